/- Contracts of functions of the program, and what they compute. Conditions: those that each theorem states. -/
import Derived.Test.YtjgllpildemkpaaProg
import Derived.Test.YtjgllpildemkpaaQ11
import Derived.Test.YtjgllpildemkpaaQ6
set_option linter.unusedVariables false
set_option linter.unusedSimpArgs false
namespace Go.Proofs.Ytjgllpildemkpaa
open Go.Av
attribute [local irreducible] Go.IntKind.wrap leastI rdZ rd rootI rawA gainsI stepB roundB potN potI askB okAw addG fitsB okMine ext extL fstL fstSet fewB candOk GAirway.sz
set_option maxRecDepth 20000
set_option maxHeartbeats 100000000

/-! The law: the fewest boosters. -/
theorem take_iotaB {ys : List Int} {n : Nat} {k : Int} (hl : n ≤ ys.length) (h : ∀ j : Nat, (j : Int) < n → ys.getD j 0 = k + j) : ys.take n = iotaI k n :=
  iota_of (by simp; omega) fun j hj => by
    rw [← h j hj]
    simp only [List.getD_eq_getElem?_getD, List.getElem?_take]
    rw [if_pos (by omega)]
--@fn laws.markInt64S
theorem markLB (xs : List Int) (n : Nat) (k : Int) (hn : n ≤ xs.length) (hk : k + n ≤ 9223372036854775807) (hk0 : 0 ≤ k) : FnSem Try.prog 53 [.osl 0 0 n, In k] [.row false .flat (eI 0) (xs.map eI)] (RetV (fun _ : List Int => [In (k + n)]) (fun ys => [.row false .flat (eI 0) (ys.map eI)]) (fun ys => n ≤ ys.length ∧ ys.take n = iotaI k n)) := by
  refine FnSem.walk (zs := zeroPV Try.prog) (by kernel_rfl) Try.func53 rfl Try.results53 (by kernel_rfl) (by kernel_rfl) (by kernel_rfl) fun hw hh => ?_
  obtain ⟨w0, w1, _⟩ := hw
  first | replace w0 := wf_LI w0 | skip
  first | replace w1 := wf_I w1 | skip
  repeat' first
    | refine And.intro rfl ?_
    | refine GdF.mk (fun h => h) ?_
    | refine And.intro (Nat.succ_ne_zero _) ?_
    | refine And.intro (Nat.le_of_ble_eq_true rfl) ?_
    | refine SeqF.run ?_
    | refine LoopF.at 2 rfl (LoopF.fix [0] (Int × Int × List Int) (fun (i, c, ys) => 0 ≤ i ∧ i ≤ n ∧ c = k + i ∧ ys.length = xs.length ∧ ∀ j : Nat, (j : Int) < i → ys.getD j 0 = k + j) (fun (i, c, ys) => [(5, In i), (1, In c)]) (fun (i, c, ys) => [(0, .row false .flat (eI 0) (ys.map eI))]) (fun (i, c, ys) => ((n - i).toNat)) ((0, k, xs)) ?_)
    | (refine LoopB.of (T := Int × Int × List Int) ?_ ?_; rotate_left; rintro ⟨i, c, ys⟩ ⟨h0, h1, h2, h3, h4⟩; rotate_left)
    | refine RetV.mk (α := List Int) _ ?_ rfl ?_
    | refine GhF.go ?_
    | refine EqP.mk _ (gm eI 0 rfl) ?_
    | refine BndF.mk (fun _ => by omega) ?_
    | refine BndF.mk (fun _ => by simp only [List.length_map, List.length_cons, List.length_nil, List.length_append, List.length_set, List.length_replicate, iotaI_len]; omega) ?_
    | refine EqI.mk _ (fun _ => wrapI (by omega) (by omega)) ?_
    | refine EqI.mk _ (fun _ => rfl) ?_
    | refine EqN.mk _ (ln eI) ?_
    | refine EqN.mk _ (Nat.zero_add _) ?_
    | refine EqN.mk _ (Int.toNat_natCast _) ?_
    | refine EqN.mk _ rfl ?_
    | refine EqL.mk _ (st eI) ?_
    | refine EqL.mk [] rfl ?_
    | refine EqL.mk [_] rfl ?_
    | refine EqL.mk _ rfl ?_
    | (refine CondF.mk (fun hb => ?_) (fun hb => ?_) <;> try simp only [forall_const, eq_self, not_true_eq_false, not_false_eq_true, or_false, false_or, or_self, or_true, true_or, and_true, true_and, and_false, false_and, decide_true, decide_false, Bool.not_true, Bool.not_false, decide_eq_true_eq, decide_eq_false_iff_not, ite_and_p, ite_or_p, Bool.decide_eq_true, Bool.and_eq_true, Bool.or_eq_true, Bool.not_eq_true', Bool.not_eq_false', Bool.and_eq_false_imp, Bool.or_eq_false_iff, bne_iff_ne, beq_iff_eq, bne_eq_false_iff_eq, beq_eq_false_iff_ne, gt_iff_lt, ge_iff_le, Int.not_lt, Int.not_le, ne_eq, Bool.true_eq_false, Bool.false_eq_true, reduceCtorEq, eta_Airway, eta_Door, eta_Fan, eta_Mine] at hb)
    | apply BackF.auto3
    | refine BackB.mk ?_ ?_
    | refine RetF.auto (And.intro rfl ?_)
    | exact Is.mk rfl rfl
    | refine Is.mk ?_ rfl
    | refine Is.mk rfl ?_
    | refine Is.mk ?_ ?_
  all_goals try dsimp only
  all_goals first
    | omega
    | exact ⟨by omega, by omega, by omega, rfl, fun j hj => absurd hj (by omega)⟩
    | (refine ⟨by omega, by omega, by omega, by simp [h3], fun j hj => ?_⟩
       rw [getD_set]
       split
       · omega
       · exact h4 j (by omega))
    | (rw [h2, show i = (n : Int) by omega])
    | exact ⟨by omega, take_iotaB (by omega) fun j hj => h4 j (by omega)⟩
    | skip
theorem c_laws_markMine (j : Int) (xs : List GAirway) (n : Nat) (k : Int) (hn : n = xs.length) (hk : k + 7 * n ≤ 1000000000000) (hk0 : 0 ≤ k) : FnSem Try.prog 75 [.aagg [In j, .osl 0 0 n], In k] [.row false .flat (GAirway.cells default) (xs.map GAirway.cells)] (RetV (fun _ : List GAirway => [In (k + 7 * n)]) (fun ys => [.row false .flat (GAirway.cells default) (ys.map GAirway.cells)]) (fun _ => True)) := by
  refine FnSem.walk (zs := zeroPV Try.prog) (by kernel_rfl) Try.func75 rfl Try.results75 (by kernel_rfl) (by kernel_rfl) (by kernel_rfl) fun hw hh => ?_
  obtain ⟨w0, w1, _⟩ := hw
  first | replace w0 := wf_Mine w0 | skip
  first | replace w1 := wf_I w1 | skip
  repeat' first
    | refine And.intro rfl ?_
    | refine GdF.mk (fun h => h) ?_
    | refine And.intro (Nat.succ_ne_zero _) ?_
    | refine And.intro (Nat.le_of_ble_eq_true rfl) ?_
    | refine SeqF.run ?_
    | (refine ArgF.ret (c_laws_markAirwayS xs n k hn hk hk0) ?_; intro ys _)
    | refine RetV.mk (α := List GAirway) _ rfl rfl trivial
    | refine GhF.go ?_
    | refine BndF.mk (fun _ => by omega) ?_
    | refine BndF.mk (fun _ => by simp only [List.length_map, List.length_cons, List.length_nil, List.length_append, List.length_set, List.length_replicate, iotaI_len]; omega) ?_
    | refine EqL.mk _ (tk GAirway.cells (by first | rfl | assumption | omega | (simp only [List.length_map, List.length_cons, List.length_nil, List.length_append, List.length_set, List.length_replicate, iotaI_len]; done) | (simp only [List.length_map, List.length_cons, List.length_nil, List.length_append, List.length_set, List.length_replicate, iotaI_len]; omega))) ?_
    | refine EqL.mk [] rfl ?_
    | refine EqL.mk [_] rfl ?_
    | refine EqL.mk _ rfl ?_
    | refine ArgF.is (c_laws_markAirwayS _ _ _ (by first | assumption | omega) (by first | assumption | omega) (by first | assumption | omega)) ?_
    | refine ArgQ.is (fun hG => c_laws_markAirwayS _ _ _ (by first | assumption | omega) (by first | assumption | omega) (by first | assumption | omega)) rfl rfl ?_
    | refine CallF.own (f := 181) [0] true ?_
    | refine CallF.mk (CallW.is [] true rfl ?_)
    | refine CallG.mk ?_
    | (refine CondF.mk (fun hb => ?_) (fun hb => ?_) <;> try simp only [forall_const, eq_self, not_true_eq_false, not_false_eq_true, or_false, false_or, or_self, or_true, true_or, and_true, true_and, and_false, false_and, decide_true, decide_false, Bool.not_true, Bool.not_false, decide_eq_true_eq, decide_eq_false_iff_not, ite_and_p, ite_or_p, Bool.decide_eq_true, Bool.and_eq_true, Bool.or_eq_true, Bool.not_eq_true', Bool.not_eq_false', Bool.and_eq_false_imp, Bool.or_eq_false_iff, bne_iff_ne, beq_iff_eq, bne_eq_false_iff_eq, beq_eq_false_iff_ne, gt_iff_lt, ge_iff_le, Int.not_lt, Int.not_le, ne_eq, Bool.true_eq_false, Bool.false_eq_true, reduceCtorEq, eta_Airway, eta_Door, eta_Fan, eta_Mine] at hb)
    | refine RetF.auto (And.intro rfl ?_)
    | exact Is.mk rfl rfl
    | refine Is.mk ?_ rfl
    | refine Is.mk rfl ?_
    | refine Is.mk ?_ ?_
theorem specFew (m : GMine) (ds ps : List Int) (rg : List Bool) (cs : List Int) (d b : Int) : FnSem Try.prog 76 [.p .any (.agg m.cells), Lx (LI ds), Lx (LI ps), Lx (LB rg), Lx (LI cs), In d, In b] [] (Is [.osl 0 0 (fewB m ds ps rg cs d b).1.length, In (fewB m ds ps rg cs d b).2] [.row false .flat (eI 0) ((fewB m ds ps rg cs d b).1.map eI)]) :=
  (c_spec_FewestBoosters m ds ps rg cs d b).mono fun rs ho h => by
    obtain ⟨v, rfl, rfl, h1, h2⟩ := h
    rw [h1, h2]
    exact Is.mk rfl rfl
inductive SetR (r : List Int × Int) (rs : List AV) (ho : List OB) : Prop
  | mk (n : Nat) (ys : List Int) (c : Int) (h1 : rs = [.osl 0 0 n, In c]) (h2 : ho = [.row false .flat (eI 0) (ys.map eI)]) (h3 : n ≤ ys.length) (h4 : r = (ys.take n, c))
theorem ArgF.set {r : List Int × Int} {k : Nat} {Pr : Program} [Kn Pr] {f : FuncId} {args : List AV} {hin : List OB} {K : List AV → List OB → Prop} (h : FnSem Pr f args hin (SetR r))
    (hk : ∀ (n : Nat) (ys : List Int) (c : Int), n ≤ ys.length → r = (ys.take n, c) → K [.osl 0 0 n, In c] [.row false .flat (eI 0) (ys.map eI)]) : ArgF k Pr f args hin K :=
  ⟨_, h, fun rs ho hR _ => by obtain ⟨n, ys, c, rfl, rfl, h3, h4⟩ := hR; exact hk n ys c h3 h4⟩
theorem implFew (m : GMine) (ds ps : List Int) (rg : List Bool) (cs : List Int) (d b : Int) : FnSem Try.prog 68 [.p .any (.agg m.cells), Lx (LI ds), Lx (LI ps), Lx (LB rg), Lx (LI cs), In d, In b] [] (SetR (fewB m ds ps rg cs d b)) :=
  (c_impl_FewestBoosters m ds ps rg cs d b).mono fun rs ho h => by
    obtain ⟨⟨n, ys, c⟩, rfl, rfl, h1, h2⟩ := h
    exact ⟨n, ys, c, rfl, rfl, h1, h2.symm⟩
theorem few_len {m : GMine} {ds ps : List Int} {rg : List Bool} {cs : List Int} {d b : Int} {n : Nat} {ys : List Int} {c : Int} (h : fewB m ds ps rg cs d b = (ys.take n, c)) (hn : n ≤ ys.length) : (fewB m ds ps rg cs d b).1.length = n := by rw [h]; simp; omega
theorem few_b {m : GMine} {ds ps : List Int} {rg : List Bool} {cs : List Int} {d b : Int} : (fewB m ds ps rg cs d b).1.length ≤ 30 := by
  by_cases h : askB m ds ps rg = 0
  · by_cases h2 : candOk m cs d b = true
    · rw [fewB_0 h h2]
      have h3 := cand_b h2
      have h4 := askB_l h
      unfold fstSet
      have := fstL_lenB (L := cs) (right := fun s => fitsB m (gainsI ps ds) rg s d) (cs.length + 1) 0 b
      omega
    · rw [fewB_2 h (by simpa using h2)]; simp
  · rw [fewB_c h]; simp
theorem c_laws_FnExactFewestBoosters (m : GMine) (ds ps : List Int) (rg : List Bool) (cs : List Int) (d b : Int) : FnSem Try.prog 12 [.p .any (.agg m.cells), Lx (LI ds), Lx (LI ps), Lx (LB rg), Lx (LI cs), In d, In b] [] (Is [Bo true] []) := by
  have hz := szR_le (n := 1048576) (t := m.airways.length + (m.airways.map GAirway.sz).sum)
  have hb0 := few_b (m := m) (ds := ds) (ps := ps) (rg := rg) (cs := cs) (d := d) (b := b)
  refine FnSem.walk (zs := zeroPV Try.prog) (by kernel_rfl) Try.func12 rfl Try.results12 (by kernel_rfl) (by kernel_rfl) (by kernel_rfl) fun hw hh => ?_
  obtain ⟨w0, w1, w2, w3, w4, w5, w6, _⟩ := hw
  first | replace w0 := wf_Mine w0 | skip
  first | replace w1 := wf_LI w1 | skip
  first | replace w2 := wf_LI w2 | skip
  first | replace w3 := wf_I w3 | replace w3 := wf_Y w3 | replace w3 := wf_S w3 | replace w3 := wf_LI w3 | replace w3 := wf_LY w3 | replace w3 := wf_LLI w3 | replace w3 := wf_Ls w3 | skip
  first | replace w4 := wf_LI w4 | skip
  first | replace w5 := wf_I w5 | skip
  first | replace w6 := wf_I w6 | skip
  repeat' first
    | refine And.intro rfl ?_
    | refine GdF.mk (fun h => h) ?_
    | refine And.intro (Nat.succ_ne_zero _) ?_
    | refine And.intro (Nat.le_of_ble_eq_true rfl) ?_
    | refine SeqF.run ?_
    | refine OpH.heap ?_
    | refine GhF.held 22 rfl [(2, []), (3, [7])] ?_
    | refine EqL.mk _ (tk GAirway.cells rfl) ?_
    | refine ArgF.is (c_laws_eqMine m m) ?_
    | refine ArgQ.is (fun hG => c_laws_eqMine m m) rfl rfl ?_
    | refine CallF.mk (f := 75) (CallW.is [7] true rfl ?_)
    | refine ArgF.is (specFew m ds ps rg cs d b) ?_
    | refine ArgQ.is (fun hG => specFew m ds ps rg cs d b) rfl rfl ?_
    | refine ArgF.is (c_laws_toMine m (by have := hz (by assumption); omega)) ?_
    | refine ArgQ.is (fun hG => c_laws_toMine m (by have := hz (by assumption); omega)) rfl rfl ?_
    | (refine ArgF.set (implFew m ds ps rg cs d b) ?_; intro n ys c q1 q2; have q3 := few_len q2 q1)
    | (refine ArgF.ret (c_laws_markMine m.junctions m.airways m.airways.length _ rfl (by have := hz (by assumption); omega) (by have := hz (by assumption); omega)) ?_; rintro us _)
    | (refine ArgF.ret (markLB ds ds.length _ (Nat.le_refl _) (by have := hz (by assumption); omega) (by have := hz (by assumption); omega)) ?_; rintro zs1 _)
    | (refine ArgF.ret (markLB ps ps.length _ (Nat.le_refl _) (by have := hz (by assumption); omega) (by have := hz (by assumption); omega)) ?_; rintro zs2 _)
    | (refine ArgF.ret (c_laws_markBoolS rg rg.length _ rfl (by have := hz (by assumption); omega) (by have := hz (by assumption); omega)) ?_; rintro bs _)
    | (refine ArgF.ret (markLB cs cs.length _ (Nat.le_refl _) (by have := hz (by assumption); omega) (by have := hz (by assumption); omega)) ?_; rintro zs3 _)
    | (refine ArgF.ret (markLB ys n 1 q1 (by have := hz (by assumption); omega) (by have := hz (by assumption); omega)) ?_; rintro zs ⟨q4, q5⟩)
    | refine EqL.mk _ (tkT q5) ?_
    | refine EqL.mk _ (tkT (ys := ys) (n := n) rfl) ?_
    | refine HdF.at 4 rfl 0 [3, 4] (And.intro (by decide +kernel) (And.intro rfl ?_))
    | refine HdF.at 3 rfl 1 [2, 3, 4] (And.intro (by decide +kernel) (And.intro rfl ?_))
    | refine HdF.goAt 2 rfl ?_
    | refine OrdL.ord ?_
    | refine OrdF.take 4 (by decide +kernel) (And.intro rfl ?_)
    | refine OrdF.all [3] (by decide +kernel) ?_
    | refine OrdF.all [2] (by decide +kernel) ?_
    | refine OrdF.fin (by decide +kernel) ?_
    | refine AllF.one _ ?_
    | refine AllF.cons _ _ ?_ ?_
    | refine OpH.quiet rfl ?_
    | refine OpH.heap ?_
    | refine GhF.go ?_
    | refine GdS.keep ?_
    | refine DrawG.old (DrawF.lex (by decide +kernel) ?_)
    | refine BndF.mk (fun _ => by omega) ?_
    | refine BndF.mk (fun _ => by simp only [List.length_map, List.length_cons, List.length_nil, List.length_append, List.length_set, List.length_replicate, iotaI_len]; omega) ?_
    | refine BndF.mk (fun hG => by simp only [forall_const, eq_self, not_true_eq_false, not_false_eq_true, or_false, false_or, or_self, or_true, true_or, and_true, true_and, and_false, false_and, decide_true, decide_false, Bool.not_true, Bool.not_false, decide_eq_true_eq, decide_eq_false_iff_not, ite_and_p, ite_or_p, Bool.decide_eq_true, Bool.and_eq_true, Bool.or_eq_true, Bool.not_eq_true', Bool.not_eq_false', Bool.and_eq_false_imp, Bool.or_eq_false_iff, bne_iff_ne, beq_iff_eq, bne_eq_false_iff_eq, beq_eq_false_iff_ne, gt_iff_lt, ge_iff_le, Int.not_lt, Int.not_le, ne_eq, Bool.true_eq_false, Bool.false_eq_true, reduceCtorEq, eta_Airway, eta_Door, eta_Fan, eta_Mine, bytes_nil] at hG; (try simp only [List.length_map]); omega) ?_
    | refine EqN.mk _ (ln eB) ?_
    | refine EqN.mk _ (ln eI) ?_
    | refine EqL.mk _ (tk eB (by first | rfl | assumption | omega | (simp only [List.length_map, List.length_cons, List.length_nil, List.length_append, List.length_set, List.length_replicate, iotaI_len]; done) | (simp only [List.length_map, List.length_cons, List.length_nil, List.length_append, List.length_set, List.length_replicate, iotaI_len]; omega))) ?_
    | refine EqL.mk _ (st eB) ?_
    | refine EqL.mk _ (tk eI (by first | rfl | assumption | omega | (simp only [List.length_map, List.length_cons, List.length_nil, List.length_append, List.length_set, List.length_replicate, iotaI_len]; done) | (simp only [List.length_map, List.length_cons, List.length_nil, List.length_append, List.length_set, List.length_replicate, iotaI_len]; omega))) ?_
    | refine EqL.mk _ (st eI) ?_
    | refine EqL.mk [] rfl ?_
    | refine EqL.mk [_] rfl ?_
    | refine EqL.mk _ rfl ?_
    | refine ArgF.is (c_laws_szMine ⟨_, _⟩ _ (by first | assumption | omega)) ?_
    | refine ArgQ.is (fun hG => c_laws_szMine ⟨_, _⟩ _ (by first | assumption | omega)) rfl rfl ?_
    | refine ArgQ.is (fun hG => c_laws_szMine ⟨_, _⟩ _ (by simp only [forall_const, eq_self, not_true_eq_false, not_false_eq_true, or_false, false_or, or_self, or_true, true_or, and_true, true_and, and_false, false_and, decide_true, decide_false, Bool.not_true, Bool.not_false, decide_eq_true_eq, decide_eq_false_iff_not, ite_and_p, ite_or_p, Bool.decide_eq_true, Bool.and_eq_true, Bool.or_eq_true, Bool.not_eq_true', Bool.not_eq_false', Bool.and_eq_false_imp, Bool.or_eq_false_iff, bne_iff_ne, beq_iff_eq, bne_eq_false_iff_eq, beq_eq_false_iff_ne, gt_iff_lt, ge_iff_le, Int.not_lt, Int.not_le, ne_eq, Bool.true_eq_false, Bool.false_eq_true, reduceCtorEq, eta_Airway, eta_Door, eta_Fan, eta_Mine, bytes_nil] at hG; omega)) rfl rfl ?_
    | refine ArgF.is (c_laws_toMine ⟨_, _⟩ (by first | assumption | omega)) ?_
    | refine ArgQ.is (fun hG => c_laws_toMine ⟨_, _⟩ (by first | assumption | omega)) rfl rfl ?_
    | refine ArgQ.is (fun hG => c_laws_toMine ⟨_, _⟩ (by simp only [forall_const, eq_self, not_true_eq_false, not_false_eq_true, or_false, false_or, or_self, or_true, true_or, and_true, true_and, and_false, false_and, decide_true, decide_false, Bool.not_true, Bool.not_false, decide_eq_true_eq, decide_eq_false_iff_not, ite_and_p, ite_or_p, Bool.decide_eq_true, Bool.and_eq_true, Bool.or_eq_true, Bool.not_eq_true', Bool.not_eq_false', Bool.and_eq_false_imp, Bool.or_eq_false_iff, bne_iff_ne, beq_iff_eq, bne_eq_false_iff_eq, beq_eq_false_iff_ne, gt_iff_lt, ge_iff_le, Int.not_lt, Int.not_le, ne_eq, Bool.true_eq_false, Bool.false_eq_true, reduceCtorEq, eta_Airway, eta_Door, eta_Fan, eta_Mine, bytes_nil] at hG; omega)) rfl rfl ?_
    | refine ArgF.is (c_laws_toInt64S _ (by first | assumption | omega)) ?_
    | refine ArgQ.is (fun hG => c_laws_toInt64S _ (by first | assumption | omega)) rfl rfl ?_
    | refine ArgQ.is (fun hG => c_laws_toInt64S _ (by simp only [forall_const, eq_self, not_true_eq_false, not_false_eq_true, or_false, false_or, or_self, or_true, true_or, and_true, true_and, and_false, false_and, decide_true, decide_false, Bool.not_true, Bool.not_false, decide_eq_true_eq, decide_eq_false_iff_not, ite_and_p, ite_or_p, Bool.decide_eq_true, Bool.and_eq_true, Bool.or_eq_true, Bool.not_eq_true', Bool.not_eq_false', Bool.and_eq_false_imp, Bool.or_eq_false_iff, bne_iff_ne, beq_iff_eq, bne_eq_false_iff_eq, beq_eq_false_iff_ne, gt_iff_lt, ge_iff_le, Int.not_lt, Int.not_le, ne_eq, Bool.true_eq_false, Bool.false_eq_true, reduceCtorEq, eta_Airway, eta_Door, eta_Fan, eta_Mine, bytes_nil] at hG; omega)) rfl rfl ?_
    | refine ArgF.is (c_laws_toBoolS _ (by first | assumption | omega)) ?_
    | refine ArgQ.is (fun hG => c_laws_toBoolS _ (by first | assumption | omega)) rfl rfl ?_
    | refine ArgQ.is (fun hG => c_laws_toBoolS _ (by simp only [forall_const, eq_self, not_true_eq_false, not_false_eq_true, or_false, false_or, or_self, or_true, true_or, and_true, true_and, and_false, false_and, decide_true, decide_false, Bool.not_true, Bool.not_false, decide_eq_true_eq, decide_eq_false_iff_not, ite_and_p, ite_or_p, Bool.decide_eq_true, Bool.and_eq_true, Bool.or_eq_true, Bool.not_eq_true', Bool.not_eq_false', Bool.and_eq_false_imp, Bool.or_eq_false_iff, bne_iff_ne, beq_iff_eq, bne_eq_false_iff_eq, beq_eq_false_iff_ne, gt_iff_lt, ge_iff_le, Int.not_lt, Int.not_le, ne_eq, Bool.true_eq_false, Bool.false_eq_true, reduceCtorEq, eta_Airway, eta_Door, eta_Fan, eta_Mine, bytes_nil] at hG; omega)) rfl rfl ?_
    | refine ArgF.is (c_spec_FewestBoosters ⟨_, _⟩ _ _ _ _ _ _) ?_
    | refine ArgQ.is (fun hG => c_spec_FewestBoosters ⟨_, _⟩ _ _ _ _ _ _) rfl rfl ?_
    | refine ArgF.is (c_impl_FewestBoosters ⟨_, _⟩ _ _ _ _ _ _) ?_
    | refine ArgQ.is (fun hG => c_impl_FewestBoosters ⟨_, _⟩ _ _ _ _ _ _) rfl rfl ?_
    | refine ArgF.is (c_laws_eqInt64S ..) ?_
    | refine ArgQ.is (fun hG => c_laws_eqInt64S ..) rfl rfl ?_
    | refine ArgF.is (c_laws_eqMine ⟨_, _⟩ ⟨_, _⟩) ?_
    | refine ArgQ.is (fun hG => c_laws_eqMine ⟨_, _⟩ ⟨_, _⟩) rfl rfl ?_
    | refine ArgF.is (c_laws_eqBoolS ..) ?_
    | refine ArgQ.is (fun hG => c_laws_eqBoolS ..) rfl rfl ?_
    | refine ArgF.is (c_laws_markMine _ _ _ _ (by first | assumption | omega) (by first | assumption | omega) (by first | assumption | omega)) ?_
    | refine ArgQ.is (fun hG => c_laws_markMine _ _ _ _ (by first | assumption | omega) (by first | assumption | omega) (by first | assumption | omega)) rfl rfl ?_
    | refine ArgQ.is (fun hG => c_laws_markMine _ _ _ _ (by simp only [forall_const, eq_self, not_true_eq_false, not_false_eq_true, or_false, false_or, or_self, or_true, true_or, and_true, true_and, and_false, false_and, decide_true, decide_false, Bool.not_true, Bool.not_false, decide_eq_true_eq, decide_eq_false_iff_not, ite_and_p, ite_or_p, Bool.decide_eq_true, Bool.and_eq_true, Bool.or_eq_true, Bool.not_eq_true', Bool.not_eq_false', Bool.and_eq_false_imp, Bool.or_eq_false_iff, bne_iff_ne, beq_iff_eq, bne_eq_false_iff_eq, beq_eq_false_iff_ne, gt_iff_lt, ge_iff_le, Int.not_lt, Int.not_le, ne_eq, Bool.true_eq_false, Bool.false_eq_true, reduceCtorEq, eta_Airway, eta_Door, eta_Fan, eta_Mine, bytes_nil] at hG; omega) (by simp only [forall_const, eq_self, not_true_eq_false, not_false_eq_true, or_false, false_or, or_self, or_true, true_or, and_true, true_and, and_false, false_and, decide_true, decide_false, Bool.not_true, Bool.not_false, decide_eq_true_eq, decide_eq_false_iff_not, ite_and_p, ite_or_p, Bool.decide_eq_true, Bool.and_eq_true, Bool.or_eq_true, Bool.not_eq_true', Bool.not_eq_false', Bool.and_eq_false_imp, Bool.or_eq_false_iff, bne_iff_ne, beq_iff_eq, bne_eq_false_iff_eq, beq_eq_false_iff_ne, gt_iff_lt, ge_iff_le, Int.not_lt, Int.not_le, ne_eq, Bool.true_eq_false, Bool.false_eq_true, reduceCtorEq, eta_Airway, eta_Door, eta_Fan, eta_Mine, bytes_nil] at hG; omega) (by simp only [forall_const, eq_self, not_true_eq_false, not_false_eq_true, or_false, false_or, or_self, or_true, true_or, and_true, true_and, and_false, false_and, decide_true, decide_false, Bool.not_true, Bool.not_false, decide_eq_true_eq, decide_eq_false_iff_not, ite_and_p, ite_or_p, Bool.decide_eq_true, Bool.and_eq_true, Bool.or_eq_true, Bool.not_eq_true', Bool.not_eq_false', Bool.and_eq_false_imp, Bool.or_eq_false_iff, bne_iff_ne, beq_iff_eq, bne_eq_false_iff_eq, beq_eq_false_iff_ne, gt_iff_lt, ge_iff_le, Int.not_lt, Int.not_le, ne_eq, Bool.true_eq_false, Bool.false_eq_true, reduceCtorEq, eta_Airway, eta_Door, eta_Fan, eta_Mine, bytes_nil] at hG; omega)) rfl rfl ?_
    | refine ArgF.is (c_laws_markInt64S _ _ _ (by first | assumption | omega) (by first | assumption | omega) (by first | assumption | omega)) ?_
    | refine ArgQ.is (fun hG => c_laws_markInt64S _ _ _ (by first | assumption | omega) (by first | assumption | omega) (by first | assumption | omega)) rfl rfl ?_
    | refine ArgQ.is (fun hG => c_laws_markInt64S _ _ _ (by simp only [forall_const, eq_self, not_true_eq_false, not_false_eq_true, or_false, false_or, or_self, or_true, true_or, and_true, true_and, and_false, false_and, decide_true, decide_false, Bool.not_true, Bool.not_false, decide_eq_true_eq, decide_eq_false_iff_not, ite_and_p, ite_or_p, Bool.decide_eq_true, Bool.and_eq_true, Bool.or_eq_true, Bool.not_eq_true', Bool.not_eq_false', Bool.and_eq_false_imp, Bool.or_eq_false_iff, bne_iff_ne, beq_iff_eq, bne_eq_false_iff_eq, beq_eq_false_iff_ne, gt_iff_lt, ge_iff_le, Int.not_lt, Int.not_le, ne_eq, Bool.true_eq_false, Bool.false_eq_true, reduceCtorEq, eta_Airway, eta_Door, eta_Fan, eta_Mine, bytes_nil] at hG; omega) (by simp only [forall_const, eq_self, not_true_eq_false, not_false_eq_true, or_false, false_or, or_self, or_true, true_or, and_true, true_and, and_false, false_and, decide_true, decide_false, Bool.not_true, Bool.not_false, decide_eq_true_eq, decide_eq_false_iff_not, ite_and_p, ite_or_p, Bool.decide_eq_true, Bool.and_eq_true, Bool.or_eq_true, Bool.not_eq_true', Bool.not_eq_false', Bool.and_eq_false_imp, Bool.or_eq_false_iff, bne_iff_ne, beq_iff_eq, bne_eq_false_iff_eq, beq_eq_false_iff_ne, gt_iff_lt, ge_iff_le, Int.not_lt, Int.not_le, ne_eq, Bool.true_eq_false, Bool.false_eq_true, reduceCtorEq, eta_Airway, eta_Door, eta_Fan, eta_Mine, bytes_nil] at hG; omega) (by simp only [forall_const, eq_self, not_true_eq_false, not_false_eq_true, or_false, false_or, or_self, or_true, true_or, and_true, true_and, and_false, false_and, decide_true, decide_false, Bool.not_true, Bool.not_false, decide_eq_true_eq, decide_eq_false_iff_not, ite_and_p, ite_or_p, Bool.decide_eq_true, Bool.and_eq_true, Bool.or_eq_true, Bool.not_eq_true', Bool.not_eq_false', Bool.and_eq_false_imp, Bool.or_eq_false_iff, bne_iff_ne, beq_iff_eq, bne_eq_false_iff_eq, beq_eq_false_iff_ne, gt_iff_lt, ge_iff_le, Int.not_lt, Int.not_le, ne_eq, Bool.true_eq_false, Bool.false_eq_true, reduceCtorEq, eta_Airway, eta_Door, eta_Fan, eta_Mine, bytes_nil] at hG; omega)) rfl rfl ?_
    | refine ArgF.is (c_laws_markBoolS _ _ _ (by first | assumption | omega) (by first | assumption | omega) (by first | assumption | omega)) ?_
    | refine ArgQ.is (fun hG => c_laws_markBoolS _ _ _ (by first | assumption | omega) (by first | assumption | omega) (by first | assumption | omega)) rfl rfl ?_
    | refine ArgQ.is (fun hG => c_laws_markBoolS _ _ _ (by simp only [forall_const, eq_self, not_true_eq_false, not_false_eq_true, or_false, false_or, or_self, or_true, true_or, and_true, true_and, and_false, false_and, decide_true, decide_false, Bool.not_true, Bool.not_false, decide_eq_true_eq, decide_eq_false_iff_not, ite_and_p, ite_or_p, Bool.decide_eq_true, Bool.and_eq_true, Bool.or_eq_true, Bool.not_eq_true', Bool.not_eq_false', Bool.and_eq_false_imp, Bool.or_eq_false_iff, bne_iff_ne, beq_iff_eq, bne_eq_false_iff_eq, beq_eq_false_iff_ne, gt_iff_lt, ge_iff_le, Int.not_lt, Int.not_le, ne_eq, Bool.true_eq_false, Bool.false_eq_true, reduceCtorEq, eta_Airway, eta_Door, eta_Fan, eta_Mine, bytes_nil] at hG; omega) (by simp only [forall_const, eq_self, not_true_eq_false, not_false_eq_true, or_false, false_or, or_self, or_true, true_or, and_true, true_and, and_false, false_and, decide_true, decide_false, Bool.not_true, Bool.not_false, decide_eq_true_eq, decide_eq_false_iff_not, ite_and_p, ite_or_p, Bool.decide_eq_true, Bool.and_eq_true, Bool.or_eq_true, Bool.not_eq_true', Bool.not_eq_false', Bool.and_eq_false_imp, Bool.or_eq_false_iff, bne_iff_ne, beq_iff_eq, bne_eq_false_iff_eq, beq_eq_false_iff_ne, gt_iff_lt, ge_iff_le, Int.not_lt, Int.not_le, ne_eq, Bool.true_eq_false, Bool.false_eq_true, reduceCtorEq, eta_Airway, eta_Door, eta_Fan, eta_Mine, bytes_nil] at hG; omega) (by simp only [forall_const, eq_self, not_true_eq_false, not_false_eq_true, or_false, false_or, or_self, or_true, true_or, and_true, true_and, and_false, false_and, decide_true, decide_false, Bool.not_true, Bool.not_false, decide_eq_true_eq, decide_eq_false_iff_not, ite_and_p, ite_or_p, Bool.decide_eq_true, Bool.and_eq_true, Bool.or_eq_true, Bool.not_eq_true', Bool.not_eq_false', Bool.and_eq_false_imp, Bool.or_eq_false_iff, bne_iff_ne, beq_iff_eq, bne_eq_false_iff_eq, beq_eq_false_iff_ne, gt_iff_lt, ge_iff_le, Int.not_lt, Int.not_le, ne_eq, Bool.true_eq_false, Bool.false_eq_true, reduceCtorEq, eta_Airway, eta_Door, eta_Fan, eta_Mine, bytes_nil] at hG; omega)) rfl rfl ?_
    | refine ArgF.is (c_laws_heldInt64S _ _ (by first | assumption | omega) (by first | assumption | omega)) ?_
    | refine ArgQ.is (fun hG => c_laws_heldInt64S _ _ (by first | assumption | omega) (by first | assumption | omega)) rfl rfl ?_
    | refine ArgQ.is (fun hG => c_laws_heldInt64S _ _ (by simp only [forall_const, eq_self, not_true_eq_false, not_false_eq_true, or_false, false_or, or_self, or_true, true_or, and_true, true_and, and_false, false_and, decide_true, decide_false, Bool.not_true, Bool.not_false, decide_eq_true_eq, decide_eq_false_iff_not, ite_and_p, ite_or_p, Bool.decide_eq_true, Bool.and_eq_true, Bool.or_eq_true, Bool.not_eq_true', Bool.not_eq_false', Bool.and_eq_false_imp, Bool.or_eq_false_iff, bne_iff_ne, beq_iff_eq, bne_eq_false_iff_eq, beq_eq_false_iff_ne, gt_iff_lt, ge_iff_le, Int.not_lt, Int.not_le, ne_eq, Bool.true_eq_false, Bool.false_eq_true, reduceCtorEq, eta_Airway, eta_Door, eta_Fan, eta_Mine, bytes_nil] at hG; omega) (by simp only [forall_const, eq_self, not_true_eq_false, not_false_eq_true, or_false, false_or, or_self, or_true, true_or, and_true, true_and, and_false, false_and, decide_true, decide_false, Bool.not_true, Bool.not_false, decide_eq_true_eq, decide_eq_false_iff_not, ite_and_p, ite_or_p, Bool.decide_eq_true, Bool.and_eq_true, Bool.or_eq_true, Bool.not_eq_true', Bool.not_eq_false', Bool.and_eq_false_imp, Bool.or_eq_false_iff, bne_iff_ne, beq_iff_eq, bne_eq_false_iff_eq, beq_eq_false_iff_ne, gt_iff_lt, ge_iff_le, Int.not_lt, Int.not_le, ne_eq, Bool.true_eq_false, Bool.false_eq_true, reduceCtorEq, eta_Airway, eta_Door, eta_Fan, eta_Mine, bytes_nil] at hG; omega)) rfl rfl ?_
    | refine CallF.own (f := 52) [0] true ?_
    | refine CallF.own (f := 53) [0] true ?_
    | refine CallF.own (f := 75) [] true ?_
    | refine CallF.mk (CallW.is [] true rfl ?_)
    | refine CallG.mk ?_
    | (refine CondF.mk (fun hb => ?_) (fun hb => ?_) <;> try simp only [forall_const, eq_self, not_true_eq_false, not_false_eq_true, or_false, false_or, or_self, or_true, true_or, and_true, true_and, and_false, false_and, decide_true, decide_false, Bool.not_true, Bool.not_false, decide_eq_true_eq, decide_eq_false_iff_not, ite_and_p, ite_or_p, Bool.decide_eq_true, Bool.and_eq_true, Bool.or_eq_true, Bool.not_eq_true', Bool.not_eq_false', Bool.and_eq_false_imp, Bool.or_eq_false_iff, bne_iff_ne, beq_iff_eq, bne_eq_false_iff_eq, beq_eq_false_iff_ne, gt_iff_lt, ge_iff_le, Int.not_lt, Int.not_le, ne_eq, Bool.true_eq_false, Bool.false_eq_true, reduceCtorEq, eta_Airway, eta_Door, eta_Fan, eta_Mine] at hb)
    | refine RetF.auto (And.intro rfl ?_)
    | exact Is.mk rfl rfl
    | refine Is.mk ?_ rfl
    | refine Is.mk rfl ?_
    | refine Is.mk ?_ ?_
  all_goals
    first
    | omega
    | (exfalso; omega)
    | (exfalso; rename_i hq; rw [q2] at hq; simp at hq; done)
    | (exfalso; rcases hb with (h | h) | h <;> first | omega | (rw [q2] at h; exact h rfl))
    | (exfalso; simp only [q2] at *; simp_all; done)
    | skip
end Go.Proofs.Ytjgllpildemkpaa
