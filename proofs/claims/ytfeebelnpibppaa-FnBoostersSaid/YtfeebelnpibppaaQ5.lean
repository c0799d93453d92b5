/- Contracts of functions of the program, and what they compute. Conditions: those that each theorem states. -/
import Derived.Test.YtfeebelnpibppaaProg
import Derived.Test.YtfeebelnpibppaaQ4
import Derived.Test.YtfeebelnpibppaaE2c2
import Derived.Test.YtfeebelnpibppaaD6
import Derived.Test.YtfeebelnpibppaaK6
set_option linter.unusedVariables false
set_option linter.unusedSimpArgs false
namespace Go.Proofs.Ytfeebelnpibppaa
open Go.Av
attribute [local irreducible] Go.IntKind.wrap leastI rdZ rd rootI rawA okMine gainsI stepB roundB potN potI binI askB addG fitsB ext extL fstL fstSet
set_option maxRecDepth 20000
set_option maxHeartbeats 8000000

/-! The least push; the fewest boosters: the functions. -/
theorem fits_of (m : GMine) (ds ps : List Int) (rg : List Bool) (h : askB m ds ps rg = 0) (xs : List Int) (d : Int) (hx : ∀ j : Nat, (j : Int) < xs.length → 0 ≤ xs.getD j 0 ∧ xs.getD j 0 < m.airways.length) (hl : xs.length ≤ 24) (hd : 0 ≤ d ∧ d ≤ 20000) : FnSem Try.prog 142 [.p .any (.agg (boostC m (gainsI ps ds) rg)), Lx (LI xs), In d] [] (Is [Bo (fitsB m (gainsI ps ds) rg xs d)] []) := by
  have q := askB_l h
  exact c_impl_booster_fits m (gainsI ps ds) rg xs d q.1 (by rw [gainsI_len]; exact q.2.2.2.1) q.2.2.2.2.1 (gainsI_bd q.2.2.2.2.2.1 q.2.2.2.2.2.2) hx hl hd
theorem c_impl_LeastPush_1 (m : GMine) (ds ps : List Int) (rg : List Bool) (a n : Int) (h : askB m ds ps rg = 0) (ha : 0 ≤ a ∧ a < m.airways.length) (hn : 0 ≤ n ∧ n ≤ 20000) : FnSem Try.prog 141 [In n, .p .any (.ref (boostC m (gainsI ps ds) rg)), .p .any (.ref [.c (.int .i64 a)])] [] (Is [Bo (fitsB m (gainsI ps ds) rg [a] n)] []) := by
  refine FnSem.walk (zs := zeroPV Try.prog) (by kernel_rfl) Try.func141 rfl Try.results141 (by kernel_rfl) (by kernel_rfl) (by kernel_rfl) fun hw hh => ?_
  obtain ⟨w0, w1, w2, _⟩ := hw
  first | replace w0 := wf_I w0 | skip
  first | replace w1 := wf_I w1 | replace w1 := wf_Y w1 | replace w1 := wf_S w1 | replace w1 := wf_LI w1 | replace w1 := wf_LY w1 | replace w1 := wf_LLI w1 | replace w1 := wf_Ls w1 | skip
  first | replace w2 := wf_I w2 | replace w2 := wf_Y w2 | replace w2 := wf_S w2 | replace w2 := wf_LI w2 | replace w2 := wf_LY w2 | replace w2 := wf_LLI w2 | replace w2 := wf_Ls w2 | skip
  repeat' first
    | refine And.intro rfl ?_
    | refine GdF.mk (fun h => h) ?_
    | refine And.intro (Nat.succ_ne_zero _) ?_
    | refine And.intro (Nat.le_of_ble_eq_true rfl) ?_
    | refine SeqF.run ?_
    | refine ArgF.is (fits_of m ds ps rg h [a] n (fun j hj => by simp at hj; rw [show j = 0 by omega]; exact ha) (by simp) hn) ?_
    | refine ArgQ.is (fun hG => fits_of m ds ps rg h [a] n (fun j hj => by simp at hj; rw [show j = 0 by omega]; exact ha) (by simp) hn) rfl rfl ?_
    | refine GhF.go ?_
    | refine MkF.row ?_
    | refine BndF.mk (fun _ => by omega) ?_
    | refine BndF.mk (fun _ => by simp only [List.length_map, List.length_cons, List.length_nil, List.length_append, List.length_set, List.length_replicate, iotaI_len]; omega) ?_
    | refine EqL.mk _ (tk eI (by first | rfl | assumption | omega | (simp only [List.length_map, List.length_cons, List.length_nil, List.length_append, List.length_set, List.length_replicate, iotaI_len]; done) | (simp only [List.length_map, List.length_cons, List.length_nil, List.length_append, List.length_set, List.length_replicate, iotaI_len]; omega))) ?_
    | refine EqL.mk [] rfl ?_
    | refine EqL.mk [_] rfl ?_
    | refine EqL.mk _ rfl ?_
    | refine ArgF.is (c_impl_booster_fits ⟨_, _⟩ _ _ _ _ (by first | assumption | omega) (by first | assumption | omega) (by first | assumption | omega) (by first | assumption | omega) (by first | assumption | omega) (by first | assumption | omega) (by first | assumption | omega)) ?_
    | refine ArgQ.is (fun hG => c_impl_booster_fits ⟨_, _⟩ _ _ _ _ (by first | assumption | omega) (by first | assumption | omega) (by first | assumption | omega) (by first | assumption | omega) (by first | assumption | omega) (by first | assumption | omega) (by first | assumption | omega)) rfl rfl ?_
    | refine CallF.mk (CallW.is [] true rfl ?_)
    | refine CallG.mk ?_
    | (refine CondF.mk (fun hb => ?_) (fun hb => ?_) <;> try simp only [forall_const, eq_self, not_true_eq_false, not_false_eq_true, or_false, false_or, or_self, or_true, true_or, and_true, true_and, and_false, false_and, decide_true, decide_false, Bool.not_true, Bool.not_false, decide_eq_true_eq, decide_eq_false_iff_not, ite_and_p, ite_or_p, Bool.decide_eq_true, Bool.and_eq_true, Bool.or_eq_true, Bool.not_eq_true', Bool.not_eq_false', Bool.and_eq_false_imp, Bool.or_eq_false_iff, bne_iff_ne, beq_iff_eq, bne_eq_false_iff_eq, beq_eq_false_iff_ne, gt_iff_lt, ge_iff_le, Int.not_lt, Int.not_le, ne_eq, Bool.true_eq_false, Bool.false_eq_true, reduceCtorEq, eta_Airway, eta_Fan, eta_Mine] at hb)
    | refine RetF.auto (And.intro rfl ?_)
    | exact Is.mk rfl rfl
    | refine Is.mk ?_ rfl
    | refine Is.mk rfl ?_
    | refine Is.mk ?_ ?_
/-- the least push, in one form -/
inductive LeastR (m : GMine) (ds ps : List Int) (rg : List Bool) (a : Int) (rs : List AV) (ho : List OB) : Prop
  | mk (x c : Int) (h1 : rs = [In x, In c]) (h2 : ho = []) (h : c = 0 → askB m ds ps rg = 0 ∧ (0 ≤ a ∧ a < m.airways.length) ∧ (0 ≤ x ∧ x ≤ 20000) ∧ fitsB m (gainsI ps ds) rg [a] x = true ∧ (0 < x → fitsB m (gainsI ps ds) rg [a] (x - 1) = false))
theorem inR_b {a : Int} {n : Nat} (h : inR a 0 (n - 1) = true) : 0 ≤ a ∧ a < n := by have := inR_iff.1 h; omega
theorem c_impl_LeastPush (m : GMine) (ds ps : List Int) (rg : List Bool) (a : Int) : FnSem Try.prog 52 [.p .any (.agg m.cells), Lx (LI ds), Lx (LI ps), Lx (LB rg), In a] [] (LeastR m ds ps rg a) := by
  refine FnSem.walk (zs := zeroPV Try.prog) (by kernel_rfl) Try.func52 rfl Try.results52 (by kernel_rfl) (by kernel_rfl) (by kernel_rfl) fun hw hh => ?_
  obtain ⟨w0, w1, w2, w3, w4, _⟩ := hw
  first | replace w0 := wf_Mine w0 | skip
  first | replace w1 := wf_LI w1 | skip
  first | replace w2 := wf_LI w2 | skip
  first | replace w3 := wf_I w3 | replace w3 := wf_Y w3 | replace w3 := wf_S w3 | replace w3 := wf_LI w3 | replace w3 := wf_LY w3 | replace w3 := wf_LLI w3 | replace w3 := wf_Ls w3 | skip
  first | replace w4 := wf_I w4 | skip
  repeat' first
    | refine And.intro rfl ?_
    | refine GdF.mk (fun h => h) ?_
    | refine And.intro (Nat.succ_ne_zero _) ?_
    | refine And.intro (Nat.le_of_ble_eq_true rfl) ?_
    | refine SeqF.run ?_
    | refine CallF.mk (f := 115) (CallW.is [] false rfl ?_)
    | (refine ArgF.mk _ (c_impl_boostersOf m ds ps rg) (fun rs ho hR _ => ?_); rcases hR with ⟨hs, rfl, rfl⟩ | ⟨hs, rfl, rfl⟩)
    | exact absurd hb hs
    | refine ArgF.is (c_impl_indexValid_impl_Airway m.airways a) ?_
    | refine ArgQ.is (fun hG => c_impl_indexValid_impl_Airway m.airways a) rfl rfl ?_
    | refine BndF.mk (fun _ => by have q := askB_l hs; have q2 := inR_b (by assumption); rw [List.length_map]; omega) ?_
    | refine ArgF.is (firstB2 0 20000 _ _ _ (fun n => fitsB m (gainsI ps ds) rg [a] n) (fun n h0 h1 => c_impl_LeastPush_1 m ds ps rg a n hs (inR_b (by assumption)) ⟨h0, h1⟩) (by omega)) ?_
    | refine ArgQ.is (fun hG => firstB2 0 20000 _ _ _ (fun n => fitsB m (gainsI ps ds) rg [a] n) (fun n h0 h1 => c_impl_LeastPush_1 m ds ps rg a n hs (inR_b (by assumption)) ⟨h0, h1⟩) (by omega)) rfl rfl ?_
    | refine LeastR.mk _ _ rfl rfl ?_
    | refine GhF.go ?_
    | refine EqP.mk _ (gm GAirway.cells default rfl) ?_
    | refine EqP.mk _ (gm eI 0 rfl) ?_
    | refine EqP.mk _ (gm eB false rfl) ?_
    | refine BndF.mk (fun _ => by omega) ?_
    | refine BndF.mk (fun _ => by simp only [List.length_map, List.length_cons, List.length_nil, List.length_append, List.length_set, List.length_replicate, iotaI_len]; omega) ?_
    | refine EqN.mk _ (Nat.zero_add _) ?_
    | refine EqN.mk _ (Int.toNat_natCast _) ?_
    | refine EqN.mk _ rfl ?_
    | refine EqL.mk _ (tk GAirway.cells (by first | rfl | assumption | omega | (simp only [List.length_map, List.length_cons, List.length_nil, List.length_append, List.length_set, List.length_replicate, iotaI_len]; done) | (simp only [List.length_map, List.length_cons, List.length_nil, List.length_append, List.length_set, List.length_replicate, iotaI_len]; omega))) ?_
    | refine EqL.mk _ (st GAirway.cells) ?_
    | refine EqL.mk _ (tk eI (by first | rfl | assumption | omega | (simp only [List.length_map, List.length_cons, List.length_nil, List.length_append, List.length_set, List.length_replicate, iotaI_len]; done) | (simp only [List.length_map, List.length_cons, List.length_nil, List.length_append, List.length_set, List.length_replicate, iotaI_len]; omega))) ?_
    | refine EqL.mk _ (st eI) ?_
    | refine EqL.mk _ (tk eB (by first | rfl | assumption | omega | (simp only [List.length_map, List.length_cons, List.length_nil, List.length_append, List.length_set, List.length_replicate, iotaI_len]; done) | (simp only [List.length_map, List.length_cons, List.length_nil, List.length_append, List.length_set, List.length_replicate, iotaI_len]; omega))) ?_
    | refine EqL.mk _ (st eB) ?_
    | refine EqL.mk [] rfl ?_
    | refine EqL.mk [_] rfl ?_
    | refine EqL.mk _ rfl ?_
    | refine ArgF.is (c_impl_boostersOf ⟨_, _⟩ _ _ _) ?_
    | refine ArgQ.is (fun hG => c_impl_boostersOf ⟨_, _⟩ _ _ _) rfl rfl ?_
    | refine ArgF.is (c_impl_indexValid_impl_Airway ..) ?_
    | refine ArgQ.is (fun hG => c_impl_indexValid_impl_Airway ..) rfl rfl ?_
    | refine ArgF.is (c_impl_firstIn ..) ?_
    | refine ArgQ.is (fun hG => c_impl_firstIn ..) rfl rfl ?_
    | refine ArgF.is (c_impl_orNotFound ..) ?_
    | refine ArgQ.is (fun hG => c_impl_orNotFound ..) rfl rfl ?_
    | refine CallF.mk (CallW.is [] true rfl ?_)
    | refine CallG.mk ?_
    | (refine CondF.mk (fun hb => ?_) (fun hb => ?_) <;> try simp only [forall_const, eq_self, not_true_eq_false, not_false_eq_true, or_false, false_or, or_self, or_true, true_or, and_true, true_and, and_false, false_and, decide_true, decide_false, Bool.not_true, Bool.not_false, decide_eq_true_eq, decide_eq_false_iff_not, ite_and_p, ite_or_p, Bool.decide_eq_true, Bool.and_eq_true, Bool.or_eq_true, Bool.not_eq_true', Bool.not_eq_false', Bool.and_eq_false_imp, Bool.or_eq_false_iff, bne_iff_ne, beq_iff_eq, bne_eq_false_iff_eq, beq_eq_false_iff_ne, gt_iff_lt, ge_iff_le, Int.not_lt, Int.not_le, ne_eq, Bool.true_eq_false, Bool.false_eq_true, reduceCtorEq, eta_Airway, eta_Fan, eta_Mine] at hb)
    | refine RetF.auto (And.intro rfl ?_)
    | exact Is.mk rfl rfl
    | refine Is.mk ?_ rfl
    | refine Is.mk rfl ?_
    | refine Is.mk ?_ ?_
  all_goals try dsimp only
  · exact fun e => absurd e hs
  · intro e; cases e
  · intro e; cases e
  · have q := binI_p (p := fun n => fitsB m (gainsI ps ds) rg [a] n) (lo := 0) (hi := 20000) (by omega)
    by_cases h : binI (fun n => fitsB m (gainsI ps ds) rg [a] n) 0 20000 ≤ 20000
    · intro _
      rw [if_pos (decide_eq_true h)]
      exact ⟨hs, inR_b (by assumption), ⟨q.1, h⟩, q.2.2.1 h, q.2.2.2⟩
    · rw [if_neg (by simpa using h)]; intro e; cases e
theorem c_impl_Mine_hasAirways (m : GMine) (xs : List Int) (hm : m.airways.length ≤ 1000) : FnSem Try.prog 143 [.p .any (.agg m.cells), Lx (LI xs)] [] (Is [Bo (rising xs && xs.all (inR · 0 (m.airways.length - 1)))] []) := by
  refine FnSem.walk (zs := zeroPV Try.prog) (by kernel_rfl) Try.func143 rfl Try.results143 (by kernel_rfl) (by kernel_rfl) (by kernel_rfl) fun hw hh => ?_
  obtain ⟨w0, w1, _⟩ := hw
  first | replace w0 := wf_Mine w0 | skip
  first | replace w1 := wf_LI w1 | skip
  repeat' first
    | refine And.intro rfl ?_
    | refine GdF.mk (fun h => h) ?_
    | refine And.intro (Nat.succ_ne_zero _) ?_
    | refine And.intro (Nat.le_of_ble_eq_true rfl) ?_
    | refine SeqF.run ?_
    | refine GhF.go ?_
    | refine GdS.keep ?_
    | refine BndF.mk (fun _ => by omega) ?_
    | refine BndF.mk (fun _ => by simp only [List.length_map, List.length_cons, List.length_nil, List.length_append, List.length_set, List.length_replicate, iotaI_len]; omega) ?_
    | refine BndF.mk (fun hG => by simp only [forall_const, eq_self, not_true_eq_false, not_false_eq_true, or_false, false_or, or_self, or_true, true_or, and_true, true_and, and_false, false_and, decide_true, decide_false, Bool.not_true, Bool.not_false, decide_eq_true_eq, decide_eq_false_iff_not, ite_and_p, ite_or_p, Bool.decide_eq_true, Bool.and_eq_true, Bool.or_eq_true, Bool.not_eq_true', Bool.not_eq_false', Bool.and_eq_false_imp, Bool.or_eq_false_iff, bne_iff_ne, beq_iff_eq, bne_eq_false_iff_eq, beq_eq_false_iff_ne, gt_iff_lt, ge_iff_le, Int.not_lt, Int.not_le, ne_eq, Bool.true_eq_false, Bool.false_eq_true, reduceCtorEq, eta_Airway, eta_Fan, eta_Mine, bytes_nil] at hG; (try simp only [List.length_map]); omega) ?_
    | refine EqI.mk _ (fun _ => wrapI (by omega) (by omega)) ?_
    | refine EqI.mk _ (fun _ => rfl) ?_
    | refine EqN.mk _ (ln GAirway.cells) ?_
    | refine EqN.mk _ (ln eI) ?_
    | refine EqL.mk _ (tk GAirway.cells (by first | rfl | assumption | omega | (simp only [List.length_map, List.length_cons, List.length_nil, List.length_append, List.length_set, List.length_replicate, iotaI_len]; done) | (simp only [List.length_map, List.length_cons, List.length_nil, List.length_append, List.length_set, List.length_replicate, iotaI_len]; omega))) ?_
    | refine EqL.mk _ (tk eI (by first | rfl | assumption | omega | (simp only [List.length_map, List.length_cons, List.length_nil, List.length_append, List.length_set, List.length_replicate, iotaI_len]; done) | (simp only [List.length_map, List.length_cons, List.length_nil, List.length_append, List.length_set, List.length_replicate, iotaI_len]; omega))) ?_
    | refine EqL.mk [] rfl ?_
    | refine EqL.mk [_] rfl ?_
    | refine EqL.mk _ rfl ?_
    | refine ArgF.is (c_impl_increasing ..) ?_
    | refine ArgQ.is (fun hG => c_impl_increasing ..) rfl rfl ?_
    | refine ArgF.is (c_impl_allWithin ..) ?_
    | refine ArgQ.is (fun hG => c_impl_allWithin ..) rfl rfl ?_
    | refine CallF.mk (CallW.is [] true rfl ?_)
    | refine CallG.mk ?_
    | (refine CondF.mk (fun hb => ?_) (fun hb => ?_) <;> try simp only [forall_const, eq_self, not_true_eq_false, not_false_eq_true, or_false, false_or, or_self, or_true, true_or, and_true, true_and, and_false, false_and, decide_true, decide_false, Bool.not_true, Bool.not_false, decide_eq_true_eq, decide_eq_false_iff_not, ite_and_p, ite_or_p, Bool.decide_eq_true, Bool.and_eq_true, Bool.or_eq_true, Bool.not_eq_true', Bool.not_eq_false', Bool.and_eq_false_imp, Bool.or_eq_false_iff, bne_iff_ne, beq_iff_eq, bne_eq_false_iff_eq, beq_eq_false_iff_ne, gt_iff_lt, ge_iff_le, Int.not_lt, Int.not_le, ne_eq, Bool.true_eq_false, Bool.false_eq_true, reduceCtorEq, eta_Airway, eta_Fan, eta_Mine] at hb)
    | refine RetF.auto (And.intro rfl ?_)
    | exact Is.mk rfl rfl
    | refine Is.mk ?_ rfl
    | refine Is.mk rfl ?_
    | refine Is.mk ?_ ?_
  all_goals try dsimp only
  all_goals try simp only [Bo, I, OB.row.injEq, AV.osl.injEq, eI_same,  List.cons.injEq, AV.p.injEq, PV.c.injEq, Value.int.injEq, Value.bool.injEq, and_true, true_and, ite_and_p, ite_or_p, Bool.decide_eq_true, eta_Airway, eta_Fan, eta_Mine]
  all_goals skip
--@fn impl.budgetValid
theorem budgetB (x : Int) : FnSem Try.prog 144 [In x] [] (Is [Bo (inR x 1 20000)] []) := by
  refine FnSem.walk (zs := zeroPV Try.prog) (by kernel_rfl) Try.func144 rfl Try.results144 (by kernel_rfl) (by kernel_rfl) (by kernel_rfl) fun hw hh => ?_
  obtain ⟨w0, _⟩ := hw
  first | replace w0 := wf_I w0 | skip
  repeat' first
    | refine And.intro rfl ?_
    | refine GdF.mk (fun h => h) ?_
    | refine And.intro (Nat.succ_ne_zero _) ?_
    | refine And.intro (Nat.le_of_ble_eq_true rfl) ?_
    | refine SeqF.run ?_
    | refine GhF.go ?_
    | refine BndF.mk (fun _ => by omega) ?_
    | refine BndF.mk (fun _ => by simp only [List.length_map, List.length_cons, List.length_nil, List.length_append, List.length_set, List.length_replicate, iotaI_len]; omega) ?_
    | refine EqL.mk [] rfl ?_
    | refine EqL.mk [_] rfl ?_
    | refine EqL.mk _ rfl ?_
    | refine ArgF.is (c_impl_within ..) ?_
    | refine ArgQ.is (fun hG => c_impl_within ..) rfl rfl ?_
    | refine CallF.mk (CallW.is [] true rfl ?_)
    | refine CallG.mk ?_
    | (refine CondF.mk (fun hb => ?_) (fun hb => ?_) <;> try simp only [forall_const, eq_self, not_true_eq_false, not_false_eq_true, or_false, false_or, or_self, or_true, true_or, and_true, true_and, and_false, false_and, decide_true, decide_false, Bool.not_true, Bool.not_false, decide_eq_true_eq, decide_eq_false_iff_not, ite_and_p, ite_or_p, Bool.decide_eq_true, Bool.and_eq_true, Bool.or_eq_true, Bool.not_eq_true', Bool.not_eq_false', Bool.and_eq_false_imp, Bool.or_eq_false_iff, bne_iff_ne, beq_iff_eq, bne_eq_false_iff_eq, beq_eq_false_iff_ne, gt_iff_lt, ge_iff_le, Int.not_lt, Int.not_le, ne_eq, Bool.true_eq_false, Bool.false_eq_true, reduceCtorEq, eta_Airway, eta_Fan, eta_Mine] at hb)
    | refine RetF.auto (And.intro rfl ?_)
    | exact Is.mk rfl rfl
    | refine Is.mk ?_ rfl
    | refine Is.mk rfl ?_
    | refine Is.mk ?_ ?_
theorem rise_ge {xs : List Int} (h : rising xs = true) (h0 : ∀ j : Nat, (j : Int) < xs.length → 0 ≤ xs.getD j 0) : ∀ j : Nat, (j : Int) < xs.length → (j : Int) ≤ xs.getD j 0
  | 0, hj => h0 0 hj
  | j + 1, hj => by
    have h1 := rise_ge h h0 j (by omega)
    have h2 := rising_iff.1 h (j + 1) hj
    rw [Nat.add_sub_cancel] at h2
    omega
theorem cand_l {xs : List Int} {n : Nat} (h : rising xs = true) (h1 : xs.all (inR · 0 (n - 1)) = true) : xs.length ≤ n := by
  have h2 := fun j hj => inR_iff.1 ((all_iff (d := 0)).1 h1 j hj)
  by_cases e : xs.length = 0
  · omega
  · have h3 := rise_ge h (fun j hj => (h2 j hj).1) (xs.length - 1) (by omega)
    have h4 := (h2 (xs.length - 1) (by omega)).2
    omega
def candOk (m : GMine) (cs : List Int) (d b : Int) : Bool := (rising cs && cs.all (inR · 0 (m.airways.length - 1))) && inR d 1 20000 && inR b 1 20000
theorem c_impl_FewestBoosters_1 (m : GMine) (ds ps xs : List Int) (rg : List Bool) (d : Int) (h : askB m ds ps rg = 0) (hx : ∀ j : Nat, (j : Int) < xs.length → 0 ≤ xs.getD j 0 ∧ xs.getD j 0 < m.airways.length) (hl : xs.length ≤ 24) (hd : 0 ≤ d ∧ d ≤ 20000) : FnSem Try.prog 145 [Lx (LI xs), .p .any (.ref (boostC m (gainsI ps ds) rg)), .p .any (.ref [.c (.int .i64 d)])] [] (Is [Bo (fitsB m (gainsI ps ds) rg xs d)] []) := by
  refine FnSem.walk (zs := zeroPV Try.prog) (by kernel_rfl) Try.func145 rfl Try.results145 (by kernel_rfl) (by kernel_rfl) (by kernel_rfl) fun hw hh => ?_
  obtain ⟨w0, w1, w2, _⟩ := hw
  first | replace w0 := wf_LI w0 | skip
  first | replace w1 := wf_I w1 | replace w1 := wf_Y w1 | replace w1 := wf_S w1 | replace w1 := wf_LI w1 | replace w1 := wf_LY w1 | replace w1 := wf_LLI w1 | replace w1 := wf_Ls w1 | skip
  first | replace w2 := wf_I w2 | replace w2 := wf_Y w2 | replace w2 := wf_S w2 | replace w2 := wf_LI w2 | replace w2 := wf_LY w2 | replace w2 := wf_LLI w2 | replace w2 := wf_Ls w2 | skip
  repeat' first
    | refine And.intro rfl ?_
    | refine GdF.mk (fun h => h) ?_
    | refine And.intro (Nat.succ_ne_zero _) ?_
    | refine And.intro (Nat.le_of_ble_eq_true rfl) ?_
    | refine SeqF.run ?_
    | refine ArgF.is (fits_of m ds ps rg h xs d hx hl hd) ?_
    | refine ArgQ.is (fun hG => fits_of m ds ps rg h xs d hx hl hd) rfl rfl ?_
    | refine GhF.go ?_
    | refine BndF.mk (fun _ => by omega) ?_
    | refine BndF.mk (fun _ => by simp only [List.length_map, List.length_cons, List.length_nil, List.length_append, List.length_set, List.length_replicate, iotaI_len]; omega) ?_
    | refine EqL.mk _ (tk eI (by first | rfl | assumption | omega | (simp only [List.length_map, List.length_cons, List.length_nil, List.length_append, List.length_set, List.length_replicate, iotaI_len]; done) | (simp only [List.length_map, List.length_cons, List.length_nil, List.length_append, List.length_set, List.length_replicate, iotaI_len]; omega))) ?_
    | refine EqL.mk [] rfl ?_
    | refine EqL.mk [_] rfl ?_
    | refine EqL.mk _ rfl ?_
    | refine ArgF.is (c_impl_booster_fits ⟨_, _⟩ _ _ _ _ (by first | assumption | omega) (by first | assumption | omega) (by first | assumption | omega) (by first | assumption | omega) (by first | assumption | omega) (by first | assumption | omega) (by first | assumption | omega)) ?_
    | refine ArgQ.is (fun hG => c_impl_booster_fits ⟨_, _⟩ _ _ _ _ (by first | assumption | omega) (by first | assumption | omega) (by first | assumption | omega) (by first | assumption | omega) (by first | assumption | omega) (by first | assumption | omega) (by first | assumption | omega)) rfl rfl ?_
    | refine CallF.mk (CallW.is [] true rfl ?_)
    | refine CallG.mk ?_
    | (refine CondF.mk (fun hb => ?_) (fun hb => ?_) <;> try simp only [forall_const, eq_self, not_true_eq_false, not_false_eq_true, or_false, false_or, or_self, or_true, true_or, and_true, true_and, and_false, false_and, decide_true, decide_false, Bool.not_true, Bool.not_false, decide_eq_true_eq, decide_eq_false_iff_not, ite_and_p, ite_or_p, Bool.decide_eq_true, Bool.and_eq_true, Bool.or_eq_true, Bool.not_eq_true', Bool.not_eq_false', Bool.and_eq_false_imp, Bool.or_eq_false_iff, bne_iff_ne, beq_iff_eq, bne_eq_false_iff_eq, beq_eq_false_iff_ne, gt_iff_lt, ge_iff_le, Int.not_lt, Int.not_le, ne_eq, Bool.true_eq_false, Bool.false_eq_true, reduceCtorEq, eta_Airway, eta_Fan, eta_Mine] at hb)
    | refine RetF.auto (And.intro rfl ?_)
    | exact Is.mk rfl rfl
    | refine Is.mk ?_ rfl
    | refine Is.mk rfl ?_
    | refine Is.mk ?_ ?_
/-- the fewest boosters: what is handed back -/
def fewB (m : GMine) (ds ps : List Int) (rg : List Bool) (cs : List Int) (d b : Int) : List Int × Int := if askB m ds ps rg = 0 then (if candOk m cs d b = true then fstSet cs (fun s => fitsB m (gainsI ps ds) rg s d) b else ([], 2)) else ([], askB m ds ps rg)
theorem cand_m {m : GMine} {cs xs : List Int} {d b : Int} (h : candOk m cs d b = true) (hm : ∀ x ∈ xs, x ∈ cs) : ∀ j : Nat, (j : Int) < xs.length → 0 ≤ xs.getD j 0 ∧ xs.getD j 0 < m.airways.length := by
  simp only [candOk, Bool.and_eq_true] at h
  intro j hj
  have h1 := List.all_eq_true.1 h.1.1.2 _ (hm _ (getD_mem (d := 0) (j := j) (by omega)))
  have := inR_iff.1 h1
  omega
theorem cand_b {m : GMine} {cs : List Int} {d b : Int} (h : candOk m cs d b = true) : cs.length ≤ m.airways.length ∧ (1 ≤ d ∧ d ≤ 20000) ∧ 1 ≤ b ∧ b ≤ 20000 := by
  simp only [candOk, Bool.and_eq_true, inR_iff] at h
  exact ⟨cand_l h.1.1.1 h.1.1.2, h.1.2, h.2⟩
theorem cand_t {m : GMine} {cs : List Int} {d b : Int} (hb : ¬((rising cs = true → (cs.all fun x => inR x 0 (m.airways.length - 1)) = false) ∨ inR d 1 20000 = false) ∧ inR b 1 20000 = true) : candOk m cs d b = true := by
  obtain ⟨h1, h2⟩ := hb
  rw [not_or] at h1
  have h3 := Classical.not_imp.1 h1.1
  unfold candOk
  rw [h3.1, h2, show (cs.all fun x => inR x 0 (m.airways.length - 1)) = true by simpa using h3.2, show inR d 1 20000 = true by simpa using h1.2]; rfl
theorem cand_f {m : GMine} {cs : List Int} {d b : Int} (hb : ((rising cs = true → (cs.all fun x => inR x 0 (m.airways.length - 1)) = false) ∨ inR d 1 20000 = false) ∨ inR b 1 20000 = false) : candOk m cs d b = false := by
  unfold candOk
  rcases hb with (hb | hb) | hb
  · by_cases h : rising cs = true
    · rw [hb h]; simp
    · rw [Bool.not_eq_true] at h; rw [h]; simp
  · rw [hb]; simp
  · rw [hb]; simp
theorem c_impl_FewestBoosters (m : GMine) (ds ps : List Int) (rg : List Bool) (cs : List Int) (d b : Int) : FnSem Try.prog 54 [.p .any (.agg m.cells), Lx (LI ds), Lx (LI ps), Lx (LB rg), Lx (LI cs), In d, In b] [] (RetV (fun v : Nat × List Int × Int => [.osl 0 0 v.1, In v.2.2]) (fun v => [.row false .flat (eI 0) (v.2.1.map eI)]) (fun v => v.1 ≤ v.2.1.length ∧ (v.2.1.take v.1, v.2.2) = fewB m ds ps rg cs d b)) := by
  refine FnSem.old ?_
  refine FnSem.walk (zs := zeroPV Try.prog) (by kernel_rfl) Try.func54 rfl Try.results54 (by kernel_rfl) (by kernel_rfl) (by kernel_rfl) fun hw hh => ?_
  obtain ⟨w0, w1, w2, w3, w4, w5, w6, _⟩ := hw
  first | replace w0 := wf_Mine w0 | skip
  first | replace w1 := wf_LI w1 | skip
  first | replace w2 := wf_LI w2 | skip
  first | replace w3 := wf_I w3 | replace w3 := wf_Y w3 | replace w3 := wf_S w3 | replace w3 := wf_LI w3 | replace w3 := wf_LY w3 | replace w3 := wf_LLI w3 | replace w3 := wf_Ls w3 | skip
  first | replace w4 := wf_LI w4 | skip
  first | replace w5 := wf_I w5 | skip
  first | replace w6 := wf_I w6 | skip
  repeat' first
    | refine And.intro rfl ?_
    | refine GdF.mk (fun h => h) ?_
    | refine And.intro (Nat.succ_ne_zero _) ?_
    | refine And.intro (Nat.le_of_ble_eq_true rfl) ?_
    | refine SeqF.run ?_
    | refine CallF.mk (f := 115) (CallW.is [] false rfl ?_)
    | (refine ArgF.mk _ (c_impl_boostersOf m ds ps rg) (fun rs ho hR _ => ?_); rcases hR with ⟨hs, rfl, rfl⟩ | ⟨hs, rfl, rfl⟩)
    | exact absurd hb hs
    | refine ArgF.is (c_impl_Mine_hasAirways m cs (by have := askB_l hs; omega)) ?_
    | refine ArgQ.is (fun hG => c_impl_Mine_hasAirways m cs (by have := askB_l hs; omega)) rfl rfl ?_
    | refine ArgF.is (budgetB _) ?_
    | refine ArgQ.is (fun hG => budgetB _) rfl rfl ?_
    | refine GhF.at 7 rfl [.nils 5 3 (eI 0)] ?_
    | refine CallF.mk (f := 146) (CallW.is [5, 6] true rfl ?_)
    | (refine ArgF.fst (fstC_2 cs (fun s => fitsB m (gainsI ps ds) rg s d) _ _ _ b (by have := cand_b (cand_t hb); have := askB_l hs; omega) (by have := cand_b (cand_t hb); omega) (fun xs q1 q2 => c_impl_FewestBoosters_1 m ds ps xs rg d hs (cand_m (cand_t hb) q2) (by have := cand_b (cand_t hb); have := askB_l hs; omega) (by have := cand_b (cand_t hb); omega))) (fun n2 ys2 l2 e1 e2 => ?_) (fun c2 n2 ys2 l2 e1 e2 => ?_))
    | refine RetV.mk (α := Nat × List Int × Int) (0, [], _) rfl rfl ?_
    | refine RetV.mk (α := Nat × List Int × Int) (_, _, _) rfl rfl ?_
    | refine GhF.go ?_
    | refine GdS.keep ?_
    | refine MkF.row ?_
    | refine BndF.mk (fun _ => by omega) ?_
    | refine BndF.mk (fun _ => by simp only [List.length_map, List.length_cons, List.length_nil, List.length_append, List.length_set, List.length_replicate, iotaI_len]; omega) ?_
    | refine BndF.mk (fun hG => by simp only [forall_const, eq_self, not_true_eq_false, not_false_eq_true, or_false, false_or, or_self, or_true, true_or, and_true, true_and, and_false, false_and, decide_true, decide_false, Bool.not_true, Bool.not_false, decide_eq_true_eq, decide_eq_false_iff_not, ite_and_p, ite_or_p, Bool.decide_eq_true, Bool.and_eq_true, Bool.or_eq_true, Bool.not_eq_true', Bool.not_eq_false', Bool.and_eq_false_imp, Bool.or_eq_false_iff, bne_iff_ne, beq_iff_eq, bne_eq_false_iff_eq, beq_eq_false_iff_ne, gt_iff_lt, ge_iff_le, Int.not_lt, Int.not_le, ne_eq, Bool.true_eq_false, Bool.false_eq_true, reduceCtorEq, eta_Airway, eta_Fan, eta_Mine, bytes_nil] at hG; (try simp only [List.length_map]); omega) ?_
    | refine EqN.mk _ (Nat.zero_add _) ?_
    | refine EqN.mk _ (Int.toNat_natCast _) ?_
    | refine EqN.mk _ rfl ?_
    | refine EqL.mk _ (tk eI (by first | rfl | assumption | omega | (simp only [List.length_map, List.length_cons, List.length_nil, List.length_append, List.length_set, List.length_replicate, iotaI_len]; done) | (simp only [List.length_map, List.length_cons, List.length_nil, List.length_append, List.length_set, List.length_replicate, iotaI_len]; omega))) ?_
    | refine EqL.mk _ (st eI) ?_
    | refine EqL.mk _ (dt eI) ?_
    | refine EqL.mk _ (tk eB (by first | rfl | assumption | omega | (simp only [List.length_map, List.length_cons, List.length_nil, List.length_append, List.length_set, List.length_replicate, iotaI_len]; done) | (simp only [List.length_map, List.length_cons, List.length_nil, List.length_append, List.length_set, List.length_replicate, iotaI_len]; omega))) ?_
    | refine EqL.mk _ (st eB) ?_
    | refine EqL.mk _ (dt eB) ?_
    | refine EqL.mk [] rfl ?_
    | refine EqL.mk [_] rfl ?_
    | refine EqL.mk _ rfl ?_
    | refine ArgF.is (c_impl_boostersOf ⟨_, _⟩ _ _ _) ?_
    | refine ArgQ.is (fun hG => c_impl_boostersOf ⟨_, _⟩ _ _ _) rfl rfl ?_
    | refine ArgF.is (c_impl_Mine_hasAirways ⟨_, _⟩ _ (by first | assumption | omega)) ?_
    | refine ArgQ.is (fun hG => c_impl_Mine_hasAirways ⟨_, _⟩ _ (by first | assumption | omega)) rfl rfl ?_
    | refine ArgQ.is (fun hG => c_impl_Mine_hasAirways ⟨_, _⟩ _ (by simp only [forall_const, eq_self, not_true_eq_false, not_false_eq_true, or_false, false_or, or_self, or_true, true_or, and_true, true_and, and_false, false_and, decide_true, decide_false, Bool.not_true, Bool.not_false, decide_eq_true_eq, decide_eq_false_iff_not, ite_and_p, ite_or_p, Bool.decide_eq_true, Bool.and_eq_true, Bool.or_eq_true, Bool.not_eq_true', Bool.not_eq_false', Bool.and_eq_false_imp, Bool.or_eq_false_iff, bne_iff_ne, beq_iff_eq, bne_eq_false_iff_eq, beq_eq_false_iff_ne, gt_iff_lt, ge_iff_le, Int.not_lt, Int.not_le, ne_eq, Bool.true_eq_false, Bool.false_eq_true, reduceCtorEq, eta_Airway, eta_Fan, eta_Mine, bytes_nil] at hG; omega)) rfl rfl ?_
    | refine ArgF.is (c_impl_within ..) ?_
    | refine ArgQ.is (fun hG => c_impl_within ..) rfl rfl ?_
    | refine ArgF.is (c_impl_budgetValid ..) ?_
    | refine ArgQ.is (fun hG => c_impl_budgetValid ..) rfl rfl ?_
    | refine ArgF.is (c_impl_setSearch_first ..) ?_
    | refine ArgQ.is (fun hG => c_impl_setSearch_first ..) rfl rfl ?_
    | refine CallF.mk (CallW.is [] true rfl ?_)
    | refine CallG.mk ?_
    | (refine CondF.mk (fun hb => ?_) (fun hb => ?_) <;> try simp only [forall_const, eq_self, not_true_eq_false, not_false_eq_true, or_false, false_or, or_self, or_true, true_or, and_true, true_and, and_false, false_and, decide_true, decide_false, Bool.not_true, Bool.not_false, decide_eq_true_eq, decide_eq_false_iff_not, ite_and_p, ite_or_p, Bool.decide_eq_true, Bool.and_eq_true, Bool.or_eq_true, Bool.not_eq_true', Bool.not_eq_false', Bool.and_eq_false_imp, Bool.or_eq_false_iff, bne_iff_ne, beq_iff_eq, bne_eq_false_iff_eq, beq_eq_false_iff_ne, gt_iff_lt, ge_iff_le, Int.not_lt, Int.not_le, ne_eq, Bool.true_eq_false, Bool.false_eq_true, reduceCtorEq, eta_Airway, eta_Fan, eta_Mine] at hb)
    | refine RetF.auto (And.intro rfl ?_)
    | exact Is.mk rfl rfl
    | refine Is.mk ?_ rfl
    | refine Is.mk rfl ?_
    | refine Is.mk ?_ ?_
  all_goals try dsimp only
  · unfold fewB; rw [if_neg hs]; rfl
  · unfold fewB; rw [if_pos hs, if_neg (by rw [cand_f hb]; decide)]; rfl
  · refine ⟨e1, ?_⟩; unfold fewB; rw [if_pos hs, if_pos (cand_t hb), e2]
  · unfold fewB; rw [if_pos hs, if_pos (cand_t hb), e1]; rfl
end Go.Proofs.Ytfeebelnpibppaa
