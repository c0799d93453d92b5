/- Contracts of functions of the program, and what they compute. Conditions: those that each theorem states. -/
import Derived.Test.YtfeebelnpibppaaProg
import Derived.Test.YtfeebelnpibppaaQ14
import Derived.Test.YtfeebelnpibppaaQ15
import Derived.Test.YtfeebelnpibppaaF1
set_option linter.unusedVariables false
set_option linter.unusedSimpArgs false
namespace Go.Proofs.Ytfeebelnpibppaa
open Go.Av
attribute [local irreducible] Go.IntKind.wrap leastI rdZ rd rootI rawA gainsI stepB roundB potN potI askB okAw addG fitsB okMine ext extL fstL fstSet fewB candOk potC
set_option maxRecDepth 20000
set_option maxHeartbeats 100000000

/-! The law of boosters. -/
inductive SetR (r : List Int × Int) (rs : List AV) (ho : List OB) : Prop
  | mk (n : Nat) (ys : List Int) (c : Int) (h1 : rs = [.osl 0 0 n, In c]) (h2 : ho = [.row false .flat (eI 0) (ys.map eI)]) (h3 : n ≤ ys.length) (h4 : r = (ys.take n, c))
theorem ArgF.set {r : List Int × Int} {k : Nat} {Pr : Program} [Kn Pr] {f : FuncId} {args : List AV} {hin : List OB} {K : List AV → List OB → Prop} (h : FnSem Pr f args hin (SetR r))
    (hk : ∀ (n : Nat) (ys : List Int) (c : Int), n ≤ ys.length → r = (ys.take n, c) → K [.osl 0 0 n, In c] [.row false .flat (eI 0) (ys.map eI)]) : ArgF k Pr f args hin K :=
  ⟨_, h, fun rs ho hR _ => by obtain ⟨n, ys, c, rfl, rfl, h3, h4⟩ := hR; exact hk n ys c h3 h4⟩
theorem implFew (m : GMine) (ds ps : List Int) (rg : List Bool) (cs : List Int) (d b : Int) : FnSem Try.prog 54 [.p .any (.agg m.cells), Lx (LI ds), Lx (LI ps), Lx (LB rg), Lx (LI cs), In d, In b] [] (SetR (fewB m ds ps rg cs d b)) :=
  (c_impl_FewestBoosters m ds ps rg cs d b).mono fun rs ho h => by
    obtain ⟨⟨n, ys, c⟩, rfl, rfl, h1, h2⟩ := h
    exact ⟨n, ys, c, rfl, rfl, h1, h2.symm⟩
theorem wrapS {ps : List Int} {k : Nat} {x : Int} (hk : k < ps.length) (h1 : -9223372036854775808 ≤ ps.getD k 0 + x - 1) (h2 : ps.getD k 0 + x - 1 ≤ 9223372036854775807) : IntKind.i64.wrap ((ps.set k (ps.getD k 0 + x)).getD k 0 - 1) = ps.getD k 0 + x - 1 := by
  rw [getD_set, if_pos ⟨rfl, hk⟩]
  exact wrapI h1 h2
theorem take_getB {ys : List Int} {n : Nat} {i : Int} (h0 : 0 ≤ i) (h : i < n) : (ys.take n).getD i.toNat 0 = ys.getD i.toNat 0 := by
  rw [List.getD_eq_getElem?_getD, List.getD_eq_getElem?_getD, List.getElem?_take, if_pos (by omega)]
theorem few_law2 {m : GMine} {ds ps : List Int} {rg : List Bool} {cs ys : List Int} {d b : Int} {n : Nat} (h : fewB m ds ps rg cs d b = (ys.take n, 0)) (hn : n ≤ ys.length) :
    (n ≤ 24 ∧ 0 ≤ d ∧ d ≤ 20000) ∧ (∀ i : Int, 0 ≤ i → i < n → (0 ≤ ys.getD i.toNat 0 ∧ ys.getD i.toNat 0 < ps.length) ∧ ys.getD i.toNat 0 ∈ cs ∧ (0 < i → ys.getD (i - 1).toNat 0 < ys.getD i.toNat 0)) ∧ (potC m ds (addG ps (ys.take n) d n) rg = 0 ∨ potC m ds (addG ps (ys.take n) d n) rg = 2) ∧
    (addG ps (ys.take n) d 0 = ps ∧ ∀ i : Int, 0 ≤ i → i ≤ n → (addG ps (ys.take n) d i).length = ps.length ∧ (∀ j : Nat, -1500000 ≤ (addG ps (ys.take n) d i).getD j 0 ∧ (addG ps (ys.take n) d i).getD j 0 ≤ 1500000) ∧ (i < n → addG ps (ys.take n) d (i + 1) = (addG ps (ys.take n) d i).set (ys.getD i.toNat 0).toNat ((addG ps (ys.take n) d i).getD (ys.getD i.toNat 0).toNat 0 + d))) := by
  have hl : (ys.take n).length = n := by rw [List.length_take]; omega
  obtain ⟨a, b, c, e⟩ := few_law h
  rw [hl] at b e
  refine ⟨⟨b, a.2.2.2⟩, fun i h0 h1 => ?_, e, by unfold addG; rw [foldT_0], fun i h0 h1 => ⟨?_, ?_, fun h2 => ?_⟩⟩
  · have q := c i h0 (by rw [hl]; exact h1)
    rw [take_getB h0 h1] at q
    refine ⟨q.1, q.2.1, fun hp => ?_⟩
    have q3 := q.2.2 hp
    rw [take_getB (by omega) (by omega)] at q3
    exact q3
  · have q := (addG_p (g := ps) (xs := ys.take n) (d := d) (bdL_mono a.2.1 (by omega)) a.2.2.2 i.toNat (by omega)).1
    rw [show ((i.toNat : Nat) : Int) = i by omega] at q
    exact q
  · intro j
    have q := (addG_p (g := ps) (xs := ys.take n) (d := d) (bdL_mono a.2.1 (by omega)) a.2.2.2 i.toNat (by omega)).2 j
    rw [show ((i.toNat : Nat) : Int) = i by omega] at q
    omega
  · rw [addG_s h0 (by rw [hl]; exact h2), take_getB h0 h2]
theorem c_laws_FnBoosters (c1 c2 : List Int) : FnSem Try.prog 8 [Lx (LY c1), Lx (LY c2)] [] (Is [Bo true] []) := by
  refine FnSem.walk (zs := zeroPV Try.prog) (by kernel_rfl) Try.func8 rfl Try.results8 (by kernel_rfl) (by kernel_rfl) (by kernel_rfl) fun hw hh => ?_
  obtain ⟨w0, w1, _⟩ := hw
  first | replace w0 := wf_LY w0 | skip
  first | replace w1 := wf_LY w1 | skip
  repeat' first
    | refine And.intro rfl ?_
    | refine GdF.mk (fun h => h) ?_
    | refine And.intro (Nat.succ_ne_zero _) ?_
    | refine And.intro (Nat.le_of_ble_eq_true rfl) ?_
    | refine SeqF.run ?_
    | refine EqL.mk _ (stI (by kernel_rfl)) ?_
    | refine EqL.mk _ (tk GAirway.cells rfl) ?_
    | (refine ArgF.mk _ (c_spec_DrawLeastPush _) (fun rs ho hR _ => ?_); obtain ⟨j, n, xs, k, ds, l, ps, r, rg, a, rfl, rfl, e1, e2, e3, e4, hn, hl⟩ := hR; subst e1; subst e2; subst e3; subst e4)
    | (refine ArgF.mk _ (c_impl_LeastPush ⟨j, xs⟩ ds ps rg a) (fun rs ho hR _ => ?_); obtain ⟨x, cl, rfl, rfl, hL⟩ := hR; have hA := fun (e : cl = 0) => least_law (hL e).1 (hL e).2.1 (hL e).2.2.1 (hL e).2.2.2.1 (hL e).2.2.2.2)
    | refine EqI.mk _ (fun _ => by have q1 := hA (by assumption); have q2 := (hL (by assumption)).2; exact wrapS (by omega) (by omega) (by omega)) ?_
    | refine EqI.mk _ (fun _ => by have q1 := hA (by assumption); have q2 := (hL (by assumption)).2; exact wrapI (by omega) (by omega)) ?_
    | refine EqI.mk _ (fun _ => by have q1 := (hF m2).2.2.2.2 i m0 m1; have q2 := q1.2.1 (ys2.getD i.toNat 0).toNat; rw [← m3] at q2; have q3 := (hF m2).1; exact wrapI (by omega) (by omega)) ?_
    | refine BndF.mk (fun _ => by have q1 := hA (by assumption); have q2 := (hL (by assumption)).2.1; simp only [List.length_map, List.length_set]; omega) ?_
    | refine BndF.mk (fun _ => by have q1 := (hF m2).2.1 i m0 (by omega); simp only [List.length_map, List.length_set]; omega) ?_
    | (refine ArgF.mk _ (c_impl_PotentialsOf ⟨j, xs⟩ ds (ps.set a.toNat (ps.getD a.toNat 0 + x)) rg) (fun rs ho hR _ => ?_); obtain ⟨o1, p1, rfl, rfl, u1, _⟩ := hR)
    | (refine ArgF.mk _ (c_impl_PotentialsOf ⟨j, xs⟩ ds ((ps.set a.toNat (ps.getD a.toNat 0 + x)).set a.toNat (ps.getD a.toNat 0 + x - 1)) rg) (fun rs ho hR _ => ?_); obtain ⟨o2, p2, rfl, rfl, u2, _⟩ := hR; rw [List.set_set] at u2)
    | (refine ArgF.mk _ (c_spec_DrawFewestBoosters _) (fun rs ho hR _ => ?_); obtain ⟨j', n', xs', k', ds', l', ps', r', rg', t', cs', d', b', rfl, rfl, e1, e2, e3, e4, e5, hn', hl', ht'⟩ := hR; subst e1; subst e2; subst e3; subst e4; subst e5)
    | (refine ArgF.set (implFew ⟨j', xs'⟩ ds' ps' rg' cs' d' b') ?_; intro n2 ys2 c2 g1 g2; have hF := fun (e : c2 = 0) => few_law2 (show fewB ⟨j', xs'⟩ ds' ps' rg' cs' d' b' = (ys2.take n2, 0) by rw [g2, e]) g1)
    | refine EqL.mk _ (tkT (ys := ys2) (n := n2) rfl) ?_
    | (refine ArgF.mk _ (c_impl_PotentialsOf ⟨j', xs'⟩ ds' _ rg') (fun rs ho hR _ => ?_); obtain ⟨o3, p3, rfl, rfl, u3, _⟩ := hR)
    | refine LoopF.at 21 rfl (LoopF.fix [17, 18, 20, 21, 22, 24, 26] (Int × List Int) (fun (i, q) => 0 ≤ i ∧ i ≤ n2 ∧ c2 = 0 ∧ q = addG ps' (ys2.take n2) d' i ∧ q.length = ps'.length ∧ n2 ≤ 24) (fun (i, q) => [(27, In i)]) (fun (i, q) => [(6, .row true .flat (eI 0) (q.map eI))]) (fun (i, q) => ((n2 - i).toNat)) ((0, ps')) ?_)
    | (refine LoopB.of (T := Int × List Int) ?_ ?_; rotate_left; rintro ⟨i, q⟩ ⟨m0, m1, m2, m3, m4, m5⟩; rotate_left)
    | refine GhF.go ?_
    | refine GdS.keep ?_
    | refine DrawG.old (DrawF.lex (by decide +kernel) ?_)
    | refine MkF.row ?_
    | refine EqP.mk _ (gm eY 0 rfl) ?_
    | refine EqP.mk _ (gm eI 0 rfl) ?_
    | refine EqP.mk _ (gm eB false rfl) ?_
    | refine BndF.mk (fun _ => by omega) ?_
    | refine BndF.mk (fun _ => by simp only [List.length_map, List.length_cons, List.length_nil, List.length_append, List.length_set, List.length_replicate, iotaI_len]; omega) ?_
    | refine BndF.mk (fun hG => by simp only [forall_const, eq_self, not_true_eq_false, not_false_eq_true, or_false, false_or, or_self, or_true, true_or, and_true, true_and, and_false, false_and, decide_true, decide_false, Bool.not_true, Bool.not_false, decide_eq_true_eq, decide_eq_false_iff_not, ite_and_p, ite_or_p, Bool.decide_eq_true, Bool.and_eq_true, Bool.or_eq_true, Bool.not_eq_true', Bool.not_eq_false', Bool.and_eq_false_imp, Bool.or_eq_false_iff, bne_iff_ne, beq_iff_eq, bne_eq_false_iff_eq, beq_eq_false_iff_ne, gt_iff_lt, ge_iff_le, Int.not_lt, Int.not_le, ne_eq, Bool.true_eq_false, Bool.false_eq_true, reduceCtorEq, eta_Airway, eta_Fan, eta_Mine, bytes_nil] at hG; (try simp only [List.length_map]); omega) ?_
    | refine EqI.mk _ (fun _ => wrapI (by omega) (by omega)) ?_
    | refine EqI.mk _ (fun _ => rfl) ?_
    | refine FlF.keep ?_
    | refine EqN.mk _ (ln eY) ?_
    | refine EqN.mk _ (ln eI) ?_
    | refine EqN.mk _ (ln eB) ?_
    | refine EqN.mk _ (Nat.zero_add _) ?_
    | refine EqN.mk (_ + 1) rfl ?_
    | refine EqN.mk _ (Int.toNat_natCast _) ?_
    | refine EqN.mk _ rfl ?_
    | refine EqL.mk _ (sn0 eY) ?_
    | refine EqL.mk _ (sn eY (by first | rfl | assumption | omega | (simp only [List.length_map, List.length_cons, List.length_nil, List.length_append, List.length_set, List.length_replicate, iotaI_len]; done) | (simp only [List.length_map, List.length_cons, List.length_nil, List.length_append, List.length_set, List.length_replicate, iotaI_len]; omega))) ?_
    | refine EqL.mk _ (ap0 eY) ?_
    | refine EqL.mk _ (ap eY (by first | rfl | assumption | omega | (simp only [List.length_map, List.length_cons, List.length_nil, List.length_append, List.length_set, List.length_replicate, iotaI_len]; done) | (simp only [List.length_map, List.length_cons, List.length_nil, List.length_append, List.length_set, List.length_replicate, iotaI_len]; omega))) ?_
    | refine EqL.mk _ (tk eY (by first | rfl | assumption | omega | (simp only [List.length_map, List.length_cons, List.length_nil, List.length_append, List.length_set, List.length_replicate, iotaI_len]; done) | (simp only [List.length_map, List.length_cons, List.length_nil, List.length_append, List.length_set, List.length_replicate, iotaI_len]; omega))) ?_
    | refine EqL.mk _ (st eY) ?_
    | refine EqL.mk _ (sn0 eI) ?_
    | refine EqL.mk _ (sn eI (by first | rfl | assumption | omega | (simp only [List.length_map, List.length_cons, List.length_nil, List.length_append, List.length_set, List.length_replicate, iotaI_len]; done) | (simp only [List.length_map, List.length_cons, List.length_nil, List.length_append, List.length_set, List.length_replicate, iotaI_len]; omega))) ?_
    | refine EqL.mk _ (ap0 eI) ?_
    | refine EqL.mk _ (ap eI (by first | rfl | assumption | omega | (simp only [List.length_map, List.length_cons, List.length_nil, List.length_append, List.length_set, List.length_replicate, iotaI_len]; done) | (simp only [List.length_map, List.length_cons, List.length_nil, List.length_append, List.length_set, List.length_replicate, iotaI_len]; omega))) ?_
    | refine EqL.mk _ (tk eI (by first | rfl | assumption | omega | (simp only [List.length_map, List.length_cons, List.length_nil, List.length_append, List.length_set, List.length_replicate, iotaI_len]; done) | (simp only [List.length_map, List.length_cons, List.length_nil, List.length_append, List.length_set, List.length_replicate, iotaI_len]; omega))) ?_
    | refine EqL.mk _ (st eI) ?_
    | refine EqL.mk _ (sn0 eB) ?_
    | refine EqL.mk _ (sn eB (by first | rfl | assumption | omega | (simp only [List.length_map, List.length_cons, List.length_nil, List.length_append, List.length_set, List.length_replicate, iotaI_len]; done) | (simp only [List.length_map, List.length_cons, List.length_nil, List.length_append, List.length_set, List.length_replicate, iotaI_len]; omega))) ?_
    | refine EqL.mk _ (ap0 eB) ?_
    | refine EqL.mk _ (ap eB (by first | rfl | assumption | omega | (simp only [List.length_map, List.length_cons, List.length_nil, List.length_append, List.length_set, List.length_replicate, iotaI_len]; done) | (simp only [List.length_map, List.length_cons, List.length_nil, List.length_append, List.length_set, List.length_replicate, iotaI_len]; omega))) ?_
    | refine EqL.mk _ (tk eB (by first | rfl | assumption | omega | (simp only [List.length_map, List.length_cons, List.length_nil, List.length_append, List.length_set, List.length_replicate, iotaI_len]; done) | (simp only [List.length_map, List.length_cons, List.length_nil, List.length_append, List.length_set, List.length_replicate, iotaI_len]; omega))) ?_
    | refine EqL.mk _ (st eB) ?_
    | refine EqL.mk [] rfl ?_
    | refine EqL.mk [_] rfl ?_
    | refine EqL.mk _ rfl ?_
    | refine ArgF.is (c_laws_b10Long ..) ?_
    | refine ArgQ.is (fun hG => c_laws_b10Long ..) rfl rfl ?_
    | refine ArgF.is (c_spec_DrawLeastPush ..) ?_
    | refine ArgQ.is (fun hG => c_spec_DrawLeastPush ..) rfl rfl ?_
    | refine ArgF.is (c_impl_LeastPush ⟨_, _⟩ _ _ _ _) ?_
    | refine ArgQ.is (fun hG => c_impl_LeastPush ⟨_, _⟩ _ _ _ _) rfl rfl ?_
    | refine ArgF.is (c_impl_PotentialsOf ⟨_, _⟩ _ _ _) ?_
    | refine ArgQ.is (fun hG => c_impl_PotentialsOf ⟨_, _⟩ _ _ _) rfl rfl ?_
    | refine ArgF.is (c_spec_DrawFewestBoosters ..) ?_
    | refine ArgQ.is (fun hG => c_spec_DrawFewestBoosters ..) rfl rfl ?_
    | refine ArgF.is (c_impl_FewestBoosters ⟨_, _⟩ _ _ _ _ _ _) ?_
    | refine ArgQ.is (fun hG => c_impl_FewestBoosters ⟨_, _⟩ _ _ _ _ _ _) rfl rfl ?_
    | refine ArgF.is (c_laws_b10Has ..) ?_
    | refine ArgQ.is (fun hG => c_laws_b10Has ..) rfl rfl ?_
    | refine CallF.mk (CallW.is [] true rfl ?_)
    | refine CallG.mk ?_
    | (refine CondF.mk (fun hb => ?_) (fun hb => ?_) <;> try simp only [forall_const, eq_self, not_true_eq_false, not_false_eq_true, or_false, false_or, or_self, or_true, true_or, and_true, true_and, and_false, false_and, decide_true, decide_false, Bool.not_true, Bool.not_false, decide_eq_true_eq, decide_eq_false_iff_not, ite_and_p, ite_or_p, Bool.decide_eq_true, Bool.and_eq_true, Bool.or_eq_true, Bool.not_eq_true', Bool.not_eq_false', Bool.and_eq_false_imp, Bool.or_eq_false_iff, bne_iff_ne, beq_iff_eq, bne_eq_false_iff_eq, beq_eq_false_iff_ne, gt_iff_lt, ge_iff_le, Int.not_lt, Int.not_le, ne_eq, Bool.true_eq_false, Bool.false_eq_true, reduceCtorEq, eta_Airway, eta_Fan, eta_Mine] at hb)
    | apply BackF.auto2
    | refine BackB.mk ?_ ?_
    | refine RetF.auto (And.intro rfl ?_)
    | exact Is.mk rfl rfl
    | refine Is.mk ?_ rfl
    | refine Is.mk rfl ?_
    | refine Is.mk ?_ ?_
  all_goals try dsimp only
  all_goals first
    | omega
    | (exfalso; have q1 := hA (by assumption); have q2 := (hL (by assumption)).2; omega)
    | (have q := (hF (by first | assumption | omega)).1; exact ⟨by omega, by omega, by first | assumption | omega, (hF (by first | assumption | omega)).2.2.2.1.symm, rfl, q.1⟩)
    | (have e := congrArg List.length (few_no g2 (by assumption))
       rw [List.length_take] at e
       simp only [List.length_nil] at e
       rw [show (n2 : Int) = 0 by omega]; rfl)
    | (exfalso
       have q1 := (hF m2).2.1 i m0 (by omega)
       simp only [List.length_map] at hb
       rcases hb with ((hb | hb) | hb) | hb
       · omega
       · omega
       · exact hb q1.2.1
       · have := q1.2.2 hb.1; omega)
    | (have q1 := (hF m2).2.2.2.2 i m0 m1
       have q2 := q1.2.1 (ys2.getD i.toNat 0).toNat
       rw [← m3] at q2
       have q3 := (hF m2).1
       exact ⟨by omega, by omega, m2, by rw [q1.2.2 (by omega), ← m3, wrapI (by omega) (by omega)], by rw [List.length_set]; exact m4, m5⟩)
    | (have e : o3 = 0 ∨ o3 = 2 := by
         rw [u3, m3, show i = (n2 : Int) by omega]; exact (hF m2).2.2.1
       rcases e with e | e <;> (rw [e]; rfl))
    | skip
end Go.Proofs.Ytfeebelnpibppaa
