/- Contracts of functions of the program, and what they compute. Conditions: those that each theorem states. -/
import Derived.Test.YticilhlmmakbkaaDoorProg
import Derived.Test.YticilhlmmakbkaaDoorS4
import Derived.Test.YticilhlmmakbkaaDoorS3b
set_option linter.unusedVariables false
set_option linter.unusedSimpArgs false
namespace Go.Proofs.YticilhlmmakbkaaDoor
open Go.Av
attribute [local irreducible] Go.IntKind.wrap okModes okMode bestT argT costM stepW leastV memoOk leftS fitH updM pathM dayN okHours
set_option maxRecDepth 20000
set_option maxHeartbeats 40000000

/-! The best day. -/
theorem path_b {ms : List GMode} {needs prices : List Int} {peak sw : Int} (h : 0 ≤ leastV ms needs prices peak 24 (-1) sw) (hs : 0 ≤ sw ∧ sw ≤ 24) {t : Int} (h0 : 0 ≤ t) (h1 : t ≤ 24) : (-1 ≤ (pathM ms needs prices peak sw t.toNat).1 ∧ (pathM ms needs prices peak sw t.toNat).1 < ms.length) ∧ 0 ≤ (pathM ms needs prices peak sw t.toNat).2 ∧ (pathM ms needs prices peak sw t.toNat).2 ≤ 24 := by
  have h2 := path_ok h hs.1 t.toNat (by omega)
  refine ⟨?_, h2.2.1, by omega⟩
  cases e : t.toNat with
  | zero => unfold pathM; dsimp only; omega
  | succ i =>
    have := (path_s (by omega) (path_ok h hs.1 i (by omega)).1).1
    omega
theorem c_impl_bestDay (ms : List GMode) (needs prices : List Int) (sw peak : Int) (hpk : -1 ≤ peak ∧ peak ≤ 10000000) : FnSem Tryd.prog 26 [.p .any (.lst (GMode.cells default) (ms.map GMode.cells)), Lx (LI needs), Lx (LI prices), In sw, In peak] [] (Is [.osl 0 0 (bestD ms needs prices sw peak).1.length, In (bestD ms needs prices sw peak).2.1, In (bestD ms needs prices sw peak).2.2] [Rw .flat (eI 0) ((bestD ms needs prices sw peak).1.map eI)]) := by
  refine FnSem.walk (zs := zeroPV Tryd.prog) (by kernel_rfl) Tryd.func26 rfl Tryd.results26 (by kernel_rfl) (by kernel_rfl) (by kernel_rfl) fun hw hh => ?_
  obtain ⟨w0, w1, w2, w3, w4, _⟩ := hw
  first | replace w0 := wf_LMode w0 | skip
  first | replace w1 := wf_I w1 | replace w1 := wf_Y w1 | replace w1 := wf_S w1 | replace w1 := wf_LI w1 | replace w1 := wf_LY w1 | replace w1 := wf_LLI w1 | replace w1 := wf_Ls w1 | skip
  first | replace w2 := wf_I w2 | replace w2 := wf_Y w2 | replace w2 := wf_S w2 | replace w2 := wf_LI w2 | replace w2 := wf_LY w2 | replace w2 := wf_LLI w2 | replace w2 := wf_Ls w2 | skip
  first | replace w3 := wf_I w3 | replace w3 := wf_Y w3 | replace w3 := wf_S w3 | replace w3 := wf_LI w3 | replace w3 := wf_LY w3 | replace w3 := wf_LLI w3 | replace w3 := wf_Ls w3 | skip
  first | replace w4 := wf_I w4 | replace w4 := wf_Y w4 | replace w4 := wf_S w4 | replace w4 := wf_LI w4 | replace w4 := wf_LY w4 | replace w4 := wf_LLI w4 | replace w4 := wf_Ls w4 | skip
  repeat' first
    | refine And.intro rfl ?_
    | refine GdF.mk (fun h => h) ?_
    | refine And.intro (Nat.succ_ne_zero _) ?_
    | refine And.intro (Nat.le_of_ble_eq_true rfl) ?_
    | refine SeqF.run ?_
    | refine CallF.mk (f := 43) (CallW.is [1] true rfl ?_)
    | (refine ArgF.ret (leastC ms needs prices peak (by assumption) (by simp_all [okHours_iff]) (by simp_all) hpk 24 (by omega) 0 (-1) sw (fun _ => none) (by omega) (by omega) (by omega) (by simp_all [inR_iff]) (by simp_all [inR_iff]) memo_0) ?_; intro f0 hf0)
    | refine LoopF.at 11 rfl (LoopF.fix [0, 2, 13, 14, 15] (Int × Int × Int × Nat × List Int × (Value → Option Int)) (fun (t, m, s, n, xs, f) => 0 ≤ t ∧ t ≤ 24 ∧ (n = xs.length ∧ (n : Int) = t) ∧ xs = dayN ms needs prices peak sw t.toNat ∧ memoOk ms needs prices peak f ∧ dayF ms needs prices peak sw ∧ m = (pathM ms needs prices peak sw t.toNat).1 ∧ s = (pathM ms needs prices peak sw t.toNat).2 ∧ (-1 ≤ m ∧ m < ms.length) ∧ 0 ≤ s ∧ s ≤ 24) (fun (t, m, s, n, xs, f) => [(16, .osl 3 0 n)]) (fun (t, m, s, n, xs, f) => [(1, .mp true stIs f), (2, .fix [In t, In m, In s]), (3, Rw .flat (eI 0) (xs.map eI))]) (fun (t, m, s, n, xs, f) => ((24 - t).toNat)) ((0, -1, sw, 0, [], f0)) ?_)
    | (refine LoopB.of (T := Int × Int × Int × Nat × List Int × (Value → Option Int)) ?_ ?_; rotate_left; rintro ⟨t, m, s, n, xs, f⟩ ⟨h0, h1, h2, h3, h4, hF, h5, h6, h7, h8, h9⟩; rotate_left)
    | refine LoopF.at 13 rfl (LoopF.fix [0, 2, 13, 14, 15, 55, 56] (Int × (Value → Option Int)) (fun (i, f2) => 0 ≤ i ∧ i ≤ ms.length ∧ memoOk ms needs prices peak f2 ∧ t < 24 ∧ ∀ j : Nat, (j : Int) < i → ¬stepW ms needs prices peak (leastV ms needs prices peak (23 - t.toNat)) t m s j = leastV ms needs prices peak (24 - t.toNat) m s) (fun (i, f2) => [(57, In i), (16, .osl 3 0 n)]) (fun (i, f2) => [(1, .mp true stIs f2)]) (fun (i, f2) => ((ms.length - i).toNat)) ((0, f)) ?_)
    | (refine LoopB.of (T := Int × (Value → Option Int)) ?_ ?_; rotate_left; rintro ⟨i, f2⟩ ⟨g0, g1, g2, g3, g4⟩; rotate_left)
    | refine ArgF.is (c_impl_dayPlan_next ms needs prices peak t m s i (okHours_iff.1 hF.1.2.1).1 (by omega) (by omega) (by omega)) ?_
    | refine ArgQ.is (fun hG => c_impl_dayPlan_next ms needs prices peak t m s i (okHours_iff.1 hF.1.2.1).1 (by omega) (by omega) (by omega)) rfl rfl ?_
    | refine EqP.mk _ (gmb GMode.cells default (by omega)) ?_
    | refine ArgF.is (c_impl_Mode_cost (ms.getD i.toNat default) _ (mode_b hF.1.1 (by omega)) (price_b hF.1.2.2 (by omega) (by omega))) ?_
    | refine ArgQ.is (fun hG => c_impl_Mode_cost (ms.getD i.toNat default) _ (mode_b hF.1.1 (by omega)) (price_b hF.1.2.2 (by omega) (by omega))) rfl rfl ?_
    | (refine ArgF.ret (leastC ms needs prices peak hF.1.1 (okHours_iff.1 hF.1.2.1).1 hF.1.2.2 hpk (23 - t.toNat) (by omega) (t + 1) i (leftS m s i) _ (by omega) (by omega) (by omega) (by simp_all) (Int.le_trans left_le h9) (by assumption)) ?_; intro f3 hf3)
    | (refine ArgF.ret (leastC ms needs prices peak hF.1.1 (okHours_iff.1 hF.1.2.1).1 hF.1.2.2 hpk (24 - t.toNat) (by omega) t m s _ (by omega) (by omega) (by omega) (by omega) (by omega) (by assumption)) ?_; intro f4 hf4)
    | refine OpH.heap ?_
    | refine GhF.held 16 rfl [(4, [1]), (10, [1]), (21, [1])] ?_
    | refine GdS.tt (by first | rfl | assumption) ?_
    | refine GdS.ff (by first | rfl | assumption | exact ite_self _) ?_
    | refine GdS.split (G := (decide (0 ≤ leftS _ _ _) && fitH _ _ _ _ _)) (fun hg => ?_) (fun hg => ?_)
    | refine GdS.split (G := ite (_ = true) (decide (leastV _ _ _ _ _ _ _ ≥ 0)) false) (fun hg2 => ?_) (fun hg2 => ?_)
    | refine BndF.mk (fun _ => by rw [List.length_map]; have := (okHours_iff.1 hF.1.2.2).1; omega) ?_
    | refine GdF.mk (fun h => by first | exact h | rfl | assumption | (rw [hg] at h; exact h) | (rw [hg2] at h; exact h)) ?_
    | refine HdF.at 23 rfl 0 [] (And.intro (by decide +kernel) (And.intro rfl ?_))
    | refine HdF.at 22 rfl 1 [] (And.intro (by decide +kernel) (And.intro rfl ?_))
    | refine HdF.at 21 rfl 2 [4, 5, 6, 7, 8, 9, 10, 11, 12, 13, 14, 15, 16, 17, 18, 19, 20, 21, 22, 23] (And.intro (by decide +kernel) (And.intro rfl ?_))
    | refine HdF.at 20 rfl 3 [4, 5, 6, 7, 8, 9, 10, 11, 12, 13, 14, 15, 16, 17, 18, 19, 20, 21, 22, 23] (And.intro (by decide +kernel) (And.intro rfl ?_))
    | refine HdF.goAt 19 rfl ?_
    | refine OrdL.at 13 rfl 8 [10, 17, 18, 21, 22, 23] (And.intro rfl (And.intro (by decide +kernel) (And.intro rfl ?_)))
    | refine OrdL.at 12 rfl 9 [10, 17, 18, 21, 22, 23] (And.intro rfl (And.intro (by decide +kernel) (And.intro rfl ?_)))
    | refine OrdL.at 11 rfl 11 [17, 18, 21, 22, 23] (And.intro rfl (And.intro (by decide +kernel) (And.intro rfl ?_)))
    | refine OrdL.at 10 rfl 14 [15, 16, 17, 18, 21, 22, 23] (And.intro rfl (And.intro (by decide +kernel) (And.intro rfl ?_)))
    | refine OrdL.at 8 rfl 16 [17, 18, 21, 22, 23] (And.intro rfl (And.intro (by decide +kernel) (And.intro rfl ?_)))
    | refine OrdL.at 7 rfl 19 [21, 22, 23] (And.intro rfl (And.intro (by decide +kernel) (And.intro rfl ?_)))
    | refine OrdL.at 6 rfl 20 [21, 22, 23] (And.intro rfl (And.intro (by decide +kernel) (And.intro rfl ?_)))
    | refine OrdL.ord ?_
    | refine OrdF.take 5 (by decide +kernel) (And.intro rfl ?_)
    | refine OrdF.take 6 (by decide +kernel) (And.intro rfl ?_)
    | refine OrdF.take 7 (by decide +kernel) (And.intro rfl ?_)
    | refine OrdF.take 12 (by decide +kernel) (And.intro rfl ?_)
    | refine OrdF.take 13 (by decide +kernel) (And.intro rfl ?_)
    | refine OrdF.take 15 (by decide +kernel) (And.intro rfl ?_)
    | refine OrdF.take 18 (by decide +kernel) (And.intro rfl ?_)
    | refine OrdF.take 22 (by decide +kernel) (And.intro rfl ?_)
    | refine OrdF.take 23 (by decide +kernel) (And.intro rfl ?_)
    | refine OrdF.all [21] (by decide +kernel) ?_
    | refine OrdF.all [17] (by decide +kernel) ?_
    | refine OrdF.all [10] (by decide +kernel) ?_
    | refine OrdF.all [4] (by decide +kernel) ?_
    | refine OrdF.fin (by decide +kernel) ?_
    | refine AllF.one _ ?_
    | refine AllF.cons _ _ ?_ ?_
    | refine OpH.quiet rfl ?_
    | refine OpH.heap ?_
    | refine GhF.go ?_
    | refine GdS.keep ?_
    | refine DrawG.old (DrawF.lex (by decide +kernel) ?_)
    | refine MkF.row ?_
    | refine EqP.mk _ (gm eI 0 rfl) ?_
    | refine EqP.mk _ (gm GMode.cells default rfl) ?_
    | refine BndF.mk (fun _ => by omega) ?_
    | refine BndF.mk (fun _ => by simp only [List.length_map, List.length_cons, List.length_nil, List.length_append, List.length_set, List.length_replicate, iotaI_len]; omega) ?_
    | refine BndF.mk (fun hG => by simp only [forall_const, eq_self, not_true_eq_false, not_false_eq_true, or_false, false_or, or_self, or_true, true_or, and_true, true_and, and_false, false_and, decide_true, decide_false, Bool.not_true, Bool.not_false, decide_eq_true_eq, decide_eq_false_iff_not, ite_and_p, ite_or_p, Bool.decide_eq_true, Bool.and_eq_true, Bool.or_eq_true, Bool.not_eq_true', Bool.not_eq_false', Bool.and_eq_false_imp, Bool.or_eq_false_iff, bne_iff_ne, beq_iff_eq, bne_eq_false_iff_eq, beq_eq_false_iff_ne, gt_iff_lt, ge_iff_le, Int.not_lt, Int.not_le, ne_eq, Bool.true_eq_false, Bool.false_eq_true, reduceCtorEq, eta_Mode, bytes_nil] at hG; (try simp only [List.length_map]); omega) ?_
    | refine EqI.mk _ (fun _ => wrapI (by omega) (by omega)) ?_
    | refine EqI.mk _ (fun _ => rfl) ?_
    | refine FlF.keep ?_
    | refine EqN.mk _ (ln eI) ?_
    | refine EqN.mk _ (ln GMode.cells) ?_
    | refine EqN.mk _ (Nat.zero_add _) ?_
    | refine EqN.mk (_ + 1) rfl ?_
    | refine EqN.mk _ (Int.toNat_natCast _) ?_
    | refine EqN.mk _ rfl ?_
    | refine EqL.mk _ (sn0 eI) ?_
    | refine EqL.mk _ (sn eI (by first | rfl | assumption | omega | (simp only [List.length_map, List.length_cons, List.length_nil, List.length_append, List.length_set, List.length_replicate, iotaI_len]; done) | (simp only [List.length_map, List.length_cons, List.length_nil, List.length_append, List.length_set, List.length_replicate, iotaI_len]; omega))) ?_
    | refine EqL.mk _ (ap0 eI) ?_
    | refine EqL.mk _ (ap eI (by first | rfl | assumption | omega | (simp only [List.length_map, List.length_cons, List.length_nil, List.length_append, List.length_set, List.length_replicate, iotaI_len]; done) | (simp only [List.length_map, List.length_cons, List.length_nil, List.length_append, List.length_set, List.length_replicate, iotaI_len]; omega))) ?_
    | refine EqL.mk _ (tk eI (by first | rfl | assumption | omega | (simp only [List.length_map, List.length_cons, List.length_nil, List.length_append, List.length_set, List.length_replicate, iotaI_len]; done) | (simp only [List.length_map, List.length_cons, List.length_nil, List.length_append, List.length_set, List.length_replicate, iotaI_len]; omega))) ?_
    | refine EqL.mk _ (st eI) ?_
    | refine EqL.mk _ (dt eI) ?_
    | refine EqL.mk _ (sn0 GMode.cells) ?_
    | refine EqL.mk _ (sn GMode.cells (by first | rfl | assumption | omega | (simp only [List.length_map, List.length_cons, List.length_nil, List.length_append, List.length_set, List.length_replicate, iotaI_len]; done) | (simp only [List.length_map, List.length_cons, List.length_nil, List.length_append, List.length_set, List.length_replicate, iotaI_len]; omega))) ?_
    | refine EqL.mk _ (ap0 GMode.cells) ?_
    | refine EqL.mk _ (ap GMode.cells (by first | rfl | assumption | omega | (simp only [List.length_map, List.length_cons, List.length_nil, List.length_append, List.length_set, List.length_replicate, iotaI_len]; done) | (simp only [List.length_map, List.length_cons, List.length_nil, List.length_append, List.length_set, List.length_replicate, iotaI_len]; omega))) ?_
    | refine EqL.mk _ (tk GMode.cells (by first | rfl | assumption | omega | (simp only [List.length_map, List.length_cons, List.length_nil, List.length_append, List.length_set, List.length_replicate, iotaI_len]; done) | (simp only [List.length_map, List.length_cons, List.length_nil, List.length_append, List.length_set, List.length_replicate, iotaI_len]; omega))) ?_
    | refine EqL.mk _ (st GMode.cells) ?_
    | refine EqL.mk _ (dt GMode.cells) ?_
    | refine EqL.mk [] rfl ?_
    | refine EqL.mk [_] rfl ?_
    | refine EqL.mk _ rfl ?_
    | refine ArgF.is (c_impl_ValidModes ..) ?_
    | refine ArgQ.is (fun hG => c_impl_ValidModes ..) rfl rfl ?_
    | refine ArgF.is (c_impl_needsOk ..) ?_
    | refine ArgQ.is (fun hG => c_impl_needsOk ..) rfl rfl ?_
    | refine ArgF.is (c_impl_pricesOk ..) ?_
    | refine ArgQ.is (fun hG => c_impl_pricesOk ..) rfl rfl ?_
    | refine ArgF.is (c_impl_within ..) ?_
    | refine ArgQ.is (fun hG => c_impl_within ..) rfl rfl ?_
    | refine ArgF.is (c_impl_dayPlan_least ..) ?_
    | refine ArgQ.is (fun hG => c_impl_dayPlan_least ..) rfl rfl ?_
    | refine ArgF.is (c_impl_dayPlan_next _ _ _ _ (by first | assumption | omega) _ _ _ (by first | assumption | omega) (by first | assumption | omega) (by first | assumption | omega) (by first | assumption | omega)) ?_
    | refine ArgQ.is (fun hG => c_impl_dayPlan_next _ _ _ _ (by first | assumption | omega) _ _ _ (by first | assumption | omega) (by first | assumption | omega) (by first | assumption | omega) (by first | assumption | omega)) rfl rfl ?_
    | refine ArgQ.is (fun hG => c_impl_dayPlan_next _ _ _ _ (by simp only [forall_const, eq_self, not_true_eq_false, not_false_eq_true, or_false, false_or, or_self, or_true, true_or, and_true, true_and, and_false, false_and, decide_true, decide_false, Bool.not_true, Bool.not_false, decide_eq_true_eq, decide_eq_false_iff_not, ite_and_p, ite_or_p, Bool.decide_eq_true, Bool.and_eq_true, Bool.or_eq_true, Bool.not_eq_true', Bool.not_eq_false', Bool.and_eq_false_imp, Bool.or_eq_false_iff, bne_iff_ne, beq_iff_eq, bne_eq_false_iff_eq, beq_eq_false_iff_ne, gt_iff_lt, ge_iff_le, Int.not_lt, Int.not_le, ne_eq, Bool.true_eq_false, Bool.false_eq_true, reduceCtorEq, eta_Mode, bytes_nil] at hG; omega) _ _ _ (by simp only [forall_const, eq_self, not_true_eq_false, not_false_eq_true, or_false, false_or, or_self, or_true, true_or, and_true, true_and, and_false, false_and, decide_true, decide_false, Bool.not_true, Bool.not_false, decide_eq_true_eq, decide_eq_false_iff_not, ite_and_p, ite_or_p, Bool.decide_eq_true, Bool.and_eq_true, Bool.or_eq_true, Bool.not_eq_true', Bool.not_eq_false', Bool.and_eq_false_imp, Bool.or_eq_false_iff, bne_iff_ne, beq_iff_eq, bne_eq_false_iff_eq, beq_eq_false_iff_ne, gt_iff_lt, ge_iff_le, Int.not_lt, Int.not_le, ne_eq, Bool.true_eq_false, Bool.false_eq_true, reduceCtorEq, eta_Mode, bytes_nil] at hG; omega) (by simp only [forall_const, eq_self, not_true_eq_false, not_false_eq_true, or_false, false_or, or_self, or_true, true_or, and_true, true_and, and_false, false_and, decide_true, decide_false, Bool.not_true, Bool.not_false, decide_eq_true_eq, decide_eq_false_iff_not, ite_and_p, ite_or_p, Bool.decide_eq_true, Bool.and_eq_true, Bool.or_eq_true, Bool.not_eq_true', Bool.not_eq_false', Bool.and_eq_false_imp, Bool.or_eq_false_iff, bne_iff_ne, beq_iff_eq, bne_eq_false_iff_eq, beq_eq_false_iff_ne, gt_iff_lt, ge_iff_le, Int.not_lt, Int.not_le, ne_eq, Bool.true_eq_false, Bool.false_eq_true, reduceCtorEq, eta_Mode, bytes_nil] at hG; omega) (by simp only [forall_const, eq_self, not_true_eq_false, not_false_eq_true, or_false, false_or, or_self, or_true, true_or, and_true, true_and, and_false, false_and, decide_true, decide_false, Bool.not_true, Bool.not_false, decide_eq_true_eq, decide_eq_false_iff_not, ite_and_p, ite_or_p, Bool.decide_eq_true, Bool.and_eq_true, Bool.or_eq_true, Bool.not_eq_true', Bool.not_eq_false', Bool.and_eq_false_imp, Bool.or_eq_false_iff, bne_iff_ne, beq_iff_eq, bne_eq_false_iff_eq, beq_eq_false_iff_ne, gt_iff_lt, ge_iff_le, Int.not_lt, Int.not_le, ne_eq, Bool.true_eq_false, Bool.false_eq_true, reduceCtorEq, eta_Mode, bytes_nil] at hG; omega) (by simp only [forall_const, eq_self, not_true_eq_false, not_false_eq_true, or_false, false_or, or_self, or_true, true_or, and_true, true_and, and_false, false_and, decide_true, decide_false, Bool.not_true, Bool.not_false, decide_eq_true_eq, decide_eq_false_iff_not, ite_and_p, ite_or_p, Bool.decide_eq_true, Bool.and_eq_true, Bool.or_eq_true, Bool.not_eq_true', Bool.not_eq_false', Bool.and_eq_false_imp, Bool.or_eq_false_iff, bne_iff_ne, beq_iff_eq, bne_eq_false_iff_eq, beq_eq_false_iff_ne, gt_iff_lt, ge_iff_le, Int.not_lt, Int.not_le, ne_eq, Bool.true_eq_false, Bool.false_eq_true, reduceCtorEq, eta_Mode, bytes_nil] at hG; omega)) rfl rfl ?_
    | refine ArgF.is (c_impl_Mode_cost ⟨_, _, _⟩ _ (by first | assumption | omega) (by first | assumption | omega)) ?_
    | refine ArgQ.is (fun hG => c_impl_Mode_cost ⟨_, _, _⟩ _ (by first | assumption | omega) (by first | assumption | omega)) rfl rfl ?_
    | refine ArgQ.is (fun hG => c_impl_Mode_cost ⟨_, _, _⟩ _ (by simp only [forall_const, eq_self, not_true_eq_false, not_false_eq_true, or_false, false_or, or_self, or_true, true_or, and_true, true_and, and_false, false_and, decide_true, decide_false, Bool.not_true, Bool.not_false, decide_eq_true_eq, decide_eq_false_iff_not, ite_and_p, ite_or_p, Bool.decide_eq_true, Bool.and_eq_true, Bool.or_eq_true, Bool.not_eq_true', Bool.not_eq_false', Bool.and_eq_false_imp, Bool.or_eq_false_iff, bne_iff_ne, beq_iff_eq, bne_eq_false_iff_eq, beq_eq_false_iff_ne, gt_iff_lt, ge_iff_le, Int.not_lt, Int.not_le, ne_eq, Bool.true_eq_false, Bool.false_eq_true, reduceCtorEq, eta_Mode, bytes_nil] at hG; omega) (by simp only [forall_const, eq_self, not_true_eq_false, not_false_eq_true, or_false, false_or, or_self, or_true, true_or, and_true, true_and, and_false, false_and, decide_true, decide_false, Bool.not_true, Bool.not_false, decide_eq_true_eq, decide_eq_false_iff_not, ite_and_p, ite_or_p, Bool.decide_eq_true, Bool.and_eq_true, Bool.or_eq_true, Bool.not_eq_true', Bool.not_eq_false', Bool.and_eq_false_imp, Bool.or_eq_false_iff, bne_iff_ne, beq_iff_eq, bne_eq_false_iff_eq, beq_eq_false_iff_ne, gt_iff_lt, ge_iff_le, Int.not_lt, Int.not_le, ne_eq, Bool.true_eq_false, Bool.false_eq_true, reduceCtorEq, eta_Mode, bytes_nil] at hG; omega)) rfl rfl ?_
    | refine CallF.mk (CallW.is [] true rfl ?_)
    | refine CallG.mk ?_
    | (refine CondF.mk (fun hb => ?_) (fun hb => ?_) <;> try simp only [forall_const, eq_self, not_true_eq_false, not_false_eq_true, or_false, false_or, or_self, or_true, true_or, and_true, true_and, and_false, false_and, decide_true, decide_false, Bool.not_true, Bool.not_false, decide_eq_true_eq, decide_eq_false_iff_not, ite_and_p, ite_or_p, Bool.decide_eq_true, Bool.and_eq_true, Bool.or_eq_true, Bool.not_eq_true', Bool.not_eq_false', Bool.and_eq_false_imp, Bool.or_eq_false_iff, bne_iff_ne, beq_iff_eq, bne_eq_false_iff_eq, beq_eq_false_iff_ne, gt_iff_lt, ge_iff_le, Int.not_lt, Int.not_le, ne_eq, Bool.true_eq_false, Bool.false_eq_true, reduceCtorEq, eta_Mode] at hb)
    | apply BackF.auto6
    | apply BackF.auto2
    | refine BackB.mk ?_ ?_
    | refine RetF.auto (And.intro rfl ?_)
    | exact Is.mk rfl rfl
    | refine Is.mk ?_ rfl
    | refine Is.mk rfl ?_
    | refine Is.mk ?_ ?_
  all_goals try dsimp only
  all_goals first
    | omega
    | exact ⟨by omega, by omega, ⟨rfl, rfl⟩, by unfold dayN; rfl, hf0, ⟨⟨by assumption, by simp_all, by simp_all⟩, by simp_all [inR_iff], by assumption⟩, by unfold pathM; rfl, by unfold pathM; rfl, by omega, by simp_all [inR_iff]⟩
    | exact ⟨by omega, by omega, h4, by assumption, fun j hj => absurd hj (by omega)⟩
    | (have hq := hb
       exact (day_none hF h0 g3 h5 h6 hq g4).elim)
    | exact ⟨by omega, by omega, hf4, g3, day_not hF h0 g3 g0 (by omega) g4 hg hg2 hb⟩
    | exact ⟨by omega, by omega, hf3, g3, day_miss hF h0 g3 h5 h6 g0 g4 (.inr (guard_r hg hg2))⟩
    | exact ⟨by omega, by omega, g2, g3, day_miss hF h0 g3 h5 h6 g0 g4 (.inl (guard_f hg))⟩
    | (have q := day_hit hF h0 g3 h5 h6 g0 (by omega) g4 hb
       exact ⟨by omega, by omega, ⟨by simp [h2.1], by omega⟩, by rw [q.1, ← h3], hf4, hF, q.2.1, q.2.2, by omega, hb.1.1.1, Int.le_trans left_le h9⟩)
    | (rw [bestD_1 (by assumption)] <;> rfl)
    | (rw [bestD_2 (by assumption) hb] <;> rfl)
    | (rw [bestD_3 (by assumption) (by assumption) hb] <;> rfl)
    | (rw [bestD_0 hF (by omega) h1, ← h3, h2.1] <;> rfl)
    | (rw [bestD_0 hF (by omega) h1, ← h3] <;> rfl)
    | skip
end Go.Proofs.YticilhlmmakbkaaDoor
