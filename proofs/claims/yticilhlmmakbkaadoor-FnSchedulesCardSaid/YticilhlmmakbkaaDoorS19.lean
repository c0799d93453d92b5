/- Contracts of functions of the program, and what they compute. Conditions: those that each theorem states. -/
import Derived.Test.YticilhlmmakbkaaDoorProg
import Derived.Test.YticilhlmmakbkaaDoorS18
import Derived.Test.YticilhlmmakbkaaDoorS17
import Derived.Test.YticilhlmmakbkaaDoorT3
set_option linter.unusedVariables false
set_option linter.unusedSimpArgs false
namespace Go.Proofs.YticilhlmmakbkaaDoor
open Go.Av
attribute [local irreducible] Go.IntKind.wrap okModes okMode okHours leastV pathM dayN isDay dayCost peakPow bestD peakT readDay dayText needs
set_option maxRecDepth 20000
set_option maxHeartbeats 8000000

/-! Schedules: the law. -/
theorem takT {ys : List Int} {n : Nat} : ((ys.map eI).drop 0).take n = (ys.take n).map eI := by simp
theorem needs_fin {ss : List (List Int)} : (¬(needs ss).2 = 0 ∧ (needs ss).1.length = 0) ∨ ((needs ss).2 = 0 ∧ (needs ss).1.length = 24) := by
  by_cases h : okShifts ss = true
  · right
    rw [needs_t h]
    refine ⟨rfl, ?_⟩
    unfold okShifts at h
    simp only [Bool.and_eq_true] at h
    exact (needsT_b (ss := ss) (fun j hj => (all_iff (d := [])).1 h.2 j (by omega)) ss.length (Nat.le_refl _)).1
  · left
    rw [needs_f (by simpa using h)]
    exact ⟨by decide, rfl⟩
theorem needs_bool (ss : List (List Int)) : (if (if ((needs ss).2 != 0) = true then ((needs ss).1.length : Int) == 0 else false) = true then true else if ((needs ss).2 == 0) = true then ((needs ss).1.length : Int) == 24 else false) = true := by
  rcases needs_fin (ss := ss) with ⟨h, h2⟩ | ⟨h, h2⟩
  · rw [h2, if_pos]
    rw [if_pos (by simpa using h)]; rfl
  · rw [h2, h]; rfl
theorem c_laws_FnSchedules (c d : List Int) : FnSem Tryd.prog 4 [Lx (LY c), Lx (LY d)] [] (Is [Bo true] []) := by
  refine FnSem.walk (zs := zeroPV Tryd.prog) (by kernel_rfl) Tryd.func4 rfl Tryd.results4 (by kernel_rfl) (by kernel_rfl) (by kernel_rfl) fun hw hh => ?_
  obtain ⟨w0, w1, _⟩ := hw
  first | replace w0 := wf_I w0 | replace w0 := wf_Y w0 | replace w0 := wf_S w0 | replace w0 := wf_LI w0 | replace w0 := wf_LY w0 | replace w0 := wf_LLI w0 | replace w0 := wf_Ls w0 | skip
  first | replace w1 := wf_I w1 | replace w1 := wf_Y w1 | replace w1 := wf_S w1 | replace w1 := wf_LI w1 | replace w1 := wf_LY w1 | replace w1 := wf_LLI w1 | replace w1 := wf_Ls w1 | skip
  repeat' first
    | refine And.intro rfl ?_
    | refine GdF.mk (fun h => h) ?_
    | refine And.intro (Nat.succ_ne_zero _) ?_
    | refine And.intro (Nat.le_of_ble_eq_true rfl) ?_
    | refine SeqF.run ?_
    | (refine ArgF.drc (c_spec_DrawCheapestDay _) ?_; intro n1 n2 n3 ms xs ys q1 q2)
    | (refine ArgF.drn (c_spec_DrawNeedsByHour _) ?_; intro lo n4 ss q4)
    | (refine ArgF.ret (c_laws_b10At _ _ _ (by omega)) ?_; intro v _)
    | refine EqL.mk _ (tk GMode.cells (xs := ms) q1) ?_
    | refine EqL.mk _ (takT (ys := xs) (n := n2)) ?_
    | refine EqL.mk _ (takT (ys := ys) (n := n3)) ?_
    | refine EqL.mk _ (dt eLI (xs := ss) (l := lo) (n := n4)) ?_
    | refine LoopF.at 18 rfl (LoopF.fix [1, 5, 6, 7, 9, 20] (Int × Nat × List Int) (fun (h, n, zs) => 0 ≤ h ∧ h ≤ 24 ∧ n = zs.length ∧ (n : Int) = h) (fun (h, n, zs) => [(25, In h), (24, .osl 3 0 n)]) (fun (h, n, zs) => [(3, Rw .flat (eI 0) (zs.map eI))]) (fun (h, n, zs) => ((24 - h).toNat)) ((0, 0, [])) ?_)
    | (refine LoopB.of (T := Int × Nat × List Int) ?_ ?_; rotate_left; rintro ⟨h, n, zs⟩ ⟨h0, h1, h2, h3⟩; rotate_left)
    | refine GhF.go ?_
    | refine GdS.keep ?_
    | refine MkF.row ?_
    | refine BndF.mk (fun _ => by omega) ?_
    | refine BndF.mk (fun _ => by simp only [List.length_map, List.length_cons, List.length_nil, List.length_append, List.length_set, List.length_replicate, iotaI_len]; omega) ?_
    | refine BndF.mk (fun hG => by simp only [forall_const, eq_self, not_true_eq_false, not_false_eq_true, or_false, false_or, or_self, or_true, true_or, and_true, true_and, and_false, false_and, decide_true, decide_false, Bool.not_true, Bool.not_false, decide_eq_true_eq, decide_eq_false_iff_not, ite_and_p, ite_or_p, Bool.decide_eq_true, Bool.and_eq_true, Bool.or_eq_true, Bool.not_eq_true', Bool.not_eq_false', Bool.and_eq_false_imp, Bool.or_eq_false_iff, bne_iff_ne, beq_iff_eq, bne_eq_false_iff_eq, beq_eq_false_iff_ne, gt_iff_lt, ge_iff_le, Int.not_lt, Int.not_le, ne_eq, Bool.true_eq_false, Bool.false_eq_true, reduceCtorEq, eta_Mode, bytes_nil] at hG; (try simp only [List.length_map]); omega) ?_
    | refine EqI.mk _ (fun _ => wrapI (by omega) (by omega)) ?_
    | refine EqI.mk _ (fun _ => rfl) ?_
    | refine FlF.keep ?_
    | refine EqN.mk _ (ln eI) ?_
    | refine EqN.mk _ (ln eY) ?_
    | refine EqN.mk _ (ln GMode.cells) ?_
    | refine EqN.mk _ (ln eLI) ?_
    | refine EqN.mk _ (Nat.zero_add _) ?_
    | refine EqN.mk (_ + 1) rfl ?_
    | refine EqN.mk _ (Int.toNat_natCast _) ?_
    | refine EqN.mk _ rfl ?_
    | refine EqL.mk _ (sn0 eI) ?_
    | refine EqL.mk _ (sn eI (by first | rfl | assumption | omega | (simp only [List.length_map, List.length_cons, List.length_nil, List.length_append, List.length_set, List.length_replicate, iotaI_len]; done) | (simp only [List.length_map, List.length_cons, List.length_nil, List.length_append, List.length_set, List.length_replicate, iotaI_len]; omega))) ?_
    | refine EqL.mk _ (ap0 eI) ?_
    | refine EqL.mk _ (ap eI (by first | rfl | assumption | omega | (simp only [List.length_map, List.length_cons, List.length_nil, List.length_append, List.length_set, List.length_replicate, iotaI_len]; done) | (simp only [List.length_map, List.length_cons, List.length_nil, List.length_append, List.length_set, List.length_replicate, iotaI_len]; omega))) ?_
    | refine EqL.mk _ (tk eI (by first | rfl | assumption | omega | (simp only [List.length_map, List.length_cons, List.length_nil, List.length_append, List.length_set, List.length_replicate, iotaI_len]; done) | (simp only [List.length_map, List.length_cons, List.length_nil, List.length_append, List.length_set, List.length_replicate, iotaI_len]; omega))) ?_
    | refine EqL.mk _ (sn0 eY) ?_
    | refine EqL.mk _ (sn eY (by first | rfl | assumption | omega | (simp only [List.length_map, List.length_cons, List.length_nil, List.length_append, List.length_set, List.length_replicate, iotaI_len]; done) | (simp only [List.length_map, List.length_cons, List.length_nil, List.length_append, List.length_set, List.length_replicate, iotaI_len]; omega))) ?_
    | refine EqL.mk _ (ap0 eY) ?_
    | refine EqL.mk _ (ap eY (by first | rfl | assumption | omega | (simp only [List.length_map, List.length_cons, List.length_nil, List.length_append, List.length_set, List.length_replicate, iotaI_len]; done) | (simp only [List.length_map, List.length_cons, List.length_nil, List.length_append, List.length_set, List.length_replicate, iotaI_len]; omega))) ?_
    | refine EqL.mk _ (tk eY (by first | rfl | assumption | omega | (simp only [List.length_map, List.length_cons, List.length_nil, List.length_append, List.length_set, List.length_replicate, iotaI_len]; done) | (simp only [List.length_map, List.length_cons, List.length_nil, List.length_append, List.length_set, List.length_replicate, iotaI_len]; omega))) ?_
    | refine EqL.mk _ (sn0 GMode.cells) ?_
    | refine EqL.mk _ (sn GMode.cells (by first | rfl | assumption | omega | (simp only [List.length_map, List.length_cons, List.length_nil, List.length_append, List.length_set, List.length_replicate, iotaI_len]; done) | (simp only [List.length_map, List.length_cons, List.length_nil, List.length_append, List.length_set, List.length_replicate, iotaI_len]; omega))) ?_
    | refine EqL.mk _ (ap0 GMode.cells) ?_
    | refine EqL.mk _ (ap GMode.cells (by first | rfl | assumption | omega | (simp only [List.length_map, List.length_cons, List.length_nil, List.length_append, List.length_set, List.length_replicate, iotaI_len]; done) | (simp only [List.length_map, List.length_cons, List.length_nil, List.length_append, List.length_set, List.length_replicate, iotaI_len]; omega))) ?_
    | refine EqL.mk _ (tk GMode.cells (by first | rfl | assumption | omega | (simp only [List.length_map, List.length_cons, List.length_nil, List.length_append, List.length_set, List.length_replicate, iotaI_len]; done) | (simp only [List.length_map, List.length_cons, List.length_nil, List.length_append, List.length_set, List.length_replicate, iotaI_len]; omega))) ?_
    | refine EqL.mk _ (sn0 eLI) ?_
    | refine EqL.mk _ (sn eLI (by first | rfl | assumption | omega | (simp only [List.length_map, List.length_cons, List.length_nil, List.length_append, List.length_set, List.length_replicate, iotaI_len]; done) | (simp only [List.length_map, List.length_cons, List.length_nil, List.length_append, List.length_set, List.length_replicate, iotaI_len]; omega))) ?_
    | refine EqL.mk _ (ap0 eLI) ?_
    | refine EqL.mk _ (ap eLI (by first | rfl | assumption | omega | (simp only [List.length_map, List.length_cons, List.length_nil, List.length_append, List.length_set, List.length_replicate, iotaI_len]; done) | (simp only [List.length_map, List.length_cons, List.length_nil, List.length_append, List.length_set, List.length_replicate, iotaI_len]; omega))) ?_
    | refine EqL.mk _ (tk eLI (by first | rfl | assumption | omega | (simp only [List.length_map, List.length_cons, List.length_nil, List.length_append, List.length_set, List.length_replicate, iotaI_len]; done) | (simp only [List.length_map, List.length_cons, List.length_nil, List.length_append, List.length_set, List.length_replicate, iotaI_len]; omega))) ?_
    | refine EqL.mk [] rfl ?_
    | refine EqL.mk [_] rfl ?_
    | refine EqL.mk _ rfl ?_
    | refine ArgF.is (c_laws_b10Long ..) ?_
    | refine ArgQ.is (fun hG => c_laws_b10Long ..) rfl rfl ?_
    | refine ArgF.is (c_spec_DrawCheapestDay ..) ?_
    | refine ArgQ.is (fun hG => c_spec_DrawCheapestDay ..) rfl rfl ?_
    | refine ArgF.is (c_impl_CheapestDay ..) ?_
    | refine ArgQ.is (fun hG => c_impl_CheapestDay ..) rfl rfl ?_
    | refine ArgF.is (c_impl_FlattestDay ..) ?_
    | refine ArgQ.is (fun hG => c_impl_FlattestDay ..) rfl rfl ?_
    | refine ArgF.is (c_impl_DayCost ..) ?_
    | refine ArgQ.is (fun hG => c_impl_DayCost ..) rfl rfl ?_
    | refine ArgF.is (c_impl_PeakPower ..) ?_
    | refine ArgQ.is (fun hG => c_impl_PeakPower ..) rfl rfl ?_
    | refine ArgF.is (c_impl_DayText ..) ?_
    | refine ArgQ.is (fun hG => c_impl_DayText ..) rfl rfl ?_
    | refine ArgF.is (c_impl_ReadDay ..) ?_
    | refine ArgQ.is (fun hG => c_impl_ReadDay ..) rfl rfl ?_
    | refine ArgF.is (c_spec_IsDay ..) ?_
    | refine ArgQ.is (fun hG => c_spec_IsDay ..) rfl rfl ?_
    | refine ArgF.is (c_laws_b10Nums ..) ?_
    | refine ArgQ.is (fun hG => c_laws_b10Nums ..) rfl rfl ?_
    | refine ArgF.is (c_laws_b10At _ _ _ (by first | assumption | omega)) ?_
    | refine ArgQ.is (fun hG => c_laws_b10At _ _ _ (by first | assumption | omega)) rfl rfl ?_
    | refine ArgQ.is (fun hG => c_laws_b10At _ _ _ (by simp only [forall_const, eq_self, not_true_eq_false, not_false_eq_true, or_false, false_or, or_self, or_true, true_or, and_true, true_and, and_false, false_and, decide_true, decide_false, Bool.not_true, Bool.not_false, decide_eq_true_eq, decide_eq_false_iff_not, ite_and_p, ite_or_p, Bool.decide_eq_true, Bool.and_eq_true, Bool.or_eq_true, Bool.not_eq_true', Bool.not_eq_false', Bool.and_eq_false_imp, Bool.or_eq_false_iff, bne_iff_ne, beq_iff_eq, bne_eq_false_iff_eq, beq_eq_false_iff_ne, gt_iff_lt, ge_iff_le, Int.not_lt, Int.not_le, ne_eq, Bool.true_eq_false, Bool.false_eq_true, reduceCtorEq, eta_Mode, bytes_nil] at hG; omega)) rfl rfl ?_
    | refine ArgF.is (c_spec_DrawNeedsByHour ..) ?_
    | refine ArgQ.is (fun hG => c_spec_DrawNeedsByHour ..) rfl rfl ?_
    | refine ArgF.is (c_impl_NeedsByHour ..) ?_
    | refine ArgQ.is (fun hG => c_impl_NeedsByHour ..) rfl rfl ?_
    | refine CallF.mk (CallW.is [] true rfl ?_)
    | refine CallG.mk ?_
    | (refine CondF.mk (fun hb => ?_) (fun hb => ?_) <;> try simp only [forall_const, eq_self, not_true_eq_false, not_false_eq_true, or_false, false_or, or_self, or_true, true_or, and_true, true_and, and_false, false_and, decide_true, decide_false, Bool.not_true, Bool.not_false, decide_eq_true_eq, decide_eq_false_iff_not, ite_and_p, ite_or_p, Bool.decide_eq_true, Bool.and_eq_true, Bool.or_eq_true, Bool.not_eq_true', Bool.not_eq_false', Bool.and_eq_false_imp, Bool.or_eq_false_iff, bne_iff_ne, beq_iff_eq, bne_eq_false_iff_eq, beq_eq_false_iff_ne, gt_iff_lt, ge_iff_le, Int.not_lt, Int.not_le, ne_eq, Bool.true_eq_false, Bool.false_eq_true, reduceCtorEq, eta_Mode] at hb)
    | apply BackF.auto3
    | refine BackB.mk ?_ ?_
    | refine RetF.auto (And.intro rfl ?_)
    | exact Is.mk rfl rfl
    | refine Is.mk ?_ rfl
    | refine Is.mk rfl ?_
    | refine Is.mk ?_ ?_
  all_goals try dsimp only
  all_goals first
    | omega
    | (exfalso; exact hb two_codes)
    | (exfalso; exact absurd two_codes hb)
    | exact ⟨by omega, by omega, rfl, rfl⟩
    | exact ⟨by omega, by omega, by simp [h2], by omega⟩
    | (exfalso
       have h9 : (bestD ms (xs.take n2) (ys.take n3) 24 10000000).2.2 = 0 := by assumption
       have a := sched_two h9
       have b := sched_any h9 a.1
       have e := sched_any h9 a.2.1
       rw [a.1, a.2.1, read_text a.2.2.2.2] at hb
       simp only [reduceCtorEq, false_or, or_false, not_true_eq_false] at hb
       omega)
    | (exfalso
       have h9 : (bestD ms (xs.take n2) (ys.take n3) 24 10000000).2.2 = 0 := by assumption
       have b := sched_any h9 (by assumption)
       omega)
    | exact congrArg (fun b => [Bo b]) (needs_bool _)
    | skip
end Go.Proofs.YticilhlmmakbkaaDoor
