/- Contracts of functions of the program, and what they compute. Conditions: those that each theorem states. -/
import Derived.Test.YtmifcbekaniiiaaGreatDoorProg
import Derived.Test.YtmifcbekaniiiaaGreatDoorA6b
set_option linter.unusedVariables false
set_option linter.unusedSimpArgs false
namespace Go.Proofs.YtmifcbekaniiiaaGreatDoor
open Go.Av
attribute [local irreducible] Go.IntKind.wrap listS decS idS isName setN leastI rd rdZ endI joI needI ductS lossN mendL r8W r8A
set_option maxRecDepth 20000
set_option maxHeartbeats 8000000

/-! Leaks: the law. -/
theorem c_laws_FnLeaks (c1 c2 : List Int) : FnSem Tryz.prog 5 [Lx (LY c1), Lx (LY c2)] [] (Is [Bo true] []) := by
  have q0 := r8W_b c2 0 (n := 5000) (by omega)
  have q9 := r8A_b c2 9 (n := 5) (by omega)
  have qk := fun k : Int => r8A_b c2 (2 + k) (n := 200) (by omega)
  refine FnSem.walk (zs := zeroPV Tryz.prog) (by kernel_rfl) Tryz.func5 rfl Tryz.results5 (by kernel_rfl) (by kernel_rfl) (by kernel_rfl) fun hw hh => ?_
  obtain ⟨w0, w1, _⟩ := hw
  first | replace w0 := wf_LY w0 | skip
  first | replace w1 := wf_LY w1 | skip
  repeat' first
    | refine And.intro rfl ?_
    | refine GdF.mk (fun h => h) ?_
    | refine And.intro (Nat.succ_ne_zero _) ?_
    | refine And.intro (Nat.le_of_ble_eq_true rfl) ?_
    | refine SeqF.run ?_
    | (refine ArgF.ret (c_spec_R8Duct c1) ?_; intro d hv; have hE := endI_b hv (q := r8W c2 0 5000) q0.1; have hN := need_law hv hE.1 (q := r8W c2 0 5000) ⟨q0.1, by omega⟩ (Int.le_refl _); have hJ := joI_b hv)
    | refine ArgF.is (endT d (r8W c2 0 5000) hv (by omega)) ?_
    | refine ArgQ.is (fun hG => endT d (r8W c2 0 5000) hv (by omega)) rfl rfl ?_
    | refine ArgF.is (joT d hv) ?_
    | refine ArgQ.is (fun hG => joT d hv) rfl rfl ?_
    | refine ArgF.is (aftT d (r8W c2 0 5000) hv (by omega)) ?_
    | refine ArgQ.is (fun hG => aftT d (r8W c2 0 5000) hv (by omega)) rfl rfl ?_
    | refine ArgF.is (c_impl_DuctText d hv) ?_
    | refine ArgQ.is (fun hG => c_impl_DuctText d hv) rfl rfl ?_
    | refine ArgF.is (c_impl_ReadDuct d hv) ?_
    | refine ArgQ.is (fun hG => c_impl_ReadDuct d hv) rfl rfl ?_
    | refine ArgF.is (needT d (endI d (r8W c2 0 5000)) (r8W c2 0 5000) hv (by omega) (by omega) (Int.le_refl _)) ?_
    | refine ArgQ.is (fun hG => needT d (endI d (r8W c2 0 5000)) (r8W c2 0 5000) hv (by omega) (by omega) (Int.le_refl _)) rfl rfl ?_
    | refine ArgF.is (endT d (needI d (endI d (r8W c2 0 5000))) hv (by omega)) ?_
    | refine ArgQ.is (fun hG => endT d (needI d (endI d (r8W c2 0 5000))) hv (by omega)) rfl rfl ?_
    | refine ArgF.is (endAny d (needI d (endI d (r8W c2 0 5000)) - 1) hv (by omega)) ?_
    | refine ArgQ.is (fun hG => endAny d (needI d (endI d (r8W c2 0 5000)) - 1) hv (by omega)) rfl rfl ?_
    | (refine ArgF.mk _ (c_impl_LongestDuct d (r8W c2 0 5000) (endI d (r8W c2 0 5000)) hv (by omega) (by omega)) (fun rs ho hR _ => ?_); rcases hR with ⟨l, rfl, rfl, hl, hl2⟩)
    | refine ArgF.is (sEndT (lenD d l) (r8W c2 0 5000) (ok_lenD hv hl) (by omega)) ?_
    | refine ArgQ.is (fun hG => sEndT (lenD d l) (r8W c2 0 5000) (ok_lenD hv hl) (by omega)) rfl rfl ?_
    | refine ArgF.is (c_laws_r8At c2 (2 + k) 200 (by omega)) ?_
    | refine ArgQ.is (fun hG => c_laws_r8At c2 (2 + k) 200 (by omega)) rfl rfl ?_
    | refine ArgF.is (c_laws_r8At c2 9 5 (by omega)) ?_
    | refine ArgQ.is (fun hG => c_laws_r8At c2 9 5 (by omega)) rfl rfl ?_
    | refine ArgF.is (losT xs k3) ?_
    | refine ArgQ.is (fun hG => losT xs k3) rfl rfl ?_
    | refine ArgF.is (mendT xs (r8A c2 9 5) k3 (by omega)) ?_
    | refine ArgQ.is (fun hG => mendT xs (r8A c2 9 5) k3 (by omega)) rfl rfl ?_
    | refine ArgF.is (meanT xs k3 (by omega)) ?_
    | refine ArgQ.is (fun hG => meanT xs k3 (by omega)) rfl rfl ?_
    | refine LoopF.at 26 rfl (LoopF.fix [1, 6, 7, 24, 25] (Int × Nat × List Int) (fun (k, n, xs) => 0 ≤ k ∧ k ≤ 5 ∧ (n = xs.length ∧ (n : Int) = k + 1) ∧ okFl xs ∧ xs.getD 0 0 = r8W c2 0 5000) (fun (k, n, xs) => [(27, In k), (26, .osl 0 0 n)]) (fun (k, n, xs) => [(0, Rw .flat (eI 0) (xs.map eI))]) (fun (k, n, xs) => ((5 - k).toNat)) ((0, 1, [r8W c2 0 5000])) ?_)
    | (refine LoopB.of (T := Int × Nat × List Int) ?_ ?_; rotate_left; rintro ⟨k, n, xs⟩ ⟨k0, k1, k2, k3, k4⟩; rotate_left)
    | refine BndF.mk (fun _ => by simp only [List.length_map, lossN_l, mendL_l]; omega) ?_
    | refine EqI.mk (xs.getD 0 0 - xs.getD 5 0) (fun _ => by have q1 := k3.pt 0; have q2 := k3.pt 5; exact wrapI (by omega) (by omega)) ?_
    | refine EqI.mk (5 * rd (xs.getD 0 0 - xs.getD (xs.length - 1) 0) (xs.length - 1 : Nat)) (fun _ => by have q := mean_c k3 (by omega) (m := m) ⟨by omega, m1⟩ m2; exact wrapI (by omega) (by omega)) ?_
    | refine EqI.mk (5 * rd (xs.getD 0 0 - xs.getD (xs.length - 1) 0) (xs.length - 1 : Nat) - g) (fun _ => by have q := mean_c k3 (by omega) (m := m) ⟨by omega, m1⟩ m2; exact wrapI (by omega) (by omega)) ?_
    | refine ArgF.is (rabL (5 * rd (xs.getD 0 0 - xs.getD (xs.length - 1) 0) (xs.length - 1 : Nat) - g) (by have q := mean_c k3 (by omega) (m := m) ⟨by omega, m1⟩ m2; omega)) ?_
    | refine ArgQ.is (fun hG => rabL (5 * rd (xs.getD 0 0 - xs.getD (xs.length - 1) 0) (xs.length - 1 : Nat) - g) (by have q := mean_c k3 (by omega) (m := m) ⟨by omega, m1⟩ m2; omega)) rfl rfl ?_
    | refine LoopF.at 34 rfl (LoopF.fix [6, 7, 24, 25, 26, 28, 29, 30, 31, 32, 33] (Int × Int × Unit) (fun (g, m, _) => 0 ≤ m ∧ m ≤ 5 ∧ g = xs.getD 0 0 - xs.getD m.toNat 0) (fun (g, m, _) => [(34, In g), (35, In m)]) (fun (g, m, _) => []) (fun (g, m, _) => ((5 - m).toNat)) ((0, 0, ())) ?_)
    | (refine LoopB.of (T := Int × Int × Unit) ?_ ?_; rotate_left; rintro ⟨g, m, _⟩ ⟨m0, m1, m2⟩; rotate_left)
    | refine EqI.mk (xs.getD 0 0 - xs.getD (m + 1).toNat 0) (fun _ => by have q1 := k3.pt 0; have q2 := k3.pt (m + 1).toNat; rw [lossN_at (by omega), show m.toNat + 1 = (m + 1).toNat by omega, m2, show xs.getD 0 0 - xs.getD m.toNat 0 + (xs.getD m.toNat 0 - xs.getD (m + 1).toNat 0) = xs.getD 0 0 - xs.getD (m + 1).toNat 0 by omega]; exact wrapI (by omega) (by omega)) ?_
    | refine GhF.go ?_
    | refine GdS.keep ?_
    | refine DrawG.old (DrawF.lex (by decide +kernel) ?_)
    | refine DrawG.old (DrawF.any ?_)
    | refine OrdF.take 0 (by decide +kernel) ?_
    | refine OrdF.take 1 (by decide +kernel) ?_
    | refine OrdF.take 2 (by decide +kernel) ?_
    | refine OrdF.take 3 (by decide +kernel) ?_
    | refine OrdF.take 5 (by decide +kernel) ?_
    | refine OrdF.take 6 (by decide +kernel) ?_
    | refine OrdF.take 7 (by decide +kernel) ?_
    | refine OrdF.take 9 (by decide +kernel) ?_
    | refine OrdF.take 10 (by decide +kernel) ?_
    | refine OrdF.take 13 (by decide +kernel) ?_
    | refine OrdF.all [12] (by decide +kernel) ?_
    | refine OrdF.all [11] (by decide +kernel) ?_
    | refine OrdF.all [4] (by decide +kernel) ?_
    | refine OrdF.all [8] (by decide +kernel) ?_
    | refine OrdF.all [4, 8] (by decide +kernel) ?_
    | refine OrdF.fin (by decide +kernel) ?_
    | refine AllF.one _ ?_
    | refine AllF.cons _ _ ?_ ?_
    | refine MkF.row ?_
    | refine AggN.mk true (by kernel_rfl) (iff_of_true rfl rfl) ?_
    | refine AggE.mk true (by kernel_rfl) (iff_of_true rfl rfl) ?_
    | refine EqP.mk _ (gm eY 0 rfl) ?_
    | refine EqP.mk _ (gm eI 0 rfl) ?_
    | refine BndF.mk (fun _ => by omega) ?_
    | refine BndF.mk (fun _ => by simp only [List.length_map, List.length_cons, List.length_nil, List.length_append, List.length_set, List.length_replicate, iotaI_len]; omega) ?_
    | refine BndF.mk (fun hG => by simp only [forall_const, eq_self, not_true_eq_false, not_false_eq_true, or_false, false_or, or_self, or_true, true_or, and_true, true_and, and_false, false_and, decide_true, decide_false, Bool.not_true, Bool.not_false, decide_eq_true_eq, decide_eq_false_iff_not, ite_and_p, ite_or_p, Bool.decide_eq_true, Bool.and_eq_true, Bool.or_eq_true, Bool.not_eq_true', Bool.not_eq_false', Bool.and_eq_false_imp, Bool.or_eq_false_iff, bne_iff_ne, beq_iff_eq, bne_eq_false_iff_eq, beq_eq_false_iff_ne, gt_iff_lt, ge_iff_le, Int.not_lt, Int.not_le, ne_eq, Bool.true_eq_false, Bool.false_eq_true, reduceCtorEq, eta_Airway, eta_Duct, eta_Fan, eta_Mine, eta_Survey, bytes_nil] at hG; (try simp only [List.length_map]); omega) ?_
    | refine EqI.mk _ (fun _ => wrapI (by omega) (by omega)) ?_
    | refine EqI.mk _ (fun _ => rfl) ?_
    | refine FlF.keep ?_
    | refine EqN.mk _ (ln eY) ?_
    | refine EqN.mk _ (ln eI) ?_
    | refine EqN.mk _ (Nat.zero_add _) ?_
    | refine EqN.mk (_ + 1) rfl ?_
    | refine EqN.mk _ (Int.toNat_natCast _) ?_
    | refine EqN.mk _ rfl ?_
    | refine EqL.mk _ (sn0 eY) ?_
    | refine EqL.mk _ (sn eY (by first | rfl | assumption | omega | (simp only [List.length_map, List.length_cons, List.length_nil, List.length_append, List.length_set, List.length_replicate, iotaI_len]; done) | (simp only [List.length_map, List.length_cons, List.length_nil, List.length_append, List.length_set, List.length_replicate, iotaI_len]; omega))) ?_
    | refine EqL.mk _ (ap0 eY) ?_
    | refine EqL.mk _ (ap eY (by first | rfl | assumption | omega | (simp only [List.length_map, List.length_cons, List.length_nil, List.length_append, List.length_set, List.length_replicate, iotaI_len]; done) | (simp only [List.length_map, List.length_cons, List.length_nil, List.length_append, List.length_set, List.length_replicate, iotaI_len]; omega))) ?_
    | refine EqL.mk _ (tk eY (by first | rfl | assumption | omega | (simp only [List.length_map, List.length_cons, List.length_nil, List.length_append, List.length_set, List.length_replicate, iotaI_len]; done) | (simp only [List.length_map, List.length_cons, List.length_nil, List.length_append, List.length_set, List.length_replicate, iotaI_len]; omega))) ?_
    | refine EqL.mk _ (st eY) ?_
    | refine EqL.mk _ (sn0 eI) ?_
    | refine EqL.mk _ (sn eI (by first | rfl | assumption | omega | (simp only [List.length_map, List.length_cons, List.length_nil, List.length_append, List.length_set, List.length_replicate, iotaI_len]; done) | (simp only [List.length_map, List.length_cons, List.length_nil, List.length_append, List.length_set, List.length_replicate, iotaI_len]; omega))) ?_
    | refine EqL.mk _ (ap0 eI) ?_
    | refine EqL.mk _ (ap eI (by first | rfl | assumption | omega | (simp only [List.length_map, List.length_cons, List.length_nil, List.length_append, List.length_set, List.length_replicate, iotaI_len]; done) | (simp only [List.length_map, List.length_cons, List.length_nil, List.length_append, List.length_set, List.length_replicate, iotaI_len]; omega))) ?_
    | refine EqL.mk _ (tk eI (by first | rfl | assumption | omega | (simp only [List.length_map, List.length_cons, List.length_nil, List.length_append, List.length_set, List.length_replicate, iotaI_len]; done) | (simp only [List.length_map, List.length_cons, List.length_nil, List.length_append, List.length_set, List.length_replicate, iotaI_len]; omega))) ?_
    | refine EqL.mk _ (st eI) ?_
    | refine EqL.mk [] rfl ?_
    | refine EqL.mk [_] rfl ?_
    | refine EqL.mk _ rfl ?_
    | refine ArgF.is (c_laws_r8Long ..) ?_
    | refine ArgQ.is (fun hG => c_laws_r8Long ..) rfl rfl ?_
    | refine ArgF.is (c_spec_R8Duct ..) ?_
    | refine ArgQ.is (fun hG => c_spec_R8Duct ..) rfl rfl ?_
    | refine ArgF.is (c_laws_r8Wide _ _ _ (by first | assumption | omega) (by first | assumption | omega)) ?_
    | refine ArgQ.is (fun hG => c_laws_r8Wide _ _ _ (by first | assumption | omega) (by first | assumption | omega)) rfl rfl ?_
    | refine ArgQ.is (fun hG => c_laws_r8Wide _ _ _ (by simp only [forall_const, eq_self, not_true_eq_false, not_false_eq_true, or_false, false_or, or_self, or_true, true_or, and_true, true_and, and_false, false_and, decide_true, decide_false, Bool.not_true, Bool.not_false, decide_eq_true_eq, decide_eq_false_iff_not, ite_and_p, ite_or_p, Bool.decide_eq_true, Bool.and_eq_true, Bool.or_eq_true, Bool.not_eq_true', Bool.not_eq_false', Bool.and_eq_false_imp, Bool.or_eq_false_iff, bne_iff_ne, beq_iff_eq, bne_eq_false_iff_eq, beq_eq_false_iff_ne, gt_iff_lt, ge_iff_le, Int.not_lt, Int.not_le, ne_eq, Bool.true_eq_false, Bool.false_eq_true, reduceCtorEq, eta_Airway, eta_Duct, eta_Fan, eta_Mine, eta_Survey, bytes_nil] at hG; omega) (by simp only [forall_const, eq_self, not_true_eq_false, not_false_eq_true, or_false, false_or, or_self, or_true, true_or, and_true, true_and, and_false, false_and, decide_true, decide_false, Bool.not_true, Bool.not_false, decide_eq_true_eq, decide_eq_false_iff_not, ite_and_p, ite_or_p, Bool.decide_eq_true, Bool.and_eq_true, Bool.or_eq_true, Bool.not_eq_true', Bool.not_eq_false', Bool.and_eq_false_imp, Bool.or_eq_false_iff, bne_iff_ne, beq_iff_eq, bne_eq_false_iff_eq, beq_eq_false_iff_ne, gt_iff_lt, ge_iff_le, Int.not_lt, Int.not_le, ne_eq, Bool.true_eq_false, Bool.false_eq_true, reduceCtorEq, eta_Airway, eta_Duct, eta_Fan, eta_Mine, eta_Survey, bytes_nil] at hG; omega)) rfl rfl ?_
    | refine ArgF.is (c_impl_FlowAtEnd ..) ?_
    | refine ArgQ.is (fun hG => c_impl_FlowAtEnd ..) rfl rfl ?_
    | refine ArgF.is (c_impl_JointsOf ..) ?_
    | refine ArgQ.is (fun hG => c_impl_JointsOf ..) rfl rfl ?_
    | refine ArgF.is (c_impl_FlowAfter ..) ?_
    | refine ArgQ.is (fun hG => c_impl_FlowAfter ..) rfl rfl ?_
    | refine ArgF.is (c_impl_DuctText ⟨_, _, _, _⟩ (by first | assumption | omega)) ?_
    | refine ArgQ.is (fun hG => c_impl_DuctText ⟨_, _, _, _⟩ (by first | assumption | omega)) rfl rfl ?_
    | refine ArgQ.is (fun hG => c_impl_DuctText ⟨_, _, _, _⟩ (by simp only [forall_const, eq_self, not_true_eq_false, not_false_eq_true, or_false, false_or, or_self, or_true, true_or, and_true, true_and, and_false, false_and, decide_true, decide_false, Bool.not_true, Bool.not_false, decide_eq_true_eq, decide_eq_false_iff_not, ite_and_p, ite_or_p, Bool.decide_eq_true, Bool.and_eq_true, Bool.or_eq_true, Bool.not_eq_true', Bool.not_eq_false', Bool.and_eq_false_imp, Bool.or_eq_false_iff, bne_iff_ne, beq_iff_eq, bne_eq_false_iff_eq, beq_eq_false_iff_ne, gt_iff_lt, ge_iff_le, Int.not_lt, Int.not_le, ne_eq, Bool.true_eq_false, Bool.false_eq_true, reduceCtorEq, eta_Airway, eta_Duct, eta_Fan, eta_Mine, eta_Survey, bytes_nil] at hG; omega)) rfl rfl ?_
    | refine ArgF.is (c_impl_ReadDuct ⟨_, _, _, _⟩ (by first | assumption | omega)) ?_
    | refine ArgQ.is (fun hG => c_impl_ReadDuct ⟨_, _, _, _⟩ (by first | assumption | omega)) rfl rfl ?_
    | refine ArgQ.is (fun hG => c_impl_ReadDuct ⟨_, _, _, _⟩ (by simp only [forall_const, eq_self, not_true_eq_false, not_false_eq_true, or_false, false_or, or_self, or_true, true_or, and_true, true_and, and_false, false_and, decide_true, decide_false, Bool.not_true, Bool.not_false, decide_eq_true_eq, decide_eq_false_iff_not, ite_and_p, ite_or_p, Bool.decide_eq_true, Bool.and_eq_true, Bool.or_eq_true, Bool.not_eq_true', Bool.not_eq_false', Bool.and_eq_false_imp, Bool.or_eq_false_iff, bne_iff_ne, beq_iff_eq, bne_eq_false_iff_eq, beq_eq_false_iff_ne, gt_iff_lt, ge_iff_le, Int.not_lt, Int.not_le, ne_eq, Bool.true_eq_false, Bool.false_eq_true, reduceCtorEq, eta_Airway, eta_Duct, eta_Fan, eta_Mine, eta_Survey, bytes_nil] at hG; omega)) rfl rfl ?_
    | refine ArgF.is (c_impl_FlowNeeded ..) ?_
    | refine ArgQ.is (fun hG => c_impl_FlowNeeded ..) rfl rfl ?_
    | refine ArgF.is (c_impl_LongestDuct ⟨_, _, _, _⟩ _ _ (by first | assumption | omega) (by first | assumption | omega) (by first | assumption | omega)) ?_
    | refine ArgQ.is (fun hG => c_impl_LongestDuct ⟨_, _, _, _⟩ _ _ (by first | assumption | omega) (by first | assumption | omega) (by first | assumption | omega)) rfl rfl ?_
    | refine ArgQ.is (fun hG => c_impl_LongestDuct ⟨_, _, _, _⟩ _ _ (by simp only [forall_const, eq_self, not_true_eq_false, not_false_eq_true, or_false, false_or, or_self, or_true, true_or, and_true, true_and, and_false, false_and, decide_true, decide_false, Bool.not_true, Bool.not_false, decide_eq_true_eq, decide_eq_false_iff_not, ite_and_p, ite_or_p, Bool.decide_eq_true, Bool.and_eq_true, Bool.or_eq_true, Bool.not_eq_true', Bool.not_eq_false', Bool.and_eq_false_imp, Bool.or_eq_false_iff, bne_iff_ne, beq_iff_eq, bne_eq_false_iff_eq, beq_eq_false_iff_ne, gt_iff_lt, ge_iff_le, Int.not_lt, Int.not_le, ne_eq, Bool.true_eq_false, Bool.false_eq_true, reduceCtorEq, eta_Airway, eta_Duct, eta_Fan, eta_Mine, eta_Survey, bytes_nil] at hG; omega) (by simp only [forall_const, eq_self, not_true_eq_false, not_false_eq_true, or_false, false_or, or_self, or_true, true_or, and_true, true_and, and_false, false_and, decide_true, decide_false, Bool.not_true, Bool.not_false, decide_eq_true_eq, decide_eq_false_iff_not, ite_and_p, ite_or_p, Bool.decide_eq_true, Bool.and_eq_true, Bool.or_eq_true, Bool.not_eq_true', Bool.not_eq_false', Bool.and_eq_false_imp, Bool.or_eq_false_iff, bne_iff_ne, beq_iff_eq, bne_eq_false_iff_eq, beq_eq_false_iff_ne, gt_iff_lt, ge_iff_le, Int.not_lt, Int.not_le, ne_eq, Bool.true_eq_false, Bool.false_eq_true, reduceCtorEq, eta_Airway, eta_Duct, eta_Fan, eta_Mine, eta_Survey, bytes_nil] at hG; omega) (by simp only [forall_const, eq_self, not_true_eq_false, not_false_eq_true, or_false, false_or, or_self, or_true, true_or, and_true, true_and, and_false, false_and, decide_true, decide_false, Bool.not_true, Bool.not_false, decide_eq_true_eq, decide_eq_false_iff_not, ite_and_p, ite_or_p, Bool.decide_eq_true, Bool.and_eq_true, Bool.or_eq_true, Bool.not_eq_true', Bool.not_eq_false', Bool.and_eq_false_imp, Bool.or_eq_false_iff, bne_iff_ne, beq_iff_eq, bne_eq_false_iff_eq, beq_eq_false_iff_ne, gt_iff_lt, ge_iff_le, Int.not_lt, Int.not_le, ne_eq, Bool.true_eq_false, Bool.false_eq_true, reduceCtorEq, eta_Airway, eta_Duct, eta_Fan, eta_Mine, eta_Survey, bytes_nil] at hG; omega)) rfl rfl ?_
    | refine ArgF.is (c_spec_FlowAtEnd ..) ?_
    | refine ArgQ.is (fun hG => c_spec_FlowAtEnd ..) rfl rfl ?_
    | refine ArgF.is (c_laws_r8At _ _ _ (by first | assumption | omega)) ?_
    | refine ArgQ.is (fun hG => c_laws_r8At _ _ _ (by first | assumption | omega)) rfl rfl ?_
    | refine ArgQ.is (fun hG => c_laws_r8At _ _ _ (by simp only [forall_const, eq_self, not_true_eq_false, not_false_eq_true, or_false, false_or, or_self, or_true, true_or, and_true, true_and, and_false, false_and, decide_true, decide_false, Bool.not_true, Bool.not_false, decide_eq_true_eq, decide_eq_false_iff_not, ite_and_p, ite_or_p, Bool.decide_eq_true, Bool.and_eq_true, Bool.or_eq_true, Bool.not_eq_true', Bool.not_eq_false', Bool.and_eq_false_imp, Bool.or_eq_false_iff, bne_iff_ne, beq_iff_eq, bne_eq_false_iff_eq, beq_eq_false_iff_ne, gt_iff_lt, ge_iff_le, Int.not_lt, Int.not_le, ne_eq, Bool.true_eq_false, Bool.false_eq_true, reduceCtorEq, eta_Airway, eta_Duct, eta_Fan, eta_Mine, eta_Survey, bytes_nil] at hG; omega)) rfl rfl ?_
    | refine ArgF.is (c_impl_LossesOf ..) ?_
    | refine ArgQ.is (fun hG => c_impl_LossesOf ..) rfl rfl ?_
    | refine ArgF.is (c_impl_MendJoint ..) ?_
    | refine ArgQ.is (fun hG => c_impl_MendJoint ..) rfl rfl ?_
    | refine ArgF.is (c_impl_MeanLoss ..) ?_
    | refine ArgQ.is (fun hG => c_impl_MeanLoss ..) rfl rfl ?_
    | refine ArgF.is (c_laws_r8Abs _ (by first | assumption | omega)) ?_
    | refine ArgQ.is (fun hG => c_laws_r8Abs _ (by first | assumption | omega)) rfl rfl ?_
    | refine ArgQ.is (fun hG => c_laws_r8Abs _ (by simp only [forall_const, eq_self, not_true_eq_false, not_false_eq_true, or_false, false_or, or_self, or_true, true_or, and_true, true_and, and_false, false_and, decide_true, decide_false, Bool.not_true, Bool.not_false, decide_eq_true_eq, decide_eq_false_iff_not, ite_and_p, ite_or_p, Bool.decide_eq_true, Bool.and_eq_true, Bool.or_eq_true, Bool.not_eq_true', Bool.not_eq_false', Bool.and_eq_false_imp, Bool.or_eq_false_iff, bne_iff_ne, beq_iff_eq, bne_eq_false_iff_eq, beq_eq_false_iff_ne, gt_iff_lt, ge_iff_le, Int.not_lt, Int.not_le, ne_eq, Bool.true_eq_false, Bool.false_eq_true, reduceCtorEq, eta_Airway, eta_Duct, eta_Fan, eta_Mine, eta_Survey, bytes_nil] at hG; omega)) rfl rfl ?_
    | refine CallF.mk (CallW.is [] true rfl ?_)
    | refine CallG.mk ?_
    | (refine CondF.mk (fun hb => ?_) (fun hb => ?_) <;> try simp only [forall_const, eq_self, not_true_eq_false, not_false_eq_true, or_false, false_or, or_self, or_true, true_or, and_true, true_and, and_false, false_and, decide_true, decide_false, Bool.not_true, Bool.not_false, decide_eq_true_eq, decide_eq_false_iff_not, ite_and_p, ite_or_p, Bool.decide_eq_true, Bool.and_eq_true, Bool.or_eq_true, Bool.not_eq_true', Bool.not_eq_false', Bool.and_eq_false_imp, Bool.or_eq_false_iff, bne_iff_ne, beq_iff_eq, bne_eq_false_iff_eq, beq_eq_false_iff_ne, gt_iff_lt, ge_iff_le, Int.not_lt, Int.not_le, ne_eq, Bool.true_eq_false, Bool.false_eq_true, reduceCtorEq, eta_Airway, eta_Duct, eta_Fan, eta_Mine, eta_Survey] at hb)
    | apply BackF.auto3
    | refine BackB.mk ?_ ?_
    | refine RetF.auto (And.intro rfl ?_)
    | exact Is.mk rfl rfl
    | refine Is.mk ?_ rfl
    | refine Is.mk rfl ?_
    | refine Is.mk ?_ ?_
  all_goals try dsimp only
  all_goals first
    | omega
    | (exfalso; have e := hN.2.2.2; omega)
    | (exfalso
       have e := hN.2.2.2
       have e2 := endL_law (x := d) (n := needI d (endI d (r8W c2 0 5000)))
       omega)
    | exact ⟨by omega, by omega, ⟨rfl, by omega⟩, okFl_1 (by omega), rfl⟩
    | exact ⟨by omega, by omega, list_s k3 (by omega) k2 (by have := qk k; omega) _ k4⟩
    | exact ⟨by omega, by omega, (Int.sub_self _).symm⟩
    | exact ⟨by omega, by omega, rfl⟩
    | (obtain ⟨f1, f2, f3, f4, f5, f6, f7, f8⟩ := leak_facts (q := r8W c2 0 5000) (k := (r8A c2 9 5).toNat) (m := m) k3 (by omega) k4 (by omega) hl2 (by omega) m2
       simp only [f1, f2, f3, f4, f5, f6, f7, f8, beq_self_eq_true, if_true]; rfl)
    | skip
end Go.Proofs.YtmifcbekaniiiaaGreatDoor
