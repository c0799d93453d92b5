/- Contracts of functions of the program, and what they compute. Conditions: those that each theorem states. -/
import Derived.Test.YtmifcbekaniiiaaGreatDoorProg
import Derived.Test.YtmifcbekaniiiaaGreatDoorA4
import Derived.Test.YtmifcbekaniiiaaGreatDoorF1
import Derived.Test.YtmifcbekaniiiaaGreatDoorJ0
set_option linter.unusedVariables false
set_option linter.unusedSimpArgs false
namespace Go.Proofs.YtmifcbekaniiiaaGreatDoor
open Go.Av
attribute [local irreducible] Go.IntKind.wrap listS decS idS isName setN leastI rd rdZ endI joI
set_option maxRecDepth 20000
set_option maxHeartbeats 8000000

/-! Ducts: ends, needs, texts, measured flows. -/
--@fn impl.ValidDuct
theorem vduT (x : GDuct) (h : okDuct x = true) : FnSem Tryz.prog 99 [.p .any (.agg x.cells)] [] (Is [Bo true] []) := by
  have := c_impl_ValidDuct x
  rwa [h] at this
--@fn spec.l11Ok
theorem sduT (x : GDuct) (h : okDuct x = true) : FnSem Tryz.prog 105 [.p .any (.ref x.cells)] [] (Is [Bo true] []) := by
  have := c_spec_l11Ok x
  rwa [h] at this
theorem c_impl_ductFlow (q : Int) : FnSem Tryz.prog 100 [In q] [] (Is [Bo (inR q 0 100000)] []) := by
  refine FnSem.walk (zs := zeroPV Tryz.prog) (by kernel_rfl) Tryz.func100 rfl Tryz.results100 (by kernel_rfl) (by kernel_rfl) (by kernel_rfl) fun hw hh => ?_
  obtain ⟨w0, _⟩ := hw
  first | replace w0 := wf_I w0 | skip
  repeat' first
    | refine And.intro rfl ?_
    | refine GdF.mk (fun h => h) ?_
    | refine And.intro (Nat.succ_ne_zero _) ?_
    | refine And.intro (Nat.le_of_ble_eq_true rfl) ?_
    | refine SeqF.run ?_
    | refine GhF.go ?_
    | refine BndF.mk (fun _ => by omega) ?_
    | refine BndF.mk (fun _ => by simp only [List.length_map, List.length_cons, List.length_nil, List.length_append, List.length_set, List.length_replicate, iotaI_len]; omega) ?_
    | refine EqL.mk [] rfl ?_
    | refine EqL.mk [_] rfl ?_
    | refine EqL.mk _ rfl ?_
    | refine ArgF.is (c_impl_within ..) ?_
    | refine ArgQ.is (fun hG => c_impl_within ..) rfl rfl ?_
    | refine CallF.mk (CallW.is [] true rfl ?_)
    | refine CallG.mk ?_
    | (refine CondF.mk (fun hb => ?_) (fun hb => ?_) <;> try simp only [forall_const, eq_self, not_true_eq_false, not_false_eq_true, or_false, false_or, or_self, or_true, true_or, and_true, true_and, and_false, false_and, decide_true, decide_false, Bool.not_true, Bool.not_false, decide_eq_true_eq, decide_eq_false_iff_not, ite_and_p, ite_or_p, Bool.decide_eq_true, Bool.and_eq_true, Bool.or_eq_true, Bool.not_eq_true', Bool.not_eq_false', Bool.and_eq_false_imp, Bool.or_eq_false_iff, bne_iff_ne, beq_iff_eq, bne_eq_false_iff_eq, beq_eq_false_iff_ne, gt_iff_lt, ge_iff_le, Int.not_lt, Int.not_le, ne_eq, Bool.true_eq_false, Bool.false_eq_true, reduceCtorEq, eta_Airway, eta_Duct, eta_Fan, eta_Mine, eta_Survey] at hb)
    | refine RetF.auto (And.intro rfl ?_)
    | exact Is.mk rfl rfl
    | refine Is.mk ?_ rfl
    | refine Is.mk rfl ?_
    | refine Is.mk ?_ ?_
theorem c_spec_l11Flow (q : Int) : FnSem Tryz.prog 106 [In q] [] (Is [Bo (inR q 0 100000)] []) := by
  refine FnSem.walk (zs := zeroPV Tryz.prog) (by kernel_rfl) Tryz.func106 rfl Tryz.results106 (by kernel_rfl) (by kernel_rfl) (by kernel_rfl) fun hw hh => ?_
  obtain ⟨w0, _⟩ := hw
  first | replace w0 := wf_I w0 | skip
  repeat' first
    | refine And.intro rfl ?_
    | refine GdF.mk (fun h => h) ?_
    | refine And.intro (Nat.succ_ne_zero _) ?_
    | refine And.intro (Nat.le_of_ble_eq_true rfl) ?_
    | refine SeqF.run ?_
    | refine GhF.go ?_
    | refine BndF.mk (fun _ => by omega) ?_
    | refine BndF.mk (fun _ => by simp only [List.length_map, List.length_cons, List.length_nil, List.length_append, List.length_set, List.length_replicate, iotaI_len]; omega) ?_
    | refine EqL.mk [] rfl ?_
    | refine EqL.mk [_] rfl ?_
    | refine EqL.mk _ rfl ?_
    | refine ArgF.is (c_spec_l00In ..) ?_
    | refine ArgQ.is (fun hG => c_spec_l00In ..) rfl rfl ?_
    | refine CallF.mk (CallW.is [] true rfl ?_)
    | refine CallG.mk ?_
    | (refine CondF.mk (fun hb => ?_) (fun hb => ?_) <;> try simp only [forall_const, eq_self, not_true_eq_false, not_false_eq_true, or_false, false_or, or_self, or_true, true_or, and_true, true_and, and_false, false_and, decide_true, decide_false, Bool.not_true, Bool.not_false, decide_eq_true_eq, decide_eq_false_iff_not, ite_and_p, ite_or_p, Bool.decide_eq_true, Bool.and_eq_true, Bool.or_eq_true, Bool.not_eq_true', Bool.not_eq_false', Bool.and_eq_false_imp, Bool.or_eq_false_iff, bne_iff_ne, beq_iff_eq, bne_eq_false_iff_eq, beq_eq_false_iff_ne, gt_iff_lt, ge_iff_le, Int.not_lt, Int.not_le, ne_eq, Bool.true_eq_false, Bool.false_eq_true, reduceCtorEq, eta_Airway, eta_Duct, eta_Fan, eta_Mine, eta_Survey] at hb)
    | refine RetF.auto (And.intro rfl ?_)
    | exact Is.mk rfl rfl
    | refine Is.mk ?_ rfl
    | refine Is.mk rfl ?_
    | refine Is.mk ?_ ?_
--@fn impl.ductFlow
theorem dfT (q : Int) (h : 0 ≤ q ∧ q ≤ 100000) : FnSem Tryz.prog 100 [In q] [] (Is [Bo true] []) := by
  have := c_impl_ductFlow q
  rwa [inR_iff.2 h] at this
--@fn spec.l11Flow
theorem sfT (q : Int) (h : 0 ≤ q ∧ q ≤ 100000) : FnSem Tryz.prog 106 [In q] [] (Is [Bo true] []) := by
  have := c_spec_l11Flow q
  rwa [inR_iff.2 h] at this
--@fn impl.ductFlow
theorem dfF (q : Int) (h : q < 0) : FnSem Tryz.prog 100 [In q] [] (Is [Bo false] []) := by
  have := c_impl_ductFlow q
  rwa [inR_f.2 (.inl h)] at this
--@fn impl.within
theorem wiD (x a b : Int) (h : a ≤ x ∧ x ≤ b) : FnSem Tryz.prog 80 [In x, In a, In b] [] (Is [Bo true] []) := by
  have := c_impl_within x a b
  rwa [inR_iff.2 h] at this
--@fn impl.FlowAtEnd
theorem endT (x : GDuct) (q : Int) (h : okDuct x = true) (hq : 0 ≤ q ∧ q ≤ 100000) : FnSem Tryz.prog 33 [.p .any (.agg x.cells), In q] [] (Is [In (endI x q), In 0] []) := by
  have hj := joI_b h
  refine FnSem.walk (zs := zeroPV Tryz.prog) (by kernel_rfl) Tryz.func33 rfl Tryz.results33 (by kernel_rfl) (by kernel_rfl) (by kernel_rfl) fun hw hh => ?_
  obtain ⟨w0, w1, _⟩ := hw
  first | replace w0 := wf_Duct w0 | skip
  first | replace w1 := wf_I w1 | skip
  repeat' first
    | refine And.intro rfl ?_
    | refine GdF.mk (fun h => h) ?_
    | refine And.intro (Nat.succ_ne_zero _) ?_
    | refine And.intro (Nat.le_of_ble_eq_true rfl) ?_
    | refine SeqF.run ?_
    | refine ArgF.is (vduT x h) ?_
    | refine ArgQ.is (fun hG => vduT x h) rfl rfl ?_
    | refine ArgF.is (dfT q (by omega)) ?_
    | refine ArgQ.is (fun hG => dfT q (by omega)) rfl rfl ?_
    | refine ArgF.is (c_impl_Duct_joints x h) ?_
    | refine ArgQ.is (fun hG => c_impl_Duct_joints x h) rfl rfl ?_
    | refine ArgF.is (c_impl_Duct_after x q (joI x) h hq (by omega)) ?_
    | refine ArgQ.is (fun hG => c_impl_Duct_after x q (joI x) h hq (by omega)) rfl rfl ?_
    | refine GhF.go ?_
    | refine DrawG.old (DrawF.lex (by decide +kernel) ?_)
    | refine BndF.mk (fun _ => by omega) ?_
    | refine BndF.mk (fun _ => by simp only [List.length_map, List.length_cons, List.length_nil, List.length_append, List.length_set, List.length_replicate, iotaI_len]; omega) ?_
    | refine EqL.mk [] rfl ?_
    | refine EqL.mk [_] rfl ?_
    | refine EqL.mk _ rfl ?_
    | refine ArgF.is (c_impl_ValidDuct ⟨_, _, _, _⟩) ?_
    | refine ArgQ.is (fun hG => c_impl_ValidDuct ⟨_, _, _, _⟩) rfl rfl ?_
    | refine ArgF.is (c_impl_ductFlow ..) ?_
    | refine ArgQ.is (fun hG => c_impl_ductFlow ..) rfl rfl ?_
    | refine ArgF.is (c_impl_Duct_joints ⟨_, _, _, _⟩ (by first | assumption | omega)) ?_
    | refine ArgQ.is (fun hG => c_impl_Duct_joints ⟨_, _, _, _⟩ (by first | assumption | omega)) rfl rfl ?_
    | refine ArgF.is (c_impl_Duct_after ⟨_, _, _, _⟩ _ _ (by first | assumption | omega) (by first | assumption | omega) (by first | assumption | omega)) ?_
    | refine ArgQ.is (fun hG => c_impl_Duct_after ⟨_, _, _, _⟩ _ _ (by first | assumption | omega) (by first | assumption | omega) (by first | assumption | omega)) rfl rfl ?_
    | refine CallF.mk (CallW.is [] true rfl ?_)
    | refine CallG.mk ?_
    | (refine CondF.mk (fun hb => ?_) (fun hb => ?_) <;> try simp only [forall_const, eq_self, not_true_eq_false, not_false_eq_true, or_false, false_or, or_self, or_true, true_or, and_true, true_and, and_false, false_and, decide_true, decide_false, Bool.not_true, Bool.not_false, decide_eq_true_eq, decide_eq_false_iff_not, ite_and_p, ite_or_p, Bool.decide_eq_true, Bool.and_eq_true, Bool.or_eq_true, Bool.not_eq_true', Bool.not_eq_false', Bool.and_eq_false_imp, Bool.or_eq_false_iff, bne_iff_ne, beq_iff_eq, bne_eq_false_iff_eq, beq_eq_false_iff_ne, gt_iff_lt, ge_iff_le, Int.not_lt, Int.not_le, ne_eq, Bool.true_eq_false, Bool.false_eq_true, reduceCtorEq, eta_Airway, eta_Duct, eta_Fan, eta_Mine, eta_Survey] at hb)
    | refine RetF.auto (And.intro rfl ?_)
    | exact Is.mk rfl rfl
    | refine Is.mk ?_ rfl
    | refine Is.mk rfl ?_
    | refine Is.mk ?_ ?_
  all_goals try dsimp only
  all_goals first
    | omega
    | (unfold endI; rfl)
    | (unfold needP endI; rfl)
    | (rw [decide_eq_true (show leastI (needP x n) 0 100000 ≤ 100000 from hl), if_pos rfl, if_pos rfl]; rfl)
    | skip
--@fn impl.FlowAtEnd
theorem endLow (x : GDuct) (q : Int) (h : okDuct x = true) (hq : q < 0) : FnSem Tryz.prog 33 [.p .any (.agg x.cells), In q] [] (Is [In 0, In 2] []) := by
  refine FnSem.walk (zs := zeroPV Tryz.prog) (by kernel_rfl) Tryz.func33 rfl Tryz.results33 (by kernel_rfl) (by kernel_rfl) (by kernel_rfl) fun hw hh => ?_
  obtain ⟨w0, w1, _⟩ := hw
  first | replace w0 := wf_Duct w0 | skip
  first | replace w1 := wf_I w1 | skip
  repeat' first
    | refine And.intro rfl ?_
    | refine GdF.mk (fun h => h) ?_
    | refine And.intro (Nat.succ_ne_zero _) ?_
    | refine And.intro (Nat.le_of_ble_eq_true rfl) ?_
    | refine SeqF.run ?_
    | refine ArgF.is (vduT x h) ?_
    | refine ArgQ.is (fun hG => vduT x h) rfl rfl ?_
    | refine ArgF.is (dfF q hq) ?_
    | refine ArgQ.is (fun hG => dfF q hq) rfl rfl ?_
    | refine GhF.go ?_
    | refine DrawG.old (DrawF.lex (by decide +kernel) ?_)
    | refine BndF.mk (fun _ => by omega) ?_
    | refine BndF.mk (fun _ => by simp only [List.length_map, List.length_cons, List.length_nil, List.length_append, List.length_set, List.length_replicate, iotaI_len]; omega) ?_
    | refine EqL.mk [] rfl ?_
    | refine EqL.mk [_] rfl ?_
    | refine EqL.mk _ rfl ?_
    | refine ArgF.is (c_impl_ValidDuct ⟨_, _, _, _⟩) ?_
    | refine ArgQ.is (fun hG => c_impl_ValidDuct ⟨_, _, _, _⟩) rfl rfl ?_
    | refine ArgF.is (c_impl_ductFlow ..) ?_
    | refine ArgQ.is (fun hG => c_impl_ductFlow ..) rfl rfl ?_
    | refine ArgF.is (c_impl_Duct_joints ⟨_, _, _, _⟩ (by first | assumption | omega)) ?_
    | refine ArgQ.is (fun hG => c_impl_Duct_joints ⟨_, _, _, _⟩ (by first | assumption | omega)) rfl rfl ?_
    | refine ArgF.is (c_impl_Duct_after ⟨_, _, _, _⟩ _ _ (by first | assumption | omega) (by first | assumption | omega) (by first | assumption | omega)) ?_
    | refine ArgQ.is (fun hG => c_impl_Duct_after ⟨_, _, _, _⟩ _ _ (by first | assumption | omega) (by first | assumption | omega) (by first | assumption | omega)) rfl rfl ?_
    | refine CallF.mk (CallW.is [] true rfl ?_)
    | refine CallG.mk ?_
    | (refine CondF.mk (fun hb => ?_) (fun hb => ?_) <;> try simp only [forall_const, eq_self, not_true_eq_false, not_false_eq_true, or_false, false_or, or_self, or_true, true_or, and_true, true_and, and_false, false_and, decide_true, decide_false, Bool.not_true, Bool.not_false, decide_eq_true_eq, decide_eq_false_iff_not, ite_and_p, ite_or_p, Bool.decide_eq_true, Bool.and_eq_true, Bool.or_eq_true, Bool.not_eq_true', Bool.not_eq_false', Bool.and_eq_false_imp, Bool.or_eq_false_iff, bne_iff_ne, beq_iff_eq, bne_eq_false_iff_eq, beq_eq_false_iff_ne, gt_iff_lt, ge_iff_le, Int.not_lt, Int.not_le, ne_eq, Bool.true_eq_false, Bool.false_eq_true, reduceCtorEq, eta_Airway, eta_Duct, eta_Fan, eta_Mine, eta_Survey] at hb)
    | refine RetF.auto (And.intro rfl ?_)
    | exact Is.mk rfl rfl
    | refine Is.mk ?_ rfl
    | refine Is.mk rfl ?_
    | refine Is.mk ?_ ?_
  all_goals try dsimp only
  all_goals first
    | omega
    | (unfold endI; rfl)
    | (unfold needP endI; rfl)
    | (rw [decide_eq_true (show leastI (needP x n) 0 100000 ≤ 100000 from hl), if_pos rfl, if_pos rfl]; rfl)
    | skip
--@fn spec.FlowAtEnd
theorem sEndT (x : GDuct) (q : Int) (h : okDuct x = true) (hq : 0 ≤ q ∧ q ≤ 100000) : FnSem Tryz.prog 40 [.p .any (.agg x.cells), In q] [] (Is [In (endI x q), In 0] []) := by
  have hj := joI_b h
  refine FnSem.walk (zs := zeroPV Tryz.prog) (by kernel_rfl) Tryz.func40 rfl Tryz.results40 (by kernel_rfl) (by kernel_rfl) (by kernel_rfl) fun hw hh => ?_
  obtain ⟨w0, w1, _⟩ := hw
  first | replace w0 := wf_Duct w0 | skip
  first | replace w1 := wf_I w1 | skip
  repeat' first
    | refine And.intro rfl ?_
    | refine GdF.mk (fun h => h) ?_
    | refine And.intro (Nat.succ_ne_zero _) ?_
    | refine And.intro (Nat.le_of_ble_eq_true rfl) ?_
    | refine SeqF.run ?_
    | refine ArgF.is (sduT x h) ?_
    | refine ArgQ.is (fun hG => sduT x h) rfl rfl ?_
    | refine ArgF.is (sfT q (by omega)) ?_
    | refine ArgQ.is (fun hG => sfT q (by omega)) rfl rfl ?_
    | refine ArgF.is (c_spec_l11Joints x h) ?_
    | refine ArgQ.is (fun hG => c_spec_l11Joints x h) rfl rfl ?_
    | refine ArgF.is (c_spec_l11After x q (joI x) h hq (by omega)) ?_
    | refine ArgQ.is (fun hG => c_spec_l11After x q (joI x) h hq (by omega)) rfl rfl ?_
    | refine GhF.go ?_
    | refine BndF.mk (fun _ => by omega) ?_
    | refine BndF.mk (fun _ => by simp only [List.length_map, List.length_cons, List.length_nil, List.length_append, List.length_set, List.length_replicate, iotaI_len]; omega) ?_
    | refine EqL.mk [] rfl ?_
    | refine EqL.mk [_] rfl ?_
    | refine EqL.mk _ rfl ?_
    | refine ArgF.is (c_spec_l11Ok ⟨_, _, _, _⟩) ?_
    | refine ArgQ.is (fun hG => c_spec_l11Ok ⟨_, _, _, _⟩) rfl rfl ?_
    | refine ArgF.is (c_spec_l11Flow ..) ?_
    | refine ArgQ.is (fun hG => c_spec_l11Flow ..) rfl rfl ?_
    | refine ArgF.is (c_spec_l11Joints ⟨_, _, _, _⟩ (by first | assumption | omega)) ?_
    | refine ArgQ.is (fun hG => c_spec_l11Joints ⟨_, _, _, _⟩ (by first | assumption | omega)) rfl rfl ?_
    | refine ArgF.is (c_spec_l11After ⟨_, _, _, _⟩ _ _ (by first | assumption | omega) (by first | assumption | omega) (by first | assumption | omega)) ?_
    | refine ArgQ.is (fun hG => c_spec_l11After ⟨_, _, _, _⟩ _ _ (by first | assumption | omega) (by first | assumption | omega) (by first | assumption | omega)) rfl rfl ?_
    | refine CallF.mk (CallW.is [] true rfl ?_)
    | refine CallG.mk ?_
    | (refine CondF.mk (fun hb => ?_) (fun hb => ?_) <;> try simp only [forall_const, eq_self, not_true_eq_false, not_false_eq_true, or_false, false_or, or_self, or_true, true_or, and_true, true_and, and_false, false_and, decide_true, decide_false, Bool.not_true, Bool.not_false, decide_eq_true_eq, decide_eq_false_iff_not, ite_and_p, ite_or_p, Bool.decide_eq_true, Bool.and_eq_true, Bool.or_eq_true, Bool.not_eq_true', Bool.not_eq_false', Bool.and_eq_false_imp, Bool.or_eq_false_iff, bne_iff_ne, beq_iff_eq, bne_eq_false_iff_eq, beq_eq_false_iff_ne, gt_iff_lt, ge_iff_le, Int.not_lt, Int.not_le, ne_eq, Bool.true_eq_false, Bool.false_eq_true, reduceCtorEq, eta_Airway, eta_Duct, eta_Fan, eta_Mine, eta_Survey] at hb)
    | refine RetF.auto (And.intro rfl ?_)
    | exact Is.mk rfl rfl
    | refine Is.mk ?_ rfl
    | refine Is.mk rfl ?_
    | refine Is.mk ?_ ?_
  all_goals try dsimp only
  all_goals first
    | omega
    | (unfold endI; rfl)
    | (unfold needP endI; rfl)
    | (rw [decide_eq_true (show leastI (needP x n) 0 100000 ≤ 100000 from hl), if_pos rfl, if_pos rfl]; rfl)
    | skip
--@fn impl.JointsOf
theorem joT (x : GDuct) (h : okDuct x = true) : FnSem Tryz.prog 34 [.p .any (.agg x.cells)] [] (Is [In (joI x), In 0] []) := by
  refine FnSem.walk (zs := zeroPV Tryz.prog) (by kernel_rfl) Tryz.func34 rfl Tryz.results34 (by kernel_rfl) (by kernel_rfl) (by kernel_rfl) fun hw hh => ?_
  obtain ⟨w0, _⟩ := hw
  first | replace w0 := wf_Duct w0 | skip
  repeat' first
    | refine And.intro rfl ?_
    | refine GdF.mk (fun h => h) ?_
    | refine And.intro (Nat.succ_ne_zero _) ?_
    | refine And.intro (Nat.le_of_ble_eq_true rfl) ?_
    | refine SeqF.run ?_
    | refine ArgF.is (vduT x h) ?_
    | refine ArgQ.is (fun hG => vduT x h) rfl rfl ?_
    | refine ArgF.is (c_impl_Duct_joints x h) ?_
    | refine ArgQ.is (fun hG => c_impl_Duct_joints x h) rfl rfl ?_
    | refine GhF.go ?_
    | refine BndF.mk (fun _ => by omega) ?_
    | refine BndF.mk (fun _ => by simp only [List.length_map, List.length_cons, List.length_nil, List.length_append, List.length_set, List.length_replicate, iotaI_len]; omega) ?_
    | refine EqL.mk [] rfl ?_
    | refine EqL.mk [_] rfl ?_
    | refine EqL.mk _ rfl ?_
    | refine ArgF.is (c_impl_ValidDuct ⟨_, _, _, _⟩) ?_
    | refine ArgQ.is (fun hG => c_impl_ValidDuct ⟨_, _, _, _⟩) rfl rfl ?_
    | refine ArgF.is (c_impl_Duct_joints ⟨_, _, _, _⟩ (by first | assumption | omega)) ?_
    | refine ArgQ.is (fun hG => c_impl_Duct_joints ⟨_, _, _, _⟩ (by first | assumption | omega)) rfl rfl ?_
    | refine CallF.mk (CallW.is [] true rfl ?_)
    | refine CallG.mk ?_
    | (refine CondF.mk (fun hb => ?_) (fun hb => ?_) <;> try simp only [forall_const, eq_self, not_true_eq_false, not_false_eq_true, or_false, false_or, or_self, or_true, true_or, and_true, true_and, and_false, false_and, decide_true, decide_false, Bool.not_true, Bool.not_false, decide_eq_true_eq, decide_eq_false_iff_not, ite_and_p, ite_or_p, Bool.decide_eq_true, Bool.and_eq_true, Bool.or_eq_true, Bool.not_eq_true', Bool.not_eq_false', Bool.and_eq_false_imp, Bool.or_eq_false_iff, bne_iff_ne, beq_iff_eq, bne_eq_false_iff_eq, beq_eq_false_iff_ne, gt_iff_lt, ge_iff_le, Int.not_lt, Int.not_le, ne_eq, Bool.true_eq_false, Bool.false_eq_true, reduceCtorEq, eta_Airway, eta_Duct, eta_Fan, eta_Mine, eta_Survey] at hb)
    | refine RetF.auto (And.intro rfl ?_)
    | exact Is.mk rfl rfl
    | refine Is.mk ?_ rfl
    | refine Is.mk rfl ?_
    | refine Is.mk ?_ ?_
  all_goals try dsimp only
  all_goals first
    | omega
    | (unfold endI; rfl)
    | (unfold needP endI; rfl)
    | (rw [decide_eq_true (show leastI (needP x n) 0 100000 ≤ 100000 from hl), if_pos rfl, if_pos rfl]; rfl)
    | skip
--@fn impl.FlowAfter
theorem aftT (x : GDuct) (q : Int) (h : okDuct x = true) (hq : 0 ≤ q ∧ q ≤ 100000) : FnSem Tryz.prog 35 [.p .any (.agg x.cells), In q, In (joI x)] [] (Is [In (endI x q), In 0] []) := by
  have hj := joI_b h
  refine FnSem.walk (zs := zeroPV Tryz.prog) (by kernel_rfl) Tryz.func35 rfl Tryz.results35 (by kernel_rfl) (by kernel_rfl) (by kernel_rfl) fun hw hh => ?_
  obtain ⟨w0, w1, w2, _⟩ := hw
  first | replace w0 := wf_Duct w0 | skip
  first | replace w1 := wf_I w1 | skip
  first | replace w2 := wf_I w2 | skip
  repeat' first
    | refine And.intro rfl ?_
    | refine GdF.mk (fun h => h) ?_
    | refine And.intro (Nat.succ_ne_zero _) ?_
    | refine And.intro (Nat.le_of_ble_eq_true rfl) ?_
    | refine SeqF.run ?_
    | refine ArgF.is (vduT x h) ?_
    | refine ArgQ.is (fun hG => vduT x h) rfl rfl ?_
    | refine ArgF.is (dfT q (by omega)) ?_
    | refine ArgQ.is (fun hG => dfT q (by omega)) rfl rfl ?_
    | refine ArgF.is (wiD (joI x) 0 (joI x) (by omega)) ?_
    | refine ArgQ.is (fun hG => wiD (joI x) 0 (joI x) (by omega)) rfl rfl ?_
    | refine ArgF.is (c_impl_Duct_joints x h) ?_
    | refine ArgQ.is (fun hG => c_impl_Duct_joints x h) rfl rfl ?_
    | refine ArgF.is (c_impl_Duct_after x q (joI x) h hq (by omega)) ?_
    | refine ArgQ.is (fun hG => c_impl_Duct_after x q (joI x) h hq (by omega)) rfl rfl ?_
    | refine GhF.go ?_
    | refine GdS.keep ?_
    | refine BndF.mk (fun _ => by omega) ?_
    | refine BndF.mk (fun _ => by simp only [List.length_map, List.length_cons, List.length_nil, List.length_append, List.length_set, List.length_replicate, iotaI_len]; omega) ?_
    | refine BndF.mk (fun hG => by simp only [forall_const, eq_self, not_true_eq_false, not_false_eq_true, or_false, false_or, or_self, or_true, true_or, and_true, true_and, and_false, false_and, decide_true, decide_false, Bool.not_true, Bool.not_false, decide_eq_true_eq, decide_eq_false_iff_not, ite_and_p, ite_or_p, Bool.decide_eq_true, Bool.and_eq_true, Bool.or_eq_true, Bool.not_eq_true', Bool.not_eq_false', Bool.and_eq_false_imp, Bool.or_eq_false_iff, bne_iff_ne, beq_iff_eq, bne_eq_false_iff_eq, beq_eq_false_iff_ne, gt_iff_lt, ge_iff_le, Int.not_lt, Int.not_le, ne_eq, Bool.true_eq_false, Bool.false_eq_true, reduceCtorEq, eta_Airway, eta_Duct, eta_Fan, eta_Mine, eta_Survey, bytes_nil] at hG; (try simp only [List.length_map]); omega) ?_
    | refine EqL.mk [] rfl ?_
    | refine EqL.mk [_] rfl ?_
    | refine EqL.mk _ rfl ?_
    | refine ArgF.is (c_impl_ValidDuct ⟨_, _, _, _⟩) ?_
    | refine ArgQ.is (fun hG => c_impl_ValidDuct ⟨_, _, _, _⟩) rfl rfl ?_
    | refine ArgF.is (c_impl_ductFlow ..) ?_
    | refine ArgQ.is (fun hG => c_impl_ductFlow ..) rfl rfl ?_
    | refine ArgF.is (c_impl_Duct_joints ⟨_, _, _, _⟩ (by first | assumption | omega)) ?_
    | refine ArgQ.is (fun hG => c_impl_Duct_joints ⟨_, _, _, _⟩ (by first | assumption | omega)) rfl rfl ?_
    | refine ArgQ.is (fun hG => c_impl_Duct_joints ⟨_, _, _, _⟩ (by simp only [forall_const, eq_self, not_true_eq_false, not_false_eq_true, or_false, false_or, or_self, or_true, true_or, and_true, true_and, and_false, false_and, decide_true, decide_false, Bool.not_true, Bool.not_false, decide_eq_true_eq, decide_eq_false_iff_not, ite_and_p, ite_or_p, Bool.decide_eq_true, Bool.and_eq_true, Bool.or_eq_true, Bool.not_eq_true', Bool.not_eq_false', Bool.and_eq_false_imp, Bool.or_eq_false_iff, bne_iff_ne, beq_iff_eq, bne_eq_false_iff_eq, beq_eq_false_iff_ne, gt_iff_lt, ge_iff_le, Int.not_lt, Int.not_le, ne_eq, Bool.true_eq_false, Bool.false_eq_true, reduceCtorEq, eta_Airway, eta_Duct, eta_Fan, eta_Mine, eta_Survey, bytes_nil] at hG; omega)) rfl rfl ?_
    | refine ArgF.is (c_impl_within ..) ?_
    | refine ArgQ.is (fun hG => c_impl_within ..) rfl rfl ?_
    | refine ArgF.is (c_impl_Duct_after ⟨_, _, _, _⟩ _ _ (by first | assumption | omega) (by first | assumption | omega) (by first | assumption | omega)) ?_
    | refine ArgQ.is (fun hG => c_impl_Duct_after ⟨_, _, _, _⟩ _ _ (by first | assumption | omega) (by first | assumption | omega) (by first | assumption | omega)) rfl rfl ?_
    | refine ArgQ.is (fun hG => c_impl_Duct_after ⟨_, _, _, _⟩ _ _ (by simp only [forall_const, eq_self, not_true_eq_false, not_false_eq_true, or_false, false_or, or_self, or_true, true_or, and_true, true_and, and_false, false_and, decide_true, decide_false, Bool.not_true, Bool.not_false, decide_eq_true_eq, decide_eq_false_iff_not, ite_and_p, ite_or_p, Bool.decide_eq_true, Bool.and_eq_true, Bool.or_eq_true, Bool.not_eq_true', Bool.not_eq_false', Bool.and_eq_false_imp, Bool.or_eq_false_iff, bne_iff_ne, beq_iff_eq, bne_eq_false_iff_eq, beq_eq_false_iff_ne, gt_iff_lt, ge_iff_le, Int.not_lt, Int.not_le, ne_eq, Bool.true_eq_false, Bool.false_eq_true, reduceCtorEq, eta_Airway, eta_Duct, eta_Fan, eta_Mine, eta_Survey, bytes_nil] at hG; omega) (by simp only [forall_const, eq_self, not_true_eq_false, not_false_eq_true, or_false, false_or, or_self, or_true, true_or, and_true, true_and, and_false, false_and, decide_true, decide_false, Bool.not_true, Bool.not_false, decide_eq_true_eq, decide_eq_false_iff_not, ite_and_p, ite_or_p, Bool.decide_eq_true, Bool.and_eq_true, Bool.or_eq_true, Bool.not_eq_true', Bool.not_eq_false', Bool.and_eq_false_imp, Bool.or_eq_false_iff, bne_iff_ne, beq_iff_eq, bne_eq_false_iff_eq, beq_eq_false_iff_ne, gt_iff_lt, ge_iff_le, Int.not_lt, Int.not_le, ne_eq, Bool.true_eq_false, Bool.false_eq_true, reduceCtorEq, eta_Airway, eta_Duct, eta_Fan, eta_Mine, eta_Survey, bytes_nil] at hG; omega) (by simp only [forall_const, eq_self, not_true_eq_false, not_false_eq_true, or_false, false_or, or_self, or_true, true_or, and_true, true_and, and_false, false_and, decide_true, decide_false, Bool.not_true, Bool.not_false, decide_eq_true_eq, decide_eq_false_iff_not, ite_and_p, ite_or_p, Bool.decide_eq_true, Bool.and_eq_true, Bool.or_eq_true, Bool.not_eq_true', Bool.not_eq_false', Bool.and_eq_false_imp, Bool.or_eq_false_iff, bne_iff_ne, beq_iff_eq, bne_eq_false_iff_eq, beq_eq_false_iff_ne, gt_iff_lt, ge_iff_le, Int.not_lt, Int.not_le, ne_eq, Bool.true_eq_false, Bool.false_eq_true, reduceCtorEq, eta_Airway, eta_Duct, eta_Fan, eta_Mine, eta_Survey, bytes_nil] at hG; omega)) rfl rfl ?_
    | refine CallF.mk (CallW.is [] true rfl ?_)
    | refine CallG.mk ?_
    | (refine CondF.mk (fun hb => ?_) (fun hb => ?_) <;> try simp only [forall_const, eq_self, not_true_eq_false, not_false_eq_true, or_false, false_or, or_self, or_true, true_or, and_true, true_and, and_false, false_and, decide_true, decide_false, Bool.not_true, Bool.not_false, decide_eq_true_eq, decide_eq_false_iff_not, ite_and_p, ite_or_p, Bool.decide_eq_true, Bool.and_eq_true, Bool.or_eq_true, Bool.not_eq_true', Bool.not_eq_false', Bool.and_eq_false_imp, Bool.or_eq_false_iff, bne_iff_ne, beq_iff_eq, bne_eq_false_iff_eq, beq_eq_false_iff_ne, gt_iff_lt, ge_iff_le, Int.not_lt, Int.not_le, ne_eq, Bool.true_eq_false, Bool.false_eq_true, reduceCtorEq, eta_Airway, eta_Duct, eta_Fan, eta_Mine, eta_Survey] at hb)
    | refine RetF.auto (And.intro rfl ?_)
    | exact Is.mk rfl rfl
    | refine Is.mk ?_ rfl
    | refine Is.mk rfl ?_
    | refine Is.mk ?_ ?_
  all_goals try dsimp only
  all_goals first
    | omega
    | (unfold endI; rfl)
    | (unfold needP endI; rfl)
    | (rw [decide_eq_true (show leastI (needP x n) 0 100000 ≤ 100000 from hl), if_pos rfl, if_pos rfl]; rfl)
    | skip
def needP (x : GDuct) (n : Int) (q : Int) : Bool := decide (endI x q ≥ n)
def needI (x : GDuct) (n : Int) : Int := leastI (needP x n) 0 100000
theorem c_impl_FlowNeeded_1 (x : GDuct) (q n : Int) (h : okDuct x = true) (hq : 0 ≤ q ∧ q ≤ 100000) : FnSem Tryz.prog 104 [In q, .p .any (.ref x.cells), .p .any (.ref [.c (.int .i64 n)])] [] (Is [Bo (needP x n q)] []) := by
  have hj := joI_b h
  refine FnSem.walk (zs := zeroPV Tryz.prog) (by kernel_rfl) Tryz.func104 rfl Tryz.results104 (by kernel_rfl) (by kernel_rfl) (by kernel_rfl) fun hw hh => ?_
  obtain ⟨w0, w1, w2, _⟩ := hw
  first | replace w0 := wf_I w0 | skip
  first | replace w1 := wf_I w1 | replace w1 := wf_Y w1 | replace w1 := wf_S w1 | replace w1 := wf_LI w1 | replace w1 := wf_LY w1 | replace w1 := wf_LLI w1 | replace w1 := wf_Ls w1 | skip
  first | replace w2 := wf_I w2 | replace w2 := wf_Y w2 | replace w2 := wf_S w2 | replace w2 := wf_LI w2 | replace w2 := wf_LY w2 | replace w2 := wf_LLI w2 | replace w2 := wf_Ls w2 | skip
  repeat' first
    | refine And.intro rfl ?_
    | refine GdF.mk (fun h => h) ?_
    | refine And.intro (Nat.succ_ne_zero _) ?_
    | refine And.intro (Nat.le_of_ble_eq_true rfl) ?_
    | refine SeqF.run ?_
    | refine ArgF.is (c_impl_Duct_joints x h) ?_
    | refine ArgQ.is (fun hG => c_impl_Duct_joints x h) rfl rfl ?_
    | refine ArgF.is (c_impl_Duct_after x q (joI x) h hq (by omega)) ?_
    | refine ArgQ.is (fun hG => c_impl_Duct_after x q (joI x) h hq (by omega)) rfl rfl ?_
    | refine GhF.go ?_
    | refine DrawG.old (DrawF.lex (by decide +kernel) ?_)
    | refine BndF.mk (fun _ => by omega) ?_
    | refine BndF.mk (fun _ => by simp only [List.length_map, List.length_cons, List.length_nil, List.length_append, List.length_set, List.length_replicate, iotaI_len]; omega) ?_
    | refine EqL.mk [] rfl ?_
    | refine EqL.mk [_] rfl ?_
    | refine EqL.mk _ rfl ?_
    | refine ArgF.is (c_impl_Duct_joints ⟨_, _, _, _⟩ (by first | assumption | omega)) ?_
    | refine ArgQ.is (fun hG => c_impl_Duct_joints ⟨_, _, _, _⟩ (by first | assumption | omega)) rfl rfl ?_
    | refine ArgF.is (c_impl_Duct_after ⟨_, _, _, _⟩ _ _ (by first | assumption | omega) (by first | assumption | omega) (by first | assumption | omega)) ?_
    | refine ArgQ.is (fun hG => c_impl_Duct_after ⟨_, _, _, _⟩ _ _ (by first | assumption | omega) (by first | assumption | omega) (by first | assumption | omega)) rfl rfl ?_
    | refine CallF.mk (CallW.is [] true rfl ?_)
    | refine CallG.mk ?_
    | (refine CondF.mk (fun hb => ?_) (fun hb => ?_) <;> try simp only [forall_const, eq_self, not_true_eq_false, not_false_eq_true, or_false, false_or, or_self, or_true, true_or, and_true, true_and, and_false, false_and, decide_true, decide_false, Bool.not_true, Bool.not_false, decide_eq_true_eq, decide_eq_false_iff_not, ite_and_p, ite_or_p, Bool.decide_eq_true, Bool.and_eq_true, Bool.or_eq_true, Bool.not_eq_true', Bool.not_eq_false', Bool.and_eq_false_imp, Bool.or_eq_false_iff, bne_iff_ne, beq_iff_eq, bne_eq_false_iff_eq, beq_eq_false_iff_ne, gt_iff_lt, ge_iff_le, Int.not_lt, Int.not_le, ne_eq, Bool.true_eq_false, Bool.false_eq_true, reduceCtorEq, eta_Airway, eta_Duct, eta_Fan, eta_Mine, eta_Survey] at hb)
    | refine RetF.auto (And.intro rfl ?_)
    | exact Is.mk rfl rfl
    | refine Is.mk ?_ rfl
    | refine Is.mk rfl ?_
    | refine Is.mk ?_ ?_
  all_goals try dsimp only
  all_goals first
    | omega
    | (unfold endI; rfl)
    | (unfold needP endI; rfl)
    | (rw [decide_eq_true (show leastI (needP x n) 0 100000 ≤ 100000 from hl), if_pos rfl, if_pos rfl]; rfl)
    | skip
theorem needP_m {x : GDuct} (h : okDuct x = true) {n a b : Int} (h0 : 0 ≤ a) (h1 : a ≤ b) (hp : needP x n a = true) : needP x n b = true := by
  have h2 := endI_m h h0 h1
  have h3 := of_decide_eq_true hp
  exact decide_eq_true (show endI x b ≥ n by omega)
--@fn impl.FlowNeeded
theorem needT (x : GDuct) (n q : Int) (h : okDuct x = true) (hn : 0 ≤ n ∧ n ≤ 100000) (hq : 0 ≤ q ∧ q ≤ 100000) (he : n ≤ endI x q) : FnSem Tryz.prog 38 [.p .any (.agg x.cells), In n] [] (Is [In (needI x n), In 0] []) := by
  have hl : needI x n ≤ 100000 := by
    apply Int.not_lt.1; intro hlt
    have := leastI_none (p := needP x n) (lo := 0) (hi := 100000) (show ¬needI x n ≤ 100000 by omega) q hq.1 hq.2
    have := of_decide_eq_false this
    omega
  refine FnSem.walk (zs := zeroPV Tryz.prog) (by kernel_rfl) Tryz.func38 rfl Tryz.results38 (by kernel_rfl) (by kernel_rfl) (by kernel_rfl) fun hw hh => ?_
  obtain ⟨w0, w1, _⟩ := hw
  first | replace w0 := wf_Duct w0 | skip
  first | replace w1 := wf_I w1 | skip
  repeat' first
    | refine And.intro rfl ?_
    | refine GdF.mk (fun h => h) ?_
    | refine And.intro (Nat.succ_ne_zero _) ?_
    | refine And.intro (Nat.le_of_ble_eq_true rfl) ?_
    | refine SeqF.run ?_
    | refine ArgF.is (vduT x h) ?_
    | refine ArgQ.is (fun hG => vduT x h) rfl rfl ?_
    | refine ArgF.is (dfT n (by omega)) ?_
    | refine ArgQ.is (fun hG => dfT n (by omega)) rfl rfl ?_
    | refine ArgF.is (firstIn2 _ _ _ _ _ (needP x n) (fun q h0 h1 => c_impl_FlowNeeded_1 x q n h ⟨h0, h1⟩) (by omega) (fun a b h0 h1 h2 hp => needP_m h h0 h1 hp)) ?_
    | refine ArgQ.is (fun hG => firstIn2 _ _ _ _ _ (needP x n) (fun q h0 h1 => c_impl_FlowNeeded_1 x q n h ⟨h0, h1⟩) (by omega) (fun a b h0 h1 h2 hp => needP_m h h0 h1 hp)) rfl rfl ?_
    | refine GhF.go ?_
    | refine BndF.mk (fun _ => by omega) ?_
    | refine BndF.mk (fun _ => by simp only [List.length_map, List.length_cons, List.length_nil, List.length_append, List.length_set, List.length_replicate, iotaI_len]; omega) ?_
    | refine EqL.mk [] rfl ?_
    | refine EqL.mk [_] rfl ?_
    | refine EqL.mk _ rfl ?_
    | refine ArgF.is (c_impl_ValidDuct ⟨_, _, _, _⟩) ?_
    | refine ArgQ.is (fun hG => c_impl_ValidDuct ⟨_, _, _, _⟩) rfl rfl ?_
    | refine ArgF.is (c_impl_ductFlow ..) ?_
    | refine ArgQ.is (fun hG => c_impl_ductFlow ..) rfl rfl ?_
    | refine ArgF.is (c_impl_firstIn ..) ?_
    | refine ArgQ.is (fun hG => c_impl_firstIn ..) rfl rfl ?_
    | refine ArgF.is (c_impl_orNotFound ..) ?_
    | refine ArgQ.is (fun hG => c_impl_orNotFound ..) rfl rfl ?_
    | refine CallF.mk (CallW.is [] true rfl ?_)
    | refine CallG.mk ?_
    | (refine CondF.mk (fun hb => ?_) (fun hb => ?_) <;> try simp only [forall_const, eq_self, not_true_eq_false, not_false_eq_true, or_false, false_or, or_self, or_true, true_or, and_true, true_and, and_false, false_and, decide_true, decide_false, Bool.not_true, Bool.not_false, decide_eq_true_eq, decide_eq_false_iff_not, ite_and_p, ite_or_p, Bool.decide_eq_true, Bool.and_eq_true, Bool.or_eq_true, Bool.not_eq_true', Bool.not_eq_false', Bool.and_eq_false_imp, Bool.or_eq_false_iff, bne_iff_ne, beq_iff_eq, bne_eq_false_iff_eq, beq_eq_false_iff_ne, gt_iff_lt, ge_iff_le, Int.not_lt, Int.not_le, ne_eq, Bool.true_eq_false, Bool.false_eq_true, reduceCtorEq, eta_Airway, eta_Duct, eta_Fan, eta_Mine, eta_Survey] at hb)
    | refine RetF.auto (And.intro rfl ?_)
    | exact Is.mk rfl rfl
    | refine Is.mk ?_ rfl
    | refine Is.mk rfl ?_
    | refine Is.mk ?_ ?_
  all_goals try dsimp only
  all_goals first
    | omega
    | (unfold endI; rfl)
    | (unfold needP endI; rfl)
    | (rw [decide_eq_true (show leastI (needP x n) 0 100000 ≤ 100000 from hl), if_pos rfl, if_pos rfl]; rfl)
    | skip
theorem need_law {x : GDuct} {n q : Int} (h : okDuct x = true) (hn : 0 ≤ n) (hq : 0 ≤ q ∧ q ≤ 100000) (he : n ≤ endI x q) : (0 ≤ needI x n ∧ needI x n ≤ q) ∧ n ≤ needI x n ∧ n ≤ endI x (needI x n) ∧ (0 < needI x n → endI x (needI x n - 1) < n) := by
  have hl : needI x n ≤ q := by
    apply Int.not_lt.1; intro hlt
    by_cases e : leastI (needP x n) 0 100000 ≤ 100000
    · have := (leastI_hit e (by omega)).2.2 q hq.1 hlt
      have := of_decide_eq_false this; omega
    · have := leastI_none e q hq.1 hq.2
      have := of_decide_eq_false this; omega
  have h1 := leastI_hit (p := needP x n) (lo := 0) (hi := 100000) (show needI x n ≤ 100000 by omega) (by omega)
  have h2 := of_decide_eq_true h1.2.1
  have h3 := endI_b h (show 0 ≤ needI x n from h1.1)
  have h4 := h1.2.2 (needI x n - 1)
  change endI x (needI x n) ≥ n at h2
  refine ⟨⟨h1.1, hl⟩, by omega, h2, fun hp => ?_⟩
  have := of_decide_eq_false (h4 (by omega) (show needI x n - 1 < needI x n by omega))
  omega
end Go.Proofs.YtmifcbekaniiiaaGreatDoor
