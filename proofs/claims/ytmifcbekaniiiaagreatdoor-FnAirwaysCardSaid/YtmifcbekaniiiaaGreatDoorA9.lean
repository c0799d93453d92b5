/- Contracts of functions of the program, and what they compute. Conditions: those that each theorem states. -/
import Derived.Test.YtmifcbekaniiiaaGreatDoorProg
import Derived.Test.YtmifcbekaniiiaaGreatDoorA8r
set_option linter.unusedVariables false
set_option linter.unusedSimpArgs false
namespace Go.Proofs.YtmifcbekaniiiaaGreatDoor
open Go.Av
attribute [local irreducible] Go.IntKind.wrap listS decS idS isName leastI rd rdZ rootI rawA widenFor resOf limI upI r8W r8A airwS
set_option maxRecDepth 20000
set_option maxHeartbeats 16000000

/-! Airways: the law. -/
/-- an airway of another section -/
abbrev secA (x : GAirway) (s : Int) : GAirway := ⟨x.id, x.from_, x.to, x.length, s, x.friction, x.shock⟩
theorem ok_secA {x : GAirway} {n : Int} (h : okAirway x = true) (hn : 50 ≤ n ∧ n ≤ 5000) : okAirway (secA x n) = true := ok_sec h hn
theorem raw_secA {x : GAirway} {n s : Int} : rawA (secA x n) s = rawA x s := by unfold rawA; rfl
theorem res_law {x : GAirway} (h : okAirway x = true) : ((resOf x).2 = 0 ∧ (1 ≤ (resOf x).1 ∧ (resOf x).1 ≤ 1000000) ∧ (resOf x).1 = max (rawA x x.section_) 1) ∨ (resOf x).2 = 6 := by
  unfold resOf resI
  split
  · exact .inr rfl
  · exact .inl ⟨rfl, by dsimp only; omega, rfl⟩
theorem same_law {x : GAirway} (h : okAirway x = true) (hr : (resOf x).2 = 0) : (widenFor x (resOf x).1).2 = 0 ∧ (widenFor x (resOf x).1).1 ≤ x.section_ ∧ 50 ≤ (widenFor x (resOf x).1).1 := by
  have hb := okAirway_b h
  rcases res_law h with ⟨_, h1, h2⟩ | h1
  · rcases wide_law h h1 with ⟨a, b, c, d⟩ | ⟨a, b⟩
    · exact ⟨a, d x.section_ hb.2.2.2.2.1.1 hb.2.2.2.2.1.2 (by omega), b.1⟩
    · have := b x.section_ hb.2.2.2.2.1.1 hb.2.2.2.2.1.2; omega
  · omega
theorem wide_ok {x : GAirway} {w : Int} (h : okAirway x = true) (hw : 1 ≤ w ∧ w ≤ 60000) (hr : (widenFor x w).2 = 0) : (50 ≤ (widenFor x w).1 ∧ (widenFor x w).1 ≤ 5000) ∧ rawA x (widenFor x w).1 ≤ w := by
  rcases wide_law h (r := w) (by omega) with ⟨a, b, c, d⟩ | ⟨a, b⟩
  · exact ⟨b, c⟩
  · omega
theorem wide_no {x : GAirway} {w : Int} (h : okAirway x = true) (hw : 1 ≤ w ∧ w ≤ 60000) (hr : ¬(widenFor x w).2 = 0) : (widenFor x w).2 = 3 := by
  rcases wide_law h (r := w) (by omega) with ⟨a, b, c, d⟩ | ⟨a, b⟩
  · exact absurd a hr
  · exact a
theorem fast_law {x : GAirway} {v : Int} (h : okAirway x = true) (hv : 0 ≤ v ∧ v ≤ 2000) : rd (100 * limI x v) x.section_ ≤ v := by
  have hb := okAirway_b h
  have hl := limI_b h hv
  exact rd_hi (by omega) (by omega) hl.2.1
theorem wide_facts {x : GAirway} {w : Int} (h : okAirway x = true) (hw : 1 ≤ w ∧ w ≤ 60000) (hr : (widenFor x w).2 = 0) : okAirway (secA x (widenFor x w).1) = true ∧ rawA (secA x (widenFor x w).1) (secA x (widenFor x w).1).section_ ≤ 1000000 ∧ rawA (secA x (widenFor x w).1) (secA x (widenFor x w).1).section_ ≤ w := by
  have q := wide_ok h hw hr
  have e : rawA (secA x (widenFor x w).1) (secA x (widenFor x w).1).section_ = rawA x (widenFor x w).1 := raw_secA
  rw [e]
  exact ⟨ok_secA h q.1, by omega, q.2⟩
theorem up_law {a q : Int} (ha : 1 ≤ a ∧ a ≤ 50000000) (hq : 1 ≤ q ∧ q ≤ 20000) : IntKind.i64.wrap (upI a q * q) = upI a q * q ∧ IntKind.i64.wrap ((upI a q - 1) * q) = (upI a q - 1) * q := by
  have hU := upI_law ha.1 hq.1
  have e : (upI a q - 1) * q = upI a q * q - q := by rw [Int.sub_mul]; omega
  exact ⟨wrapI (by omega) (by omega), wrapI (by omega) (by omega)⟩
theorem last_law {a w f v : Int} (h : a ≤ w) (hw : 1 ≤ w) (hf : f ≤ v) : (if (if true = true then decide (max 1 a ≤ w) else false) = true then decide (f ≤ v) else false) = true := by
  rw [if_pos rfl, decide_eq_true (show max 1 a ≤ w by omega), decide_eq_true hf]; rfl
theorem c_laws_FnAirways (c1 c2 : List Int) : FnSem Tryz.prog 4 [Lx (LY c1), Lx (LY c2)] [] (Is [Bo true] []) := by
  have q0 := r8W_b c2 0 (n := 20000) (by omega)
  have q2 := r8W_b c2 2 (n := 60000) (by omega)
  have q4 := r8W_b c2 4 (n := 1000) (by omega)
  refine FnSem.walk (zs := zeroPV Tryz.prog) (by kernel_rfl) Tryz.func4 rfl Tryz.results4 (by kernel_rfl) (by kernel_rfl) (by kernel_rfl) fun hw hh => ?_
  obtain ⟨w0, w1, _⟩ := hw
  first | replace w0 := wf_LY w0 | skip
  first | replace w1 := wf_LY w1 | skip
  repeat' first
    | refine And.intro rfl ?_
    | refine GdF.mk (fun h => h) ?_
    | refine And.intro (Nat.succ_ne_zero _) ?_
    | refine And.intro (Nat.le_of_ble_eq_true rfl) ?_
    | refine SeqF.run ?_
    | (refine ArgF.ret (drawMain c1) ?_; intro x hx; have hb' := okAirway_b hx; have hm := mulB' (a := x.length) (b := x.section_) (A := 10000) (B := 5000) (by omega) (by omega) (by omega) (by omega); have hU := upI_law (a := x.length * x.section_) (b := 1 + r8W c2 0 20000) (by have := Int.mul_le_mul (show (1 : Int) ≤ x.length by omega) (show (1 : Int) ≤ x.section_ by omega) (by omega) (by omega); omega) (by omega))
    | refine ArgF.is (c_impl_TurnAirway x hx) ?_
    | refine ArgQ.is (fun hG => c_impl_TurnAirway x hx) rfl rfl ?_
    | refine ArgF.is (c_impl_TurnAirway (turnA x) (turnA_ok hx)) ?_
    | refine ArgQ.is (fun hG => c_impl_TurnAirway (turnA x) (turnA_ok hx)) rfl rfl ?_
    | refine ArgF.is (c_impl_AirwayText x hx) ?_
    | refine ArgQ.is (fun hG => c_impl_AirwayText x hx) rfl rfl ?_
    | refine ArgF.is (c_impl_ReadAirway x hx) ?_
    | refine ArgQ.is (fun hG => c_impl_ReadAirway x hx) rfl rfl ?_
    | refine ArgF.is (c_impl_VolumeOf x hx) ?_
    | refine ArgQ.is (fun hG => c_impl_VolumeOf x hx) rfl rfl ?_
    | refine ArgF.is (travT x (1 + r8W c2 0 20000) hx (by omega)) ?_
    | refine ArgQ.is (fun hG => travT x (1 + r8W c2 0 20000) hx (by omega)) rfl rfl ?_
    | refine ArgF.is (travN x (1 + r8W c2 0 20000) hx (by omega)) ?_
    | refine ArgQ.is (fun hG => travN x (1 + r8W c2 0 20000) hx (by omega)) rfl rfl ?_
    | refine ArgF.is (c_impl_ResistanceOf x hx) ?_
    | refine ArgQ.is (fun hG => c_impl_ResistanceOf x hx) rfl rfl ?_
    | refine ArgF.is (c_impl_WidenFor x (resOf x).1) ?_
    | refine ArgQ.is (fun hG => c_impl_WidenFor x (resOf x).1) rfl rfl ?_
    | refine ArgF.is (c_impl_WidenFor x (1 + r8W c2 2 60000)) ?_
    | refine ArgQ.is (fun hG => c_impl_WidenFor x (1 + r8W c2 2 60000)) rfl rfl ?_
    | (have wf := wide_facts hx (w := 1 + r8W c2 2 60000) (by omega) hb; refine ArgF.is (sResT (secA x (widenFor x (1 + r8W c2 2 60000)).1) wf.1 wf.2.1) ?_)
    | refine ArgF.is (c_impl_FlowLimit (secA x (widenFor x (1 + r8W c2 2 60000)).1) (r8W c2 4 1000) wf.1 (by omega)) ?_
    | refine ArgQ.is (fun hG => c_impl_FlowLimit (secA x (widenFor x (1 + r8W c2 2 60000)).1) (r8W c2 4 1000) wf.1 (by omega)) rfl rfl ?_
    | refine ArgF.is (c_impl_SpeedOf (secA x (widenFor x (1 + r8W c2 2 60000)).1) (limI (secA x (widenFor x (1 + r8W c2 2 60000)).1) (r8W c2 4 1000)) wf.1 (limI_b wf.1 (by omega)).1) ?_
    | refine ArgQ.is (fun hG => c_impl_SpeedOf (secA x (widenFor x (1 + r8W c2 2 60000)).1) (limI (secA x (widenFor x (1 + r8W c2 2 60000)).1) (r8W c2 4 1000)) wf.1 (limI_b wf.1 (by omega)).1) rfl rfl ?_
    | refine GhF.go ?_
    | refine GdS.keep ?_
    | refine AggN.mk true (by kernel_rfl) (iff_of_true rfl rfl) ?_
    | refine AggE.mk true (by kernel_rfl) (iff_of_true rfl rfl) ?_
    | refine BndF.mk (fun _ => by omega) ?_
    | refine BndF.mk (fun _ => by simp only [List.length_map, List.length_cons, List.length_nil, List.length_append, List.length_set, List.length_replicate, iotaI_len]; omega) ?_
    | refine BndF.mk (fun hG => by simp only [forall_const, eq_self, not_true_eq_false, not_false_eq_true, or_false, false_or, or_self, or_true, true_or, and_true, true_and, and_false, false_and, decide_true, decide_false, Bool.not_true, Bool.not_false, decide_eq_true_eq, decide_eq_false_iff_not, ite_and_p, ite_or_p, Bool.decide_eq_true, Bool.and_eq_true, Bool.or_eq_true, Bool.not_eq_true', Bool.not_eq_false', Bool.and_eq_false_imp, Bool.or_eq_false_iff, bne_iff_ne, beq_iff_eq, bne_eq_false_iff_eq, beq_eq_false_iff_ne, gt_iff_lt, ge_iff_le, Int.not_lt, Int.not_le, ne_eq, Bool.true_eq_false, Bool.false_eq_true, reduceCtorEq, eta_Airway, eta_Duct, eta_Fan, eta_Mine, eta_Survey, bytes_nil] at hG; (try simp only [List.length_map]); omega) ?_
    | refine EqI.mk _ (fun _ => wrapI (by omega) (by omega)) ?_
    | refine EqI.mk _ (fun _ => rfl) ?_
    | refine EqL.mk _ (tk eY (by first | rfl | assumption | omega | (simp only [List.length_map, List.length_cons, List.length_nil, List.length_append, List.length_set, List.length_replicate, iotaI_len]; done) | (simp only [List.length_map, List.length_cons, List.length_nil, List.length_append, List.length_set, List.length_replicate, iotaI_len]; omega))) ?_
    | refine EqL.mk _ (st eY) ?_
    | refine EqL.mk [] rfl ?_
    | refine EqL.mk [_] rfl ?_
    | refine EqL.mk _ rfl ?_
    | refine ArgF.is (c_laws_r8Long ..) ?_
    | refine ArgQ.is (fun hG => c_laws_r8Long ..) rfl rfl ?_
    | refine ArgF.is (c_spec_R8Airway ..) ?_
    | refine ArgQ.is (fun hG => c_spec_R8Airway ..) rfl rfl ?_
    | refine ArgF.is (c_impl_TurnAirway ⟨_, _, _, _, _, _, _⟩ (by first | assumption | omega)) ?_
    | refine ArgQ.is (fun hG => c_impl_TurnAirway ⟨_, _, _, _, _, _, _⟩ (by first | assumption | omega)) rfl rfl ?_
    | refine ArgQ.is (fun hG => c_impl_TurnAirway ⟨_, _, _, _, _, _, _⟩ (by simp only [forall_const, eq_self, not_true_eq_false, not_false_eq_true, or_false, false_or, or_self, or_true, true_or, and_true, true_and, and_false, false_and, decide_true, decide_false, Bool.not_true, Bool.not_false, decide_eq_true_eq, decide_eq_false_iff_not, ite_and_p, ite_or_p, Bool.decide_eq_true, Bool.and_eq_true, Bool.or_eq_true, Bool.not_eq_true', Bool.not_eq_false', Bool.and_eq_false_imp, Bool.or_eq_false_iff, bne_iff_ne, beq_iff_eq, bne_eq_false_iff_eq, beq_eq_false_iff_ne, gt_iff_lt, ge_iff_le, Int.not_lt, Int.not_le, ne_eq, Bool.true_eq_false, Bool.false_eq_true, reduceCtorEq, eta_Airway, eta_Duct, eta_Fan, eta_Mine, eta_Survey, bytes_nil] at hG; omega)) rfl rfl ?_
    | refine ArgF.is (c_impl_AirwayText ⟨_, _, _, _, _, _, _⟩ (by first | assumption | omega)) ?_
    | refine ArgQ.is (fun hG => c_impl_AirwayText ⟨_, _, _, _, _, _, _⟩ (by first | assumption | omega)) rfl rfl ?_
    | refine ArgQ.is (fun hG => c_impl_AirwayText ⟨_, _, _, _, _, _, _⟩ (by simp only [forall_const, eq_self, not_true_eq_false, not_false_eq_true, or_false, false_or, or_self, or_true, true_or, and_true, true_and, and_false, false_and, decide_true, decide_false, Bool.not_true, Bool.not_false, decide_eq_true_eq, decide_eq_false_iff_not, ite_and_p, ite_or_p, Bool.decide_eq_true, Bool.and_eq_true, Bool.or_eq_true, Bool.not_eq_true', Bool.not_eq_false', Bool.and_eq_false_imp, Bool.or_eq_false_iff, bne_iff_ne, beq_iff_eq, bne_eq_false_iff_eq, beq_eq_false_iff_ne, gt_iff_lt, ge_iff_le, Int.not_lt, Int.not_le, ne_eq, Bool.true_eq_false, Bool.false_eq_true, reduceCtorEq, eta_Airway, eta_Duct, eta_Fan, eta_Mine, eta_Survey, bytes_nil] at hG; omega)) rfl rfl ?_
    | refine ArgF.is (c_impl_ReadAirway ⟨_, _, _, _, _, _, _⟩ (by first | assumption | omega)) ?_
    | refine ArgQ.is (fun hG => c_impl_ReadAirway ⟨_, _, _, _, _, _, _⟩ (by first | assumption | omega)) rfl rfl ?_
    | refine ArgQ.is (fun hG => c_impl_ReadAirway ⟨_, _, _, _, _, _, _⟩ (by simp only [forall_const, eq_self, not_true_eq_false, not_false_eq_true, or_false, false_or, or_self, or_true, true_or, and_true, true_and, and_false, false_and, decide_true, decide_false, Bool.not_true, Bool.not_false, decide_eq_true_eq, decide_eq_false_iff_not, ite_and_p, ite_or_p, Bool.decide_eq_true, Bool.and_eq_true, Bool.or_eq_true, Bool.not_eq_true', Bool.not_eq_false', Bool.and_eq_false_imp, Bool.or_eq_false_iff, bne_iff_ne, beq_iff_eq, bne_eq_false_iff_eq, beq_eq_false_iff_ne, gt_iff_lt, ge_iff_le, Int.not_lt, Int.not_le, ne_eq, Bool.true_eq_false, Bool.false_eq_true, reduceCtorEq, eta_Airway, eta_Duct, eta_Fan, eta_Mine, eta_Survey, bytes_nil] at hG; omega)) rfl rfl ?_
    | refine ArgF.is (c_impl_VolumeOf ⟨_, _, _, _, _, _, _⟩ (by first | assumption | omega)) ?_
    | refine ArgQ.is (fun hG => c_impl_VolumeOf ⟨_, _, _, _, _, _, _⟩ (by first | assumption | omega)) rfl rfl ?_
    | refine ArgQ.is (fun hG => c_impl_VolumeOf ⟨_, _, _, _, _, _, _⟩ (by simp only [forall_const, eq_self, not_true_eq_false, not_false_eq_true, or_false, false_or, or_self, or_true, true_or, and_true, true_and, and_false, false_and, decide_true, decide_false, Bool.not_true, Bool.not_false, decide_eq_true_eq, decide_eq_false_iff_not, ite_and_p, ite_or_p, Bool.decide_eq_true, Bool.and_eq_true, Bool.or_eq_true, Bool.not_eq_true', Bool.not_eq_false', Bool.and_eq_false_imp, Bool.or_eq_false_iff, bne_iff_ne, beq_iff_eq, bne_eq_false_iff_eq, beq_eq_false_iff_ne, gt_iff_lt, ge_iff_le, Int.not_lt, Int.not_le, ne_eq, Bool.true_eq_false, Bool.false_eq_true, reduceCtorEq, eta_Airway, eta_Duct, eta_Fan, eta_Mine, eta_Survey, bytes_nil] at hG; omega)) rfl rfl ?_
    | refine ArgF.is (c_laws_r8Wide _ _ _ (by first | assumption | omega) (by first | assumption | omega)) ?_
    | refine ArgQ.is (fun hG => c_laws_r8Wide _ _ _ (by first | assumption | omega) (by first | assumption | omega)) rfl rfl ?_
    | refine ArgQ.is (fun hG => c_laws_r8Wide _ _ _ (by simp only [forall_const, eq_self, not_true_eq_false, not_false_eq_true, or_false, false_or, or_self, or_true, true_or, and_true, true_and, and_false, false_and, decide_true, decide_false, Bool.not_true, Bool.not_false, decide_eq_true_eq, decide_eq_false_iff_not, ite_and_p, ite_or_p, Bool.decide_eq_true, Bool.and_eq_true, Bool.or_eq_true, Bool.not_eq_true', Bool.not_eq_false', Bool.and_eq_false_imp, Bool.or_eq_false_iff, bne_iff_ne, beq_iff_eq, bne_eq_false_iff_eq, beq_eq_false_iff_ne, gt_iff_lt, ge_iff_le, Int.not_lt, Int.not_le, ne_eq, Bool.true_eq_false, Bool.false_eq_true, reduceCtorEq, eta_Airway, eta_Duct, eta_Fan, eta_Mine, eta_Survey, bytes_nil] at hG; omega) (by simp only [forall_const, eq_self, not_true_eq_false, not_false_eq_true, or_false, false_or, or_self, or_true, true_or, and_true, true_and, and_false, false_and, decide_true, decide_false, Bool.not_true, Bool.not_false, decide_eq_true_eq, decide_eq_false_iff_not, ite_and_p, ite_or_p, Bool.decide_eq_true, Bool.and_eq_true, Bool.or_eq_true, Bool.not_eq_true', Bool.not_eq_false', Bool.and_eq_false_imp, Bool.or_eq_false_iff, bne_iff_ne, beq_iff_eq, bne_eq_false_iff_eq, beq_eq_false_iff_ne, gt_iff_lt, ge_iff_le, Int.not_lt, Int.not_le, ne_eq, Bool.true_eq_false, Bool.false_eq_true, reduceCtorEq, eta_Airway, eta_Duct, eta_Fan, eta_Mine, eta_Survey, bytes_nil] at hG; omega)) rfl rfl ?_
    | refine ArgF.is (c_impl_TravelTime ..) ?_
    | refine ArgQ.is (fun hG => c_impl_TravelTime ..) rfl rfl ?_
    | refine ArgF.is (c_impl_ResistanceOf ⟨_, _, _, _, _, _, _⟩ (by first | assumption | omega)) ?_
    | refine ArgQ.is (fun hG => c_impl_ResistanceOf ⟨_, _, _, _, _, _, _⟩ (by first | assumption | omega)) rfl rfl ?_
    | refine ArgQ.is (fun hG => c_impl_ResistanceOf ⟨_, _, _, _, _, _, _⟩ (by simp only [forall_const, eq_self, not_true_eq_false, not_false_eq_true, or_false, false_or, or_self, or_true, true_or, and_true, true_and, and_false, false_and, decide_true, decide_false, Bool.not_true, Bool.not_false, decide_eq_true_eq, decide_eq_false_iff_not, ite_and_p, ite_or_p, Bool.decide_eq_true, Bool.and_eq_true, Bool.or_eq_true, Bool.not_eq_true', Bool.not_eq_false', Bool.and_eq_false_imp, Bool.or_eq_false_iff, bne_iff_ne, beq_iff_eq, bne_eq_false_iff_eq, beq_eq_false_iff_ne, gt_iff_lt, ge_iff_le, Int.not_lt, Int.not_le, ne_eq, Bool.true_eq_false, Bool.false_eq_true, reduceCtorEq, eta_Airway, eta_Duct, eta_Fan, eta_Mine, eta_Survey, bytes_nil] at hG; omega)) rfl rfl ?_
    | refine ArgF.is (c_impl_WidenFor ⟨_, _, _, _, _, _, _⟩ _) ?_
    | refine ArgQ.is (fun hG => c_impl_WidenFor ⟨_, _, _, _, _, _, _⟩ _) rfl rfl ?_
    | refine ArgF.is (c_spec_ResistanceOf ..) ?_
    | refine ArgQ.is (fun hG => c_spec_ResistanceOf ..) rfl rfl ?_
    | refine ArgF.is (c_impl_FlowLimit ⟨_, _, _, _, _, _, _⟩ _ (by first | assumption | omega) (by first | assumption | omega)) ?_
    | refine ArgQ.is (fun hG => c_impl_FlowLimit ⟨_, _, _, _, _, _, _⟩ _ (by first | assumption | omega) (by first | assumption | omega)) rfl rfl ?_
    | refine ArgQ.is (fun hG => c_impl_FlowLimit ⟨_, _, _, _, _, _, _⟩ _ (by simp only [forall_const, eq_self, not_true_eq_false, not_false_eq_true, or_false, false_or, or_self, or_true, true_or, and_true, true_and, and_false, false_and, decide_true, decide_false, Bool.not_true, Bool.not_false, decide_eq_true_eq, decide_eq_false_iff_not, ite_and_p, ite_or_p, Bool.decide_eq_true, Bool.and_eq_true, Bool.or_eq_true, Bool.not_eq_true', Bool.not_eq_false', Bool.and_eq_false_imp, Bool.or_eq_false_iff, bne_iff_ne, beq_iff_eq, bne_eq_false_iff_eq, beq_eq_false_iff_ne, gt_iff_lt, ge_iff_le, Int.not_lt, Int.not_le, ne_eq, Bool.true_eq_false, Bool.false_eq_true, reduceCtorEq, eta_Airway, eta_Duct, eta_Fan, eta_Mine, eta_Survey, bytes_nil] at hG; omega) (by simp only [forall_const, eq_self, not_true_eq_false, not_false_eq_true, or_false, false_or, or_self, or_true, true_or, and_true, true_and, and_false, false_and, decide_true, decide_false, Bool.not_true, Bool.not_false, decide_eq_true_eq, decide_eq_false_iff_not, ite_and_p, ite_or_p, Bool.decide_eq_true, Bool.and_eq_true, Bool.or_eq_true, Bool.not_eq_true', Bool.not_eq_false', Bool.and_eq_false_imp, Bool.or_eq_false_iff, bne_iff_ne, beq_iff_eq, bne_eq_false_iff_eq, beq_eq_false_iff_ne, gt_iff_lt, ge_iff_le, Int.not_lt, Int.not_le, ne_eq, Bool.true_eq_false, Bool.false_eq_true, reduceCtorEq, eta_Airway, eta_Duct, eta_Fan, eta_Mine, eta_Survey, bytes_nil] at hG; omega)) rfl rfl ?_
    | refine ArgF.is (c_impl_SpeedOf ⟨_, _, _, _, _, _, _⟩ _ (by first | assumption | omega) (by first | assumption | omega)) ?_
    | refine ArgQ.is (fun hG => c_impl_SpeedOf ⟨_, _, _, _, _, _, _⟩ _ (by first | assumption | omega) (by first | assumption | omega)) rfl rfl ?_
    | refine ArgQ.is (fun hG => c_impl_SpeedOf ⟨_, _, _, _, _, _, _⟩ _ (by simp only [forall_const, eq_self, not_true_eq_false, not_false_eq_true, or_false, false_or, or_self, or_true, true_or, and_true, true_and, and_false, false_and, decide_true, decide_false, Bool.not_true, Bool.not_false, decide_eq_true_eq, decide_eq_false_iff_not, ite_and_p, ite_or_p, Bool.decide_eq_true, Bool.and_eq_true, Bool.or_eq_true, Bool.not_eq_true', Bool.not_eq_false', Bool.and_eq_false_imp, Bool.or_eq_false_iff, bne_iff_ne, beq_iff_eq, bne_eq_false_iff_eq, beq_eq_false_iff_ne, gt_iff_lt, ge_iff_le, Int.not_lt, Int.not_le, ne_eq, Bool.true_eq_false, Bool.false_eq_true, reduceCtorEq, eta_Airway, eta_Duct, eta_Fan, eta_Mine, eta_Survey, bytes_nil] at hG; omega) (by simp only [forall_const, eq_self, not_true_eq_false, not_false_eq_true, or_false, false_or, or_self, or_true, true_or, and_true, true_and, and_false, false_and, decide_true, decide_false, Bool.not_true, Bool.not_false, decide_eq_true_eq, decide_eq_false_iff_not, ite_and_p, ite_or_p, Bool.decide_eq_true, Bool.and_eq_true, Bool.or_eq_true, Bool.not_eq_true', Bool.not_eq_false', Bool.and_eq_false_imp, Bool.or_eq_false_iff, bne_iff_ne, beq_iff_eq, bne_eq_false_iff_eq, beq_eq_false_iff_ne, gt_iff_lt, ge_iff_le, Int.not_lt, Int.not_le, ne_eq, Bool.true_eq_false, Bool.false_eq_true, reduceCtorEq, eta_Airway, eta_Duct, eta_Fan, eta_Mine, eta_Survey, bytes_nil] at hG; omega)) rfl rfl ?_
    | refine CallF.mk (CallW.is [] true rfl ?_)
    | refine CallG.mk ?_
    | (refine CondF.mk (fun hb => ?_) (fun hb => ?_) <;> try simp only [forall_const, eq_self, not_true_eq_false, not_false_eq_true, or_false, false_or, or_self, or_true, true_or, and_true, true_and, and_false, false_and, decide_true, decide_false, Bool.not_true, Bool.not_false, decide_eq_true_eq, decide_eq_false_iff_not, ite_and_p, ite_or_p, Bool.decide_eq_true, Bool.and_eq_true, Bool.or_eq_true, Bool.not_eq_true', Bool.not_eq_false', Bool.and_eq_false_imp, Bool.or_eq_false_iff, bne_iff_ne, beq_iff_eq, bne_eq_false_iff_eq, beq_eq_false_iff_ne, gt_iff_lt, ge_iff_le, Int.not_lt, Int.not_le, ne_eq, Bool.true_eq_false, Bool.false_eq_true, reduceCtorEq, eta_Airway, eta_Duct, eta_Fan, eta_Mine, eta_Survey] at hb)
    | refine RetF.auto (And.intro rfl ?_)
    | exact Is.mk rfl rfl
    | refine Is.mk ?_ rfl
    | refine Is.mk rfl ?_
    | refine Is.mk ?_ ?_
  all_goals try dsimp only
  all_goals first
    | (exfalso
       have e := up_law (a := x.length * x.section_) (q := 1 + r8W c2 0 20000) (by have := Int.mul_le_mul (show (1 : Int) ≤ x.length by omega) (show (1 : Int) ≤ x.section_ by omega) (by omega) (by omega); omega) (by omega)
       rw [e.1, e.2] at hb
       omega)
    | (rcases res_law hx with e | e
       · exact absurd e.1 hb
       · rw [e]; rfl)
    | (exfalso
       have e := same_law hx (by assumption)
       omega)
    | (rw [wide_no hx (by omega) hb]; rfl)
    | (have e : rd (100 * limI (secA x (widenFor x (1 + r8W c2 2 60000)).1) (r8W c2 4 1000)) (widenFor x (1 + r8W c2 2 60000)).1 ≤ r8W c2 4 1000 := fast_law (x := secA x (widenFor x (1 + r8W c2 2 60000)).1) wf.1 (by omega)
       have e2 : max 1 (rawA (secA x (widenFor x (1 + r8W c2 2 60000)).1) (widenFor x (1 + r8W c2 2 60000)).1) ≤ 1 + r8W c2 2 60000 := by
         have e3 : rawA (secA x (widenFor x (1 + r8W c2 2 60000)).1) (widenFor x (1 + r8W c2 2 60000)).1 ≤ 1 + r8W c2 2 60000 := wf.2.2
         omega
       simp only [beq_self_eq_true, if_true, decide_eq_true e2, decide_eq_true e]; rfl)
    | skip
end Go.Proofs.YtmifcbekaniiiaaGreatDoor
