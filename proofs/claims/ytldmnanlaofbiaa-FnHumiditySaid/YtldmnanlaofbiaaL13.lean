/- Contracts of functions of the program, and what they compute. Conditions: those that each theorem states. -/
import Derived.Test.YtldmnanlaofbiaaProg
import Derived.Test.YtldmnanlaofbiaaL12
set_option linter.unusedVariables false
set_option linter.unusedSimpArgs false
namespace Go.Proofs.Ytldmnanlaofbiaa
open Go.Av
attribute [local irreducible] Go.IntKind.wrap satI vapI leastI
set_option maxRecDepth 20000
set_option maxHeartbeats 8000000
theorem rdZ_p {x y : Int} (h : 0 ≤ x) : rdZ x y = rd x y := by unfold rdZ; rw [if_pos h]
theorem hum_no {a b p : Int} (h : ¬ (humOf a b p).2 = 0) : (humOf a b p).1 = 0 := by
  unfold humOf at *
  split
  · split
    · rfl
    · rename_i h1 h2; rw [if_pos h1, if_neg h2] at h; exact absurd rfl h
  · rfl
theorem hum_all {a b p : Int} (h : (humOf a b p).2 = 0) : (humOf a a p).2 = 0 ∧ (humOf a a p).1 = 1000 ∧ 0 ≤ (humOf a b p).1 ∧ (humOf a b p).1 ≤ 1000 := by
  unfold humOf at *
  split at h
  · rename_i h1
    split at h
    · cases h
    · rename_i h2
      rw [if_pos h1, if_neg h2]
      simp only [Bool.and_eq_true, inR_iff] at h1
      have ha := sat_b h1.1.1.1 h1.1.1.2
      have hm := sat_mono h1.1.2.1 (show b ≤ a by omega) h1.1.1.2
      have e0 : wetE a a p = satI a := by
        unfold wetE; rw [show a - a = 0 by omega, Int.mul_zero, rdZ_p (Int.le_refl 0)]
        have := rd_b (x := 0) (y := 10000000) (m := 0) (by omega) (by omega) (by omega); omega
      have e1 : wetE a b p ≤ satI b := by
        have hp : 0 ≤ 665 * p * (a - b) := Int.mul_nonneg (by omega) (by omega)
        have hw := (wet_b h1.1.1 h1.1.2 h1.2).1
        unfold wetE; rw [rdZ_p hp]
        have := rd_b (x := 665 * p * (a - b)) (y := 10000000) (m := 7000) hp (by omega) (by omega); omega
      rw [if_pos (by simp only [Bool.and_eq_true, inR_iff]; omega), if_neg (by rw [e0]; omega), e0, rdZ_p (x := 1000 * satI a) (by omega), rdZ_p (x := 1000 * wetE a b p) (by omega)]
      have e2 := rd_b (x := 1000 * wetE a b p) (y := satI a) (m := 1000) (by omega) (by omega) (by omega)
      refine ⟨rfl, ?_, e2.1, e2.2⟩
      show rd (1000 * satI a) (satI a) = 1000
      unfold rd
      rw [Int.mul_emod_left, Int.mul_ediv_cancel _ (by omega), if_neg (by omega)]
  · cases h
attribute [local irreducible] dewOf vapOf satOf humOf
theorem c_laws_FnHumidity (c1 c2 : List Int) : FnSem Try.prog 12 [Lx (LY c1), Lx (LY c2)] [] (Is [Bo true] []) := by
  refine FnSem.walk (zs := zeroPV Try.prog) (by kernel_rfl) Try.func12 rfl Try.results12 (by kernel_rfl) (by kernel_rfl) (by kernel_rfl) fun hw hh => ?_
  obtain ⟨w0, w1, _⟩ := hw
  first | replace w0 := wf_I w0 | replace w0 := wf_Y w0 | replace w0 := wf_S w0 | replace w0 := wf_LI w0 | replace w0 := wf_LY w0 | replace w0 := wf_LLI w0 | replace w0 := wf_Ls w0 | skip
  first | replace w1 := wf_I w1 | replace w1 := wf_Y w1 | replace w1 := wf_S w1 | replace w1 := wf_LI w1 | replace w1 := wf_LY w1 | replace w1 := wf_LLI w1 | replace w1 := wf_Ls w1 | skip
  repeat' first
    | refine And.intro rfl ?_
    | refine GdF.mk (fun h => h) ?_
    | refine And.intro (Nat.succ_ne_zero _) ?_
    | refine And.intro (Nat.le_of_ble_eq_true rfl) ?_
    | refine SeqF.run ?_
    | (refine ArgF.ret (c_spec_DrawDewPoint _) ?_; rintro ⟨t, h⟩ hv; dsimp only at hv ⊢)
    | (refine ArgF.ret (c_spec_DrawHumidityFor _) ?_; rintro ⟨a, b, p⟩ hw; dsimp only at hw ⊢)
    | refine BndF.mk (fun _ => by omega) ?_
    | refine BndF.mk (fun _ => by simp only [List.length_map, List.length_cons, List.length_nil, List.length_append, List.length_set, List.length_replicate, iotaI_len]; omega) ?_
    | refine BndF.mk (fun hG => by simp only [forall_const, eq_self, not_true_eq_false, not_false_eq_true, or_false, false_or, or_self, or_true, true_or, and_true, true_and, and_false, false_and, decide_true, decide_false, Bool.not_true, Bool.not_false, decide_eq_true_eq, decide_eq_false_iff_not, ite_and_p, ite_or_p, Bool.decide_eq_true, Bool.and_eq_true, Bool.or_eq_true, Bool.not_eq_true', Bool.not_eq_false', Bool.and_eq_false_imp, Bool.or_eq_false_iff, bne_iff_ne, beq_iff_eq, bne_eq_false_iff_eq, beq_eq_false_iff_ne, gt_iff_lt, ge_iff_le, Int.not_lt, Int.not_le, ne_eq, Bool.true_eq_false, Bool.false_eq_true, reduceCtorEq, eta_Airway, eta_Fan, eta_Heading, eta_Mine, eta_Sensor, bytes_nil] at hG; (try simp only [List.length_map]); omega) ?_
    | refine EqI.mk _ (fun _ => wrapI (by omega) (by omega)) ?_
    | refine EqI.mk _ (fun _ => rfl) ?_
    | refine EqL.mk _ (tk eY (by first | rfl | assumption | omega | (simp only [List.length_map, List.length_cons, List.length_nil, List.length_append, List.length_set, List.length_replicate, iotaI_len]; done) | (simp only [List.length_map, List.length_cons, List.length_nil, List.length_append, List.length_set, List.length_replicate, iotaI_len]; omega))) ?_
    | refine EqL.mk [] rfl ?_
    | refine EqL.mk [_] rfl ?_
    | refine EqL.mk _ rfl ?_
    | refine ArgF.is (c_laws_b10Long ..) ?_
    | refine ArgQ.is (fun hG => c_laws_b10Long ..) rfl rfl ?_
    | refine ArgF.is (c_spec_DrawDewPoint ..) ?_
    | refine ArgQ.is (fun hG => c_spec_DrawDewPoint ..) rfl rfl ?_
    | refine ArgF.is (c_impl_DewPoint _ (by first | assumption | omega)) ?_
    | refine ArgQ.is (fun hG => c_impl_DewPoint _ (by first | assumption | omega)) rfl rfl ?_
    | refine ArgQ.is (fun hG => c_impl_DewPoint _ (by simp only [forall_const, eq_self, not_true_eq_false, not_false_eq_true, or_false, false_or, or_self, or_true, true_or, and_true, true_and, and_false, false_and, decide_true, decide_false, Bool.not_true, Bool.not_false, decide_eq_true_eq, decide_eq_false_iff_not, ite_and_p, ite_or_p, Bool.decide_eq_true, Bool.and_eq_true, Bool.or_eq_true, Bool.not_eq_true', Bool.not_eq_false', Bool.and_eq_false_imp, Bool.or_eq_false_iff, bne_iff_ne, beq_iff_eq, bne_eq_false_iff_eq, beq_eq_false_iff_ne, gt_iff_lt, ge_iff_le, Int.not_lt, Int.not_le, ne_eq, Bool.true_eq_false, Bool.false_eq_true, reduceCtorEq, eta_Airway, eta_Fan, eta_Heading, eta_Mine, eta_Sensor, bytes_nil] at hG; omega)) rfl rfl ?_
    | refine ArgF.is (c_impl_VapourOf _ (by first | assumption | omega)) ?_
    | refine ArgQ.is (fun hG => c_impl_VapourOf _ (by first | assumption | omega)) rfl rfl ?_
    | refine ArgQ.is (fun hG => c_impl_VapourOf _ (by simp only [forall_const, eq_self, not_true_eq_false, not_false_eq_true, or_false, false_or, or_self, or_true, true_or, and_true, true_and, and_false, false_and, decide_true, decide_false, Bool.not_true, Bool.not_false, decide_eq_true_eq, decide_eq_false_iff_not, ite_and_p, ite_or_p, Bool.decide_eq_true, Bool.and_eq_true, Bool.or_eq_true, Bool.not_eq_true', Bool.not_eq_false', Bool.and_eq_false_imp, Bool.or_eq_false_iff, bne_iff_ne, beq_iff_eq, bne_eq_false_iff_eq, beq_eq_false_iff_ne, gt_iff_lt, ge_iff_le, Int.not_lt, Int.not_le, ne_eq, Bool.true_eq_false, Bool.false_eq_true, reduceCtorEq, eta_Airway, eta_Fan, eta_Heading, eta_Mine, eta_Sensor, bytes_nil] at hG; omega)) rfl rfl ?_
    | refine ArgF.is (c_impl_SaturationOf ..) ?_
    | refine ArgQ.is (fun hG => c_impl_SaturationOf ..) rfl rfl ?_
    | refine ArgF.is (c_spec_DrawHumidityFor ..) ?_
    | refine ArgQ.is (fun hG => c_spec_DrawHumidityFor ..) rfl rfl ?_
    | refine ArgF.is (c_impl_HumidityFor ..) ?_
    | refine ArgQ.is (fun hG => c_impl_HumidityFor ..) rfl rfl ?_
    | refine CallF.mk (CallW.is [] true rfl ?_)
    | refine CallG.mk ?_
    | (refine CondF.mk (fun hb => ?_) (fun hb => ?_) <;> try simp only [forall_const, eq_self, not_true_eq_false, not_false_eq_true, or_false, false_or, or_self, or_true, true_or, and_true, true_and, and_false, false_and, decide_true, decide_false, Bool.not_true, Bool.not_false, decide_eq_true_eq, decide_eq_false_iff_not, ite_and_p, ite_or_p, Bool.decide_eq_true, Bool.and_eq_true, Bool.or_eq_true, Bool.not_eq_true', Bool.not_eq_false', Bool.and_eq_false_imp, Bool.or_eq_false_iff, bne_iff_ne, beq_iff_eq, bne_eq_false_iff_eq, beq_eq_false_iff_ne, gt_iff_lt, ge_iff_le, Int.not_lt, Int.not_le, ne_eq, Bool.true_eq_false, Bool.false_eq_true, reduceCtorEq, eta_Airway, eta_Fan, eta_Heading, eta_Mine, eta_Sensor] at hb)
    | refine RetF.auto (And.intro rfl ?_)
    | exact Is.mk rfl rfl
    | refine Is.mk ?_ rfl
    | refine Is.mk rfl ?_
    | refine Is.mk ?_ ?_
  all_goals first
    | rfl
    | (exfalso; have h := dew_all (by assumption); omega)
    | (rw [hum_no hb]; rfl)
    | (obtain ⟨h1, h2, h3, h4⟩ := hum_all hb; rw [h1, h2]; simp [h3, h4, Bo])
    | skip
