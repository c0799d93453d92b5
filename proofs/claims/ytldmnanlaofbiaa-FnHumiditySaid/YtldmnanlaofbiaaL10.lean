/- Contracts of functions of the program, and what they compute. Conditions: those that each theorem states. -/
import Derived.Test.YtldmnanlaofbiaaProg
import Derived.Test.YtldmnanlaofbiaaL9
set_option linter.unusedVariables false
set_option linter.unusedSimpArgs false
namespace Go.Proofs.Ytldmnanlaofbiaa
open Go.Av
attribute [local irreducible] Go.IntKind.wrap satI vapI
set_option maxRecDepth 20000
set_option maxHeartbeats 4000000
theorem abs_ng (x : Int) (h : 0 ≤ x) (h' : x ≤ 1000000000000000) : FnSem Try.prog 116 [In (-x)] [] (Is [In x] []) := by
  have := c_impl_abs (-x)
  rw [wrapI (n := 0 - -x) (by omega) (by omega), show max (-x) (0 - -x) = x by omega] at this
  exact this
--@fn impl.divRound
theorem divRound_ng (a y : Int) (hx : 0 < a) (hx' : a ≤ 1000000000000000) (hy : 1 ≤ y) (hy' : y ≤ 1000000000000000) : FnSem Try.prog 103 [In (-a), In y] [] (Is [In (-(rd a y))] []) := by
  have g1 := Int.emod_nonneg a (show y ≠ 0 by omega)
  have g2 := Int.emod_lt_of_pos a (show 0 < y by omega)
  have g3 := Int.ediv_nonneg (show 0 ≤ a by omega) (show 0 ≤ y by omega)
  have g4 := Int.ediv_le_self y (show 0 ≤ a by omega)
  refine FnSem.walk (zs := zeroPV Try.prog) (by kernel_rfl) Try.func103 rfl Try.results103 (by kernel_rfl) (by kernel_rfl) (by kernel_rfl) fun hw hh => ?_
  obtain ⟨w0, w1, _⟩ := hw
  first | replace w0 := wf_I w0 | replace w0 := wf_Y w0 | replace w0 := wf_S w0 | replace w0 := wf_LI w0 | replace w0 := wf_LY w0 | replace w0 := wf_LLI w0 | replace w0 := wf_Ls w0 | skip
  first | replace w1 := wf_I w1 | replace w1 := wf_Y w1 | replace w1 := wf_S w1 | replace w1 := wf_LI w1 | replace w1 := wf_LY w1 | replace w1 := wf_LLI w1 | replace w1 := wf_Ls w1 | skip
  repeat' first
    | refine And.intro rfl ?_
    | refine GdF.mk (fun h => h) ?_
    | refine And.intro (Nat.succ_ne_zero _) ?_
    | refine And.intro (Nat.le_of_ble_eq_true rfl) ?_
    | refine SeqF.run ?_
    | refine EqI.mk (-(a / y)) (fun _ => by rw [Int.neg_tdiv, Int.tdiv_eq_ediv_of_nonneg (by omega)]; exact wrapI (by omega) (by omega)) ?_
    | refine EqI.mk (-(a % y)) (fun _ => by rw [Int.neg_tmod, Int.tmod_eq_emod_of_nonneg (by omega)]) ?_
    | refine ArgF.is (abs_ng _ (by omega) (by omega)) ?_
    | refine ArgQ.is (fun hG => abs_ng _ (by omega) (by omega)) rfl rfl ?_
    | refine ArgF.is (abs_nn _ (by omega) (by omega)) ?_
    | refine ArgQ.is (fun hG => abs_nn _ (by omega) (by omega)) rfl rfl ?_
    | refine BndF.mk (fun _ => by omega) ?_
    | refine BndF.mk (fun _ => by simp only [List.length_map, List.length_cons, List.length_nil, List.length_append, List.length_set, List.length_replicate, iotaI_len]; omega) ?_
    | refine EqI.mk _ (fun _ => wrapI (by omega) (by omega)) ?_
    | refine EqI.mk _ (fun _ => wrapD (by omega) (by omega) (by omega)) ?_
    | refine EqI.mk _ (fun _ => modE (by omega)) ?_
    | refine EqI.mk _ (fun _ => rfl) ?_
    | refine EqL.mk [] rfl ?_
    | refine EqL.mk [_] rfl ?_
    | refine EqL.mk _ rfl ?_
    | refine ArgF.is (c_impl_abs ..) ?_
    | refine ArgQ.is (fun hG => c_impl_abs ..) rfl rfl ?_
    | refine CallF.mk (CallW.is [] true rfl ?_)
    | refine CallG.mk ?_
    | (refine CondF.mk (fun hb => ?_) (fun hb => ?_) <;> try simp only [forall_const, eq_self, not_true_eq_false, not_false_eq_true, or_false, false_or, or_self, or_true, true_or, and_true, true_and, and_false, false_and, decide_true, decide_false, Bool.not_true, Bool.not_false, decide_eq_true_eq, decide_eq_false_iff_not, ite_and_p, ite_or_p, Bool.decide_eq_true, Bool.and_eq_true, Bool.or_eq_true, Bool.not_eq_true', Bool.not_eq_false', Bool.and_eq_false_imp, Bool.or_eq_false_iff, bne_iff_ne, beq_iff_eq, bne_eq_false_iff_eq, beq_eq_false_iff_ne, gt_iff_lt, ge_iff_le, Int.not_lt, Int.not_le, ne_eq, Bool.true_eq_false, Bool.false_eq_true, reduceCtorEq, eta_Airway, eta_Fan, eta_Heading, eta_Mine, eta_Sensor] at hb)
    | refine RetF.auto (And.intro rfl ?_)
    | exact Is.mk rfl rfl
    | refine Is.mk ?_ rfl
    | refine Is.mk rfl ?_
    | refine Is.mk ?_ ?_
  all_goals try dsimp only
  all_goals try simp only [Bo, I, OB.row.injEq, AV.osl.injEq, eI_same,  List.cons.injEq, AV.p.injEq, PV.c.injEq, Value.int.injEq, Value.bool.injEq, and_true, true_and, ite_and_p, ite_or_p, Bool.decide_eq_true, eta_Airway, eta_Fan, eta_Heading, eta_Mine, eta_Sensor, rd]
  all_goals grind
def rdZ (x y : Int) : Int := if 0 ≤ x then rd x y else -(rd (-x) y)
theorem divRoundZ (x y : Int) (hx : -1000000000000000 ≤ x ∧ x ≤ 1000000000000000) (hy : 1 ≤ y) (hy' : y ≤ 1000000000000000) : FnSem Try.prog 103 [In x, In y] [] (Is [In (rdZ x y)] []) := by
  unfold rdZ
  split
  · exact c_impl_divRound x y (by omega) (by omega) hy hy'
  · have := divRound_ng (-x) y (by omega) (by omega) hy hy'
    rwa [Int.neg_neg] at this
theorem wet_b {a b p : Int} (h1 : -100 ≤ a ∧ a ≤ 600) (h2 : -100 ≤ b ∧ b ≤ 600) (h3 : 50000 ≤ p ∧ p ≤ 150000) : (-70000000000 ≤ 665 * p * (a - b) ∧ 665 * p * (a - b) ≤ 70000000000) ∧ -7000 ≤ rdZ (665 * p * (a - b)) 10000000 ∧ rdZ (665 * p * (a - b)) 10000000 ≤ 7000 := by
  have hm : -70000000000 ≤ 665 * p * (a - b) ∧ 665 * p * (a - b) ≤ 70000000000 := by
    by_cases h : 0 ≤ a - b
    · have := mulB' (a := 665 * p) (A := 99750000) (b := a - b) (B := 700) (by omega) (by omega) h (by omega); omega
    · have := mulB' (a := 665 * p) (A := 99750000) (b := b - a) (B := 700) (by omega) (by omega) (by omega) (by omega)
      rw [show a - b = -(b - a) by omega, Int.mul_neg]; omega
  refine ⟨hm, ?_⟩
  unfold rdZ
  split
  · have := rd_b (x := 665 * p * (a - b)) (y := 10000000) (m := 7000) (by omega) (by omega) (by omega); omega
  · have := rd_b (x := -(665 * p * (a - b))) (y := 10000000) (m := 7000) (by omega) (by omega) (by omega); omega
attribute [local irreducible] rdZ
def wetE (a b p : Int) : Int := satI b - rdZ (665 * p * (a - b)) 10000000
def humOf (a b p : Int) : Int × Int := if inR a (-100) 600 && inR b (-100) 600 && inR p 50000 150000 then (if b > a ∨ wetE a b p < 0 then (0, 6) else (rdZ (1000 * wetE a b p) (satI a), 0)) else (0, 2)
theorem c_impl_HumidityFor (a b p : Int) : FnSem Try.prog 71 [In a, In b, In p] [] (Is [In (humOf a b p).1, In (humOf a b p).2] []) := by
  have hF := fun (h : (inR a (-100) 600 = true ∧ inR b (-100) 600 = true) ∧ inR p 50000 150000 = true) => (by simp only [inR_iff] at h; exact ⟨⟨h.1.1, h.1.2, h.2⟩, wet_b h.1.1 h.1.2 h.2, sat_b h.1.1.1 h.1.1.2, sat_b h.1.2.1 h.1.2.2⟩ : ((-100 ≤ a ∧ a ≤ 600) ∧ (-100 ≤ b ∧ b ≤ 600) ∧ (50000 ≤ p ∧ p ≤ 150000)) ∧ ((-70000000000 ≤ 665 * p * (a - b) ∧ 665 * p * (a - b) ≤ 70000000000) ∧ -7000 ≤ rdZ (665 * p * (a - b)) 10000000 ∧ rdZ (665 * p * (a - b)) 10000000 ≤ 7000) ∧ (286 ≤ satI a ∧ satI a ≤ 19940) ∧ (286 ≤ satI b ∧ satI b ≤ 19940))
  refine FnSem.walk (zs := zeroPV Try.prog) (by kernel_rfl) Try.func71 rfl Try.results71 (by kernel_rfl) (by kernel_rfl) (by kernel_rfl) fun hw hh => ?_
  obtain ⟨w0, w1, w2, _⟩ := hw
  first | replace w0 := wf_I w0 | replace w0 := wf_Y w0 | replace w0 := wf_S w0 | replace w0 := wf_LI w0 | replace w0 := wf_LY w0 | replace w0 := wf_LLI w0 | replace w0 := wf_Ls w0 | skip
  first | replace w1 := wf_I w1 | replace w1 := wf_Y w1 | replace w1 := wf_S w1 | replace w1 := wf_LI w1 | replace w1 := wf_LY w1 | replace w1 := wf_LLI w1 | replace w1 := wf_Ls w1 | skip
  first | replace w2 := wf_I w2 | replace w2 := wf_Y w2 | replace w2 := wf_S w2 | replace w2 := wf_LI w2 | replace w2 := wf_LY w2 | replace w2 := wf_LLI w2 | replace w2 := wf_Ls w2 | skip
  repeat' first
    | refine And.intro rfl ?_
    | refine GdF.mk (fun h => h) ?_
    | refine And.intro (Nat.succ_ne_zero _) ?_
    | refine And.intro (Nat.le_of_ble_eq_true rfl) ?_
    | refine SeqF.run ?_
    | refine EqI.mk _ (fun _ => wrapI (by have := hF (by grind); omega) (by have := hF (by grind); omega)) ?_
    | refine ArgF.is (c_impl_saturationOf _ (by have := hF (by grind); omega)) ?_
    | refine ArgQ.is (fun hG => c_impl_saturationOf _ (by have := hF (by grind); omega)) rfl rfl ?_
    | refine ArgF.is (divRoundZ _ _ (by have := hF (by grind); omega) (by have := hF (by grind); omega) (by have := hF (by grind); omega)) ?_
    | refine ArgQ.is (fun hG => divRoundZ _ _ (by have := hF (by grind); omega) (by have := hF (by grind); omega) (by have := hF (by grind); omega)) rfl rfl ?_
    | refine BndF.mk (fun _ => by omega) ?_
    | refine BndF.mk (fun _ => by simp only [List.length_map, List.length_cons, List.length_nil, List.length_append, List.length_set, List.length_replicate, iotaI_len]; omega) ?_
    | refine BndF.mk (fun hG => by simp only [forall_const, eq_self, not_true_eq_false, not_false_eq_true, or_false, false_or, or_self, or_true, true_or, and_true, true_and, and_false, false_and, decide_true, decide_false, Bool.not_true, Bool.not_false, decide_eq_true_eq, decide_eq_false_iff_not, ite_and_p, ite_or_p, Bool.decide_eq_true, Bool.and_eq_true, Bool.or_eq_true, Bool.not_eq_true', Bool.not_eq_false', Bool.and_eq_false_imp, Bool.or_eq_false_iff, bne_iff_ne, beq_iff_eq, bne_eq_false_iff_eq, beq_eq_false_iff_ne, gt_iff_lt, ge_iff_le, Int.not_lt, Int.not_le, ne_eq, Bool.true_eq_false, Bool.false_eq_true, reduceCtorEq, eta_Airway, eta_Fan, eta_Heading, eta_Mine, eta_Sensor, bytes_nil] at hG; (try simp only [List.length_map]); omega) ?_
    | refine EqI.mk _ (fun _ => wrapI (by omega) (by omega)) ?_
    | refine EqI.mk _ (fun _ => rfl) ?_
    | refine EqL.mk [] rfl ?_
    | refine EqL.mk [_] rfl ?_
    | refine EqL.mk _ rfl ?_
    | refine ArgF.is (c_impl_warmthOk ..) ?_
    | refine ArgQ.is (fun hG => c_impl_warmthOk ..) rfl rfl ?_
    | refine ArgF.is (c_impl_airPressure ..) ?_
    | refine ArgQ.is (fun hG => c_impl_airPressure ..) rfl rfl ?_
    | refine ArgF.is (c_impl_saturationOf _ (by first | assumption | omega)) ?_
    | refine ArgQ.is (fun hG => c_impl_saturationOf _ (by first | assumption | omega)) rfl rfl ?_
    | refine ArgQ.is (fun hG => c_impl_saturationOf _ (by simp only [forall_const, eq_self, not_true_eq_false, not_false_eq_true, or_false, false_or, or_self, or_true, true_or, and_true, true_and, and_false, false_and, decide_true, decide_false, Bool.not_true, Bool.not_false, decide_eq_true_eq, decide_eq_false_iff_not, ite_and_p, ite_or_p, Bool.decide_eq_true, Bool.and_eq_true, Bool.or_eq_true, Bool.not_eq_true', Bool.not_eq_false', Bool.and_eq_false_imp, Bool.or_eq_false_iff, bne_iff_ne, beq_iff_eq, bne_eq_false_iff_eq, beq_eq_false_iff_ne, gt_iff_lt, ge_iff_le, Int.not_lt, Int.not_le, ne_eq, Bool.true_eq_false, Bool.false_eq_true, reduceCtorEq, eta_Airway, eta_Fan, eta_Heading, eta_Mine, eta_Sensor, bytes_nil] at hG; omega)) rfl rfl ?_
    | refine ArgF.is (c_impl_divRound _ _ (by first | assumption | omega) (by first | assumption | omega) (by first | assumption | omega) (by first | assumption | omega)) ?_
    | refine ArgQ.is (fun hG => c_impl_divRound _ _ (by first | assumption | omega) (by first | assumption | omega) (by first | assumption | omega) (by first | assumption | omega)) rfl rfl ?_
    | refine ArgQ.is (fun hG => c_impl_divRound _ _ (by simp only [forall_const, eq_self, not_true_eq_false, not_false_eq_true, or_false, false_or, or_self, or_true, true_or, and_true, true_and, and_false, false_and, decide_true, decide_false, Bool.not_true, Bool.not_false, decide_eq_true_eq, decide_eq_false_iff_not, ite_and_p, ite_or_p, Bool.decide_eq_true, Bool.and_eq_true, Bool.or_eq_true, Bool.not_eq_true', Bool.not_eq_false', Bool.and_eq_false_imp, Bool.or_eq_false_iff, bne_iff_ne, beq_iff_eq, bne_eq_false_iff_eq, beq_eq_false_iff_ne, gt_iff_lt, ge_iff_le, Int.not_lt, Int.not_le, ne_eq, Bool.true_eq_false, Bool.false_eq_true, reduceCtorEq, eta_Airway, eta_Fan, eta_Heading, eta_Mine, eta_Sensor, bytes_nil] at hG; omega) (by simp only [forall_const, eq_self, not_true_eq_false, not_false_eq_true, or_false, false_or, or_self, or_true, true_or, and_true, true_and, and_false, false_and, decide_true, decide_false, Bool.not_true, Bool.not_false, decide_eq_true_eq, decide_eq_false_iff_not, ite_and_p, ite_or_p, Bool.decide_eq_true, Bool.and_eq_true, Bool.or_eq_true, Bool.not_eq_true', Bool.not_eq_false', Bool.and_eq_false_imp, Bool.or_eq_false_iff, bne_iff_ne, beq_iff_eq, bne_eq_false_iff_eq, beq_eq_false_iff_ne, gt_iff_lt, ge_iff_le, Int.not_lt, Int.not_le, ne_eq, Bool.true_eq_false, Bool.false_eq_true, reduceCtorEq, eta_Airway, eta_Fan, eta_Heading, eta_Mine, eta_Sensor, bytes_nil] at hG; omega) (by simp only [forall_const, eq_self, not_true_eq_false, not_false_eq_true, or_false, false_or, or_self, or_true, true_or, and_true, true_and, and_false, false_and, decide_true, decide_false, Bool.not_true, Bool.not_false, decide_eq_true_eq, decide_eq_false_iff_not, ite_and_p, ite_or_p, Bool.decide_eq_true, Bool.and_eq_true, Bool.or_eq_true, Bool.not_eq_true', Bool.not_eq_false', Bool.and_eq_false_imp, Bool.or_eq_false_iff, bne_iff_ne, beq_iff_eq, bne_eq_false_iff_eq, beq_eq_false_iff_ne, gt_iff_lt, ge_iff_le, Int.not_lt, Int.not_le, ne_eq, Bool.true_eq_false, Bool.false_eq_true, reduceCtorEq, eta_Airway, eta_Fan, eta_Heading, eta_Mine, eta_Sensor, bytes_nil] at hG; omega) (by simp only [forall_const, eq_self, not_true_eq_false, not_false_eq_true, or_false, false_or, or_self, or_true, true_or, and_true, true_and, and_false, false_and, decide_true, decide_false, Bool.not_true, Bool.not_false, decide_eq_true_eq, decide_eq_false_iff_not, ite_and_p, ite_or_p, Bool.decide_eq_true, Bool.and_eq_true, Bool.or_eq_true, Bool.not_eq_true', Bool.not_eq_false', Bool.and_eq_false_imp, Bool.or_eq_false_iff, bne_iff_ne, beq_iff_eq, bne_eq_false_iff_eq, beq_eq_false_iff_ne, gt_iff_lt, ge_iff_le, Int.not_lt, Int.not_le, ne_eq, Bool.true_eq_false, Bool.false_eq_true, reduceCtorEq, eta_Airway, eta_Fan, eta_Heading, eta_Mine, eta_Sensor, bytes_nil] at hG; omega)) rfl rfl ?_
    | refine CallF.mk (CallW.is [] true rfl ?_)
    | refine CallG.mk ?_
    | (refine CondF.mk (fun hb => ?_) (fun hb => ?_) <;> try simp only [forall_const, eq_self, not_true_eq_false, not_false_eq_true, or_false, false_or, or_self, or_true, true_or, and_true, true_and, and_false, false_and, decide_true, decide_false, Bool.not_true, Bool.not_false, decide_eq_true_eq, decide_eq_false_iff_not, ite_and_p, ite_or_p, Bool.decide_eq_true, Bool.and_eq_true, Bool.or_eq_true, Bool.not_eq_true', Bool.not_eq_false', Bool.and_eq_false_imp, Bool.or_eq_false_iff, bne_iff_ne, beq_iff_eq, bne_eq_false_iff_eq, beq_eq_false_iff_ne, gt_iff_lt, ge_iff_le, Int.not_lt, Int.not_le, ne_eq, Bool.true_eq_false, Bool.false_eq_true, reduceCtorEq, eta_Airway, eta_Fan, eta_Heading, eta_Mine, eta_Sensor] at hb)
    | refine RetF.auto (And.intro rfl ?_)
    | exact Is.mk rfl rfl
    | refine Is.mk ?_ rfl
    | refine Is.mk rfl ?_
    | refine Is.mk ?_ ?_
  all_goals try dsimp only
  all_goals try simp only [Bo, I, OB.row.injEq, AV.osl.injEq, eI_same,  List.cons.injEq, AV.p.injEq, PV.c.injEq, Value.int.injEq, Value.bool.injEq, and_true, true_and, ite_and_p, ite_or_p, Bool.decide_eq_true, eta_Airway, eta_Fan, eta_Heading, eta_Mine, eta_Sensor, humOf, wetE]
  all_goals (clear hF; grind)
