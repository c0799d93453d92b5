/- Contracts of functions of the program, and what they compute. Conditions: those that each theorem states. -/
import Derived.Test.YtmifcbekaniiiaaGreatDoorProg
import Derived.Test.YtmifcbekaniiiaaGreatDoorT11b
import Derived.Test.YtmifcbekaniiiaaGreatDoorR1
import Derived.Test.YtmifcbekaniiiaaGreatDoorR2
import Derived.Test.YtmifcbekaniiiaaGreatDoorK3
set_option linter.unusedVariables false
set_option linter.unusedSimpArgs false
namespace Go.Proofs.YtmifcbekaniiiaaGreatDoor
open Go.Av
attribute [local irreducible] Go.IntKind.wrap listS decS idS isName rd rdZ
set_option maxRecDepth 20000
set_option maxHeartbeats 8000000

/-! Surveys: bounds. -/
def okSur (x : GSurvey) : Bool := isName x.airway && inR x.drop 0 10000 && inR x.dropError 0 10000 && inR x.flow 1 100000 && inR x.flowError 0 (x.flow - 1)
theorem okSur_b {x : GSurvey} (h : okSur x = true) : (0 ≤ x.drop ∧ x.drop ≤ 10000) ∧ (0 ≤ x.dropError ∧ x.dropError ≤ 10000) ∧ (1 ≤ x.flow ∧ x.flow ≤ 100000) ∧ 0 ≤ x.flowError ∧ x.flowError ≤ x.flow - 1 := by
  simp only [okSur, Bool.and_eq_true, inR_iff] at h; omega
theorem okSur_n {x : GSurvey} (h : okSur x = true) : isName x.airway = true := by
  simp only [okSur, Bool.and_eq_true] at h; exact h.1.1.1.1
theorem c_impl_ValidSurvey (x : GSurvey) : FnSem Tryz.prog 74 [.p .any (.agg x.cells)] [] (Is [Bo (okSur x)] []) := by
  refine FnSem.walk (zs := zeroPV Tryz.prog) (by kernel_rfl) Tryz.func74 rfl Tryz.results74 (by kernel_rfl) (by kernel_rfl) (by kernel_rfl) fun hw hh => ?_
  obtain ⟨w0, _⟩ := hw
  first | replace w0 := wf_Survey w0 | skip
  simp only [GSurvey.wf] at w0
  repeat' first
    | refine And.intro rfl ?_
    | refine GdF.mk (fun h => h) ?_
    | refine And.intro (Nat.succ_ne_zero _) ?_
    | refine And.intro (Nat.le_of_ble_eq_true rfl) ?_
    | refine SeqF.run ?_
    | refine GhF.go ?_
    | refine GdS.keep ?_
    | refine BndF.mk (fun _ => by omega) ?_
    | refine BndF.mk (fun _ => by simp only [List.length_map, List.length_cons, List.length_nil, List.length_append, List.length_set, List.length_replicate, iotaI_len]; omega) ?_
    | refine BndF.mk (fun hG => by simp only [forall_const, eq_self, not_true_eq_false, not_false_eq_true, or_false, false_or, or_self, or_true, true_or, and_true, true_and, and_false, false_and, decide_true, decide_false, Bool.not_true, Bool.not_false, decide_eq_true_eq, decide_eq_false_iff_not, ite_and_p, ite_or_p, Bool.decide_eq_true, Bool.and_eq_true, Bool.or_eq_true, Bool.not_eq_true', Bool.not_eq_false', Bool.and_eq_false_imp, Bool.or_eq_false_iff, bne_iff_ne, beq_iff_eq, bne_eq_false_iff_eq, beq_eq_false_iff_ne, gt_iff_lt, ge_iff_le, Int.not_lt, Int.not_le, ne_eq, Bool.true_eq_false, Bool.false_eq_true, reduceCtorEq, eta_Airway, eta_Duct, eta_Fan, eta_Mine, eta_Survey, bytes_nil] at hG; (try simp only [List.length_map]); omega) ?_
    | refine EqI.mk _ (fun _ => wrapI (by omega) (by omega)) ?_
    | refine EqI.mk _ (fun _ => rfl) ?_
    | refine EqL.mk [] rfl ?_
    | refine EqL.mk [_] rfl ?_
    | refine EqL.mk _ rfl ?_
    | refine ArgF.is (c_impl_IsName ..) ?_
    | refine ArgQ.is (fun hG => c_impl_IsName ..) rfl rfl ?_
    | refine ArgF.is (c_impl_within ..) ?_
    | refine ArgQ.is (fun hG => c_impl_within ..) rfl rfl ?_
    | refine CallF.mk (CallW.is [] true rfl ?_)
    | refine CallG.mk ?_
    | (refine CondF.mk (fun hb => ?_) (fun hb => ?_) <;> try simp only [forall_const, eq_self, not_true_eq_false, not_false_eq_true, or_false, false_or, or_self, or_true, true_or, and_true, true_and, and_false, false_and, decide_true, decide_false, Bool.not_true, Bool.not_false, decide_eq_true_eq, decide_eq_false_iff_not, ite_and_p, ite_or_p, Bool.decide_eq_true, Bool.and_eq_true, Bool.or_eq_true, Bool.not_eq_true', Bool.not_eq_false', Bool.and_eq_false_imp, Bool.or_eq_false_iff, bne_iff_ne, beq_iff_eq, bne_eq_false_iff_eq, beq_eq_false_iff_ne, gt_iff_lt, ge_iff_le, Int.not_lt, Int.not_le, ne_eq, Bool.true_eq_false, Bool.false_eq_true, reduceCtorEq, eta_Airway, eta_Duct, eta_Fan, eta_Mine, eta_Survey] at hb)
    | refine RetF.auto (And.intro rfl ?_)
    | exact Is.mk rfl rfl
    | refine Is.mk ?_ rfl
    | refine Is.mk rfl ?_
    | refine Is.mk ?_ ?_
  all_goals try dsimp only
  all_goals try simp only [Bo, I, OB.row.injEq, AV.osl.injEq, eI_same,  List.cons.injEq, AV.p.injEq, PV.c.injEq, Value.int.injEq, Value.bool.injEq, and_true, true_and, ite_and_p, ite_or_p, Bool.decide_eq_true, eta_Airway, eta_Duct, eta_Fan, eta_Mine, eta_Survey, okSur]
  by_cases e : inR x.flow 1 100000 = true
  · have := inR_iff.1 e
    rw [wrapI (n := x.flow - 1) (by omega) (by omega)]
  · rw [Bool.eq_false_iff.2 e]; simp
--@fn impl.ValidSurvey
theorem vsuT (x : GSurvey) (h : okSur x = true) : FnSem Tryz.prog 74 [.p .any (.agg x.cells)] [] (Is [Bo true] []) := by
  have := c_impl_ValidSurvey x
  rwa [h] at this
def asR (n : Int) : Int := min (max n 1) 1000000
theorem asR_b (n : Int) : 1 ≤ asR n ∧ asR n ≤ 1000000 := by unfold asR; omega
theorem asR_m {a b : Int} (h : a ≤ b) : asR a ≤ asR b := by unfold asR; omega
theorem c_impl_asResistance (n : Int) : FnSem Tryz.prog 76 [In n] [] (Is [In (asR n)] []) := by
  refine FnSem.walk (zs := zeroPV Tryz.prog) (by kernel_rfl) Tryz.func76 rfl Tryz.results76 (by kernel_rfl) (by kernel_rfl) (by kernel_rfl) fun hw hh => ?_
  obtain ⟨w0, _⟩ := hw
  first | replace w0 := wf_I w0 | skip
  repeat' first
    | refine And.intro rfl ?_
    | refine GdF.mk (fun h => h) ?_
    | refine And.intro (Nat.succ_ne_zero _) ?_
    | refine And.intro (Nat.le_of_ble_eq_true rfl) ?_
    | refine SeqF.run ?_
    | refine GhF.go ?_
    | (refine CondF.mk (fun hb => ?_) (fun hb => ?_) <;> try simp only [forall_const, eq_self, not_true_eq_false, not_false_eq_true, or_false, false_or, or_self, or_true, true_or, and_true, true_and, and_false, false_and, decide_true, decide_false, Bool.not_true, Bool.not_false, decide_eq_true_eq, decide_eq_false_iff_not, ite_and_p, ite_or_p, Bool.decide_eq_true, Bool.and_eq_true, Bool.or_eq_true, Bool.not_eq_true', Bool.not_eq_false', Bool.and_eq_false_imp, Bool.or_eq_false_iff, bne_iff_ne, beq_iff_eq, bne_eq_false_iff_eq, beq_eq_false_iff_ne, gt_iff_lt, ge_iff_le, Int.not_lt, Int.not_le, ne_eq, Bool.true_eq_false, Bool.false_eq_true, reduceCtorEq, eta_Airway, eta_Duct, eta_Fan, eta_Mine, eta_Survey] at hb)
    | refine RetF.auto (And.intro rfl ?_)
    | exact Is.mk rfl rfl
    | refine Is.mk ?_ rfl
    | refine Is.mk rfl ?_
    | refine Is.mk ?_ ?_
def divU (a b : Int) : Int := (a + b - 1) / b
--@fn impl.divUp
theorem upT5 (a b : Int) (ha : 0 ≤ a ∧ a ≤ 1000000000000000) (hb' : 1 ≤ b ∧ b ≤ 1000000000000000) : FnSem Tryz.prog 89 [In a, In b] [] (Is [In (divU a b)] []) := by
  unfold divU
  refine FnSem.walk (zs := zeroPV Tryz.prog) (by kernel_rfl) Tryz.func89 rfl Tryz.results89 (by kernel_rfl) (by kernel_rfl) (by kernel_rfl) fun hw hh => ?_
  obtain ⟨w0, w1, _⟩ := hw
  first | replace w0 := wf_I w0 | skip
  first | replace w1 := wf_I w1 | skip
  repeat' first
    | refine And.intro rfl ?_
    | refine GdF.mk (fun h => h) ?_
    | refine And.intro (Nat.succ_ne_zero _) ?_
    | refine And.intro (Nat.le_of_ble_eq_true rfl) ?_
    | refine SeqF.run ?_
    | refine EqI.mk _ (fun _ => wrapD (by omega) (by omega) (by omega)) ?_
    | refine GhF.go ?_
    | refine BndF.mk (fun _ => by omega) ?_
    | refine BndF.mk (fun _ => by simp only [List.length_map, List.length_cons, List.length_nil, List.length_append, List.length_set, List.length_replicate, iotaI_len]; omega) ?_
    | refine EqI.mk _ (fun _ => wrapI (by omega) (by omega)) ?_
    | refine EqI.mk _ (fun _ => wrapD (by omega) (by omega) (by omega)) ?_
    | refine EqI.mk _ (fun _ => rfl) ?_
    | (refine CondF.mk (fun hb => ?_) (fun hb => ?_) <;> try simp only [forall_const, eq_self, not_true_eq_false, not_false_eq_true, or_false, false_or, or_self, or_true, true_or, and_true, true_and, and_false, false_and, decide_true, decide_false, Bool.not_true, Bool.not_false, decide_eq_true_eq, decide_eq_false_iff_not, ite_and_p, ite_or_p, Bool.decide_eq_true, Bool.and_eq_true, Bool.or_eq_true, Bool.not_eq_true', Bool.not_eq_false', Bool.and_eq_false_imp, Bool.or_eq_false_iff, bne_iff_ne, beq_iff_eq, bne_eq_false_iff_eq, beq_eq_false_iff_ne, gt_iff_lt, ge_iff_le, Int.not_lt, Int.not_le, ne_eq, Bool.true_eq_false, Bool.false_eq_true, reduceCtorEq, eta_Airway, eta_Duct, eta_Fan, eta_Mine, eta_Survey] at hb)
    | refine RetF.auto (And.intro rfl ?_)
    | exact Is.mk rfl rfl
    | refine Is.mk ?_ rfl
    | refine Is.mk rfl ?_
    | refine Is.mk ?_ ?_
def loA (x : GSurvey) : Int := max (x.drop - x.dropError) 0 * 10000000000 / ((x.flow + x.flowError) * (x.flow + x.flowError))
def hiA (x : GSurvey) : Int := divU ((x.drop + x.dropError) * 10000000000) ((x.flow - x.flowError) * (x.flow - x.flowError))
def loR (x : GSurvey) : Int := asR (loA x)
def hiR (x : GSurvey) : Int := asR (hiA x)
def miR (x : GSurvey) : Int := asR (rd (x.drop * 10000000000) (x.flow * x.flow))
theorem sq_b {x : GSurvey} (h : okSur x = true) : (1 ≤ (x.flow + x.flowError) * (x.flow + x.flowError) ∧ (x.flow + x.flowError) * (x.flow + x.flowError) ≤ 40000000000) ∧ (1 ≤ (x.flow - x.flowError) * (x.flow - x.flowError) ∧ (x.flow - x.flowError) * (x.flow - x.flowError) ≤ x.flow * x.flow) ∧ (x.flow * x.flow ≤ (x.flow + x.flowError) * (x.flow + x.flowError) ∧ 1 ≤ x.flow * x.flow ∧ x.flow * x.flow ≤ 10000000000) := by
  have hb := okSur_b h
  have h1 := mulB' (a := x.flow + x.flowError) (b := x.flow + x.flowError) (A := 200000) (B := 200000) (by omega) (by omega) (by omega) (by omega)
  have h2 := mulB' (a := x.flow - x.flowError) (b := x.flow - x.flowError) (A := x.flow) (B := x.flow) (by omega) (by omega) (by omega) (by omega)
  have h3 := mulB' (a := x.flow) (b := x.flow) (A := x.flow + x.flowError) (B := x.flow + x.flowError) (by omega) (by omega) (by omega) (by omega)
  have h4 := mulB' (a := x.flow) (b := x.flow) (A := 100000) (B := 100000) (by omega) (by omega) (by omega) (by omega)
  have h5 := Int.mul_le_mul (show (1 : Int) ≤ x.flow - x.flowError by omega) (show (1 : Int) ≤ x.flow - x.flowError by omega) (by omega) (by omega)
  omega
theorem mid_in {x : GSurvey} (h : okSur x = true) : loR x ≤ miR x ∧ miR x ≤ hiR x := by
  have hb := okSur_b h
  have hs := sq_b h
  constructor
  · apply asR_m
    unfold loA
    have h1 := Int.ediv_mul_le (max (x.drop - x.dropError) 0 * 10000000000) (show (x.flow + x.flowError) * (x.flow + x.flowError) ≠ 0 by omega)
    have h2 := Int.ediv_nonneg (show 0 ≤ max (x.drop - x.dropError) 0 * 10000000000 by omega) (show 0 ≤ (x.flow + x.flowError) * (x.flow + x.flowError) by omega)
    have h3 := Int.mul_le_mul_of_nonneg_left hs.2.2.1 h2
    exact rd_lo (by omega) (by omega) (by omega)
  · apply asR_m
    unfold hiA divU
    generalize hn : (x.drop + x.dropError) * 10000000000 = n
    generalize hl : (x.flow - x.flowError) * (x.flow - x.flowError) = l at *
    have h1 := Int.mul_ediv_add_emod (n + l - 1) l
    have h2 := Int.emod_lt_of_pos (n + l - 1) (show 0 < l by omega)
    have h3 := Int.ediv_nonneg (show 0 ≤ n + l - 1 by omega) (show 0 ≤ l by omega)
    have h4 := Int.mul_le_mul_of_nonneg_left hs.2.1.2 h3
    rw [Int.mul_comm l] at h1
    exact rd_hi (by omega) (by omega) (by omega)
theorem c_impl_Survey_bounds (x : GSurvey) (h : okSur x = true) : FnSem Tryz.prog 75 [.p .any (.agg x.cells)] [] (Is [In (loR x), In (hiR x)] []) := by
  have hb' := okSur_b h
  have hs := sq_b h
  refine FnSem.walk (zs := zeroPV Tryz.prog) (by kernel_rfl) Tryz.func75 rfl Tryz.results75 (by kernel_rfl) (by kernel_rfl) (by kernel_rfl) fun hw hh => ?_
  obtain ⟨w0, _⟩ := hw
  first | replace w0 := wf_Survey w0 | skip
  repeat' first
    | refine And.intro rfl ?_
    | refine GdF.mk (fun h => h) ?_
    | refine And.intro (Nat.succ_ne_zero _) ?_
    | refine And.intro (Nat.le_of_ble_eq_true rfl) ?_
    | refine SeqF.run ?_
    | refine EqI.mk (loA x) (fun _ => wrapD (by omega) (by omega) (by omega)) ?_
    | refine ArgF.is (upT5 ((x.drop + x.dropError) * 10000000000) ((x.flow - x.flowError) * (x.flow - x.flowError)) (by omega) (by omega)) ?_
    | refine ArgQ.is (fun hG => upT5 ((x.drop + x.dropError) * 10000000000) ((x.flow - x.flowError) * (x.flow - x.flowError)) (by omega) (by omega)) rfl rfl ?_
    | refine GhF.go ?_
    | refine DrawG.old (DrawF.lex (by decide +kernel) ?_)
    | refine BndF.mk (fun _ => by omega) ?_
    | refine BndF.mk (fun _ => by simp only [List.length_map, List.length_cons, List.length_nil, List.length_append, List.length_set, List.length_replicate, iotaI_len]; omega) ?_
    | refine EqI.mk _ (fun _ => wrapI (by omega) (by omega)) ?_
    | refine EqI.mk _ (fun _ => wrapD (by omega) (by omega) (by omega)) ?_
    | refine EqI.mk _ (fun _ => rfl) ?_
    | refine EqL.mk [] rfl ?_
    | refine EqL.mk [_] rfl ?_
    | refine EqL.mk _ rfl ?_
    | refine ArgF.is (c_impl_asResistance ..) ?_
    | refine ArgQ.is (fun hG => c_impl_asResistance ..) rfl rfl ?_
    | refine ArgF.is (c_impl_divUp _ _ (by first | assumption | omega) (by first | assumption | omega)) ?_
    | refine ArgQ.is (fun hG => c_impl_divUp _ _ (by first | assumption | omega) (by first | assumption | omega)) rfl rfl ?_
    | refine CallF.mk (CallW.is [] true rfl ?_)
    | refine CallG.mk ?_
    | (refine CondF.mk (fun hb => ?_) (fun hb => ?_) <;> try simp only [forall_const, eq_self, not_true_eq_false, not_false_eq_true, or_false, false_or, or_self, or_true, true_or, and_true, true_and, and_false, false_and, decide_true, decide_false, Bool.not_true, Bool.not_false, decide_eq_true_eq, decide_eq_false_iff_not, ite_and_p, ite_or_p, Bool.decide_eq_true, Bool.and_eq_true, Bool.or_eq_true, Bool.not_eq_true', Bool.not_eq_false', Bool.and_eq_false_imp, Bool.or_eq_false_iff, bne_iff_ne, beq_iff_eq, bne_eq_false_iff_eq, beq_eq_false_iff_ne, gt_iff_lt, ge_iff_le, Int.not_lt, Int.not_le, ne_eq, Bool.true_eq_false, Bool.false_eq_true, reduceCtorEq, eta_Airway, eta_Duct, eta_Fan, eta_Mine, eta_Survey] at hb)
    | refine RetF.auto (And.intro rfl ?_)
    | exact Is.mk rfl rfl
    | refine Is.mk ?_ rfl
    | refine Is.mk rfl ?_
    | refine Is.mk ?_ ?_
  all_goals try dsimp only
  all_goals skip
--@fn impl.BoundsOf
theorem bndT (x : GSurvey) (h : okSur x = true) : FnSem Tryz.prog 10 [.p .any (.agg x.cells)] [] (Is [In (loR x), In (hiR x), In 0] []) := by
  refine FnSem.walk (zs := zeroPV Tryz.prog) (by kernel_rfl) Tryz.func10 rfl Tryz.results10 (by kernel_rfl) (by kernel_rfl) (by kernel_rfl) fun hw hh => ?_
  obtain ⟨w0, _⟩ := hw
  first | replace w0 := wf_Survey w0 | skip
  repeat' first
    | refine And.intro rfl ?_
    | refine GdF.mk (fun h => h) ?_
    | refine And.intro (Nat.succ_ne_zero _) ?_
    | refine And.intro (Nat.le_of_ble_eq_true rfl) ?_
    | refine SeqF.run ?_
    | refine ArgF.is (vsuT x h) ?_
    | refine ArgQ.is (fun hG => vsuT x h) rfl rfl ?_
    | refine ArgF.is (c_impl_Survey_bounds x h) ?_
    | refine ArgQ.is (fun hG => c_impl_Survey_bounds x h) rfl rfl ?_
    | refine GhF.go ?_
    | refine BndF.mk (fun _ => by omega) ?_
    | refine BndF.mk (fun _ => by simp only [List.length_map, List.length_cons, List.length_nil, List.length_append, List.length_set, List.length_replicate, iotaI_len]; omega) ?_
    | refine EqL.mk [] rfl ?_
    | refine EqL.mk [_] rfl ?_
    | refine EqL.mk _ rfl ?_
    | refine ArgF.is (c_impl_ValidSurvey ⟨_, _, _, _, _⟩) ?_
    | refine ArgQ.is (fun hG => c_impl_ValidSurvey ⟨_, _, _, _, _⟩) rfl rfl ?_
    | refine ArgF.is (c_impl_Survey_bounds ⟨_, _, _, _, _⟩ (by first | assumption | omega)) ?_
    | refine ArgQ.is (fun hG => c_impl_Survey_bounds ⟨_, _, _, _, _⟩ (by first | assumption | omega)) rfl rfl ?_
    | refine CallF.mk (CallW.is [] true rfl ?_)
    | refine CallG.mk ?_
    | (refine CondF.mk (fun hb => ?_) (fun hb => ?_) <;> try simp only [forall_const, eq_self, not_true_eq_false, not_false_eq_true, or_false, false_or, or_self, or_true, true_or, and_true, true_and, and_false, false_and, decide_true, decide_false, Bool.not_true, Bool.not_false, decide_eq_true_eq, decide_eq_false_iff_not, ite_and_p, ite_or_p, Bool.decide_eq_true, Bool.and_eq_true, Bool.or_eq_true, Bool.not_eq_true', Bool.not_eq_false', Bool.and_eq_false_imp, Bool.or_eq_false_iff, bne_iff_ne, beq_iff_eq, bne_eq_false_iff_eq, beq_eq_false_iff_ne, gt_iff_lt, ge_iff_le, Int.not_lt, Int.not_le, ne_eq, Bool.true_eq_false, Bool.false_eq_true, reduceCtorEq, eta_Airway, eta_Duct, eta_Fan, eta_Mine, eta_Survey] at hb)
    | refine RetF.auto (And.intro rfl ?_)
    | exact Is.mk rfl rfl
    | refine Is.mk ?_ rfl
    | refine Is.mk rfl ?_
    | refine Is.mk ?_ ?_
  all_goals try dsimp only
  all_goals skip
--@fn impl.MiddleOf
theorem midT (x : GSurvey) (h : okSur x = true) : FnSem Tryz.prog 11 [.p .any (.agg x.cells)] [] (Is [In (miR x), In 0] []) := by
  have hb' := okSur_b h
  have hs := sq_b h
  refine FnSem.walk (zs := zeroPV Tryz.prog) (by kernel_rfl) Tryz.func11 rfl Tryz.results11 (by kernel_rfl) (by kernel_rfl) (by kernel_rfl) fun hw hh => ?_
  obtain ⟨w0, _⟩ := hw
  first | replace w0 := wf_Survey w0 | skip
  repeat' first
    | refine And.intro rfl ?_
    | refine GdF.mk (fun h => h) ?_
    | refine And.intro (Nat.succ_ne_zero _) ?_
    | refine And.intro (Nat.le_of_ble_eq_true rfl) ?_
    | refine SeqF.run ?_
    | refine ArgF.is (vsuT x h) ?_
    | refine ArgQ.is (fun hG => vsuT x h) rfl rfl ?_
    | refine ArgF.is (c_impl_divRound (x.drop * 10000000000) (x.flow * x.flow) (by omega) (by omega) (by omega) (by omega)) ?_
    | refine ArgQ.is (fun hG => c_impl_divRound (x.drop * 10000000000) (x.flow * x.flow) (by omega) (by omega) (by omega) (by omega)) rfl rfl ?_
    | refine GhF.go ?_
    | refine BndF.mk (fun _ => by omega) ?_
    | refine BndF.mk (fun _ => by simp only [List.length_map, List.length_cons, List.length_nil, List.length_append, List.length_set, List.length_replicate, iotaI_len]; omega) ?_
    | refine EqI.mk _ (fun _ => wrapI (by omega) (by omega)) ?_
    | refine EqI.mk _ (fun _ => rfl) ?_
    | refine EqL.mk [] rfl ?_
    | refine EqL.mk [_] rfl ?_
    | refine EqL.mk _ rfl ?_
    | refine ArgF.is (c_impl_ValidSurvey ⟨_, _, _, _, _⟩) ?_
    | refine ArgQ.is (fun hG => c_impl_ValidSurvey ⟨_, _, _, _, _⟩) rfl rfl ?_
    | refine ArgF.is (c_impl_divRound _ _ (by first | assumption | omega) (by first | assumption | omega) (by first | assumption | omega) (by first | assumption | omega)) ?_
    | refine ArgQ.is (fun hG => c_impl_divRound _ _ (by first | assumption | omega) (by first | assumption | omega) (by first | assumption | omega) (by first | assumption | omega)) rfl rfl ?_
    | refine ArgF.is (c_impl_asResistance ..) ?_
    | refine ArgQ.is (fun hG => c_impl_asResistance ..) rfl rfl ?_
    | refine CallF.mk (CallW.is [] true rfl ?_)
    | refine CallG.mk ?_
    | (refine CondF.mk (fun hb => ?_) (fun hb => ?_) <;> try simp only [forall_const, eq_self, not_true_eq_false, not_false_eq_true, or_false, false_or, or_self, or_true, true_or, and_true, true_and, and_false, false_and, decide_true, decide_false, Bool.not_true, Bool.not_false, decide_eq_true_eq, decide_eq_false_iff_not, ite_and_p, ite_or_p, Bool.decide_eq_true, Bool.and_eq_true, Bool.or_eq_true, Bool.not_eq_true', Bool.not_eq_false', Bool.and_eq_false_imp, Bool.or_eq_false_iff, bne_iff_ne, beq_iff_eq, bne_eq_false_iff_eq, beq_eq_false_iff_ne, gt_iff_lt, ge_iff_le, Int.not_lt, Int.not_le, ne_eq, Bool.true_eq_false, Bool.false_eq_true, reduceCtorEq, eta_Airway, eta_Duct, eta_Fan, eta_Mine, eta_Survey] at hb)
    | refine RetF.auto (And.intro rfl ?_)
    | exact Is.mk rfl rfl
    | refine Is.mk ?_ rfl
    | refine Is.mk rfl ?_
    | refine Is.mk ?_ ?_
  all_goals try dsimp only
  all_goals skip
--@fn impl.FitsSurvey
theorem fitT (x : GSurvey) (r : Int) (h : okSur x = true) : FnSem Tryz.prog 14 [.p .any (.agg x.cells), In r] [] (Is [Bo (inR r (loR x) (hiR x))] []) := by
  refine FnSem.walk (zs := zeroPV Tryz.prog) (by kernel_rfl) Tryz.func14 rfl Tryz.results14 (by kernel_rfl) (by kernel_rfl) (by kernel_rfl) fun hw hh => ?_
  obtain ⟨w0, w1, _⟩ := hw
  first | replace w0 := wf_Survey w0 | skip
  first | replace w1 := wf_I w1 | skip
  repeat' first
    | refine And.intro rfl ?_
    | refine GdF.mk (fun h => h) ?_
    | refine And.intro (Nat.succ_ne_zero _) ?_
    | refine And.intro (Nat.le_of_ble_eq_true rfl) ?_
    | refine SeqF.run ?_
    | refine ArgF.is (vsuT x h) ?_
    | refine ArgQ.is (fun hG => vsuT x h) rfl rfl ?_
    | refine ArgF.is (c_impl_Survey_bounds x h) ?_
    | refine ArgQ.is (fun hG => c_impl_Survey_bounds x h) rfl rfl ?_
    | refine GhF.go ?_
    | refine BndF.mk (fun _ => by omega) ?_
    | refine BndF.mk (fun _ => by simp only [List.length_map, List.length_cons, List.length_nil, List.length_append, List.length_set, List.length_replicate, iotaI_len]; omega) ?_
    | refine EqL.mk [] rfl ?_
    | refine EqL.mk [_] rfl ?_
    | refine EqL.mk _ rfl ?_
    | refine ArgF.is (c_impl_ValidSurvey ⟨_, _, _, _, _⟩) ?_
    | refine ArgQ.is (fun hG => c_impl_ValidSurvey ⟨_, _, _, _, _⟩) rfl rfl ?_
    | refine ArgF.is (c_impl_Survey_bounds ⟨_, _, _, _, _⟩ (by first | assumption | omega)) ?_
    | refine ArgQ.is (fun hG => c_impl_Survey_bounds ⟨_, _, _, _, _⟩ (by first | assumption | omega)) rfl rfl ?_
    | refine ArgF.is (c_impl_within ..) ?_
    | refine ArgQ.is (fun hG => c_impl_within ..) rfl rfl ?_
    | refine CallF.mk (CallW.is [] true rfl ?_)
    | refine CallG.mk ?_
    | (refine CondF.mk (fun hb => ?_) (fun hb => ?_) <;> try simp only [forall_const, eq_self, not_true_eq_false, not_false_eq_true, or_false, false_or, or_self, or_true, true_or, and_true, true_and, and_false, false_and, decide_true, decide_false, Bool.not_true, Bool.not_false, decide_eq_true_eq, decide_eq_false_iff_not, ite_and_p, ite_or_p, Bool.decide_eq_true, Bool.and_eq_true, Bool.or_eq_true, Bool.not_eq_true', Bool.not_eq_false', Bool.and_eq_false_imp, Bool.or_eq_false_iff, bne_iff_ne, beq_iff_eq, bne_eq_false_iff_eq, beq_eq_false_iff_ne, gt_iff_lt, ge_iff_le, Int.not_lt, Int.not_le, ne_eq, Bool.true_eq_false, Bool.false_eq_true, reduceCtorEq, eta_Airway, eta_Duct, eta_Fan, eta_Mine, eta_Survey] at hb)
    | refine RetF.auto (And.intro rfl ?_)
    | exact Is.mk rfl rfl
    | refine Is.mk ?_ rfl
    | refine Is.mk rfl ?_
    | refine Is.mk ?_ ?_
  all_goals try dsimp only
  all_goals skip
def surS (x : GSurvey) : ByteArray := idS x.airway [x.drop, x.dropError, x.flow, x.flowError]
theorem okSur_l {x : GSurvey} (h : okSur x = true) : okL [x.drop, x.dropError, x.flow, x.flowError] := by
  have hb := okSur_b h
  refine ⟨Nat.succ_pos _, Nat.le_of_ble_eq_true rfl, fun y hy => ?_⟩
  simp only [List.mem_cons, List.not_mem_nil, or_false] at hy
  rcases hy with rfl | rfl | rfl | rfl <;> omega
theorem c_impl_SurveyText (x : GSurvey) (h : okSur x = true) : FnSem Tryz.prog 13 [.p .any (.agg x.cells)] [] (Is [Str (surS x)] []) := by
  refine FnSem.walk (zs := zeroPV Tryz.prog) (by kernel_rfl) Tryz.func13 rfl Tryz.results13 (by kernel_rfl) (by kernel_rfl) (by kernel_rfl) fun hw hh => ?_
  obtain ⟨w0, _⟩ := hw
  first | replace w0 := wf_Survey w0 | skip
  repeat' first
    | refine And.intro rfl ?_
    | refine GdF.mk (fun h => h) ?_
    | refine And.intro (Nat.succ_ne_zero _) ?_
    | refine And.intro (Nat.le_of_ble_eq_true rfl) ?_
    | refine SeqF.run ?_
    | refine ArgF.is (vsuT x h) ?_
    | refine ArgQ.is (fun hG => vsuT x h) rfl rfl ?_
    | refine ArgF.is (c_impl_withId x.airway [x.drop, x.dropError, x.flow, x.flowError] (okSur_l h) (okSur_n h)) ?_
    | refine ArgQ.is (fun hG => c_impl_withId x.airway [x.drop, x.dropError, x.flow, x.flowError] (okSur_l h) (okSur_n h)) rfl rfl ?_
    | refine GhF.go ?_
    | refine MkF.row ?_
    | refine BndF.mk (fun _ => by omega) ?_
    | refine BndF.mk (fun _ => by simp only [List.length_map, List.length_cons, List.length_nil, List.length_append, List.length_set, List.length_replicate, iotaI_len]; omega) ?_
    | refine EqL.mk _ (tk eI (by first | rfl | assumption | omega | (simp only [List.length_map, List.length_cons, List.length_nil, List.length_append, List.length_set, List.length_replicate, iotaI_len]; done) | (simp only [List.length_map, List.length_cons, List.length_nil, List.length_append, List.length_set, List.length_replicate, iotaI_len]; omega))) ?_
    | refine EqL.mk (List.map eI [_, _, _, _]) rfl ?_
    | refine EqL.mk [] rfl ?_
    | refine EqL.mk [_] rfl ?_
    | refine EqL.mk _ rfl ?_
    | refine ArgF.is (c_impl_ValidSurvey ⟨_, _, _, _, _⟩) ?_
    | refine ArgQ.is (fun hG => c_impl_ValidSurvey ⟨_, _, _, _, _⟩) rfl rfl ?_
    | refine ArgF.is (c_impl_withId _ _ (by first | assumption | omega) (by first | assumption | omega)) ?_
    | refine ArgQ.is (fun hG => c_impl_withId _ _ (by first | assumption | omega) (by first | assumption | omega)) rfl rfl ?_
    | refine CallF.mk (CallW.is [] true rfl ?_)
    | refine CallG.mk ?_
    | (refine CondF.mk (fun hb => ?_) (fun hb => ?_) <;> try simp only [forall_const, eq_self, not_true_eq_false, not_false_eq_true, or_false, false_or, or_self, or_true, true_or, and_true, true_and, and_false, false_and, decide_true, decide_false, Bool.not_true, Bool.not_false, decide_eq_true_eq, decide_eq_false_iff_not, ite_and_p, ite_or_p, Bool.decide_eq_true, Bool.and_eq_true, Bool.or_eq_true, Bool.not_eq_true', Bool.not_eq_false', Bool.and_eq_false_imp, Bool.or_eq_false_iff, bne_iff_ne, beq_iff_eq, bne_eq_false_iff_eq, beq_eq_false_iff_ne, gt_iff_lt, ge_iff_le, Int.not_lt, Int.not_le, ne_eq, Bool.true_eq_false, Bool.false_eq_true, reduceCtorEq, eta_Airway, eta_Duct, eta_Fan, eta_Mine, eta_Survey] at hb)
    | refine RetF.auto (And.intro rfl ?_)
    | exact Is.mk rfl rfl
    | refine Is.mk ?_ rfl
    | refine Is.mk rfl ?_
    | refine Is.mk ?_ ?_
  all_goals try dsimp only
  all_goals skip
theorem c_impl_ReadSurvey (x : GSurvey) (h : okSur x = true) : FnSem Tryz.prog 12 [Str (surS x)] [] (Is [.p .flat (.agg x.cells), Bo true] []) := by
  refine FnSem.walk (zs := zeroPV Tryz.prog) (by kernel_rfl) Tryz.func12 rfl Tryz.results12 (by kernel_rfl) (by kernel_rfl) (by kernel_rfl) fun hw hh => ?_
  obtain ⟨w0, _⟩ := hw
  first | replace w0 := wf_S w0 | skip
  repeat' first
    | refine And.intro rfl ?_
    | refine GdF.mk (fun h => h) ?_
    | refine And.intro (Nat.succ_ne_zero _) ?_
    | refine And.intro (Nat.le_of_ble_eq_true rfl) ?_
    | refine SeqF.run ?_
    | refine GhF.held 2 rfl [] ?_
    | refine ArgF.is (c_impl_readWithId x.airway [x.drop, x.dropError, x.flow, x.flowError] 4 (okSur_l h) (okSur_n h) rfl) ?_
    | refine ArgQ.is (fun hG => c_impl_readWithId x.airway [x.drop, x.dropError, x.flow, x.flowError] 4 (okSur_l h) (okSur_n h) rfl) rfl rfl ?_
    | refine ArgF.is (c_impl_SurveyText x h) ?_
    | refine ArgQ.is (fun hG => c_impl_SurveyText x h) rfl rfl ?_
    | refine HdF.at 15 rfl 0 [] (And.intro (by decide +kernel) (And.intro rfl ?_))
    | refine HdF.at 14 rfl 1 [] (And.intro (by decide +kernel) (And.intro rfl ?_))
    | refine HdF.at 13 rfl 2 [] (And.intro (by decide +kernel) (And.intro rfl ?_))
    | refine HdF.at 12 rfl 3 [13, 15] (And.intro (by decide +kernel) (And.intro rfl ?_))
    | refine HdF.at 11 rfl 4 [] (And.intro (by decide +kernel) (And.intro rfl ?_))
    | refine HdF.at 10 rfl 5 [] (And.intro (by decide +kernel) (And.intro rfl ?_))
    | refine HdF.at 9 rfl 6 [13, 15] (And.intro (by decide +kernel) (And.intro rfl ?_))
    | refine HdF.at 8 rfl 7 [] (And.intro (by decide +kernel) (And.intro rfl ?_))
    | refine HdF.at 7 rfl 8 [] (And.intro (by decide +kernel) (And.intro rfl ?_))
    | refine HdF.at 6 rfl 9 [13, 15] (And.intro (by decide +kernel) (And.intro rfl ?_))
    | refine HdF.at 5 rfl 10 [] (And.intro (by decide +kernel) (And.intro rfl ?_))
    | refine HdF.at 4 rfl 11 [] (And.intro (by decide +kernel) (And.intro rfl ?_))
    | refine HdF.at 3 rfl 12 [13, 15] (And.intro (by decide +kernel) (And.intro rfl ?_))
    | refine HdF.at 2 rfl 13 [] (And.intro (by decide +kernel) (And.intro rfl ?_))
    | refine HdF.goAt 1 rfl ?_
    | refine OrdL.ord ?_
    | refine OrdF.all [15] (by decide +kernel) ?_
    | refine OrdF.all [14] (by decide +kernel) ?_
    | refine OrdF.fin (by decide +kernel) ?_
    | refine AllF.one _ ?_
    | refine AllF.cons _ _ ?_ ?_
    | refine OpH.quiet rfl ?_
    | refine OpH.heap ?_
    | refine GhF.go ?_
    | refine GdS.keep ?_
    | refine DrawG.old (DrawF.lex (by decide +kernel) ?_)
    | refine DrawG.old (DrawF.any ?_)
    | refine OrdF.take 0 (by decide +kernel) ?_
    | refine OrdF.take 1 (by decide +kernel) ?_
    | refine OrdF.take 2 (by decide +kernel) ?_
    | refine OrdF.take 4 (by decide +kernel) ?_
    | refine OrdF.take 5 (by decide +kernel) ?_
    | refine OrdF.take 7 (by decide +kernel) ?_
    | refine OrdF.take 8 (by decide +kernel) ?_
    | refine OrdF.take 10 (by decide +kernel) ?_
    | refine OrdF.take 11 (by decide +kernel) ?_
    | refine OrdF.take 13 (by decide +kernel) ?_
    | refine OrdF.all [15] (by decide +kernel) ?_
    | refine OrdF.all [3] (by decide +kernel) ?_
    | refine OrdF.all [6] (by decide +kernel) ?_
    | refine OrdF.all [3, 6] (by decide +kernel) ?_
    | refine OrdF.all [9] (by decide +kernel) ?_
    | refine OrdF.all [3, 9] (by decide +kernel) ?_
    | refine OrdF.all [6, 9] (by decide +kernel) ?_
    | refine OrdF.all [3, 6, 9] (by decide +kernel) ?_
    | refine OrdF.all [12] (by decide +kernel) ?_
    | refine OrdF.all [3, 12] (by decide +kernel) ?_
    | refine OrdF.all [6, 12] (by decide +kernel) ?_
    | refine OrdF.all [3, 6, 12] (by decide +kernel) ?_
    | refine OrdF.all [9, 12] (by decide +kernel) ?_
    | refine OrdF.all [3, 9, 12] (by decide +kernel) ?_
    | refine OrdF.all [6, 9, 12] (by decide +kernel) ?_
    | refine OrdF.all [3, 6, 9, 12] (by decide +kernel) ?_
    | refine OrdF.all [14] (by decide +kernel) ?_
    | refine OrdF.all [3, 14] (by decide +kernel) ?_
    | refine OrdF.all [6, 14] (by decide +kernel) ?_
    | refine OrdF.all [3, 6, 14] (by decide +kernel) ?_
    | refine OrdF.all [9, 14] (by decide +kernel) ?_
    | refine OrdF.all [3, 9, 14] (by decide +kernel) ?_
    | refine OrdF.all [6, 9, 14] (by decide +kernel) ?_
    | refine OrdF.all [3, 6, 9, 14] (by decide +kernel) ?_
    | refine OrdF.all [12, 14] (by decide +kernel) ?_
    | refine OrdF.all [3, 12, 14] (by decide +kernel) ?_
    | refine OrdF.all [6, 12, 14] (by decide +kernel) ?_
    | refine OrdF.all [3, 6, 12, 14] (by decide +kernel) ?_
    | refine OrdF.all [9, 12, 14] (by decide +kernel) ?_
    | refine OrdF.all [3, 9, 12, 14] (by decide +kernel) ?_
    | refine OrdF.all [6, 9, 12, 14] (by decide +kernel) ?_
    | refine OrdF.all [3, 6, 9, 12, 14] (by decide +kernel) ?_
    | refine OrdF.fin (by decide +kernel) ?_
    | refine AllF.one _ ?_
    | refine AllF.cons _ _ ?_ ?_
    | refine EqP.mk _ (gm eI 0 rfl) ?_
    | refine BndF.mk (fun _ => by omega) ?_
    | refine BndF.mk (fun _ => by simp only [List.length_map, List.length_cons, List.length_nil, List.length_append, List.length_set, List.length_replicate, iotaI_len]; omega) ?_
    | refine BndF.mk (fun hG => by simp only [forall_const, eq_self, not_true_eq_false, not_false_eq_true, or_false, false_or, or_self, or_true, true_or, and_true, true_and, and_false, false_and, decide_true, decide_false, Bool.not_true, Bool.not_false, decide_eq_true_eq, decide_eq_false_iff_not, ite_and_p, ite_or_p, Bool.decide_eq_true, Bool.and_eq_true, Bool.or_eq_true, Bool.not_eq_true', Bool.not_eq_false', Bool.and_eq_false_imp, Bool.or_eq_false_iff, bne_iff_ne, beq_iff_eq, bne_eq_false_iff_eq, beq_eq_false_iff_ne, gt_iff_lt, ge_iff_le, Int.not_lt, Int.not_le, ne_eq, Bool.true_eq_false, Bool.false_eq_true, reduceCtorEq, eta_Airway, eta_Duct, eta_Fan, eta_Mine, eta_Survey, bytes_nil] at hG; (try simp only [List.length_map]); omega) ?_
    | refine EqN.mk _ (Nat.zero_add _) ?_
    | refine EqN.mk _ (Int.toNat_natCast _) ?_
    | refine EqN.mk _ rfl ?_
    | refine EqL.mk _ (tk eI (by first | rfl | assumption | omega | (simp only [List.length_map, List.length_cons, List.length_nil, List.length_append, List.length_set, List.length_replicate, iotaI_len]; done) | (simp only [List.length_map, List.length_cons, List.length_nil, List.length_append, List.length_set, List.length_replicate, iotaI_len]; omega))) ?_
    | refine EqL.mk _ (st eI) ?_
    | refine EqL.mk [] rfl ?_
    | refine EqL.mk [_] rfl ?_
    | refine EqL.mk _ rfl ?_
    | refine ArgF.is (c_impl_readWithId _ _ _ (by first | assumption | omega) (by first | assumption | omega) (by first | assumption | omega)) ?_
    | refine ArgQ.is (fun hG => c_impl_readWithId _ _ _ (by first | assumption | omega) (by first | assumption | omega) (by first | assumption | omega)) rfl rfl ?_
    | refine ArgQ.is (fun hG => c_impl_readWithId _ _ _ (by simp only [forall_const, eq_self, not_true_eq_false, not_false_eq_true, or_false, false_or, or_self, or_true, true_or, and_true, true_and, and_false, false_and, decide_true, decide_false, Bool.not_true, Bool.not_false, decide_eq_true_eq, decide_eq_false_iff_not, ite_and_p, ite_or_p, Bool.decide_eq_true, Bool.and_eq_true, Bool.or_eq_true, Bool.not_eq_true', Bool.not_eq_false', Bool.and_eq_false_imp, Bool.or_eq_false_iff, bne_iff_ne, beq_iff_eq, bne_eq_false_iff_eq, beq_eq_false_iff_ne, gt_iff_lt, ge_iff_le, Int.not_lt, Int.not_le, ne_eq, Bool.true_eq_false, Bool.false_eq_true, reduceCtorEq, eta_Airway, eta_Duct, eta_Fan, eta_Mine, eta_Survey, bytes_nil] at hG; omega) (by simp only [forall_const, eq_self, not_true_eq_false, not_false_eq_true, or_false, false_or, or_self, or_true, true_or, and_true, true_and, and_false, false_and, decide_true, decide_false, Bool.not_true, Bool.not_false, decide_eq_true_eq, decide_eq_false_iff_not, ite_and_p, ite_or_p, Bool.decide_eq_true, Bool.and_eq_true, Bool.or_eq_true, Bool.not_eq_true', Bool.not_eq_false', Bool.and_eq_false_imp, Bool.or_eq_false_iff, bne_iff_ne, beq_iff_eq, bne_eq_false_iff_eq, beq_eq_false_iff_ne, gt_iff_lt, ge_iff_le, Int.not_lt, Int.not_le, ne_eq, Bool.true_eq_false, Bool.false_eq_true, reduceCtorEq, eta_Airway, eta_Duct, eta_Fan, eta_Mine, eta_Survey, bytes_nil] at hG; omega) (by simp only [forall_const, eq_self, not_true_eq_false, not_false_eq_true, or_false, false_or, or_self, or_true, true_or, and_true, true_and, and_false, false_and, decide_true, decide_false, Bool.not_true, Bool.not_false, decide_eq_true_eq, decide_eq_false_iff_not, ite_and_p, ite_or_p, Bool.decide_eq_true, Bool.and_eq_true, Bool.or_eq_true, Bool.not_eq_true', Bool.not_eq_false', Bool.and_eq_false_imp, Bool.or_eq_false_iff, bne_iff_ne, beq_iff_eq, bne_eq_false_iff_eq, beq_eq_false_iff_ne, gt_iff_lt, ge_iff_le, Int.not_lt, Int.not_le, ne_eq, Bool.true_eq_false, Bool.false_eq_true, reduceCtorEq, eta_Airway, eta_Duct, eta_Fan, eta_Mine, eta_Survey, bytes_nil] at hG; omega)) rfl rfl ?_
    | refine ArgF.is (c_impl_SurveyText ⟨_, _, _, _, _⟩ (by first | assumption | omega)) ?_
    | refine ArgQ.is (fun hG => c_impl_SurveyText ⟨_, _, _, _, _⟩ (by first | assumption | omega)) rfl rfl ?_
    | refine ArgQ.is (fun hG => c_impl_SurveyText ⟨_, _, _, _, _⟩ (by simp only [forall_const, eq_self, not_true_eq_false, not_false_eq_true, or_false, false_or, or_self, or_true, true_or, and_true, true_and, and_false, false_and, decide_true, decide_false, Bool.not_true, Bool.not_false, decide_eq_true_eq, decide_eq_false_iff_not, ite_and_p, ite_or_p, Bool.decide_eq_true, Bool.and_eq_true, Bool.or_eq_true, Bool.not_eq_true', Bool.not_eq_false', Bool.and_eq_false_imp, Bool.or_eq_false_iff, bne_iff_ne, beq_iff_eq, bne_eq_false_iff_eq, beq_eq_false_iff_ne, gt_iff_lt, ge_iff_le, Int.not_lt, Int.not_le, ne_eq, Bool.true_eq_false, Bool.false_eq_true, reduceCtorEq, eta_Airway, eta_Duct, eta_Fan, eta_Mine, eta_Survey, bytes_nil] at hG; omega)) rfl rfl ?_
    | refine CallF.mk (CallW.is [] true rfl ?_)
    | refine CallG.mk ?_
    | (refine CondF.mk (fun hb => ?_) (fun hb => ?_) <;> try simp only [forall_const, eq_self, not_true_eq_false, not_false_eq_true, or_false, false_or, or_self, or_true, true_or, and_true, true_and, and_false, false_and, decide_true, decide_false, Bool.not_true, Bool.not_false, decide_eq_true_eq, decide_eq_false_iff_not, ite_and_p, ite_or_p, Bool.decide_eq_true, Bool.and_eq_true, Bool.or_eq_true, Bool.not_eq_true', Bool.not_eq_false', Bool.and_eq_false_imp, Bool.or_eq_false_iff, bne_iff_ne, beq_iff_eq, bne_eq_false_iff_eq, beq_eq_false_iff_ne, gt_iff_lt, ge_iff_le, Int.not_lt, Int.not_le, ne_eq, Bool.true_eq_false, Bool.false_eq_true, reduceCtorEq, eta_Airway, eta_Duct, eta_Fan, eta_Mine, eta_Survey] at hb)
    | refine RetF.auto (And.intro rfl ?_)
    | exact Is.mk rfl rfl
    | refine Is.mk ?_ rfl
    | refine Is.mk rfl ?_
    | refine Is.mk ?_ ?_
  all_goals try dsimp only
  all_goals first
    | (exfalso; exact hb rfl)
    | skip
end Go.Proofs.YtmifcbekaniiiaaGreatDoor
