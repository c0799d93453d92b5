/- Contracts of functions of the program, and what they compute. Conditions: those that each theorem states. -/
import Derived.Test.YtmifcbekaniiiaaDoorProg
import Derived.Test.YtmifcbekaniiiaaDoorL7
import Derived.Test.YtmifcbekaniiiaaDoorR5
set_option linter.unusedVariables false
set_option linter.unusedSimpArgs false
namespace Go.Proofs.YtmifcbekaniiiaaDoor
open Go.Av
attribute [local irreducible] Go.IntKind.wrap satI
set_option maxRecDepth 20000
set_option maxHeartbeats 4000000
theorem c_impl_humidityOk (x : Int) : FnSem Tryd.prog 84 [In x] [] (Is [Bo (inR x 0 1000)] []) := by
  refine FnSem.walk (zs := zeroPV Tryd.prog) (by kernel_rfl) Tryd.func84 rfl Tryd.results84 (by kernel_rfl) (by kernel_rfl) (by kernel_rfl) fun hw hh => ?_
  obtain ⟨w0, _⟩ := hw
  first | replace w0 := wf_I w0 | skip
  repeat' first
    | refine And.intro rfl ?_
    | refine GdF.mk (fun h => h) ?_
    | refine And.intro (Nat.succ_ne_zero _) ?_
    | refine And.intro (Nat.le_of_ble_eq_true rfl) ?_
    | refine SeqF.run ?_
    | refine GhF.go ?_
    | refine BndF.mk (fun _ => by omega) ?_
    | refine BndF.mk (fun _ => by simp only [List.length_map, List.length_cons, List.length_nil, List.length_append, List.length_set, List.length_replicate, iotaI_len]; omega) ?_
    | refine EqL.mk [] rfl ?_
    | refine EqL.mk [_] rfl ?_
    | refine EqL.mk _ rfl ?_
    | refine ArgF.is (c_impl_within ..) ?_
    | refine ArgQ.is (fun hG => c_impl_within ..) rfl rfl ?_
    | refine CallF.mk (CallW.is [] true rfl ?_)
    | refine CallG.mk ?_
    | (refine CondF.mk (fun hb => ?_) (fun hb => ?_) <;> try simp only [forall_const, eq_self, not_true_eq_false, not_false_eq_true, or_false, false_or, or_self, or_true, true_or, and_true, true_and, and_false, false_and, decide_true, decide_false, Bool.not_true, Bool.not_false, decide_eq_true_eq, decide_eq_false_iff_not, ite_and_p, ite_or_p, Bool.decide_eq_true, Bool.and_eq_true, Bool.or_eq_true, Bool.not_eq_true', Bool.not_eq_false', Bool.and_eq_false_imp, Bool.or_eq_false_iff, bne_iff_ne, beq_iff_eq, bne_eq_false_iff_eq, beq_eq_false_iff_ne, gt_iff_lt, ge_iff_le, Int.not_lt, Int.not_le, ne_eq, Bool.true_eq_false, Bool.false_eq_true, reduceCtorEq, eta_Air, eta_Heading] at hb)
    | refine RetF.auto (And.intro rfl ?_)
    | exact Is.mk rfl rfl
    | refine Is.mk ?_ rfl
    | refine Is.mk rfl ?_
    | refine Is.mk ?_ ?_
theorem c_impl_airPressure (x : Int) : FnSem Tryd.prog 59 [In x] [] (Is [Bo (inR x 50000 150000)] []) := by
  refine FnSem.walk (zs := zeroPV Tryd.prog) (by kernel_rfl) Tryd.func59 rfl Tryd.results59 (by kernel_rfl) (by kernel_rfl) (by kernel_rfl) fun hw hh => ?_
  obtain ⟨w0, _⟩ := hw
  first | replace w0 := wf_I w0 | skip
  repeat' first
    | refine And.intro rfl ?_
    | refine GdF.mk (fun h => h) ?_
    | refine And.intro (Nat.succ_ne_zero _) ?_
    | refine And.intro (Nat.le_of_ble_eq_true rfl) ?_
    | refine SeqF.run ?_
    | refine GhF.go ?_
    | refine BndF.mk (fun _ => by omega) ?_
    | refine BndF.mk (fun _ => by simp only [List.length_map, List.length_cons, List.length_nil, List.length_append, List.length_set, List.length_replicate, iotaI_len]; omega) ?_
    | refine EqL.mk [] rfl ?_
    | refine EqL.mk [_] rfl ?_
    | refine EqL.mk _ rfl ?_
    | refine ArgF.is (c_impl_within ..) ?_
    | refine ArgQ.is (fun hG => c_impl_within ..) rfl rfl ?_
    | refine CallF.mk (CallW.is [] true rfl ?_)
    | refine CallG.mk ?_
    | (refine CondF.mk (fun hb => ?_) (fun hb => ?_) <;> try simp only [forall_const, eq_self, not_true_eq_false, not_false_eq_true, or_false, false_or, or_self, or_true, true_or, and_true, true_and, and_false, false_and, decide_true, decide_false, Bool.not_true, Bool.not_false, decide_eq_true_eq, decide_eq_false_iff_not, ite_and_p, ite_or_p, Bool.decide_eq_true, Bool.and_eq_true, Bool.or_eq_true, Bool.not_eq_true', Bool.not_eq_false', Bool.and_eq_false_imp, Bool.or_eq_false_iff, bne_iff_ne, beq_iff_eq, bne_eq_false_iff_eq, beq_eq_false_iff_ne, gt_iff_lt, ge_iff_le, Int.not_lt, Int.not_le, ne_eq, Bool.true_eq_false, Bool.false_eq_true, reduceCtorEq, eta_Air, eta_Heading] at hb)
    | refine RetF.auto (And.intro rfl ?_)
    | exact Is.mk rfl rfl
    | refine Is.mk ?_ rfl
    | refine Is.mk rfl ?_
    | refine Is.mk ?_ ?_
def satOf (t : Int) : Int × Int := if inR t (-100) 600 then (satI t, 0) else (0, 2)
theorem sat_steps : (List.range 700).all (fun n => decide (satI ((n : Int) - 100) ≤ satI ((n : Int) - 99))) = true := by decide +kernel
theorem sat_ends : satI (-100) = 286 ∧ satI 600 = 19940 := by decide +kernel
theorem sat_mono {a b : Int} (h0 : -100 ≤ a) (h1 : a ≤ b) (h2 : b ≤ 600) : satI a ≤ satI b := by
  have h : ∀ n : Nat, a + n ≤ 600 → satI a ≤ satI (a + n) := by
    intro n
    induction n with
    | zero => intro _; rw [show a + ((0 : Nat) : Int) = a by omega]; exact Int.le_refl _
    | succ n ih =>
      intro hn
      have e := List.all_eq_true.1 sat_steps (a + n + 100).toNat (by simp; omega)
      rw [decide_eq_true_eq, show ((a + n + 100).toNat : Int) - 100 = a + n by omega, show ((a + n + 100).toNat : Int) - 99 = a + (n + 1 : Nat) by omega] at e
      exact Int.le_trans (ih (by omega)) e
  have := h (b - a).toNat (by omega)
  rwa [show a + ((b - a).toNat : Int) = b by omega] at this
theorem sat_b {a : Int} (h0 : -100 ≤ a) (h1 : a ≤ 600) : 286 ≤ satI a ∧ satI a ≤ 19940 := by
  have h2 := sat_mono (a := -100) (b := a) (by omega) h0 h1
  have h3 := sat_mono (a := a) (b := 600) h0 h1 (by omega)
  rw [sat_ends.1] at h2; rw [sat_ends.2] at h3; exact ⟨h2, h3⟩
theorem vap_b {t h : Int} (h0 : -100 ≤ t ∧ t ≤ 600) (h1 : 0 ≤ h ∧ h ≤ 1000) : 0 ≤ satI t * h ∧ satI t * h ≤ satI t * 1000 ∧ satI t ≤ 19940 ∧ 286 ≤ satI t := by
  have hb := sat_b h0.1 h0.2
  exact ⟨Int.mul_nonneg (by omega) h1.1, Int.mul_le_mul_of_nonneg_left h1.2 (by omega), hb.2, hb.1⟩
def vapI (t h : Int) : Int := rd (satI t * h) 1000
theorem c_impl_vapourOf (t h : Int) (h0 : -100 ≤ t ∧ t ≤ 600) (h1 : 0 ≤ h ∧ h ≤ 1000) : FnSem Tryd.prog 63 [In t, In h] [] (Is [In (vapI t h)] []) := by
  have hb := vap_b h0 h1
  refine FnSem.walk (zs := zeroPV Tryd.prog) (by kernel_rfl) Tryd.func63 rfl Tryd.results63 (by kernel_rfl) (by kernel_rfl) (by kernel_rfl) fun hw hh => ?_
  obtain ⟨w0, w1, _⟩ := hw
  first | replace w0 := wf_I w0 | skip
  first | replace w1 := wf_I w1 | skip
  repeat' first
    | refine And.intro rfl ?_
    | refine GdF.mk (fun h => h) ?_
    | refine And.intro (Nat.succ_ne_zero _) ?_
    | refine And.intro (Nat.le_of_ble_eq_true rfl) ?_
    | refine SeqF.run ?_
    | refine GhF.go ?_
    | refine BndF.mk (fun _ => by omega) ?_
    | refine BndF.mk (fun _ => by simp only [List.length_map, List.length_cons, List.length_nil, List.length_append, List.length_set, List.length_replicate, iotaI_len]; omega) ?_
    | refine EqI.mk _ (fun _ => wrapI (by omega) (by omega)) ?_
    | refine EqI.mk _ (fun _ => rfl) ?_
    | refine EqL.mk [] rfl ?_
    | refine EqL.mk [_] rfl ?_
    | refine EqL.mk _ rfl ?_
    | refine ArgF.is (c_impl_saturationOf _ (by first | assumption | omega)) ?_
    | refine ArgQ.is (fun hG => c_impl_saturationOf _ (by first | assumption | omega)) rfl rfl ?_
    | refine ArgF.is (c_impl_divRound _ _ (by first | assumption | omega) (by first | assumption | omega) (by first | assumption | omega) (by first | assumption | omega)) ?_
    | refine ArgQ.is (fun hG => c_impl_divRound _ _ (by first | assumption | omega) (by first | assumption | omega) (by first | assumption | omega) (by first | assumption | omega)) rfl rfl ?_
    | refine CallF.mk (CallW.is [] true rfl ?_)
    | refine CallG.mk ?_
    | (refine CondF.mk (fun hb => ?_) (fun hb => ?_) <;> try simp only [forall_const, eq_self, not_true_eq_false, not_false_eq_true, or_false, false_or, or_self, or_true, true_or, and_true, true_and, and_false, false_and, decide_true, decide_false, Bool.not_true, Bool.not_false, decide_eq_true_eq, decide_eq_false_iff_not, ite_and_p, ite_or_p, Bool.decide_eq_true, Bool.and_eq_true, Bool.or_eq_true, Bool.not_eq_true', Bool.not_eq_false', Bool.and_eq_false_imp, Bool.or_eq_false_iff, bne_iff_ne, beq_iff_eq, bne_eq_false_iff_eq, beq_eq_false_iff_ne, gt_iff_lt, ge_iff_le, Int.not_lt, Int.not_le, ne_eq, Bool.true_eq_false, Bool.false_eq_true, reduceCtorEq, eta_Air, eta_Heading] at hb)
    | refine RetF.auto (And.intro rfl ?_)
    | exact Is.mk rfl rfl
    | refine Is.mk ?_ rfl
    | refine Is.mk rfl ?_
    | refine Is.mk ?_ ?_
  all_goals try dsimp only
  all_goals try simp only [Bo, I, OB.row.injEq, AV.osl.injEq, eI_same,  List.cons.injEq, AV.p.injEq, PV.c.injEq, Value.int.injEq, Value.bool.injEq, and_true, true_and, ite_and_p, ite_or_p, Bool.decide_eq_true, eta_Air, eta_Heading, vapI]
theorem vapI_le {t h : Int} (h0 : -100 ≤ t ∧ t ≤ 600) (h1 : 0 ≤ h ∧ h ≤ 1000) : 0 ≤ vapI t h ∧ vapI t h ≤ satI t := by
  have hb := vap_b h0 h1
  exact rd_b hb.1 (by omega) hb.2.1
def vapOf (t h : Int) : Int × Int := if inR t (-100) 600 && inR h 0 1000 then (vapI t h, 0) else (0, 2)