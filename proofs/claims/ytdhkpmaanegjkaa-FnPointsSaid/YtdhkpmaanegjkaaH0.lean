/- Contracts of functions of the program, and what they compute. Conditions: those that each theorem states. -/
import Derived.Test.YtdhkpmaanegjkaaProg
import Derived.Test.YtdhkpmaanegjkaaG1
set_option linter.unusedVariables false
set_option linter.unusedSimpArgs false
namespace Go.Proofs.Ytdhkpmaanegjkaa
open Go.Av
attribute [local irreducible] Go.IntKind.wrap leastI rdZ rd rootI
set_option maxRecDepth 20000
set_option maxHeartbeats 4000000

/-! Drops of flows; the greatest and the least of numbers. -/
theorem mulB {a b A B : Int} (h1 : -A ≤ a ∧ a ≤ A) (h3 : 0 ≤ b ∧ b ≤ B) : -(A * B) ≤ a * b ∧ a * b ≤ A * B := by
  have g1 := Int.mul_le_mul_of_nonneg_left h3.2 (show 0 ≤ A by omega)
  have g2 := Int.mul_le_mul_of_nonneg_right h1.2 h3.1
  have g3 := Int.mul_le_mul_of_nonneg_right h1.1 h3.1
  rw [Int.neg_mul] at g3
  omega
/-- the drop of a flow -/
def dropI (r q : Int) : Int := rdZ (r * q * max q (-q)) 10000000000
theorem dropI_b {r q : Int} (hr : 1 ≤ r ∧ r ≤ 1000000) (hq : -100000 ≤ q ∧ q ≤ 100000) : (-100000000000 ≤ r * q ∧ r * q ≤ 100000000000) ∧ (-10000000000000000 ≤ r * q * max q (-q) ∧ r * q * max q (-q) ≤ 10000000000000000) ∧ -1000000 ≤ dropI r q ∧ dropI r q ≤ 1000000 := by
  have h1 := mulB (a := q) (b := r) (A := 100000) (B := 1000000) hq (by omega)
  rw [Int.mul_comm q r] at h1
  have h2 := mulB (a := r * q) (b := max q (-q)) (A := 100000000000) (B := 100000) (by omega) (by omega)
  have h3 := rdZ_lo (a := -1000000) (x := r * q * max q (-q)) (y := 10000000000) (by omega) (by omega)
  have h4 := rdZ_hi (b := 1000000) (x := r * q * max q (-q)) (y := 10000000000) (by omega) (by omega)
  unfold dropI
  omega
theorem c_impl_dropOf (r q : Int) (hr : 1 ≤ r ∧ r ≤ 1000000) (hq : -100000 ≤ q ∧ q ≤ 100000) : FnSem Try.prog 39 [In r, In q] [] (Is [In (dropI r q)] []) := by
  have hb := dropI_b hr hq
  have e : IntKind.i64.wrap (0 - q) = -q := by rw [wrapI (by omega) (by omega)]; omega
  have ha := c_impl_abs q
  rw [e] at ha
  refine FnSem.walk (zs := zeroPV Try.prog) (by kernel_rfl) Try.func39 rfl Try.results39 (by kernel_rfl) (by kernel_rfl) (by kernel_rfl) fun hw hh => ?_
  obtain ⟨w0, w1, _⟩ := hw
  first | replace w0 := wf_I w0 | skip
  first | replace w1 := wf_I w1 | skip
  repeat' first
    | refine And.intro rfl ?_
    | refine GdF.mk (fun h => h) ?_
    | refine And.intro (Nat.succ_ne_zero _) ?_
    | refine And.intro (Nat.le_of_ble_eq_true rfl) ?_
    | refine SeqF.run ?_
    | refine ArgF.is (ha) ?_
    | refine ArgQ.is (fun hG => ha) rfl rfl ?_
    | refine ArgF.is (divRoundZ (r * q * max q (-q)) 10000000000 (by omega) (by omega) (by omega)) ?_
    | refine ArgQ.is (fun hG => divRoundZ (r * q * max q (-q)) 10000000000 (by omega) (by omega) (by omega)) rfl rfl ?_
    | refine GhF.go ?_
    | refine BndF.mk (fun _ => by omega) ?_
    | refine BndF.mk (fun _ => by simp only [List.length_map, List.length_cons, List.length_nil, List.length_append, List.length_set, List.length_replicate, iotaI_len]; omega) ?_
    | refine EqI.mk _ (fun _ => wrapI (by omega) (by omega)) ?_
    | refine EqI.mk _ (fun _ => rfl) ?_
    | refine EqL.mk [] rfl ?_
    | refine EqL.mk [_] rfl ?_
    | refine EqL.mk _ rfl ?_
    | refine ArgF.is (c_impl_abs ..) ?_
    | refine ArgQ.is (fun hG => c_impl_abs ..) rfl rfl ?_
    | refine ArgF.is (c_impl_divRound _ _ (by first | assumption | omega) (by first | assumption | omega) (by first | assumption | omega) (by first | assumption | omega)) ?_
    | refine ArgQ.is (fun hG => c_impl_divRound _ _ (by first | assumption | omega) (by first | assumption | omega) (by first | assumption | omega) (by first | assumption | omega)) rfl rfl ?_
    | refine CallF.mk (CallW.is [] true rfl ?_)
    | refine CallG.mk ?_
    | (refine CondF.mk (fun hb => ?_) (fun hb => ?_) <;> try simp only [forall_const, eq_self, not_true_eq_false, not_false_eq_true, or_false, false_or, or_self, or_true, true_or, and_true, true_and, and_false, false_and, decide_true, decide_false, Bool.not_true, Bool.not_false, decide_eq_true_eq, decide_eq_false_iff_not, ite_and_p, ite_or_p, Bool.decide_eq_true, Bool.and_eq_true, Bool.or_eq_true, Bool.not_eq_true', Bool.not_eq_false', Bool.and_eq_false_imp, Bool.or_eq_false_iff, bne_iff_ne, beq_iff_eq, bne_eq_false_iff_eq, beq_eq_false_iff_ne, gt_iff_lt, ge_iff_le, Int.not_lt, Int.not_le, ne_eq, Bool.true_eq_false, Bool.false_eq_true, reduceCtorEq, eta_Fan] at hb)
    | refine RetF.auto (And.intro rfl ?_)
    | exact Is.mk rfl rfl
    | refine Is.mk ?_ rfl
    | refine Is.mk rfl ?_
    | refine Is.mk ?_ ?_
end Go.Proofs.Ytdhkpmaanegjkaa
