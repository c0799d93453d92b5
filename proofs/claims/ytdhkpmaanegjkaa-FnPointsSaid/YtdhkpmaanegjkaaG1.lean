/- Contracts of functions of the program, and what they compute. Conditions: those that each theorem states. -/
import Derived.Test.YtdhkpmaanegjkaaProg
import Derived.Test.YtdhkpmaanegjkaaR0
import Derived.Test.YtdhkpmaanegjkaaR1
set_option linter.unusedVariables false
set_option linter.unusedSimpArgs false
namespace Go.Proofs.Ytdhkpmaanegjkaa
open Go.Av
attribute [local irreducible] Go.IntKind.wrap leastI rdZ rd
set_option maxRecDepth 20000
set_option maxHeartbeats 4000000

theorem sq_le {a b : Int} (h0 : 0 ≤ a) (h : a ≤ b) : a * a ≤ b * b := Int.mul_le_mul h h h0 (by omega)
/-- the square root, rounded down -/
def rootP (n r : Int) : Bool := decide (n < (r + 1) * (r + 1))
def rootI (n : Int) : Int := if n < 0 then 0 else leastI (rootP n) 0 3037000498
theorem rootP_mono {n a b : Int} (h0 : 0 ≤ a) (h : a ≤ b) (hp : rootP n a = true) : rootP n b = true := by
  have h1 : n < (a + 1) * (a + 1) := of_decide_eq_true hp
  have h2 := sq_le (a := a + 1) (b := b + 1) (by omega) (by omega)
  exact decide_eq_true (show n < (b + 1) * (b + 1) by omega)
theorem rootI_of {n m : Int} (h0 : 0 ≤ m) (h1 : m ≤ 3037000499) (h2 : m = 0 ∨ m * m ≤ n) (h3 : m = 3037000499 ∨ n < (m + 1) * (m + 1)) : rootI n = m := by
  unfold rootI
  split
  · rename_i hn
    rcases h2 with h2 | h2
    · exact h2.symm
    · have := Int.mul_nonneg h0 h0; omega
  · rename_i hn
    have hlt : ∀ k, 0 ≤ k → k < m → rootP n k = false := fun k a b => by
      have := sq_le (a := k + 1) (b := m) (by omega) (by omega)
      exact decide_eq_false (by omega)
    by_cases e : m = 3037000499
    · rw [leastI_no fun k a b => hlt k a (by omega)]; omega
    · exact leastI_at h0 (by omega) (decide_eq_true (by omega)) hlt
theorem c_spec_l01Div (a b : Int) (ha : -4000000000000000000 ≤ a ∧ a ≤ 4000000000000000000) (hb : 1 ≤ b ∧ b ≤ 1000000000000000000) : FnSem Try.prog 45 [In a, In b] [] (Is [In (rdZ a b)] []) := by
  have e : rdZ a b = if 0 ≤ a then (2 * a + b) / (2 * b) else -((b - 2 * a) / (2 * b)) := by
    unfold rdZ
    split
    · rw [rd_eq (by omega) (by omega)]
    · rw [rd_eq (by omega) (by omega)]; congr 2; omega
  have b1 := rdZ_lo (a := -4000000000000000000) (x := a) (y := b) (by omega) (by have := Int.mul_le_mul_of_nonneg_left hb.1 (show (0 : Int) ≤ 4000000000000000000 by omega); rw [Int.neg_mul]; omega)
  have b2 := rdZ_hi (b := 4000000000000000000) (x := a) (y := b) (by omega) (by have := Int.mul_le_mul_of_nonneg_left hb.1 (show (0 : Int) ≤ 4000000000000000000 by omega); omega)
  rw [e] at b1 b2 ⊢
  refine FnSem.walk (zs := zeroPV Try.prog) (by kernel_rfl) Try.func45 rfl Try.results45 (by kernel_rfl) (by kernel_rfl) (by kernel_rfl) fun hw hh => ?_
  obtain ⟨w0, w1, _⟩ := hw
  first | replace w0 := wf_I w0 | skip
  first | replace w1 := wf_I w1 | skip
  repeat' first
    | refine And.intro rfl ?_
    | refine GdF.mk (fun h => h) ?_
    | refine And.intro (Nat.succ_ne_zero _) ?_
    | refine And.intro (Nat.le_of_ble_eq_true rfl) ?_
    | refine SeqF.run ?_
    | refine EqI.mk _ (fun _ => wrapD (by omega) (by omega) (by omega)) ?_
    | refine GhF.go ?_
    | refine BndF.mk (fun _ => by omega) ?_
    | refine BndF.mk (fun _ => by simp only [List.length_map, List.length_cons, List.length_nil, List.length_append, List.length_set, List.length_replicate, iotaI_len]; omega) ?_
    | refine EqI.mk _ (fun _ => wrapI (by omega) (by omega)) ?_
    | refine EqI.mk _ (fun _ => wrapD (by omega) (by omega) (by omega)) ?_
    | refine EqI.mk _ (fun _ => rfl) ?_
    | (refine CondF.mk (fun hb => ?_) (fun hb => ?_) <;> try simp only [forall_const, eq_self, not_true_eq_false, not_false_eq_true, or_false, false_or, or_self, or_true, true_or, and_true, true_and, and_false, false_and, decide_true, decide_false, Bool.not_true, Bool.not_false, decide_eq_true_eq, decide_eq_false_iff_not, ite_and_p, ite_or_p, Bool.decide_eq_true, Bool.and_eq_true, Bool.or_eq_true, Bool.not_eq_true', Bool.not_eq_false', Bool.and_eq_false_imp, Bool.or_eq_false_iff, bne_iff_ne, beq_iff_eq, bne_eq_false_iff_eq, beq_eq_false_iff_ne, gt_iff_lt, ge_iff_le, Int.not_lt, Int.not_le, ne_eq, Bool.true_eq_false, Bool.false_eq_true, reduceCtorEq, eta_Fan] at hb)
    | refine RetF.auto (And.intro rfl ?_)
    | exact Is.mk rfl rfl
    | refine Is.mk ?_ rfl
    | refine Is.mk rfl ?_
    | refine Is.mk ?_ ?_
  all_goals try dsimp only
  all_goals try simp only [Bo, I, OB.row.injEq, AV.osl.injEq, eI_same,  List.cons.injEq, AV.p.injEq, PV.c.injEq, Value.int.injEq, Value.bool.injEq, and_true, true_and, ite_and_p, ite_or_p, Bool.decide_eq_true, eta_Fan]
  all_goals first
    | (exfalso; omega)
    | (rw [if_pos hb])
    | (rw [if_neg (by omega)]; omega)
end Go.Proofs.Ytdhkpmaanegjkaa
