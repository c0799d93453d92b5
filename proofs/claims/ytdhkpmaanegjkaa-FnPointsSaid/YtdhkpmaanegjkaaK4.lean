/- Contracts of functions of the program, and what they compute. Conditions: those that each theorem states. -/
import Derived.Test.YtdhkpmaanegjkaaProg
import Derived.Test.YtdhkpmaanegjkaaK3
set_option linter.unusedVariables false
set_option linter.unusedSimpArgs false
namespace Go.Proofs.Ytdhkpmaanegjkaa
open Go.Av
attribute [local irreducible] Go.IntKind.wrap
set_option maxRecDepth 20000
set_option maxHeartbeats 4000000

def absW (x : Int) : Int := max x (IntKind.i64.wrap (0 - x))
def isJump (xs : List Int) (step t : Int) : Bool := decide (1 ≤ t) && (decide (xs.getD t.toNat 0 ≠ -1) && decide (xs.getD (t - 1).toNat 0 ≠ -1) && decide (absW (IntKind.i64.wrap (xs.getD t.toNat 0 - xs.getD (t - 1).toNat 0)) > step))
def jumps (xs : List Int) (step : Int) : List Int × Int := if okSeries xs && inR step 0 1000000 then (selI (isJump xs step) xs.length, 0) else ([], 2)
theorem jumps_no {xs : List Int} {step : Int} (h : okSeries xs = false ∨ inR step 0 1000000 = false) : jumps xs step = ([], 2) := by
  unfold jumps; rw [if_neg]; rcases h with h | h <;> simp [h]
theorem jumps_yes {xs : List Int} {step : Int} (h : ¬okSeries xs = false ∧ inR step 0 1000000 = true) : jumps xs step = (selI (isJump xs step) xs.length, 0) := by
  unfold jumps; rw [if_pos]; rw [h.2]; cases h2 : okSeries xs <;> simp_all
theorem okSeries_len {xs : List Int} (h : ¬okSeries xs = false) : xs.length ≤ 200 := by
  unfold okSeries at h; simp at h; exact h.2
theorem isJump_iff {xs : List Int} {step t : Int} : isJump xs step t = true ↔ 1 ≤ t ∧ (¬xs.getD t.toNat 0 = -1 ∧ ¬xs.getD (t - 1).toNat 0 = -1) ∧ step < max (IntKind.i64.wrap (xs.getD t.toNat 0 - xs.getD (t - 1).toNat 0)) (IntKind.i64.wrap (0 - IntKind.i64.wrap (xs.getD t.toNat 0 - xs.getD (t - 1).toNat 0))) := by
  simp only [isJump, absW, Bool.and_eq_true, decide_eq_true_eq, ne_eq, gt_iff_lt, and_assoc]
theorem jump_s {xs : List Int} {step i : Int} {ys : List Int} (h0 : 1 ≤ i) (h : ys = selI (isJump xs step) i.toNat) (hb : (¬xs.getD i.toNat 0 = -1 ∧ ¬xs.getD (i - 1).toNat 0 = -1) ∧ step < max (IntKind.i64.wrap (xs.getD i.toNat 0 - xs.getD (i - 1).toNat 0)) (IntKind.i64.wrap (0 - IntKind.i64.wrap (xs.getD i.toNat 0 - xs.getD (i - 1).toNat 0)))) : ys ++ [i] = selI (isJump xs step) (i + 1).toNat := by
  rw [selI_s (by omega) (isJump_iff.2 ⟨h0, hb⟩), h]
theorem jump_n {xs : List Int} {step i : Int} {ys : List Int} (h0 : 1 ≤ i) (h : ys = selI (isJump xs step) i.toNat) (hb : ¬xs.getD i.toNat 0 = -1 ∧ ¬xs.getD (i - 1).toNat 0 = -1 → max (IntKind.i64.wrap (xs.getD i.toNat 0 - xs.getD (i - 1).toNat 0)) (IntKind.i64.wrap (0 - IntKind.i64.wrap (xs.getD i.toNat 0 - xs.getD (i - 1).toNat 0))) ≤ step) : ys = selI (isJump xs step) (i + 1).toNat := by
  rw [selI_n (by omega) (Bool.eq_false_iff.2 fun hj => ?_), h]
  obtain ⟨_, h1, h2⟩ := isJump_iff.1 hj
  have := hb h1
  exact absurd h2 (Int.not_lt.2 this)
theorem jump_end {xs : List Int} {step i : Int} {ys : List Int} (h0 : 1 ≤ i) (h1 : i ≤ xs.length ∨ i = 1) (h : ys = selI (isJump xs step) i.toNat) (hb : xs.length ≤ i) : ys = selI (isJump xs step) xs.length := by
  by_cases e : i = xs.length
  · rw [h, e]; rfl
  · have h1 : i = 1 := by omega
    have h2 : xs.length = 0 := by omega
    rw [h, h1, h2]; rfl
theorem jump_0 {xs : List Int} {step : Int} : [] = selI (isJump xs step) (Int.toNat 1) := by
  rw [show Int.toNat 1 = 0 + 1 from rfl, selI_succ, if_neg]
  · rfl
  · simp [isJump]
end Go.Proofs.Ytdhkpmaanegjkaa
