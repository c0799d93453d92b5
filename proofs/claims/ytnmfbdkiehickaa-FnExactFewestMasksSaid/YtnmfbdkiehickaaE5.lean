/- Contracts of functions of the program, and what they compute. Conditions: those that each theorem states. -/
import Derived.Test.YtnmfbdkiehickaaProg
import Derived.Test.YtnmfbdkiehickaaE3
import Derived.Test.YtnmfbdkiehickaaE4
set_option linter.unusedVariables false
set_option linter.unusedSimpArgs false
namespace Go.Proofs.Ytnmfbdkiehickaa
open Go.Av
attribute [local irreducible] Go.IntKind.wrap dTo okDusts okStays okDust okStay dS dAt expo masked expos fstSet okMasks masks
set_option maxRecDepth 20000
set_option maxHeartbeats 8000000

/-! What is told of exposures. -/
def dustR (ds : List GDusting) (a t : Int) : Int × Int := if okDusts ds = true then (if inR a 0 23 = true ∧ inR t 0 1439 = true then (dAt ds a t, 0) else (0, 2)) else (0, 1)
def expT (ds : List GDusting) (ss : List (List Int)) : Nat → Int
  | 0 => 0
  | k + 1 => expT ds ss k + expo ds 1 (ss.getD k [])
theorem expT_b {ds : List GDusting} {ss : List (List Int)} (h : okDusts ds = true) (hs : okStays ss = true) : ∀ k : Nat, k ≤ ss.length → 0 ≤ expT ds ss k ∧ expT ds ss k ≤ 17280000000 * k
  | 0, _ => by simp [expT]
  | k + 1, hk => by
    have ih := expT_b h hs k (by omega)
    have := expo_b (f := 1) h (by omega) ((okStays_b hs).2 _ (getD_mem (d := []) (show k < ss.length by omega)))
    simp only [expT]; omega
theorem expT_s {ds : List GDusting} {ss : List (List Int)} {i : Int} (h : 0 ≤ i) : expT ds ss (i + 1).toNat = expT ds ss i.toNat + expo ds 1 (ss.getD i.toNat []) := by
  rw [show (i + 1).toNat = i.toNat + 1 by omega]; rfl
def expR (ds : List GDusting) (ss : List (List Int)) : Int × Int := if okDusts ds = true then (if okStays ss = true then (expT ds ss ss.length, 0) else (0, 2)) else (0, 1)
theorem expR_1 {ds : List GDusting} {ss : List (List Int)} (h : okDusts ds = false) : expR ds ss = (0, 1) := by unfold expR; rw [if_neg (by rw [h]; decide)]
theorem expR_2 {ds : List GDusting} {ss : List (List Int)} (h : okDusts ds = true) (h2 : okStays ss = false) : expR ds ss = (0, 2) := by unfold expR; rw [if_pos h, if_neg (by rw [h2]; decide)]
theorem expR_0 {ds : List GDusting} {ss : List (List Int)} (h : okDusts ds = true) (h2 : okStays ss = true) : expR ds ss = (expT ds ss ss.length, 0) := by unfold expR; rw [if_pos h, if_pos h2]
attribute [local irreducible] expT
/-- the longest stay: so much is just within its limit -/
def stayP (ds : List GDusting) (a u limit : Int) (v : Int × Int) : Prop := v.2 ≠ 0 ∨ v.2 = 0 ∧ okDusts ds = true ∧ (0 ≤ a ∧ a ≤ 23) ∧ (0 ≤ u ∧ u ≤ 1439) ∧ 0 ≤ limit ∧ 0 ≤ v.1 ∧ u + v.1 ≤ 1440 ∧ dS ds a 1 u v.1.toNat ≤ limit ∧ (u + v.1 < 1440 → limit < dS ds a 1 u (v.1 + 1).toNat)
theorem dS1_s {ds : List GDusting} {a u i : Int} (h : u ≤ i) : dS ds a 1 u (i + 1 - u).toNat = dS ds a 1 u (i - u).toNat + dAt ds a i := by rw [dS_s h, Int.ediv_one]
theorem exp1 {ds : List GDusting} {a u n : Int} (h : okDusts ds = true) (ha : 0 ≤ a ∧ a ≤ 23) (hu : 0 ≤ u) (hn : 0 < n) (h2 : u + n ≤ 1440) : expR ds [[a, u, u + n]] = (dS ds a 1 u n.toNat, 0) := by
  have hs : okStays [[a, u, u + n]] = true := by
    unfold okStays okStay okDust inR
    simp; omega
  rw [expR_0 h hs]
  unfold expT expT
  simp [expo]
  rw [show u + n - u = n by omega]
end Go.Proofs.Ytnmfbdkiehickaa
