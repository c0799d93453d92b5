/- Contracts of functions of the program, and what they compute. Conditions: those that each theorem states. -/
import Derived.Test.YtfeebelnpibppaaProg
import Derived.Test.YtfeebelnpibppaaQ7
import Derived.Test.YtfeebelnpibppaaE2p
set_option linter.unusedVariables false
set_option linter.unusedSimpArgs false
namespace Go.Proofs.Ytfeebelnpibppaa
open Go.Av
attribute [local irreducible] Go.IntKind.wrap leastI rdZ rd rootI rawA gainsI stepB roundB potN potI askB okAw
set_option maxRecDepth 20000
set_option maxHeartbeats 8000000

/-! The reference's search: plain facts, for any list. -/
theorem extL_any {L : List Int} {m : Nat} {right : List Int → Bool} : ∀ (K i : Nat) (b : Int) (s : List Int), 0 ≤ b → K = L.length - i → extL (ext L right m) L K i b s = extL (ext L right m) L (L.length - m - i) i b s
  | 0, i, b, s, _, hK => by rw [show L.length - m - i = 0 by omega]
  | K + 1, i, b, s, hb, hK => by
    have hp := ext_p (L := L) (right := right) m (i + 1) b (s ++ [L.getD i 0]) hb
    rw [extL_s (by omega)]
    by_cases hc : L.length - m - i = 0
    · rw [hc, extL_0 (k := 0) rfl]
      have e : ext L right m (i + 1) b (s ++ [L.getD i 0]) = (false, b, s ++ [L.getD i 0]) := by
        rw [ext_s (by omega), extL_0 (by omega)]
      rw [e, if_neg (by simp), if_neg (show ¬(false, b, s ++ [L.getD i 0]).2.1 < 0 by dsimp only; omega)]
      dsimp only
      rw [Nat.add_sub_cancel, extL_any K (i + 1) b s hb (by omega), extL_0 (by omega)]
    · rw [extL_s (k := L.length - m - i) (by omega)]
      by_cases h1 : (ext L right m (i + 1) b (s ++ [L.getD i 0])).1 = true
      · rw [if_pos h1, if_pos h1]
      · rw [if_neg h1, if_neg h1]
        by_cases h2 : (ext L right m (i + 1) b (s ++ [L.getD i 0])).2.1 < 0
        · rw [if_pos h2, if_pos h2]
        · rw [if_neg h2, if_neg h2, Nat.add_sub_cancel, extL_any K (i + 1) _ s (by omega) (by omega), show L.length - m - i - 1 = L.length - m - (i + 1) by omega]
/-- pushes with more in some airways: their gains -/
theorem gains_set {ps ds : List Int} {k : Nat} {d : Int} (hk : k < ps.length) : gainsI (ps.set k (ps.getD k 0 + d)) ds = (gainsI ps ds).set k ((gainsI ps ds).getD k 0 + d) := by
  refine ext_getD 0 (by rw [List.length_set, gainsI_len, gainsI_len, List.length_set]) fun j hj => ?_
  rw [gainsI_len, List.length_set] at hj
  rw [gainsI_get (by rw [List.length_set]; omega), getD_set, getD_set, gainsI_len]
  by_cases e : k = j
  · subst e; rw [if_pos ⟨rfl, hk⟩, if_pos ⟨rfl, hk⟩, gainsI_get hk]; omega
  · rw [if_neg (by omega), if_neg (by omega), gainsI_get (by omega)]
theorem gains_add {ps ds xs : List Int} {d : Int} (hx : ∀ j : Nat, (j : Int) < xs.length → 0 ≤ xs.getD j 0 ∧ xs.getD j 0 < ps.length) : ∀ i : Nat, i ≤ xs.length → (addG ps xs d i).length = ps.length ∧ gainsI (addG ps xs d i) ds = addG (gainsI ps ds) xs d i
  | 0, _ => by unfold addG; rw [show ((0 : Nat) : Int) = 0 from rfl, foldT_0, foldT_0]; exact ⟨rfl, rfl⟩
  | i + 1, hi => by
    obtain ⟨h1, h2⟩ := gains_add hx i (by omega)
    have h3 := hx i (by omega)
    rw [show ((i + 1 : Nat) : Int) = (i : Int) + 1 by omega, addG_s (by omega) (by omega), addG_s (by omega) (by omega), show Int.toNat (i : Int) = i by omega]
    refine ⟨by rw [List.length_set, h1], ?_⟩
    rw [gains_set (by omega), h2]
end Go.Proofs.Ytfeebelnpibppaa
