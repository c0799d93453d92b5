/- Contracts of functions of the program, and what they compute. Conditions: those that each theorem states. -/
import Derived.Test.YtdhkpmaanegjkaaProg
import Derived.Test.YtdhkpmaanegjkaaK19
set_option linter.unusedVariables false
set_option linter.unusedSimpArgs false
namespace Go.Proofs.Ytdhkpmaanegjkaa
open Go.Av
attribute [local irreducible] Go.IntKind.wrap alS alStep alR okSensor okSeries
set_option maxRecDepth 20000
set_option maxHeartbeats 4000000

/-- the first row with a property, or -1 -/
def idxG {α : Type} (p : α → Bool) (xs : List α) : Int := match xs.findIdx? p with
  | some i => (i : Int)
  | none => -1
theorem idxG_at {α : Type} {d : α} {p : α → Bool} {xs : List α} {i : Int} (h0 : 0 ≤ i) (h1 : i < xs.length) (h2 : p (xs.getD i.toNat d) = true) (h3 : ∀ j : Nat, (j : Int) < i → p (xs.getD j d) = false) : i = idxG p xs := by
  have hi : i.toNat < xs.length := by omega
  have e : xs.findIdx? p = some i.toNat := by
    rw [List.findIdx?_eq_some_iff_getElem]
    refine ⟨hi, ?_, fun j hj => ?_⟩
    · rwa [List.getD_eq_getElem?_getD, List.getElem?_eq_getElem hi] at h2
    · have h4 := h3 j (by omega)
      have hj' : j < xs.length := by omega
      rw [List.getD_eq_getElem?_getD, List.getElem?_eq_getElem hj'] at h4
      simpa using h4
  simp only [idxG, e]; omega
theorem idxG_none {α : Type} {d : α} {p : α → Bool} {xs : List α} {i : Int} (h1 : xs.length ≤ i) (h3 : ∀ j : Nat, (j : Int) < i → p (xs.getD j d) = false) : -1 = idxG p xs := by
  have e : xs.findIdx? p = none := by
    rw [List.findIdx?_eq_none_iff]
    intro x hx
    obtain ⟨j, hj, rfl⟩ := List.getElem_of_mem hx
    have h4 := h3 j (by omega)
    rwa [List.getD_eq_getElem?_getD, List.getElem?_eq_getElem hj] at h4
  simp only [idxG, e]
theorem idxG_any {α : Type} {p : α → Bool} {xs : List α} : decide (idxG p xs ≥ 0) = xs.any p := by
  unfold idxG
  cases h : xs.findIdx? p with
  | none =>
    rw [List.findIdx?_eq_none_iff] at h
    have : xs.any p = false := by rw [List.any_eq_false]; intro x hx; simp [h x hx]
    rw [this]; rfl
  | some i =>
    rw [List.findIdx?_eq_some_iff_getElem] at h
    obtain ⟨hi, hp, _⟩ := h
    have : xs.any p = true := List.any_eq_true.2 ⟨_, List.getElem_mem hi, hp⟩
    rw [this]; simp
end Go.Proofs.Ytdhkpmaanegjkaa
