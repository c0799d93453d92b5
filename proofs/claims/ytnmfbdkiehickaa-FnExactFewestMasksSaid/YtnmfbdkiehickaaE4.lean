/- Contracts of functions of the program, and what they compute. Conditions: those that each theorem states. -/
import Derived.Test.YtnmfbdkiehickaaProg
import Derived.Test.YtnmfbdkiehickaaE1
import Derived.Test.YtnmfbdkiehickaaF1
import Derived.Test.YtnmfbdkiehickaaL2
set_option linter.unusedVariables false
set_option linter.unusedSimpArgs false
namespace Go.Proofs.Ytnmfbdkiehickaa
open Go.Av
attribute [local irreducible] Go.IntKind.wrap dTo okDusts okStays okDust okStay dS dAt expo
set_option maxRecDepth 20000
set_option maxHeartbeats 8000000

/-! Draws of tasks and stays; what is told of exposures. -/
abbrev RwD (ds : List GDusting) : OB := Rw .flat (GDusting.cells default) (ds.map GDusting.cells)
theorem n1213 {n : Int} (h : n ∈ [(12 : Int), 13]) : ∃ k : Nat, n = k ∧ 12 ≤ k ∧ k ≤ 13 := by
  simp only [List.mem_cons, List.not_mem_nil, or_false] at h
  rcases h with rfl | rfl
  · exact ⟨12, rfl, by omega, by omega⟩
  · exact ⟨13, rfl, by omega, by omega⟩
end Go.Proofs.Ytnmfbdkiehickaa
