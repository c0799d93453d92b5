/- Contracts of functions of the program, and what they compute. Conditions: those that each theorem states. -/
import Derived.Test.YtdhkpmaanegjkaaProg
import Derived.Test.YtdhkpmaanegjkaaG2
import Derived.Test.YtdhkpmaanegjkaaK15
set_option linter.unusedVariables false
set_option linter.unusedSimpArgs false
namespace Go.Proofs.Ytdhkpmaanegjkaa
open Go.Av
attribute [local irreducible] Go.IntKind.wrap leastI rdZ rd rootI rawA
set_option maxRecDepth 20000
set_option maxHeartbeats 8000000

/-! Mines that are valid, and the resistances of their airways. -/
def inJ (j n : Int) : Bool := inR n 0 (j - 1)
def endsA (j : Int) (a : GAirway) : Bool := inJ j a.from_ && inJ j a.to
def okAw (j : Int) (a : GAirway) : Bool := okAirway a && endsA j a
def okMine (m : GMine) : Bool := inR m.junctions 1 16 && decide (m.airways.length ≤ 24) && okAll (okAw m.junctions) (fun a b => sLt a.id b.id) default m.airways
theorem okMine_p {m : GMine} (h : okMine m = true) : (1 ≤ m.junctions ∧ m.junctions ≤ 16) ∧ m.airways.length ≤ 24 ∧ ∀ j : Nat, (j : Int) < m.airways.length → okAirway (m.airways.getD j default) = true ∧ (0 ≤ (m.airways.getD j default).from_ ∧ (m.airways.getD j default).from_ < m.junctions) ∧ 0 ≤ (m.airways.getD j default).to ∧ (m.airways.getD j default).to < m.junctions := by
  simp only [okMine, Bool.and_eq_true, inR_iff, decide_eq_true_eq] at h
  refine ⟨h.1.1, h.1.2, fun j hj => ?_⟩
  have h2 := h.2
  unfold okAll at h2
  rw [Bool.and_eq_true] at h2
  have h3 := List.all_eq_true.1 h2.1 _ (getD_mem (d := default) (xs := m.airways) (j := j) (by omega))
  simp only [okAw, endsA, inJ, Bool.and_eq_true, inR_iff] at h3
  exact ⟨h3.1, by omega, by omega⟩
end Go.Proofs.Ytdhkpmaanegjkaa
