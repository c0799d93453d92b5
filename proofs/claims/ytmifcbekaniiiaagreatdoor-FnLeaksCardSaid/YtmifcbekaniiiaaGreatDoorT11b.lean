/- Contracts of functions of the program, and what they compute. Conditions: those that each theorem states. -/
import Derived.Test.YtmifcbekaniiiaaGreatDoorProg
import Derived.Test.YtmifcbekaniiiaaGreatDoorT11
set_option linter.unusedVariables false
set_option linter.unusedSimpArgs false
namespace Go.Proofs.YtmifcbekaniiiaaGreatDoor
open Go.Av
/-- a step of a literal: its cells are told first, each one at once -/
theorem buildC_t {P : Program} {st : St} {G : Bool} {place : Nat → Option (Nat × Nat)} {i : Nat} {x : Operand} {r : List (Nat × Operand)} {cells : List AV} {K : List AV → Prop} (cells' : List AV) (e : cells = cells') (h : withV st G x fun v => cellsW v fun cs => (match place i with
    | some (off, sz) => cs.length = sz ∧ Nat.ble (off + cs.length) cells'.length = true ∧ buildC P st G place r (cells'.take off ++ cs ++ cells'.drop (off + cs.length)) K
    | none => False)) : buildC P st G place ((i, x) :: r) cells K := by
  subst e; exact h
end Go.Proofs.YtmifcbekaniiiaaGreatDoor
