/- Contracts of functions of the program, and what they compute. Conditions: those that each theorem states. -/
import Derived.Test.YtdhkpmaanegjkaaGreatDoorProg
import Derived.Test.YtdhkpmaanegjkaaGreatDoorW1
set_option linter.unusedVariables false
set_option linter.unusedSimpArgs false
namespace Go.Proofs.YtdhkpmaanegjkaaGreatDoor
open Go.Av
attribute [local irreducible] Go.IntKind.wrap
set_option maxRecDepth 20000
set_option maxHeartbeats 8000000
theorem stI {xs : List Int} {k : Nat} {v w : Int} {c : Nat} (hc : c = 1) : (xs.map eI).set k (List.take 0 (eI w) ++ pvCells (.c (.int .i64 v)) ++ List.drop (0 + c) (eI w)) = (xs.set k v).map eI := by
  subst hc; exact st eI
end Go.Proofs.YtdhkpmaanegjkaaGreatDoor
