/- Contracts of functions of the program, and what they compute. Conditions: those that each theorem states. -/
import Derived.Test.YtdhkpmaanegjkaaGreatDoorProg
import Derived.Test.YtdhkpmaanegjkaaGreatDoorM1
set_option linter.unusedVariables false
set_option linter.unusedSimpArgs false
namespace Go.Proofs.YtdhkpmaanegjkaaGreatDoor
open Go.Av
attribute [local irreducible] Go.IntKind.wrap
set_option maxRecDepth 20000
set_option maxHeartbeats 2000000
theorem wrapU {n : Int} (h1 : 0 ≤ n) (h2 : n ≤ 18446744073709551615) : IntKind.u64.wrap n = n := (wrap_eq_iff .u64 n).2 ⟨h1, h2⟩
theorem shr1 {k : IntKind} {x : Int} : x.fdiv (2 ^ (min (Int.toNat 1) k.bits)) = x / 2 := by
  have : min (Int.toNat 1) k.bits = 1 := by cases k <;> rfl
  rw [this, Int.fdiv_eq_ediv_of_nonneg _ (by omega)]; rfl
--@fn sort.Search
--@fn impl.firstIn$1
--@fn impl.firstIn
--@fn impl.firstIn$1
--@fn impl.firstIn
--@fn impl.firstIn$1
--@fn impl.firstIn
--@fn impl.firstIn$1
--@fn impl.firstIn
--@fn impl.firstIn$1
--@fn impl.firstIn
end Go.Proofs.YtdhkpmaanegjkaaGreatDoor
