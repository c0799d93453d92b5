/- Contracts of functions of the program, and what they compute. Conditions: those that each theorem states. -/
import Derived.Test.YtdhkpmaanegjkaaProg
import Derived.Test.YtdhkpmaanegjkaaW0
import Derived.Test.YtdhkpmaanegjkaaK20
set_option linter.unusedVariables false
set_option linter.unusedSimpArgs false
namespace Go.Proofs.Ytdhkpmaanegjkaa
open Go.Av
attribute [local irreducible] Go.IntKind.wrap leastI rdZ rd rootI rawA okMine okL
set_option maxRecDepth 20000
set_option maxHeartbeats 40000000

/-! The other end of an airway; steps; what a list has. -/
def otherA (a : GAirway) (j : Int) : Int × Bool := if j = a.from_ then (a.to, true) else if j = a.to then (a.from_, true) else (0, false)
theorem tkT {ys s : List Int} {n : Nat} (h : ys.take n = s) : ((ys.map eI).drop 0).take n = s.map eI := by rw [← h]; simp
theorem snT {ys s : List Int} {n : Nat} {v : Int} (h : ys.take n = s) : ((ys.map eI).drop 0).take n ++ [eI v] = (s ++ [v]).map eI := by rw [← h]; simp
end Go.Proofs.Ytdhkpmaanegjkaa
