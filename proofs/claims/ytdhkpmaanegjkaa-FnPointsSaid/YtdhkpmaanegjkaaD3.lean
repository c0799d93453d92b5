/- Contracts of functions of the program, and what they compute. Conditions: those that each theorem states. -/
import Derived.Test.YtdhkpmaanegjkaaProg
import Derived.Test.YtdhkpmaanegjkaaD2
set_option linter.unusedVariables false
set_option linter.unusedSimpArgs false
namespace Go.Proofs.Ytdhkpmaanegjkaa
open Go.Av
attribute [local irreducible] Go.IntKind.wrap leastI rdZ rd rootI
set_option maxRecDepth 20000
set_option maxHeartbeats 8000000

/-! Draws of mines that are valid, mostly. -/
theorem ccat_size {x y : ByteArray} : (x ++ y).size = x.size + y.size := ByteArray.size_append
theorem cnums_size {xs : List Int} : (strOfNums xs).size = xs.length := strOfNums_size xs
theorem cone_size {a : UInt8} : (ByteArray.mk #[a]).size = 1 := rfl
theorem manyE {n : Int} (h : n ∈ [(24 : Int), 25]) : 24 ≤ n ∧ n ≤ 25 := by
  simp only [List.mem_cons, List.not_mem_nil, or_false] at h
  omega
end Go.Proofs.Ytdhkpmaanegjkaa
