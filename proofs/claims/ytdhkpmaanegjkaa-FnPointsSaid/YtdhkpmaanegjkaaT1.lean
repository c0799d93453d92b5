/- Contracts of functions of the program, and what they compute. Conditions: those that each theorem states. -/
import Derived.Test.YtdhkpmaanegjkaaProg
import Derived.Test.YtdhkpmaanegjkaaL1
import Derived.Test.YtdhkpmaanegjkaaK8
set_option linter.unusedVariables false
set_option linter.unusedSimpArgs false
namespace Go.Proofs.Ytdhkpmaanegjkaa
open Go.Av
attribute [local irreducible] Go.IntKind.wrap
set_option maxRecDepth 20000
set_option maxHeartbeats 8000000

/-! Texts: marks. -/
theorem cat_size {x y : ByteArray} : (x ++ y).size = x.size + y.size := ByteArray.size_append
theorem nums_size {xs : List Int} : (strOfNums xs).size = xs.length := strOfNums_size xs
theorem one_size {a : UInt8} : (ByteArray.mk #[a]).size = 1 := rfl
theorem EqLmode {ys : List GMode} {i : Nat} {v : GMode} {K : List (List PV) → Prop} (h : ∀ ys2 : List GMode, ys2.length = ys.length → K (ys2.map GMode.cells)) : EqL ((ys.map GMode.cells).set i v.cells) K := ⟨_, st GMode.cells, h _ (by simp)⟩
end Go.Proofs.Ytdhkpmaanegjkaa
