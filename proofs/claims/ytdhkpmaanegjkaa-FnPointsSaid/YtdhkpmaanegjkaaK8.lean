/- Contracts of functions of the program, and what they compute. Conditions: those that each theorem states. -/
import Derived.Test.YtdhkpmaanegjkaaProg
import Derived.Test.YtdhkpmaanegjkaaK1
set_option linter.unusedVariables false
set_option linter.unusedSimpArgs false
namespace Go.Proofs.Ytdhkpmaanegjkaa
open Go.Av
attribute [local irreducible] Go.IntKind.wrap
set_option maxRecDepth 20000
set_option maxHeartbeats 2000000

def okMode (x : GMode) : Bool := isName x.name && inR x.flow 0 100000 && inR x.power 0 10000000
/-- modes: each one valid, the names rising, no more than eight -/
def okModes (xs : List GMode) : Bool := okAll okMode (fun a b => sLt a.name b.name) default xs && decide (xs.length ≤ 8)
end Go.Proofs.Ytdhkpmaanegjkaa
