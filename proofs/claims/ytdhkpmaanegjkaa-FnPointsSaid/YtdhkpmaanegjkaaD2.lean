/- Contracts of functions of the program, and what they compute. Conditions: those that each theorem states. -/
import Derived.Test.YtdhkpmaanegjkaaProg
import Derived.Test.YtdhkpmaanegjkaaD1
set_option linter.unusedVariables false
set_option linter.unusedSimpArgs false
namespace Go.Proofs.Ytdhkpmaanegjkaa
open Go.Av
attribute [local irreducible] Go.IntKind.wrap leastI rdZ rd rootI
set_option maxRecDepth 20000
set_option maxHeartbeats 8000000

/-! Draws of mines. -/
abbrev RwA (xs : List GAirway) : OB := .row false .flat (GAirway.cells default) (xs.map GAirway.cells)
/-- a mine that was drawn: its junctions, its airways in a row of its own -/
abbrev mineR (v : Int × Nat × List GAirway) : List AV := [.aagg [In v.1, .osl 1 0 v.2.1]]
end Go.Proofs.Ytdhkpmaanegjkaa
