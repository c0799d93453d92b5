/- Contracts of functions of the program, and what they compute. Conditions: those that each theorem states. -/
import Derived.Test.YtdhkpmaanegjkaaProg
import Derived.Test.YtdhkpmaanegjkaaG2
import Derived.Test.YtdhkpmaanegjkaaF1
import Derived.Test.YtdhkpmaanegjkaaR2
set_option linter.unusedVariables false
set_option linter.unusedSimpArgs false
namespace Go.Proofs.Ytdhkpmaanegjkaa
open Go.Av
attribute [local irreducible] Go.IntKind.wrap leastI rdZ rd rootI
set_option maxRecDepth 20000
set_option maxHeartbeats 8000000

/-! Draws of airways and of mines. -/
theorem airC (a : ByteArray) (b c d e f g : Int) : [AV.p .flat (.agg [.c (.string a), .c (.int .i64 b), .c (.int .i64 c), .c (.int .i64 d), .c (.int .i64 e), .c (.int .i64 f), .c (.int .i64 g)])] = [.p .flat (.agg (GAirway.cells ⟨a, b, c, d, e, f, g⟩))] := rfl
end Go.Proofs.Ytdhkpmaanegjkaa
