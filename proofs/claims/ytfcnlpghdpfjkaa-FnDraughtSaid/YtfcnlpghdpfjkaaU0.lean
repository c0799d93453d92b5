/- Contracts of functions of the program, and what they compute. Conditions: those that each theorem states. -/
import Derived.Test.YtfcnlpghdpfjkaaProg
import Derived.Test.YtfcnlpghdpfjkaaJ4
set_option linter.unusedVariables false
set_option linter.unusedSimpArgs false
namespace Go.Proofs.Ytfcnlpghdpfjkaa
open Go.Av
attribute [local irreducible] Go.IntKind.wrap leastI rdZ rd rootI rawA okMine treeC mshC
set_option maxRecDepth 20000
set_option maxHeartbeats 16000000

/-! What is asked rightly, for draughts. -/
--@fn (impl.Mine).hasList
theorem hlU (m : GMine) (xs : List Int) (a b : Int) (h : lsO m xs a b = true) : FnSem Try.prog 102 [.p .any (.agg m.cells), Lx (LI xs), In a, In b] [] (Is [Bo true] []) := by
  have := hasL m xs a b
  rwa [h] at this
--@fn impl.within
theorem wiU (x a b : Int) (h : a ≤ x ∧ x ≤ b) : FnSem Try.prog 63 [In x, In a, In b] [] (Is [Bo true] []) := by
  have := c_impl_within x a b
  rwa [inR_iff.2 h] at this
end Go.Proofs.Ytfcnlpghdpfjkaa
