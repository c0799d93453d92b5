/- Contracts of functions of the program, and what they compute. Conditions: those that each theorem states. -/
import Derived.Test.YtdhkpmaanegjkaaProg
import Derived.Test.YtdhkpmaanegjkaaG5
set_option linter.unusedVariables false
set_option linter.unusedSimpArgs false
namespace Go.Proofs.Ytdhkpmaanegjkaa
open Go.Av
attribute [local irreducible] Go.IntKind.wrap leastI rdZ rd rootI condI sumT
set_option maxRecDepth 20000
set_option maxHeartbeats 4000000

/-- the sum of conductances; the resistance of airways side by side -/
def condS (xs : List Int) (i : Int) : Int := (sumT (fun x => (condI x).toNat) xs i : Int)
def parI (xs : List Int) : Int := max (rd 10000000000000000 (condS xs xs.length * condS xs xs.length)) 1
theorem condS_s {xs : List Int} {i : Int} (h0 : 0 ≤ i) (h : i < xs.length) (hx : ∀ j : Nat, (j : Int) < xs.length → 1 ≤ xs.getD j 0 ∧ xs.getD j 0 ≤ 1000000) : condS xs (i + 1) = condS xs i + condI (xs.getD i.toNat 0) := by
  have := condI_b (hx i.toNat (by omega))
  unfold condS
  rw [sumT_s h0 h 0]
  omega
end Go.Proofs.Ytdhkpmaanegjkaa
