/- Contracts of functions of the program, and what they compute. Conditions: those that each theorem states. -/
import Derived.Test.YtmifcbekaniiiaaDoorProg
import Derived.Test.YtmifcbekaniiiaaDoorK12
import Derived.Test.YtmifcbekaniiiaaDoorR0
set_option linter.unusedVariables false
set_option linter.unusedSimpArgs false
namespace Go.Proofs.YtmifcbekaniiiaaDoor
open Go.Av
attribute [local irreducible] Go.IntKind.wrap clearI gasN mostG stepG leastI
set_option maxRecDepth 20000
set_option maxHeartbeats 2000000

theorem step_mono {x : GHeading} {gas a b : Int} (hv : okHeading x = true) (hg : 0 ≤ gas) (h0 : 0 ≤ a) (h1 : a ≤ b) : stepG x gas b ≤ stepG x gas a := by
  have hb := okHeading_b hv
  have h2 : gas * a ≤ gas * b := Int.mul_le_mul_of_nonneg_left h1 hg
  have h3 : 0 ≤ gas * a := Int.mul_nonneg hg h0
  have h4 : (gas * a).tdiv (100 * x.volume) ≤ (gas * b).tdiv (100 * x.volume) := by
    rw [Int.tdiv_eq_ediv_of_nonneg h3, Int.tdiv_eq_ediv_of_nonneg (by omega)]
    exact Int.ediv_le_ediv (by omega) h2
  unfold stepG; omega
def holdFlow (x : GHeading) (share : Int) : Int × Int := if askG x 0 0 share = 0 then (if leastI (fun q => decide (stepG x (mostG x share) q ≤ mostG x share)) 0 100000 ≤ 100000 then (leastI (fun q => decide (stepG x (mostG x share) q ≤ mostG x share)) 0 100000, 0) else (0, 3)) else (0, askG x 0 0 share)
theorem ask_00 {x : GHeading} {share : Int} : askG x 0 0 share = if okHeading x = true then (if inR share 0 1000000 = true then 0 else 2) else 1 := by
  unfold askG
  by_cases h : okHeading x = true
  · have hb := okHeading_b h
    have h1 : inR 0 0 (x.volume * 1000000) = true := inR_iff.2 (by omega)
    have h2 : inR 0 0 100000 = true := by decide
    rw [h1, h2]; simp
  · rw [if_neg h, if_neg h]
end Go.Proofs.YtmifcbekaniiiaaDoor
