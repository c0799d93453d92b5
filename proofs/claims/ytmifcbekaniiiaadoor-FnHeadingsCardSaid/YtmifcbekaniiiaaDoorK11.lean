/- Contracts of functions of the program, and what they compute. Conditions: those that each theorem states. -/
import Derived.Test.YtmifcbekaniiiaaDoorProg
import Derived.Test.YtmifcbekaniiiaaDoorK9
set_option linter.unusedVariables false
set_option linter.unusedSimpArgs false
namespace Go.Proofs.YtmifcbekaniiiaaDoor
open Go.Av
attribute [local irreducible] Go.IntKind.wrap
set_option maxRecDepth 20000
set_option maxHeartbeats 2000000

def peakN (x : GHeading) (flow stop start : Int) : Nat → Int × Int
  | 0 => (0, 0)
  | n + 1 => (stepG x (peakN x flow stop start n).1 (if stop ≤ (n : Int) ∧ (n : Int) < start then 0 else flow), max (peakN x flow stop start n).2 (stepG x (peakN x flow stop start n).1 (if stop ≤ (n : Int) ∧ (n : Int) < start then 0 else flow)))
theorem peakN_s {x : GHeading} {flow stop start i : Int} (h0 : 0 ≤ i) : peakN x flow stop start (i + 1).toNat = (stepG x (peakN x flow stop start i.toNat).1 (if stop ≤ i ∧ i < start then 0 else flow), max (peakN x flow stop start i.toNat).2 (stepG x (peakN x flow stop start i.toNat).1 (if stop ≤ i ∧ i < start then 0 else flow))) := by
  obtain ⟨n, rfl⟩ := Int.eq_ofNat_of_zero_le h0
  rfl
def peakShare (x : GHeading) (flow stop start till : Int) : Int × Int := if askG x 0 flow 0 = 0 then (if inR stop 0 36000 && inR start stop 36000 && inR till start 36000 then ((peakN x flow stop start till.toNat).2.tdiv x.volume, 0) else (0, 2)) else (0, askG x 0 flow 0)
theorem peak_1 {x : GHeading} {flow stop start i g m q : Int} (h0 : 0 ≤ i) (h2 : (g, m) = peakN x flow stop start i.toNat) (hq : q = if stop ≤ i ∧ i < start then 0 else flow) : (stepG x g q, max m (stepG x g q)) = peakN x flow stop start (i + 1).toNat := by
  rw [peakN_s h0, ← h2, hq]
theorem peak_0 {x : GHeading} {flow stop start till : Int} (h : ¬askG x 0 flow 0 = 0) : peakShare x flow stop start till = (0, askG x 0 flow 0) := by unfold peakShare; rw [if_neg h]
theorem peak_2 {x : GHeading} {flow stop start till : Int} (h : askG x 0 flow 0 = 0) (h1 : (inR stop 0 36000 = false ∨ inR start stop 36000 = false) ∨ inR till start 36000 = false) : peakShare x flow stop start till = (0, 2) := by
  unfold peakShare; rw [if_pos h, if_neg (by grind)]
theorem peak_3 {x : GHeading} {flow stop start till : Int} (h : askG x 0 flow 0 = 0) (h1 : ¬(inR stop 0 36000 = false ∨ inR start stop 36000 = false) ∧ inR till start 36000 = true) : peakShare x flow stop start till = ((peakN x flow stop start till.toNat).2.tdiv x.volume, 0) := by
  unfold peakShare; rw [if_pos h, if_pos (by grind)]
theorem peak_r {stop start till : Int} (h1 : ¬(inR stop 0 36000 = false ∨ inR start stop 36000 = false) ∧ inR till start 36000 = true) : 0 ≤ stop ∧ stop ≤ start ∧ start ≤ till ∧ till ≤ 36000 := by
  have a : inR stop 0 36000 = true := by grind
  have b : inR start stop 36000 = true := by grind
  have c := h1.2
  rw [inR_iff] at a b c; omega
end Go.Proofs.YtmifcbekaniiiaaDoor
