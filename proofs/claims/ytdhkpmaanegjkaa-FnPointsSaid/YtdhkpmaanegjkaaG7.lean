/- Contracts of functions of the program, and what they compute. Conditions: those that each theorem states. -/
import Derived.Test.YtdhkpmaanegjkaaProg
import Derived.Test.YtdhkpmaanegjkaaG6
set_option linter.unusedVariables false
set_option linter.unusedSimpArgs false
namespace Go.Proofs.Ytdhkpmaanegjkaa
open Go.Av
attribute [local irreducible] Go.IntKind.wrap leastI rdZ rd rootI condI sumT parI
set_option maxRecDepth 20000
set_option maxHeartbeats 4000000

def parP (r t k : Int) : Bool := decide (parI (List.replicate k.toNat r) ≤ t)
/-- how many airways side by side are enough -/
def airwaysFor (r t : Int) : Int × Int := if inR r 1 1000000 = false ∨ inR t 1 1000000 = false then (0, 2) else if leastI (parP r t) 1 24 ≤ 24 then (leastI (parP r t) 1 24, 0) else (0, 3)
theorem rep_b {r : Int} {n : Nat} (h : 1 ≤ r ∧ r ≤ 1000000) : ∀ j : Nat, (j : Int) < (List.replicate n r).length → 1 ≤ (List.replicate n r).getD j 0 ∧ (List.replicate n r).getD j 0 ≤ 1000000 := by
  intro j hj
  rw [List.length_replicate] at hj
  rw [List.getD_eq_getElem?_getD, List.getElem?_replicate, if_pos (by omega)]
  exact h
theorem rep_s (r k : Int) (h : 1 ≤ k) : List.map eI (List.replicate (k - 1).toNat r) ++ [eI r] = List.map eI (List.replicate k.toNat r) := by
  rw [show k.toNat = (k - 1).toNat + 1 by omega, List.replicate_succ']; simp
theorem tkR (r : Int) (n : Nat) : List.take n (List.drop 0 (List.map eI (List.replicate n r))) = List.map eI (List.replicate n r) := by
  rw [List.drop_zero]; exact List.take_of_length_le (by simp)
theorem repE (r k : Int) (h : 1 ≤ k) : List.replicate (k - 1).toNat r ++ [r] = List.replicate k.toNat r := by
  rw [show k.toNat = (k - 1).toNat + 1 by omega, List.replicate_succ']
theorem kN (k : Int) (h : 1 ≤ k) : (k - 1).toNat + 1 = k.toNat := by omega
end Go.Proofs.Ytdhkpmaanegjkaa
