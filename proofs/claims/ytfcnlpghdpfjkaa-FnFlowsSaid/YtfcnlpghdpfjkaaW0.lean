/- Contracts of functions of the program, and what they compute. Conditions: those that each theorem states. -/
import Derived.Test.YtfcnlpghdpfjkaaProg
import Derived.Test.YtfcnlpghdpfjkaaD4
set_option linter.unusedVariables false
set_option linter.unusedSimpArgs false
namespace Go.Proofs.Ytfcnlpghdpfjkaa
open Go.Av
attribute [local irreducible] Go.IntKind.wrap leastI rdZ rd rootI okMine
set_option maxRecDepth 20000
set_option maxHeartbeats 8000000

/-! Walks in a mine, plain (the same words as in P1 and P6, for texts that do not import these). -/
section
variable (m : GMine) (g : List Int) (rg : List Bool)
def awI (i : Nat) : GAirway := m.airways.getD i default
def okL (at_ : Int) (i : Nat) : Bool := decide ((awI m i).from_ = at_) || (decide ((awI m i).to = at_) && !rg.getD i false)
def nxL (at_ : Int) (i : Nat) : Int := if (awI m i).from_ = at_ then (awI m i).to else (awI m i).from_
def gnL (at_ : Int) (i : Nat) : Int := if (awI m i).to = at_ then -g.getD i 0 else g.getD i 0
def spL (at_ : Int) (i : Nat) : Int := if (awI m i).from_ = at_ then (i : Int) + 1 else -(i : Int) - 1
def okW : Int → List Nat → Prop
  | _, [] => True
  | a, i :: es => i < m.airways.length ∧ okL m rg a i = true ∧ okW (nxL m a i) es
def enW : Int → List Nat → Int
  | a, [] => a
  | a, i :: es => enW (nxL m a i) es
def spW : Int → List Nat → List Int
  | _, [] => []
  | a, i :: es => spL m a i :: spW (nxL m a i) es
def inV (v : Int) : Prop := 0 ≤ v ∧ v < m.junctions
end
section
variable {m : GMine} {g : List Int} {rg : List Bool}
theorem nxV (hm : okMine m = true) {a : Int} {i : Nat} (hi : i < m.airways.length) : inV m (nxL m a i) := by
  have q := (okMine_p hm).2.2 i (by omega)
  unfold nxL inV awI
  split
  · exact q.2.2
  · exact q.2.1
theorem pigW : ∀ (n : Nat) (l : List Int), l.Nodup → (∀ x ∈ l, 0 ≤ x ∧ x < (n : Int)) → l.length ≤ n
  | 0, l, _, h => by
    cases l with
    | nil => simp
    | cons x l => have := h x (by simp); omega
  | n + 1, l, hn, h => by
    have ih := pigW n (l.erase (n : Int)) (hn.erase _) (fun x hx => by
      rw [hn.mem_erase_iff] at hx
      have := h x hx.2
      have := hx.1
      omega)
    rw [List.length_erase] at ih
    split at ih <;> omega
theorem edV (hm : okMine m = true) {i : Nat} (hi : i < m.airways.length) : inV m (m.airways.getD i default).from_ ∧ inV m (m.airways.getD i default).to := ((okMine_p hm).2.2 i (by omega)).2
end
end Go.Proofs.Ytfcnlpghdpfjkaa

