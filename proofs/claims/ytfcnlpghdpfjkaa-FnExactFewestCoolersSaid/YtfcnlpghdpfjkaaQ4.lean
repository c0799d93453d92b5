/- Contracts of functions of the program, and what they compute. Conditions: those that each theorem states. -/
import Derived.Test.YtfcnlpghdpfjkaaProg
import Derived.Test.YtfcnlpghdpfjkaaQ3
import Derived.Test.YtfcnlpghdpfjkaaR0b
set_option linter.unusedVariables false
set_option linter.unusedSimpArgs false
namespace Go.Proofs.Ytfcnlpghdpfjkaa
open Go.Av
attribute [local irreducible] Go.IntKind.wrap leastI rdZ rd rootI rawA okMine gainsI stepB roundB potN potI binI askB
set_option maxRecDepth 20000
set_option maxHeartbeats 8000000

/-! Potentials, and pushes that are enough. -/
def potC (m : GMine) (ds ps : List Int) (rg : List Bool) : Int := if askB m ds ps rg = 0 then (if (potI m (gainsI ps ds) rg).isSome = true then 0 else 3) else askB m ds ps rg
inductive PotsR (m : GMine) (ds ps : List Int) (rg : List Bool) (rs : List AV) (ho : List OB) : Prop
  | mk (c : Int) (p : List Int) (h1 : rs = [.osl 0 0 p.length, In c]) (h2 : ho = [Rw .flat (eI 0) (p.map eI)]) (h : c = potC m ds ps rg) (h3 : c = 0 → potI m (gainsI ps ds) rg = some p)
theorem okB_of {m : GMine} {ds ps : List Int} {rg : List Bool} (h : askB m ds ps rg = 0) : okB m (gainsI ps ds) rg := by
  have q := askB_l h
  exact ⟨q.1, by rw [gainsI_len]; exact q.2.2.2.1, q.2.2.2.2.1, bdL_mono (gainsI_bd q.2.2.2.2.2.1 q.2.2.2.2.2.2) (by omega)⟩
def addG (g : List Int) (xs : List Int) (d : Int) (i : Int) : List Int := foldT (fun g x => g.set x.toNat (g.getD x.toNat 0 + d)) g xs i
theorem addG_p {g xs : List Int} {d : Int} (hg : bdL 1020000 g) (hd : 0 ≤ d ∧ d ≤ 20000) : ∀ i : Nat, i ≤ xs.length → (addG g xs d i).length = g.length ∧ bdL (1020000 + 20000 * i) (addG g xs d i)
  | 0, _ => by unfold addG; rw [show ((0 : Nat) : Int) = 0 from rfl, foldT_0]; exact ⟨rfl, bdL_mono hg (by omega)⟩
  | i + 1, hi => by
    obtain ⟨h1, h2⟩ := addG_p (xs := xs) hg hd i (by omega)
    have e : addG g xs d ((i + 1 : Nat) : Int) = (addG g xs d i).set (xs.getD i 0).toNat ((addG g xs d i).getD (xs.getD i 0).toNat 0 + d) := by
      unfold addG
      rw [show ((i + 1 : Nat) : Int) = (i : Int) + 1 by omega, foldT_s (xs := xs) (i := (i : Int)) (by omega) (by omega) 0]; rfl
    rw [e]
    refine ⟨by rw [List.length_set, h1], bdL_set (bdL_mono h2 (by omega)) ?_⟩
    have := h2 (xs.getD i 0).toNat
    omega
def fitsB (m : GMine) (g : List Int) (rg : List Bool) (xs : List Int) (d : Int) : Bool := (potI m (addG g xs d xs.length) rg).isSome
theorem addG_s {g xs : List Int} {d i : Int} (h0 : 0 ≤ i) (h : i < xs.length) : addG g xs d (i + 1) = (addG g xs d i).set (xs.getD i.toNat 0).toNat ((addG g xs d i).getD (xs.getD i.toNat 0).toNat 0 + d) := by
  unfold addG; rw [foldT_s h0 h 0]
theorem addG_b {g xs q : List Int} {d i : Int} (hg : bdL 1020000 g) (hd : 0 ≤ d ∧ d ≤ 20000) (hl : xs.length ≤ 24) (h0 : 0 ≤ i) (h1 : i ≤ xs.length) (h2 : q = addG g xs d i) : ∀ j : Nat, -1500000 ≤ q.getD j 0 ∧ q.getD j 0 ≤ 1500000 := by
  intro j
  have a1 := (addG_p (xs := xs) hg hd i.toNat (by omega)).2 j
  rw [show ((i.toNat : Nat) : Int) = i by omega, ← h2] at a1
  omega
attribute [local irreducible] addG
end Go.Proofs.Ytfcnlpghdpfjkaa
