/- Contracts of functions of the program, and what they compute. Conditions: those that each theorem states. -/
import Derived.Test.YtfcnlpghdpfjkaaProg
import Derived.Test.YtfcnlpghdpfjkaaD4
set_option linter.unusedVariables false
set_option linter.unusedSimpArgs false
namespace Go.Proofs.Ytfcnlpghdpfjkaa
open Go.Av
attribute [local irreducible] Go.IntKind.wrap leastI rdZ rd rootI rawA
set_option maxRecDepth 20000
set_option maxHeartbeats 8000000

/-! Potentials that fit: plain. -/
/-- one airway: what it asks of its ends -/
def stepB (m : GMine) (g : List Int) (rg : List Bool) (i : Nat) (s : List Int × Bool) : List Int × Bool :=
  let s1 := if s.1.getD (m.airways.getD i default).from_.toNat 0 + g.getD i 0 < s.1.getD (m.airways.getD i default).to.toNat 0 then (s.1.set (m.airways.getD i default).to.toNat (s.1.getD (m.airways.getD i default).from_.toNat 0 + g.getD i 0), true) else s
  if rg.getD i false = false ∧ s1.1.getD (m.airways.getD i default).to.toNat 0 - g.getD i 0 < s1.1.getD (m.airways.getD i default).from_.toNat 0 then (s1.1.set (m.airways.getD i default).from_.toNat (s1.1.getD (m.airways.getD i default).to.toNat 0 - g.getD i 0), true) else s1
def roundB (m : GMine) (g : List Int) (rg : List Bool) : Nat → List Int → List Int × Bool
  | 0, p => (p, false)
  | i + 1, p => stepB m g rg i (roundB m g rg i p)
def potN (m : GMine) (g : List Int) (rg : List Bool) : Nat → List Int → Option (List Int)
  | 0, _ => none
  | k + 1, p => if (roundB m g rg m.airways.length p).2 = false then some (roundB m g rg m.airways.length p).1 else potN m g rg k (roundB m g rg m.airways.length p).1
def potI (m : GMine) (g : List Int) (rg : List Bool) : Option (List Int) := potN m g rg (m.junctions + 1).toNat (List.replicate m.junctions.toNat 0)
/-- bounded from both sides -/
def bdL (B : Int) (xs : List Int) : Prop := ∀ j : Nat, -B ≤ xs.getD j 0 ∧ xs.getD j 0 ≤ B
theorem bdL_set {B : Int} {xs : List Int} {k : Nat} {v : Int} (h : bdL B xs) (hv : -B ≤ v ∧ v ≤ B) : bdL B (xs.set k v) := fun j => by
  rw [getD_set]; split
  · exact hv
  · exact h j
theorem bdL_mono {B C : Int} {xs : List Int} (h : bdL B xs) (hc : B ≤ C) : bdL C xs := fun j => by have := h j; omega
theorem bdL_rep {n : Nat} {B : Int} (h : 0 ≤ B) : bdL B (List.replicate n 0) := fun j => by
  rw [List.getD_eq_getElem?_getD, List.getElem?_replicate]; split <;> simp <;> omega
theorem stepB_len {m : GMine} {g : List Int} {rg : List Bool} {i : Nat} {s : List Int × Bool} : (stepB m g rg i s).1.length = s.1.length := by
  unfold stepB; dsimp only; split <;> split <;> simp
theorem roundB_len {m : GMine} {g : List Int} {rg : List Bool} {p : List Int} : ∀ i : Nat, (roundB m g rg i p).1.length = p.length
  | 0 => rfl
  | i + 1 => by rw [roundB, stepB_len, roundB_len i]
theorem stepB_bd {m : GMine} {g : List Int} {rg : List Bool} {i : Nat} {s : List Int × Bool} {B G : Int} (hG : bdL G g) (h : bdL B s.1) (hB : 0 ≤ B) : bdL (B + 2 * G) (stepB m g rg i s).1 := by
  have hg := hG i
  unfold stepB
  dsimp only
  have h1 := h (m.airways.getD i default).from_.toNat
  have q : bdL (B + G) (if s.1.getD (m.airways.getD i default).from_.toNat 0 + g.getD i 0 < s.1.getD (m.airways.getD i default).to.toNat 0 then (s.1.set (m.airways.getD i default).to.toNat (s.1.getD (m.airways.getD i default).from_.toNat 0 + g.getD i 0), true) else s).1 := by
    split
    · exact bdL_set (bdL_mono h (by omega)) (by omega)
    · exact bdL_mono h (by omega)
  have q1 := q (m.airways.getD i default).to.toNat
  generalize (if s.1.getD (m.airways.getD i default).from_.toNat 0 + g.getD i 0 < s.1.getD (m.airways.getD i default).to.toNat 0 then (s.1.set (m.airways.getD i default).to.toNat (s.1.getD (m.airways.getD i default).from_.toNat 0 + g.getD i 0), true) else s) = s1 at *
  split
  · exact bdL_set (bdL_mono q (by omega)) (by omega)
  · exact bdL_mono q (by omega)
theorem roundB_bd {m : GMine} {g : List Int} {rg : List Bool} {p : List Int} {B G : Int} (hG : bdL G g) (h : bdL B p) (hB : 0 ≤ B) (hG0 : 0 ≤ G) : ∀ i : Nat, bdL (B + 2 * G * i) (roundB m g rg i p).1
  | 0 => by rw [roundB]; exact bdL_mono h (by omega)
  | i + 1 => by
    have h1 := stepB_bd (m := m) (rg := rg) (i := i) hG (roundB_bd (m := m) (rg := rg) hG h hB hG0 i) (by have := Int.mul_nonneg (show 0 ≤ 2 * G by omega) (Int.natCast_nonneg i); omega)
    rw [roundB]
    refine bdL_mono h1 ?_
    rw [show ((i + 1 : Nat) : Int) = (i : Int) + 1 by omega, Int.mul_add]; omega
/-- the gains: push less drop -/
def gainsI (ps ds : List Int) : List Int := (List.range ps.length).map fun i => ps.getD i 0 - ds.getD i 0
/-- is it asked rightly? -/
def askB (m : GMine) (ds ps : List Int) (rg : List Bool) : Int :=
  if okMine m = false then 1 else if (decide (ds.length = m.airways.length) && ds.all (inR · (-1000000) 1000000)) && (decide (ps.length = m.airways.length) && ps.all (inR · (-20000) 20000)) && decide (rg.length = m.airways.length) then 0 else 2
theorem askB_p {m : GMine} {ds ps : List Int} {rg : List Bool} (h : askB m ds ps rg = 0) : okMine m = true ∧ ds.length = m.airways.length ∧ ps.length = m.airways.length ∧ rg.length = m.airways.length ∧ bdL 1000000 ds ∧ bdL 20000 ps := by
  unfold askB at h
  by_cases h1 : okMine m = false
  · rw [if_pos h1] at h; cases h
  · rw [if_neg h1] at h
    split at h
    · rename_i h2
      simp only [Bool.and_eq_true, decide_eq_true_eq] at h2
      obtain ⟨⟨⟨a, b⟩, c, d⟩, e⟩ := h2
      refine ⟨by simpa using h1, a, c, e, fun j => ?_, fun j => ?_⟩
      · by_cases hj : j < ds.length
        · exact inR_iff.1 ((all_iff (d := 0)).1 b j (by omega))
        · rw [List.getD_eq_getElem?_getD, List.getElem?_eq_none (by omega)]; simp
      · by_cases hj : j < ps.length
        · exact inR_iff.1 ((all_iff (d := 0)).1 d j (by omega))
        · rw [List.getD_eq_getElem?_getD, List.getElem?_eq_none (by omega)]; simp
    · cases h
theorem gainsI_len {ps ds : List Int} : (gainsI ps ds).length = ps.length := by simp [gainsI]
theorem gainsI_get {ps ds : List Int} {j : Nat} (h : j < ps.length) : (gainsI ps ds).getD j 0 = ps.getD j 0 - ds.getD j 0 := by
  simp [gainsI, List.getD_eq_getElem?_getD, h]
theorem gainsI_bd {ps ds : List Int} (h1 : bdL 1000000 ds) (h2 : bdL 20000 ps) : bdL 1020000 (gainsI ps ds) := fun j => by
  by_cases hj : j < ps.length
  · rw [gainsI_get hj]; have := h1 j; have := h2 j; omega
  · rw [List.getD_eq_getElem?_getD, List.getElem?_eq_none (by rw [gainsI_len]; omega)]; simp
end Go.Proofs.Ytfcnlpghdpfjkaa
