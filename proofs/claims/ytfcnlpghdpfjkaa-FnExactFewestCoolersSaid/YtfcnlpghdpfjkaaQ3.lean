/- Contracts of functions of the program, and what they compute. Conditions: those that each theorem states. -/
import Derived.Test.YtfcnlpghdpfjkaaProg
import Derived.Test.YtfcnlpghdpfjkaaQ2
set_option linter.unusedVariables false
set_option linter.unusedSimpArgs false
namespace Go.Proofs.Ytfcnlpghdpfjkaa
open Go.Av
attribute [local irreducible] Go.IntKind.wrap leastI rdZ rd rootI rawA okMine gainsI stepB roundB potN
set_option maxRecDepth 20000
set_option maxHeartbeats 8000000

/-- a mine, gains and regulators that fit one another -/
structure okB (m : GMine) (g : List Int) (rg : List Bool) : Prop where
  mine : okMine m = true
  gl : g.length = m.airways.length
  rl : rg.length = m.airways.length
  bd : bdL 1500000 g
theorem okB.air {m : GMine} {g : List Int} {rg : List Bool} (h : okB m g rg) : (1 ≤ m.junctions ∧ m.junctions ≤ 16) ∧ m.airways.length ≤ 24 ∧ ∀ i : Int, 0 ≤ i → i < m.airways.length → (0 ≤ (m.airways.getD i.toNat default).from_ ∧ (m.airways.getD i.toNat default).from_ < m.junctions) ∧ (0 ≤ (m.airways.getD i.toNat default).to ∧ (m.airways.getD i.toNat default).to < m.junctions) ∧ -1500000 ≤ g.getD i.toNat 0 ∧ g.getD i.toNat 0 ≤ 1500000 := by
  have q := okMine_p h.mine
  refine ⟨q.1, q.2.1, fun i h0 h1 => ?_⟩
  have q1 := q.2.2 i.toNat (by omega)
  exact ⟨q1.2.1, q1.2.2, h.bd i.toNat⟩
/-- what potentials hands back -/
inductive PotR (r : Option (List Int)) (rs : List AV) (ho : List OB) : Prop
  | some (p : List Int) (h : r = some p) (h1 : rs = [.osl 0 0 p.length, Bo true]) (h2 : ho = [Rw .flat (eI 0) (p.map eI)])
  | none (h : r = none) (h1 : rs = [.osl 0 0 0, Bo false]) (h2 : ho = [Rw .flat (eI 0) []])
theorem stepB_p {m : GMine} {g : List Int} {rg : List Bool} {i : Nat} {s : List Int × Bool} {B : Int} (h : okB m g rg) (hb : bdL B s.1) (hB : 0 ≤ B) : bdL (B + 3000000) (stepB m g rg i s).1 := by
  have := stepB_bd (m := m) (rg := rg) (i := i) h.bd hb hB
  exact bdL_mono this (by omega)
theorem setB {m : GMine} {g q : List Int} {i B : Int} (h : -1500000 ≤ g.getD i.toNat 0 ∧ g.getD i.toNat 0 ≤ 1500000) (k3 : bdL B q) (a c : Nat) : bdL (B + 1500000) (q.set a (q.getD c 0 + g.getD i.toNat 0)) :=
  bdL_set (bdL_mono k3 (by omega)) (by have := k3 c; omega)
section
variable {m : GMine} {g : List Int} {rg : List Bool} {p q : List Int} {b : Bool} {i k : Int}
theorem stepR (h : okB m g rg) (k0 : 0 ≤ i) (hb : i < m.airways.length) (h0 : 0 ≤ k) (k2 : q.length = m.junctions.toNat) (k3 : bdL (100000000 * k + 3000000 * i) q) (k4 : roundB m g rg i.toNat p = (q, b)) {q' : List Int} {b' : Bool} (e : stepB m g rg i.toNat (q, b) = (q', b')) : 0 ≤ i + 1 ∧ i + 1 ≤ m.airways.length ∧ q'.length = m.junctions.toNat ∧ bdL (100000000 * k + 3000000 * (i + 1)) q' ∧ roundB m g rg (i + 1).toNat p = (q', b') := by
  have e1 : stepB m g rg i.toNat (q, b) = roundB m g rg (i + 1).toNat p := by
    rw [show (i + 1).toNat = i.toNat + 1 by omega]; conv => rhs; unfold roundB
    rw [k4]
  have l := stepB_len (m := m) (g := g) (rg := rg) (i := i.toNat) (s := (q, b))
  have d := stepB_p (i := i.toNat) (s := (q, b)) h k3 (by omega)
  rw [e] at l d
  exact ⟨by omega, by omega, by rw [← k2]; exact l, bdL_mono d (by omega), by rw [← e1, e]⟩
theorem step_t2 (h1 : q.getD (m.airways.getD i.toNat default).from_.toNat 0 + g.getD i.toNat 0 < q.getD (m.airways.getD i.toNat default).to.toNat 0) (h2 : rg.getD i.toNat false = false ∧ (q.set (m.airways.getD i.toNat default).to.toNat (q.getD (m.airways.getD i.toNat default).from_.toNat 0 + g.getD i.toNat 0)).getD (m.airways.getD i.toNat default).to.toNat 0 - g.getD i.toNat 0 < (q.set (m.airways.getD i.toNat default).to.toNat (q.getD (m.airways.getD i.toNat default).from_.toNat 0 + g.getD i.toNat 0)).getD (m.airways.getD i.toNat default).from_.toNat 0) : stepB m g rg i.toNat (q, b) = ((q.set (m.airways.getD i.toNat default).to.toNat (q.getD (m.airways.getD i.toNat default).from_.toNat 0 + g.getD i.toNat 0)).set (m.airways.getD i.toNat default).from_.toNat ((q.set (m.airways.getD i.toNat default).to.toNat (q.getD (m.airways.getD i.toNat default).from_.toNat 0 + g.getD i.toNat 0)).getD (m.airways.getD i.toNat default).to.toNat 0 - g.getD i.toNat 0), true) := by
  unfold stepB; dsimp only; rw [if_pos h1, if_pos h2]
theorem step_t1 (h1 : q.getD (m.airways.getD i.toNat default).from_.toNat 0 + g.getD i.toNat 0 < q.getD (m.airways.getD i.toNat default).to.toNat 0) (h2 : ¬(rg.getD i.toNat false = false ∧ (q.set (m.airways.getD i.toNat default).to.toNat (q.getD (m.airways.getD i.toNat default).from_.toNat 0 + g.getD i.toNat 0)).getD (m.airways.getD i.toNat default).to.toNat 0 - g.getD i.toNat 0 < (q.set (m.airways.getD i.toNat default).to.toNat (q.getD (m.airways.getD i.toNat default).from_.toNat 0 + g.getD i.toNat 0)).getD (m.airways.getD i.toNat default).from_.toNat 0)) : stepB m g rg i.toNat (q, b) = (q.set (m.airways.getD i.toNat default).to.toNat (q.getD (m.airways.getD i.toNat default).from_.toNat 0 + g.getD i.toNat 0), true) := by
  unfold stepB; dsimp only; rw [if_pos h1, if_neg h2]
theorem step_f2 (h1 : ¬q.getD (m.airways.getD i.toNat default).from_.toNat 0 + g.getD i.toNat 0 < q.getD (m.airways.getD i.toNat default).to.toNat 0) (h2 : rg.getD i.toNat false = false ∧ q.getD (m.airways.getD i.toNat default).to.toNat 0 - g.getD i.toNat 0 < q.getD (m.airways.getD i.toNat default).from_.toNat 0) : stepB m g rg i.toNat (q, b) = (q.set (m.airways.getD i.toNat default).from_.toNat (q.getD (m.airways.getD i.toNat default).to.toNat 0 - g.getD i.toNat 0), true) := by
  unfold stepB; dsimp only; rw [if_neg h1, if_pos h2]
theorem step_f1 (h1 : ¬q.getD (m.airways.getD i.toNat default).from_.toNat 0 + g.getD i.toNat 0 < q.getD (m.airways.getD i.toNat default).to.toNat 0) (h2 : ¬(rg.getD i.toNat false = false ∧ q.getD (m.airways.getD i.toNat default).to.toNat 0 - g.getD i.toNat 0 < q.getD (m.airways.getD i.toNat default).from_.toNat 0)) : stepB m g rg i.toNat (q, b) = (q, b) := by
  unfold stepB; dsimp only; rw [if_neg h1, if_neg h2]
theorem round_e (hb : m.airways.length ≤ i) (k1 : i ≤ m.airways.length) (k4 : roundB m g rg i.toNat p = (q, b)) : roundB m g rg m.airways.length p = (q, b) := by rw [← k4]; congr 1; omega
theorem pot_t (hk : k < m.junctions + 1) (h4 : potN m g rg (m.junctions + 1 - k).toNat p = potI m g rg) (e : roundB m g rg m.airways.length p = (q, false)) : potI m g rg = some q := by
  rw [← h4, show (m.junctions + 1 - k).toNat = (m.junctions + 1 - (k + 1)).toNat + 1 by omega]; conv => lhs; unfold potN
  rw [e]; rfl
theorem pot_s (hk : k < m.junctions + 1) (h4 : potN m g rg (m.junctions + 1 - k).toNat p = potI m g rg) (e : roundB m g rg m.airways.length p = (q, true)) : potN m g rg (m.junctions + 1 - (k + 1)).toNat q = potI m g rg := by
  rw [← h4, show (m.junctions + 1 - k).toNat = (m.junctions + 1 - (k + 1)).toNat + 1 by omega]; conv => rhs; unfold potN
  rw [e]; rfl
theorem pot_e (hk : m.junctions + 1 ≤ k) (h4 : potN m g rg (m.junctions + 1 - k).toNat p = potI m g rg) : potI m g rg = none := by
  rw [← h4, show (m.junctions + 1 - k).toNat = 0 by omega]; unfold potN; rfl
end
end Go.Proofs.Ytfcnlpghdpfjkaa
