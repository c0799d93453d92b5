/- Contracts of functions of the program, and what they compute. Conditions: those that each theorem states. -/
import Derived.Test.YticilhlmmakbkaaDoorProg
import Derived.Test.YticilhlmmakbkaaDoorS3
set_option linter.unusedVariables false
set_option linter.unusedSimpArgs false
namespace Go.Proofs.YticilhlmmakbkaaDoor
open Go.Av
attribute [local irreducible] Go.IntKind.wrap okModes okMode bestT argT costM leastV leftS fitH okHours restF freeN
set_option maxRecDepth 20000
set_option maxHeartbeats 8000000

/-! The reference's best day, each hour by itself. -/
def askD (ms : List GMode) (needs prices : List Int) : Int := if okModes ms = true then (if okHours needs 100000 = true ∧ okHours prices 1000 = true then 0 else 2) else 1
/-- where the least is first; -1 if there is none -/
def bestA (g : Nat → Int) (n : Nat) : Int := if bestT g n < 0 then -1 else argT g n
section
variable {g : Nat → Int} {i b : Int}
theorem bestA_n (h : b = bestA g i.toNat) : (b < 0 ↔ bestT g i.toNat < 0) ∧ -1 ≤ b ∧ (0 ≤ b → b < i.toNat ∧ g b.toNat = bestT g i.toNat ∧ b = argT g i.toNat) := by
  unfold bestA at h
  by_cases hb : bestT g i.toNat < 0
  · rw [if_pos hb] at h; omega
  · rw [if_neg hb] at h
    have := bestT_arg (g := g) (n := i.toNat) (by omega)
    refine ⟨by omega, by omega, fun _ => ⟨by omega, ?_, h⟩⟩
    rw [h, Int.toNat_natCast]; exact this.2.1
theorem bestA_skip (h0 : 0 ≤ i) (h : b = bestA g i.toNat) (hg : g i.toNat = -1) : b = bestA g (i + 1).toNat := by
  unfold bestA at *
  have hc : ¬(0 ≤ g i.toNat ∧ (bestT g i.toNat < 0 ∨ g i.toNat < bestT g i.toNat)) := by omega
  rw [bestT_k h0 hc, argT_k h0 hc]; exact h
theorem bestA_take (h0 : 0 ≤ i) (h : b = bestA g i.toNat) {n : Int} (hg : g i.toNat = n) (hn : 0 ≤ n) (hb : b < 0 ∨ n < g b.toNat) : i = bestA g (i + 1).toNat := by
  have q := bestA_n h
  have hc : 0 ≤ g i.toNat ∧ (bestT g i.toNat < 0 ∨ g i.toNat < bestT g i.toNat) := by
    refine ⟨by omega, ?_⟩
    by_cases h2 : b < 0
    · exact .inl (q.1.1 h2)
    · have := q.2.2 (by omega); omega
  unfold bestA
  rw [bestT_s h0 hc, argT_s h0 hc, if_neg (by omega)]; omega
theorem bestA_keep (h0 : 0 ≤ i) (h : b = bestA g i.toNat) {n : Int} (hg : g i.toNat = n) (hb : ¬(b < 0 ∨ n < g b.toNat)) : b = bestA g (i + 1).toNat := by
  have q := bestA_n h
  have q2 := q.2.2 (by omega)
  have hc : ¬(0 ≤ g i.toNat ∧ (bestT g i.toNat < 0 ∨ g i.toNat < bestT g i.toNat)) := by omega
  unfold bestA at *
  rw [bestT_k h0 hc, argT_k h0 hc]; exact h
end
def freeB (ms : List GMode) (needs prices : List Int) (peak : Int) : List Int × Bool := if 0 ≤ restF ms needs prices peak 24 then (freeN ms needs prices peak 24, true) else ([], false)
section
variable {ms : List GMode} {needs prices : List Int} {peak h i : Int}
theorem freeB_f (h0 : 0 ≤ h) (h1 : h < 24) (hb : bestT (costF ms needs prices peak h) ms.length < 0) : freeB ms needs prices peak = ([], false) := by
  unfold freeB; rw [if_neg]
  intro hr
  have := rest_hour hr (i := h.toNat) (by omega)
  rw [show ((h.toNat : Nat) : Int) = h by omega] at this
  omega
theorem freeB_t (h0 : ¬h < 24) (h1 : h ≤ 24) (hj : ∀ j : Nat, (j : Int) < h → 0 ≤ bestT (costF ms needs prices peak j) ms.length) : freeB ms needs prices peak = (freeN ms needs prices peak h.toNat, true) := by
  unfold freeB; rw [if_pos (rest_of (fun i hi => hj i (by omega)) 24 (by omega)), show h.toNat = 24 by omega]
theorem freeN_s (h0 : 0 ≤ h) : freeN ms needs prices peak (h + 1).toNat = freeN ms needs prices peak h.toNat ++ [((argT (costF ms needs prices peak h) ms.length : Nat) : Int)] := by
  rw [show (h + 1).toNat = h.toNat + 1 by omega, freeN_c, show ((h.toNat : Nat) : Int) = h by omega]
theorem costI_f (h0 : 0 ≤ i) (hc : (ms.getD i.toNat default).flow < needs.getD h.toNat 0 ∨ peak < (ms.getD i.toNat default).power) : costF ms needs prices peak h i.toNat = -1 := by
  unfold costF fitH
  rw [if_neg]
  simp only [Int.toNat_natCast, Bool.and_eq_true, decide_eq_true_eq]
  omega
theorem costI_t (h0 : 0 ≤ i) (hc : needs.getD h.toNat 0 ≤ (ms.getD i.toNat default).flow ∧ (ms.getD i.toNat default).power ≤ peak) : costF ms needs prices peak h i.toNat = costM (ms.getD i.toNat default) (prices.getD h.toNat 0) := by
  unfold costF fitH
  rw [if_pos]
  simp only [Int.toNat_natCast, Bool.and_eq_true, decide_eq_true_eq]
  omega
theorem costI_b {j : Nat} (hg : 0 ≤ costF ms needs prices peak h j) : costF ms needs prices peak h j = costM (ms.getD j default) (prices.getD h.toNat 0) := by
  unfold costF at *; split at hg
  · rename_i hc; rw [if_pos hc]
  · omega
variable {b : Int}
theorem free_b (g2 : b = bestA (costF ms needs prices peak h) i.toNat) (hb : 0 ≤ b) : costF ms needs prices peak h b.toNat = costM (ms.getD b.toNat default) (prices.getD h.toNat 0) := by
  have q := bestA_n g2
  have q2 := q.2.2 hb
  exact costI_b (by rw [q2.2.1]; omega)
theorem free_take (ho : okModes ms = true) (hp : okHours prices 1000 = true) (h0 : 0 ≤ h) (h1 : h < 24) (g0 : 0 ≤ i) (hi : i < ms.length) (g2 : b = bestA (costF ms needs prices peak h) i.toNat) (hc : needs.getD h.toNat 0 ≤ (ms.getD i.toNat default).flow ∧ (ms.getD i.toNat default).power ≤ peak)
    (hb : b < 0 ∨ costM (ms.getD i.toNat default) (prices.getD h.toNat 0) < costM (ms.getD b.toNat default) (prices.getD h.toNat 0)) : i = bestA (costF ms needs prices peak h) (i + 1).toNat := by
  refine bestA_take g0 g2 (costI_t g0 hc) (costM_b (mode_b ho (by omega)) (price_b hp h0 h1)).2.1 ?_
  by_cases hn : b < 0
  · exact .inl hn
  · right; rw [free_b g2 (by omega)]; exact hb.resolve_left hn
theorem free_keep (g0 : 0 ≤ i) (g2 : b = bestA (costF ms needs prices peak h) i.toNat) (hc : needs.getD h.toNat 0 ≤ (ms.getD i.toNat default).flow ∧ (ms.getD i.toNat default).power ≤ peak)
    (hb : 0 ≤ b ∧ costM (ms.getD b.toNat default) (prices.getD h.toNat 0) ≤ costM (ms.getD i.toNat default) (prices.getD h.toNat 0)) : b = bestA (costF ms needs prices peak h) (i + 1).toNat := by
  refine bestA_keep g0 g2 (costI_t g0 hc) ?_
  rw [free_b g2 hb.1]; omega
theorem free_all (g2 : b = bestA (costF ms needs prices peak h) i.toNat) (g1 : i ≤ ms.length) (hi : (ms.length : Int) ≤ i) : (b < 0 → bestT (costF ms needs prices peak h) ms.length < 0) ∧ (0 ≤ b → 0 ≤ bestT (costF ms needs prices peak h) ms.length ∧ b = ((argT (costF ms needs prices peak h) ms.length : Nat) : Int)) := by
  have q := bestA_n g2
  rw [show i.toNat = ms.length by omega] at q
  exact ⟨q.1.1, fun hb => ⟨by omega, (q.2.2 hb).2.2⟩⟩
end
end Go.Proofs.YticilhlmmakbkaaDoor
