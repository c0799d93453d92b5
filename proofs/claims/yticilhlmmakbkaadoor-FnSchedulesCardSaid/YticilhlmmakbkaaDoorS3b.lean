/- Contracts of functions of the program, and what they compute. Conditions: those that each theorem states. -/
import Derived.Test.YticilhlmmakbkaaDoorProg
import Derived.Test.YticilhlmmakbkaaDoorS3
set_option linter.unusedVariables false
set_option linter.unusedSimpArgs false
namespace Go.Proofs.YticilhlmmakbkaaDoor
open Go.Av
attribute [local irreducible] Go.IntKind.wrap okModes okMode bestT argT costM stepW leastV leftS fitH pathM dayN okHours
set_option maxRecDepth 20000
set_option maxHeartbeats 4000000

/-! Steps of the search for the best day: plain facts. -/
/-- how a day goes on: facts that all hours share -/
def dayF (ms : List GMode) (needs prices : List Int) (peak sw : Int) : Prop := (okModes ms = true ∧ okHours needs 100000 = true ∧ okHours prices 1000 = true) ∧ (0 ≤ sw ∧ sw ≤ 24) ∧ 0 ≤ leastV ms needs prices peak 24 (-1) sw
section
variable {ms : List GMode} {needs prices : List Int} {peak sw t m s i : Int}
theorem day_pos (hF : dayF ms needs prices peak sw) (h0 : 0 ≤ t) (h1 : t ≤ 24) (h5 : m = (pathM ms needs prices peak sw t.toNat).1) (h6 : s = (pathM ms needs prices peak sw t.toNat).2) : 0 ≤ leastV ms needs prices peak (24 - t.toNat) m s := by
  rw [h5, h6]
  exact (path_ok hF.2.2 hF.2.1.1 t.toNat (by omega)).1
theorem least_t (h0 : 0 ≤ t) (h1 : t < 24) : leastV ms needs prices peak (24 - t.toNat) m s = bestT (stepW ms needs prices peak (leastV ms needs prices peak (23 - t.toNat)) t m s) ms.length := by
  rw [leastV_h (i := t.toNat) (by omega), show ((t.toNat : Nat) : Int) = t by omega]
theorem path_t (h0 : 0 ≤ t) (h5 : m = (pathM ms needs prices peak sw t.toNat).1) (h6 : s = (pathM ms needs prices peak sw t.toNat).2) : (pathM ms needs prices peak sw (t + 1).toNat).1 = ((argT (stepW ms needs prices peak (leastV ms needs prices peak (23 - t.toNat)) t m s) ms.length : Nat) : Int) ∧ (pathM ms needs prices peak sw (t + 1).toNat).2 = leftS m s (pathM ms needs prices peak sw (t + 1).toNat).1 := by
  rw [show (t + 1).toNat = t.toNat + 1 by omega]
  refine ⟨?_, ?_⟩
  · rw [path_m, ← h5, ← h6, show ((t.toNat : Nat) : Int) = t by omega]
  · rw [path_l, ← h5, ← h6]
theorem day_none (hF : dayF ms needs prices peak sw) (h0 : 0 ≤ t) (h1 : t < 24) (h5 : m = (pathM ms needs prices peak sw t.toNat).1) (h6 : s = (pathM ms needs prices peak sw t.toNat).2) (hb : (ms.length : Int) ≤ i)
    (g4 : ∀ j : Nat, (j : Int) < i → ¬stepW ms needs prices peak (leastV ms needs prices peak (23 - t.toNat)) t m s j = leastV ms needs prices peak (24 - t.toNat) m s) : False := by
  have hp := day_pos hF h0 (by omega) h5 h6
  rw [least_t h0 h1] at hp g4
  have h2 := bestT_arg hp
  exact g4 _ (by omega) h2.2.1
theorem day_all (g0 : 0 ≤ i) (g4 : ∀ j : Nat, (j : Int) < i → ¬stepW ms needs prices peak (leastV ms needs prices peak (23 - t.toNat)) t m s j = leastV ms needs prices peak (24 - t.toNat) m s)
    (h : ¬stepW ms needs prices peak (leastV ms needs prices peak (23 - t.toNat)) t m s i.toNat = leastV ms needs prices peak (24 - t.toNat) m s) :
    ∀ j : Nat, (j : Int) < i + 1 → ¬stepW ms needs prices peak (leastV ms needs prices peak (23 - t.toNat)) t m s j = leastV ms needs prices peak (24 - t.toNat) m s :=
  all_s (P := fun j => ¬stepW ms needs prices peak (leastV ms needs prices peak (23 - t.toNat)) t m s j = leastV ms needs prices peak (24 - t.toNat) m s) g0 g4 h
theorem day_miss (hF : dayF ms needs prices peak sw) (h0 : 0 ≤ t) (h1 : t < 24) (h5 : m = (pathM ms needs prices peak sw t.toNat).1) (h6 : s = (pathM ms needs prices peak sw t.toNat).2) (g0 : 0 ≤ i)
    (g4 : ∀ j : Nat, (j : Int) < i → ¬stepW ms needs prices peak (leastV ms needs prices peak (23 - t.toNat)) t m s j = leastV ms needs prices peak (24 - t.toNat) m s)
    (h : ¬(0 ≤ leftS m s i ∧ fitH ms needs peak t i = true) ∨ leastV ms needs prices peak (23 - t.toNat) i (leftS m s i) < 0) :
    ∀ j : Nat, (j : Int) < i + 1 → ¬stepW ms needs prices peak (leastV ms needs prices peak (23 - t.toNat)) t m s j = leastV ms needs prices peak (24 - t.toNat) m s := by
  have hp := day_pos hF h0 (by omega) h5 h6
  refine day_all g0 g4 ?_
  rw [stepI_f g0 h]; omega
theorem sum_b (hF : dayF ms needs prices peak sw) (h0 : 0 ≤ t) (h1 : t < 24) (g0 : 0 ≤ i) (hi : i < ms.length) : IntKind.i64.wrap (leastV ms needs prices peak (23 - t.toNat) i (leftS m s i) + costM (ms.getD i.toNat default) (prices.getD t.toNat 0)) = leastV ms needs prices peak (23 - t.toNat) i (leftS m s i) + costM (ms.getD i.toNat default) (prices.getD t.toNat 0) := by
  have q := costM_b (mode_b hF.1.1 (j := i.toNat) (by omega)) (price_b hF.1.2.2 (h := t) (by omega) (by omega))
  have q2 := leastV_b (needs := needs) (peak := peak) hF.1.1 hF.1.2.2 (23 - t.toNat) (by omega) i (leftS m s i)
  exact wrapI (by omega) (by omega)
theorem day_not (hF : dayF ms needs prices peak sw) (h0 : 0 ≤ t) (h1 : t < 24) (g0 : 0 ≤ i) (hi : i < ms.length)
    (g4 : ∀ j : Nat, (j : Int) < i → ¬stepW ms needs prices peak (leastV ms needs prices peak (23 - t.toNat)) t m s j = leastV ms needs prices peak (24 - t.toNat) m s)
    (hg : (decide (0 ≤ leftS m s i) && fitH ms needs peak t i) = true)
    (hg2 : (if (decide (0 ≤ leftS m s i) && fitH ms needs peak t i) = true then decide (leastV ms needs prices peak (23 - t.toNat) i (leftS m s i) ≥ 0) else false) = true)
    (hb : (0 ≤ leftS m s i ∧ fitH ms needs peak t i = true) ∧ 0 ≤ leastV ms needs prices peak (23 - t.toNat) i (leftS m s i) → ¬IntKind.i64.wrap (leastV ms needs prices peak (23 - t.toNat) i (leftS m s i) + costM (ms.getD i.toNat default) (prices.getD t.toNat 0)) = leastV ms needs prices peak (24 - t.toNat) m s) :
    ∀ j : Nat, (j : Int) < i + 1 → ¬stepW ms needs prices peak (leastV ms needs prices peak (23 - t.toNat)) t m s j = leastV ms needs prices peak (24 - t.toNat) m s := by
  rw [if_pos hg, decide_eq_true_eq] at hg2
  simp only [Bool.and_eq_true, decide_eq_true_eq] at hg
  have hb := hb ⟨hg, hg2⟩
  rw [sum_b hF h0 h1 g0 hi] at hb
  exact day_all g0 g4 (by rw [stepI_t g0 hg hg2]; exact hb)
theorem guard_f (hg : (decide (0 ≤ leftS m s i) && fitH ms needs peak t i) = false) : ¬(0 ≤ leftS m s i ∧ fitH ms needs peak t i = true) := by
  rintro ⟨a, b⟩
  rw [b, decide_eq_true a] at hg; cases hg
theorem guard_r (hg : (decide (0 ≤ leftS m s i) && fitH ms needs peak t i) = true) (hg2 : (if (decide (0 ≤ leftS m s i) && fitH ms needs peak t i) = true then decide (leastV ms needs prices peak (23 - t.toNat) i (leftS m s i) ≥ 0) else false) = false) : leastV ms needs prices peak (23 - t.toNat) i (leftS m s i) < 0 := by
  rw [if_pos hg, decide_eq_false_iff_not] at hg2; omega
theorem day_hit (hF : dayF ms needs prices peak sw) (h0 : 0 ≤ t) (h1 : t < 24) (h5 : m = (pathM ms needs prices peak sw t.toNat).1) (h6 : s = (pathM ms needs prices peak sw t.toNat).2) (g0 : 0 ≤ i) (hi : i < ms.length)
    (g4 : ∀ j : Nat, (j : Int) < i → ¬stepW ms needs prices peak (leastV ms needs prices peak (23 - t.toNat)) t m s j = leastV ms needs prices peak (24 - t.toNat) m s)
    (hb : ((0 ≤ leftS m s i ∧ fitH ms needs peak t i = true) ∧ 0 ≤ leastV ms needs prices peak (23 - t.toNat) i (leftS m s i)) ∧ IntKind.i64.wrap (leastV ms needs prices peak (23 - t.toNat) i (leftS m s i) + costM (ms.getD i.toNat default) (prices.getD t.toNat 0)) = leastV ms needs prices peak (24 - t.toNat) m s) :
    dayN ms needs prices peak sw (t + 1).toNat = dayN ms needs prices peak sw t.toNat ++ [i] ∧ i = (pathM ms needs prices peak sw (t + 1).toNat).1 ∧ leftS m s i = (pathM ms needs prices peak sw (t + 1).toNat).2 := by
  obtain ⟨⟨hg, hr⟩, he⟩ := hb
  rw [sum_b hF h0 h1 g0 hi] at he
  have e := stepI_t (prices := prices) g0 hg hr
  have hp := day_pos hF h0 (by omega) h5 h6
  rw [least_t h0 h1] at he hp g4
  have ha : argT (stepW ms needs prices peak (leastV ms needs prices peak (23 - t.toNat)) t m s) ms.length = i.toNat := argT_at (by omega) (by omega) (by omega) fun j hj => g4 j (by omega)
  obtain ⟨p1, p2⟩ := path_t (peak := peak) h0 h5 h6
  rw [ha, show ((i.toNat : Nat) : Int) = i by omega] at p1
  rw [p1] at p2
  refine ⟨?_, p1.symm, p2.symm⟩
  rw [show (t + 1).toNat = t.toNat + 1 by omega] at p1 ⊢
  rw [dayN_s, p1]
theorem bestD_1 (h : okModes ms = false) : bestD ms needs prices sw peak = ([], 0, 1) := by unfold bestD; rw [if_neg (by rw [h]; decide)]
theorem bestD_2 (ho : okModes ms = true) (h : (okHours needs 100000 = false ∨ okHours prices 1000 = false) ∨ inR sw 0 24 = false) : bestD ms needs prices sw peak = ([], 0, 2) := by
  unfold bestD; rw [if_pos ho, if_neg]
  rintro ⟨a, b, c⟩
  rcases h with (h | h) | h
  · rw [a] at h; cases h
  · rw [b] at h; cases h
  · rw [c] at h; cases h
theorem day_ok (h : ¬(okHours needs 100000 = false ∨ okHours prices 1000 = false) ∧ inR sw 0 24 = true) : okHours needs 100000 = true ∧ okHours prices 1000 = true ∧ inR sw 0 24 = true := by
  obtain ⟨h1, h2⟩ := h
  simp only [not_or, Bool.not_eq_false] at h1
  exact ⟨h1.1, h1.2, h2⟩
theorem bestD_3 (ho : okModes ms = true) (h : ¬(okHours needs 100000 = false ∨ okHours prices 1000 = false) ∧ inR sw 0 24 = true) (hl : leastV ms needs prices peak 24 (-1) sw < 0) : bestD ms needs prices sw peak = ([], 0, 3) := by
  unfold bestD; rw [if_pos ho, if_pos (day_ok h), if_pos hl]
theorem bestD_0 (hF : dayF ms needs prices peak sw) (h1 : ¬t < 24) (h2 : t ≤ 24) : bestD ms needs prices sw peak = (dayN ms needs prices peak sw t.toNat, leastV ms needs prices peak 24 (-1) sw, 0) := by
  unfold bestD; rw [if_pos hF.1.1, if_pos ⟨hF.1.2.1, hF.1.2.2, inR_iff.2 hF.2.1⟩, if_neg (by have := hF.2.2; omega), show t.toNat = 24 by omega]
end
end Go.Proofs.YticilhlmmakbkaaDoor
