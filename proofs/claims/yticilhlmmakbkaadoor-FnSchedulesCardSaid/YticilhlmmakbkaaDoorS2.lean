/- Contracts of functions of the program, and what they compute. Conditions: those that each theorem states. -/
import Derived.Test.YticilhlmmakbkaaDoorProg
import Derived.Test.YticilhlmmakbkaaDoorS1
set_option linter.unusedVariables false
set_option linter.unusedSimpArgs false
namespace Go.Proofs.YticilhlmmakbkaaDoor
open Go.Av
attribute [local irreducible] Go.IntKind.wrap okModes okMode
set_option maxRecDepth 20000
set_option maxHeartbeats 4000000

/-! The least cost of a day's rest: plain facts. -/
/-- the least number that is not negative among the first n; -1 if there is none -/
def bestT (g : Nat → Int) : Nat → Int
  | 0 => -1
  | j + 1 => if 0 ≤ g j ∧ (bestT g j < 0 ∨ g j < bestT g j) then g j else bestT g j
/-- where it is first -/
def argT (g : Nat → Int) : Nat → Nat
  | 0 => 0
  | j + 1 => if 0 ≤ g j ∧ (bestT g j < 0 ∨ g j < bestT g j) then j else argT g j
section
variable {g g' : Nat → Int}
theorem bestT_ge : ∀ n, -1 ≤ bestT g n
  | 0 => by simp [bestT]
  | n + 1 => by have := bestT_ge n; simp only [bestT]; split <;> omega
theorem bestT_le : ∀ {n i : Nat}, i < n → 0 ≤ g i → 0 ≤ bestT g n ∧ bestT g n ≤ g i
  | n + 1, i, h, hi => by
    have hge := bestT_ge (g := g) n
    simp only [bestT]
    by_cases e : i = n
    · subst e; split <;> omega
    · have := bestT_le (n := n) (i := i) (by omega) hi; split <;> omega
theorem bestT_arg : ∀ {n : Nat}, 0 ≤ bestT g n → argT g n < n ∧ g (argT g n) = bestT g n ∧ ∀ i, i < argT g n → g i < 0 ∨ bestT g n < g i
  | 0, h => by simp [bestT] at h
  | n + 1, h => by
    by_cases hc : 0 ≤ g n ∧ (bestT g n < 0 ∨ g n < bestT g n)
    · have e1 : bestT g (n + 1) = g n := if_pos hc
      have e2 : argT g (n + 1) = n := if_pos hc
      rw [e1, e2]
      refine ⟨by omega, rfl, fun i hi => ?_⟩
      by_cases h0 : 0 ≤ g i
      · have := bestT_le hi h0; omega
      · omega
    · have e1 : bestT g (n + 1) = bestT g n := if_neg hc
      have e2 : argT g (n + 1) = argT g n := if_neg hc
      rw [e1] at h ⊢
      rw [e2]
      have := bestT_arg h
      exact ⟨by omega, this.2⟩
theorem bestT_no {n i : Nat} (h : bestT g n < 0) (hi : i < n) : g i < 0 := by
  by_cases h0 : 0 ≤ g i
  · have := bestT_le hi h0; omega
  · omega
theorem bestT_at {n : Nat} {v : Int} (h : (v = -1 ∧ ∀ i, i < n → g i < 0) ∨ (0 ≤ v ∧ (∃ i, i < n ∧ g i = v) ∧ ∀ i, i < n → 0 ≤ g i → v ≤ g i)) : bestT g n = v := by
  have hge := bestT_ge (g := g) n
  rcases h with ⟨e, h⟩ | ⟨h0, ⟨i, hi, e⟩, h⟩
  · by_cases hb : 0 ≤ bestT g n
    · have := bestT_arg hb
      have := h _ this.1
      omega
    · omega
  · have h1 := bestT_le (g := g) hi (by omega)
    have h2 := bestT_arg h1.1
    have := h _ h2.1 (by omega)
    omega
theorem argT_at {n j : Nat} (hj : j < n) (h0 : 0 ≤ g j) (h : g j = bestT g n) (hf : ∀ i, i < j → ¬g i = bestT g n) : argT g n = j := by
  have h2 := bestT_arg (g := g) (n := n) (by omega)
  rcases Nat.lt_trichotomy (argT g n) j with hl | e | hl
  · exact absurd h2.2.1 (hf _ hl)
  · exact e
  · have := h2.2.2 _ hl; omega
theorem bestT_congr : ∀ {n : Nat}, (∀ i, i < n → g i = g' i) → bestT g n = bestT g' n ∧ argT g n = argT g' n
  | 0, _ => ⟨rfl, rfl⟩
  | n + 1, h => by
    have ih := bestT_congr (n := n) fun i hi => h i (by omega)
    simp only [bestT, argT, ih.1, ih.2, h n (by omega), and_self]
theorem bestT_s {i : Int} (h : 0 ≤ i) (hc : 0 ≤ g i.toNat ∧ (bestT g i.toNat < 0 ∨ g i.toNat < bestT g i.toNat)) : bestT g (i + 1).toNat = g i.toNat := by
  rw [show (i + 1).toNat = i.toNat + 1 by omega]; exact if_pos hc
theorem bestT_k {i : Int} (h : 0 ≤ i) (hc : ¬(0 ≤ g i.toNat ∧ (bestT g i.toNat < 0 ∨ g i.toNat < bestT g i.toNat))) : bestT g (i + 1).toNat = bestT g i.toNat := by
  rw [show (i + 1).toNat = i.toNat + 1 by omega]; exact if_neg hc
theorem argT_s {i : Int} (h : 0 ≤ i) (hc : 0 ≤ g i.toNat ∧ (bestT g i.toNat < 0 ∨ g i.toNat < bestT g i.toNat)) : argT g (i + 1).toNat = i.toNat := by
  rw [show (i + 1).toNat = i.toNat + 1 by omega]; exact if_pos hc
theorem argT_k {i : Int} (h : 0 ≤ i) (hc : ¬(0 ≤ g i.toNat ∧ (bestT g i.toNat < 0 ∨ g i.toNat < bestT g i.toNat))) : argT g (i + 1).toNat = argT g i.toNat := by
  rw [show (i + 1).toNat = i.toNat + 1 by omega]; exact if_neg hc
/-- the same rest behind each -/
theorem bestT_add {R : Int} {n : Nat} (hR : 0 ≤ R) : bestT (fun j => if 0 ≤ g j then g j + R else -1) n = (if 0 ≤ bestT g n then bestT g n + R else -1) ∧ (0 ≤ bestT g n → argT (fun j => if 0 ≤ g j then g j + R else -1) n = argT g n) := by
  by_cases hb : 0 ≤ bestT g n
  · rw [if_pos hb]
    have h2 := bestT_arg hb
    have e : bestT (fun j => if 0 ≤ g j then g j + R else -1) n = bestT g n + R := by
      refine bestT_at (.inr ⟨by omega, ⟨_, h2.1, by rw [if_pos (by omega), h2.2.1]⟩, fun i hi h0 => ?_⟩)
      by_cases hg : 0 ≤ g i
      · have := bestT_le hi hg; simp only [if_pos hg]; omega
      · simp only [if_neg hg] at h0; omega
    refine ⟨e, fun _ => argT_at h2.1 ?_ ?_ fun i hi => ?_⟩
    · simp only [h2.2.1, if_pos hb]; omega
    · simp only [h2.2.1, if_pos hb, e]
    · rw [e]
      have := h2.2.2 i hi
      by_cases hg : 0 ≤ g i
      · simp only [if_pos hg]; omega
      · simp only [if_neg hg]; omega
  · rw [if_neg hb]
    refine ⟨bestT_at (.inl ⟨rfl, fun i hi => ?_⟩), fun h => absurd h hb⟩
    have := bestT_no (g := g) (by omega) hi
    rw [if_neg (by omega)]; omega
end
/-- the cost of a day's rest that begins with a mode; -1 if it may not -/
def stepW (ms : List GMode) (needs prices : List Int) (peak : Int) (L : Int → Int → Int) (h m s : Int) (j : Nat) : Int :=
  if (0 ≤ leftS m s j ∧ fitH ms needs peak h j = true) ∧ 0 ≤ L j (leftS m s j) then L j (leftS m s j) + costM (ms.getD j default) (prices.getD h.toNat 0) else -1
/-- the least cost of the last hours of a day; -1 if there is no such day -/
def leastV (ms : List GMode) (needs prices : List Int) (peak : Int) : Nat → Int → Int → Int
  | 0, _, _ => 0
  | k + 1, m, s => bestT (stepW ms needs prices peak (leastV ms needs prices peak k) (23 - k) m s) ms.length
section
variable {ms : List GMode} {needs prices : List Int} {peak : Int}
theorem mode_b (ho : okModes ms = true) {j : Nat} (hj : j < ms.length) : 0 ≤ (ms.getD j default).power ∧ (ms.getD j default).power ≤ 10000000 := (okMode_b ((okModes_p ho).2 j (by omega))).2
theorem price_b (hp : okHours prices 1000 = true) {h : Int} (h0 : 0 ≤ h) (h1 : h < 24) : 0 ≤ prices.getD h.toNat 0 ∧ prices.getD h.toNat 0 ≤ 1000 := (okHours_iff.1 hp).2 h.toNat (by omega)
theorem stepW_b (ho : okModes ms = true) (hp : okHours prices 1000 = true) {L : Int → Int → Int} {B h m s : Int} (hL : ∀ m s, -1 ≤ L m s ∧ L m s ≤ B) (hB : 0 ≤ B) (h0 : 0 ≤ h) (h1 : h < 24) {j : Nat} (hj : j < ms.length) : -1 ≤ stepW ms needs prices peak L h m s j ∧ stepW ms needs prices peak L h m s j ≤ B + 10000000 := by
  have hc := (costM_b (mode_b ho hj) (price_b hp h0 h1)).2
  have := hL j (leftS m s j)
  unfold stepW
  split <;> omega
theorem leastV_b (ho : okModes ms = true) (hp : okHours prices 1000 = true) : ∀ (k : Nat), k ≤ 24 → ∀ m s : Int, -1 ≤ leastV ms needs prices peak k m s ∧ leastV ms needs prices peak k m s ≤ 10000000 * k
  | 0, _, _, _ => by simp [leastV]
  | k + 1, hk, m, s => by
    have ih := leastV_b ho hp k (by omega)
    simp only [leastV]
    refine ⟨bestT_ge _, ?_⟩
    by_cases hb : 0 ≤ bestT (stepW ms needs prices peak (leastV ms needs prices peak k) (23 - k) m s) ms.length
    · have h2 := bestT_arg hb
      have := stepW_b (needs := needs) (peak := peak) (m := m) (s := s) ho hp ih (by omega) (h := 23 - k) (by omega) (by omega) h2.1
      omega
    · omega
theorem leastV_s {k : Nat} {m s : Int} : leastV ms needs prices peak (k + 1) m s = bestT (stepW ms needs prices peak (leastV ms needs prices peak k) (23 - k) m s) ms.length := rfl
theorem stepW_t {L : Int → Int → Int} {h m s : Int} {j : Nat} (h1 : 0 ≤ leftS m s j) (h2 : fitH ms needs peak h j = true) (h3 : 0 ≤ L j (leftS m s j)) : stepW ms needs prices peak L h m s j = L j (leftS m s j) + costM (ms.getD j default) (prices.getD h.toNat 0) := if_pos ⟨⟨h1, h2⟩, h3⟩
theorem stepW_f {L : Int → Int → Int} {h m s : Int} {j : Nat} (h1 : ¬(0 ≤ leftS m s j ∧ fitH ms needs peak h j = true) ∨ L j (leftS m s j) < 0) : stepW ms needs prices peak L h m s j = -1 := by
  unfold stepW; rw [if_neg]; rintro ⟨h2, h3⟩; rcases h1 with h1 | h1
  · exact h1 h2
  · omega
end
theorem left_le {m s j : Int} : leftS m s j ≤ s := by unfold leftS; split <;> omega
theorem stepI_f {ms : List GMode} {needs prices : List Int} {peak : Int} {L : Int → Int → Int} {h m s i : Int} (h0 : 0 ≤ i) (h1 : ¬(0 ≤ leftS m s i ∧ fitH ms needs peak h i = true) ∨ L i (leftS m s i) < 0) : stepW ms needs prices peak L h m s i.toNat = -1 :=
  stepW_f (by rw [show ((i.toNat : Nat) : Int) = i by omega]; exact h1)
theorem stepI_t {ms : List GMode} {needs prices : List Int} {peak : Int} {L : Int → Int → Int} {h m s i : Int} (h0 : 0 ≤ i) (h1 : 0 ≤ leftS m s i ∧ fitH ms needs peak h i = true) (h3 : 0 ≤ L i (leftS m s i)) : stepW ms needs prices peak L h m s i.toNat = L i (leftS m s i) + costM (ms.getD i.toNat default) (prices.getD h.toNat 0) := by
  have e : ((i.toNat : Nat) : Int) = i := by omega
  rw [stepW_t (by rw [e]; exact h1.1) (by rw [e]; exact h1.2) (by rw [e]; exact h3), e]
theorem best_skip {g : Nat → Int} {i b : Int} (h0 : 0 ≤ i) (e : b = bestT g i.toNat) (h : g i.toNat = -1) : b = bestT g (i + 1).toNat := by rw [bestT_k h0 (by omega)]; exact e
theorem best_take {g : Nat → Int} {i b n : Int} (h0 : 0 ≤ i) (e : b = bestT g i.toNat) (h : g i.toNat = n) (hn : 0 ≤ n) (hb : b < 0 ∨ n < b) : n = bestT g (i + 1).toNat := by rw [bestT_s h0 (by omega)]; exact h.symm
theorem best_keep {g : Nat → Int} {i b n : Int} (h0 : 0 ≤ i) (e : b = bestT g i.toNat) (h : g i.toNat = n) (hb : ¬(b < 0 ∨ n < b)) : b = bestT g (i + 1).toNat := by rw [bestT_k h0 (by omega)]; exact e
/-- a state of a plan, as a key -/
abbrev stU (h m s : Int) : Value := .agg #[.int .i64 h, .int .i64 m, .int .i64 s]
theorem stU_inj {h m s h' m' s' : Int} (e : stU h m s = stU h' m' s') : h = h' ∧ m = m' ∧ s = s' := by
  simp only [Value.agg.injEq, Array.mk.injEq, List.cons.injEq, Value.int.injEq, true_and, and_true] at e
  exact e
/-- what is kept of costs is right -/
def memoOk (ms : List GMode) (needs prices : List Int) (peak : Int) (f : Value → Option Int) : Prop := ∀ (k : Nat) (m s n : Int), k ≤ 24 → f (stU (24 - k) m s) = some n → n = leastV ms needs prices peak k m s
theorem memo_0 {ms : List GMode} {needs prices : List Int} {peak : Int} : memoOk ms needs prices peak (fun _ => none) := fun _ _ _ _ _ h => by cases h
theorem memo_s {ms : List GMode} {needs prices : List Int} {peak : Int} {f : Value → Option Int} {k : Nat} {h m s n : Int} (hf : memoOk ms needs prices peak f) (hh : h = 24 - k) (hk : k ≤ 24) (hn : n = leastV ms needs prices peak k m s) : memoOk ms needs prices peak (updM f (stU h m s) n) := by
  intro k' m' s' n' hk' e
  by_cases hu : stU (24 - k') m' s' = stU h m s
  · obtain ⟨e1, e2, e3⟩ := stU_inj hu
    rw [hu, updM_eq] at e
    cases e
    have : k' = k := by omega
    rw [this, e2, e3, hn]
  · rw [updM_ne _ _ hu] at e
    exact hf k' m' s' n' hk' e
end Go.Proofs.YticilhlmmakbkaaDoor
