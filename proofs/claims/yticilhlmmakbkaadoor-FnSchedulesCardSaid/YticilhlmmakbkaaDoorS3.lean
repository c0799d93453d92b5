/- Contracts of functions of the program, and what they compute. Conditions: those that each theorem states. -/
import Derived.Test.YticilhlmmakbkaaDoorProg
import Derived.Test.YticilhlmmakbkaaDoorS2
set_option linter.unusedVariables false
set_option linter.unusedSimpArgs false
namespace Go.Proofs.YticilhlmmakbkaaDoor
open Go.Av
attribute [local irreducible] Go.IntKind.wrap okModes okMode bestT argT costM
set_option maxRecDepth 20000
set_option maxHeartbeats 4000000

/-! The best day, hour by hour: plain facts. -/
/-- the mode before an hour, and how many switches are left -/
def pathM (ms : List GMode) (needs prices : List Int) (peak sw : Int) : Nat → Int × Int
  | 0 => (-1, sw)
  | i + 1 => (((argT (stepW ms needs prices peak (leastV ms needs prices peak (23 - i)) i (pathM ms needs prices peak sw i).1 (pathM ms needs prices peak sw i).2) ms.length : Nat) : Int),
      leftS (pathM ms needs prices peak sw i).1 (pathM ms needs prices peak sw i).2 ((argT (stepW ms needs prices peak (leastV ms needs prices peak (23 - i)) i (pathM ms needs prices peak sw i).1 (pathM ms needs prices peak sw i).2) ms.length : Nat) : Int))
def dayN (ms : List GMode) (needs prices : List Int) (peak sw : Int) : Nat → List Int
  | 0 => []
  | i + 1 => dayN ms needs prices peak sw i ++ [(pathM ms needs prices peak sw (i + 1)).1]
section
variable {ms : List GMode} {needs prices : List Int} {peak sw : Int}
theorem leastV_h {i : Nat} (hi : i < 24) {m s : Int} : leastV ms needs prices peak (24 - i) m s = bestT (stepW ms needs prices peak (leastV ms needs prices peak (23 - i)) i m s) ms.length := by
  rw [show 24 - i = (23 - i) + 1 by omega, leastV_s, show (23 : Int) - ((23 - i : Nat) : Int) = (i : Int) by omega]
theorem stepW_inv {L : Int → Int → Int} {h m s : Int} {j : Nat} (h0 : 0 ≤ stepW ms needs prices peak L h m s j) : (0 ≤ leftS m s j ∧ fitH ms needs peak h j = true ∧ 0 ≤ L j (leftS m s j)) ∧ stepW ms needs prices peak L h m s j = L j (leftS m s j) + costM (ms.getD j default) (prices.getD h.toNat 0) := by
  unfold stepW at h0 ⊢
  split at h0
  · rename_i hc
    rw [if_pos hc]
    exact ⟨⟨hc.1.1, hc.1.2, hc.2⟩, rfl⟩
  · omega
theorem path_m {i : Nat} : (pathM ms needs prices peak sw (i + 1)).1 = ((argT (stepW ms needs prices peak (leastV ms needs prices peak (23 - i)) i (pathM ms needs prices peak sw i).1 (pathM ms needs prices peak sw i).2) ms.length : Nat) : Int) := rfl
theorem path_l {i : Nat} : (pathM ms needs prices peak sw (i + 1)).2 = leftS (pathM ms needs prices peak sw i).1 (pathM ms needs prices peak sw i).2 (pathM ms needs prices peak sw (i + 1)).1 := rfl
theorem path_s {i : Nat} (hi : i < 24) (h : 0 ≤ leastV ms needs prices peak (24 - i) (pathM ms needs prices peak sw i).1 (pathM ms needs prices peak sw i).2) :
    (0 ≤ (pathM ms needs prices peak sw (i + 1)).1 ∧ (pathM ms needs prices peak sw (i + 1)).1 < ms.length) ∧ fitH ms needs peak i (pathM ms needs prices peak sw (i + 1)).1 = true ∧ 0 ≤ (pathM ms needs prices peak sw (i + 1)).2 ∧
    0 ≤ leastV ms needs prices peak (23 - i) (pathM ms needs prices peak sw (i + 1)).1 (pathM ms needs prices peak sw (i + 1)).2 ∧
    leastV ms needs prices peak (24 - i) (pathM ms needs prices peak sw i).1 (pathM ms needs prices peak sw i).2 = leastV ms needs prices peak (23 - i) (pathM ms needs prices peak sw (i + 1)).1 (pathM ms needs prices peak sw (i + 1)).2 + costM (ms.getD (pathM ms needs prices peak sw (i + 1)).1.toNat default) (prices.getD i 0) := by
  rw [leastV_h hi] at h ⊢
  obtain ⟨h1, h2, h3⟩ := bestT_arg h
  rw [← h2] at h ⊢
  obtain ⟨⟨h4, h5, h6⟩, h7⟩ := stepW_inv h
  rw [h7]
  refine ⟨by rw [path_m]; omega, by rw [path_m]; exact h5, by rw [path_l, path_m]; exact h4, by rw [path_l, path_m]; exact h6, ?_⟩
  rw [path_l, path_m, Int.toNat_natCast, Int.toNat_natCast]
theorem path_ok (h : 0 ≤ leastV ms needs prices peak 24 (-1) sw) (hs : 0 ≤ sw) : ∀ i : Nat, i ≤ 24 → 0 ≤ leastV ms needs prices peak (24 - i) (pathM ms needs prices peak sw i).1 (pathM ms needs prices peak sw i).2 ∧ 0 ≤ (pathM ms needs prices peak sw i).2 ∧ (pathM ms needs prices peak sw i).2 ≤ sw
  | 0, _ => ⟨h, hs, Int.le_refl _⟩
  | i + 1, hi => by
    have ih := path_ok h hs i (by omega)
    have := path_s (by omega) ih.1
    refine ⟨by rw [show 24 - (i + 1) = 23 - i by omega]; exact this.2.2.2.1, this.2.2.1, ?_⟩
    rw [path_l]; unfold leftS; split <;> omega
theorem dayN_s {i : Nat} : dayN ms needs prices peak sw (i + 1) = dayN ms needs prices peak sw i ++ [(pathM ms needs prices peak sw (i + 1)).1] := rfl
theorem dayN_len : ∀ i : Nat, (dayN ms needs prices peak sw i).length = i
  | 0 => rfl
  | i + 1 => by simp [dayN, dayN_len i]
theorem dayN_get : ∀ {n i : Nat}, i < n → (dayN ms needs prices peak sw n).getD i 0 = (pathM ms needs prices peak sw (i + 1)).1
  | n + 1, i, h => by
    have hl := dayN_len (ms := ms) (needs := needs) (prices := prices) (peak := peak) (sw := sw) n
    simp only [dayN, List.getD_eq_getElem?_getD]
    by_cases e : i = n
    · subst e
      rw [List.getElem?_append_right (by omega), hl, Nat.sub_self]; rfl
    · rw [List.getElem?_append_left (by omega), ← List.getD_eq_getElem?_getD, dayN_get (by omega)]
theorem dayN_b (h : 0 ≤ leastV ms needs prices peak 24 (-1) sw) (hs : 0 ≤ sw) {i : Nat} (hi : i < 24) : (0 ≤ (dayN ms needs prices peak sw 24).getD i 0 ∧ (dayN ms needs prices peak sw 24).getD i 0 < ms.length) ∧ fitH ms needs peak i ((dayN ms needs prices peak sw 24).getD i 0) = true := by
  rw [dayN_get hi]
  have := path_s hi (path_ok h hs i (by omega)).1
  exact ⟨this.1, this.2.1⟩
theorem day_cost (h : 0 ≤ leastV ms needs prices peak 24 (-1) sw) (hs : 0 ≤ sw) : ∀ n : Nat, n ≤ 24 → costTo ms prices (dayN ms needs prices peak sw 24) n + leastV ms needs prices peak (24 - n) (pathM ms needs prices peak sw n).1 (pathM ms needs prices peak sw n).2 = leastV ms needs prices peak 24 (-1) sw
  | 0, _ => by simp [costTo, pathM]
  | n + 1, hn => by
    have ih := day_cost h hs n (by omega)
    have := path_s (by omega) (path_ok h hs n (by omega)).1
    rw [show 24 - (n + 1) = 23 - n by omega]
    simp only [costTo, modeAt]
    rw [dayN_get (by omega)]
    omega
theorem day_sum (h : 0 ≤ leastV ms needs prices peak 24 (-1) sw) (hs : 0 ≤ sw) : costTo ms prices (dayN ms needs prices peak sw 24) 24 = leastV ms needs prices peak 24 (-1) sw := by
  have := day_cost h hs 24 (by omega)
  simpa [leastV] using this
theorem day_hours (h : 0 ≤ leastV ms needs prices peak 24 (-1) sw) (hs : 0 ≤ sw) : okHours (dayN ms needs prices peak sw 24) (ms.length - 1) = true := by
  refine okHours_iff.2 ⟨dayN_len 24, fun j hj => ?_⟩
  have := dayN_b h hs (i := j) (by omega)
  omega
/-- with switches enough each hour is by itself -/
def costF (ms : List GMode) (needs prices : List Int) (peak h : Int) (j : Nat) : Int := if fitH ms needs peak h j = true then costM (ms.getD j default) (prices.getD h.toNat 0) else -1
def restF (ms : List GMode) (needs prices : List Int) (peak : Int) : Nat → Int
  | 0 => 0
  | k + 1 => if 0 ≤ restF ms needs prices peak k ∧ 0 ≤ bestT (costF ms needs prices peak (23 - k)) ms.length then bestT (costF ms needs prices peak (23 - k)) ms.length + restF ms needs prices peak k else -1
theorem left_ge {m s j : Int} : s - 1 ≤ leftS m s j := by unfold leftS; split <;> omega
theorem step_free (ho : okModes ms = true) (hp : okHours prices 1000 = true) {k : Nat} (hk : k < 24) {m s R : Int} (hs : (k : Int) + 1 ≤ s) (hR : ∀ m s : Int, (k : Int) ≤ s → leastV ms needs prices peak k m s = R) {j : Nat} (hj : j < ms.length) :
    stepW ms needs prices peak (leastV ms needs prices peak k) (23 - k) m s j = if 0 ≤ R then (if 0 ≤ costF ms needs prices peak (23 - k) j then costF ms needs prices peak (23 - k) j + R else -1) else -1 := by
  have hl := left_ge (m := m) (s := s) (j := j)
  have hc := (costM_b (mode_b ho hj) (price_b hp (h := 23 - k) (by omega) (by omega))).2
  have e := hR j (leftS m s j) (by omega)
  unfold stepW costF
  rw [e]
  by_cases hf : fitH ms needs peak (23 - k) j = true
  · simp only [hf, and_true, if_true]
    by_cases h0 : 0 ≤ R
    · rw [if_pos ⟨by omega, h0⟩, if_pos h0, if_pos hc.1]; omega
    · rw [if_neg (fun h => h0 h.2), if_neg h0]
  · rw [if_neg (fun h => hf h.1.2), if_neg hf]
    simp
theorem least_free (ho : okModes ms = true) (hp : okHours prices 1000 = true) : ∀ (k : Nat), k ≤ 24 → ∀ m s : Int, (k : Int) ≤ s → leastV ms needs prices peak k m s = restF ms needs prices peak k
  | 0, _, _, _, _ => rfl
  | k + 1, hk, m, s, hs => by
    have ih := least_free ho hp k (by omega)
    have hg := fun j (hj : j < ms.length) => step_free (needs := needs) (peak := peak) (m := m) (s := s) ho hp (k := k) (by omega) (by omega) ih hj
    rw [leastV_s, (bestT_congr hg).1]
    simp only [restF]
    by_cases h0 : 0 ≤ restF ms needs prices peak k
    · simp only [h0, if_true, true_and]
      rw [(bestT_add (g := costF ms needs prices peak (23 - k)) h0).1]
    · rw [if_neg (fun h => h0 h.1)]
      simp only [h0, if_false]
      exact bestT_at (.inl ⟨rfl, fun i hi => by omega⟩)
theorem rest_at {k : Nat} (h : 0 ≤ restF ms needs prices peak (k + 1)) : 0 ≤ restF ms needs prices peak k ∧ 0 ≤ bestT (costF ms needs prices peak (23 - k)) ms.length := by
  simp only [restF] at h
  split at h
  · assumption
  · omega
theorem arg_free (ho : okModes ms = true) (hp : okHours prices 1000 = true) {k : Nat} (hk : k < 24) {m s : Int} (hs : (k : Int) + 1 ≤ s) (h : 0 ≤ restF ms needs prices peak (k + 1)) : argT (stepW ms needs prices peak (leastV ms needs prices peak k) (23 - k) m s) ms.length = argT (costF ms needs prices peak (23 - k)) ms.length := by
  have h1 := rest_at h
  have hg := fun j (hj : j < ms.length) => step_free (needs := needs) (peak := peak) (m := m) (s := s) ho hp (k := k) hk hs (fun m s hs => least_free ho hp k (by omega) m s hs) hj
  rw [(bestT_congr hg).2]
  simp only [h1.1, if_true]
  exact (bestT_add (g := costF ms needs prices peak (23 - k)) h1.1).2 h1.2
/-- the day, hour by hour -/
def freeN (ms : List GMode) (needs prices : List Int) (peak : Int) : Nat → List Int
  | 0 => []
  | i + 1 => freeN ms needs prices peak i ++ [((argT (costF ms needs prices peak i) ms.length : Nat) : Int)]
theorem freeN_c {i : Nat} : freeN ms needs prices peak (i + 1) = freeN ms needs prices peak i ++ [((argT (costF ms needs prices peak i) ms.length : Nat) : Int)] := rfl
theorem freeN_0 : [] = freeN ms needs prices peak 0 := rfl
theorem rest_all (h : 0 ≤ restF ms needs prices peak 24) : ∀ k : Nat, k ≤ 24 → 0 ≤ restF ms needs prices peak (24 - k)
  | 0, _ => h
  | k + 1, hk => by
    have ih := rest_all h k (by omega)
    rw [show 24 - k = (24 - (k + 1)) + 1 by omega] at ih
    exact (rest_at ih).1
theorem rest_hour (h : 0 ≤ restF ms needs prices peak 24) {i : Nat} (hi : i < 24) : 0 ≤ bestT (costF ms needs prices peak i) ms.length := by
  have h1 := rest_all h i (by omega)
  rw [show 24 - i = (23 - i) + 1 by omega] at h1
  have := (rest_at h1).2
  rwa [show (23 : Int) - ((23 - i : Nat) : Int) = (i : Int) by omega] at this
theorem rest_of (h : ∀ i : Nat, i < 24 → 0 ≤ bestT (costF ms needs prices peak i) ms.length) : ∀ k : Nat, k ≤ 24 → 0 ≤ restF ms needs prices peak k
  | 0, _ => by simp [restF]
  | k + 1, hk => by
    have ih := rest_of h k (by omega)
    have h1 := h (23 - k) (by omega)
    rw [show ((23 - k : Nat) : Int) = 23 - (k : Int) by omega] at h1
    simp only [restF]
    rw [if_pos ⟨ih, h1⟩]; omega
theorem day_free (ho : okModes ms = true) (hp : okHours prices 1000 = true) (h : 0 ≤ restF ms needs prices peak 24) : ∀ i : Nat, i ≤ 24 → dayN ms needs prices peak 24 i = freeN ms needs prices peak i ∧ 24 - (i : Int) ≤ (pathM ms needs prices peak 24 i).2
  | 0, _ => ⟨rfl, by simp [pathM]⟩
  | i + 1, hi => by
    have ih := day_free ho hp h i (by omega)
    have hr := rest_all h i (by omega)
    rw [show 24 - i = (23 - i) + 1 by omega] at hr
    have ha := arg_free (needs := needs) (peak := peak) (m := (pathM ms needs prices peak 24 i).1) (s := (pathM ms needs prices peak 24 i).2) ho hp (k := 23 - i) (by omega) (by have := ih.2; omega) hr
    rw [show (23 : Int) - ((23 - i : Nat) : Int) = (i : Int) by omega] at ha
    refine ⟨?_, ?_⟩
    · simp only [dayN, freeN, ih.1]
      rw [path_m, ha]
    · rw [path_l]
      have := left_ge (m := (pathM ms needs prices peak 24 i).1) (s := (pathM ms needs prices peak 24 i).2) (j := (pathM ms needs prices peak 24 (i + 1)).1)
      have := ih.2
      omega
end
/-- the best day as the program finds it -/
def bestD (ms : List GMode) (needs prices : List Int) (sw peak : Int) : List Int × Int × Int :=
  if okModes ms = true then (if okHours needs 100000 = true ∧ okHours prices 1000 = true ∧ inR sw 0 24 = true then (if leastV ms needs prices peak 24 (-1) sw < 0 then ([], 0, 3) else (dayN ms needs prices peak sw 24, leastV ms needs prices peak 24 (-1) sw, 0)) else ([], 0, 2)) else ([], 0, 1)
end Go.Proofs.YticilhlmmakbkaaDoor
