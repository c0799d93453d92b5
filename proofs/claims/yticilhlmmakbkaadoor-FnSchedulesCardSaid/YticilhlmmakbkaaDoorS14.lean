/- Contracts of functions of the program, and what they compute. Conditions: those that each theorem states. -/
import Derived.Test.YticilhlmmakbkaaDoorProg
import Derived.Test.YticilhlmmakbkaaDoorS3
import Derived.Test.YticilhlmmakbkaaDoorK23
set_option linter.unusedVariables false
set_option linter.unusedSimpArgs false
namespace Go.Proofs.YticilhlmmakbkaaDoor
open Go.Av
attribute [local irreducible] Go.IntKind.wrap okModes okMode bestT argT costM
set_option maxRecDepth 20000
set_option maxHeartbeats 4000000

/-! The switches of a day; more switches never cost more. -/
def swN (day : List Int) : Nat → Int
  | 0 => 0
  | n + 1 => swN day n + (if 0 < n ∧ ¬day.getD n 0 = day.getD (n - 1) 0 then 1 else 0)
def switchesOf (day : List Int) : Int × Int := if okHours day 7 = true then (swN day 24, 0) else (0, 2)
theorem swN_b {day : List Int} : ∀ n : Nat, 0 ≤ swN day n ∧ swN day n ≤ n
  | 0 => by simp [swN]
  | n + 1 => by have := swN_b (day := day) n; simp only [swN]; split <;> omega
theorem swN_s {day : List Int} {h : Int} (h0 : 1 ≤ h) (hc : ¬day.getD h.toNat 0 = day.getD (h - 1).toNat 0) : swN day h.toNat + 1 = swN day (h + 1).toNat := by
  rw [show (h + 1).toNat = h.toNat + 1 by omega]
  simp only [swN]
  rw [if_pos ⟨by omega, by rw [show h.toNat - 1 = (h - 1).toNat by omega]; exact hc⟩]
theorem swN_k {day : List Int} {h : Int} (h0 : 1 ≤ h) (hc : day.getD h.toNat 0 = day.getD (h - 1).toNat 0) : swN day h.toNat = swN day (h + 1).toNat := by
  rw [show (h + 1).toNat = h.toNat + 1 by omega]
  simp only [swN]
  rw [if_neg (fun q => q.2 (by rw [show h.toNat - 1 = (h - 1).toNat by omega]; exact hc))]; omega
attribute [local irreducible] okHours
section
variable {ms : List GMode} {needs prices : List Int} {peak sw : Int}
theorem day_sw : ∀ n : Nat, n ≤ 24 → swN (dayN ms needs prices peak sw 24) n + (pathM ms needs prices peak sw n).2 = sw
  | 0, _ => by simp [swN, pathM]
  | n + 1, hn => by
    have ih := day_sw n (by omega)
    rw [path_l]
    simp only [swN]
    rw [dayN_get (by omega)]
    unfold leftS
    cases n with
    | zero =>
      rw [if_neg (by omega), if_neg (by unfold pathM; simp)]
      omega
    | succ j =>
      rw [show j + 1 - 1 = j from rfl, dayN_get (n := 24) (i := j) (by omega)]
      have hm : 0 ≤ (pathM ms needs prices peak sw (j + 1)).1 := by rw [path_m]; omega
      by_cases e : (pathM ms needs prices peak sw (j + 1 + 1)).1 = (pathM ms needs prices peak sw (j + 1)).1
      · rw [if_neg (fun q => q.2 e), if_neg (fun q => q.2 e.symm)]; omega
      · rw [if_pos ⟨by omega, e⟩, if_pos ⟨hm, fun q => e q.symm⟩]; omega
theorem day_switch (ho : okModes ms = true) (h : 0 ≤ leastV ms needs prices peak 24 (-1) sw) (hs : 0 ≤ sw) : ∃ m, switchesOf (dayN ms needs prices peak sw 24) = (m, 0) ∧ m ≤ sw := by
  have hb := (okModes_p ho).1
  have e : okHours (dayN ms needs prices peak sw 24) 7 = true := okHours_iff.2 ⟨dayN_len 24, fun j hj => by have := dayN_b h hs (i := j) (by omega); omega⟩
  refine ⟨_, if_pos e, ?_⟩
  have := day_sw (ms := ms) (needs := needs) (prices := prices) (peak := peak) (sw := sw) 24 (by omega)
  have := (path_ok h hs 24 (by omega)).2.1
  omega
theorem day_is (ho : okModes ms = true) (hn : okHours needs 100000 = true) (h : 0 ≤ leastV ms needs prices peak 24 (-1) sw) (hs : 0 ≤ sw) : isDay ms needs (dayN ms needs prices peak sw 24) = true := by
  unfold isDay
  rw [ho, hn, day_hours h hs]
  simp only [Bool.true_and]
  refine List.all_eq_true.2 fun j hj => ?_
  have hj := List.mem_range.1 hj
  have q := (dayN_b h hs (i := j) hj).2
  unfold fitH at q
  simp only [Bool.and_eq_true, decide_eq_true_eq, Int.toNat_natCast] at q
  unfold fitsM modeAt
  exact decide_eq_true q.1
theorem day_dc (ho : okModes ms = true) (hp : okHours prices 1000 = true) (h : 0 ≤ leastV ms needs prices peak 24 (-1) sw) (hs : 0 ≤ sw) : dayCost ms prices (dayN ms needs prices peak sw 24) = (leastV ms needs prices peak 24 (-1) sw, 0) := by
  unfold dayCost
  rw [if_pos ho, hp, day_hours h hs]
  simp only [Bool.and_self, if_true]
  rw [day_sum h hs]
theorem left_mono {m s s' j : Int} (h : s ≤ s') : leftS m s j ≤ leftS m s' j := by unfold leftS; split <;> omega
theorem least_mono (ho : okModes ms = true) (hp : okHours prices 1000 = true) : ∀ (k : Nat) (m s s' : Int), k ≤ 24 → s ≤ s' → 0 ≤ leastV ms needs prices peak k m s → 0 ≤ leastV ms needs prices peak k m s' ∧ leastV ms needs prices peak k m s' ≤ leastV ms needs prices peak k m s
  | 0, _, _, _, _, _, _ => by simp [leastV]
  | k + 1, m, s, s', hk, hs, h => by
    simp only [leastV_s] at h ⊢
    obtain ⟨h1, h2, h3⟩ := bestT_arg h
    rw [← h2] at h ⊢
    obtain ⟨⟨h4, h5, h6⟩, h7⟩ := stepW_inv h
    have hl := left_mono (m := m) (j := argT (stepW ms needs prices peak (leastV ms needs prices peak k) (23 - k) m s) ms.length) hs
    have ih := least_mono ho hp k _ _ _ (by omega) hl h6
    have hc := (costM_b (mode_b ho h1) (price_b hp (h := 23 - (k : Int)) (by omega) (by omega))).2.1
    have e := stepW_t (prices := prices) (L := leastV ms needs prices peak k) (h := 23 - k) (m := m) (s := s') (j := argT (stepW ms needs prices peak (leastV ms needs prices peak k) (23 - k) m s) ms.length) (by omega) h5 ih.1
    have h8 : stepW ms needs prices peak (leastV ms needs prices peak k) (23 - k) m s' (argT (stepW ms needs prices peak (leastV ms needs prices peak k) (23 - k) m s) ms.length) ≤ stepW ms needs prices peak (leastV ms needs prices peak k) (23 - k) m s (argT (stepW ms needs prices peak (leastV ms needs prices peak k) (23 - k) m s) ms.length) := by omega
    have h9 : 0 ≤ stepW ms needs prices peak (leastV ms needs prices peak k) (23 - k) m s' (argT (stepW ms needs prices peak (leastV ms needs prices peak k) (23 - k) m s) ms.length) := by omega
    have q := bestT_le h1 h9
    omega
end
end Go.Proofs.YticilhlmmakbkaaDoor
