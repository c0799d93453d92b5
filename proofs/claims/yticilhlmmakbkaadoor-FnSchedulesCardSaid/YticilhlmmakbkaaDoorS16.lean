/- Contracts of functions of the program, and what they compute. Conditions: those that each theorem states. -/
import Derived.Test.YticilhlmmakbkaaDoorProg
import Derived.Test.YticilhlmmakbkaaDoorS8
import Derived.Test.YticilhlmmakbkaaDoorS14
import Derived.Test.YticilhlmmakbkaaDoorK15b
set_option linter.unusedVariables false
set_option linter.unusedSimpArgs false
namespace Go.Proofs.YticilhlmmakbkaaDoor
open Go.Av
attribute [local irreducible] Go.IntKind.wrap okModes okMode bestT argT costM okHours leastV restF freeN dayN pathM peakT powF
set_option maxRecDepth 20000
set_option maxHeartbeats 4000000

/-! The cheapest and the flattest day: plain facts. -/
section
variable {ms : List GMode} {needs prices day : List Int} {peak peak' : Int}
/-- what a day that fits gives hour by hour -/
theorem isDay_p (h : isDay ms needs day = true) : okModes ms = true ∧ okHours needs 100000 = true ∧ okHours day (ms.length - 1) = true ∧ ∀ j : Nat, j < 24 → needs.getD j 0 ≤ (ms.getD (day.getD j 0).toNat default).flow := by
  unfold isDay at h
  simp only [Bool.and_eq_true] at h
  refine ⟨h.1.1.1, h.1.1.2, h.1.2, fun j hj => ?_⟩
  have := List.all_eq_true.1 h.2 j (List.mem_range.2 hj)
  exact of_decide_eq_true this
theorem day_ix (h : okHours day (ms.length - 1) = true) {j : Nat} (hj : j < 24) : 0 ≤ day.getD j 0 ∧ (day.getD j 0).toNat < ms.length := by
  have := (okHours_iff.1 h).2 j (by omega); omega
/-- the greatest power of a day -/
def topP (ms : List GMode) (day : List Int) : Nat → Int
  | 0 => 0
  | n + 1 => max (topP ms day n) (ms.getD (day.getD n 0).toNat default).power
theorem fold_top : ∀ n : Nat, n ≤ day.length → (day.take n).foldl (peakP ms) 0 = topP ms day n
  | 0, _ => rfl
  | n + 1, h => by
    rw [List.take_succ_eq_append_getElem (by omega), List.foldl_append, fold_top n (by omega)]
    have e : day.getD n 0 = day[n] := by rw [List.getD_eq_getElem?_getD, List.getElem?_eq_getElem (show n < day.length by omega), Option.getD_some]
    simp only [List.foldl_cons, List.foldl_nil, topP, peakP, e]
theorem peak_top (ho : okModes ms = true) (h : okHours day (ms.length - 1) = true) : peakPow ms day = (topP ms day 24, 0) := by
  have hl := (okHours_iff.1 h).1
  unfold peakPow
  rw [if_pos ho, if_pos h, ← fold_top 24 (by omega), List.take_of_length_le (by omega)]
/-- no day that fits has a lower peak -/
theorem top_ge (h : isDay ms needs day = true) : ∀ n : Nat, n ≤ 24 → peakT ms needs n ≤ topP ms day n
  | 0, _ => by simp [peakT, topP]
  | n + 1, hn => by
    obtain ⟨ho, h1, h2, h3⟩ := isDay_p h
    have ih := top_ge h n (by omega)
    have q := day_ix h2 (j := n) (by omega)
    have hm := mode_b ho q.2
    have e : powF ms needs n (day.getD n 0).toNat = (ms.getD (day.getD n 0).toNat default).power := by
      unfold powF; rw [if_pos (by simpa using h3 n (by omega))]
    have := (bestT_le (g := powF ms needs n) q.2 (by rw [e]; exact hm.1)).2
    rw [e] at this
    simp only [peakT, topP]
    omega
theorem top_le (hp : 0 ≤ peak) (h : ∀ j : Nat, j < 24 → (ms.getD (day.getD j 0).toNat default).power ≤ peak) : ∀ n : Nat, n ≤ 24 → topP ms day n ≤ peak
  | 0, _ => by simp [topP]; omega
  | n + 1, hn => by
    have ih := top_le hp h n (by omega)
    have := h n (by omega)
    simp only [topP]; omega
/-- no day that fits costs less than all hours by themselves -/
theorem cost_ge (h : isDay ms needs day = true) (hp : okHours prices 1000 = true) : ∀ n : Nat, n ≤ 24 → 0 ≤ restF ms needs prices 10000000 n ∧ restF ms needs prices 10000000 n + costTo ms prices day (24 - n) ≤ costTo ms prices day 24
  | 0, _ => by simp [restF]
  | n + 1, hn => by
    obtain ⟨ho, h1, h2, h3⟩ := isDay_p h
    have ih := cost_ge h hp n (by omega)
    have q := day_ix h2 (j := 23 - n) (by omega)
    have hm := mode_b ho q.2
    have hc := (costM_b hm (price_b hp (h := 23 - (n : Int)) (by omega) (by omega))).2.1
    have e : costF ms needs prices 10000000 (23 - n) (day.getD (23 - n) 0).toNat = costM (ms.getD (day.getD (23 - n) 0).toNat default) (prices.getD (23 - n) 0) := by
      unfold costF fitH
      rw [show (23 - (n : Int)).toNat = 23 - n by omega, if_pos]
      simp only [Int.toNat_natCast, Bool.and_eq_true, decide_eq_true_eq]
      exact ⟨h3 (23 - n) (by omega), hm.2⟩
    rw [show (23 - (n : Int)).toNat = 23 - n by omega] at hc
    have hb := bestT_le (g := costF ms needs prices 10000000 (23 - n)) q.2 (by rw [e]; exact hc)
    rw [e] at hb
    have hs : costTo ms prices day (24 - n) = costTo ms prices day (24 - (n + 1)) + costM (ms.getD (day.getD (23 - n) 0).toNat default) (prices.getD (23 - n) 0) := by
      rw [show 24 - n = (23 - n) + 1 by omega, show 24 - (n + 1) = 23 - n by omega]; rfl
    have er : restF ms needs prices 10000000 (n + 1) = bestT (costF ms needs prices 10000000 (23 - n)) ms.length + restF ms needs prices 10000000 n := by
      simp only [restF]; rw [if_pos ⟨ih.1, hb.1⟩]
    rw [er]
    omega
theorem day_pow (h : 0 ≤ leastV ms needs prices peak 24 (-1) 24) {j : Nat} (hj : j < 24) : (ms.getD ((dayN ms needs prices peak 24 24).getD j 0).toNat default).power ≤ peak := by
  have q := (dayN_b h (by omega) hj).2
  unfold fitH at q
  simp only [Bool.and_eq_true, decide_eq_true_eq] at q
  exact q.2
/-- days are cheaper than told, those with other peaks too -/
theorem best_cost (ho : okModes ms = true) (hn : okHours needs 100000 = true) (hp : okHours prices 1000 = true) (h : isDay ms needs day = true) : 0 ≤ leastV ms needs prices 10000000 24 (-1) 24 ∧ leastV ms needs prices 10000000 24 (-1) 24 ≤ costTo ms prices day 24 := by
  rw [least_free ho hp 24 (by omega) (-1) 24 (by omega)]
  have q := cost_ge h hp 24 (by omega)
  refine ⟨q.1, ?_⟩
  have := q.2
  rw [show costTo ms prices day (24 - 24) = 0 from rfl] at this
  omega
theorem flat_hours (h : isDay ms needs day = true) {j : Nat} (hj : j < 24) : 0 ≤ bestT (powF ms needs j) ms.length := by
  obtain ⟨ho, h1, h2, h3⟩ := isDay_p h
  have q := day_ix h2 hj
  have hm := mode_b ho q.2
  refine (bestT_le q.2 ?_).1
  unfold powF; rw [if_pos (by simpa using h3 j hj)]; exact hm.1
theorem calmOk {sw : Int} (h : (bestD ms needs prices sw peak).2.2 = 0) : (okModes ms = true ∧ okHours needs 100000 = true ∧ okHours prices 1000 = true) ∧ (0 ≤ sw ∧ sw ≤ 24) ∧ 0 ≤ leastV ms needs prices peak 24 (-1) sw ∧ bestD ms needs prices sw peak = (dayN ms needs prices peak sw 24, leastV ms needs prices peak 24 (-1) sw, 0) := by
  unfold bestD at *
  split at h
  · rename_i h1
    rw [if_pos h1]
    split at h
    · rename_i h2
      rw [if_pos h2]
      split at h
      · cases h
      · rename_i h3; rw [if_neg h3]; exact ⟨⟨h1, h2.1, h2.2.1⟩, inR_iff.1 h2.2.2, by omega, rfl⟩
    · cases h
  · cases h
/-- what the law says of the two days -/
theorem bestD_ask (h : ¬(bestD ms needs prices 24 peak).2.2 = 0) : (bestD ms needs prices 24 peak).2.2 = 1 ∧ okModes ms = false ∨ (bestD ms needs prices 24 peak).2.2 = 2 ∧ okModes ms = true ∧ ¬(okHours needs 100000 = true ∧ okHours prices 1000 = true) ∨ (bestD ms needs prices 24 peak).2.2 = 3 ∧ (okModes ms = true ∧ okHours needs 100000 = true ∧ okHours prices 1000 = true) ∧ leastV ms needs prices peak 24 (-1) 24 < 0 := by
  unfold bestD at *
  by_cases h1 : okModes ms = true
  · rw [if_pos h1] at h ⊢
    by_cases h2 : okHours needs 100000 = true ∧ okHours prices 1000 = true
    · rw [if_pos ⟨h2.1, h2.2, by decide⟩] at h ⊢
      by_cases h3 : leastV ms needs prices peak 24 (-1) 24 < 0
      · rw [if_pos h3]; exact .inr (.inr ⟨rfl, ⟨h1, h2⟩, h3⟩)
      · rw [if_neg h3] at h; exact absurd rfl h
    · rw [if_neg (fun q => h2 ⟨q.1, q.2.1⟩)]; exact .inr (.inl ⟨rfl, h1, h2⟩)
  · rw [if_neg h1]; exact .inl ⟨rfl, by simpa using h1⟩
theorem bestD_ok (ho : okModes ms = true) (hn : okHours needs 100000 = true) (hp : okHours prices 1000 = true) (h : 0 ≤ leastV ms needs prices peak 24 (-1) 24) : bestD ms needs prices 24 peak = (dayN ms needs prices peak 24 24, leastV ms needs prices peak 24 (-1) 24, 0) := by
  unfold bestD; rw [if_pos ho, if_pos ⟨hn, hp, by decide⟩, if_neg (by omega)]
theorem flat_least (ho : okModes ms = true) (hn : okHours needs 100000 = true) (hp : okHours prices 1000 = true) (h : ∀ j : Nat, j < 24 → 0 ≤ bestT (powF ms needs j) ms.length) : 0 ≤ leastV ms needs prices (peakT ms needs 24) 24 (-1) 24 := by
  have ha : askD ms needs prices = 0 := by unfold askD; rw [if_pos ho, if_pos ⟨hn, hp⟩]
  have q := flat_yes ha (fun j hj => h j (by omega))
  unfold freeB at q
  rw [least_free ho hp 24 (by omega) (-1) 24 (by omega)]
  split at q
  · assumption
  · cases q
/-- the codes of both are the same -/
theorem two_codes : (bestD ms needs prices 24 10000000).2.2 = (bestD ms needs prices 24 (peakT ms needs 24)).2.2 := by
  by_cases h1 : (bestD ms needs prices 24 10000000).2.2 = 0
  · obtain ⟨⟨ho, hn, hp⟩, hs, hl, e⟩ := calmOk h1
    have hd := day_is ho hn hl (by omega)
    rw [h1, bestD_ok ho hn hp (flat_least ho hn hp fun j hj => flat_hours hd hj)]
  · by_cases h2 : (bestD ms needs prices 24 (peakT ms needs 24)).2.2 = 0
    · obtain ⟨⟨ho, hn, hp⟩, hs, hl, e⟩ := calmOk h2
      have hd := day_is ho hn hl (by omega)
      have q := best_cost ho hn hp hd
      exact absurd (by rw [bestD_ok ho hn hp q.1]) h1
    · rcases bestD_ask h1 with ⟨a, b⟩ | ⟨a, b, c⟩ | ⟨a, b, c⟩ <;> rcases bestD_ask h2 with ⟨a', b'⟩ | ⟨a', b', c'⟩ | ⟨a', b', c'⟩ <;> first | omega | (exfalso; simp_all; done)
end
end Go.Proofs.YticilhlmmakbkaaDoor
