/- Contracts of functions of the program, and what they compute. Conditions: those that each theorem states. -/
import Derived.Test.YticilhlmmakbkaaDoorProg
import Derived.Test.YticilhlmmakbkaaDoorS16
set_option linter.unusedVariables false
set_option linter.unusedSimpArgs false
namespace Go.Proofs.YticilhlmmakbkaaDoor
open Go.Av
attribute [local irreducible] Go.IntKind.wrap okModes okMode bestT argT costM okHours leastV restF freeN dayN pathM peakT powF
set_option maxRecDepth 20000
set_option maxHeartbeats 4000000

/-! What the law of schedules says: plain facts. -/
section
variable {ms : List GMode} {needs prices day : List Int}
theorem cost_is (ho : okModes ms = true) (hp : okHours prices 1000 = true) (h : okHours day (ms.length - 1) = true) : dayCost ms prices day = (costTo ms prices day 24, 0) := by
  unfold dayCost
  rw [if_pos ho, hp, h]
  simp only [Bool.and_self, if_true]
theorem sched_any (h0 : (bestD ms needs prices 24 10000000).2.2 = 0) (h : isDay ms needs day = true) : (dayCost ms prices day).2 = 0 ∧ (bestD ms needs prices 24 10000000).2.1 ≤ (dayCost ms prices day).1 ∧ (peakPow ms day).2 = 0 ∧ (peakPow ms (bestD ms needs prices 24 (peakT ms needs 24)).1).1 ≤ (peakPow ms day).1 := by
  obtain ⟨⟨ho, hn, hp⟩, hs, hl, e⟩ := calmOk h0
  obtain ⟨_, _, h2, h3⟩ := isDay_p h
  have hf := flat_least (prices := prices) ho hn hp fun j hj => flat_hours h hj
  rw [e, bestD_ok ho hn hp hf, cost_is ho hp h2, peak_top ho h2, peak_top ho (day_hours hf (by omega))]
  refine ⟨rfl, (best_cost ho hn hp h).2, rfl, ?_⟩
  have q1 := top_ge h 24 (by omega)
  have q2 := top_le (ms := ms) (day := dayN ms needs prices (peakT ms needs 24) 24 24) (peakT_b (needs := needs) ho 24).1 (fun j hj => day_pow hf hj) 24 (by omega)
  dsimp only
  omega
theorem sched_two (h0 : (bestD ms needs prices 24 10000000).2.2 = 0) : isDay ms needs (bestD ms needs prices 24 10000000).1 = true ∧ isDay ms needs (bestD ms needs prices 24 (peakT ms needs 24)).1 = true ∧ (dayCost ms prices (bestD ms needs prices 24 10000000).1).1 = (bestD ms needs prices 24 10000000).2.1 ∧ (dayCost ms prices (bestD ms needs prices 24 (peakT ms needs 24)).1).1 = (bestD ms needs prices 24 (peakT ms needs 24)).2.1 ∧ okHours (bestD ms needs prices 24 10000000).1 7 = true := by
  obtain ⟨⟨ho, hn, hp⟩, hs, hl, e⟩ := calmOk h0
  have hd := day_is ho hn hl (by omega)
  have hf := flat_least (prices := prices) ho hn hp fun j hj => flat_hours hd hj
  have hb := (okModes_p ho).1
  rw [e, bestD_ok ho hn hp hf, day_dc ho hp hl (by omega), day_dc ho hp hf (by omega)]
  refine ⟨hd, day_is ho hn hf (by omega), rfl, rfl, okHours_iff.2 ⟨dayN_len 24, fun j hj => ?_⟩⟩
  have := dayN_b hl (by omega) (i := j) (by omega)
  dsimp only
  omega
end
end Go.Proofs.YticilhlmmakbkaaDoor
