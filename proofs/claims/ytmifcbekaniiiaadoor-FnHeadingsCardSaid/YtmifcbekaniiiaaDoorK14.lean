/- Contracts of functions of the program, and what they compute. Conditions: those that each theorem states. -/
import Derived.Test.YtmifcbekaniiiaaDoorProg
import Derived.Test.YtmifcbekaniiiaaDoorK13
set_option linter.unusedVariables false
set_option linter.unusedSimpArgs false
namespace Go.Proofs.YtmifcbekaniiiaaDoor
open Go.Av
attribute [local irreducible] Go.IntKind.wrap clearI gasN mostG stepG leastI
set_option maxRecDepth 20000
set_option maxHeartbeats 2000000

theorem step_gas {x : GHeading} {g g' q : Int} (hv : okHeading x = true) (h0 : 0 ≤ g') (h1 : g' ≤ g) (hq : 0 ≤ q) : stepG x g' q ≤ stepG x g q := by
  have hb := okHeading_b hv
  have e1 : 0 ≤ g' * q := Int.mul_nonneg h0 hq
  have e2 : g' * q ≤ g * q := Int.mul_le_mul_of_nonneg_right h1 hq
  unfold stepG
  rw [Int.tdiv_eq_ediv_of_nonneg e1, Int.tdiv_eq_ediv_of_nonneg (by omega)]
  have hD1 : 1 ≤ 100 * x.volume := by omega
  generalize 100 * x.volume = D at *
  by_cases hqD : D ≤ q
  · have a1 : g' ≤ g' * q / D := by
      rw [Int.le_ediv_iff_mul_le (by omega)]
      exact Int.mul_le_mul_of_nonneg_left hqD h0
    omega
  · have a2 : g * q ≤ g' * q + (g - g') * D := by
      have := Int.mul_le_mul_of_nonneg_left (show q ≤ D by omega) (show 0 ≤ g - g' by omega)
      rw [Int.sub_mul g g' q] at this; omega
    have a3 : g * q / D ≤ g' * q / D + (g - g') := by
      have := Int.ediv_le_ediv (show 0 < D by omega) a2
      rwa [Int.add_mul_ediv_right _ _ (by omega)] at this
    have a4 : g' * q / D ≤ g' * q / D := Int.le_refl _
    omega
theorem gasN_b {x : GHeading} {gas q : Int} (hv : okHeading x = true) (hg : 0 ≤ gas ∧ gas ≤ x.volume * 1000000) (hq : 0 ≤ q ∧ q ≤ 100000) : ∀ k : Nat, 0 ≤ gasN x gas q k ∧ gasN x gas q k ≤ x.volume * 1000000
  | 0 => by unfold gasN; exact hg
  | k + 1 => by unfold gasN; exact stepB hv (gasN_b hv hg hq k) hq
theorem gasN_mono {x : GHeading} {gas a b : Int} (hv : okHeading x = true) (hg : 0 ≤ gas ∧ gas ≤ x.volume * 1000000) (h0 : 0 ≤ a) (h1 : a ≤ b) (h2 : b ≤ 100000) : ∀ k : Nat, gasN x gas b k ≤ gasN x gas a k
  | 0 => by unfold gasN; exact Int.le_refl _
  | k + 1 => by
    unfold gasN
    exact Int.le_trans (step_mono hv (gasN_b hv hg ⟨by omega, h2⟩ k).1 h0 h1) (step_gas hv (gasN_b hv hg ⟨by omega, h2⟩ k).1 (gasN_mono hv hg h0 h1 h2 k) h0)
theorem clear_any {x : GHeading} {gas q most secs : Int} : decide (0 ≤ clearI x gas q most secs) = (List.range (secs.toNat + 1)).any fun k => decide (gasN x gas q k ≤ most) := by
  unfold clearI
  split
  · rename_i k hk
    rw [List.find?_range_eq_some] at hk
    rw [decide_eq_true (by omega)]
    exact (List.any_eq_true.2 ⟨k, hk.2.1, hk.1⟩).symm
  · rename_i hk
    rw [decide_eq_false (by omega)]
    refine (Bool.eq_false_iff.2 fun h => ?_).symm
    obtain ⟨k, h1, h2⟩ := List.any_eq_true.1 h
    rw [List.find?_range_eq_none] at hk
    have := hk k (by simpa using h1)
    rw [h2] at this; cases this
theorem clear_mono {x : GHeading} {gas a b most secs : Int} (hv : okHeading x = true) (hg : 0 ≤ gas ∧ gas ≤ x.volume * 1000000) (h0 : 0 ≤ a) (h1 : a ≤ b) (h2 : b ≤ 100000) (h : decide (0 ≤ clearI x gas a most secs) = true) : decide (0 ≤ clearI x gas b most secs) = true := by
  rw [clear_any, List.any_eq_true] at h ⊢
  obtain ⟨k, h3, h4⟩ := h
  refine ⟨k, h3, ?_⟩
  have := gasN_mono hv hg h0 h1 h2 k
  simp only [decide_eq_true_eq] at h4 ⊢
  omega
def clearP (x : GHeading) (gas share secs : Int) (q : Int) : Bool := decide (0 ≤ clearI x gas q (mostG x share) secs)
def clearFlow (x : GHeading) (gas share secs : Int) : Int × Int := if askG x gas 0 share = 0 then (if inR secs 0 3600 = true then (if leastI (clearP x gas share secs) 0 100000 ≤ 100000 then (leastI (clearP x gas share secs) 0 100000, 0) else (0, 3)) else (0, 2)) else (0, askG x gas 0 share)
attribute [local irreducible] clearFlow
theorem cf_bad {x : GHeading} {gas share secs : Int} (h : ¬askG x gas 0 0 = 0) : clearFlow x gas share secs = (0, askG x gas 0 0) := by
  have e : askG x gas 0 share = askG x gas 0 0 := by rw [ask_split x gas 0 share, if_neg h]
  unfold clearFlow; rw [e, if_neg h]
theorem cf_range {x : GHeading} {gas share secs : Int} (h : askG x gas 0 0 = 0) (h1 : inR share 0 1000000 = false ∨ inR secs 0 3600 = false) : clearFlow x gas share secs = (0, 2) := by
  have e := ask_split x gas 0 share
  rw [if_pos h] at e
  unfold clearFlow; rw [e]
  cases h2 : inR share 0 1000000 with
  | false => rw [if_neg (by decide)]; rfl
  | true => rw [if_pos rfl, if_pos rfl, if_neg (by grind)]
theorem cf_ok {x : GHeading} {gas share secs : Int} (h : askG x gas 0 0 = 0) (h1 : ¬inR share 0 1000000 = false ∧ inR secs 0 3600 = true) : clearFlow x gas share secs = if leastI (clearP x gas share secs) 0 100000 ≤ 100000 then (leastI (clearP x gas share secs) 0 100000, 0) else (0, 3) := by
  have e := ask_split x gas 0 share
  rw [if_pos h, if_pos (by simpa using h1.1)] at e
  unfold clearFlow; rw [if_pos e, if_pos h1.2]
end Go.Proofs.YtmifcbekaniiiaaDoor
