/- Contracts of functions of the program, and what they compute. Conditions: those that each theorem states. -/
import Derived.Test.YtpckcolkehgdaaaProg
import Derived.Test.YtpckcolkehgdaaaX1
import Derived.Test.YtpckcolkehgdaaaE10p
set_option linter.unusedVariables false
set_option linter.unusedSimpArgs false
namespace Go.Proofs.Ytpckcolkehgdaaa
open Go.Av
attribute [local irreducible] Go.IntKind.wrap leastI rdZ rd rootI rawA okMine ext extL fstL
set_option maxRecDepth 20000
set_option maxHeartbeats 8000000

/-! Refuges, plain: sets of junctions that are near to all; the set of all is right, so the search never comes to its end. -/
theorem extB_all {L : List Int} {right : List Int → Bool} (hr : right L = true) : ∀ (m i : Nat) (b : Int) (s : List Int), i + m = L.length → s = L.take i → 0 ≤ b → (ext L right m i b s).1 = true ∨ (ext L right m i b s).2.1 < 0
  | 0, i, b, s, hi, hs, hb => by
    have : s = L := by rw [hs, List.take_of_length_le (by omega)]
    rw [ext_0 rfl, this, hr]
    dsimp only
    by_cases h : 0 ≤ b - 1
    · left; rw [decide_eq_true h]; rfl
    · right; omega
  | m + 1, i, b, s, hi, hs, hb => by
    have ih := extB_all hr m (i + 1) b (s ++ [L.getD i 0]) (by omega) (by
      have q := take_snoc (i := (i : Int)) (xs := L) (by omega) (by omega) 0
      rw [show ((i : Int) + 1).toNat = i + 1 by omega, show ((i : Int)).toNat = i by omega] at q
      rw [hs, q]) hb
    rw [ext_s (by omega)]
    simp only [Nat.add_sub_cancel]
    rw [extL_s (by omega)]
    split
    · left; assumption
    · rename_i h
      rw [if_pos (ih.resolve_left h)]
      exact .inr (ih.resolve_left h)
theorem fstB_no3 {L : List Int} {right : List Int → Bool} (hr : right L = true) : ∀ (k n : Nat) (b : Int), n + k = L.length + 1 → 1 ≤ k → 0 ≤ b → (fstL L right k n b).2 = 0 ∨ (fstL L right k n b).2 = 5
  | 0, _, _, _, h, _ => by omega
  | k + 1, n, b, hn, _, hb => by
    rw [fstL_s (by omega)]
    split
    · exact .inl rfl
    · rename_i h1
      split
      · exact .inr rfl
      · rename_i h2
        rw [Nat.add_sub_cancel]
        by_cases e : k = 0
        · have := extB_all hr n 0 b [] (by omega) rfl hb
          exact absurd (this.resolve_left h1) h2
        · exact fstB_no3 hr k (n + 1) _ (by omega) (by omega) (by omega)
/-- a junction of the set is near -/
def nrI (lim : Int) (xs : List Int) (t : List Int) : Bool := xs.any fun x => inR (t.getD x.toNat 0) 0 lim
def covI (ts : List (List Int)) (lim : Int) (xs : List Int) : Bool := ts.all (nrI lim xs)
/-- all times -/
def tmA (m : GMine) (sp : Int) : List (List Int) := (iotaI 0 m.junctions.toNat).map (tmI m sp)
theorem tmA_len {m : GMine} {sp : Int} : (tmA m sp).length = m.junctions.toNat := by unfold tmA; simp [iotaI]
theorem iota_g {n i : Nat} (h : i < n) : (iotaI 0 n).getD i 0 = i := by
  unfold iotaI
  rw [List.getD_eq_getElem?_getD, List.getElem?_map, List.getElem?_range h]; simp
theorem tmA_at {m : GMine} {sp : Int} {i : Nat} (h : i < m.junctions.toNat) : (tmA m sp).getD i [] = tmI m sp i := by
  have := iota_g h
  unfold tmA
  rw [List.getD_eq_getElem?_getD] at this ⊢
  rw [List.getElem?_map]
  have e : (iotaI 0 m.junctions.toNat)[i]? = some ((iotaI 0 m.junctions.toNat)[i]'(by simp [iotaI]; omega)) := List.getElem?_eq_getElem _
  rw [e] at this ⊢
  simp only [Option.getD_some, Option.map_some] at this ⊢
  rw [this]
theorem tmI_len {m : GMine} {sp s : Int} : (tmI m sp s).length = m.junctions.toNat := by unfold tmI; rw [rdK_len, p0_len]
theorem cov_all {m : GMine} {sp lim : Int} (hm : okMine m = true) (hs : 10 ≤ sp ∧ sp ≤ 300) (hl : 0 ≤ lim) : covI (tmA m sp) lim (iotaI 0 m.junctions.toNat) = true := by
  unfold covI tmA
  rw [List.all_eq_true]
  intro t ht
  obtain ⟨j, hj, rfl⟩ := List.mem_map.1 ht
  unfold nrI
  rw [List.any_eq_true]
  refine ⟨j, hj, ?_⟩
  have hv : inV m j := by
    unfold iotaI at hj
    obtain ⟨k, h1, rfl⟩ := List.mem_map.1 hj
    have := List.mem_range.1 h1
    unfold inV; omega
  unfold tmI
  rw [rdK_own (wTm_b hm hs) hm hv, inR_iff]
  omega
/-- what is asked for -/
def refC (m : GMine) (sp lim b : Int) : Int := if okMine m = true then (if inR sp 10 300 = true ∧ 0 ≤ lim ∧ inR b 1 20000 = true then 0 else 2) else 1
def refV (m : GMine) (sp lim b : Int) : List Int × Int := if refC m sp lim b = 0 then fstSet (iotaI 0 m.junctions.toNat) (covI (tmA m sp) lim) b else ([], refC m sp lim b)
theorem refC_p {m : GMine} {sp lim b : Int} (h : refC m sp lim b = 0) : okMine m = true ∧ (10 ≤ sp ∧ sp ≤ 300) ∧ 0 ≤ lim ∧ 1 ≤ b ∧ b ≤ 20000 := by
  unfold refC at h
  split at h
  · rename_i h1
    split at h
    · rename_i h2
      simp only [inR_iff] at h2
      exact ⟨h1, h2⟩
    · cases h
  · cases h
theorem refV_0 {m : GMine} {sp lim b : Int} (h : refC m sp lim b = 0) : refV m sp lim b = fstSet (iotaI 0 m.junctions.toNat) (covI (tmA m sp) lim) b := by unfold refV; rw [if_pos h]
theorem refV_c {m : GMine} {sp lim b : Int} (h : ¬refC m sp lim b = 0) : refV m sp lim b = ([], refC m sp lim b) := by unfold refV; rw [if_neg h]
theorem refC_1 {m : GMine} {sp lim b : Int} (h : okMine m = false) : refC m sp lim b = 1 := by unfold refC; rw [if_neg (by rw [h]; decide)]
theorem refC_2 {m : GMine} {sp lim b : Int} (h : okMine m = true) (h2 : (inR sp 10 300 = false ∨ lim < 0) ∨ inR b 1 20000 = false) : refC m sp lim b = 2 := by
  unfold refC; rw [if_pos h, if_neg]
  rintro ⟨q1, q2, q3⟩
  rcases h2 with (h2 | h2) | h2
  · rw [q1] at h2; cases h2
  · omega
  · rw [q3] at h2; cases h2
theorem refC_0 {m : GMine} {sp lim b : Int} (h : okMine m = true) (h2 : ¬(inR sp 10 300 = false ∨ lim < 0) ∧ inR b 1 20000 = true) : refC m sp lim b = 0 := by
  unfold refC; rw [if_pos h, if_pos]
  obtain ⟨q, q4⟩ := h2
  simp only [not_or, Bool.not_eq_false, Int.not_lt] at q
  exact ⟨q.1, q.2, q4⟩
theorem ref_no3 {m : GMine} {sp lim b : Int} (h : refC m sp lim b = 0) : (refV m sp lim b).2 = 0 ∨ (refV m sp lim b).2 = 5 := by
  have q := refC_p h
  rw [refV_0 h]
  unfold fstSet
  exact fstB_no3 (cov_all q.1 q.2.1 q.2.2.1) _ 0 b (by omega) (by omega) (by omega)
end Go.Proofs.Ytpckcolkehgdaaa
