/- Contracts of functions of the program, and what they compute. Conditions: those that each theorem states. -/
import Derived.Test.YtfeebelnpibppaaProg
import Derived.Test.YtfeebelnpibppaaQ8
import Derived.Test.YtfeebelnpibppaaQ5
set_option linter.unusedVariables false
set_option linter.unusedSimpArgs false
namespace Go.Proofs.Ytfeebelnpibppaa
open Go.Av
attribute [local irreducible] Go.IntKind.wrap leastI rdZ rd rootI rawA gainsI stepB roundB potN potI askB okAw addG okMine
set_option maxRecDepth 20000
set_option maxHeartbeats 8000000

/-! The sets that the search finds: parts of the list, and right. -/
theorem ext_sub {L : List Int} {right : List Int → Bool} : ∀ (m i : Nat) (b : Int) (s : List Int), (ext L right m i b s).1 = true → ∃ t, (ext L right m i b s).2.2 = s ++ t ∧ t.Sublist (L.drop i) ∧ right (s ++ t) = true
  | 0, i, b, s, h => by
    rw [ext_0 rfl] at h ⊢
    simp only [Bool.and_eq_true] at h
    exact ⟨[], by simp, List.nil_sublist _, by simpa using h.2⟩
  | m + 1, i, b, s, h => by
    rw [ext_s (by omega)] at h ⊢
    simp only [Nat.add_sub_cancel] at h ⊢
    have key : ∀ (k i : Nat) (b : Int), k = L.length - m - i → (extL (ext L right m) L k i b s).1 = true → ∃ t, (extL (ext L right m) L k i b s).2.2 = s ++ t ∧ t.Sublist (L.drop i) ∧ right (s ++ t) = true := by
      intro k
      induction k with
      | zero => intro i b _ h; rw [extL_0 rfl] at h; cases h
      | succ k ih =>
        intro i b hk h
        have hi : i < L.length := by omega
        have hd := List.drop_eq_getElem_cons hi
        have hg : L.getD i 0 = L[i] := by rw [List.getD_eq_getElem?_getD, List.getElem?_eq_getElem hi]; rfl
        rw [extL_s (by omega)] at h ⊢
        by_cases h1 : (ext L right m (i + 1) b (s ++ [L.getD i 0])).1 = true
        · rw [if_pos h1]
          obtain ⟨t, e1, e2, e4⟩ := ext_sub m (i + 1) b (s ++ [L.getD i 0]) h1
          refine ⟨L.getD i 0 :: t, by rw [e1]; simp, ?_, by simpa using e4⟩
          rw [hd, hg]; exact e2.cons_cons _
        · rw [if_neg h1] at h ⊢
          by_cases h2 : (ext L right m (i + 1) b (s ++ [L.getD i 0])).2.1 < 0
          · rw [if_pos h2] at h; cases h
          · rw [if_neg h2] at h ⊢
            simp only [Nat.add_sub_cancel] at h ⊢
            obtain ⟨t, e1, e2, e4⟩ := ih (i + 1) _ (by omega) h
            exact ⟨t, e1, by rw [hd]; exact e2.cons _, e4⟩
    exact key _ i b rfl h
theorem fstL_sub {L : List Int} {right : List Int → Bool} : ∀ (k m : Nat) (b : Int) (s : List Int), fstL L right k m b = (s, 0) → s.Sublist L ∧ right s = true
  | 0, m, b, s, h => by rw [fstL_0 rfl] at h; simp at h
  | k + 1, m, b, s, h => by
    rw [fstL_s (by omega)] at h
    by_cases h1 : (ext L right m 0 b []).1 = true
    · rw [if_pos h1] at h
      obtain ⟨t, e1, e2, e4⟩ := ext_sub m 0 b [] h1
      simp only [List.nil_append] at e1 e4
      rw [e1] at h
      have : t = s := congrArg Prod.fst h
      subst this
      exact ⟨by simpa using e2, e4⟩
    · rw [if_neg h1] at h
      by_cases h2 : (ext L right m 0 b []).2.1 < 0
      · rw [if_pos h2] at h; simp at h
      · rw [if_neg h2] at h
        exact fstL_sub _ (m + 1) _ s h
theorem fstL_no' {L : List Int} {right : List Int → Bool} : ∀ (k m : Nat) (b : Int), (fstL L right k m b).2 ≠ 0 → (fstL L right k m b).1 = []
  | 0, m, b, h => by rw [fstL_0 rfl]
  | k + 1, m, b, h => by
    rw [fstL_s (by omega)] at h ⊢
    by_cases h1 : (ext L right m 0 b []).1 = true
    · rw [if_pos h1] at h; exact absurd rfl h
    · rw [if_neg h1] at h ⊢
      by_cases h2 : (ext L right m 0 b []).2.1 < 0
      · rw [if_pos h2]
      · rw [if_neg h2] at h ⊢; exact fstL_no' _ _ _ h
theorem rising_lt {xs : List Int} (h : rising xs = true) (i : Nat) : ∀ k : Nat, i + k + 1 < xs.length → xs.getD i 0 < xs.getD (i + k + 1) 0
  | 0, hk => (rising_iff.1 h (i + 1) (by omega)).resolve_left (by omega)
  | k + 1, hk => by
    have h1 := rising_lt h i k (by omega)
    have h2 := (rising_iff.1 h (i + k + 1 + 1) (by omega)).resolve_left (by omega)
    rw [Nat.add_sub_cancel] at h2
    exact Int.lt_trans h1 h2
theorem rising_pw {xs : List Int} (h : rising xs = true) : xs.Pairwise (· < ·) := by
  rw [List.pairwise_iff_getElem]
  intro i j hi hj hij
  have := rising_lt h i (j - i - 1) (by omega)
  rw [show i + (j - i - 1) + 1 = j by omega, List.getD_eq_getElem?_getD, List.getD_eq_getElem?_getD, List.getElem?_eq_getElem hi, List.getElem?_eq_getElem hj] at this
  exact this
theorem pw_at {xs : List Int} (h : xs.Pairwise (· < ·)) {i : Nat} (h0 : 0 < i) (hi : i < xs.length) : xs.getD (i - 1) 0 < xs.getD i 0 := by
  rw [List.getD_eq_getElem?_getD, List.getD_eq_getElem?_getD, List.getElem?_eq_getElem (show i - 1 < xs.length by omega), List.getElem?_eq_getElem hi]
  exact List.pairwise_iff_getElem.1 h (i - 1) i (by omega) hi (by omega)
theorem askB_n1 {m : GMine} {ds ps : List Int} {rg : List Bool} (h : okMine m = true) : askB m ds ps rg = 0 ∨ askB m ds ps rg = 2 := by
  unfold askB; rw [if_neg (by rw [h]; decide)]; split
  · exact .inl rfl
  · exact .inr rfl
/-- pushes with more that fit: what PotentialsOf tells -/
theorem pot_law {m : GMine} {ds ps xs : List Int} {rg : List Bool} {d : Int} (ha : askB m ds ps rg = 0) (hx : ∀ j : Nat, (j : Int) < xs.length → 0 ≤ xs.getD j 0 ∧ xs.getD j 0 < ps.length) (hf : fitsB m (gainsI ps ds) rg xs d = true) : potC m ds (addG ps xs d xs.length) rg = 0 ∨ potC m ds (addG ps xs d xs.length) rg = 2 := by
  have q := askB_l ha
  have g := gains_add (ps := ps) (ds := ds) (xs := xs) (d := d) hx xs.length (Nat.le_refl _)
  unfold fitsB at hf
  unfold potC
  rcases askB_n1 (m := m) (ds := ds) (ps := addG ps xs d xs.length) (rg := rg) q.1 with h | h
  · rw [if_pos h, g.2, if_pos hf]; exact .inl rfl
  · rw [if_neg (by rw [h]; decide), h]; exact .inr rfl
theorem pot_law2 {m : GMine} {ds ps xs : List Int} {rg : List Bool} {d : Int} (hx : ∀ j : Nat, (j : Int) < xs.length → 0 ≤ xs.getD j 0 ∧ xs.getD j 0 < ps.length) (hp : potC m ds (addG ps xs d xs.length) rg = 0) : fitsB m (gainsI ps ds) rg xs d = true := by
  have g := gains_add (ps := ps) (ds := ds) (xs := xs) (d := d) hx xs.length (Nat.le_refl _)
  unfold potC at hp
  unfold fitsB
  by_cases h : askB m ds (addG ps xs d xs.length) rg = 0
  · rw [if_pos h, g.2] at hp
    by_cases h2 : (potI m (addG (gainsI ps ds) xs d xs.length) rg).isSome = true
    · exact h2
    · rw [if_neg h2] at hp; cases hp
  · rw [if_neg h] at hp; exact absurd hp h
theorem addG_1 {ps : List Int} {a d : Int} : addG ps [a] d ([a] : List Int).length = ps.set a.toNat (ps.getD a.toNat 0 + d) := by
  have := addG_s (g := ps) (xs := [a]) (d := d) (i := 0) (by omega) (by simp)
  rw [show (0 : Int) + 1 = (([a] : List Int).length : Int) by rfl] at this
  rw [this]
  have e : addG ps [a] d 0 = ps := by unfold addG; rw [foldT_0]
  rw [e]; rfl
theorem in_1 {a : Int} {n : Nat} (h : 0 ≤ a ∧ a < n) : ∀ j : Nat, (j : Int) < ([a] : List Int).length → 0 ≤ ([a] : List Int).getD j 0 ∧ ([a] : List Int).getD j 0 < n := fun j hj => by
  simp at hj; rw [show j = 0 by omega]; exact h
/-- the least push: what its law wants -/
theorem least_law {m : GMine} {ds ps : List Int} {rg : List Bool} {a x : Int} (ha : askB m ds ps rg = 0) (h1 : 0 ≤ a ∧ a < m.airways.length) (h2 : 0 ≤ x ∧ x ≤ 20000) (h3 : fitsB m (gainsI ps ds) rg [a] x = true) (h4 : 0 < x → fitsB m (gainsI ps ds) rg [a] (x - 1) = false) :
    ps.length = m.airways.length ∧ (-20000 ≤ ps.getD a.toNat 0 ∧ ps.getD a.toNat 0 ≤ 20000) ∧ (potC m ds (ps.set a.toNat (ps.getD a.toNat 0 + x)) rg = 0 ∨ potC m ds (ps.set a.toNat (ps.getD a.toNat 0 + x)) rg = 2) ∧ (0 < x → ¬potC m ds (ps.set a.toNat (ps.getD a.toNat 0 + x - 1)) rg = 0) := by
  have q := askB_l ha
  have b := q.2.2.2.2.2.2 a.toNat
  refine ⟨q.2.2.2.1, ⟨b.1, b.2⟩, ?_, fun hx e => ?_⟩
  · rw [← addG_1]; exact pot_law ha (in_1 (by omega)) h3
  · rw [show ps.getD a.toNat 0 + x - 1 = ps.getD a.toNat 0 + (x - 1) by omega, ← addG_1] at e
    have := pot_law2 (in_1 (by omega)) e
    rw [h4 hx] at this; cases this
/-- the fewest boosters: what their law wants -/
theorem few_law {m : GMine} {ds ps : List Int} {rg : List Bool} {cs s : List Int} {d b : Int} (h : fewB m ds ps rg cs d b = (s, 0)) :
    (askB m ds ps rg = 0 ∧ bdL 20000 ps ∧ ps.length = m.airways.length ∧ 0 ≤ d ∧ d ≤ 20000) ∧ s.length ≤ 24 ∧ (∀ i : Int, 0 ≤ i → i < s.length → (0 ≤ s.getD i.toNat 0 ∧ s.getD i.toNat 0 < ps.length) ∧ s.getD i.toNat 0 ∈ cs ∧ (0 < i → s.getD (i - 1).toNat 0 < s.getD i.toNat 0)) ∧ (potC m ds (addG ps s d s.length) rg = 0 ∨ potC m ds (addG ps s d s.length) rg = 2) := by
  unfold fewB at h
  by_cases ha : askB m ds ps rg = 0
  · rw [if_pos ha] at h
    by_cases hc : candOk m cs d b = true
    · rw [if_pos hc] at h
      unfold fstSet at h
      obtain ⟨h1, h2⟩ := fstL_sub _ _ _ _ h
      have q := askB_l ha
      have cb := cand_b hc
      have hm : ∀ x ∈ s, x ∈ cs := fun x hx => h1.subset hx
      have hx := cand_m hc hm
      have hp : s.Pairwise (· < ·) := by
        unfold candOk at hc
        simp only [Bool.and_eq_true] at hc
        exact (rising_pw hc.1.1.1).sublist h1
      have hl := h1.length_le
      refine ⟨⟨ha, q.2.2.2.2.2.2, q.2.2.2.1, by omega, by omega⟩, by omega, fun i i0 i1 => ⟨?_, hm _ (getD_mem (by omega)), fun ip => ?_⟩, pot_law ha (fun j hj => ?_) h2⟩
      · have := hx i.toNat (by omega); omega
      · have := pw_at hp (i := i.toNat) (by omega) (by omega)
        rw [show (i - 1).toNat = i.toNat - 1 by omega]; exact this
      · have := hx j hj; omega
    · rw [if_neg hc] at h; cases h
  · rw [if_neg ha] at h
    exact absurd (congrArg Prod.snd h) ha
theorem few_no {m : GMine} {ds ps : List Int} {rg : List Bool} {cs s : List Int} {d b c : Int} (h : fewB m ds ps rg cs d b = (s, c)) (hc : ¬c = 0) : s = [] := by
  unfold fewB at h
  by_cases ha : askB m ds ps rg = 0
  · rw [if_pos ha] at h
    by_cases hk : candOk m cs d b = true
    · rw [if_pos hk] at h
      unfold fstSet at h
      have e := fstL_no' (L := cs) (right := fun s => fitsB m (gainsI ps ds) rg s d) (cs.length + 1) 0 b (by rw [h]; exact hc)
      rw [h] at e; exact e
    · rw [if_neg hk] at h; exact (congrArg Prod.fst h).symm
  · rw [if_neg ha] at h; exact (congrArg Prod.fst h).symm
end Go.Proofs.Ytfeebelnpibppaa
