/- Contracts of functions of the program, and what they compute. Conditions: those that each theorem states. -/
import Derived.Test.YtnapoeobmdcdaaaProg
import Derived.Test.YtnapoeobmdcdaaaY6
import Derived.Test.YtnapoeobmdcdaaaY7
import Derived.Test.YtnapoeobmdcdaaaF1
set_option linter.unusedVariables false
set_option linter.unusedSimpArgs false
namespace Go.Proofs.Ytnapoeobmdcdaaa
open Go.Av
attribute [local irreducible] Go.IntKind.wrap leastI rdZ rd rootI rawA okMine cmI htC
set_option maxRecDepth 20000
set_option maxHeartbeats 8000000

/-! Sets of rising numbers. -/
def upF (n : Int) : Int → List Int → Prop
  | _, [] => True
  | lo, x :: r => lo ≤ x ∧ x < n ∧ upF n (x + 1) r
theorem upF_at {n : Int} : ∀ {lo : Int} {xs : List Int}, upF n lo xs → ∀ j : Nat, j < xs.length → lo ≤ xs.getD j 0 ∧ xs.getD j 0 < n ∧ (j = 0 ∨ xs.getD (j - 1) 0 < xs.getD j 0)
  | _, [], _, j, hj => by simp at hj
  | lo, x :: r, h, 0, _ => ⟨h.1, h.2.1, .inl rfl⟩
  | lo, x :: r, h, j + 1, hj => by
    have ih := upF_at h.2.2 j (by simpa using hj)
    have h1 := h.1
    refine ⟨by simp only [List.getD_cons_succ]; omega, by simp only [List.getD_cons_succ]; exact ih.2.1, .inr ?_⟩
    cases j with
    | zero => simp only [Nat.zero_add, Nat.sub_self, List.getD_cons_zero, List.getD_cons_succ]; omega
    | succ j =>
      have := ih.2.2
      simp only [Nat.add_sub_cancel, List.getD_cons_succ]
      simp only [Nat.add_sub_cancel] at this
      omega
theorem rises_of {n : Int} {xs : List Int} (h : upF n 0 xs) : rises xs n = true :=
  List.all_eq_true.2 fun j hj => decide_eq_true (upF_at h j (List.mem_range.1 hj))
theorem ext_up {n : Nat} {right : List Int → Bool} : ∀ (m i : Nat) (b : Int) (s : List Int), (ext (iotaI 0 n) right m i b s).1 = true → ∃ t, (ext (iotaI 0 n) right m i b s).2.2 = s ++ t ∧ upF n i t ∧ t.length = m ∧ right (s ++ t) = true
  | 0, i, b, s, h => by
    rw [ext_0 rfl] at h ⊢
    simp only [Bool.and_eq_true] at h
    exact ⟨[], by simp, trivial, rfl, by simpa using h.2⟩
  | m + 1, i, b, s, h => by
    rw [ext_s (by omega)] at h ⊢
    simp only [Nat.add_sub_cancel, iotaI_len] at h ⊢
    have key : ∀ (k i : Nat) (b : Int), k = n - m - i → (extL (ext (iotaI 0 n) right m) (iotaI 0 n) k i b s).1 = true → ∃ t, (extL (ext (iotaI 0 n) right m) (iotaI 0 n) k i b s).2.2 = s ++ t ∧ upF n i t ∧ t.length = m + 1 ∧ right (s ++ t) = true := by
      intro k
      induction k with
      | zero => intro i b _ h; rw [extL_0 rfl] at h; cases h
      | succ k ih =>
        intro i b hk h
        rw [extL_s (by omega)] at h ⊢
        have hg : (iotaI 0 n).getD i 0 = i := by rw [iotaI_get (by omega)]; omega
        rw [hg] at h ⊢
        by_cases h1 : (ext (iotaI 0 n) right m (i + 1) b (s ++ [(i : Int)])).1 = true
        · rw [if_pos h1]
          obtain ⟨t, e1, e2, e3, e4⟩ := ext_up m (i + 1) b (s ++ [(i : Int)]) h1
          refine ⟨(i : Int) :: t, by rw [e1]; simp, ⟨by omega, by omega, ?_⟩, by simp [e3], by simpa using e4⟩
          rw [show ((i : Int) + 1) = ((i + 1 : Nat) : Int) by omega]; exact e2
        · rw [if_neg h1] at h ⊢
          by_cases h2 : (ext (iotaI 0 n) right m (i + 1) b (s ++ [(i : Int)])).2.1 < 0
          · rw [if_pos h2] at h; cases h
          · rw [if_neg h2] at h ⊢
            simp only [Nat.add_sub_cancel] at h ⊢
            obtain ⟨t, e1, e2, e3, e4⟩ := ih (i + 1) _ (by omega) h
            refine ⟨t, e1, ?_, e3, e4⟩
            cases t with
            | nil => trivial
            | cons x r => exact ⟨by have := e2.1; omega, e2.2⟩
    exact key _ i b rfl h
theorem fstL_up {n : Nat} {right : List Int → Bool} : ∀ (k m : Nat) (b : Int) (s : List Int), fstL (iotaI 0 n) right k m b = (s, 0) → upF n 0 s ∧ m ≤ s.length ∧ right s = true
  | 0, m, b, s, h => by rw [fstL_0 rfl] at h; simp at h
  | k + 1, m, b, s, h => by
    rw [fstL_s (by omega)] at h
    by_cases h1 : (ext (iotaI 0 n) right m 0 b []).1 = true
    · rw [if_pos h1] at h
      obtain ⟨t, e1, e2, e3, e4⟩ := ext_up m 0 b [] h1
      simp only [List.nil_append] at e1 e4
      rw [e1] at h
      have : t = s := congrArg Prod.fst h
      subst this
      exact ⟨e2, by omega, e4⟩
    · rw [if_neg h1] at h
      by_cases h2 : (ext (iotaI 0 n) right m 0 b []).2.1 < 0
      · rw [if_pos h2] at h; simp at h
      · rw [if_neg h2] at h
        have := fstL_up _ (m + 1) _ s h
        exact ⟨this.1, by omega, this.2.2⟩
theorem fst_up {n : Nat} {right : List Int → Bool} {b : Int} {s : List Int} (hb : 1 ≤ b) (h : fstSet (iotaI 0 n) right b = (s, 0)) : rises s n = true ∧ (s = [] ↔ right [] = true) := by
  have h0 := fstL_up _ _ _ _ h
  refine ⟨rises_of h0.1, fun e => by rw [e] at h0; exact h0.2.2, fun e => ?_⟩
  unfold fstSet at h
  rw [fstL_s (by omega), ext_0 rfl] at h
  rw [if_pos (by simp [e]; omega)] at h
  exact (congrArg Prod.fst h).symm

/-! Temperatures: plain facts for the law. -/
theorem rises_ss {ss : List Int} {J : Int} {n : Nat} (h : rising ss = true) (h2 : ∀ i : Nat, (i : Int) < ss.length → 0 ≤ ss.getD i 0 ∧ ss.getD i 0 < J) (hn : (n : Int) = J) : rises ss n = true :=
  List.all_eq_true.2 fun j hj => decide_eq_true (by
    have hj := List.mem_range.1 hj
    have a := h2 j (by omega)
    have b := rising_iff.1 h j (by omega)
    exact ⟨a.1, by omega, b⟩)
theorem srf_at {J : Nat} {ss : List Int} {t : Int} : ∀ n : Nat, (∀ i : Nat, i < n → 0 ≤ ss.getD i 0 ∧ ss.getD i 0 < J) → (srf J ss t n).length = J ∧ ∀ i : Nat, i < n → (srf J ss t n).getD (ss.getD i 0).toNat 0 = t
  | 0, _ => ⟨by simp [srf], fun i hi => by omega⟩
  | n + 1, h => by
    have ih := srf_at (t := t) n (fun i hi => h i (by omega))
    refine ⟨by rw [srf, List.length_set]; exact ih.1, fun i hi => ?_⟩
    rw [srf, gdSetY]
    have hn := h n (by omega)
    split
    · rfl
    · rename_i hc
      by_cases e : i = n
      · subst e
        exact absurd ⟨rfl, by rw [ih.1]; omega⟩ hc
      · exact ih.2 i (by omega)
theorem temI_ss {m : GMine} {fs rs ps ss : List Int} {t rate : Int} (hH : htP m fs rs ps rate) (ht : -100 ≤ t ∧ t ≤ 600) (hs : ∀ i : Nat, (i : Int) < ss.length → 0 ≤ ss.getD i 0 ∧ ss.getD i 0 < m.junctions) : ∀ i : Nat, i < ss.length → (temI m fs rs ps ss t rate).getD (ss.getD i 0).toNat 0 = t := by
  have hJ := (okMine_p hH.mine).1
  unfold temI
  refine tmN_p (P := fun ls => ∀ i : Nat, i < ss.length → ls.getD (ss.getD i 0).toNat 0 = t) (fun ls q h hq i hi => ?_) _ _ ?_
  · obtain ⟨k, h1, h2, h3, h4, rfl⟩ := fdS_sm _ _ _ (Int.le_refl 0) hq
    rw [gdSetY]
    split
    · rename_i hc
      have := h i hi
      rw [← hc.1] at this
      omega
    · exact h i hi
  · exact (srf_at ss.length (fun i hi => by have := hs i (by omega); omega)).2
/-- the hottest so far -/
def htM (ls : List Int) (j h : Int) : Prop := -1000 ≤ h ∧ (∀ k : Nat, (k : Int) < j → ls.getD k 0 ≤ h) ∧ (h = -1000 ∨ ∃ k : Nat, k < ls.length ∧ h = ls.getD k 0)
theorem htM_0 {ls : List Int} : htM ls 0 (-1000) := ⟨by omega, all_0, .inl rfl⟩
theorem htM_s {ls : List Int} {j h : Int} (j0 : 0 ≤ j) (hj : j < ls.length) (hh : htM ls j h) : htM ls (j + 1) (max h (ls.getD j.toNat 0)) := by
  obtain ⟨a, b, c⟩ := hh
  refine ⟨by omega, all_s (P := fun k => ls.getD k 0 ≤ max h (ls.getD j.toNat 0)) j0 (fun k hk => by have := b k hk; omega) (by omega), ?_⟩
  rcases Int.le_total h (ls.getD j.toNat 0) with h1 | h1
  · exact .inr ⟨j.toNat, by omega, by omega⟩
  · rw [show max h (ls.getD j.toNat 0) = h by omega]; exact c
theorem htM_e {ls : List Int} {j h k v c : Int} (hv : ∀ j : Nat, j < ls.length → ls.getD j 0 = -1000 ∨ (-100 ≤ ls.getD j 0 ∧ ls.getD j 0 ≤ 600)) (hj : (ls.length : Int) ≤ j) (hh : htM ls j h) (hc : (c = 3 ∧ ∀ j : Nat, (j : Int) < ls.length → ls.getD j 0 = -1000) ∨ (c = 0 ∧ (∃ j : Nat, j < ls.length ∧ v = ls.getD j 0) ∧ ¬v = -1000 ∧ ∀ j : Nat, (j : Int) < ls.length → ls.getD j 0 = -1000 ∨ ls.getD j 0 ≤ v)) : (c = 0 ↔ h > -1000) ∧ (c = 0 → v = h) := by
  obtain ⟨a, b, d⟩ := hh
  rcases hc with ⟨h1, h2⟩ | ⟨h1, ⟨i, hi, e⟩, h3, h4⟩
  · rcases d with d | ⟨i, hi, e⟩
    · omega
    · have := h2 i (by omega); omega
  · have q1 := hv i hi
    have q2 := b i (by omega)
    rcases d with d | ⟨k, hk, e2⟩
    · omega
    · have q3 := h4 k (by omega)
      omega
theorem all_ht {ls : List Int} {j h lim : Int} (hl : -100 ≤ lim) (hj : (ls.length : Int) ≤ j) (hh : htM ls j h) : (ls.all fun v => decide (v ≤ lim)) = decide (h ≤ lim) := by
  obtain ⟨a, b, d⟩ := hh
  rw [Bool.eq_iff_iff, decide_eq_true_iff, List.all_eq_true]
  constructor
  · intro q
    rcases d with d | ⟨k, hk, e⟩
    · omega
    · rw [e]; exact of_decide_eq_true (q _ (getD_mem hk))
  · intro q x hx
    obtain ⟨i, hi, rfl⟩ := List.getElem_of_mem hx
    have := b i (by omega)
    rw [List.getD_eq_getElem?_getD, List.getElem?_eq_getElem hi, Option.getD_some] at this
    exact decide_eq_true (by omega)
theorem cooV_p {m : GMine} {fs rs ps ss : List Int} {t rate c lim b : Int} {s : List Int} (h : cooV m fs rs ps ss t rate c lim b = (s, 0)) : rises s m.airways.length = true ∧ -100 ≤ lim ∧ (s = [] ↔ ((temI m fs rs ps ss t rate).all fun v => decide (v ≤ lim)) = true) := by
  by_cases e : askC m fs rs ps ss t rate c lim b = 0
  · rw [cooV_0 e] at h
    have q := askC_p e
    have := fst_up q.2.2.2.1 h
    refine ⟨this.1, q.2.2.1.1, this.2.trans ?_⟩
    unfold colR
    rfl
  · rw [cooV_c e] at h
    exact absurd (congrArg Prod.snd h) e
theorem cooV_n {m : GMine} {fs rs ps ss : List Int} {t rate c lim b k : Int} {s : List Int} (h : cooV m fs rs ps ss t rate c lim b = (s, k)) (hk : k ≠ 0) : s = [] := by
  by_cases e : askC m fs rs ps ss t rate c lim b = 0
  · rw [cooV_0 e] at h
    have h2 : ∀ (k n : Nat) (b : Int), (fstL (iotaI 0 m.airways.length) (colR m fs rs ps ss t rate c lim) k n b).2 = 0 ∨ (fstL (iotaI 0 m.airways.length) (colR m fs rs ps ss t rate c lim) k n b).1 = [] := by
      intro k
      induction k with
      | zero => intro n b; exact .inr (by rw [fstL_0 rfl])
      | succ k ih =>
        intro n b
        rw [fstL_s (by omega)]
        split
        · exact .inl rfl
        · split
          · exact .inr rfl
          · exact ih _ _
    unfold fstSet at h
    rcases h2 _ _ _ with q | q
    · rw [h] at q; exact absurd q hk
    · rw [h] at q; exact q
  · rw [cooV_c e] at h
    exact (congrArg Prod.fst h).symm
theorem cooV_h {m : GMine} {fs rs ps ss : List Int} {t rate c lim b k : Int} {s : List Int} (h : cooV m fs rs ps ss t rate c lim b = (s, k)) (hh : ¬htC m fs rs ps ss t rate = 0) : k = htC m fs rs ps ss t rate ∧ s = [] := by
  have e : ¬askC m fs rs ps ss t rate c lim b = 0 := by rw [askC_c hh]; exact hh
  rw [cooV_c e, askC_c hh] at h
  exact ⟨(congrArg Prod.snd h).symm, (congrArg Prod.fst h).symm⟩
end Go.Proofs.Ytnapoeobmdcdaaa
