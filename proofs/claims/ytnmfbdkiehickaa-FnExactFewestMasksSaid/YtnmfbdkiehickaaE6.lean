/- Contracts of functions of the program, and what they compute. Conditions: those that each theorem states. -/
import Derived.Test.YtnmfbdkiehickaaProg
import Derived.Test.YtnmfbdkiehickaaE5
set_option linter.unusedVariables false
set_option linter.unusedSimpArgs false
namespace Go.Proofs.Ytnmfbdkiehickaa
open Go.Av
attribute [local irreducible] Go.IntKind.wrap dTo okDusts okStays okDust okStay dS dAt expo okMasks
set_option maxRecDepth 20000
set_option maxHeartbeats 8000000

/-! Sets of rising numbers. -/
def upF (n : Int) : Int → List Int → Prop
  | _, [] => True
  | lo, x :: r => lo ≤ x ∧ x < n ∧ upF n (x + 1) r
theorem upF_at {n : Int} : ∀ {lo : Int} {xs : List Int}, upF n lo xs → ∀ j : Nat, j < xs.length → lo ≤ xs.getD j 0 ∧ xs.getD j 0 < n ∧ (j = 0 ∨ xs.getD (j - 1) 0 < xs.getD j 0)
  | _, [], _, j, hj => by simp at hj
  | lo, x :: r, h, 0, _ => ⟨h.1, h.2.1, .inl rfl⟩
  | lo, x :: r, h, j + 1, hj => by
    have ih := upF_at h.2.2 j (by simpa using hj)
    have h1 := h.1
    refine ⟨by simp only [List.getD_cons_succ]; omega, by simp only [List.getD_cons_succ]; exact ih.2.1, .inr ?_⟩
    cases j with
    | zero => simp only [Nat.zero_add, Nat.sub_self, List.getD_cons_zero, List.getD_cons_succ]; omega
    | succ j =>
      have := ih.2.2
      simp only [Nat.add_sub_cancel, List.getD_cons_succ]
      simp only [Nat.add_sub_cancel] at this
      omega
theorem rises_of {n : Int} {xs : List Int} (h : upF n 0 xs) : rises xs n = true :=
  List.all_eq_true.2 fun j hj => decide_eq_true (upF_at h j (List.mem_range.1 hj))
theorem ext_up {n : Nat} {right : List Int → Bool} : ∀ (m i : Nat) (b : Int) (s : List Int), (ext (iotaI 0 n) right m i b s).1 = true → ∃ t, (ext (iotaI 0 n) right m i b s).2.2 = s ++ t ∧ upF n i t ∧ t.length = m ∧ right (s ++ t) = true
  | 0, i, b, s, h => by
    rw [ext_0 rfl] at h ⊢
    simp only [Bool.and_eq_true] at h
    exact ⟨[], by simp, trivial, rfl, by simpa using h.2⟩
  | m + 1, i, b, s, h => by
    rw [ext_s (by omega)] at h ⊢
    simp only [Nat.add_sub_cancel, iotaI_len] at h ⊢
    have key : ∀ (k i : Nat) (b : Int), k = n - m - i → (extL (ext (iotaI 0 n) right m) (iotaI 0 n) k i b s).1 = true → ∃ t, (extL (ext (iotaI 0 n) right m) (iotaI 0 n) k i b s).2.2 = s ++ t ∧ upF n i t ∧ t.length = m + 1 ∧ right (s ++ t) = true := by
      intro k
      induction k with
      | zero => intro i b _ h; rw [extL_0 rfl] at h; cases h
      | succ k ih =>
        intro i b hk h
        rw [extL_s (by omega)] at h ⊢
        have hg : (iotaI 0 n).getD i 0 = i := by rw [iotaI_get (by omega)]; omega
        rw [hg] at h ⊢
        by_cases h1 : (ext (iotaI 0 n) right m (i + 1) b (s ++ [(i : Int)])).1 = true
        · rw [if_pos h1]
          obtain ⟨t, e1, e2, e3, e4⟩ := ext_up m (i + 1) b (s ++ [(i : Int)]) h1
          refine ⟨(i : Int) :: t, by rw [e1]; simp, ⟨by omega, by omega, ?_⟩, by simp [e3], by simpa using e4⟩
          rw [show ((i : Int) + 1) = ((i + 1 : Nat) : Int) by omega]; exact e2
        · rw [if_neg h1] at h ⊢
          by_cases h2 : (ext (iotaI 0 n) right m (i + 1) b (s ++ [(i : Int)])).2.1 < 0
          · rw [if_pos h2] at h; cases h
          · rw [if_neg h2] at h ⊢
            simp only [Nat.add_sub_cancel] at h ⊢
            obtain ⟨t, e1, e2, e3, e4⟩ := ih (i + 1) _ (by omega) h
            refine ⟨t, e1, ?_, e3, e4⟩
            cases t with
            | nil => trivial
            | cons x r => exact ⟨by have := e2.1; omega, e2.2⟩
    exact key _ i b rfl h
theorem fstL_up {n : Nat} {right : List Int → Bool} : ∀ (k m : Nat) (b : Int) (s : List Int), fstL (iotaI 0 n) right k m b = (s, 0) → upF n 0 s ∧ m ≤ s.length ∧ right s = true
  | 0, m, b, s, h => by rw [fstL_0 rfl] at h; simp at h
  | k + 1, m, b, s, h => by
    rw [fstL_s (by omega)] at h
    by_cases h1 : (ext (iotaI 0 n) right m 0 b []).1 = true
    · rw [if_pos h1] at h
      obtain ⟨t, e1, e2, e3, e4⟩ := ext_up m 0 b [] h1
      simp only [List.nil_append] at e1 e4
      rw [e1] at h
      have : t = s := congrArg Prod.fst h
      subst this
      exact ⟨e2, by omega, e4⟩
    · rw [if_neg h1] at h
      by_cases h2 : (ext (iotaI 0 n) right m 0 b []).2.1 < 0
      · rw [if_pos h2] at h; simp at h
      · rw [if_neg h2] at h
        have := fstL_up _ (m + 1) _ s h
        exact ⟨this.1, by omega, this.2.2⟩
theorem fst_up {n : Nat} {right : List Int → Bool} {b : Int} {s : List Int} (hb : 1 ≤ b) (h : fstSet (iotaI 0 n) right b = (s, 0)) : rises s n = true ∧ (s = [] ↔ right [] = true) := by
  have h0 := fstL_up _ _ _ _ h
  refine ⟨rises_of h0.1, fun e => by rw [e] at h0; exact h0.2.2, fun e => ?_⟩
  unfold fstSet at h
  rw [fstL_s (by omega), ext_0 rfl] at h
  rw [if_pos (by simp [e]; omega)] at h
  exact (congrArg Prod.fst h).symm
theorem fstL_no {L : List Int} {right : List Int → Bool} : ∀ (k m : Nat) (b : Int), (fstL L right k m b).2 ≠ 0 → (fstL L right k m b).1 = []
  | 0, m, b, h => by rw [fstL_0 rfl]
  | k + 1, m, b, h => by
    rw [fstL_s (by omega)] at h ⊢
    by_cases h1 : (ext L right m 0 b []).1 = true
    · rw [if_pos h1] at h; exact absurd rfl h
    · rw [if_neg h1] at h ⊢
      by_cases h2 : (ext L right m 0 b []).2.1 < 0
      · rw [if_pos h2]
      · rw [if_neg h2] at h ⊢; exact fstL_no _ _ _ h
theorem sum_expos {ds : List GDusting} {ss : List (List Int)} : ∀ k : Nat, k ≤ ss.length → sumI (expos ds 1 ss) k = expT ds ss k
  | 0, _ => by unfold sumI expT; rfl
  | k + 1, h => by
    unfold sumI expT
    rw [sum_expos k (by omega)]
    congr 1
    simp only [expos, List.getD_eq_getElem?_getD, List.getElem?_map, List.getElem?_eq_getElem (show k < ss.length by omega)]; rfl
theorem masks_no {ds : List GDusting} {ss : List (List Int)} {f limit budget : Int} (h : (masks ds ss f limit budget).2 ≠ 0) : (masks ds ss f limit budget).1 = [] := by
  by_cases h0 : okMasks ds ss f limit budget = 0
  · rw [masks_0 h0] at h ⊢
    exact fstL_no _ _ _ h
  · unfold masks; rw [if_neg h0]
theorem masks_ok {ds : List GDusting} {ss : List (List Int)} {f limit budget : Int} {s : List Int} (h : masks ds ss f limit budget = (s, 0)) : okDusts ds = true ∧ okStays ss = true ∧ rises s ss.length = true ∧ (s = [] ↔ expT ds ss ss.length ≤ limit) := by
  have h0 : okMasks ds ss f limit budget = 0 := by
    unfold masks at h
    split at h
    · assumption
    · exact congrArg Prod.snd h
  have hm := mk_ok h0
  rw [masks_0 h0] at h
  obtain ⟨h1, h2⟩ := fst_up hm.2.2.2.2.1 h
  refine ⟨hm.1, hm.2.1, h1, h2.trans ?_⟩
  simp only [masked, decide_eq_true_eq, expos_l]
  rw [sum_expos _ (Nat.le_refl _)]
  simp only [List.length_nil]
  unfold lessI
  rw [Int.add_zero]
theorem take_nil {xs : List Int} {n : Nat} (h : n ≤ xs.length) : (xs.take n = [] ↔ n = 0) := by
  constructor
  · intro e
    have := congrArg List.length e
    rw [List.length_take] at this
    simp only [List.length_nil] at this; omega
  · intro e; rw [e]; rfl
theorem dust0 {ds : List GDusting} {a t : Int} (h : okDusts ds = true) (ha : 0 ≤ a ∧ a ≤ 23) (ht : 0 ≤ t ∧ t ≤ 1439) : dustR ds a t = (dAt ds a t, 0) := by
  unfold dustR; rw [if_pos h, if_pos ⟨inR_iff.2 ha, inR_iff.2 ht⟩]
theorem law_c {ts : List GDusting} {ss : List (List Int)} {f most budget code2 : Int} {ys : List Int} {n2 : Nat} (h1 : n2 ≤ ys.length) (h2 : masks ts ss f most budget = (ys.take n2, code2)) (hc : ¬code2 = 0) : ((n2 : Int) == 0) = true := by
  have := masks_no (ds := ts) (ss := ss) (f := f) (limit := most) (budget := budget) (by rw [h2]; exact hc)
  rw [h2] at this
  rw [(take_nil h1).1 this]; rfl
theorem law_d {ts : List GDusting} {ss : List (List Int)} {f most budget code2 : Int} {ys : List Int} {n2 k2 : Nat} (h1 : n2 ≤ ys.length) (h2 : masks ts ss f most budget = (ys.take n2, code2)) (hc : code2 = 0) (hk : k2 = ss.length) : (rises (ys.take n2) k2 && (expR ts ss).2 == 0 && ((n2 : Int) == 0) == decide ((expR ts ss).1 ≤ most)) = true := by
  subst hc
  obtain ⟨q1, q2, q3, q4⟩ := masks_ok h2
  rw [expR_0 q1 q2, hk, q3]
  simp only [Bool.true_and, beq_self_eq_true, beq_iff_eq]
  by_cases e : n2 = 0
  · have := q4.1 ((take_nil h1).2 e)
    rw [decide_eq_true this, e]; rfl
  · have : ¬expT ts ss ss.length ≤ most := fun hh => e ((take_nil h1).1 (q4.2 hh))
    rw [decide_eq_false this, beq_eq_false_iff_ne]
    omega
theorem stay0 {ds : List GDusting} {a u limit n c : Int} (h : stayP ds a u limit (n, c)) (hc : c = 0) : okDusts ds = true ∧ (0 ≤ a ∧ a ≤ 23) ∧ (0 ≤ u ∧ u ≤ 1439) ∧ 0 ≤ limit ∧ 0 ≤ n ∧ u + n ≤ 1440 ∧ dS ds a 1 u n.toNat ≤ limit ∧ (u + n < 1440 → limit < dS ds a 1 u (n + 1).toNat) := by
  rcases h with h | h
  · exact absurd hc h
  · exact h.2
end Go.Proofs.Ytnmfbdkiehickaa
