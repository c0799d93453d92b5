/- Contracts of functions of the program, and what they compute. Conditions: those that each theorem states. -/
import Derived.Test.YtmifcbekaniiiaaGreatDoorProg
import Derived.Test.YtmifcbekaniiiaaGreatDoorA11
set_option linter.unusedVariables false
set_option linter.unusedSimpArgs false
namespace Go.Proofs.YtmifcbekaniiiaaGreatDoor
open Go.Av
attribute [local irreducible] Go.IntKind.wrap listS decS idS isName rd rdZ okSur loR hiR
set_option maxRecDepth 20000
set_option maxHeartbeats 8000000

/-! Surveys: what agrees (plain). -/
abbrev surA (xs : List GSurvey) (k : Int) : GSurvey := xs.getD k.toNat default
/-- does the k-th survey not hold a resistance? -/
def offP (xs : List GSurvey) (r : Int) (k : Int) : Bool := !inR r (loR (surA xs k)) (hiR (surA xs k))
def agA (xs : List GSurvey) (a : ByteArray) (r : Int) : List Int := (selS xs a).filter fun k => !offP xs r k
def lgF (xs : List GSurvey) (a : ByteArray) (b : List Int) (i : Int) : List Int := if (agA xs a (loR (surA xs i))).length > b.length then agA xs a (loR (surA xs i)) else b
/-- the longest list that agrees -/
def lgA (xs : List GSurvey) (a : ByteArray) : List Int := (selS xs a).foldl (lgF xs a) []
def cbL (xs : List GSurvey) (l i : Int) : Int := max l (loR (surA xs i))
def cbH (xs : List GSurvey) (l i : Int) : Int := min l (hiR (surA xs i))
def cbLo (xs : List GSurvey) (a : ByteArray) : Int := (selS xs a).foldl (cbL xs) 1
def cbHi (xs : List GSurvey) (a : ByteArray) : Int := (selS xs a).foldl (cbH xs) 1000000
theorem sel_mem {xs : List GSurvey} {a : ByteArray} {k : Int} : k ∈ selS xs a ↔ (0 ≤ k ∧ k < xs.length) ∧ (surA xs k).airway = a := by
  unfold selS
  rw [selI_mem]
  simp [and_assoc]
theorem sel_len {xs : List GSurvey} {a : ByteArray} : (selS xs a).length ≤ xs.length := selI_le
theorem ag_len {xs : List GSurvey} {a : ByteArray} {r : Int} : (agA xs a r).length ≤ (selS xs a).length := List.length_filter_le _ _
theorem ag_mem {xs : List GSurvey} {a : ByteArray} {r k : Int} : k ∈ agA xs a r ↔ k ∈ selS xs a ∧ loR (surA xs k) ≤ r ∧ r ≤ hiR (surA xs k) := by
  unfold agA offP
  rw [List.mem_filter, Bool.not_not, inR_iff]
theorem lo_hi {xs : List GSurvey} (h : okSurs xs) {k : Int} (h0 : 0 ≤ k) (h1 : k < xs.length) : loR (surA xs k) ≤ hiR (surA xs k) ∧ 1 ≤ loR (surA xs k) ∧ hiR (surA xs k) ≤ 1000000 := by
  have h3 := mid_in (h.nth h0 h1)
  change loR (surA xs k) ≤ _ ∧ _ ≤ hiR (surA xs k) at h3
  have e1 : 1 ≤ loR (surA xs k) := by unfold loR; exact (asR_b _).1
  have e2 : hiR (surA xs k) ≤ 1000000 := by unfold hiR; exact (asR_b _).2
  omega
/-- a fold over groups: not longer than the longest, and one of them -/
theorem lg_fold {xs : List GSurvey} {a : ByteArray} : ∀ (is : List Int) (b : List Int), (is.foldl (lgF xs a) b = b ∨ ∃ i ∈ is, is.foldl (lgF xs a) b = agA xs a (loR (surA xs i))) ∧ b.length ≤ (is.foldl (lgF xs a) b).length ∧ ∀ i ∈ is, (agA xs a (loR (surA xs i))).length ≤ (is.foldl (lgF xs a) b).length
  | [], b => ⟨.inl rfl, Nat.le_refl _, fun i hi => absurd hi (by simp)⟩
  | j :: is, b => by
    have ih := lg_fold (xs := xs) (a := a) is (lgF xs a b j)
    rw [List.foldl_cons]
    have hj : (lgF xs a b j = b ∨ lgF xs a b j = agA xs a (loR (surA xs j))) ∧ b.length ≤ (lgF xs a b j).length ∧ (agA xs a (loR (surA xs j))).length ≤ (lgF xs a b j).length := by
      unfold lgF
      split
      · exact ⟨.inr rfl, by omega, Nat.le_refl _⟩
      · exact ⟨.inl rfl, Nat.le_refl _, by omega⟩
    refine ⟨?_, by omega, fun i hi => ?_⟩
    · rcases ih.1 with e | ⟨i, hi, e⟩
      · rcases hj.1 with e2 | e2
        · left; rw [e, e2]
        · right; exact ⟨j, by simp, by rw [e, e2]⟩
      · right; exact ⟨i, List.mem_cons_of_mem _ hi, e⟩
    · rcases List.mem_cons.1 hi with rfl | hi
      · omega
      · exact ih.2.2 i hi
theorem lg_len {xs : List GSurvey} {a : ByteArray} : (lgA xs a).length ≤ (selS xs a).length := by
  unfold lgA
  rcases (lg_fold (xs := xs) (a := a) (selS xs a) []).1 with e | ⟨i, _, e⟩
  · rw [e]; simp
  · rw [e]; exact ag_len
theorem lg_pos {xs : List GSurvey} {a : ByteArray} (h : okSurs xs) (hp : 0 < (selS xs a).length) : 0 < (lgA xs a).length := by
  have hi : (selS xs a)[0] ∈ selS xs a := List.getElem_mem _
  have h1 := (lg_fold (xs := xs) (a := a) (selS xs a) []).2.2 _ hi
  have h2 := sel_mem.1 hi
  have h3 := lo_hi h h2.1.1 h2.1.2
  have h4 : (selS xs a)[0] ∈ agA xs a (loR (surA xs (selS xs a)[0])) := ag_mem.2 ⟨hi, Int.le_refl _, h3.1⟩
  have h5 := List.length_pos_of_mem h4
  unfold lgA
  omega
theorem cbL_fold {xs : List GSurvey} : ∀ (is : List Int) (l : Int), (is.foldl (cbL xs) l = l ∨ ∃ i ∈ is, is.foldl (cbL xs) l = loR (surA xs i)) ∧ l ≤ is.foldl (cbL xs) l ∧ ∀ i ∈ is, loR (surA xs i) ≤ is.foldl (cbL xs) l
  | [], l => ⟨.inl rfl, Int.le_refl _, fun i hi => absurd hi (by simp)⟩
  | j :: is, l => by
    have ih := cbL_fold (xs := xs) is (cbL xs l j)
    rw [List.foldl_cons]
    have hj : cbL xs l j = max l (loR (surA xs j)) := rfl
    refine ⟨?_, by omega, fun i hi => ?_⟩
    · rcases ih.1 with e | ⟨i, hi, e⟩
      · by_cases e2 : loR (surA xs j) ≤ l
        · left; rw [e]; omega
        · right; exact ⟨j, by simp, by rw [e]; omega⟩
      · right; exact ⟨i, List.mem_cons_of_mem _ hi, e⟩
    · rcases List.mem_cons.1 hi with rfl | hi
      · omega
      · exact ih.2.2 i hi
theorem cbH_fold {xs : List GSurvey} : ∀ (is : List Int) (l : Int), is.foldl (cbH xs) l ≤ l ∧ ∀ i ∈ is, is.foldl (cbH xs) l ≤ hiR (surA xs i)
  | [], l => ⟨Int.le_refl _, fun i hi => absurd hi (by simp)⟩
  | j :: is, l => by
    have ih := cbH_fold (xs := xs) is (cbH xs l j)
    rw [List.foldl_cons]
    have hj : cbH xs l j = min l (hiR (surA xs j)) := rfl
    refine ⟨by omega, fun i hi => ?_⟩
    rcases List.mem_cons.1 hi with rfl | hi
    · omega
    · exact ih.2 i hi
theorem cb_in {xs : List GSurvey} {a : ByteArray} {k : Int} (hk : k ∈ selS xs a) : loR (surA xs k) ≤ cbLo xs a ∧ cbHi xs a ≤ hiR (surA xs k) :=
  ⟨(cbL_fold _ _).2.2 k hk, (cbH_fold _ _).2 k hk⟩
theorem lg_all {xs : List GSurvey} {a : ByteArray} (h : okSurs xs) (hp : 0 < (selS xs a).length) (hc : cbLo xs a ≤ cbHi xs a) : lgA xs a = selS xs a := by
  have hi : (selS xs a)[0] ∈ selS xs a := List.getElem_mem _
  have hm : ∃ i ∈ selS xs a, cbLo xs a = loR (surA xs i) := by
    rcases (cbL_fold (xs := xs) (selS xs a) 1).1 with e | e
    · refine ⟨_, hi, ?_⟩
      have h2 := sel_mem.1 hi
      have h3 := lo_hi h h2.1.1 h2.1.2
      have h4 := (cb_in hi).1
      unfold cbLo at h4 ⊢
      omega
    · exact e
  obtain ⟨i, hi', e⟩ := hm
  have hall : agA xs a (loR (surA xs i)) = selS xs a := by
    unfold agA
    rw [List.filter_eq_self]
    intro k hk
    have h1 := cb_in hk
    unfold offP
    rw [Bool.not_not, inR_iff]
    omega
  have hlen := (lg_fold (xs := xs) (a := a) (selS xs a) []).2.2 i hi'
  rw [hall] at hlen
  unfold lgA
  rcases (lg_fold (xs := xs) (a := a) (selS xs a) []).1 with e2 | ⟨j, _, e2⟩
  · rw [e2] at hlen; simp at hlen; rw [hlen] at hp; simp at hp
  · rw [e2] at hlen ⊢
    exact (List.filter_sublist (l := selS xs a) (p := fun k => !offP xs (loR (surA xs j)) k)).eq_of_length_le hlen
/-- the odd ones -/
def oddA (xs : List GSurvey) : List Int := selI (fun i => !decide (i ∈ lgA xs (surA xs i).airway)) xs.length
theorem odd_mem {xs : List GSurvey} {i : Int} (h0 : 0 ≤ i) (h1 : i < xs.length) : i ∈ oddA xs ↔ ¬i ∈ lgA xs (surA xs i).airway := by
  unfold oddA
  rw [selI_mem]
  simp [h0, h1]
end Go.Proofs.YtmifcbekaniiiaaGreatDoor
