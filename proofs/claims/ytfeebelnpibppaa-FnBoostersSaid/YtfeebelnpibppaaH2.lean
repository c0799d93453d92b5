/- Contracts of functions of the program, and what they compute. Conditions: those that each theorem states. -/
import Derived.Test.YtfeebelnpibppaaProg
import Derived.Test.YtfeebelnpibppaaH1
set_option linter.unusedVariables false
set_option linter.unusedSimpArgs false
namespace Go.Proofs.Ytfeebelnpibppaa
open Go.Av
attribute [local irreducible] Go.IntKind.wrap leastI rdZ rd rootI condI sumT parI condS
set_option maxRecDepth 20000
set_option maxHeartbeats 4000000

theorem mulB {a b A B : Int} (h1 : -A ≤ a ∧ a ≤ A) (h3 : 0 ≤ b ∧ b ≤ B) : -(A * B) ≤ a * b ∧ a * b ≤ A * B := by
  have g1 := Int.mul_le_mul_of_nonneg_left h3.2 (show 0 ≤ A by omega)
  have g2 := Int.mul_le_mul_of_nonneg_right h1.2 h3.1
  have g3 := Int.mul_le_mul_of_nonneg_right h1.1 h3.1
  rw [Int.neg_mul] at g3
  omega
theorem snocP {P : Nat → Int → Prop} {ys : List Int} {v : Int} (h : ∀ j : Nat, (j : Int) < ys.length → P j (ys.getD j 0)) (hv : P ys.length v) : ∀ j : Nat, (j : Int) < (ys ++ [v]).length → P j ((ys ++ [v]).getD j 0) := by
  intro j hj
  rw [getD_snoc]
  by_cases e : j = ys.length
  · rw [if_pos e, e]; exact hv
  · rw [if_neg e]; exact h j (by simp at hj; omega)
/-- resistances, all in their bounds -/
def resOk (xs : List Int) : Prop := ∀ j : Nat, (j : Int) < xs.length → 1 ≤ xs.getD j 0 ∧ xs.getD j 0 ≤ 1000000
theorem resOk_of {xs : List Int} (h : resB xs = true) : resOk xs ∧ 1 ≤ xs.length ∧ xs.length ≤ 24 := by
  simp only [resB, Bool.and_eq_true, decide_eq_true_eq] at h
  exact ⟨fun j hj => inR_iff.1 (all_iff.1 h.2 j hj), h.1⟩
theorem condS_0 {xs : List Int} : condS xs 0 = 0 := by unfold condS; rw [sumT_0]; rfl
theorem condS_b {xs : List Int} (hx : resOk xs) : ∀ i : Nat, i ≤ xs.length → (i : Int) ≤ condS xs i ∧ condS xs i ≤ 100000000 * i
  | 0, _ => by rw [show ((0 : Nat) : Int) = 0 from rfl, condS_0]; omega
  | i + 1, h => by
    have h1 := condS_b hx i (by omega)
    have h2 := condS_s (xs := xs) (i := i) (by omega) (by omega) hx
    have h3 := condI_b (hx (Int.toNat i) (by omega))
    rw [show ((i + 1 : Nat) : Int) = (i : Int) + 1 by omega, h2]; omega
theorem condS_mono {xs : List Int} (hx : resOk xs) : ∀ i j : Nat, i ≤ j → j ≤ xs.length → condS xs i ≤ condS xs j := by
  intro i j hij hj
  induction j with
  | zero => have : i = 0 := by omega
            subst this; exact Int.le_refl _
  | succ j ih =>
    by_cases h : i = j + 1
    · subst h; exact Int.le_refl _
    · have h1 := ih (by omega) (by omega)
      have h2 := condS_s (xs := xs) (i := j) (by omega) (by omega) hx
      have h3 := condI_b (hx (Int.toNat j) (by omega))
      rw [show ((j + 1 : Nat) : Int) = (j : Int) + 1 by omega, h2]; omega
/-- what is given away before the i-th -/
def givenD (xs : List Int) (q i : Int) : Int := rdZ (q * condS xs i) (condS xs xs.length)
theorem givenD_0 {xs : List Int} {q : Int} (hl : 1 ≤ condS xs xs.length) : givenD xs q 0 = 0 := by
  unfold givenD; rw [condS_0, Int.mul_zero, rdZ_p (by omega), rd_0 (by omega)]
theorem givenD_e {xs : List Int} {q : Int} (hl : 1 ≤ condS xs xs.length) : givenD xs q xs.length = q := by
  unfold givenD
  have h1 := rdZ_lo (a := q) (x := q * condS xs xs.length) (y := condS xs xs.length) (by omega) (Int.le_refl _)
  have h2 := rdZ_hi (b := q) (x := q * condS xs xs.length) (y := condS xs xs.length) (by omega) (Int.le_refl _)
  omega
theorem givenD_m {xs : List Int} {q : Int} (hx : resOk xs) (hl : 1 ≤ condS xs xs.length) {i j : Nat} (hij : i ≤ j) (hj : j ≤ xs.length) : (0 ≤ q → givenD xs q i ≤ givenD xs q j) ∧ (q ≤ 0 → givenD xs q j ≤ givenD xs q i) := by
  have h1 := condS_mono hx i j hij hj
  unfold givenD
  refine ⟨fun h => rdZ_mono (Int.mul_le_mul_of_nonneg_left h1 h) (by omega), fun h => rdZ_mono (Int.mul_le_mul_of_nonpos_left h h1) (by omega)⟩
theorem givenD_b {xs : List Int} {q : Int} (hx : resOk xs) (hl : 1 ≤ condS xs xs.length) {i : Nat} (hi : i ≤ xs.length) : (0 ≤ q → 0 ≤ givenD xs q i ∧ givenD xs q i ≤ q) ∧ (q ≤ 0 → q ≤ givenD xs q i ∧ givenD xs q i ≤ 0) := by
  have h0 := givenD_m (q := q) hx hl (i := 0) (j := i) (by omega) hi
  have h1 := givenD_m (q := q) hx hl (i := i) (j := xs.length) hi (Nat.le_refl _)
  rw [givenD_e hl] at h1
  rw [show ((0 : Nat) : Int) = 0 from rfl, givenD_0 hl] at h0
  exact ⟨fun h => ⟨h0.1 h, h1.1 h⟩, fun h => ⟨h1.2 h, h0.2 h⟩⟩
def partsI (xs : List Int) (q : Int) : List Int := (List.range xs.length).map fun (j : Nat) => givenD xs q (j + 1) - givenD xs q j
theorem partsI_len {xs : List Int} {q : Int} : (partsI xs q).length = xs.length := by simp [partsI]
theorem partsI_get {xs : List Int} {q : Int} {j : Nat} (h : j < xs.length) : (partsI xs q).getD j 0 = givenD xs q (j + 1) - givenD xs q j := by
  simp [partsI, List.getD_eq_getElem?_getD, h]
theorem partsI_b {xs : List Int} {q : Int} (hx : resOk xs) (hl : 1 ≤ condS xs xs.length) {j : Nat} (h : j < xs.length) : (0 ≤ q → 0 ≤ (partsI xs q).getD j 0 ∧ (partsI xs q).getD j 0 ≤ q) ∧ (q ≤ 0 → q ≤ (partsI xs q).getD j 0 ∧ (partsI xs q).getD j 0 ≤ 0) := by
  rw [partsI_get h]
  have h1 := givenD_b (q := q) hx hl (i := j) (by omega)
  have h2 := givenD_b (q := q) hx hl (i := j + 1) (by omega)
  have h3 := givenD_m (q := q) hx hl (i := j) (j := j + 1) (by omega) (by omega)
  rw [show ((j + 1 : Nat) : Int) = (j : Int) + 1 by omega] at h2 h3
  exact ⟨fun h => by have := h1.1 h; have := h2.1 h; have := h3.1 h; omega, fun h => by have := h1.2 h; have := h2.2 h; have := h3.2 h; omega⟩
attribute [local irreducible] givenD
theorem parts_t {xs : List Int} {q : Int} {ys : List Int} (hl : (ys.length : Int) = xs.length) (h : ∀ j : Nat, (j : Int) < ys.length → ys.getD j 0 = givenD xs q (j + 1) - givenD xs q j) : ys = partsI xs q :=
  ext_getD 0 (by rw [partsI_len]; omega) fun j hj => by rw [h j hj, partsI_get (by omega)]
end Go.Proofs.Ytfeebelnpibppaa
