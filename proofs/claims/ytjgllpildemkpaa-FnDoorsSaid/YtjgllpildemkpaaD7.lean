/- Contracts of functions of the program, and what they compute. Conditions: those that each theorem states. -/
import Derived.Test.YtjgllpildemkpaaProg
import Derived.Test.YtjgllpildemkpaaD6
import Derived.Test.YtjgllpildemkpaaR0b
set_option linter.unusedVariables false
set_option linter.unusedSimpArgs false
namespace Go.Proofs.Ytjgllpildemkpaa
open Go.Av
attribute [local irreducible] Go.IntKind.wrap leastI rdZ rd rootI rawA resL dropI binI
set_option maxRecDepth 20000
set_option maxHeartbeats 8000000

/-! Doors that are open or shut, added to resistances: plain facts. -/
def openD (ds : List GDoor) (st : List Bool) (i : Nat) : Int := if st.getD i false then (ds.getD i default).open_ else (ds.getD i default).shut
def doorsN (xs : List Int) (ds : List GDoor) (st : List Bool) : Nat → List Int
  | 0 => xs
  | i + 1 => (doorsN xs ds st i).set (ds.getD i default).airway.toNat ((doorsN xs ds st i).getD (ds.getD i default).airway.toNat 0 + openD ds st i)
theorem doorsN_len {xs : List Int} {ds : List GDoor} {st : List Bool} : ∀ i : Nat, (doorsN xs ds st i).length = xs.length
  | 0 => rfl
  | i + 1 => by rw [doorsN, List.length_set, doorsN_len i]
theorem doorsN_le {xs : List Int} {ds : List GDoor} {st st' : List Bool} : ∀ i : Nat, (∀ j : Nat, j < i → openD ds st' j ≤ openD ds st j) → ∀ k : Nat, (doorsN xs ds st' i).getD k 0 ≤ (doorsN xs ds st i).getD k 0
  | 0, _, _ => Int.le_refl _
  | i + 1, h, k => by
    have h1 := doorsN_le (xs := xs) i (fun j hj => h j (by omega))
    have h2 := h i (by omega)
    rw [doorsN, doorsN, getD_set, getD_set, doorsN_len, doorsN_len]
    by_cases e : (ds.getD i default).airway.toNat = k ∧ k < xs.length
    · rw [if_pos e, if_pos e]; have := h1 (ds.getD i default).airway.toNat; omega
    · rw [if_neg e, if_neg e]; exact h1 k
theorem doorsN_lo {xs : List Int} {ds : List GDoor} {st : List Bool} (hx : ∀ k : Nat, k < xs.length → 1 ≤ xs.getD k 0) : ∀ i : Nat, (∀ j : Nat, j < i → 0 ≤ openD ds st j) → ∀ k : Nat, k < xs.length → 1 ≤ (doorsN xs ds st i).getD k 0
  | 0, _, k, hk => hx k hk
  | i + 1, h, k, hk => by
    have h1 := doorsN_lo hx i (fun j hj => h j (by omega))
    have h2 := h i (by omega)
    rw [doorsN, getD_set, doorsN_len]
    by_cases e : (ds.getD i default).airway.toNat = k ∧ k < xs.length
    · rw [if_pos e, e.1]; have := h1 k hk; omega
    · rw [if_neg e]; exact h1 k hk
theorem allN_iff {n : Nat} {p : Nat → Bool} : allN n p = true ↔ ∀ j : Nat, j < n → p j = true := by unfold allN; rw [List.all_eq_true]; exact ⟨fun h j hj => h j (List.mem_range.2 hj), fun h j hj => h j (List.mem_range.1 hj)⟩
theorem okDoors_p {m : GMine} {ds : List GDoor} (h : okDoors m ds = true) : okMine m = true ∧ ds.length ≤ 8 ∧ ∀ j : Nat, j < ds.length → (0 ≤ (ds.getD j default).airway ∧ (ds.getD j default).airway < m.airways.length) ∧ (1 ≤ (ds.getD j default).open_ ∧ (ds.getD j default).open_ ≤ (ds.getD j default).shut) ∧ (ds.getD j default).shut ≤ 1000000 := by
  simp only [okDoors, Bool.and_eq_true, decide_eq_true_eq] at h
  refine ⟨h.1.1, h.1.2, fun j hj => ?_⟩
  have h2 := allN_iff.1 h.2 j hj
  simp only [doorP, okDoor, Bool.and_eq_true, inR_iff] at h2
  omega
theorem openD_b {m : GMine} {ds : List GDoor} {st : List Bool} (h : okDoors m ds = true) {j : Nat} (hj : j < ds.length) : 1 ≤ openD ds st j ∧ openD ds st j ≤ 1000000 := by
  have := (okDoors_p h).2.2 j hj
  unfold openD; split <;> omega
theorem openD_set {m : GMine} {ds : List GDoor} {st : List Bool} {k : Nat} (h : okDoors m ds = true) {j : Nat} (hj : j < ds.length) : openD ds (st.set k true) j ≤ openD ds st j := by
  have := (okDoors_p h).2.2 j hj
  unfold openD
  rw [getD_set]
  by_cases e : k = j ∧ j < st.length
  · rw [if_pos e, if_pos rfl]; split <;> omega
  · rw [if_neg e]; exact Int.le_refl _
theorem doorsN_hi {xs : List Int} {m : GMine} {ds : List GDoor} {st : List Bool} (h : okDoors m ds = true) {B : Int} (hx : ∀ k : Nat, -B ≤ xs.getD k 0 ∧ xs.getD k 0 ≤ B) : ∀ i : Nat, i ≤ ds.length → ∀ k : Nat, -B ≤ (doorsN xs ds st i).getD k 0 ∧ (doorsN xs ds st i).getD k 0 ≤ B + 1000000 * i
  | 0, _, k => by have := hx k; rw [doorsN]; omega
  | i + 1, hi, k => by
    have h1 := doorsN_hi h hx (st := st) i (by omega)
    have h2 := openD_b (st := st) h (j := i) (by omega)
    rw [doorsN, getD_set]
    have h3 := h1 k
    by_cases e : (ds.getD i default).airway.toNat = k ∧ k < (doorsN xs ds st i).length
    · rw [if_pos e]; have := h1 (ds.getD i default).airway.toNat; omega
    · rw [if_neg e]; omega
/-- what OpenDoors hands back -/
def openL (m : GMine) (ds : List GDoor) (st : List Bool) : List Int := doorsN (resL m) ds st ds.length
def openOk (m : GMine) (ds : List GDoor) (st : List Bool) : Bool := okDoors m ds && decide (st.length = ds.length) && resOkM m && (openL m ds st).all (inR · 1 1000000)
def openErr (m : GMine) (ds : List GDoor) (st : List Bool) : Int := if okDoors m ds = false then 1 else if st.length = ds.length then 6 else 7
theorem open_law {m : GMine} {ds : List GDoor} {st : List Bool} (k : Nat) (h : openOk m ds st = true) : openOk m ds (st.set k true) = true ∧ (openL m ds st).length = m.airways.length ∧ (openL m ds (st.set k true)).length = m.airways.length ∧ ∀ j : Nat, j < m.airways.length → (openL m ds (st.set k true)).getD j 0 ≤ (openL m ds st).getD j 0 ∧ 1 ≤ (openL m ds st).getD j 0 := by
  simp only [openOk, Bool.and_eq_true, decide_eq_true_eq] at h
  obtain ⟨⟨⟨h1, h2⟩, h3⟩, h4⟩ := h
  have hl : (resL m).length = m.airways.length := by unfold resL; simp
  have e1 : (openL m ds st).length = m.airways.length := by unfold openL; rw [doorsN_len, hl]
  have e2 : (openL m ds (st.set k true)).length = m.airways.length := by unfold openL; rw [doorsN_len, hl]
  have h3' := h3
  simp only [resOkM, Bool.and_eq_true] at h3'
  have hr : ∀ j : Nat, j < (resL m).length → 1 ≤ (resL m).getD j 0 := fun j hj => (inR_iff.1 ((all_iff (d := 0)).1 h3'.2 j (by omega))).1
  have hle : ∀ j : Nat, (openL m ds (st.set k true)).getD j 0 ≤ (openL m ds st).getD j 0 := doorsN_le ds.length fun j hj => openD_set h1 hj
  have hlo : ∀ j : Nat, j < (resL m).length → 1 ≤ (openL m ds (st.set k true)).getD j 0 := doorsN_lo hr ds.length fun j hj => by have := openD_b (st := st.set k true) h1 hj; omega
  have hlo2 : ∀ j : Nat, j < (resL m).length → 1 ≤ (openL m ds st).getD j 0 := doorsN_lo hr ds.length fun j hj => by have := openD_b (st := st) h1 hj; omega
  refine ⟨?_, e1, e2, fun j hj => ⟨hle j, hlo2 j (by omega)⟩⟩
  simp only [openOk, Bool.and_eq_true, decide_eq_true_eq]
  refine ⟨⟨⟨h1, by rw [List.length_set]; exact h2⟩, h3⟩, (all_iff (d := 0)).2 fun j hj => inR_iff.2 ?_⟩
  have h5 := (inR_iff.1 ((all_iff (d := 0)).1 h4 j (by omega))).2
  have := hle j; have := hlo j (by omega)
  omega
/-! Regulators. -/
def regOk (r q d : Int) : Bool := inR r 1 1000000 && inR q 1 100000 && inR d 0 1000000
def regP (r q d n : Int) : Bool := decide (dropI (r + n) q ≥ d)
def regI (r q d : Int) : Int := binI (regP r q d) 0 (1000000 - r)
theorem reg_law {r q d : Int} (h : regOk r q d = true) (h1 : regI r q d ≤ 1000000 - r) : (1 ≤ r ∧ 0 ≤ regI r q d ∧ r + regI r q d ≤ 1000000) ∧ (1 ≤ q ∧ q ≤ 100000) ∧ d ≤ dropI (r + regI r q d) q ∧ (0 < regI r q d → dropI (r + regI r q d - 1) q < d) := by
  simp only [regOk, Bool.and_eq_true, inR_iff] at h
  obtain ⟨a, b, c, e⟩ := binI_p (p := regP r q d) (lo := 0) (hi := 1000000 - r) (by omega)
  unfold regI at *
  refine ⟨by omega, by omega, of_decide_eq_true (c h1), fun hp => ?_⟩
  have := of_decide_eq_false (e hp)
  rw [show r + binI (regP r q d) 0 (1000000 - r) - 1 = r + (binI (regP r q d) 0 (1000000 - r) - 1) by omega]
  omega
def shareI (a b : Int) : Int := rdZ (1000 * rootI (1000000 * b)) (rootI (1000000 * a) + rootI (1000000 * b))
def shaOk (a b s : Int) : Bool := inR a 1 1000000 && inR b 1 1000000 && inR s 1 999
def shaP (a b s n : Int) : Bool := decide (shareI (a + n) b ≤ s)
def shaI (a b s : Int) : Int := binI (shaP a b s) 0 (1000000 - a)
theorem root_b {a : Int} (h : 1 ≤ a ∧ a ≤ 1000000) : 1 ≤ rootI (1000000 * a) ∧ rootI (1000000 * a) ≤ 1000000 := ⟨rootI_1 (by omega), (rootI_b (b := 1000000) (by omega) (by omega) (by omega)).2⟩
theorem share_sum {x y : Int} (hx : 1 ≤ x ∧ x ≤ 1000000) (hy : 1 ≤ y ∧ y ≤ 1000000) : 1000 ≤ rdZ (1000 * y) (x + y) + rdZ (1000 * x) (y + x) ∧ rdZ (1000 * y) (x + y) + rdZ (1000 * x) (y + x) ≤ 1001 := by
  rw [rdZ_p (by omega), rdZ_p (by omega), Int.add_comm y x, rd_eq (by omega) (by omega), rd_eq (by omega) (by omega)]
  generalize hd : x + y = d
  have hd0 : 0 < 2 * d := by omega
  have a1 := Int.mul_ediv_add_emod (2 * (1000 * y) + d) (2 * d)
  have a2 := Int.emod_nonneg (2 * (1000 * y) + d) (show 2 * d ≠ 0 by omega)
  have a3 := Int.emod_lt_of_pos (2 * (1000 * y) + d) hd0
  have b1 := Int.mul_ediv_add_emod (2 * (1000 * x) + d) (2 * d)
  have b2 := Int.emod_nonneg (2 * (1000 * x) + d) (show 2 * d ≠ 0 by omega)
  have b3 := Int.emod_lt_of_pos (2 * (1000 * x) + d) hd0
  generalize (2 * (1000 * y) + d) / (2 * d) = p at *
  generalize (2 * (1000 * x) + d) / (2 * d) = q at *
  have e : 2 * d * p + 2 * d * q = 2 * d * (p + q) := by rw [Int.mul_add]
  constructor
  · apply Int.not_lt.1; intro h
    have := Int.mul_le_mul_of_nonneg_left (show p + q ≤ 999 by omega) (show 0 ≤ 2 * d by omega)
    omega
  · apply Int.not_lt.1; intro h
    have := Int.mul_le_mul_of_nonneg_left (show 1002 ≤ p + q by omega) (show 0 ≤ 2 * d by omega)
    omega
theorem sha_law {a b s : Int} (h : shaOk a b s = true) (h1 : shaI a b s ≤ 1000000 - a) : (1 ≤ a ∧ 0 ≤ shaI a b s ∧ a + shaI a b s ≤ 1000000) ∧ (1 ≤ b ∧ b ≤ 1000000) ∧ shareI (a + shaI a b s) b ≤ s ∧ (-1 ≤ shareI (a + shaI a b s) b + shareI b (a + shaI a b s) - 1000 ∧ shareI (a + shaI a b s) b + shareI b (a + shaI a b s) - 1000 ≤ 1) := by
  simp only [shaOk, Bool.and_eq_true, inR_iff] at h
  obtain ⟨x, y, c, e⟩ := binI_p (p := shaP a b s) (lo := 0) (hi := 1000000 - a) (by omega)
  unfold shaI at *
  have h2 := share_sum (root_b (a := a + binI (shaP a b s) 0 (1000000 - a)) (by omega)) (root_b (a := b) (by omega))
  refine ⟨by omega, by omega, of_decide_eq_true (c h1), ?_⟩
  unfold shareI
  omega
end Go.Proofs.Ytjgllpildemkpaa
