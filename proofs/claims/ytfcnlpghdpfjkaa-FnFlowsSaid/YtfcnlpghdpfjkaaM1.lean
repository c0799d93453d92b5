/- Contracts of functions of the program, and what they compute. Conditions: those that each theorem states. -/
import Derived.Test.YtfcnlpghdpfjkaaAv3
set_option linter.unusedVariables false
set_option linter.unusedSimpArgs false
namespace Go.Proofs.Ytfcnlpghdpfjkaa
open Go.Av

/-! Plain facts on numbers, strings and lists. -/
def inR (x a b : Int) : Bool := decide (a ≤ x) && decide (x ≤ b)
theorem inR_iff {x a b : Int} : inR x a b = true ↔ a ≤ x ∧ x ≤ b := by simp [inR]
theorem all_s {P : Nat → Prop} {i : Int} (h0 : 0 ≤ i) (h : ∀ j : Nat, (j : Int) < i → P j) (hi : P i.toNat) : ∀ j : Nat, (j : Int) < i + 1 → P j := fun j hj => by
  by_cases e : (j : Int) < i
  · exact h j e
  · have : j = i.toNat := by omega
    rw [this]; exact hi
theorem all_0 {P : Nat → Prop} : ∀ j : Nat, (j : Int) < 0 → P j := fun j hj => absurd hj (by omega)
def allB (p : Int → Bool) (s : ByteArray) : Bool := (List.range s.size).all fun i => p (byteAt s i)
theorem allB_iff {p : Int → Bool} {s : ByteArray} : allB p s = true ↔ ∀ j : Nat, (j : Int) < s.size → p (byteAt s j) = true := by
  simp only [allB, List.all_eq_true, List.mem_range, Int.ofNat_lt]
theorem allB_t {p : Int → Bool} {s : ByteArray} {i : Int} (hi : (s.size : Int) ≤ i) (h : ∀ j : Nat, (j : Int) < i → p (byteAt s j) = true) : true = allB p s :=
  (allB_iff.2 fun j hj => h j (by omega)).symm
theorem allB_f {p : Int → Bool} {s : ByteArray} {i : Int} (h0 : 0 ≤ i) (hi : i < s.size) (h : p (byteAt s i.toNat) = false) : false = allB p s := by
  refine (Bool.eq_false_iff.2 fun hh => ?_).symm
  rw [allB_iff.1 hh i.toNat (by omega)] at h; cases h
section
variable {α : Type} {p : α → Bool} {xs : List α} {d : α}
theorem all_iff : xs.all p = true ↔ ∀ j : Nat, (j : Int) < xs.length → p (xs.getD j d) = true := by
  rw [List.all_eq_true]
  constructor
  · intro h j hj
    have hj : j < xs.length := by omega
    rw [List.getD_eq_getElem?_getD, List.getElem?_eq_getElem hj]; exact h _ (List.getElem_mem hj)
  · intro h x hx
    obtain ⟨j, hj, rfl⟩ := List.getElem_of_mem hx
    have := h j (by omega)
    rwa [List.getD_eq_getElem?_getD, List.getElem?_eq_getElem hj] at this
theorem all_t {i : Int} (hi : (xs.length : Int) ≤ i) (h : ∀ j : Nat, (j : Int) < i → p (xs.getD j d) = true) : true = xs.all p :=
  (all_iff.2 fun j hj => h j (by omega)).symm
theorem all_f {i : Int} (h0 : 0 ≤ i) (hi : i < xs.length) (h : p (xs.getD i.toNat d) = false) : false = xs.all p := by
  refine (Bool.eq_false_iff.2 fun hh => ?_).symm
  rw [(all_iff (d := d)).1 hh i.toNat (by omega)] at h; cases h
theorem getD_mem {j : Nat} (hj : j < xs.length) : xs.getD j d ∈ xs := by
  rw [List.getD_eq_getElem?_getD, List.getElem?_eq_getElem hj]; exact List.getElem_mem hj
end
/-- what is left of n -/
def szR (n : Int) (t : Nat) : Int := if n - t < 0 then -1 else n - t
/-- k, k + 1, .. -/
def iotaI (k : Int) (n : Nat) : List Int := (List.range n).map fun (j : Nat) => k + (j : Int)
theorem iotaI_len {k : Int} {n : Nat} : (iotaI k n).length = n := by simp [iotaI]
theorem iotaI_get {k : Int} {n j : Nat} (h : j < n) : (iotaI k n).getD j 0 = k + j := by
  simp [iotaI, List.getD_eq_getElem?_getD, h]
theorem iotaI_succ {k : Int} {n : Nat} : iotaI k (n + 1) = iotaI k n ++ [k + n] := by simp [iotaI, List.range_succ]
theorem eI_same : ([PV.c (Value.int IntKind.i64 0)] = eI 0) = True := by simp [eI]
def idxI (p : Int → Bool) (xs : List Int) : Int := match xs.findIdx? p with
  | some i => (i : Int)
  | none => -1
theorem idxI_at {p : Int → Bool} {xs : List Int} {i : Int} (h0 : 0 ≤ i) (h1 : i < xs.length) (h2 : p (xs.getD i.toNat 0) = true) (h3 : ∀ j : Nat, (j : Int) < i → p (xs.getD j 0) = false) : i = idxI p xs := by
  have hi : i.toNat < xs.length := by omega
  have e : xs.findIdx? p = some i.toNat := by
    rw [List.findIdx?_eq_some_iff_getElem]
    refine ⟨hi, ?_, fun j hj => ?_⟩
    · rwa [List.getD_eq_getElem?_getD, List.getElem?_eq_getElem hi] at h2
    · have h4 := h3 j (by omega)
      have hj' : j < xs.length := by omega
      rw [List.getD_eq_getElem?_getD, List.getElem?_eq_getElem hj'] at h4
      simpa using h4
  simp only [idxI, e]; omega
theorem idxI_none {p : Int → Bool} {xs : List Int} {i : Int} (h1 : xs.length ≤ i) (h3 : ∀ j : Nat, (j : Int) < i → p (xs.getD j 0) = false) : -1 = idxI p xs := by
  have e : xs.findIdx? p = none := by
    rw [List.findIdx?_eq_none_iff]
    intro x hx
    obtain ⟨j, hj, rfl⟩ := List.getElem_of_mem hx
    have h4 := h3 j (by omega)
    rwa [List.getD_eq_getElem?_getD, List.getElem?_eq_getElem hj] at h4
  simp only [idxI, e]
theorem idxI_any {p : Int → Bool} {xs : List Int} : decide (idxI p xs ≥ 0) = xs.any p := by
  unfold idxI
  cases h : xs.findIdx? p with
  | none =>
    rw [List.findIdx?_eq_none_iff] at h
    have : xs.any p = false := by rw [List.any_eq_false]; intro x hx; simp [h x hx]
    rw [this]; rfl
  | some i =>
    rw [List.findIdx?_eq_some_iff_getElem] at h
    obtain ⟨hi, hp, _⟩ := h
    have : xs.any p = true := List.any_eq_true.2 ⟨_, List.getElem_mem hi, hp⟩
    rw [this]; simp
theorem not_any_not {α : Type} {p : α → Bool} {xs : List α} : (!xs.any fun x => !p x) = xs.all p := by rw [List.not_any_eq_all_not]; simp
theorem bl_tri : ∀ x y : List UInt8, Op.bytesLess x y = !(Op.bytesLess y x || decide (x = y))
  | [], [] => by simp [Op.bytesLess]
  | [], b :: y => by simp [Op.bytesLess]
  | a :: x, [] => by simp [Op.bytesLess]
  | a :: x, b :: y => by
    have ih := bl_tri x y
    have e : ∀ u v : UInt8, (u < v) = (u.toNat < v.toNat) := fun u v => by rw [UInt8.lt_iff_toNat_lt]
    have q : ∀ u v : UInt8, (u = v) = (u.toNat = v.toNat) := fun u v => by rw [← UInt8.toNat_inj]
    simp only [Op.bytesLess, List.cons.injEq]
    rcases Nat.lt_trichotomy a.toNat b.toNat with h | h | h
    · have h1 : a < b := by rw [e]; exact h
      have h2 : ¬b < a := by rw [e]; omega
      have h3 : a ≠ b := by rw [Ne, q]; omega
      simp [h1, h2, h3, h3.symm]
    · have h3 : a = b := by rw [q]; exact h
      subst h3
      have h1 : ¬a < a := by rw [e]; omega
      simp [h1, ih]
    · have h1 : ¬a < b := by rw [e]; omega
      have h2 : b < a := by rw [e]; exact h
      have h3 : a ≠ b := by rw [Ne, q]; omega
      simp [h1, h2, h3, h3.symm]
theorem sLt_tri (a b : ByteArray) : sLt a b = !(sLt b a || decide (b = a)) := by
  unfold sLt
  rw [bl_tri, ByteArray.toList_eq, ByteArray.toList_eq]
  congr 2
  by_cases h : b = a
  · subst h; simp
  · rw [decide_eq_false h, decide_eq_false fun e => h (bytes_inj e.symm)]
theorem sLt_t {a b : ByteArray} : sLt a b = true ↔ sLt b a = false ∧ ¬b = a := by rw [sLt_tri]; simp
theorem sLt_f {a b : ByteArray} : sLt a b = false ↔ sLt b a = true ∨ b = a := by rw [sLt_tri]; cases h : sLt b a <;> simp
/-- each one fits the one before it -/
def adjB {α : Type} (r : α → α → Bool) (d : α) (xs : List α) : Bool := (List.range xs.length).all fun j => decide (j = 0) || r (xs.getD (j - 1) d) (xs.getD j d)
theorem adjB_iff {α : Type} {r : α → α → Bool} {d : α} {xs : List α} : adjB r d xs = true ↔ ∀ j : Nat, (j : Int) < xs.length → j = 0 ∨ r (xs.getD (j - 1) d) (xs.getD j d) = true := by
  simp only [adjB, List.all_eq_true, List.mem_range, Bool.or_eq_true, decide_eq_true_eq, Int.ofNat_lt]
/-- up to i: each one is valid and fits the one before it -/
def okTo {α : Type} (p : α → Bool) (r : α → α → Bool) (d : α) (xs : List α) (i : Int) : Prop := (∀ j : Nat, (j : Int) < i → p (xs.getD j d) = true) ∧ ∀ j : Nat, (j : Int) < i → j = 0 ∨ r (xs.getD (j - 1) d) (xs.getD j d) = true
def okAll {α : Type} (p : α → Bool) (r : α → α → Bool) (d : α) (xs : List α) : Bool := xs.all p && adjB r d xs
theorem okTo_0 {α : Type} {p : α → Bool} {r : α → α → Bool} {d : α} {xs : List α} : okTo p r d xs 0 := ⟨all_0, all_0⟩
theorem okTo_s {α : Type} {p : α → Bool} {r : α → α → Bool} {d : α} {xs : List α} {i : Int} (h0 : 0 ≤ i) (h : okTo p r d xs i) (h1 : p (xs.getD i.toNat d) = true) (h2 : 0 < i → r (xs.getD (i - 1).toNat d) (xs.getD i.toNat d) = true) : okTo p r d xs (i + 1) :=
  ⟨all_s h0 h.1 h1, all_s (P := fun j => j = 0 ∨ r (xs.getD (j - 1) d) (xs.getD j d) = true) h0 h.2 (by
    by_cases e : 0 < i
    · exact .inr (by rw [show i.toNat - 1 = (i - 1).toNat by omega]; exact h2 e)
    · exact .inl (by omega))⟩
theorem okAll_t {α : Type} {p : α → Bool} {r : α → α → Bool} {d : α} {xs : List α} {i : Int} (hi : xs.length ≤ i) (h : okTo p r d xs i) : okAll p r d xs = true := by
  unfold okAll; rw [← all_t (p := p) (d := d) hi h.1, adjB_iff.2 fun j hj => h.2 j (by omega)]; rfl
theorem okAll_f {α : Type} {p : α → Bool} {r : α → α → Bool} {d : α} {xs : List α} {i : Int} (h0 : 0 ≤ i) (hi : i < xs.length) (h : p (xs.getD i.toNat d) = false ∨ 0 < i ∧ r (xs.getD (i - 1).toNat d) (xs.getD i.toNat d) = false) : okAll p r d xs = false := by
  unfold okAll
  rcases h with h | ⟨h, h'⟩
  · rw [← all_f (p := p) h0 hi h]; rfl
  · have : adjB r d xs = false := Bool.eq_false_iff.2 fun hh => by
      rcases adjB_iff.1 hh i.toNat (by omega) with h2 | h2
      · omega
      · rw [show i.toNat - 1 = (i - 1).toNat by omega, h'] at h2; cases h2
    rw [this, Bool.and_false]
end Go.Proofs.Ytfcnlpghdpfjkaa

