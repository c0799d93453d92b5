/- Contracts of functions of the program, and what they compute. Conditions: those that each theorem states. -/
import Derived.Test.YtkpbogjkgladiaaAv3
set_option linter.unusedVariables false
set_option linter.unusedSimpArgs false
namespace Go.Proofs.Ytkpbogjkgladiaa
open Go.Av

/-! Plain facts on numbers, strings and lists. -/
def inR (x a b : Int) : Bool := decide (a ≤ x) && decide (x ≤ b)
theorem inR_iff {x a b : Int} : inR x a b = true ↔ a ≤ x ∧ x ≤ b := by simp [inR]
theorem inR_f {x a b : Int} : inR x a b = false ↔ x < a ∨ b < x := by simp only [inR, Bool.and_eq_false_imp, decide_eq_true_eq, decide_eq_false_iff_not]; omega
theorem all_s {P : Nat → Prop} {i : Int} (h0 : 0 ≤ i) (h : ∀ j : Nat, (j : Int) < i → P j) (hi : P i.toNat) : ∀ j : Nat, (j : Int) < i + 1 → P j := fun j hj => by
  by_cases e : (j : Int) < i
  · exact h j e
  · have : j = i.toNat := by omega
    rw [this]; exact hi
theorem all_0 {P : Nat → Prop} : ∀ j : Nat, (j : Int) < 0 → P j := fun j hj => absurd hj (by omega)
def allB (p : Int → Bool) (s : ByteArray) : Bool := (List.range s.size).all fun i => p (byteAt s i)
theorem allB_iff {p : Int → Bool} {s : ByteArray} : allB p s = true ↔ ∀ j : Nat, (j : Int) < s.size → p (byteAt s j) = true := by
  simp only [allB, List.all_eq_true, List.mem_range, Int.ofNat_lt]
theorem allB_t {p : Int → Bool} {s : ByteArray} {i : Int} (hi : (s.size : Int) ≤ i) (h : ∀ j : Nat, (j : Int) < i → p (byteAt s j) = true) : true = allB p s :=
  (allB_iff.2 fun j hj => h j (by omega)).symm
theorem allB_f {p : Int → Bool} {s : ByteArray} {i : Int} (h0 : 0 ≤ i) (hi : i < s.size) (h : p (byteAt s i.toNat) = false) : false = allB p s := by
  refine (Bool.eq_false_iff.2 fun hh => ?_).symm
  rw [allB_iff.1 hh i.toNat (by omega)] at h; cases h
section
variable {α : Type} {p : α → Bool} {xs : List α} {d : α}
theorem all_iff : xs.all p = true ↔ ∀ j : Nat, (j : Int) < xs.length → p (xs.getD j d) = true := by
  rw [List.all_eq_true]
  constructor
  · intro h j hj
    have hj : j < xs.length := by omega
    rw [List.getD_eq_getElem?_getD, List.getElem?_eq_getElem hj]; exact h _ (List.getElem_mem hj)
  · intro h x hx
    obtain ⟨j, hj, rfl⟩ := List.getElem_of_mem hx
    have := h j (by omega)
    rwa [List.getD_eq_getElem?_getD, List.getElem?_eq_getElem hj] at this
theorem all_t {i : Int} (hi : (xs.length : Int) ≤ i) (h : ∀ j : Nat, (j : Int) < i → p (xs.getD j d) = true) : true = xs.all p :=
  (all_iff.2 fun j hj => h j (by omega)).symm
theorem all_f {i : Int} (h0 : 0 ≤ i) (hi : i < xs.length) (h : p (xs.getD i.toNat d) = false) : false = xs.all p := by
  refine (Bool.eq_false_iff.2 fun hh => ?_).symm
  rw [(all_iff (d := d)).1 hh i.toNat (by omega)] at h; cases h
theorem getD_mem {j : Nat} (hj : j < xs.length) : xs.getD j d ∈ xs := by
  rw [List.getD_eq_getElem?_getD, List.getElem?_eq_getElem hj]; exact List.getElem_mem hj
theorem ext_getD {ys : List α} (d : α) (hl : xs.length = ys.length) (h : ∀ j : Nat, (j : Int) < xs.length → xs.getD j d = ys.getD j d) : xs = ys := by
  refine List.ext_getElem hl fun j h1 h2 => ?_
  have := h j (by omega)
  rwa [List.getD_eq_getElem?_getD, List.getElem?_eq_getElem h1, List.getD_eq_getElem?_getD, List.getElem?_eq_getElem h2] at this
theorem getD_set {j k : Nat} {v : α} : (xs.set j v).getD k d = if j = k ∧ k < xs.length then v else xs.getD k d := by
  simp only [List.getD_eq_getElem?_getD, List.getElem?_set]
  by_cases h : j = k
  · subst h
    by_cases h2 : j < xs.length <;> simp [h2]
  · simp [h]
theorem getD_snoc {v : α} {k : Nat} : (xs ++ [v]).getD k d = if k = xs.length then v else xs.getD k d := by
  simp only [List.getD_eq_getElem?_getD, List.getElem?_append]
  by_cases h : k < xs.length
  · have : k ≠ xs.length := by omega
    simp [h, this]
  · by_cases h2 : k = xs.length
    · subst h2; simp
    · have h3 : xs[k]? = none := List.getElem?_eq_none (by omega)
      have h4 : [v][k - xs.length]? = none := List.getElem?_eq_none (by simp; omega)
      simp [h, h2, h4]
theorem take_snoc {i : Int} (h0 : 0 ≤ i) (h : i < xs.length) (d : α) : xs.take (i + 1).toNat = xs.take i.toNat ++ [xs.getD i.toNat d] := by
  have e : (i + 1).toNat = i.toNat + 1 := by omega
  have h' : i.toNat < xs.length := by omega
  rw [e, List.take_add_one, List.getD_eq_getElem?_getD, List.getElem?_eq_getElem h']; rfl
end
/-- k, k + 1, .. -/
def iotaI (k : Int) (n : Nat) : List Int := (List.range n).map fun (j : Nat) => k + (j : Int)
theorem iotaI_len {k : Int} {n : Nat} : (iotaI k n).length = n := by simp [iotaI]
theorem iotaI_get {k : Int} {n j : Nat} (h : j < n) : (iotaI k n).getD j 0 = k + j := by
  simp [iotaI, List.getD_eq_getElem?_getD, h]
theorem iotaI_succ {k : Int} {n : Nat} : iotaI k (n + 1) = iotaI k n ++ [k + n] := by simp [iotaI, List.range_succ]
theorem eI_same : ([PV.c (Value.int IntKind.i64 0)] = eI 0) = True := by simp [eI]
theorem eI_inj {xs ys : List Int} (h : xs = ys) : xs.map eI = ys.map eI := by rw [h]
theorem iota_of {k : Int} {n : Nat} {ys : List Int} (hl : ys.length = n) (h : ∀ j : Nat, (j : Int) < n → ys.getD j 0 = k + j) : ys = iotaI k n :=
  ext_getD 0 (by rw [iotaI_len]; exact hl) fun j hj => by rw [iotaI_get (by omega)]; exact h j (by omega)
/-- the numbers below n that p chooses -/
def selI (p : Int → Bool) (n : Nat) : List Int := ((List.range n).map Int.ofNat).filter p
theorem selI_0 {p : Int → Bool} : selI p 0 = [] := rfl
theorem selI_succ {p : Int → Bool} {n : Nat} : selI p (n + 1) = if p n = true then selI p n ++ [(n : Int)] else selI p n := by
  simp only [selI, List.range_succ, List.map_append, List.filter_append, List.map_cons, List.map_nil, List.filter_cons, List.filter_nil]
  split <;> simp_all
theorem selI_s {p : Int → Bool} {i : Int} (h : 0 ≤ i) (hp : p i = true) : selI p (i + 1).toNat = selI p i.toNat ++ [i] := by
  obtain ⟨n, rfl⟩ := Int.eq_ofNat_of_zero_le h
  have : ((n : Int) + 1).toNat = n + 1 := by omega
  rw [this, selI_succ, if_pos hp]; simp
theorem selI_n {p : Int → Bool} {i : Int} (h : 0 ≤ i) (hp : p i = false) : selI p (i + 1).toNat = selI p i.toNat := by
  obtain ⟨n, rfl⟩ := Int.eq_ofNat_of_zero_le h
  have : ((n : Int) + 1).toNat = n + 1 := by omega
  rw [this, selI_succ, if_neg (by simp [hp])]; simp
theorem selI_le {p : Int → Bool} {n : Nat} : (selI p n).length ≤ n := by
  refine Nat.le_trans (List.length_filter_le _ _) (by simp)
theorem selI_mem {p : Int → Bool} {n : Nat} {x : Int} : x ∈ selI p n ↔ 0 ≤ x ∧ x < n ∧ p x = true := by
  simp only [selI, List.mem_filter, List.mem_map, List.mem_range]
  constructor
  · rintro ⟨⟨m, hm, rfl⟩, hp⟩; exact ⟨by simp, by simpa using hm, hp⟩
  · rintro ⟨h0, h1, hp⟩; exact ⟨⟨x.toNat, by omega, by simp; omega⟩, hp⟩
def idxI (p : Int → Bool) (xs : List Int) : Int := match xs.findIdx? p with
  | some i => (i : Int)
  | none => -1
theorem idxI_at {p : Int → Bool} {xs : List Int} {i : Int} (h0 : 0 ≤ i) (h1 : i < xs.length) (h2 : p (xs.getD i.toNat 0) = true) (h3 : ∀ j : Nat, (j : Int) < i → p (xs.getD j 0) = false) : i = idxI p xs := by
  have hi : i.toNat < xs.length := by omega
  have e : xs.findIdx? p = some i.toNat := by
    rw [List.findIdx?_eq_some_iff_getElem]
    refine ⟨hi, ?_, fun j hj => ?_⟩
    · rwa [List.getD_eq_getElem?_getD, List.getElem?_eq_getElem hi] at h2
    · have h4 := h3 j (by omega)
      have hj' : j < xs.length := by omega
      rw [List.getD_eq_getElem?_getD, List.getElem?_eq_getElem hj'] at h4
      simpa using h4
  simp only [idxI, e]; omega
theorem idxI_none {p : Int → Bool} {xs : List Int} {i : Int} (h1 : xs.length ≤ i) (h3 : ∀ j : Nat, (j : Int) < i → p (xs.getD j 0) = false) : -1 = idxI p xs := by
  have e : xs.findIdx? p = none := by
    rw [List.findIdx?_eq_none_iff]
    intro x hx
    obtain ⟨j, hj, rfl⟩ := List.getElem_of_mem hx
    have h4 := h3 j (by omega)
    rwa [List.getD_eq_getElem?_getD, List.getElem?_eq_getElem hj] at h4
  simp only [idxI, e]
theorem idxI_any {p : Int → Bool} {xs : List Int} : decide (idxI p xs ≥ 0) = xs.any p := by
  unfold idxI
  cases h : xs.findIdx? p with
  | none =>
    rw [List.findIdx?_eq_none_iff] at h
    have : xs.any p = false := by rw [List.any_eq_false]; intro x hx; simp [h x hx]
    rw [this]; rfl
  | some i =>
    rw [List.findIdx?_eq_some_iff_getElem] at h
    obtain ⟨hi, hp, _⟩ := h
    have : xs.any p = true := List.any_eq_true.2 ⟨_, List.getElem_mem hi, hp⟩
    rw [this]; simp
theorem not_any_not {α : Type} {p : α → Bool} {xs : List α} : (!xs.any fun x => !p x) = xs.all p := by rw [List.not_any_eq_all_not]; simp
end Go.Proofs.Ytkpbogjkgladiaa
