/- Contracts of functions of the program, and what they compute. Conditions: those that each theorem states. -/
import Derived.Test.YtdhkpmaanegjkaaGreatDoorK0
import Derived.Test.YtdhkpmaanegjkaaGreatDoorProg
set_option linter.unusedVariables false
set_option linter.unusedSimpArgs false
namespace Go.Proofs.YtdhkpmaanegjkaaGreatDoor
open Go.Av
def inR (x a b : Int) : Bool := decide (a ≤ x) && decide (x ≤ b)
theorem inR_iff {x a b : Int} : inR x a b = true ↔ a ≤ x ∧ x ≤ b := by simp [inR]
theorem inR_f {x a b : Int} : inR x a b = false ↔ x < a ∨ b < x := by simp only [inR, Bool.and_eq_false_imp, decide_eq_true_eq, decide_eq_false_iff_not]; omega
theorem all_s {P : Nat → Prop} {i : Int} (h0 : 0 ≤ i) (h : ∀ j : Nat, (j : Int) < i → P j) (hi : P i.toNat) : ∀ j : Nat, (j : Int) < i + 1 → P j := fun j hj => by
  by_cases e : (j : Int) < i
  · exact h j e
  · have : j = i.toNat := by omega
    rw [this]; exact hi
theorem all_0 {P : Nat → Prop} : ∀ j : Nat, (j : Int) < 0 → P j := fun j hj => absurd hj (by omega)
def allB (p : Int → Bool) (s : ByteArray) : Bool := (List.range s.size).all fun i => p (byteAt s i)
theorem allB_iff {p : Int → Bool} {s : ByteArray} : allB p s = true ↔ ∀ j : Nat, (j : Int) < s.size → p (byteAt s j) = true := by
  simp only [allB, List.all_eq_true, List.mem_range, Int.ofNat_lt]
theorem allB_t {p : Int → Bool} {s : ByteArray} {i : Int} (hi : (s.size : Int) ≤ i) (h : ∀ j : Nat, (j : Int) < i → p (byteAt s j) = true) : true = allB p s :=
  (allB_iff.2 fun j hj => h j (by omega)).symm
theorem allB_f {p : Int → Bool} {s : ByteArray} {i : Int} (h0 : 0 ≤ i) (hi : i < s.size) (h : p (byteAt s i.toNat) = false) : false = allB p s := by
  refine (Bool.eq_false_iff.2 fun hh => ?_).symm
  rw [allB_iff.1 hh i.toNat (by omega)] at h; cases h
section
variable {α : Type} {p : α → Bool} {xs : List α} {d : α}
theorem all_iff : xs.all p = true ↔ ∀ j : Nat, (j : Int) < xs.length → p (xs.getD j d) = true := by
  rw [List.all_eq_true]
  constructor
  · intro h j hj
    have hj : j < xs.length := by omega
    rw [List.getD_eq_getElem?_getD, List.getElem?_eq_getElem hj]; exact h _ (List.getElem_mem hj)
  · intro h x hx
    obtain ⟨j, hj, rfl⟩ := List.getElem_of_mem hx
    have := h j (by omega)
    rwa [List.getD_eq_getElem?_getD, List.getElem?_eq_getElem hj] at this
theorem all_t {i : Int} (hi : (xs.length : Int) ≤ i) (h : ∀ j : Nat, (j : Int) < i → p (xs.getD j d) = true) : true = xs.all p :=
  (all_iff.2 fun j hj => h j (by omega)).symm
theorem all_f {i : Int} (h0 : 0 ≤ i) (hi : i < xs.length) (h : p (xs.getD i.toNat d) = false) : false = xs.all p := by
  refine (Bool.eq_false_iff.2 fun hh => ?_).symm
  rw [(all_iff (d := d)).1 hh i.toNat (by omega)] at h; cases h
theorem getD_mem {j : Nat} (hj : j < xs.length) : xs.getD j d ∈ xs := by
  rw [List.getD_eq_getElem?_getD, List.getElem?_eq_getElem hj]; exact List.getElem_mem hj
theorem ext_getD {ys : List α} (d : α) (hl : xs.length = ys.length) (h : ∀ j : Nat, (j : Int) < xs.length → xs.getD j d = ys.getD j d) : xs = ys := by
  refine List.ext_getElem hl fun j h1 h2 => ?_
  have := h j (by omega)
  rwa [List.getD_eq_getElem?_getD, List.getElem?_eq_getElem h1, List.getD_eq_getElem?_getD, List.getElem?_eq_getElem h2] at this
theorem getD_set {j k : Nat} {v : α} : (xs.set j v).getD k d = if j = k ∧ k < xs.length then v else xs.getD k d := by
  simp only [List.getD_eq_getElem?_getD, List.getElem?_set]
  by_cases h : j = k
  · subst h
    by_cases h2 : j < xs.length <;> simp [h2]
  · simp [h]
theorem getD_snoc {v : α} {k : Nat} : (xs ++ [v]).getD k d = if k = xs.length then v else xs.getD k d := by
  simp only [List.getD_eq_getElem?_getD, List.getElem?_append]
  by_cases h : k < xs.length
  · have : k ≠ xs.length := by omega
    simp [h, this]
  · by_cases h2 : k = xs.length
    · subst h2; simp
    · have h3 : xs[k]? = none := List.getElem?_eq_none (by omega)
      have h4 : [v][k - xs.length]? = none := List.getElem?_eq_none (by simp; omega)
      simp [h, h2, h4]
theorem take_snoc {i : Int} (h0 : 0 ≤ i) (h : i < xs.length) (d : α) : xs.take (i + 1).toNat = xs.take i.toNat ++ [xs.getD i.toNat d] := by
  have e : (i + 1).toNat = i.toNat + 1 := by omega
  have h' : i.toNat < xs.length := by omega
  rw [e, List.take_add_one, List.getD_eq_getElem?_getD, List.getElem?_eq_getElem h']; rfl
end
def foldT {α β : Type} (f : β → α → β) (z : β) (xs : List α) (i : Int) : β := (xs.take i.toNat).foldl f z
theorem foldT_0 {α β : Type} {f : β → α → β} {z : β} {xs : List α} : foldT f z xs 0 = z := rfl
theorem foldT_s {α β : Type} {f : β → α → β} {z : β} {xs : List α} {i : Int} (h0 : 0 ≤ i) (h : i < xs.length) (d : α) : foldT f z xs (i + 1) = f (foldT f z xs i) (xs.getD i.toNat d) := by
  simp only [foldT]; rw [take_snoc h0 h d, List.foldl_append]; rfl
theorem foldT_e {α β : Type} {f : β → α → β} {z : β} {xs : List α} {i : Int} (h : xs.length ≤ i) : foldT f z xs i = xs.foldl f z := by
  simp only [foldT]; rw [List.take_of_length_le (by omega)]
def rising (xs : List Int) : Bool := (List.range xs.length).all fun j => decide (j = 0) || decide (xs.getD (j - 1) 0 < xs.getD j 0)
theorem rising_iff {xs : List Int} : rising xs = true ↔ ∀ j : Nat, (j : Int) < xs.length → j = 0 ∨ xs.getD (j - 1) 0 < xs.getD j 0 := by
  simp only [rising, List.all_eq_true, List.mem_range, Bool.or_eq_true, decide_eq_true_eq, Int.ofNat_lt]
theorem rising_f {xs : List Int} {i : Int} (h0 : 0 < i) (h1 : i < xs.length) (h : xs.getD i.toNat 0 ≤ xs.getD (i - 1).toNat 0) : rising xs = false := by
  refine Bool.eq_false_iff.2 fun hh => ?_
  have e : (i - 1).toNat = i.toNat - 1 := by omega
  rcases rising_iff.1 hh i.toNat (by omega) with h2 | h2
  · omega
  · rw [e] at h; omega
def szR (n : Int) (t : Nat) : Int := if n - t < 0 then -1 else n - t
theorem szR_le {n : Int} {t : Nat} (h : 0 ≤ szR n t) : (t : Int) ≤ n := by
  unfold szR at h; split at h <;> omega
def sumT {α : Type} (f : α → Nat) (xs : List α) (i : Int) : Nat := ((xs.take i.toNat).map f).sum
theorem sumT_0 {α : Type} {f : α → Nat} {xs : List α} : sumT f xs 0 = 0 := rfl
theorem sumT_s {α : Type} {f : α → Nat} {xs : List α} {i : Int} (h0 : 0 ≤ i) (h : i < xs.length) (d : α) : sumT f xs (i + 1) = sumT f xs i + f (xs.getD i.toNat d) := by
  simp only [sumT]; rw [take_snoc h0 h d]; simp
theorem sumT_e {α : Type} {f : α → Nat} {xs : List α} {i : Int} (h : xs.length ≤ i) : sumT f xs i = (xs.map f).sum := by
  simp only [sumT]; rw [List.take_of_length_le (by omega)]
theorem sumT_le {α : Type} {f : α → Nat} {xs : List α} {i : Int} : sumT f xs i ≤ (xs.map f).sum := by
  have e : (xs.map f).sum = ((xs.take i.toNat).map f).sum + ((xs.drop i.toNat).map f).sum := by rw [← List.sum_append, ← List.map_append, List.take_append_drop]
  simp only [sumT]; omega
def iotaI (k : Int) (n : Nat) : List Int := (List.range n).map fun (j : Nat) => k + (j : Int)
theorem iotaI_len {k : Int} {n : Nat} : (iotaI k n).length = n := by simp [iotaI]
theorem lnS : (∀ (α β : Type) (f : α → β) (xs : List α), (xs.map f).length = xs.length) ∧ (∀ (α : Type) (x : α) (xs : List α), (x :: xs).length = xs.length + 1) ∧ (∀ α : Type, ([] : List α).length = 0) ∧ (∀ (α : Type) (xs ys : List α), (xs ++ ys).length = xs.length + ys.length) ∧ (∀ (α : Type) (xs : List α) (i : Nat) (x : α), (xs.set i x).length = xs.length) ∧ (∀ (α : Type) (n : Nat) (x : α), (List.replicate n x).length = n) ∧ ∀ (k : Int) (n : Nat), (iotaI k n).length = n :=
  ⟨fun _ _ _ _ => List.length_map _, fun _ _ _ => List.length_cons, fun _ => List.length_nil, fun _ _ _ => List.length_append, fun _ _ _ _ => List.length_set, fun _ _ _ => List.length_replicate, fun _ _ => iotaI_len⟩
theorem iotaI_get {k : Int} {n j : Nat} (h : j < n) : (iotaI k n).getD j 0 = k + j := by
  simp [iotaI, List.getD_eq_getElem?_getD, h]
theorem iotaI_succ {k : Int} {n : Nat} : iotaI k (n + 1) = iotaI k n ++ [k + n] := by simp [iotaI, List.range_succ]
theorem eI_same : ([PV.c (Value.int IntKind.i64 0)] = eI 0) = True := by simp [eI]
theorem eI_inj {xs ys : List Int} (h : xs = ys) : xs.map eI = ys.map eI := by rw [h]
theorem iota_of {k : Int} {n : Nat} {ys : List Int} (hl : ys.length = n) (h : ∀ j : Nat, (j : Int) < n → ys.getD j 0 = k + j) : ys = iotaI k n :=
  ext_getD 0 (by rw [iotaI_len]; exact hl) fun j hj => by rw [iotaI_get (by omega)]; exact h j (by omega)
def selI (p : Int → Bool) (n : Nat) : List Int := ((List.range n).map Int.ofNat).filter p
theorem selI_0 {p : Int → Bool} : selI p 0 = [] := rfl
theorem selI_succ {p : Int → Bool} {n : Nat} : selI p (n + 1) = if p n = true then selI p n ++ [(n : Int)] else selI p n := by
  simp only [selI, List.range_succ, List.map_append, List.filter_append, List.map_cons, List.map_nil, List.filter_cons, List.filter_nil]
  split <;> simp_all
theorem selI_s {p : Int → Bool} {i : Int} (h : 0 ≤ i) (hp : p i = true) : selI p (i + 1).toNat = selI p i.toNat ++ [i] := by
  obtain ⟨n, rfl⟩ := Int.eq_ofNat_of_zero_le h
  have : ((n : Int) + 1).toNat = n + 1 := by omega
  rw [this, selI_succ, if_pos hp]; simp
theorem selI_n {p : Int → Bool} {i : Int} (h : 0 ≤ i) (hp : p i = false) : selI p (i + 1).toNat = selI p i.toNat := by
  obtain ⟨n, rfl⟩ := Int.eq_ofNat_of_zero_le h
  have : ((n : Int) + 1).toNat = n + 1 := by omega
  rw [this, selI_succ, if_neg (by simp [hp])]; simp
theorem selI_le {p : Int → Bool} {n : Nat} : (selI p n).length ≤ n := by
  refine Nat.le_trans (List.length_filter_le _ _) (by simp)
theorem selI_mem {p : Int → Bool} {n : Nat} {x : Int} : x ∈ selI p n ↔ 0 ≤ x ∧ x < n ∧ p x = true := by
  simp only [selI, List.mem_filter, List.mem_map, List.mem_range]
  constructor
  · rintro ⟨⟨m, hm, rfl⟩, hp⟩; exact ⟨by simp, by simpa using hm, hp⟩
  · rintro ⟨h0, h1, hp⟩; exact ⟨⟨x.toNat, by omega, by simp; omega⟩, hp⟩
def idxI (p : Int → Bool) (xs : List Int) : Int := match xs.findIdx? p with
  | some i => (i : Int)
  | none => -1
theorem idxI_at {p : Int → Bool} {xs : List Int} {i : Int} (h0 : 0 ≤ i) (h1 : i < xs.length) (h2 : p (xs.getD i.toNat 0) = true) (h3 : ∀ j : Nat, (j : Int) < i → p (xs.getD j 0) = false) : i = idxI p xs := by
  have hi : i.toNat < xs.length := by omega
  have e : xs.findIdx? p = some i.toNat := by
    rw [List.findIdx?_eq_some_iff_getElem]
    refine ⟨hi, ?_, fun j hj => ?_⟩
    · rwa [List.getD_eq_getElem?_getD, List.getElem?_eq_getElem hi] at h2
    · have h4 := h3 j (by omega)
      have hj' : j < xs.length := by omega
      rw [List.getD_eq_getElem?_getD, List.getElem?_eq_getElem hj'] at h4
      simpa using h4
  simp only [idxI, e]; omega
theorem idxI_none {p : Int → Bool} {xs : List Int} {i : Int} (h1 : xs.length ≤ i) (h3 : ∀ j : Nat, (j : Int) < i → p (xs.getD j 0) = false) : -1 = idxI p xs := by
  have e : xs.findIdx? p = none := by
    rw [List.findIdx?_eq_none_iff]
    intro x hx
    obtain ⟨j, hj, rfl⟩ := List.getElem_of_mem hx
    have h4 := h3 j (by omega)
    rwa [List.getD_eq_getElem?_getD, List.getElem?_eq_getElem hj] at h4
  simp only [idxI, e]
theorem idxI_any {p : Int → Bool} {xs : List Int} : decide (idxI p xs ≥ 0) = xs.any p := by
  unfold idxI
  cases h : xs.findIdx? p with
  | none =>
    rw [List.findIdx?_eq_none_iff] at h
    have : xs.any p = false := by rw [List.any_eq_false]; intro x hx; simp [h x hx]
    rw [this]; rfl
  | some i =>
    rw [List.findIdx?_eq_some_iff_getElem] at h
    obtain ⟨hi, hp, _⟩ := h
    have : xs.any p = true := List.any_eq_true.2 ⟨_, List.getElem_mem hi, hp⟩
    rw [this]; simp
theorem not_any_not {α : Type} {p : α → Bool} {xs : List α} : (!xs.any fun x => !p x) = xs.all p := by rw [List.not_any_eq_all_not]; simp
theorem bl_tri : ∀ x y : List UInt8, Op.bytesLess x y = !(Op.bytesLess y x || decide (x = y))
  | [], [] => by simp [Op.bytesLess]
  | [], b :: y => by simp [Op.bytesLess]
  | a :: x, [] => by simp [Op.bytesLess]
  | a :: x, b :: y => by
    have ih := bl_tri x y
    have e : ∀ u v : UInt8, (u < v) = (u.toNat < v.toNat) := fun u v => by rw [UInt8.lt_iff_toNat_lt]
    have q : ∀ u v : UInt8, (u = v) = (u.toNat = v.toNat) := fun u v => by rw [← UInt8.toNat_inj]
    simp only [Op.bytesLess, List.cons.injEq]
    rcases Nat.lt_trichotomy a.toNat b.toNat with h | h | h
    · have h1 : a < b := by rw [e]; exact h
      have h2 : ¬b < a := by rw [e]; omega
      have h3 : a ≠ b := by rw [Ne, q]; omega
      simp [h1, h2, h3, h3.symm]
    · have h3 : a = b := by rw [q]; exact h
      subst h3
      have h1 : ¬a < a := by rw [e]; omega
      simp [h1, ih]
    · have h1 : ¬a < b := by rw [e]; omega
      have h2 : b < a := by rw [e]; exact h
      have h3 : a ≠ b := by rw [Ne, q]; omega
      simp [h1, h2, h3, h3.symm]
theorem sLt_tri (a b : ByteArray) : sLt a b = !(sLt b a || decide (b = a)) := by
  unfold sLt
  rw [bl_tri, ByteArray.toList_eq, ByteArray.toList_eq]
  congr 2
  by_cases h : b = a
  · subst h; simp
  · rw [decide_eq_false h, decide_eq_false fun e => h (bytes_inj e.symm)]
theorem sLt_t {a b : ByteArray} : sLt a b = true ↔ sLt b a = false ∧ ¬b = a := by rw [sLt_tri]; simp
theorem sLt_f {a b : ByteArray} : sLt a b = false ↔ sLt b a = true ∨ b = a := by rw [sLt_tri]; cases h : sLt b a <;> simp
def adjB {α : Type} (r : α → α → Bool) (d : α) (xs : List α) : Bool := (List.range xs.length).all fun j => decide (j = 0) || r (xs.getD (j - 1) d) (xs.getD j d)
theorem adjB_iff {α : Type} {r : α → α → Bool} {d : α} {xs : List α} : adjB r d xs = true ↔ ∀ j : Nat, (j : Int) < xs.length → j = 0 ∨ r (xs.getD (j - 1) d) (xs.getD j d) = true := by
  simp only [adjB, List.all_eq_true, List.mem_range, Bool.or_eq_true, decide_eq_true_eq, Int.ofNat_lt]
def okTo {α : Type} (p : α → Bool) (r : α → α → Bool) (d : α) (xs : List α) (i : Int) : Prop := (∀ j : Nat, (j : Int) < i → p (xs.getD j d) = true) ∧ ∀ j : Nat, (j : Int) < i → j = 0 ∨ r (xs.getD (j - 1) d) (xs.getD j d) = true
def okAll {α : Type} (p : α → Bool) (r : α → α → Bool) (d : α) (xs : List α) : Bool := xs.all p && adjB r d xs
theorem okTo_0 {α : Type} {p : α → Bool} {r : α → α → Bool} {d : α} {xs : List α} : okTo p r d xs 0 := ⟨all_0, all_0⟩
theorem okTo_s {α : Type} {p : α → Bool} {r : α → α → Bool} {d : α} {xs : List α} {i : Int} (h0 : 0 ≤ i) (h : okTo p r d xs i) (h1 : p (xs.getD i.toNat d) = true) (h2 : 0 < i → r (xs.getD (i - 1).toNat d) (xs.getD i.toNat d) = true) : okTo p r d xs (i + 1) :=
  ⟨all_s h0 h.1 h1, all_s (P := fun j => j = 0 ∨ r (xs.getD (j - 1) d) (xs.getD j d) = true) h0 h.2 (by
    by_cases e : 0 < i
    · exact .inr (by rw [show i.toNat - 1 = (i - 1).toNat by omega]; exact h2 e)
    · exact .inl (by omega))⟩
theorem okAll_t {α : Type} {p : α → Bool} {r : α → α → Bool} {d : α} {xs : List α} {i : Int} (hi : xs.length ≤ i) (h : okTo p r d xs i) : okAll p r d xs = true := by
  unfold okAll; rw [← all_t (p := p) (d := d) hi h.1, adjB_iff.2 fun j hj => h.2 j (by omega)]; rfl
theorem okAll_f {α : Type} {p : α → Bool} {r : α → α → Bool} {d : α} {xs : List α} {i : Int} (h0 : 0 ≤ i) (hi : i < xs.length) (h : p (xs.getD i.toNat d) = false ∨ 0 < i ∧ r (xs.getD (i - 1).toNat d) (xs.getD i.toNat d) = false) : okAll p r d xs = false := by
  unfold okAll
  rcases h with h | ⟨h, h'⟩
  · rw [← all_f (p := p) h0 hi h]; rfl
  · have : adjB r d xs = false := Bool.eq_false_iff.2 fun hh => by
      rcases adjB_iff.1 hh i.toNat (by omega) with h2 | h2
      · omega
      · rw [show i.toNat - 1 = (i - 1).toNat by omega, h'] at h2; cases h2
    rw [this, Bool.and_false]
end Go.Proofs.YtdhkpmaanegjkaaGreatDoor

set_option linter.unusedVariables false
set_option linter.unusedSimpArgs false
namespace Go.Proofs.YtdhkpmaanegjkaaGreatDoor
open Go.Av
attribute [local irreducible] Go.IntKind.wrap
set_option maxRecDepth 20000
end Go.Proofs.YtdhkpmaanegjkaaGreatDoor

set_option linter.unusedVariables false
set_option linter.unusedSimpArgs false
namespace Go.Proofs.YtdhkpmaanegjkaaGreatDoor
open Go.Av
attribute [local irreducible] Go.IntKind.wrap
set_option maxRecDepth 20000
set_option maxHeartbeats 4000000
abbrev eR (xs : List Int) : List (List PV) := xs.map eI
theorem tkRows {xs : List (List Int)} {n : Nat} (h : n = xs.length) : ((((xs.map eR).drop 0).take n).map fun e => [PV.lst [.c (.int .i64 0)] e]) = xs.map eLI := by
  subst h
  rw [List.drop_zero, List.take_of_length_le (by simp), List.map_map]; rfl
theorem getR {xs : List (List Int)} {i : Nat} : (List.map eR xs).getD i [] = eR (xs.getD i []) := by
  simp only [List.getD_eq_getElem?_getD, List.getElem?_map]
  cases xs[i]? <;> rfl
theorem stR {xs : List (List Int)} {i : Nat} {v : List Int} : (List.map eR xs).set i (List.map eI v) = List.map eR (xs.set i v) := by rw [List.map_set]
theorem rpR {n : Nat} : (List.replicate n [] : List (List (List PV))) = List.map eR (List.replicate n []) := by simp
theorem apR {xs ys : List (List Int)} : List.map eR xs ++ List.map eR ys = List.map eR (xs ++ ys) := by simp
theorem getR_len {xs : List (List Int)} {i : Nat} : ((List.map eR xs).getD i []).length = (xs.getD i []).length := by rw [getR]; simp
theorem setR_same {xs : List (List Int)} {i : Nat} (h : i < xs.length) : (List.map eR xs).set i ((xs.getD i []).map eI) = List.map eR xs := by
  rw [stR]
  congr 1
  refine ext_getD [] (by simp) fun j hj => ?_
  rw [getD_set]
  split
  · rename_i e; rw [e.1]
  · rfl
def markI (k : Int) (xs : List (List Int)) : List (List Int) := (List.range xs.length).map fun (j : Nat) => iotaI (k + sumT List.length xs j) (xs.getD j []).length
theorem markI_len {k : Int} {xs : List (List Int)} : (markI k xs).length = xs.length := by simp [markI]
theorem markI_get {k : Int} {xs : List (List Int)} {j : Nat} (h : j < xs.length) : (markI k xs).getD j [] = iotaI (k + sumT List.length xs j) (xs.getD j []).length := by
  simp [markI, List.getD_eq_getElem?_getD, h]
def totI (xs : List (List Int)) : Nat := (xs.map List.length).sum
theorem sumT_tot {xs : List (List Int)} {i : Int} : sumT List.length xs i ≤ totI xs := sumT_le
theorem tot_e {xs : List (List Int)} {i : Int} (h : xs.length ≤ i) : sumT List.length xs i = totI xs := sumT_e h
theorem markI_tot {k : Int} {xs : List (List Int)} : totI (markI k xs) = totI xs := by
  have h : (markI k xs).map List.length = xs.map List.length := by
    refine List.ext_getElem (by simp [markI]) fun j h1 h2 => ?_
    have hj : j < xs.length := by simpa using h2
    simp [markI, iotaI_len, List.getD_eq_getElem?_getD, hj]
  unfold totI; rw [h]
theorem row_tot {xs : List (List Int)} {i : Int} (h0 : 0 ≤ i) (h : i < xs.length) : sumT List.length xs (i + 1) = sumT List.length xs i + (xs.getD i.toNat []).length ∧ (xs.getD i.toNat []).length ≤ totI xs := by
  have e := sumT_s (f := List.length) h0 h []
  have := sumT_tot (xs := xs) (i := i + 1)
  exact ⟨e, by omega⟩
end Go.Proofs.YtdhkpmaanegjkaaGreatDoor

set_option linter.unusedVariables false
set_option linter.unusedSimpArgs false
namespace Go.Proofs.YtdhkpmaanegjkaaGreatDoor
open Go.Av
attribute [local irreducible] Go.IntKind.wrap
set_option maxRecDepth 20000
set_option maxHeartbeats 8000000
theorem stI {xs : List Int} {k : Nat} {v w : Int} {c : Nat} (hc : c = 1) : (xs.map eI).set k (List.take 0 (eI w) ++ pvCells (.c (.int .i64 v)) ++ List.drop (0 + c) (eI w)) = (xs.set k v).map eI := by
  subst hc; exact st eI
end Go.Proofs.YtdhkpmaanegjkaaGreatDoor
