/- Contracts of functions of the program, and what they compute. Conditions: those that each theorem states. -/
import Derived.Test.YtdhkpmaanegjkaaGreatAv3
import Derived.Test.YtdhkpmaanegjkaaGreatProg
set_option linter.unusedVariables false
set_option linter.unusedSimpArgs false
namespace Go.Proofs.YtdhkpmaanegjkaaGreat
open Go.Av
def inR (x a b : Int) : Bool := decide (a ≤ x) && decide (x ≤ b)
theorem inR_iff {x a b : Int} : inR x a b = true ↔ a ≤ x ∧ x ≤ b := by simp [inR]
theorem all_s {P : Nat → Prop} {i : Int} (h0 : 0 ≤ i) (h : ∀ j : Nat, (j : Int) < i → P j) (hi : P i.toNat) : ∀ j : Nat, (j : Int) < i + 1 → P j := fun j hj => by
  by_cases e : (j : Int) < i
  · exact h j e
  · have : j = i.toNat := by omega
    rw [this]; exact hi
theorem all_0 {P : Nat → Prop} : ∀ j : Nat, (j : Int) < 0 → P j := fun j hj => absurd hj (by omega)
def allB (p : Int → Bool) (s : ByteArray) : Bool := (List.range s.size).all fun i => p (byteAt s i)
theorem allB_iff {p : Int → Bool} {s : ByteArray} : allB p s = true ↔ ∀ j : Nat, (j : Int) < s.size → p (byteAt s j) = true := by
  simp only [allB, List.all_eq_true, List.mem_range, Int.ofNat_lt]
theorem allB_t {p : Int → Bool} {s : ByteArray} {i : Int} (hi : (s.size : Int) ≤ i) (h : ∀ j : Nat, (j : Int) < i → p (byteAt s j) = true) : true = allB p s :=
  (allB_iff.2 fun j hj => h j (by omega)).symm
theorem allB_f {p : Int → Bool} {s : ByteArray} {i : Int} (h0 : 0 ≤ i) (hi : i < s.size) (h : p (byteAt s i.toNat) = false) : false = allB p s := by
  refine (Bool.eq_false_iff.2 fun hh => ?_).symm
  rw [allB_iff.1 hh i.toNat (by omega)] at h; cases h
section
variable {α : Type} {p : α → Bool} {xs : List α} {d : α}
theorem all_iff : xs.all p = true ↔ ∀ j : Nat, (j : Int) < xs.length → p (xs.getD j d) = true := by
  rw [List.all_eq_true]
  constructor
  · intro h j hj
    have hj : j < xs.length := by omega
    rw [List.getD_eq_getElem?_getD, List.getElem?_eq_getElem hj]; exact h _ (List.getElem_mem hj)
  · intro h x hx
    obtain ⟨j, hj, rfl⟩ := List.getElem_of_mem hx
    have := h j (by omega)
    rwa [List.getD_eq_getElem?_getD, List.getElem?_eq_getElem hj] at this
theorem all_t {i : Int} (hi : (xs.length : Int) ≤ i) (h : ∀ j : Nat, (j : Int) < i → p (xs.getD j d) = true) : true = xs.all p :=
  (all_iff.2 fun j hj => h j (by omega)).symm
theorem all_f {i : Int} (h0 : 0 ≤ i) (hi : i < xs.length) (h : p (xs.getD i.toNat d) = false) : false = xs.all p := by
  refine (Bool.eq_false_iff.2 fun hh => ?_).symm
  rw [(all_iff (d := d)).1 hh i.toNat (by omega)] at h; cases h
theorem getD_mem {j : Nat} (hj : j < xs.length) : xs.getD j d ∈ xs := by
  rw [List.getD_eq_getElem?_getD, List.getElem?_eq_getElem hj]; exact List.getElem_mem hj
theorem getD_set {j k : Nat} {v : α} : (xs.set j v).getD k d = if j = k ∧ k < xs.length then v else xs.getD k d := by
  simp only [List.getD_eq_getElem?_getD, List.getElem?_set]
  by_cases h : j = k
  · subst h
    by_cases h2 : j < xs.length <;> simp [h2]
  · simp [h]
end
def iotaI (k : Int) (n : Nat) : List Int := (List.range n).map fun (j : Nat) => k + (j : Int)
theorem iotaI_len {k : Int} {n : Nat} : (iotaI k n).length = n := by simp [iotaI]
theorem lnS : (∀ (α β : Type) (f : α → β) (xs : List α), (xs.map f).length = xs.length) ∧ (∀ (α : Type) (x : α) (xs : List α), (x :: xs).length = xs.length + 1) ∧ (∀ α : Type, ([] : List α).length = 0) ∧ (∀ (α : Type) (xs ys : List α), (xs ++ ys).length = xs.length + ys.length) ∧ (∀ (α : Type) (xs : List α) (i : Nat) (x : α), (xs.set i x).length = xs.length) ∧ (∀ (α : Type) (n : Nat) (x : α), (List.replicate n x).length = n) ∧ ∀ (k : Int) (n : Nat), (iotaI k n).length = n :=
  ⟨fun _ _ _ _ => List.length_map _, fun _ _ _ => List.length_cons, fun _ => List.length_nil, fun _ _ _ => List.length_append, fun _ _ _ _ => List.length_set, fun _ _ _ => List.length_replicate, fun _ _ => iotaI_len⟩
theorem iotaI_get {k : Int} {n j : Nat} (h : j < n) : (iotaI k n).getD j 0 = k + j := by
  simp [iotaI, List.getD_eq_getElem?_getD, h]
theorem iotaI_succ {k : Int} {n : Nat} : iotaI k (n + 1) = iotaI k n ++ [k + n] := by simp [iotaI, List.range_succ]
theorem eI_same : ([PV.c (Value.int IntKind.i64 0)] = eI 0) = True := by simp [eI]
def idxI (p : Int → Bool) (xs : List Int) : Int := match xs.findIdx? p with
  | some i => (i : Int)
  | none => -1
theorem idxI_at {p : Int → Bool} {xs : List Int} {i : Int} (h0 : 0 ≤ i) (h1 : i < xs.length) (h2 : p (xs.getD i.toNat 0) = true) (h3 : ∀ j : Nat, (j : Int) < i → p (xs.getD j 0) = false) : i = idxI p xs := by
  have hi : i.toNat < xs.length := by omega
  have e : xs.findIdx? p = some i.toNat := by
    rw [List.findIdx?_eq_some_iff_getElem]
    refine ⟨hi, ?_, fun j hj => ?_⟩
    · rwa [List.getD_eq_getElem?_getD, List.getElem?_eq_getElem hi] at h2
    · have h4 := h3 j (by omega)
      have hj' : j < xs.length := by omega
      rw [List.getD_eq_getElem?_getD, List.getElem?_eq_getElem hj'] at h4
      simpa using h4
  simp only [idxI, e]; omega
theorem idxI_none {p : Int → Bool} {xs : List Int} {i : Int} (h1 : xs.length ≤ i) (h3 : ∀ j : Nat, (j : Int) < i → p (xs.getD j 0) = false) : -1 = idxI p xs := by
  have e : xs.findIdx? p = none := by
    rw [List.findIdx?_eq_none_iff]
    intro x hx
    obtain ⟨j, hj, rfl⟩ := List.getElem_of_mem hx
    have h4 := h3 j (by omega)
    rwa [List.getD_eq_getElem?_getD, List.getElem?_eq_getElem hj] at h4
  simp only [idxI, e]
theorem idxI_any {p : Int → Bool} {xs : List Int} : decide (idxI p xs ≥ 0) = xs.any p := by
  unfold idxI
  cases h : xs.findIdx? p with
  | none =>
    rw [List.findIdx?_eq_none_iff] at h
    have : xs.any p = false := by rw [List.any_eq_false]; intro x hx; simp [h x hx]
    rw [this]; rfl
  | some i =>
    rw [List.findIdx?_eq_some_iff_getElem] at h
    obtain ⟨hi, hp, _⟩ := h
    have : xs.any p = true := List.any_eq_true.2 ⟨_, List.getElem_mem hi, hp⟩
    rw [this]; simp
theorem not_any_not {α : Type} {p : α → Bool} {xs : List α} : (!xs.any fun x => !p x) = xs.all p := by rw [List.not_any_eq_all_not]; simp
theorem bl_tri : ∀ x y : List UInt8, Op.bytesLess x y = !(Op.bytesLess y x || decide (x = y))
  | [], [] => by simp [Op.bytesLess]
  | [], b :: y => by simp [Op.bytesLess]
  | a :: x, [] => by simp [Op.bytesLess]
  | a :: x, b :: y => by
    have ih := bl_tri x y
    have e : ∀ u v : UInt8, (u < v) = (u.toNat < v.toNat) := fun u v => by rw [UInt8.lt_iff_toNat_lt]
    have q : ∀ u v : UInt8, (u = v) = (u.toNat = v.toNat) := fun u v => by rw [← UInt8.toNat_inj]
    simp only [Op.bytesLess, List.cons.injEq]
    rcases Nat.lt_trichotomy a.toNat b.toNat with h | h | h
    · have h1 : a < b := by rw [e]; exact h
      have h2 : ¬b < a := by rw [e]; omega
      have h3 : a ≠ b := by rw [Ne, q]; omega
      simp [h1, h2, h3, h3.symm]
    · have h3 : a = b := by rw [q]; exact h
      subst h3
      have h1 : ¬a < a := by rw [e]; omega
      simp [h1, ih]
    · have h1 : ¬a < b := by rw [e]; omega
      have h2 : b < a := by rw [e]; exact h
      have h3 : a ≠ b := by rw [Ne, q]; omega
      simp [h1, h2, h3, h3.symm]
theorem sLt_tri (a b : ByteArray) : sLt a b = !(sLt b a || decide (b = a)) := by
  unfold sLt
  rw [bl_tri, ByteArray.toList_eq, ByteArray.toList_eq]
  congr 2
  by_cases h : b = a
  · subst h; simp
  · rw [decide_eq_false h, decide_eq_false fun e => h (bytes_inj e.symm)]
theorem sLt_t {a b : ByteArray} : sLt a b = true ↔ sLt b a = false ∧ ¬b = a := by rw [sLt_tri]; simp
theorem sLt_f {a b : ByteArray} : sLt a b = false ↔ sLt b a = true ∨ b = a := by rw [sLt_tri]; cases h : sLt b a <;> simp
def adjB {α : Type} (r : α → α → Bool) (d : α) (xs : List α) : Bool := (List.range xs.length).all fun j => decide (j = 0) || r (xs.getD (j - 1) d) (xs.getD j d)
theorem adjB_iff {α : Type} {r : α → α → Bool} {d : α} {xs : List α} : adjB r d xs = true ↔ ∀ j : Nat, (j : Int) < xs.length → j = 0 ∨ r (xs.getD (j - 1) d) (xs.getD j d) = true := by
  simp only [adjB, List.all_eq_true, List.mem_range, Bool.or_eq_true, decide_eq_true_eq, Int.ofNat_lt]
def okTo {α : Type} (p : α → Bool) (r : α → α → Bool) (d : α) (xs : List α) (i : Int) : Prop := (∀ j : Nat, (j : Int) < i → p (xs.getD j d) = true) ∧ ∀ j : Nat, (j : Int) < i → j = 0 ∨ r (xs.getD (j - 1) d) (xs.getD j d) = true
def okAll {α : Type} (p : α → Bool) (r : α → α → Bool) (d : α) (xs : List α) : Bool := xs.all p && adjB r d xs
theorem okTo_0 {α : Type} {p : α → Bool} {r : α → α → Bool} {d : α} {xs : List α} : okTo p r d xs 0 := ⟨all_0, all_0⟩
theorem okTo_s {α : Type} {p : α → Bool} {r : α → α → Bool} {d : α} {xs : List α} {i : Int} (h0 : 0 ≤ i) (h : okTo p r d xs i) (h1 : p (xs.getD i.toNat d) = true) (h2 : 0 < i → r (xs.getD (i - 1).toNat d) (xs.getD i.toNat d) = true) : okTo p r d xs (i + 1) :=
  ⟨all_s h0 h.1 h1, all_s (P := fun j => j = 0 ∨ r (xs.getD (j - 1) d) (xs.getD j d) = true) h0 h.2 (by
    by_cases e : 0 < i
    · exact .inr (by rw [show i.toNat - 1 = (i - 1).toNat by omega]; exact h2 e)
    · exact .inl (by omega))⟩
theorem okAll_t {α : Type} {p : α → Bool} {r : α → α → Bool} {d : α} {xs : List α} {i : Int} (hi : xs.length ≤ i) (h : okTo p r d xs i) : okAll p r d xs = true := by
  unfold okAll; rw [← all_t (p := p) (d := d) hi h.1, adjB_iff.2 fun j hj => h.2 j (by omega)]; rfl
theorem okAll_f {α : Type} {p : α → Bool} {r : α → α → Bool} {d : α} {xs : List α} {i : Int} (h0 : 0 ≤ i) (hi : i < xs.length) (h : p (xs.getD i.toNat d) = false ∨ 0 < i ∧ r (xs.getD (i - 1).toNat d) (xs.getD i.toNat d) = false) : okAll p r d xs = false := by
  unfold okAll
  rcases h with h | ⟨h, h'⟩
  · rw [← all_f (p := p) h0 hi h]; rfl
  · have : adjB r d xs = false := Bool.eq_false_iff.2 fun hh => by
      rcases adjB_iff.1 hh i.toNat (by omega) with h2 | h2
      · omega
      · rw [show i.toNat - 1 = (i - 1).toNat by omega, h'] at h2; cases h2
    rw [this, Bool.and_false]
end Go.Proofs.YtdhkpmaanegjkaaGreat
/- Contracts of functions of the program, and what they compute. Conditions: those that each theorem states. -/
set_option linter.unusedVariables false
set_option linter.unusedSimpArgs false
namespace Go.Proofs.YtdhkpmaanegjkaaGreat
open Go.Av
attribute [local irreducible] Go.IntKind.wrap
set_option maxRecDepth 20000
set_option maxHeartbeats 4000000
abbrev eR (xs : List Int) : List (List PV) := xs.map eI
theorem tkRows {xs : List (List Int)} {n : Nat} (h : n = xs.length) : ((((xs.map eR).drop 0).take n).map fun e => [PV.lst [.c (.int .i64 0)] e]) = xs.map eLI := by
  subst h
  rw [List.drop_zero, List.take_of_length_le (by simp), List.map_map]; rfl
theorem getR {xs : List (List Int)} {i : Nat} : (List.map eR xs).getD i [] = eR (xs.getD i []) := by
  simp only [List.getD_eq_getElem?_getD, List.getElem?_map]
  cases xs[i]? <;> rfl
theorem stR {xs : List (List Int)} {i : Nat} {v : List Int} : (List.map eR xs).set i (List.map eI v) = List.map eR (xs.set i v) := by rw [List.map_set]
theorem apR {xs ys : List (List Int)} : List.map eR xs ++ List.map eR ys = List.map eR (xs ++ ys) := by simp
theorem getR_len {xs : List (List Int)} {i : Nat} : ((List.map eR xs).getD i []).length = (xs.getD i []).length := by rw [getR]; simp
end Go.Proofs.YtdhkpmaanegjkaaGreat
/- Contracts of functions of the program, and what they compute. Conditions: those that each theorem states. -/
set_option linter.unusedVariables false
set_option linter.unusedSimpArgs false
namespace Go.Proofs.YtdhkpmaanegjkaaGreat
open Go.Av
attribute [local irreducible] Go.IntKind.wrap
set_option maxRecDepth 20000
set_option maxHeartbeats 8000000
theorem stI {xs : List Int} {k : Nat} {v w : Int} {c : Nat} (hc : c = 1) : (xs.map eI).set k (List.take 0 (eI w) ++ pvCells (.c (.int .i64 v)) ++ List.drop (0 + c) (eI w)) = (xs.set k v).map eI := by
  subst hc; exact st eI
theorem c_slices_Clone_int64_int64 (xs : List Int) (hl : xs.length ≤ 1000000) : FnSem Tryz.prog 23 [Lx (LI xs)] [] (Is [.osl 0 0 xs.length] [Rw .flat (eI 0) (xs.map eI)]) := by
  refine FnSem.walk (zs := zeroPV Tryz.prog) (by kernel_rfl) Tryz.func23 rfl Tryz.results23 (by kernel_rfl) (by kernel_rfl) (by kernel_rfl) fun hw hh => ?_
  obtain ⟨w0, _⟩ := hw
  first | replace w0 := wf_LI w0 | skip
  repeat' first
    | refine And.intro rfl ?_
    | refine GdF.mk (fun h => h) ?_
    | refine And.intro (Nat.succ_ne_zero _) ?_
    | refine And.intro (Nat.le_of_ble_eq_true rfl) ?_
    | refine SeqF.run ?_
    | refine FlF.flat (by simp only [List.mem_map, forall_exists_index, and_imp, forall_apply_eq_imp_iff₂]; intro a _ p hp; simp only [eI, List.mem_singleton] at hp; exact ⟨_, hp⟩) ?_
    | refine GhF.go ?_
    | refine NilE.mk fun nb hnb => ?_
    | refine MkF.row ?_
    | refine BndF.mk (fun _ => by omega) ?_
    | refine BndF.mk (fun _ => by simp only [lnS]; omega) ?_
    | refine FlF.keep ?_
    | refine EqN.mk _ (Nat.zero_add _) ?_
    | refine EqN.mk (_ + 1) rfl ?_
    | refine EqN.mk _ (Int.toNat_natCast _) ?_
    | refine EqN.mk _ rfl ?_
    | refine EqL.mk _ (sn0 eI) ?_
    | refine EqL.mk _ (sn eI (by first | rfl | assumption | omega | (simp only [lnS] <;> omega))) ?_
    | refine EqL.mk _ (ap0 eI) ?_
    | refine EqL.mk _ (ap eI (by first | rfl | assumption | omega | (simp only [lnS] <;> omega))) ?_
    | refine EqL.mk _ (tk eI (by first | rfl | assumption | omega | (simp only [lnS] <;> omega))) ?_
    | refine EqL.mk _ (dt eI) ?_
    | refine EqL.mk [] rfl ?_
    | refine EqL.mk [_] rfl ?_
    | refine EqL.mk _ rfl ?_
    | (refine CondF.mk (fun hb => ?_) (fun hb => ?_) <;> try simp only [forall_const, eq_self, not_true_eq_false, not_false_eq_true, or_false, false_or, or_self, or_true, true_or, and_true, true_and, and_false, false_and, decide_true, decide_false, Bool.not_true, Bool.not_false, decide_eq_true_eq, decide_eq_false_iff_not, ite_and_p, ite_or_p, Bool.decide_eq_true, Bool.and_eq_true, Bool.or_eq_true, Bool.not_eq_true', Bool.not_eq_false', Bool.and_eq_false_imp, Bool.or_eq_false_iff, bne_iff_ne, beq_iff_eq, bne_eq_false_iff_eq, beq_eq_false_iff_ne, gt_iff_lt, ge_iff_le, Int.not_lt, Int.not_le, ne_eq, Bool.true_eq_false, Bool.false_eq_true, reduceCtorEq, eta_Airway, eta_Fan, eta_Mine] at hb)
    | refine RetF.auto (And.intro rfl ?_)
    | exact Is.mk rfl rfl
    | refine Is.mk ?_ rfl
    | refine Is.mk rfl ?_
    | refine Is.mk ?_ ?_
  all_goals try dsimp only
  all_goals try simp only [Bo, I, OB.row.injEq, AV.osl.injEq, eI_same,  List.cons.injEq, AV.p.injEq, PV.c.injEq, Value.int.injEq, Value.bool.injEq, and_true, true_and, ite_and_p, ite_or_p, Bool.decide_eq_true, eta_Airway, eta_Fan, eta_Mine]
  · have := congrArg List.length (hnb hb); simpa using this.symm
  · exact (hnb hb).symm
  · simp
end Go.Proofs.YtdhkpmaanegjkaaGreat
/- Contracts of functions of the program, and what they compute. Conditions: those that each theorem states. -/
set_option linter.unusedVariables false
set_option linter.unusedSimpArgs false
namespace Go.Proofs.YtdhkpmaanegjkaaGreat
open Go.Av
attribute [local irreducible] Go.IntKind.wrap
set_option maxRecDepth 20000
set_option maxHeartbeats 2000000
theorem wrapU {n : Int} (h1 : 0 ≤ n) (h2 : n ≤ 18446744073709551615) : IntKind.u64.wrap n = n := (wrap_eq_iff .u64 n).2 ⟨h1, h2⟩
theorem shr1 {k : IntKind} {x : Int} : x.fdiv (2 ^ (min (Int.toNat 1) k.bits)) = x / 2 := by
  have : min (Int.toNat 1) k.bits = 1 := by cases k <;> rfl
  rw [this, Int.fdiv_eq_ediv_of_nonneg _ (by omega)]; rfl
def leastI (p : Int → Bool) (lo hi : Int) : Int := match (List.range (hi - lo + 1).toNat).find? fun (k : Nat) => p (lo + (k : Int)) with
  | some k => lo + (k : Int)
  | none => hi + 1
theorem leastI_at {p : Int → Bool} {lo hi n : Int} (h0 : lo ≤ n) (h1 : n ≤ hi) (h2 : p n = true) (h3 : ∀ m, lo ≤ m → m < n → p m = false) : leastI p lo hi = n := by
  have e : (List.range (hi - lo + 1).toNat).find? (fun (k : Nat) => p (lo + (k : Int))) = some (n - lo).toNat := by
    rw [List.find?_range_eq_some]
    refine ⟨by rw [show lo + ((n - lo).toNat : Int) = n by omega]; exact h2, by simp; omega, fun j hj => ?_⟩
    rw [h3 (lo + j) (by omega) (by omega)]; rfl
  unfold leastI; rw [e]; simp; omega
theorem leastI_no {p : Int → Bool} {lo hi : Int} (h3 : ∀ m, lo ≤ m → m ≤ hi → p m = false) : leastI p lo hi = hi + 1 := by
  have e : (List.range (hi - lo + 1).toNat).find? (fun (k : Nat) => p (lo + (k : Int))) = none := by
    rw [List.find?_range_eq_none]
    intro j hj
    rw [h3 (lo + j) (by omega) (by omega)]; rfl
  unfold leastI; rw [e]
theorem leastI_r {p : Int → Bool} {lo hi : Int} (h0 : lo ≤ hi + 1) : lo ≤ leastI p lo hi ∧ leastI p lo hi ≤ hi + 1 := by
  unfold leastI; split
  · rename_i k hk; have := List.mem_of_find?_eq_some hk; simp at this; omega
  · omega
theorem leastI_none {p : Int → Bool} {lo hi : Int} (h : ¬leastI p lo hi ≤ hi) : ∀ m, lo ≤ m → m ≤ hi → p m = false := by
  intro m a b
  unfold leastI at h
  split at h
  · rename_i j hj; have := List.mem_of_find?_eq_some hj; simp at this; omega
  · rename_i hj
    have := (List.find?_range_eq_none.1 hj) (m - lo).toNat (by omega)
    rw [show lo + ((m - lo).toNat : Int) = m by omega] at this
    simpa using this
attribute [local irreducible] leastI
theorem c_sort_Search (n : Int) (f : Nat) (c1 c2 : List PV) (p : Int → Bool) (hf : ∀ x, 0 ≤ x → x < n → FnSem Tryz.prog f [In x, .p .any (.ref c1), .p .any (.ref c2)] [] (Is [Bo (p x)] [])) (hn : 0 ≤ n ∧ n ≤ 4611686018427387904) (hm : ∀ a b, 0 ≤ a → a ≤ b → b < n → p a = true → p b = true) : FnSem Tryz.prog 97 [In n, .p .any (.fn f [.ref c1, .ref c2])] [] (Is [In (leastI p 0 (n - 1))] []) := by
  refine FnSem.walk (zs := zeroPV Tryz.prog) (by kernel_rfl) Tryz.func97 rfl Tryz.results97 (by kernel_rfl) (by kernel_rfl) (by kernel_rfl) fun hw hh => ?_
  obtain ⟨w0, w1, _⟩ := hw
  first | replace w0 := wf_I w0 | skip
  repeat' first
    | refine And.intro rfl ?_
    | refine GdF.mk (fun h => h) ?_
    | refine And.intro (Nat.succ_ne_zero _) ?_
    | refine And.intro (Nat.le_of_ble_eq_true rfl) ?_
    | refine SeqF.run ?_
    | refine EqI.mk _ (fun _ => wrapU (by omega) (by omega)) ?_
    | refine EqI.mk _ (fun _ => shr1) ?_
    | refine ArgF.is (hf _ (by omega) (by omega)) ?_
    | refine ArgQ.is (fun hG => hf _ (by omega) (by omega)) rfl rfl ?_
    | refine LoopF.at 2 rfl (LoopF.fix [1] (Int × Int) (fun (i, j) => 0 ≤ i ∧ i ≤ j ∧ j ≤ n ∧ (∀ m, 0 ≤ m → m < i → p m = false) ∧ (j < n → p j = true)) (fun (i, j) => [(5, In i), (6, In j)]) (fun (i, j) => []) (fun (i, j) => ((j - i).toNat)) ((0, n)) ?_)
    | (refine LoopB.of (T := Int × Int) ?_ ?_; rotate_left; rintro ⟨i, j⟩ ⟨h0, h1, h2, h3, h4⟩; rotate_left)
    | refine GhF.go ?_
    | refine BndF.mk (fun _ => by omega) ?_
    | refine BndF.mk (fun _ => by simp only [lnS]; omega) ?_
    | refine EqI.mk _ (fun _ => wrapI (by omega) (by omega)) ?_
    | refine EqI.mk _ (fun _ => rfl) ?_
    | refine CallF.mk (CallW.is [] true rfl ?_)
    | refine CallG.mk ?_
    | (refine CondF.mk (fun hb => ?_) (fun hb => ?_) <;> try simp only [forall_const, eq_self, not_true_eq_false, not_false_eq_true, or_false, false_or, or_self, or_true, true_or, and_true, true_and, and_false, false_and, decide_true, decide_false, Bool.not_true, Bool.not_false, decide_eq_true_eq, decide_eq_false_iff_not, ite_and_p, ite_or_p, Bool.decide_eq_true, Bool.and_eq_true, Bool.or_eq_true, Bool.not_eq_true', Bool.not_eq_false', Bool.and_eq_false_imp, Bool.or_eq_false_iff, bne_iff_ne, beq_iff_eq, bne_eq_false_iff_eq, beq_eq_false_iff_ne, gt_iff_lt, ge_iff_le, Int.not_lt, Int.not_le, ne_eq, Bool.true_eq_false, Bool.false_eq_true, reduceCtorEq, eta_Airway, eta_Fan, eta_Mine] at hb)
    | apply BackF.auto2
    | refine BackB.mk ?_ ?_
    | refine RetF.auto (And.intro rfl ?_)
    | exact Is.mk rfl rfl
    | refine Is.mk ?_ rfl
    | refine Is.mk rfl ?_
    | refine Is.mk ?_ ?_
  all_goals try dsimp only
  all_goals try simp only [Bo, I, OB.row.injEq, AV.osl.injEq, eI_same,  List.cons.injEq, AV.p.injEq, PV.c.injEq, Value.int.injEq, Value.bool.injEq, and_true, true_and, ite_and_p, ite_or_p, Bool.decide_eq_true, eta_Airway, eta_Fan, eta_Mine]
  · exact ⟨by omega, by omega, by omega, fun m h1 h2 => by omega, fun h => by omega⟩
  · refine ⟨by omega, by omega, h2, fun m a b => ?_, h4⟩
    cases e : p m with
    | false => rfl
    | true => rw [hm m ((i + j) / 2) a (by omega) (by omega) e] at hb; cases hb
  · omega
  · exact ⟨h0, by omega, by omega, h3, fun _ => hb⟩
  · omega
  · by_cases e : j < n
    · exact (leastI_at (by omega) (by omega) (by rw [show i = j by omega]; exact h4 e) fun m a b => h3 m a b).symm
    · rw [leastI_no fun m a b => h3 m a (by omega)]; omega
--@fn sort.Search
theorem search1 (n : Int) (f : Nat) (c1 : List PV) (p : Int → Bool) (hf : ∀ x, 0 ≤ x → x < n → FnSem Tryz.prog f [In x, .p .any (.ref c1)] [] (Is [Bo (p x)] [])) (hn : 0 ≤ n ∧ n ≤ 4611686018427387904) (hm : ∀ a b, 0 ≤ a → a ≤ b → b < n → p a = true → p b = true) : FnSem Tryz.prog 97 [In n, .p .any (.fn f [.ref c1])] [] (Is [In (leastI p 0 (n - 1))] []) := by
  refine FnSem.walk (zs := zeroPV Tryz.prog) (by kernel_rfl) Tryz.func97 rfl Tryz.results97 (by kernel_rfl) (by kernel_rfl) (by kernel_rfl) fun hw hh => ?_
  obtain ⟨w0, w1, _⟩ := hw
  first | replace w0 := wf_I w0 | skip
  repeat' first
    | refine And.intro rfl ?_
    | refine GdF.mk (fun h => h) ?_
    | refine And.intro (Nat.succ_ne_zero _) ?_
    | refine And.intro (Nat.le_of_ble_eq_true rfl) ?_
    | refine SeqF.run ?_
    | refine EqI.mk _ (fun _ => wrapU (by omega) (by omega)) ?_
    | refine EqI.mk _ (fun _ => shr1) ?_
    | refine ArgF.is (hf _ (by omega) (by omega)) ?_
    | refine ArgQ.is (fun hG => hf _ (by omega) (by omega)) rfl rfl ?_
    | refine LoopF.at 2 rfl (LoopF.fix [1] (Int × Int) (fun (i, j) => 0 ≤ i ∧ i ≤ j ∧ j ≤ n ∧ (∀ m, 0 ≤ m → m < i → p m = false) ∧ (j < n → p j = true)) (fun (i, j) => [(5, In i), (6, In j)]) (fun (i, j) => []) (fun (i, j) => ((j - i).toNat)) ((0, n)) ?_)
    | (refine LoopB.of (T := Int × Int) ?_ ?_; rotate_left; rintro ⟨i, j⟩ ⟨h0, h1, h2, h3, h4⟩; rotate_left)
    | refine GhF.go ?_
    | refine BndF.mk (fun _ => by omega) ?_
    | refine BndF.mk (fun _ => by simp only [lnS]; omega) ?_
    | refine EqI.mk _ (fun _ => wrapI (by omega) (by omega)) ?_
    | refine EqI.mk _ (fun _ => rfl) ?_
    | refine CallF.mk (CallW.is [] true rfl ?_)
    | refine CallG.mk ?_
    | (refine CondF.mk (fun hb => ?_) (fun hb => ?_) <;> try simp only [forall_const, eq_self, not_true_eq_false, not_false_eq_true, or_false, false_or, or_self, or_true, true_or, and_true, true_and, and_false, false_and, decide_true, decide_false, Bool.not_true, Bool.not_false, decide_eq_true_eq, decide_eq_false_iff_not, ite_and_p, ite_or_p, Bool.decide_eq_true, Bool.and_eq_true, Bool.or_eq_true, Bool.not_eq_true', Bool.not_eq_false', Bool.and_eq_false_imp, Bool.or_eq_false_iff, bne_iff_ne, beq_iff_eq, bne_eq_false_iff_eq, beq_eq_false_iff_ne, gt_iff_lt, ge_iff_le, Int.not_lt, Int.not_le, ne_eq, Bool.true_eq_false, Bool.false_eq_true, reduceCtorEq, eta_Airway, eta_Fan, eta_Mine] at hb)
    | apply BackF.auto2
    | refine BackB.mk ?_ ?_
    | refine RetF.auto (And.intro rfl ?_)
    | exact Is.mk rfl rfl
    | refine Is.mk ?_ rfl
    | refine Is.mk rfl ?_
    | refine Is.mk ?_ ?_
  all_goals try dsimp only
  all_goals try simp only [Bo, I, OB.row.injEq, AV.osl.injEq, eI_same,  List.cons.injEq, AV.p.injEq, PV.c.injEq, Value.int.injEq, Value.bool.injEq, and_true, true_and, ite_and_p, ite_or_p, Bool.decide_eq_true, eta_Airway, eta_Fan, eta_Mine]
  · exact ⟨by omega, by omega, by omega, fun m h1 h2 => by omega, fun h => by omega⟩
  · refine ⟨by omega, by omega, h2, fun m a b => ?_, h4⟩
    cases e : p m with
    | false => rfl
    | true => rw [hm m ((i + j) / 2) a (by omega) (by omega) e] at hb; cases hb
  · omega
  · exact ⟨h0, by omega, by omega, h3, fun _ => hb⟩
  · omega
  · by_cases e : j < n
    · exact (leastI_at (by omega) (by omega) (by rw [show i = j by omega]; exact h4 e) fun m a b => h3 m a b).symm
    · rw [leastI_no fun m a b => h3 m a (by omega)]; omega
end Go.Proofs.YtdhkpmaanegjkaaGreat
/- Contracts of functions of the program, and what they compute. Conditions: those that each theorem states. -/
set_option linter.unusedVariables false
set_option linter.unusedSimpArgs false
namespace Go.Proofs.YtdhkpmaanegjkaaGreat
open Go.Av
attribute [local irreducible] Go.IntKind.wrap
set_option maxRecDepth 20000
set_option maxHeartbeats 2000000
abbrev srcO (c : List Int) (at_ s : Int) : OB := .fix [Lx (LY c), In at_, I .u64 s]
theorem c_spec_l00From (c : List Int) : FnSem Tryz.prog 14 [Lx (LY c)] [] (Is [.own 0 0] [srcO c 0 0]) := by
  refine FnSem.walk (zs := zeroPV Tryz.prog) (by kernel_rfl) Tryz.func14 rfl Tryz.results14 (by kernel_rfl) (by kernel_rfl) (by kernel_rfl) fun hw hh => ?_
  obtain ⟨w0, _⟩ := hw
  first | replace w0 := wf_LY w0 | skip
  repeat' first
    | refine And.intro rfl ?_
    | refine GdF.mk (fun h => h) ?_
    | refine And.intro (Nat.succ_ne_zero _) ?_
    | refine And.intro (Nat.le_of_ble_eq_true rfl) ?_
    | refine SeqF.run ?_
    | refine GhF.go ?_
    | (refine CondF.mk (fun hb => ?_) (fun hb => ?_) <;> try simp only [forall_const, eq_self, not_true_eq_false, not_false_eq_true, or_false, false_or, or_self, or_true, true_or, and_true, true_and, and_false, false_and, decide_true, decide_false, Bool.not_true, Bool.not_false, decide_eq_true_eq, decide_eq_false_iff_not, ite_and_p, ite_or_p, Bool.decide_eq_true, Bool.and_eq_true, Bool.or_eq_true, Bool.not_eq_true', Bool.not_eq_false', Bool.and_eq_false_imp, Bool.or_eq_false_iff, bne_iff_ne, beq_iff_eq, bne_eq_false_iff_eq, beq_eq_false_iff_ne, gt_iff_lt, ge_iff_le, Int.not_lt, Int.not_le, ne_eq, Bool.true_eq_false, Bool.false_eq_true, reduceCtorEq, eta_Airway, eta_Fan, eta_Mine] at hb)
    | refine RetF.auto (And.intro rfl ?_)
    | exact Is.mk rfl rfl
    | refine Is.mk ?_ rfl
    | refine Is.mk rfl ?_
    | refine Is.mk ?_ ?_
def bytes (c : List Int) : Prop := ∀ x ∈ c, 0 ≤ x ∧ x ≤ 255
theorem bytes_getD {c : List Int} (h : bytes c) (n : Nat) : 0 ≤ c.getD n 0 ∧ c.getD n 0 ≤ 255 := by
  rw [List.getD_eq_getElem?_getD]
  cases hx : c[n]? with
  | none => simp
  | some x => exact h x (List.mem_of_getElem? hx)
inductive RetV {α : Type} (f : α → List AV) (g : α → List OB) (φ : α → Prop) (rs : List AV) (ho : List OB) : Prop
  | mk (v : α) (h1 : rs = f v) (h2 : ho = g v) (h3 : φ v)
theorem ArgF.ret {α : Type} {g : α → List AV} {o : α → List OB} {φ : α → Prop} {n : Nat} {P : Program} [Kn P] {f : FuncId} {args : List AV} {hin : List OB} {K : List AV → List OB → Prop} (h : FnSem P f args hin (RetV g o φ)) (hk : ∀ v, φ v → K (g v) (o v)) : ArgF n P f args hin K :=
  ⟨_, h, fun rs ho hR _ => by obtain ⟨v, rfl, rfl, h3⟩ := hR; exact hk v h3⟩
inductive SrcV {α : Type} (f : α → List AV) (φ : α → Prop) (c : List Int) (k p : Int) (rs : List AV) (ho : List OB) : Prop
  | mk (v : α) (p' s' : Int) (h1 : rs = f v) (h2 : ho = [srcO c p' s']) (h3 : φ v) (h4 : p ≤ p' ∧ p' ≤ p + k)
abbrev SrcR (c : List Int) (k p lo hi : Int) : List AV → List OB → Prop := SrcV (fun n : Int => [In n]) (fun n => lo ≤ n ∧ n ≤ hi) c k p
abbrev SrcB (c : List Int) (k p : Int) : List AV → List OB → Prop := SrcV (fun b : Bool => [Bo b]) (fun _ => True) c k p
inductive SrcW {α : Type} (f : α → List AV) (φ : α → Prop) (c : List Int) (k p : Int) (ob : OB) (rs : List AV) (ho : List OB) : Prop
  | mk (v : α) (p' s' : Int) (h1 : rs = f v) (h2 : ho = [srcO c p' s', ob]) (h3 : φ v) (h4 : p ≤ p' ∧ p' ≤ p + k)
theorem ArgF.src {α : Type} {g : α → List AV} {φ : α → Prop} {c : List Int} {k p : Int} {n : Nat} {P : Program} [Kn P] {f : FuncId} {args : List AV} {hin : List OB} {K : List AV → List OB → Prop} (h : FnSem P f args hin (SrcV g φ c k p)) (hk : ∀ v p' s', φ v → p ≤ p' ∧ p' ≤ p + k → K (g v) [srcO c p' s']) : ArgF n P f args hin K :=
  ⟨_, h, fun rs ho hR _ => by obtain ⟨v, p', s', rfl, rfl, h3, h4⟩ := hR; exact hk v p' s' h3 h4⟩
theorem ArgF.srw {α : Type} {g : α → List AV} {φ : α → Prop} {c : List Int} {k p : Int} {ob : OB} {n : Nat} {P : Program} [Kn P] {f : FuncId} {args : List AV} {hin : List OB} {K : List AV → List OB → Prop} (h : FnSem P f args hin (SrcW g φ c k p ob)) (hk : ∀ v p' s', φ v → p ≤ p' ∧ p' ≤ p + k → K (g v) [srcO c p' s', ob]) : ArgF n P f args hin K :=
  ⟨_, h, fun rs ho hR _ => by obtain ⟨v, p', s', rfl, rfl, h3, h4⟩ := hR; exact hk v p' s' h3 h4⟩
theorem and255 {x : Int} : 0 ≤ bitI .and .u64 x 255 ∧ bitI .and .u64 x 255 ≤ 255 := by
  have h : (BitVec.ofInt 64 x &&& BitVec.ofInt 64 255).toNat ≤ 255 := by
    rw [BitVec.toNat_and]; exact Nat.and_le_right
  have e : bitI .and .u64 x 255 = ((BitVec.ofInt 64 x &&& BitVec.ofInt 64 255).toNat : Int) := (wrap_eq_iff .u64 _).2 (by change (0 : Int) ≤ ((BitVec.ofInt 64 x &&& BitVec.ofInt 64 255).toNat : Int) ∧ ((BitVec.ofInt 64 x &&& BitVec.ofInt 64 255).toNat : Int) ≤ 18446744073709551615; omega)
  rw [e]; omega
theorem c_spec_l00Src_next (c : List Int) (p s : Int) (hc : bytes c) (hp : 0 ≤ p ∧ p ≤ 1000000000) : FnSem Tryz.prog 61 [.own 0 0] [srcO c p s] (SrcR c 1 p 0 255) := by
  have hg := fun n => bytes_getD hc n
  refine FnSem.walk (zs := zeroPV Tryz.prog) (by kernel_rfl) Tryz.func61 rfl Tryz.results61 (by kernel_rfl) (by kernel_rfl) (by kernel_rfl) fun hw hh => ?_
  obtain ⟨w0, _⟩ := hw
  first | replace w0 := wfr_L00Src w0 | skip
  repeat' first
    | refine And.intro rfl ?_
    | refine GdF.mk (fun h => h) ?_
    | refine And.intro (Nat.succ_ne_zero _) ?_
    | refine And.intro (Nat.le_of_ble_eq_true rfl) ?_
    | refine SeqF.run ?_
    | refine EqI.mk _ (fun _ => wrapI (by have := hg p.toNat; omega) (by have := hg p.toNat; omega)) ?_
    | refine EqI.mk _ (fun _ => wrapI (Int.le_trans (by decide) and255.1) (Int.le_trans and255.2 (by decide))) ?_
    | refine SrcV.mk (α := Int) _ _ _ rfl rfl ?_ ?_
    | refine GhF.go ?_
    | refine DrawG.old (DrawF.lex (by decide +kernel) ?_)
    | refine EqP.mk _ (gm eY 0 rfl) ?_
    | refine BndF.mk (fun _ => by omega) ?_
    | refine BndF.mk (fun _ => by simp only [lnS]; omega) ?_
    | refine EqI.mk _ (fun _ => wrapI (by omega) (by omega)) ?_
    | refine EqI.mk _ (fun _ => rfl) ?_
    | refine EqN.mk _ (ln eY) ?_
    | refine EqN.mk _ (Nat.zero_add _) ?_
    | refine EqN.mk _ (Int.toNat_natCast _) ?_
    | refine EqN.mk _ rfl ?_
    | refine EqL.mk _ (st eY) ?_
    | refine EqL.mk [] rfl ?_
    | refine EqL.mk [_] rfl ?_
    | refine EqL.mk _ rfl ?_
    | (refine CondF.mk (fun hb => ?_) (fun hb => ?_) <;> try simp only [forall_const, eq_self, not_true_eq_false, not_false_eq_true, or_false, false_or, or_self, or_true, true_or, and_true, true_and, and_false, false_and, decide_true, decide_false, Bool.not_true, Bool.not_false, decide_eq_true_eq, decide_eq_false_iff_not, ite_and_p, ite_or_p, Bool.decide_eq_true, Bool.and_eq_true, Bool.or_eq_true, Bool.not_eq_true', Bool.not_eq_false', Bool.and_eq_false_imp, Bool.or_eq_false_iff, bne_iff_ne, beq_iff_eq, bne_eq_false_iff_eq, beq_eq_false_iff_ne, gt_iff_lt, ge_iff_le, Int.not_lt, Int.not_le, ne_eq, Bool.true_eq_false, Bool.false_eq_true, reduceCtorEq, eta_Airway, eta_Fan, eta_Mine] at hb)
    | refine RetF.auto (And.intro rfl ?_)
    | exact Is.mk rfl rfl
    | refine Is.mk ?_ rfl
    | refine Is.mk rfl ?_
    | refine Is.mk ?_ ?_
  all_goals first | exact hg _ | exact and255 | omega
theorem c_spec_l00Src_pick (c : List Int) (p s n : Int) (hc : bytes c) (hp : 0 ≤ p ∧ p ≤ 100000000) (h1 : 1 ≤ n) : FnSem Tryz.prog 29 [.own 0 0, In n] [srcO c p s] (SrcR c 2 p 0 (n - 1)) := by
  refine FnSem.walk (zs := zeroPV Tryz.prog) (by kernel_rfl) Tryz.func29 rfl Tryz.results29 (by kernel_rfl) (by kernel_rfl) (by kernel_rfl) fun hw hh => ?_
  obtain ⟨w0, w1, _⟩ := hw
  first | replace w0 := wfr_L00Src w0 | skip
  first | replace w1 := wf_I w1 | skip
  repeat' first
    | refine And.intro rfl ?_
    | refine GdF.mk (fun h => h) ?_
    | refine And.intro (Nat.succ_ne_zero _) ?_
    | refine And.intro (Nat.le_of_ble_eq_true rfl) ?_
    | refine SeqF.run ?_
    | refine SrcV.mk (α := Int) _ _ _ rfl rfl ?_ ?_
    | refine GhF.go ?_
    | refine BndF.mk (fun _ => by omega) ?_
    | refine BndF.mk (fun _ => by simp only [lnS]; omega) ?_
    | refine EqI.mk _ (fun _ => wrapI (by omega) (by omega)) ?_
    | refine EqI.mk _ (fun _ => modE (by omega)) ?_
    | refine EqI.mk _ (fun _ => rfl) ?_
    | refine EqL.mk [] rfl ?_
    | refine EqL.mk [_] rfl ?_
    | refine EqL.mk _ rfl ?_
    | (refine ArgF.src (c_spec_l00Src_next _ _ _ (by first | assumption | omega | rfl | (simp only [List.length_cons, List.length_nil]; omega)) (by first | assumption | omega | rfl | (simp only [List.length_cons, List.length_nil]; omega))) ?_; intro _ _ _ _ _)
    | refine CallF.own (f := 61) [0] false ?_
    | refine CallF.mk (CallW.is [] true rfl ?_)
    | refine CallG.mk ?_
    | (refine CondF.mk (fun hb => ?_) (fun hb => ?_) <;> try simp only [forall_const, eq_self, not_true_eq_false, not_false_eq_true, or_false, false_or, or_self, or_true, true_or, and_true, true_and, and_false, false_and, decide_true, decide_false, Bool.not_true, Bool.not_false, decide_eq_true_eq, decide_eq_false_iff_not, ite_and_p, ite_or_p, Bool.decide_eq_true, Bool.and_eq_true, Bool.or_eq_true, Bool.not_eq_true', Bool.not_eq_false', Bool.and_eq_false_imp, Bool.or_eq_false_iff, bne_iff_ne, beq_iff_eq, bne_eq_false_iff_eq, beq_eq_false_iff_ne, gt_iff_lt, ge_iff_le, Int.not_lt, Int.not_le, ne_eq, Bool.true_eq_false, Bool.false_eq_true, reduceCtorEq, eta_Airway, eta_Fan, eta_Mine] at hb)
    | refine RetF.auto (And.intro rfl ?_)
    | exact Is.mk rfl rfl
    | refine Is.mk ?_ rfl
    | refine Is.mk rfl ?_
    | refine Is.mk ?_ ?_
  all_goals first | omega | (have h2 := fun y : Int => Int.emod_nonneg y (show n ≠ 0 by omega); have h3 := fun y : Int => Int.emod_lt_of_pos y (show 0 < n by omega); exact ⟨h2 _, Int.le_sub_one_of_lt (h3 _)⟩)
theorem c_spec_l00Src_one (c : List Int) (p s n : Int) (hc : bytes c) (hp : 0 ≤ p ∧ p ≤ 100000000) (h1 : 1 ≤ n) : FnSem Tryz.prog 34 [.own 0 0, In n] [srcO c p s] (SrcB c 2 p) := by
  refine FnSem.walk (zs := zeroPV Tryz.prog) (by kernel_rfl) Tryz.func34 rfl Tryz.results34 (by kernel_rfl) (by kernel_rfl) (by kernel_rfl) fun hw hh => ?_
  obtain ⟨w0, w1, _⟩ := hw
  first | replace w0 := wfr_L00Src w0 | skip
  first | replace w1 := wf_I w1 | skip
  repeat' first
    | refine And.intro rfl ?_
    | refine GdF.mk (fun h => h) ?_
    | refine And.intro (Nat.succ_ne_zero _) ?_
    | refine And.intro (Nat.le_of_ble_eq_true rfl) ?_
    | refine SeqF.run ?_
    | refine SrcV.mk (α := Bool) _ _ _ rfl rfl trivial ?_
    | refine GhF.go ?_
    | refine BndF.mk (fun _ => by omega) ?_
    | refine BndF.mk (fun _ => by simp only [lnS]; omega) ?_
    | refine EqL.mk [] rfl ?_
    | refine EqL.mk [_] rfl ?_
    | refine EqL.mk _ rfl ?_
    | (refine ArgF.src (c_spec_l00Src_pick _ _ _ _ (by first | assumption | omega | rfl | (simp only [List.length_cons, List.length_nil]; omega)) (by first | assumption | omega | rfl | (simp only [List.length_cons, List.length_nil]; omega)) (by first | assumption | omega | rfl | (simp only [List.length_cons, List.length_nil]; omega))) ?_; intro _ _ _ _ _)
    | refine CallF.own (f := 29) [0] false ?_
    | refine CallF.mk (CallW.is [] true rfl ?_)
    | refine CallG.mk ?_
    | (refine CondF.mk (fun hb => ?_) (fun hb => ?_) <;> try simp only [forall_const, eq_self, not_true_eq_false, not_false_eq_true, or_false, false_or, or_self, or_true, true_or, and_true, true_and, and_false, false_and, decide_true, decide_false, Bool.not_true, Bool.not_false, decide_eq_true_eq, decide_eq_false_iff_not, ite_and_p, ite_or_p, Bool.decide_eq_true, Bool.and_eq_true, Bool.or_eq_true, Bool.not_eq_true', Bool.not_eq_false', Bool.and_eq_false_imp, Bool.or_eq_false_iff, bne_iff_ne, beq_iff_eq, bne_eq_false_iff_eq, beq_eq_false_iff_ne, gt_iff_lt, ge_iff_le, Int.not_lt, Int.not_le, ne_eq, Bool.true_eq_false, Bool.false_eq_true, reduceCtorEq, eta_Airway, eta_Fan, eta_Mine] at hb)
    | refine RetF.auto (And.intro rfl ?_)
    | exact Is.mk rfl rfl
    | refine Is.mk ?_ rfl
    | refine Is.mk rfl ?_
    | refine Is.mk ?_ ?_
  all_goals first | omega | skip
theorem c_spec_l00Src_among (c : List Int) (p s : Int) (xs : List Int) (k : Nat) (hc : bytes c) (hp : 0 ≤ p ∧ p ≤ 100000000) (h1 : 1 ≤ k) (h2 : k = xs.length) : FnSem Tryz.prog 16 [.own 0 0, .osl 1 0 k] [srcO c p s, .row false .flat (eI 0) (xs.map eI)] (SrcW (fun n : Int => [In n]) (fun n => n ∈ xs) c 2 p (.row false .flat (eI 0) (xs.map eI))) := by
  refine FnSem.walk (zs := zeroPV Tryz.prog) (by kernel_rfl) Tryz.func16 rfl Tryz.results16 (by kernel_rfl) (by kernel_rfl) (by kernel_rfl) fun hw hh => ?_
  obtain ⟨w0, w1, _⟩ := hw
  first | replace w0 := wfr_L00Src w0 | skip
  first | replace w1 := wf_LI w1 | skip
  repeat' first
    | refine And.intro rfl ?_
    | refine GdF.mk (fun h => h) ?_
    | refine And.intro (Nat.succ_ne_zero _) ?_
    | refine And.intro (Nat.le_of_ble_eq_true rfl) ?_
    | refine SeqF.run ?_
    | refine SrcW.mk (α := Int) _ _ _ rfl rfl ?_ ?_
    | refine GhF.go ?_
    | refine EqP.mk _ (gm eI 0 rfl) ?_
    | refine BndF.mk (fun _ => by omega) ?_
    | refine BndF.mk (fun _ => by simp only [lnS]; omega) ?_
    | refine EqN.mk _ (ln eI) ?_
    | refine EqN.mk _ (Nat.zero_add _) ?_
    | refine EqN.mk _ (Int.toNat_natCast _) ?_
    | refine EqN.mk _ rfl ?_
    | refine EqL.mk _ (tk eI (by first | rfl | assumption | omega | (simp only [lnS] <;> omega))) ?_
    | refine EqL.mk [] rfl ?_
    | refine EqL.mk [_] rfl ?_
    | refine EqL.mk _ rfl ?_
    | (refine ArgF.src (c_spec_l00Src_pick _ _ _ _ (by first | assumption | omega | rfl | (simp only [List.length_cons, List.length_nil]; omega)) (by first | assumption | omega | rfl | (simp only [List.length_cons, List.length_nil]; omega)) (by first | assumption | omega | rfl | (simp only [List.length_cons, List.length_nil]; omega))) ?_; intro _ _ _ _ _)
    | refine CallF.own (f := 29) [0] false ?_
    | refine CallF.mk (CallW.is [] true rfl ?_)
    | refine CallG.mk ?_
    | (refine CondF.mk (fun hb => ?_) (fun hb => ?_) <;> try simp only [forall_const, eq_self, not_true_eq_false, not_false_eq_true, or_false, false_or, or_self, or_true, true_or, and_true, true_and, and_false, false_and, decide_true, decide_false, Bool.not_true, Bool.not_false, decide_eq_true_eq, decide_eq_false_iff_not, ite_and_p, ite_or_p, Bool.decide_eq_true, Bool.and_eq_true, Bool.or_eq_true, Bool.not_eq_true', Bool.not_eq_false', Bool.and_eq_false_imp, Bool.or_eq_false_iff, bne_iff_ne, beq_iff_eq, bne_eq_false_iff_eq, beq_eq_false_iff_ne, gt_iff_lt, ge_iff_le, Int.not_lt, Int.not_le, ne_eq, Bool.true_eq_false, Bool.false_eq_true, reduceCtorEq, eta_Airway, eta_Fan, eta_Mine] at hb)
    | refine RetF.auto (And.intro rfl ?_)
    | exact Is.mk rfl rfl
    | refine Is.mk ?_ rfl
    | refine Is.mk rfl ?_
    | refine Is.mk ?_ ?_
  all_goals try omega
  · rename_i v _ _ _ _
    have hv : v.toNat < xs.length := by omega
    rw [List.getD_eq_getElem?_getD, List.getElem?_eq_getElem hv]; exact List.getElem_mem hv
theorem c_laws_b10Long (c : List Int) : FnSem Tryz.prog 4 [Lx (LY c)] [] (Is [Bo (decide ((c.length : Int) > 1048576))] []) := by
  refine FnSem.walk (zs := zeroPV Tryz.prog) (by kernel_rfl) Tryz.func4 rfl Tryz.results4 (by kernel_rfl) (by kernel_rfl) (by kernel_rfl) fun hw hh => ?_
  obtain ⟨w0, _⟩ := hw
  first | replace w0 := wf_LY w0 | skip
  repeat' first
    | refine And.intro rfl ?_
    | refine GdF.mk (fun h => h) ?_
    | refine And.intro (Nat.succ_ne_zero _) ?_
    | refine And.intro (Nat.le_of_ble_eq_true rfl) ?_
    | refine SeqF.run ?_
    | refine GhF.go ?_
    | refine EqN.mk _ (ln eY) ?_
    | (refine CondF.mk (fun hb => ?_) (fun hb => ?_) <;> try simp only [forall_const, eq_self, not_true_eq_false, not_false_eq_true, or_false, false_or, or_self, or_true, true_or, and_true, true_and, and_false, false_and, decide_true, decide_false, Bool.not_true, Bool.not_false, decide_eq_true_eq, decide_eq_false_iff_not, ite_and_p, ite_or_p, Bool.decide_eq_true, Bool.and_eq_true, Bool.or_eq_true, Bool.not_eq_true', Bool.not_eq_false', Bool.and_eq_false_imp, Bool.or_eq_false_iff, bne_iff_ne, beq_iff_eq, bne_eq_false_iff_eq, beq_eq_false_iff_ne, gt_iff_lt, ge_iff_le, Int.not_lt, Int.not_le, ne_eq, Bool.true_eq_false, Bool.false_eq_true, reduceCtorEq, eta_Airway, eta_Fan, eta_Mine] at hb)
    | refine RetF.auto (And.intro rfl ?_)
    | exact Is.mk rfl rfl
    | refine Is.mk ?_ rfl
    | refine Is.mk rfl ?_
    | refine Is.mk ?_ ?_
end Go.Proofs.YtdhkpmaanegjkaaGreat
