/- Contracts of functions of the program, and what they compute. Conditions: those that each theorem states. -/
import Derived.Test.YtdhkpmaanegjkaaGreatDoorProg
import Derived.Test.YtdhkpmaanegjkaaGreatDoorW1
set_option linter.unusedVariables false
set_option linter.unusedSimpArgs false
namespace Go.Proofs.YtdhkpmaanegjkaaGreatDoor
open Go.Av
attribute [local irreducible] Go.IntKind.wrap okMine
set_option maxRecDepth 20000
set_option maxHeartbeats 8000000
section
variable (m : GMine) (ls : List Int)
def stA (u v : Int) : Prop := ∃ i ∈ ls, (0 ≤ i ∧ i < m.airways.length) ∧ otherA (m.airways.getD i.toNat default) u = (v, true)
def wkA : Nat → Int → Int → Prop
  | 0, u, v => u = v
  | n + 1, u, v => ∃ x, stA m ls u x ∧ wkA n x v
def cnA (u v : Int) : Prop := ∃ n, wkA m ls n u v
def dsA (n : Nat) (u v : Int) : Prop := wkA m ls n u v ∧ ∀ k, wkA m ls k u v → n ≤ k
end
section
variable {m : GMine} {ls : List Int}
theorem oth_p (hm : okMine m = true) {i : Int} (hi : 0 ≤ i ∧ i < m.airways.length) {u v : Int} (h : otherA (m.airways.getD i.toNat default) u = (v, true)) : (u = (m.airways.getD i.toNat default).from_ ∧ v = (m.airways.getD i.toNat default).to) ∨ (u = (m.airways.getD i.toNat default).to ∧ v = (m.airways.getD i.toNat default).from_) := by
  unfold otherA at h
  split at h
  · rename_i e
    exact .inl ⟨e, by simpa using (congrArg Prod.fst h).symm⟩
  · split at h
    · rename_i e
      exact .inr ⟨e, by simpa using (congrArg Prod.fst h).symm⟩
    · simp at h
theorem oth_f (hm : okMine m = true) {i : Int} (hi : 0 ≤ i ∧ i < m.airways.length) : otherA (m.airways.getD i.toNat default) (m.airways.getD i.toNat default).from_ = ((m.airways.getD i.toNat default).to, true) ∧ otherA (m.airways.getD i.toNat default) (m.airways.getD i.toNat default).to = ((m.airways.getD i.toNat default).from_, true) := by
  have q := okAirway_b ((okMine_p hm).2.2 i.toNat (by omega)).1
  unfold otherA
  rw [if_pos rfl, if_neg (by omega), if_pos rfl]
  exact ⟨rfl, rfl⟩
theorem stA_sym (hm : okMine m = true) {u v : Int} (h : stA m ls u v) : stA m ls v u := by
  obtain ⟨i, h1, h2, h3⟩ := h
  have q := oth_f hm h2
  rcases oth_p hm h2 h3 with ⟨rfl, rfl⟩ | ⟨rfl, rfl⟩
  · exact ⟨i, h1, h2, q.2⟩
  · exact ⟨i, h1, h2, q.1⟩
theorem stA_V (hm : okMine m = true) {u v : Int} (h : stA m ls u v) : inV m u ∧ inV m v := by
  obtain ⟨i, h1, h2, h3⟩ := h
  have q := edV hm (i := i.toNat) (by omega)
  rcases oth_p hm h2 h3 with ⟨rfl, rfl⟩ | ⟨rfl, rfl⟩
  · exact q
  · exact q.symm
theorem wkA_V (hm : okMine m = true) : ∀ (n : Nat) (u v : Int), inV m u → wkA m ls n u v → inV m v
  | 0, u, v, hu, h => by rw [← show u = v from h]; exact hu
  | n + 1, u, v, hu, h => by
    obtain ⟨x, h1, h2⟩ := h
    exact wkA_V hm n x v (stA_V hm h1).2 h2
theorem wkA_add : ∀ (n k : Nat) (u x v : Int), wkA m ls n u x → wkA m ls k x v → wkA m ls (n + k) u v
  | 0, k, u, x, v, h1, h2 => by rw [show u = x from h1, Nat.zero_add]; exact h2
  | n + 1, k, u, x, v, h1, h2 => by
    obtain ⟨y, h3, h4⟩ := h1
    rw [show n + 1 + k = (n + k) + 1 by omega]
    exact ⟨y, h3, wkA_add n k y x v h4 h2⟩
theorem wkA_one {u v : Int} (h : stA m ls u v) : wkA m ls 1 u v := ⟨v, h, rfl⟩
theorem wkA_sym (hm : okMine m = true) : ∀ (n : Nat) (u v : Int), wkA m ls n u v → wkA m ls n v u
  | 0, u, v, h => Eq.symm h
  | n + 1, u, v, h => by
    obtain ⟨x, h1, h2⟩ := h
    exact wkA_add n 1 v x u (wkA_sym hm n x v h2) (wkA_one (stA_sym hm h1))
theorem stA_mono {bs : List Int} (h : ∀ i ∈ ls, i ∈ bs) {u v : Int} (hs : stA m ls u v) : stA m bs u v := by
  obtain ⟨i, h1, h2⟩ := hs
  exact ⟨i, h i h1, h2⟩
theorem wkA_mono {bs : List Int} (h : ∀ i ∈ ls, i ∈ bs) : ∀ (n : Nat) (u v : Int), wkA m ls n u v → wkA m bs n u v
  | 0, _, _, e => e
  | n + 1, u, v, ⟨x, h1, h2⟩ => ⟨x, stA_mono h h1, wkA_mono h n x v h2⟩
theorem dsA_fun {n k : Nat} {u v : Int} (h : dsA m ls n u v) (h2 : dsA m ls k u v) : n = k := Nat.le_antisymm (h.2 k h2.1) (h2.2 n h.1)
structure rcI (m : GMine) (ls : List Int) (from_ : Int) (A : List Int) (k : Nat) : Prop where
  nd : A.Nodup
  rg : ∀ v ∈ A, inV m v
  fr : from_ ∈ A
  wk : ∀ v ∈ A, cnA m ls from_ v
  q3 : ∀ i, i < k → i < A.length → ∀ u, stA m ls (A.getD i 0) u → u ∈ A
theorem rcI_0 {f : Int} (hf : inV m f) : rcI m ls f [f] 0 :=
  ⟨by simp, by simpa using hf, by simp, fun v hv => by rw [List.mem_singleton.1 hv]; exact ⟨0, rfl⟩, fun i hi => absurd hi (by omega)⟩
theorem getD_app {A : List Int} {x : Int} {i : Nat} (h : i < A.length) : (A ++ [x]).getD i 0 = A.getD i 0 := by
  rw [List.getD_eq_getElem?_getD, List.getD_eq_getElem?_getD, List.getElem?_append_left h]
theorem rcI_add (hm : okMine m = true) {f x : Int} {A : List Int} {k : Nat} (h : rcI m ls f A k) (hk : k < A.length) (hx : stA m ls (A.getD k 0) x) (hn : x ∉ A) : rcI m ls f (A ++ [x]) k := by
  have hkm : A.getD k 0 ∈ A := getD_mem hk
  refine ⟨?_, ?_, List.mem_append_left _ h.fr, ?_, ?_⟩
  · rw [List.nodup_append]
    exact ⟨h.nd, by simp, fun a ha b hb => by rw [List.mem_singleton.1 hb]; rintro rfl; exact hn ha⟩
  · intro v hv
    rcases List.mem_append.1 hv with hv | hv
    · exact h.rg v hv
    · rw [List.mem_singleton.1 hv]; exact (stA_V hm hx).2
  · intro v hv
    rcases List.mem_append.1 hv with hv | hv
    · exact h.wk v hv
    · rw [List.mem_singleton.1 hv]
      obtain ⟨n, hn⟩ := h.wk _ hkm
      exact ⟨n + 1, wkA_add n 1 _ _ _ hn (wkA_one hx)⟩
  · intro i hi _ u hu
    rw [getD_app (by omega)] at hu
    exact List.mem_append_left _ (h.q3 i hi (by omega) u hu)
theorem rcI_s {f : Int} {A : List Int} {k : Nat} (h : rcI m ls f A k) (hq : ∀ u, stA m ls (A.getD k 0) u → u ∈ A) : rcI m ls f A (k + 1) :=
  ⟨h.nd, h.rg, h.fr, h.wk, fun i hi hl u hu => by
    by_cases e : i = k
    · subst e; exact hq u hu
    · exact h.q3 i (by omega) hl u hu⟩
theorem rcI_end {f : Int} {A : List Int} {k : Nat} (h : rcI m ls f A k) (hk : A.length ≤ k) (v : Int) : v ∈ A ↔ cnA m ls f v := by
  refine ⟨h.wk v, ?_⟩
  rintro ⟨n, hn⟩
  have key : ∀ (n : Nat) (u v : Int), u ∈ A → wkA m ls n u v → v ∈ A := by
    intro n
    induction n with
    | zero => intro u v hu e; rw [← show u = v from e]; exact hu
    | succ n ih =>
      rintro u v hu ⟨x, h1, h2⟩
      obtain ⟨i, hi, rfl⟩ := List.getElem_of_mem hu
      refine ih x v (h.q3 i (by omega) hi x ?_) h2
      rw [List.getD_eq_getElem?_getD, List.getElem?_eq_getElem hi]; exact h1
  exact key n f v h.fr hn
theorem rcI_len (hm : okMine m = true) {f : Int} {A : List Int} {k : Nat} (h : rcI m ls f A k) : (A.length : Int) ≤ m.junctions := by
  have hJ := (okMine_p hm).1
  have := pigW m.junctions.toNat A h.nd (fun v hv => by have := h.rg v hv; unfold inV at this; omega)
  omega
def fv (F : Int → Option Int) (v : Int) : Int := (F v).getD 0
structure bfI (m : GMine) (ls : List Int) (to : Int) (A : List Int) (k : Nat) (F : Int → Option Int) : Prop where
  nd : A.Nodup
  rg : ∀ v ∈ A, inV m v
  dm : ∀ v, (F v).isSome = true ↔ v ∈ A
  p1 : F to = some 0
  p2 : ∀ v ∈ A, (v = to ∧ fv F v = 0) ∨ ∃ u ∈ A, stA m ls v u ∧ fv F v = fv F u + 1
  nn : ∀ v ∈ A, 0 ≤ fv F v ∧ fv F v ≤ A.length
  so : ∀ i j : Nat, i ≤ j → j < A.length → fv F (A.getD i 0) ≤ fv F (A.getD j 0)
  q2 : k < A.length → ∀ v ∈ A, fv F v ≤ fv F (A.getD k 0) + 1
  q3 : ∀ i, i < k → i < A.length → ∀ u, stA m ls (A.getD i 0) u → u ∈ A ∧ fv F u ≤ fv F (A.getD i 0) + 1
def F0 (to : Int) : Int → Option Int := fun v => if v = to then some 0 else none
theorem bfI_0 {to : Int} (ht : inV m to) : bfI m ls to [to] 0 (F0 to) := by
  have e : fv (F0 to) to = 0 := by unfold fv F0; rw [if_pos rfl]; rfl
  refine ⟨by simp, by simpa using ht, fun v => ?_, by unfold F0; rw [if_pos rfl], fun v hv => ?_, fun v hv => ?_, fun i j hij hj => ?_, fun _ v hv => ?_, fun i hi => absurd hi (by omega)⟩
  · unfold F0; by_cases h : v = to <;> simp [h]
  · rw [List.mem_singleton.1 hv]; exact .inl ⟨rfl, e⟩
  · rw [List.mem_singleton.1 hv, e]; simp
  · simp only [List.length_cons, List.length_nil] at hj
    rw [show i = 0 by omega, show j = 0 by omega]; exact Int.le_refl _
  · rw [List.mem_singleton.1 hv]
    show _ ≤ fv _ to + 1
    omega
def updF (F : Int → Option Int) (x d : Int) : Int → Option Int := fun v => if v = x then some d else F v
theorem bfI_add (hm : okMine m = true) {to x : Int} {A : List Int} {k : Nat} {F : Int → Option Int} (h : bfI m ls to A k F) (hk : k < A.length) (hx : stA m ls (A.getD k 0) x) (hn : (F x).isSome = false) : bfI m ls to (A ++ [x]) k (updF F x (fv F (A.getD k 0) + 1)) := by
  have hkm : A.getD k 0 ∈ A := getD_mem hk
  have hxA : x ∉ A := fun e => by rw [(h.dm x).2 e] at hn; cases hn
  have eo : ∀ v ∈ A, fv (updF F x (fv F (A.getD k 0) + 1)) v = fv F v := fun v hv => by
    unfold fv updF
    rw [if_neg (show ¬v = x from fun e => hxA (by rw [← e]; exact hv))]
  have ex : fv (updF F x (fv F (A.getD k 0) + 1)) x = fv F (A.getD k 0) + 1 := by
    show Option.getD (if x = x then _ else _) 0 = _
    rw [if_pos rfl]; rfl
  have eg : ∀ i, i < A.length → fv (updF F x (fv F (A.getD k 0) + 1)) ((A ++ [x]).getD i 0) = fv F (A.getD i 0) := fun i hi => by
    rw [getD_app hi]; exact eo _ (getD_mem hi)
  have ee : (A ++ [x]).getD A.length 0 = x := by simp [List.getD_eq_getElem?_getD]
  refine ⟨?_, ?_, fun v => ?_, ?_, ?_, ?_, ?_, ?_, ?_⟩
  · rw [List.nodup_append]
    exact ⟨h.nd, by simp, fun a ha b hb => by rw [List.mem_singleton.1 hb]; rintro rfl; exact hxA ha⟩
  · intro v hv
    rcases List.mem_append.1 hv with hv | hv
    · exact h.rg v hv
    · rw [List.mem_singleton.1 hv]; exact (stA_V hm hx).2
  · rw [List.mem_append, List.mem_singleton]
    unfold updF
    by_cases e : v = x
    · simp [e]
    · rw [if_neg e, h.dm v]; simp [e]
  · unfold updF
    rw [if_neg, h.p1]
    intro e
    have : to ∈ A := (h.dm to).1 (by rw [h.p1]; rfl)
    exact hxA (e ▸ this)
  · intro v hv
    rcases List.mem_append.1 hv with hv | hv
    · rcases h.p2 v hv with h1 | ⟨u, h1, h2, h3⟩
      · exact .inl ⟨h1.1, by rw [eo v hv]; exact h1.2⟩
      · exact .inr ⟨u, List.mem_append_left _ h1, h2, by rw [eo v hv, eo u h1]; exact h3⟩
    · rw [List.mem_singleton.1 hv]
      exact .inr ⟨_, List.mem_append_left _ hkm, stA_sym hm hx, by rw [ex, eo _ hkm]⟩
  · intro v hv
    rw [List.length_append, List.length_singleton]
    rcases List.mem_append.1 hv with hv | hv
    · rw [eo v hv]; have := h.nn v hv; omega
    · rw [List.mem_singleton.1 hv, ex]; have := h.nn _ hkm; omega
  · intro i j hij hj
    rw [List.length_append, List.length_singleton] at hj
    by_cases e : j < A.length
    · rw [eg i (by omega), eg j e]; exact h.so i j hij e
    · have e2 : j = A.length := by omega
      subst e2
      rw [ee, ex]
      by_cases e3 : i < A.length
      · rw [eg i e3]; exact h.q2 hk _ (getD_mem e3)
      · rw [show i = A.length by omega, ee, ex]; exact Int.le_refl _
  · intro _ v hv
    rw [eg k hk]
    rcases List.mem_append.1 hv with hv | hv
    · rw [eo v hv]; exact h.q2 hk v hv
    · rw [List.mem_singleton.1 hv, ex]; exact Int.le_refl _
  · intro i hi _ u hu
    rw [getD_app (by omega)] at hu
    obtain ⟨h1, h2⟩ := h.q3 i hi (by omega) u hu
    exact ⟨List.mem_append_left _ h1, by rw [eg i (by omega), eo u h1]; exact h2⟩
theorem bfI_s {to : Int} {A : List Int} {k : Nat} {F : Int → Option Int} (h : bfI m ls to A k F) (hk : k < A.length) (hq : ∀ u, stA m ls (A.getD k 0) u → u ∈ A) : bfI m ls to A (k + 1) F where
  nd := h.nd
  rg := h.rg
  dm := h.dm
  p1 := h.p1
  p2 := h.p2
  nn := h.nn
  so := h.so
  q2 := fun hk2 v hv => by
    have a := h.q2 hk v hv
    have b := h.so k (k + 1) (by omega) hk2
    omega
  q3 := fun i hi hl u hu => by
    by_cases e : i = k
    · subst e
      exact ⟨hq u hu, h.q2 hk u (hq u hu)⟩
    · exact h.q3 i (by omega) hl u hu
theorem bfI_len (hm : okMine m = true) {to : Int} {A : List Int} {k : Nat} {F : Int → Option Int} (h : bfI m ls to A k F) : (A.length : Int) ≤ m.junctions := by
  have hJ := (okMine_p hm).1
  have := pigW m.junctions.toNat A h.nd (fun v hv => by have := h.rg v hv; unfold inV at this; omega)
  omega
structure farI (m : GMine) (ls : List Int) (to : Int) (F : Int → Option Int) : Prop where
  p1 : F to = some 0
  p2 : ∀ v d, F v = some d → (v = to ∧ d = 0) ∨ ∃ u, stA m ls v u ∧ F u = some (d - 1)
  nn : ∀ v d, F v = some d → 0 ≤ d ∧ d ≤ m.junctions
  p3 : ∀ v d u, F v = some d → stA m ls v u → ∃ e, F u = some e ∧ e ≤ d + 1
theorem fv_some {F : Int → Option Int} {v d : Int} (h : F v = some d) : fv F v = d := by unfold fv; rw [h]; rfl
theorem some_fv {F : Int → Option Int} {v : Int} (h : (F v).isSome = true) : F v = some (fv F v) := by
  obtain ⟨d, hd⟩ := Option.isSome_iff_exists.1 h
  rw [fv_some hd]; exact hd
theorem bfI_end (hm : okMine m = true) {to : Int} {A : List Int} {k : Nat} {F : Int → Option Int} (h : bfI m ls to A k F) (hk : A.length ≤ k) : farI m ls to F where
  p1 := h.p1
  p2 := fun v d hd => by
    have hv : v ∈ A := (h.dm v).1 (by rw [hd]; rfl)
    have e := fv_some hd
    rcases h.p2 v hv with h1 | ⟨u, h1, h2, h3⟩
    · exact .inl ⟨h1.1, by rw [← e]; exact h1.2⟩
    · exact .inr ⟨u, h2, by rw [some_fv ((h.dm u).2 h1)]; congr 1; omega⟩
  nn := fun v d hd => by
    have hv : v ∈ A := (h.dm v).1 (by rw [hd]; rfl)
    have := h.nn v hv
    have := bfI_len hm h
    rw [fv_some hd] at *
    omega
  p3 := fun v d u hd hs => by
    have hv : v ∈ A := (h.dm v).1 (by rw [hd]; rfl)
    obtain ⟨i, hi, rfl⟩ := List.getElem_of_mem hv
    have hg : A.getD i 0 = A[i] := by rw [List.getD_eq_getElem?_getD, List.getElem?_eq_getElem hi]; rfl
    obtain ⟨h1, h2⟩ := h.q3 i (by omega) hi u (by rw [hg]; exact hs)
    rw [hg, fv_some hd] at h2
    exact ⟨_, some_fv ((h.dm u).2 h1), h2⟩
theorem farI.le (hm : okMine m = true) {to : Int} {F : Int → Option Int} (h : farI m ls to F) : ∀ (n : Nat) (v : Int), wkA m ls n v to → ∃ d, F v = some d ∧ d ≤ n
  | 0, v, e => ⟨0, by rw [show v = to from e]; exact h.p1, Int.le_refl _⟩
  | n + 1, v, ⟨x, h1, h2⟩ => by
    obtain ⟨d, e1, e2⟩ := h.le hm n x h2
    obtain ⟨e, e3, e4⟩ := h.p3 x d v e1 (stA_sym hm h1)
    exact ⟨e, e3, by omega⟩
theorem farI.wk {to : Int} {F : Int → Option Int} (h : farI m ls to F) : ∀ (n : Nat) (v : Int), F v = some (n : Int) → wkA m ls n v to
  | 0, v, e => by
    rcases h.p2 v 0 e with h1 | ⟨u, _, h2⟩
    · exact h1.1
    · have := h.nn u _ h2; omega
  | n + 1, v, e => by
    rcases h.p2 v _ e with h1 | ⟨u, h1, h2⟩
    · have := h1.2; omega
    · exact ⟨u, h1, h.wk n u (by rw [h2]; congr 1; omega)⟩
theorem farI.ds (hm : okMine m = true) {to : Int} {F : Int → Option Int} (h : farI m ls to F) {v d : Int} (e : F v = some d) : dsA m ls d.toNat v to := by
  have := h.nn v d e
  refine ⟨h.wk d.toNat v (by rw [e]; congr 1; omega), fun k hk => ?_⟩
  obtain ⟨d', e1, e2⟩ := h.le hm k v hk
  rw [e] at e1; cases e1; omega
theorem farI.no (hm : okMine m = true) {to : Int} {F : Int → Option Int} (h : farI m ls to F) {v : Int} (e : F v = none) : ¬cnA m ls v to := by
  rintro ⟨n, hn⟩
  obtain ⟨d, e1, _⟩ := h.le hm n v hn
  rw [e] at e1; cases e1
end
end Go.Proofs.YtdhkpmaanegjkaaGreatDoor

set_option linter.unusedVariables false
set_option linter.unusedSimpArgs false
namespace Go.Proofs.YtdhkpmaanegjkaaGreatDoor
open Go.Av
attribute [local irreducible] Go.IntKind.wrap okMine
set_option maxRecDepth 20000
set_option maxHeartbeats 8000000
section
variable {m : GMine} {ls A : List Int} {f x : Int} {j k : Int}
def qjI (m : GMine) (ls A : List Int) (x j : Int) : Prop := ∀ i : Nat, (i : Int) < j → ∀ u, otherA (m.airways.getD (ls.getD i 0).toNat default) x = (u, true) → u ∈ A
theorem qj_0 : qjI m ls A x 0 := fun i hi => absurd hi (by omega)
theorem qj_add (h : qjI m ls A x j) (h0 : 0 ≤ j) {v : Int} (hv : v = (otherA (m.airways.getD (ls.getD j.toNat 0).toNat default) x).1) : qjI m ls (A ++ [v]) x (j + 1) := by
  intro i hi u hu
  by_cases e : (i : Int) = j
  · rw [show j.toNat = i by omega, hu] at hv
    rw [hv]; simp
  · exact List.mem_append_left _ (h i (by omega) u hu)
theorem qj_keep (h : qjI m ls A x j) (h0 : 0 ≤ j) (hk : (otherA (m.airways.getD (ls.getD j.toNat 0).toNat default) x).2 = true → (otherA (m.airways.getD (ls.getD j.toNat 0).toNat default) x).1 ∈ A) : qjI m ls A x (j + 1) := by
  intro i hi u hu
  by_cases e : (i : Int) = j
  · rw [show j.toNat = i by omega, hu] at hk
    exact hk rfl
  · exact h i (by omega) u hu
theorem qj_end (h : qjI m ls A x j) (hj : ls.length ≤ j) : ∀ u, stA m ls x u → u ∈ A := by
  rintro u ⟨i, h1, h2, h3⟩
  obtain ⟨p, hp, rfl⟩ := List.getElem_of_mem h1
  refine h p (by omega) u ?_
  rw [show ls.getD p 0 = ls[p] by rw [List.getD_eq_getElem?_getD, List.getElem?_eq_getElem hp]; rfl]
  exact h3
theorem oth_st (h0 : 0 ≤ j) (hj : j < ls.length) (hl : ∀ i ∈ ls, 0 ≤ i ∧ i < m.airways.length) (h : (otherA (m.airways.getD (ls.getD j.toNat 0).toNat default) x).2 = true) : stA m ls x (otherA (m.airways.getD (ls.getD j.toNat 0).toNat default) x).1 :=
  ⟨ls.getD j.toNat 0, getD_mem (by omega), hl _ (getD_mem (by omega)), by rw [← h]⟩
theorem lsB (hl : ∀ i ∈ ls, 0 ≤ i ∧ i < m.airways.length) (h0 : 0 ≤ j) (hj : j < ls.length) : 0 ≤ ls.getD j.toNat 0 ∧ ls.getD j.toNat 0 < m.airways.length := hl _ (getD_mem (by omega))
end
theorem take_all {A : List Int} {n : Nat} (h : n = A.length) : A.take n = A := by rw [h, List.take_length]
theorem c_impl_Mine_reached (m : GMine) (f : Int) (ls : List Int) (hm : okMine m = true) (hf : inV m f) (hl : ∀ i ∈ ls, 0 ≤ i ∧ i < m.airways.length) (hll : ls.length ≤ 1000) : FnSem Tryz.prog 37 [.p .any (.agg m.cells), In f, Lx (LI ls)] [] (RetV (fun v : Nat × List Int => [.osl 0 0 v.1]) (fun v => [.row false .flat (eI 0) (v.2.map eI)]) (fun v => v.1 = v.2.length ∧ v.1 ≤ 16 ∧ ∀ u, u ∈ v.2 ↔ cnA m ls f u)) := by
  have hJ := (okMine_p hm).1
  refine FnSem.old ?_
  refine FnSem.walk (zs := zeroPV Tryz.prog) (by kernel_rfl) Tryz.func37 rfl Tryz.results37 (by kernel_rfl) (by kernel_rfl) (by kernel_rfl) fun hw hh => ?_
  obtain ⟨w0, w1, w2, _⟩ := hw
  first | replace w0 := wf_Mine w0 | skip
  first | replace w1 := wf_I w1 | skip
  first | replace w2 := wf_LI w2 | skip
  repeat' first
    | refine And.intro rfl ?_
    | refine GdF.mk (fun h => h) ?_
    | refine And.intro (Nat.succ_ne_zero _) ?_
    | refine And.intro (Nat.le_of_ble_eq_true rfl) ?_
    | refine SeqF.run ?_
    | refine GhF.at 2 rfl [.old 2] ?_
    | refine OpH.heap ?_
    | refine GhF.held 8 rfl [(9, [])] ?_
    | refine ArgF.is (c_impl_Airway_other (m.airways.getD (ls.getD j.toNat 0).toNat default) (A'.getD k.toNat 0)) ?_
    | refine ArgQ.is (fun hG => c_impl_Airway_other (m.airways.getD (ls.getD j.toNat 0).toNat default) (A'.getD k.toNat 0)) rfl rfl ?_
    | refine LoopF.at 3 rfl (LoopF.fix [2, 3] (Int × Nat × List Int) (fun (k, n, A) => 0 ≤ k ∧ k ≤ n ∧ n = A.length ∧ rcI m ls f A k.toNat) (fun (k, n, A) => [(8, In k), (7, .osl 1 0 n)]) (fun (k, n, A) => [(1, .row false .flat (eI 0) (A.map eI))]) (fun (k, n, A) => ((m.junctions - k).toNat)) ((0, 1, [f])) ?_)
    | (refine LoopB.of (T := Int × Nat × List Int) ?_ ?_; rotate_left; rintro ⟨k, n, A⟩ ⟨k0, k1, k2, k3⟩; rotate_left)
    | refine LoopF.at 6 rfl (LoopF.fix [2, 3, 8, 21, 22] (Int × List Int × Nat) (fun (j, A', n') => 0 ≤ j ∧ j ≤ ls.length ∧ k < n' ∧ n' = A'.length ∧ rcI m ls f A' k.toNat ∧ qjI m ls A' (A'.getD k.toNat 0) j) (fun (j, A', n') => [(23, In j), (7, .osl 1 0 n')]) (fun (j, A', n') => [(1, .row false .flat (eI 0) (A'.map eI))]) (fun (j, A', n') => ((ls.length - j).toNat)) ((0, A, n)) ?_)
    | (refine LoopB.of (T := Int × List Int × Nat) ?_ ?_; rotate_left; rintro ⟨j, A', n'⟩ ⟨j0, j1, j2, j3, j4, j5⟩; rotate_left)
    | refine BndF.mk (fun _ => by have a := lsB hl j0 (by assumption); have b := rcI_len hm j4; first | omega | (simp only [List.length_map]; omega)) ?_
    | refine EqL.mk _ (tkT (take_all j3)) ?_
    | refine EqL.mk _ (snT (take_all j3)) ?_
    | refine EqI.mk _ (fun _ => by have b := rcI_len hm j4; exact wrapI (by omega) (by omega)) ?_
    | refine RetV.mk (α := Nat × List Int) (_, _) rfl rfl ?_
    | refine HdF.at 14 rfl 0 [] (And.intro (by decide +kernel) (And.intro rfl ?_))
    | refine HdF.at 13 rfl 1 [3, 4, 9, 10, 11, 12, 13, 14] (And.intro (by decide +kernel) (And.intro rfl ?_))
    | refine HdF.at 12 rfl 2 [] (And.intro (by decide +kernel) (And.intro rfl ?_))
    | refine HdF.at 11 rfl 3 [] (And.intro (by decide +kernel) (And.intro rfl ?_))
    | refine HdF.at 10 rfl 4 [9, 10, 11, 12, 13, 14] (And.intro (by decide +kernel) (And.intro rfl ?_))
    | refine HdF.at 9 rfl 5 [] (And.intro (by decide +kernel) (And.intro rfl ?_))
    | refine HdF.at 8 rfl 6 [] (And.intro (by decide +kernel) (And.intro rfl ?_))
    | refine HdF.at 7 rfl 7 [] (And.intro (by decide +kernel) (And.intro rfl ?_))
    | refine HdF.at 6 rfl 8 [9, 10, 11, 12, 13, 14] (And.intro (by decide +kernel) (And.intro rfl ?_))
    | refine HdF.goAt 5 rfl ?_
    | refine OrdL.ord ?_
    | refine OrdF.take 10 (by decide +kernel) (And.intro rfl ?_)
    | refine OrdF.take 11 (by decide +kernel) (And.intro rfl ?_)
    | refine OrdF.take 12 (by decide +kernel) (And.intro rfl ?_)
    | refine OrdF.take 13 (by decide +kernel) (And.intro rfl ?_)
    | refine OrdF.take 14 (by decide +kernel) (And.intro rfl ?_)
    | refine OrdF.all [9] (by decide +kernel) ?_
    | refine OrdF.fin (by decide +kernel) ?_
    | refine AllF.one _ ?_
    | refine AllF.cons _ _ ?_ ?_
    | refine OpH.quiet rfl ?_
    | refine OpH.heap ?_
    | refine GhF.go ?_
    | refine GdS.keep ?_
    | refine DrawG.old (DrawF.lex (by decide +kernel) ?_)
    | refine MkF.row ?_
    | refine EqP.mk _ (gm GAirway.cells default rfl) ?_
    | refine EqP.mk _ (gm eI 0 rfl) ?_
    | refine BndF.mk (fun _ => by omega) ?_
    | refine BndF.mk (fun _ => by simp only [lnS]; omega) ?_
    | refine BndF.mk (fun hG => by simp only [forall_const, eq_self, not_true_eq_false, not_false_eq_true, or_false, false_or, or_self, or_true, true_or, and_true, true_and, and_false, false_and, decide_true, decide_false, Bool.not_true, Bool.not_false, decide_eq_true_eq, decide_eq_false_iff_not, ite_and_p, ite_or_p, Bool.decide_eq_true, Bool.and_eq_true, Bool.or_eq_true, Bool.not_eq_true', Bool.not_eq_false', Bool.and_eq_false_imp, Bool.or_eq_false_iff, bne_iff_ne, beq_iff_eq, bne_eq_false_iff_eq, beq_eq_false_iff_ne, gt_iff_lt, ge_iff_le, Int.not_lt, Int.not_le, ne_eq, Bool.true_eq_false, Bool.false_eq_true, reduceCtorEq, eta_Airway, eta_Fan, eta_Mine, bytes_nil] at hG; (try simp only [List.length_map]); omega) ?_
    | refine EqI.mk _ (fun _ => wrapI (by omega) (by omega)) ?_
    | refine EqI.mk _ (fun _ => rfl) ?_
    | refine FlF.keep ?_
    | refine EqN.mk _ (ln GAirway.cells) ?_
    | refine EqN.mk _ (ln eI) ?_
    | refine EqN.mk _ (Nat.zero_add _) ?_
    | refine EqN.mk (_ + 1) rfl ?_
    | refine EqN.mk _ (Int.toNat_natCast _) ?_
    | refine EqN.mk _ rfl ?_
    | refine EqL.mk _ (sn0 GAirway.cells) ?_
    | refine EqL.mk _ (sn GAirway.cells (by first | rfl | assumption | omega | (simp only [lnS] <;> omega))) ?_
    | refine EqL.mk _ (ap0 GAirway.cells) ?_
    | refine EqL.mk _ (ap GAirway.cells (by first | rfl | assumption | omega | (simp only [lnS] <;> omega))) ?_
    | refine EqL.mk _ (tk GAirway.cells (by first | rfl | assumption | omega | (simp only [lnS] <;> omega))) ?_
    | refine EqL.mk _ (dt GAirway.cells) ?_
    | refine EqL.mk _ (sn0 eI) ?_
    | refine EqL.mk _ (sn eI (by first | rfl | assumption | omega | (simp only [lnS] <;> omega))) ?_
    | refine EqL.mk _ (ap0 eI) ?_
    | refine EqL.mk _ (ap eI (by first | rfl | assumption | omega | (simp only [lnS] <;> omega))) ?_
    | refine EqL.mk _ (tk eI (by first | rfl | assumption | omega | (simp only [lnS] <;> omega))) ?_
    | refine EqL.mk _ (dt eI) ?_
    | refine EqL.mk [] rfl ?_
    | refine EqL.mk [_] rfl ?_
    | refine EqL.mk _ rfl ?_
    | refine ArgF.is (c_impl_Airway_other ⟨_, _, _, _, _, _, _⟩ _) ?_
    | refine ArgQ.is (fun hG => c_impl_Airway_other ⟨_, _, _, _, _, _, _⟩ _) rfl rfl ?_
    | refine ArgF.is (c_slices_Contains_int64_int64 ..) ?_
    | refine ArgQ.is (fun hG => c_slices_Contains_int64_int64 ..) rfl rfl ?_
    | refine CallF.mk (CallW.is [] true rfl ?_)
    | refine CallG.mk ?_
    | (refine CondF.mk (fun hb => ?_) (fun hb => ?_) <;> try simp only [forall_const, eq_self, not_true_eq_false, not_false_eq_true, or_false, false_or, or_self, or_true, true_or, and_true, true_and, and_false, false_and, decide_true, decide_false, Bool.not_true, Bool.not_false, decide_eq_true_eq, decide_eq_false_iff_not, ite_and_p, ite_or_p, Bool.decide_eq_true, Bool.and_eq_true, Bool.or_eq_true, Bool.not_eq_true', Bool.not_eq_false', Bool.and_eq_false_imp, Bool.or_eq_false_iff, bne_iff_ne, beq_iff_eq, bne_eq_false_iff_eq, beq_eq_false_iff_ne, gt_iff_lt, ge_iff_le, Int.not_lt, Int.not_le, ne_eq, Bool.true_eq_false, Bool.false_eq_true, reduceCtorEq, eta_Airway, eta_Fan, eta_Mine] at hb)
    | apply BackF.auto3
    | refine BackB.mk ?_ ?_
    | refine RetF.auto (And.intro rfl ?_)
    | exact Is.mk rfl rfl
    | refine Is.mk ?_ rfl
    | refine Is.mk rfl ?_
    | refine Is.mk ?_ ?_
  all_goals try dsimp only
  all_goals first
    | omega
    | exact ⟨by omega, by omega, rfl, rcI_0 hf⟩
    | exact ⟨by omega, by omega, by omega, k2, k3, qj_0⟩
    | (have hx := oth_st j0 (by omega) hl hb.1
       refine ⟨by omega, by omega, by omega, by simp [j3], rcI_add hm j4 (by omega) hx hb.2, ?_⟩
       rw [getD_app (by omega)]
       exact qj_add j5 j0 rfl)
    | exact ⟨by omega, by omega, j2, j3, j4, qj_keep j5 j0 hb⟩
    | (have b := rcI_len hm j4
       refine ⟨by omega, by omega, j3, ?_⟩
       rw [show (k + 1).toNat = k.toNat + 1 by omega]
       exact rcI_s j4 (qj_end j5 hb))
    | (have b := rcI_len hm k3
       exact ⟨k2, by omega, fun u => rcI_end k3 (by omega) u⟩)
    | (have b := rcI_len hm k3; omega)
    | (have b := rcI_len hm j4; omega)
    | skip
structure trI (m : GMine) (T : List Int) (i : Int) : Prop where
  rg : ∀ x ∈ T, 0 ≤ x ∧ x < i
  so : T.Pairwise (· < ·)
  cn : ∀ x : Int, 0 ≤ x → x < i → x ∉ T → cnA m T (m.airways.getD x.toNat default).from_ (m.airways.getD x.toNat default).to
theorem trI_0 {m : GMine} : trI m [] 0 := ⟨by simp, by simp, fun x h0 h1 => by omega⟩
theorem trI_add {m : GMine} {T : List Int} {i : Int} (h : trI m T i) (h0 : 0 ≤ i) : trI m (T ++ [i]) (i + 1) where
  rg := fun x hx => by
    rcases List.mem_append.1 hx with hx | hx
    · have := h.rg x hx; omega
    · rw [List.mem_singleton.1 hx]; omega
  so := by
    rw [List.pairwise_append]
    exact ⟨h.so, by simp, fun a ha b hb => by rw [List.mem_singleton.1 hb]; exact (h.rg a ha).2⟩
  cn := fun x h1 h2 hx => by
    rw [List.mem_append, not_or] at hx
    have e : x ≠ i := fun e => hx.2 (by rw [e]; simp)
    obtain ⟨n, hn⟩ := h.cn x h1 (by omega) hx.1
    exact ⟨n, wkA_mono (fun y hy => List.mem_append_left _ hy) n _ _ hn⟩
theorem trI_keep {m : GMine} {T : List Int} {i : Int} (h : trI m T i) (h0 : 0 ≤ i) (hc : cnA m T (m.airways.getD i.toNat default).from_ (m.airways.getD i.toNat default).to) : trI m T (i + 1) where
  rg := fun x hx => by have := h.rg x hx; omega
  so := h.so
  cn := fun x h1 h2 hx => by
    by_cases e : x = i
    · rw [e]; exact hc
    · exact h.cn x h1 (by omega) hx
theorem trI_len {m : GMine} {T : List Int} {i : Int} (h : trI m T i) (h0 : 0 ≤ i) : (T.length : Int) ≤ i := by
  have := pigW i.toNat T (h.so.imp fun e => by omega) (fun x hx => by have := h.rg x hx; omega)
  omega
theorem c_impl_Mine_tree (m : GMine) (hm : okMine m = true) : FnSem Tryz.prog 34 [.p .any (.agg m.cells)] [] (RetV (fun v : Nat × List Int => [.osl 0 0 v.1]) (fun v => [.row false .flat (eI 0) (v.2.map eI)]) (fun v => v.1 = v.2.length ∧ trI m v.2 m.airways.length)) := by
  have hmp := okMine_p hm
  refine FnSem.old ?_
  refine FnSem.walk (zs := zeroPV Tryz.prog) (by kernel_rfl) Tryz.func34 rfl Tryz.results34 (by kernel_rfl) (by kernel_rfl) (by kernel_rfl) fun hw hh => ?_
  obtain ⟨w0, _⟩ := hw
  first | replace w0 := wf_Mine w0 | skip
  have hwl := w0.2.1
  repeat' first
    | refine And.intro rfl ?_
    | refine GdF.mk (fun h => h) ?_
    | refine And.intro (Nat.succ_ne_zero _) ?_
    | refine And.intro (Nat.le_of_ble_eq_true rfl) ?_
    | refine SeqF.run ?_
    | refine GhF.at 2 rfl [.old 2] ?_
    | refine OpH.heap ?_
    | refine GhF.held 5 rfl [(4, [1]), (7, [])] ?_
    | refine BndF.mk (fun _ => by have := trI_len i3 i0; omega) ?_
    | (refine ArgF.ret (c_impl_Mine_reached m (m.airways.getD i.toNat default).from_ T hm ((hmp.2.2 i.toNat (by omega)).2.1) (fun x hx => by have := i3.rg x hx; omega) (by have := trI_len i3 i0; omega)) ?_; rintro ⟨k, ys⟩ ⟨q1, q2, q3⟩; dsimp only at q1 q2 q3)
    | refine LoopF.at 3 rfl (LoopF.fix [1, 7, 8] (Int × Nat × List Int) (fun (i, n, T) => 0 ≤ i ∧ i ≤ m.airways.length ∧ n = T.length ∧ trI m T i) (fun (i, n, T) => [(9, In i), (3, .osl 1 0 n)]) (fun (i, n, T) => [(1, .row false .flat (eI 0) (T.map eI))]) (fun (i, n, T) => ((m.airways.length - i).toNat)) ((0, 0, [])) ?_)
    | (refine LoopB.of (T := Int × Nat × List Int) ?_ ?_; rotate_left; rintro ⟨i, n, T⟩ ⟨i0, i1, i2, i3⟩; rotate_left)
    | refine EqL.mk _ (tkT (take_all i2)) ?_
    | refine EqL.mk _ (snT (take_all i2)) ?_
    | refine EqL.mk _ (tkT (take_all q1)) ?_
    | refine RetV.mk (α := Nat × List Int) (_, _) rfl rfl ?_
    | refine HdF.at 8 rfl 0 [4, 7, 8] (And.intro (by decide +kernel) (And.intro rfl ?_))
    | refine HdF.at 7 rfl 1 [] (And.intro (by decide +kernel) (And.intro rfl ?_))
    | refine HdF.at 6 rfl 2 [4, 7, 8] (And.intro (by decide +kernel) (And.intro rfl ?_))
    | refine HdF.at 5 rfl 3 [] (And.intro (by decide +kernel) (And.intro rfl ?_))
    | refine HdF.at 4 rfl 5 [] (And.intro (by decide +kernel) (And.intro rfl ?_))
    | refine HdF.at 3 rfl 6 [7, 8] (And.intro (by decide +kernel) (And.intro rfl ?_))
    | refine HdF.goAt 2 rfl ?_
    | refine OrdL.ord ?_
    | refine OrdF.take 8 (by decide +kernel) (And.intro rfl ?_)
    | refine OrdF.all [7] (by decide +kernel) ?_
    | refine OrdF.all [4] (by decide +kernel) ?_
    | refine OrdF.fin (by decide +kernel) ?_
    | refine AllF.one _ ?_
    | refine AllF.cons _ _ ?_ ?_
    | refine OpH.quiet rfl ?_
    | refine OpH.heap ?_
    | refine GhF.go ?_
    | refine DrawG.old (DrawF.lex (by decide +kernel) ?_)
    | refine MkF.row ?_
    | refine EqP.mk _ (gm GAirway.cells default rfl) ?_
    | refine EqP.mk _ (gm eI 0 rfl) ?_
    | refine BndF.mk (fun _ => by omega) ?_
    | refine BndF.mk (fun _ => by simp only [lnS]; omega) ?_
    | refine EqI.mk _ (fun _ => wrapI (by omega) (by omega)) ?_
    | refine EqI.mk _ (fun _ => rfl) ?_
    | refine FlF.keep ?_
    | refine EqN.mk _ (ln GAirway.cells) ?_
    | refine EqN.mk _ (ln eI) ?_
    | refine EqN.mk _ (Nat.zero_add _) ?_
    | refine EqN.mk (_ + 1) rfl ?_
    | refine EqN.mk _ (Int.toNat_natCast _) ?_
    | refine EqN.mk _ rfl ?_
    | refine EqL.mk _ (sn0 GAirway.cells) ?_
    | refine EqL.mk _ (sn GAirway.cells (by first | rfl | assumption | omega | (simp only [lnS] <;> omega))) ?_
    | refine EqL.mk _ (ap0 GAirway.cells) ?_
    | refine EqL.mk _ (ap GAirway.cells (by first | rfl | assumption | omega | (simp only [lnS] <;> omega))) ?_
    | refine EqL.mk _ (tk GAirway.cells (by first | rfl | assumption | omega | (simp only [lnS] <;> omega))) ?_
    | refine EqL.mk _ (st GAirway.cells) ?_
    | refine EqL.mk _ (dt GAirway.cells) ?_
    | refine EqL.mk _ (sn0 eI) ?_
    | refine EqL.mk _ (sn eI (by first | rfl | assumption | omega | (simp only [lnS] <;> omega))) ?_
    | refine EqL.mk _ (ap0 eI) ?_
    | refine EqL.mk _ (ap eI (by first | rfl | assumption | omega | (simp only [lnS] <;> omega))) ?_
    | refine EqL.mk _ (tk eI (by first | rfl | assumption | omega | (simp only [lnS] <;> omega))) ?_
    | refine EqL.mk _ (st eI) ?_
    | refine EqL.mk _ (dt eI) ?_
    | refine EqL.mk [] rfl ?_
    | refine EqL.mk [_] rfl ?_
    | refine EqL.mk _ rfl ?_
    | refine ArgF.is (c_impl_Mine_reached ⟨_, _⟩ _ _ (by first | assumption | omega) (by first | assumption | omega) (by first | assumption | omega) (by first | assumption | omega)) ?_
    | refine ArgQ.is (fun hG => c_impl_Mine_reached ⟨_, _⟩ _ _ (by first | assumption | omega) (by first | assumption | omega) (by first | assumption | omega) (by first | assumption | omega)) rfl rfl ?_
    | refine ArgF.is (c_slices_Contains_int64_int64 ..) ?_
    | refine ArgQ.is (fun hG => c_slices_Contains_int64_int64 ..) rfl rfl ?_
    | refine CallF.mk (CallW.is [] true rfl ?_)
    | refine CallG.mk ?_
    | (refine CondF.mk (fun hb => ?_) (fun hb => ?_) <;> try simp only [forall_const, eq_self, not_true_eq_false, not_false_eq_true, or_false, false_or, or_self, or_true, true_or, and_true, true_and, and_false, false_and, decide_true, decide_false, Bool.not_true, Bool.not_false, decide_eq_true_eq, decide_eq_false_iff_not, ite_and_p, ite_or_p, Bool.decide_eq_true, Bool.and_eq_true, Bool.or_eq_true, Bool.not_eq_true', Bool.not_eq_false', Bool.and_eq_false_imp, Bool.or_eq_false_iff, bne_iff_ne, beq_iff_eq, bne_eq_false_iff_eq, beq_eq_false_iff_ne, gt_iff_lt, ge_iff_le, Int.not_lt, Int.not_le, ne_eq, Bool.true_eq_false, Bool.false_eq_true, reduceCtorEq, eta_Airway, eta_Fan, eta_Mine] at hb)
    | apply BackF.auto3
    | refine BackB.mk ?_ ?_
    | refine RetF.auto (And.intro rfl ?_)
    | exact Is.mk rfl rfl
    | refine Is.mk ?_ rfl
    | refine Is.mk rfl ?_
    | refine Is.mk ?_ ?_
  all_goals try dsimp only
  all_goals first
    | omega
    | exact ⟨by omega, by omega, rfl, trI_0⟩
    | exact ⟨by omega, by omega, by simp [i2], trI_add i3 i0⟩
    | exact ⟨by omega, by omega, i2, trI_keep i3 i0 ((q3 _).1 hb)⟩
    | exact ⟨i2, by rw [show (m.airways.length : Int) = i by omega]; exact i3⟩
    | skip
theorem all_i {ys : List Int} {L : Nat} (h : ys.length = L) (h2 : ∀ j : Nat, (j : Int) < L → ys.getD j 0 = j) : ys = iotaI 0 L :=
  iota_of h fun j hj => by rw [h2 j (by omega)]; omega
theorem c_impl_Mine_all (m : GMine) (hm : m.airways.length ≤ 1000) : FnSem Tryz.prog 38 [.p .any (.agg m.cells)] [] (Is [.osl 0 0 m.airways.length] [Rw .flat (eI 0) ((iotaI 0 m.airways.length).map eI)]) := by
  refine FnSem.walk (zs := zeroPV Tryz.prog) (by kernel_rfl) Tryz.func38 rfl Tryz.results38 (by kernel_rfl) (by kernel_rfl) (by kernel_rfl) fun hw hh => ?_
  obtain ⟨w0, _⟩ := hw
  first | replace w0 := wf_Mine w0 | skip
  have hwl := w0.2.1
  repeat' first
    | refine And.intro rfl ?_
    | refine GdF.mk (fun h => h) ?_
    | refine And.intro (Nat.succ_ne_zero _) ?_
    | refine And.intro (Nat.le_of_ble_eq_true rfl) ?_
    | refine SeqF.run ?_
    | refine EqL.mk _ (stI (by kernel_rfl)) ?_
    | refine LoopF.at 3 rfl (LoopF.fix [3, 10] (Int × List Int) (fun (i, ys) => 0 ≤ i ∧ i ≤ m.airways.length ∧ ys.length = m.airways.length ∧ ∀ j : Nat, (j : Int) < i → ys.getD j 0 = j) (fun (i, ys) => [(11, In i)]) (fun (i, ys) => [(0, Rw .flat (eI 0) (ys.map eI))]) (fun (i, ys) => ((m.airways.length - i).toNat)) ((0, List.replicate m.airways.length 0)) ?_)
    | (refine LoopB.of (T := Int × List Int) ?_ ?_; rotate_left; rintro ⟨i, ys⟩ ⟨i0, i1, i2, i3⟩; rotate_left)
    | refine GhF.go ?_
    | refine MkF.row ?_
    | refine EqP.mk _ (gm GAirway.cells default rfl) ?_
    | refine EqP.mk _ (gm eI 0 rfl) ?_
    | refine BndF.mk (fun _ => by omega) ?_
    | refine BndF.mk (fun _ => by simp only [lnS]; omega) ?_
    | refine EqI.mk _ (fun _ => wrapI (by omega) (by omega)) ?_
    | refine EqI.mk _ (fun _ => rfl) ?_
    | refine EqN.mk _ (ln GAirway.cells) ?_
    | refine EqN.mk _ (ln eI) ?_
    | refine EqN.mk _ (Nat.zero_add _) ?_
    | refine EqN.mk _ (Int.toNat_natCast _) ?_
    | refine EqN.mk _ rfl ?_
    | refine EqL.mk _ (st GAirway.cells) ?_
    | refine EqL.mk _ (rp GAirway.cells default) ?_
    | refine EqL.mk _ (dt GAirway.cells) ?_
    | refine EqL.mk _ (st eI) ?_
    | refine EqL.mk _ (rp eI 0) ?_
    | refine EqL.mk _ (dt eI) ?_
    | refine EqL.mk [] rfl ?_
    | refine EqL.mk [_] rfl ?_
    | refine EqL.mk _ rfl ?_
    | (refine CondF.mk (fun hb => ?_) (fun hb => ?_) <;> try simp only [forall_const, eq_self, not_true_eq_false, not_false_eq_true, or_false, false_or, or_self, or_true, true_or, and_true, true_and, and_false, false_and, decide_true, decide_false, Bool.not_true, Bool.not_false, decide_eq_true_eq, decide_eq_false_iff_not, ite_and_p, ite_or_p, Bool.decide_eq_true, Bool.and_eq_true, Bool.or_eq_true, Bool.not_eq_true', Bool.not_eq_false', Bool.and_eq_false_imp, Bool.or_eq_false_iff, bne_iff_ne, beq_iff_eq, bne_eq_false_iff_eq, beq_eq_false_iff_ne, gt_iff_lt, ge_iff_le, Int.not_lt, Int.not_le, ne_eq, Bool.true_eq_false, Bool.false_eq_true, reduceCtorEq, eta_Airway, eta_Fan, eta_Mine] at hb)
    | apply BackF.auto2
    | refine BackB.mk ?_ ?_
    | refine RetF.auto (And.intro rfl ?_)
    | exact Is.mk rfl rfl
    | refine Is.mk ?_ rfl
    | refine Is.mk rfl ?_
    | refine Is.mk ?_ ?_
  all_goals try dsimp only
  all_goals try simp only [Bo, I, OB.row.injEq, AV.osl.injEq, eI_same,  List.cons.injEq, AV.p.injEq, PV.c.injEq, Value.int.injEq, Value.bool.injEq, and_true, true_and, ite_and_p, ite_or_p, Bool.decide_eq_true, eta_Airway, eta_Fan, eta_Mine]
  all_goals first
    | omega
    | exact ⟨by omega, by omega, by simp, all_0⟩
    | (refine ⟨by omega, by omega, by simp [i2], fun j hj => ?_⟩
       rw [getD_set]
       split
       · omega
       · exact i3 j (by omega))
    | rw [all_i i2 fun j hj => i3 j (by omega)]
    | skip
end Go.Proofs.YtdhkpmaanegjkaaGreatDoor
