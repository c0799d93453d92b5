/- Contracts of functions of the program, and what they compute. Conditions: those that each theorem states. -/
import Derived.Test.YtdhkpmaanegjkaaProg
import Derived.Test.YtdhkpmaanegjkaaV2
import Derived.Maps.Keyed
set_option linter.unusedVariables false
set_option linter.unusedSimpArgs false
namespace Go.Proofs.Ytdhkpmaanegjkaa
open Go.Av
attribute [local irreducible] Go.IntKind.wrap leastI rdZ rd rootI rawA okMine updM
set_option maxRecDepth 20000
set_option maxHeartbeats 8000000

/-! The shortest walk along some airways. -/
theorem i64Law : Go.Maps.Keyed Try.prog 2 := Go.Maps.int_keyed (q := .i64) (by kernel_rfl)
theorem i64Key (n : Int) (h : -9223372036854775808 ≤ n ∧ n ≤ 9223372036854775807) : isKey Try.prog 2 (.int .i64 n) :=
  ⟨_, Go.Maps.keyOf_int_mk (q := .i64) (by kernel_rfl) (by
    have e1 : IntKind.i64.wrap n = n := wrapI (by omega) (by omega)
    have cm : IntKind.i64.min = -9223372036854775808 := by rfl
    have cx : IntKind.i64.max = 9223372036854775807 := by rfl
    simp [Lit.wf, e1, cm, cx]; omega)⟩
abbrev i64Is : Value → Prop := isKey Try.prog 2
def mpF (F : Int → Option Int) : Value → Option Int
  | .int .i64 n => F n
  | _ => none
theorem mpF_at {F : Int → Option Int} {n : Int} : mpF F (.int .i64 n) = F n := rfl
theorem mpF_upd {F : Int → Option Int} {x d : Int} : updM (mpF F) (.int .i64 x) d = mpF (updF F x d) := by
  funext v
  by_cases h : v = .int .i64 x
  · subst h
    rw [updM_eq, mpF_at]
    unfold updF
    rw [if_pos rfl]
  · rw [updM_ne _ _ h]
    unfold mpF
    split
    · unfold updF
      rw [if_neg]
      rintro rfl; exact h rfl
    · rfl
theorem mpF_0 {to : Int} : updM (fun _ => none) (.int .i64 to) 0 = mpF (F0 to) := by
  have := mpF_upd (F := fun _ => none) (x := to) (d := 0)
  rw [show mpF (fun _ => none) = fun _ => none by funext v; unfold mpF; split <;> rfl] at this
  rw [this]; rfl
/-- a walk of airways, as numbers -/
structure wayI (m : GMine) (ls : List Int) (from_ at_ : Int) (es : List Nat) (ws : List Int) : Prop where
  ok : okW m [] from_ es
  en : enW m from_ es = at_
  sp : ws = spW m from_ es
  mem : ∀ i ∈ es, (i : Int) ∈ ls
theorem oth_ok {m : GMine} {i : Nat} {a v : Int} (h : otherA (m.airways.getD i default) a = (v, true)) : okL m [] a i = true ∧ nxL m a i = v := by
  unfold otherA at h
  unfold okL nxL awI
  split at h
  · rename_i e
    rw [decide_eq_true e.symm, if_pos e.symm]
    exact ⟨by simp, congrArg Prod.fst h⟩
  · split at h
    · rename_i e1 e2
      rw [decide_eq_true e2.symm, if_neg (fun e => e1 e.symm)]
      exact ⟨by simp, congrArg Prod.fst h⟩
    · simp at h
theorem wayI_0 {m : GMine} {ls : List Int} {f : Int} : wayI m ls f f [] [] := ⟨trivial, rfl, rfl, by simp⟩
theorem spW_app' {m : GMine} : ∀ (a : Int) (xs ys : List Nat), spW m a (xs ++ ys) = spW m a xs ++ spW m (enW m a xs) ys
  | a, [], ys => rfl
  | a, i :: xs, ys => by simp only [List.cons_append, spW, enW, spW_app' _ xs ys]
theorem wayI_s {m : GMine} {ls : List Int} {f a v : Int} {es : List Nat} {ws : List Int} (h : wayI m ls f a es ws) {i : Nat} (hi : i < m.airways.length) (hl : (i : Int) ∈ ls) (ho : otherA (m.airways.getD i default) a = (v, true)) : wayI m ls f v (es ++ [i]) (ws ++ [spL m a i]) := by
  have q := oth_ok ho
  refine ⟨?_, ?_, ?_, fun j hj => ?_⟩
  · rw [okW_app, h.en]; exact ⟨h.ok, hi, q.1, trivial⟩
  · rw [enW_app, h.en]; exact q.2
  · rw [spW_app', h.en, h.sp]; rfl
  · rcases List.mem_append.1 hj with hj | hj
    · exact h.mem j hj
    · rw [List.mem_singleton.1 hj]; exact hl
section
variable {m : GMine} {ls A zs : List Int} {F : Int → Option Int} {to x j f : Int} {k lo n : Nat}
/-- the first j airways lead from x only to what is known -/
def qkI (m : GMine) (ls : List Int) (F : Int → Option Int) (x j : Int) : Prop := ∀ i : Nat, (i : Int) < j → ∀ u, otherA (m.airways.getD (ls.getD i 0).toNat default) x = (u, true) → (F u).isSome = true
theorem qk_0 : qkI m ls F x 0 := fun i hi => absurd hi (by omega)
theorem qk_add (h : qkI m ls F x j) (h0 : 0 ≤ j) {v d : Int} (hv : v = (otherA (m.airways.getD (ls.getD j.toNat 0).toNat default) x).1) : qkI m ls (updF F v d) x (j + 1) := by
  intro i hi u hu
  unfold updF
  by_cases e : u = v
  · rw [if_pos e]; rfl
  · rw [if_neg e]
    by_cases e2 : (i : Int) = j
    · rw [show j.toNat = i by omega, hu] at hv
      exact absurd hv.symm e
    · exact h i (by omega) u hu
theorem qk_keep (h : qkI m ls F x j) (h0 : 0 ≤ j) (hk : (otherA (m.airways.getD (ls.getD j.toNat 0).toNat default) x).2 = true → (F (otherA (m.airways.getD (ls.getD j.toNat 0).toNat default) x).1).isSome = true) : qkI m ls F x (j + 1) := by
  intro i hi u hu
  by_cases e : (i : Int) = j
  · rw [show j.toNat = i by omega, hu] at hk
    exact hk rfl
  · exact h i (by omega) u hu
theorem qk_end (h : qkI m ls F x j) (hj : ls.length ≤ j) (hd : ∀ v, (F v).isSome = true ↔ v ∈ A) : ∀ u, stA m ls x u → u ∈ A := by
  rintro u ⟨i, h1, h2, h3⟩
  obtain ⟨p, hp, rfl⟩ := List.getElem_of_mem h1
  refine (hd u).1 (h p (by omega) u ?_)
  rw [show ls.getD p 0 = ls[p] by rw [List.getD_eq_getElem?_getD, List.getElem?_eq_getElem hp]; rfl]
  exact h3
theorem bf_b (hm : okMine m = true) (h : bfI m ls to A k F) (hx : x ∈ A) : (0 ≤ (F x).getD 0 ∧ (F x).getD 0 ≤ 16) ∧ 0 ≤ x ∧ x < 16 := by
  have a := h.nn x hx
  have b := bfI_len hm h
  have c := (okMine_p hm).1
  have d := h.rg x hx
  unfold inV at d
  unfold fv at a
  omega
theorem oth_r (hm : okMine m = true) {i : Int} (hi : 0 ≤ i ∧ i < m.airways.length) : 0 ≤ (otherA (m.airways.getD i.toNat default) x).1 ∧ (otherA (m.airways.getD i.toNat default) x).1 < 16 := by
  have c := (okMine_p hm).1
  have q := (okMine_p hm).2.2 i.toNat (by omega)
  unfold otherA
  split
  · dsimp only; omega
  · split
    · dsimp only; omega
    · dsimp only; omega
theorem snD {v : Int} {s : List Int} (h : (zs.drop lo).take n = s) : ((zs.map eI).drop lo).take n ++ [eI v] = (s ++ [v]).map eI := by rw [← h]; simp
theorem hdD (h : (zs.drop lo).take n = A.drop k) (hn : 0 < n) (hk : k < A.length) : zs.getD lo 0 = A.getD k 0 := by
  have := congrArg (fun l => l.getD 0 0) h
  simp only [List.getD_eq_getElem?_getD, List.getElem?_take, List.getElem?_drop, Nat.add_zero, if_pos hn] at this
  rw [List.getD_eq_getElem?_getD, List.getD_eq_getElem?_getD]; exact this
theorem popD (h : (zs.drop lo).take n = A.drop k) : (zs.drop (lo + 1)).take (n - 1) = A.drop (k + 1) := by
  have := congrArg (List.drop 1) h
  rw [List.drop_take, List.drop_drop, List.drop_drop] at this
  exact this
theorem addD {v : Int} (h : (n : Int) = A.length - k) (hk : k ≤ A.length) : ((A.drop k ++ [v]).drop 0).take (n + 1) = (A ++ [v]).drop k := by
  rw [List.drop_zero, List.take_of_length_le (by simp; omega), List.drop_append_of_le_length hk]
end
section
variable {m : GMine} {ls : List Int} {F : Int → Option Int} {to a q : Int}
theorem no_way (hm : okMine m = true) (hl : ∀ i ∈ ls, 0 ≤ i ∧ i < m.airways.length) (q2 : ¬a = to) (q3 : ∀ i : Nat, (i : Int) < q → (otherA (m.airways.getD (ls.getD i 0).toNat default) a).2 = true → ¬(F (otherA (m.airways.getD (ls.getD i 0).toNat default) a).1).getD 0 = (F a).getD 0 - 1) (hb : ls.length ≤ q) (l3 : (F a).isSome = true) (hf : farI m ls to F) : False := by
  have e := some_fv l3
  rcases hf.p2 a _ e with h | ⟨u, ⟨i, h1, h2, h3⟩, h4⟩
  · exact q2 h.1
  · obtain ⟨p, hp, rfl⟩ := List.getElem_of_mem h1
    have hg : ls.getD p 0 = ls[p] := by rw [List.getD_eq_getElem?_getD, List.getElem?_eq_getElem hp]; rfl
    have := q3 p (by omega)
    rw [hg, h3] at this
    refine this rfl ?_
    rw [h4]; rfl
end
section
variable {m : GMine} {ls A zs ws : List Int} {F : Int → Option Int} {to a q j k f : Int} {n lo : Nat} {es : List Nat}
theorem no_some {v : Int} (h : (F v).isSome = false) : F v = none := by
  cases e : F v with
  | none => rfl
  | some d => rw [e] at h; cases h
theorem pth_add (hm : okMine m = true) (hl : ∀ i ∈ ls, 0 ≤ i ∧ i < m.airways.length) (j0 : 0 ≤ j) (hj : j < ls.length) (j2 : k.toNat < A.length) (j3 : (n : Int) = A.length - k) (j4 : (zs.drop lo).take n = A.drop k.toNat) (j5 : lo + n ≤ zs.length) (j6 : bfI m ls to A k.toNat F) (j7 : qkI m ls F (A.getD k.toNat 0) j)
    (hb : (otherA (m.airways.getD (ls.getD j.toNat 0).toNat default) (zs.getD lo 0)).2 = true ∧ (F (otherA (m.airways.getD (ls.getD j.toNat 0).toNat default) (zs.getD lo 0)).1).isSome = false) (k0 : 0 ≤ k) :
    0 ≤ j + 1 ∧ j + 1 ≤ ls.length ∧ k.toNat < (A ++ [(otherA (m.airways.getD (ls.getD j.toNat 0).toNat default) (zs.getD lo 0)).1]).length ∧ ((n + 1 : Nat) : Int) = (A ++ [(otherA (m.airways.getD (ls.getD j.toNat 0).toNat default) (zs.getD lo 0)).1]).length - k ∧
      ((A.drop k.toNat ++ [(otherA (m.airways.getD (ls.getD j.toNat 0).toNat default) (zs.getD lo 0)).1]).drop 0).take (n + 1) = (A ++ [(otherA (m.airways.getD (ls.getD j.toNat 0).toNat default) (zs.getD lo 0)).1]).drop k.toNat ∧
      0 + (n + 1) ≤ (A.drop k.toNat ++ [(otherA (m.airways.getD (ls.getD j.toNat 0).toNat default) (zs.getD lo 0)).1]).length ∧
      bfI m ls to (A ++ [(otherA (m.airways.getD (ls.getD j.toNat 0).toNat default) (zs.getD lo 0)).1]) k.toNat (updF F (otherA (m.airways.getD (ls.getD j.toNat 0).toNat default) (zs.getD lo 0)).1 ((F (zs.getD lo 0)).getD 0 + 1)) ∧
      qkI m ls (updF F (otherA (m.airways.getD (ls.getD j.toNat 0).toNat default) (zs.getD lo 0)).1 ((F (zs.getD lo 0)).getD 0 + 1)) ((A ++ [(otherA (m.airways.getD (ls.getD j.toNat 0).toNat default) (zs.getD lo 0)).1]).getD k.toNat 0) (j + 1) := by
  rw [hdD j4 (by omega) j2] at hb ⊢
  have hx := oth_st j0 hj hl hb.1
  refine ⟨by omega, by omega, by simp; omega, by simp; omega, addD (by omega) (by omega), by simp; omega, bfI_add hm j6 j2 hx hb.2, ?_⟩
  rw [getD_app j2]
  exact qk_add j7 j0 rfl
theorem pth_w {A : List Int} (hm : okMine m = true) (j2 : k.toNat < A.length) (j3 : (n : Int) = A.length - k) (j4 : (zs.drop lo).take n = A.drop k.toNat) (j6 : bfI m ls to A k.toNat F) (k0 : 0 ≤ k) : IntKind.i64.wrap ((F (zs.getD (lo + Int.toNat 0) 0)).getD 0 + 1) = (F (zs.getD lo 0)).getD 0 + 1 := by
  have b := bf_b (x := A.getD k.toNat 0) hm j6 (getD_mem j2)
  rw [← hdD j4 (by omega) j2] at b
  show IntKind.i64.wrap ((F (zs.getD lo 0)).getD 0 + 1) = _
  exact wrapI (by omega) (by omega)
theorem way_nx (hm : okMine m = true) (hl : ∀ i ∈ ls, 0 ≤ i ∧ i < m.airways.length) (q0 : 0 ≤ q) (hq : q < ls.length) (l3 : (F a).isSome = true) (hfar : farI m ls to F) (h : (otherA (m.airways.getD (ls.getD q.toNat 0).toNat default) a).2 = true) : (F (otherA (m.airways.getD (ls.getD q.toNat 0).toNat default) a).1).isSome = true ∧ 0 ≤ (F (otherA (m.airways.getD (ls.getD q.toNat 0).toNat default) a).1).getD 0 := by
  obtain ⟨e, h1, _⟩ := hfar.p3 a _ _ (some_fv l3) (oth_st q0 hq hl h)
  have := hfar.nn _ _ h1
  rw [h1]
  exact ⟨rfl, this.1⟩
theorem way_add (hm : okMine m = true) (hl : ∀ i ∈ ls, 0 ≤ i ∧ i < m.airways.length) (q0 : 0 ≤ q) (hq : q < ls.length) (l1 : n = ws.length ∧ n = es.length) (l2 : wayI m ls f a es ws) (l3 : (F a).isSome = true) (l4 : (es.length : Int) + (F a).getD 0 = (F f).getD 0) (hfar : farI m ls to F) (l6 : (F f).isSome = true)
    (hb : (otherA (m.airways.getD (ls.getD q.toNat 0).toNat default) a).2 = true ∧ (F (otherA (m.airways.getD (ls.getD q.toNat 0).toNat default) a).1).getD 0 = (F a).getD 0 - 1) :
    (inV m (otherA (m.airways.getD (ls.getD q.toNat 0).toNat default) a).1 ∧ (otherA (m.airways.getD (ls.getD q.toNat 0).toNat default) a).1 < 16 ∧ 0 ≤ (otherA (m.airways.getD (ls.getD q.toNat 0).toNat default) a).1) ∧ (n + 1 = (ws ++ [spL m a (ls.getD q.toNat 0).toNat]).length ∧ n + 1 = (es ++ [(ls.getD q.toNat 0).toNat]).length) ∧
      wayI m ls f (otherA (m.airways.getD (ls.getD q.toNat 0).toNat default) a).1 (es ++ [(ls.getD q.toNat 0).toNat]) (ws ++ [spL m a (ls.getD q.toNat 0).toNat]) ∧ (F (otherA (m.airways.getD (ls.getD q.toNat 0).toNat default) a).1).isSome = true ∧ ((es ++ [(ls.getD q.toNat 0).toNat]).length : Int) + (F (otherA (m.airways.getD (ls.getD q.toNat 0).toNat default) a).1).getD 0 = (F f).getD 0 ∧ farI m ls to F ∧ (F f).isSome = true := by
  have hst := oth_st q0 hq hl hb.1
  have hr := oth_r (x := a) hm (lsB hl q0 hq)
  have hb2 := lsB hl q0 hq
  have hn := way_nx hm hl q0 hq l3 hfar hb.1
  refine ⟨⟨(stA_V hm hst).2, hr.2, hr.1⟩, ⟨by simp; omega, by simp; omega⟩, wayI_s l2 (by omega) ?_ (by rw [← hb.1]), hn.1, ?_, hfar, l6⟩
  · rw [show (((ls.getD q.toNat 0).toNat : Nat) : Int) = ls.getD q.toNat 0 by omega]; exact getD_mem (by omega)
  · rw [hb.2, List.length_append, List.length_singleton]; omega
theorem way_less (hm : okMine m = true) (hl : ∀ i ∈ ls, 0 ≤ i ∧ i < m.airways.length) (q0 : 0 ≤ q) (hq : q < ls.length) (l3 : (F a).isSome = true) (hfar : farI m ls to F)
    (hb : (otherA (m.airways.getD (ls.getD q.toNat 0).toNat default) a).2 = true ∧ (F (otherA (m.airways.getD (ls.getD q.toNat 0).toNat default) a).1).getD 0 = (F a).getD 0 - 1) :
    ((F (otherA (m.airways.getD (ls.getD q.toNat 0).toNat default) a).1).getD 0).toNat < ((F a).getD 0).toNat := by
  have hn := way_nx hm hl q0 hq l3 hfar hb.1
  omega
theorem way_keep (q0 : 0 ≤ q) (q3 : ∀ i : Nat, (i : Int) < q → (otherA (m.airways.getD (ls.getD i 0).toNat default) a).2 = true → ¬(F (otherA (m.airways.getD (ls.getD i 0).toNat default) a).1).getD 0 = (F a).getD 0 - 1)
    (hb : (otherA (m.airways.getD (ls.getD q.toNat 0).toNat default) a).2 = true → ¬(F (otherA (m.airways.getD (ls.getD q.toNat 0).toNat default) a).1).getD 0 = (F a).getD 0 - 1) :
    ∀ i : Nat, (i : Int) < q + 1 → (otherA (m.airways.getD (ls.getD i 0).toNat default) a).2 = true → ¬(F (otherA (m.airways.getD (ls.getD i 0).toNat default) a).1).getD 0 = (F a).getD 0 - 1 := by
  intro i hi
  by_cases e : (i : Int) = q
  · have e2 : q.toNat = i := by omega
    rw [e2] at hb; exact hb
  · exact q3 i (by omega)
theorem way_end (hm : okMine m = true) (hb : a = to) (l1 : n = es.length) (l4 : (es.length : Int) + (F a).getD 0 = (F f).getD 0) (hfar : farI m ls to F) (l6 : (F f).isSome = true) : dsA m ls n f to := by
  rw [hb, hfar.p1] at l4
  simp only [Option.getD_some] at l4
  have := hfar.ds hm (some_fv l6)
  unfold fv at this
  rwa [← l4, show ((es.length : Int) + 0).toNat = n by omega] at this
end
/-- the walk that is found -/
inductive PthR (m : GMine) (ls : List Int) (f to : Int) (rs : List AV) (ho : List OB) : Prop
  | no (h1 : rs = [.osl 0 0 0, Bo false]) (h2 : ho = [.row false .flat (eI 0) []]) (h : ¬cnA m ls f to)
  | ok (n : Nat) (ws : List Int) (es : List Nat) (h1 : rs = [.osl 0 0 n, Bo true]) (h2 : ho = [.row false .flat (eI 0) (ws.map eI)]) (h3 : n = ws.length) (h4 : n = es.length) (h : wayI m ls f to es ws) (h5 : dsA m ls n f to) (h6 : n ≤ 16)
end Go.Proofs.Ytdhkpmaanegjkaa
