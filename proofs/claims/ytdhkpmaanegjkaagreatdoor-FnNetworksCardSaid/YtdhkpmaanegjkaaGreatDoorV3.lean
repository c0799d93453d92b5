/- Contracts of functions of the program, and what they compute. Conditions: those that each theorem states. -/
import Derived.Test.YtdhkpmaanegjkaaGreatDoorProg
import Derived.Test.YtdhkpmaanegjkaaGreatDoorV2
import Derived.Maps.Keyed
set_option linter.unusedVariables false
set_option linter.unusedSimpArgs false
namespace Go.Proofs.YtdhkpmaanegjkaaGreatDoor
open Go.Av
attribute [local irreducible] Go.IntKind.wrap okMine updM
set_option maxRecDepth 20000
set_option maxHeartbeats 8000000
theorem i64Law : Go.Maps.Keyed Tryz.prog 2 := Go.Maps.int_keyed (q := .i64) (by kernel_rfl)
theorem i64Key (n : Int) (h : -9223372036854775808 ≤ n ∧ n ≤ 9223372036854775807) : isKey Tryz.prog 2 (.int .i64 n) :=
  ⟨_, Go.Maps.keyOf_int_mk (q := .i64) (by kernel_rfl) (by
    have e1 : IntKind.i64.wrap n = n := wrapI (by omega) (by omega)
    have cm : IntKind.i64.min = -9223372036854775808 := by rfl
    have cx : IntKind.i64.max = 9223372036854775807 := by rfl
    simp [Lit.wf, e1, cm, cx]; omega)⟩
abbrev i64Is : Value → Prop := isKey Tryz.prog 2
def mpF (F : Int → Option Int) : Value → Option Int
  | .int .i64 n => F n
  | _ => none
theorem mpF_at {F : Int → Option Int} {n : Int} : mpF F (.int .i64 n) = F n := rfl
theorem mpF_upd {F : Int → Option Int} {x d : Int} : updM (mpF F) (.int .i64 x) d = mpF (updF F x d) := by
  funext v
  by_cases h : v = .int .i64 x
  · subst h
    rw [updM_eq, mpF_at]
    unfold updF
    rw [if_pos rfl]
  · rw [updM_ne _ _ h]
    unfold mpF
    split
    · unfold updF
      rw [if_neg]
      rintro rfl; exact h rfl
    · rfl
theorem mpF_0 {to : Int} : updM (fun _ => none) (.int .i64 to) 0 = mpF (F0 to) := by
  have := mpF_upd (F := fun _ => none) (x := to) (d := 0)
  rw [show mpF (fun _ => none) = fun _ => none by funext v; unfold mpF; split <;> rfl] at this
  rw [this]; rfl
structure wayI (m : GMine) (ls : List Int) (from_ at_ : Int) (es : List Nat) (ws : List Int) : Prop where
  ok : okW m [] from_ es
  en : enW m from_ es = at_
  sp : ws = spW m from_ es
  mem : ∀ i ∈ es, (i : Int) ∈ ls
theorem oth_ok {m : GMine} {i : Nat} {a v : Int} (h : otherA (m.airways.getD i default) a = (v, true)) : okL m [] a i = true ∧ nxL m a i = v := by
  unfold otherA at h
  unfold okL nxL awI
  split at h
  · rename_i e
    rw [decide_eq_true e.symm, if_pos e.symm]
    exact ⟨by simp, congrArg Prod.fst h⟩
  · split at h
    · rename_i e1 e2
      rw [decide_eq_true e2.symm, if_neg (fun e => e1 e.symm)]
      exact ⟨by simp, congrArg Prod.fst h⟩
    · simp at h
theorem wayI_0 {m : GMine} {ls : List Int} {f : Int} : wayI m ls f f [] [] := ⟨trivial, rfl, rfl, by simp⟩
theorem spW_app' {m : GMine} : ∀ (a : Int) (xs ys : List Nat), spW m a (xs ++ ys) = spW m a xs ++ spW m (enW m a xs) ys
  | a, [], ys => rfl
  | a, i :: xs, ys => by simp only [List.cons_append, spW, enW, spW_app' _ xs ys]
theorem wayI_s {m : GMine} {ls : List Int} {f a v : Int} {es : List Nat} {ws : List Int} (h : wayI m ls f a es ws) {i : Nat} (hi : i < m.airways.length) (hl : (i : Int) ∈ ls) (ho : otherA (m.airways.getD i default) a = (v, true)) : wayI m ls f v (es ++ [i]) (ws ++ [spL m a i]) := by
  have q := oth_ok ho
  refine ⟨?_, ?_, ?_, fun j hj => ?_⟩
  · rw [okW_app, h.en]; exact ⟨h.ok, hi, q.1, trivial⟩
  · rw [enW_app, h.en]; exact q.2
  · rw [spW_app', h.en, h.sp]; rfl
  · rcases List.mem_append.1 hj with hj | hj
    · exact h.mem j hj
    · rw [List.mem_singleton.1 hj]; exact hl
section
variable {m : GMine} {ls A zs : List Int} {F : Int → Option Int} {to x j f : Int} {k lo n : Nat}
def qkI (m : GMine) (ls : List Int) (F : Int → Option Int) (x j : Int) : Prop := ∀ i : Nat, (i : Int) < j → ∀ u, otherA (m.airways.getD (ls.getD i 0).toNat default) x = (u, true) → (F u).isSome = true
theorem qk_0 : qkI m ls F x 0 := fun i hi => absurd hi (by omega)
theorem qk_add (h : qkI m ls F x j) (h0 : 0 ≤ j) {v d : Int} (hv : v = (otherA (m.airways.getD (ls.getD j.toNat 0).toNat default) x).1) : qkI m ls (updF F v d) x (j + 1) := by
  intro i hi u hu
  unfold updF
  by_cases e : u = v
  · rw [if_pos e]; rfl
  · rw [if_neg e]
    by_cases e2 : (i : Int) = j
    · rw [show j.toNat = i by omega, hu] at hv
      exact absurd hv.symm e
    · exact h i (by omega) u hu
theorem qk_keep (h : qkI m ls F x j) (h0 : 0 ≤ j) (hk : (otherA (m.airways.getD (ls.getD j.toNat 0).toNat default) x).2 = true → (F (otherA (m.airways.getD (ls.getD j.toNat 0).toNat default) x).1).isSome = true) : qkI m ls F x (j + 1) := by
  intro i hi u hu
  by_cases e : (i : Int) = j
  · rw [show j.toNat = i by omega, hu] at hk
    exact hk rfl
  · exact h i (by omega) u hu
theorem qk_end (h : qkI m ls F x j) (hj : ls.length ≤ j) (hd : ∀ v, (F v).isSome = true ↔ v ∈ A) : ∀ u, stA m ls x u → u ∈ A := by
  rintro u ⟨i, h1, h2, h3⟩
  obtain ⟨p, hp, rfl⟩ := List.getElem_of_mem h1
  refine (hd u).1 (h p (by omega) u ?_)
  rw [show ls.getD p 0 = ls[p] by rw [List.getD_eq_getElem?_getD, List.getElem?_eq_getElem hp]; rfl]
  exact h3
theorem bf_b (hm : okMine m = true) (h : bfI m ls to A k F) (hx : x ∈ A) : (0 ≤ (F x).getD 0 ∧ (F x).getD 0 ≤ 16) ∧ 0 ≤ x ∧ x < 16 := by
  have a := h.nn x hx
  have b := bfI_len hm h
  have c := (okMine_p hm).1
  have d := h.rg x hx
  unfold inV at d
  unfold fv at a
  omega
theorem oth_r (hm : okMine m = true) {i : Int} (hi : 0 ≤ i ∧ i < m.airways.length) : 0 ≤ (otherA (m.airways.getD i.toNat default) x).1 ∧ (otherA (m.airways.getD i.toNat default) x).1 < 16 := by
  have c := (okMine_p hm).1
  have q := (okMine_p hm).2.2 i.toNat (by omega)
  unfold otherA
  split
  · dsimp only; omega
  · split
    · dsimp only; omega
    · dsimp only; omega
theorem snD {v : Int} {s : List Int} (h : (zs.drop lo).take n = s) : ((zs.map eI).drop lo).take n ++ [eI v] = (s ++ [v]).map eI := by rw [← h]; simp
theorem hdD (h : (zs.drop lo).take n = A.drop k) (hn : 0 < n) (hk : k < A.length) : zs.getD lo 0 = A.getD k 0 := by
  have := congrArg (fun l => l.getD 0 0) h
  simp only [List.getD_eq_getElem?_getD, List.getElem?_take, List.getElem?_drop, Nat.add_zero, if_pos hn] at this
  rw [List.getD_eq_getElem?_getD, List.getD_eq_getElem?_getD]; exact this
theorem popD (h : (zs.drop lo).take n = A.drop k) : (zs.drop (lo + 1)).take (n - 1) = A.drop (k + 1) := by
  have := congrArg (List.drop 1) h
  rw [List.drop_take, List.drop_drop, List.drop_drop] at this
  exact this
theorem addD {v : Int} (h : (n : Int) = A.length - k) (hk : k ≤ A.length) : ((A.drop k ++ [v]).drop 0).take (n + 1) = (A ++ [v]).drop k := by
  rw [List.drop_zero, List.take_of_length_le (by simp; omega), List.drop_append_of_le_length hk]
end
section
variable {m : GMine} {ls : List Int} {F : Int → Option Int} {to a q : Int}
theorem no_way (hm : okMine m = true) (hl : ∀ i ∈ ls, 0 ≤ i ∧ i < m.airways.length) (q2 : ¬a = to) (q3 : ∀ i : Nat, (i : Int) < q → (otherA (m.airways.getD (ls.getD i 0).toNat default) a).2 = true → ¬(F (otherA (m.airways.getD (ls.getD i 0).toNat default) a).1).getD 0 = (F a).getD 0 - 1) (hb : ls.length ≤ q) (l3 : (F a).isSome = true) (hf : farI m ls to F) : False := by
  have e := some_fv l3
  rcases hf.p2 a _ e with h | ⟨u, ⟨i, h1, h2, h3⟩, h4⟩
  · exact q2 h.1
  · obtain ⟨p, hp, rfl⟩ := List.getElem_of_mem h1
    have hg : ls.getD p 0 = ls[p] := by rw [List.getD_eq_getElem?_getD, List.getElem?_eq_getElem hp]; rfl
    have := q3 p (by omega)
    rw [hg, h3] at this
    refine this rfl ?_
    rw [h4]; rfl
end
section
variable {m : GMine} {ls A zs ws : List Int} {F : Int → Option Int} {to a q j k f : Int} {n lo : Nat} {es : List Nat}
theorem no_some {v : Int} (h : (F v).isSome = false) : F v = none := by
  cases e : F v with
  | none => rfl
  | some d => rw [e] at h; cases h
theorem pth_add (hm : okMine m = true) (hl : ∀ i ∈ ls, 0 ≤ i ∧ i < m.airways.length) (j0 : 0 ≤ j) (hj : j < ls.length) (j2 : k.toNat < A.length) (j3 : (n : Int) = A.length - k) (j4 : (zs.drop lo).take n = A.drop k.toNat) (j5 : lo + n ≤ zs.length) (j6 : bfI m ls to A k.toNat F) (j7 : qkI m ls F (A.getD k.toNat 0) j)
    (hb : (otherA (m.airways.getD (ls.getD j.toNat 0).toNat default) (zs.getD lo 0)).2 = true ∧ (F (otherA (m.airways.getD (ls.getD j.toNat 0).toNat default) (zs.getD lo 0)).1).isSome = false) (k0 : 0 ≤ k) :
    0 ≤ j + 1 ∧ j + 1 ≤ ls.length ∧ k.toNat < (A ++ [(otherA (m.airways.getD (ls.getD j.toNat 0).toNat default) (zs.getD lo 0)).1]).length ∧ ((n + 1 : Nat) : Int) = (A ++ [(otherA (m.airways.getD (ls.getD j.toNat 0).toNat default) (zs.getD lo 0)).1]).length - k ∧
      ((A.drop k.toNat ++ [(otherA (m.airways.getD (ls.getD j.toNat 0).toNat default) (zs.getD lo 0)).1]).drop 0).take (n + 1) = (A ++ [(otherA (m.airways.getD (ls.getD j.toNat 0).toNat default) (zs.getD lo 0)).1]).drop k.toNat ∧
      0 + (n + 1) ≤ (A.drop k.toNat ++ [(otherA (m.airways.getD (ls.getD j.toNat 0).toNat default) (zs.getD lo 0)).1]).length ∧
      bfI m ls to (A ++ [(otherA (m.airways.getD (ls.getD j.toNat 0).toNat default) (zs.getD lo 0)).1]) k.toNat (updF F (otherA (m.airways.getD (ls.getD j.toNat 0).toNat default) (zs.getD lo 0)).1 ((F (zs.getD lo 0)).getD 0 + 1)) ∧
      qkI m ls (updF F (otherA (m.airways.getD (ls.getD j.toNat 0).toNat default) (zs.getD lo 0)).1 ((F (zs.getD lo 0)).getD 0 + 1)) ((A ++ [(otherA (m.airways.getD (ls.getD j.toNat 0).toNat default) (zs.getD lo 0)).1]).getD k.toNat 0) (j + 1) := by
  rw [hdD j4 (by omega) j2] at hb ⊢
  have hx := oth_st j0 hj hl hb.1
  refine ⟨by omega, by omega, by simp; omega, by simp; omega, addD (by omega) (by omega), by simp; omega, bfI_add hm j6 j2 hx hb.2, ?_⟩
  rw [getD_app j2]
  exact qk_add j7 j0 rfl
theorem pth_w {A : List Int} (hm : okMine m = true) (j2 : k.toNat < A.length) (j3 : (n : Int) = A.length - k) (j4 : (zs.drop lo).take n = A.drop k.toNat) (j6 : bfI m ls to A k.toNat F) (k0 : 0 ≤ k) : IntKind.i64.wrap ((F (zs.getD (lo + Int.toNat 0) 0)).getD 0 + 1) = (F (zs.getD lo 0)).getD 0 + 1 := by
  have b := bf_b (x := A.getD k.toNat 0) hm j6 (getD_mem j2)
  rw [← hdD j4 (by omega) j2] at b
  show IntKind.i64.wrap ((F (zs.getD lo 0)).getD 0 + 1) = _
  exact wrapI (by omega) (by omega)
theorem way_nx (hm : okMine m = true) (hl : ∀ i ∈ ls, 0 ≤ i ∧ i < m.airways.length) (q0 : 0 ≤ q) (hq : q < ls.length) (l3 : (F a).isSome = true) (hfar : farI m ls to F) (h : (otherA (m.airways.getD (ls.getD q.toNat 0).toNat default) a).2 = true) : (F (otherA (m.airways.getD (ls.getD q.toNat 0).toNat default) a).1).isSome = true ∧ 0 ≤ (F (otherA (m.airways.getD (ls.getD q.toNat 0).toNat default) a).1).getD 0 := by
  obtain ⟨e, h1, _⟩ := hfar.p3 a _ _ (some_fv l3) (oth_st q0 hq hl h)
  have := hfar.nn _ _ h1
  rw [h1]
  exact ⟨rfl, this.1⟩
theorem way_add (hm : okMine m = true) (hl : ∀ i ∈ ls, 0 ≤ i ∧ i < m.airways.length) (q0 : 0 ≤ q) (hq : q < ls.length) (l1 : n = ws.length ∧ n = es.length) (l2 : wayI m ls f a es ws) (l3 : (F a).isSome = true) (l4 : (es.length : Int) + (F a).getD 0 = (F f).getD 0) (hfar : farI m ls to F) (l6 : (F f).isSome = true)
    (hb : (otherA (m.airways.getD (ls.getD q.toNat 0).toNat default) a).2 = true ∧ (F (otherA (m.airways.getD (ls.getD q.toNat 0).toNat default) a).1).getD 0 = (F a).getD 0 - 1) :
    (inV m (otherA (m.airways.getD (ls.getD q.toNat 0).toNat default) a).1 ∧ (otherA (m.airways.getD (ls.getD q.toNat 0).toNat default) a).1 < 16 ∧ 0 ≤ (otherA (m.airways.getD (ls.getD q.toNat 0).toNat default) a).1) ∧ (n + 1 = (ws ++ [spL m a (ls.getD q.toNat 0).toNat]).length ∧ n + 1 = (es ++ [(ls.getD q.toNat 0).toNat]).length) ∧
      wayI m ls f (otherA (m.airways.getD (ls.getD q.toNat 0).toNat default) a).1 (es ++ [(ls.getD q.toNat 0).toNat]) (ws ++ [spL m a (ls.getD q.toNat 0).toNat]) ∧ (F (otherA (m.airways.getD (ls.getD q.toNat 0).toNat default) a).1).isSome = true ∧ ((es ++ [(ls.getD q.toNat 0).toNat]).length : Int) + (F (otherA (m.airways.getD (ls.getD q.toNat 0).toNat default) a).1).getD 0 = (F f).getD 0 ∧ farI m ls to F ∧ (F f).isSome = true := by
  have hst := oth_st q0 hq hl hb.1
  have hr := oth_r (x := a) hm (lsB hl q0 hq)
  have hb2 := lsB hl q0 hq
  have hn := way_nx hm hl q0 hq l3 hfar hb.1
  refine ⟨⟨(stA_V hm hst).2, hr.2, hr.1⟩, ⟨by simp; omega, by simp; omega⟩, wayI_s l2 (by omega) ?_ (by rw [← hb.1]), hn.1, ?_, hfar, l6⟩
  · rw [show (((ls.getD q.toNat 0).toNat : Nat) : Int) = ls.getD q.toNat 0 by omega]; exact getD_mem (by omega)
  · rw [hb.2, List.length_append, List.length_singleton]; omega
theorem way_less (hm : okMine m = true) (hl : ∀ i ∈ ls, 0 ≤ i ∧ i < m.airways.length) (q0 : 0 ≤ q) (hq : q < ls.length) (l3 : (F a).isSome = true) (hfar : farI m ls to F)
    (hb : (otherA (m.airways.getD (ls.getD q.toNat 0).toNat default) a).2 = true ∧ (F (otherA (m.airways.getD (ls.getD q.toNat 0).toNat default) a).1).getD 0 = (F a).getD 0 - 1) :
    ((F (otherA (m.airways.getD (ls.getD q.toNat 0).toNat default) a).1).getD 0).toNat < ((F a).getD 0).toNat := by
  have hn := way_nx hm hl q0 hq l3 hfar hb.1
  omega
theorem way_keep (q0 : 0 ≤ q) (q3 : ∀ i : Nat, (i : Int) < q → (otherA (m.airways.getD (ls.getD i 0).toNat default) a).2 = true → ¬(F (otherA (m.airways.getD (ls.getD i 0).toNat default) a).1).getD 0 = (F a).getD 0 - 1)
    (hb : (otherA (m.airways.getD (ls.getD q.toNat 0).toNat default) a).2 = true → ¬(F (otherA (m.airways.getD (ls.getD q.toNat 0).toNat default) a).1).getD 0 = (F a).getD 0 - 1) :
    ∀ i : Nat, (i : Int) < q + 1 → (otherA (m.airways.getD (ls.getD i 0).toNat default) a).2 = true → ¬(F (otherA (m.airways.getD (ls.getD i 0).toNat default) a).1).getD 0 = (F a).getD 0 - 1 := by
  intro i hi
  by_cases e : (i : Int) = q
  · have e2 : q.toNat = i := by omega
    rw [e2] at hb; exact hb
  · exact q3 i (by omega)
theorem way_end (hm : okMine m = true) (hb : a = to) (l1 : n = es.length) (l4 : (es.length : Int) + (F a).getD 0 = (F f).getD 0) (hfar : farI m ls to F) (l6 : (F f).isSome = true) : dsA m ls n f to := by
  rw [hb, hfar.p1] at l4
  simp only [Option.getD_some] at l4
  have := hfar.ds hm (some_fv l6)
  unfold fv at this
  rwa [← l4, show ((es.length : Int) + 0).toNat = n by omega] at this
end
inductive PthR (m : GMine) (ls : List Int) (f to : Int) (rs : List AV) (ho : List OB) : Prop
  | no (h1 : rs = [.osl 0 0 0, Bo false]) (h2 : ho = [.row false .flat (eI 0) []]) (h : ¬cnA m ls f to)
  | ok (n : Nat) (ws : List Int) (es : List Nat) (h1 : rs = [.osl 0 0 n, Bo true]) (h2 : ho = [.row false .flat (eI 0) (ws.map eI)]) (h3 : n = ws.length) (h4 : n = es.length) (h : wayI m ls f to es ws) (h5 : dsA m ls n f to) (h6 : n ≤ 16)
theorem c_impl_Mine_path (m : GMine) (f to : Int) (ls : List Int) (hm : okMine m = true) (hf : inV m f) (ht : inV m to) (hl : ∀ i ∈ ls, 0 ≤ i ∧ i < m.airways.length) (hll : ls.length ≤ 1000) : FnSem Tryz.prog 78 [.p .any (.agg m.cells), In f, In to, Lx (LI ls)] [] (PthR m ls f to) := by
  have hmp := okMine_p hm
  have hJ := hmp.1
  have hf2 : 0 ≤ f ∧ f < m.junctions := hf
  have ht2 : 0 ≤ to ∧ to < m.junctions := ht
  refine FnSem.old ?_
  refine FnSem.walk (zs := zeroPV Tryz.prog) (by kernel_rfl) Tryz.func78 rfl Tryz.results78 (by kernel_rfl) (by kernel_rfl) (by kernel_rfl) fun hw hh => ?_
  obtain ⟨w0, w1, w2, w3, _⟩ := hw
  first | replace w0 := wf_Mine w0 | skip
  first | replace w1 := wf_I w1 | skip
  first | replace w2 := wf_I w2 | skip
  first | replace w3 := wf_LI w3 | skip
  repeat' first
    | refine And.intro rfl ?_
    | refine GdF.mk (fun h => h) ?_
    | refine And.intro (Nat.succ_ne_zero _) ?_
    | refine And.intro (Nat.le_of_ble_eq_true rfl) ?_
    | refine SeqF.run ?_
    | refine OpH.heap ?_
    | refine GhF.held 8 rfl [(8, [])] ?_
    | refine KeyF.mk i64Law rfl (fun _ => i64Key _ (by first | omega | (have b := oth_r (x := zs'.getD lo' 0) hm (lsB hl j0 (by assumption)); omega) | (have b := oth_r (x := a) hm (lsB hl q0 (by assumption)); omega) | (show -9223372036854775808 ≤ zs'.getD lo' 0 ∧ zs'.getD lo' 0 ≤ 9223372036854775807; have b := bf_b (x := A'.getD k.toNat 0) hm j6 (getD_mem j2N); rw [← hdD j4 (by omega) j2N] at b; omega))) ?_
    | refine EqM.mk _ mpF_0 ?_
    | refine EqM.mk _ mpF_upd ?_
    | refine EqO.mk _ mpF_at ?_
    | refine LoopF.at 3 rfl (LoopF.fixw [1001,1002] [1, 2, 3, 4, 10] (Int × Nat × Nat × List Int × List Int × (Int → Option Int)) (fun (k, lo, n, A, zs, F) => 0 ≤ k ∧ k ≤ A.length ∧ (n : Int) = A.length - k ∧ (zs.drop lo).take n = A.drop k.toNat ∧ lo + n ≤ zs.length ∧ bfI m ls to A k.toNat F) (fun (k, lo, n, A, zs, F) => [(11, .osl 2 lo n)]) (fun (k, lo, n, A, zs, F) => [(1, .mp false i64Is (mpF F)), (2, .row false .flat (eI 0) (zs.map eI))]) (fun (k, lo, n, A, zs, F) => ((m.junctions - k).toNat)) ((0, 0, 1, [to], [to], F0 to)) ?_)
    | (refine LoopB.of (T := Int × Nat × Nat × List Int × List Int × (Int → Option Int)) ?_ ?_; rotate_left; rintro ⟨k, lo, n, A, zs, F⟩ ⟨k0, k1, k2, k3, k4, k5⟩; rotate_left)
    | refine LoopF.at 6 rfl (LoopF.fix [1, 2, 3, 4, 10, 36, 37] (Int × List Int × List Int × Nat × Nat × (Int → Option Int)) (fun (j, A', zs', n', lo', F') => 0 ≤ j ∧ j ≤ ls.length ∧ k.toNat < A'.length ∧ (n' : Int) = A'.length - k ∧ (zs'.drop lo').take n' = A'.drop k.toNat ∧ lo' + n' ≤ zs'.length ∧ bfI m ls to A' k.toNat F' ∧ qkI m ls F' (A'.getD k.toNat 0) j) (fun (j, A', zs', n', lo', F') => [(38, In j), (11, .osl 2 lo' n')]) (fun (j, A', zs', n', lo', F') => [(1, .mp false i64Is (mpF F')), (2, .row false .flat (eI 0) (zs'.map eI))]) (fun (j, A', zs', n', lo', F') => ((ls.length - j).toNat)) ((0, A, zs, n, lo, F)) ?_)
    | (refine LoopB.of (T := Int × List Int × List Int × Nat × Nat × (Int → Option Int)) ?_ ?_; rotate_left; rintro ⟨j, A', zs', n', lo', F'⟩ ⟨j0, j1, j2N, j3, j4, j5, j6, j7⟩; rotate_left)
    | refine ArgF.is (c_impl_Airway_other (m.airways.getD (ls.getD j.toNat 0).toNat default) (zs'.getD lo' 0)) ?_
    | refine ArgQ.is (fun hG => c_impl_Airway_other (m.airways.getD (ls.getD j.toNat 0).toNat default) (zs'.getD lo' 0)) rfl rfl ?_
    | refine BndF.mk (fun _ => by first | (have a := lsB hl j0 (by assumption); have b := bfI_len hm j6; first | omega | (simp only [List.length_map]; omega)) | (have a := lsB hl q0 (by assumption); first | omega | (simp only [List.length_map]; omega))) ?_
    | refine EqL.mk _ (snD j4) ?_
    | refine EqI.mk ((F' (zs'.getD lo' 0)).getD 0 + 1) (fun _ => pth_w hm j2N j3 j4 j6 k0) ?_
    | refine EqI.mk _ (fun _ => by have b := hfar.nn a _ (some_fv l3); unfold fv at b; exact wrapI (by omega) (by omega)) ?_
    | refine BndF.mk (fun _ => by have b := hfar.nn f _ (some_fv l6); have b2 := hfar.nn a _ (some_fv l3); unfold fv at b b2; omega) ?_
    | refine BackF.auto (k + 1, lo' + 1, n' - (0 + 1), A', zs', F') ?_
    | (have hc := hb.2; refine BackF.auto (j + 1, A' ++ [(otherA (m.airways.getD (ls.getD j.toNat 0).toNat default) (zs'.getD lo' 0)).1], A'.drop k.toNat ++ [(otherA (m.airways.getD (ls.getD j.toNat 0).toNat default) (zs'.getD lo' 0)).1], n' + 1, 0, updF F' (otherA (m.airways.getD (ls.getD j.toNat 0).toNat default) (zs'.getD lo' 0)).1 ((F' (zs'.getD lo' 0)).getD 0 + 1)) ?_)
    | refine BackF.auto (j + 1, A', zs', n', lo', F') ?_
    | (have hc := hb.2; refine BackF.auto ((otherA (m.airways.getD (ls.getD q.toNat 0).toNat default) a).1, n + 1, ws ++ [spL m a (ls.getD q.toNat 0).toNat], es ++ [(ls.getD q.toNat 0).toNat]) ?_)
    | (exfalso; exact no_way hm hl q2 q3 hb l3 hfar)
    | refine LoopF.at 19 rfl (LoopF.fix [2, 3, 4, 10] (Int × Nat × List Int × List Nat) (fun (a, n, ws, es) => (inV m a ∧ a < 16 ∧ 0 ≤ a) ∧ (n = ws.length ∧ n = es.length) ∧ wayI m ls f a es ws ∧ (F a).isSome = true ∧ (es.length : Int) + (F a).getD 0 = (F f).getD 0 ∧ farI m ls to F ∧ (F f).isSome = true) (fun (a, n, ws, es) => [(21, In a), (20, .osl 2 0 n)]) (fun (a, n, ws, es) => [(2, .row true .flat (eI 0) (ws.map eI))]) (fun (a, n, ws, es) => (((F a).getD 0).toNat)) ((f, 0, [], [])) ?_)
    | (refine LoopB.of (T := Int × Nat × List Int × List Nat) ?_ ?_; rotate_left; rintro ⟨a, n, ws, es⟩ ⟨l0, l1, l2, l3, l4, hfar, l6⟩; rotate_left)
    | refine LoopF.at 21 rfl (LoopF.fix [2, 3, 4, 10, 90, 91] (Int × Unit) (fun (q, _) => 0 ≤ q ∧ q ≤ ls.length ∧ ¬a = to ∧ ∀ i : Nat, (i : Int) < q → (otherA (m.airways.getD (ls.getD i 0).toNat default) a).2 = true → ¬(F (otherA (m.airways.getD (ls.getD i 0).toNat default) a).1).getD 0 = (F a).getD 0 - 1) (fun (q, _) => [(92, In q), (20, .osl 2 0 n), (21, In a)]) (fun (q, _) => []) (fun (q, _) => ((ls.length - q).toNat)) ((0, ())) ?_)
    | (refine LoopB.of (T := Int × Unit) ?_ ?_; rotate_left; rintro ⟨q, _⟩ ⟨q0, q1, q2, q3⟩; rotate_left)
    | refine ArgF.is (c_impl_Airway_other (m.airways.getD (ls.getD q.toNat 0).toNat default) a) ?_
    | refine ArgQ.is (fun hG => c_impl_Airway_other (m.airways.getD (ls.getD q.toNat 0).toNat default) a) rfl rfl ?_
    | refine ArgF.is (c_impl_Mine_step m (ls.getD q.toNat 0) a (lsB hl q0 (by assumption)) (by omega)) ?_
    | refine ArgQ.is (fun hG => c_impl_Mine_step m (ls.getD q.toNat 0) a (lsB hl q0 (by assumption)) (by omega)) rfl rfl ?_
    | refine EqL.mk _ (snT (take_all l1.1)) ?_
    | refine PthR.no rfl rfl ?_
    | refine PthR.ok n ws es rfl rfl ?_ ?_ ?_ ?_ ?_
    | refine HdF.at 13 rfl 0 [] (And.intro (by decide +kernel) (And.intro rfl ?_))
    | refine HdF.at 12 rfl 1 [3, 4, 8, 9, 10, 11, 12, 13] (And.intro (by decide +kernel) (And.intro rfl ?_))
    | refine HdF.at 11 rfl 2 [] (And.intro (by decide +kernel) (And.intro rfl ?_))
    | refine HdF.at 10 rfl 3 [] (And.intro (by decide +kernel) (And.intro rfl ?_))
    | refine HdF.at 9 rfl 4 [8, 9, 10, 11, 12, 13] (And.intro (by decide +kernel) (And.intro rfl ?_))
    | refine HdF.at 8 rfl 5 [] (And.intro (by decide +kernel) (And.intro rfl ?_))
    | refine HdF.at 7 rfl 6 [] (And.intro (by decide +kernel) (And.intro rfl ?_))
    | refine HdF.at 6 rfl 7 [8, 9, 10, 11, 12, 13] (And.intro (by decide +kernel) (And.intro rfl ?_))
    | refine HdF.goAt 5 rfl ?_
    | refine OrdL.ord ?_
    | refine OrdF.take 9 (by decide +kernel) (And.intro rfl ?_)
    | refine OrdF.take 10 (by decide +kernel) (And.intro rfl ?_)
    | refine OrdF.take 11 (by decide +kernel) (And.intro rfl ?_)
    | refine OrdF.take 12 (by decide +kernel) (And.intro rfl ?_)
    | refine OrdF.take 13 (by decide +kernel) (And.intro rfl ?_)
    | refine OrdF.all [8] (by decide +kernel) ?_
    | refine OrdF.fin (by decide +kernel) ?_
    | refine AllF.one _ ?_
    | refine AllF.cons _ _ ?_ ?_
    | refine OpH.quiet rfl ?_
    | refine OpH.heap ?_
    | refine GhF.go ?_
    | refine GdS.keep ?_
    | refine DrawG.old (DrawF.lex (by decide +kernel) ?_)
    | refine MkF.row ?_
    | refine EqP.mk _ (gm GAirway.cells default rfl) ?_
    | refine EqP.mk _ (gm eI 0 rfl) ?_
    | refine BndF.mk (fun _ => by omega) ?_
    | refine BndF.mk (fun _ => by simp only [lnS]; omega) ?_
    | refine BndF.mk (fun hG => by simp only [forall_const, eq_self, not_true_eq_false, not_false_eq_true, or_false, false_or, or_self, or_true, true_or, and_true, true_and, and_false, false_and, decide_true, decide_false, Bool.not_true, Bool.not_false, decide_eq_true_eq, decide_eq_false_iff_not, ite_and_p, ite_or_p, Bool.decide_eq_true, Bool.and_eq_true, Bool.or_eq_true, Bool.not_eq_true', Bool.not_eq_false', Bool.and_eq_false_imp, Bool.or_eq_false_iff, bne_iff_ne, beq_iff_eq, bne_eq_false_iff_eq, beq_eq_false_iff_ne, gt_iff_lt, ge_iff_le, Int.not_lt, Int.not_le, ne_eq, Bool.true_eq_false, Bool.false_eq_true, reduceCtorEq, eta_Airway, eta_Fan, eta_Mine, bytes_nil] at hG; (try simp only [List.length_map]); omega) ?_
    | refine EqI.mk _ (fun _ => wrapI (by omega) (by omega)) ?_
    | refine EqI.mk _ (fun _ => rfl) ?_
    | refine FlF.keep ?_
    | refine EqN.mk _ (ln GAirway.cells) ?_
    | refine EqN.mk _ (ln eI) ?_
    | refine EqN.mk _ (Nat.zero_add _) ?_
    | refine EqN.mk (_ + 1) rfl ?_
    | refine EqN.mk _ (Int.toNat_natCast _) ?_
    | refine EqN.mk _ rfl ?_
    | refine EqL.mk _ (sn0 GAirway.cells) ?_
    | refine EqL.mk _ (sn GAirway.cells (by first | rfl | assumption | omega | (simp only [lnS] <;> omega))) ?_
    | refine EqL.mk _ (ap0 GAirway.cells) ?_
    | refine EqL.mk _ (ap GAirway.cells (by first | rfl | assumption | omega | (simp only [lnS] <;> omega))) ?_
    | refine EqL.mk _ (tk GAirway.cells (by first | rfl | assumption | omega | (simp only [lnS] <;> omega))) ?_
    | refine EqL.mk _ (dt GAirway.cells) ?_
    | refine EqL.mk _ (sn0 eI) ?_
    | refine EqL.mk _ (sn eI (by first | rfl | assumption | omega | (simp only [lnS] <;> omega))) ?_
    | refine EqL.mk _ (ap0 eI) ?_
    | refine EqL.mk _ (ap eI (by first | rfl | assumption | omega | (simp only [lnS] <;> omega))) ?_
    | refine EqL.mk _ (tk eI (by first | rfl | assumption | omega | (simp only [lnS] <;> omega))) ?_
    | refine EqL.mk _ (dt eI) ?_
    | refine EqL.mk [] rfl ?_
    | refine EqL.mk [_] rfl ?_
    | refine EqL.mk _ rfl ?_
    | refine ArgF.is (c_impl_Airway_other ⟨_, _, _, _, _, _, _⟩ _) ?_
    | refine ArgQ.is (fun hG => c_impl_Airway_other ⟨_, _, _, _, _, _, _⟩ _) rfl rfl ?_
    | refine ArgF.is (c_impl_Mine_step ⟨_, _⟩ _ _ (by first | assumption | omega) (by first | assumption | omega)) ?_
    | refine ArgQ.is (fun hG => c_impl_Mine_step ⟨_, _⟩ _ _ (by first | assumption | omega) (by first | assumption | omega)) rfl rfl ?_
    | refine ArgQ.is (fun hG => c_impl_Mine_step ⟨_, _⟩ _ _ (by simp only [forall_const, eq_self, not_true_eq_false, not_false_eq_true, or_false, false_or, or_self, or_true, true_or, and_true, true_and, and_false, false_and, decide_true, decide_false, Bool.not_true, Bool.not_false, decide_eq_true_eq, decide_eq_false_iff_not, ite_and_p, ite_or_p, Bool.decide_eq_true, Bool.and_eq_true, Bool.or_eq_true, Bool.not_eq_true', Bool.not_eq_false', Bool.and_eq_false_imp, Bool.or_eq_false_iff, bne_iff_ne, beq_iff_eq, bne_eq_false_iff_eq, beq_eq_false_iff_ne, gt_iff_lt, ge_iff_le, Int.not_lt, Int.not_le, ne_eq, Bool.true_eq_false, Bool.false_eq_true, reduceCtorEq, eta_Airway, eta_Fan, eta_Mine, bytes_nil] at hG; omega) (by simp only [forall_const, eq_self, not_true_eq_false, not_false_eq_true, or_false, false_or, or_self, or_true, true_or, and_true, true_and, and_false, false_and, decide_true, decide_false, Bool.not_true, Bool.not_false, decide_eq_true_eq, decide_eq_false_iff_not, ite_and_p, ite_or_p, Bool.decide_eq_true, Bool.and_eq_true, Bool.or_eq_true, Bool.not_eq_true', Bool.not_eq_false', Bool.and_eq_false_imp, Bool.or_eq_false_iff, bne_iff_ne, beq_iff_eq, bne_eq_false_iff_eq, beq_eq_false_iff_ne, gt_iff_lt, ge_iff_le, Int.not_lt, Int.not_le, ne_eq, Bool.true_eq_false, Bool.false_eq_true, reduceCtorEq, eta_Airway, eta_Fan, eta_Mine, bytes_nil] at hG; omega)) rfl rfl ?_
    | refine CallF.mk (CallW.is [] true rfl ?_)
    | refine CallG.mk ?_
    | (refine CondF.mk (fun hb => ?_) (fun hb => ?_) <;> try simp only [forall_const, eq_self, not_true_eq_false, not_false_eq_true, or_false, false_or, or_self, or_true, true_or, and_true, true_and, and_false, false_and, decide_true, decide_false, Bool.not_true, Bool.not_false, decide_eq_true_eq, decide_eq_false_iff_not, ite_and_p, ite_or_p, Bool.decide_eq_true, Bool.and_eq_true, Bool.or_eq_true, Bool.not_eq_true', Bool.not_eq_false', Bool.and_eq_false_imp, Bool.or_eq_false_iff, bne_iff_ne, beq_iff_eq, bne_eq_false_iff_eq, beq_eq_false_iff_ne, gt_iff_lt, ge_iff_le, Int.not_lt, Int.not_le, ne_eq, Bool.true_eq_false, Bool.false_eq_true, reduceCtorEq, eta_Airway, eta_Fan, eta_Mine] at hb)
    | apply BackF.auto6
    | apply BackF.auto4
    | apply BackF.auto2
    | refine BackB.mk ?_ ?_
    | refine RetF.auto (And.intro rfl ?_)
    | exact Is.mk rfl rfl
    | refine Is.mk ?_ rfl
    | refine Is.mk rfl ?_
    | refine Is.mk ?_ ?_
  all_goals try dsimp only
  all_goals first
    | omega
    | exact ⟨by omega, by simp, by simp, rfl, by simp, bfI_0 ht⟩
    | exact ⟨by omega, by omega, by omega, k2, k3, k4, k5, qk_0⟩
    | exact pth_add hm hl j0 (by assumption) j2N j3 j4 j5 j6 j7 hb k0
    | exact ⟨by omega, by omega, j2N, j3, j4, j5, j6, qk_keep j7 j0 (by rw [← hdD j4 (by omega) j2N]; exact hb)⟩
    | (refine ⟨by omega, by omega, by omega, ?_, by omega, ?_⟩
       · rw [show (k + 1).toNat = k.toNat + 1 by omega]; exact popD j4
       · rw [show (k + 1).toNat = k.toNat + 1 by omega]; exact bfI_s j6 j2N (qk_end j7 hb j6.dm))
    | (have b := bfI_len hm j6; omega)
    | exact (bfI_end hm k5 (by omega)).no hm (no_some hb)
    | exact ⟨⟨hf, by omega, by omega⟩, ⟨rfl, rfl⟩, wayI_0, hb, by simp, bfI_end hm k5 (by omega), hb⟩
    | exact ⟨by omega, by omega, hb, fun i hi => absurd hi (by omega)⟩
    | exact way_add hm hl q0 (by assumption) l1 l2 l3 l4 hfar l6 hb
    | exact way_less hm hl q0 (by assumption) l3 hfar hb
    | exact ⟨by omega, by omega, q2, way_keep q0 q3 hb⟩
    | (rw [← hb]; exact l2)
    | exact way_end hm hb l1.2 l4 hfar l6
    | (have b := way_end hm hb l1.2 l4 hfar l6; have b2 := hfar.nn f _ (some_fv l6); have b3 := hfar.p1; rw [hb, b3] at l4; unfold fv at b2; simp only [Option.getD_some] at l4; omega)
    | skip
end Go.Proofs.YtdhkpmaanegjkaaGreatDoor
