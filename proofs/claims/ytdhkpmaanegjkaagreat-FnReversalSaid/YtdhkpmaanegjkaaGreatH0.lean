/- Contracts of functions of the program, and what they compute. Conditions: those that each theorem states. -/
import Derived.Test.YtdhkpmaanegjkaaGreatProg
import Derived.Test.YtdhkpmaanegjkaaGreatV1
import Derived.Maps.Keyed
import Derived.Test.YtdhkpmaanegjkaaGreatG1
import Derived.Test.YtdhkpmaanegjkaaGreatL1
set_option linter.unusedVariables false
set_option linter.unusedSimpArgs false
namespace Go.Proofs.YtdhkpmaanegjkaaGreat
open Go.Av
attribute [local irreducible] Go.IntKind.wrap leastI rdZ rd rootI okMine
set_option maxRecDepth 20000
set_option maxHeartbeats 8000000
section
variable {m : GMine} {ls A : List Int} {f x : Int} {j k : Int}
def qjI (m : GMine) (ls A : List Int) (x j : Int) : Prop := ∀ i : Nat, (i : Int) < j → ∀ u, otherA (m.airways.getD (ls.getD i 0).toNat default) x = (u, true) → u ∈ A
theorem qj_0 : qjI m ls A x 0 := fun i hi => absurd hi (by omega)
theorem qj_add (h : qjI m ls A x j) (h0 : 0 ≤ j) {v : Int} (hv : v = (otherA (m.airways.getD (ls.getD j.toNat 0).toNat default) x).1) : qjI m ls (A ++ [v]) x (j + 1) := by
  intro i hi u hu
  by_cases e : (i : Int) = j
  · rw [show j.toNat = i by omega, hu] at hv
    rw [hv]; simp
  · exact List.mem_append_left _ (h i (by omega) u hu)
theorem qj_keep (h : qjI m ls A x j) (h0 : 0 ≤ j) (hk : (otherA (m.airways.getD (ls.getD j.toNat 0).toNat default) x).2 = true → (otherA (m.airways.getD (ls.getD j.toNat 0).toNat default) x).1 ∈ A) : qjI m ls A x (j + 1) := by
  intro i hi u hu
  by_cases e : (i : Int) = j
  · rw [show j.toNat = i by omega, hu] at hk
    exact hk rfl
  · exact h i (by omega) u hu
theorem qj_end (h : qjI m ls A x j) (hj : ls.length ≤ j) : ∀ u, stA m ls x u → u ∈ A := by
  rintro u ⟨i, h1, h2, h3⟩
  obtain ⟨p, hp, rfl⟩ := List.getElem_of_mem h1
  refine h p (by omega) u ?_
  rw [show ls.getD p 0 = ls[p] by rw [List.getD_eq_getElem?_getD, List.getElem?_eq_getElem hp]; rfl]
  exact h3
theorem oth_st (h0 : 0 ≤ j) (hj : j < ls.length) (hl : ∀ i ∈ ls, 0 ≤ i ∧ i < m.airways.length) (h : (otherA (m.airways.getD (ls.getD j.toNat 0).toNat default) x).2 = true) : stA m ls x (otherA (m.airways.getD (ls.getD j.toNat 0).toNat default) x).1 :=
  ⟨ls.getD j.toNat 0, getD_mem (by omega), hl _ (getD_mem (by omega)), by rw [← h]⟩
theorem lsB (hl : ∀ i ∈ ls, 0 ≤ i ∧ i < m.airways.length) (h0 : 0 ≤ j) (hj : j < ls.length) : 0 ≤ ls.getD j.toNat 0 ∧ ls.getD j.toNat 0 < m.airways.length := hl _ (getD_mem (by omega))
end
theorem take_all {A : List Int} {n : Nat} (h : n = A.length) : A.take n = A := by rw [h, List.take_length]
theorem c_impl_Mine_reached (m : GMine) (f : Int) (ls : List Int) (hm : okMine m = true) (hf : inV m f) (hl : ∀ i ∈ ls, 0 ≤ i ∧ i < m.airways.length) (hll : ls.length ≤ 1000) : FnSem Tryz.prog 91 [.p .any (.agg m.cells), In f, Lx (LI ls)] [] (RetV (fun v : Nat × List Int => [.osl 0 0 v.1]) (fun v => [.row false .flat (eI 0) (v.2.map eI)]) (fun v => v.1 = v.2.length ∧ v.1 ≤ 16 ∧ ∀ u, u ∈ v.2 ↔ cnA m ls f u)) := by
  have hJ := (okMine_p hm).1
  refine FnSem.old ?_
  refine FnSem.walk (zs := zeroPV Tryz.prog) (by kernel_rfl) Tryz.func91 rfl Tryz.results91 (by kernel_rfl) (by kernel_rfl) (by kernel_rfl) fun hw hh => ?_
  obtain ⟨w0, w1, w2, _⟩ := hw
  first | replace w0 := wf_Mine w0 | skip
  first | replace w1 := wf_I w1 | skip
  first | replace w2 := wf_LI w2 | skip
  repeat' first
    | refine And.intro rfl ?_
    | refine GdF.mk (fun h => h) ?_
    | refine And.intro (Nat.succ_ne_zero _) ?_
    | refine And.intro (Nat.le_of_ble_eq_true rfl) ?_
    | refine SeqF.run ?_
    | refine GhF.at 2 rfl [.old 2] ?_
    | refine OpH.heap ?_
    | refine GhF.held 8 rfl [(9, [])] ?_
    | refine ArgF.is (c_impl_Airway_other (m.airways.getD (ls.getD j.toNat 0).toNat default) (A'.getD k.toNat 0)) ?_
    | refine ArgQ.is (fun hG => c_impl_Airway_other (m.airways.getD (ls.getD j.toNat 0).toNat default) (A'.getD k.toNat 0)) rfl rfl ?_
    | refine LoopF.at 3 rfl (LoopF.fix [2, 3] (Int × Nat × List Int) (fun (k, n, A) => 0 ≤ k ∧ k ≤ n ∧ n = A.length ∧ rcI m ls f A k.toNat) (fun (k, n, A) => [(8, In k), (7, .osl 1 0 n)]) (fun (k, n, A) => [(1, .row false .flat (eI 0) (A.map eI))]) (fun (k, n, A) => ((m.junctions - k).toNat)) ((0, 1, [f])) ?_)
    | (refine LoopB.of (T := Int × Nat × List Int) ?_ ?_; rotate_left; rintro ⟨k, n, A⟩ ⟨k0, k1, k2, k3⟩; rotate_left)
    | refine LoopF.at 6 rfl (LoopF.fix [2, 3, 8, 21, 22] (Int × List Int × Nat) (fun (j, A', n') => 0 ≤ j ∧ j ≤ ls.length ∧ k < n' ∧ n' = A'.length ∧ rcI m ls f A' k.toNat ∧ qjI m ls A' (A'.getD k.toNat 0) j) (fun (j, A', n') => [(23, In j), (7, .osl 1 0 n')]) (fun (j, A', n') => [(1, .row false .flat (eI 0) (A'.map eI))]) (fun (j, A', n') => ((ls.length - j).toNat)) ((0, A, n)) ?_)
    | (refine LoopB.of (T := Int × List Int × Nat) ?_ ?_; rotate_left; rintro ⟨j, A', n'⟩ ⟨j0, j1, j2, j3, j4, j5⟩; rotate_left)
    | refine BndF.mk (fun _ => by have a := lsB hl j0 (by assumption); have b := rcI_len hm j4; first | omega | (simp only [List.length_map]; omega)) ?_
    | refine EqL.mk _ (tkT (take_all j3)) ?_
    | refine EqL.mk _ (snT (take_all j3)) ?_
    | refine EqI.mk _ (fun _ => by have b := rcI_len hm j4; exact wrapI (by omega) (by omega)) ?_
    | refine RetV.mk (α := Nat × List Int) (_, _) rfl rfl ?_
    | refine HdF.at 14 rfl 0 [] (And.intro (by decide +kernel) (And.intro rfl ?_))
    | refine HdF.at 13 rfl 1 [3, 4, 9, 10, 11, 12, 13, 14] (And.intro (by decide +kernel) (And.intro rfl ?_))
    | refine HdF.at 12 rfl 2 [] (And.intro (by decide +kernel) (And.intro rfl ?_))
    | refine HdF.at 11 rfl 3 [] (And.intro (by decide +kernel) (And.intro rfl ?_))
    | refine HdF.at 10 rfl 4 [9, 10, 11, 12, 13, 14] (And.intro (by decide +kernel) (And.intro rfl ?_))
    | refine HdF.at 9 rfl 5 [] (And.intro (by decide +kernel) (And.intro rfl ?_))
    | refine HdF.at 8 rfl 6 [] (And.intro (by decide +kernel) (And.intro rfl ?_))
    | refine HdF.at 7 rfl 7 [] (And.intro (by decide +kernel) (And.intro rfl ?_))
    | refine HdF.at 6 rfl 8 [9, 10, 11, 12, 13, 14] (And.intro (by decide +kernel) (And.intro rfl ?_))
    | refine HdF.goAt 5 rfl ?_
    | refine OrdL.ord ?_
    | refine OrdF.take 10 (by decide +kernel) (And.intro rfl ?_)
    | refine OrdF.take 11 (by decide +kernel) (And.intro rfl ?_)
    | refine OrdF.take 12 (by decide +kernel) (And.intro rfl ?_)
    | refine OrdF.take 13 (by decide +kernel) (And.intro rfl ?_)
    | refine OrdF.take 14 (by decide +kernel) (And.intro rfl ?_)
    | refine OrdF.all [9] (by decide +kernel) ?_
    | refine OrdF.fin (by decide +kernel) ?_
    | refine AllF.one _ ?_
    | refine AllF.cons _ _ ?_ ?_
    | refine OpH.quiet rfl ?_
    | refine OpH.heap ?_
    | refine GhF.go ?_
    | refine GdS.keep ?_
    | refine DrawG.old (DrawF.lex (by decide +kernel) ?_)
    | refine MkF.row ?_
    | refine EqP.mk _ (gm GAirway.cells default rfl) ?_
    | refine EqP.mk _ (gm eI 0 rfl) ?_
    | refine BndF.mk (fun _ => by omega) ?_
    | refine BndF.mk (fun _ => by simp only [lnS]; omega) ?_
    | refine BndF.mk (fun hG => by simp only [forall_const, eq_self, not_true_eq_false, not_false_eq_true, or_false, false_or, or_self, or_true, true_or, and_true, true_and, and_false, false_and, decide_true, decide_false, Bool.not_true, Bool.not_false, decide_eq_true_eq, decide_eq_false_iff_not, ite_and_p, ite_or_p, Bool.decide_eq_true, Bool.and_eq_true, Bool.or_eq_true, Bool.not_eq_true', Bool.not_eq_false', Bool.and_eq_false_imp, Bool.or_eq_false_iff, bne_iff_ne, beq_iff_eq, bne_eq_false_iff_eq, beq_eq_false_iff_ne, gt_iff_lt, ge_iff_le, Int.not_lt, Int.not_le, ne_eq, Bool.true_eq_false, Bool.false_eq_true, reduceCtorEq, eta_Airway, eta_Fan, eta_Mine, bytes_nil] at hG; (try simp only [List.length_map]); omega) ?_
    | refine EqI.mk _ (fun _ => wrapI (by omega) (by omega)) ?_
    | refine EqI.mk _ (fun _ => rfl) ?_
    | refine FlF.keep ?_
    | refine EqN.mk _ (ln GAirway.cells) ?_
    | refine EqN.mk _ (ln eI) ?_
    | refine EqN.mk _ (Nat.zero_add _) ?_
    | refine EqN.mk (_ + 1) rfl ?_
    | refine EqN.mk _ (Int.toNat_natCast _) ?_
    | refine EqN.mk _ rfl ?_
    | refine EqL.mk _ (sn0 GAirway.cells) ?_
    | refine EqL.mk _ (sn GAirway.cells (by first | rfl | assumption | omega | (simp only [lnS] <;> omega))) ?_
    | refine EqL.mk _ (ap0 GAirway.cells) ?_
    | refine EqL.mk _ (ap GAirway.cells (by first | rfl | assumption | omega | (simp only [lnS] <;> omega))) ?_
    | refine EqL.mk _ (tk GAirway.cells (by first | rfl | assumption | omega | (simp only [lnS] <;> omega))) ?_
    | refine EqL.mk _ (dt GAirway.cells) ?_
    | refine EqL.mk _ (sn0 eI) ?_
    | refine EqL.mk _ (sn eI (by first | rfl | assumption | omega | (simp only [lnS] <;> omega))) ?_
    | refine EqL.mk _ (ap0 eI) ?_
    | refine EqL.mk _ (ap eI (by first | rfl | assumption | omega | (simp only [lnS] <;> omega))) ?_
    | refine EqL.mk _ (tk eI (by first | rfl | assumption | omega | (simp only [lnS] <;> omega))) ?_
    | refine EqL.mk _ (dt eI) ?_
    | refine EqL.mk [] rfl ?_
    | refine EqL.mk [_] rfl ?_
    | refine EqL.mk _ rfl ?_
    | refine ArgF.is (c_impl_Airway_other ⟨_, _, _, _, _, _, _⟩ _) ?_
    | refine ArgQ.is (fun hG => c_impl_Airway_other ⟨_, _, _, _, _, _, _⟩ _) rfl rfl ?_
    | refine ArgF.is (c_slices_Contains_int64_int64 ..) ?_
    | refine ArgQ.is (fun hG => c_slices_Contains_int64_int64 ..) rfl rfl ?_
    | refine CallF.mk (CallW.is [] true rfl ?_)
    | refine CallG.mk ?_
    | (refine CondF.mk (fun hb => ?_) (fun hb => ?_) <;> try simp only [forall_const, eq_self, not_true_eq_false, not_false_eq_true, or_false, false_or, or_self, or_true, true_or, and_true, true_and, and_false, false_and, decide_true, decide_false, Bool.not_true, Bool.not_false, decide_eq_true_eq, decide_eq_false_iff_not, ite_and_p, ite_or_p, Bool.decide_eq_true, Bool.and_eq_true, Bool.or_eq_true, Bool.not_eq_true', Bool.not_eq_false', Bool.and_eq_false_imp, Bool.or_eq_false_iff, bne_iff_ne, beq_iff_eq, bne_eq_false_iff_eq, beq_eq_false_iff_ne, gt_iff_lt, ge_iff_le, Int.not_lt, Int.not_le, ne_eq, Bool.true_eq_false, Bool.false_eq_true, reduceCtorEq, eta_Airway, eta_Fan, eta_Mine] at hb)
    | apply BackF.auto3
    | refine BackB.mk ?_ ?_
    | refine RetF.auto (And.intro rfl ?_)
    | exact Is.mk rfl rfl
    | refine Is.mk ?_ rfl
    | refine Is.mk rfl ?_
    | refine Is.mk ?_ ?_
  all_goals try dsimp only
  all_goals first
    | omega
    | exact ⟨by omega, by omega, rfl, rcI_0 hf⟩
    | exact ⟨by omega, by omega, by omega, k2, k3, qj_0⟩
    | (have hx := oth_st j0 (by omega) hl hb.1
       refine ⟨by omega, by omega, by omega, by simp [j3], rcI_add hm j4 (by omega) hx hb.2, ?_⟩
       rw [getD_app (by omega)]
       exact qj_add j5 j0 rfl)
    | exact ⟨by omega, by omega, j2, j3, j4, qj_keep j5 j0 hb⟩
    | (have b := rcI_len hm j4
       refine ⟨by omega, by omega, j3, ?_⟩
       rw [show (k + 1).toNat = k.toNat + 1 by omega]
       exact rcI_s j4 (qj_end j5 hb))
    | (have b := rcI_len hm k3
       exact ⟨k2, by omega, fun u => rcI_end k3 (by omega) u⟩)
    | (have b := rcI_len hm k3; omega)
    | (have b := rcI_len hm j4; omega)
    | skip
structure trI (m : GMine) (T : List Int) (i : Int) : Prop where
  rg : ∀ x ∈ T, 0 ≤ x ∧ x < i
  so : T.Pairwise (· < ·)
  cn : ∀ x : Int, 0 ≤ x → x < i → x ∉ T → cnA m T (m.airways.getD x.toNat default).from_ (m.airways.getD x.toNat default).to
theorem trI_0 {m : GMine} : trI m [] 0 := ⟨by simp, by simp, fun x h0 h1 => by omega⟩
theorem trI_add {m : GMine} {T : List Int} {i : Int} (h : trI m T i) (h0 : 0 ≤ i) : trI m (T ++ [i]) (i + 1) where
  rg := fun x hx => by
    rcases List.mem_append.1 hx with hx | hx
    · have := h.rg x hx; omega
    · rw [List.mem_singleton.1 hx]; omega
  so := by
    rw [List.pairwise_append]
    exact ⟨h.so, by simp, fun a ha b hb => by rw [List.mem_singleton.1 hb]; exact (h.rg a ha).2⟩
  cn := fun x h1 h2 hx => by
    rw [List.mem_append, not_or] at hx
    have e : x ≠ i := fun e => hx.2 (by rw [e]; simp)
    obtain ⟨n, hn⟩ := h.cn x h1 (by omega) hx.1
    exact ⟨n, wkA_mono (fun y hy => List.mem_append_left _ hy) n _ _ hn⟩
theorem trI_keep {m : GMine} {T : List Int} {i : Int} (h : trI m T i) (h0 : 0 ≤ i) (hc : cnA m T (m.airways.getD i.toNat default).from_ (m.airways.getD i.toNat default).to) : trI m T (i + 1) where
  rg := fun x hx => by have := h.rg x hx; omega
  so := h.so
  cn := fun x h1 h2 hx => by
    by_cases e : x = i
    · rw [e]; exact hc
    · exact h.cn x h1 (by omega) hx
theorem trI_len {m : GMine} {T : List Int} {i : Int} (h : trI m T i) (h0 : 0 ≤ i) : (T.length : Int) ≤ i := by
  have := pigW i.toNat T (h.so.imp fun e => by omega) (fun x hx => by have := h.rg x hx; omega)
  omega
end Go.Proofs.YtdhkpmaanegjkaaGreat
/- Contracts of functions of the program, and what they compute. Conditions: those that each theorem states. -/
set_option linter.unusedVariables false
set_option linter.unusedSimpArgs false
namespace Go.Proofs.YtdhkpmaanegjkaaGreat
open Go.Av
attribute [local irreducible] Go.IntKind.wrap leastI rdZ rd rootI okMine updM
set_option maxRecDepth 20000
set_option maxHeartbeats 8000000
theorem i64Law : Go.Maps.Keyed Tryz.prog 2 := Go.Maps.int_keyed (q := .i64) (by kernel_rfl)
theorem i64Key (n : Int) (h : -9223372036854775808 ≤ n ∧ n ≤ 9223372036854775807) : isKey Tryz.prog 2 (.int .i64 n) :=
  ⟨_, Go.Maps.keyOf_int_mk (q := .i64) (by kernel_rfl) (by
    have e1 : IntKind.i64.wrap n = n := wrapI (by omega) (by omega)
    have cm : IntKind.i64.min = -9223372036854775808 := by rfl
    have cx : IntKind.i64.max = 9223372036854775807 := by rfl
    simp [Lit.wf, e1, cm, cx]; omega)⟩
abbrev i64Is : Value → Prop := isKey Tryz.prog 2
def mpF (F : Int → Option Int) : Value → Option Int
  | .int .i64 n => F n
  | _ => none
theorem mpF_at {F : Int → Option Int} {n : Int} : mpF F (.int .i64 n) = F n := rfl
theorem mpF_upd {F : Int → Option Int} {x d : Int} : updM (mpF F) (.int .i64 x) d = mpF (updF F x d) := by
  funext v
  by_cases h : v = .int .i64 x
  · subst h
    rw [updM_eq, mpF_at]
    unfold updF
    rw [if_pos rfl]
  · rw [updM_ne _ _ h]
    unfold mpF
    split
    · unfold updF
      rw [if_neg]
      rintro rfl; exact h rfl
    · rfl
theorem mpF_0 {to : Int} : updM (fun _ => none) (.int .i64 to) 0 = mpF (F0 to) := by
  have := mpF_upd (F := fun _ => none) (x := to) (d := 0)
  rw [show mpF (fun _ => none) = fun _ => none by funext v; unfold mpF; split <;> rfl] at this
  rw [this]; rfl
structure wayI (m : GMine) (ls : List Int) (from_ at_ : Int) (es : List Nat) (ws : List Int) : Prop where
  ok : okW m [] from_ es
  en : enW m from_ es = at_
  sp : ws = spW m from_ es
  mem : ∀ i ∈ es, (i : Int) ∈ ls
theorem oth_ok {m : GMine} {i : Nat} {a v : Int} (h : otherA (m.airways.getD i default) a = (v, true)) : okL m [] a i = true ∧ nxL m a i = v := by
  unfold otherA at h
  unfold okL nxL awI
  split at h
  · rename_i e
    rw [decide_eq_true e.symm, if_pos e.symm]
    exact ⟨by simp, congrArg Prod.fst h⟩
  · split at h
    · rename_i e1 e2
      rw [decide_eq_true e2.symm, if_neg (fun e => e1 e.symm)]
      exact ⟨by simp, congrArg Prod.fst h⟩
    · simp at h
theorem wayI_0 {m : GMine} {ls : List Int} {f : Int} : wayI m ls f f [] [] := ⟨trivial, rfl, rfl, by simp⟩
section
variable {m : GMine} {ls A zs : List Int} {F : Int → Option Int} {to x j f : Int} {k lo n : Nat}
def qkI (m : GMine) (ls : List Int) (F : Int → Option Int) (x j : Int) : Prop := ∀ i : Nat, (i : Int) < j → ∀ u, otherA (m.airways.getD (ls.getD i 0).toNat default) x = (u, true) → (F u).isSome = true
theorem qk_0 : qkI m ls F x 0 := fun i hi => absurd hi (by omega)
theorem qk_add (h : qkI m ls F x j) (h0 : 0 ≤ j) {v d : Int} (hv : v = (otherA (m.airways.getD (ls.getD j.toNat 0).toNat default) x).1) : qkI m ls (updF F v d) x (j + 1) := by
  intro i hi u hu
  unfold updF
  by_cases e : u = v
  · rw [if_pos e]; rfl
  · rw [if_neg e]
    by_cases e2 : (i : Int) = j
    · rw [show j.toNat = i by omega, hu] at hv
      exact absurd hv.symm e
    · exact h i (by omega) u hu
theorem qk_keep (h : qkI m ls F x j) (h0 : 0 ≤ j) (hk : (otherA (m.airways.getD (ls.getD j.toNat 0).toNat default) x).2 = true → (F (otherA (m.airways.getD (ls.getD j.toNat 0).toNat default) x).1).isSome = true) : qkI m ls F x (j + 1) := by
  intro i hi u hu
  by_cases e : (i : Int) = j
  · rw [show j.toNat = i by omega, hu] at hk
    exact hk rfl
  · exact h i (by omega) u hu
theorem qk_end (h : qkI m ls F x j) (hj : ls.length ≤ j) (hd : ∀ v, (F v).isSome = true ↔ v ∈ A) : ∀ u, stA m ls x u → u ∈ A := by
  rintro u ⟨i, h1, h2, h3⟩
  obtain ⟨p, hp, rfl⟩ := List.getElem_of_mem h1
  refine (hd u).1 (h p (by omega) u ?_)
  rw [show ls.getD p 0 = ls[p] by rw [List.getD_eq_getElem?_getD, List.getElem?_eq_getElem hp]; rfl]
  exact h3
theorem bf_b (hm : okMine m = true) (h : bfI m ls to A k F) (hx : x ∈ A) : (0 ≤ (F x).getD 0 ∧ (F x).getD 0 ≤ 16) ∧ 0 ≤ x ∧ x < 16 := by
  have a := h.nn x hx
  have b := bfI_len hm h
  have c := (okMine_p hm).1
  have d := h.rg x hx
  unfold inV at d
  unfold fv at a
  omega
theorem oth_r (hm : okMine m = true) {i : Int} (hi : 0 ≤ i ∧ i < m.airways.length) : 0 ≤ (otherA (m.airways.getD i.toNat default) x).1 ∧ (otherA (m.airways.getD i.toNat default) x).1 < 16 := by
  have c := (okMine_p hm).1
  have q := (okMine_p hm).2.2 i.toNat (by omega)
  unfold otherA
  split
  · dsimp only; omega
  · split
    · dsimp only; omega
    · dsimp only; omega
theorem snD {v : Int} {s : List Int} (h : (zs.drop lo).take n = s) : ((zs.map eI).drop lo).take n ++ [eI v] = (s ++ [v]).map eI := by rw [← h]; simp
theorem hdD (h : (zs.drop lo).take n = A.drop k) (hn : 0 < n) (hk : k < A.length) : zs.getD lo 0 = A.getD k 0 := by
  have := congrArg (fun l => l.getD 0 0) h
  simp only [List.getD_eq_getElem?_getD, List.getElem?_take, List.getElem?_drop, Nat.add_zero, if_pos hn] at this
  rw [List.getD_eq_getElem?_getD, List.getD_eq_getElem?_getD]; exact this
theorem popD (h : (zs.drop lo).take n = A.drop k) : (zs.drop (lo + 1)).take (n - 1) = A.drop (k + 1) := by
  have := congrArg (List.drop 1) h
  rw [List.drop_take, List.drop_drop, List.drop_drop] at this
  exact this
theorem addD {v : Int} (h : (n : Int) = A.length - k) (hk : k ≤ A.length) : ((A.drop k ++ [v]).drop 0).take (n + 1) = (A ++ [v]).drop k := by
  rw [List.drop_zero, List.take_of_length_le (by simp; omega), List.drop_append_of_le_length hk]
end
section
variable {m : GMine} {ls : List Int} {F : Int → Option Int} {to a q : Int}
theorem no_way (hm : okMine m = true) (hl : ∀ i ∈ ls, 0 ≤ i ∧ i < m.airways.length) (q2 : ¬a = to) (q3 : ∀ i : Nat, (i : Int) < q → (otherA (m.airways.getD (ls.getD i 0).toNat default) a).2 = true → ¬(F (otherA (m.airways.getD (ls.getD i 0).toNat default) a).1).getD 0 = (F a).getD 0 - 1) (hb : ls.length ≤ q) (l3 : (F a).isSome = true) (hf : farI m ls to F) : False := by
  have e := some_fv l3
  rcases hf.p2 a _ e with h | ⟨u, ⟨i, h1, h2, h3⟩, h4⟩
  · exact q2 h.1
  · obtain ⟨p, hp, rfl⟩ := List.getElem_of_mem h1
    have hg : ls.getD p 0 = ls[p] := by rw [List.getD_eq_getElem?_getD, List.getElem?_eq_getElem hp]; rfl
    have := q3 p (by omega)
    rw [hg, h3] at this
    refine this rfl ?_
    rw [h4]; rfl
end
section
variable {m : GMine} {ls A zs ws : List Int} {F : Int → Option Int} {to a q j k f : Int} {n lo : Nat} {es : List Nat}
theorem no_some {v : Int} (h : (F v).isSome = false) : F v = none := by
  cases e : F v with
  | none => rfl
  | some d => rw [e] at h; cases h
theorem pth_add (hm : okMine m = true) (hl : ∀ i ∈ ls, 0 ≤ i ∧ i < m.airways.length) (j0 : 0 ≤ j) (hj : j < ls.length) (j2 : k.toNat < A.length) (j3 : (n : Int) = A.length - k) (j4 : (zs.drop lo).take n = A.drop k.toNat) (j5 : lo + n ≤ zs.length) (j6 : bfI m ls to A k.toNat F) (j7 : qkI m ls F (A.getD k.toNat 0) j)
    (hb : (otherA (m.airways.getD (ls.getD j.toNat 0).toNat default) (zs.getD lo 0)).2 = true ∧ (F (otherA (m.airways.getD (ls.getD j.toNat 0).toNat default) (zs.getD lo 0)).1).isSome = false) (k0 : 0 ≤ k) :
    0 ≤ j + 1 ∧ j + 1 ≤ ls.length ∧ k.toNat < (A ++ [(otherA (m.airways.getD (ls.getD j.toNat 0).toNat default) (zs.getD lo 0)).1]).length ∧ ((n + 1 : Nat) : Int) = (A ++ [(otherA (m.airways.getD (ls.getD j.toNat 0).toNat default) (zs.getD lo 0)).1]).length - k ∧
      ((A.drop k.toNat ++ [(otherA (m.airways.getD (ls.getD j.toNat 0).toNat default) (zs.getD lo 0)).1]).drop 0).take (n + 1) = (A ++ [(otherA (m.airways.getD (ls.getD j.toNat 0).toNat default) (zs.getD lo 0)).1]).drop k.toNat ∧
      0 + (n + 1) ≤ (A.drop k.toNat ++ [(otherA (m.airways.getD (ls.getD j.toNat 0).toNat default) (zs.getD lo 0)).1]).length ∧
      bfI m ls to (A ++ [(otherA (m.airways.getD (ls.getD j.toNat 0).toNat default) (zs.getD lo 0)).1]) k.toNat (updF F (otherA (m.airways.getD (ls.getD j.toNat 0).toNat default) (zs.getD lo 0)).1 ((F (zs.getD lo 0)).getD 0 + 1)) ∧
      qkI m ls (updF F (otherA (m.airways.getD (ls.getD j.toNat 0).toNat default) (zs.getD lo 0)).1 ((F (zs.getD lo 0)).getD 0 + 1)) ((A ++ [(otherA (m.airways.getD (ls.getD j.toNat 0).toNat default) (zs.getD lo 0)).1]).getD k.toNat 0) (j + 1) := by
  rw [hdD j4 (by omega) j2] at hb ⊢
  have hx := oth_st j0 hj hl hb.1
  refine ⟨by omega, by omega, by simp; omega, by simp; omega, addD (by omega) (by omega), by simp; omega, bfI_add hm j6 j2 hx hb.2, ?_⟩
  rw [getD_app j2]
  exact qk_add j7 j0 rfl
theorem pth_w {A : List Int} (hm : okMine m = true) (j2 : k.toNat < A.length) (j3 : (n : Int) = A.length - k) (j4 : (zs.drop lo).take n = A.drop k.toNat) (j6 : bfI m ls to A k.toNat F) (k0 : 0 ≤ k) : IntKind.i64.wrap ((F (zs.getD (lo + Int.toNat 0) 0)).getD 0 + 1) = (F (zs.getD lo 0)).getD 0 + 1 := by
  have b := bf_b (x := A.getD k.toNat 0) hm j6 (getD_mem j2)
  rw [← hdD j4 (by omega) j2] at b
  show IntKind.i64.wrap ((F (zs.getD lo 0)).getD 0 + 1) = _
  exact wrapI (by omega) (by omega)
theorem way_nx (hm : okMine m = true) (hl : ∀ i ∈ ls, 0 ≤ i ∧ i < m.airways.length) (q0 : 0 ≤ q) (hq : q < ls.length) (l3 : (F a).isSome = true) (hfar : farI m ls to F) (h : (otherA (m.airways.getD (ls.getD q.toNat 0).toNat default) a).2 = true) : (F (otherA (m.airways.getD (ls.getD q.toNat 0).toNat default) a).1).isSome = true ∧ 0 ≤ (F (otherA (m.airways.getD (ls.getD q.toNat 0).toNat default) a).1).getD 0 := by
  obtain ⟨e, h1, _⟩ := hfar.p3 a _ _ (some_fv l3) (oth_st q0 hq hl h)
  have := hfar.nn _ _ h1
  rw [h1]
  exact ⟨rfl, this.1⟩
theorem way_less (hm : okMine m = true) (hl : ∀ i ∈ ls, 0 ≤ i ∧ i < m.airways.length) (q0 : 0 ≤ q) (hq : q < ls.length) (l3 : (F a).isSome = true) (hfar : farI m ls to F)
    (hb : (otherA (m.airways.getD (ls.getD q.toNat 0).toNat default) a).2 = true ∧ (F (otherA (m.airways.getD (ls.getD q.toNat 0).toNat default) a).1).getD 0 = (F a).getD 0 - 1) :
    ((F (otherA (m.airways.getD (ls.getD q.toNat 0).toNat default) a).1).getD 0).toNat < ((F a).getD 0).toNat := by
  have hn := way_nx hm hl q0 hq l3 hfar hb.1
  omega
theorem way_keep (q0 : 0 ≤ q) (q3 : ∀ i : Nat, (i : Int) < q → (otherA (m.airways.getD (ls.getD i 0).toNat default) a).2 = true → ¬(F (otherA (m.airways.getD (ls.getD i 0).toNat default) a).1).getD 0 = (F a).getD 0 - 1)
    (hb : (otherA (m.airways.getD (ls.getD q.toNat 0).toNat default) a).2 = true → ¬(F (otherA (m.airways.getD (ls.getD q.toNat 0).toNat default) a).1).getD 0 = (F a).getD 0 - 1) :
    ∀ i : Nat, (i : Int) < q + 1 → (otherA (m.airways.getD (ls.getD i 0).toNat default) a).2 = true → ¬(F (otherA (m.airways.getD (ls.getD i 0).toNat default) a).1).getD 0 = (F a).getD 0 - 1 := by
  intro i hi
  by_cases e : (i : Int) = q
  · have e2 : q.toNat = i := by omega
    rw [e2] at hb; exact hb
  · exact q3 i (by omega)
end
end Go.Proofs.YtdhkpmaanegjkaaGreat
/- Contracts of functions of the program, and what they compute. Conditions: those that each theorem states. -/
set_option linter.unusedVariables false
set_option linter.unusedSimpArgs false
namespace Go.Proofs.YtdhkpmaanegjkaaGreat
open Go.Av
attribute [local irreducible] Go.IntKind.wrap
set_option maxRecDepth 20000
set_option maxHeartbeats 4000000
inductive SrcX {α : Type} (f : α → List AV) (g : α → List OB) (φ : α → Prop) (c : List Int) (k p : Int) (rs : List AV) (ho : List OB) : Prop
  | mk (v : α) (p' s' : Int) (h1 : rs = f v) (h2 : ho = srcO c p' s' :: g v) (h3 : φ v) (h4 : p ≤ p' ∧ p' ≤ p + k)
theorem ArgF.srx {α : Type} {f : α → List AV} {g : α → List OB} {φ : α → Prop} {c : List Int} {k p : Int} {n : Nat} {P : Program} [Kn P] {fn : FuncId} {args : List AV} {hin : List OB} {K : List AV → List OB → Prop} (h : FnSem P fn args hin (SrcX f g φ c k p)) (hk : ∀ v p' s', φ v → p ≤ p' ∧ p' ≤ p + k → K (f v) (srcO c p' s' :: g v)) : ArgF n P fn args hin K :=
  ⟨_, h, fun rs ho hR _ => by obtain ⟨v, p', s', rfl, rfl, h3, h4⟩ := hR; exact hk v p' s' h3 h4⟩
def absI (n : Int) : Int := max n (0 - n)
theorem c_laws_b10Has (xs : List Int) (x : Int) : FnSem Tryz.prog 11 [Lx (LI xs), In x] [] (Is [Bo (decide (x ∈ xs))] []) := by
  refine FnSem.walk (zs := zeroPV Tryz.prog) (by kernel_rfl) Tryz.func11 rfl Tryz.results11 (by kernel_rfl) (by kernel_rfl) (by kernel_rfl) fun hw hh => ?_
  obtain ⟨w0, w1, _⟩ := hw
  first | replace w0 := wf_LI w0 | skip
  first | replace w1 := wf_I w1 | skip
  repeat' first
    | refine And.intro rfl ?_
    | refine GdF.mk (fun h => h) ?_
    | refine And.intro (Nat.succ_ne_zero _) ?_
    | refine And.intro (Nat.le_of_ble_eq_true rfl) ?_
    | refine SeqF.run ?_
    | refine LoopF.at 2 rfl (LoopF.fix [0, 1] (Int) (fun i => 0 ≤ i ∧ i ≤ xs.length ∧ ∀ j : Nat, (j : Int) < i → ¬xs.getD j 0 = x) (fun i => [(5, In i)]) (fun i => []) (fun i => ((xs.length - i).toNat)) (0) ?_)
    | (refine LoopB.of (T := Int) ?_ ?_; rotate_left; rintro i ⟨h0, h1, h2⟩; rotate_left)
    | refine GhF.go ?_
    | refine EqP.mk _ (gm eI 0 rfl) ?_
    | refine BndF.mk (fun _ => by omega) ?_
    | refine BndF.mk (fun _ => by simp only [lnS]; omega) ?_
    | refine EqI.mk _ (fun _ => wrapI (by omega) (by omega)) ?_
    | refine EqI.mk _ (fun _ => rfl) ?_
    | refine EqN.mk _ (ln eI) ?_
    | refine EqN.mk _ (Nat.zero_add _) ?_
    | refine EqN.mk _ (Int.toNat_natCast _) ?_
    | refine EqN.mk _ rfl ?_
    | (refine CondF.mk (fun hb => ?_) (fun hb => ?_) <;> try simp only [forall_const, eq_self, not_true_eq_false, not_false_eq_true, or_false, false_or, or_self, or_true, true_or, and_true, true_and, and_false, false_and, decide_true, decide_false, Bool.not_true, Bool.not_false, decide_eq_true_eq, decide_eq_false_iff_not, ite_and_p, ite_or_p, Bool.decide_eq_true, Bool.and_eq_true, Bool.or_eq_true, Bool.not_eq_true', Bool.not_eq_false', Bool.and_eq_false_imp, Bool.or_eq_false_iff, bne_iff_ne, beq_iff_eq, bne_eq_false_iff_eq, beq_eq_false_iff_ne, gt_iff_lt, ge_iff_le, Int.not_lt, Int.not_le, ne_eq, Bool.true_eq_false, Bool.false_eq_true, reduceCtorEq, eta_Airway, eta_Fan, eta_Mine] at hb)
    | apply BackF.auto
    | refine BackB.mk ?_ ?_
    | refine RetF.auto (And.intro rfl ?_)
    | exact Is.mk rfl rfl
    | refine Is.mk ?_ rfl
    | refine Is.mk rfl ?_
    | refine Is.mk ?_ ?_
  all_goals try dsimp only
  all_goals try simp only [Bo, I, OB.row.injEq, AV.osl.injEq, eI_same,  List.cons.injEq, AV.p.injEq, PV.c.injEq, Value.int.injEq, Value.bool.injEq, and_true, true_and, ite_and_p, ite_or_p, Bool.decide_eq_true, eta_Airway, eta_Fan, eta_Mine]
  · exact ⟨by omega, by omega, all_0⟩
  · rw [← hb]; exact (decide_eq_true (getD_mem (by omega))).symm
  · exact ⟨by omega, by omega, all_s h0 h2 hb⟩
  · omega
  · refine (decide_eq_false fun hm => ?_).symm
    obtain ⟨j, hj, e⟩ := List.getElem_of_mem hm
    exact h2 j (by omega) (by rw [List.getD_eq_getElem?_getD, List.getElem?_eq_getElem hj]; exact e)
end Go.Proofs.YtdhkpmaanegjkaaGreat
/- Contracts of functions of the program, and what they compute. Conditions: those that each theorem states. -/
set_option linter.unusedVariables false
set_option linter.unusedSimpArgs false
namespace Go.Proofs.YtdhkpmaanegjkaaGreat
open Go.Av
attribute [local irreducible] Go.IntKind.wrap leastI rdZ rd rootI okMine
set_option maxRecDepth 20000
set_option maxHeartbeats 8000000
def bdL (B : Int) (xs : List Int) : Prop := ∀ j : Nat, -B ≤ xs.getD j 0 ∧ xs.getD j 0 ≤ B
def wlk (m : GMine) : List Int → Int → Int
  | [], a => a
  | x :: w, a => if x = 0 ∨ (m.airways.length : Int) < absI x then -1 else if 0 < x ∧ (m.airways.getD (absI x - 1).toNat default).from_ = a then wlk m w (m.airways.getD (absI x - 1).toNat default).to else if x < 0 ∧ (m.airways.getD (absI x - 1).toNat default).to = a then wlk m w (m.airways.getD (absI x - 1).toNat default).from_ else -1
theorem absI_p {x : Int} (h : ¬x < 0) : absI x = x := by unfold absI; omega
section
variable {m : GMine} {g : List Int} {rg : List Bool}
theorem spL_c (hm : okMine m = true) {a : Int} {i : Nat} (hi : i < m.airways.length) (hk : okL m rg a i = true) : (spL m a i = (i : Int) + 1 ∧ (m.airways.getD i default).from_ = a ∧ nxL m a i = (m.airways.getD i default).to ∧ gnL m g a i = g.getD i 0) ∨ (spL m a i = -(i : Int) - 1 ∧ (m.airways.getD i default).to = a ∧ nxL m a i = (m.airways.getD i default).from_ ∧ rg.getD i false = false ∧ gnL m g a i = -g.getD i 0) := by
  have q := okAirway_b ((okMine_p hm).2.2 i (by omega)).1
  unfold okL at hk
  simp only [Bool.or_eq_true, Bool.and_eq_true, decide_eq_true_eq, Bool.not_eq_true'] at hk
  unfold spL nxL gnL
  unfold awI at *
  rcases hk with hk | ⟨hk, hr⟩
  · left; rw [if_pos hk, if_pos hk, if_neg (by omega)]; exact ⟨rfl, hk, rfl, rfl⟩
  · right; rw [if_neg (by omega), if_neg (by omega), if_pos hk]; exact ⟨rfl, hk, rfl, hr, rfl⟩
theorem wlk_c {x : Int} {w : List Int} {a : Int} : wlk m (x :: w) a = if x = 0 ∨ (m.airways.length : Int) < absI x then -1 else if 0 < x ∧ (m.airways.getD (absI x - 1).toNat default).from_ = a then wlk m w (m.airways.getD (absI x - 1).toNat default).to else if x < 0 ∧ (m.airways.getD (absI x - 1).toNat default).to = a then wlk m w (m.airways.getD (absI x - 1).toNat default).from_ else -1 := by
  conv => lhs; unfold wlk
theorem wlk_sp (hm : okMine m = true) : ∀ (es : List Nat) (a : Int), okW m rg a es → wlk m (spW m a es) a = enW m a es
  | [], a, _ => by unfold spW; unfold wlk; rfl
  | i :: es, a, ho => by
    have ih := wlk_sp hm es _ ho.2.2
    have hi := ho.1
    rw [spW, wlk_c]
    rcases spL_c (g := []) hm ho.1 ho.2.1 with ⟨e1, e2, e3, _⟩ | ⟨e1, e2, e3, _, _⟩
    · have ea : absI (spL m a i) = (i : Int) + 1 := by rw [e1]; unfold absI; omega
      rw [ea, if_neg (by omega), if_pos ⟨by omega, by rw [show ((i : Int) + 1 - 1).toNat = i by omega]; exact e2⟩, show ((i : Int) + 1 - 1).toNat = i by omega, ← e3, ih]; rfl
    · have ea : absI (spL m a i) = (i : Int) + 1 := by rw [e1]; unfold absI; omega
      rw [ea, if_neg (by omega), if_neg (fun h => by omega), if_pos ⟨by omega, by rw [show ((i : Int) + 1 - 1).toNat = i by omega]; exact e2⟩, show ((i : Int) + 1 - 1).toNat = i by omega, ← e3, ih]; rfl
end
end Go.Proofs.YtdhkpmaanegjkaaGreat
/- Contracts of functions of the program, and what they compute. Conditions: those that each theorem states. -/
set_option linter.unusedVariables false
set_option linter.unusedSimpArgs false
namespace Go.Proofs.YtdhkpmaanegjkaaGreat
open Go.Av
attribute [local irreducible] Go.IntKind.wrap leastI rdZ rd rootI okMine wlk
set_option maxRecDepth 20000
set_option maxHeartbeats 40000000
section
variable {m : GMine} {T : List Int}
theorem cnA_sym (hm : okMine m = true) {u v : Int} (h : cnA m T u v) : cnA m T v u := by
  obtain ⟨n, hn⟩ := h
  exact ⟨n, wkA_sym hm n u v hn⟩
structure mshP (m : GMine) (w : List Int) : Prop where
  ln : 2 ≤ w.length ∧ w.length ≤ 17
  hd : 1 ≤ w.getD 0 0 ∧ w.getD 0 0 ≤ m.airways.length
  wk : wlk m w (m.airways.getD (w.getD 0 0 - 1).toNat default).from_ = (m.airways.getD (w.getD 0 0 - 1).toNat default).from_
  bd : bdL 24 w
structure mshI (m : GMine) (ss : List (List Int)) (i : Int) : Prop where
  at_ : ∀ j : Nat, j < ss.length → mshP m (ss.getD j [])
  inc : ∀ j : Nat, 0 < j → j < ss.length → (ss.getD (j - 1) []).getD 0 0 < (ss.getD j []).getD 0 0
  le : ∀ j : Nat, j < ss.length → (ss.getD j []).getD 0 0 ≤ i
  ln : (ss.length : Int) ≤ i
theorem mshI_0 : mshI m [] 0 := ⟨fun j h => by simp at h, fun j _ h => by simp at h, fun j h => by simp at h, by simp⟩
theorem mshI_k {ss : List (List Int)} {i : Int} (h : mshI m ss i) : mshI m ss (i + 1) := ⟨h.at_, h.inc, fun j hj => by have := h.le j hj; omega, by have := h.ln; omega⟩
theorem getS {ss : List (List Int)} {w : List Int} {j : Nat} (h : j < ss.length) : (ss ++ [w]).getD j [] = ss.getD j [] := by
  rw [List.getD_eq_getElem?_getD, List.getD_eq_getElem?_getD, List.getElem?_append_left h]
theorem getE {ss : List (List Int)} {w : List Int} : (ss ++ [w]).getD ss.length [] = w := by simp [List.getD_eq_getElem?_getD]
theorem mshI_a {ss : List (List Int)} {i : Int} {w : List Int} (h : mshI m ss i) (hw : mshP m w) (h0 : w.getD 0 0 = i + 1) : mshI m (ss ++ [w]) (i + 1) := by
  refine ⟨fun j hj => ?_, fun j hj0 hj => ?_, fun j hj => ?_, by have := h.ln; simp; omega⟩
  all_goals rw [List.length_append, List.length_singleton] at hj
  · by_cases e : j < ss.length
    · rw [getS e]; exact h.at_ j e
    · rw [show j = ss.length by omega, getE]; exact hw
  · by_cases e : j < ss.length
    · rw [getS e, getS (by omega)]; exact h.inc j hj0 e
    · rw [show j = ss.length by omega, getE, getS (by omega)]
      have := h.le (ss.length - 1) (by omega)
      omega
  · by_cases e : j < ss.length
    · rw [getS e]; have := h.le j e; omega
    · rw [show j = ss.length by omega, getE]; omega
theorem spL_b {a : Int} {i : Nat} (hi : i < m.airways.length) (hl : m.airways.length ≤ 24) : -24 ≤ spL m a i ∧ spL m a i ≤ 24 := by
  unfold spL; split <;> omega
theorem spW_b (hl : m.airways.length ≤ 24) : ∀ (es : List Nat) (a : Int), okW m [] a es → bdL 24 (spW m a es)
  | [], a, _ => fun j => by simp [spW]
  | i :: es, a, ho => fun j => by
    have ih := spW_b hl es _ ho.2.2
    cases j with
    | zero => simpa [spW] using spL_b ho.1 hl
    | succ j => simpa [spW] using ih j
theorem bd_c {x : Int} {w : List Int} (h : bdL 24 w) (hx : -24 ≤ x ∧ x ≤ 24) : bdL 24 (x :: w) := fun j => by
  cases j with
  | zero => simpa using hx
  | succ j => simpa using h j
theorem msh_of (hm : okMine m = true) {i : Int} (h0 : 0 ≤ i) (hi : i < m.airways.length) {es : List Nat} {ws : List Int} {n : Nat} (hw : wayI m T (m.airways.getD i.toNat default).to (m.airways.getD i.toNat default).from_ es ws) (h3 : n = ws.length) (h4 : n = es.length) (h5 : dsA m T n (m.airways.getD i.toNat default).to (m.airways.getD i.toNat default).from_) (h6 : n ≤ 16) : mshP m ((i + 1) :: ws) := by
  have q := okMine_p hm
  have qa := okAirway_b (q.2.2 i.toNat (by omega)).1
  have hn : 0 < n := by
    cases n with
    | zero => have := h5.1; exact absurd (show (m.airways.getD i.toNat default).to = (m.airways.getD i.toNat default).from_ from this) (by omega)
    | succ n => omega
  refine ⟨by simp; omega, by simp; omega, ?_, bd_c ?_ (by omega)⟩
  · rw [List.getD_cons_zero, show i + 1 - 1 = i by omega, wlk_c]
    have ea : absI (i + 1) = i + 1 := absI_p (by omega)
    rw [ea, if_neg (by omega), show i + 1 - 1 = i by omega, if_pos ⟨by omega, rfl⟩, hw.sp, wlk_sp hm es _ hw.ok, hw.en]
  · rw [hw.sp]; exact spW_b q.2.1 es _ hw.ok
end
theorem capT {x : Int} {ws : List Int} {n : Nat} (h : ws.length + 1 ≤ n) : ((List.map eI (x :: ws)).drop 0).take n = List.map eI (x :: ws) := by
  rw [List.drop_zero, List.take_of_length_le (by simp; omega)]
end Go.Proofs.YtdhkpmaanegjkaaGreat
/- Contracts of functions of the program, and what they compute. Conditions: those that each theorem states. -/
set_option linter.unusedVariables false
set_option linter.unusedSimpArgs false
namespace Go.Proofs.YtdhkpmaanegjkaaGreat
open Go.Av
attribute [local irreducible] Go.IntKind.wrap leastI rdZ rd rootI
set_option maxRecDepth 20000
set_option maxHeartbeats 4000000
theorem mulB {a b A B : Int} (h1 : -A ≤ a ∧ a ≤ A) (h3 : 0 ≤ b ∧ b ≤ B) : -(A * B) ≤ a * b ∧ a * b ≤ A * B := by
  have g1 := Int.mul_le_mul_of_nonneg_left h3.2 (show 0 ≤ A by omega)
  have g2 := Int.mul_le_mul_of_nonneg_right h1.2 h3.1
  have g3 := Int.mul_le_mul_of_nonneg_right h1.1 h3.1
  rw [Int.neg_mul] at g3
  omega
def dropI (r q : Int) : Int := rdZ (r * q * max q (-q)) 10000000000
theorem dropI_b {r q : Int} (hr : 1 ≤ r ∧ r ≤ 1000000) (hq : -100000 ≤ q ∧ q ≤ 100000) : (-100000000000 ≤ r * q ∧ r * q ≤ 100000000000) ∧ (-10000000000000000 ≤ r * q * max q (-q) ∧ r * q * max q (-q) ≤ 10000000000000000) ∧ -1000000 ≤ dropI r q ∧ dropI r q ≤ 1000000 := by
  have h1 := mulB (a := q) (b := r) (A := 100000) (B := 1000000) hq (by omega)
  rw [Int.mul_comm q r] at h1
  have h2 := mulB (a := r * q) (b := max q (-q)) (A := 100000000000) (B := 100000) (by omega) (by omega)
  have h3 := rdZ_lo (a := -1000000) (x := r * q * max q (-q)) (y := 10000000000) (by omega) (by omega)
  have h4 := rdZ_hi (b := 1000000) (x := r * q * max q (-q)) (y := 10000000000) (by omega) (by omega)
  unfold dropI
  omega
theorem c_impl_dropOf (r q : Int) (hr : 1 ≤ r ∧ r ≤ 1000000) (hq : -100000 ≤ q ∧ q ≤ 100000) : FnSem Tryz.prog 95 [In r, In q] [] (Is [In (dropI r q)] []) := by
  have hb := dropI_b hr hq
  have e : IntKind.i64.wrap (0 - q) = -q := by rw [wrapI (by omega) (by omega)]; omega
  have ha := c_impl_abs q
  rw [e] at ha
  refine FnSem.walk (zs := zeroPV Tryz.prog) (by kernel_rfl) Tryz.func95 rfl Tryz.results95 (by kernel_rfl) (by kernel_rfl) (by kernel_rfl) fun hw hh => ?_
  obtain ⟨w0, w1, _⟩ := hw
  first | replace w0 := wf_I w0 | skip
  first | replace w1 := wf_I w1 | skip
  repeat' first
    | refine And.intro rfl ?_
    | refine GdF.mk (fun h => h) ?_
    | refine And.intro (Nat.succ_ne_zero _) ?_
    | refine And.intro (Nat.le_of_ble_eq_true rfl) ?_
    | refine SeqF.run ?_
    | refine ArgF.is (ha) ?_
    | refine ArgQ.is (fun hG => ha) rfl rfl ?_
    | refine ArgF.is (divRoundZ (r * q * max q (-q)) 10000000000 (by omega) (by omega) (by omega)) ?_
    | refine ArgQ.is (fun hG => divRoundZ (r * q * max q (-q)) 10000000000 (by omega) (by omega) (by omega)) rfl rfl ?_
    | refine GhF.go ?_
    | refine BndF.mk (fun _ => by omega) ?_
    | refine BndF.mk (fun _ => by simp only [lnS]; omega) ?_
    | refine EqI.mk _ (fun _ => wrapI (by omega) (by omega)) ?_
    | refine EqI.mk _ (fun _ => rfl) ?_
    | refine EqL.mk [] rfl ?_
    | refine EqL.mk [_] rfl ?_
    | refine EqL.mk _ rfl ?_
    | refine ArgF.is (c_impl_abs ..) ?_
    | refine ArgQ.is (fun hG => c_impl_abs ..) rfl rfl ?_
    | refine ArgF.is (c_impl_divRound _ _ (by first | assumption | omega) (by first | assumption | omega) (by first | assumption | omega) (by first | assumption | omega)) ?_
    | refine ArgQ.is (fun hG => c_impl_divRound _ _ (by first | assumption | omega) (by first | assumption | omega) (by first | assumption | omega) (by first | assumption | omega)) rfl rfl ?_
    | refine CallF.mk (CallW.is [] true rfl ?_)
    | refine CallG.mk ?_
    | (refine CondF.mk (fun hb => ?_) (fun hb => ?_) <;> try simp only [forall_const, eq_self, not_true_eq_false, not_false_eq_true, or_false, false_or, or_self, or_true, true_or, and_true, true_and, and_false, false_and, decide_true, decide_false, Bool.not_true, Bool.not_false, decide_eq_true_eq, decide_eq_false_iff_not, ite_and_p, ite_or_p, Bool.decide_eq_true, Bool.and_eq_true, Bool.or_eq_true, Bool.not_eq_true', Bool.not_eq_false', Bool.and_eq_false_imp, Bool.or_eq_false_iff, bne_iff_ne, beq_iff_eq, bne_eq_false_iff_eq, beq_eq_false_iff_ne, gt_iff_lt, ge_iff_le, Int.not_lt, Int.not_le, ne_eq, Bool.true_eq_false, Bool.false_eq_true, reduceCtorEq, eta_Airway, eta_Fan, eta_Mine] at hb)
    | refine RetF.auto (And.intro rfl ?_)
    | exact Is.mk rfl rfl
    | refine Is.mk ?_ rfl
    | refine Is.mk rfl ?_
    | refine Is.mk ?_ ?_
end Go.Proofs.YtdhkpmaanegjkaaGreat
