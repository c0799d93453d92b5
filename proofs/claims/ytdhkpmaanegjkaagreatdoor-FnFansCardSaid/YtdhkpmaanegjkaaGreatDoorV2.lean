/- Contracts of functions of the program, and what they compute. Conditions: those that each theorem states. -/
import Derived.Test.YtdhkpmaanegjkaaGreatDoorProg
import Derived.Test.YtdhkpmaanegjkaaGreatDoorV1
set_option linter.unusedVariables false
set_option linter.unusedSimpArgs false
namespace Go.Proofs.YtdhkpmaanegjkaaGreatDoor
open Go.Av
attribute [local irreducible] Go.IntKind.wrap leastI rdZ rd rootI rawA okMine
set_option maxRecDepth 20000
set_option maxHeartbeats 8000000
section
variable {m : GMine} {ls A : List Int} {f x : Int} {j k : Int}
def qjI (m : GMine) (ls A : List Int) (x j : Int) : Prop := ∀ i : Nat, (i : Int) < j → ∀ u, otherA (m.airways.getD (ls.getD i 0).toNat default) x = (u, true) → u ∈ A
theorem qj_0 : qjI m ls A x 0 := fun i hi => absurd hi (by omega)
theorem qj_add (h : qjI m ls A x j) (h0 : 0 ≤ j) {v : Int} (hv : v = (otherA (m.airways.getD (ls.getD j.toNat 0).toNat default) x).1) : qjI m ls (A ++ [v]) x (j + 1) := by
  intro i hi u hu
  by_cases e : (i : Int) = j
  · rw [show j.toNat = i by omega, hu] at hv
    rw [hv]; simp
  · exact List.mem_append_left _ (h i (by omega) u hu)
theorem qj_keep (h : qjI m ls A x j) (h0 : 0 ≤ j) (hk : (otherA (m.airways.getD (ls.getD j.toNat 0).toNat default) x).2 = true → (otherA (m.airways.getD (ls.getD j.toNat 0).toNat default) x).1 ∈ A) : qjI m ls A x (j + 1) := by
  intro i hi u hu
  by_cases e : (i : Int) = j
  · rw [show j.toNat = i by omega, hu] at hk
    exact hk rfl
  · exact h i (by omega) u hu
theorem qj_end (h : qjI m ls A x j) (hj : ls.length ≤ j) : ∀ u, stA m ls x u → u ∈ A := by
  rintro u ⟨i, h1, h2, h3⟩
  obtain ⟨p, hp, rfl⟩ := List.getElem_of_mem h1
  refine h p (by omega) u ?_
  rw [show ls.getD p 0 = ls[p] by rw [List.getD_eq_getElem?_getD, List.getElem?_eq_getElem hp]; rfl]
  exact h3
theorem oth_st (h0 : 0 ≤ j) (hj : j < ls.length) (hl : ∀ i ∈ ls, 0 ≤ i ∧ i < m.airways.length) (h : (otherA (m.airways.getD (ls.getD j.toNat 0).toNat default) x).2 = true) : stA m ls x (otherA (m.airways.getD (ls.getD j.toNat 0).toNat default) x).1 :=
  ⟨ls.getD j.toNat 0, getD_mem (by omega), hl _ (getD_mem (by omega)), by rw [← h]⟩
theorem lsB (hl : ∀ i ∈ ls, 0 ≤ i ∧ i < m.airways.length) (h0 : 0 ≤ j) (hj : j < ls.length) : 0 ≤ ls.getD j.toNat 0 ∧ ls.getD j.toNat 0 < m.airways.length := hl _ (getD_mem (by omega))
end
theorem take_all {A : List Int} {n : Nat} (h : n = A.length) : A.take n = A := by rw [h, List.take_length]
theorem c_impl_Mine_reached (m : GMine) (f : Int) (ls : List Int) (hm : okMine m = true) (hf : inV m f) (hl : ∀ i ∈ ls, 0 ≤ i ∧ i < m.airways.length) (hll : ls.length ≤ 1000) : FnSem Tryz.prog 37 [.p .any (.agg m.cells), In f, Lx (LI ls)] [] (RetV (fun v : Nat × List Int => [.osl 0 0 v.1]) (fun v => [.row false .flat (eI 0) (v.2.map eI)]) (fun v => v.1 = v.2.length ∧ v.1 ≤ 16 ∧ ∀ u, u ∈ v.2 ↔ cnA m ls f u)) := by
  have hJ := (okMine_p hm).1
  refine FnSem.old ?_
  refine FnSem.walk (zs := zeroPV Tryz.prog) (by kernel_rfl) Tryz.func37 rfl Tryz.results37 (by kernel_rfl) (by kernel_rfl) (by kernel_rfl) fun hw hh => ?_
  obtain ⟨w0, w1, w2, _⟩ := hw
  first | replace w0 := wf_Mine w0 | skip
  first | replace w1 := wf_I w1 | skip
  first | replace w2 := wf_LI w2 | skip
  repeat' first
    | refine And.intro rfl ?_
    | refine GdF.mk (fun h => h) ?_
    | refine And.intro (Nat.succ_ne_zero _) ?_
    | refine And.intro (Nat.le_of_ble_eq_true rfl) ?_
    | refine SeqF.run ?_
    | refine GhF.at 2 rfl [.old 2] ?_
    | refine OpH.heap ?_
    | refine GhF.held 8 rfl [(9, [])] ?_
    | refine ArgF.is (c_impl_Airway_other (m.airways.getD (ls.getD j.toNat 0).toNat default) (A'.getD k.toNat 0)) ?_
    | refine ArgQ.is (fun hG => c_impl_Airway_other (m.airways.getD (ls.getD j.toNat 0).toNat default) (A'.getD k.toNat 0)) rfl rfl ?_
    | refine LoopF.at 3 rfl (LoopF.fix [2, 3] (Int × Nat × List Int) (fun (k, n, A) => 0 ≤ k ∧ k ≤ n ∧ n = A.length ∧ rcI m ls f A k.toNat) (fun (k, n, A) => [(8, In k), (7, .osl 1 0 n)]) (fun (k, n, A) => [(1, .row false .flat (eI 0) (A.map eI))]) (fun (k, n, A) => ((m.junctions - k).toNat)) ((0, 1, [f])) ?_)
    | (refine LoopB.of (T := Int × Nat × List Int) ?_ ?_; rotate_left; rintro ⟨k, n, A⟩ ⟨k0, k1, k2, k3⟩; rotate_left)
    | refine LoopF.at 6 rfl (LoopF.fix [2, 3, 8, 21, 22] (Int × List Int × Nat) (fun (j, A', n') => 0 ≤ j ∧ j ≤ ls.length ∧ k < n' ∧ n' = A'.length ∧ rcI m ls f A' k.toNat ∧ qjI m ls A' (A'.getD k.toNat 0) j) (fun (j, A', n') => [(23, In j), (7, .osl 1 0 n')]) (fun (j, A', n') => [(1, .row false .flat (eI 0) (A'.map eI))]) (fun (j, A', n') => ((ls.length - j).toNat)) ((0, A, n)) ?_)
    | (refine LoopB.of (T := Int × List Int × Nat) ?_ ?_; rotate_left; rintro ⟨j, A', n'⟩ ⟨j0, j1, j2, j3, j4, j5⟩; rotate_left)
    | refine BndF.mk (fun _ => by have a := lsB hl j0 (by assumption); have b := rcI_len hm j4; first | omega | (simp only [List.length_map]; omega)) ?_
    | refine EqL.mk _ (tkT (take_all j3)) ?_
    | refine EqL.mk _ (snT (take_all j3)) ?_
    | refine EqI.mk _ (fun _ => by have b := rcI_len hm j4; exact wrapI (by omega) (by omega)) ?_
    | refine RetV.mk (α := Nat × List Int) (_, _) rfl rfl ?_
    | refine HdF.at 14 rfl 0 [] (And.intro (by decide +kernel) (And.intro rfl ?_))
    | refine HdF.at 13 rfl 1 [3, 4, 9, 10, 11, 12, 13, 14] (And.intro (by decide +kernel) (And.intro rfl ?_))
    | refine HdF.at 12 rfl 2 [] (And.intro (by decide +kernel) (And.intro rfl ?_))
    | refine HdF.at 11 rfl 3 [] (And.intro (by decide +kernel) (And.intro rfl ?_))
    | refine HdF.at 10 rfl 4 [9, 10, 11, 12, 13, 14] (And.intro (by decide +kernel) (And.intro rfl ?_))
    | refine HdF.at 9 rfl 5 [] (And.intro (by decide +kernel) (And.intro rfl ?_))
    | refine HdF.at 8 rfl 6 [] (And.intro (by decide +kernel) (And.intro rfl ?_))
    | refine HdF.at 7 rfl 7 [] (And.intro (by decide +kernel) (And.intro rfl ?_))
    | refine HdF.at 6 rfl 8 [9, 10, 11, 12, 13, 14] (And.intro (by decide +kernel) (And.intro rfl ?_))
    | refine HdF.goAt 5 rfl ?_
    | refine OrdL.ord ?_
    | refine OrdF.take 10 (by decide +kernel) (And.intro rfl ?_)
    | refine OrdF.take 11 (by decide +kernel) (And.intro rfl ?_)
    | refine OrdF.take 12 (by decide +kernel) (And.intro rfl ?_)
    | refine OrdF.take 13 (by decide +kernel) (And.intro rfl ?_)
    | refine OrdF.take 14 (by decide +kernel) (And.intro rfl ?_)
    | refine OrdF.all [9] (by decide +kernel) ?_
    | refine OrdF.fin (by decide +kernel) ?_
    | refine AllF.one _ ?_
    | refine AllF.cons _ _ ?_ ?_
    | refine OpH.quiet rfl ?_
    | refine OpH.heap ?_
    | refine GhF.go ?_
    | refine GdS.keep ?_
    | refine DrawG.old (DrawF.lex (by decide +kernel) ?_)
    | refine MkF.row ?_
    | refine EqP.mk _ (gm GAirway.cells default rfl) ?_
    | refine EqP.mk _ (gm eI 0 rfl) ?_
    | refine BndF.mk (fun _ => by omega) ?_
    | refine BndF.mk (fun _ => by simp only [lnS]; omega) ?_
    | refine BndF.mk (fun hG => by simp only [forall_const, eq_self, not_true_eq_false, not_false_eq_true, or_false, false_or, or_self, or_true, true_or, and_true, true_and, and_false, false_and, decide_true, decide_false, Bool.not_true, Bool.not_false, decide_eq_true_eq, decide_eq_false_iff_not, ite_and_p, ite_or_p, Bool.decide_eq_true, Bool.and_eq_true, Bool.or_eq_true, Bool.not_eq_true', Bool.not_eq_false', Bool.and_eq_false_imp, Bool.or_eq_false_iff, bne_iff_ne, beq_iff_eq, bne_eq_false_iff_eq, beq_eq_false_iff_ne, gt_iff_lt, ge_iff_le, Int.not_lt, Int.not_le, ne_eq, Bool.true_eq_false, Bool.false_eq_true, reduceCtorEq, eta_Airway, eta_Fan, eta_Mine, bytes_nil] at hG; (try simp only [List.length_map]); omega) ?_
    | refine EqI.mk _ (fun _ => wrapI (by omega) (by omega)) ?_
    | refine EqI.mk _ (fun _ => rfl) ?_
    | refine FlF.keep ?_
    | refine EqN.mk _ (ln GAirway.cells) ?_
    | refine EqN.mk _ (ln eI) ?_
    | refine EqN.mk _ (Nat.zero_add _) ?_
    | refine EqN.mk (_ + 1) rfl ?_
    | refine EqN.mk _ (Int.toNat_natCast _) ?_
    | refine EqN.mk _ rfl ?_
    | refine EqL.mk _ (sn0 GAirway.cells) ?_
    | refine EqL.mk _ (sn GAirway.cells (by first | rfl | assumption | omega | (simp only [lnS] <;> omega))) ?_
    | refine EqL.mk _ (ap0 GAirway.cells) ?_
    | refine EqL.mk _ (ap GAirway.cells (by first | rfl | assumption | omega | (simp only [lnS] <;> omega))) ?_
    | refine EqL.mk _ (tk GAirway.cells (by first | rfl | assumption | omega | (simp only [lnS] <;> omega))) ?_
    | refine EqL.mk _ (dt GAirway.cells) ?_
    | refine EqL.mk _ (sn0 eI) ?_
    | refine EqL.mk _ (sn eI (by first | rfl | assumption | omega | (simp only [lnS] <;> omega))) ?_
    | refine EqL.mk _ (ap0 eI) ?_
    | refine EqL.mk _ (ap eI (by first | rfl | assumption | omega | (simp only [lnS] <;> omega))) ?_
    | refine EqL.mk _ (tk eI (by first | rfl | assumption | omega | (simp only [lnS] <;> omega))) ?_
    | refine EqL.mk _ (dt eI) ?_
    | refine EqL.mk [] rfl ?_
    | refine EqL.mk [_] rfl ?_
    | refine EqL.mk _ rfl ?_
    | refine ArgF.is (c_impl_Airway_other ⟨_, _, _, _, _, _, _⟩ _) ?_
    | refine ArgQ.is (fun hG => c_impl_Airway_other ⟨_, _, _, _, _, _, _⟩ _) rfl rfl ?_
    | refine ArgF.is (c_slices_Contains_int64_int64 ..) ?_
    | refine ArgQ.is (fun hG => c_slices_Contains_int64_int64 ..) rfl rfl ?_
    | refine CallF.mk (CallW.is [] true rfl ?_)
    | refine CallG.mk ?_
    | (refine CondF.mk (fun hb => ?_) (fun hb => ?_) <;> try simp only [forall_const, eq_self, not_true_eq_false, not_false_eq_true, or_false, false_or, or_self, or_true, true_or, and_true, true_and, and_false, false_and, decide_true, decide_false, Bool.not_true, Bool.not_false, decide_eq_true_eq, decide_eq_false_iff_not, ite_and_p, ite_or_p, Bool.decide_eq_true, Bool.and_eq_true, Bool.or_eq_true, Bool.not_eq_true', Bool.not_eq_false', Bool.and_eq_false_imp, Bool.or_eq_false_iff, bne_iff_ne, beq_iff_eq, bne_eq_false_iff_eq, beq_eq_false_iff_ne, gt_iff_lt, ge_iff_le, Int.not_lt, Int.not_le, ne_eq, Bool.true_eq_false, Bool.false_eq_true, reduceCtorEq, eta_Airway, eta_Fan, eta_Mine] at hb)
    | apply BackF.auto3
    | refine BackB.mk ?_ ?_
    | refine RetF.auto (And.intro rfl ?_)
    | exact Is.mk rfl rfl
    | refine Is.mk ?_ rfl
    | refine Is.mk rfl ?_
    | refine Is.mk ?_ ?_
  all_goals try dsimp only
  all_goals first
    | omega
    | exact ⟨by omega, by omega, rfl, rcI_0 hf⟩
    | exact ⟨by omega, by omega, by omega, k2, k3, qj_0⟩
    | (have hx := oth_st j0 (by omega) hl hb.1
       refine ⟨by omega, by omega, by omega, by simp [j3], rcI_add hm j4 (by omega) hx hb.2, ?_⟩
       rw [getD_app (by omega)]
       exact qj_add j5 j0 rfl)
    | exact ⟨by omega, by omega, j2, j3, j4, qj_keep j5 j0 hb⟩
    | (have b := rcI_len hm j4
       refine ⟨by omega, by omega, j3, ?_⟩
       rw [show (k + 1).toNat = k.toNat + 1 by omega]
       exact rcI_s j4 (qj_end j5 hb))
    | (have b := rcI_len hm k3
       exact ⟨k2, by omega, fun u => rcI_end k3 (by omega) u⟩)
    | (have b := rcI_len hm k3; omega)
    | (have b := rcI_len hm j4; omega)
    | skip
structure trI (m : GMine) (T : List Int) (i : Int) : Prop where
  rg : ∀ x ∈ T, 0 ≤ x ∧ x < i
  so : T.Pairwise (· < ·)
  cn : ∀ x : Int, 0 ≤ x → x < i → x ∉ T → cnA m T (m.airways.getD x.toNat default).from_ (m.airways.getD x.toNat default).to
theorem trI_0 {m : GMine} : trI m [] 0 := ⟨by simp, by simp, fun x h0 h1 => by omega⟩
theorem trI_add {m : GMine} {T : List Int} {i : Int} (h : trI m T i) (h0 : 0 ≤ i) : trI m (T ++ [i]) (i + 1) where
  rg := fun x hx => by
    rcases List.mem_append.1 hx with hx | hx
    · have := h.rg x hx; omega
    · rw [List.mem_singleton.1 hx]; omega
  so := by
    rw [List.pairwise_append]
    exact ⟨h.so, by simp, fun a ha b hb => by rw [List.mem_singleton.1 hb]; exact (h.rg a ha).2⟩
  cn := fun x h1 h2 hx => by
    rw [List.mem_append, not_or] at hx
    have e : x ≠ i := fun e => hx.2 (by rw [e]; simp)
    obtain ⟨n, hn⟩ := h.cn x h1 (by omega) hx.1
    exact ⟨n, wkA_mono (fun y hy => List.mem_append_left _ hy) n _ _ hn⟩
theorem trI_keep {m : GMine} {T : List Int} {i : Int} (h : trI m T i) (h0 : 0 ≤ i) (hc : cnA m T (m.airways.getD i.toNat default).from_ (m.airways.getD i.toNat default).to) : trI m T (i + 1) where
  rg := fun x hx => by have := h.rg x hx; omega
  so := h.so
  cn := fun x h1 h2 hx => by
    by_cases e : x = i
    · rw [e]; exact hc
    · exact h.cn x h1 (by omega) hx
theorem trI_len {m : GMine} {T : List Int} {i : Int} (h : trI m T i) (h0 : 0 ≤ i) : (T.length : Int) ≤ i := by
  have := pigW i.toNat T (h.so.imp fun e => by omega) (fun x hx => by have := h.rg x hx; omega)
  omega
theorem c_impl_Mine_tree (m : GMine) (hm : okMine m = true) : FnSem Tryz.prog 34 [.p .any (.agg m.cells)] [] (RetV (fun v : Nat × List Int => [.osl 0 0 v.1]) (fun v => [.row false .flat (eI 0) (v.2.map eI)]) (fun v => v.1 = v.2.length ∧ trI m v.2 m.airways.length)) := by
  have hmp := okMine_p hm
  refine FnSem.old ?_
  refine FnSem.walk (zs := zeroPV Tryz.prog) (by kernel_rfl) Tryz.func34 rfl Tryz.results34 (by kernel_rfl) (by kernel_rfl) (by kernel_rfl) fun hw hh => ?_
  obtain ⟨w0, _⟩ := hw
  first | replace w0 := wf_Mine w0 | skip
  have hwl := w0.2.1
  repeat' first
    | refine And.intro rfl ?_
    | refine GdF.mk (fun h => h) ?_
    | refine And.intro (Nat.succ_ne_zero _) ?_
    | refine And.intro (Nat.le_of_ble_eq_true rfl) ?_
    | refine SeqF.run ?_
    | refine GhF.at 2 rfl [.old 2] ?_
    | refine OpH.heap ?_
    | refine GhF.held 5 rfl [(4, [1]), (7, [])] ?_
    | refine BndF.mk (fun _ => by have := trI_len i3 i0; omega) ?_
    | (refine ArgF.ret (c_impl_Mine_reached m (m.airways.getD i.toNat default).from_ T hm ((hmp.2.2 i.toNat (by omega)).2.1) (fun x hx => by have := i3.rg x hx; omega) (by have := trI_len i3 i0; omega)) ?_; rintro ⟨k, ys⟩ ⟨q1, q2, q3⟩; dsimp only at q1 q2 q3)
    | refine LoopF.at 3 rfl (LoopF.fix [1, 7, 8] (Int × Nat × List Int) (fun (i, n, T) => 0 ≤ i ∧ i ≤ m.airways.length ∧ n = T.length ∧ trI m T i) (fun (i, n, T) => [(9, In i), (3, .osl 1 0 n)]) (fun (i, n, T) => [(1, .row false .flat (eI 0) (T.map eI))]) (fun (i, n, T) => ((m.airways.length - i).toNat)) ((0, 0, [])) ?_)
    | (refine LoopB.of (T := Int × Nat × List Int) ?_ ?_; rotate_left; rintro ⟨i, n, T⟩ ⟨i0, i1, i2, i3⟩; rotate_left)
    | refine EqL.mk _ (tkT (take_all i2)) ?_
    | refine EqL.mk _ (snT (take_all i2)) ?_
    | refine EqL.mk _ (tkT (take_all q1)) ?_
    | refine RetV.mk (α := Nat × List Int) (_, _) rfl rfl ?_
    | refine HdF.at 8 rfl 0 [4, 7, 8] (And.intro (by decide +kernel) (And.intro rfl ?_))
    | refine HdF.at 7 rfl 1 [] (And.intro (by decide +kernel) (And.intro rfl ?_))
    | refine HdF.at 6 rfl 2 [4, 7, 8] (And.intro (by decide +kernel) (And.intro rfl ?_))
    | refine HdF.at 5 rfl 3 [] (And.intro (by decide +kernel) (And.intro rfl ?_))
    | refine HdF.at 4 rfl 5 [] (And.intro (by decide +kernel) (And.intro rfl ?_))
    | refine HdF.at 3 rfl 6 [7, 8] (And.intro (by decide +kernel) (And.intro rfl ?_))
    | refine HdF.goAt 2 rfl ?_
    | refine OrdL.ord ?_
    | refine OrdF.take 8 (by decide +kernel) (And.intro rfl ?_)
    | refine OrdF.all [7] (by decide +kernel) ?_
    | refine OrdF.all [4] (by decide +kernel) ?_
    | refine OrdF.fin (by decide +kernel) ?_
    | refine AllF.one _ ?_
    | refine AllF.cons _ _ ?_ ?_
    | refine OpH.quiet rfl ?_
    | refine OpH.heap ?_
    | refine GhF.go ?_
    | refine DrawG.old (DrawF.lex (by decide +kernel) ?_)
    | refine MkF.row ?_
    | refine EqP.mk _ (gm GAirway.cells default rfl) ?_
    | refine EqP.mk _ (gm eI 0 rfl) ?_
    | refine BndF.mk (fun _ => by omega) ?_
    | refine BndF.mk (fun _ => by simp only [lnS]; omega) ?_
    | refine EqI.mk _ (fun _ => wrapI (by omega) (by omega)) ?_
    | refine EqI.mk _ (fun _ => rfl) ?_
    | refine FlF.keep ?_
    | refine EqN.mk _ (ln GAirway.cells) ?_
    | refine EqN.mk _ (ln eI) ?_
    | refine EqN.mk _ (Nat.zero_add _) ?_
    | refine EqN.mk (_ + 1) rfl ?_
    | refine EqN.mk _ (Int.toNat_natCast _) ?_
    | refine EqN.mk _ rfl ?_
    | refine EqL.mk _ (sn0 GAirway.cells) ?_
    | refine EqL.mk _ (sn GAirway.cells (by first | rfl | assumption | omega | (simp only [lnS] <;> omega))) ?_
    | refine EqL.mk _ (ap0 GAirway.cells) ?_
    | refine EqL.mk _ (ap GAirway.cells (by first | rfl | assumption | omega | (simp only [lnS] <;> omega))) ?_
    | refine EqL.mk _ (tk GAirway.cells (by first | rfl | assumption | omega | (simp only [lnS] <;> omega))) ?_
    | refine EqL.mk _ (st GAirway.cells) ?_
    | refine EqL.mk _ (dt GAirway.cells) ?_
    | refine EqL.mk _ (sn0 eI) ?_
    | refine EqL.mk _ (sn eI (by first | rfl | assumption | omega | (simp only [lnS] <;> omega))) ?_
    | refine EqL.mk _ (ap0 eI) ?_
    | refine EqL.mk _ (ap eI (by first | rfl | assumption | omega | (simp only [lnS] <;> omega))) ?_
    | refine EqL.mk _ (tk eI (by first | rfl | assumption | omega | (simp only [lnS] <;> omega))) ?_
    | refine EqL.mk _ (st eI) ?_
    | refine EqL.mk _ (dt eI) ?_
    | refine EqL.mk [] rfl ?_
    | refine EqL.mk [_] rfl ?_
    | refine EqL.mk _ rfl ?_
    | refine ArgF.is (c_impl_Mine_reached ⟨_, _⟩ _ _ (by first | assumption | omega) (by first | assumption | omega) (by first | assumption | omega) (by first | assumption | omega)) ?_
    | refine ArgQ.is (fun hG => c_impl_Mine_reached ⟨_, _⟩ _ _ (by first | assumption | omega) (by first | assumption | omega) (by first | assumption | omega) (by first | assumption | omega)) rfl rfl ?_
    | refine ArgF.is (c_slices_Contains_int64_int64 ..) ?_
    | refine ArgQ.is (fun hG => c_slices_Contains_int64_int64 ..) rfl rfl ?_
    | refine CallF.mk (CallW.is [] true rfl ?_)
    | refine CallG.mk ?_
    | (refine CondF.mk (fun hb => ?_) (fun hb => ?_) <;> try simp only [forall_const, eq_self, not_true_eq_false, not_false_eq_true, or_false, false_or, or_self, or_true, true_or, and_true, true_and, and_false, false_and, decide_true, decide_false, Bool.not_true, Bool.not_false, decide_eq_true_eq, decide_eq_false_iff_not, ite_and_p, ite_or_p, Bool.decide_eq_true, Bool.and_eq_true, Bool.or_eq_true, Bool.not_eq_true', Bool.not_eq_false', Bool.and_eq_false_imp, Bool.or_eq_false_iff, bne_iff_ne, beq_iff_eq, bne_eq_false_iff_eq, beq_eq_false_iff_ne, gt_iff_lt, ge_iff_le, Int.not_lt, Int.not_le, ne_eq, Bool.true_eq_false, Bool.false_eq_true, reduceCtorEq, eta_Airway, eta_Fan, eta_Mine] at hb)
    | apply BackF.auto3
    | refine BackB.mk ?_ ?_
    | refine RetF.auto (And.intro rfl ?_)
    | exact Is.mk rfl rfl
    | refine Is.mk ?_ rfl
    | refine Is.mk rfl ?_
    | refine Is.mk ?_ ?_
  all_goals try dsimp only
  all_goals first
    | omega
    | exact ⟨by omega, by omega, rfl, trI_0⟩
    | exact ⟨by omega, by omega, by simp [i2], trI_add i3 i0⟩
    | exact ⟨by omega, by omega, i2, trI_keep i3 i0 ((q3 _).1 hb)⟩
    | exact ⟨i2, by rw [show (m.airways.length : Int) = i by omega]; exact i3⟩
    | skip
theorem all_i {ys : List Int} {L : Nat} (h : ys.length = L) (h2 : ∀ j : Nat, (j : Int) < L → ys.getD j 0 = j) : ys = iotaI 0 L :=
  iota_of h fun j hj => by rw [h2 j (by omega)]; omega
theorem c_impl_Mine_all (m : GMine) (hm : m.airways.length ≤ 1000) : FnSem Tryz.prog 38 [.p .any (.agg m.cells)] [] (Is [.osl 0 0 m.airways.length] [Rw .flat (eI 0) ((iotaI 0 m.airways.length).map eI)]) := by
  refine FnSem.walk (zs := zeroPV Tryz.prog) (by kernel_rfl) Tryz.func38 rfl Tryz.results38 (by kernel_rfl) (by kernel_rfl) (by kernel_rfl) fun hw hh => ?_
  obtain ⟨w0, _⟩ := hw
  first | replace w0 := wf_Mine w0 | skip
  have hwl := w0.2.1
  repeat' first
    | refine And.intro rfl ?_
    | refine GdF.mk (fun h => h) ?_
    | refine And.intro (Nat.succ_ne_zero _) ?_
    | refine And.intro (Nat.le_of_ble_eq_true rfl) ?_
    | refine SeqF.run ?_
    | refine EqL.mk _ (stI (by kernel_rfl)) ?_
    | refine LoopF.at 3 rfl (LoopF.fix [3, 10] (Int × List Int) (fun (i, ys) => 0 ≤ i ∧ i ≤ m.airways.length ∧ ys.length = m.airways.length ∧ ∀ j : Nat, (j : Int) < i → ys.getD j 0 = j) (fun (i, ys) => [(11, In i)]) (fun (i, ys) => [(0, Rw .flat (eI 0) (ys.map eI))]) (fun (i, ys) => ((m.airways.length - i).toNat)) ((0, List.replicate m.airways.length 0)) ?_)
    | (refine LoopB.of (T := Int × List Int) ?_ ?_; rotate_left; rintro ⟨i, ys⟩ ⟨i0, i1, i2, i3⟩; rotate_left)
    | refine GhF.go ?_
    | refine MkF.row ?_
    | refine EqP.mk _ (gm GAirway.cells default rfl) ?_
    | refine EqP.mk _ (gm eI 0 rfl) ?_
    | refine BndF.mk (fun _ => by omega) ?_
    | refine BndF.mk (fun _ => by simp only [lnS]; omega) ?_
    | refine EqI.mk _ (fun _ => wrapI (by omega) (by omega)) ?_
    | refine EqI.mk _ (fun _ => rfl) ?_
    | refine EqN.mk _ (ln GAirway.cells) ?_
    | refine EqN.mk _ (ln eI) ?_
    | refine EqN.mk _ (Nat.zero_add _) ?_
    | refine EqN.mk _ (Int.toNat_natCast _) ?_
    | refine EqN.mk _ rfl ?_
    | refine EqL.mk _ (st GAirway.cells) ?_
    | refine EqL.mk _ (rp GAirway.cells default) ?_
    | refine EqL.mk _ (dt GAirway.cells) ?_
    | refine EqL.mk _ (st eI) ?_
    | refine EqL.mk _ (rp eI 0) ?_
    | refine EqL.mk _ (dt eI) ?_
    | refine EqL.mk [] rfl ?_
    | refine EqL.mk [_] rfl ?_
    | refine EqL.mk _ rfl ?_
    | (refine CondF.mk (fun hb => ?_) (fun hb => ?_) <;> try simp only [forall_const, eq_self, not_true_eq_false, not_false_eq_true, or_false, false_or, or_self, or_true, true_or, and_true, true_and, and_false, false_and, decide_true, decide_false, Bool.not_true, Bool.not_false, decide_eq_true_eq, decide_eq_false_iff_not, ite_and_p, ite_or_p, Bool.decide_eq_true, Bool.and_eq_true, Bool.or_eq_true, Bool.not_eq_true', Bool.not_eq_false', Bool.and_eq_false_imp, Bool.or_eq_false_iff, bne_iff_ne, beq_iff_eq, bne_eq_false_iff_eq, beq_eq_false_iff_ne, gt_iff_lt, ge_iff_le, Int.not_lt, Int.not_le, ne_eq, Bool.true_eq_false, Bool.false_eq_true, reduceCtorEq, eta_Airway, eta_Fan, eta_Mine] at hb)
    | apply BackF.auto2
    | refine BackB.mk ?_ ?_
    | refine RetF.auto (And.intro rfl ?_)
    | exact Is.mk rfl rfl
    | refine Is.mk ?_ rfl
    | refine Is.mk rfl ?_
    | refine Is.mk ?_ ?_
  all_goals try dsimp only
  all_goals try simp only [Bo, I, OB.row.injEq, AV.osl.injEq, eI_same,  List.cons.injEq, AV.p.injEq, PV.c.injEq, Value.int.injEq, Value.bool.injEq, and_true, true_and, ite_and_p, ite_or_p, Bool.decide_eq_true, eta_Airway, eta_Fan, eta_Mine]
  all_goals first
    | omega
    | exact ⟨by omega, by omega, by simp, all_0⟩
    | (refine ⟨by omega, by omega, by simp [i2], fun j hj => ?_⟩
       rw [getD_set]
       split
       · omega
       · exact i3 j (by omega))
    | rw [all_i i2 fun j hj => i3 j (by omega)]
    | skip
end Go.Proofs.YtdhkpmaanegjkaaGreatDoor
