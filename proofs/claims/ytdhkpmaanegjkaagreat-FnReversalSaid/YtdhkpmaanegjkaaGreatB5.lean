/- Contracts of functions of the program, and what they compute. Conditions: those that each theorem states. -/
import Derived.Test.YtdhkpmaanegjkaaGreatProg
import Derived.Test.YtdhkpmaanegjkaaGreatB2
set_option linter.unusedVariables false
set_option linter.unusedSimpArgs false
namespace Go.Proofs.YtdhkpmaanegjkaaGreat
open Go.Av
attribute [local irreducible] Go.IntKind.wrap leastI rdZ rd rootI okMine treeC
set_option maxRecDepth 20000
set_option maxHeartbeats 40000000
section
variable {m : GMine} {T : List Int} {i : Int}
theorem treeC_0 : treeC m (Int.toNat 0) = [] := by rw [show Int.toNat 0 = 0 from rfl, treeC]
theorem tree_lt (h : T = treeC m i.toNat) (h0 : 0 ≤ i) (hi : i ≤ m.airways.length) : ∀ x ∈ T, 0 ≤ x ∧ x < m.airways.length := fun x hx => by
  have := (treeC_I (m := m) i.toNat).rg x (by rw [← h]; exact hx); omega
theorem tree_len (h : T = treeC m i.toNat) (h0 : 0 ≤ i) : (T.length : Int) ≤ i := by
  have := trI_len (treeC_I (m := m) i.toNat) (by omega); rw [← h] at this; omega
theorem prt_b {o : List Int} {k : Int} (hm : okMine m = true) (p : prtI m T o) (h0 : 0 ≤ k) (hk : k < m.airways.length) : ((0 ≤ (m.airways.getD k.toNat default).from_ ∧ (m.airways.getD k.toNat default).from_ < o.length) ∧ 0 ≤ (m.airways.getD k.toNat default).to ∧ (m.airways.getD k.toNat default).to < o.length) := by
  have q := ((okMine_p hm).2.2 k.toNat (by omega)).2
  have := p.ln
  omega
theorem prt_q {o : List Int} {k : Int} (hm : okMine m = true) (p : prtI m T o) (h0 : 0 ≤ k) (hk : k < m.airways.length) : (o.getD (m.airways.getD k.toNat default).from_.toNat 0 = o.getD (m.airways.getD k.toNat default).to.toNat 0 ↔ cnA m T (m.airways.getD k.toNat default).from_ (m.airways.getD k.toNat default).to) := by
  have q := ((okMine_p hm).2.2 k.toNat (by omega)).2
  exact p.eq _ _ q.1 q.2
end
theorem c_spec_l04Tree (m : GMine) (hm : okMine m = true) : FnSem Tryz.prog 86 [.p .any (.ref m.cells)] [] (RetV (fun v : Nat × List Int => [.osl 0 0 v.1]) (fun v => [.row false .flat (eI 0) (v.2.map eI)]) (fun v => v.1 = v.2.length ∧ v.2 = treeC m m.airways.length)) := by
  have hmp := okMine_p hm
  refine FnSem.old ?_
  refine FnSem.walk (zs := zeroPV Tryz.prog) (by kernel_rfl) Tryz.func86 rfl Tryz.results86 (by kernel_rfl) (by kernel_rfl) (by kernel_rfl) fun hw hh => ?_
  obtain ⟨w0, _⟩ := hw
  first | replace w0 := wfr_Mine w0 | skip
  have hwl := w0.2.1
  repeat' first
    | refine And.intro rfl ?_
    | refine GdF.mk (fun h => h) ?_
    | refine And.intro (Nat.succ_ne_zero _) ?_
    | refine And.intro (Nat.le_of_ble_eq_true rfl) ?_
    | refine SeqF.run ?_
    | (refine ArgF.ret (c_spec_l04Parts m T hm (tree_lt i3 i0 (by omega)) (by have := tree_len i3 i0; omega)) ?_; rintro ⟨k, o⟩ ⟨q1, q2⟩; dsimp only at q1 q2)
    | refine BndF.mk (fun _ => by have b := prt_b hm q2 i0 (by omega); first | omega | (simp only [List.length_map]; omega)) ?_
    | refine BndF.mk (fun _ => by have := tree_len i3 i0; omega) ?_
    | refine LoopF.at 3 rfl (LoopF.fix [0] (Int × Nat × List Int) (fun (i, n, T) => 0 ≤ i ∧ i ≤ m.airways.length ∧ n = T.length ∧ T = treeC m i.toNat) (fun (i, n, T) => [(4, In i), (3, .osl 0 0 n)]) (fun (i, n, T) => [(0, .row true .flat (eI 0) (T.map eI))]) (fun (i, n, T) => ((m.airways.length - i).toNat)) ((0, 0, [])) ?_)
    | (refine LoopB.of (T := Int × Nat × List Int) ?_ ?_; rotate_left; rintro ⟨i, n, T⟩ ⟨i0, i1, i2, i3⟩; rotate_left)
    | refine EqL.mk _ (tkT (take_all i2)) ?_
    | refine EqL.mk _ (snT (take_all i2)) ?_
    | refine RetV.mk (α := Nat × List Int) (_, _) rfl rfl ?_
    | refine GhF.go ?_
    | refine DrawG.old (DrawF.lex (by decide +kernel) ?_)
    | refine MkF.row ?_
    | refine EqP.mk _ (gm GAirway.cells default rfl) ?_
    | refine EqP.mk _ (gm eI 0 rfl) ?_
    | refine BndF.mk (fun _ => by omega) ?_
    | refine BndF.mk (fun _ => by simp only [lnS]; omega) ?_
    | refine EqI.mk _ (fun _ => wrapI (by omega) (by omega)) ?_
    | refine EqI.mk _ (fun _ => rfl) ?_
    | refine FlF.keep ?_
    | refine EqN.mk _ (ln GAirway.cells) ?_
    | refine EqN.mk _ (ln eI) ?_
    | refine EqN.mk _ (Nat.zero_add _) ?_
    | refine EqN.mk (_ + 1) rfl ?_
    | refine EqN.mk _ (Int.toNat_natCast _) ?_
    | refine EqN.mk _ rfl ?_
    | refine EqL.mk _ (sn0 GAirway.cells) ?_
    | refine EqL.mk _ (sn GAirway.cells (by first | rfl | assumption | omega | (simp only [lnS] <;> omega))) ?_
    | refine EqL.mk _ (ap0 GAirway.cells) ?_
    | refine EqL.mk _ (ap GAirway.cells (by first | rfl | assumption | omega | (simp only [lnS] <;> omega))) ?_
    | refine EqL.mk _ (tk GAirway.cells (by first | rfl | assumption | omega | (simp only [lnS] <;> omega))) ?_
    | refine EqL.mk _ (dt GAirway.cells) ?_
    | refine EqL.mk _ (sn0 eI) ?_
    | refine EqL.mk _ (sn eI (by first | rfl | assumption | omega | (simp only [lnS] <;> omega))) ?_
    | refine EqL.mk _ (ap0 eI) ?_
    | refine EqL.mk _ (ap eI (by first | rfl | assumption | omega | (simp only [lnS] <;> omega))) ?_
    | refine EqL.mk _ (tk eI (by first | rfl | assumption | omega | (simp only [lnS] <;> omega))) ?_
    | refine EqL.mk _ (dt eI) ?_
    | refine EqL.mk [] rfl ?_
    | refine EqL.mk [_] rfl ?_
    | refine EqL.mk _ rfl ?_
    | refine ArgF.is (c_spec_l04Parts ⟨_, _⟩ _ (by first | assumption | omega) (by first | assumption | omega) (by first | assumption | omega)) ?_
    | refine ArgQ.is (fun hG => c_spec_l04Parts ⟨_, _⟩ _ (by first | assumption | omega) (by first | assumption | omega) (by first | assumption | omega)) rfl rfl ?_
    | refine CallF.mk (CallW.is [] true rfl ?_)
    | refine CallG.mk ?_
    | (refine CondF.mk (fun hb => ?_) (fun hb => ?_) <;> try simp only [forall_const, eq_self, not_true_eq_false, not_false_eq_true, or_false, false_or, or_self, or_true, true_or, and_true, true_and, and_false, false_and, decide_true, decide_false, Bool.not_true, Bool.not_false, decide_eq_true_eq, decide_eq_false_iff_not, ite_and_p, ite_or_p, Bool.decide_eq_true, Bool.and_eq_true, Bool.or_eq_true, Bool.not_eq_true', Bool.not_eq_false', Bool.and_eq_false_imp, Bool.or_eq_false_iff, bne_iff_ne, beq_iff_eq, bne_eq_false_iff_eq, beq_eq_false_iff_ne, gt_iff_lt, ge_iff_le, Int.not_lt, Int.not_le, ne_eq, Bool.true_eq_false, Bool.false_eq_true, reduceCtorEq, eta_Airway, eta_Fan, eta_Mine] at hb)
    | apply BackF.auto3
    | refine BackB.mk ?_ ?_
    | refine RetF.auto (And.intro rfl ?_)
    | exact Is.mk rfl rfl
    | refine Is.mk ?_ rfl
    | refine Is.mk rfl ?_
    | refine Is.mk ?_ ?_
  all_goals try dsimp only
  all_goals first
    | omega
    | exact ⟨by omega, by omega, rfl, treeC_0.symm⟩
    | (refine ⟨by omega, by omega, by simp [i2], ?_⟩
       rw [treeC_a i0 (by rw [← i3]; exact fun e => hb ((prt_q hm q2 i0 (by omega)).2 e)), ← i3])
    | (refine ⟨by omega, by omega, i2, ?_⟩
       rw [treeC_k i0 (by rw [← i3]; exact (prt_q hm q2 i0 (by omega)).1 hb), ← i3])
    | exact ⟨i2, by rw [i3, show i.toNat = m.airways.length by omega]⟩
    | skip
--@fn (impl.Mine).tree
theorem treeX (m : GMine) (hm : okMine m = true) : FnSem Tryz.prog 73 [.p .any (.agg m.cells)] [] (RetV (fun v : Nat × List Int => [.osl 0 0 v.1]) (fun v => [.row false .flat (eI 0) (v.2.map eI)]) (fun v => v.1 = v.2.length ∧ v.2 = treeC m m.airways.length)) := by
  have hmp := okMine_p hm
  refine FnSem.old ?_
  refine FnSem.walk (zs := zeroPV Tryz.prog) (by kernel_rfl) Tryz.func73 rfl Tryz.results73 (by kernel_rfl) (by kernel_rfl) (by kernel_rfl) fun hw hh => ?_
  obtain ⟨w0, _⟩ := hw
  first | replace w0 := wf_Mine w0 | skip
  have hwl := w0.2.1
  repeat' first
    | refine And.intro rfl ?_
    | refine GdF.mk (fun h => h) ?_
    | refine And.intro (Nat.succ_ne_zero _) ?_
    | refine And.intro (Nat.le_of_ble_eq_true rfl) ?_
    | refine SeqF.run ?_
    | refine GhF.at 2 rfl [.old 2] ?_
    | refine OpH.heap ?_
    | refine GhF.held 5 rfl [(4, [1]), (7, [])] ?_
    | refine BndF.mk (fun _ => by have := tree_len i3 i0; omega) ?_
    | (refine ArgF.ret (c_impl_Mine_reached m (m.airways.getD i.toNat default).from_ T hm ((hmp.2.2 i.toNat (by omega)).2.1) (tree_lt i3 i0 (by omega)) (by have := tree_len i3 i0; omega)) ?_; rintro ⟨k, ys⟩ ⟨q1, q2, q3⟩; dsimp only at q1 q2 q3)
    | refine LoopF.at 3 rfl (LoopF.fix [1, 7, 8] (Int × Nat × List Int) (fun (i, n, T) => 0 ≤ i ∧ i ≤ m.airways.length ∧ n = T.length ∧ T = treeC m i.toNat) (fun (i, n, T) => [(9, In i), (3, .osl 1 0 n)]) (fun (i, n, T) => [(1, .row false .flat (eI 0) (T.map eI))]) (fun (i, n, T) => ((m.airways.length - i).toNat)) ((0, 0, [])) ?_)
    | (refine LoopB.of (T := Int × Nat × List Int) ?_ ?_; rotate_left; rintro ⟨i, n, T⟩ ⟨i0, i1, i2, i3⟩; rotate_left)
    | refine EqL.mk _ (tkT (take_all i2)) ?_
    | refine EqL.mk _ (snT (take_all i2)) ?_
    | refine EqL.mk _ (tkT (take_all q1)) ?_
    | refine RetV.mk (α := Nat × List Int) (_, _) rfl rfl ?_
    | refine HdF.at 8 rfl 0 [4, 7, 8] (And.intro (by decide +kernel) (And.intro rfl ?_))
    | refine HdF.at 7 rfl 1 [] (And.intro (by decide +kernel) (And.intro rfl ?_))
    | refine HdF.at 6 rfl 2 [4, 7, 8] (And.intro (by decide +kernel) (And.intro rfl ?_))
    | refine HdF.at 5 rfl 3 [] (And.intro (by decide +kernel) (And.intro rfl ?_))
    | refine HdF.at 4 rfl 5 [] (And.intro (by decide +kernel) (And.intro rfl ?_))
    | refine HdF.at 3 rfl 6 [7, 8] (And.intro (by decide +kernel) (And.intro rfl ?_))
    | refine HdF.goAt 2 rfl ?_
    | refine OrdL.ord ?_
    | refine OrdF.take 8 (by decide +kernel) (And.intro rfl ?_)
    | refine OrdF.all [7] (by decide +kernel) ?_
    | refine OrdF.all [4] (by decide +kernel) ?_
    | refine OrdF.fin (by decide +kernel) ?_
    | refine AllF.one _ ?_
    | refine AllF.cons _ _ ?_ ?_
    | refine OpH.quiet rfl ?_
    | refine OpH.heap ?_
    | refine GhF.go ?_
    | refine DrawG.old (DrawF.lex (by decide +kernel) ?_)
    | refine MkF.row ?_
    | refine EqP.mk _ (gm GAirway.cells default rfl) ?_
    | refine EqP.mk _ (gm eI 0 rfl) ?_
    | refine BndF.mk (fun _ => by omega) ?_
    | refine BndF.mk (fun _ => by simp only [lnS]; omega) ?_
    | refine EqI.mk _ (fun _ => wrapI (by omega) (by omega)) ?_
    | refine EqI.mk _ (fun _ => rfl) ?_
    | refine FlF.keep ?_
    | refine EqN.mk _ (ln GAirway.cells) ?_
    | refine EqN.mk _ (ln eI) ?_
    | refine EqN.mk _ (Nat.zero_add _) ?_
    | refine EqN.mk (_ + 1) rfl ?_
    | refine EqN.mk _ (Int.toNat_natCast _) ?_
    | refine EqN.mk _ rfl ?_
    | refine EqL.mk _ (sn0 GAirway.cells) ?_
    | refine EqL.mk _ (sn GAirway.cells (by first | rfl | assumption | omega | (simp only [lnS] <;> omega))) ?_
    | refine EqL.mk _ (ap0 GAirway.cells) ?_
    | refine EqL.mk _ (ap GAirway.cells (by first | rfl | assumption | omega | (simp only [lnS] <;> omega))) ?_
    | refine EqL.mk _ (tk GAirway.cells (by first | rfl | assumption | omega | (simp only [lnS] <;> omega))) ?_
    | refine EqL.mk _ (st GAirway.cells) ?_
    | refine EqL.mk _ (dt GAirway.cells) ?_
    | refine EqL.mk _ (sn0 eI) ?_
    | refine EqL.mk _ (sn eI (by first | rfl | assumption | omega | (simp only [lnS] <;> omega))) ?_
    | refine EqL.mk _ (ap0 eI) ?_
    | refine EqL.mk _ (ap eI (by first | rfl | assumption | omega | (simp only [lnS] <;> omega))) ?_
    | refine EqL.mk _ (tk eI (by first | rfl | assumption | omega | (simp only [lnS] <;> omega))) ?_
    | refine EqL.mk _ (st eI) ?_
    | refine EqL.mk _ (dt eI) ?_
    | refine EqL.mk [] rfl ?_
    | refine EqL.mk [_] rfl ?_
    | refine EqL.mk _ rfl ?_
    | refine ArgF.is (c_impl_Mine_reached ⟨_, _⟩ _ _ (by first | assumption | omega) (by first | assumption | omega) (by first | assumption | omega) (by first | assumption | omega)) ?_
    | refine ArgQ.is (fun hG => c_impl_Mine_reached ⟨_, _⟩ _ _ (by first | assumption | omega) (by first | assumption | omega) (by first | assumption | omega) (by first | assumption | omega)) rfl rfl ?_
    | refine ArgF.is (c_slices_Contains_int64_int64 ..) ?_
    | refine ArgQ.is (fun hG => c_slices_Contains_int64_int64 ..) rfl rfl ?_
    | refine CallF.mk (CallW.is [] true rfl ?_)
    | refine CallG.mk ?_
    | (refine CondF.mk (fun hb => ?_) (fun hb => ?_) <;> try simp only [forall_const, eq_self, not_true_eq_false, not_false_eq_true, or_false, false_or, or_self, or_true, true_or, and_true, true_and, and_false, false_and, decide_true, decide_false, Bool.not_true, Bool.not_false, decide_eq_true_eq, decide_eq_false_iff_not, ite_and_p, ite_or_p, Bool.decide_eq_true, Bool.and_eq_true, Bool.or_eq_true, Bool.not_eq_true', Bool.not_eq_false', Bool.and_eq_false_imp, Bool.or_eq_false_iff, bne_iff_ne, beq_iff_eq, bne_eq_false_iff_eq, beq_eq_false_iff_ne, gt_iff_lt, ge_iff_le, Int.not_lt, Int.not_le, ne_eq, Bool.true_eq_false, Bool.false_eq_true, reduceCtorEq, eta_Airway, eta_Fan, eta_Mine] at hb)
    | apply BackF.auto3
    | refine BackB.mk ?_ ?_
    | refine RetF.auto (And.intro rfl ?_)
    | exact Is.mk rfl rfl
    | refine Is.mk ?_ rfl
    | refine Is.mk rfl ?_
    | refine Is.mk ?_ ?_
  all_goals try dsimp only
  all_goals first
    | omega
    | exact ⟨by omega, by omega, rfl, treeC_0.symm⟩
    | (refine ⟨by omega, by omega, by simp [i2], ?_⟩
       rw [treeC_a i0 (by rw [← i3]; exact fun e => hb ((q3 _).2 e)), ← i3])
    | (refine ⟨by omega, by omega, i2, ?_⟩
       rw [treeC_k i0 (by rw [← i3]; exact (q3 _).1 hb), ← i3])
    | exact ⟨i2, by rw [i3, show i.toNat = m.airways.length by omega]⟩
    | skip
end Go.Proofs.YtdhkpmaanegjkaaGreat
/- Contracts of functions of the program, and what they compute. Conditions: those that each theorem states. -/
set_option linter.unusedVariables false
set_option linter.unusedSimpArgs false
namespace Go.Proofs.YtdhkpmaanegjkaaGreat
open Go.Av
attribute [local irreducible] Go.IntKind.wrap leastI rdZ rd rootI okMine treeC
set_option maxRecDepth 20000
set_option maxHeartbeats 8000000
structure lvI (m : GMine) (ls : List Int) (to s b : Int) (o : List Int) : Prop where
  ln : (o.length : Int) = m.junctions
  p1 : o.getD to.toNat 0 = 0
  rg : ∀ v, inV m v → -1 ≤ o.getD v.toNat 0 ∧ o.getD v.toNat 0 ≤ b
  p2 : ∀ v, inV m v → 0 ≤ o.getD v.toNat 0 → (v = to ∧ o.getD v.toNat 0 = 0) ∨ ∃ u, stA m ls v u ∧ 0 ≤ o.getD u.toNat 0 ∧ o.getD u.toNat 0 = o.getD v.toNat 0 - 1
  p3 : ∀ v u, stA m ls v u → 0 ≤ o.getD v.toNat 0 → o.getD v.toNat 0 < s → 0 ≤ o.getD u.toNat 0 ∧ o.getD u.toNat 0 ≤ o.getD v.toNat 0 + 1
def qlI (m : GMine) (ls : List Int) (s j : Int) (o : List Int) : Prop := ∀ i : Nat, (i : Int) < j → ∀ u v, otherA (m.airways.getD (ls.getD i 0).toNat default) v = (u, true) → o.getD v.toNat 0 = s → 0 ≤ o.getD u.toNat 0
section
variable {m : GMine} {ls o : List Int} {to s b j u v : Int}
theorem getD_sI {xs : List Int} {j k : Nat} {v : Int} : (xs.set j v).getD k 0 = if j = k ∧ k < xs.length then v else xs.getD k 0 := by
  rw [List.getD_eq_getElem?_getD, List.getElem?_set, List.getD_eq_getElem?_getD]
  by_cases h : j = k
  · subst h
    by_cases h2 : j < xs.length
    · rw [if_pos rfl, if_pos h2, if_pos ⟨rfl, h2⟩]; rfl
    · rw [if_pos rfl, if_neg h2, if_neg (fun e => h2 e.2), List.getElem?_eq_none (by omega)]
  · rw [if_neg h, if_neg (fun e => h e.1)]
theorem lvI_0 {ys : List Int} (ht : inV m to) (hl : (ys.length : Int) = m.junctions) (hy : ∀ k : Nat, k < ys.length → ys.getD k 0 = -1) : lvI m ls to 0 0 (ys.set to.toNat 0) := by
  have ht2 : 0 ≤ to ∧ to < m.junctions := ht
  have key : ∀ v, inV m v → (ys.set to.toNat 0).getD v.toNat 0 = if v = to then 0 else -1 := fun v hv => by
    have hv2 : 0 ≤ v ∧ v < m.junctions := hv
    rw [getD_sI]
    by_cases e : v = to
    · rw [if_pos ⟨by rw [e], by omega⟩, if_pos e]
    · rw [if_neg (fun q => e (by omega)), if_neg e, hy _ (by omega)]
  refine ⟨by rw [List.length_set]; exact hl, by rw [key to ht, if_pos rfl], fun v hv => ?_, fun v hv h => ?_, fun v u _ h h2 => by omega⟩
  · rw [key v hv]; split <;> omega
  · rw [key v hv] at h ⊢
    by_cases e : v = to
    · exact .inl ⟨e, by rw [if_pos e]⟩
    · rw [if_neg e] at h; omega
theorem qlI_0 : qlI m ls s 0 o := fun i hi => absurd hi (by omega)
theorem lvI_up (h : lvI m ls to s b o) : lvI m ls to s (b + 1) o := ⟨h.ln, h.p1, fun v hv => by have := h.rg v hv; omega, h.p2, h.p3⟩
theorem stA_2 (hm : okMine m = true) (h : stA m ls v u) : (0 ≤ v ∧ v < m.junctions) ∧ 0 ≤ u ∧ u < m.junctions := stA_V hm h
theorem lv_set (hm : okMine m = true) (h : lvI m ls to s (s + 1) o) (q : qlI m ls s j o) (s0 : 0 ≤ s) (hs : stA m ls v u) (e : o.getD u.toNat 0 = s) (hn : o.getD v.toNat 0 < 0) : lvI m ls to s (s + 1) (o.set v.toNat (s + 1)) ∧ qlI m ls s j (o.set v.toNat (s + 1)) := by
  have hb := stA_2 hm hs
  have hln := h.ln
  have key : ∀ x : Int, 0 ≤ x → (o.set v.toNat (s + 1)).getD x.toNat 0 = if x = v then s + 1 else o.getD x.toNat 0 := fun x hx => by
    rw [getD_sI]
    by_cases ex : x = v
    · rw [if_pos ⟨by rw [ex], by omega⟩, if_pos ex]
    · rw [if_neg (fun q => ex (by omega)), if_neg ex]
  have kN : ∀ k : Nat, k ≠ v.toNat → (o.set v.toNat (s + 1)).getD k 0 = o.getD k 0 := fun k hk => by
    rw [getD_sI, if_neg (fun q => hk q.1.symm)]
  have hvt : to.toNat ≠ v.toNat := fun e2 => by rw [← e2, h.p1] at hn; omega
  have huv : u ≠ v := fun e2 => by rw [e2] at e; omega
  refine ⟨⟨by rw [List.length_set]; exact hln, by rw [kN _ hvt]; exact h.p1, fun x hx => ?_, fun x hx hx0 => ?_, fun x y hxy h0 h1 => ?_⟩, fun i hi x y hxy he => ?_⟩
  · have := h.rg x hx
    rw [key x hx.1]; split <;> omega
  · rw [key x hx.1] at hx0 ⊢
    by_cases ex : x = v
    · rw [if_pos ex]
      right
      refine ⟨u, by rw [ex]; exact hs, ?_⟩
      rw [key u (by omega), if_neg huv]; omega
    · rw [if_neg ex] at hx0 ⊢
      rcases h.p2 x hx hx0 with a | ⟨y, a1, a2, a3⟩
      · exact .inl a
      · right
        refine ⟨y, a1, ?_⟩
        have hy := stA_2 hm a1
        rw [key y (by omega), if_neg (fun e2 => by rw [e2] at a2; omega)]
        exact ⟨a2, a3⟩
  · have hx := stA_2 hm hxy
    rw [key x (by omega)] at h0 h1 ⊢
    rw [key y (by omega)]
    by_cases ex : x = v
    · rw [if_pos ex] at h1; omega
    · rw [if_neg ex] at h0 h1 ⊢
      have a := h.p3 x y hxy h0 h1
      rw [if_neg (fun e2 => by rw [e2] at a; omega)]
      exact a
  · by_cases ey : y.toNat = v.toNat
    · rw [ey, getD_sI, if_pos ⟨rfl, by omega⟩] at he; omega
    · rw [kN _ ey] at he
      have a := q i hi x y hxy he
      rw [kN _ (fun e2 => by rw [e2] at a; omega)]
      exact a
theorem ql_s (hm : okMine m = true) (hl : ∀ i ∈ ls, 0 ≤ i ∧ i < m.airways.length) (q : qlI m ls s j o) (h0 : 0 ≤ j) (hj : j < ls.length)
    (a1 : o.getD (m.airways.getD (ls.getD j.toNat 0).toNat default).from_.toNat 0 = s → 0 ≤ o.getD (m.airways.getD (ls.getD j.toNat 0).toNat default).to.toNat 0)
    (a2 : o.getD (m.airways.getD (ls.getD j.toNat 0).toNat default).to.toNat 0 = s → 0 ≤ o.getD (m.airways.getD (ls.getD j.toNat 0).toNat default).from_.toNat 0) : qlI m ls s (j + 1) o := by
  intro i hi u v huv he
  by_cases e : (i : Int) = j
  · have e2 : j.toNat = i := by omega
    rw [e2] at a1 a2
    have hr := lsB hl h0 hj
    rw [e2] at hr
    rcases oth_p hm hr huv with ⟨rfl, rfl⟩ | ⟨rfl, rfl⟩
    · exact a1 he
    · exact a2 he
  · exact q i (by omega) u v huv he
theorem lv_s (hm : okMine m = true) (h : lvI m ls to s (s + 1) o) (q : qlI m ls s j o) (hj : ls.length ≤ j) : lvI m ls to (s + 1) (s + 1) o where
  ln := h.ln
  p1 := h.p1
  rg := h.rg
  p2 := h.p2
  p3 := fun v u hvu h0 h1 => by
    by_cases e : o.getD v.toNat 0 = s
    · obtain ⟨i, i1, i2, i3⟩ := hvu
      obtain ⟨p, hp, rfl⟩ := List.getElem_of_mem i1
      have hg : ls.getD p 0 = ls[p] := by rw [List.getD_eq_getElem?_getD, List.getElem?_eq_getElem hp]; rfl
      have a := q p (by omega) u v (by rw [hg]; exact i3) e
      have hV := stA_V hm ⟨_, i1, i2, i3⟩
      exact ⟨a, by have := h.rg u hV.2; omega⟩
    · exact h.p3 v u hvu h0 (by omega)
theorem lv_ex (hm : okMine m = true) (h : lvI m ls to s b o) : ∀ (d : Nat) (v : Int), inV m v → o.getD v.toNat 0 = d → ∃ A : List Int, A.length = d + 1 ∧ A.Nodup ∧ ∀ x ∈ A, inV m x ∧ o.getD x.toNat 0 ≤ d
  | 0, v, hv, e => ⟨[v], rfl, by simp, fun x hx => by rw [List.mem_singleton.1 hx]; exact ⟨hv, by omega⟩⟩
  | d + 1, v, hv, e => by
    rcases h.p2 v hv (by omega) with a | ⟨u, a1, a2, a3⟩
    · have := a.2; omega
    · obtain ⟨A, b1, b2, b3⟩ := lv_ex hm h d u (stA_V hm a1).2 (by omega)
      refine ⟨v :: A, by simp [b1], List.nodup_cons.2 ⟨fun hx => by have := (b3 v hx).2; omega, b2⟩, fun x hx => ?_⟩
      rcases List.mem_cons.1 hx with rfl | hx
      · exact ⟨hv, by omega⟩
      · exact ⟨(b3 x hx).1, by have := (b3 x hx).2; omega⟩
def FO (m : GMine) (o : List Int) : Int → Option Int := fun v => if (0 ≤ v ∧ v < m.junctions) ∧ 0 ≤ o.getD v.toNat 0 then some (o.getD v.toNat 0) else none
theorem FO_some {d : Int} (h : FO m o v = some d) : inV m v ∧ 0 ≤ d ∧ o.getD v.toNat 0 = d := by
  unfold FO at h
  split at h
  · rename_i c; cases h; exact ⟨c.1, c.2, rfl⟩
  · cases h
theorem FO_of (hv : inV m v) (h : 0 ≤ o.getD v.toNat 0) : FO m o v = some (o.getD v.toNat 0) := if_pos ⟨hv, h⟩
theorem lv_end (hm : okMine m = true) (ht : inV m to) (h : lvI m ls to s s o) (hs : m.junctions ≤ s) : farI m ls to (FO m o) where
  p1 := by rw [FO_of ht (by rw [h.p1]; omega), h.p1]
  p2 := fun v d hd => by
    obtain ⟨c1, c2, c3⟩ := FO_some hd
    rcases h.p2 v c1 (by omega) with a | ⟨u, a1, a2, a3⟩
    · exact .inl ⟨a.1, by omega⟩
    · exact .inr ⟨u, a1, by rw [FO_of (stA_V hm a1).2 a2]; congr 1; omega⟩
  nn := fun v d hd => by
    obtain ⟨c1, c2, c3⟩ := FO_some hd
    obtain ⟨A, b1, b2, b3⟩ := lv_ex hm h d.toNat v c1 (by omega)
    have hJ := (okMine_p hm).1
    have := pigW m.junctions.toNat A b2 (fun x hx => by have := (b3 x hx).1; unfold inV at this; omega)
    omega
  p3 := fun v d u hd hvu => by
    obtain ⟨c1, c2, c3⟩ := FO_some hd
    obtain ⟨A, b1, b2, b3⟩ := lv_ex hm h d.toNat v c1 (by omega)
    have hJ := (okMine_p hm).1
    have := pigW m.junctions.toNat A b2 (fun x hx => by have := (b3 x hx).1; unfold inV at this; omega)
    have a := h.p3 v u hvu (by omega) (by omega)
    exact ⟨_, FO_of (stA_V hm hvu).2 a.1, by omega⟩
end
inductive WlkR (m : GMine) (ls : List Int) (to : Int) : Nat → Int → List Int → Prop
  | nil : WlkR m ls to 0 to []
  | cons {n : Nat} {u v : Int} {q : Nat} {ws : List Int} (hq : q < ls.length) (ho : otherA (m.airways.getD (ls.getD q 0).toNat default) u = (v, true)) (hd : dsA m ls (n + 1) u to)
      (fst : ∀ i : Nat, i < q → (otherA (m.airways.getD (ls.getD i 0).toNat default) u).2 = true → ¬dsA m ls n (otherA (m.airways.getD (ls.getD i 0).toNat default) u).1 to) (h : WlkR m ls to n v ws) : WlkR m ls to (n + 1) u (spL m u (ls.getD q 0).toNat :: ws)
section
variable {m : GMine} {ls : List Int} {to : Int}
theorem dsA_0 {u : Int} : dsA m ls 0 u u := ⟨rfl, fun k _ => Nat.zero_le k⟩
theorem WlkR.ds {n : Nat} {u : Int} {ws : List Int} (h : WlkR m ls to n u ws) : dsA m ls n u to := by
  cases h with
  | nil => exact dsA_0
  | cons _ _ hd _ _ => exact hd
theorem WlkR.fun_ {n : Nat} {u : Int} {ws : List Int} (h : WlkR m ls to n u ws) : ∀ {ws' : List Int}, WlkR m ls to n u ws' → ws = ws' := by
  induction h with
  | nil => intro ws' h'; cases h'; rfl
  | @cons n u v q ws hq ho hd hf h ih =>
    intro ws' h'
    cases h' with
    | @cons _ _ v' q' ws2 hq' ho' hd' hf' h2 =>
      have e : q = q' := by
        rcases Nat.lt_trichotomy q q' with c | c | c
        · exact absurd (by rw [ho]; exact h.ds) (hf' q c (by rw [ho]))
        · exact c
        · exact absurd (by rw [ho']; exact h2.ds) (hf q' c (by rw [ho']))
      subst e
      rw [ho] at ho'
      obtain rfl : v = v' := congrArg Prod.fst ho'
      rw [ih h2]
theorem WlkR.way (hl : ∀ i ∈ ls, 0 ≤ i ∧ i < m.airways.length) {n : Nat} {u : Int} {ws : List Int} (h : WlkR m ls to n u ws) : ∃ es, wayI m ls u to es ws ∧ es.length = n ∧ ws.length = n := by
  induction h with
  | nil => exact ⟨[], wayI_0, rfl, rfl⟩
  | @cons n u v q ws hq ho hd hf h ih =>
    obtain ⟨es, h1, h2, h3⟩ := ih
    have hb := hl (ls.getD q 0) (getD_mem hq)
    have k := oth_ok ho
    have hm' : ((ls.getD q 0).toNat : Int) = ls.getD q 0 := by omega
    refine ⟨(ls.getD q 0).toNat :: es, ⟨⟨by omega, k.1, by rw [k.2]; exact h1.ok⟩, ?_, ?_, fun i hi => ?_⟩, by simp [h2], by simp [h3]⟩
    · show enW m (nxL m u _) es = _
      rw [k.2]; exact h1.en
    · show _ = spL m u _ :: spW m (nxL m u _) es
      rw [k.2, ← h1.sp]
    · rcases List.mem_cons.1 hi with rfl | hi
      · rw [hm']; exact getD_mem hq
      · exact h1.mem i hi
end
end Go.Proofs.YtdhkpmaanegjkaaGreat
/- Contracts of functions of the program, and what they compute. Conditions: those that each theorem states. -/
set_option linter.unusedVariables false
set_option linter.unusedSimpArgs false
namespace Go.Proofs.YtdhkpmaanegjkaaGreat
open Go.Av
attribute [local irreducible] Go.IntKind.wrap leastI rdZ rd rootI okMine treeC
set_option maxRecDepth 20000
set_option maxHeartbeats 100000000
def wxI (m : GMine) (ls : List Int) (to f a : Int) (ws : List Int) : Prop := ∀ n2 ws2, WlkR m ls to n2 a ws2 → WlkR m ls to (ws.length + n2) f (ws ++ ws2)
def gdI (m : GMine) (ls o : List Int) (a : Int) (i : Nat) (v : Int) : Prop := otherA (m.airways.getD (ls.getD i 0).toNat default) a = (v, true) ∧ o.getD v.toNat 0 = o.getD a.toNat 0 - 1
section
variable {m : GMine} {ls o ws : List Int} {to f a v q s : Int}
theorem air_st (hm : okMine m = true) (hl : ∀ i ∈ ls, 0 ≤ i ∧ i < m.airways.length) (q0 : 0 ≤ q) (hq : q < ls.length) : stA m ls (m.airways.getD (ls.getD q.toNat 0).toNat default).from_ (m.airways.getD (ls.getD q.toNat 0).toNat default).to ∧ stA m ls (m.airways.getD (ls.getD q.toNat 0).toNat default).to (m.airways.getD (ls.getD q.toNat 0).toNat default).from_ :=
  ⟨⟨ls.getD q.toNat 0, getD_mem (by omega), lsB hl q0 hq, (oth_f hm (lsB hl q0 hq)).1⟩, ⟨ls.getD q.toNat 0, getD_mem (by omega), lsB hl q0 hq, (oth_f hm (lsB hl q0 hq)).2⟩⟩
theorem set_at {xs : List Int} {k : Nat} {v : Int} (h : k < xs.length) : (xs.set k v).getD k 0 = v := by rw [getD_sI, if_pos ⟨rfl, h⟩]
theorem lv_a (hm : okMine m = true) (hl : ∀ i ∈ ls, 0 ≤ i ∧ i < m.airways.length) (h : lvI m ls to s (s + 1) o) (k : qlI m ls s q o) (s0 : 0 ≤ s) (q0 : 0 ≤ q) (hq : q < ls.length)
    (hb : o.getD (m.airways.getD (ls.getD q.toNat 0).toNat default).from_.toNat 0 = s ∧ o.getD (m.airways.getD (ls.getD q.toNat 0).toNat default).to.toNat 0 < 0) :
    lvI m ls to s (s + 1) (o.set (m.airways.getD (ls.getD q.toNat 0).toNat default).to.toNat (s + 1)) ∧ qlI m ls s q (o.set (m.airways.getD (ls.getD q.toNat 0).toNat default).to.toNat (s + 1)) ∧ ((o.set (m.airways.getD (ls.getD q.toNat 0).toNat default).to.toNat (s + 1)).getD (m.airways.getD (ls.getD q.toNat 0).toNat default).from_.toNat 0 = s → 0 ≤ (o.set (m.airways.getD (ls.getD q.toNat 0).toNat default).to.toNat (s + 1)).getD (m.airways.getD (ls.getD q.toNat 0).toNat default).to.toNat 0) := by
  have st := air_st hm hl q0 hq
  have a := lv_set hm h k s0 st.2 hb.1 hb.2
  have hr := stA_2 hm st.1
  have hln := h.ln
  exact ⟨a.1, a.2, fun _ => by rw [set_at (by omega)]; omega⟩
theorem lv_b (hm : okMine m = true) (hl : ∀ i ∈ ls, 0 ≤ i ∧ i < m.airways.length) (h : lvI m ls to s (s + 1) o) (k : qlI m ls s q o) (s0 : 0 ≤ s) (q0 : 0 ≤ q) (hq : q < ls.length)
    (hb : o.getD (m.airways.getD (ls.getD q.toNat 0).toNat default).to.toNat 0 = s ∧ o.getD (m.airways.getD (ls.getD q.toNat 0).toNat default).from_.toNat 0 < 0) :
    lvI m ls to s (s + 1) (o.set (m.airways.getD (ls.getD q.toNat 0).toNat default).from_.toNat (s + 1)) ∧ qlI m ls s (q + 1) (o.set (m.airways.getD (ls.getD q.toNat 0).toNat default).from_.toNat (s + 1)) := by
  have st := air_st hm hl q0 hq
  have a := lv_set hm h k s0 st.1 hb.1 hb.2
  have hr := stA_2 hm st.1
  have hln := h.ln
  refine ⟨a.1, ql_s hm hl a.2 q0 hq (fun e => ?_) (fun _ => by rw [set_at (by omega)]; omega)⟩
  rw [set_at (by omega)] at e; omega
theorem wxI_0 : wxI m ls to f f [] := fun n2 ws2 h => by simpa using h
theorem wxI_end (h : wxI m ls to f a ws) (e : a = to) : WlkR m ls to ws.length f ws := by
  have := h 0 [] (by rw [e]; exact .nil)
  simpa using this
theorem far_at (hm : okMine m = true) (far : farI m ls to (FO m o)) (hv : inV m v) (h0 : 0 ≤ o.getD v.toNat 0) : dsA m ls (o.getD v.toNat 0).toNat v to ∧ o.getD v.toNat 0 ≤ m.junctions :=
  ⟨far.ds hm (FO_of hv h0), (far.nn v _ (FO_of hv h0)).2⟩
theorem far_nb (hm : okMine m = true) (far : farI m ls to (FO m o)) (ha : inV m a) (h0 : 0 ≤ o.getD a.toNat 0) (hs : stA m ls a v) : inV m v ∧ 0 ≤ o.getD v.toNat 0 := by
  obtain ⟨e, h1, _⟩ := far.p3 a _ v (FO_of ha h0) hs
  have := FO_some h1
  exact ⟨this.1, by omega⟩
theorem wx_add (hm : okMine m = true) (hl : ∀ i ∈ ls, 0 ≤ i ∧ i < m.airways.length) (far : farI m ls to (FO m o)) (ha : inV m a) (h0 : 0 ≤ o.getD a.toNat 0) (q0 : 0 ≤ q) (hq : q < ls.length) (hn : ∀ i : Nat, (i : Int) < q → ∀ v, ¬gdI m ls o a i v) (g : gdI m ls o a q.toNat v) (h : wxI m ls to f a ws) :
    wxI m ls to f v (ws ++ [spL m a (ls.getD q.toNat 0).toNat]) ∧ inV m v ∧ 0 ≤ o.getD v.toNat 0 := by
  have hs : stA m ls a v := ⟨ls.getD q.toNat 0, getD_mem (by omega), hl _ (getD_mem (d := 0) (by omega)), g.1⟩
  have nb := far_nb hm far ha h0 hs
  refine ⟨fun n2 ws2 hw => ?_, nb⟩
  have e : n2 = (o.getD v.toNat 0).toNat := dsA_fun hw.ds (far_at hm far nb.1 nb.2).1
  have g2 := g.2
  have key : WlkR m ls to (n2 + 1) a (spL m a (ls.getD q.toNat 0).toNat :: ws2) := by
    refine .cons (by omega) g.1 (by rw [show n2 + 1 = (o.getD a.toNat 0).toNat by omega]; exact (far_at hm far ha h0).1) (fun i hi hx hd => ?_) hw
    have hsx : stA m ls a (otherA (m.airways.getD (ls.getD i 0).toNat default) a).1 := ⟨ls.getD i 0, getD_mem (by omega), hl _ (getD_mem (d := 0) (by omega)), by rw [← hx]⟩
    have nbx := far_nb hm far ha h0 hsx
    have ex := dsA_fun hd (far_at hm far nbx.1 nbx.2).1
    exact hn i (by omega) (otherA (m.airways.getD (ls.getD i 0).toNat default) a).1 ⟨by rw [← hx], by omega⟩
  have := h (n2 + 1) _ key
  rw [List.length_append, List.length_singleton, List.append_assoc]
  rw [show ws.length + 1 + n2 = ws.length + (n2 + 1) by omega]
  exact this
theorem gd_no (hm : okMine m = true) (hl : ∀ i ∈ ls, 0 ≤ i ∧ i < m.airways.length) (far : farI m ls to (FO m o)) (ha : inV m a) (h0 : 0 ≤ o.getD a.toNat 0) (hq : ls.length ≤ q) (hn : ∀ i : Nat, (i : Int) < q → ∀ v, ¬gdI m ls o a i v) : a = to := by
  rcases far.p2 a _ (FO_of ha h0) with h | ⟨u, ⟨i, h1, h2, h3⟩, h4⟩
  · exact h.1
  · obtain ⟨p, hp, rfl⟩ := List.getElem_of_mem h1
    have hg : ls.getD p 0 = ls[p] := by rw [List.getD_eq_getElem?_getD, List.getElem?_eq_getElem hp]; rfl
    have := FO_some h4
    exact absurd ⟨by rw [hg]; exact h3, this.2.2⟩ (hn p (by omega) u)
theorem gd_f (hm : okMine m = true) (hl : ∀ i ∈ ls, 0 ≤ i ∧ i < m.airways.length) (q0 : 0 ≤ q) (hq : q < ls.length) (e : (m.airways.getD (ls.getD q.toNat 0).toNat default).from_ = a) (h : o.getD (m.airways.getD (ls.getD q.toNat 0).toNat default).to.toNat 0 = o.getD a.toNat 0 - 1) : gdI m ls o a q.toNat (m.airways.getD (ls.getD q.toNat 0).toNat default).to ∧ ls.getD q.toNat 0 + 1 = spL m a (ls.getD q.toNat 0).toNat := by
  have hr := lsB hl q0 hq
  refine ⟨⟨by rw [← e]; exact (oth_f hm hr).1, h⟩, ?_⟩
  unfold spL awI
  rw [if_pos e]; omega
theorem gd_t (hm : okMine m = true) (hl : ∀ i ∈ ls, 0 ≤ i ∧ i < m.airways.length) (q0 : 0 ≤ q) (hq : q < ls.length) (e : (m.airways.getD (ls.getD q.toNat 0).toNat default).to = a) (h : o.getD (m.airways.getD (ls.getD q.toNat 0).toNat default).from_.toNat 0 = o.getD a.toNat 0 - 1) : gdI m ls o a q.toNat (m.airways.getD (ls.getD q.toNat 0).toNat default).from_ ∧ -ls.getD q.toNat 0 - 1 = spL m a (ls.getD q.toNat 0).toNat := by
  have hr := lsB hl q0 hq
  refine ⟨⟨by rw [← e]; exact (oth_f hm hr).2, h⟩, ?_⟩
  unfold spL awI
  rw [if_neg (fun e2 => by rw [e2] at h; omega)]; omega
theorem gd_s (hm : okMine m = true) (hl : ∀ i ∈ ls, 0 ≤ i ∧ i < m.airways.length) (q0 : 0 ≤ q) (hq : q < ls.length) (hn : ∀ i : Nat, (i : Int) < q → ∀ v, ¬gdI m ls o a i v)
    (h1 : (m.airways.getD (ls.getD q.toNat 0).toNat default).from_ = a → ¬o.getD (m.airways.getD (ls.getD q.toNat 0).toNat default).to.toNat 0 = o.getD a.toNat 0 - 1)
    (h2 : (m.airways.getD (ls.getD q.toNat 0).toNat default).to = a → ¬o.getD (m.airways.getD (ls.getD q.toNat 0).toNat default).from_.toNat 0 = o.getD a.toNat 0 - 1) : ∀ i : Nat, (i : Int) < q + 1 → ∀ v, ¬gdI m ls o a i v := by
  intro i hi v g
  by_cases e : (i : Int) = q
  · have e2 : q.toNat = i := by omega
    rw [e2] at h1 h2
    have hr := lsB hl q0 hq
    rw [e2] at hr
    rcases oth_p hm hr g.1 with ⟨e3, rfl⟩ | ⟨e3, rfl⟩
    · exact h1 e3.symm g.2
    · exact h2 e3.symm g.2
  · exact hn i (by omega) v g
end
inductive PthX (m : GMine) (ls : List Int) (f to : Int) (rs : List AV) (ho : List OB) : Prop
  | no (h1 : rs = [.osl 0 0 0, Bo false]) (h2 : ho = [.row false .flat (eI 0) []]) (h : ¬cnA m ls f to)
  | ok (n : Nat) (ws : List Int) (h1 : rs = [.osl 0 0 n, Bo true]) (h2 : ho = [.row false .flat (eI 0) (ws.map eI)]) (h3 : n = ws.length) (h : WlkR m ls to ws.length f ws) (h6 : n ≤ 16)
theorem c_spec_l04Walk (m : GMine) (ls : List Int) (f to : Int) (hm : okMine m = true) (hf : inV m f) (ht : inV m to) (hl : ∀ i ∈ ls, 0 ≤ i ∧ i < m.airways.length) (hll : ls.length ≤ 1000) : FnSem Tryz.prog 88 [.p .any (.ref m.cells), Lx (LI ls), In f, In to] [] (PthX m ls f to) := by
  have hmp := okMine_p hm
  have hJ := hmp.1
  have hf2 : 0 ≤ f ∧ f < m.junctions := hf
  have ht2 : 0 ≤ to ∧ to < m.junctions := ht
  refine FnSem.old ?_
  refine FnSem.walk (zs := zeroPV Tryz.prog) (by kernel_rfl) Tryz.func88 rfl Tryz.results88 (by kernel_rfl) (by kernel_rfl) (by kernel_rfl) fun hw hh => ?_
  obtain ⟨w0, w1, w2, w3, _⟩ := hw
  first | replace w0 := wfr_Mine w0 | skip
  first | replace w1 := wf_LI w1 | skip
  first | replace w2 := wf_I w2 | skip
  first | replace w3 := wf_I w3 | skip
  repeat' first
    | refine And.intro rfl ?_
    | refine GdF.mk (fun h => h) ?_
    | refine And.intro (Nat.succ_ne_zero _) ?_
    | refine And.intro (Nat.le_of_ble_eq_true rfl) ?_
    | refine SeqF.run ?_
    | refine LoopF.at 3 rfl (LoopF.fix [0, 1, 2, 3] (Int × Nat × List Int) (fun (j, n, o0) => 0 ≤ j ∧ j ≤ m.junctions ∧ (n : Int) = j ∧ o0 = List.replicate n (-1)) (fun (j, n, o0) => [(11, In j), (10, .osl 0 0 n)]) (fun (j, n, o0) => [(0, .row true .flat (eI 0) (o0.map eI))]) (fun (j, n, o0) => ((m.junctions - j).toNat)) ((0, 0, [])) ?_)
    | (refine LoopB.of (T := Int × Nat × List Int) ?_ ?_; rotate_left; rintro ⟨j, n, o0⟩ ⟨a0, a1, a2, a3⟩; rotate_left)
    | refine LoopF.at 8 rfl (LoopF.fix [0, 1, 2, 3, 10] (Int × List Int) (fun (s, o) => 0 ≤ s ∧ s ≤ m.junctions ∧ o.length = n ∧ lvI m ls to s s o) (fun (s, o) => [(12, In s)]) (fun (s, o) => [(0, .row true .flat (eI 0) (o.map eI))]) (fun (s, o) => ((m.junctions - s).toNat)) ((0, o0.set to.toNat 0)) ?_)
    | (refine LoopB.of (T := Int × List Int) ?_ ?_; rotate_left; rintro ⟨s, o⟩ ⟨s0, s1, s2, s3⟩; rotate_left)
    | refine LoopF.at 11 rfl (LoopF.fix [0, 1, 2, 3, 10, 12] (Int × List Int × Unit) (fun (i, o', _) => 0 ≤ i ∧ i ≤ ls.length ∧ o'.length = n ∧ lvI m ls to s (s + 1) o' ∧ qlI m ls s i o') (fun (i, o', _) => [(13, In i)]) (fun (i, o', _) => [(0, .row true .flat (eI 0) (o'.map eI))]) (fun (i, o', _) => ((ls.length - i).toNat)) ((0, o, ())) ?_)
    | (refine LoopB.of (T := Int × List Int × Unit) ?_ ?_; rotate_left; rintro ⟨i, o', _⟩ ⟨i0, i1, i2, i3, i4⟩; rotate_left)
    | refine LoopF.at 22 rfl (LoopF.fix [0, 1, 3, 10] (Int × Nat × List Int × Unit) (fun (a, k, ws, _) => inV m a ∧ 0 ≤ o.getD a.toNat 0 ∧ k = ws.length ∧ (ws.length : Int) + o.getD a.toNat 0 = o.getD f.toNat 0 ∧ wxI m ls to f a ws ∧ farI m ls to (FO m o) ∧ o.getD f.toNat 0 ≤ 16) (fun (a, k, ws, _) => [(16, In a), (15, .osl 1 0 k)]) (fun (a, k, ws, _) => [(1, .row true .flat (eI 0) (ws.map eI))]) (fun (a, k, ws, _) => ((o.getD a.toNat 0).toNat)) ((f, 0, [], ())) ?_)
    | (refine LoopB.of (T := Int × Nat × List Int × Unit) ?_ ?_; rotate_left; rintro ⟨a, k, ws, _⟩ ⟨l0, l1, l2, l3, l4, far, l6⟩; rotate_left)
    | refine LoopF.at 24 rfl (LoopF.fix [0, 1, 3, 10] (Int × Unit) (fun (q, _) => 0 ≤ q ∧ q ≤ ls.length ∧ ∀ i : Nat, (i : Int) < q → ∀ v, ¬gdI m ls o a i v) (fun (q, _) => [(17, In q), (15, .osl 1 0 k), (16, In a)]) (fun (q, _) => []) (fun (q, _) => ((ls.length - q).toNat)) ((0, ())) ?_)
    | (refine LoopB.of (T := Int × Unit) ?_ ?_; rotate_left; rintro ⟨q, _⟩ ⟨q0, q1, q2⟩; rotate_left)
    | refine BndF.mk (fun _ => by rw [a3]; simp only [List.length_map, List.length_replicate]; omega) ?_
    | refine BndF.mk (fun _ => by have a := lsB hl i0 (by assumption); have b := (hmp.2.2 (ls.getD i.toNat 0).toNat (by omega)).2; first | omega | (simp only [List.length_map, List.length_set]; omega)) ?_
    | refine BndF.mk (fun _ => by have aq := lsB hl q0 (by assumption); have b := (hmp.2.2 (ls.getD q.toNat 0).toNat (by omega)).2; have c : 0 ≤ a ∧ a < m.junctions := l0; first | omega | (simp only [List.length_map]; omega)) ?_
    | refine EqL.mk _ (snT (take_all (by rw [a3]; simp))) ?_
    | refine EqL.mk _ (snT (take_all l2)) ?_
    | refine PthX.no rfl rfl ?_
    | refine PthX.ok k ws rfl rfl ?_ ?_ ?_
    | refine GhF.go ?_
    | refine GdS.keep ?_
    | refine DrawG.old (DrawF.lex (by decide +kernel) ?_)
    | refine MkF.row ?_
    | refine EqP.mk _ (gm GAirway.cells default rfl) ?_
    | refine EqP.mk _ (gm eI 0 rfl) ?_
    | refine BndF.mk (fun _ => by omega) ?_
    | refine BndF.mk (fun _ => by simp only [lnS]; omega) ?_
    | refine BndF.mk (fun hG => by simp only [forall_const, eq_self, not_true_eq_false, not_false_eq_true, or_false, false_or, or_self, or_true, true_or, and_true, true_and, and_false, false_and, decide_true, decide_false, Bool.not_true, Bool.not_false, decide_eq_true_eq, decide_eq_false_iff_not, ite_and_p, ite_or_p, Bool.decide_eq_true, Bool.and_eq_true, Bool.or_eq_true, Bool.not_eq_true', Bool.not_eq_false', Bool.and_eq_false_imp, Bool.or_eq_false_iff, bne_iff_ne, beq_iff_eq, bne_eq_false_iff_eq, beq_eq_false_iff_ne, gt_iff_lt, ge_iff_le, Int.not_lt, Int.not_le, ne_eq, Bool.true_eq_false, Bool.false_eq_true, reduceCtorEq, eta_Airway, eta_Fan, eta_Mine, bytes_nil] at hG; (try simp only [List.length_map]); omega) ?_
    | refine EqI.mk _ (fun _ => wrapI (by omega) (by omega)) ?_
    | refine EqI.mk _ (fun _ => rfl) ?_
    | refine FlF.keep ?_
    | refine EqN.mk _ (ln GAirway.cells) ?_
    | refine EqN.mk _ (ln eI) ?_
    | refine EqN.mk _ (Nat.zero_add _) ?_
    | refine EqN.mk (_ + 1) rfl ?_
    | refine EqN.mk _ (Int.toNat_natCast _) ?_
    | refine EqN.mk _ rfl ?_
    | refine EqL.mk _ (sn0 GAirway.cells) ?_
    | refine EqL.mk _ (sn GAirway.cells (by first | rfl | assumption | omega | (simp only [lnS] <;> omega))) ?_
    | refine EqL.mk _ (ap0 GAirway.cells) ?_
    | refine EqL.mk _ (ap GAirway.cells (by first | rfl | assumption | omega | (simp only [lnS] <;> omega))) ?_
    | refine EqL.mk _ (tk GAirway.cells (by first | rfl | assumption | omega | (simp only [lnS] <;> omega))) ?_
    | refine EqL.mk _ (st GAirway.cells) ?_
    | refine EqL.mk _ (dt GAirway.cells) ?_
    | refine EqL.mk _ (sn0 eI) ?_
    | refine EqL.mk _ (sn eI (by first | rfl | assumption | omega | (simp only [lnS] <;> omega))) ?_
    | refine EqL.mk _ (ap0 eI) ?_
    | refine EqL.mk _ (ap eI (by first | rfl | assumption | omega | (simp only [lnS] <;> omega))) ?_
    | refine EqL.mk _ (tk eI (by first | rfl | assumption | omega | (simp only [lnS] <;> omega))) ?_
    | refine EqL.mk _ (st eI) ?_
    | refine EqL.mk _ (dt eI) ?_
    | refine EqL.mk [] rfl ?_
    | refine EqL.mk [_] rfl ?_
    | refine EqL.mk _ rfl ?_
    | (refine CondF.mk (fun hb => ?_) (fun hb => ?_) <;> try simp only [forall_const, eq_self, not_true_eq_false, not_false_eq_true, or_false, false_or, or_self, or_true, true_or, and_true, true_and, and_false, false_and, decide_true, decide_false, Bool.not_true, Bool.not_false, decide_eq_true_eq, decide_eq_false_iff_not, ite_and_p, ite_or_p, Bool.decide_eq_true, Bool.and_eq_true, Bool.or_eq_true, Bool.not_eq_true', Bool.not_eq_false', Bool.and_eq_false_imp, Bool.or_eq_false_iff, bne_iff_ne, beq_iff_eq, bne_eq_false_iff_eq, beq_eq_false_iff_ne, gt_iff_lt, ge_iff_le, Int.not_lt, Int.not_le, ne_eq, Bool.true_eq_false, Bool.false_eq_true, reduceCtorEq, eta_Airway, eta_Fan, eta_Mine] at hb)
    | apply BackF.auto4
    | apply BackF.auto3
    | apply BackF.auto2
    | refine BackB.mk ?_ ?_
    | refine RetF.auto (And.intro rfl ?_)
    | exact Is.mk rfl rfl
    | refine Is.mk ?_ rfl
    | refine Is.mk rfl ?_
    | refine Is.mk ?_ ?_
  all_goals try dsimp only
  all_goals first
    | omega
    | exact ⟨by omega, by omega, rfl, rfl⟩
    | exact ⟨by omega, by omega, by omega, by rw [a3, List.replicate_succ']⟩
    | (refine ⟨by omega, by omega, by rw [List.length_set, a3, List.length_replicate], lvI_0 ht (by rw [a3, List.length_replicate]; omega) (fun k hk => ?_)⟩
       rw [a3, List.length_replicate] at hk
       rw [a3, List.getD_eq_getElem?_getD, List.getElem?_replicate, if_pos hk]; rfl)
    | exact ⟨by omega, by omega, s2, lvI_up s3, qlI_0⟩
    | (rename_i h1 h2
       obtain ⟨e1, e2, e3⟩ := lv_a hm hl i3 i4 s0 i0 (by assumption) h2
       obtain ⟨e4, e5⟩ := lv_b hm hl e1 e2 s0 i0 (by assumption) hb
       exact ⟨by omega, by omega, by rw [List.length_set, List.length_set]; exact i2, e4, e5⟩)
    | (rename_i h1 h2
       obtain ⟨e1, e2, e3⟩ := lv_a hm hl i3 i4 s0 i0 (by assumption) h2
       exact ⟨by omega, by omega, by rw [List.length_set]; exact i2, e1, ql_s hm hl e2 i0 (by assumption) e3 hb⟩)
    | (obtain ⟨e4, e5⟩ := lv_b hm hl i3 i4 s0 i0 (by assumption) hb
       exact ⟨by omega, by omega, by rw [List.length_set]; exact i2, e4, e5⟩)
    | (rename_i h1 h2
       exact ⟨by omega, by omega, i2, i3, ql_s hm hl i4 i0 (by assumption) h2 hb⟩)
    | exact ⟨by omega, by omega, i2, lv_s hm i3 i4 hb⟩
    | exact (lv_end hm ht s3 (by assumption)).no hm (if_neg (fun c => by omega))
    | (have e := lv_end hm ht s3 (by assumption)
       exact ⟨hf, hb, rfl, by simp, wxI_0, e, by have := (far_at hm e hf hb).2; omega⟩)
    | exact ⟨by omega, by omega, fun i hi => absurd hi (by omega)⟩
    | (exfalso; exact absurd (gd_no hm hl far l0 l1 hb q2) (by assumption))
    | exact wxI_end l4 hb
    | (obtain ⟨g1, g2⟩ := gd_f hm hl q0 (by assumption) hb.1 hb.2
       have r := wx_add hm hl far l0 l1 q0 (by assumption) q2 g1 l4
       have b := lsB hl q0 (by assumption)
       rw [wrapI (by omega) (by omega), g2]
       have hb2 := hb.2
       exact ⟨r.2.1, r.2.2, by simp [l2], by rw [List.length_append, List.length_singleton]; omega, r.1, far, l6⟩)
    | (obtain ⟨g1, g2⟩ := gd_f hm hl q0 (by assumption) hb.1 hb.2
       have r := wx_add hm hl far l0 l1 q0 (by assumption) q2 g1 l4
       omega)
    | (obtain ⟨g1, g2⟩ := gd_t hm hl q0 (by assumption) hb.1 hb.2
       have r := wx_add hm hl far l0 l1 q0 (by assumption) q2 g1 l4
       have b := lsB hl q0 (by assumption)
       rw [show IntKind.i64.wrap (0 - ls.getD q.toNat 0) = 0 - ls.getD q.toNat 0 from wrapI (by omega) (by omega), show IntKind.i64.wrap (0 - ls.getD q.toNat 0 - 1) = 0 - ls.getD q.toNat 0 - 1 from wrapI (by omega) (by omega), show 0 - ls.getD q.toNat 0 - 1 = -ls.getD q.toNat 0 - 1 by omega, g2]
       have hb2 := hb.2
       exact ⟨r.2.1, r.2.2, by simp [l2], by rw [List.length_append, List.length_singleton]; omega, r.1, far, l6⟩)
    | (obtain ⟨g1, g2⟩ := gd_t hm hl q0 (by assumption) hb.1 hb.2
       have r := wx_add hm hl far l0 l1 q0 (by assumption) q2 g1 l4
       omega)
    | (rename_i h1; exact ⟨by omega, by omega, gd_s hm hl q0 (by assumption) q2 h1 hb⟩)
    | skip
end Go.Proofs.YtdhkpmaanegjkaaGreat
