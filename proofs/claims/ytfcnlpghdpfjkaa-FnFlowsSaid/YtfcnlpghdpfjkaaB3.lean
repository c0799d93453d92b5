/- Contracts of functions of the program, and what they compute. Conditions: those that each theorem states. -/
import Derived.Test.YtfcnlpghdpfjkaaProg
import Derived.Test.YtfcnlpghdpfjkaaB2
set_option linter.unusedVariables false
set_option linter.unusedSimpArgs false
namespace Go.Proofs.Ytfcnlpghdpfjkaa
open Go.Av
attribute [local irreducible] Go.IntKind.wrap leastI rdZ rd rootI okMine treeC
set_option maxRecDepth 20000
set_option maxHeartbeats 40000000

/-! The reference's tree; the program's tree, told exactly. -/
section
variable {m : GMine} {T : List Int} {i : Int}
theorem treeC_0 : treeC m (Int.toNat 0) = [] := by rw [show Int.toNat 0 = 0 from rfl, treeC]
theorem tree_lt (h : T = treeC m i.toNat) (h0 : 0 ≤ i) (hi : i ≤ m.airways.length) : ∀ x ∈ T, 0 ≤ x ∧ x < m.airways.length := fun x hx => by
  have := (treeC_I (m := m) i.toNat).rg x (by rw [← h]; exact hx); omega
theorem tree_len (h : T = treeC m i.toNat) (h0 : 0 ≤ i) : (T.length : Int) ≤ i := by
  have := trI_len (treeC_I (m := m) i.toNat) (by omega); rw [← h] at this; omega
theorem prt_b {o : List Int} {k : Int} (hm : okMine m = true) (p : prtI m T o) (h0 : 0 ≤ k) (hk : k < m.airways.length) : ((0 ≤ (m.airways.getD k.toNat default).from_ ∧ (m.airways.getD k.toNat default).from_ < o.length) ∧ 0 ≤ (m.airways.getD k.toNat default).to ∧ (m.airways.getD k.toNat default).to < o.length) := by
  have q := ((okMine_p hm).2.2 k.toNat (by omega)).2
  have := p.ln
  omega
theorem prt_q {o : List Int} {k : Int} (hm : okMine m = true) (p : prtI m T o) (h0 : 0 ≤ k) (hk : k < m.airways.length) : (o.getD (m.airways.getD k.toNat default).from_.toNat 0 = o.getD (m.airways.getD k.toNat default).to.toNat 0 ↔ cnA m T (m.airways.getD k.toNat default).from_ (m.airways.getD k.toNat default).to) := by
  have q := ((okMine_p hm).2.2 k.toNat (by omega)).2
  exact p.eq _ _ q.1 q.2
end
theorem c_spec_l04Tree (m : GMine) (hm : okMine m = true) : FnSem Try.prog 149 [.p .any (.ref m.cells)] [] (RetV (fun v : Nat × List Int => [.osl 0 0 v.1]) (fun v => [.row false .flat (eI 0) (v.2.map eI)]) (fun v => v.1 = v.2.length ∧ v.2 = treeC m m.airways.length)) := by
  have hmp := okMine_p hm
  refine FnSem.old ?_
  refine FnSem.walk (zs := zeroPV Try.prog) (by kernel_rfl) Try.func149 rfl Try.results149 (by kernel_rfl) (by kernel_rfl) (by kernel_rfl) fun hw hh => ?_
  obtain ⟨w0, _⟩ := hw
  first | replace w0 := wfr_Mine w0 | skip
  have hwl := w0.2.1
  repeat' first
    | refine And.intro rfl ?_
    | refine GdF.mk (fun h => h) ?_
    | refine And.intro (Nat.succ_ne_zero _) ?_
    | refine And.intro (Nat.le_of_ble_eq_true rfl) ?_
    | refine SeqF.run ?_
    | (refine ArgF.ret (c_spec_l04Parts m T hm (tree_lt i3 i0 (by omega)) (by have := tree_len i3 i0; omega)) ?_; rintro ⟨k, o⟩ ⟨q1, q2⟩; dsimp only at q1 q2)
    | refine BndF.mk (fun _ => by have b := prt_b hm q2 i0 (by omega); first | omega | (simp only [List.length_map]; omega)) ?_
    | refine BndF.mk (fun _ => by have := tree_len i3 i0; omega) ?_
    | refine LoopF.at 3 rfl (LoopF.fix [0] (Int × Nat × List Int) (fun (i, n, T) => 0 ≤ i ∧ i ≤ m.airways.length ∧ n = T.length ∧ T = treeC m i.toNat) (fun (i, n, T) => [(4, In i), (3, .osl 0 0 n)]) (fun (i, n, T) => [(0, .row true .flat (eI 0) (T.map eI))]) (fun (i, n, T) => ((m.airways.length - i).toNat)) ((0, 0, [])) ?_)
    | (refine LoopB.of (T := Int × Nat × List Int) ?_ ?_; rotate_left; rintro ⟨i, n, T⟩ ⟨i0, i1, i2, i3⟩; rotate_left)
    | refine EqL.mk _ (tkT (take_all i2)) ?_
    | refine EqL.mk _ (snT (take_all i2)) ?_
    | refine RetV.mk (α := Nat × List Int) (_, _) rfl rfl ?_
    | refine GhF.go ?_
    | refine DrawG.old (DrawF.lex (by decide +kernel) ?_)
    | refine MkF.row ?_
    | refine EqP.mk _ (gm eI 0 rfl) ?_
    | refine EqP.mk _ (gm GAirway.cells default rfl) ?_
    | refine BndF.mk (fun _ => by omega) ?_
    | refine BndF.mk (fun _ => by simp only [List.length_map, List.length_cons, List.length_nil, List.length_append, List.length_set, List.length_replicate, iotaI_len]; omega) ?_
    | refine EqI.mk _ (fun _ => wrapI (by omega) (by omega)) ?_
    | refine EqI.mk _ (fun _ => rfl) ?_
    | refine FlF.keep ?_
    | refine EqN.mk _ (ln eI) ?_
    | refine EqN.mk _ (ln GAirway.cells) ?_
    | refine EqN.mk _ (Nat.zero_add _) ?_
    | refine EqN.mk (_ + 1) rfl ?_
    | refine EqN.mk _ (Int.toNat_natCast _) ?_
    | refine EqN.mk _ rfl ?_
    | refine EqL.mk _ (sn0 eI) ?_
    | refine EqL.mk _ (sn eI (by first | rfl | assumption | omega | (simp only [List.length_map, List.length_cons, List.length_nil, List.length_append, List.length_set, List.length_replicate, iotaI_len]; done) | (simp only [List.length_map, List.length_cons, List.length_nil, List.length_append, List.length_set, List.length_replicate, iotaI_len]; omega))) ?_
    | refine EqL.mk _ (ap0 eI) ?_
    | refine EqL.mk _ (ap eI (by first | rfl | assumption | omega | (simp only [List.length_map, List.length_cons, List.length_nil, List.length_append, List.length_set, List.length_replicate, iotaI_len]; done) | (simp only [List.length_map, List.length_cons, List.length_nil, List.length_append, List.length_set, List.length_replicate, iotaI_len]; omega))) ?_
    | refine EqL.mk _ (tk eI (by first | rfl | assumption | omega | (simp only [List.length_map, List.length_cons, List.length_nil, List.length_append, List.length_set, List.length_replicate, iotaI_len]; done) | (simp only [List.length_map, List.length_cons, List.length_nil, List.length_append, List.length_set, List.length_replicate, iotaI_len]; omega))) ?_
    | refine EqL.mk _ (dt eI) ?_
    | refine EqL.mk _ (sn0 GAirway.cells) ?_
    | refine EqL.mk _ (sn GAirway.cells (by first | rfl | assumption | omega | (simp only [List.length_map, List.length_cons, List.length_nil, List.length_append, List.length_set, List.length_replicate, iotaI_len]; done) | (simp only [List.length_map, List.length_cons, List.length_nil, List.length_append, List.length_set, List.length_replicate, iotaI_len]; omega))) ?_
    | refine EqL.mk _ (ap0 GAirway.cells) ?_
    | refine EqL.mk _ (ap GAirway.cells (by first | rfl | assumption | omega | (simp only [List.length_map, List.length_cons, List.length_nil, List.length_append, List.length_set, List.length_replicate, iotaI_len]; done) | (simp only [List.length_map, List.length_cons, List.length_nil, List.length_append, List.length_set, List.length_replicate, iotaI_len]; omega))) ?_
    | refine EqL.mk _ (tk GAirway.cells (by first | rfl | assumption | omega | (simp only [List.length_map, List.length_cons, List.length_nil, List.length_append, List.length_set, List.length_replicate, iotaI_len]; done) | (simp only [List.length_map, List.length_cons, List.length_nil, List.length_append, List.length_set, List.length_replicate, iotaI_len]; omega))) ?_
    | refine EqL.mk _ (dt GAirway.cells) ?_
    | refine EqL.mk [] rfl ?_
    | refine EqL.mk [_] rfl ?_
    | refine EqL.mk _ rfl ?_
    | refine ArgF.is (c_spec_l04Parts ⟨_, _⟩ _ (by first | assumption | omega) (by first | assumption | omega) (by first | assumption | omega)) ?_
    | refine ArgQ.is (fun hG => c_spec_l04Parts ⟨_, _⟩ _ (by first | assumption | omega) (by first | assumption | omega) (by first | assumption | omega)) rfl rfl ?_
    | refine CallF.mk (CallW.is [] true rfl ?_)
    | refine CallG.mk ?_
    | (refine CondF.mk (fun hb => ?_) (fun hb => ?_) <;> try simp only [forall_const, eq_self, not_true_eq_false, not_false_eq_true, or_false, false_or, or_self, or_true, true_or, and_true, true_and, and_false, false_and, decide_true, decide_false, Bool.not_true, Bool.not_false, decide_eq_true_eq, decide_eq_false_iff_not, ite_and_p, ite_or_p, Bool.decide_eq_true, Bool.and_eq_true, Bool.or_eq_true, Bool.not_eq_true', Bool.not_eq_false', Bool.and_eq_false_imp, Bool.or_eq_false_iff, bne_iff_ne, beq_iff_eq, bne_eq_false_iff_eq, beq_eq_false_iff_ne, gt_iff_lt, ge_iff_le, Int.not_lt, Int.not_le, ne_eq, Bool.true_eq_false, Bool.false_eq_true, reduceCtorEq, eta_Airway, eta_Fan, eta_Mine] at hb)
    | apply BackF.auto3
    | refine BackB.mk ?_ ?_
    | refine RetF.auto (And.intro rfl ?_)
    | exact Is.mk rfl rfl
    | refine Is.mk ?_ rfl
    | refine Is.mk rfl ?_
    | refine Is.mk ?_ ?_
  all_goals try dsimp only
  all_goals first
    | omega
    | exact ⟨by omega, by omega, rfl, treeC_0.symm⟩
    | (refine ⟨by omega, by omega, by simp [i2], ?_⟩
       rw [treeC_a i0 (by rw [← i3]; exact fun e => hb ((prt_q hm q2 i0 (by omega)).2 e)), ← i3])
    | (refine ⟨by omega, by omega, i2, ?_⟩
       rw [treeC_k i0 (by rw [← i3]; exact (prt_q hm q2 i0 (by omega)).1 hb), ← i3])
    | exact ⟨i2, by rw [i3, show i.toNat = m.airways.length by omega]⟩
    | skip
--@fn (impl.Mine).tree
theorem treeX (m : GMine) (hm : okMine m = true) : FnSem Try.prog 156 [.p .any (.agg m.cells)] [] (RetV (fun v : Nat × List Int => [.osl 0 0 v.1]) (fun v => [.row false .flat (eI 0) (v.2.map eI)]) (fun v => v.1 = v.2.length ∧ v.2 = treeC m m.airways.length)) := by
  have hmp := okMine_p hm
  refine FnSem.old ?_
  refine FnSem.walk (zs := zeroPV Try.prog) (by kernel_rfl) Try.func156 rfl Try.results156 (by kernel_rfl) (by kernel_rfl) (by kernel_rfl) fun hw hh => ?_
  obtain ⟨w0, _⟩ := hw
  first | replace w0 := wf_Mine w0 | skip
  have hwl := w0.2.1
  repeat' first
    | refine And.intro rfl ?_
    | refine GdF.mk (fun h => h) ?_
    | refine And.intro (Nat.succ_ne_zero _) ?_
    | refine And.intro (Nat.le_of_ble_eq_true rfl) ?_
    | refine SeqF.run ?_
    | refine GhF.at 2 rfl [.old 2] ?_
    | refine OpH.heap ?_
    | refine GhF.held 5 rfl [(4, [1]), (7, [])] ?_
    | refine BndF.mk (fun _ => by have := tree_len i3 i0; omega) ?_
    | (refine ArgF.ret (c_impl_Mine_reached m (m.airways.getD i.toNat default).from_ T hm ((hmp.2.2 i.toNat (by omega)).2.1) (tree_lt i3 i0 (by omega)) (by have := tree_len i3 i0; omega)) ?_; rintro ⟨k, ys⟩ ⟨q1, q2, q3⟩; dsimp only at q1 q2 q3)
    | refine LoopF.at 3 rfl (LoopF.fix [1, 7, 8] (Int × Nat × List Int) (fun (i, n, T) => 0 ≤ i ∧ i ≤ m.airways.length ∧ n = T.length ∧ T = treeC m i.toNat) (fun (i, n, T) => [(9, In i), (3, .osl 1 0 n)]) (fun (i, n, T) => [(1, .row false .flat (eI 0) (T.map eI))]) (fun (i, n, T) => ((m.airways.length - i).toNat)) ((0, 0, [])) ?_)
    | (refine LoopB.of (T := Int × Nat × List Int) ?_ ?_; rotate_left; rintro ⟨i, n, T⟩ ⟨i0, i1, i2, i3⟩; rotate_left)
    | refine EqL.mk _ (tkT (take_all i2)) ?_
    | refine EqL.mk _ (snT (take_all i2)) ?_
    | refine EqL.mk _ (tkT (take_all q1)) ?_
    | refine RetV.mk (α := Nat × List Int) (_, _) rfl rfl ?_
    | refine HdF.at 8 rfl 0 [4, 7, 8] (And.intro (by decide +kernel) (And.intro rfl ?_))
    | refine HdF.at 7 rfl 1 [] (And.intro (by decide +kernel) (And.intro rfl ?_))
    | refine HdF.at 6 rfl 2 [4, 7, 8] (And.intro (by decide +kernel) (And.intro rfl ?_))
    | refine HdF.at 5 rfl 3 [] (And.intro (by decide +kernel) (And.intro rfl ?_))
    | refine HdF.at 4 rfl 5 [] (And.intro (by decide +kernel) (And.intro rfl ?_))
    | refine HdF.at 3 rfl 6 [7, 8] (And.intro (by decide +kernel) (And.intro rfl ?_))
    | refine HdF.goAt 2 rfl ?_
    | refine OrdL.ord ?_
    | refine OrdF.take 8 (by decide +kernel) (And.intro rfl ?_)
    | refine OrdF.all [7] (by decide +kernel) ?_
    | refine OrdF.all [4] (by decide +kernel) ?_
    | refine OrdF.fin (by decide +kernel) ?_
    | refine AllF.one _ ?_
    | refine AllF.cons _ _ ?_ ?_
    | refine OpH.quiet rfl ?_
    | refine OpH.heap ?_
    | refine GhF.go ?_
    | refine DrawG.old (DrawF.lex (by decide +kernel) ?_)
    | refine MkF.row ?_
    | refine EqP.mk _ (gm eI 0 rfl) ?_
    | refine EqP.mk _ (gm GAirway.cells default rfl) ?_
    | refine BndF.mk (fun _ => by omega) ?_
    | refine BndF.mk (fun _ => by simp only [List.length_map, List.length_cons, List.length_nil, List.length_append, List.length_set, List.length_replicate, iotaI_len]; omega) ?_
    | refine EqI.mk _ (fun _ => wrapI (by omega) (by omega)) ?_
    | refine EqI.mk _ (fun _ => rfl) ?_
    | refine FlF.keep ?_
    | refine EqN.mk _ (ln eI) ?_
    | refine EqN.mk _ (ln GAirway.cells) ?_
    | refine EqN.mk _ (Nat.zero_add _) ?_
    | refine EqN.mk (_ + 1) rfl ?_
    | refine EqN.mk _ (Int.toNat_natCast _) ?_
    | refine EqN.mk _ rfl ?_
    | refine EqL.mk _ (sn0 eI) ?_
    | refine EqL.mk _ (sn eI (by first | rfl | assumption | omega | (simp only [List.length_map, List.length_cons, List.length_nil, List.length_append, List.length_set, List.length_replicate, iotaI_len]; done) | (simp only [List.length_map, List.length_cons, List.length_nil, List.length_append, List.length_set, List.length_replicate, iotaI_len]; omega))) ?_
    | refine EqL.mk _ (ap0 eI) ?_
    | refine EqL.mk _ (ap eI (by first | rfl | assumption | omega | (simp only [List.length_map, List.length_cons, List.length_nil, List.length_append, List.length_set, List.length_replicate, iotaI_len]; done) | (simp only [List.length_map, List.length_cons, List.length_nil, List.length_append, List.length_set, List.length_replicate, iotaI_len]; omega))) ?_
    | refine EqL.mk _ (tk eI (by first | rfl | assumption | omega | (simp only [List.length_map, List.length_cons, List.length_nil, List.length_append, List.length_set, List.length_replicate, iotaI_len]; done) | (simp only [List.length_map, List.length_cons, List.length_nil, List.length_append, List.length_set, List.length_replicate, iotaI_len]; omega))) ?_
    | refine EqL.mk _ (st eI) ?_
    | refine EqL.mk _ (dt eI) ?_
    | refine EqL.mk _ (sn0 GAirway.cells) ?_
    | refine EqL.mk _ (sn GAirway.cells (by first | rfl | assumption | omega | (simp only [List.length_map, List.length_cons, List.length_nil, List.length_append, List.length_set, List.length_replicate, iotaI_len]; done) | (simp only [List.length_map, List.length_cons, List.length_nil, List.length_append, List.length_set, List.length_replicate, iotaI_len]; omega))) ?_
    | refine EqL.mk _ (ap0 GAirway.cells) ?_
    | refine EqL.mk _ (ap GAirway.cells (by first | rfl | assumption | omega | (simp only [List.length_map, List.length_cons, List.length_nil, List.length_append, List.length_set, List.length_replicate, iotaI_len]; done) | (simp only [List.length_map, List.length_cons, List.length_nil, List.length_append, List.length_set, List.length_replicate, iotaI_len]; omega))) ?_
    | refine EqL.mk _ (tk GAirway.cells (by first | rfl | assumption | omega | (simp only [List.length_map, List.length_cons, List.length_nil, List.length_append, List.length_set, List.length_replicate, iotaI_len]; done) | (simp only [List.length_map, List.length_cons, List.length_nil, List.length_append, List.length_set, List.length_replicate, iotaI_len]; omega))) ?_
    | refine EqL.mk _ (st GAirway.cells) ?_
    | refine EqL.mk _ (dt GAirway.cells) ?_
    | refine EqL.mk [] rfl ?_
    | refine EqL.mk [_] rfl ?_
    | refine EqL.mk _ rfl ?_
    | refine ArgF.is (c_impl_Mine_reached ⟨_, _⟩ _ _ (by first | assumption | omega) (by first | assumption | omega) (by first | assumption | omega) (by first | assumption | omega)) ?_
    | refine ArgQ.is (fun hG => c_impl_Mine_reached ⟨_, _⟩ _ _ (by first | assumption | omega) (by first | assumption | omega) (by first | assumption | omega) (by first | assumption | omega)) rfl rfl ?_
    | refine ArgF.is (c_slices_Contains_int64_int64 ..) ?_
    | refine ArgQ.is (fun hG => c_slices_Contains_int64_int64 ..) rfl rfl ?_
    | refine CallF.mk (CallW.is [] true rfl ?_)
    | refine CallG.mk ?_
    | (refine CondF.mk (fun hb => ?_) (fun hb => ?_) <;> try simp only [forall_const, eq_self, not_true_eq_false, not_false_eq_true, or_false, false_or, or_self, or_true, true_or, and_true, true_and, and_false, false_and, decide_true, decide_false, Bool.not_true, Bool.not_false, decide_eq_true_eq, decide_eq_false_iff_not, ite_and_p, ite_or_p, Bool.decide_eq_true, Bool.and_eq_true, Bool.or_eq_true, Bool.not_eq_true', Bool.not_eq_false', Bool.and_eq_false_imp, Bool.or_eq_false_iff, bne_iff_ne, beq_iff_eq, bne_eq_false_iff_eq, beq_eq_false_iff_ne, gt_iff_lt, ge_iff_le, Int.not_lt, Int.not_le, ne_eq, Bool.true_eq_false, Bool.false_eq_true, reduceCtorEq, eta_Airway, eta_Fan, eta_Mine] at hb)
    | apply BackF.auto3
    | refine BackB.mk ?_ ?_
    | refine RetF.auto (And.intro rfl ?_)
    | exact Is.mk rfl rfl
    | refine Is.mk ?_ rfl
    | refine Is.mk rfl ?_
    | refine Is.mk ?_ ?_
  all_goals try dsimp only
  all_goals first
    | omega
    | exact ⟨by omega, by omega, rfl, treeC_0.symm⟩
    | (refine ⟨by omega, by omega, by simp [i2], ?_⟩
       rw [treeC_a i0 (by rw [← i3]; exact fun e => hb ((q3 _).2 e)), ← i3])
    | (refine ⟨by omega, by omega, i2, ?_⟩
       rw [treeC_k i0 (by rw [← i3]; exact (q3 _).1 hb), ← i3])
    | exact ⟨i2, by rw [i3, show i.toNat = m.airways.length by omega]⟩
    | skip
end Go.Proofs.Ytfcnlpghdpfjkaa

