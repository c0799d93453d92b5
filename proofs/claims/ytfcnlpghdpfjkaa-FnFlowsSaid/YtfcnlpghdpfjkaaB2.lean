/- Contracts of functions of the program, and what they compute. Conditions: those that each theorem states. -/
import Derived.Test.YtfcnlpghdpfjkaaProg
import Derived.Test.YtfcnlpghdpfjkaaB1
import Derived.Test.YtfcnlpghdpfjkaaK1
set_option linter.unusedVariables false
set_option linter.unusedSimpArgs false
namespace Go.Proofs.Ytfcnlpghdpfjkaa
open Go.Av
attribute [local irreducible] Go.IntKind.wrap leastI rdZ rd rootI okMine treeC
set_option maxRecDepth 20000
set_option maxHeartbeats 40000000

/-! The reference's parts and tree. -/
theorem c_spec_l04Parts (m : GMine) (ls : List Int) (hm : okMine m = true) (hl : ∀ i ∈ ls, 0 ≤ i ∧ i < m.airways.length) (hll : ls.length ≤ 1000) : FnSem Try.prog 200 [.p .any (.ref m.cells), Lx (LI ls)] [] (RetV (fun v : Nat × List Int => [.osl 0 0 v.1]) (fun v => [.row false .flat (eI 0) (v.2.map eI)]) (fun v => v.1 = v.2.length ∧ prtI m ls v.2)) := by
  have hmp := okMine_p hm
  refine FnSem.old ?_
  refine FnSem.walk (zs := zeroPV Try.prog) (by kernel_rfl) Try.func200 rfl Try.results200 (by kernel_rfl) (by kernel_rfl) (by kernel_rfl) fun hw hh => ?_
  obtain ⟨w0, w1, _⟩ := hw
  first | replace w0 := wfr_Mine w0 | skip
  first | replace w1 := wf_LI w1 | skip
  repeat' first
    | refine And.intro rfl ?_
    | refine GdF.mk (fun h => h) ?_
    | refine And.intro (Nat.succ_ne_zero _) ?_
    | refine And.intro (Nat.le_of_ble_eq_true rfl) ?_
    | refine SeqF.run ?_
    | refine ArgF.is (c_spec_l00Min (o.getD (m.airways.getD (ls.getD i.toNat 0).toNat default).from_.toNat 0) (o.getD (m.airways.getD (ls.getD i.toNat 0).toNat default).to.toNat 0)) ?_
    | refine ArgQ.is (fun hG => c_spec_l00Min (o.getD (m.airways.getD (ls.getD i.toNat 0).toNat default).from_.toNat 0) (o.getD (m.airways.getD (ls.getD i.toNat 0).toNat default).to.toNat 0)) rfl rfl ?_
    | refine ArgF.is (c_spec_l00Max (o.getD (m.airways.getD (ls.getD i.toNat 0).toNat default).from_.toNat 0) (o.getD (m.airways.getD (ls.getD i.toNat 0).toNat default).to.toNat 0)) ?_
    | refine ArgQ.is (fun hG => c_spec_l00Max (o.getD (m.airways.getD (ls.getD i.toNat 0).toNat default).from_.toNat 0) (o.getD (m.airways.getD (ls.getD i.toNat 0).toNat default).to.toNat 0)) rfl rfl ?_
    | refine LoopF.at 3 rfl (LoopF.fix [0, 1] (Int × Nat × List Int) (fun (j, n, o0) => 0 ≤ j ∧ j ≤ m.junctions ∧ (n : Int) = j ∧ o0 = iotaI 0 n) (fun (j, n, o0) => [(6, In j), (5, .osl 0 0 n)]) (fun (j, n, o0) => [(0, .row true .flat (eI 0) (o0.map eI))]) (fun (j, n, o0) => ((m.junctions - j).toNat)) ((0, 0, [])) ?_)
    | (refine LoopB.of (T := Int × Nat × List Int) ?_ ?_; rotate_left; rintro ⟨j, n, o0⟩ ⟨a0, a1, a2, a3⟩; rotate_left)
    | refine LoopF.at 7 rfl (LoopF.fix [0, 1, 5] (Int × List Int) (fun (i, o) => 0 ≤ i ∧ i ≤ ls.length ∧ prtI m (ls.take i.toNat) o ∧ o.length = n) (fun (i, o) => [(7, In i)]) (fun (i, o) => [(0, .row true .flat (eI 0) (o.map eI))]) (fun (i, o) => ((ls.length - i).toNat)) ((0, o0)) ?_)
    | (refine LoopB.of (T := Int × List Int) ?_ ?_; rotate_left; rintro ⟨i, o⟩ ⟨i0, i1, i2, i3⟩; rotate_left)
    | refine LoopF.at 13 rfl (LoopF.fix [0, 1, 5, 7, 9, 10] (Int × List Int × Unit) (fun (k, o', _) => 0 ≤ k ∧ k ≤ n ∧ rpI o (max (o.getD (m.airways.getD (ls.getD i.toNat 0).toNat default).from_.toNat 0) (o.getD (m.airways.getD (ls.getD i.toNat 0).toNat default).to.toNat 0)) (min (o.getD (m.airways.getD (ls.getD i.toNat 0).toNat default).from_.toNat 0) (o.getD (m.airways.getD (ls.getD i.toNat 0).toNat default).to.toNat 0)) k o') (fun (k, o', _) => [(11, In k)]) (fun (k, o', _) => [(0, .row true .flat (eI 0) (o'.map eI))]) (fun (k, o', _) => ((n - k).toNat)) ((0, o, ())) ?_)
    | (refine LoopB.of (T := Int × List Int × Unit) ?_ ?_; rotate_left; rintro ⟨k, o', _⟩ ⟨k0, k1, k2⟩; rotate_left)
    | refine BndF.mk (fun _ => by have a := lsB hl i0 (by assumption); have b := (hmp.2.2 (ls.getD i.toNat 0).toNat (by omega)).2; have c := i2.ln; first | omega | (simp only [List.length_map]; omega)) ?_
    | refine BndF.mk (fun _ => by rw [a3]; simp only [List.length_map, iotaI_len]; omega) ?_
    | refine BndF.mk (fun _ => by have b := k2.ln; first | omega | (simp only [List.length_map]; omega)) ?_
    | refine EqL.mk _ (snT (take_all (by rw [a3, iotaI_len]))) ?_
    | refine RetV.mk (α := Nat × List Int) (_, _) rfl rfl ?_
    | refine GhF.go ?_
    | refine DrawG.old (DrawF.lex (by decide +kernel) ?_)
    | refine MkF.row ?_
    | refine EqP.mk _ (gm eI 0 rfl) ?_
    | refine EqP.mk _ (gm GAirway.cells default rfl) ?_
    | refine BndF.mk (fun _ => by omega) ?_
    | refine BndF.mk (fun _ => by simp only [List.length_map, List.length_cons, List.length_nil, List.length_append, List.length_set, List.length_replicate, iotaI_len]; omega) ?_
    | refine EqI.mk _ (fun _ => wrapI (by omega) (by omega)) ?_
    | refine EqI.mk _ (fun _ => rfl) ?_
    | refine FlF.keep ?_
    | refine EqN.mk _ (ln eI) ?_
    | refine EqN.mk _ (ln GAirway.cells) ?_
    | refine EqN.mk _ (Nat.zero_add _) ?_
    | refine EqN.mk (_ + 1) rfl ?_
    | refine EqN.mk _ (Int.toNat_natCast _) ?_
    | refine EqN.mk _ rfl ?_
    | refine EqL.mk _ (sn0 eI) ?_
    | refine EqL.mk _ (sn eI (by first | rfl | assumption | omega | (simp only [List.length_map, List.length_cons, List.length_nil, List.length_append, List.length_set, List.length_replicate, iotaI_len]; done) | (simp only [List.length_map, List.length_cons, List.length_nil, List.length_append, List.length_set, List.length_replicate, iotaI_len]; omega))) ?_
    | refine EqL.mk _ (ap0 eI) ?_
    | refine EqL.mk _ (ap eI (by first | rfl | assumption | omega | (simp only [List.length_map, List.length_cons, List.length_nil, List.length_append, List.length_set, List.length_replicate, iotaI_len]; done) | (simp only [List.length_map, List.length_cons, List.length_nil, List.length_append, List.length_set, List.length_replicate, iotaI_len]; omega))) ?_
    | refine EqL.mk _ (tk eI (by first | rfl | assumption | omega | (simp only [List.length_map, List.length_cons, List.length_nil, List.length_append, List.length_set, List.length_replicate, iotaI_len]; done) | (simp only [List.length_map, List.length_cons, List.length_nil, List.length_append, List.length_set, List.length_replicate, iotaI_len]; omega))) ?_
    | refine EqL.mk _ (st eI) ?_
    | refine EqL.mk _ (dt eI) ?_
    | refine EqL.mk _ (sn0 GAirway.cells) ?_
    | refine EqL.mk _ (sn GAirway.cells (by first | rfl | assumption | omega | (simp only [List.length_map, List.length_cons, List.length_nil, List.length_append, List.length_set, List.length_replicate, iotaI_len]; done) | (simp only [List.length_map, List.length_cons, List.length_nil, List.length_append, List.length_set, List.length_replicate, iotaI_len]; omega))) ?_
    | refine EqL.mk _ (ap0 GAirway.cells) ?_
    | refine EqL.mk _ (ap GAirway.cells (by first | rfl | assumption | omega | (simp only [List.length_map, List.length_cons, List.length_nil, List.length_append, List.length_set, List.length_replicate, iotaI_len]; done) | (simp only [List.length_map, List.length_cons, List.length_nil, List.length_append, List.length_set, List.length_replicate, iotaI_len]; omega))) ?_
    | refine EqL.mk _ (tk GAirway.cells (by first | rfl | assumption | omega | (simp only [List.length_map, List.length_cons, List.length_nil, List.length_append, List.length_set, List.length_replicate, iotaI_len]; done) | (simp only [List.length_map, List.length_cons, List.length_nil, List.length_append, List.length_set, List.length_replicate, iotaI_len]; omega))) ?_
    | refine EqL.mk _ (st GAirway.cells) ?_
    | refine EqL.mk _ (dt GAirway.cells) ?_
    | refine EqL.mk [] rfl ?_
    | refine EqL.mk [_] rfl ?_
    | refine EqL.mk _ rfl ?_
    | refine ArgF.is (c_spec_l00Min ..) ?_
    | refine ArgQ.is (fun hG => c_spec_l00Min ..) rfl rfl ?_
    | refine ArgF.is (c_spec_l00Max ..) ?_
    | refine ArgQ.is (fun hG => c_spec_l00Max ..) rfl rfl ?_
    | refine CallF.mk (CallW.is [] true rfl ?_)
    | refine CallG.mk ?_
    | (refine CondF.mk (fun hb => ?_) (fun hb => ?_) <;> try simp only [forall_const, eq_self, not_true_eq_false, not_false_eq_true, or_false, false_or, or_self, or_true, true_or, and_true, true_and, and_false, false_and, decide_true, decide_false, Bool.not_true, Bool.not_false, decide_eq_true_eq, decide_eq_false_iff_not, ite_and_p, ite_or_p, Bool.decide_eq_true, Bool.and_eq_true, Bool.or_eq_true, Bool.not_eq_true', Bool.not_eq_false', Bool.and_eq_false_imp, Bool.or_eq_false_iff, bne_iff_ne, beq_iff_eq, bne_eq_false_iff_eq, beq_eq_false_iff_ne, gt_iff_lt, ge_iff_le, Int.not_lt, Int.not_le, ne_eq, Bool.true_eq_false, Bool.false_eq_true, reduceCtorEq, eta_Airway, eta_Fan, eta_Mine] at hb)
    | apply BackF.auto3
    | apply BackF.auto2
    | refine BackB.mk ?_ ?_
    | refine RetF.auto (And.intro rfl ?_)
    | exact Is.mk rfl rfl
    | refine Is.mk ?_ rfl
    | refine Is.mk rfl ?_
    | refine Is.mk ?_ ?_
  all_goals try dsimp only
  all_goals first
    | omega
    | exact ⟨by omega, by omega, rfl, rfl⟩
    | exact ⟨by omega, by omega, by omega, by rw [a3, iotaI_succ]; simp [a2]⟩
    | exact ⟨by omega, by omega, by rw [a3, show n = m.junctions.toNat by omega]; exact prtI_0 (by omega), by rw [a3, iotaI_len]⟩
    | exact ⟨by omega, by omega, rpI_0⟩
    | exact ⟨by omega, by omega, rpI_set k2 k0 (by have := k2.ln; omega) hb⟩
    | exact ⟨by omega, by omega, rpI_keep k2 k0 hb⟩
    | (have a := lsB hl i0 (by assumption)
       have q := prt_add hm a i2 k2 (by have := k2.ln; omega)
       exact ⟨by omega, by omega, by rw [take_s i0 (by assumption)]; exact q, by have := k2.ln; omega⟩)
    | exact ⟨i3.symm, by rw [List.take_of_length_le (by omega)] at i2; exact i2⟩
    | skip
end Go.Proofs.Ytfcnlpghdpfjkaa

