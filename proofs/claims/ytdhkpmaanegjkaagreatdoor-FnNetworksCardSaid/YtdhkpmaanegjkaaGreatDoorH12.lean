/- Contracts of functions of the program, and what they compute. Conditions: those that each theorem states. -/
import Derived.Test.YtdhkpmaanegjkaaGreatDoorProg
import Derived.Test.YtdhkpmaanegjkaaGreatDoorD3
import Derived.Test.YtdhkpmaanegjkaaGreatDoorT14a
import Derived.Test.YtdhkpmaanegjkaaGreatDoorA8t
set_option linter.unusedVariables false
set_option linter.unusedSimpArgs false
namespace Go.Proofs.YtdhkpmaanegjkaaGreatDoor
open Go.Av
attribute [local irreducible] Go.IntKind.wrap
set_option maxRecDepth 20000
set_option maxHeartbeats 16000000
--@fn spec.DrawTreeOf
theorem drT5N (c : List Int) : FnSem Tryz.prog 6 [Lx (LY c)] [] (RetV (fun v : Int × Nat × List GAirway => [.aagg [In v.1, .osl 0 0 v.2.1]]) (fun v => [.row true .flat (GAirway.cells default) (v.2.2.map GAirway.cells)]) (fun v => v.2.1 = v.2.2.length ∧ v.2.1 ≤ 25)) := by
  refine FnSem.walk (zs := zeroPV Tryz.prog) (by kernel_rfl) Tryz.func6 rfl Tryz.results6 (by kernel_rfl) (by kernel_rfl) (by kernel_rfl) fun hw hh => ?_
  obtain ⟨w0, _⟩ := hw
  first | replace w0 := wf_LY w0 | skip
  have hc : bytes c := w0.2
  repeat' first
    | refine And.intro rfl ?_
    | refine GdF.mk (fun h => h) ?_
    | refine And.intro (Nat.succ_ne_zero _) ?_
    | refine And.intro (Nat.le_of_ble_eq_true rfl) ?_
    | refine SeqF.run ?_
    | refine CallF.ownN (f := 32) [0] false ?_
    | (refine ArgF.srx (c_spec_l04Draw _ _ _ hc (by omega)) ?_; rintro ⟨j0, n0, xs0⟩ p0 s0 hv0 hp0; dsimp only at hv0 hp0 ⊢)
    | refine RetV.mk (α := Int × Nat × List GAirway) (_, _, _) rfl rfl ?_
    | refine GhF.go ?_
    | refine BndF.mk (fun _ => by omega) ?_
    | refine BndF.mk (fun _ => by simp only [lnS]; omega) ?_
    | refine EqL.mk _ (tk eY (by first | rfl | assumption | omega | (simp only [lnS] <;> omega))) ?_
    | refine EqL.mk _ (st eY) ?_
    | refine EqL.mk [] rfl ?_
    | refine EqL.mk [_] rfl ?_
    | refine EqL.mk _ rfl ?_
    | refine ArgF.is (c_spec_l00From ..) ?_
    | refine ArgQ.is (fun hG => c_spec_l00From ..) rfl rfl ?_
    | (refine ArgF.src (c_spec_l04Draw _ _ _ (by first | assumption | omega | rfl | (simp only [List.length_cons, List.length_nil]; omega)) (by first | assumption | omega | rfl | (simp only [List.length_cons, List.length_nil]; omega))) ?_; intro _ _ _ _ _)
    | refine CallF.own (f := 32) [0] false ?_
    | refine CallF.mk (f := 31) (CallW.is [] false rfl ?_)
    | refine CallF.mk (CallW.is [] true rfl ?_)
    | refine CallG.mk ?_
    | (refine CondF.mk (fun hb => ?_) (fun hb => ?_) <;> try simp only [forall_const, eq_self, not_true_eq_false, not_false_eq_true, or_false, false_or, or_self, or_true, true_or, and_true, true_and, and_false, false_and, decide_true, decide_false, Bool.not_true, Bool.not_false, decide_eq_true_eq, decide_eq_false_iff_not, ite_and_p, ite_or_p, Bool.decide_eq_true, Bool.and_eq_true, Bool.or_eq_true, Bool.not_eq_true', Bool.not_eq_false', Bool.and_eq_false_imp, Bool.or_eq_false_iff, bne_iff_ne, beq_iff_eq, bne_eq_false_iff_eq, beq_eq_false_iff_ne, gt_iff_lt, ge_iff_le, Int.not_lt, Int.not_le, ne_eq, Bool.true_eq_false, Bool.false_eq_true, reduceCtorEq, eta_Airway, eta_Fan, eta_Mine] at hb)
    | refine RetF.auto (And.intro rfl ?_)
    | exact Is.mk rfl rfl
    | refine Is.mk ?_ rfl
    | refine Is.mk rfl ?_
    | refine Is.mk ?_ ?_
  all_goals try dsimp only
  all_goals first
    | exact hv0
    | skip
--@fn spec.DrawTreeOf
theorem drT5 (c : List Int) : FnSem Tryz.prog 6 [Lx (LY c)] [] (RetV (fun m : GMine => [.p .fresh (.agg m.cells)]) (fun _ => []) (fun m => m.airways.length ≤ 25)) := by
  refine FnSem.frz ((drT5N c).mono ?_)
  rintro rs ho ⟨v, rfl, rfl, hv⟩
  refine ⟨_, 0, _, rfl, rfl, Nat.le_refl _, rfl, rfl, ?_⟩
  refine ⟨fun _ => by simp [hv.1], _, tk GAirway.cells hv.1, ?_⟩
  exact RetV.mk (α := GMine) ⟨v.1, v.2.2⟩ rfl rfl (by show v.2.2.length ≤ 25; omega)
--@fn spec.DrawAddAirway
theorem drA5 (c : List Int) : FnSem Tryz.prog 13 [Lx (LY c)] [] (RetV (fun v : GMine × GAirway => [.p .fresh (.agg v.1.cells), .p .flat (.agg v.2.cells)]) (fun _ => []) (fun v => v.1.airways.length ≤ 25)) := by
  refine FnSem.walk (zs := zeroPV Tryz.prog) (by kernel_rfl) Tryz.func13 rfl Tryz.results13 (by kernel_rfl) (by kernel_rfl) (by kernel_rfl) fun hw hh => ?_
  obtain ⟨w0, _⟩ := hw
  first | replace w0 := wf_LY w0 | skip
  have hc : bytes c := w0.2
  repeat' first
    | refine And.intro rfl ?_
    | refine GdF.mk (fun h => h) ?_
    | refine And.intro (Nat.succ_ne_zero _) ?_
    | refine And.intro (Nat.le_of_ble_eq_true rfl) ?_
    | refine SeqF.run ?_
    | refine GhF.at 3 rfl [.fzc 3 4 1] ?_
    | refine CallF.ownN (f := 32) [0] false ?_
    | (refine ArgF.srx (c_spec_l04Draw _ _ _ hc (by omega)) ?_; rintro ⟨j0, n0, xs0⟩ p0 s0 hv0 hp0; dsimp only at hv0 hp0 ⊢)
    | refine EqL.mk (xs0.map GAirway.cells) (tk GAirway.cells hv0.1) ?_
    | (refine ArgF.src (c_spec_l03Bent c _ _ hc (by omega)) ?_; intro x1 p1 s1 _ hp1)
    | (refine ArgF.srw (c_spec_l00Src_text c _ _ _ _ hc (by omega) (by omega) rfl) ?_; intro nm p1 s1 hnm hp1)
    | (refine ArgF.src (drawAwR _ _ _ _ _ _ hc (by omega)) ?_; intro x2 p2 s2 hv2 hp2)
    | refine RetV.mk (α := GMine × GAirway) (⟨j0, xs0⟩, _) rfl rfl ?_
    | refine GhF.go ?_
    | refine DrawG.old (DrawF.lex (by decide +kernel) ?_)
    | refine DrawG.old (DrawF.any ?_)
    | refine OrdF.take 1 (by decide +kernel) ?_
    | refine OrdF.take 2 (by decide +kernel) ?_
    | refine OrdF.take 5 (by decide +kernel) ?_
    | refine OrdF.take 6 (by decide +kernel) ?_
    | refine OrdF.all [4] (by decide +kernel) ?_
    | refine OrdF.all [3] (by decide +kernel) ?_
    | refine OrdF.all [0] (by decide +kernel) ?_
    | refine OrdF.all [2] (by decide +kernel) ?_
    | refine OrdF.all [0, 2] (by decide +kernel) ?_
    | refine OrdF.all [9] (by decide +kernel) ?_
    | refine OrdF.all [8] (by decide +kernel) ?_
    | refine OrdF.all [7] (by decide +kernel) ?_
    | refine OrdF.all [0, 7] (by decide +kernel) ?_
    | refine OrdF.all [0, 4] (by decide +kernel) ?_
    | refine OrdF.all [0, 3] (by decide +kernel) ?_
    | refine OrdF.fin (by decide +kernel) ?_
    | refine AllF.one _ ?_
    | refine AllF.cons _ _ ?_ ?_
    | refine MkF.row ?_
    | refine BndF.mk (fun _ => by omega) ?_
    | refine BndF.mk (fun _ => by simp only [lnS]; omega) ?_
    | refine EqI.mk _ (fun _ => wrapI (by omega) (by omega)) ?_
    | refine EqI.mk _ (fun _ => modE (by omega)) ?_
    | refine EqI.mk _ (fun _ => rfl) ?_
    | refine EqL.mk _ (tk eY (by first | rfl | assumption | omega | (simp only [lnS] <;> omega))) ?_
    | refine EqL.mk _ (st eY) ?_
    | refine EqL.mk _ (tk eS (by first | rfl | assumption | omega | (simp only [lnS] <;> omega))) ?_
    | refine EqL.mk _ (st eS) ?_
    | refine EqL.mk (List.map eS [_, _, _, _]) rfl ?_
    | refine EqL.mk [] rfl ?_
    | refine EqL.mk [_] rfl ?_
    | refine EqL.mk _ rfl ?_
    | refine ArgF.is (c_spec_l00From ..) ?_
    | refine ArgQ.is (fun hG => c_spec_l00From ..) rfl rfl ?_
    | (refine ArgF.src (c_spec_l04Draw _ _ _ (by first | assumption | omega | rfl | (simp only [List.length_cons, List.length_nil]; omega)) (by first | assumption | omega | rfl | (simp only [List.length_cons, List.length_nil]; omega))) ?_; intro _ _ _ _ _)
    | (refine ArgF.src (c_spec_l00Src_one _ _ _ _ (by first | assumption | omega | rfl | (simp only [List.length_cons, List.length_nil]; omega)) (by first | assumption | omega | rfl | (simp only [List.length_cons, List.length_nil]; omega)) (by first | assumption | omega | rfl | (simp only [List.length_cons, List.length_nil]; omega))) ?_; intro _ _ _ _ _)
    | (refine ArgF.src (c_spec_l03Bent _ _ _ (by first | assumption | omega | rfl | (simp only [List.length_cons, List.length_nil]; omega)) (by first | assumption | omega | rfl | (simp only [List.length_cons, List.length_nil]; omega))) ?_; intro _ _ _ _ _)
    | (refine ArgF.src (c_spec_l00Src_pick _ _ _ _ (by first | assumption | omega | rfl | (simp only [List.length_cons, List.length_nil]; omega)) (by first | assumption | omega | rfl | (simp only [List.length_cons, List.length_nil]; omega)) (by first | assumption | omega | rfl | (simp only [List.length_cons, List.length_nil]; omega))) ?_; intro _ _ _ _ _)
    | (refine ArgF.srw (c_spec_l00Src_text _ _ _ _ _ (by first | assumption | omega | rfl | (simp only [List.length_cons, List.length_nil]; omega)) (by first | assumption | omega | rfl | (simp only [List.length_cons, List.length_nil]; omega)) (by first | assumption | omega | rfl | (simp only [List.length_cons, List.length_nil]; omega)) (by first | assumption | omega | rfl | (simp only [List.length_cons, List.length_nil]; omega))) ?_; intro _ _ _ _ _)
    | (refine ArgF.src (c_spec_l03DrawOk _ _ _ _ _ _ (by first | assumption | omega | rfl | (simp only [List.length_cons, List.length_nil]; omega)) (by first | assumption | omega | rfl | (simp only [List.length_cons, List.length_nil]; omega))) ?_; intro _ _ _ _ _)
    | refine CallF.own (f := 32) [0] false ?_
    | refine CallF.own (f := 42) [0] false ?_
    | refine CallF.own (f := 43) [0] false ?_
    | refine CallF.own (f := 44) [0] false ?_
    | refine CallF.own (f := 45) [0] false ?_
    | refine CallF.own (f := 46) [0, 1] false ?_
    | refine CallF.mk (f := 31) (CallW.is [] false rfl ?_)
    | refine CallF.mk (CallW.is [] true rfl ?_)
    | refine CallG.mk ?_
    | (refine CondF.mk (fun hb => ?_) (fun hb => ?_) <;> try simp only [forall_const, eq_self, not_true_eq_false, not_false_eq_true, or_false, false_or, or_self, or_true, true_or, and_true, true_and, and_false, false_and, decide_true, decide_false, Bool.not_true, Bool.not_false, decide_eq_true_eq, decide_eq_false_iff_not, ite_and_p, ite_or_p, Bool.decide_eq_true, Bool.and_eq_true, Bool.or_eq_true, Bool.not_eq_true', Bool.not_eq_false', Bool.and_eq_false_imp, Bool.or_eq_false_iff, bne_iff_ne, beq_iff_eq, bne_eq_false_iff_eq, beq_eq_false_iff_ne, gt_iff_lt, ge_iff_le, Int.not_lt, Int.not_le, ne_eq, Bool.true_eq_false, Bool.false_eq_true, reduceCtorEq, eta_Airway, eta_Fan, eta_Mine] at hb)
    | refine RetF.auto (And.intro rfl ?_)
    | exact Is.mk rfl rfl
    | refine Is.mk ?_ rfl
    | refine Is.mk rfl ?_
    | refine Is.mk ?_ ?_
  all_goals try dsimp only
  all_goals first
    | omega
    | skip
end Go.Proofs.YtdhkpmaanegjkaaGreatDoor
