/- Contracts of functions of the program, and what they compute. Conditions: those that each theorem states. -/
import Derived.Test.YtdhkpmaanegjkaaGreatProg
import Derived.Test.YtdhkpmaanegjkaaGreatF12
set_option linter.unusedVariables false
set_option linter.unusedSimpArgs false
namespace Go.Proofs.YtdhkpmaanegjkaaGreat
open Go.Av
attribute [local irreducible] Go.IntKind.wrap leastI rdZ rd rootI okMine treeC mshC
set_option maxRecDepth 20000
set_option maxHeartbeats 16000000
theorem c_spec_l07DrawFlows (c : List Int) (p s j : Int) (xs : List GAirway) (r : List Int) (fs : List GFan) (d : List Int) (hc : bytes c) (hp : 0 ≤ p ∧ p ≤ 20000000) (hx : xs.length ≤ 26) : FnSem Tryz.prog 39 [.own 0 0, .own 1 0] [srcO c p s, xO j xs (liV r) (fanV fs) (liV d)] (SrcX (fun r : List Int => [.p .fresh (LI r)]) (fun _ => [xO j xs (liV r) (fanV fs) (liV d)]) (fun _ => True) c 100 p) := by
  refine FnSem.frz ((floU c p s j xs r fs d hc hp hx).mono ?_)
  rintro rs ho ⟨⟨n, ys⟩, p', s', rfl, rfl, hv, hp'⟩
  dsimp only at hv
  refine ⟨_, 2, _, rfl, rfl, Nat.le_refl _, rfl, rfl, fun _ => by simp only [List.length_map]; omega, _, tkT (take_all hv.1), ?_⟩
  exact SrcX.mk (α := List Int) ys p' s' rfl rfl trivial hp'
structure CasX where
  j : Int
  xs : List GAirway
  r : List Int
  fs : List GFan
  d : List Int
  st : List Int
  tol : Int
  rounds : Int
  aw : Int
theorem c_spec_l18Draw (c : List Int) (p s : Int) (hc : bytes c) (hp : 0 ≤ p ∧ p ≤ 1000000) : FnSem Tryz.prog 15 [.own 0 0] [srcO c p s] (SrcX (fun _ : CasX => [.own 1 0]) (fun v => [.fix [In v.j, airV v.xs, liV v.r, fanV v.fs, liV v.d, .p .fresh (LI v.st), In v.tol, In v.rounds, In v.aw]]) (fun _ => True) c 3000 p) := by
  refine FnSem.walk (zs := zeroPV Tryz.prog) (by kernel_rfl) Tryz.func15 rfl Tryz.results15 (by kernel_rfl) (by kernel_rfl) (by kernel_rfl) fun hw hh => ?_
  obtain ⟨w0, _⟩ := hw
  first | replace w0 := wfr_L00Src w0 | skip
  repeat' first
    | refine And.intro rfl ?_
    | refine GdF.mk (fun h => h) ?_
    | refine And.intro (Nat.succ_ne_zero _) ?_
    | refine And.intro (Nat.le_of_ble_eq_true rfl) ?_
    | refine GdS.tt (by first | rfl | assumption) ?_
    | refine GdS.ff (by first | rfl | assumption) ?_
    | refine GdS.split (fun hg => ?_) (fun hg => ?_)
    | refine GdF.mk (fun h => by first | exact h | rfl | (rw [hg] at h; exact h)) ?_
    | (refine SeqF.cutfix (a := codeF _ _ _ (.region 4 _ _)) [0, 3] [0, 2, 5] (Nat × List GAirway × Int × Int) (fun (n, xs, q, t) => n = xs.length ∧ n = 1 ∧ p ≤ q ∧ q ≤ p + 1000) (fun _ => []) (fun (n, xs, q, t) => [srcO c q t, .fix [In 2, .osl 2 0 n, nilV, nilV, nilV, nilV, In 0, In 0, In 0], .row true .flat (GAirway.cells default) (xs.map GAirway.cells)]) ?_ ?_; rotate_left; rintro ⟨n, xs, q, t⟩ ⟨g0, g1, g2, g3⟩; rotate_left)
    | (refine SeqF.cutfix (a := codeF _ _ _ (.region 5 _ _)) [0, 3] [0, 1, 4] (Nat × List GAirway × Int × Int) (fun (n, xs, q, t) => n = xs.length ∧ n = 2 ∧ p ≤ q ∧ q ≤ p + 1100) (fun _ => []) (fun (n, xs, q, t) => [srcO c q t, .fix [In 2, .osl 2 0 n, nilV, nilV, nilV, nilV, In 0, In 0, In 0], .row true .flat (GAirway.cells default) (xs.map GAirway.cells)]) ?_ ?_; rotate_left; rintro ⟨n, xs, q, t⟩ ⟨g0, g1, g2, g3⟩; rotate_left)
    | (refine SeqF.cutfix (a := codeF _ _ _ (.cond (.tmp 9) _ _)) [0, 3] [0, 2, 1] (Int × Nat × List GAirway × Int × Int) (fun (j, n, xs, q, t) => n = xs.length ∧ n ≤ 25 ∧ p ≤ q ∧ q ≤ p + 1300) (fun _ => []) (fun (j, n, xs, q, t) => [srcO c q t, .fix [In j, .osl 2 0 n, nilV, nilV, nilV, nilV, In 0, In 0, In 0], .row true .flat (GAirway.cells default) (xs.map GAirway.cells)]) ?_ ?_; rotate_left; rintro ⟨j, n, xs, q, t⟩ ⟨g0, g1, g2, g3⟩; rotate_left)
    | (refine SeqF.cutfix (a := codeF _ _ _ (.seq _ (.cond (.tmp 9) _ _))) [0, 3] [0, 2, 1] (Int × Nat × List GAirway × Int × Int) (fun (j, n, xs, q, t) => n = xs.length ∧ n ≤ 25 ∧ p ≤ q ∧ q ≤ p + 1300) (fun _ => []) (fun (j, n, xs, q, t) => [srcO c q t, .fix [In j, .osl 2 0 n, nilV, nilV, nilV, nilV, In 0, In 0, In 0], .row true .flat (GAirway.cells default) (xs.map GAirway.cells)]) ?_ ?_; rotate_left; rintro ⟨j, n, xs, q, t⟩ ⟨g0, g1, g2, g3⟩; rotate_left)
    | refine BackB.mk ?_ ?_
    | apply FitF.auto5
    | apply FitF.auto4
    | refine SeqF.run ?_
    | refine GhF.at 7 rfl [.fzc 2 1 1] ?_
    | refine GhF.at 4 rfl [.nils 2 1 (GAirway.cells default)] ?_
    | refine CallF.ownN (f := 33) [0] false ?_
    | refine CallF.own (f := 36) [0, 1] false ?_
    | refine CallF.own (f := 37) [0, 1] false ?_
    | refine CallF.own (f := 38) [0, 1] false ?_
    | refine CallF.own (f := 39) [0, 1] false ?_
    | (refine ArgF.srx (c_spec_l04Draw c _ _ hc (by omega)) ?_; rintro ⟨j, n, xs⟩ p1 s1 hv1 hp1; dsimp only at hv1 ⊢)
    | (refine ArgF.srx (c_spec_l07DrawRes c _ _ _ _ hc (by omega) (by first | omega | (simp only [List.length_append, List.length_cons, List.length_nil]; omega))) ?_; intro r p2 s2 _ hp2)
    | (refine ArgF.srx (c_spec_l07DrawFans c _ _ _ _ r hc (by omega) (by first | omega | (simp only [List.length_append, List.length_cons, List.length_nil]; omega))) ?_; intro fs p3 s3 _ hp3)
    | (refine ArgF.srx (c_spec_l07DrawPushes c _ _ _ _ r fs hc (by omega) (by first | omega | (simp only [List.length_append, List.length_cons, List.length_nil]; omega))) ?_; intro d p4 s4 _ hp4)
    | (refine ArgF.srx (c_spec_l07DrawFlows c _ _ _ _ r fs d hc (by omega) (by first | omega | (simp only [List.length_append, List.length_cons, List.length_nil]; omega))) ?_; intro st p5 s5 _ hp5)
    | (refine ArgF.srw (c_spec_l00Src_among c _ _ [20, 50, 100, 1000, 5, 100001, 30] 7 hc (by omega) (by omega) rfl) ?_; intro w6 p6 s6 _ hp6)
    | (refine ArgF.srw (c_spec_l00Src_among c _ _ [40, 80, 20, 60, 1, 501, 50] 7 hc (by omega) (by omega) rfl) ?_; intro w7 p7 s7 _ hp7)
    | (refine ArgF.src (c_spec_l00Src_pick c _ _ _ hc (by omega) (by omega)) ?_; intro w9 p9 s9 hw9 hp9)
    | (refine ArgF.srw (c_spec_l00Src_among c _ _ [-1, 24] 2 hc (by omega) (by omega) rfl) ?_; intro w8 p8 s8 _ hp8)
    | refine EqL.mk _ (tk GAirway.cells (by assumption)) ?_
    | refine EqL.mk _ (sn0 GAirway.cells (v := _)) ?_
    | refine EqL.mk _ (sn GAirway.cells (v := _) (by first | rfl | assumption | omega | (simp only [List.length_append, List.length_cons, List.length_nil]; omega))) ?_
    | refine SrcX.mk (α := CasX) ⟨j, xs, r, fs, d, st, w6, w7, w8⟩ _ _ rfl rfl trivial ?_
    | refine SrcX.mk (α := CasX) ⟨j, xs, r, fs, d, st, w6, w7, w9⟩ _ _ rfl rfl trivial ?_
    | refine GhF.go ?_
    | refine DrawG.old (DrawF.lex (by decide +kernel) ?_)
    | refine DrawG.old (DrawF.any ?_)
    | refine OrdF.take 0 (by decide +kernel) ?_
    | refine OrdF.take 1 (by decide +kernel) ?_
    | refine OrdF.take 2 (by decide +kernel) ?_
    | refine OrdF.take 3 (by decide +kernel) ?_
    | refine OrdF.take 4 (by decide +kernel) ?_
    | refine OrdF.take 6 (by decide +kernel) ?_
    | refine OrdF.take 10 (by decide +kernel) ?_
    | refine OrdF.take 11 (by decide +kernel) ?_
    | refine OrdF.take 12 (by decide +kernel) ?_
    | refine OrdF.all [13] (by decide +kernel) ?_
    | refine OrdF.all [9] (by decide +kernel) ?_
    | refine OrdF.all [5] (by decide +kernel) ?_
    | refine OrdF.all [8] (by decide +kernel) ?_
    | refine OrdF.all [5, 8] (by decide +kernel) ?_
    | refine OrdF.all [7] (by decide +kernel) ?_
    | refine OrdF.all [5, 7] (by decide +kernel) ?_
    | refine OrdF.fin (by decide +kernel) ?_
    | refine AllF.one _ ?_
    | refine AllF.cons _ _ ?_ ?_
    | refine MkF.row ?_
    | refine BndF.mk (fun _ => by omega) ?_
    | refine BndF.mk (fun _ => by simp only [lnS]; omega) ?_
    | refine FlF.keep ?_
    | refine EqN.mk _ (ln GAirway.cells) ?_
    | refine EqN.mk _ (ln eI) ?_
    | refine EqN.mk _ (Nat.zero_add _) ?_
    | refine EqN.mk (_ + 1) rfl ?_
    | refine EqN.mk _ (Int.toNat_natCast _) ?_
    | refine EqN.mk _ rfl ?_
    | refine EqL.mk _ (sn0 GAirway.cells) ?_
    | refine EqL.mk _ (sn GAirway.cells (by first | rfl | assumption | omega | (simp only [lnS] <;> omega))) ?_
    | refine EqL.mk _ (ap0 GAirway.cells) ?_
    | refine EqL.mk _ (ap GAirway.cells (by first | rfl | assumption | omega | (simp only [lnS] <;> omega))) ?_
    | refine EqL.mk _ (tk GAirway.cells (by first | rfl | assumption | omega | (simp only [lnS] <;> omega))) ?_
    | refine EqL.mk _ (st GAirway.cells) ?_
    | refine EqL.mk _ (sn0 eI) ?_
    | refine EqL.mk _ (sn eI (by first | rfl | assumption | omega | (simp only [lnS] <;> omega))) ?_
    | refine EqL.mk _ (ap0 eI) ?_
    | refine EqL.mk _ (ap eI (by first | rfl | assumption | omega | (simp only [lnS] <;> omega))) ?_
    | refine EqL.mk _ (tk eI (by first | rfl | assumption | omega | (simp only [lnS] <;> omega))) ?_
    | refine EqL.mk _ (st eI) ?_
    | refine EqL.mk (List.map eI [_, _]) rfl ?_
    | refine EqL.mk (List.map eI [_, _, _, _, _, _, _]) rfl ?_
    | refine EqL.mk [] rfl ?_
    | refine EqL.mk [_] rfl ?_
    | refine EqL.mk _ rfl ?_
    | (refine ArgF.src (c_spec_l04Draw _ _ _ (by first | assumption | omega | rfl | (simp only [List.length_cons, List.length_nil]; omega)) (by first | assumption | omega | rfl | (simp only [List.length_cons, List.length_nil]; omega))) ?_; intro _ _ _ _ _)
    | (refine ArgF.src (c_spec_l00Src_one _ _ _ _ (by first | assumption | omega | rfl | (simp only [List.length_cons, List.length_nil]; omega)) (by first | assumption | omega | rfl | (simp only [List.length_cons, List.length_nil]; omega)) (by first | assumption | omega | rfl | (simp only [List.length_cons, List.length_nil]; omega))) ?_; intro _ _ _ _ _)
    | (refine ArgF.src (c_spec_l03DrawOk _ _ _ _ _ _ (by first | assumption | omega | rfl | (simp only [List.length_cons, List.length_nil]; omega)) (by first | assumption | omega | rfl | (simp only [List.length_cons, List.length_nil]; omega))) ?_; intro _ _ _ _ _)
    | (refine ArgF.src (c_spec_l07DrawRes _ _ _ _ _ (by first | assumption | omega | rfl | (simp only [List.length_cons, List.length_nil]; omega)) (by first | assumption | omega | rfl | (simp only [List.length_cons, List.length_nil]; omega)) (by first | assumption | omega | rfl | (simp only [List.length_cons, List.length_nil]; omega))) ?_; intro _ _ _ _ _)
    | (refine ArgF.src (c_spec_l07DrawFans _ _ _ _ _ _ (by first | assumption | omega | rfl | (simp only [List.length_cons, List.length_nil]; omega)) (by first | assumption | omega | rfl | (simp only [List.length_cons, List.length_nil]; omega)) (by first | assumption | omega | rfl | (simp only [List.length_cons, List.length_nil]; omega))) ?_; intro _ _ _ _ _)
    | (refine ArgF.src (c_spec_l07DrawPushes _ _ _ _ _ _ _ (by first | assumption | omega | rfl | (simp only [List.length_cons, List.length_nil]; omega)) (by first | assumption | omega | rfl | (simp only [List.length_cons, List.length_nil]; omega)) (by first | assumption | omega | rfl | (simp only [List.length_cons, List.length_nil]; omega))) ?_; intro _ _ _ _ _)
    | (refine ArgF.src (c_spec_l07DrawFlows _ _ _ _ _ _ _ _ (by first | assumption | omega | rfl | (simp only [List.length_cons, List.length_nil]; omega)) (by first | assumption | omega | rfl | (simp only [List.length_cons, List.length_nil]; omega)) (by first | assumption | omega | rfl | (simp only [List.length_cons, List.length_nil]; omega))) ?_; intro _ _ _ _ _)
    | (refine ArgF.srw (c_spec_l00Src_among _ _ _ _ _ (by first | assumption | omega | rfl | (simp only [List.length_cons, List.length_nil]; omega)) (by first | assumption | omega | rfl | (simp only [List.length_cons, List.length_nil]; omega)) (by first | assumption | omega | rfl | (simp only [List.length_cons, List.length_nil]; omega)) (by first | assumption | omega | rfl | (simp only [List.length_cons, List.length_nil]; omega))) ?_; intro _ _ _ _ _)
    | refine ArgF.is (c_spec_l00Max ..) ?_
    | refine ArgQ.is (fun hG => c_spec_l00Max ..) rfl rfl ?_
    | (refine ArgF.src (c_spec_l00Src_pick _ _ _ _ (by first | assumption | omega | rfl | (simp only [List.length_cons, List.length_nil]; omega)) (by first | assumption | omega | rfl | (simp only [List.length_cons, List.length_nil]; omega)) (by first | assumption | omega | rfl | (simp only [List.length_cons, List.length_nil]; omega))) ?_; intro _ _ _ _ _)
    | refine CallF.own (f := 16) [0, 1] false ?_
    | refine CallF.own (f := 29) [0] false ?_
    | refine CallF.own (f := 33) [0] false ?_
    | refine CallF.own (f := 34) [0] false ?_
    | refine CallF.own (f := 35) [0] false ?_
    | refine CallF.own (f := 36) [0, 1] false ?_
    | refine CallF.own (f := 37) [0, 1] false ?_
    | refine CallF.own (f := 38) [0, 1] false ?_
    | refine CallF.own (f := 39) [0, 1] false ?_
    | refine CallF.mk (CallW.is [] true rfl ?_)
    | refine CallG.mk ?_
    | (refine CondF.mk (fun hb => ?_) (fun hb => ?_) <;> try simp only [forall_const, eq_self, not_true_eq_false, not_false_eq_true, or_false, false_or, or_self, or_true, true_or, and_true, true_and, and_false, false_and, decide_true, decide_false, Bool.not_true, Bool.not_false, decide_eq_true_eq, decide_eq_false_iff_not, ite_and_p, ite_or_p, Bool.decide_eq_true, Bool.and_eq_true, Bool.or_eq_true, Bool.not_eq_true', Bool.not_eq_false', Bool.and_eq_false_imp, Bool.or_eq_false_iff, bne_iff_ne, beq_iff_eq, bne_eq_false_iff_eq, beq_eq_false_iff_ne, gt_iff_lt, ge_iff_le, Int.not_lt, Int.not_le, ne_eq, Bool.true_eq_false, Bool.false_eq_true, reduceCtorEq, eta_Airway, eta_Fan, eta_Mine] at hb)
    | refine RetF.auto (And.intro rfl ?_)
    | exact Is.mk rfl rfl
    | refine Is.mk ?_ rfl
    | refine Is.mk rfl ?_
    | refine Is.mk ?_ ?_
  all_goals try dsimp only
  all_goals first
    | omega
    | exact True.intro
    | exact ⟨rfl, rfl, by omega, by omega⟩
    | exact ⟨by rw [List.length_append, List.length_singleton]; omega, by omega, by omega, by omega⟩
    | exact ⟨by rw [List.length_append]; rfl, by omega, by omega, by omega⟩
    | exact ⟨by omega, by omega, by omega, by omega⟩
    | skip
end Go.Proofs.YtdhkpmaanegjkaaGreat
/- Contracts of functions of the program, and what they compute. Conditions: those that each theorem states. -/
set_option linter.unusedVariables false
set_option linter.unusedSimpArgs false
namespace Go.Proofs.YtdhkpmaanegjkaaGreat
open Go.Av
attribute [local irreducible] Go.IntKind.wrap leastI rdZ rd rootI okMine treeC mshC
set_option maxRecDepth 20000
set_option maxHeartbeats 16000000
structure RevD where
  m : GMine
  r : List Int
  fs : List GFan
  d : List Int
  st : List Int
  tol : Int
  rounds : Int
  aw : Int
  step : Int
  count : Int
theorem c_spec_DrawFirstReversal (c : List Int) (hc : bytes c) : FnSem Tryz.prog 5 [Lx (LY c)] [] (RetV (fun v : RevD => [.p .any (.agg v.m.cells), liV v.r, fanV v.fs, liV v.d, liV v.st, In v.tol, In v.rounds, In v.aw, In v.step, In v.count]) (fun _ => []) (fun _ => True)) := by
  refine FnSem.walk (zs := zeroPV Tryz.prog) (by kernel_rfl) Tryz.func5 rfl Tryz.results5 (by kernel_rfl) (by kernel_rfl) (by kernel_rfl) fun hw hh => ?_
  obtain ⟨w0, _⟩ := hw
  first | replace w0 := wf_LY w0 | skip
  repeat' first
    | refine And.intro rfl ?_
    | refine GdF.mk (fun h => h) ?_
    | refine And.intro (Nat.succ_ne_zero _) ?_
    | refine And.intro (Nat.le_of_ble_eq_true rfl) ?_
    | refine SeqF.run ?_
    | refine CallF.own (f := 15) [0] false ?_
    | (refine ArgF.srx (c_spec_l18Draw c _ _ hc (by omega)) ?_; rintro ⟨j, xs, r, fs, d, st, tol, rounds, aw⟩ p1 s1 _ hp1; dsimp only)
    | (refine ArgF.srw (c_spec_l00Src_among c _ _ [20, 100, 500, 100, 5000, 0, 100001] 7 hc (by omega) (by omega) rfl) ?_; intro w6 p6 s6 _ hp6)
    | (refine ArgF.srw (c_spec_l00Src_among c _ _ [1, 3, 5, 8, 20, 21, 0] 7 hc (by omega) (by omega) rfl) ?_; intro w7 p7 s7 _ hp7)
    | refine GhF.held 5 rfl [(34, [0])] ?_
    | refine RetV.mk (α := RevD) ⟨⟨j, xs⟩, r, fs, d, st, tol, rounds, aw, w6, w7⟩ rfl rfl trivial
    | refine HdF.at 43 rfl 0 [] (And.intro (by decide +kernel) (And.intro rfl ?_))
    | refine HdF.at 42 rfl 1 [] (And.intro (by decide +kernel) (And.intro rfl ?_))
    | refine HdF.at 41 rfl 2 [] (And.intro (by decide +kernel) (And.intro rfl ?_))
    | refine HdF.at 40 rfl 3 [34, 35, 36, 37, 38, 39, 40, 41, 42, 43] (And.intro (by decide +kernel) (And.intro rfl ?_))
    | refine HdF.at 39 rfl 4 [] (And.intro (by decide +kernel) (And.intro rfl ?_))
    | refine HdF.at 38 rfl 5 [] (And.intro (by decide +kernel) (And.intro rfl ?_))
    | refine HdF.at 37 rfl 6 [] (And.intro (by decide +kernel) (And.intro rfl ?_))
    | refine HdF.at 36 rfl 7 [35, 36, 37, 38, 39, 40, 41, 42, 43] (And.intro (by decide +kernel) (And.intro rfl ?_))
    | refine HdF.at 35 rfl 8 [] (And.intro (by decide +kernel) (And.intro rfl ?_))
    | refine HdF.at 34 rfl 9 [] (And.intro (by decide +kernel) (And.intro rfl ?_))
    | refine HdF.at 33 rfl 10 [] (And.intro (by decide +kernel) (And.intro rfl ?_))
    | refine HdF.at 32 rfl 11 [36, 37, 38, 39, 40, 41, 42, 43] (And.intro (by decide +kernel) (And.intro rfl ?_))
    | refine HdF.at 31 rfl 12 [] (And.intro (by decide +kernel) (And.intro rfl ?_))
    | refine HdF.at 30 rfl 13 [] (And.intro (by decide +kernel) (And.intro rfl ?_))
    | refine HdF.at 29 rfl 14 [] (And.intro (by decide +kernel) (And.intro rfl ?_))
    | refine HdF.at 28 rfl 15 [37, 38, 39, 40, 41, 42, 43] (And.intro (by decide +kernel) (And.intro rfl ?_))
    | refine HdF.at 27 rfl 16 [] (And.intro (by decide +kernel) (And.intro rfl ?_))
    | refine HdF.at 26 rfl 17 [] (And.intro (by decide +kernel) (And.intro rfl ?_))
    | refine HdF.at 25 rfl 18 [] (And.intro (by decide +kernel) (And.intro rfl ?_))
    | refine HdF.at 24 rfl 19 [38, 39, 40, 41, 42, 43] (And.intro (by decide +kernel) (And.intro rfl ?_))
    | refine HdF.at 23 rfl 20 [] (And.intro (by decide +kernel) (And.intro rfl ?_))
    | refine HdF.at 22 rfl 21 [] (And.intro (by decide +kernel) (And.intro rfl ?_))
    | refine HdF.at 21 rfl 22 [] (And.intro (by decide +kernel) (And.intro rfl ?_))
    | refine HdF.at 20 rfl 23 [39, 40, 41, 42, 43] (And.intro (by decide +kernel) (And.intro rfl ?_))
    | refine HdF.at 19 rfl 24 [] (And.intro (by decide +kernel) (And.intro rfl ?_))
    | refine HdF.at 18 rfl 25 [] (And.intro (by decide +kernel) (And.intro rfl ?_))
    | refine HdF.at 17 rfl 26 [] (And.intro (by decide +kernel) (And.intro rfl ?_))
    | refine HdF.at 16 rfl 27 [40, 41, 42, 43] (And.intro (by decide +kernel) (And.intro rfl ?_))
    | refine HdF.at 15 rfl 28 [] (And.intro (by decide +kernel) (And.intro rfl ?_))
    | refine HdF.at 14 rfl 29 [] (And.intro (by decide +kernel) (And.intro rfl ?_))
    | refine HdF.at 13 rfl 30 [] (And.intro (by decide +kernel) (And.intro rfl ?_))
    | refine HdF.at 12 rfl 31 [41, 42, 43] (And.intro (by decide +kernel) (And.intro rfl ?_))
    | refine HdF.at 11 rfl 32 [] (And.intro (by decide +kernel) (And.intro rfl ?_))
    | refine HdF.at 10 rfl 33 [] (And.intro (by decide +kernel) (And.intro rfl ?_))
    | refine HdF.goAt 9 rfl ?_
    | refine OrdL.ord ?_
    | refine OrdF.take 35 (by decide +kernel) (And.intro rfl ?_)
    | refine OrdF.take 36 (by decide +kernel) (And.intro rfl ?_)
    | refine OrdF.take 37 (by decide +kernel) (And.intro rfl ?_)
    | refine OrdF.take 38 (by decide +kernel) (And.intro rfl ?_)
    | refine OrdF.take 39 (by decide +kernel) (And.intro rfl ?_)
    | refine OrdF.take 40 (by decide +kernel) (And.intro rfl ?_)
    | refine OrdF.take 41 (by decide +kernel) (And.intro rfl ?_)
    | refine OrdF.take 42 (by decide +kernel) (And.intro rfl ?_)
    | refine OrdF.take 43 (by decide +kernel) (And.intro rfl ?_)
    | refine OrdF.all [34] (by decide +kernel) ?_
    | refine OrdF.fin (by decide +kernel) ?_
    | refine AllF.one _ ?_
    | refine AllF.cons _ _ ?_ ?_
    | refine OpH.quiet rfl ?_
    | refine OpH.heap ?_
    | refine GhF.go ?_
    | refine DrawG.old (DrawF.lex (by decide +kernel) ?_)
    | refine DrawG.old (DrawF.any ?_)
    | refine OrdF.take 0 (by decide +kernel) ?_
    | refine OrdF.take 1 (by decide +kernel) ?_
    | refine OrdF.take 2 (by decide +kernel) ?_
    | refine OrdF.take 4 (by decide +kernel) ?_
    | refine OrdF.take 5 (by decide +kernel) ?_
    | refine OrdF.take 6 (by decide +kernel) ?_
    | refine OrdF.take 8 (by decide +kernel) ?_
    | refine OrdF.take 9 (by decide +kernel) ?_
    | refine OrdF.take 10 (by decide +kernel) ?_
    | refine OrdF.take 12 (by decide +kernel) ?_
    | refine OrdF.take 13 (by decide +kernel) ?_
    | refine OrdF.take 14 (by decide +kernel) ?_
    | refine OrdF.take 16 (by decide +kernel) ?_
    | refine OrdF.take 17 (by decide +kernel) ?_
    | refine OrdF.take 18 (by decide +kernel) ?_
    | refine OrdF.take 20 (by decide +kernel) ?_
    | refine OrdF.take 21 (by decide +kernel) ?_
    | refine OrdF.take 22 (by decide +kernel) ?_
    | refine OrdF.take 24 (by decide +kernel) ?_
    | refine OrdF.take 25 (by decide +kernel) ?_
    | refine OrdF.take 26 (by decide +kernel) ?_
    | refine OrdF.take 28 (by decide +kernel) ?_
    | refine OrdF.take 29 (by decide +kernel) ?_
    | refine OrdF.take 30 (by decide +kernel) ?_
    | refine OrdF.take 32 (by decide +kernel) ?_
    | refine OrdF.take 33 (by decide +kernel) ?_
    | refine OrdF.take 35 (by decide +kernel) ?_
    | refine OrdF.take 36 (by decide +kernel) ?_
    | refine OrdF.take 37 (by decide +kernel) ?_
    | refine OrdF.take 38 (by decide +kernel) ?_
    | refine OrdF.take 39 (by decide +kernel) ?_
    | refine OrdF.take 40 (by decide +kernel) ?_
    | refine OrdF.take 41 (by decide +kernel) ?_
    | refine OrdF.take 42 (by decide +kernel) ?_
    | refine OrdF.take 43 (by decide +kernel) ?_
    | refine OrdF.all [34] (by decide +kernel) ?_
    | refine OrdF.all [3] (by decide +kernel) ?_
    | refine OrdF.all [7] (by decide +kernel) ?_
    | refine OrdF.all [7, 34] (by decide +kernel) ?_
    | refine OrdF.all [3, 7] (by decide +kernel) ?_
    | refine OrdF.all [11] (by decide +kernel) ?_
    | refine OrdF.all [11, 34] (by decide +kernel) ?_
    | refine OrdF.all [3, 11] (by decide +kernel) ?_
    | refine OrdF.all [7, 11] (by decide +kernel) ?_
    | refine OrdF.all [7, 11, 34] (by decide +kernel) ?_
    | refine OrdF.all [3, 7, 11] (by decide +kernel) ?_
    | refine OrdF.all [15] (by decide +kernel) ?_
    | refine OrdF.all [15, 34] (by decide +kernel) ?_
    | refine OrdF.all [3, 15] (by decide +kernel) ?_
    | refine OrdF.all [7, 15] (by decide +kernel) ?_
    | refine OrdF.all [7, 15, 34] (by decide +kernel) ?_
    | refine OrdF.all [3, 7, 15] (by decide +kernel) ?_
    | refine OrdF.all [11, 15] (by decide +kernel) ?_
    | refine OrdF.all [11, 15, 34] (by decide +kernel) ?_
    | refine OrdF.all [3, 11, 15] (by decide +kernel) ?_
    | refine OrdF.all [7, 11, 15] (by decide +kernel) ?_
    | refine OrdF.all [7, 11, 15, 34] (by decide +kernel) ?_
    | refine OrdF.all [3, 7, 11, 15] (by decide +kernel) ?_
    | refine OrdF.all [19] (by decide +kernel) ?_
    | refine OrdF.all [19, 34] (by decide +kernel) ?_
    | refine OrdF.all [3, 19] (by decide +kernel) ?_
    | refine OrdF.all [7, 19] (by decide +kernel) ?_
    | refine OrdF.all [7, 19, 34] (by decide +kernel) ?_
    | refine OrdF.all [3, 7, 19] (by decide +kernel) ?_
    | refine OrdF.all [11, 19] (by decide +kernel) ?_
    | refine OrdF.all [11, 19, 34] (by decide +kernel) ?_
    | refine OrdF.all [3, 11, 19] (by decide +kernel) ?_
    | refine OrdF.all [7, 11, 19] (by decide +kernel) ?_
    | refine OrdF.all [7, 11, 19, 34] (by decide +kernel) ?_
    | refine OrdF.all [3, 7, 11, 19] (by decide +kernel) ?_
    | refine OrdF.all [15, 19] (by decide +kernel) ?_
    | refine OrdF.all [15, 19, 34] (by decide +kernel) ?_
    | refine OrdF.all [3, 15, 19] (by decide +kernel) ?_
    | refine OrdF.all [7, 15, 19] (by decide +kernel) ?_
    | refine OrdF.all [7, 15, 19, 34] (by decide +kernel) ?_
    | refine OrdF.all [3, 7, 15, 19] (by decide +kernel) ?_
    | refine OrdF.all [11, 15, 19] (by decide +kernel) ?_
    | refine OrdF.all [11, 15, 19, 34] (by decide +kernel) ?_
    | refine OrdF.all [3, 11, 15, 19] (by decide +kernel) ?_
    | refine OrdF.all [7, 11, 15, 19] (by decide +kernel) ?_
    | refine OrdF.all [7, 11, 15, 19, 34] (by decide +kernel) ?_
    | refine OrdF.all [3, 7, 11, 15, 19] (by decide +kernel) ?_
    | refine OrdF.all [23] (by decide +kernel) ?_
    | refine OrdF.all [23, 34] (by decide +kernel) ?_
    | refine OrdF.all [3, 23] (by decide +kernel) ?_
    | refine OrdF.all [7, 23] (by decide +kernel) ?_
    | refine OrdF.all [7, 23, 34] (by decide +kernel) ?_
    | refine OrdF.all [3, 7, 23] (by decide +kernel) ?_
    | refine OrdF.all [11, 23] (by decide +kernel) ?_
    | refine OrdF.all [11, 23, 34] (by decide +kernel) ?_
    | refine OrdF.all [3, 11, 23] (by decide +kernel) ?_
    | refine OrdF.all [7, 11, 23] (by decide +kernel) ?_
    | refine OrdF.all [7, 11, 23, 34] (by decide +kernel) ?_
    | refine OrdF.all [3, 7, 11, 23] (by decide +kernel) ?_
    | refine OrdF.all [15, 23] (by decide +kernel) ?_
    | refine OrdF.all [15, 23, 34] (by decide +kernel) ?_
    | refine OrdF.all [3, 15, 23] (by decide +kernel) ?_
    | refine OrdF.all [7, 15, 23] (by decide +kernel) ?_
    | refine OrdF.all [7, 15, 23, 34] (by decide +kernel) ?_
    | refine OrdF.all [3, 7, 15, 23] (by decide +kernel) ?_
    | refine OrdF.all [11, 15, 23] (by decide +kernel) ?_
    | refine OrdF.all [11, 15, 23, 34] (by decide +kernel) ?_
    | refine OrdF.all [3, 11, 15, 23] (by decide +kernel) ?_
    | refine OrdF.all [7, 11, 15, 23] (by decide +kernel) ?_
    | refine OrdF.all [7, 11, 15, 23, 34] (by decide +kernel) ?_
    | refine OrdF.all [3, 7, 11, 15, 23] (by decide +kernel) ?_
    | refine OrdF.all [19, 23] (by decide +kernel) ?_
    | refine OrdF.all [19, 23, 34] (by decide +kernel) ?_
    | refine OrdF.all [3, 19, 23] (by decide +kernel) ?_
    | refine OrdF.all [7, 19, 23] (by decide +kernel) ?_
    | refine OrdF.all [7, 19, 23, 34] (by decide +kernel) ?_
    | refine OrdF.all [3, 7, 19, 23] (by decide +kernel) ?_
    | refine OrdF.all [11, 19, 23] (by decide +kernel) ?_
    | refine OrdF.all [11, 19, 23, 34] (by decide +kernel) ?_
    | refine OrdF.all [3, 11, 19, 23] (by decide +kernel) ?_
    | refine OrdF.all [7, 11, 19, 23] (by decide +kernel) ?_
    | refine OrdF.all [7, 11, 19, 23, 34] (by decide +kernel) ?_
    | refine OrdF.all [3, 7, 11, 19, 23] (by decide +kernel) ?_
    | refine OrdF.all [15, 19, 23] (by decide +kernel) ?_
    | refine OrdF.all [15, 19, 23, 34] (by decide +kernel) ?_
    | refine OrdF.all [3, 15, 19, 23] (by decide +kernel) ?_
    | refine OrdF.all [7, 15, 19, 23] (by decide +kernel) ?_
    | refine OrdF.all [7, 15, 19, 23, 34] (by decide +kernel) ?_
    | refine OrdF.all [3, 7, 15, 19, 23] (by decide +kernel) ?_
    | refine OrdF.all [11, 15, 19, 23] (by decide +kernel) ?_
    | refine OrdF.all [11, 15, 19, 23, 34] (by decide +kernel) ?_
    | refine OrdF.all [3, 11, 15, 19, 23] (by decide +kernel) ?_
    | refine OrdF.all [7, 11, 15, 19, 23] (by decide +kernel) ?_
    | refine OrdF.all [7, 11, 15, 19, 23, 34] (by decide +kernel) ?_
    | refine OrdF.all [3, 7, 11, 15, 19, 23] (by decide +kernel) ?_
    | refine OrdF.all [27] (by decide +kernel) ?_
    | refine OrdF.all [27, 34] (by decide +kernel) ?_
    | refine OrdF.all [3, 27] (by decide +kernel) ?_
    | refine OrdF.all [7, 27] (by decide +kernel) ?_
    | refine OrdF.all [7, 27, 34] (by decide +kernel) ?_
    | refine OrdF.all [3, 7, 27] (by decide +kernel) ?_
    | refine OrdF.all [11, 27] (by decide +kernel) ?_
    | refine OrdF.all [11, 27, 34] (by decide +kernel) ?_
    | refine OrdF.all [3, 11, 27] (by decide +kernel) ?_
    | refine OrdF.all [7, 11, 27] (by decide +kernel) ?_
    | refine OrdF.all [7, 11, 27, 34] (by decide +kernel) ?_
    | refine OrdF.all [3, 7, 11, 27] (by decide +kernel) ?_
    | refine OrdF.all [15, 27] (by decide +kernel) ?_
    | refine OrdF.all [15, 27, 34] (by decide +kernel) ?_
    | refine OrdF.all [3, 15, 27] (by decide +kernel) ?_
    | refine OrdF.all [7, 15, 27] (by decide +kernel) ?_
    | refine OrdF.all [7, 15, 27, 34] (by decide +kernel) ?_
    | refine OrdF.all [3, 7, 15, 27] (by decide +kernel) ?_
    | refine OrdF.all [11, 15, 27] (by decide +kernel) ?_
    | refine OrdF.all [11, 15, 27, 34] (by decide +kernel) ?_
    | refine OrdF.all [3, 11, 15, 27] (by decide +kernel) ?_
    | refine OrdF.all [7, 11, 15, 27] (by decide +kernel) ?_
    | refine OrdF.all [7, 11, 15, 27, 34] (by decide +kernel) ?_
    | refine OrdF.all [3, 7, 11, 15, 27] (by decide +kernel) ?_
    | refine OrdF.all [19, 27] (by decide +kernel) ?_
    | refine OrdF.all [19, 27, 34] (by decide +kernel) ?_
    | refine OrdF.all [3, 19, 27] (by decide +kernel) ?_
    | refine OrdF.all [7, 19, 27] (by decide +kernel) ?_
    | refine OrdF.all [7, 19, 27, 34] (by decide +kernel) ?_
    | refine OrdF.all [3, 7, 19, 27] (by decide +kernel) ?_
    | refine OrdF.all [11, 19, 27] (by decide +kernel) ?_
    | refine OrdF.all [11, 19, 27, 34] (by decide +kernel) ?_
    | refine OrdF.all [3, 11, 19, 27] (by decide +kernel) ?_
    | refine OrdF.all [7, 11, 19, 27] (by decide +kernel) ?_
    | refine OrdF.all [7, 11, 19, 27, 34] (by decide +kernel) ?_
    | refine OrdF.all [3, 7, 11, 19, 27] (by decide +kernel) ?_
    | refine OrdF.all [15, 19, 27] (by decide +kernel) ?_
    | refine OrdF.all [15, 19, 27, 34] (by decide +kernel) ?_
    | refine OrdF.all [3, 15, 19, 27] (by decide +kernel) ?_
    | refine OrdF.all [7, 15, 19, 27] (by decide +kernel) ?_
    | refine OrdF.all [7, 15, 19, 27, 34] (by decide +kernel) ?_
    | refine OrdF.all [3, 7, 15, 19, 27] (by decide +kernel) ?_
    | refine OrdF.all [11, 15, 19, 27] (by decide +kernel) ?_
    | refine OrdF.all [11, 15, 19, 27, 34] (by decide +kernel) ?_
    | refine OrdF.all [3, 11, 15, 19, 27] (by decide +kernel) ?_
    | refine OrdF.all [7, 11, 15, 19, 27] (by decide +kernel) ?_
    | refine OrdF.all [7, 11, 15, 19, 27, 34] (by decide +kernel) ?_
    | refine OrdF.all [3, 7, 11, 15, 19, 27] (by decide +kernel) ?_
    | refine OrdF.all [23, 27] (by decide +kernel) ?_
    | refine OrdF.all [23, 27, 34] (by decide +kernel) ?_
    | refine OrdF.all [3, 23, 27] (by decide +kernel) ?_
    | refine OrdF.all [7, 23, 27] (by decide +kernel) ?_
    | refine OrdF.all [7, 23, 27, 34] (by decide +kernel) ?_
    | refine OrdF.all [3, 7, 23, 27] (by decide +kernel) ?_
    | refine OrdF.all [11, 23, 27] (by decide +kernel) ?_
    | refine OrdF.all [11, 23, 27, 34] (by decide +kernel) ?_
    | refine OrdF.all [3, 11, 23, 27] (by decide +kernel) ?_
    | refine OrdF.all [7, 11, 23, 27] (by decide +kernel) ?_
    | refine OrdF.all [7, 11, 23, 27, 34] (by decide +kernel) ?_
    | refine OrdF.all [3, 7, 11, 23, 27] (by decide +kernel) ?_
    | refine OrdF.all [15, 23, 27] (by decide +kernel) ?_
    | refine OrdF.all [15, 23, 27, 34] (by decide +kernel) ?_
    | refine OrdF.all [3, 15, 23, 27] (by decide +kernel) ?_
    | refine OrdF.all [7, 15, 23, 27] (by decide +kernel) ?_
    | refine OrdF.all [7, 15, 23, 27, 34] (by decide +kernel) ?_
    | refine OrdF.all [3, 7, 15, 23, 27] (by decide +kernel) ?_
    | refine OrdF.all [11, 15, 23, 27] (by decide +kernel) ?_
    | refine OrdF.all [11, 15, 23, 27, 34] (by decide +kernel) ?_
    | refine OrdF.all [3, 11, 15, 23, 27] (by decide +kernel) ?_
    | refine OrdF.all [7, 11, 15, 23, 27] (by decide +kernel) ?_
    | refine OrdF.all [7, 11, 15, 23, 27, 34] (by decide +kernel) ?_
    | refine OrdF.all [3, 7, 11, 15, 23, 27] (by decide +kernel) ?_
    | refine OrdF.all [19, 23, 27] (by decide +kernel) ?_
    | refine OrdF.all [19, 23, 27, 34] (by decide +kernel) ?_
    | refine OrdF.all [3, 19, 23, 27] (by decide +kernel) ?_
    | refine OrdF.all [7, 19, 23, 27] (by decide +kernel) ?_
    | refine OrdF.all [7, 19, 23, 27, 34] (by decide +kernel) ?_
    | refine OrdF.all [3, 7, 19, 23, 27] (by decide +kernel) ?_
    | refine OrdF.all [11, 19, 23, 27] (by decide +kernel) ?_
    | refine OrdF.all [11, 19, 23, 27, 34] (by decide +kernel) ?_
    | refine OrdF.all [3, 11, 19, 23, 27] (by decide +kernel) ?_
    | refine OrdF.all [7, 11, 19, 23, 27] (by decide +kernel) ?_
    | refine OrdF.all [7, 11, 19, 23, 27, 34] (by decide +kernel) ?_
    | refine OrdF.all [3, 7, 11, 19, 23, 27] (by decide +kernel) ?_
    | refine OrdF.all [15, 19, 23, 27] (by decide +kernel) ?_
    | refine OrdF.all [15, 19, 23, 27, 34] (by decide +kernel) ?_
    | refine OrdF.all [3, 15, 19, 23, 27] (by decide +kernel) ?_
    | refine OrdF.all [7, 15, 19, 23, 27] (by decide +kernel) ?_
    | refine OrdF.all [7, 15, 19, 23, 27, 34] (by decide +kernel) ?_
    | refine OrdF.all [3, 7, 15, 19, 23, 27] (by decide +kernel) ?_
    | refine OrdF.all [11, 15, 19, 23, 27] (by decide +kernel) ?_
    | refine OrdF.all [11, 15, 19, 23, 27, 34] (by decide +kernel) ?_
    | refine OrdF.all [3, 11, 15, 19, 23, 27] (by decide +kernel) ?_
    | refine OrdF.all [7, 11, 15, 19, 23, 27] (by decide +kernel) ?_
    | refine OrdF.all [7, 11, 15, 19, 23, 27, 34] (by decide +kernel) ?_
    | refine OrdF.all [3, 7, 11, 15, 19, 23, 27] (by decide +kernel) ?_
    | refine OrdF.all [31] (by decide +kernel) ?_
    | refine OrdF.all [31, 34] (by decide +kernel) ?_
    | refine OrdF.all [3, 31] (by decide +kernel) ?_
    | refine OrdF.all [7, 31] (by decide +kernel) ?_
    | refine OrdF.all [7, 31, 34] (by decide +kernel) ?_
    | refine OrdF.all [3, 7, 31] (by decide +kernel) ?_
    | refine OrdF.all [11, 31] (by decide +kernel) ?_
    | refine OrdF.all [11, 31, 34] (by decide +kernel) ?_
    | refine OrdF.all [3, 11, 31] (by decide +kernel) ?_
    | refine OrdF.all [7, 11, 31] (by decide +kernel) ?_
    | refine OrdF.all [7, 11, 31, 34] (by decide +kernel) ?_
    | refine OrdF.all [3, 7, 11, 31] (by decide +kernel) ?_
    | refine OrdF.all [15, 31] (by decide +kernel) ?_
    | refine OrdF.all [15, 31, 34] (by decide +kernel) ?_
    | refine OrdF.all [3, 15, 31] (by decide +kernel) ?_
    | refine OrdF.all [7, 15, 31] (by decide +kernel) ?_
    | refine OrdF.all [7, 15, 31, 34] (by decide +kernel) ?_
    | refine OrdF.all [3, 7, 15, 31] (by decide +kernel) ?_
    | refine OrdF.all [11, 15, 31] (by decide +kernel) ?_
    | refine OrdF.all [11, 15, 31, 34] (by decide +kernel) ?_
    | refine OrdF.all [3, 11, 15, 31] (by decide +kernel) ?_
    | refine OrdF.all [7, 11, 15, 31] (by decide +kernel) ?_
    | refine OrdF.all [7, 11, 15, 31, 34] (by decide +kernel) ?_
    | refine OrdF.all [3, 7, 11, 15, 31] (by decide +kernel) ?_
    | refine OrdF.all [19, 31] (by decide +kernel) ?_
    | refine OrdF.all [19, 31, 34] (by decide +kernel) ?_
    | refine OrdF.all [3, 19, 31] (by decide +kernel) ?_
    | refine OrdF.all [7, 19, 31] (by decide +kernel) ?_
    | refine OrdF.all [7, 19, 31, 34] (by decide +kernel) ?_
    | refine OrdF.all [3, 7, 19, 31] (by decide +kernel) ?_
    | refine OrdF.all [11, 19, 31] (by decide +kernel) ?_
    | refine OrdF.all [11, 19, 31, 34] (by decide +kernel) ?_
    | refine OrdF.all [3, 11, 19, 31] (by decide +kernel) ?_
    | refine OrdF.all [7, 11, 19, 31] (by decide +kernel) ?_
    | refine OrdF.all [7, 11, 19, 31, 34] (by decide +kernel) ?_
    | refine OrdF.all [3, 7, 11, 19, 31] (by decide +kernel) ?_
    | refine OrdF.all [15, 19, 31] (by decide +kernel) ?_
    | refine OrdF.all [15, 19, 31, 34] (by decide +kernel) ?_
    | refine OrdF.all [3, 15, 19, 31] (by decide +kernel) ?_
    | refine OrdF.all [7, 15, 19, 31] (by decide +kernel) ?_
    | refine OrdF.all [7, 15, 19, 31, 34] (by decide +kernel) ?_
    | refine OrdF.all [3, 7, 15, 19, 31] (by decide +kernel) ?_
    | refine OrdF.all [11, 15, 19, 31] (by decide +kernel) ?_
    | refine OrdF.all [11, 15, 19, 31, 34] (by decide +kernel) ?_
    | refine OrdF.all [3, 11, 15, 19, 31] (by decide +kernel) ?_
    | refine OrdF.all [7, 11, 15, 19, 31] (by decide +kernel) ?_
    | refine OrdF.all [7, 11, 15, 19, 31, 34] (by decide +kernel) ?_
    | refine OrdF.all [3, 7, 11, 15, 19, 31] (by decide +kernel) ?_
    | refine OrdF.all [23, 31] (by decide +kernel) ?_
    | refine OrdF.all [23, 31, 34] (by decide +kernel) ?_
    | refine OrdF.all [3, 23, 31] (by decide +kernel) ?_
    | refine OrdF.all [7, 23, 31] (by decide +kernel) ?_
    | refine OrdF.all [7, 23, 31, 34] (by decide +kernel) ?_
    | refine OrdF.all [3, 7, 23, 31] (by decide +kernel) ?_
    | refine OrdF.all [11, 23, 31] (by decide +kernel) ?_
    | refine OrdF.all [11, 23, 31, 34] (by decide +kernel) ?_
    | refine OrdF.all [3, 11, 23, 31] (by decide +kernel) ?_
    | refine OrdF.all [7, 11, 23, 31] (by decide +kernel) ?_
    | refine OrdF.all [7, 11, 23, 31, 34] (by decide +kernel) ?_
    | refine OrdF.all [3, 7, 11, 23, 31] (by decide +kernel) ?_
    | refine OrdF.all [15, 23, 31] (by decide +kernel) ?_
    | refine OrdF.all [15, 23, 31, 34] (by decide +kernel) ?_
    | refine OrdF.all [3, 15, 23, 31] (by decide +kernel) ?_
    | refine OrdF.all [7, 15, 23, 31] (by decide +kernel) ?_
    | refine OrdF.all [7, 15, 23, 31, 34] (by decide +kernel) ?_
    | refine OrdF.all [3, 7, 15, 23, 31] (by decide +kernel) ?_
    | refine OrdF.all [11, 15, 23, 31] (by decide +kernel) ?_
    | refine OrdF.all [11, 15, 23, 31, 34] (by decide +kernel) ?_
    | refine OrdF.all [3, 11, 15, 23, 31] (by decide +kernel) ?_
    | refine OrdF.all [7, 11, 15, 23, 31] (by decide +kernel) ?_
    | refine OrdF.all [7, 11, 15, 23, 31, 34] (by decide +kernel) ?_
    | refine OrdF.all [3, 7, 11, 15, 23, 31] (by decide +kernel) ?_
    | refine OrdF.all [19, 23, 31] (by decide +kernel) ?_
    | refine OrdF.all [19, 23, 31, 34] (by decide +kernel) ?_
    | refine OrdF.all [3, 19, 23, 31] (by decide +kernel) ?_
    | refine OrdF.all [7, 19, 23, 31] (by decide +kernel) ?_
    | refine OrdF.all [7, 19, 23, 31, 34] (by decide +kernel) ?_
    | refine OrdF.all [3, 7, 19, 23, 31] (by decide +kernel) ?_
    | refine OrdF.all [11, 19, 23, 31] (by decide +kernel) ?_
    | refine OrdF.all [11, 19, 23, 31, 34] (by decide +kernel) ?_
    | refine OrdF.all [3, 11, 19, 23, 31] (by decide +kernel) ?_
    | refine OrdF.all [7, 11, 19, 23, 31] (by decide +kernel) ?_
    | refine OrdF.all [7, 11, 19, 23, 31, 34] (by decide +kernel) ?_
    | refine OrdF.all [3, 7, 11, 19, 23, 31] (by decide +kernel) ?_
    | refine OrdF.all [15, 19, 23, 31] (by decide +kernel) ?_
    | refine OrdF.all [15, 19, 23, 31, 34] (by decide +kernel) ?_
    | refine OrdF.all [3, 15, 19, 23, 31] (by decide +kernel) ?_
    | refine OrdF.all [7, 15, 19, 23, 31] (by decide +kernel) ?_
    | refine OrdF.all [7, 15, 19, 23, 31, 34] (by decide +kernel) ?_
    | refine OrdF.all [3, 7, 15, 19, 23, 31] (by decide +kernel) ?_
    | refine OrdF.all [11, 15, 19, 23, 31] (by decide +kernel) ?_
    | refine OrdF.all [11, 15, 19, 23, 31, 34] (by decide +kernel) ?_
    | refine OrdF.all [3, 11, 15, 19, 23, 31] (by decide +kernel) ?_
    | refine OrdF.all [7, 11, 15, 19, 23, 31] (by decide +kernel) ?_
    | refine OrdF.all [7, 11, 15, 19, 23, 31, 34] (by decide +kernel) ?_
    | refine OrdF.all [3, 7, 11, 15, 19, 23, 31] (by decide +kernel) ?_
    | refine OrdF.all [27, 31] (by decide +kernel) ?_
    | refine OrdF.all [27, 31, 34] (by decide +kernel) ?_
    | refine OrdF.all [3, 27, 31] (by decide +kernel) ?_
    | refine OrdF.all [7, 27, 31] (by decide +kernel) ?_
    | refine OrdF.all [7, 27, 31, 34] (by decide +kernel) ?_
    | refine OrdF.all [3, 7, 27, 31] (by decide +kernel) ?_
    | refine OrdF.all [11, 27, 31] (by decide +kernel) ?_
    | refine OrdF.all [11, 27, 31, 34] (by decide +kernel) ?_
    | refine OrdF.all [3, 11, 27, 31] (by decide +kernel) ?_
    | refine OrdF.all [7, 11, 27, 31] (by decide +kernel) ?_
    | refine OrdF.all [7, 11, 27, 31, 34] (by decide +kernel) ?_
    | refine OrdF.all [3, 7, 11, 27, 31] (by decide +kernel) ?_
    | refine OrdF.all [15, 27, 31] (by decide +kernel) ?_
    | refine OrdF.all [15, 27, 31, 34] (by decide +kernel) ?_
    | refine OrdF.all [3, 15, 27, 31] (by decide +kernel) ?_
    | refine OrdF.all [7, 15, 27, 31] (by decide +kernel) ?_
    | refine OrdF.all [7, 15, 27, 31, 34] (by decide +kernel) ?_
    | refine OrdF.all [3, 7, 15, 27, 31] (by decide +kernel) ?_
    | refine OrdF.all [11, 15, 27, 31] (by decide +kernel) ?_
    | refine OrdF.all [11, 15, 27, 31, 34] (by decide +kernel) ?_
    | refine OrdF.all [3, 11, 15, 27, 31] (by decide +kernel) ?_
    | refine OrdF.all [7, 11, 15, 27, 31] (by decide +kernel) ?_
    | refine OrdF.all [7, 11, 15, 27, 31, 34] (by decide +kernel) ?_
    | refine OrdF.all [3, 7, 11, 15, 27, 31] (by decide +kernel) ?_
    | refine OrdF.all [19, 27, 31] (by decide +kernel) ?_
    | refine OrdF.all [19, 27, 31, 34] (by decide +kernel) ?_
    | refine OrdF.all [3, 19, 27, 31] (by decide +kernel) ?_
    | refine OrdF.all [7, 19, 27, 31] (by decide +kernel) ?_
    | refine OrdF.all [7, 19, 27, 31, 34] (by decide +kernel) ?_
    | refine OrdF.all [3, 7, 19, 27, 31] (by decide +kernel) ?_
    | refine OrdF.all [11, 19, 27, 31] (by decide +kernel) ?_
    | refine OrdF.all [11, 19, 27, 31, 34] (by decide +kernel) ?_
    | refine OrdF.all [3, 11, 19, 27, 31] (by decide +kernel) ?_
    | refine OrdF.all [7, 11, 19, 27, 31] (by decide +kernel) ?_
    | refine OrdF.all [7, 11, 19, 27, 31, 34] (by decide +kernel) ?_
    | refine OrdF.all [3, 7, 11, 19, 27, 31] (by decide +kernel) ?_
    | refine OrdF.all [15, 19, 27, 31] (by decide +kernel) ?_
    | refine OrdF.all [15, 19, 27, 31, 34] (by decide +kernel) ?_
    | refine OrdF.all [3, 15, 19, 27, 31] (by decide +kernel) ?_
    | refine OrdF.all [7, 15, 19, 27, 31] (by decide +kernel) ?_
    | refine OrdF.all [7, 15, 19, 27, 31, 34] (by decide +kernel) ?_
    | refine OrdF.all [3, 7, 15, 19, 27, 31] (by decide +kernel) ?_
    | refine OrdF.all [11, 15, 19, 27, 31] (by decide +kernel) ?_
    | refine OrdF.all [11, 15, 19, 27, 31, 34] (by decide +kernel) ?_
    | refine OrdF.all [3, 11, 15, 19, 27, 31] (by decide +kernel) ?_
    | refine OrdF.all [7, 11, 15, 19, 27, 31] (by decide +kernel) ?_
    | refine OrdF.all [7, 11, 15, 19, 27, 31, 34] (by decide +kernel) ?_
    | refine OrdF.all [3, 7, 11, 15, 19, 27, 31] (by decide +kernel) ?_
    | refine OrdF.all [23, 27, 31] (by decide +kernel) ?_
    | refine OrdF.all [23, 27, 31, 34] (by decide +kernel) ?_
    | refine OrdF.all [3, 23, 27, 31] (by decide +kernel) ?_
    | refine OrdF.all [7, 23, 27, 31] (by decide +kernel) ?_
    | refine OrdF.all [7, 23, 27, 31, 34] (by decide +kernel) ?_
    | refine OrdF.all [3, 7, 23, 27, 31] (by decide +kernel) ?_
    | refine OrdF.all [11, 23, 27, 31] (by decide +kernel) ?_
    | refine OrdF.all [11, 23, 27, 31, 34] (by decide +kernel) ?_
    | refine OrdF.all [3, 11, 23, 27, 31] (by decide +kernel) ?_
    | refine OrdF.all [7, 11, 23, 27, 31] (by decide +kernel) ?_
    | refine OrdF.all [7, 11, 23, 27, 31, 34] (by decide +kernel) ?_
    | refine OrdF.all [3, 7, 11, 23, 27, 31] (by decide +kernel) ?_
    | refine OrdF.all [15, 23, 27, 31] (by decide +kernel) ?_
    | refine OrdF.all [15, 23, 27, 31, 34] (by decide +kernel) ?_
    | refine OrdF.all [3, 15, 23, 27, 31] (by decide +kernel) ?_
    | refine OrdF.all [7, 15, 23, 27, 31] (by decide +kernel) ?_
    | refine OrdF.all [7, 15, 23, 27, 31, 34] (by decide +kernel) ?_
    | refine OrdF.all [3, 7, 15, 23, 27, 31] (by decide +kernel) ?_
    | refine OrdF.all [11, 15, 23, 27, 31] (by decide +kernel) ?_
    | refine OrdF.all [11, 15, 23, 27, 31, 34] (by decide +kernel) ?_
    | refine OrdF.all [3, 11, 15, 23, 27, 31] (by decide +kernel) ?_
    | refine OrdF.all [7, 11, 15, 23, 27, 31] (by decide +kernel) ?_
    | refine OrdF.all [7, 11, 15, 23, 27, 31, 34] (by decide +kernel) ?_
    | refine OrdF.all [3, 7, 11, 15, 23, 27, 31] (by decide +kernel) ?_
    | refine OrdF.all [19, 23, 27, 31] (by decide +kernel) ?_
    | refine OrdF.all [19, 23, 27, 31, 34] (by decide +kernel) ?_
    | refine OrdF.all [3, 19, 23, 27, 31] (by decide +kernel) ?_
    | refine OrdF.all [7, 19, 23, 27, 31] (by decide +kernel) ?_
    | refine OrdF.all [7, 19, 23, 27, 31, 34] (by decide +kernel) ?_
    | refine OrdF.all [3, 7, 19, 23, 27, 31] (by decide +kernel) ?_
    | refine OrdF.all [11, 19, 23, 27, 31] (by decide +kernel) ?_
    | refine OrdF.all [11, 19, 23, 27, 31, 34] (by decide +kernel) ?_
    | refine OrdF.all [3, 11, 19, 23, 27, 31] (by decide +kernel) ?_
    | refine OrdF.all [7, 11, 19, 23, 27, 31] (by decide +kernel) ?_
    | refine OrdF.all [7, 11, 19, 23, 27, 31, 34] (by decide +kernel) ?_
    | refine OrdF.all [3, 7, 11, 19, 23, 27, 31] (by decide +kernel) ?_
    | refine OrdF.all [15, 19, 23, 27, 31] (by decide +kernel) ?_
    | refine OrdF.all [15, 19, 23, 27, 31, 34] (by decide +kernel) ?_
    | refine OrdF.all [3, 15, 19, 23, 27, 31] (by decide +kernel) ?_
    | refine OrdF.all [7, 15, 19, 23, 27, 31] (by decide +kernel) ?_
    | refine OrdF.all [7, 15, 19, 23, 27, 31, 34] (by decide +kernel) ?_
    | refine OrdF.all [3, 7, 15, 19, 23, 27, 31] (by decide +kernel) ?_
    | refine OrdF.all [11, 15, 19, 23, 27, 31] (by decide +kernel) ?_
    | refine OrdF.all [11, 15, 19, 23, 27, 31, 34] (by decide +kernel) ?_
    | refine OrdF.all [3, 11, 15, 19, 23, 27, 31] (by decide +kernel) ?_
    | refine OrdF.all [7, 11, 15, 19, 23, 27, 31] (by decide +kernel) ?_
    | refine OrdF.all [7, 11, 15, 19, 23, 27, 31, 34] (by decide +kernel) ?_
    | refine OrdF.all [3, 7, 11, 15, 19, 23, 27, 31] (by decide +kernel) ?_
    | refine OrdF.fin (by decide +kernel) ?_
    | refine AllF.one _ ?_
    | refine AllF.cons _ _ ?_ ?_
    | refine MkF.row ?_
    | refine BndF.mk (fun _ => by omega) ?_
    | refine BndF.mk (fun _ => by simp only [lnS]; omega) ?_
    | refine EqN.mk _ (Nat.zero_add _) ?_
    | refine EqN.mk _ (Int.toNat_natCast _) ?_
    | refine EqN.mk _ rfl ?_
    | refine EqL.mk _ (tk eY (by first | rfl | assumption | omega | (simp only [lnS] <;> omega))) ?_
    | refine EqL.mk _ (st eY) ?_
    | refine EqL.mk _ (dt eY) ?_
    | refine EqL.mk _ (tk eI (by first | rfl | assumption | omega | (simp only [lnS] <;> omega))) ?_
    | refine EqL.mk _ (st eI) ?_
    | refine EqL.mk _ (dt eI) ?_
    | refine EqL.mk (List.map eI [_, _, _, _, _, _, _]) rfl ?_
    | refine EqL.mk [] rfl ?_
    | refine EqL.mk [_] rfl ?_
    | refine EqL.mk _ rfl ?_
    | refine ArgF.is (c_spec_l00From ..) ?_
    | refine ArgQ.is (fun hG => c_spec_l00From ..) rfl rfl ?_
    | (refine ArgF.src (c_spec_l18Draw _ _ _ (by first | assumption | omega | rfl | (simp only [List.length_cons, List.length_nil]; omega)) (by first | assumption | omega | rfl | (simp only [List.length_cons, List.length_nil]; omega))) ?_; intro _ _ _ _ _)
    | (refine ArgF.srw (c_spec_l00Src_among _ _ _ _ _ (by first | assumption | omega | rfl | (simp only [List.length_cons, List.length_nil]; omega)) (by first | assumption | omega | rfl | (simp only [List.length_cons, List.length_nil]; omega)) (by first | assumption | omega | rfl | (simp only [List.length_cons, List.length_nil]; omega)) (by first | assumption | omega | rfl | (simp only [List.length_cons, List.length_nil]; omega))) ?_; intro _ _ _ _ _)
    | refine CallF.own (f := 15) [0] false ?_
    | refine CallF.own (f := 16) [0, 1] false ?_
    | refine CallF.mk (f := 14) (CallW.is [] false rfl ?_)
    | refine CallF.mk (CallW.is [] true rfl ?_)
    | refine CallG.mk ?_
    | (refine CondF.mk (fun hb => ?_) (fun hb => ?_) <;> try simp only [forall_const, eq_self, not_true_eq_false, not_false_eq_true, or_false, false_or, or_self, or_true, true_or, and_true, true_and, and_false, false_and, decide_true, decide_false, Bool.not_true, Bool.not_false, decide_eq_true_eq, decide_eq_false_iff_not, ite_and_p, ite_or_p, Bool.decide_eq_true, Bool.and_eq_true, Bool.or_eq_true, Bool.not_eq_true', Bool.not_eq_false', Bool.and_eq_false_imp, Bool.or_eq_false_iff, bne_iff_ne, beq_iff_eq, bne_eq_false_iff_eq, beq_eq_false_iff_ne, gt_iff_lt, ge_iff_le, Int.not_lt, Int.not_le, ne_eq, Bool.true_eq_false, Bool.false_eq_true, reduceCtorEq, eta_Airway, eta_Fan, eta_Mine] at hb)
    | refine RetF.auto (And.intro rfl ?_)
    | exact Is.mk rfl rfl
    | refine Is.mk ?_ rfl
    | refine Is.mk rfl ?_
    | refine Is.mk ?_ ?_
  all_goals try dsimp only
  all_goals first
    | omega
    | skip
end Go.Proofs.YtdhkpmaanegjkaaGreat
