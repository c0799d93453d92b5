/- Contracts of functions of the program, and what they compute. Conditions: those that each theorem states. -/
import Derived.Test.YtdhkpmaanegjkaaGreatProg
import Derived.Test.YtdhkpmaanegjkaaGreatI10
import Derived.Test.YtdhkpmaanegjkaaGreatJ4
import Derived.Test.YtdhkpmaanegjkaaGreatF5
set_option linter.unusedVariables false
set_option linter.unusedSimpArgs false
namespace Go.Proofs.YtdhkpmaanegjkaaGreat
open Go.Av
attribute [local irreducible] Go.IntKind.wrap leastI rdZ rd rootI okMine treeC mshC
set_option maxRecDepth 20000
set_option maxHeartbeats 16000000
abbrev nilV : AV := .p .flat (.c (.slice none 0 0))
abbrev airV (xs : List GAirway) : AV := Lx (.lst (GAirway.cells default) (xs.map GAirway.cells))
abbrev fanV (fs : List GFan) : AV := Lx (.lst GFan.z (fs.map GFan.cells))
theorem semRef {P : Program} [Kn P] {f : FuncId} {fl : Fl} {cs ds : List PV} {R : List AV → List OB → Prop} (h : FnSem P f [.p fl (.ref cs)] [] R) : FnSem P f [.p fl (.ref (cs ++ ds))] [] R := by
  refine ⟨h.1, fun w vals pl A hA hkn he => h.2 w vals pl A hA hkn { own := he.own, old := he.old, disj := he.disj, heap := he.heap, size := he.size, args := fun j a u ha hu => ?_ }⟩
  cases j with
  | succ j => simp at ha
  | zero =>
    simp at ha
    subst ha
    have := he.args 0 _ u rfl hu
    cases this with
    | p hp =>
      cases hp with
      | ref hS f hc1 h1 hr =>
        have key : ∀ (j : Nat) (p : PV), cs[j]? = some p → (cs ++ ds)[j]? = some p := fun j p hp => by
          rw [List.getElem?_append_left (List.getElem?_eq_some_iff.1 hp).1]; exact hp
        exact .p (.ref (fun h => hS (by rw [List.length_append]; omega)) f (fun j p hp => hc1 j p (key j p hp)) (fun j p hp => h1 j p (key j p hp)) (fun j p hp => hr j p (key j p hp)))
abbrev xO (j : Int) (xs : List GAirway) (r f d : AV) : OB := .fix [In j, airV xs, r, f, d, nilV, In 0, In 0, In 0]
abbrev liV (xs : List Int) : AV := Lx (LI xs)
--@fn spec.l07DrawRes
theorem resU (c : List Int) (p s j : Int) (xs : List GAirway) (hc : bytes c) (hp : 0 ≤ p ∧ p ≤ 20000000) (hx : xs.length ≤ 26) : FnSem Tryz.prog 36 [.own 0 0, .own 1 0] [srcO c p s, xO j xs nilV nilV nilV] (SrcX (fun v : Nat × List Int => [.osl 2 0 v.1]) (fun v => [xO j xs nilV nilV nilV, .row true .flat (eI 0) (v.2.map eI)]) (fun v => v.1 = v.2.length ∧ v.1 ≤ 26) c 100 p) := by
  refine FnSem.walk (zs := zeroPV Tryz.prog) (by kernel_rfl) Tryz.func36 rfl Tryz.results36 (by kernel_rfl) (by kernel_rfl) (by kernel_rfl) fun hw hh => ?_
  obtain ⟨w0, w1, _⟩ := hw
  first | replace w0 := wfr_L00Src w0 | skip
  first | replace w1 := wfr_Mine w1 | skip
  repeat' first
    | refine And.intro rfl ?_
    | refine GdF.mk (fun h => h) ?_
    | refine And.intro (Nat.succ_ne_zero _) ?_
    | refine And.intro (Nat.le_of_ble_eq_true rfl) ?_
    | refine SeqF.run ?_
    | refine GdS.tt (by first | rfl | assumption) ?_
    | refine GdS.ff (by first | rfl | assumption) ?_
    | refine GdS.split (fun hg => ?_) (fun hg => ?_)
    | refine GdF.mk (fun h => by first | exact h | rfl | (rw [hg] at h; exact h)) ?_
    | (refine ArgF.srw (c_spec_l00Src_among c _ _ [0, 1, 1000000, 1000001] 4 hc (by omega) (by omega) rfl) ?_; intro w4 pw4 sw4 hw4 hpw4; simp only [List.mem_cons, List.not_mem_nil, or_false] at hw4)
    | refine EqL.mk _ (stI (by kernel_rfl)) ?_
    | refine LoopF.at 3 rfl (LoopF.fix [0] (Int × Nat × List Int × Int × Int) (fun (k, n, ys, q, t) => 0 ≤ k ∧ k + n = xs.length ∧ n = ys.length ∧ p ≤ q ∧ q ≤ p + 2 * n) (fun (k, n, ys, q, t) => [(6, In k), (5, .osl 2 0 n)]) (fun (k, n, ys, q, t) => [(0, srcO c q t), (2, .row true .flat (eI 0) (ys.map eI))]) (fun (k, n, ys, q, t) => (k.toNat)) ((xs.length, 0, [], p, s)) ?_)
    | (refine LoopB.of (T := Int × Nat × List Int × Int × Int) ?_ ?_; rotate_left; rintro ⟨k, n, ys, q, t⟩ ⟨k0, k1, k2, k3, k4⟩; rotate_left)
    | refine SrcX.mk (α := Nat × List Int) (_, _) _ _ rfl rfl ?_ ?_
    | refine GhF.go ?_
    | refine GdS.keep ?_
    | refine MkF.row ?_
    | refine EqP.mk _ (gm GAirway.cells default rfl) ?_
    | refine EqP.mk _ (gm eI 0 rfl) ?_
    | refine BndF.mk (fun _ => by omega) ?_
    | refine BndF.mk (fun _ => by simp only [lnS]; omega) ?_
    | refine BndF.mk (fun hG => by simp only [forall_const, eq_self, not_true_eq_false, not_false_eq_true, or_false, false_or, or_self, or_true, true_or, and_true, true_and, and_false, false_and, decide_true, decide_false, Bool.not_true, Bool.not_false, decide_eq_true_eq, decide_eq_false_iff_not, ite_and_p, ite_or_p, Bool.decide_eq_true, Bool.and_eq_true, Bool.or_eq_true, Bool.not_eq_true', Bool.not_eq_false', Bool.and_eq_false_imp, Bool.or_eq_false_iff, bne_iff_ne, beq_iff_eq, bne_eq_false_iff_eq, beq_eq_false_iff_ne, gt_iff_lt, ge_iff_le, Int.not_lt, Int.not_le, ne_eq, Bool.true_eq_false, Bool.false_eq_true, reduceCtorEq, eta_Airway, eta_Fan, eta_Mine, bytes_nil] at hG; (try simp only [List.length_map]); omega) ?_
    | refine EqI.mk _ (fun _ => wrapI (by omega) (by omega)) ?_
    | refine EqI.mk _ (fun _ => rfl) ?_
    | refine FlF.keep ?_
    | refine EqN.mk _ (ln GAirway.cells) ?_
    | refine EqN.mk _ (ln eI) ?_
    | refine EqN.mk _ (Nat.zero_add _) ?_
    | refine EqN.mk (_ + 1) rfl ?_
    | refine EqN.mk _ (Int.toNat_natCast _) ?_
    | refine EqN.mk _ rfl ?_
    | refine EqL.mk _ (sn0 GAirway.cells) ?_
    | refine EqL.mk _ (sn GAirway.cells (by first | rfl | assumption | omega | (simp only [lnS] <;> omega))) ?_
    | refine EqL.mk _ (ap0 GAirway.cells) ?_
    | refine EqL.mk _ (ap GAirway.cells (by first | rfl | assumption | omega | (simp only [lnS] <;> omega))) ?_
    | refine EqL.mk _ (tk GAirway.cells (by first | rfl | assumption | omega | (simp only [lnS] <;> omega))) ?_
    | refine EqL.mk _ (st GAirway.cells) ?_
    | refine EqL.mk _ (dt GAirway.cells) ?_
    | refine EqL.mk _ (sn0 eI) ?_
    | refine EqL.mk _ (sn eI (by first | rfl | assumption | omega | (simp only [lnS] <;> omega))) ?_
    | refine EqL.mk _ (ap0 eI) ?_
    | refine EqL.mk _ (ap eI (by first | rfl | assumption | omega | (simp only [lnS] <;> omega))) ?_
    | refine EqL.mk _ (tk eI (by first | rfl | assumption | omega | (simp only [lnS] <;> omega))) ?_
    | refine EqL.mk _ (st eI) ?_
    | refine EqL.mk _ (dt eI) ?_
    | refine EqL.mk (List.map eI [_, _, _, _]) rfl ?_
    | refine EqL.mk [] rfl ?_
    | refine EqL.mk [_] rfl ?_
    | refine EqL.mk _ rfl ?_
    | (refine ArgF.src (c_spec_l00Src_pick _ _ _ _ (by first | assumption | omega | rfl | (simp only [List.length_cons, List.length_nil]; omega)) (by first | assumption | omega | rfl | (simp only [List.length_cons, List.length_nil]; omega)) (by first | assumption | omega | rfl | (simp only [List.length_cons, List.length_nil]; omega))) ?_; intro _ _ _ _ _)
    | (refine ArgF.src (c_spec_l00Src_one _ _ _ _ (by first | assumption | omega | rfl | (simp only [List.length_cons, List.length_nil]; omega)) (by first | assumption | omega | rfl | (simp only [List.length_cons, List.length_nil]; omega)) (by first | assumption | omega | rfl | (simp only [List.length_cons, List.length_nil]; omega))) ?_; intro _ _ _ _ _)
    | (refine ArgF.srw (c_spec_l00Src_among _ _ _ _ _ (by first | assumption | omega | rfl | (simp only [List.length_cons, List.length_nil]; omega)) (by first | assumption | omega | rfl | (simp only [List.length_cons, List.length_nil]; omega)) (by first | assumption | omega | rfl | (simp only [List.length_cons, List.length_nil]; omega)) (by first | assumption | omega | rfl | (simp only [List.length_cons, List.length_nil]; omega))) ?_; intro _ _ _ _ _)
    | refine CallF.own (f := 16) [0, 1] false ?_
    | refine CallF.own (f := 29) [0] false ?_
    | refine CallF.own (f := 34) [0] false ?_
    | refine CallF.mk (CallW.is [] true rfl ?_)
    | refine CallG.mk ?_
    | (refine CondF.mk (fun hb => ?_) (fun hb => ?_) <;> try simp only [forall_const, eq_self, not_true_eq_false, not_false_eq_true, or_false, false_or, or_self, or_true, true_or, and_true, true_and, and_false, false_and, decide_true, decide_false, Bool.not_true, Bool.not_false, decide_eq_true_eq, decide_eq_false_iff_not, ite_and_p, ite_or_p, Bool.decide_eq_true, Bool.and_eq_true, Bool.or_eq_true, Bool.not_eq_true', Bool.not_eq_false', Bool.and_eq_false_imp, Bool.or_eq_false_iff, bne_iff_ne, beq_iff_eq, bne_eq_false_iff_eq, beq_eq_false_iff_ne, gt_iff_lt, ge_iff_le, Int.not_lt, Int.not_le, ne_eq, Bool.true_eq_false, Bool.false_eq_true, reduceCtorEq, eta_Airway, eta_Fan, eta_Mine] at hb)
    | apply BackF.auto5
    | refine BackB.mk ?_ ?_
    | refine RetF.auto (And.intro rfl ?_)
    | exact Is.mk rfl rfl
    | refine Is.mk ?_ rfl
    | refine Is.mk rfl ?_
    | refine Is.mk ?_ ?_
  all_goals try dsimp only
  all_goals first
    | omega
    | exact ⟨by omega, by omega, rfl, by omega, by omega⟩
    | exact ⟨by omega, by omega, by rw [List.length_append, List.length_singleton]; omega, by omega, by omega⟩
    | exact ⟨by rw [List.length_set]; omega, by omega⟩
    | exact ⟨k2, by omega⟩
    | skip
theorem c_spec_l07DrawRes (c : List Int) (p s j : Int) (xs : List GAirway) (hc : bytes c) (hp : 0 ≤ p ∧ p ≤ 20000000) (hx : xs.length ≤ 26) : FnSem Tryz.prog 36 [.own 0 0, .own 1 0] [srcO c p s, xO j xs nilV nilV nilV] (SrcX (fun r : List Int => [.p .fresh (LI r)]) (fun _ => [xO j xs nilV nilV nilV]) (fun _ => True) c 100 p) := by
  refine FnSem.frz ((resU c p s j xs hc hp hx).mono ?_)
  rintro rs ho ⟨⟨n, ys⟩, p', s', rfl, rfl, hv, hp'⟩
  dsimp only at hv
  refine ⟨_, 2, _, rfl, rfl, Nat.le_refl _, rfl, rfl, fun _ => by simp only [List.length_map]; omega, _, tkT (take_all hv.1), ?_⟩
  exact SrcX.mk (α := List Int) ys p' s' rfl rfl trivial hp'
--@fn spec.l07DrawPushes
theorem pusU (c : List Int) (p s j : Int) (xs : List GAirway) (r : List Int) (fs : List GFan) (hc : bytes c) (hp : 0 ≤ p ∧ p ≤ 20000000) (hx : xs.length ≤ 26) : FnSem Tryz.prog 38 [.own 0 0, .own 1 0] [srcO c p s, xO j xs (liV r) (fanV fs) nilV] (SrcX (fun v : Nat × List Int => [.osl 2 0 v.1]) (fun v => [xO j xs (liV r) (fanV fs) nilV, .row true .flat (eI 0) (v.2.map eI)]) (fun v => v.1 = v.2.length ∧ v.1 ≤ 26) c 100 p) := by
  refine FnSem.walk (zs := zeroPV Tryz.prog) (by kernel_rfl) Tryz.func38 rfl Tryz.results38 (by kernel_rfl) (by kernel_rfl) (by kernel_rfl) fun hw hh => ?_
  obtain ⟨w0, w1, _⟩ := hw
  first | replace w0 := wfr_L00Src w0 | skip
  first | replace w1 := wfr_Mine w1 | skip
  repeat' first
    | refine And.intro rfl ?_
    | refine GdF.mk (fun h => h) ?_
    | refine And.intro (Nat.succ_ne_zero _) ?_
    | refine And.intro (Nat.le_of_ble_eq_true rfl) ?_
    | refine SeqF.run ?_
    | refine GdS.tt (by first | rfl | assumption) ?_
    | refine GdS.ff (by first | rfl | assumption) ?_
    | refine GdS.split (fun hg => ?_) (fun hg => ?_)
    | refine GdF.mk (fun h => by first | exact h | rfl | (rw [hg] at h; exact h)) ?_
    | (refine ArgF.srw (c_spec_l00Src_among c _ _ [100000, 100001, -100001] 3 hc (by omega) (by omega) rfl) ?_; intro w4 pw4 sw4 hw4 hpw4; simp only [List.mem_cons, List.not_mem_nil, or_false] at hw4)
    | (refine ArgF.srw (c_spec_l00Src_among c _ _ [0, 0, 30, -20, 400] 5 hc (by omega) (by omega) rfl) ?_; intro w5 pw5 sw5 hw5 hpw5; simp only [List.mem_cons, List.not_mem_nil, or_false] at hw5)
    | refine EqL.mk _ (stI (by kernel_rfl)) ?_
    | refine LoopF.at 3 rfl (LoopF.fix [0] (Int × Nat × List Int × Int × Int) (fun (k, n, ys, q, t) => 0 ≤ k ∧ k + n = xs.length ∧ n = ys.length ∧ p ≤ q ∧ q ≤ p + 2 * n) (fun (k, n, ys, q, t) => [(6, In k), (5, .osl 2 0 n)]) (fun (k, n, ys, q, t) => [(0, srcO c q t), (2, .row true .flat (eI 0) (ys.map eI))]) (fun (k, n, ys, q, t) => (k.toNat)) ((xs.length, 0, [], p, s)) ?_)
    | (refine LoopB.of (T := Int × Nat × List Int × Int × Int) ?_ ?_; rotate_left; rintro ⟨k, n, ys, q, t⟩ ⟨k0, k1, k2, k3, k4⟩; rotate_left)
    | refine SrcX.mk (α := Nat × List Int) (_, _) _ _ rfl rfl ?_ ?_
    | refine GhF.go ?_
    | refine GdS.keep ?_
    | refine MkF.row ?_
    | refine EqP.mk _ (gm GAirway.cells default rfl) ?_
    | refine EqP.mk _ (gm eI 0 rfl) ?_
    | refine BndF.mk (fun _ => by omega) ?_
    | refine BndF.mk (fun _ => by simp only [lnS]; omega) ?_
    | refine BndF.mk (fun hG => by simp only [forall_const, eq_self, not_true_eq_false, not_false_eq_true, or_false, false_or, or_self, or_true, true_or, and_true, true_and, and_false, false_and, decide_true, decide_false, Bool.not_true, Bool.not_false, decide_eq_true_eq, decide_eq_false_iff_not, ite_and_p, ite_or_p, Bool.decide_eq_true, Bool.and_eq_true, Bool.or_eq_true, Bool.not_eq_true', Bool.not_eq_false', Bool.and_eq_false_imp, Bool.or_eq_false_iff, bne_iff_ne, beq_iff_eq, bne_eq_false_iff_eq, beq_eq_false_iff_ne, gt_iff_lt, ge_iff_le, Int.not_lt, Int.not_le, ne_eq, Bool.true_eq_false, Bool.false_eq_true, reduceCtorEq, eta_Airway, eta_Fan, eta_Mine, bytes_nil] at hG; (try simp only [List.length_map]); omega) ?_
    | refine EqI.mk _ (fun _ => wrapI (by omega) (by omega)) ?_
    | refine EqI.mk _ (fun _ => rfl) ?_
    | refine FlF.keep ?_
    | refine EqN.mk _ (ln GAirway.cells) ?_
    | refine EqN.mk _ (ln eI) ?_
    | refine EqN.mk _ (Nat.zero_add _) ?_
    | refine EqN.mk (_ + 1) rfl ?_
    | refine EqN.mk _ (Int.toNat_natCast _) ?_
    | refine EqN.mk _ rfl ?_
    | refine EqL.mk _ (sn0 GAirway.cells) ?_
    | refine EqL.mk _ (sn GAirway.cells (by first | rfl | assumption | omega | (simp only [lnS] <;> omega))) ?_
    | refine EqL.mk _ (ap0 GAirway.cells) ?_
    | refine EqL.mk _ (ap GAirway.cells (by first | rfl | assumption | omega | (simp only [lnS] <;> omega))) ?_
    | refine EqL.mk _ (tk GAirway.cells (by first | rfl | assumption | omega | (simp only [lnS] <;> omega))) ?_
    | refine EqL.mk _ (st GAirway.cells) ?_
    | refine EqL.mk _ (dt GAirway.cells) ?_
    | refine EqL.mk _ (sn0 eI) ?_
    | refine EqL.mk _ (sn eI (by first | rfl | assumption | omega | (simp only [lnS] <;> omega))) ?_
    | refine EqL.mk _ (ap0 eI) ?_
    | refine EqL.mk _ (ap eI (by first | rfl | assumption | omega | (simp only [lnS] <;> omega))) ?_
    | refine EqL.mk _ (tk eI (by first | rfl | assumption | omega | (simp only [lnS] <;> omega))) ?_
    | refine EqL.mk _ (st eI) ?_
    | refine EqL.mk _ (dt eI) ?_
    | refine EqL.mk (List.map eI [_, _, _]) rfl ?_
    | refine EqL.mk (List.map eI [_, _, _, _, _]) rfl ?_
    | refine EqL.mk [] rfl ?_
    | refine EqL.mk [_] rfl ?_
    | refine EqL.mk _ rfl ?_
    | (refine ArgF.srw (c_spec_l00Src_among _ _ _ _ _ (by first | assumption | omega | rfl | (simp only [List.length_cons, List.length_nil]; omega)) (by first | assumption | omega | rfl | (simp only [List.length_cons, List.length_nil]; omega)) (by first | assumption | omega | rfl | (simp only [List.length_cons, List.length_nil]; omega)) (by first | assumption | omega | rfl | (simp only [List.length_cons, List.length_nil]; omega))) ?_; intro _ _ _ _ _)
    | (refine ArgF.src (c_spec_l00Src_one _ _ _ _ (by first | assumption | omega | rfl | (simp only [List.length_cons, List.length_nil]; omega)) (by first | assumption | omega | rfl | (simp only [List.length_cons, List.length_nil]; omega)) (by first | assumption | omega | rfl | (simp only [List.length_cons, List.length_nil]; omega))) ?_; intro _ _ _ _ _)
    | refine CallF.own (f := 16) [0, 1] false ?_
    | refine CallF.own (f := 34) [0] false ?_
    | refine CallF.mk (CallW.is [] true rfl ?_)
    | refine CallG.mk ?_
    | (refine CondF.mk (fun hb => ?_) (fun hb => ?_) <;> try simp only [forall_const, eq_self, not_true_eq_false, not_false_eq_true, or_false, false_or, or_self, or_true, true_or, and_true, true_and, and_false, false_and, decide_true, decide_false, Bool.not_true, Bool.not_false, decide_eq_true_eq, decide_eq_false_iff_not, ite_and_p, ite_or_p, Bool.decide_eq_true, Bool.and_eq_true, Bool.or_eq_true, Bool.not_eq_true', Bool.not_eq_false', Bool.and_eq_false_imp, Bool.or_eq_false_iff, bne_iff_ne, beq_iff_eq, bne_eq_false_iff_eq, beq_eq_false_iff_ne, gt_iff_lt, ge_iff_le, Int.not_lt, Int.not_le, ne_eq, Bool.true_eq_false, Bool.false_eq_true, reduceCtorEq, eta_Airway, eta_Fan, eta_Mine] at hb)
    | apply BackF.auto5
    | refine BackB.mk ?_ ?_
    | refine RetF.auto (And.intro rfl ?_)
    | exact Is.mk rfl rfl
    | refine Is.mk ?_ rfl
    | refine Is.mk rfl ?_
    | refine Is.mk ?_ ?_
  all_goals try dsimp only
  all_goals first
    | omega
    | exact ⟨by omega, by omega, rfl, by omega, by omega⟩
    | exact ⟨by omega, by omega, by rw [List.length_append, List.length_singleton]; omega, by omega, by omega⟩
    | exact ⟨by rw [List.length_set]; omega, by omega⟩
    | exact ⟨k2, by omega⟩
    | skip
theorem c_spec_l07DrawPushes (c : List Int) (p s j : Int) (xs : List GAirway) (r : List Int) (fs : List GFan) (hc : bytes c) (hp : 0 ≤ p ∧ p ≤ 20000000) (hx : xs.length ≤ 26) : FnSem Tryz.prog 38 [.own 0 0, .own 1 0] [srcO c p s, xO j xs (liV r) (fanV fs) nilV] (SrcX (fun r : List Int => [.p .fresh (LI r)]) (fun _ => [xO j xs (liV r) (fanV fs) nilV]) (fun _ => True) c 100 p) := by
  refine FnSem.frz ((pusU c p s j xs r fs hc hp hx).mono ?_)
  rintro rs ho ⟨⟨n, ys⟩, p', s', rfl, rfl, hv, hp'⟩
  dsimp only at hv
  refine ⟨_, 2, _, rfl, rfl, Nat.le_refl _, rfl, rfl, fun _ => by simp only [List.length_map]; omega, _, tkT (take_all hv.1), ?_⟩
  exact SrcX.mk (α := List Int) ys p' s' rfl rfl trivial hp'
theorem stFa {fs : List GFan} {k : Nat} {v : Int} {c : Nat} (hc : c = 1) : (fs.map GFan.cells).set k (List.take 1 (fs.getD k default).cells ++ pvCells (.c (.int .i64 v)) ++ List.drop (1 + c) (fs.getD k default).cells) = (fs.set k ⟨(fs.getD k default).id, v, (fs.getD k default).curve⟩).map GFan.cells := by
  subst hc; rw [List.map_set]; rfl
--@fn spec.l07DrawFans
theorem fanU (c : List Int) (p s j : Int) (xs : List GAirway) (r : List Int) (hc : bytes c) (hp : 0 ≤ p ∧ p ≤ 20000000) (hx : xs.length ≤ 26) : FnSem Tryz.prog 37 [.own 0 0, .own 1 0] [srcO c p s, xO j xs (liV r) nilV nilV] (SrcX (fun v : Nat × List GFan => [.osl 2 0 v.1]) (fun v => [xO j xs (liV r) nilV nilV, RwFs v.2]) (fun v => v.1 ≤ v.2.length ∧ v.1 ≤ 14) c 900 p) := by
  refine FnSem.walk (zs := zeroPV Tryz.prog) (by kernel_rfl) Tryz.func37 rfl Tryz.results37 (by kernel_rfl) (by kernel_rfl) (by kernel_rfl) fun hw hh => ?_
  obtain ⟨w0, w1, _⟩ := hw
  first | replace w0 := wfr_L00Src w0 | skip
  first | replace w1 := wfr_Mine w1 | skip
  repeat' first
    | refine And.intro rfl ?_
    | refine GdF.mk (fun h => h) ?_
    | refine And.intro (Nat.succ_ne_zero _) ?_
    | refine And.intro (Nat.le_of_ble_eq_true rfl) ?_
    | refine SeqF.run ?_
    | refine GdS.tt (by first | rfl | assumption) ?_
    | refine GdS.ff (by first | rfl | assumption) ?_
    | refine GdS.split (fun hg => ?_) (fun hg => ?_)
    | refine GdF.mk (fun h => by first | exact h | rfl | (rw [hg] at h; exact h)) ?_
    | refine EqL.mk _ (stFa (by kernel_rfl)) ?_
    | refine CallF.own (f := 64) [0] false ?_
    | (refine ArgF.srx (listU c _ _ hc (by omega)) ?_; rintro ⟨n, fs⟩ p2 s2 hf hp2; dsimp only at hf)
    | refine LoopF.at 4 rfl (LoopF.fix [0, 5, 6] (Int × List GFan × Int × Int) (fun (i, fs, q, t) => 0 ≤ i ∧ i ≤ n ∧ fs.length = n ∧ p ≤ q ∧ q ≤ p + 800 + 2 * i) (fun (i, fs, q, t) => [(7, In i)]) (fun (i, fs, q, t) => [(0, srcO c q t), (2, RwFs fs)]) (fun (i, fs, q, t) => ((n - i).toNat)) ((0, fs, p2, s2)) ?_)
    | (refine LoopB.of (T := Int × List GFan × Int × Int) ?_ ?_; rotate_left; rintro ⟨i, fs, q, t⟩ ⟨k0, k1, k2, k3, k4⟩; rotate_left)
    | refine SrcX.mk (α := Nat × List GFan) (2, fs) _ _ rfl rfl ?_ ?_
    | refine SrcX.mk (α := Nat × List GFan) (n, fs) _ _ rfl rfl ?_ ?_
    | refine GhF.go ?_
    | refine GdS.keep ?_
    | refine MkF.row ?_
    | refine EqP.mk _ (gm GAirway.cells default rfl) ?_
    | refine EqP.mk _ (gmb GFan.cells default (by omega)) ?_
    | refine BndF.mk (fun _ => by omega) ?_
    | refine BndF.mk (fun _ => by simp only [lnS]; omega) ?_
    | refine BndF.mk (fun hG => by simp only [forall_const, eq_self, not_true_eq_false, not_false_eq_true, or_false, false_or, or_self, or_true, true_or, and_true, true_and, and_false, false_and, decide_true, decide_false, Bool.not_true, Bool.not_false, decide_eq_true_eq, decide_eq_false_iff_not, ite_and_p, ite_or_p, Bool.decide_eq_true, Bool.and_eq_true, Bool.or_eq_true, Bool.not_eq_true', Bool.not_eq_false', Bool.and_eq_false_imp, Bool.or_eq_false_iff, bne_iff_ne, beq_iff_eq, bne_eq_false_iff_eq, beq_eq_false_iff_ne, gt_iff_lt, ge_iff_le, Int.not_lt, Int.not_le, ne_eq, Bool.true_eq_false, Bool.false_eq_true, reduceCtorEq, eta_Airway, eta_Fan, eta_Mine, bytes_nil] at hG; (try simp only [List.length_map]); omega) ?_
    | refine EqI.mk _ (fun _ => wrapI (by omega) (by omega)) ?_
    | refine EqI.mk _ (fun _ => modE (by omega)) ?_
    | refine EqI.mk _ (fun _ => rfl) ?_
    | refine EqN.mk _ (ln GAirway.cells) ?_
    | refine EqN.mk _ (ln GFan.cells) ?_
    | refine EqN.mk _ (Nat.zero_add _) ?_
    | refine EqN.mk _ (Int.toNat_natCast _) ?_
    | refine EqN.mk _ rfl ?_
    | refine EqL.mk _ (tk GAirway.cells (by first | rfl | assumption | omega | (simp only [lnS] <;> omega))) ?_
    | refine EqL.mk _ (st GAirway.cells) ?_
    | refine EqL.mk _ (dt GAirway.cells) ?_
    | refine EqL.mk _ (tk GFan.cells (by first | rfl | assumption | omega | (simp only [lnS] <;> omega))) ?_
    | refine EqL.mk _ (st GFan.cells) ?_
    | refine EqL.mk _ (dt GFan.cells) ?_
    | refine EqL.mk [] rfl ?_
    | refine EqL.mk [_] rfl ?_
    | refine EqL.mk _ rfl ?_
    | (refine ArgF.src (c_spec_l06DrawList _ _ _ (by first | assumption | omega | rfl | (simp only [List.length_cons, List.length_nil]; omega)) (by first | assumption | omega | rfl | (simp only [List.length_cons, List.length_nil]; omega))) ?_; intro _ _ _ _ _)
    | (refine ArgF.src (c_spec_l00Src_pick _ _ _ _ (by first | assumption | omega | rfl | (simp only [List.length_cons, List.length_nil]; omega)) (by first | assumption | omega | rfl | (simp only [List.length_cons, List.length_nil]; omega)) (by first | assumption | omega | rfl | (simp only [List.length_cons, List.length_nil]; omega))) ?_; intro _ _ _ _ _)
    | (refine ArgF.src (c_spec_l00Src_one _ _ _ _ (by first | assumption | omega | rfl | (simp only [List.length_cons, List.length_nil]; omega)) (by first | assumption | omega | rfl | (simp only [List.length_cons, List.length_nil]; omega)) (by first | assumption | omega | rfl | (simp only [List.length_cons, List.length_nil]; omega))) ?_; intro _ _ _ _ _)
    | refine CallF.own (f := 29) [0] false ?_
    | refine CallF.own (f := 34) [0] false ?_
    | refine CallF.own (f := 64) [0] false ?_
    | refine CallF.mk (CallW.is [] true rfl ?_)
    | refine CallG.mk ?_
    | (refine CondF.mk (fun hb => ?_) (fun hb => ?_) <;> try simp only [forall_const, eq_self, not_true_eq_false, not_false_eq_true, or_false, false_or, or_self, or_true, true_or, and_true, true_and, and_false, false_and, decide_true, decide_false, Bool.not_true, Bool.not_false, decide_eq_true_eq, decide_eq_false_iff_not, ite_and_p, ite_or_p, Bool.decide_eq_true, Bool.and_eq_true, Bool.or_eq_true, Bool.not_eq_true', Bool.not_eq_false', Bool.and_eq_false_imp, Bool.or_eq_false_iff, bne_iff_ne, beq_iff_eq, bne_eq_false_iff_eq, beq_eq_false_iff_ne, gt_iff_lt, ge_iff_le, Int.not_lt, Int.not_le, ne_eq, Bool.true_eq_false, Bool.false_eq_true, reduceCtorEq, eta_Airway, eta_Fan, eta_Mine] at hb)
    | apply BackF.auto4
    | refine BackB.mk ?_ ?_
    | refine RetF.auto (And.intro rfl ?_)
    | exact Is.mk rfl rfl
    | refine Is.mk ?_ rfl
    | refine Is.mk rfl ?_
    | refine Is.mk ?_ ?_
  all_goals try (refine SrcX.mk (α := Nat × List GFan) (n, fs) _ _ rfl rfl ?_ ?_)
  all_goals try dsimp only
  all_goals first
    | omega
    | exact ⟨by omega, by omega, by omega, by omega, by omega⟩
    | exact ⟨by omega, by omega, by rw [List.length_set]; omega, by omega, by omega⟩
    | exact ⟨by omega, by omega⟩
    | skip
end Go.Proofs.YtdhkpmaanegjkaaGreat
/- Contracts of functions of the program, and what they compute. Conditions: those that each theorem states. -/
set_option linter.unusedVariables false
set_option linter.unusedSimpArgs false
namespace Go.Proofs.YtdhkpmaanegjkaaGreat
open Go.Av
attribute [local irreducible] Go.IntKind.wrap leastI rdZ rd rootI okMine treeC mshC
set_option maxRecDepth 20000
set_option maxHeartbeats 16000000
theorem c_spec_l07DrawFans (c : List Int) (p s j : Int) (xs : List GAirway) (r : List Int) (hc : bytes c) (hp : 0 ≤ p ∧ p ≤ 20000000) (hx : xs.length ≤ 26) : FnSem Tryz.prog 37 [.own 0 0, .own 1 0] [srcO c p s, xO j xs (liV r) nilV nilV] (SrcX (fun fs : List GFan => [.p .fresh (.lst GFan.z (fs.map GFan.cells))]) (fun _ => [xO j xs (liV r) nilV nilV]) (fun _ => True) c 900 p) := by
  refine FnSem.frz ((fanU c p s j xs r hc hp hx).mono ?_)
  rintro rs ho ⟨⟨n, ys⟩, p', s', rfl, rfl, hv, hp'⟩
  dsimp only at hv
  refine ⟨_, 2, _, rfl, rfl, Nat.le_refl _, rfl, rfl, fun _ => by simp only [List.length_map]; omega, (ys.take n).map GFan.cells, by rw [List.drop_zero, List.map_take], ?_⟩
  exact SrcX.mk (α := List GFan) (ys.take n) p' s' rfl rfl trivial hp'
--@fn spec.l07DrawFlows
theorem floU (c : List Int) (p s j : Int) (xs : List GAirway) (r : List Int) (fs : List GFan) (d : List Int) (hc : bytes c) (hp : 0 ≤ p ∧ p ≤ 20000000) (hx : xs.length ≤ 26) : FnSem Tryz.prog 39 [.own 0 0, .own 1 0] [srcO c p s, xO j xs (liV r) (fanV fs) (liV d)] (SrcX (fun v : Nat × List Int => [.osl 2 0 v.1]) (fun v => [xO j xs (liV r) (fanV fs) (liV d), .row true .flat (eI 0) (v.2.map eI)]) (fun v => v.1 = v.2.length ∧ v.1 ≤ 30) c 100 p) := by
  refine FnSem.walk (zs := zeroPV Tryz.prog) (by kernel_rfl) Tryz.func39 rfl Tryz.results39 (by kernel_rfl) (by kernel_rfl) (by kernel_rfl) fun hw hh => ?_
  obtain ⟨w0, w1, _⟩ := hw
  first | replace w0 := wfr_L00Src w0 | skip
  first | replace w1 := wfr_Mine w1 | skip
  repeat' first
    | refine And.intro rfl ?_
    | refine GdF.mk (fun h => h) ?_
    | refine And.intro (Nat.succ_ne_zero _) ?_
    | refine And.intro (Nat.le_of_ble_eq_true rfl) ?_
    | refine SeqF.run ?_
    | refine GdS.tt (by first | rfl | assumption) ?_
    | refine GdS.ff (by first | rfl | assumption) ?_
    | refine GdS.split (fun hg => ?_) (fun hg => ?_)
    | refine GdF.mk (fun h => by first | exact h | rfl | (rw [hg] at h; exact h)) ?_
    | refine OpH.heap ?_
    | refine GhF.held 7 rfl [(6, [0]), (8, [2])] ?_
    | (refine ArgF.srw (c_spec_l00Src_among c _ _ [100000, 100001, -100001] 3 hc (by omega) (by omega) rfl) ?_; intro w4 pw4 sw4 hw4 hpw4; simp only [List.mem_cons, List.not_mem_nil, or_false] at hw4)
    | refine EqL.mk _ (stI (by kernel_rfl)) ?_
    | (refine ArgF.src (c_spec_l00Src_pick c _ _ 4 hc (by omega) (by omega)) ?_; intro vq pq sq hvq hpq)
    | (refine ArgF.src (c_spec_l00Src_pick c _ _ 4000 hc (by omega) (by omega)) ?_; intro v4 p4 s4 hv4 hp4)
    | refine ArgF.is (semRef (cs := GMine.cells ⟨j, xs⟩) (c_spec_l04Ok ⟨j, xs⟩)) ?_
    | (have hm : okMine ⟨j, xs⟩ = true := (by simp_all); have hmp := okMine_p hm; have hG := fun j' => mshC_G (j := j') hm; have hM := mshC_len hm; refine ArgF.is (semRef (cs := GMine.cells ⟨j, xs⟩) (c_spec_l04Meshes ⟨j, xs⟩ hm)) ?_)
    | refine ArgF.is (c_spec_l07Add _ fl ((mshC ⟨j, xs⟩).getD i.toNat []) _ (by omega) (by omega) (by rw [i2]; exact (hG i.toNat (by omega)).ok) (fun k => by have := i3 k; omega) (by omega)) ?_
    | refine LoopF.at 5 rfl (LoopF.fix [0, 5] (Fl × Int × List Int × Int × Int) (fun (gf, i, fl, q, t) => 0 ≤ i ∧ i ≤ (mshC ⟨j, xs⟩).length ∧ fl.length = xs.length ∧ (∀ k : Nat, -(160000 * i) ≤ fl.getD k 0 ∧ fl.getD k 0 ≤ 160000 * i) ∧ (p ≤ q ∧ q ≤ p + 4 + 2 * i) ∧ (gf = .fresh ∨ gf = .any)) (fun (gf, i, fl, q, t) => [(7, In i), (6, .p gf (LLI (mshC ⟨j, xs⟩)))]) (fun (gf, i, fl, q, t) => [(0, srcO c q t), (2, .row true .flat (eI 0) (fl.map eI))]) (fun (gf, i, fl, q, t) => (((mshC ⟨j, xs⟩).length - i).toNat)) ((.fresh, 0, List.replicate xs.length 0, pq, sq)) ?_)
    | (refine LoopB.of (T := Fl × Int × List Int × Int × Int) ?_ ?_; rotate_left; rintro ⟨gf, i, fl, q, t⟩ ⟨i0, i1, i2, i3, i4, i5⟩; rotate_left)
    | refine LoopF.at 9 rfl (LoopF.fix [0, 5] (Int × List Int × Int × Int × Unit) (fun (i, fl, q, t, _) => 0 ≤ i ∧ i ≤ xs.length ∧ fl.length = xs.length ∧ (p ≤ q ∧ q ≤ p + 4 + 2 * i)) (fun (i, fl, q, t, _) => [(8, In i)]) (fun (i, fl, q, t, _) => [(0, srcO c q t), (2, .row true .flat (eI 0) (fl.map eI))]) (fun (i, fl, q, t, _) => ((xs.length - i).toNat)) ((0, List.replicate xs.length 0, pq, sq, ())) ?_)
    | (refine LoopB.of (T := Int × List Int × Int × Int × Unit) ?_ ?_; rotate_left; rintro ⟨i, fl, q, t, _⟩ ⟨i0, i1, i2, i4⟩; rotate_left)
    | refine LoopF.at 9 rfl (LoopF.fix [0, 5] (Int × List Int × Int × Int × Unit) (fun (i, fl, q, t, _) => 0 ≤ i ∧ i ≤ xs.length ∧ fl.length = xs.length ∧ (p ≤ q ∧ q ≤ p + 4 + 2 * i)) (fun (i, fl, q, t, _) => [(8, In i)]) (fun (i, fl, q, t, _) => [(0, srcO c q t), (2, .row true .flat (eI 0) (fl.map eI))]) (fun (i, fl, q, t, _) => ((xs.length - i).toNat)) ((0, List.replicate xs.length 0, p, s, ())) ?_)
    | (refine LoopB.of (T := Int × List Int × Int × Int × Unit) ?_ ?_; rotate_left; rintro ⟨i, fl, q, t, _⟩ ⟨i0, i1, i2, i4⟩; rotate_left)
    | (rcases i5 with rfl | rfl)
    | refine SrcX.mk (α := Nat × List Int) (_, _) _ _ rfl rfl ?_ ?_
    | refine HdF.at 8 rfl 0 [] (And.intro (by decide +kernel) (And.intro rfl ?_))
    | refine HdF.at 7 rfl 1 [] (And.intro (by decide +kernel) (And.intro rfl ?_))
    | refine HdF.at 6 rfl 2 [] (And.intro (by decide +kernel) (And.intro rfl ?_))
    | refine HdF.at 5 rfl 3 [] (And.intro (by decide +kernel) (And.intro rfl ?_))
    | refine HdF.at 4 rfl 4 [8] (And.intro (by decide +kernel) (And.intro rfl ?_))
    | refine HdF.at 3 rfl 5 [] (And.intro (by decide +kernel) (And.intro rfl ?_))
    | refine HdF.goAt 2 rfl ?_
    | refine OrdL.ord ?_
    | refine OrdF.take 7 (by decide +kernel) (And.intro rfl ?_)
    | refine OrdF.all [8] (by decide +kernel) ?_
    | refine OrdF.all [6] (by decide +kernel) ?_
    | refine OrdF.fin (by decide +kernel) ?_
    | refine AllF.one _ ?_
    | refine AllF.cons _ _ ?_ ?_
    | refine OpH.quiet rfl ?_
    | refine OpH.heap ?_
    | refine GhF.go ?_
    | refine GdS.keep ?_
    | refine DrawG.old (DrawF.lex (by decide +kernel) ?_)
    | refine MkF.row ?_
    | refine EqP.mk _ (gm GAirway.cells default rfl) ?_
    | refine EqP.mk _ (gm eI 0 rfl) ?_
    | refine EqP.mk _ (gmb eLI [] (by omega)) ?_
    | refine BndF.mk (fun _ => by omega) ?_
    | refine BndF.mk (fun _ => by simp only [lnS]; omega) ?_
    | refine BndF.mk (fun hG => by simp only [forall_const, eq_self, not_true_eq_false, not_false_eq_true, or_false, false_or, or_self, or_true, true_or, and_true, true_and, and_false, false_and, decide_true, decide_false, Bool.not_true, Bool.not_false, decide_eq_true_eq, decide_eq_false_iff_not, ite_and_p, ite_or_p, Bool.decide_eq_true, Bool.and_eq_true, Bool.or_eq_true, Bool.not_eq_true', Bool.not_eq_false', Bool.and_eq_false_imp, Bool.or_eq_false_iff, bne_iff_ne, beq_iff_eq, bne_eq_false_iff_eq, beq_eq_false_iff_ne, gt_iff_lt, ge_iff_le, Int.not_lt, Int.not_le, ne_eq, Bool.true_eq_false, Bool.false_eq_true, reduceCtorEq, eta_Airway, eta_Fan, eta_Mine, bytes_nil] at hG; (try simp only [List.length_map]); omega) ?_
    | refine EqI.mk _ (fun _ => wrapI (by omega) (by omega)) ?_
    | refine EqI.mk _ (fun _ => rfl) ?_
    | refine FlF.keep ?_
    | refine EqN.mk _ (ln GAirway.cells) ?_
    | refine EqN.mk _ (ln eI) ?_
    | refine EqN.mk _ (ln eLI) ?_
    | refine EqN.mk _ (Nat.zero_add _) ?_
    | refine EqN.mk (_ + 1) rfl ?_
    | refine EqN.mk _ (Int.toNat_natCast _) ?_
    | refine EqN.mk _ rfl ?_
    | refine EqL.mk _ (sn0 GAirway.cells) ?_
    | refine EqL.mk _ (sn GAirway.cells (by first | rfl | assumption | omega | (simp only [lnS] <;> omega))) ?_
    | refine EqL.mk _ (ap0 GAirway.cells) ?_
    | refine EqL.mk _ (ap GAirway.cells (by first | rfl | assumption | omega | (simp only [lnS] <;> omega))) ?_
    | refine EqL.mk _ (tk GAirway.cells (by first | rfl | assumption | omega | (simp only [lnS] <;> omega))) ?_
    | refine EqL.mk _ (st GAirway.cells) ?_
    | refine EqL.mk _ (rp GAirway.cells default) ?_
    | refine EqL.mk _ (dt GAirway.cells) ?_
    | refine EqL.mk _ (sn0 eI) ?_
    | refine EqL.mk _ (sn eI (by first | rfl | assumption | omega | (simp only [lnS] <;> omega))) ?_
    | refine EqL.mk _ (ap0 eI) ?_
    | refine EqL.mk _ (ap eI (by first | rfl | assumption | omega | (simp only [lnS] <;> omega))) ?_
    | refine EqL.mk _ (tk eI (by first | rfl | assumption | omega | (simp only [lnS] <;> omega))) ?_
    | refine EqL.mk _ (st eI) ?_
    | refine EqL.mk _ (rp eI 0) ?_
    | refine EqL.mk _ (dt eI) ?_
    | refine EqL.mk _ (sn0 eLI) ?_
    | refine EqL.mk _ (sn eLI (by first | rfl | assumption | omega | (simp only [lnS] <;> omega))) ?_
    | refine EqL.mk _ (ap0 eLI) ?_
    | refine EqL.mk _ (ap eLI (by first | rfl | assumption | omega | (simp only [lnS] <;> omega))) ?_
    | refine EqL.mk _ (tk eLI (by first | rfl | assumption | omega | (simp only [lnS] <;> omega))) ?_
    | refine EqL.mk _ (st eLI) ?_
    | refine EqL.mk _ (rp eLI []) ?_
    | refine EqL.mk _ (dt eLI) ?_
    | refine EqL.mk (List.map eI [_, _, _]) rfl ?_
    | refine EqL.mk [] rfl ?_
    | refine EqL.mk [_] rfl ?_
    | refine EqL.mk _ rfl ?_
    | refine ArgF.is (c_spec_l04Ok ⟨_, _⟩) ?_
    | refine ArgQ.is (fun hG => c_spec_l04Ok ⟨_, _⟩) rfl rfl ?_
    | (refine ArgF.src (c_spec_l00Src_pick _ _ _ _ (by first | assumption | omega | rfl | (simp only [List.length_cons, List.length_nil]; omega)) (by first | assumption | omega | rfl | (simp only [List.length_cons, List.length_nil]; omega)) (by first | assumption | omega | rfl | (simp only [List.length_cons, List.length_nil]; omega))) ?_; intro _ _ _ _ _)
    | refine ArgF.is (c_spec_l04Meshes ⟨_, _⟩ (by first | assumption | omega)) ?_
    | refine ArgQ.is (fun hG => c_spec_l04Meshes ⟨_, _⟩ (by first | assumption | omega)) rfl rfl ?_
    | refine ArgQ.is (fun hG => c_spec_l04Meshes ⟨_, _⟩ (by simp only [forall_const, eq_self, not_true_eq_false, not_false_eq_true, or_false, false_or, or_self, or_true, true_or, and_true, true_and, and_false, false_and, decide_true, decide_false, Bool.not_true, Bool.not_false, decide_eq_true_eq, decide_eq_false_iff_not, ite_and_p, ite_or_p, Bool.decide_eq_true, Bool.and_eq_true, Bool.or_eq_true, Bool.not_eq_true', Bool.not_eq_false', Bool.and_eq_false_imp, Bool.or_eq_false_iff, bne_iff_ne, beq_iff_eq, bne_eq_false_iff_eq, beq_eq_false_iff_ne, gt_iff_lt, ge_iff_le, Int.not_lt, Int.not_le, ne_eq, Bool.true_eq_false, Bool.false_eq_true, reduceCtorEq, eta_Airway, eta_Fan, eta_Mine, bytes_nil] at hG; omega)) rfl rfl ?_
    | refine ArgF.is (c_spec_l07Add _ _ _ _ (by first | assumption | omega) (by first | assumption | omega) (by first | assumption | omega) (by first | assumption | omega) (by first | assumption | omega)) ?_
    | refine ArgQ.is (fun hG => c_spec_l07Add _ _ _ _ (by first | assumption | omega) (by first | assumption | omega) (by first | assumption | omega) (by first | assumption | omega) (by first | assumption | omega)) rfl rfl ?_
    | refine ArgQ.is (fun hG => c_spec_l07Add _ _ _ _ (by simp only [forall_const, eq_self, not_true_eq_false, not_false_eq_true, or_false, false_or, or_self, or_true, true_or, and_true, true_and, and_false, false_and, decide_true, decide_false, Bool.not_true, Bool.not_false, decide_eq_true_eq, decide_eq_false_iff_not, ite_and_p, ite_or_p, Bool.decide_eq_true, Bool.and_eq_true, Bool.or_eq_true, Bool.not_eq_true', Bool.not_eq_false', Bool.and_eq_false_imp, Bool.or_eq_false_iff, bne_iff_ne, beq_iff_eq, bne_eq_false_iff_eq, beq_eq_false_iff_ne, gt_iff_lt, ge_iff_le, Int.not_lt, Int.not_le, ne_eq, Bool.true_eq_false, Bool.false_eq_true, reduceCtorEq, eta_Airway, eta_Fan, eta_Mine, bytes_nil] at hG; omega) (by simp only [forall_const, eq_self, not_true_eq_false, not_false_eq_true, or_false, false_or, or_self, or_true, true_or, and_true, true_and, and_false, false_and, decide_true, decide_false, Bool.not_true, Bool.not_false, decide_eq_true_eq, decide_eq_false_iff_not, ite_and_p, ite_or_p, Bool.decide_eq_true, Bool.and_eq_true, Bool.or_eq_true, Bool.not_eq_true', Bool.not_eq_false', Bool.and_eq_false_imp, Bool.or_eq_false_iff, bne_iff_ne, beq_iff_eq, bne_eq_false_iff_eq, beq_eq_false_iff_ne, gt_iff_lt, ge_iff_le, Int.not_lt, Int.not_le, ne_eq, Bool.true_eq_false, Bool.false_eq_true, reduceCtorEq, eta_Airway, eta_Fan, eta_Mine, bytes_nil] at hG; omega) (by simp only [forall_const, eq_self, not_true_eq_false, not_false_eq_true, or_false, false_or, or_self, or_true, true_or, and_true, true_and, and_false, false_and, decide_true, decide_false, Bool.not_true, Bool.not_false, decide_eq_true_eq, decide_eq_false_iff_not, ite_and_p, ite_or_p, Bool.decide_eq_true, Bool.and_eq_true, Bool.or_eq_true, Bool.not_eq_true', Bool.not_eq_false', Bool.and_eq_false_imp, Bool.or_eq_false_iff, bne_iff_ne, beq_iff_eq, bne_eq_false_iff_eq, beq_eq_false_iff_ne, gt_iff_lt, ge_iff_le, Int.not_lt, Int.not_le, ne_eq, Bool.true_eq_false, Bool.false_eq_true, reduceCtorEq, eta_Airway, eta_Fan, eta_Mine, bytes_nil] at hG; omega) (by simp only [forall_const, eq_self, not_true_eq_false, not_false_eq_true, or_false, false_or, or_self, or_true, true_or, and_true, true_and, and_false, false_and, decide_true, decide_false, Bool.not_true, Bool.not_false, decide_eq_true_eq, decide_eq_false_iff_not, ite_and_p, ite_or_p, Bool.decide_eq_true, Bool.and_eq_true, Bool.or_eq_true, Bool.not_eq_true', Bool.not_eq_false', Bool.and_eq_false_imp, Bool.or_eq_false_iff, bne_iff_ne, beq_iff_eq, bne_eq_false_iff_eq, beq_eq_false_iff_ne, gt_iff_lt, ge_iff_le, Int.not_lt, Int.not_le, ne_eq, Bool.true_eq_false, Bool.false_eq_true, reduceCtorEq, eta_Airway, eta_Fan, eta_Mine, bytes_nil] at hG; omega) (by simp only [forall_const, eq_self, not_true_eq_false, not_false_eq_true, or_false, false_or, or_self, or_true, true_or, and_true, true_and, and_false, false_and, decide_true, decide_false, Bool.not_true, Bool.not_false, decide_eq_true_eq, decide_eq_false_iff_not, ite_and_p, ite_or_p, Bool.decide_eq_true, Bool.and_eq_true, Bool.or_eq_true, Bool.not_eq_true', Bool.not_eq_false', Bool.and_eq_false_imp, Bool.or_eq_false_iff, bne_iff_ne, beq_iff_eq, bne_eq_false_iff_eq, beq_eq_false_iff_ne, gt_iff_lt, ge_iff_le, Int.not_lt, Int.not_le, ne_eq, Bool.true_eq_false, Bool.false_eq_true, reduceCtorEq, eta_Airway, eta_Fan, eta_Mine, bytes_nil] at hG; omega)) rfl rfl ?_
    | (refine ArgF.srw (c_spec_l00Src_among _ _ _ _ _ (by first | assumption | omega | rfl | (simp only [List.length_cons, List.length_nil]; omega)) (by first | assumption | omega | rfl | (simp only [List.length_cons, List.length_nil]; omega)) (by first | assumption | omega | rfl | (simp only [List.length_cons, List.length_nil]; omega)) (by first | assumption | omega | rfl | (simp only [List.length_cons, List.length_nil]; omega))) ?_; intro _ _ _ _ _)
    | refine CallF.own (f := 16) [0, 1] false ?_
    | refine CallF.own (f := 29) [0] false ?_
    | refine CallF.own (f := 66) [0] true ?_
    | refine CallF.mk (CallW.is [] true rfl ?_)
    | refine CallG.mk ?_
    | (refine CondF.mk (fun hb => ?_) (fun hb => ?_) <;> try simp only [forall_const, eq_self, not_true_eq_false, not_false_eq_true, or_false, false_or, or_self, or_true, true_or, and_true, true_and, and_false, false_and, decide_true, decide_false, Bool.not_true, Bool.not_false, decide_eq_true_eq, decide_eq_false_iff_not, ite_and_p, ite_or_p, Bool.decide_eq_true, Bool.and_eq_true, Bool.or_eq_true, Bool.not_eq_true', Bool.not_eq_false', Bool.and_eq_false_imp, Bool.or_eq_false_iff, bne_iff_ne, beq_iff_eq, bne_eq_false_iff_eq, beq_eq_false_iff_ne, gt_iff_lt, ge_iff_le, Int.not_lt, Int.not_le, ne_eq, Bool.true_eq_false, Bool.false_eq_true, reduceCtorEq, eta_Airway, eta_Fan, eta_Mine] at hb)
    | apply BackF.auto5
    | refine BackB.mk ?_ ?_
    | refine RetF.auto (And.intro rfl ?_)
    | exact Is.mk rfl rfl
    | refine Is.mk ?_ rfl
    | refine Is.mk rfl ?_
    | refine Is.mk ?_ ?_
  all_goals try exact ()
  all_goals try dsimp only
  all_goals first
    | omega
    | (refine ⟨by omega, by omega, by rw [List.length_replicate], fun k => ?_, by omega, .inl rfl⟩
       rw [List.getD_eq_getElem?_getD, List.getElem?_replicate]
       split <;> exact ⟨by decide, by decide⟩)
    | exact ⟨by omega, by omega, by rw [List.length_replicate], by omega, by omega⟩
    | exact ⟨by omega, by omega, by rw [addW_len]; exact i2, fun k => by have q := addW_b (a := v4 - 1500) (B := 160000 * i) (A := 2500) (by omega) ((mshC ⟨j, xs⟩).getD i.toNat []) fl i3 k; have := (hG i.toNat (by omega)).ok.1; omega, by omega, .inr rfl⟩
    | exact ⟨by rw [List.length_append, List.length_singleton]; omega, by omega⟩
    | exact ⟨by rw [List.length_set]; omega, by omega⟩
    | exact ⟨by omega, by omega, by rw [List.length_set]; exact i2, by omega, by omega⟩
    | exact ⟨by omega, by omega⟩
    | skip
end Go.Proofs.YtdhkpmaanegjkaaGreat
