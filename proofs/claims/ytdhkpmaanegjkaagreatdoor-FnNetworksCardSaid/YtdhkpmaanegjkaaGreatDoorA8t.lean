/- Contracts of functions of the program, and what they compute. Conditions: those that each theorem states. -/
import Derived.Test.YtdhkpmaanegjkaaGreatDoorProg
import Derived.Test.YtdhkpmaanegjkaaGreatDoorR2
import Derived.Test.YtdhkpmaanegjkaaGreatDoorD4
set_option linter.unusedVariables false
set_option linter.unusedSimpArgs false
namespace Go.Proofs.YtdhkpmaanegjkaaGreatDoor
open Go.Av
attribute [local irreducible] Go.IntKind.wrap listS decS idS isName
set_option maxRecDepth 20000
set_option maxHeartbeats 8000000
--@fn impl.ValidAirway
theorem vawT (x : GAirway) (h : okAirway x = true) : FnSem Tryz.prog 47 [.p .any (.agg x.cells)] [] (Is [Bo true] []) := by
  have := c_impl_ValidAirway x
  rwa [h] at this
def airwS (x : GAirway) : ByteArray := idS x.id [x.from_, x.to, x.length, x.section_, x.friction, x.shock]
theorem okAirway_l {x : GAirway} (h : okAirway x = true) : okLs [x.from_, x.to, x.length, x.section_, x.friction, x.shock] := by
  have hb := okAirway_b h
  refine ⟨Nat.succ_pos _, Nat.le_of_ble_eq_true rfl, fun y hy => ?_⟩
  simp only [List.mem_cons, List.not_mem_nil, or_false] at hy
  rcases hy with rfl | rfl | rfl | rfl | rfl | rfl <;> omega
theorem okAirway_n {x : GAirway} (h : okAirway x = true) : isName x.id = true := by
  simp only [okAirway, Bool.and_eq_true] at h; grind
theorem c_impl_AirwayText (x : GAirway) (h : okAirway x = true) : FnSem Tryz.prog 61 [.p .any (.agg x.cells)] [] (Is [Str (airwS x)] []) := by
  refine FnSem.walk (zs := zeroPV Tryz.prog) (by kernel_rfl) Tryz.func61 rfl Tryz.results61 (by kernel_rfl) (by kernel_rfl) (by kernel_rfl) fun hw hh => ?_
  obtain ⟨w0, _⟩ := hw
  first | replace w0 := wf_Airway w0 | skip
  repeat' first
    | refine And.intro rfl ?_
    | refine GdF.mk (fun h => h) ?_
    | refine And.intro (Nat.succ_ne_zero _) ?_
    | refine And.intro (Nat.le_of_ble_eq_true rfl) ?_
    | refine SeqF.run ?_
    | refine ArgF.is (vawT x h) ?_
    | refine ArgQ.is (fun hG => vawT x h) rfl rfl ?_
    | refine ArgF.is (c_impl_withId x.id [x.from_, x.to, x.length, x.section_, x.friction, x.shock] (okAirway_l h) (okAirway_n h)) ?_
    | refine ArgQ.is (fun hG => c_impl_withId x.id [x.from_, x.to, x.length, x.section_, x.friction, x.shock] (okAirway_l h) (okAirway_n h)) rfl rfl ?_
    | refine GhF.go ?_
    | refine MkF.row ?_
    | refine BndF.mk (fun _ => by omega) ?_
    | refine BndF.mk (fun _ => by simp only [lnS]; omega) ?_
    | refine EqL.mk _ (tk eI (by first | rfl | assumption | omega | (simp only [lnS] <;> omega))) ?_
    | refine EqL.mk (List.map eI [_, _, _, _, _, _]) rfl ?_
    | refine EqL.mk [] rfl ?_
    | refine EqL.mk [_] rfl ?_
    | refine EqL.mk _ rfl ?_
    | refine ArgF.is (c_impl_ValidAirway ⟨_, _, _, _, _, _, _⟩) ?_
    | refine ArgQ.is (fun hG => c_impl_ValidAirway ⟨_, _, _, _, _, _, _⟩) rfl rfl ?_
    | refine ArgF.is (c_impl_withId _ _ (by first | assumption | omega) (by first | assumption | omega)) ?_
    | refine ArgQ.is (fun hG => c_impl_withId _ _ (by first | assumption | omega) (by first | assumption | omega)) rfl rfl ?_
    | refine CallF.mk (CallW.is [] true rfl ?_)
    | refine CallG.mk ?_
    | (refine CondF.mk (fun hb => ?_) (fun hb => ?_) <;> try simp only [forall_const, eq_self, not_true_eq_false, not_false_eq_true, or_false, false_or, or_self, or_true, true_or, and_true, true_and, and_false, false_and, decide_true, decide_false, Bool.not_true, Bool.not_false, decide_eq_true_eq, decide_eq_false_iff_not, ite_and_p, ite_or_p, Bool.decide_eq_true, Bool.and_eq_true, Bool.or_eq_true, Bool.not_eq_true', Bool.not_eq_false', Bool.and_eq_false_imp, Bool.or_eq_false_iff, bne_iff_ne, beq_iff_eq, bne_eq_false_iff_eq, beq_eq_false_iff_ne, gt_iff_lt, ge_iff_le, Int.not_lt, Int.not_le, ne_eq, Bool.true_eq_false, Bool.false_eq_true, reduceCtorEq, eta_Airway, eta_Fan, eta_Mine] at hb)
    | refine RetF.auto (And.intro rfl ?_)
    | exact Is.mk rfl rfl
    | refine Is.mk ?_ rfl
    | refine Is.mk rfl ?_
    | refine Is.mk ?_ ?_
  all_goals try dsimp only
  all_goals skip
--@fn spec.l03DrawOk
theorem drawAwR (c : List Int) (p s : Int) (id : ByteArray) (a b : Int) (hc : bytes c) (hp : 0 ≤ p ∧ p ≤ 50000000) : FnSem Tryz.prog 45 [.own 0 0, Str id, In a, In b] [srcO c p s] (SrcV (fun x : GAirway => [.p .flat (.agg x.cells)]) (fun x => (x.id = id ∧ x.from_ = a ∧ x.to = b) ∧ (20 ≤ x.length ∧ x.length ≤ 919) ∧ (300 ≤ x.section_ ∧ x.section_ ≤ 1799) ∧ (20 ≤ x.friction ∧ x.friction ≤ 219) ∧ 0 ≤ x.shock ∧ x.shock ≤ 59) c 8 p) := by
  refine FnSem.walk (zs := zeroPV Tryz.prog) (by kernel_rfl) Tryz.func45 rfl Tryz.results45 (by kernel_rfl) (by kernel_rfl) (by kernel_rfl) fun hw hh => ?_
  obtain ⟨w0, w1, w2, w3, _⟩ := hw
  first | replace w0 := wfr_L00Src w0 | skip
  first | replace w1 := wf_S w1 | skip
  first | replace w2 := wf_I w2 | skip
  first | replace w3 := wf_I w3 | skip
  repeat' first
    | refine And.intro rfl ?_
    | refine GdF.mk (fun h => h) ?_
    | refine And.intro (Nat.succ_ne_zero _) ?_
    | refine And.intro (Nat.le_of_ble_eq_true rfl) ?_
    | refine SeqF.run ?_
    | refine SrcV.mk (α := GAirway) ⟨_, _, _, _, _, _, _⟩ _ _ rfl rfl ?_ ?_
    | refine GhF.go ?_
    | refine BndF.mk (fun _ => by omega) ?_
    | refine BndF.mk (fun _ => by simp only [lnS]; omega) ?_
    | refine EqI.mk _ (fun _ => wrapI (by omega) (by omega)) ?_
    | refine EqI.mk _ (fun _ => rfl) ?_
    | refine EqL.mk [] rfl ?_
    | refine EqL.mk [_] rfl ?_
    | refine EqL.mk _ rfl ?_
    | (refine ArgF.src (c_spec_l00Src_pick _ _ _ _ (by first | assumption | omega | rfl | (simp only [List.length_cons, List.length_nil]; omega)) (by first | assumption | omega | rfl | (simp only [List.length_cons, List.length_nil]; omega)) (by first | assumption | omega | rfl | (simp only [List.length_cons, List.length_nil]; omega))) ?_; intro _ _ _ _ _)
    | refine CallF.own (f := 44) [0] false ?_
    | refine CallF.mk (CallW.is [] true rfl ?_)
    | refine CallG.mk ?_
    | (refine CondF.mk (fun hb => ?_) (fun hb => ?_) <;> try simp only [forall_const, eq_self, not_true_eq_false, not_false_eq_true, or_false, false_or, or_self, or_true, true_or, and_true, true_and, and_false, false_and, decide_true, decide_false, Bool.not_true, Bool.not_false, decide_eq_true_eq, decide_eq_false_iff_not, ite_and_p, ite_or_p, Bool.decide_eq_true, Bool.and_eq_true, Bool.or_eq_true, Bool.not_eq_true', Bool.not_eq_false', Bool.and_eq_false_imp, Bool.or_eq_false_iff, bne_iff_ne, beq_iff_eq, bne_eq_false_iff_eq, beq_eq_false_iff_ne, gt_iff_lt, ge_iff_le, Int.not_lt, Int.not_le, ne_eq, Bool.true_eq_false, Bool.false_eq_true, reduceCtorEq, eta_Airway, eta_Fan, eta_Mine] at hb)
    | refine RetF.auto (And.intro rfl ?_)
    | exact Is.mk rfl rfl
    | refine Is.mk ?_ rfl
    | refine Is.mk rfl ?_
    | refine Is.mk ?_ ?_
  all_goals try dsimp only
  all_goals first
    | exact ⟨⟨rfl, rfl, rfl⟩, by omega, by omega, by omega, by omega⟩
    | omega
    | skip
section
attribute [local irreducible] okAirway
theorem c_impl_ReadAirway (x : GAirway) (h : okAirway x = true) : FnSem Tryz.prog 59 [Str (airwS x)] [] (Is [.p .flat (.agg x.cells), Bo true] []) := by
  refine FnSem.walk (zs := zeroPV Tryz.prog) (by kernel_rfl) Tryz.func59 rfl Tryz.results59 (by kernel_rfl) (by kernel_rfl) (by kernel_rfl) fun hw hh => ?_
  obtain ⟨w0, _⟩ := hw
  first | replace w0 := wf_S w0 | skip
  repeat' first
    | refine And.intro rfl ?_
    | refine GdF.mk (fun h => h) ?_
    | refine And.intro (Nat.succ_ne_zero _) ?_
    | refine And.intro (Nat.le_of_ble_eq_true rfl) ?_
    | refine SeqF.run ?_
    | refine GhF.held 2 rfl [] ?_
    | refine ArgF.is (c_impl_readWithId x.id [x.from_, x.to, x.length, x.section_, x.friction, x.shock] 6 (okAirway_l h) (okAirway_n h) rfl) ?_
    | refine ArgQ.is (fun hG => c_impl_readWithId x.id [x.from_, x.to, x.length, x.section_, x.friction, x.shock] 6 (okAirway_l h) (okAirway_n h) rfl) rfl rfl ?_
    | refine ArgF.is (c_impl_AirwayText x h) ?_
    | refine ArgQ.is (fun hG => c_impl_AirwayText x h) rfl rfl ?_
    | refine HdF.at 21 rfl 0 [] (And.intro (by decide +kernel) (And.intro rfl ?_))
    | refine HdF.at 20 rfl 1 [] (And.intro (by decide +kernel) (And.intro rfl ?_))
    | refine HdF.at 19 rfl 2 [] (And.intro (by decide +kernel) (And.intro rfl ?_))
    | refine HdF.at 18 rfl 3 [19, 21] (And.intro (by decide +kernel) (And.intro rfl ?_))
    | refine HdF.at 17 rfl 4 [] (And.intro (by decide +kernel) (And.intro rfl ?_))
    | refine HdF.at 16 rfl 5 [] (And.intro (by decide +kernel) (And.intro rfl ?_))
    | refine HdF.at 15 rfl 6 [19, 21] (And.intro (by decide +kernel) (And.intro rfl ?_))
    | refine HdF.at 14 rfl 7 [] (And.intro (by decide +kernel) (And.intro rfl ?_))
    | refine HdF.at 13 rfl 8 [] (And.intro (by decide +kernel) (And.intro rfl ?_))
    | refine HdF.at 12 rfl 9 [19, 21] (And.intro (by decide +kernel) (And.intro rfl ?_))
    | refine HdF.at 11 rfl 10 [] (And.intro (by decide +kernel) (And.intro rfl ?_))
    | refine HdF.at 10 rfl 11 [] (And.intro (by decide +kernel) (And.intro rfl ?_))
    | refine HdF.at 9 rfl 12 [19, 21] (And.intro (by decide +kernel) (And.intro rfl ?_))
    | refine HdF.at 8 rfl 13 [] (And.intro (by decide +kernel) (And.intro rfl ?_))
    | refine HdF.at 7 rfl 14 [] (And.intro (by decide +kernel) (And.intro rfl ?_))
    | refine HdF.at 6 rfl 15 [19, 21] (And.intro (by decide +kernel) (And.intro rfl ?_))
    | refine HdF.at 5 rfl 16 [] (And.intro (by decide +kernel) (And.intro rfl ?_))
    | refine HdF.at 4 rfl 17 [] (And.intro (by decide +kernel) (And.intro rfl ?_))
    | refine HdF.at 3 rfl 18 [19, 21] (And.intro (by decide +kernel) (And.intro rfl ?_))
    | refine HdF.at 2 rfl 19 [] (And.intro (by decide +kernel) (And.intro rfl ?_))
    | refine HdF.goAt 1 rfl ?_
    | refine OrdL.ord ?_
    | refine OrdF.all [21] (by decide +kernel) ?_
    | refine OrdF.all [20] (by decide +kernel) ?_
    | refine OrdF.fin (by decide +kernel) ?_
    | refine AllF.one _ ?_
    | refine AllF.cons _ _ ?_ ?_
    | refine OpH.quiet rfl ?_
    | refine OpH.heap ?_
    | refine GhF.go ?_
    | refine GdS.keep ?_
    | refine DrawG.old (DrawF.lex (by decide +kernel) ?_)
    | refine DrawG.old (DrawF.any ?_)
    | refine OrdF.take 0 (by decide +kernel) ?_
    | refine OrdF.take 1 (by decide +kernel) ?_
    | refine OrdF.take 2 (by decide +kernel) ?_
    | refine OrdF.take 4 (by decide +kernel) ?_
    | refine OrdF.take 5 (by decide +kernel) ?_
    | refine OrdF.take 7 (by decide +kernel) ?_
    | refine OrdF.take 8 (by decide +kernel) ?_
    | refine OrdF.take 10 (by decide +kernel) ?_
    | refine OrdF.take 11 (by decide +kernel) ?_
    | refine OrdF.take 13 (by decide +kernel) ?_
    | refine OrdF.take 14 (by decide +kernel) ?_
    | refine OrdF.take 16 (by decide +kernel) ?_
    | refine OrdF.take 17 (by decide +kernel) ?_
    | refine OrdF.take 19 (by decide +kernel) ?_
    | refine OrdF.all [21] (by decide +kernel) ?_
    | refine OrdF.all [3] (by decide +kernel) ?_
    | refine OrdF.all [6] (by decide +kernel) ?_
    | refine OrdF.all [3, 6] (by decide +kernel) ?_
    | refine OrdF.all [9] (by decide +kernel) ?_
    | refine OrdF.all [3, 9] (by decide +kernel) ?_
    | refine OrdF.all [6, 9] (by decide +kernel) ?_
    | refine OrdF.all [3, 6, 9] (by decide +kernel) ?_
    | refine OrdF.all [12] (by decide +kernel) ?_
    | refine OrdF.all [3, 12] (by decide +kernel) ?_
    | refine OrdF.all [6, 12] (by decide +kernel) ?_
    | refine OrdF.all [3, 6, 12] (by decide +kernel) ?_
    | refine OrdF.all [9, 12] (by decide +kernel) ?_
    | refine OrdF.all [3, 9, 12] (by decide +kernel) ?_
    | refine OrdF.all [6, 9, 12] (by decide +kernel) ?_
    | refine OrdF.all [3, 6, 9, 12] (by decide +kernel) ?_
    | refine OrdF.all [15] (by decide +kernel) ?_
    | refine OrdF.all [3, 15] (by decide +kernel) ?_
    | refine OrdF.all [6, 15] (by decide +kernel) ?_
    | refine OrdF.all [3, 6, 15] (by decide +kernel) ?_
    | refine OrdF.all [9, 15] (by decide +kernel) ?_
    | refine OrdF.all [3, 9, 15] (by decide +kernel) ?_
    | refine OrdF.all [6, 9, 15] (by decide +kernel) ?_
    | refine OrdF.all [3, 6, 9, 15] (by decide +kernel) ?_
    | refine OrdF.all [12, 15] (by decide +kernel) ?_
    | refine OrdF.all [3, 12, 15] (by decide +kernel) ?_
    | refine OrdF.all [6, 12, 15] (by decide +kernel) ?_
    | refine OrdF.all [3, 6, 12, 15] (by decide +kernel) ?_
    | refine OrdF.all [9, 12, 15] (by decide +kernel) ?_
    | refine OrdF.all [3, 9, 12, 15] (by decide +kernel) ?_
    | refine OrdF.all [6, 9, 12, 15] (by decide +kernel) ?_
    | refine OrdF.all [3, 6, 9, 12, 15] (by decide +kernel) ?_
    | refine OrdF.all [18] (by decide +kernel) ?_
    | refine OrdF.all [3, 18] (by decide +kernel) ?_
    | refine OrdF.all [6, 18] (by decide +kernel) ?_
    | refine OrdF.all [3, 6, 18] (by decide +kernel) ?_
    | refine OrdF.all [9, 18] (by decide +kernel) ?_
    | refine OrdF.all [3, 9, 18] (by decide +kernel) ?_
    | refine OrdF.all [6, 9, 18] (by decide +kernel) ?_
    | refine OrdF.all [3, 6, 9, 18] (by decide +kernel) ?_
    | refine OrdF.all [12, 18] (by decide +kernel) ?_
    | refine OrdF.all [3, 12, 18] (by decide +kernel) ?_
    | refine OrdF.all [6, 12, 18] (by decide +kernel) ?_
    | refine OrdF.all [3, 6, 12, 18] (by decide +kernel) ?_
    | refine OrdF.all [9, 12, 18] (by decide +kernel) ?_
    | refine OrdF.all [3, 9, 12, 18] (by decide +kernel) ?_
    | refine OrdF.all [6, 9, 12, 18] (by decide +kernel) ?_
    | refine OrdF.all [3, 6, 9, 12, 18] (by decide +kernel) ?_
    | refine OrdF.all [15, 18] (by decide +kernel) ?_
    | refine OrdF.all [3, 15, 18] (by decide +kernel) ?_
    | refine OrdF.all [6, 15, 18] (by decide +kernel) ?_
    | refine OrdF.all [3, 6, 15, 18] (by decide +kernel) ?_
    | refine OrdF.all [9, 15, 18] (by decide +kernel) ?_
    | refine OrdF.all [3, 9, 15, 18] (by decide +kernel) ?_
    | refine OrdF.all [6, 9, 15, 18] (by decide +kernel) ?_
    | refine OrdF.all [3, 6, 9, 15, 18] (by decide +kernel) ?_
    | refine OrdF.all [12, 15, 18] (by decide +kernel) ?_
    | refine OrdF.all [3, 12, 15, 18] (by decide +kernel) ?_
    | refine OrdF.all [6, 12, 15, 18] (by decide +kernel) ?_
    | refine OrdF.all [3, 6, 12, 15, 18] (by decide +kernel) ?_
    | refine OrdF.all [9, 12, 15, 18] (by decide +kernel) ?_
    | refine OrdF.all [3, 9, 12, 15, 18] (by decide +kernel) ?_
    | refine OrdF.all [6, 9, 12, 15, 18] (by decide +kernel) ?_
    | refine OrdF.all [3, 6, 9, 12, 15, 18] (by decide +kernel) ?_
    | refine OrdF.all [20] (by decide +kernel) ?_
    | refine OrdF.all [3, 20] (by decide +kernel) ?_
    | refine OrdF.all [6, 20] (by decide +kernel) ?_
    | refine OrdF.all [3, 6, 20] (by decide +kernel) ?_
    | refine OrdF.all [9, 20] (by decide +kernel) ?_
    | refine OrdF.all [3, 9, 20] (by decide +kernel) ?_
    | refine OrdF.all [6, 9, 20] (by decide +kernel) ?_
    | refine OrdF.all [3, 6, 9, 20] (by decide +kernel) ?_
    | refine OrdF.all [12, 20] (by decide +kernel) ?_
    | refine OrdF.all [3, 12, 20] (by decide +kernel) ?_
    | refine OrdF.all [6, 12, 20] (by decide +kernel) ?_
    | refine OrdF.all [3, 6, 12, 20] (by decide +kernel) ?_
    | refine OrdF.all [9, 12, 20] (by decide +kernel) ?_
    | refine OrdF.all [3, 9, 12, 20] (by decide +kernel) ?_
    | refine OrdF.all [6, 9, 12, 20] (by decide +kernel) ?_
    | refine OrdF.all [3, 6, 9, 12, 20] (by decide +kernel) ?_
    | refine OrdF.all [15, 20] (by decide +kernel) ?_
    | refine OrdF.all [3, 15, 20] (by decide +kernel) ?_
    | refine OrdF.all [6, 15, 20] (by decide +kernel) ?_
    | refine OrdF.all [3, 6, 15, 20] (by decide +kernel) ?_
    | refine OrdF.all [9, 15, 20] (by decide +kernel) ?_
    | refine OrdF.all [3, 9, 15, 20] (by decide +kernel) ?_
    | refine OrdF.all [6, 9, 15, 20] (by decide +kernel) ?_
    | refine OrdF.all [3, 6, 9, 15, 20] (by decide +kernel) ?_
    | refine OrdF.all [12, 15, 20] (by decide +kernel) ?_
    | refine OrdF.all [3, 12, 15, 20] (by decide +kernel) ?_
    | refine OrdF.all [6, 12, 15, 20] (by decide +kernel) ?_
    | refine OrdF.all [3, 6, 12, 15, 20] (by decide +kernel) ?_
    | refine OrdF.all [9, 12, 15, 20] (by decide +kernel) ?_
    | refine OrdF.all [3, 9, 12, 15, 20] (by decide +kernel) ?_
    | refine OrdF.all [6, 9, 12, 15, 20] (by decide +kernel) ?_
    | refine OrdF.all [3, 6, 9, 12, 15, 20] (by decide +kernel) ?_
    | refine OrdF.all [18, 20] (by decide +kernel) ?_
    | refine OrdF.all [3, 18, 20] (by decide +kernel) ?_
    | refine OrdF.all [6, 18, 20] (by decide +kernel) ?_
    | refine OrdF.all [3, 6, 18, 20] (by decide +kernel) ?_
    | refine OrdF.all [9, 18, 20] (by decide +kernel) ?_
    | refine OrdF.all [3, 9, 18, 20] (by decide +kernel) ?_
    | refine OrdF.all [6, 9, 18, 20] (by decide +kernel) ?_
    | refine OrdF.all [3, 6, 9, 18, 20] (by decide +kernel) ?_
    | refine OrdF.all [12, 18, 20] (by decide +kernel) ?_
    | refine OrdF.all [3, 12, 18, 20] (by decide +kernel) ?_
    | refine OrdF.all [6, 12, 18, 20] (by decide +kernel) ?_
    | refine OrdF.all [3, 6, 12, 18, 20] (by decide +kernel) ?_
    | refine OrdF.all [9, 12, 18, 20] (by decide +kernel) ?_
    | refine OrdF.all [3, 9, 12, 18, 20] (by decide +kernel) ?_
    | refine OrdF.all [6, 9, 12, 18, 20] (by decide +kernel) ?_
    | refine OrdF.all [3, 6, 9, 12, 18, 20] (by decide +kernel) ?_
    | refine OrdF.all [15, 18, 20] (by decide +kernel) ?_
    | refine OrdF.all [3, 15, 18, 20] (by decide +kernel) ?_
    | refine OrdF.all [6, 15, 18, 20] (by decide +kernel) ?_
    | refine OrdF.all [3, 6, 15, 18, 20] (by decide +kernel) ?_
    | refine OrdF.all [9, 15, 18, 20] (by decide +kernel) ?_
    | refine OrdF.all [3, 9, 15, 18, 20] (by decide +kernel) ?_
    | refine OrdF.all [6, 9, 15, 18, 20] (by decide +kernel) ?_
    | refine OrdF.all [3, 6, 9, 15, 18, 20] (by decide +kernel) ?_
    | refine OrdF.all [12, 15, 18, 20] (by decide +kernel) ?_
    | refine OrdF.all [3, 12, 15, 18, 20] (by decide +kernel) ?_
    | refine OrdF.all [6, 12, 15, 18, 20] (by decide +kernel) ?_
    | refine OrdF.all [3, 6, 12, 15, 18, 20] (by decide +kernel) ?_
    | refine OrdF.all [9, 12, 15, 18, 20] (by decide +kernel) ?_
    | refine OrdF.all [3, 9, 12, 15, 18, 20] (by decide +kernel) ?_
    | refine OrdF.all [6, 9, 12, 15, 18, 20] (by decide +kernel) ?_
    | refine OrdF.all [3, 6, 9, 12, 15, 18, 20] (by decide +kernel) ?_
    | refine OrdF.fin (by decide +kernel) ?_
    | refine AllF.one _ ?_
    | refine AllF.cons _ _ ?_ ?_
    | refine EqP.mk _ (gm eI 0 rfl) ?_
    | refine BndF.mk (fun _ => by omega) ?_
    | refine BndF.mk (fun _ => by simp only [lnS]; omega) ?_
    | refine BndF.mk (fun hG => by simp only [forall_const, eq_self, not_true_eq_false, not_false_eq_true, or_false, false_or, or_self, or_true, true_or, and_true, true_and, and_false, false_and, decide_true, decide_false, Bool.not_true, Bool.not_false, decide_eq_true_eq, decide_eq_false_iff_not, ite_and_p, ite_or_p, Bool.decide_eq_true, Bool.and_eq_true, Bool.or_eq_true, Bool.not_eq_true', Bool.not_eq_false', Bool.and_eq_false_imp, Bool.or_eq_false_iff, bne_iff_ne, beq_iff_eq, bne_eq_false_iff_eq, beq_eq_false_iff_ne, gt_iff_lt, ge_iff_le, Int.not_lt, Int.not_le, ne_eq, Bool.true_eq_false, Bool.false_eq_true, reduceCtorEq, eta_Airway, eta_Fan, eta_Mine, bytes_nil] at hG; (try simp only [List.length_map]); omega) ?_
    | refine EqN.mk _ (Nat.zero_add _) ?_
    | refine EqN.mk _ (Int.toNat_natCast _) ?_
    | refine EqN.mk _ rfl ?_
    | refine EqL.mk _ (tk eI (by first | rfl | assumption | omega | (simp only [lnS] <;> omega))) ?_
    | refine EqL.mk _ (st eI) ?_
    | refine EqL.mk [] rfl ?_
    | refine EqL.mk [_] rfl ?_
    | refine EqL.mk _ rfl ?_
    | refine ArgF.is (c_impl_readWithId _ _ _ (by first | assumption | omega) (by first | assumption | omega) (by first | assumption | omega)) ?_
    | refine ArgQ.is (fun hG => c_impl_readWithId _ _ _ (by first | assumption | omega) (by first | assumption | omega) (by first | assumption | omega)) rfl rfl ?_
    | refine ArgQ.is (fun hG => c_impl_readWithId _ _ _ (by simp only [forall_const, eq_self, not_true_eq_false, not_false_eq_true, or_false, false_or, or_self, or_true, true_or, and_true, true_and, and_false, false_and, decide_true, decide_false, Bool.not_true, Bool.not_false, decide_eq_true_eq, decide_eq_false_iff_not, ite_and_p, ite_or_p, Bool.decide_eq_true, Bool.and_eq_true, Bool.or_eq_true, Bool.not_eq_true', Bool.not_eq_false', Bool.and_eq_false_imp, Bool.or_eq_false_iff, bne_iff_ne, beq_iff_eq, bne_eq_false_iff_eq, beq_eq_false_iff_ne, gt_iff_lt, ge_iff_le, Int.not_lt, Int.not_le, ne_eq, Bool.true_eq_false, Bool.false_eq_true, reduceCtorEq, eta_Airway, eta_Fan, eta_Mine, bytes_nil] at hG; omega) (by simp only [forall_const, eq_self, not_true_eq_false, not_false_eq_true, or_false, false_or, or_self, or_true, true_or, and_true, true_and, and_false, false_and, decide_true, decide_false, Bool.not_true, Bool.not_false, decide_eq_true_eq, decide_eq_false_iff_not, ite_and_p, ite_or_p, Bool.decide_eq_true, Bool.and_eq_true, Bool.or_eq_true, Bool.not_eq_true', Bool.not_eq_false', Bool.and_eq_false_imp, Bool.or_eq_false_iff, bne_iff_ne, beq_iff_eq, bne_eq_false_iff_eq, beq_eq_false_iff_ne, gt_iff_lt, ge_iff_le, Int.not_lt, Int.not_le, ne_eq, Bool.true_eq_false, Bool.false_eq_true, reduceCtorEq, eta_Airway, eta_Fan, eta_Mine, bytes_nil] at hG; omega) (by simp only [forall_const, eq_self, not_true_eq_false, not_false_eq_true, or_false, false_or, or_self, or_true, true_or, and_true, true_and, and_false, false_and, decide_true, decide_false, Bool.not_true, Bool.not_false, decide_eq_true_eq, decide_eq_false_iff_not, ite_and_p, ite_or_p, Bool.decide_eq_true, Bool.and_eq_true, Bool.or_eq_true, Bool.not_eq_true', Bool.not_eq_false', Bool.and_eq_false_imp, Bool.or_eq_false_iff, bne_iff_ne, beq_iff_eq, bne_eq_false_iff_eq, beq_eq_false_iff_ne, gt_iff_lt, ge_iff_le, Int.not_lt, Int.not_le, ne_eq, Bool.true_eq_false, Bool.false_eq_true, reduceCtorEq, eta_Airway, eta_Fan, eta_Mine, bytes_nil] at hG; omega)) rfl rfl ?_
    | refine ArgF.is (c_impl_AirwayText ⟨_, _, _, _, _, _, _⟩ (by first | assumption | omega)) ?_
    | refine ArgQ.is (fun hG => c_impl_AirwayText ⟨_, _, _, _, _, _, _⟩ (by first | assumption | omega)) rfl rfl ?_
    | refine ArgQ.is (fun hG => c_impl_AirwayText ⟨_, _, _, _, _, _, _⟩ (by simp only [forall_const, eq_self, not_true_eq_false, not_false_eq_true, or_false, false_or, or_self, or_true, true_or, and_true, true_and, and_false, false_and, decide_true, decide_false, Bool.not_true, Bool.not_false, decide_eq_true_eq, decide_eq_false_iff_not, ite_and_p, ite_or_p, Bool.decide_eq_true, Bool.and_eq_true, Bool.or_eq_true, Bool.not_eq_true', Bool.not_eq_false', Bool.and_eq_false_imp, Bool.or_eq_false_iff, bne_iff_ne, beq_iff_eq, bne_eq_false_iff_eq, beq_eq_false_iff_ne, gt_iff_lt, ge_iff_le, Int.not_lt, Int.not_le, ne_eq, Bool.true_eq_false, Bool.false_eq_true, reduceCtorEq, eta_Airway, eta_Fan, eta_Mine, bytes_nil] at hG; omega)) rfl rfl ?_
    | refine CallF.mk (CallW.is [] true rfl ?_)
    | refine CallG.mk ?_
    | (refine CondF.mk (fun hb => ?_) (fun hb => ?_) <;> try simp only [forall_const, eq_self, not_true_eq_false, not_false_eq_true, or_false, false_or, or_self, or_true, true_or, and_true, true_and, and_false, false_and, decide_true, decide_false, Bool.not_true, Bool.not_false, decide_eq_true_eq, decide_eq_false_iff_not, ite_and_p, ite_or_p, Bool.decide_eq_true, Bool.and_eq_true, Bool.or_eq_true, Bool.not_eq_true', Bool.not_eq_false', Bool.and_eq_false_imp, Bool.or_eq_false_iff, bne_iff_ne, beq_iff_eq, bne_eq_false_iff_eq, beq_eq_false_iff_ne, gt_iff_lt, ge_iff_le, Int.not_lt, Int.not_le, ne_eq, Bool.true_eq_false, Bool.false_eq_true, reduceCtorEq, eta_Airway, eta_Fan, eta_Mine] at hb)
    | refine RetF.auto (And.intro rfl ?_)
    | exact Is.mk rfl rfl
    | refine Is.mk ?_ rfl
    | refine Is.mk rfl ?_
    | refine Is.mk ?_ ?_
  all_goals try dsimp only
  all_goals skip
end
end Go.Proofs.YtdhkpmaanegjkaaGreatDoor
