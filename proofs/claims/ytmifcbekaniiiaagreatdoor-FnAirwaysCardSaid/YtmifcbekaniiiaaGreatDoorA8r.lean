/- Contracts of functions of the program, and what they compute. Conditions: those that each theorem states. -/
import Derived.Test.YtmifcbekaniiiaaGreatDoorProg
import Derived.Test.YtmifcbekaniiiaaGreatDoorA8
import Derived.Test.YtmifcbekaniiiaaGreatDoorT11b
set_option linter.unusedVariables false
set_option linter.unusedSimpArgs false
namespace Go.Proofs.YtmifcbekaniiiaaGreatDoor
open Go.Av
attribute [local irreducible] Go.IntKind.wrap listS decS idS isName leastI rd rdZ rootI rawA widenFor okAirway
set_option maxRecDepth 20000
set_option maxHeartbeats 8000000

/-! Airways: read. -/
theorem c_impl_ReadAirway (x : GAirway) (h : okAirway x = true) : FnSem Tryz.prog 22 [Str (airwS x)] [] (Is [.p .flat (.agg x.cells), Bo true] []) := by
  refine FnSem.walk (zs := zeroPV Tryz.prog) (by kernel_rfl) Tryz.func22 rfl Tryz.results22 (by kernel_rfl) (by kernel_rfl) (by kernel_rfl) fun hw hh => ?_
  obtain ⟨w0, _⟩ := hw
  first | replace w0 := wf_S w0 | skip
  repeat' first
    | refine And.intro rfl ?_
    | refine GdF.mk (fun h => h) ?_
    | refine And.intro (Nat.succ_ne_zero _) ?_
    | refine And.intro (Nat.le_of_ble_eq_true rfl) ?_
    | refine SeqF.run ?_
    | refine GhF.held 2 rfl [] ?_
    | refine ArgF.is (c_impl_readWithId x.id [x.from_, x.to, x.length, x.section_, x.friction, x.shock] 6 (okAirway_l h) (okAirway_n h) rfl) ?_
    | refine ArgQ.is (fun hG => c_impl_readWithId x.id [x.from_, x.to, x.length, x.section_, x.friction, x.shock] 6 (okAirway_l h) (okAirway_n h) rfl) rfl rfl ?_
    | refine ArgF.is (c_impl_AirwayText x h) ?_
    | refine ArgQ.is (fun hG => c_impl_AirwayText x h) rfl rfl ?_
    | refine HdF.at 21 rfl 0 [] (And.intro (by decide +kernel) (And.intro rfl ?_))
    | refine HdF.at 20 rfl 1 [] (And.intro (by decide +kernel) (And.intro rfl ?_))
    | refine HdF.at 19 rfl 2 [] (And.intro (by decide +kernel) (And.intro rfl ?_))
    | refine HdF.at 18 rfl 3 [19, 21] (And.intro (by decide +kernel) (And.intro rfl ?_))
    | refine HdF.at 17 rfl 4 [] (And.intro (by decide +kernel) (And.intro rfl ?_))
    | refine HdF.at 16 rfl 5 [] (And.intro (by decide +kernel) (And.intro rfl ?_))
    | refine HdF.at 15 rfl 6 [19, 21] (And.intro (by decide +kernel) (And.intro rfl ?_))
    | refine HdF.at 14 rfl 7 [] (And.intro (by decide +kernel) (And.intro rfl ?_))
    | refine HdF.at 13 rfl 8 [] (And.intro (by decide +kernel) (And.intro rfl ?_))
    | refine HdF.at 12 rfl 9 [19, 21] (And.intro (by decide +kernel) (And.intro rfl ?_))
    | refine HdF.at 11 rfl 10 [] (And.intro (by decide +kernel) (And.intro rfl ?_))
    | refine HdF.at 10 rfl 11 [] (And.intro (by decide +kernel) (And.intro rfl ?_))
    | refine HdF.at 9 rfl 12 [19, 21] (And.intro (by decide +kernel) (And.intro rfl ?_))
    | refine HdF.at 8 rfl 13 [] (And.intro (by decide +kernel) (And.intro rfl ?_))
    | refine HdF.at 7 rfl 14 [] (And.intro (by decide +kernel) (And.intro rfl ?_))
    | refine HdF.at 6 rfl 15 [19, 21] (And.intro (by decide +kernel) (And.intro rfl ?_))
    | refine HdF.at 5 rfl 16 [] (And.intro (by decide +kernel) (And.intro rfl ?_))
    | refine HdF.at 4 rfl 17 [] (And.intro (by decide +kernel) (And.intro rfl ?_))
    | refine HdF.at 3 rfl 18 [19, 21] (And.intro (by decide +kernel) (And.intro rfl ?_))
    | refine HdF.at 2 rfl 19 [] (And.intro (by decide +kernel) (And.intro rfl ?_))
    | refine HdF.goAt 1 rfl ?_
    | refine OrdL.ord ?_
    | refine OrdF.all [21] (by decide +kernel) ?_
    | refine OrdF.all [20] (by decide +kernel) ?_
    | refine OrdF.fin (by decide +kernel) ?_
    | refine AllF.one _ ?_
    | refine AllF.cons _ _ ?_ ?_
    | refine OpH.quiet rfl ?_
    | refine OpH.heap ?_
    | refine GhF.go ?_
    | refine GdS.keep ?_
    | refine DrawG.old (DrawF.lex (by decide +kernel) ?_)
    | refine DrawG.old (DrawF.any ?_)
    | refine OrdF.take 0 (by decide +kernel) ?_
    | refine OrdF.take 1 (by decide +kernel) ?_
    | refine OrdF.take 2 (by decide +kernel) ?_
    | refine OrdF.take 4 (by decide +kernel) ?_
    | refine OrdF.take 5 (by decide +kernel) ?_
    | refine OrdF.take 7 (by decide +kernel) ?_
    | refine OrdF.take 8 (by decide +kernel) ?_
    | refine OrdF.take 10 (by decide +kernel) ?_
    | refine OrdF.take 11 (by decide +kernel) ?_
    | refine OrdF.take 13 (by decide +kernel) ?_
    | refine OrdF.take 14 (by decide +kernel) ?_
    | refine OrdF.take 16 (by decide +kernel) ?_
    | refine OrdF.take 17 (by decide +kernel) ?_
    | refine OrdF.take 19 (by decide +kernel) ?_
    | refine OrdF.all [21] (by decide +kernel) ?_
    | refine OrdF.all [3] (by decide +kernel) ?_
    | refine OrdF.all [6] (by decide +kernel) ?_
    | refine OrdF.all [3, 6] (by decide +kernel) ?_
    | refine OrdF.all [9] (by decide +kernel) ?_
    | refine OrdF.all [3, 9] (by decide +kernel) ?_
    | refine OrdF.all [6, 9] (by decide +kernel) ?_
    | refine OrdF.all [3, 6, 9] (by decide +kernel) ?_
    | refine OrdF.all [12] (by decide +kernel) ?_
    | refine OrdF.all [3, 12] (by decide +kernel) ?_
    | refine OrdF.all [6, 12] (by decide +kernel) ?_
    | refine OrdF.all [3, 6, 12] (by decide +kernel) ?_
    | refine OrdF.all [9, 12] (by decide +kernel) ?_
    | refine OrdF.all [3, 9, 12] (by decide +kernel) ?_
    | refine OrdF.all [6, 9, 12] (by decide +kernel) ?_
    | refine OrdF.all [3, 6, 9, 12] (by decide +kernel) ?_
    | refine OrdF.all [15] (by decide +kernel) ?_
    | refine OrdF.all [3, 15] (by decide +kernel) ?_
    | refine OrdF.all [6, 15] (by decide +kernel) ?_
    | refine OrdF.all [3, 6, 15] (by decide +kernel) ?_
    | refine OrdF.all [9, 15] (by decide +kernel) ?_
    | refine OrdF.all [3, 9, 15] (by decide +kernel) ?_
    | refine OrdF.all [6, 9, 15] (by decide +kernel) ?_
    | refine OrdF.all [3, 6, 9, 15] (by decide +kernel) ?_
    | refine OrdF.all [12, 15] (by decide +kernel) ?_
    | refine OrdF.all [3, 12, 15] (by decide +kernel) ?_
    | refine OrdF.all [6, 12, 15] (by decide +kernel) ?_
    | refine OrdF.all [3, 6, 12, 15] (by decide +kernel) ?_
    | refine OrdF.all [9, 12, 15] (by decide +kernel) ?_
    | refine OrdF.all [3, 9, 12, 15] (by decide +kernel) ?_
    | refine OrdF.all [6, 9, 12, 15] (by decide +kernel) ?_
    | refine OrdF.all [3, 6, 9, 12, 15] (by decide +kernel) ?_
    | refine OrdF.all [18] (by decide +kernel) ?_
    | refine OrdF.all [3, 18] (by decide +kernel) ?_
    | refine OrdF.all [6, 18] (by decide +kernel) ?_
    | refine OrdF.all [3, 6, 18] (by decide +kernel) ?_
    | refine OrdF.all [9, 18] (by decide +kernel) ?_
    | refine OrdF.all [3, 9, 18] (by decide +kernel) ?_
    | refine OrdF.all [6, 9, 18] (by decide +kernel) ?_
    | refine OrdF.all [3, 6, 9, 18] (by decide +kernel) ?_
    | refine OrdF.all [12, 18] (by decide +kernel) ?_
    | refine OrdF.all [3, 12, 18] (by decide +kernel) ?_
    | refine OrdF.all [6, 12, 18] (by decide +kernel) ?_
    | refine OrdF.all [3, 6, 12, 18] (by decide +kernel) ?_
    | refine OrdF.all [9, 12, 18] (by decide +kernel) ?_
    | refine OrdF.all [3, 9, 12, 18] (by decide +kernel) ?_
    | refine OrdF.all [6, 9, 12, 18] (by decide +kernel) ?_
    | refine OrdF.all [3, 6, 9, 12, 18] (by decide +kernel) ?_
    | refine OrdF.all [15, 18] (by decide +kernel) ?_
    | refine OrdF.all [3, 15, 18] (by decide +kernel) ?_
    | refine OrdF.all [6, 15, 18] (by decide +kernel) ?_
    | refine OrdF.all [3, 6, 15, 18] (by decide +kernel) ?_
    | refine OrdF.all [9, 15, 18] (by decide +kernel) ?_
    | refine OrdF.all [3, 9, 15, 18] (by decide +kernel) ?_
    | refine OrdF.all [6, 9, 15, 18] (by decide +kernel) ?_
    | refine OrdF.all [3, 6, 9, 15, 18] (by decide +kernel) ?_
    | refine OrdF.all [12, 15, 18] (by decide +kernel) ?_
    | refine OrdF.all [3, 12, 15, 18] (by decide +kernel) ?_
    | refine OrdF.all [6, 12, 15, 18] (by decide +kernel) ?_
    | refine OrdF.all [3, 6, 12, 15, 18] (by decide +kernel) ?_
    | refine OrdF.all [9, 12, 15, 18] (by decide +kernel) ?_
    | refine OrdF.all [3, 9, 12, 15, 18] (by decide +kernel) ?_
    | refine OrdF.all [6, 9, 12, 15, 18] (by decide +kernel) ?_
    | refine OrdF.all [3, 6, 9, 12, 15, 18] (by decide +kernel) ?_
    | refine OrdF.all [20] (by decide +kernel) ?_
    | refine OrdF.all [3, 20] (by decide +kernel) ?_
    | refine OrdF.all [6, 20] (by decide +kernel) ?_
    | refine OrdF.all [3, 6, 20] (by decide +kernel) ?_
    | refine OrdF.all [9, 20] (by decide +kernel) ?_
    | refine OrdF.all [3, 9, 20] (by decide +kernel) ?_
    | refine OrdF.all [6, 9, 20] (by decide +kernel) ?_
    | refine OrdF.all [3, 6, 9, 20] (by decide +kernel) ?_
    | refine OrdF.all [12, 20] (by decide +kernel) ?_
    | refine OrdF.all [3, 12, 20] (by decide +kernel) ?_
    | refine OrdF.all [6, 12, 20] (by decide +kernel) ?_
    | refine OrdF.all [3, 6, 12, 20] (by decide +kernel) ?_
    | refine OrdF.all [9, 12, 20] (by decide +kernel) ?_
    | refine OrdF.all [3, 9, 12, 20] (by decide +kernel) ?_
    | refine OrdF.all [6, 9, 12, 20] (by decide +kernel) ?_
    | refine OrdF.all [3, 6, 9, 12, 20] (by decide +kernel) ?_
    | refine OrdF.all [15, 20] (by decide +kernel) ?_
    | refine OrdF.all [3, 15, 20] (by decide +kernel) ?_
    | refine OrdF.all [6, 15, 20] (by decide +kernel) ?_
    | refine OrdF.all [3, 6, 15, 20] (by decide +kernel) ?_
    | refine OrdF.all [9, 15, 20] (by decide +kernel) ?_
    | refine OrdF.all [3, 9, 15, 20] (by decide +kernel) ?_
    | refine OrdF.all [6, 9, 15, 20] (by decide +kernel) ?_
    | refine OrdF.all [3, 6, 9, 15, 20] (by decide +kernel) ?_
    | refine OrdF.all [12, 15, 20] (by decide +kernel) ?_
    | refine OrdF.all [3, 12, 15, 20] (by decide +kernel) ?_
    | refine OrdF.all [6, 12, 15, 20] (by decide +kernel) ?_
    | refine OrdF.all [3, 6, 12, 15, 20] (by decide +kernel) ?_
    | refine OrdF.all [9, 12, 15, 20] (by decide +kernel) ?_
    | refine OrdF.all [3, 9, 12, 15, 20] (by decide +kernel) ?_
    | refine OrdF.all [6, 9, 12, 15, 20] (by decide +kernel) ?_
    | refine OrdF.all [3, 6, 9, 12, 15, 20] (by decide +kernel) ?_
    | refine OrdF.all [18, 20] (by decide +kernel) ?_
    | refine OrdF.all [3, 18, 20] (by decide +kernel) ?_
    | refine OrdF.all [6, 18, 20] (by decide +kernel) ?_
    | refine OrdF.all [3, 6, 18, 20] (by decide +kernel) ?_
    | refine OrdF.all [9, 18, 20] (by decide +kernel) ?_
    | refine OrdF.all [3, 9, 18, 20] (by decide +kernel) ?_
    | refine OrdF.all [6, 9, 18, 20] (by decide +kernel) ?_
    | refine OrdF.all [3, 6, 9, 18, 20] (by decide +kernel) ?_
    | refine OrdF.all [12, 18, 20] (by decide +kernel) ?_
    | refine OrdF.all [3, 12, 18, 20] (by decide +kernel) ?_
    | refine OrdF.all [6, 12, 18, 20] (by decide +kernel) ?_
    | refine OrdF.all [3, 6, 12, 18, 20] (by decide +kernel) ?_
    | refine OrdF.all [9, 12, 18, 20] (by decide +kernel) ?_
    | refine OrdF.all [3, 9, 12, 18, 20] (by decide +kernel) ?_
    | refine OrdF.all [6, 9, 12, 18, 20] (by decide +kernel) ?_
    | refine OrdF.all [3, 6, 9, 12, 18, 20] (by decide +kernel) ?_
    | refine OrdF.all [15, 18, 20] (by decide +kernel) ?_
    | refine OrdF.all [3, 15, 18, 20] (by decide +kernel) ?_
    | refine OrdF.all [6, 15, 18, 20] (by decide +kernel) ?_
    | refine OrdF.all [3, 6, 15, 18, 20] (by decide +kernel) ?_
    | refine OrdF.all [9, 15, 18, 20] (by decide +kernel) ?_
    | refine OrdF.all [3, 9, 15, 18, 20] (by decide +kernel) ?_
    | refine OrdF.all [6, 9, 15, 18, 20] (by decide +kernel) ?_
    | refine OrdF.all [3, 6, 9, 15, 18, 20] (by decide +kernel) ?_
    | refine OrdF.all [12, 15, 18, 20] (by decide +kernel) ?_
    | refine OrdF.all [3, 12, 15, 18, 20] (by decide +kernel) ?_
    | refine OrdF.all [6, 12, 15, 18, 20] (by decide +kernel) ?_
    | refine OrdF.all [3, 6, 12, 15, 18, 20] (by decide +kernel) ?_
    | refine OrdF.all [9, 12, 15, 18, 20] (by decide +kernel) ?_
    | refine OrdF.all [3, 9, 12, 15, 18, 20] (by decide +kernel) ?_
    | refine OrdF.all [6, 9, 12, 15, 18, 20] (by decide +kernel) ?_
    | refine OrdF.all [3, 6, 9, 12, 15, 18, 20] (by decide +kernel) ?_
    | refine OrdF.fin (by decide +kernel) ?_
    | refine AllF.one _ ?_
    | refine AllF.cons _ _ ?_ ?_
    | refine EqP.mk _ (gm eI 0 rfl) ?_
    | refine BndF.mk (fun _ => by omega) ?_
    | refine BndF.mk (fun _ => by simp only [List.length_map, List.length_cons, List.length_nil, List.length_append, List.length_set, List.length_replicate, iotaI_len]; omega) ?_
    | refine BndF.mk (fun hG => by simp only [forall_const, eq_self, not_true_eq_false, not_false_eq_true, or_false, false_or, or_self, or_true, true_or, and_true, true_and, and_false, false_and, decide_true, decide_false, Bool.not_true, Bool.not_false, decide_eq_true_eq, decide_eq_false_iff_not, ite_and_p, ite_or_p, Bool.decide_eq_true, Bool.and_eq_true, Bool.or_eq_true, Bool.not_eq_true', Bool.not_eq_false', Bool.and_eq_false_imp, Bool.or_eq_false_iff, bne_iff_ne, beq_iff_eq, bne_eq_false_iff_eq, beq_eq_false_iff_ne, gt_iff_lt, ge_iff_le, Int.not_lt, Int.not_le, ne_eq, Bool.true_eq_false, Bool.false_eq_true, reduceCtorEq, eta_Airway, eta_Duct, eta_Fan, eta_Mine, eta_Survey, bytes_nil] at hG; (try simp only [List.length_map]); omega) ?_
    | refine EqN.mk _ (Nat.zero_add _) ?_
    | refine EqN.mk _ (Int.toNat_natCast _) ?_
    | refine EqN.mk _ rfl ?_
    | refine EqL.mk _ (tk eI (by first | rfl | assumption | omega | (simp only [List.length_map, List.length_cons, List.length_nil, List.length_append, List.length_set, List.length_replicate, iotaI_len]; done) | (simp only [List.length_map, List.length_cons, List.length_nil, List.length_append, List.length_set, List.length_replicate, iotaI_len]; omega))) ?_
    | refine EqL.mk _ (st eI) ?_
    | refine EqL.mk [] rfl ?_
    | refine EqL.mk [_] rfl ?_
    | refine EqL.mk _ rfl ?_
    | refine ArgF.is (c_impl_readWithId _ _ _ (by first | assumption | omega) (by first | assumption | omega) (by first | assumption | omega)) ?_
    | refine ArgQ.is (fun hG => c_impl_readWithId _ _ _ (by first | assumption | omega) (by first | assumption | omega) (by first | assumption | omega)) rfl rfl ?_
    | refine ArgQ.is (fun hG => c_impl_readWithId _ _ _ (by simp only [forall_const, eq_self, not_true_eq_false, not_false_eq_true, or_false, false_or, or_self, or_true, true_or, and_true, true_and, and_false, false_and, decide_true, decide_false, Bool.not_true, Bool.not_false, decide_eq_true_eq, decide_eq_false_iff_not, ite_and_p, ite_or_p, Bool.decide_eq_true, Bool.and_eq_true, Bool.or_eq_true, Bool.not_eq_true', Bool.not_eq_false', Bool.and_eq_false_imp, Bool.or_eq_false_iff, bne_iff_ne, beq_iff_eq, bne_eq_false_iff_eq, beq_eq_false_iff_ne, gt_iff_lt, ge_iff_le, Int.not_lt, Int.not_le, ne_eq, Bool.true_eq_false, Bool.false_eq_true, reduceCtorEq, eta_Airway, eta_Duct, eta_Fan, eta_Mine, eta_Survey, bytes_nil] at hG; omega) (by simp only [forall_const, eq_self, not_true_eq_false, not_false_eq_true, or_false, false_or, or_self, or_true, true_or, and_true, true_and, and_false, false_and, decide_true, decide_false, Bool.not_true, Bool.not_false, decide_eq_true_eq, decide_eq_false_iff_not, ite_and_p, ite_or_p, Bool.decide_eq_true, Bool.and_eq_true, Bool.or_eq_true, Bool.not_eq_true', Bool.not_eq_false', Bool.and_eq_false_imp, Bool.or_eq_false_iff, bne_iff_ne, beq_iff_eq, bne_eq_false_iff_eq, beq_eq_false_iff_ne, gt_iff_lt, ge_iff_le, Int.not_lt, Int.not_le, ne_eq, Bool.true_eq_false, Bool.false_eq_true, reduceCtorEq, eta_Airway, eta_Duct, eta_Fan, eta_Mine, eta_Survey, bytes_nil] at hG; omega) (by simp only [forall_const, eq_self, not_true_eq_false, not_false_eq_true, or_false, false_or, or_self, or_true, true_or, and_true, true_and, and_false, false_and, decide_true, decide_false, Bool.not_true, Bool.not_false, decide_eq_true_eq, decide_eq_false_iff_not, ite_and_p, ite_or_p, Bool.decide_eq_true, Bool.and_eq_true, Bool.or_eq_true, Bool.not_eq_true', Bool.not_eq_false', Bool.and_eq_false_imp, Bool.or_eq_false_iff, bne_iff_ne, beq_iff_eq, bne_eq_false_iff_eq, beq_eq_false_iff_ne, gt_iff_lt, ge_iff_le, Int.not_lt, Int.not_le, ne_eq, Bool.true_eq_false, Bool.false_eq_true, reduceCtorEq, eta_Airway, eta_Duct, eta_Fan, eta_Mine, eta_Survey, bytes_nil] at hG; omega)) rfl rfl ?_
    | refine ArgF.is (c_impl_AirwayText ⟨_, _, _, _, _, _, _⟩ (by first | assumption | omega)) ?_
    | refine ArgQ.is (fun hG => c_impl_AirwayText ⟨_, _, _, _, _, _, _⟩ (by first | assumption | omega)) rfl rfl ?_
    | refine ArgQ.is (fun hG => c_impl_AirwayText ⟨_, _, _, _, _, _, _⟩ (by simp only [forall_const, eq_self, not_true_eq_false, not_false_eq_true, or_false, false_or, or_self, or_true, true_or, and_true, true_and, and_false, false_and, decide_true, decide_false, Bool.not_true, Bool.not_false, decide_eq_true_eq, decide_eq_false_iff_not, ite_and_p, ite_or_p, Bool.decide_eq_true, Bool.and_eq_true, Bool.or_eq_true, Bool.not_eq_true', Bool.not_eq_false', Bool.and_eq_false_imp, Bool.or_eq_false_iff, bne_iff_ne, beq_iff_eq, bne_eq_false_iff_eq, beq_eq_false_iff_ne, gt_iff_lt, ge_iff_le, Int.not_lt, Int.not_le, ne_eq, Bool.true_eq_false, Bool.false_eq_true, reduceCtorEq, eta_Airway, eta_Duct, eta_Fan, eta_Mine, eta_Survey, bytes_nil] at hG; omega)) rfl rfl ?_
    | refine CallF.mk (CallW.is [] true rfl ?_)
    | refine CallG.mk ?_
    | (refine CondF.mk (fun hb => ?_) (fun hb => ?_) <;> try simp only [forall_const, eq_self, not_true_eq_false, not_false_eq_true, or_false, false_or, or_self, or_true, true_or, and_true, true_and, and_false, false_and, decide_true, decide_false, Bool.not_true, Bool.not_false, decide_eq_true_eq, decide_eq_false_iff_not, ite_and_p, ite_or_p, Bool.decide_eq_true, Bool.and_eq_true, Bool.or_eq_true, Bool.not_eq_true', Bool.not_eq_false', Bool.and_eq_false_imp, Bool.or_eq_false_iff, bne_iff_ne, beq_iff_eq, bne_eq_false_iff_eq, beq_eq_false_iff_ne, gt_iff_lt, ge_iff_le, Int.not_lt, Int.not_le, ne_eq, Bool.true_eq_false, Bool.false_eq_true, reduceCtorEq, eta_Airway, eta_Duct, eta_Fan, eta_Mine, eta_Survey] at hb)
    | refine RetF.auto (And.intro rfl ?_)
    | exact Is.mk rfl rfl
    | refine Is.mk ?_ rfl
    | refine Is.mk rfl ?_
    | refine Is.mk ?_ ?_
  all_goals try dsimp only
  all_goals skip
end Go.Proofs.YtmifcbekaniiiaaGreatDoor
