/- Contracts of functions of the program, and what they compute. Conditions: those that each theorem states. -/
import Derived.Test.YtfeebelnpibppaaProg
import Derived.Test.YtfeebelnpibppaaP2p
set_option linter.unusedVariables false
set_option linter.unusedSimpArgs false
namespace Go.Proofs.Ytfeebelnpibppaa
open Go.Av
attribute [local irreducible] Go.IntKind.wrap leastI rdZ rd rootI rawA okMine loopN loopS goB goS okL
set_option maxRecDepth 20000
set_option maxHeartbeats 40000000

/-! Loops whose sum is less than 0: the program's search. -/
--@fn (*impl.loopSearch).extend
theorem loop1 (m : GMine) (g : List Int) (rg : List Bool) (start len : Int) (hm : okMine m = true) (hgl : g.length = m.airways.length) (hrl : rg.length = m.airways.length) (hg : bdL 1020000 g) (hlen : len ≤ 16)
    (r' : Nat) (ih : ∀ (k : Nat), k < r' → ∀ (at_ sum s0 : Int) (walk passed ys zs : List Int) (n p : Nat) (hat : 0 ≤ at_ ∧ at_ < m.junctions) (hn : n ≤ ys.length ∧ p ≤ zs.length) (hw : ys.take n = walk) (hp : zs.take p = passed) (hN : len = walk.length + k) (hpl : passed.length = walk.length) (hs : -2000000 * walk.length ≤ sum ∧ sum ≤ 2000000 * walk.length), FnSem Try.prog 117 [.own 0 0, In at_, In sum] [loC m g rg start len 2 n 3 p s0, RwG g, .row false .flat (eI 0) (ys.map eI), .row false .flat (eI 0) (zs.map eI)] (LoopR m g rg start len (loopN m g rg start k at_ sum walk passed) walk passed))
    (at_ sum s0 : Int) (walk passed ys zs : List Int) (n p : Nat) (hat : 0 ≤ at_ ∧ at_ < m.junctions) (hn : n ≤ ys.length ∧ p ≤ zs.length) (hw : ys.take n = walk) (hp : zs.take p = passed) (hN : len = walk.length + r') (hpl : passed.length = walk.length) (hs : -2000000 * walk.length ≤ sum ∧ sum ≤ 2000000 * walk.length) :
    FnSem Try.prog 117 [.own 0 0, In at_, In sum] [loC m g rg start len 2 n 3 p s0, RwG g, .row false .flat (eI 0) (ys.map eI), .row false .flat (eI 0) (zs.map eI)] (LoopR m g rg start len (loopN m g rg start r' at_ sum walk passed) walk passed) := by
  have hwl : walk.length = n := by rw [← hw, List.length_take]; omega
  have hplen : passed.length = p := by rw [← hp, List.length_take]; omega
  have hmp := okMine_p hm
  refine FnSem.walk (zs := zeroPV Try.prog) (by kernel_rfl) Try.func117 rfl Try.results117 (by kernel_rfl) (by kernel_rfl) (by kernel_rfl) fun hw hh => ?_
  obtain ⟨w0, w1, w2, _⟩ := hw
  first | replace w0 := wfr_LoopSearch w0 | skip
  first | replace w1 := wf_I w1 | skip
  first | replace w2 := wf_I w2 | skip
  repeat' first
    | refine And.intro rfl ?_
    | refine GdF.mk (fun h => h) ?_
    | refine And.intro (Nat.succ_ne_zero _) ?_
    | refine And.intro (Nat.le_of_ble_eq_true rfl) ?_
    | refine SeqF.run ?_
    | refine GhF.at 0 rfl [.mv 2, .mv 3] ?_
    | refine GhF.at 5 rfl [.old 7] ?_
    | refine OpH.heap ?_
    | refine GhF.held 15 rfl [(12, []), (13, []), (14, [4]), (17, [0])] ?_
    | refine ArgF.is (c_impl_Airway_other (m.airways.getD i.toNat default) at_) ?_
    | refine ArgQ.is (fun hG => c_impl_Airway_other (m.airways.getD i.toNat default) at_) rfl rfl ?_
    | refine ArgF.is (c_impl_Mine_step m i at_ (by omega) (by omega)) ?_
    | refine ArgQ.is (fun hG => c_impl_Mine_step m i at_ (by omega) (by omega)) rfl rfl ?_
    | refine EqL.mk _ (snT hp) ?_
    | refine EqL.mk _ (snT j3) ?_
    | refine EqL.mk _ (tkT j4) ?_
    | refine LoopF.at 6 rfl (LoopF.fix [0, 1, 2, 52, 53] (Int × Nat × Nat × List Int × List Int × Int) (fun (i, n', p', ys', zs', s') => 0 ≤ i ∧ i ≤ m.airways.length ∧ (n' ≤ ys'.length ∧ p' ≤ zs'.length) ∧ ys'.take n' = walk ∧ zs'.take p' = passed ++ [at_] ∧ (n' = walk.length ∧ p' = passed.length + 1) ∧ 0 < r' ∧ loopN m g rg start r' at_ sum walk passed = loopT (stepF m g rg start (r' - 1) at_ sum walk passed) (m.airways.length - i.toNat) i.toNat) (fun (i, n', p', ys', zs', s') => [(54, In i)]) (fun (i, n', p', ys', zs', s') => [(0, loC m g rg start len 4 n' 5 p' s'), (4, .row false .flat (eI 0) (ys'.map eI)), (5, .row false .flat (eI 0) (zs'.map eI))]) (fun (i, n', p', ys', zs', s') => ((m.airways.length - i).toNat)) ((0, n, p + 1, ys, passed ++ [at_], s0)) ?_)
    | (refine LoopB.of (T := Int × Nat × Nat × List Int × List Int × Int) ?_ ?_; rotate_left; rintro ⟨i, n', p', ys', zs', s'⟩ ⟨j0, j1, j2, j3, j4, j5, j6, j7⟩; rotate_left)
    | refine CallF.own (f := 117) [0] false ?_
    | (refine ArgF.loop (ih (r' - 1) (by omega) (otherA (m.airways.getD i.toNat default) at_).1 _ s' (walk ++ [spL m at_ i.toNat]) (passed ++ [at_]) (walk ++ [spL m at_ i.toNat]) zs' (n' + 1) p' (oth_b (hmp.2.2 i.toNat (by omega)).2.1 (hmp.2.2 i.toNat (by omega)).2.2) ⟨by simp; omega, j2.2⟩ (List.take_of_length_le (by simp; omega)) j4 (by simp; omega) (by simp; omega) (by have b := hg i.toNat; simp only [List.length_append, List.length_cons, List.length_nil]; omega)) ?_; intro n2 p2 ys2 zs2 b2 s2 e1 e2 e3 e4)
    | refine BndF.mk (fun _ => by have e : ((p' : Int) - 1).toNat = p' - 1 := (by omega); exact ⟨Nat.zero_le _, by show ((p' : Int) - 1).toNat ≤ _; omega⟩) ?_
    | refine BndF.mk (fun _ => by have e : ((n2 : Int) - 1).toNat = n2 - 1 := (by omega); exact ⟨Nat.zero_le _, by show ((n2 : Int) - 1).toNat ≤ _; omega⟩) ?_
    | refine EqN.mk (p' - 1) (by show ((p' : Int) - 1).toNat - 0 = p' - 1; omega) ?_
    | refine EqN.mk (n2 - 1) (by show ((n2 : Int) - 1).toNat - 0 = n2 - 1; omega) ?_
    | refine EqI.mk _ (fun _ => by have e5 := (n2_len hb e1 e2 e4).2.2.1; simp only [List.length_append, List.length_cons, List.length_nil] at e5; exact wrapI (by omega) (by omega)) ?_
    | refine EqI.mk _ (fun _ => wrapI (by have b := hg i.toNat; omega) (by have b := hg i.toNat; omega)) ?_
    | refine BndF.mk (fun _ => by have e5 := (n2_len hb e1 e2 e4).2.2.1; simp only [List.length_append, List.length_cons, List.length_nil] at e5; omega) ?_
    | refine LoopR.mk _ _ _ _ _ _ rfl rfl ?_ ?_ ?_ ?_
    | refine HdF.at 17 rfl 0 [] (And.intro (by decide +kernel) (And.intro rfl ?_))
    | refine HdF.at 16 rfl 1 [] (And.intro (by decide +kernel) (And.intro rfl ?_))
    | refine HdF.at 15 rfl 2 [] (And.intro (by decide +kernel) (And.intro rfl ?_))
    | refine HdF.at 14 rfl 3 [] (And.intro (by decide +kernel) (And.intro rfl ?_))
    | refine HdF.at 13 rfl 4 [14, 15, 16, 17] (And.intro (by decide +kernel) (And.intro rfl ?_))
    | refine HdF.at 12 rfl 5 [] (And.intro (by decide +kernel) (And.intro rfl ?_))
    | refine HdF.at 11 rfl 6 [] (And.intro (by decide +kernel) (And.intro rfl ?_))
    | refine HdF.at 10 rfl 7 [] (And.intro (by decide +kernel) (And.intro rfl ?_))
    | refine HdF.at 9 rfl 8 [] (And.intro (by decide +kernel) (And.intro rfl ?_))
    | refine HdF.at 8 rfl 9 [12, 13, 14, 15, 16, 17] (And.intro (by decide +kernel) (And.intro rfl ?_))
    | refine HdF.at 7 rfl 10 [] (And.intro (by decide +kernel) (And.intro rfl ?_))
    | refine HdF.at 6 rfl 11 [] (And.intro (by decide +kernel) (And.intro rfl ?_))
    | refine HdF.goAt 5 rfl ?_
    | refine OrdL.ord ?_
    | refine OrdF.take 15 (by decide +kernel) (And.intro rfl ?_)
    | refine OrdF.take 16 (by decide +kernel) (And.intro rfl ?_)
    | refine OrdF.all [17] (by decide +kernel) ?_
    | refine OrdF.all [14] (by decide +kernel) ?_
    | refine OrdF.all [13] (by decide +kernel) ?_
    | refine OrdF.all [12] (by decide +kernel) ?_
    | refine OrdF.fin (by decide +kernel) ?_
    | refine AllF.one _ ?_
    | refine AllF.cons _ _ ?_ ?_
    | refine OpH.quiet rfl ?_
    | refine OpH.heap ?_
    | refine GhF.go ?_
    | refine GdS.keep ?_
    | refine DrawG.old (DrawF.lex (by decide +kernel) ?_)
    | refine DrawG.old (DrawF.any ?_)
    | refine OrdF.take 0 (by decide +kernel) ?_
    | refine OrdF.take 1 (by decide +kernel) ?_
    | refine OrdF.take 2 (by decide +kernel) ?_
    | refine OrdF.take 3 (by decide +kernel) ?_
    | refine OrdF.take 5 (by decide +kernel) ?_
    | refine OrdF.take 6 (by decide +kernel) ?_
    | refine OrdF.take 7 (by decide +kernel) ?_
    | refine OrdF.take 8 (by decide +kernel) ?_
    | refine OrdF.take 10 (by decide +kernel) ?_
    | refine OrdF.take 11 (by decide +kernel) ?_
    | refine OrdF.take 15 (by decide +kernel) ?_
    | refine OrdF.take 16 (by decide +kernel) ?_
    | refine OrdF.all [17] (by decide +kernel) ?_
    | refine OrdF.all [14] (by decide +kernel) ?_
    | refine OrdF.all [4] (by decide +kernel) ?_
    | refine OrdF.all [13] (by decide +kernel) ?_
    | refine OrdF.all [4, 13] (by decide +kernel) ?_
    | refine OrdF.all [12] (by decide +kernel) ?_
    | refine OrdF.all [4, 12] (by decide +kernel) ?_
    | refine OrdF.all [9] (by decide +kernel) ?_
    | refine OrdF.all [4, 9] (by decide +kernel) ?_
    | refine OrdF.fin (by decide +kernel) ?_
    | refine AllF.one _ ?_
    | refine AllF.cons _ _ ?_ ?_
    | refine MkF.row ?_
    | refine EqP.mk _ (gm GAirway.cells default rfl) ?_
    | refine EqP.mk _ (gm eI 0 rfl) ?_
    | refine EqP.mk _ (gm eB false rfl) ?_
    | refine BndF.mk (fun _ => by omega) ?_
    | refine BndF.mk (fun _ => by simp only [List.length_map, List.length_cons, List.length_nil, List.length_append, List.length_set, List.length_replicate, iotaI_len]; omega) ?_
    | refine BndF.mk (fun hG => by simp only [forall_const, eq_self, not_true_eq_false, not_false_eq_true, or_false, false_or, or_self, or_true, true_or, and_true, true_and, and_false, false_and, decide_true, decide_false, Bool.not_true, Bool.not_false, decide_eq_true_eq, decide_eq_false_iff_not, ite_and_p, ite_or_p, Bool.decide_eq_true, Bool.and_eq_true, Bool.or_eq_true, Bool.not_eq_true', Bool.not_eq_false', Bool.and_eq_false_imp, Bool.or_eq_false_iff, bne_iff_ne, beq_iff_eq, bne_eq_false_iff_eq, beq_eq_false_iff_ne, gt_iff_lt, ge_iff_le, Int.not_lt, Int.not_le, ne_eq, Bool.true_eq_false, Bool.false_eq_true, reduceCtorEq, eta_Airway, eta_Fan, eta_Mine, bytes_nil] at hG; (try simp only [List.length_map]); omega) ?_
    | refine EqI.mk _ (fun _ => wrapI (by omega) (by omega)) ?_
    | refine EqI.mk _ (fun _ => rfl) ?_
    | refine FlF.keep ?_
    | refine EqN.mk _ (ln GAirway.cells) ?_
    | refine EqN.mk _ (ln eI) ?_
    | refine EqN.mk _ (ln eB) ?_
    | refine EqN.mk _ (Nat.zero_add _) ?_
    | refine EqN.mk (_ + 1) rfl ?_
    | refine EqN.mk _ (Int.toNat_natCast _) ?_
    | refine EqN.mk _ rfl ?_
    | refine EqL.mk _ (sn0 GAirway.cells) ?_
    | refine EqL.mk _ (sn GAirway.cells (by first | rfl | assumption | omega | (simp only [List.length_map, List.length_cons, List.length_nil, List.length_append, List.length_set, List.length_replicate, iotaI_len]; done) | (simp only [List.length_map, List.length_cons, List.length_nil, List.length_append, List.length_set, List.length_replicate, iotaI_len]; omega))) ?_
    | refine EqL.mk _ (ap0 GAirway.cells) ?_
    | refine EqL.mk _ (ap GAirway.cells (by first | rfl | assumption | omega | (simp only [List.length_map, List.length_cons, List.length_nil, List.length_append, List.length_set, List.length_replicate, iotaI_len]; done) | (simp only [List.length_map, List.length_cons, List.length_nil, List.length_append, List.length_set, List.length_replicate, iotaI_len]; omega))) ?_
    | refine EqL.mk _ (tk GAirway.cells (by first | rfl | assumption | omega | (simp only [List.length_map, List.length_cons, List.length_nil, List.length_append, List.length_set, List.length_replicate, iotaI_len]; done) | (simp only [List.length_map, List.length_cons, List.length_nil, List.length_append, List.length_set, List.length_replicate, iotaI_len]; omega))) ?_
    | refine EqL.mk _ (st GAirway.cells) ?_
    | refine EqL.mk _ (dt GAirway.cells) ?_
    | refine EqL.mk _ (sn0 eI) ?_
    | refine EqL.mk _ (sn eI (by first | rfl | assumption | omega | (simp only [List.length_map, List.length_cons, List.length_nil, List.length_append, List.length_set, List.length_replicate, iotaI_len]; done) | (simp only [List.length_map, List.length_cons, List.length_nil, List.length_append, List.length_set, List.length_replicate, iotaI_len]; omega))) ?_
    | refine EqL.mk _ (ap0 eI) ?_
    | refine EqL.mk _ (ap eI (by first | rfl | assumption | omega | (simp only [List.length_map, List.length_cons, List.length_nil, List.length_append, List.length_set, List.length_replicate, iotaI_len]; done) | (simp only [List.length_map, List.length_cons, List.length_nil, List.length_append, List.length_set, List.length_replicate, iotaI_len]; omega))) ?_
    | refine EqL.mk _ (tk eI (by first | rfl | assumption | omega | (simp only [List.length_map, List.length_cons, List.length_nil, List.length_append, List.length_set, List.length_replicate, iotaI_len]; done) | (simp only [List.length_map, List.length_cons, List.length_nil, List.length_append, List.length_set, List.length_replicate, iotaI_len]; omega))) ?_
    | refine EqL.mk _ (st eI) ?_
    | refine EqL.mk _ (dt eI) ?_
    | refine EqL.mk _ (sn0 eB) ?_
    | refine EqL.mk _ (sn eB (by first | rfl | assumption | omega | (simp only [List.length_map, List.length_cons, List.length_nil, List.length_append, List.length_set, List.length_replicate, iotaI_len]; done) | (simp only [List.length_map, List.length_cons, List.length_nil, List.length_append, List.length_set, List.length_replicate, iotaI_len]; omega))) ?_
    | refine EqL.mk _ (ap0 eB) ?_
    | refine EqL.mk _ (ap eB (by first | rfl | assumption | omega | (simp only [List.length_map, List.length_cons, List.length_nil, List.length_append, List.length_set, List.length_replicate, iotaI_len]; done) | (simp only [List.length_map, List.length_cons, List.length_nil, List.length_append, List.length_set, List.length_replicate, iotaI_len]; omega))) ?_
    | refine EqL.mk _ (tk eB (by first | rfl | assumption | omega | (simp only [List.length_map, List.length_cons, List.length_nil, List.length_append, List.length_set, List.length_replicate, iotaI_len]; done) | (simp only [List.length_map, List.length_cons, List.length_nil, List.length_append, List.length_set, List.length_replicate, iotaI_len]; omega))) ?_
    | refine EqL.mk _ (st eB) ?_
    | refine EqL.mk _ (dt eB) ?_
    | refine EqL.mk [] rfl ?_
    | refine EqL.mk [_] rfl ?_
    | refine EqL.mk _ rfl ?_
    | refine ArgF.is (c_impl_Airway_other ⟨_, _, _, _, _, _, _⟩ _) ?_
    | refine ArgQ.is (fun hG => c_impl_Airway_other ⟨_, _, _, _, _, _, _⟩ _) rfl rfl ?_
    | refine ArgF.is (c_slices_Contains_int64_int64 ..) ?_
    | refine ArgQ.is (fun hG => c_slices_Contains_int64_int64 ..) rfl rfl ?_
    | refine ArgF.is (c_impl_Mine_step ⟨_, _⟩ _ _ (by first | assumption | omega) (by first | assumption | omega)) ?_
    | refine ArgQ.is (fun hG => c_impl_Mine_step ⟨_, _⟩ _ _ (by first | assumption | omega) (by first | assumption | omega)) rfl rfl ?_
    | refine ArgQ.is (fun hG => c_impl_Mine_step ⟨_, _⟩ _ _ (by simp only [forall_const, eq_self, not_true_eq_false, not_false_eq_true, or_false, false_or, or_self, or_true, true_or, and_true, true_and, and_false, false_and, decide_true, decide_false, Bool.not_true, Bool.not_false, decide_eq_true_eq, decide_eq_false_iff_not, ite_and_p, ite_or_p, Bool.decide_eq_true, Bool.and_eq_true, Bool.or_eq_true, Bool.not_eq_true', Bool.not_eq_false', Bool.and_eq_false_imp, Bool.or_eq_false_iff, bne_iff_ne, beq_iff_eq, bne_eq_false_iff_eq, beq_eq_false_iff_ne, gt_iff_lt, ge_iff_le, Int.not_lt, Int.not_le, ne_eq, Bool.true_eq_false, Bool.false_eq_true, reduceCtorEq, eta_Airway, eta_Fan, eta_Mine, bytes_nil] at hG; omega) (by simp only [forall_const, eq_self, not_true_eq_false, not_false_eq_true, or_false, false_or, or_self, or_true, true_or, and_true, true_and, and_false, false_and, decide_true, decide_false, Bool.not_true, Bool.not_false, decide_eq_true_eq, decide_eq_false_iff_not, ite_and_p, ite_or_p, Bool.decide_eq_true, Bool.and_eq_true, Bool.or_eq_true, Bool.not_eq_true', Bool.not_eq_false', Bool.and_eq_false_imp, Bool.or_eq_false_iff, bne_iff_ne, beq_iff_eq, bne_eq_false_iff_eq, beq_eq_false_iff_ne, gt_iff_lt, ge_iff_le, Int.not_lt, Int.not_le, ne_eq, Bool.true_eq_false, Bool.false_eq_true, reduceCtorEq, eta_Airway, eta_Fan, eta_Mine, bytes_nil] at hG; omega)) rfl rfl ?_
    | refine ArgF.is (c_impl_loopSearch_extend ..) ?_
    | refine ArgQ.is (fun hG => c_impl_loopSearch_extend ..) rfl rfl ?_
    | refine CallF.mk (CallW.is [] true rfl ?_)
    | refine CallG.mk ?_
    | (refine CondF.mk (fun hb => ?_) (fun hb => ?_) <;> try simp only [forall_const, eq_self, not_true_eq_false, not_false_eq_true, or_false, false_or, or_self, or_true, true_or, and_true, true_and, and_false, false_and, decide_true, decide_false, Bool.not_true, Bool.not_false, decide_eq_true_eq, decide_eq_false_iff_not, ite_and_p, ite_or_p, Bool.decide_eq_true, Bool.and_eq_true, Bool.or_eq_true, Bool.not_eq_true', Bool.not_eq_false', Bool.and_eq_false_imp, Bool.or_eq_false_iff, bne_iff_ne, beq_iff_eq, bne_eq_false_iff_eq, beq_eq_false_iff_ne, gt_iff_lt, ge_iff_le, Int.not_lt, Int.not_le, ne_eq, Bool.true_eq_false, Bool.false_eq_true, reduceCtorEq, eta_Airway, eta_Fan, eta_Mine] at hb)
    | apply BackF.auto6
    | refine BackB.mk ?_ ?_
    | refine RetF.auto (And.intro rfl ?_)
    | exact Is.mk rfl rfl
    | refine Is.mk ?_ rfl
    | refine Is.mk rfl ?_
    | refine Is.mk ?_ ?_
  all_goals try dsimp only
  all_goals first
    | omega
    | (rw [lp_0 (by omega)]
       by_cases e1 : at_ = start
       · by_cases e2 : sum < 0
         · rw [if_pos (by simpa using e1), if_pos ⟨e1, e2⟩, decide_eq_true e2]; rfl
         · rw [if_pos (by simpa using e1), if_neg (fun e => e2 e.2), decide_eq_false e2]; rfl
       · rw [if_neg (by simpa using e1), if_neg (fun e => e1 e.1)]; rfl)
    | (intro x hx
       rw [lp_0 (by omega)] at hx
       by_cases e1 : at_ = start ∧ sum < 0
       · rw [if_pos e1] at hx
         have := Option.some.inj hx
         subst this
         exact ⟨hw, rfl⟩
       · rw [if_neg e1] at hx; cases hx)
    | exact fun _ => ⟨hw, hp⟩
    | exact ⟨by omega, by omega, ⟨hn.1, by simp; omega⟩, hw, List.take_of_length_le (by simp; omega), ⟨by omega, by omega⟩, by omega, lp_s (by omega)⟩
    | (have q := go_T (rg := rg) (g := g) hm j0 (by omega) (by assumption)
       refine ⟨by omega, by omega, j2, j3, j4, j5, j6, ?_⟩
       rw [j7]
       refine lp_n j0 (by omega) (st_no (goB_f (nn := n') (len := len) (by omega) q.2.1.symm (fun _ => rfl) ?_))
       rw [q.1] at hb
       rcases hb with (hb | hb) | hb
       · left; left; simpa using hb rfl
       · left; right; exact hb
       · right; exact hb)
    | (have q := go_F (rg := rg) (g := g) (by assumption)
       refine ⟨by omega, by omega, j2, j3, j4, j5, j6, ?_⟩
       rw [j7]
       exact lp_n j0 (by omega) (st_no (goB_f (nn := n') (len := len) (by omega) q.1 q.2.1 hb)))
    | (have jn : loopN m g rg start r' at_ sum walk passed = none := by rw [j7, show m.airways.length - i.toNat = 0 by omega]; rfl
       first
       | (rw [jn]; rfl)
       | (intro x hx; rw [jn] at hx; cases hx)
       | exact fun _ => ⟨j3, take_pred j4 (by omega)⟩)
    | (have q := go_T (rg := rg) (g := g) hm j0 (by omega) (by assumption)
       rename_i hq
       simp only [q.1] at e1 e3 e4 hq
       have go := goB_t (m := m) (rg := rg) (start := start) (at_ := at_) (nn := n') (len := len) (r := r' - 1) (ps := passed ++ [at_]) (k := i.toNat) (by omega) q.2.1.symm (fun _ => rfl) ⟨fun e => hq.1 (e.elim (fun e => .inl (fun _ => by simpa using e)) .inr), hq.2⟩
       have se := st_eq (m := m) (g := g) (rg := rg) (sum := sum) (walk := walk) (v := 0 - g.getD i.toNat 0) go (by rw [q.2.2]; omega)
       first
       | (have nl := n2_len hb e1 e2 e4
          have nl3 := nl.2.2.1
          simp only [List.length_append, List.length_cons, List.length_nil] at nl3
          have nl4 := nl.2.2.2
          simp only [List.length_append, List.length_cons, List.length_nil] at nl4
          exact ⟨by omega, by omega, ⟨by omega, e2.2⟩, take_pred nl.2.1.1 (by omega), nl.2.1.2, ⟨by omega, by omega⟩, j6, by rw [j7]; exact lp_n j0 (by omega) (se.trans nl.1)⟩)
       | (obtain ⟨x, hx⟩ := Option.isSome_iff_exists.1 (e1.symm.trans hb)
          have jt := j7.trans (lp_t j0 (by omega) (se.trans hx))
          first
          | (rw [jt]; rfl)
          | (intro y hy; rw [jt] at hy; cases hy; exact e3 _ hx)
          | (intro hy; rw [jt] at hy; cases hy)))
    | (have q := go_F (rg := rg) (g := g) (i := i) (m := m) (at_ := at_) (by assumption)
       rename_i hq
       have go := goB_t (m := m) (rg := rg) (start := start) (at_ := at_) (nn := n') (len := len) (r := r' - 1) (ps := passed ++ [at_]) (k := i.toNat) (by omega) q.1 q.2.1 ⟨fun e => hq.1 (by simpa using e), hq.2⟩
       have se := st_eq (m := m) (g := g) (rg := rg) (sum := sum) (walk := walk) (v := g.getD i.toNat 0) go q.2.2.symm
       first
       | (have nl := n2_len hb e1 e2 e4
          have nl3 := nl.2.2.1
          simp only [List.length_append, List.length_cons, List.length_nil] at nl3
          have nl4 := nl.2.2.2
          simp only [List.length_append, List.length_cons, List.length_nil] at nl4
          exact ⟨by omega, by omega, ⟨by omega, e2.2⟩, take_pred nl.2.1.1 (by omega), nl.2.1.2, ⟨by omega, by omega⟩, j6, by rw [j7]; exact lp_n j0 (by omega) (se.trans nl.1)⟩)
       | (obtain ⟨x, hx⟩ := Option.isSome_iff_exists.1 (e1.symm.trans hb)
          have jt := j7.trans (lp_t j0 (by omega) (se.trans hx))
          first
          | (rw [jt]; rfl)
          | (intro y hy; rw [jt] at hy; cases hy; exact e3 _ hx)
          | (intro hy; rw [jt] at hy; cases hy)))
    | skip
end Go.Proofs.Ytfeebelnpibppaa
