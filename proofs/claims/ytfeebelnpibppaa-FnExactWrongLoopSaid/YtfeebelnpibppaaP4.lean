/- Contracts of functions of the program, and what they compute. Conditions: those that each theorem states. -/
import Derived.Test.YtfeebelnpibppaaProg
import Derived.Test.YtfeebelnpibppaaP4p
set_option linter.unusedVariables false
set_option linter.unusedSimpArgs false
namespace Go.Proofs.Ytfeebelnpibppaa
open Go.Av
attribute [local irreducible] Go.IntKind.wrap leastI rdZ rd rootI rawA okMine loopN loopS goB goS okL askB gainsI potI
set_option maxRecDepth 20000
set_option maxHeartbeats 40000000

/-! Loops whose sum is less than 0: the reference's search. -/
--@fn (*spec.l12Loops).run
theorem lop1 (m : GMine) (ds ps : List Int) (rg : List Bool) (start len : Int) (ha : askB m ds ps rg = 0) (hlen : len ≤ 16)
    (r' : Nat) (ih : ∀ (k : Nat), k < r' → ∀ (at_ sum : Int) (walk seen ys zs : List Int) (n p : Nat) (hat : 0 ≤ at_ ∧ at_ < m.junctions) (hn : n ≤ ys.length ∧ p ≤ zs.length) (hw : ys.take n = walk) (hp : zs.take p = seen) (hN : len = walk.length + k) (hpl : seen.length ≤ walk.length) (hs : -2000000 * walk.length ≤ sum ∧ sum ≤ 2000000 * walk.length), FnSem Try.prog 164 [.own 0 0, In at_, In sum] [lsC ds ps rg start len 2 p 3 n, mnC m, .row false .flat (eI 0) (zs.map eI), .row false .flat (eI 0) (ys.map eI)] (LopS m ds ps rg start len (loopS m (gainsI ps ds) rg start k at_ sum walk seen) walk seen))
    (at_ sum : Int) (walk seen ys zs : List Int) (n p : Nat) (hat : 0 ≤ at_ ∧ at_ < m.junctions) (hn : n ≤ ys.length ∧ p ≤ zs.length) (hw : ys.take n = walk) (hp : zs.take p = seen) (hN : len = walk.length + r') (hpl : seen.length ≤ walk.length) (hs : -2000000 * walk.length ≤ sum ∧ sum ≤ 2000000 * walk.length) :
    FnSem Try.prog 164 [.own 0 0, In at_, In sum] [lsC ds ps rg start len 2 p 3 n, mnC m, .row false .flat (eI 0) (zs.map eI), .row false .flat (eI 0) (ys.map eI)] (LopS m ds ps rg start len (loopS m (gainsI ps ds) rg start r' at_ sum walk seen) walk seen) := by
  have hwl : walk.length = n := by rw [← hw, List.length_take]; omega
  have hpl2 : seen.length = p := by rw [← hp, List.length_take]; omega
  have hq := askB_l ha
  have hmp := okMine_p hq.1
  refine FnSem.walk (zs := zeroPV Try.prog) (by kernel_rfl) Try.func164 rfl Try.results164 (by kernel_rfl) (by kernel_rfl) (by kernel_rfl) fun hw hh => ?_
  obtain ⟨w0, w1, w2, _⟩ := hw
  first | replace w0 := wfr_L12Loops w0 | skip
  first | replace w1 := wf_I w1 | skip
  first | replace w2 := wf_I w2 | skip
  repeat' first
    | refine And.intro rfl ?_
    | refine GdF.mk (fun h => h) ?_
    | refine And.intro (Nat.succ_ne_zero _) ?_
    | refine And.intro (Nat.le_of_ble_eq_true rfl) ?_
    | refine GhF.at 0 rfl [.mv 2, .mv 3] ?_
    | refine OpH.heap ?_
    | refine EqL.mk _ (tkT j4) ?_
    | refine LoopF.at 4 rfl (LoopF.fix [0, 1, 2] (Int × Nat × Nat × List Int × List Int) (fun (i, n', p', ys', zs') => 0 ≤ i ∧ i ≤ m.airways.length ∧ (n' ≤ ys'.length ∧ p' ≤ zs'.length) ∧ ys'.take n' = walk ∧ zs'.take p' = seen ∧ (n' = walk.length ∧ p' = seen.length) ∧ 0 < r' ∧ loopS m (gainsI ps ds) rg start r' at_ sum walk seen = loopT (stepS m (gainsI ps ds) rg start (r' - 1) at_ sum walk seen) (m.airways.length - i.toNat) i.toNat) (fun (i, n', p', ys', zs') => [(8, In i)]) (fun (i, n', p', ys', zs') => [(0, lsC ds ps rg start len 4 p' 5 n'), (4, .row false .flat (eI 0) (zs'.map eI)), (5, .row false .flat (eI 0) (ys'.map eI))]) (fun (i, n', p', ys', zs') => ((m.airways.length - i).toNat)) ((0, n, p, ys, zs)) ?_)
    | (refine LoopB.of (T := Int × Nat × Nat × List Int × List Int) ?_ ?_; rotate_left; rintro ⟨i, n', p', ys', zs'⟩ ⟨j0, j1, j2, j3, j4, j5, j6, j7⟩; rotate_left)
    | refine LoopF.at 9 rfl (LoopF.fix [0, 1, 2, 8, 9, 10] (Int × List Int × List Int × Nat × Nat) (fun (w, ys', zs', n', p') => 0 ≤ w ∧ w ≤ 2 ∧ (n' ≤ ys'.length ∧ p' ≤ zs'.length) ∧ ys'.take n' = walk ∧ zs'.take p' = seen ∧ (n' = walk.length ∧ p' = seen.length) ∧ i < m.airways.length ∧ (1 ≤ w → (m.airways.getD i.toNat default).from_ = at_ → stepS m (gainsI ps ds) rg start (r' - 1) at_ sum walk seen i.toNat = none) ∧ (2 ≤ w → stepS m (gainsI ps ds) rg start (r' - 1) at_ sum walk seen i.toNat = none)) (fun (w, ys', zs', n', p') => [(11, In w)]) (fun (w, ys', zs', n', p') => [(0, lsC ds ps rg start len 4 p' 5 n'), (4, .row false .flat (eI 0) (zs'.map eI)), (5, .row false .flat (eI 0) (ys'.map eI))]) (fun (w, ys', zs', n', p') => ((2 - w).toNat)) ((0, ys', zs', n', p')) ?_)
    | (refine LoopB.of (T := Int × List Int × List Int × Nat × Nat) ?_ ?_; rotate_left; rintro ⟨w, ys', zs', n', p'⟩ ⟨k0, k1, k2, k3, k4, k5, k6, k7, k8⟩; rotate_left)
    | (refine SeqF.cutfix (a := codeF _ _ _ (.seq _ (.cond (.tmp 91) _ _))) [0, 1, 2, 8, 9, 10, 11] [0, 1, 2, 3, 4, 5] (Int × Int × Int × Int) (fun (fr, tt, sp, ad) => wayD m ds ps i w fr tt sp ad) (fun (fr, tt, sp, ad) => [(12, In fr), (13, In tt), (14, In sp), (15, In ad)]) (fun _ => [lsC ds ps rg start len 4 p' 5 n', mnC m, .dead, .dead, .row false .flat (eI 0) (zs'.map eI), .row false .flat (eI 0) (ys'.map eI)]) ?_ ?_; rotate_left; rintro ⟨fr, tt, sp, ad⟩ g0; rotate_left)
    | (refine SeqF.cutfix (a := codeF _ _ _ (.seq _ (.cond (.tmp 172) _ _))) [0, 1, 2, 8, 9, 10, 11, 13, 15] [0, 1, 2, 3, 4, 5] (Nat × List Int) (fun (p3, zs3) => p3 ≤ zs3.length ∧ zs3.take p3 = seenN start seen tt ∧ p3 = (seenN start seen tt).length) (fun _ => []) (fun (p3, zs3) => [lsC ds ps rg start len 4 p3 5 (n' + 1), mnC m, .dead, .dead, .row false .flat (eI 0) (zs3.map eI), .row false .flat (eI 0) ((walk ++ [sp]).map eI)]) ?_ ?_; rotate_left; rintro ⟨p3, zs3⟩ ⟨f0, f1, f2⟩; rotate_left)
    | apply FitF.auto4
    | apply FitF.auto2
    | refine SeqF.run ?_
    | refine ArgF.is (c_spec_l00Has seen _) ?_
    | refine ArgQ.is (fun hG => c_spec_l00Has seen _) rfl rfl ?_
    | refine EqL.mk _ (snT k3) ?_
    | refine EqL.mk _ (snT k4) ?_
    | refine EqL.mk _ (tkT k4) ?_
    | refine CallF.own (f := 164) [0] false ?_
    | (have b0 := wd_b ha j0 (show i < m.airways.length by omega) g0; have b3 := sn_len (start := start) (seen := seen) (tt := tt); refine ArgF.lopS (ih (r' - 1) (by omega) tt _ (walk ++ [sp]) (seenN start seen tt) (walk ++ [sp]) zs3 (n' + 1) p3 b0.1 ⟨by simp; omega, f0⟩ (List.take_of_length_le (by simp; omega)) f1 (by simp; omega) (by simp; omega) (by simp only [List.length_append, List.length_cons, List.length_nil]; omega)) ?_; intro n2 p2 ys2 zs2 b2 s2 e1 e2 e3 e4)
    | refine BndF.mk (fun _ => by have e8 : (seenN start seen tt).length = seen.length + 1 := (by rw [sn_f hb]; simp); have e5 := (n2_len (show b2 = false by assumption) e1 e2 e4).2.2; omega) ?_
    | refine BndF.mk (fun _ => by have e8 : (seenN start seen tt).length = seen.length + 1 := (by rw [sn_f hb]; simp); have e5 := (n2_len (show b2 = false by assumption) e1 e2 e4).2.2; have e : ((p2 : Int) - 1).toNat = p2 - 1 := (by omega); exact ⟨Nat.zero_le _, by show ((p2 : Int) - 1).toNat ≤ _; omega⟩) ?_
    | refine BndF.mk (fun _ => by have e : ((p2 : Int) - 1).toNat = p2 - 1 := (by omega); exact ⟨Nat.zero_le _, by show ((p2 : Int) - 1).toNat ≤ _; omega⟩) ?_
    | refine BndF.mk (fun _ => by have e : ((n2 : Int) - 1).toNat = n2 - 1 := (by omega); exact ⟨Nat.zero_le _, by show ((n2 : Int) - 1).toNat ≤ _; omega⟩) ?_
    | refine EqN.mk (p2 - 1) (by show ((p2 : Int) - 1).toNat - 0 = p2 - 1; omega) ?_
    | refine EqN.mk (n2 - 1) (by show ((n2 : Int) - 1).toNat - 0 = n2 - 1; omega) ?_
    | refine EqI.mk _ (fun _ => by have e5 := (n2_len (show b2 = false by assumption) e1 e2 e4).2.2; have e6 := sn_len (start := start) (seen := seen) (tt := tt); simp only [List.length_append, List.length_cons, List.length_nil] at e5; exact wrapI (by omega) (by omega)) ?_
    | refine EqI.mk _ (fun _ => by have b0 := wd_b ha j0 (show i < m.airways.length by omega) g0; exact wrapI (by omega) (by omega)) ?_
    | refine EqI.mk _ (fun _ => wrapI (by have b1 := hq.2.2.2.2.2.1 i.toNat; have b2 := hq.2.2.2.2.2.2 i.toNat; omega) (by have b1 := hq.2.2.2.2.2.1 i.toNat; have b2 := hq.2.2.2.2.2.2 i.toNat; omega)) ?_
    | refine BndF.mk (fun _ => by have e5 := (n2_len (show b2 = false by assumption) e1 e2 e4).2.2; have e6 := sn_len (start := start) (seen := seen) (tt := tt); simp only [List.length_append, List.length_cons, List.length_nil] at e5; omega) ?_
    | refine LopS.mk _ _ _ _ _ _ rfl rfl ?_ ?_ ?_ ?_
    | refine GhF.go ?_
    | refine GdS.keep ?_
    | refine DrawG.old (DrawF.lex (by decide +kernel) ?_)
    | refine MkF.row ?_
    | refine EqP.mk _ (gm GAirway.cells default rfl) ?_
    | refine EqP.mk _ (gm eI 0 rfl) ?_
    | refine EqP.mk _ (gm eB false rfl) ?_
    | refine BndF.mk (fun _ => by omega) ?_
    | refine BndF.mk (fun _ => by simp only [List.length_map, List.length_cons, List.length_nil, List.length_append, List.length_set, List.length_replicate, iotaI_len]; omega) ?_
    | refine BndF.mk (fun hG => by simp only [forall_const, eq_self, not_true_eq_false, not_false_eq_true, or_false, false_or, or_self, or_true, true_or, and_true, true_and, and_false, false_and, decide_true, decide_false, Bool.not_true, Bool.not_false, decide_eq_true_eq, decide_eq_false_iff_not, ite_and_p, ite_or_p, Bool.decide_eq_true, Bool.and_eq_true, Bool.or_eq_true, Bool.not_eq_true', Bool.not_eq_false', Bool.and_eq_false_imp, Bool.or_eq_false_iff, bne_iff_ne, beq_iff_eq, bne_eq_false_iff_eq, beq_eq_false_iff_ne, gt_iff_lt, ge_iff_le, Int.not_lt, Int.not_le, ne_eq, Bool.true_eq_false, Bool.false_eq_true, reduceCtorEq, eta_Airway, eta_Fan, eta_Mine, bytes_nil] at hG; (try simp only [List.length_map]); omega) ?_
    | refine EqI.mk _ (fun _ => wrapI (by omega) (by omega)) ?_
    | refine EqI.mk _ (fun _ => rfl) ?_
    | refine FlF.keep ?_
    | refine EqN.mk _ (ln GAirway.cells) ?_
    | refine EqN.mk _ (ln eI) ?_
    | refine EqN.mk _ (ln eB) ?_
    | refine EqN.mk _ (Nat.zero_add _) ?_
    | refine EqN.mk (_ + 1) rfl ?_
    | refine EqN.mk _ (Int.toNat_natCast _) ?_
    | refine EqN.mk _ rfl ?_
    | refine EqL.mk _ (sn0 GAirway.cells) ?_
    | refine EqL.mk _ (sn GAirway.cells (by first | rfl | assumption | omega | (simp only [List.length_map, List.length_cons, List.length_nil, List.length_append, List.length_set, List.length_replicate, iotaI_len]; done) | (simp only [List.length_map, List.length_cons, List.length_nil, List.length_append, List.length_set, List.length_replicate, iotaI_len]; omega))) ?_
    | refine EqL.mk _ (ap0 GAirway.cells) ?_
    | refine EqL.mk _ (ap GAirway.cells (by first | rfl | assumption | omega | (simp only [List.length_map, List.length_cons, List.length_nil, List.length_append, List.length_set, List.length_replicate, iotaI_len]; done) | (simp only [List.length_map, List.length_cons, List.length_nil, List.length_append, List.length_set, List.length_replicate, iotaI_len]; omega))) ?_
    | refine EqL.mk _ (tk GAirway.cells (by first | rfl | assumption | omega | (simp only [List.length_map, List.length_cons, List.length_nil, List.length_append, List.length_set, List.length_replicate, iotaI_len]; done) | (simp only [List.length_map, List.length_cons, List.length_nil, List.length_append, List.length_set, List.length_replicate, iotaI_len]; omega))) ?_
    | refine EqL.mk _ (st GAirway.cells) ?_
    | refine EqL.mk _ (dt GAirway.cells) ?_
    | refine EqL.mk _ (sn0 eI) ?_
    | refine EqL.mk _ (sn eI (by first | rfl | assumption | omega | (simp only [List.length_map, List.length_cons, List.length_nil, List.length_append, List.length_set, List.length_replicate, iotaI_len]; done) | (simp only [List.length_map, List.length_cons, List.length_nil, List.length_append, List.length_set, List.length_replicate, iotaI_len]; omega))) ?_
    | refine EqL.mk _ (ap0 eI) ?_
    | refine EqL.mk _ (ap eI (by first | rfl | assumption | omega | (simp only [List.length_map, List.length_cons, List.length_nil, List.length_append, List.length_set, List.length_replicate, iotaI_len]; done) | (simp only [List.length_map, List.length_cons, List.length_nil, List.length_append, List.length_set, List.length_replicate, iotaI_len]; omega))) ?_
    | refine EqL.mk _ (tk eI (by first | rfl | assumption | omega | (simp only [List.length_map, List.length_cons, List.length_nil, List.length_append, List.length_set, List.length_replicate, iotaI_len]; done) | (simp only [List.length_map, List.length_cons, List.length_nil, List.length_append, List.length_set, List.length_replicate, iotaI_len]; omega))) ?_
    | refine EqL.mk _ (st eI) ?_
    | refine EqL.mk _ (dt eI) ?_
    | refine EqL.mk _ (sn0 eB) ?_
    | refine EqL.mk _ (sn eB (by first | rfl | assumption | omega | (simp only [List.length_map, List.length_cons, List.length_nil, List.length_append, List.length_set, List.length_replicate, iotaI_len]; done) | (simp only [List.length_map, List.length_cons, List.length_nil, List.length_append, List.length_set, List.length_replicate, iotaI_len]; omega))) ?_
    | refine EqL.mk _ (ap0 eB) ?_
    | refine EqL.mk _ (ap eB (by first | rfl | assumption | omega | (simp only [List.length_map, List.length_cons, List.length_nil, List.length_append, List.length_set, List.length_replicate, iotaI_len]; done) | (simp only [List.length_map, List.length_cons, List.length_nil, List.length_append, List.length_set, List.length_replicate, iotaI_len]; omega))) ?_
    | refine EqL.mk _ (tk eB (by first | rfl | assumption | omega | (simp only [List.length_map, List.length_cons, List.length_nil, List.length_append, List.length_set, List.length_replicate, iotaI_len]; done) | (simp only [List.length_map, List.length_cons, List.length_nil, List.length_append, List.length_set, List.length_replicate, iotaI_len]; omega))) ?_
    | refine EqL.mk _ (st eB) ?_
    | refine EqL.mk _ (dt eB) ?_
    | refine EqL.mk [] rfl ?_
    | refine EqL.mk [_] rfl ?_
    | refine EqL.mk _ rfl ?_
    | refine ArgF.is (c_spec_l00Has ..) ?_
    | refine ArgQ.is (fun hG => c_spec_l00Has ..) rfl rfl ?_
    | refine ArgF.is (c_spec_l12Loops_run ..) ?_
    | refine ArgQ.is (fun hG => c_spec_l12Loops_run ..) rfl rfl ?_
    | refine CallF.mk (CallW.is [] true rfl ?_)
    | refine CallG.mk ?_
    | (refine CondF.mk (fun hb => ?_) (fun hb => ?_) <;> try simp only [forall_const, eq_self, not_true_eq_false, not_false_eq_true, or_false, false_or, or_self, or_true, true_or, and_true, true_and, and_false, false_and, decide_true, decide_false, Bool.not_true, Bool.not_false, decide_eq_true_eq, decide_eq_false_iff_not, ite_and_p, ite_or_p, Bool.decide_eq_true, Bool.and_eq_true, Bool.or_eq_true, Bool.not_eq_true', Bool.not_eq_false', Bool.and_eq_false_imp, Bool.or_eq_false_iff, bne_iff_ne, beq_iff_eq, bne_eq_false_iff_eq, beq_eq_false_iff_ne, gt_iff_lt, ge_iff_le, Int.not_lt, Int.not_le, ne_eq, Bool.true_eq_false, Bool.false_eq_true, reduceCtorEq, eta_Airway, eta_Fan, eta_Mine] at hb)
    | apply BackF.auto5
    | refine BackB.mk ?_ ?_
    | refine RetF.auto (And.intro rfl ?_)
    | exact Is.mk rfl rfl
    | refine Is.mk ?_ rfl
    | refine Is.mk rfl ?_
    | refine Is.mk ?_ ?_
  all_goals try dsimp only
  all_goals first
    | omega
    | exact (cl_0 (P := ys.take n = walk ∧ zs.take p = seen) (by omega) hw ⟨hw, hp⟩).1
    | exact (cl_0 (P := ys.take n = walk ∧ zs.take p = seen) (by omega) hw ⟨hw, hp⟩).2.1
    | exact (cl_0 (P := ys.take n = walk ∧ zs.take p = seen) (by omega) hw ⟨hw, hp⟩).2.2
    | exact ⟨by omega, by omega, hn, hw, hp, ⟨by omega, by omega⟩, by omega, ls_s (by omega)⟩
    | exact ⟨by omega, by omega, j2, j3, j4, j5, by omega, fun h => by omega, fun h => by omega⟩
    | exact .inr ⟨by assumption, rfl, rfl, rfl, rfl⟩
    | exact .inl ⟨by omega, rfl, rfl, rfl, rfl⟩
    | (have sk := wd_sk (at_ := at_) (sum := sum) ha j0 (show i < m.airways.length by omega) k5.1 hN j6 g0 hb k7
       exact ⟨by omega, by omega, k2, k3, k4, k5, k6, sk.1, sk.2⟩)
    | (rw [sn_f hb]; exact ⟨by simp; omega, List.take_of_length_le (by simp; omega), by simp; omega⟩)
    | (rw [sn_t hb]; exact ⟨k2.2, k4, k5.2⟩)
    | exact ⟨by omega, by omega, k2, k3, k4, k5, j6, j7.trans (lT_n j0 (by omega) (k8 hb))⟩
    | exact (cl_e (ys2 := ys') (n2 := n') (P := ys'.take n' = walk ∧ zs'.take p' = seen) j7 hb ⟨j3, j4⟩).1
    | exact (cl_e (ys2 := ys') (n2 := n') (P := ys'.take n' = walk ∧ zs'.take p' = seen) j7 hb ⟨j3, j4⟩).2.1
    | exact (cl_e (ys2 := ys') (n2 := n') (P := ys'.take n' = walk ∧ zs'.take p' = seen) j7 hb ⟨j3, j4⟩).2.2
    | (have st := wd_sg (sum := sum) ha j0 (show i < m.airways.length by omega) k5.1 hN j6 g0 (by assumption)
       first
       | exact (cl_t (P := ys2.take n2 = walk ∧ zs2.take p2 = seen) j7 j0 (by omega) st e1 e3 hb).1
       | exact (cl_t (P := ys2.take n2 = walk ∧ zs2.take p2 = seen) j7 j0 (by omega) st e1 e3 hb).2.1
       | exact (cl_t (P := ys2.take n2 = walk ∧ zs2.take p2 = seen) j7 j0 (by omega) st e1 e3 hb).2.2
       | (have c := cl_n st e1 e2 e4 (by assumption)
          rw [sn_f hb] at c
          have d := cl_p c.2.2
          exact ⟨by omega, by omega, ⟨c.2.1.1, d.1⟩, c.2.1.2.1, d.2.1, ⟨c.2.1.2.2, d.2.2⟩, k6, fun _ _ => c.1, fun _ => c.1⟩)
       | (have c := cl_n st e1 e2 e4 (by assumption)
          rw [sn_t hb] at c
          exact ⟨by omega, by omega, ⟨c.2.1.1, c.2.2.1⟩, c.2.1.2.1, c.2.2.2.1, ⟨c.2.1.2.2, c.2.2.2.2⟩, k6, fun _ _ => c.1, fun _ => c.1⟩))
    | skip
end Go.Proofs.Ytfeebelnpibppaa
