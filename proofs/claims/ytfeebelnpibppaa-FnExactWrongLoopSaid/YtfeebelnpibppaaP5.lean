/- Contracts of functions of the program, and what they compute. Conditions: those that each theorem states. -/
import Derived.Test.YtfeebelnpibppaaProg
import Derived.Test.YtfeebelnpibppaaP4
import Derived.Test.YtfeebelnpibppaaP6
import Derived.Test.YtfeebelnpibppaaQ7
set_option linter.unusedVariables false
set_option linter.unusedSimpArgs false
namespace Go.Proofs.Ytfeebelnpibppaa
open Go.Av
attribute [local irreducible] Go.IntKind.wrap leastI rdZ rd rootI rawA okMine loopN loopS goB goS okL askB gainsI potI wrongL
set_option maxRecDepth 20000
set_option maxHeartbeats 40000000

/-! Loops whose sum is less than 0: the reference. -/
--@fn (*spec.l12Loops).run
theorem lopC (m : GMine) (ds ps : List Int) (rg : List Bool) (start len : Int) (ha : askB m ds ps rg = 0) (hlen : len ≤ 16) : ∀ (r' : Nat) (at_ sum : Int) (walk seen ys zs : List Int) (n p : Nat) (hat : 0 ≤ at_ ∧ at_ < m.junctions) (hn : n ≤ ys.length ∧ p ≤ zs.length) (hw : ys.take n = walk) (hp : zs.take p = seen) (hN : len = walk.length + r') (hpl : seen.length ≤ walk.length) (hs : -2000000 * walk.length ≤ sum ∧ sum ≤ 2000000 * walk.length),
    FnSem Try.prog 164 [.own 0 0, In at_, In sum] [lsC ds ps rg start len 2 p 3 n, mnC m, .row false .flat (eI 0) (zs.map eI), .row false .flat (eI 0) (ys.map eI)] (LopS m ds ps rg start len (loopS m (gainsI ps ds) rg start r' at_ sum walk seen) walk seen) := fun r' => by
  induction r' using Nat.strongRecOn with
  | _ r' ih => exact lop1 m ds ps rg start len ha hlen r' ih
--@fn spec.l00Own
theorem ownB (xs : List Int) (hl : xs.length ≤ 1000000) : FnSem Try.prog 153 [Lx (LI xs)] [] (Is [.osl 0 0 xs.length] [Rw .flat (eI 0) (xs.map eI)]) := by
  refine FnSem.walk (zs := zeroPV Try.prog) (by kernel_rfl) Try.func153 rfl Try.results153 (by kernel_rfl) (by kernel_rfl) (by kernel_rfl) fun hw hh => ?_
  obtain ⟨w0, _⟩ := hw
  first | replace w0 := wf_LI w0 | skip
  repeat' first
    | refine And.intro rfl ?_
    | refine GdF.mk (fun h => h) ?_
    | refine And.intro (Nat.succ_ne_zero _) ?_
    | refine And.intro (Nat.le_of_ble_eq_true rfl) ?_
    | refine SeqF.run ?_
    | refine FlF.flat (by simp only [List.mem_map, forall_exists_index, and_imp, forall_apply_eq_imp_iff₂]; intro a _ p hp; simp only [eI, List.mem_singleton] at hp; exact ⟨_, hp⟩) ?_
    | refine GhF.go ?_
    | refine MkF.row ?_
    | refine BndF.mk (fun _ => by omega) ?_
    | refine BndF.mk (fun _ => by simp only [List.length_map, List.length_cons, List.length_nil, List.length_append, List.length_set, List.length_replicate, iotaI_len]; omega) ?_
    | refine FlF.keep ?_
    | refine EqN.mk _ (Nat.zero_add _) ?_
    | refine EqN.mk (_ + 1) rfl ?_
    | refine EqN.mk _ (Int.toNat_natCast _) ?_
    | refine EqN.mk _ rfl ?_
    | refine EqL.mk _ (sn0 eI) ?_
    | refine EqL.mk _ (sn eI (by first | rfl | assumption | omega | (simp only [List.length_map, List.length_cons, List.length_nil, List.length_append, List.length_set, List.length_replicate, iotaI_len]; done) | (simp only [List.length_map, List.length_cons, List.length_nil, List.length_append, List.length_set, List.length_replicate, iotaI_len]; omega))) ?_
    | refine EqL.mk _ (ap0 eI) ?_
    | refine EqL.mk _ (ap eI (by first | rfl | assumption | omega | (simp only [List.length_map, List.length_cons, List.length_nil, List.length_append, List.length_set, List.length_replicate, iotaI_len]; done) | (simp only [List.length_map, List.length_cons, List.length_nil, List.length_append, List.length_set, List.length_replicate, iotaI_len]; omega))) ?_
    | refine EqL.mk _ (tk eI (by first | rfl | assumption | omega | (simp only [List.length_map, List.length_cons, List.length_nil, List.length_append, List.length_set, List.length_replicate, iotaI_len]; done) | (simp only [List.length_map, List.length_cons, List.length_nil, List.length_append, List.length_set, List.length_replicate, iotaI_len]; omega))) ?_
    | refine EqL.mk _ (dt eI) ?_
    | refine EqL.mk [] rfl ?_
    | refine EqL.mk [_] rfl ?_
    | refine EqL.mk _ rfl ?_
    | (refine CondF.mk (fun hb => ?_) (fun hb => ?_) <;> try simp only [forall_const, eq_self, not_true_eq_false, not_false_eq_true, or_false, false_or, or_self, or_true, true_or, and_true, true_and, and_false, false_and, decide_true, decide_false, Bool.not_true, Bool.not_false, decide_eq_true_eq, decide_eq_false_iff_not, ite_and_p, ite_or_p, Bool.decide_eq_true, Bool.and_eq_true, Bool.or_eq_true, Bool.not_eq_true', Bool.not_eq_false', Bool.and_eq_false_imp, Bool.or_eq_false_iff, bne_iff_ne, beq_iff_eq, bne_eq_false_iff_eq, beq_eq_false_iff_ne, gt_iff_lt, ge_iff_le, Int.not_lt, Int.not_le, ne_eq, Bool.true_eq_false, Bool.false_eq_true, reduceCtorEq, eta_Airway, eta_Fan, eta_Mine] at hb)
    | refine RetF.auto (And.intro rfl ?_)
    | exact Is.mk rfl rfl
    | refine Is.mk ?_ rfl
    | refine Is.mk rfl ?_
    | refine Is.mk ?_ ?_
  all_goals try dsimp only
  all_goals try simp only [Bo, I, OB.row.injEq, AV.osl.injEq, eI_same,  List.cons.injEq, AV.p.injEq, PV.c.injEq, Value.int.injEq, Value.bool.injEq, and_true, true_and, ite_and_p, ite_or_p, Bool.decide_eq_true, eta_Airway, eta_Fan, eta_Mine]
  all_goals simp only [List.length_map]
theorem loop_se {m : GMine} {g : List Int} {rg : List Bool} {start sum : Int} {r : Nat} : loopN m g rg start r start sum [] [] = loopS m g rg start r start sum [] [] :=
  loop_eq r start sum [] [] [] (fun x => by simp) (by simp)
theorem loopN_ln {m : GMine} {g : List Int} {rg : List Bool} {start sum t : Int} {r : Nat} {w : List Int} (h : loopN m g rg start r start sum [] [] = some (w, t)) : w.length = r := by
  obtain ⟨es, e1, _, _, e4, _⟩ := loopN_sd _ _ _ _ _ h
  rw [e4, List.nil_append, spW_len, e1]
theorem wrong_no {m : GMine} {ds ps p : List Int} {rg : List Bool} (ha : askB m ds ps rg = 0) (hp : potI m (gainsI ps ds) rg = some p) : wrongV m ds ps rg = ([], 0, 3) := by
  have q := askB_l ha
  have hn : wrongP m (gainsI ps ds) rg = none := by
    unfold wrongP
    refine loopT_none _ _ fun l _ _ => ?_
    unfold wrongL
    exact loopT_none _ _ fun s _ _ => loopN_pot q.1 (by rw [hp]; rfl) _ _ _ (Int.le_refl _) _ _
  unfold wrongV
  rw [if_pos ha, hn]
theorem wrong_2 {m : GMine} {g : List Int} {rg : List Bool} (hm : okMine m = true) : wrongP m g rg = loopT (wrongL m g rg) (m.junctions + 1 - 2).toNat (Int.toNat 2) := by
  have q := (okMine_p hm).1
  have h1 : wrongL m g rg 1 = none := by
    unfold wrongL
    exact loopT_none _ _ fun s _ _ => loopN_1 hm
  unfold wrongP
  rw [loopT_n (by omega) h1, show m.junctions.toNat - 1 = (m.junctions + 1 - 2).toNat by omega]
  rfl
theorem c_spec_WrongLoop (m : GMine) (ds ps : List Int) (rg : List Bool) : FnSem Try.prog 62 [.p .any (.agg m.cells), Lx (LI ds), Lx (LI ps), Lx (LB rg)] [] (RetV (fun v : Nat × Int × Int => [.osl 0 0 v.1, In v.2.1, In v.2.2]) (fun v => [.row false .flat (eI 0) ((wrongV m ds ps rg).1.map eI)]) (fun v => v.1 = (wrongV m ds ps rg).1.length ∧ v.2.1 = (wrongV m ds ps rg).2.1 ∧ v.2.2 = (wrongV m ds ps rg).2.2)) := by
  refine FnSem.old ?_
  refine FnSem.walk (zs := zeroPV Try.prog) (by kernel_rfl) Try.func62 rfl Try.results62 (by kernel_rfl) (by kernel_rfl) (by kernel_rfl) fun hw hh => ?_
  obtain ⟨w0, w1, w2, w3, _⟩ := hw
  first | replace w0 := wf_Mine w0 | skip
  first | replace w1 := wf_LI w1 | skip
  first | replace w2 := wf_LI w2 | skip
  first | replace w3 := wf_I w3 | replace w3 := wf_Y w3 | replace w3 := wf_S w3 | replace w3 := wf_LI w3 | replace w3 := wf_LY w3 | replace w3 := wf_LLI w3 | replace w3 := wf_Ls w3 | skip
  have hwl := w0.2.1
  repeat' first
    | refine And.intro rfl ?_
    | refine GdF.mk (fun h => h) ?_
    | refine And.intro (Nat.succ_ne_zero _) ?_
    | refine And.intro (Nat.le_of_ble_eq_true rfl) ?_
    | refine SeqF.run ?_
    | refine GhF.at 14 rfl [.nils 1 6 (eI 0), .nils 1 7 (eI 0)] ?_
    | refine ArgF.is (c_spec_l12Ask m ds ps rg) ?_
    | refine ArgQ.is (fun hG => c_spec_l12Ask m ds ps rg) rfl rfl ?_
    | (refine ArgF.mk _ (c_spec_l12Fit m ds ps rg (okB_of (show askB m ds ps rg = 0 by assumption)) ⟨(askB_l (show askB m ds ps rg = 0 by assumption)).2.2.1, (askB_l (show askB m ds ps rg = 0 by assumption)).2.2.2.1⟩) (fun rs ho hR _ => ?_); rcases hR with ⟨p, hp, rfl, rfl⟩ | ⟨hp, rfl, rfl⟩)
    | refine LoopF.at 8 rfl (LoopF.fix [1, 2, 3, 4] (Int) (fun l => 2 ≤ l ∧ l ≤ m.junctions + 1 ∧ askB m ds ps rg = 0 ∧ (1 ≤ m.junctions ∧ m.junctions ≤ 16) ∧ wrongP m (gainsI ps ds) rg = loopT (wrongL m (gainsI ps ds) rg) (m.junctions + 1 - l).toNat l.toNat) (fun l => [(14, In l)]) (fun l => []) (fun l => ((m.junctions + 1 - l).toNat)) (2) ?_)
    | (refine LoopB.of (T := Int) ?_ ?_; rotate_left; rintro l ⟨j0, j1, j4, j2, j3⟩; rotate_left)
    | refine LoopF.at 11 rfl (LoopF.fix [1, 2, 3, 4, 14] (Int) (fun s => 0 ≤ s ∧ s ≤ m.junctions ∧ wrongL m (gainsI ps ds) rg l.toNat = loopT (fun s => loopN m (gainsI ps ds) rg s l.toNat s 0 [] []) (m.junctions - s).toNat s.toNat) (fun s => [(15, In s)]) (fun s => []) (fun s => ((m.junctions - s).toNat)) (0) ?_)
    | (refine LoopB.of (T := Int) ?_ ?_; rotate_left; rintro s ⟨k0, k1, k2⟩; rotate_left)
    | refine CallF.own (f := 164) [0] false ?_
    | (refine ArgF.lopS (lopC m ds ps rg s l j4 (by omega) l.toNat s 0 [] [] [] [] 0 0 (by omega) (by simp) rfl rfl (by simp; omega) (by simp) (by simp)) ?_; intro n2 p2 ys2 zs2 b2 s2 e1 e2 e3 e4; rw [← loop_se] at e1 e3 e4)
    | refine EqL.mk _ (tkT rfl) ?_
    | refine ArgF.is (ownB (ys2.take n2) (by obtain ⟨x, hx⟩ := Option.isSome_iff_exists.1 (e1.symm.trans hb); rw [(e3 x hx).1, loopN_ln (w := x.1) (t := x.2) hx]; omega)) ?_
    | refine ArgQ.is (fun hG => ownB (ys2.take n2) (by obtain ⟨x, hx⟩ := Option.isSome_iff_exists.1 (e1.symm.trans hb); rw [(e3 x hx).1, loopN_ln (w := x.1) (t := x.2) hx]; omega)) rfl rfl ?_
    | (refine RetV.mk (α := Nat × Int × Int) (_, _, _) rfl ?_ ?_)
    | refine GhF.go ?_
    | refine MkF.row ?_
    | refine BndF.mk (fun _ => by omega) ?_
    | refine BndF.mk (fun _ => by simp only [List.length_map, List.length_cons, List.length_nil, List.length_append, List.length_set, List.length_replicate, iotaI_len]; omega) ?_
    | refine EqI.mk _ (fun _ => wrapI (by omega) (by omega)) ?_
    | refine EqI.mk _ (fun _ => rfl) ?_
    | refine EqN.mk _ (Nat.zero_add _) ?_
    | refine EqN.mk _ (Int.toNat_natCast _) ?_
    | refine EqN.mk _ rfl ?_
    | refine EqL.mk _ (tk eI (by first | rfl | assumption | omega | (simp only [List.length_map, List.length_cons, List.length_nil, List.length_append, List.length_set, List.length_replicate, iotaI_len]; done) | (simp only [List.length_map, List.length_cons, List.length_nil, List.length_append, List.length_set, List.length_replicate, iotaI_len]; omega))) ?_
    | refine EqL.mk _ (dt eI) ?_
    | refine EqL.mk _ (tk eB (by first | rfl | assumption | omega | (simp only [List.length_map, List.length_cons, List.length_nil, List.length_append, List.length_set, List.length_replicate, iotaI_len]; done) | (simp only [List.length_map, List.length_cons, List.length_nil, List.length_append, List.length_set, List.length_replicate, iotaI_len]; omega))) ?_
    | refine EqL.mk _ (dt eB) ?_
    | refine EqL.mk [] rfl ?_
    | refine EqL.mk [_] rfl ?_
    | refine EqL.mk _ rfl ?_
    | refine ArgF.is (c_spec_l12Ask ⟨_, _⟩ _ _ _) ?_
    | refine ArgQ.is (fun hG => c_spec_l12Ask ⟨_, _⟩ _ _ _) rfl rfl ?_
    | refine ArgF.is (c_spec_l12Fit ⟨_, _⟩ _ _ _ (by first | assumption | omega) (by first | assumption | omega)) ?_
    | refine ArgQ.is (fun hG => c_spec_l12Fit ⟨_, _⟩ _ _ _ (by first | assumption | omega) (by first | assumption | omega)) rfl rfl ?_
    | refine ArgF.is (c_spec_l12Loops_run ..) ?_
    | refine ArgQ.is (fun hG => c_spec_l12Loops_run ..) rfl rfl ?_
    | refine ArgF.is (c_spec_l00Own _ (by first | assumption | omega)) ?_
    | refine ArgQ.is (fun hG => c_spec_l00Own _ (by first | assumption | omega)) rfl rfl ?_
    | refine CallF.mk (CallW.is [] true rfl ?_)
    | refine CallG.mk ?_
    | (refine CondF.mk (fun hb => ?_) (fun hb => ?_) <;> try simp only [forall_const, eq_self, not_true_eq_false, not_false_eq_true, or_false, false_or, or_self, or_true, true_or, and_true, true_and, and_false, false_and, decide_true, decide_false, Bool.not_true, Bool.not_false, decide_eq_true_eq, decide_eq_false_iff_not, ite_and_p, ite_or_p, Bool.decide_eq_true, Bool.and_eq_true, Bool.or_eq_true, Bool.not_eq_true', Bool.not_eq_false', Bool.and_eq_false_imp, Bool.or_eq_false_iff, bne_iff_ne, beq_iff_eq, bne_eq_false_iff_eq, beq_eq_false_iff_ne, gt_iff_lt, ge_iff_le, Int.not_lt, Int.not_le, ne_eq, Bool.true_eq_false, Bool.false_eq_true, reduceCtorEq, eta_Airway, eta_Fan, eta_Mine] at hb)
    | apply BackF.auto
    | refine BackB.mk ?_ ?_
    | refine RetF.auto (And.intro rfl ?_)
    | exact Is.mk rfl rfl
    | refine Is.mk ?_ rfl
    | refine Is.mk rfl ?_
    | refine Is.mk ?_ ?_
  all_goals try dsimp only
  all_goals first
    | omega
    | (unfold wrongV; rw [if_neg hb]; first | rfl | exact ⟨rfl, rfl, rfl⟩)
    | (rw [wrong_no (by assumption) hp]; first | rfl | exact ⟨rfl, rfl, rfl⟩)
    | (have q := okMine_p (askB_l (show askB m ds ps rg = 0 by assumption)).1
       exact ⟨by omega, by omega, by assumption, by omega, wrong_2 (askB_l (show askB m ds ps rg = 0 by assumption)).1⟩)
    | exact ⟨by omega, by omega, by unfold wrongL; rw [show (m.junctions - 0).toNat = m.junctions.toNat by omega]; rfl⟩
    | (have es : ((s.toNat : Nat) : Int) = s := by omega
       obtain ⟨x, hx⟩ := Option.isSome_iff_exists.1 (e1.symm.trans (by assumption))
       have w1 := k2.trans (loopT_t (x := x) (by omega) (by rw [es]; exact hx))
       have w2 := j3.trans (loopT_t (by omega) w1)
       have q := e3 _ hx
       have wv : wrongV m ds ps rg = (x.1, x.2, 0) := by unfold wrongV; rw [if_pos j4, w2]
       first
       | (rw [wv, q.1]; rfl)
       | (rw [wv]; exact ⟨by rw [q.1], q.2, rfl⟩))
    | (have es : ((s.toNat : Nat) : Int) = s := by omega
       have nl := n2_len (by assumption) e1 e2 e4
       refine ⟨by omega, by omega, ?_⟩
       rw [k2, loopT_n (by omega) (by rw [es]; exact nl.1), show (m.junctions - s).toNat - 1 = (m.junctions - (s + 1)).toNat by omega, show s.toNat + 1 = (s + 1).toNat by omega])
    | (have w1 := k2.trans (loopT_z (by omega))
       refine ⟨by omega, by omega, j4, j2, ?_⟩
       rw [j3, loopT_n (by omega) w1, show (m.junctions + 1 - l).toNat - 1 = (m.junctions + 1 - (l + 1)).toNat by omega, show l.toNat + 1 = (l + 1).toNat by omega])
    | (have w1 := j3.trans (loopT_z (by omega))
       have wv : wrongV m ds ps rg = ([], 0, 3) := by unfold wrongV; rw [if_pos j4, w1]
       rw [wv]
       first
       | rfl
       | exact ⟨rfl, rfl, rfl⟩)
    | skip
theorem wrong_len {m : GMine} {ds ps : List Int} {rg : List Bool} : (wrongV m ds ps rg).1.length ≤ 30 := by
  unfold wrongV
  split
  · rename_i h
    have q := askB_l h
    split
    · rename_i x hx
      obtain ⟨s, es, _, _, _, e4, _, _, _, e8⟩ := wrong_s q.1 (w := x.1) (t := x.2) hx
      have := (okMine_p q.1).1
      rw [e4, spW_len]; omega
    · simp
  · simp
end Go.Proofs.Ytfeebelnpibppaa
