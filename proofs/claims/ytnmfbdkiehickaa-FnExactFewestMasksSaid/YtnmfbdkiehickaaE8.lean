/- Contracts of functions of the program, and what they compute. Conditions: those that each theorem states. -/
import Derived.Test.YtnmfbdkiehickaaProg
import Derived.Test.YtnmfbdkiehickaaE1
import Derived.Test.YtnmfbdkiehickaaE2
import Derived.Test.YtnmfbdkiehickaaK16
set_option linter.unusedVariables false
set_option linter.unusedSimpArgs false
namespace Go.Proofs.Ytnmfbdkiehickaa
open Go.Av
attribute [local irreducible] Go.IntKind.wrap dTo okDusts okStays okDust okStay dS dAt expo
set_option maxRecDepth 20000
set_option maxHeartbeats 8000000

/-! The reference's tasks, stays and exposures. -/
theorem c_spec_l14Airway (x : Int) : FnSem Try.prog 200 [In x] [] (Is [Bo (inR x 0 23)] []) := by
  refine FnSem.walk (zs := zeroPV Try.prog) (by kernel_rfl) Try.func200 rfl Try.results200 (by kernel_rfl) (by kernel_rfl) (by kernel_rfl) fun hw hh => ?_
  obtain ⟨w0, _⟩ := hw
  first | replace w0 := wf_I w0 | replace w0 := wf_Y w0 | replace w0 := wf_S w0 | replace w0 := wf_LI w0 | replace w0 := wf_LY w0 | replace w0 := wf_LLI w0 | replace w0 := wf_Ls w0 | skip
  repeat' first
    | refine And.intro rfl ?_
    | refine GdF.mk (fun h => h) ?_
    | refine And.intro (Nat.succ_ne_zero _) ?_
    | refine And.intro (Nat.le_of_ble_eq_true rfl) ?_
    | refine SeqF.run ?_
    | refine GhF.go ?_
    | refine BndF.mk (fun _ => by omega) ?_
    | refine BndF.mk (fun _ => by simp only [List.length_map, List.length_cons, List.length_nil, List.length_append, List.length_set, List.length_replicate, iotaI_len]; omega) ?_
    | refine EqL.mk [] rfl ?_
    | refine EqL.mk [_] rfl ?_
    | refine EqL.mk _ rfl ?_
    | refine ArgF.is (c_spec_l00In ..) ?_
    | refine ArgQ.is (fun hG => c_spec_l00In ..) rfl rfl ?_
    | refine CallF.mk (CallW.is [] true rfl ?_)
    | refine CallG.mk ?_
    | (refine CondF.mk (fun hb => ?_) (fun hb => ?_) <;> try simp only [forall_const, eq_self, not_true_eq_false, not_false_eq_true, or_false, false_or, or_self, or_true, true_or, and_true, true_and, and_false, false_and, decide_true, decide_false, Bool.not_true, Bool.not_false, decide_eq_true_eq, decide_eq_false_iff_not, ite_and_p, ite_or_p, Bool.decide_eq_true, Bool.and_eq_true, Bool.or_eq_true, Bool.not_eq_true', Bool.not_eq_false', Bool.and_eq_false_imp, Bool.or_eq_false_iff, bne_iff_ne, beq_iff_eq, bne_eq_false_iff_eq, beq_eq_false_iff_ne, gt_iff_lt, ge_iff_le, Int.not_lt, Int.not_le, ne_eq, Bool.true_eq_false, Bool.false_eq_true, reduceCtorEq, eta_Airway, eta_Door, eta_Dusting, eta_Fan, eta_Mine, eta_Mode] at hb)
    | refine RetF.auto (And.intro rfl ?_)
    | exact Is.mk rfl rfl
    | refine Is.mk ?_ rfl
    | refine Is.mk rfl ?_
    | refine Is.mk ?_ ?_
theorem c_spec_l14Dust (x : Int) : FnSem Try.prog 251 [In x] [] (Is [Bo (inR x 0 1000000)] []) := by
  refine FnSem.walk (zs := zeroPV Try.prog) (by kernel_rfl) Try.func251 rfl Try.results251 (by kernel_rfl) (by kernel_rfl) (by kernel_rfl) fun hw hh => ?_
  obtain ⟨w0, _⟩ := hw
  first | replace w0 := wf_I w0 | replace w0 := wf_Y w0 | replace w0 := wf_S w0 | replace w0 := wf_LI w0 | replace w0 := wf_LY w0 | replace w0 := wf_LLI w0 | replace w0 := wf_Ls w0 | skip
  repeat' first
    | refine And.intro rfl ?_
    | refine GdF.mk (fun h => h) ?_
    | refine And.intro (Nat.succ_ne_zero _) ?_
    | refine And.intro (Nat.le_of_ble_eq_true rfl) ?_
    | refine SeqF.run ?_
    | refine GhF.go ?_
    | refine BndF.mk (fun _ => by omega) ?_
    | refine BndF.mk (fun _ => by simp only [List.length_map, List.length_cons, List.length_nil, List.length_append, List.length_set, List.length_replicate, iotaI_len]; omega) ?_
    | refine EqL.mk [] rfl ?_
    | refine EqL.mk [_] rfl ?_
    | refine EqL.mk _ rfl ?_
    | refine ArgF.is (c_spec_l00In ..) ?_
    | refine ArgQ.is (fun hG => c_spec_l00In ..) rfl rfl ?_
    | refine CallF.mk (CallW.is [] true rfl ?_)
    | refine CallG.mk ?_
    | (refine CondF.mk (fun hb => ?_) (fun hb => ?_) <;> try simp only [forall_const, eq_self, not_true_eq_false, not_false_eq_true, or_false, false_or, or_self, or_true, true_or, and_true, true_and, and_false, false_and, decide_true, decide_false, Bool.not_true, Bool.not_false, decide_eq_true_eq, decide_eq_false_iff_not, ite_and_p, ite_or_p, Bool.decide_eq_true, Bool.and_eq_true, Bool.or_eq_true, Bool.not_eq_true', Bool.not_eq_false', Bool.and_eq_false_imp, Bool.or_eq_false_iff, bne_iff_ne, beq_iff_eq, bne_eq_false_iff_eq, beq_eq_false_iff_ne, gt_iff_lt, ge_iff_le, Int.not_lt, Int.not_le, ne_eq, Bool.true_eq_false, Bool.false_eq_true, reduceCtorEq, eta_Airway, eta_Door, eta_Dusting, eta_Fan, eta_Mine, eta_Mode] at hb)
    | refine RetF.auto (And.intro rfl ?_)
    | exact Is.mk rfl rfl
    | refine Is.mk ?_ rfl
    | refine Is.mk rfl ?_
    | refine Is.mk ?_ ?_
theorem c_spec_l14Minutes (x y : Int) : FnSem Try.prog 201 [In x, In y] [] (Is [Bo (inR x 0 1439 && inR y (x + 1) 1440)] []) := by
  refine FnSem.walk (zs := zeroPV Try.prog) (by kernel_rfl) Try.func201 rfl Try.results201 (by kernel_rfl) (by kernel_rfl) (by kernel_rfl) fun hw hh => ?_
  obtain ⟨w0, w1, _⟩ := hw
  first | replace w0 := wf_I w0 | replace w0 := wf_Y w0 | replace w0 := wf_S w0 | replace w0 := wf_LI w0 | replace w0 := wf_LY w0 | replace w0 := wf_LLI w0 | replace w0 := wf_Ls w0 | skip
  first | replace w1 := wf_I w1 | replace w1 := wf_Y w1 | replace w1 := wf_S w1 | replace w1 := wf_LI w1 | replace w1 := wf_LY w1 | replace w1 := wf_LLI w1 | replace w1 := wf_Ls w1 | skip
  repeat' first
    | refine And.intro rfl ?_
    | refine GdF.mk (fun h => h) ?_
    | refine And.intro (Nat.succ_ne_zero _) ?_
    | refine And.intro (Nat.le_of_ble_eq_true rfl) ?_
    | refine SeqF.run ?_
    | refine GhF.go ?_
    | refine GdS.keep ?_
    | refine BndF.mk (fun _ => by omega) ?_
    | refine BndF.mk (fun _ => by simp only [List.length_map, List.length_cons, List.length_nil, List.length_append, List.length_set, List.length_replicate, iotaI_len]; omega) ?_
    | refine BndF.mk (fun hG => by simp only [forall_const, eq_self, not_true_eq_false, not_false_eq_true, or_false, false_or, or_self, or_true, true_or, and_true, true_and, and_false, false_and, decide_true, decide_false, Bool.not_true, Bool.not_false, decide_eq_true_eq, decide_eq_false_iff_not, ite_and_p, ite_or_p, Bool.decide_eq_true, Bool.and_eq_true, Bool.or_eq_true, Bool.not_eq_true', Bool.not_eq_false', Bool.and_eq_false_imp, Bool.or_eq_false_iff, bne_iff_ne, beq_iff_eq, bne_eq_false_iff_eq, beq_eq_false_iff_ne, gt_iff_lt, ge_iff_le, Int.not_lt, Int.not_le, ne_eq, Bool.true_eq_false, Bool.false_eq_true, reduceCtorEq, eta_Airway, eta_Door, eta_Dusting, eta_Fan, eta_Mine, eta_Mode, bytes_nil] at hG; (try simp only [List.length_map]); omega) ?_
    | refine EqI.mk _ (fun _ => wrapI (by omega) (by omega)) ?_
    | refine EqI.mk _ (fun _ => rfl) ?_
    | refine EqL.mk [] rfl ?_
    | refine EqL.mk [_] rfl ?_
    | refine EqL.mk _ rfl ?_
    | refine ArgF.is (c_spec_l00In ..) ?_
    | refine ArgQ.is (fun hG => c_spec_l00In ..) rfl rfl ?_
    | refine CallF.mk (CallW.is [] true rfl ?_)
    | refine CallG.mk ?_
    | (refine CondF.mk (fun hb => ?_) (fun hb => ?_) <;> try simp only [forall_const, eq_self, not_true_eq_false, not_false_eq_true, or_false, false_or, or_self, or_true, true_or, and_true, true_and, and_false, false_and, decide_true, decide_false, Bool.not_true, Bool.not_false, decide_eq_true_eq, decide_eq_false_iff_not, ite_and_p, ite_or_p, Bool.decide_eq_true, Bool.and_eq_true, Bool.or_eq_true, Bool.not_eq_true', Bool.not_eq_false', Bool.and_eq_false_imp, Bool.or_eq_false_iff, bne_iff_ne, beq_iff_eq, bne_eq_false_iff_eq, beq_eq_false_iff_ne, gt_iff_lt, ge_iff_le, Int.not_lt, Int.not_le, ne_eq, Bool.true_eq_false, Bool.false_eq_true, reduceCtorEq, eta_Airway, eta_Door, eta_Dusting, eta_Fan, eta_Mine, eta_Mode] at hb)
    | refine RetF.auto (And.intro rfl ?_)
    | exact Is.mk rfl rfl
    | refine Is.mk ?_ rfl
    | refine Is.mk rfl ?_
    | refine Is.mk ?_ ?_
  all_goals try dsimp only
  all_goals try simp only [Bo, I, OB.row.injEq, AV.osl.injEq, eI_same,  List.cons.injEq, AV.p.injEq, PV.c.injEq, Value.int.injEq, Value.bool.injEq, and_true, true_and, ite_and_p, ite_or_p, Bool.decide_eq_true, eta_Airway, eta_Door, eta_Dusting, eta_Fan, eta_Mine, eta_Mode]
  by_cases h : inR x 0 1439 = true
  · have := inR_iff.1 h
    rw [wrapI (by omega) (by omega)]
  · simp [h]
theorem ok_sp (x : GDusting) : okDust x = (inR x.airway 0 23 && (inR x.from_ 0 1439 && inR x.until_ (x.from_ + 1) 1440) && inR x.dust 0 1000000) := by
  unfold okDust inR
  rw [Bool.eq_iff_iff]
  simp only [Bool.and_eq_true, decide_eq_true_eq]
  omega
theorem c_spec_l14One (x : GDusting) : FnSem Try.prog 199 [.p .any (.ref x.cells)] [] (Is [Bo (okDust x)] []) := by
  refine FnSem.walk (zs := zeroPV Try.prog) (by kernel_rfl) Try.func199 rfl Try.results199 (by kernel_rfl) (by kernel_rfl) (by kernel_rfl) fun hw hh => ?_
  obtain ⟨w0, _⟩ := hw
  first | replace w0 := wfr_Dusting w0 | skip
  repeat' first
    | refine And.intro rfl ?_
    | refine GdF.mk (fun h => h) ?_
    | refine And.intro (Nat.succ_ne_zero _) ?_
    | refine And.intro (Nat.le_of_ble_eq_true rfl) ?_
    | refine SeqF.run ?_
    | refine GhF.go ?_
    | refine GdS.keep ?_
    | refine DrawG.old (DrawF.lex (by decide +kernel) ?_)
    | refine BndF.mk (fun _ => by omega) ?_
    | refine BndF.mk (fun _ => by simp only [List.length_map, List.length_cons, List.length_nil, List.length_append, List.length_set, List.length_replicate, iotaI_len]; omega) ?_
    | refine BndF.mk (fun hG => by simp only [forall_const, eq_self, not_true_eq_false, not_false_eq_true, or_false, false_or, or_self, or_true, true_or, and_true, true_and, and_false, false_and, decide_true, decide_false, Bool.not_true, Bool.not_false, decide_eq_true_eq, decide_eq_false_iff_not, ite_and_p, ite_or_p, Bool.decide_eq_true, Bool.and_eq_true, Bool.or_eq_true, Bool.not_eq_true', Bool.not_eq_false', Bool.and_eq_false_imp, Bool.or_eq_false_iff, bne_iff_ne, beq_iff_eq, bne_eq_false_iff_eq, beq_eq_false_iff_ne, gt_iff_lt, ge_iff_le, Int.not_lt, Int.not_le, ne_eq, Bool.true_eq_false, Bool.false_eq_true, reduceCtorEq, eta_Airway, eta_Door, eta_Dusting, eta_Fan, eta_Mine, eta_Mode, bytes_nil] at hG; (try simp only [List.length_map]); omega) ?_
    | refine EqL.mk [] rfl ?_
    | refine EqL.mk [_] rfl ?_
    | refine EqL.mk _ rfl ?_
    | refine ArgF.is (c_spec_l14Airway ..) ?_
    | refine ArgQ.is (fun hG => c_spec_l14Airway ..) rfl rfl ?_
    | refine ArgF.is (c_spec_l14Minutes ..) ?_
    | refine ArgQ.is (fun hG => c_spec_l14Minutes ..) rfl rfl ?_
    | refine ArgF.is (c_spec_l14Dust ..) ?_
    | refine ArgQ.is (fun hG => c_spec_l14Dust ..) rfl rfl ?_
    | refine CallF.mk (CallW.is [] true rfl ?_)
    | refine CallG.mk ?_
    | (refine CondF.mk (fun hb => ?_) (fun hb => ?_) <;> try simp only [forall_const, eq_self, not_true_eq_false, not_false_eq_true, or_false, false_or, or_self, or_true, true_or, and_true, true_and, and_false, false_and, decide_true, decide_false, Bool.not_true, Bool.not_false, decide_eq_true_eq, decide_eq_false_iff_not, ite_and_p, ite_or_p, Bool.decide_eq_true, Bool.and_eq_true, Bool.or_eq_true, Bool.not_eq_true', Bool.not_eq_false', Bool.and_eq_false_imp, Bool.or_eq_false_iff, bne_iff_ne, beq_iff_eq, bne_eq_false_iff_eq, beq_eq_false_iff_ne, gt_iff_lt, ge_iff_le, Int.not_lt, Int.not_le, ne_eq, Bool.true_eq_false, Bool.false_eq_true, reduceCtorEq, eta_Airway, eta_Door, eta_Dusting, eta_Fan, eta_Mine, eta_Mode] at hb)
    | refine RetF.auto (And.intro rfl ?_)
    | exact Is.mk rfl rfl
    | refine Is.mk ?_ rfl
    | refine Is.mk rfl ?_
    | refine Is.mk ?_ ?_
  all_goals try dsimp only
  all_goals try simp only [Bo, I, OB.row.injEq, AV.osl.injEq, eI_same,  List.cons.injEq, AV.p.injEq, PV.c.injEq, Value.int.injEq, Value.bool.injEq, and_true, true_and, ite_and_p, ite_or_p, Bool.decide_eq_true, eta_Airway, eta_Door, eta_Dusting, eta_Fan, eta_Mine, eta_Mode]
  · rw [ok_sp]
theorem c_spec_l14Ok (ds : List GDusting) : FnSem Try.prog 132 [LD ds] [] (Is [Bo (okDusts ds)] []) := by
  refine FnSem.walk (zs := zeroPV Try.prog) (by kernel_rfl) Try.func132 rfl Try.results132 (by kernel_rfl) (by kernel_rfl) (by kernel_rfl) fun hw hh => ?_
  obtain ⟨w0, _⟩ := hw
  first | replace w0 := wf_LDusting w0 | skip
  repeat' first
    | refine And.intro rfl ?_
    | refine GdF.mk (fun h => h) ?_
    | refine And.intro (Nat.succ_ne_zero _) ?_
    | refine And.intro (Nat.le_of_ble_eq_true rfl) ?_
    | refine SeqF.run ?_
    | refine ArgF.is (c_spec_l14One (ds.getD i.toNat default)) ?_
    | refine ArgQ.is (fun hG => c_spec_l14One (ds.getD i.toNat default)) rfl rfl ?_
    | refine LoopF.at 2 rfl (LoopF.fix [0] (Int) (fun i => 0 ≤ i ∧ i ≤ ds.length ∧ ∀ j : Nat, (j : Int) < i → okDust (ds.getD j default) = true) (fun i => [(3, In i)]) (fun i => []) (fun i => ((ds.length - i).toNat)) (0) ?_)
    | (refine LoopB.of (T := Int) ?_ ?_; rotate_left; rintro i ⟨h0, h1, h2⟩; rotate_left)
    | refine GhF.go ?_
    | refine EqP.mk _ (gm GDusting.cells default rfl) ?_
    | refine BndF.mk (fun _ => by omega) ?_
    | refine BndF.mk (fun _ => by simp only [List.length_map, List.length_cons, List.length_nil, List.length_append, List.length_set, List.length_replicate, iotaI_len]; omega) ?_
    | refine EqI.mk _ (fun _ => wrapI (by omega) (by omega)) ?_
    | refine EqI.mk _ (fun _ => rfl) ?_
    | refine EqN.mk _ (ln GDusting.cells) ?_
    | refine EqN.mk _ (Nat.zero_add _) ?_
    | refine EqN.mk _ (Int.toNat_natCast _) ?_
    | refine EqN.mk _ rfl ?_
    | refine EqL.mk _ (tk GDusting.cells (by first | rfl | assumption | omega | (simp only [List.length_map, List.length_cons, List.length_nil, List.length_append, List.length_set, List.length_replicate, iotaI_len]; done) | (simp only [List.length_map, List.length_cons, List.length_nil, List.length_append, List.length_set, List.length_replicate, iotaI_len]; omega))) ?_
    | refine EqL.mk [] rfl ?_
    | refine EqL.mk [_] rfl ?_
    | refine EqL.mk _ rfl ?_
    | refine ArgF.is (c_spec_l14One ⟨_, _, _, _⟩) ?_
    | refine ArgQ.is (fun hG => c_spec_l14One ⟨_, _, _, _⟩) rfl rfl ?_
    | refine CallF.mk (CallW.is [] true rfl ?_)
    | refine CallG.mk ?_
    | (refine CondF.mk (fun hb => ?_) (fun hb => ?_) <;> try simp only [forall_const, eq_self, not_true_eq_false, not_false_eq_true, or_false, false_or, or_self, or_true, true_or, and_true, true_and, and_false, false_and, decide_true, decide_false, Bool.not_true, Bool.not_false, decide_eq_true_eq, decide_eq_false_iff_not, ite_and_p, ite_or_p, Bool.decide_eq_true, Bool.and_eq_true, Bool.or_eq_true, Bool.not_eq_true', Bool.not_eq_false', Bool.and_eq_false_imp, Bool.or_eq_false_iff, bne_iff_ne, beq_iff_eq, bne_eq_false_iff_eq, beq_eq_false_iff_ne, gt_iff_lt, ge_iff_le, Int.not_lt, Int.not_le, ne_eq, Bool.true_eq_false, Bool.false_eq_true, reduceCtorEq, eta_Airway, eta_Door, eta_Dusting, eta_Fan, eta_Mine, eta_Mode] at hb)
    | apply BackF.auto
    | refine BackB.mk ?_ ?_
    | refine RetF.auto (And.intro rfl ?_)
    | exact Is.mk rfl rfl
    | refine Is.mk ?_ rfl
    | refine Is.mk rfl ?_
    | refine Is.mk ?_ ?_
  all_goals try dsimp only
  all_goals try simp only [Bo, I, OB.row.injEq, AV.osl.injEq, eI_same,  List.cons.injEq, AV.p.injEq, PV.c.injEq, Value.int.injEq, Value.bool.injEq, and_true, true_and, ite_and_p, ite_or_p, Bool.decide_eq_true, eta_Airway, eta_Door, eta_Dusting, eta_Fan, eta_Mine, eta_Mode]
  · exact ⟨by omega, by omega, all_0⟩
  · unfold okDusts; rw [← all_f (p := okDust) h0 (by omega) (by assumption), Bool.and_false]
  · exact ⟨by omega, by omega, all_s (P := fun j => okDust (ds.getD j default) = true) h0 h2 (by assumption)⟩
  · omega
  · unfold okDusts; rw [← all_t (p := okDust) (d := default) hb h2, Bool.and_true]; congr 1; simp only [eq_iff_iff]; omega
theorem st_sp (s : List Int) : okStay s = (decide (s.length = 3) && inR (s.getD 0 0) 0 23 && (inR (s.getD 1 0) 0 1439 && inR (s.getD 2 0) (s.getD 1 0 + 1) 1440)) := by
  unfold okStay okDust inR
  rw [Bool.eq_iff_iff]
  simp only [Bool.and_eq_true, decide_eq_true_eq]
  omega
theorem c_spec_l14Stays (ss : List (List Int)) : FnSem Try.prog 133 [Lx (LLI ss)] [] (Is [Bo (okStays ss)] []) := by
  refine FnSem.walk (zs := zeroPV Try.prog) (by kernel_rfl) Try.func133 rfl Try.results133 (by kernel_rfl) (by kernel_rfl) (by kernel_rfl) fun hw hh => ?_
  obtain ⟨w0, _⟩ := hw
  first | replace w0 := wf_I w0 | replace w0 := wf_Y w0 | replace w0 := wf_S w0 | replace w0 := wf_LI w0 | replace w0 := wf_LY w0 | replace w0 := wf_LLI w0 | replace w0 := wf_Ls w0 | skip
  repeat' first
    | refine And.intro rfl ?_
    | refine GdF.mk (fun h => h) ?_
    | refine And.intro (Nat.succ_ne_zero _) ?_
    | refine And.intro (Nat.le_of_ble_eq_true rfl) ?_
    | refine SeqF.run ?_
    | refine BndF.mk (fun hG => by simp only [Bool.not_eq_true', bne_eq_false_iff_eq] at hG; simp only [List.length_map]; omega) ?_
    | refine LoopF.at 2 rfl (LoopF.fix [0] (Int) (fun i => 0 ≤ i ∧ i ≤ ss.length ∧ ∀ j : Nat, (j : Int) < i → okStay (ss.getD j []) = true) (fun i => [(3, In i)]) (fun i => []) (fun i => ((ss.length - i).toNat)) (0) ?_)
    | (refine LoopB.of (T := Int) ?_ ?_; rotate_left; rintro i ⟨h0, h1, h2⟩; rotate_left)
    | refine GhF.go ?_
    | refine GdS.keep ?_
    | refine DrawG.old (DrawF.lex (by decide +kernel) ?_)
    | refine EqP.mk _ (gm eI 0 rfl) ?_
    | refine EqP.mk _ (gmb eLI [] (by omega)) ?_
    | refine BndF.mk (fun _ => by omega) ?_
    | refine BndF.mk (fun _ => by simp only [List.length_map, List.length_cons, List.length_nil, List.length_append, List.length_set, List.length_replicate, iotaI_len]; omega) ?_
    | refine BndF.mk (fun hG => by simp only [forall_const, eq_self, not_true_eq_false, not_false_eq_true, or_false, false_or, or_self, or_true, true_or, and_true, true_and, and_false, false_and, decide_true, decide_false, Bool.not_true, Bool.not_false, decide_eq_true_eq, decide_eq_false_iff_not, ite_and_p, ite_or_p, Bool.decide_eq_true, Bool.and_eq_true, Bool.or_eq_true, Bool.not_eq_true', Bool.not_eq_false', Bool.and_eq_false_imp, Bool.or_eq_false_iff, bne_iff_ne, beq_iff_eq, bne_eq_false_iff_eq, beq_eq_false_iff_ne, gt_iff_lt, ge_iff_le, Int.not_lt, Int.not_le, ne_eq, Bool.true_eq_false, Bool.false_eq_true, reduceCtorEq, eta_Airway, eta_Door, eta_Dusting, eta_Fan, eta_Mine, eta_Mode, bytes_nil] at hG; (try simp only [List.length_map]); omega) ?_
    | refine EqI.mk _ (fun _ => wrapI (by omega) (by omega)) ?_
    | refine EqI.mk _ (fun _ => rfl) ?_
    | refine EqN.mk _ (ln eI) ?_
    | refine EqN.mk _ (ln eLI) ?_
    | refine EqN.mk _ (Nat.zero_add _) ?_
    | refine EqN.mk _ (Int.toNat_natCast _) ?_
    | refine EqN.mk _ rfl ?_
    | refine EqL.mk _ (tk eI (by first | rfl | assumption | omega | (simp only [List.length_map, List.length_cons, List.length_nil, List.length_append, List.length_set, List.length_replicate, iotaI_len]; done) | (simp only [List.length_map, List.length_cons, List.length_nil, List.length_append, List.length_set, List.length_replicate, iotaI_len]; omega))) ?_
    | refine EqL.mk _ (tk eLI (by first | rfl | assumption | omega | (simp only [List.length_map, List.length_cons, List.length_nil, List.length_append, List.length_set, List.length_replicate, iotaI_len]; done) | (simp only [List.length_map, List.length_cons, List.length_nil, List.length_append, List.length_set, List.length_replicate, iotaI_len]; omega))) ?_
    | refine EqL.mk [] rfl ?_
    | refine EqL.mk [_] rfl ?_
    | refine EqL.mk _ rfl ?_
    | refine ArgF.is (c_spec_l14Airway ..) ?_
    | refine ArgQ.is (fun hG => c_spec_l14Airway ..) rfl rfl ?_
    | refine ArgF.is (c_spec_l14Minutes ..) ?_
    | refine ArgQ.is (fun hG => c_spec_l14Minutes ..) rfl rfl ?_
    | refine CallF.mk (CallW.is [] true rfl ?_)
    | refine CallG.mk ?_
    | (refine CondF.mk (fun hb => ?_) (fun hb => ?_) <;> try simp only [forall_const, eq_self, not_true_eq_false, not_false_eq_true, or_false, false_or, or_self, or_true, true_or, and_true, true_and, and_false, false_and, decide_true, decide_false, Bool.not_true, Bool.not_false, decide_eq_true_eq, decide_eq_false_iff_not, ite_and_p, ite_or_p, Bool.decide_eq_true, Bool.and_eq_true, Bool.or_eq_true, Bool.not_eq_true', Bool.not_eq_false', Bool.and_eq_false_imp, Bool.or_eq_false_iff, bne_iff_ne, beq_iff_eq, bne_eq_false_iff_eq, beq_eq_false_iff_ne, gt_iff_lt, ge_iff_le, Int.not_lt, Int.not_le, ne_eq, Bool.true_eq_false, Bool.false_eq_true, reduceCtorEq, eta_Airway, eta_Door, eta_Dusting, eta_Fan, eta_Mine, eta_Mode] at hb)
    | apply BackF.auto
    | refine BackB.mk ?_ ?_
    | refine RetF.auto (And.intro rfl ?_)
    | exact Is.mk rfl rfl
    | refine Is.mk ?_ rfl
    | refine Is.mk rfl ?_
    | refine Is.mk ?_ ?_
  all_goals try dsimp only
  all_goals try simp only [Bo, I, OB.row.injEq, AV.osl.injEq, eI_same,  List.cons.injEq, AV.p.injEq, PV.c.injEq, Value.int.injEq, Value.bool.injEq, and_true, true_and, ite_and_p, ite_or_p, Bool.decide_eq_true, eta_Airway, eta_Door, eta_Dusting, eta_Fan, eta_Mine, eta_Mode]
  · exact ⟨by omega, by omega, all_0⟩
  · have e : okStay (ss.getD i.toNat []) = false := by rw [st_sp]; simp only [Int.toNat_zero, Int.reduceToNat] at hb; grind
    unfold okStays; rw [← all_f (p := okStay) h0 (by omega) e, Bool.and_false]
  · have e : okStay (ss.getD i.toNat []) = true := by rw [st_sp]; simp only [Int.toNat_zero, Int.reduceToNat] at hb; grind
    exact ⟨by omega, by omega, all_s (P := fun j => okStay (ss.getD j []) = true) h0 h2 e⟩
  · omega
  · unfold okStays; rw [← all_t (p := okStay) (d := []) hb h2, Bool.and_true]; congr 1; simp only [eq_iff_iff]; omega
theorem c_spec_l14At (ds : List GDusting) (a t : Int) (hd : okDusts ds = true) : FnSem Try.prog 202 [LD ds, In a, In t] [] (Is [In (dAt ds a t)] []) := by
  have hl := (okDusts_b hd).1
  refine FnSem.walk (zs := zeroPV Try.prog) (by kernel_rfl) Try.func202 rfl Try.results202 (by kernel_rfl) (by kernel_rfl) (by kernel_rfl) fun hw hh => ?_
  obtain ⟨w0, w1, w2, _⟩ := hw
  first | replace w0 := wf_LDusting w0 | skip
  first | replace w1 := wf_I w1 | replace w1 := wf_Y w1 | replace w1 := wf_S w1 | replace w1 := wf_LI w1 | replace w1 := wf_LY w1 | replace w1 := wf_LLI w1 | replace w1 := wf_Ls w1 | skip
  first | replace w2 := wf_I w2 | replace w2 := wf_Y w2 | replace w2 := wf_S w2 | replace w2 := wf_LI w2 | replace w2 := wf_LY w2 | replace w2 := wf_LLI w2 | replace w2 := wf_Ls w2 | skip
  repeat' first
    | refine And.intro rfl ?_
    | refine GdF.mk (fun h => h) ?_
    | refine And.intro (Nat.succ_ne_zero _) ?_
    | refine And.intro (Nat.le_of_ble_eq_true rfl) ?_
    | refine SeqF.run ?_
    | refine EqI.mk _ (fun _ => wrapI (by have := okD_at hd (i := i) (by omega) (by omega); have := dTo_b (a := a) (t := t) hd i.toNat (by omega); omega) (by have := okD_at hd (i := i) (by omega) (by omega); have := dTo_b (a := a) (t := t) hd i.toNat (by omega); omega)) ?_
    | refine LoopF.at 3 rfl (LoopF.fix [0, 1, 2] (Int × Int) (fun (s, i) => 0 ≤ i ∧ i ≤ ds.length ∧ s = dTo ds a t i.toNat) (fun (s, i) => [(7, In s), (8, In i)]) (fun (s, i) => []) (fun (s, i) => ((ds.length - i).toNat)) ((0, 0)) ?_)
    | (refine LoopB.of (T := Int × Int) ?_ ?_; rotate_left; rintro ⟨s, i⟩ ⟨h0, h1, h2⟩; rotate_left)
    | refine GhF.go ?_
    | refine GdS.keep ?_
    | refine EqP.mk _ (gm GDusting.cells default rfl) ?_
    | refine BndF.mk (fun _ => by omega) ?_
    | refine BndF.mk (fun _ => by simp only [List.length_map, List.length_cons, List.length_nil, List.length_append, List.length_set, List.length_replicate, iotaI_len]; omega) ?_
    | refine BndF.mk (fun hG => by simp only [forall_const, eq_self, not_true_eq_false, not_false_eq_true, or_false, false_or, or_self, or_true, true_or, and_true, true_and, and_false, false_and, decide_true, decide_false, Bool.not_true, Bool.not_false, decide_eq_true_eq, decide_eq_false_iff_not, ite_and_p, ite_or_p, Bool.decide_eq_true, Bool.and_eq_true, Bool.or_eq_true, Bool.not_eq_true', Bool.not_eq_false', Bool.and_eq_false_imp, Bool.or_eq_false_iff, bne_iff_ne, beq_iff_eq, bne_eq_false_iff_eq, beq_eq_false_iff_ne, gt_iff_lt, ge_iff_le, Int.not_lt, Int.not_le, ne_eq, Bool.true_eq_false, Bool.false_eq_true, reduceCtorEq, eta_Airway, eta_Door, eta_Dusting, eta_Fan, eta_Mine, eta_Mode, bytes_nil] at hG; (try simp only [List.length_map]); omega) ?_
    | refine EqI.mk _ (fun _ => wrapI (by omega) (by omega)) ?_
    | refine EqI.mk _ (fun _ => rfl) ?_
    | refine EqN.mk _ (ln GDusting.cells) ?_
    | refine EqN.mk _ (Nat.zero_add _) ?_
    | refine EqN.mk _ (Int.toNat_natCast _) ?_
    | refine EqN.mk _ rfl ?_
    | (refine CondF.mk (fun hb => ?_) (fun hb => ?_) <;> try simp only [forall_const, eq_self, not_true_eq_false, not_false_eq_true, or_false, false_or, or_self, or_true, true_or, and_true, true_and, and_false, false_and, decide_true, decide_false, Bool.not_true, Bool.not_false, decide_eq_true_eq, decide_eq_false_iff_not, ite_and_p, ite_or_p, Bool.decide_eq_true, Bool.and_eq_true, Bool.or_eq_true, Bool.not_eq_true', Bool.not_eq_false', Bool.and_eq_false_imp, Bool.or_eq_false_iff, bne_iff_ne, beq_iff_eq, bne_eq_false_iff_eq, beq_eq_false_iff_ne, gt_iff_lt, ge_iff_le, Int.not_lt, Int.not_le, ne_eq, Bool.true_eq_false, Bool.false_eq_true, reduceCtorEq, eta_Airway, eta_Door, eta_Dusting, eta_Fan, eta_Mine, eta_Mode] at hb)
    | apply BackF.auto2
    | refine BackB.mk ?_ ?_
    | refine RetF.auto (And.intro rfl ?_)
    | exact Is.mk rfl rfl
    | refine Is.mk ?_ rfl
    | refine Is.mk rfl ?_
    | refine Is.mk ?_ ?_
  all_goals try dsimp only
  all_goals try simp only [Bo, I, OB.row.injEq, AV.osl.injEq, eI_same,  List.cons.injEq, AV.p.injEq, PV.c.injEq, Value.int.injEq, Value.bool.injEq, and_true, true_and, ite_and_p, ite_or_p, Bool.decide_eq_true, eta_Airway, eta_Door, eta_Dusting, eta_Fan, eta_Mine, eta_Mode]
  all_goals try omega
  · exact ⟨by omega, by omega, by unfold dTo; rfl⟩
  · exact ⟨by omega, by omega, by rw [dTo_s h0, h2]; unfold dAt1; rw [if_pos (by omega)]⟩
  · exact ⟨by omega, by omega, by rw [dTo_s h0, h2]; unfold dAt1; rw [if_neg (by omega)]; omega⟩
  · rw [h2, show i.toNat = ds.length by omega]; unfold dAt; rfl
theorem c_spec_l14Exposure (ds : List GDusting) (s : List Int) (f : Int) (hd : okDusts ds = true) (hs : okStay s = true) (hf : 1 ≤ f) : FnSem Try.prog 134 [LD ds, Lx (LI s), In f] [] (Is [In (expo ds f s)] []) := by
  have hl := okStay_b hs
  have hB := fun t => dAt_b (a := s.getD 0 0) (t := t) hd
  have hQ : ∀ t, 0 ≤ dAt ds (s.getD 0 0) t / f ∧ dAt ds (s.getD 0 0) t / f ≤ 12000000 := fun t => ⟨Int.ediv_nonneg (hB t).1 (by omega), Int.le_trans (Int.ediv_le_self f (hB t).1) (hB t).2⟩
  have hS := fun k => dS_b (a := s.getD 0 0) (f := f) (u := s.getD 1 0) hd hf k
  refine FnSem.walk (zs := zeroPV Try.prog) (by kernel_rfl) Try.func134 rfl Try.results134 (by kernel_rfl) (by kernel_rfl) (by kernel_rfl) fun hw hh => ?_
  obtain ⟨w0, w1, w2, _⟩ := hw
  first | replace w0 := wf_LDusting w0 | skip
  first | replace w1 := wf_I w1 | replace w1 := wf_Y w1 | replace w1 := wf_S w1 | replace w1 := wf_LI w1 | replace w1 := wf_LY w1 | replace w1 := wf_LLI w1 | replace w1 := wf_Ls w1 | skip
  first | replace w2 := wf_I w2 | replace w2 := wf_Y w2 | replace w2 := wf_S w2 | replace w2 := wf_LI w2 | replace w2 := wf_LY w2 | replace w2 := wf_LLI w2 | replace w2 := wf_Ls w2 | skip
  repeat' first
    | refine And.intro rfl ?_
    | refine GdF.mk (fun h => h) ?_
    | refine And.intro (Nat.succ_ne_zero _) ?_
    | refine And.intro (Nat.le_of_ble_eq_true rfl) ?_
    | refine SeqF.run ?_
    | refine EqP.mk _ (gm 0 rfl) ?_
    | refine EqI.mk _ (fun _ => wrapD (hB _).1 (by omega) (by have := (hB i).2; simp only [Int.toNat_zero]; omega)) ?_
    | refine EqI.mk _ (fun _ => wrapI (by have := hQ i; have := hS (i - s.getD 1 0).toNat; simp only [Int.toNat_zero]; omega) (by have := hQ i; have := hS (i - s.getD 1 0).toNat; simp only [Int.toNat_zero]; omega)) ?_
    | refine LoopF.at 3 rfl (LoopF.fix [0, 1, 2] (Int × Int) (fun (x, i) => s.getD 1 0 ≤ i ∧ i ≤ s.getD 2 0 ∧ x = dS ds (s.getD 0 0) f (s.getD 1 0) (i - s.getD 1 0).toNat) (fun (x, i) => [(7, In x), (8, In i)]) (fun (x, i) => []) (fun (x, i) => ((s.getD 2 0 - i).toNat)) ((0, s.getD 1 0)) ?_)
    | (refine LoopB.of (T := Int × Int) ?_ ?_; rotate_left; rintro ⟨x, i⟩ ⟨h0, h1, h2⟩; rotate_left)
    | refine GhF.go ?_
    | refine EqP.mk _ (gm eI 0 rfl) ?_
    | refine EqP.mk _ (gm GDusting.cells default rfl) ?_
    | refine BndF.mk (fun _ => by omega) ?_
    | refine BndF.mk (fun _ => by simp only [List.length_map, List.length_cons, List.length_nil, List.length_append, List.length_set, List.length_replicate, iotaI_len]; omega) ?_
    | refine EqI.mk _ (fun _ => wrapI (by omega) (by omega)) ?_
    | refine EqI.mk _ (fun _ => wrapD (by omega) (by omega) (by omega)) ?_
    | refine EqI.mk _ (fun _ => rfl) ?_
    | refine EqN.mk _ (Nat.zero_add _) ?_
    | refine EqN.mk _ (Int.toNat_natCast _) ?_
    | refine EqN.mk _ rfl ?_
    | refine EqL.mk _ (tk eI (by first | rfl | assumption | omega | (simp only [List.length_map, List.length_cons, List.length_nil, List.length_append, List.length_set, List.length_replicate, iotaI_len]; done) | (simp only [List.length_map, List.length_cons, List.length_nil, List.length_append, List.length_set, List.length_replicate, iotaI_len]; omega))) ?_
    | refine EqL.mk _ (tk GDusting.cells (by first | rfl | assumption | omega | (simp only [List.length_map, List.length_cons, List.length_nil, List.length_append, List.length_set, List.length_replicate, iotaI_len]; done) | (simp only [List.length_map, List.length_cons, List.length_nil, List.length_append, List.length_set, List.length_replicate, iotaI_len]; omega))) ?_
    | refine EqL.mk [] rfl ?_
    | refine EqL.mk [_] rfl ?_
    | refine EqL.mk _ rfl ?_
    | refine ArgF.is (c_spec_l14At _ _ _ (by first | assumption | omega)) ?_
    | refine ArgQ.is (fun hG => c_spec_l14At _ _ _ (by first | assumption | omega)) rfl rfl ?_
    | refine ArgQ.is (fun hG => c_spec_l14At _ _ _ (by simp only [forall_const, eq_self, not_true_eq_false, not_false_eq_true, or_false, false_or, or_self, or_true, true_or, and_true, true_and, and_false, false_and, decide_true, decide_false, Bool.not_true, Bool.not_false, decide_eq_true_eq, decide_eq_false_iff_not, ite_and_p, ite_or_p, Bool.decide_eq_true, Bool.and_eq_true, Bool.or_eq_true, Bool.not_eq_true', Bool.not_eq_false', Bool.and_eq_false_imp, Bool.or_eq_false_iff, bne_iff_ne, beq_iff_eq, bne_eq_false_iff_eq, beq_eq_false_iff_ne, gt_iff_lt, ge_iff_le, Int.not_lt, Int.not_le, ne_eq, Bool.true_eq_false, Bool.false_eq_true, reduceCtorEq, eta_Airway, eta_Door, eta_Dusting, eta_Fan, eta_Mine, eta_Mode, bytes_nil] at hG; omega)) rfl rfl ?_
    | refine CallF.mk (CallW.is [] true rfl ?_)
    | refine CallG.mk ?_
    | (refine CondF.mk (fun hb => ?_) (fun hb => ?_) <;> try simp only [forall_const, eq_self, not_true_eq_false, not_false_eq_true, or_false, false_or, or_self, or_true, true_or, and_true, true_and, and_false, false_and, decide_true, decide_false, Bool.not_true, Bool.not_false, decide_eq_true_eq, decide_eq_false_iff_not, ite_and_p, ite_or_p, Bool.decide_eq_true, Bool.and_eq_true, Bool.or_eq_true, Bool.not_eq_true', Bool.not_eq_false', Bool.and_eq_false_imp, Bool.or_eq_false_iff, bne_iff_ne, beq_iff_eq, bne_eq_false_iff_eq, beq_eq_false_iff_ne, gt_iff_lt, ge_iff_le, Int.not_lt, Int.not_le, ne_eq, Bool.true_eq_false, Bool.false_eq_true, reduceCtorEq, eta_Airway, eta_Door, eta_Dusting, eta_Fan, eta_Mine, eta_Mode] at hb)
    | apply BackF.auto2
    | refine BackB.mk ?_ ?_
    | refine RetF.auto (And.intro rfl ?_)
    | exact Is.mk rfl rfl
    | refine Is.mk ?_ rfl
    | refine Is.mk rfl ?_
    | refine Is.mk ?_ ?_
  all_goals try dsimp only
  all_goals try simp only [Bo, I, OB.row.injEq, AV.osl.injEq, eI_same,  List.cons.injEq, AV.p.injEq, PV.c.injEq, Value.int.injEq, Value.bool.injEq, and_true, true_and, ite_and_p, ite_or_p, Bool.decide_eq_true, eta_Airway, eta_Door, eta_Dusting, eta_Fan, eta_Mine, eta_Mode]
  · exact ⟨by omega, by omega, by rw [Int.sub_self]; unfold dS; rfl⟩
  · exact ⟨by omega, by have : i < s.getD 2 0 := hb; omega, by rw [dS_s h0, h2]; rfl⟩
  · have : i < s.getD 2 0 := hb; omega
  · have : s.getD 2 0 ≤ i := hb
    rw [h2, show i = s.getD 2 0 by omega]; unfold expo; rfl
theorem c_spec_l00Has (xs : List Int) (x : Int) : FnSem Try.prog 203 [Lx (LI xs), In x] [] (Is [Bo (decide (x ∈ xs))] []) := by
  refine FnSem.walk (zs := zeroPV Try.prog) (by kernel_rfl) Try.func203 rfl Try.results203 (by kernel_rfl) (by kernel_rfl) (by kernel_rfl) fun hw hh => ?_
  obtain ⟨w0, w1, _⟩ := hw
  first | replace w0 := wf_I w0 | replace w0 := wf_Y w0 | replace w0 := wf_S w0 | replace w0 := wf_LI w0 | replace w0 := wf_LY w0 | replace w0 := wf_LLI w0 | replace w0 := wf_Ls w0 | skip
  first | replace w1 := wf_I w1 | replace w1 := wf_Y w1 | replace w1 := wf_S w1 | replace w1 := wf_LI w1 | replace w1 := wf_LY w1 | replace w1 := wf_LLI w1 | replace w1 := wf_Ls w1 | skip
  repeat' first
    | refine And.intro rfl ?_
    | refine GdF.mk (fun h => h) ?_
    | refine And.intro (Nat.succ_ne_zero _) ?_
    | refine And.intro (Nat.le_of_ble_eq_true rfl) ?_
    | refine SeqF.run ?_
    | refine LoopF.at 2 rfl (LoopF.fix [0, 1] (Int) (fun i => 0 ≤ i ∧ i ≤ xs.length ∧ ∀ j : Nat, (j : Int) < i → ¬xs.getD j 0 = x) (fun i => [(5, In i)]) (fun i => []) (fun i => ((xs.length - i).toNat)) (0) ?_)
    | (refine LoopB.of (T := Int) ?_ ?_; rotate_left; rintro i ⟨h0, h1, h2⟩; rotate_left)
    | refine GhF.go ?_
    | refine EqP.mk _ (gm eI 0 rfl) ?_
    | refine BndF.mk (fun _ => by omega) ?_
    | refine BndF.mk (fun _ => by simp only [List.length_map, List.length_cons, List.length_nil, List.length_append, List.length_set, List.length_replicate, iotaI_len]; omega) ?_
    | refine EqI.mk _ (fun _ => wrapI (by omega) (by omega)) ?_
    | refine EqI.mk _ (fun _ => rfl) ?_
    | refine EqN.mk _ (ln eI) ?_
    | refine EqN.mk _ (Nat.zero_add _) ?_
    | refine EqN.mk _ (Int.toNat_natCast _) ?_
    | refine EqN.mk _ rfl ?_
    | (refine CondF.mk (fun hb => ?_) (fun hb => ?_) <;> try simp only [forall_const, eq_self, not_true_eq_false, not_false_eq_true, or_false, false_or, or_self, or_true, true_or, and_true, true_and, and_false, false_and, decide_true, decide_false, Bool.not_true, Bool.not_false, decide_eq_true_eq, decide_eq_false_iff_not, ite_and_p, ite_or_p, Bool.decide_eq_true, Bool.and_eq_true, Bool.or_eq_true, Bool.not_eq_true', Bool.not_eq_false', Bool.and_eq_false_imp, Bool.or_eq_false_iff, bne_iff_ne, beq_iff_eq, bne_eq_false_iff_eq, beq_eq_false_iff_ne, gt_iff_lt, ge_iff_le, Int.not_lt, Int.not_le, ne_eq, Bool.true_eq_false, Bool.false_eq_true, reduceCtorEq, eta_Airway, eta_Door, eta_Dusting, eta_Fan, eta_Mine, eta_Mode] at hb)
    | apply BackF.auto
    | refine BackB.mk ?_ ?_
    | refine RetF.auto (And.intro rfl ?_)
    | exact Is.mk rfl rfl
    | refine Is.mk ?_ rfl
    | refine Is.mk rfl ?_
    | refine Is.mk ?_ ?_
  all_goals try dsimp only
  all_goals try simp only [Bo, I, OB.row.injEq, AV.osl.injEq, eI_same,  List.cons.injEq, AV.p.injEq, PV.c.injEq, Value.int.injEq, Value.bool.injEq, and_true, true_and, ite_and_p, ite_or_p, Bool.decide_eq_true, eta_Airway, eta_Door, eta_Dusting, eta_Fan, eta_Mine, eta_Mode]
  · exact ⟨by omega, by omega, all_0⟩
  · rw [← hb]; exact (decide_eq_true (getD_mem (by omega))).symm
  · exact ⟨by omega, by omega, all_s h0 h2 hb⟩
  · omega
  · refine (decide_eq_false fun hm => ?_).symm
    obtain ⟨j, hj, e⟩ := List.getElem_of_mem hm
    exact h2 j (by omega) (by rw [List.getD_eq_getElem?_getD, List.getElem?_eq_getElem hj]; exact e)
theorem c_spec_l00Own (xs : List Int) (hl : xs.length ≤ 1000000) : FnSem Try.prog 136 [Lx (LI xs)] [] (Is [.osl 0 0 xs.length] [Rw .flat (eI 0) (xs.map eI)]) := by
  refine FnSem.walk (zs := zeroPV Try.prog) (by kernel_rfl) Try.func136 rfl Try.results136 (by kernel_rfl) (by kernel_rfl) (by kernel_rfl) fun hw hh => ?_
  obtain ⟨w0, _⟩ := hw
  first | replace w0 := wf_I w0 | replace w0 := wf_Y w0 | replace w0 := wf_S w0 | replace w0 := wf_LI w0 | replace w0 := wf_LY w0 | replace w0 := wf_LLI w0 | replace w0 := wf_Ls w0 | skip
  repeat' first
    | refine And.intro rfl ?_
    | refine GdF.mk (fun h => h) ?_
    | refine And.intro (Nat.succ_ne_zero _) ?_
    | refine And.intro (Nat.le_of_ble_eq_true rfl) ?_
    | refine SeqF.run ?_
    | refine FlF.flat (by simp only [List.mem_map, forall_exists_index, and_imp, forall_apply_eq_imp_iff₂]; intro a _ p hp; simp only [eI, List.mem_singleton] at hp; exact ⟨_, hp⟩) ?_
    | refine GhF.go ?_
    | refine MkF.row ?_
    | refine BndF.mk (fun _ => by omega) ?_
    | refine BndF.mk (fun _ => by simp only [List.length_map, List.length_cons, List.length_nil, List.length_append, List.length_set, List.length_replicate, iotaI_len]; omega) ?_
    | refine FlF.keep ?_
    | refine EqN.mk _ (Nat.zero_add _) ?_
    | refine EqN.mk (_ + 1) rfl ?_
    | refine EqN.mk _ (Int.toNat_natCast _) ?_
    | refine EqN.mk _ rfl ?_
    | refine EqL.mk _ (sn0 eI) ?_
    | refine EqL.mk _ (sn eI (by first | rfl | assumption | omega | (simp only [List.length_map, List.length_cons, List.length_nil, List.length_append, List.length_set, List.length_replicate, iotaI_len]; done) | (simp only [List.length_map, List.length_cons, List.length_nil, List.length_append, List.length_set, List.length_replicate, iotaI_len]; omega))) ?_
    | refine EqL.mk _ (ap0 eI) ?_
    | refine EqL.mk _ (ap eI (by first | rfl | assumption | omega | (simp only [List.length_map, List.length_cons, List.length_nil, List.length_append, List.length_set, List.length_replicate, iotaI_len]; done) | (simp only [List.length_map, List.length_cons, List.length_nil, List.length_append, List.length_set, List.length_replicate, iotaI_len]; omega))) ?_
    | refine EqL.mk _ (tk eI (by first | rfl | assumption | omega | (simp only [List.length_map, List.length_cons, List.length_nil, List.length_append, List.length_set, List.length_replicate, iotaI_len]; done) | (simp only [List.length_map, List.length_cons, List.length_nil, List.length_append, List.length_set, List.length_replicate, iotaI_len]; omega))) ?_
    | refine EqL.mk _ (dt eI) ?_
    | refine EqL.mk [] rfl ?_
    | refine EqL.mk [_] rfl ?_
    | refine EqL.mk _ rfl ?_
    | (refine CondF.mk (fun hb => ?_) (fun hb => ?_) <;> try simp only [forall_const, eq_self, not_true_eq_false, not_false_eq_true, or_false, false_or, or_self, or_true, true_or, and_true, true_and, and_false, false_and, decide_true, decide_false, Bool.not_true, Bool.not_false, decide_eq_true_eq, decide_eq_false_iff_not, ite_and_p, ite_or_p, Bool.decide_eq_true, Bool.and_eq_true, Bool.or_eq_true, Bool.not_eq_true', Bool.not_eq_false', Bool.and_eq_false_imp, Bool.or_eq_false_iff, bne_iff_ne, beq_iff_eq, bne_eq_false_iff_eq, beq_eq_false_iff_ne, gt_iff_lt, ge_iff_le, Int.not_lt, Int.not_le, ne_eq, Bool.true_eq_false, Bool.false_eq_true, reduceCtorEq, eta_Airway, eta_Door, eta_Dusting, eta_Fan, eta_Mine, eta_Mode] at hb)
    | refine RetF.auto (And.intro rfl ?_)
    | exact Is.mk rfl rfl
    | refine Is.mk ?_ rfl
    | refine Is.mk rfl ?_
    | refine Is.mk ?_ ?_
  all_goals try dsimp only
  all_goals try simp only [Bo, I, OB.row.injEq, AV.osl.injEq, eI_same,  List.cons.injEq, AV.p.injEq, PV.c.injEq, Value.int.injEq, Value.bool.injEq, and_true, true_and, ite_and_p, ite_or_p, Bool.decide_eq_true, eta_Airway, eta_Door, eta_Dusting, eta_Fan, eta_Mine, eta_Mode]
  all_goals simp only [List.length_map]
theorem c_laws_toDusting (x : GDusting) : FnSem Try.prog 137 [.p .any (.agg x.cells)] [] (Is [.p .flat (.agg x.cells)] []) := by
  refine FnSem.walk (zs := zeroPV Try.prog) (by kernel_rfl) Try.func137 rfl Try.results137 (by kernel_rfl) (by kernel_rfl) (by kernel_rfl) fun hw hh => ?_
  obtain ⟨w0, _⟩ := hw
  first | replace w0 := wf_Dusting w0 | skip
  repeat' first
    | refine And.intro rfl ?_
    | refine GdF.mk (fun h => h) ?_
    | refine And.intro (Nat.succ_ne_zero _) ?_
    | refine And.intro (Nat.le_of_ble_eq_true rfl) ?_
    | refine SeqF.run ?_
    | refine GhF.go ?_
    | refine EqL.mk [] rfl ?_
    | refine EqL.mk [_] rfl ?_
    | refine EqL.mk _ rfl ?_
    | (refine CondF.mk (fun hb => ?_) (fun hb => ?_) <;> try simp only [forall_const, eq_self, not_true_eq_false, not_false_eq_true, or_false, false_or, or_self, or_true, true_or, and_true, true_and, and_false, false_and, decide_true, decide_false, Bool.not_true, Bool.not_false, decide_eq_true_eq, decide_eq_false_iff_not, ite_and_p, ite_or_p, Bool.decide_eq_true, Bool.and_eq_true, Bool.or_eq_true, Bool.not_eq_true', Bool.not_eq_false', Bool.and_eq_false_imp, Bool.or_eq_false_iff, bne_iff_ne, beq_iff_eq, bne_eq_false_iff_eq, beq_eq_false_iff_ne, gt_iff_lt, ge_iff_le, Int.not_lt, Int.not_le, ne_eq, Bool.true_eq_false, Bool.false_eq_true, reduceCtorEq, eta_Airway, eta_Door, eta_Dusting, eta_Fan, eta_Mine, eta_Mode] at hb)
    | refine RetF.auto (And.intro rfl ?_)
    | exact Is.mk rfl rfl
    | refine Is.mk ?_ rfl
    | refine Is.mk rfl ?_
    | refine Is.mk ?_ ?_
theorem c_laws_toDustingS (xs : List GDusting) (hx : xs.length ≤ 1099511627776) : FnSem Try.prog 51 [Lx (.lst (GDusting.cells default) (xs.map GDusting.cells))] [] (Is [.osl 0 0 xs.length] [Rw .flat (GDusting.cells default) (xs.map GDusting.cells)]) := by
  refine FnSem.walk (zs := zeroPV Try.prog) (by kernel_rfl) Try.func51 rfl Try.results51 (by kernel_rfl) (by kernel_rfl) (by kernel_rfl) fun hw hh => ?_
  obtain ⟨w0, _⟩ := hw
  first | replace w0 := wf_LDusting w0 | skip
  repeat' first
    | refine And.intro rfl ?_
    | refine GdF.mk (fun h => h) ?_
    | refine And.intro (Nat.succ_ne_zero _) ?_
    | refine And.intro (Nat.le_of_ble_eq_true rfl) ?_
    | refine SeqF.run ?_
    | refine EqL.mk _ (st GDusting.cells (v := xs.getD i.toNat default)) ?_
    | refine LoopF.at 3 rfl (LoopF.fix [0, 3] (Int × List GDusting) (fun (i, ys) => 0 ≤ i ∧ i ≤ xs.length ∧ ys.length = xs.length ∧ ∀ j : Nat, (j : Int) < i → ys.getD j default = xs.getD j default) (fun (i, ys) => [(4, In i)]) (fun (i, ys) => [(0, Rw .flat (GDusting.cells default) (ys.map GDusting.cells))]) (fun (i, ys) => ((xs.length - i).toNat)) ((0, List.replicate xs.length default)) ?_)
    | (refine LoopB.of (T := Int × List GDusting) ?_ ?_; rotate_left; rintro ⟨i, ys⟩ ⟨h0, h1, h2, h3⟩; rotate_left)
    | refine GhF.go ?_
    | refine MkF.row ?_
    | refine EqP.mk _ (gm GDusting.cells default rfl) ?_
    | refine BndF.mk (fun _ => by omega) ?_
    | refine BndF.mk (fun _ => by simp only [List.length_map, List.length_cons, List.length_nil, List.length_append, List.length_set, List.length_replicate, iotaI_len]; omega) ?_
    | refine EqI.mk _ (fun _ => wrapI (by omega) (by omega)) ?_
    | refine EqI.mk _ (fun _ => rfl) ?_
    | refine EqN.mk _ (ln GDusting.cells) ?_
    | refine EqN.mk _ (Nat.zero_add _) ?_
    | refine EqN.mk _ (Int.toNat_natCast _) ?_
    | refine EqN.mk _ rfl ?_
    | refine EqL.mk _ (tk GDusting.cells (by first | rfl | assumption | omega | (simp only [List.length_map, List.length_cons, List.length_nil, List.length_append, List.length_set, List.length_replicate, iotaI_len]; done) | (simp only [List.length_map, List.length_cons, List.length_nil, List.length_append, List.length_set, List.length_replicate, iotaI_len]; omega))) ?_
    | refine EqL.mk _ (st GDusting.cells) ?_
    | refine EqL.mk _ (rp GDusting.cells default) ?_
    | refine EqL.mk _ (dt GDusting.cells) ?_
    | refine EqL.mk [] rfl ?_
    | refine EqL.mk [_] rfl ?_
    | refine EqL.mk _ rfl ?_
    | refine ArgF.is (c_laws_toDusting ⟨_, _, _, _⟩) ?_
    | refine ArgQ.is (fun hG => c_laws_toDusting ⟨_, _, _, _⟩) rfl rfl ?_
    | refine CallF.mk (CallW.is [] true rfl ?_)
    | refine CallG.mk ?_
    | (refine CondF.mk (fun hb => ?_) (fun hb => ?_) <;> try simp only [forall_const, eq_self, not_true_eq_false, not_false_eq_true, or_false, false_or, or_self, or_true, true_or, and_true, true_and, and_false, false_and, decide_true, decide_false, Bool.not_true, Bool.not_false, decide_eq_true_eq, decide_eq_false_iff_not, ite_and_p, ite_or_p, Bool.decide_eq_true, Bool.and_eq_true, Bool.or_eq_true, Bool.not_eq_true', Bool.not_eq_false', Bool.and_eq_false_imp, Bool.or_eq_false_iff, bne_iff_ne, beq_iff_eq, bne_eq_false_iff_eq, beq_eq_false_iff_ne, gt_iff_lt, ge_iff_le, Int.not_lt, Int.not_le, ne_eq, Bool.true_eq_false, Bool.false_eq_true, reduceCtorEq, eta_Airway, eta_Door, eta_Dusting, eta_Fan, eta_Mine, eta_Mode] at hb)
    | apply BackF.auto2
    | refine BackB.mk ?_ ?_
    | refine RetF.auto (And.intro rfl ?_)
    | exact Is.mk rfl rfl
    | refine Is.mk ?_ rfl
    | refine Is.mk rfl ?_
    | refine Is.mk ?_ ?_
  all_goals try dsimp only
  all_goals try simp only [Bo, I, OB.row.injEq, AV.osl.injEq, eI_same,  List.cons.injEq, AV.p.injEq, PV.c.injEq, Value.int.injEq, Value.bool.injEq, and_true, true_and, ite_and_p, ite_or_p, Bool.decide_eq_true, eta_Airway, eta_Door, eta_Dusting, eta_Fan, eta_Mine, eta_Mode]
  all_goals try (first | omega | (set_option maxHeartbeats 60000 in grind [getD_set]))
  · exact ⟨rfl, congrArg (List.map GDusting.cells) (ext_getD default h2 fun j hj => h3 j (by omega))⟩
theorem c_laws_eqDusting (x y : GDusting) : FnSem Try.prog 146 [.p .any (.agg x.cells), .p .any (.agg y.cells)] [] (Is [Bo (decide (x = y))] []) := by
  refine FnSem.walk (zs := zeroPV Try.prog) (by kernel_rfl) Try.func146 rfl Try.results146 (by kernel_rfl) (by kernel_rfl) (by kernel_rfl) fun hw hh => ?_
  obtain ⟨w0, w1, _⟩ := hw
  first | replace w0 := wf_Dusting w0 | skip
  first | replace w1 := wf_Dusting w1 | skip
  repeat' first
    | refine And.intro rfl ?_
    | refine GdF.mk (fun h => h) ?_
    | refine And.intro (Nat.succ_ne_zero _) ?_
    | refine And.intro (Nat.le_of_ble_eq_true rfl) ?_
    | refine SeqF.run ?_
    | refine GhF.go ?_
    | (refine CondF.mk (fun hb => ?_) (fun hb => ?_) <;> try simp only [forall_const, eq_self, not_true_eq_false, not_false_eq_true, or_false, false_or, or_self, or_true, true_or, and_true, true_and, and_false, false_and, decide_true, decide_false, Bool.not_true, Bool.not_false, decide_eq_true_eq, decide_eq_false_iff_not, ite_and_p, ite_or_p, Bool.decide_eq_true, Bool.and_eq_true, Bool.or_eq_true, Bool.not_eq_true', Bool.not_eq_false', Bool.and_eq_false_imp, Bool.or_eq_false_iff, bne_iff_ne, beq_iff_eq, bne_eq_false_iff_eq, beq_eq_false_iff_ne, gt_iff_lt, ge_iff_le, Int.not_lt, Int.not_le, ne_eq, Bool.true_eq_false, Bool.false_eq_true, reduceCtorEq, eta_Airway, eta_Door, eta_Dusting, eta_Fan, eta_Mine, eta_Mode] at hb)
    | refine RetF.auto (And.intro rfl ?_)
    | exact Is.mk rfl rfl
    | refine Is.mk ?_ rfl
    | refine Is.mk rfl ?_
    | refine Is.mk ?_ ?_
  all_goals try dsimp only
  all_goals try simp only [Bo, I, OB.row.injEq, AV.osl.injEq, eI_same,  List.cons.injEq, AV.p.injEq, PV.c.injEq, Value.int.injEq, Value.bool.injEq, and_true, true_and, ite_and_p, ite_or_p, Bool.decide_eq_true, eta_Airway, eta_Door, eta_Dusting, eta_Fan, eta_Mine, eta_Mode]
  all_goals (cases x; cases y; simp_all)
theorem c_laws_eqDustingS (xs ys : List GDusting) : FnSem Try.prog 53 [Lx (.lst (GDusting.cells default) (xs.map GDusting.cells)), Lx (.lst (GDusting.cells default) (ys.map GDusting.cells))] [] (Is [Bo (decide (xs = ys))] []) := by
  refine FnSem.walk (zs := zeroPV Try.prog) (by kernel_rfl) Try.func53 rfl Try.results53 (by kernel_rfl) (by kernel_rfl) (by kernel_rfl) fun hw hh => ?_
  obtain ⟨w0, w1, _⟩ := hw
  first | replace w0 := wf_LDusting w0 | skip
  first | replace w1 := wf_LDusting w1 | skip
  repeat' first
    | refine And.intro rfl ?_
    | refine GdF.mk (fun h => h) ?_
    | refine And.intro (Nat.succ_ne_zero _) ?_
    | refine And.intro (Nat.le_of_ble_eq_true rfl) ?_
    | refine SeqF.run ?_
    | refine ArgF.is (c_laws_eqDusting (xs.getD i.toNat default) (ys.getD i.toNat default)) ?_
    | refine ArgQ.is (fun hG => c_laws_eqDusting (xs.getD i.toNat default) (ys.getD i.toNat default)) rfl rfl ?_
    | refine LoopF.at 4 rfl (LoopF.fix [0, 1] (Int) (fun i => 0 ≤ i ∧ i ≤ xs.length ∧ xs.length = ys.length ∧ ∀ j : Nat, (j : Int) < i → xs.getD j default = ys.getD j default) (fun i => [(5, In i)]) (fun i => []) (fun i => ((xs.length - i).toNat)) (0) ?_)
    | (refine LoopB.of (T := Int) ?_ ?_; rotate_left; rintro i ⟨h0, h1, h2, h3⟩; rotate_left)
    | refine GhF.go ?_
    | refine DrawG.old (DrawF.lex (by decide +kernel) ?_)
    | refine EqP.mk _ (gm GDusting.cells default rfl) ?_
    | refine BndF.mk (fun _ => by omega) ?_
    | refine BndF.mk (fun _ => by simp only [List.length_map, List.length_cons, List.length_nil, List.length_append, List.length_set, List.length_replicate, iotaI_len]; omega) ?_
    | refine EqI.mk _ (fun _ => wrapI (by omega) (by omega)) ?_
    | refine EqI.mk _ (fun _ => rfl) ?_
    | refine EqN.mk _ (ln GDusting.cells) ?_
    | refine EqN.mk _ (Nat.zero_add _) ?_
    | refine EqN.mk _ (Int.toNat_natCast _) ?_
    | refine EqN.mk _ rfl ?_
    | refine EqL.mk _ (tk GDusting.cells (by first | rfl | assumption | omega | (simp only [List.length_map, List.length_cons, List.length_nil, List.length_append, List.length_set, List.length_replicate, iotaI_len]; done) | (simp only [List.length_map, List.length_cons, List.length_nil, List.length_append, List.length_set, List.length_replicate, iotaI_len]; omega))) ?_
    | refine EqL.mk [] rfl ?_
    | refine EqL.mk [_] rfl ?_
    | refine EqL.mk _ rfl ?_
    | refine ArgF.is (c_laws_eqDusting ⟨_, _, _, _⟩ ⟨_, _, _, _⟩) ?_
    | refine ArgQ.is (fun hG => c_laws_eqDusting ⟨_, _, _, _⟩ ⟨_, _, _, _⟩) rfl rfl ?_
    | refine CallF.mk (CallW.is [] true rfl ?_)
    | refine CallG.mk ?_
    | (refine CondF.mk (fun hb => ?_) (fun hb => ?_) <;> try simp only [forall_const, eq_self, not_true_eq_false, not_false_eq_true, or_false, false_or, or_self, or_true, true_or, and_true, true_and, and_false, false_and, decide_true, decide_false, Bool.not_true, Bool.not_false, decide_eq_true_eq, decide_eq_false_iff_not, ite_and_p, ite_or_p, Bool.decide_eq_true, Bool.and_eq_true, Bool.or_eq_true, Bool.not_eq_true', Bool.not_eq_false', Bool.and_eq_false_imp, Bool.or_eq_false_iff, bne_iff_ne, beq_iff_eq, bne_eq_false_iff_eq, beq_eq_false_iff_ne, gt_iff_lt, ge_iff_le, Int.not_lt, Int.not_le, ne_eq, Bool.true_eq_false, Bool.false_eq_true, reduceCtorEq, eta_Airway, eta_Door, eta_Dusting, eta_Fan, eta_Mine, eta_Mode] at hb)
    | apply BackF.auto
    | refine BackB.mk ?_ ?_
    | refine RetF.auto (And.intro rfl ?_)
    | exact Is.mk rfl rfl
    | refine Is.mk ?_ rfl
    | refine Is.mk rfl ?_
    | refine Is.mk ?_ ?_
  all_goals try dsimp only
  all_goals try simp only [Bo, I, OB.row.injEq, AV.osl.injEq, eI_same,  List.cons.injEq, AV.p.injEq, PV.c.injEq, Value.int.injEq, Value.bool.injEq, and_true, true_and, ite_and_p, ite_or_p, Bool.decide_eq_true, eta_Airway, eta_Door, eta_Dusting, eta_Fan, eta_Mine, eta_Mode]
  all_goals try (first | omega | (set_option maxHeartbeats 60000 in grind))
  · exact (decide_eq_true (ext_getD default h2 fun j hj => h3 j (by omega))).symm
theorem c_laws_szDustingS (xs : List GDusting) (n : Int) (h0 : 0 ≤ n) : FnSem Try.prog 49 [LD xs, In n] [] (Is [In (szR n xs.length)] []) := by
  refine FnSem.walk (zs := zeroPV Try.prog) (by kernel_rfl) Try.func49 rfl Try.results49 (by kernel_rfl) (by kernel_rfl) (by kernel_rfl) fun hw hh => ?_
  obtain ⟨w0, w1, _⟩ := hw
  first | replace w0 := wf_LDusting w0 | skip
  first | replace w1 := wf_I w1 | replace w1 := wf_Y w1 | replace w1 := wf_S w1 | replace w1 := wf_LI w1 | replace w1 := wf_LY w1 | replace w1 := wf_LLI w1 | replace w1 := wf_Ls w1 | skip
  repeat' first
    | refine And.intro rfl ?_
    | refine GdF.mk (fun h => h) ?_
    | refine And.intro (Nat.succ_ne_zero _) ?_
    | refine And.intro (Nat.le_of_ble_eq_true rfl) ?_
    | refine SeqF.run ?_
    | refine GhF.go ?_
    | refine EqI.mk _ (fun _ => wrapI (by omega) (by omega)) ?_
    | refine EqI.mk _ (fun _ => rfl) ?_
    | refine EqN.mk _ (ln GDusting.cells) ?_
    | (refine CondF.mk (fun hb => ?_) (fun hb => ?_) <;> try simp only [forall_const, eq_self, not_true_eq_false, not_false_eq_true, or_false, false_or, or_self, or_true, true_or, and_true, true_and, and_false, false_and, decide_true, decide_false, Bool.not_true, Bool.not_false, decide_eq_true_eq, decide_eq_false_iff_not, ite_and_p, ite_or_p, Bool.decide_eq_true, Bool.and_eq_true, Bool.or_eq_true, Bool.not_eq_true', Bool.not_eq_false', Bool.and_eq_false_imp, Bool.or_eq_false_iff, bne_iff_ne, beq_iff_eq, bne_eq_false_iff_eq, beq_eq_false_iff_ne, gt_iff_lt, ge_iff_le, Int.not_lt, Int.not_le, ne_eq, Bool.true_eq_false, Bool.false_eq_true, reduceCtorEq, eta_Airway, eta_Door, eta_Dusting, eta_Fan, eta_Mine, eta_Mode] at hb)
    | refine RetF.auto (And.intro rfl ?_)
    | exact Is.mk rfl rfl
    | refine Is.mk ?_ rfl
    | refine Is.mk rfl ?_
    | refine Is.mk ?_ ?_
  all_goals try dsimp only
  all_goals try simp only [Bo, I, OB.row.injEq, AV.osl.injEq, eI_same,  List.cons.injEq, AV.p.injEq, PV.c.injEq, Value.int.injEq, Value.bool.injEq, and_true, true_and, ite_and_p, ite_or_p, Bool.decide_eq_true, eta_Airway, eta_Door, eta_Dusting, eta_Fan, eta_Mine, eta_Mode, szR]
  all_goals try (first | omega | (set_option maxHeartbeats 60000 in grind))
theorem EqLset {ys : List GDusting} {i : Nat} {v : GDusting} {K : List (List PV) → Prop} (h : ∀ ys2 : List GDusting, ys2.length = ys.length → K (ys2.map GDusting.cells)) : EqL ((ys.map GDusting.cells).set i v.cells) K := ⟨_, st GDusting.cells, h _ (by simp)⟩
theorem c_laws_markDustingS (xs : List GDusting) (n : Nat) (k : Int) (hn : n = xs.length) (hk : k + 4 * n ≤ 1000000000000) (hk0 : 0 ≤ k) : FnSem Try.prog 54 [.osl 0 0 n, In k] [.row false .flat (GDusting.cells default) (xs.map GDusting.cells)] (RetV (fun _ : List GDusting => [In (k + 4 * n)]) (fun ys => [.row false .flat (GDusting.cells default) (ys.map GDusting.cells)]) (fun _ => True)) := by
  refine FnSem.walk (zs := zeroPV Try.prog) (by kernel_rfl) Try.func54 rfl Try.results54 (by kernel_rfl) (by kernel_rfl) (by kernel_rfl) fun hw hh => ?_
  obtain ⟨w0, w1, _⟩ := hw
  first | replace w0 := wf_LDusting w0 | skip
  first | replace w1 := wf_I w1 | replace w1 := wf_Y w1 | replace w1 := wf_S w1 | replace w1 := wf_LI w1 | replace w1 := wf_LY w1 | replace w1 := wf_LLI w1 | replace w1 := wf_Ls w1 | skip
  repeat' first
    | refine And.intro rfl ?_
    | refine GdF.mk (fun h => h) ?_
    | refine And.intro (Nat.succ_ne_zero _) ?_
    | refine And.intro (Nat.le_of_ble_eq_true rfl) ?_
    | refine SeqF.run ?_
    | refine BndF.mk (fun _ => by simp only [List.length_map]; omega) ?_
    | (refine EqLset (v := ⟨(ys4.getD i.toNat default).airway, (ys4.getD i.toNat default).from_, (ys4.getD i.toNat default).until_, c + 1 + 1 + 1⟩) ?_; intro ys5 hl5)
    | (refine EqLset (v := ⟨(ys3.getD i.toNat default).airway, (ys3.getD i.toNat default).from_, c + 1 + 1, (ys3.getD i.toNat default).dust⟩) ?_; intro ys4 hl4)
    | (refine EqLset (v := ⟨(ys2.getD i.toNat default).airway, c + 1, (ys2.getD i.toNat default).until_, (ys2.getD i.toNat default).dust⟩) ?_; intro ys3 hl3)
    | (refine EqLset (v := ⟨_, (ys.getD i.toNat default).from_, (ys.getD i.toNat default).until_, (ys.getD i.toNat default).dust⟩) ?_; intro ys2 hl2)
    | refine LoopF.at 2 rfl (LoopF.fix [0] (Int × Int × List GDusting) (fun (c, i, ys) => 0 ≤ i ∧ i ≤ n ∧ c = k + 4 * i ∧ ys.length = n) (fun (c, i, ys) => [(1, In c), (5, In i)]) (fun (c, i, ys) => [(0, .row false .flat (GDusting.cells default) (ys.map GDusting.cells))]) (fun (c, i, ys) => ((n - i).toNat)) ((k, 0, xs)) ?_)
    | (refine LoopB.of (T := Int × Int × List GDusting) ?_ ?_; rotate_left; rintro ⟨c, i, ys⟩ ⟨h0, h1, h2, h3⟩; rotate_left)
    | refine RetV.mk (α := List GDusting) _ (by rw [h2, show i = (n : Int) by omega]) rfl trivial
    | refine GhF.go ?_
    | refine EqP.mk _ (gm GDusting.cells default rfl) ?_
    | refine BndF.mk (fun _ => by omega) ?_
    | refine BndF.mk (fun _ => by simp only [List.length_map, List.length_cons, List.length_nil, List.length_append, List.length_set, List.length_replicate, iotaI_len]; omega) ?_
    | refine EqI.mk _ (fun _ => wrapI (by omega) (by omega)) ?_
    | refine EqI.mk _ (fun _ => rfl) ?_
    | refine EqN.mk _ (ln GDusting.cells) ?_
    | refine EqN.mk _ (Nat.zero_add _) ?_
    | refine EqN.mk _ (Int.toNat_natCast _) ?_
    | refine EqN.mk _ rfl ?_
    | refine EqL.mk _ (st GDusting.cells) ?_
    | refine EqL.mk [] rfl ?_
    | refine EqL.mk [_] rfl ?_
    | refine EqL.mk _ rfl ?_
    | (refine CondF.mk (fun hb => ?_) (fun hb => ?_) <;> try simp only [forall_const, eq_self, not_true_eq_false, not_false_eq_true, or_false, false_or, or_self, or_true, true_or, and_true, true_and, and_false, false_and, decide_true, decide_false, Bool.not_true, Bool.not_false, decide_eq_true_eq, decide_eq_false_iff_not, ite_and_p, ite_or_p, Bool.decide_eq_true, Bool.and_eq_true, Bool.or_eq_true, Bool.not_eq_true', Bool.not_eq_false', Bool.and_eq_false_imp, Bool.or_eq_false_iff, bne_iff_ne, beq_iff_eq, bne_eq_false_iff_eq, beq_eq_false_iff_ne, gt_iff_lt, ge_iff_le, Int.not_lt, Int.not_le, ne_eq, Bool.true_eq_false, Bool.false_eq_true, reduceCtorEq, eta_Airway, eta_Door, eta_Dusting, eta_Fan, eta_Mine, eta_Mode] at hb)
    | apply BackF.auto3
    | refine BackB.mk ?_ ?_
    | refine RetF.auto (And.intro rfl ?_)
    | exact Is.mk rfl rfl
    | refine Is.mk ?_ rfl
    | refine Is.mk rfl ?_
    | refine Is.mk ?_ ?_
  all_goals try dsimp only
  all_goals first | omega | exact ⟨by omega, by omega, by omega, by omega⟩ | skip
end Go.Proofs.Ytnmfbdkiehickaa
