/- Contracts of functions of the program, and what they compute. Conditions: those that each theorem states. -/
import Derived.Test.YtfcnlpghdpfjkaaProg
import Derived.Test.YtfcnlpghdpfjkaaU1
import Derived.Test.YtfcnlpghdpfjkaaU0
set_option linter.unusedVariables false
set_option linter.unusedSimpArgs false
namespace Go.Proofs.Ytfcnlpghdpfjkaa
open Go.Av
attribute [local irreducible] Go.IntKind.wrap leastI rdZ rd rootI rawA okMine treeC mshC cdI wdI
set_option maxRecDepth 20000
set_option maxHeartbeats 16000000

/-! Draughts: the program. -/
theorem c_impl_columnOk (t : Int) : FnSem Try.prog 90 [In t] [] (Is [Bo (inR t (-300) 600)] []) := by
  refine FnSem.walk (zs := zeroPV Try.prog) (by kernel_rfl) Try.func90 rfl Try.results90 (by kernel_rfl) (by kernel_rfl) (by kernel_rfl) fun hw hh => ?_
  obtain ⟨w0, _⟩ := hw
  first | replace w0 := wf_I w0 | skip
  repeat' first
    | refine And.intro rfl ?_
    | refine GdF.mk (fun h => h) ?_
    | refine And.intro (Nat.succ_ne_zero _) ?_
    | refine And.intro (Nat.le_of_ble_eq_true rfl) ?_
    | refine SeqF.run ?_
    | refine GhF.go ?_
    | refine BndF.mk (fun _ => by omega) ?_
    | refine BndF.mk (fun _ => by simp only [List.length_map, List.length_cons, List.length_nil, List.length_append, List.length_set, List.length_replicate, iotaI_len]; omega) ?_
    | refine EqL.mk [] rfl ?_
    | refine EqL.mk [_] rfl ?_
    | refine EqL.mk _ rfl ?_
    | refine ArgF.is (c_impl_within ..) ?_
    | refine ArgQ.is (fun hG => c_impl_within ..) rfl rfl ?_
    | refine CallF.mk (CallW.is [] true rfl ?_)
    | refine CallG.mk ?_
    | (refine CondF.mk (fun hb => ?_) (fun hb => ?_) <;> try simp only [forall_const, eq_self, not_true_eq_false, not_false_eq_true, or_false, false_or, or_self, or_true, true_or, and_true, true_and, and_false, false_and, decide_true, decide_false, Bool.not_true, Bool.not_false, decide_eq_true_eq, decide_eq_false_iff_not, ite_and_p, ite_or_p, Bool.decide_eq_true, Bool.and_eq_true, Bool.or_eq_true, Bool.not_eq_true', Bool.not_eq_false', Bool.and_eq_false_imp, Bool.or_eq_false_iff, bne_iff_ne, beq_iff_eq, bne_eq_false_iff_eq, beq_eq_false_iff_ne, gt_iff_lt, ge_iff_le, Int.not_lt, Int.not_le, ne_eq, Bool.true_eq_false, Bool.false_eq_true, reduceCtorEq, eta_Airway, eta_Fan, eta_Mine] at hb)
    | refine RetF.auto (And.intro rfl ?_)
    | exact Is.mk rfl rfl
    | refine Is.mk ?_ rfl
    | refine Is.mk rfl ?_
    | refine Is.mk ?_ ?_
theorem c_impl_riseOk (r : Int) : FnSem Try.prog 85 [In r] [] (Is [Bo (inR r (-6000) 6000)] []) := by
  refine FnSem.walk (zs := zeroPV Try.prog) (by kernel_rfl) Try.func85 rfl Try.results85 (by kernel_rfl) (by kernel_rfl) (by kernel_rfl) fun hw hh => ?_
  obtain ⟨w0, _⟩ := hw
  first | replace w0 := wf_I w0 | skip
  repeat' first
    | refine And.intro rfl ?_
    | refine GdF.mk (fun h => h) ?_
    | refine And.intro (Nat.succ_ne_zero _) ?_
    | refine And.intro (Nat.le_of_ble_eq_true rfl) ?_
    | refine SeqF.run ?_
    | refine GhF.go ?_
    | refine BndF.mk (fun _ => by omega) ?_
    | refine BndF.mk (fun _ => by simp only [List.length_map, List.length_cons, List.length_nil, List.length_append, List.length_set, List.length_replicate, iotaI_len]; omega) ?_
    | refine EqL.mk [] rfl ?_
    | refine EqL.mk [_] rfl ?_
    | refine EqL.mk _ rfl ?_
    | refine ArgF.is (c_impl_within ..) ?_
    | refine ArgQ.is (fun hG => c_impl_within ..) rfl rfl ?_
    | refine CallF.mk (CallW.is [] true rfl ?_)
    | refine CallG.mk ?_
    | (refine CondF.mk (fun hb => ?_) (fun hb => ?_) <;> try simp only [forall_const, eq_self, not_true_eq_false, not_false_eq_true, or_false, false_or, or_self, or_true, true_or, and_true, true_and, and_false, false_and, decide_true, decide_false, Bool.not_true, Bool.not_false, decide_eq_true_eq, decide_eq_false_iff_not, ite_and_p, ite_or_p, Bool.decide_eq_true, Bool.and_eq_true, Bool.or_eq_true, Bool.not_eq_true', Bool.not_eq_false', Bool.and_eq_false_imp, Bool.or_eq_false_iff, bne_iff_ne, beq_iff_eq, bne_eq_false_iff_eq, beq_eq_false_iff_ne, gt_iff_lt, ge_iff_le, Int.not_lt, Int.not_le, ne_eq, Bool.true_eq_false, Bool.false_eq_true, reduceCtorEq, eta_Airway, eta_Fan, eta_Mine] at hb)
    | refine RetF.auto (And.intro rfl ?_)
    | exact Is.mk rfl rfl
    | refine Is.mk ?_ rfl
    | refine Is.mk rfl ?_
    | refine Is.mk ?_ ?_
theorem wdI_e (t : Int) : wdI t = rdZ 3531183 (2731 + t) := by unfold wdI; rfl
theorem cdI_e (r t : Int) : cdI r t = rdZ (981 * (1200 - wdI t) * r) 100000 := by unfold cdI cdK; rfl
theorem c_impl_warmDensity (t : Int) (h : -300 ≤ t ∧ t ≤ 600) : FnSem Try.prog 155 [In t] [] (Is [In (wdI t)] []) := by
  have hd := divRoundZ 3531183 (2731 + t) (by omega) (by omega) (by omega)
  rw [← wdI_e] at hd
  refine FnSem.walk (zs := zeroPV Try.prog) (by kernel_rfl) Try.func155 rfl Try.results155 (by kernel_rfl) (by kernel_rfl) (by kernel_rfl) fun hw hh => ?_
  obtain ⟨w0, _⟩ := hw
  first | replace w0 := wf_I w0 | skip
  repeat' first
    | refine And.intro rfl ?_
    | refine GdF.mk (fun h => h) ?_
    | refine And.intro (Nat.succ_ne_zero _) ?_
    | refine And.intro (Nat.le_of_ble_eq_true rfl) ?_
    | refine SeqF.run ?_
    | refine ArgF.is (hd) ?_
    | refine ArgQ.is (fun hG => hd) rfl rfl ?_
    | refine GhF.go ?_
    | refine BndF.mk (fun _ => by omega) ?_
    | refine BndF.mk (fun _ => by simp only [List.length_map, List.length_cons, List.length_nil, List.length_append, List.length_set, List.length_replicate, iotaI_len]; omega) ?_
    | refine EqI.mk _ (fun _ => wrapI (by omega) (by omega)) ?_
    | refine EqI.mk _ (fun _ => rfl) ?_
    | refine EqL.mk [] rfl ?_
    | refine EqL.mk [_] rfl ?_
    | refine EqL.mk _ rfl ?_
    | refine ArgF.is (c_impl_divRound _ _ (by first | assumption | omega) (by first | assumption | omega) (by first | assumption | omega) (by first | assumption | omega)) ?_
    | refine ArgQ.is (fun hG => c_impl_divRound _ _ (by first | assumption | omega) (by first | assumption | omega) (by first | assumption | omega) (by first | assumption | omega)) rfl rfl ?_
    | refine CallF.mk (CallW.is [] true rfl ?_)
    | refine CallG.mk ?_
    | (refine CondF.mk (fun hb => ?_) (fun hb => ?_) <;> try simp only [forall_const, eq_self, not_true_eq_false, not_false_eq_true, or_false, false_or, or_self, or_true, true_or, and_true, true_and, and_false, false_and, decide_true, decide_false, Bool.not_true, Bool.not_false, decide_eq_true_eq, decide_eq_false_iff_not, ite_and_p, ite_or_p, Bool.decide_eq_true, Bool.and_eq_true, Bool.or_eq_true, Bool.not_eq_true', Bool.not_eq_false', Bool.and_eq_false_imp, Bool.or_eq_false_iff, bne_iff_ne, beq_iff_eq, bne_eq_false_iff_eq, beq_eq_false_iff_ne, gt_iff_lt, ge_iff_le, Int.not_lt, Int.not_le, ne_eq, Bool.true_eq_false, Bool.false_eq_true, reduceCtorEq, eta_Airway, eta_Fan, eta_Mine] at hb)
    | refine RetF.auto (And.intro rfl ?_)
    | exact Is.mk rfl rfl
    | refine Is.mk ?_ rfl
    | refine Is.mk rfl ?_
    | refine Is.mk ?_ ?_
  all_goals skip
theorem c_impl_columnDraught (r t : Int) (hr : -6000 ≤ r ∧ r ≤ 6000) (ht : -300 ≤ t ∧ t ≤ 600) : FnSem Try.prog 89 [In r, In t] [] (Is [In (cdI r t)] []) := by
  have hb := cdI_b hr (t := t) (by omega)
  have hw := wdI_b (t := t) (by omega)
  have hk : cdK t = 981 * (1200 - wdI t) := rfl
  rw [hk] at hb
  have hd := divRoundZ (981 * (1200 - wdI t) * r) 100000 (by omega) (by omega) (by omega)
  rw [← cdI_e] at hd
  refine FnSem.walk (zs := zeroPV Try.prog) (by kernel_rfl) Try.func89 rfl Try.results89 (by kernel_rfl) (by kernel_rfl) (by kernel_rfl) fun hw hh => ?_
  obtain ⟨w0, w1, _⟩ := hw
  first | replace w0 := wf_I w0 | skip
  first | replace w1 := wf_I w1 | skip
  repeat' first
    | refine And.intro rfl ?_
    | refine GdF.mk (fun h => h) ?_
    | refine And.intro (Nat.succ_ne_zero _) ?_
    | refine And.intro (Nat.le_of_ble_eq_true rfl) ?_
    | refine SeqF.run ?_
    | refine ArgF.is (c_impl_warmDensity t ht) ?_
    | refine ArgQ.is (fun hG => c_impl_warmDensity t ht) rfl rfl ?_
    | refine ArgF.is (hd) ?_
    | refine ArgQ.is (fun hG => hd) rfl rfl ?_
    | refine GhF.go ?_
    | refine BndF.mk (fun _ => by omega) ?_
    | refine BndF.mk (fun _ => by simp only [List.length_map, List.length_cons, List.length_nil, List.length_append, List.length_set, List.length_replicate, iotaI_len]; omega) ?_
    | refine EqI.mk _ (fun _ => wrapI (by omega) (by omega)) ?_
    | refine EqI.mk _ (fun _ => rfl) ?_
    | refine EqL.mk [] rfl ?_
    | refine EqL.mk [_] rfl ?_
    | refine EqL.mk _ rfl ?_
    | refine ArgF.is (c_impl_warmDensity _ (by first | assumption | omega)) ?_
    | refine ArgQ.is (fun hG => c_impl_warmDensity _ (by first | assumption | omega)) rfl rfl ?_
    | refine ArgF.is (c_impl_divRound _ _ (by first | assumption | omega) (by first | assumption | omega) (by first | assumption | omega) (by first | assumption | omega)) ?_
    | refine ArgQ.is (fun hG => c_impl_divRound _ _ (by first | assumption | omega) (by first | assumption | omega) (by first | assumption | omega) (by first | assumption | omega)) rfl rfl ?_
    | refine CallF.mk (CallW.is [] true rfl ?_)
    | refine CallG.mk ?_
    | (refine CondF.mk (fun hb => ?_) (fun hb => ?_) <;> try simp only [forall_const, eq_self, not_true_eq_false, not_false_eq_true, or_false, false_or, or_self, or_true, true_or, and_true, true_and, and_false, false_and, decide_true, decide_false, Bool.not_true, Bool.not_false, decide_eq_true_eq, decide_eq_false_iff_not, ite_and_p, ite_or_p, Bool.decide_eq_true, Bool.and_eq_true, Bool.or_eq_true, Bool.not_eq_true', Bool.not_eq_false', Bool.and_eq_false_imp, Bool.or_eq_false_iff, bne_iff_ne, beq_iff_eq, bne_eq_false_iff_eq, beq_eq_false_iff_ne, gt_iff_lt, ge_iff_le, Int.not_lt, Int.not_le, ne_eq, Bool.true_eq_false, Bool.false_eq_true, reduceCtorEq, eta_Airway, eta_Fan, eta_Mine] at hb)
    | refine RetF.auto (And.intro rfl ?_)
    | exact Is.mk rfl rfl
    | refine Is.mk ?_ rfl
    | refine Is.mk rfl ?_
    | refine Is.mk ?_ ?_
  all_goals skip
def colV (r t : Int) : Int × Int := if inR r (-6000) 6000 then (if inR t (-300) 600 then (cdI r t, 0) else (0, 2)) else (0, 2)
theorem c_impl_ColumnDraught (r t : Int) : FnSem Try.prog 28 [In r, In t] [] (Is [In (colV r t).1, In (colV r t).2] []) := by
  refine FnSem.walk (zs := zeroPV Try.prog) (by kernel_rfl) Try.func28 rfl Try.results28 (by kernel_rfl) (by kernel_rfl) (by kernel_rfl) fun hw hh => ?_
  obtain ⟨w0, w1, _⟩ := hw
  first | replace w0 := wf_I w0 | skip
  first | replace w1 := wf_I w1 | skip
  repeat' first
    | refine And.intro rfl ?_
    | refine GdF.mk (fun h => h) ?_
    | refine And.intro (Nat.succ_ne_zero _) ?_
    | refine And.intro (Nat.le_of_ble_eq_true rfl) ?_
    | refine SeqF.run ?_
    | refine ArgF.is (c_impl_columnDraught r t (inR_iff.1 (by simpa using hb.1)) (inR_iff.1 hb.2)) ?_
    | refine ArgQ.is (fun hG => c_impl_columnDraught r t (inR_iff.1 (by simpa using hb.1)) (inR_iff.1 hb.2)) rfl rfl ?_
    | refine GhF.go ?_
    | refine GdS.keep ?_
    | refine BndF.mk (fun _ => by omega) ?_
    | refine BndF.mk (fun _ => by simp only [List.length_map, List.length_cons, List.length_nil, List.length_append, List.length_set, List.length_replicate, iotaI_len]; omega) ?_
    | refine BndF.mk (fun hG => by simp only [forall_const, eq_self, not_true_eq_false, not_false_eq_true, or_false, false_or, or_self, or_true, true_or, and_true, true_and, and_false, false_and, decide_true, decide_false, Bool.not_true, Bool.not_false, decide_eq_true_eq, decide_eq_false_iff_not, ite_and_p, ite_or_p, Bool.decide_eq_true, Bool.and_eq_true, Bool.or_eq_true, Bool.not_eq_true', Bool.not_eq_false', Bool.and_eq_false_imp, Bool.or_eq_false_iff, bne_iff_ne, beq_iff_eq, bne_eq_false_iff_eq, beq_eq_false_iff_ne, gt_iff_lt, ge_iff_le, Int.not_lt, Int.not_le, ne_eq, Bool.true_eq_false, Bool.false_eq_true, reduceCtorEq, eta_Airway, eta_Fan, eta_Mine, bytes_nil] at hG; (try simp only [List.length_map]); omega) ?_
    | refine EqL.mk [] rfl ?_
    | refine EqL.mk [_] rfl ?_
    | refine EqL.mk _ rfl ?_
    | refine ArgF.is (c_impl_riseOk ..) ?_
    | refine ArgQ.is (fun hG => c_impl_riseOk ..) rfl rfl ?_
    | refine ArgF.is (c_impl_columnOk ..) ?_
    | refine ArgQ.is (fun hG => c_impl_columnOk ..) rfl rfl ?_
    | refine ArgF.is (c_impl_columnDraught _ _ (by first | assumption | omega) (by first | assumption | omega)) ?_
    | refine ArgQ.is (fun hG => c_impl_columnDraught _ _ (by first | assumption | omega) (by first | assumption | omega)) rfl rfl ?_
    | refine ArgQ.is (fun hG => c_impl_columnDraught _ _ (by simp only [forall_const, eq_self, not_true_eq_false, not_false_eq_true, or_false, false_or, or_self, or_true, true_or, and_true, true_and, and_false, false_and, decide_true, decide_false, Bool.not_true, Bool.not_false, decide_eq_true_eq, decide_eq_false_iff_not, ite_and_p, ite_or_p, Bool.decide_eq_true, Bool.and_eq_true, Bool.or_eq_true, Bool.not_eq_true', Bool.not_eq_false', Bool.and_eq_false_imp, Bool.or_eq_false_iff, bne_iff_ne, beq_iff_eq, bne_eq_false_iff_eq, beq_eq_false_iff_ne, gt_iff_lt, ge_iff_le, Int.not_lt, Int.not_le, ne_eq, Bool.true_eq_false, Bool.false_eq_true, reduceCtorEq, eta_Airway, eta_Fan, eta_Mine, bytes_nil] at hG; omega) (by simp only [forall_const, eq_self, not_true_eq_false, not_false_eq_true, or_false, false_or, or_self, or_true, true_or, and_true, true_and, and_false, false_and, decide_true, decide_false, Bool.not_true, Bool.not_false, decide_eq_true_eq, decide_eq_false_iff_not, ite_and_p, ite_or_p, Bool.decide_eq_true, Bool.and_eq_true, Bool.or_eq_true, Bool.not_eq_true', Bool.not_eq_false', Bool.and_eq_false_imp, Bool.or_eq_false_iff, bne_iff_ne, beq_iff_eq, bne_eq_false_iff_eq, beq_eq_false_iff_ne, gt_iff_lt, ge_iff_le, Int.not_lt, Int.not_le, ne_eq, Bool.true_eq_false, Bool.false_eq_true, reduceCtorEq, eta_Airway, eta_Fan, eta_Mine, bytes_nil] at hG; omega)) rfl rfl ?_
    | refine CallF.mk (CallW.is [] true rfl ?_)
    | refine CallG.mk ?_
    | (refine CondF.mk (fun hb => ?_) (fun hb => ?_) <;> try simp only [forall_const, eq_self, not_true_eq_false, not_false_eq_true, or_false, false_or, or_self, or_true, true_or, and_true, true_and, and_false, false_and, decide_true, decide_false, Bool.not_true, Bool.not_false, decide_eq_true_eq, decide_eq_false_iff_not, ite_and_p, ite_or_p, Bool.decide_eq_true, Bool.and_eq_true, Bool.or_eq_true, Bool.not_eq_true', Bool.not_eq_false', Bool.and_eq_false_imp, Bool.or_eq_false_iff, bne_iff_ne, beq_iff_eq, bne_eq_false_iff_eq, beq_eq_false_iff_ne, gt_iff_lt, ge_iff_le, Int.not_lt, Int.not_le, ne_eq, Bool.true_eq_false, Bool.false_eq_true, reduceCtorEq, eta_Airway, eta_Fan, eta_Mine] at hb)
    | refine RetF.auto (And.intro rfl ?_)
    | exact Is.mk rfl rfl
    | refine Is.mk ?_ rfl
    | refine Is.mk rfl ?_
    | refine Is.mk ?_ ?_
  all_goals try dsimp only
  all_goals try simp only [Bo, I, OB.row.injEq, AV.osl.injEq, eI_same,  List.cons.injEq, AV.p.injEq, PV.c.injEq, Value.int.injEq, Value.bool.injEq, and_true, true_and, ite_and_p, ite_or_p, Bool.decide_eq_true, eta_Airway, eta_Fan, eta_Mine, colV]
  · rcases hb with hb | hb
    · rw [if_neg (by rw [hb]; decide)]; exact ⟨rfl, rfl⟩
    · by_cases e : inR r (-6000) 6000 = true
      · rw [if_pos e, if_neg (by rw [hb]; decide)]; exact ⟨rfl, rfl⟩
      · rw [if_neg e]; exact ⟨rfl, rfl⟩
  · rw [if_pos (by simpa using hb.1), if_pos hb.2]; exact ⟨rfl, rfl⟩
def tmpP (r d n : Int) : Bool := decide (d ≤ cdI r n)
theorem c_impl_TemperatureFor_1 (r d n : Int) (hr : -6000 ≤ r ∧ r ≤ 6000) (hn : -300 ≤ n ∧ n ≤ 600) : FnSem Try.prog 88 [In n, .p .any (.ref [.c (.int .i64 r)]), .p .any (.ref [.c (.int .i64 d)])] [] (Is [Bo (tmpP r d n)] []) := by
  refine FnSem.walk (zs := zeroPV Try.prog) (by kernel_rfl) Try.func88 rfl Try.results88 (by kernel_rfl) (by kernel_rfl) (by kernel_rfl) fun hw hh => ?_
  obtain ⟨w0, w1, w2, _⟩ := hw
  first | replace w0 := wf_I w0 | skip
  first | replace w1 := wf_I w1 | replace w1 := wf_Y w1 | replace w1 := wf_S w1 | replace w1 := wf_LI w1 | replace w1 := wf_LY w1 | replace w1 := wf_LLI w1 | replace w1 := wf_Ls w1 | skip
  first | replace w2 := wf_I w2 | replace w2 := wf_Y w2 | replace w2 := wf_S w2 | replace w2 := wf_LI w2 | replace w2 := wf_LY w2 | replace w2 := wf_LLI w2 | replace w2 := wf_Ls w2 | skip
  repeat' first
    | refine And.intro rfl ?_
    | refine GdF.mk (fun h => h) ?_
    | refine And.intro (Nat.succ_ne_zero _) ?_
    | refine And.intro (Nat.le_of_ble_eq_true rfl) ?_
    | refine SeqF.run ?_
    | refine ArgF.is (c_impl_columnDraught r n hr hn) ?_
    | refine ArgQ.is (fun hG => c_impl_columnDraught r n hr hn) rfl rfl ?_
    | refine GhF.go ?_
    | refine DrawG.old (DrawF.lex (by decide +kernel) ?_)
    | refine BndF.mk (fun _ => by omega) ?_
    | refine BndF.mk (fun _ => by simp only [List.length_map, List.length_cons, List.length_nil, List.length_append, List.length_set, List.length_replicate, iotaI_len]; omega) ?_
    | refine EqL.mk [] rfl ?_
    | refine EqL.mk [_] rfl ?_
    | refine EqL.mk _ rfl ?_
    | refine ArgF.is (c_impl_columnDraught _ _ (by first | assumption | omega) (by first | assumption | omega)) ?_
    | refine ArgQ.is (fun hG => c_impl_columnDraught _ _ (by first | assumption | omega) (by first | assumption | omega)) rfl rfl ?_
    | refine CallF.mk (CallW.is [] true rfl ?_)
    | refine CallG.mk ?_
    | (refine CondF.mk (fun hb => ?_) (fun hb => ?_) <;> try simp only [forall_const, eq_self, not_true_eq_false, not_false_eq_true, or_false, false_or, or_self, or_true, true_or, and_true, true_and, and_false, false_and, decide_true, decide_false, Bool.not_true, Bool.not_false, decide_eq_true_eq, decide_eq_false_iff_not, ite_and_p, ite_or_p, Bool.decide_eq_true, Bool.and_eq_true, Bool.or_eq_true, Bool.not_eq_true', Bool.not_eq_false', Bool.and_eq_false_imp, Bool.or_eq_false_iff, bne_iff_ne, beq_iff_eq, bne_eq_false_iff_eq, beq_eq_false_iff_ne, gt_iff_lt, ge_iff_le, Int.not_lt, Int.not_le, ne_eq, Bool.true_eq_false, Bool.false_eq_true, reduceCtorEq, eta_Airway, eta_Fan, eta_Mine] at hb)
    | refine RetF.auto (And.intro rfl ?_)
    | exact Is.mk rfl rfl
    | refine Is.mk ?_ rfl
    | refine Is.mk rfl ?_
    | refine Is.mk ?_ ?_
  all_goals try dsimp only
  all_goals try simp only [Bo, I, OB.row.injEq, AV.osl.injEq, eI_same,  List.cons.injEq, AV.p.injEq, PV.c.injEq, Value.int.injEq, Value.bool.injEq, and_true, true_and, ite_and_p, ite_or_p, Bool.decide_eq_true, eta_Airway, eta_Fan, eta_Mine, tmpP]
/-- the temperature for a draught, in one form -/
inductive TmpR (r d : Int) (rs : List AV) (ho : List OB) : Prop
  | mk (x c : Int) (h1 : rs = [In x, In c]) (h2 : ho = []) (h3 : c = 0 → (-300 ≤ x ∧ x ≤ 600) ∧ d ≤ cdI r x ∧ ∀ n, -300 ≤ n → n < x → cdI r n < d) (h4 : c ≠ 0 → c = 3)
theorem c_impl_TemperatureFor (r d : Int) (hr : -6000 ≤ r ∧ r ≤ 6000) (hd : -100000 ≤ d ∧ d ≤ 100000) : FnSem Try.prog 27 [In r, In d] [] (TmpR r d) := by
  refine FnSem.walk (zs := zeroPV Try.prog) (by kernel_rfl) Try.func27 rfl Try.results27 (by kernel_rfl) (by kernel_rfl) (by kernel_rfl) fun hw hh => ?_
  obtain ⟨w0, w1, _⟩ := hw
  first | replace w0 := wf_I w0 | skip
  first | replace w1 := wf_I w1 | skip
  repeat' first
    | refine And.intro rfl ?_
    | refine GdF.mk (fun h => h) ?_
    | refine And.intro (Nat.succ_ne_zero _) ?_
    | refine And.intro (Nat.le_of_ble_eq_true rfl) ?_
    | refine SeqF.run ?_
    | refine ArgF.is (wiU d (-100000) 100000 hd) ?_
    | refine ArgQ.is (fun hG => wiU d (-100000) 100000 hd) rfl rfl ?_
    | refine ArgF.is (least2 (-300) 600 _ _ _ (tmpP r d) (fun n h0 h1 => c_impl_TemperatureFor_1 r d n hr ⟨h0, h1⟩) (by omega)) ?_
    | refine ArgQ.is (fun hG => least2 (-300) 600 _ _ _ (tmpP r d) (fun n h0 h1 => c_impl_TemperatureFor_1 r d n hr ⟨h0, h1⟩) (by omega)) rfl rfl ?_
    | refine TmpR.mk _ _ rfl rfl ?_ ?_
    | refine GhF.go ?_
    | refine GdS.keep ?_
    | refine BndF.mk (fun _ => by omega) ?_
    | refine BndF.mk (fun _ => by simp only [List.length_map, List.length_cons, List.length_nil, List.length_append, List.length_set, List.length_replicate, iotaI_len]; omega) ?_
    | refine BndF.mk (fun hG => by simp only [forall_const, eq_self, not_true_eq_false, not_false_eq_true, or_false, false_or, or_self, or_true, true_or, and_true, true_and, and_false, false_and, decide_true, decide_false, Bool.not_true, Bool.not_false, decide_eq_true_eq, decide_eq_false_iff_not, ite_and_p, ite_or_p, Bool.decide_eq_true, Bool.and_eq_true, Bool.or_eq_true, Bool.not_eq_true', Bool.not_eq_false', Bool.and_eq_false_imp, Bool.or_eq_false_iff, bne_iff_ne, beq_iff_eq, bne_eq_false_iff_eq, beq_eq_false_iff_ne, gt_iff_lt, ge_iff_le, Int.not_lt, Int.not_le, ne_eq, Bool.true_eq_false, Bool.false_eq_true, reduceCtorEq, eta_Airway, eta_Fan, eta_Mine, bytes_nil] at hG; (try simp only [List.length_map]); omega) ?_
    | refine EqL.mk [] rfl ?_
    | refine EqL.mk [_] rfl ?_
    | refine EqL.mk _ rfl ?_
    | refine ArgF.is (c_impl_riseOk ..) ?_
    | refine ArgQ.is (fun hG => c_impl_riseOk ..) rfl rfl ?_
    | refine ArgF.is (c_impl_within ..) ?_
    | refine ArgQ.is (fun hG => c_impl_within ..) rfl rfl ?_
    | refine ArgF.is (c_impl_least ..) ?_
    | refine ArgQ.is (fun hG => c_impl_least ..) rfl rfl ?_
    | refine ArgF.is (c_impl_orNotFound ..) ?_
    | refine ArgQ.is (fun hG => c_impl_orNotFound ..) rfl rfl ?_
    | refine CallF.mk (CallW.is [] true rfl ?_)
    | refine CallG.mk ?_
    | (refine CondF.mk (fun hb => ?_) (fun hb => ?_) <;> try simp only [forall_const, eq_self, not_true_eq_false, not_false_eq_true, or_false, false_or, or_self, or_true, true_or, and_true, true_and, and_false, false_and, decide_true, decide_false, Bool.not_true, Bool.not_false, decide_eq_true_eq, decide_eq_false_iff_not, ite_and_p, ite_or_p, Bool.decide_eq_true, Bool.and_eq_true, Bool.or_eq_true, Bool.not_eq_true', Bool.not_eq_false', Bool.and_eq_false_imp, Bool.or_eq_false_iff, bne_iff_ne, beq_iff_eq, bne_eq_false_iff_eq, beq_eq_false_iff_ne, gt_iff_lt, ge_iff_le, Int.not_lt, Int.not_le, ne_eq, Bool.true_eq_false, Bool.false_eq_true, reduceCtorEq, eta_Airway, eta_Fan, eta_Mine] at hb)
    | refine RetF.auto (And.intro rfl ?_)
    | exact Is.mk rfl rfl
    | refine Is.mk ?_ rfl
    | refine Is.mk rfl ?_
    | refine Is.mk ?_ ?_
  all_goals try dsimp only
  all_goals first
    | (exfalso; rw [inR_iff.2 hr] at hb; exact absurd hb (by decide))
    | (by_cases e : leastI (tmpP r d) (-300) 600 ≤ 600
       · simp only [decide_eq_true e, if_true, if_pos e]
         intro _
         have q := leastI_hit e (by omega)
         exact ⟨⟨q.1, e⟩, of_decide_eq_true q.2.1, fun n a b => by have := of_decide_eq_false (q.2.2 n a b); omega⟩
       · simp only [decide_eq_false e]
         intro h; exact absurd h (by decide))
    | (by_cases e : leastI (tmpP r d) (-300) 600 ≤ 600
       · simp only [decide_eq_true e, if_true]
         intro h; exact absurd rfl h
       · simp only [decide_eq_false e]
         intro _; rfl)
    | skip
/-- levels that are right -/
structure lvO (m : GMine) (lv : List Int) : Prop where
  ln : (lv.length : Int) = m.junctions
  bd : ∀ k : Nat, k < lv.length → -3000 ≤ lv.getD k 0 ∧ lv.getD k 0 ≤ 3000
theorem lvO.all {m : GMine} {lv : List Int} (h : lvO m lv) : lv.all (inR · (-3000) 3000) = true := by
  rw [List.all_eq_true]
  intro x hx
  obtain ⟨k, hk, rfl⟩ := List.getElem_of_mem hx
  have := h.bd k hk
  rw [List.getD_eq_getElem?_getD, List.getElem?_eq_getElem hk, Option.getD_some] at this
  exact inR_iff.2 this
--@fn (impl.Mine).hasLevels
theorem hvT (m : GMine) (lv : List Int) (h : lvO m lv) : FnSem Try.prog 80 [.p .any (.agg m.cells), Lx (LI lv)] [] (Is [Bo true] []) := by
  have haw := c_impl_allWithin lv (-3000) 3000
  rw [h.all] at haw
  have hl := h.ln
  refine FnSem.walk (zs := zeroPV Try.prog) (by kernel_rfl) Try.func80 rfl Try.results80 (by kernel_rfl) (by kernel_rfl) (by kernel_rfl) fun hw hh => ?_
  obtain ⟨w0, w1, _⟩ := hw
  first | replace w0 := wf_Mine w0 | skip
  first | replace w1 := wf_LI w1 | skip
  repeat' first
    | refine And.intro rfl ?_
    | refine GdF.mk (fun h => h) ?_
    | refine And.intro (Nat.succ_ne_zero _) ?_
    | refine And.intro (Nat.le_of_ble_eq_true rfl) ?_
    | refine SeqF.run ?_
    | refine ArgF.is (haw) ?_
    | refine ArgQ.is (fun hG => haw) rfl rfl ?_
    | refine GhF.go ?_
    | refine GdS.keep ?_
    | refine BndF.mk (fun _ => by omega) ?_
    | refine BndF.mk (fun _ => by simp only [List.length_map, List.length_cons, List.length_nil, List.length_append, List.length_set, List.length_replicate, iotaI_len]; omega) ?_
    | refine BndF.mk (fun hG => by simp only [forall_const, eq_self, not_true_eq_false, not_false_eq_true, or_false, false_or, or_self, or_true, true_or, and_true, true_and, and_false, false_and, decide_true, decide_false, Bool.not_true, Bool.not_false, decide_eq_true_eq, decide_eq_false_iff_not, ite_and_p, ite_or_p, Bool.decide_eq_true, Bool.and_eq_true, Bool.or_eq_true, Bool.not_eq_true', Bool.not_eq_false', Bool.and_eq_false_imp, Bool.or_eq_false_iff, bne_iff_ne, beq_iff_eq, bne_eq_false_iff_eq, beq_eq_false_iff_ne, gt_iff_lt, ge_iff_le, Int.not_lt, Int.not_le, ne_eq, Bool.true_eq_false, Bool.false_eq_true, reduceCtorEq, eta_Airway, eta_Fan, eta_Mine, bytes_nil] at hG; (try simp only [List.length_map]); omega) ?_
    | refine EqN.mk _ (ln eI) ?_
    | refine EqL.mk _ (tk eI (by first | rfl | assumption | omega | (simp only [List.length_map, List.length_cons, List.length_nil, List.length_append, List.length_set, List.length_replicate, iotaI_len]; done) | (simp only [List.length_map, List.length_cons, List.length_nil, List.length_append, List.length_set, List.length_replicate, iotaI_len]; omega))) ?_
    | refine EqL.mk [] rfl ?_
    | refine EqL.mk [_] rfl ?_
    | refine EqL.mk _ rfl ?_
    | refine ArgF.is (c_impl_allWithin ..) ?_
    | refine ArgQ.is (fun hG => c_impl_allWithin ..) rfl rfl ?_
    | refine CallF.mk (CallW.is [] true rfl ?_)
    | refine CallG.mk ?_
    | (refine CondF.mk (fun hb => ?_) (fun hb => ?_) <;> try simp only [forall_const, eq_self, not_true_eq_false, not_false_eq_true, or_false, false_or, or_self, or_true, true_or, and_true, true_and, and_false, false_and, decide_true, decide_false, Bool.not_true, Bool.not_false, decide_eq_true_eq, decide_eq_false_iff_not, ite_and_p, ite_or_p, Bool.decide_eq_true, Bool.and_eq_true, Bool.or_eq_true, Bool.not_eq_true', Bool.not_eq_false', Bool.and_eq_false_imp, Bool.or_eq_false_iff, bne_iff_ne, beq_iff_eq, bne_eq_false_iff_eq, beq_eq_false_iff_ne, gt_iff_lt, ge_iff_le, Int.not_lt, Int.not_le, ne_eq, Bool.true_eq_false, Bool.false_eq_true, reduceCtorEq, eta_Airway, eta_Fan, eta_Mine] at hb)
    | refine RetF.auto (And.intro rfl ?_)
    | exact Is.mk rfl rfl
    | refine Is.mk ?_ rfl
    | refine Is.mk rfl ?_
    | refine Is.mk ?_ ?_
  all_goals try dsimp only
  all_goals first
    | omega
    | (have e : ((lv.length : Int) == m.junctions) = true := beq_iff_eq.2 hl
       rw [if_pos e]; rfl)
    | skip
--@fn impl.columnsCode
theorem ccT (m : GMine) (lv ts : List Int) (b : Int) (hm : okMine m = true) (h : lvO m lv) (ht : lsO m ts (-300) 600 = true) : FnSem Try.prog 77 [.p .any (.agg m.cells), Lx (LI lv), Lx (LI ts), In b] [] (Is [In 0] []) := by
  refine FnSem.walk (zs := zeroPV Try.prog) (by kernel_rfl) Try.func77 rfl Try.results77 (by kernel_rfl) (by kernel_rfl) (by kernel_rfl) fun hw hh => ?_
  obtain ⟨w0, w1, w2, w3, _⟩ := hw
  first | replace w0 := wf_Mine w0 | skip
  first | replace w1 := wf_LI w1 | skip
  first | replace w2 := wf_LI w2 | skip
  first | replace w3 := wf_I w3 | skip
  repeat' first
    | refine And.intro rfl ?_
    | refine GdF.mk (fun h => h) ?_
    | refine And.intro (Nat.succ_ne_zero _) ?_
    | refine And.intro (Nat.le_of_ble_eq_true rfl) ?_
    | refine SeqF.run ?_
    | refine ArgF.is (vmT m hm) ?_
    | refine ArgQ.is (fun hG => vmT m hm) rfl rfl ?_
    | refine ArgF.is (hvT m lv h) ?_
    | refine ArgQ.is (fun hG => hvT m lv h) rfl rfl ?_
    | refine ArgF.is (hlU m ts (-300) 600 ht) ?_
    | refine ArgQ.is (fun hG => hlU m ts (-300) 600 ht) rfl rfl ?_
    | refine GhF.go ?_
    | refine GdS.keep ?_
    | refine BndF.mk (fun _ => by omega) ?_
    | refine BndF.mk (fun _ => by simp only [List.length_map, List.length_cons, List.length_nil, List.length_append, List.length_set, List.length_replicate, iotaI_len]; omega) ?_
    | refine BndF.mk (fun hG => by simp only [forall_const, eq_self, not_true_eq_false, not_false_eq_true, or_false, false_or, or_self, or_true, true_or, and_true, true_and, and_false, false_and, decide_true, decide_false, Bool.not_true, Bool.not_false, decide_eq_true_eq, decide_eq_false_iff_not, ite_and_p, ite_or_p, Bool.decide_eq_true, Bool.and_eq_true, Bool.or_eq_true, Bool.not_eq_true', Bool.not_eq_false', Bool.and_eq_false_imp, Bool.or_eq_false_iff, bne_iff_ne, beq_iff_eq, bne_eq_false_iff_eq, beq_eq_false_iff_ne, gt_iff_lt, ge_iff_le, Int.not_lt, Int.not_le, ne_eq, Bool.true_eq_false, Bool.false_eq_true, reduceCtorEq, eta_Airway, eta_Fan, eta_Mine, bytes_nil] at hG; (try simp only [List.length_map]); omega) ?_
    | refine EqL.mk _ (tk eI (by first | rfl | assumption | omega | (simp only [List.length_map, List.length_cons, List.length_nil, List.length_append, List.length_set, List.length_replicate, iotaI_len]; done) | (simp only [List.length_map, List.length_cons, List.length_nil, List.length_append, List.length_set, List.length_replicate, iotaI_len]; omega))) ?_
    | refine EqL.mk [] rfl ?_
    | refine EqL.mk [_] rfl ?_
    | refine EqL.mk _ rfl ?_
    | refine ArgF.is (c_impl_ValidMine ⟨_, _⟩) ?_
    | refine ArgQ.is (fun hG => c_impl_ValidMine ⟨_, _⟩) rfl rfl ?_
    | refine ArgF.is (c_impl_Mine_hasLevels ..) ?_
    | refine ArgQ.is (fun hG => c_impl_Mine_hasLevels ..) rfl rfl ?_
    | refine ArgF.is (c_impl_Mine_hasList ⟨_, _⟩ _ _ _) ?_
    | refine ArgQ.is (fun hG => c_impl_Mine_hasList ⟨_, _⟩ _ _ _) rfl rfl ?_
    | refine CallF.mk (CallW.is [] true rfl ?_)
    | refine CallG.mk ?_
    | (refine CondF.mk (fun hb => ?_) (fun hb => ?_) <;> try simp only [forall_const, eq_self, not_true_eq_false, not_false_eq_true, or_false, false_or, or_self, or_true, true_or, and_true, true_and, and_false, false_and, decide_true, decide_false, Bool.not_true, Bool.not_false, decide_eq_true_eq, decide_eq_false_iff_not, ite_and_p, ite_or_p, Bool.decide_eq_true, Bool.and_eq_true, Bool.or_eq_true, Bool.not_eq_true', Bool.not_eq_false', Bool.and_eq_false_imp, Bool.or_eq_false_iff, bne_iff_ne, beq_iff_eq, bne_eq_false_iff_eq, beq_eq_false_iff_ne, gt_iff_lt, ge_iff_le, Int.not_lt, Int.not_le, ne_eq, Bool.true_eq_false, Bool.false_eq_true, reduceCtorEq, eta_Airway, eta_Fan, eta_Mine] at hb)
    | refine RetF.auto (And.intro rfl ?_)
    | exact Is.mk rfl rfl
    | refine Is.mk ?_ rfl
    | refine Is.mk rfl ?_
    | refine Is.mk ?_ ?_
  all_goals skip
/-- the draught of an airway -/
def drF (m : GMine) (lv ts : List Int) (k : Nat) : Int := cdI (lv.getD (m.airways.getD k default).to.toNat 0 - lv.getD (m.airways.getD k default).from_.toNat 0) (ts.getD k 0)
theorem drF_b {m : GMine} {lv ts : List Int} (hm : okMine m = true) (h : lvO m lv) (ht : lsO m ts (-300) 600 = true) {k : Nat} (hk : k < m.airways.length) : ((0 ≤ (m.airways.getD k default).to ∧ (m.airways.getD k default).to < lv.length) ∧ 0 ≤ (m.airways.getD k default).from_ ∧ (m.airways.getD k default).from_ < lv.length) ∧ (-3000 ≤ lv.getD (m.airways.getD k default).to.toNat 0 ∧ lv.getD (m.airways.getD k default).to.toNat 0 ≤ 3000) ∧ (-3000 ≤ lv.getD (m.airways.getD k default).from_.toNat 0 ∧ lv.getD (m.airways.getD k default).from_.toNat 0 ≤ 3000) ∧ (-300 ≤ ts.getD k 0 ∧ ts.getD k 0 ≤ 600) ∧ -50000 ≤ drF m lv ts k ∧ drF m lv ts k ≤ 50000 := by
  have q := (okMine_p hm).2.2 k (by omega)
  have hl := h.ln
  have a := h.bd (m.airways.getD k default).to.toNat (by omega)
  have b := h.bd (m.airways.getD k default).from_.toNat (by omega)
  have t := lsO_p ht
  have c := t.2 k (by omega)
  have d := (cdI_b (r := lv.getD (m.airways.getD k default).to.toNat 0 - lv.getD (m.airways.getD k default).from_.toNat 0) (t := ts.getD k 0) (by omega) (by omega)).2.2
  exact ⟨by omega, a, b, c, d⟩
theorem app_Q {P : Nat → Int → Prop} {r : List Int} {v : Int} (h : ∀ j : Nat, (j : Int) < r.length → P j (r.getD j 0)) (hv : P r.length v) : ∀ j : Nat, (j : Int) < (r ++ [v]).length → P j ((r ++ [v]).getD j 0) := fun j hj => by
  rw [List.length_append, List.length_singleton] at hj
  by_cases e : j < r.length
  · rw [List.getD_eq_getElem?_getD, List.getElem?_append_left e, ← List.getD_eq_getElem?_getD]; exact h j (by omega)
  · rw [show j = r.length by omega]; simpa [List.getD_eq_getElem?_getD] using hv
theorem c_impl_Mine_draughts (m : GMine) (lv ts : List Int) (hm : okMine m = true) (h : lvO m lv) (ht : lsO m ts (-300) 600 = true) : FnSem Try.prog 78 [.p .any (.agg m.cells), Lx (LI lv), Lx (LI ts)] [] (RetV (fun _ : List Int => [.osl 0 0 m.airways.length]) (fun v => [.row false .flat (eI 0) (v.map eI)]) (fun v => v.length = m.airways.length ∧ ∀ k : Nat, (k : Int) < v.length → v.getD k 0 = drF m lv ts k)) := by
  have hL := (okMine_p hm).2.1
  have hlt := (lsO_p ht).1
  have hb := fun k hk => drF_b hm h ht (k := k) hk
  refine FnSem.old ?_
  refine FnSem.walk (zs := zeroPV Try.prog) (by kernel_rfl) Try.func78 rfl Try.results78 (by kernel_rfl) (by kernel_rfl) (by kernel_rfl) fun hw hh => ?_
  obtain ⟨w0, w1, w2, _⟩ := hw
  first | replace w0 := wf_Mine w0 | skip
  first | replace w1 := wf_LI w1 | skip
  first | replace w2 := wf_LI w2 | skip
  have hwl := w0.2.1
  repeat' first
    | refine And.intro rfl ?_
    | refine GdF.mk (fun h => h) ?_
    | refine And.intro (Nat.succ_ne_zero _) ?_
    | refine And.intro (Nat.le_of_ble_eq_true rfl) ?_
    | refine SeqF.run ?_
    | refine GhF.held 5 rfl [(18, [0])] ?_
    | refine ArgF.is (c_impl_columnDraught _ _ (by have q := drF_b hm h ht (k := i.toNat) (by omega); omega) (by have q := drF_b hm h ht (k := i.toNat) (by omega); omega)) ?_
    | refine ArgQ.is (fun hG => c_impl_columnDraught _ _ (by have q := drF_b hm h ht (k := i.toNat) (by omega); omega) (by have q := drF_b hm h ht (k := i.toNat) (by omega); omega)) rfl rfl ?_
    | refine BndF.mk (fun _ => by have q := drF_b hm h ht (k := i.toNat) (by omega); first | omega | (simp only [List.length_map]; omega)) ?_
    | refine EqI.mk _ (fun _ => by have q := drF_b hm h ht (k := i.toNat) (by omega); exact wrapI (by omega) (by omega)) ?_
    | refine RetV.mk (α := List Int) xs (by rw [show n = m.airways.length by omega]) rfl ?_
    | refine LoopF.at 3 rfl (LoopF.fixw [1000] [1, 2, 11, 12] (Int × Nat × List Int) (fun (i, n, xs) => 0 ≤ i ∧ i ≤ m.airways.length ∧ n = xs.length ∧ (n : Int) = i ∧ (∀ k : Nat, (k : Int) < xs.length → xs.getD k 0 = drF m lv ts k)) (fun (i, n, xs) => [(13, In i), (7, .osl 0 0 n)]) (fun (i, n, xs) => [(0, .row false .flat (eI 0) (xs.map eI))]) (fun (i, n, xs) => ((m.airways.length - i).toNat)) ((0, 0, [])) ?_)
    | (refine LoopB.of (T := Int × Nat × List Int) ?_ ?_; rotate_left; rintro ⟨i, n, xs⟩ ⟨i0, i1, i2, i3, i4⟩; rotate_left)
    | refine HdF.at 19 rfl 0 [] (And.intro (by decide +kernel) (And.intro rfl ?_))
    | refine HdF.at 18 rfl 1 [] (And.intro (by decide +kernel) (And.intro rfl ?_))
    | refine HdF.at 17 rfl 2 [] (And.intro (by decide +kernel) (And.intro rfl ?_))
    | refine HdF.at 16 rfl 3 [4, 5, 11, 16, 17, 18, 19] (And.intro (by decide +kernel) (And.intro rfl ?_))
    | refine HdF.at 15 rfl 4 [] (And.intro (by decide +kernel) (And.intro rfl ?_))
    | refine HdF.at 14 rfl 5 [11, 16, 17, 18, 19] (And.intro (by decide +kernel) (And.intro rfl ?_))
    | refine HdF.at 13 rfl 6 [] (And.intro (by decide +kernel) (And.intro rfl ?_))
    | refine HdF.at 12 rfl 7 [] (And.intro (by decide +kernel) (And.intro rfl ?_))
    | refine HdF.at 11 rfl 8 [9, 10, 11, 16, 17, 18, 19] (And.intro (by decide +kernel) (And.intro rfl ?_))
    | refine HdF.at 10 rfl 9 [] (And.intro (by decide +kernel) (And.intro rfl ?_))
    | refine HdF.at 9 rfl 10 [11, 16, 17, 18, 19] (And.intro (by decide +kernel) (And.intro rfl ?_))
    | refine HdF.at 8 rfl 11 [] (And.intro (by decide +kernel) (And.intro rfl ?_))
    | refine HdF.at 7 rfl 12 [] (And.intro (by decide +kernel) (And.intro rfl ?_))
    | refine HdF.at 6 rfl 13 [] (And.intro (by decide +kernel) (And.intro rfl ?_))
    | refine HdF.at 5 rfl 14 [] (And.intro (by decide +kernel) (And.intro rfl ?_))
    | refine HdF.at 4 rfl 15 [16, 17, 18, 19] (And.intro (by decide +kernel) (And.intro rfl ?_))
    | refine HdF.goAt 3 rfl ?_
    | refine OrdL.ord ?_
    | refine OrdF.take 19 (by decide +kernel) (And.intro rfl ?_)
    | refine OrdF.all [18] (by decide +kernel) ?_
    | refine OrdF.all [17] (by decide +kernel) ?_
    | refine OrdF.all [16] (by decide +kernel) ?_
    | refine OrdF.fin (by decide +kernel) ?_
    | refine AllF.one _ ?_
    | refine AllF.cons _ _ ?_ ?_
    | refine OpH.quiet rfl ?_
    | refine OpH.heap ?_
    | refine GhF.go ?_
    | refine DrawG.old (DrawF.lex (by decide +kernel) ?_)
    | refine DrawG.old (DrawF.any ?_)
    | refine OrdF.take 0 (by decide +kernel) ?_
    | refine OrdF.take 1 (by decide +kernel) ?_
    | refine OrdF.take 2 (by decide +kernel) ?_
    | refine OrdF.take 6 (by decide +kernel) ?_
    | refine OrdF.take 7 (by decide +kernel) ?_
    | refine OrdF.take 12 (by decide +kernel) ?_
    | refine OrdF.take 13 (by decide +kernel) ?_
    | refine OrdF.take 14 (by decide +kernel) ?_
    | refine OrdF.take 9 (by decide +kernel) ?_
    | refine OrdF.take 4 (by decide +kernel) ?_
    | refine OrdF.take 11 (by decide +kernel) ?_
    | refine OrdF.take 19 (by decide +kernel) ?_
    | refine OrdF.all [18] (by decide +kernel) ?_
    | refine OrdF.all [17] (by decide +kernel) ?_
    | refine OrdF.all [16] (by decide +kernel) ?_
    | refine OrdF.all [5] (by decide +kernel) ?_
    | refine OrdF.all [3] (by decide +kernel) ?_
    | refine OrdF.all [10] (by decide +kernel) ?_
    | refine OrdF.all [5, 10] (by decide +kernel) ?_
    | refine OrdF.all [3, 10] (by decide +kernel) ?_
    | refine OrdF.all [8] (by decide +kernel) ?_
    | refine OrdF.all [5, 8] (by decide +kernel) ?_
    | refine OrdF.all [3, 8] (by decide +kernel) ?_
    | refine OrdF.all [15] (by decide +kernel) ?_
    | refine OrdF.all [5, 15] (by decide +kernel) ?_
    | refine OrdF.all [3, 15] (by decide +kernel) ?_
    | refine OrdF.all [10, 15] (by decide +kernel) ?_
    | refine OrdF.all [5, 10, 15] (by decide +kernel) ?_
    | refine OrdF.all [3, 10, 15] (by decide +kernel) ?_
    | refine OrdF.all [8, 15] (by decide +kernel) ?_
    | refine OrdF.all [5, 8, 15] (by decide +kernel) ?_
    | refine OrdF.all [3, 8, 15] (by decide +kernel) ?_
    | refine OrdF.fin (by decide +kernel) ?_
    | refine AllF.one _ ?_
    | refine AllF.cons _ _ ?_ ?_
    | refine MkF.row ?_
    | refine EqP.mk _ (gm eI 0 rfl) ?_
    | refine EqP.mk _ (gm GAirway.cells default rfl) ?_
    | refine BndF.mk (fun _ => by omega) ?_
    | refine BndF.mk (fun _ => by simp only [List.length_map, List.length_cons, List.length_nil, List.length_append, List.length_set, List.length_replicate, iotaI_len]; omega) ?_
    | refine EqI.mk _ (fun _ => wrapI (by omega) (by omega)) ?_
    | refine EqI.mk _ (fun _ => rfl) ?_
    | refine FlF.keep ?_
    | refine EqN.mk _ (ln eI) ?_
    | refine EqN.mk _ (ln GAirway.cells) ?_
    | refine EqN.mk _ (Nat.zero_add _) ?_
    | refine EqN.mk (_ + 1) rfl ?_
    | refine EqN.mk _ (Int.toNat_natCast _) ?_
    | refine EqN.mk _ rfl ?_
    | refine EqL.mk _ (sn0 eI) ?_
    | refine EqL.mk _ (sn eI (by first | rfl | assumption | omega | (simp only [List.length_map, List.length_cons, List.length_nil, List.length_append, List.length_set, List.length_replicate, iotaI_len]; done) | (simp only [List.length_map, List.length_cons, List.length_nil, List.length_append, List.length_set, List.length_replicate, iotaI_len]; omega))) ?_
    | refine EqL.mk _ (ap0 eI) ?_
    | refine EqL.mk _ (ap eI (by first | rfl | assumption | omega | (simp only [List.length_map, List.length_cons, List.length_nil, List.length_append, List.length_set, List.length_replicate, iotaI_len]; done) | (simp only [List.length_map, List.length_cons, List.length_nil, List.length_append, List.length_set, List.length_replicate, iotaI_len]; omega))) ?_
    | refine EqL.mk _ (tk eI (by first | rfl | assumption | omega | (simp only [List.length_map, List.length_cons, List.length_nil, List.length_append, List.length_set, List.length_replicate, iotaI_len]; done) | (simp only [List.length_map, List.length_cons, List.length_nil, List.length_append, List.length_set, List.length_replicate, iotaI_len]; omega))) ?_
    | refine EqL.mk _ (st eI) ?_
    | refine EqL.mk _ (dt eI) ?_
    | refine EqL.mk _ (sn0 GAirway.cells) ?_
    | refine EqL.mk _ (sn GAirway.cells (by first | rfl | assumption | omega | (simp only [List.length_map, List.length_cons, List.length_nil, List.length_append, List.length_set, List.length_replicate, iotaI_len]; done) | (simp only [List.length_map, List.length_cons, List.length_nil, List.length_append, List.length_set, List.length_replicate, iotaI_len]; omega))) ?_
    | refine EqL.mk _ (ap0 GAirway.cells) ?_
    | refine EqL.mk _ (ap GAirway.cells (by first | rfl | assumption | omega | (simp only [List.length_map, List.length_cons, List.length_nil, List.length_append, List.length_set, List.length_replicate, iotaI_len]; done) | (simp only [List.length_map, List.length_cons, List.length_nil, List.length_append, List.length_set, List.length_replicate, iotaI_len]; omega))) ?_
    | refine EqL.mk _ (tk GAirway.cells (by first | rfl | assumption | omega | (simp only [List.length_map, List.length_cons, List.length_nil, List.length_append, List.length_set, List.length_replicate, iotaI_len]; done) | (simp only [List.length_map, List.length_cons, List.length_nil, List.length_append, List.length_set, List.length_replicate, iotaI_len]; omega))) ?_
    | refine EqL.mk _ (st GAirway.cells) ?_
    | refine EqL.mk _ (dt GAirway.cells) ?_
    | refine EqL.mk [] rfl ?_
    | refine EqL.mk [_] rfl ?_
    | refine EqL.mk _ rfl ?_
    | refine ArgF.is (c_impl_columnDraught _ _ (by first | assumption | omega) (by first | assumption | omega)) ?_
    | refine ArgQ.is (fun hG => c_impl_columnDraught _ _ (by first | assumption | omega) (by first | assumption | omega)) rfl rfl ?_
    | refine CallF.mk (CallW.is [] true rfl ?_)
    | refine CallG.mk ?_
    | (refine CondF.mk (fun hb => ?_) (fun hb => ?_) <;> try simp only [forall_const, eq_self, not_true_eq_false, not_false_eq_true, or_false, false_or, or_self, or_true, true_or, and_true, true_and, and_false, false_and, decide_true, decide_false, Bool.not_true, Bool.not_false, decide_eq_true_eq, decide_eq_false_iff_not, ite_and_p, ite_or_p, Bool.decide_eq_true, Bool.and_eq_true, Bool.or_eq_true, Bool.not_eq_true', Bool.not_eq_false', Bool.and_eq_false_imp, Bool.or_eq_false_iff, bne_iff_ne, beq_iff_eq, bne_eq_false_iff_eq, beq_eq_false_iff_ne, gt_iff_lt, ge_iff_le, Int.not_lt, Int.not_le, ne_eq, Bool.true_eq_false, Bool.false_eq_true, reduceCtorEq, eta_Airway, eta_Fan, eta_Mine] at hb)
    | apply BackF.auto3
    | refine BackB.mk ?_ ?_
    | refine RetF.auto (And.intro rfl ?_)
    | exact Is.mk rfl rfl
    | refine Is.mk ?_ rfl
    | refine Is.mk rfl ?_
    | refine Is.mk ?_ ?_
  all_goals try dsimp only
  all_goals first
    | omega
    | exact ⟨by omega, by omega, rfl, by omega, fun k hk => absurd hk (by simp)⟩
    | exact ⟨by omega, by omega, by simp [i2], by omega, app_Q (P := fun k x => x = drF m lv ts k) i4 (by rw [show xs.length = i.toNat by omega]; rfl)⟩
    | exact ⟨by omega, i4⟩
    | skip
end Go.Proofs.Ytfcnlpghdpfjkaa
