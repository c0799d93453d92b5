/- Contracts of functions of the program, and what they compute. Conditions: those that each theorem states. -/
import Derived.Test.YtfcnlpghdpfjkaaProg
import Derived.Test.YtfcnlpghdpfjkaaY6
import Derived.Test.YtfcnlpghdpfjkaaQ7
import Derived.Test.YtfcnlpghdpfjkaaK6
set_option linter.unusedVariables false
set_option linter.unusedSimpArgs false
namespace Go.Proofs.Ytfcnlpghdpfjkaa
section
open Go.Av
attribute [local irreducible] Go.IntKind.wrap leastI rdZ rd rootI rawA okMine mixT heatF heatY
set_option maxRecDepth 20000
set_option maxHeartbeats 8000000

/-! Temperatures: the reference's small functions. -/
theorem c_spec_l02Temperature (x : Int) : FnSem Try.prog 58 [In x] [] (Is [Bo (inR x (-100) 600)] []) := by
  refine FnSem.walk (zs := zeroPV Try.prog) (by kernel_rfl) Try.func58 rfl Try.results58 (by kernel_rfl) (by kernel_rfl) (by kernel_rfl) fun hw hh => ?_
  obtain ⟨w0, _⟩ := hw
  first | replace w0 := wf_I w0 | skip
  repeat' first
    | refine And.intro rfl ?_
    | refine GdF.mk (fun h => h) ?_
    | refine And.intro (Nat.succ_ne_zero _) ?_
    | refine And.intro (Nat.le_of_ble_eq_true rfl) ?_
    | refine SeqF.run ?_
    | refine GhF.go ?_
    | refine BndF.mk (fun _ => by omega) ?_
    | refine BndF.mk (fun _ => by simp only [List.length_map, List.length_cons, List.length_nil, List.length_append, List.length_set, List.length_replicate, iotaI_len]; omega) ?_
    | refine EqL.mk [] rfl ?_
    | refine EqL.mk [_] rfl ?_
    | refine EqL.mk _ rfl ?_
    | refine ArgF.is (c_spec_l00In ..) ?_
    | refine ArgQ.is (fun hG => c_spec_l00In ..) rfl rfl ?_
    | refine CallF.mk (CallW.is [] true rfl ?_)
    | refine CallG.mk ?_
    | (refine CondF.mk (fun hb => ?_) (fun hb => ?_) <;> try simp only [forall_const, eq_self, not_true_eq_false, not_false_eq_true, or_false, false_or, or_self, or_true, true_or, and_true, true_and, and_false, false_and, decide_true, decide_false, Bool.not_true, Bool.not_false, decide_eq_true_eq, decide_eq_false_iff_not, ite_and_p, ite_or_p, Bool.decide_eq_true, Bool.and_eq_true, Bool.or_eq_true, Bool.not_eq_true', Bool.not_eq_false', Bool.and_eq_false_imp, Bool.or_eq_false_iff, bne_iff_ne, beq_iff_eq, bne_eq_false_iff_eq, beq_eq_false_iff_ne, gt_iff_lt, ge_iff_le, Int.not_lt, Int.not_le, ne_eq, Bool.true_eq_false, Bool.false_eq_true, reduceCtorEq, eta_Airway, eta_Fan, eta_Mine] at hb)
    | refine RetF.auto (And.intro rfl ?_)
    | exact Is.mk rfl rfl
    | refine Is.mk ?_ rfl
    | refine Is.mk rfl ?_
    | refine Is.mk ?_ ?_
theorem c_spec_l16Rate (x : Int) : FnSem Try.prog 132 [In x] [] (Is [Bo (inR x 0 1000)] []) := by
  refine FnSem.walk (zs := zeroPV Try.prog) (by kernel_rfl) Try.func132 rfl Try.results132 (by kernel_rfl) (by kernel_rfl) (by kernel_rfl) fun hw hh => ?_
  obtain ⟨w0, _⟩ := hw
  first | replace w0 := wf_I w0 | skip
  repeat' first
    | refine And.intro rfl ?_
    | refine GdF.mk (fun h => h) ?_
    | refine And.intro (Nat.succ_ne_zero _) ?_
    | refine And.intro (Nat.le_of_ble_eq_true rfl) ?_
    | refine SeqF.run ?_
    | refine GhF.go ?_
    | refine BndF.mk (fun _ => by omega) ?_
    | refine BndF.mk (fun _ => by simp only [List.length_map, List.length_cons, List.length_nil, List.length_append, List.length_set, List.length_replicate, iotaI_len]; omega) ?_
    | refine EqL.mk [] rfl ?_
    | refine EqL.mk [_] rfl ?_
    | refine EqL.mk _ rfl ?_
    | refine ArgF.is (c_spec_l00In ..) ?_
    | refine ArgQ.is (fun hG => c_spec_l00In ..) rfl rfl ?_
    | refine CallF.mk (CallW.is [] true rfl ?_)
    | refine CallG.mk ?_
    | (refine CondF.mk (fun hb => ?_) (fun hb => ?_) <;> try simp only [forall_const, eq_self, not_true_eq_false, not_false_eq_true, or_false, false_or, or_self, or_true, true_or, and_true, true_and, and_false, false_and, decide_true, decide_false, Bool.not_true, Bool.not_false, decide_eq_true_eq, decide_eq_false_iff_not, ite_and_p, ite_or_p, Bool.decide_eq_true, Bool.and_eq_true, Bool.or_eq_true, Bool.not_eq_true', Bool.not_eq_false', Bool.and_eq_false_imp, Bool.or_eq_false_iff, bne_iff_ne, beq_iff_eq, bne_eq_false_iff_eq, beq_eq_false_iff_ne, gt_iff_lt, ge_iff_le, Int.not_lt, Int.not_le, ne_eq, Bool.true_eq_false, Bool.false_eq_true, reduceCtorEq, eta_Airway, eta_Fan, eta_Mine] at hb)
    | refine RetF.auto (And.intro rfl ?_)
    | exact Is.mk rfl rfl
    | refine Is.mk ?_ rfl
    | refine Is.mk rfl ?_
    | refine Is.mk ?_ ?_
theorem c_spec_l16Rock (x : Int) : FnSem Try.prog 133 [In x] [] (Is [Bo (inR x 0 900)] []) := by
  refine FnSem.walk (zs := zeroPV Try.prog) (by kernel_rfl) Try.func133 rfl Try.results133 (by kernel_rfl) (by kernel_rfl) (by kernel_rfl) fun hw hh => ?_
  obtain ⟨w0, _⟩ := hw
  first | replace w0 := wf_I w0 | skip
  repeat' first
    | refine And.intro rfl ?_
    | refine GdF.mk (fun h => h) ?_
    | refine And.intro (Nat.succ_ne_zero _) ?_
    | refine And.intro (Nat.le_of_ble_eq_true rfl) ?_
    | refine SeqF.run ?_
    | refine GhF.go ?_
    | refine BndF.mk (fun _ => by omega) ?_
    | refine BndF.mk (fun _ => by simp only [List.length_map, List.length_cons, List.length_nil, List.length_append, List.length_set, List.length_replicate, iotaI_len]; omega) ?_
    | refine EqL.mk [] rfl ?_
    | refine EqL.mk [_] rfl ?_
    | refine EqL.mk _ rfl ?_
    | refine ArgF.is (c_spec_l00In ..) ?_
    | refine ArgQ.is (fun hG => c_spec_l00In ..) rfl rfl ?_
    | refine CallF.mk (CallW.is [] true rfl ?_)
    | refine CallG.mk ?_
    | (refine CondF.mk (fun hb => ?_) (fun hb => ?_) <;> try simp only [forall_const, eq_self, not_true_eq_false, not_false_eq_true, or_false, false_or, or_self, or_true, true_or, and_true, true_and, and_false, false_and, decide_true, decide_false, Bool.not_true, Bool.not_false, decide_eq_true_eq, decide_eq_false_iff_not, ite_and_p, ite_or_p, Bool.decide_eq_true, Bool.and_eq_true, Bool.or_eq_true, Bool.not_eq_true', Bool.not_eq_false', Bool.and_eq_false_imp, Bool.or_eq_false_iff, bne_iff_ne, beq_iff_eq, bne_eq_false_iff_eq, beq_eq_false_iff_ne, gt_iff_lt, ge_iff_le, Int.not_lt, Int.not_le, ne_eq, Bool.true_eq_false, Bool.false_eq_true, reduceCtorEq, eta_Airway, eta_Fan, eta_Mine] at hb)
    | refine RetF.auto (And.intro rfl ?_)
    | exact Is.mk rfl rfl
    | refine Is.mk ?_ rfl
    | refine Is.mk rfl ?_
    | refine Is.mk ?_ ?_
theorem c_spec_l16Power (x : Int) : FnSem Try.prog 134 [In x] [] (Is [Bo (inR x (-10000000) 10000000)] []) := by
  refine FnSem.walk (zs := zeroPV Try.prog) (by kernel_rfl) Try.func134 rfl Try.results134 (by kernel_rfl) (by kernel_rfl) (by kernel_rfl) fun hw hh => ?_
  obtain ⟨w0, _⟩ := hw
  first | replace w0 := wf_I w0 | skip
  repeat' first
    | refine And.intro rfl ?_
    | refine GdF.mk (fun h => h) ?_
    | refine And.intro (Nat.succ_ne_zero _) ?_
    | refine And.intro (Nat.le_of_ble_eq_true rfl) ?_
    | refine SeqF.run ?_
    | refine GhF.go ?_
    | refine BndF.mk (fun _ => by omega) ?_
    | refine BndF.mk (fun _ => by simp only [List.length_map, List.length_cons, List.length_nil, List.length_append, List.length_set, List.length_replicate, iotaI_len]; omega) ?_
    | refine EqL.mk [] rfl ?_
    | refine EqL.mk [_] rfl ?_
    | refine EqL.mk _ rfl ?_
    | refine ArgF.is (c_spec_l00In ..) ?_
    | refine ArgQ.is (fun hG => c_spec_l00In ..) rfl rfl ?_
    | refine CallF.mk (CallW.is [] true rfl ?_)
    | refine CallG.mk ?_
    | (refine CondF.mk (fun hb => ?_) (fun hb => ?_) <;> try simp only [forall_const, eq_self, not_true_eq_false, not_false_eq_true, or_false, false_or, or_self, or_true, true_or, and_true, true_and, and_false, false_and, decide_true, decide_false, Bool.not_true, Bool.not_false, decide_eq_true_eq, decide_eq_false_iff_not, ite_and_p, ite_or_p, Bool.decide_eq_true, Bool.and_eq_true, Bool.or_eq_true, Bool.not_eq_true', Bool.not_eq_false', Bool.and_eq_false_imp, Bool.or_eq_false_iff, bne_iff_ne, beq_iff_eq, bne_eq_false_iff_eq, beq_eq_false_iff_ne, gt_iff_lt, ge_iff_le, Int.not_lt, Int.not_le, ne_eq, Bool.true_eq_false, Bool.false_eq_true, reduceCtorEq, eta_Airway, eta_Fan, eta_Mine] at hb)
    | refine RetF.auto (And.intro rfl ?_)
    | exact Is.mk rfl rfl
    | refine Is.mk ?_ rfl
    | refine Is.mk rfl ?_
    | refine Is.mk ?_ ?_
theorem c_spec_l16Clip (x : Int) : FnSem Try.prog 188 [In x] [] (Is [In (clampW x)] []) := by
  refine FnSem.walk (zs := zeroPV Try.prog) (by kernel_rfl) Try.func188 rfl Try.results188 (by kernel_rfl) (by kernel_rfl) (by kernel_rfl) fun hw hh => ?_
  obtain ⟨w0, _⟩ := hw
  first | replace w0 := wf_I w0 | skip
  repeat' first
    | refine And.intro rfl ?_
    | refine GdF.mk (fun h => h) ?_
    | refine And.intro (Nat.succ_ne_zero _) ?_
    | refine And.intro (Nat.le_of_ble_eq_true rfl) ?_
    | refine SeqF.run ?_
    | refine GhF.go ?_
    | refine BndF.mk (fun _ => by omega) ?_
    | refine BndF.mk (fun _ => by simp only [List.length_map, List.length_cons, List.length_nil, List.length_append, List.length_set, List.length_replicate, iotaI_len]; omega) ?_
    | refine EqL.mk [] rfl ?_
    | refine EqL.mk [_] rfl ?_
    | refine EqL.mk _ rfl ?_
    | refine ArgF.is (c_spec_l00Min ..) ?_
    | refine ArgQ.is (fun hG => c_spec_l00Min ..) rfl rfl ?_
    | refine ArgF.is (c_spec_l00Max ..) ?_
    | refine ArgQ.is (fun hG => c_spec_l00Max ..) rfl rfl ?_
    | refine CallF.mk (CallW.is [] true rfl ?_)
    | refine CallG.mk ?_
    | (refine CondF.mk (fun hb => ?_) (fun hb => ?_) <;> try simp only [forall_const, eq_self, not_true_eq_false, not_false_eq_true, or_false, false_or, or_self, or_true, true_or, and_true, true_and, and_false, false_and, decide_true, decide_false, Bool.not_true, Bool.not_false, decide_eq_true_eq, decide_eq_false_iff_not, ite_and_p, ite_or_p, Bool.decide_eq_true, Bool.and_eq_true, Bool.or_eq_true, Bool.not_eq_true', Bool.not_eq_false', Bool.and_eq_false_imp, Bool.or_eq_false_iff, bne_iff_ne, beq_iff_eq, bne_eq_false_iff_eq, beq_eq_false_iff_ne, gt_iff_lt, ge_iff_le, Int.not_lt, Int.not_le, ne_eq, Bool.true_eq_false, Bool.false_eq_true, reduceCtorEq, eta_Airway, eta_Fan, eta_Mine] at hb)
    | refine RetF.auto (And.intro rfl ?_)
    | exact Is.mk rfl rfl
    | refine Is.mk ?_ rfl
    | refine Is.mk rfl ?_
    | refine Is.mk ?_ ?_
  all_goals try dsimp only
  all_goals try simp only [Bo, I, OB.row.injEq, AV.osl.injEq, eI_same,  List.cons.injEq, AV.p.injEq, PV.c.injEq, Value.int.injEq, Value.bool.injEq, and_true, true_and, ite_and_p, ite_or_p, Bool.decide_eq_true, eta_Airway, eta_Fan, eta_Mine, clampW]
  all_goals omega
theorem c_spec_l16Into (x : GAirway) (q : Int) : FnSem Try.prog 184 [.p .any (.ref x.cells), In q] [] (Is [In (if 0 < q then x.from_ else x.to), In (if 0 < q then x.to else x.from_)] []) := by
  refine FnSem.walk (zs := zeroPV Try.prog) (by kernel_rfl) Try.func184 rfl Try.results184 (by kernel_rfl) (by kernel_rfl) (by kernel_rfl) fun hw hh => ?_
  obtain ⟨w0, w1, _⟩ := hw
  first | replace w0 := wfr_Airway w0 | skip
  first | replace w1 := wf_I w1 | skip
  repeat' first
    | refine And.intro rfl ?_
    | refine GdF.mk (fun h => h) ?_
    | refine And.intro (Nat.succ_ne_zero _) ?_
    | refine And.intro (Nat.le_of_ble_eq_true rfl) ?_
    | refine SeqF.run ?_
    | refine GhF.go ?_
    | refine DrawG.old (DrawF.lex (by decide +kernel) ?_)
    | (refine CondF.mk (fun hb => ?_) (fun hb => ?_) <;> try simp only [forall_const, eq_self, not_true_eq_false, not_false_eq_true, or_false, false_or, or_self, or_true, true_or, and_true, true_and, and_false, false_and, decide_true, decide_false, Bool.not_true, Bool.not_false, decide_eq_true_eq, decide_eq_false_iff_not, ite_and_p, ite_or_p, Bool.decide_eq_true, Bool.and_eq_true, Bool.or_eq_true, Bool.not_eq_true', Bool.not_eq_false', Bool.and_eq_false_imp, Bool.or_eq_false_iff, bne_iff_ne, beq_iff_eq, bne_eq_false_iff_eq, beq_eq_false_iff_ne, gt_iff_lt, ge_iff_le, Int.not_lt, Int.not_le, ne_eq, Bool.true_eq_false, Bool.false_eq_true, reduceCtorEq, eta_Airway, eta_Fan, eta_Mine] at hb)
    | refine RetF.auto (And.intro rfl ?_)
    | exact Is.mk rfl rfl
    | refine Is.mk ?_ rfl
    | refine Is.mk rfl ?_
    | refine Is.mk ?_ ?_
  all_goals first
    | rw [if_neg (by omega), if_neg (by omega)]
    | rw [if_pos (by omega), if_pos (by omega)]
theorem c_spec_l16Heat (power flow : Int) (hp : -300000000 ≤ power ∧ power ≤ 300000000) (hf : 1 ≤ flow ∧ flow ≤ 100000) : FnSem Try.prog 189 [In power, In flow, In 1200] [] (Is [In (heatF power flow 1200)] []) := by
  obtain ⟨h1, h2, h3⟩ := heatY_b hf (show (1:Int) ≤ 1200 ∧ 1200 ≤ 5000 by omega)
  unfold heatF heatY at *
  refine FnSem.walk (zs := zeroPV Try.prog) (by kernel_rfl) Try.func189 rfl Try.results189 (by kernel_rfl) (by kernel_rfl) (by kernel_rfl) fun hw hh => ?_
  obtain ⟨w0, w1, w2, _⟩ := hw
  first | replace w0 := wf_I w0 | skip
  first | replace w1 := wf_I w1 | skip
  first | replace w2 := wf_I w2 | skip
  repeat' first
    | refine And.intro rfl ?_
    | refine GdF.mk (fun h => h) ?_
    | refine And.intro (Nat.succ_ne_zero _) ?_
    | refine And.intro (Nat.le_of_ble_eq_true rfl) ?_
    | refine SeqF.run ?_
    | refine ArgF.is (c_spec_l01Div (flow * 1200) 100 (by omega) (by omega)) ?_
    | refine ArgQ.is (fun hG => c_spec_l01Div (flow * 1200) 100 (by omega) (by omega)) rfl rfl ?_
    | refine ArgF.is (c_spec_l01Div _ _ (by omega) (by omega)) ?_
    | refine ArgQ.is (fun hG => c_spec_l01Div _ _ (by omega) (by omega)) rfl rfl ?_
    | refine GhF.go ?_
    | refine BndF.mk (fun _ => by omega) ?_
    | refine BndF.mk (fun _ => by simp only [List.length_map, List.length_cons, List.length_nil, List.length_append, List.length_set, List.length_replicate, iotaI_len]; omega) ?_
    | refine EqI.mk _ (fun _ => wrapI (by omega) (by omega)) ?_
    | refine EqI.mk _ (fun _ => rfl) ?_
    | refine EqL.mk [] rfl ?_
    | refine EqL.mk [_] rfl ?_
    | refine EqL.mk _ rfl ?_
    | refine ArgF.is (c_spec_l01Div _ _ (by first | assumption | omega) (by first | assumption | omega)) ?_
    | refine ArgQ.is (fun hG => c_spec_l01Div _ _ (by first | assumption | omega) (by first | assumption | omega)) rfl rfl ?_
    | refine ArgF.is (c_spec_l00Max ..) ?_
    | refine ArgQ.is (fun hG => c_spec_l00Max ..) rfl rfl ?_
    | refine CallF.mk (CallW.is [] true rfl ?_)
    | refine CallG.mk ?_
    | (refine CondF.mk (fun hb => ?_) (fun hb => ?_) <;> try simp only [forall_const, eq_self, not_true_eq_false, not_false_eq_true, or_false, false_or, or_self, or_true, true_or, and_true, true_and, and_false, false_and, decide_true, decide_false, Bool.not_true, Bool.not_false, decide_eq_true_eq, decide_eq_false_iff_not, ite_and_p, ite_or_p, Bool.decide_eq_true, Bool.and_eq_true, Bool.or_eq_true, Bool.not_eq_true', Bool.not_eq_false', Bool.and_eq_false_imp, Bool.or_eq_false_iff, bne_iff_ne, beq_iff_eq, bne_eq_false_iff_eq, beq_eq_false_iff_ne, gt_iff_lt, ge_iff_le, Int.not_lt, Int.not_le, ne_eq, Bool.true_eq_false, Bool.false_eq_true, reduceCtorEq, eta_Airway, eta_Fan, eta_Mine] at hb)
    | refine RetF.auto (And.intro rfl ?_)
    | exact Is.mk rfl rfl
    | refine Is.mk ?_ rfl
    | refine Is.mk rfl ?_
    | refine Is.mk ?_ ?_
  all_goals rw [show max 1 (rdZ (flow * 1200) 100) = max (rdZ (flow * 1200) 100) 1 by omega]
/-- nothing changes any more -/
theorem warm_st {rock rate t : Int} {n : Nat} (h : warmS rock rate (warmN rock rate t n) = warmN rock rate t n) : ∀ k : Nat, warmN rock rate t (n + k) = warmN rock rate t n
  | 0 => rfl
  | k + 1 => by
    show warmS rock rate (warmN rock rate t (n + k)) = _
    rw [warm_st h k, h]
theorem warm_e {rock rate t : Int} {n k : Int} (hk : 0 ≤ k) (hn : k ≤ n) (h : warmS rock rate (warmN rock rate t (n - k).toNat) = warmN rock rate t (n - k).toNat) : warmN rock rate t (n - k).toNat = warmN rock rate t n.toNat := by
  have := warm_st h k.toNat
  rw [show (n - k).toNat + k.toNat = n.toNat by omega] at this
  exact this.symm
theorem wr_m {rock rate u : Int} (e : -100 ≤ u ∧ u ≤ 600) (hr : 0 ≤ rock ∧ rock ≤ 900) (hq : 0 ≤ rate ∧ rate ≤ 1000) : -1000000 ≤ (rock - u) * rate ∧ (rock - u) * rate ≤ 1000000 := by
  have e2 := warm_m e hr hq
  rcases Int.le_total u rock with h | h
  · have := e2.1 h; omega
  · have := e2.2 h; omega
theorem wr_1 {rock u : Int} (e : -100 ≤ u ∧ u ≤ 600) (hr : 0 ≤ rock ∧ rock ≤ 900) : Go.IntKind.i64.wrap (rock - u) = rock - u := wrapI (by omega) (by omega)
theorem wr_2 {rock rate u : Int} (e : -100 ≤ u ∧ u ≤ 600) (hr : 0 ≤ rock ∧ rock ≤ 900) (hq : 0 ≤ rate ∧ rate ≤ 1000) : Go.IntKind.i64.wrap ((rock - u) * rate) = (rock - u) * rate := by
  have := wr_m e hr hq
  exact wrapI (by omega) (by omega)
theorem wr_3 {rock rate u : Int} (e : -100 ≤ u ∧ u ≤ 600) (hr : 0 ≤ rock ∧ rock ≤ 900) (hq : 0 ≤ rate ∧ rate ≤ 1000) : Go.IntKind.i64.wrap (u + rdZ ((rock - u) * rate) 1000) = u + rdZ ((rock - u) * rate) 1000 := by
  have := rdZ_abs (x := (rock - u) * rate) (y := 1000) (A := 1000000) (by omega) (wr_m e hr hq)
  exact wrapI (by omega) (by omega)
theorem c_spec_l16Warm (t rock rate time : Int) (ht : -100 ≤ t ∧ t ≤ 600) (hr : 0 ≤ rock ∧ rock ≤ 900) (hq : 0 ≤ rate ∧ rate ≤ 1000) (hT : 0 ≤ time ∧ time ≤ 100000) : FnSem Try.prog 185 [In t, In rock, In rate, In time] [] (Is [In (warmN rock rate t (time / 10).toNat)] []) := by
  have hU := fun n => (warmN_b ht hr hq n).2.2
  have hd : Go.IntKind.i64.wrap (time.tdiv 10) = time / 10 := by rw [Int.tdiv_eq_ediv_of_nonneg hT.1]; exact wrapI (by omega) (by omega)
  refine FnSem.walk (zs := zeroPV Try.prog) (by kernel_rfl) Try.func185 rfl Try.results185 (by kernel_rfl) (by kernel_rfl) (by kernel_rfl) fun hw hh => ?_
  obtain ⟨w0, w1, w2, w3, _⟩ := hw
  first | replace w0 := wf_I w0 | skip
  first | replace w1 := wf_I w1 | skip
  first | replace w2 := wf_I w2 | skip
  first | replace w3 := wf_I w3 | skip
  repeat' first
    | refine And.intro rfl ?_
    | refine GdF.mk (fun h => h) ?_
    | refine And.intro (Nat.succ_ne_zero _) ?_
    | refine And.intro (Nat.le_of_ble_eq_true rfl) ?_
    | refine SeqF.run ?_
    | refine EqI.mk (time / 10) (fun _ => hd) ?_
    | refine EqI.mk _ (fun _ => wr_1 (k2 ▸ hU (time / 10 - k).toNat) hr) ?_
    | refine EqI.mk _ (fun _ => wr_2 (k2 ▸ hU (time / 10 - k).toNat) hr hq) ?_
    | refine EqI.mk _ (fun _ => wr_3 (k2 ▸ hU (time / 10 - k).toNat) hr hq) ?_
    | refine ArgF.is (c_spec_l01Div ((rock - u) * rate) 1000 (by have := wr_m (k2 ▸ hU (time / 10 - k).toNat) hr hq; omega) (by omega)) ?_
    | refine ArgQ.is (fun hG => c_spec_l01Div ((rock - u) * rate) 1000 (by have := wr_m (k2 ▸ hU (time / 10 - k).toNat) hr hq; omega) (by omega)) rfl rfl ?_
    | refine LoopF.at 2 rfl (LoopF.fix [1, 2] (Int × Int) (fun (k, u) => 0 ≤ k ∧ k ≤ time / 10 ∧ u = warmN rock rate t (time / 10 - k).toNat) (fun (k, u) => [(0, In u), (9, In k)]) (fun (k, u) => []) (fun (k, u) => (k.toNat)) ((time / 10, t)) ?_)
    | (refine LoopB.of (T := Int × Int) ?_ ?_; rotate_left; rintro ⟨k, u⟩ ⟨k0, k1, k2⟩; rotate_left)
    | refine GhF.go ?_
    | refine BndF.mk (fun _ => by omega) ?_
    | refine BndF.mk (fun _ => by simp only [List.length_map, List.length_cons, List.length_nil, List.length_append, List.length_set, List.length_replicate, iotaI_len]; omega) ?_
    | refine EqI.mk _ (fun _ => wrapI (by omega) (by omega)) ?_
    | refine EqI.mk _ (fun _ => wrapD (by omega) (by omega) (by omega)) ?_
    | refine EqI.mk _ (fun _ => rfl) ?_
    | refine EqL.mk [] rfl ?_
    | refine EqL.mk [_] rfl ?_
    | refine EqL.mk _ rfl ?_
    | refine ArgF.is (c_spec_l01Div _ _ (by first | assumption | omega) (by first | assumption | omega)) ?_
    | refine ArgQ.is (fun hG => c_spec_l01Div _ _ (by first | assumption | omega) (by first | assumption | omega)) rfl rfl ?_
    | refine ArgF.is (c_spec_l16Clip ..) ?_
    | refine ArgQ.is (fun hG => c_spec_l16Clip ..) rfl rfl ?_
    | refine CallF.mk (CallW.is [] true rfl ?_)
    | refine CallG.mk ?_
    | (refine CondF.mk (fun hb => ?_) (fun hb => ?_) <;> try simp only [forall_const, eq_self, not_true_eq_false, not_false_eq_true, or_false, false_or, or_self, or_true, true_or, and_true, true_and, and_false, false_and, decide_true, decide_false, Bool.not_true, Bool.not_false, decide_eq_true_eq, decide_eq_false_iff_not, ite_and_p, ite_or_p, Bool.decide_eq_true, Bool.and_eq_true, Bool.or_eq_true, Bool.not_eq_true', Bool.not_eq_false', Bool.and_eq_false_imp, Bool.or_eq_false_iff, bne_iff_ne, beq_iff_eq, bne_eq_false_iff_eq, beq_eq_false_iff_ne, gt_iff_lt, ge_iff_le, Int.not_lt, Int.not_le, ne_eq, Bool.true_eq_false, Bool.false_eq_true, reduceCtorEq, eta_Airway, eta_Fan, eta_Mine] at hb)
    | apply BackF.auto2
    | refine BackB.mk ?_ ?_
    | refine RetF.auto (And.intro rfl ?_)
    | exact Is.mk rfl rfl
    | refine Is.mk ?_ rfl
    | refine Is.mk rfl ?_
    | refine Is.mk ?_ ?_
  all_goals try dsimp only
  all_goals first
    | omega
    | exact ⟨by omega, by omega, by rw [Int.sub_self]; rfl⟩
    | (rw [k2, show (time / 10 - k).toNat = (time / 10).toNat by omega])
    | (rw [k2, warm_e k0 k1 (by rw [← k2]; assumption)])
    | exact ⟨by omega, by omega, by rw [show (time / 10 - (k - 1)).toNat = (time / 10 - k).toNat + 1 by omega, k2]; rfl⟩
    | skip
end
section
open Go.Av
attribute [local irreducible] Go.IntKind.wrap leastI rdZ rd rootI rawA okMine heatF heatY
set_option maxRecDepth 20000
set_option maxHeartbeats 8000000

/-! Temperatures: the reference's mixing, and what it asks. -/
theorem c_spec_l16Mix (fs ts : List Int) (h : okMix fs ts = true) : FnSem Try.prog 190 [Lx (LI fs), Lx (LI ts)] [] (Is [In (mixT fs ts)] []) := by
  obtain ⟨hl, hf, ht⟩ := okMix_b h
  have hs := sumI_b hf fs.length (by omega)
  have hm := mixS_b hf ht
  have hq := sumI_b hf
  have hx : ∀ j : Nat, (j : Int) < fs.length → -60000000 ≤ fs.getD j 0 * ts.getD j 0 ∧ fs.getD j 0 * ts.getD j 0 ≤ 60000000 := fun j hj => by
    have h1 := hf j hj; have h2 := ht j hj
    have := mul_b (a := ts.getD j 0) (A := 600) (b := fs.getD j 0) (B := 100000) (by omega) (by omega)
    rw [Int.mul_comm (fs.getD j 0)]; omega
  refine FnSem.walk (zs := zeroPV Try.prog) (by kernel_rfl) Try.func190 rfl Try.results190 (by kernel_rfl) (by kernel_rfl) (by kernel_rfl) fun hw hh => ?_
  obtain ⟨w0, w1, _⟩ := hw
  first | replace w0 := wf_LI w0 | skip
  first | replace w1 := wf_LI w1 | skip
  repeat' first
    | refine And.intro rfl ?_
    | refine GdF.mk (fun h => h) ?_
    | refine And.intro (Nat.succ_ne_zero _) ?_
    | refine And.intro (Nat.le_of_ble_eq_true rfl) ?_
    | refine SeqF.run ?_
    | refine LoopF.at 4 rfl (LoopF.fix [0, 1] (Int × Int × Int) (fun (s, a, i) => 0 ≤ i ∧ i ≤ fs.length ∧ s = mixS fs ts i.toNat ∧ a = sumI fs i.toNat) (fun (s, a, i) => [(5, In s), (6, In a), (7, In i)]) (fun (s, a, i) => []) (fun (s, a, i) => ((fs.length - i).toNat)) ((0, 0, 0)) ?_)
    | (refine LoopB.of (T := Int × Int × Int) ?_ ?_; rotate_left; rintro ⟨s, a, i⟩ ⟨h0, h1, h2, h3⟩; rotate_left)
    | refine EqI.mk _ (fun _ => by have := hx i.toNat (by omega); exact wrapI (by omega) (by omega)) ?_
    | refine EqI.mk _ (fun _ => by have := hx i.toNat (by omega); have := hm i.toNat (by omega); have := hq i.toNat (by omega); exact wrapI (by omega) (by omega)) ?_
    | refine EqI.mk _ (fun _ => by have := hf i.toNat (by omega); have := hq i.toNat (by omega); exact wrapI (by omega) (by omega)) ?_
    | refine ArgF.is (c_spec_l01Div _ _ (by have := hm i.toNat (by omega); have := hq i.toNat (by omega); omega) (by have := hq i.toNat (by omega); omega)) ?_
    | refine ArgQ.is (fun hG => c_spec_l01Div _ _ (by have := hm i.toNat (by omega); have := hq i.toNat (by omega); omega) (by have := hq i.toNat (by omega); omega)) rfl rfl ?_
    | refine GhF.go ?_
    | refine DrawG.old (DrawF.lex (by decide +kernel) ?_)
    | refine EqP.mk _ (gm eI 0 rfl) ?_
    | refine BndF.mk (fun _ => by omega) ?_
    | refine BndF.mk (fun _ => by simp only [List.length_map, List.length_cons, List.length_nil, List.length_append, List.length_set, List.length_replicate, iotaI_len]; omega) ?_
    | refine EqI.mk _ (fun _ => wrapI (by omega) (by omega)) ?_
    | refine EqI.mk _ (fun _ => rfl) ?_
    | refine EqN.mk _ (ln eI) ?_
    | refine EqN.mk _ (Nat.zero_add _) ?_
    | refine EqN.mk _ (Int.toNat_natCast _) ?_
    | refine EqN.mk _ rfl ?_
    | refine EqL.mk _ (tk eI (by first | rfl | assumption | omega | (simp only [List.length_map, List.length_cons, List.length_nil, List.length_append, List.length_set, List.length_replicate, iotaI_len]; done) | (simp only [List.length_map, List.length_cons, List.length_nil, List.length_append, List.length_set, List.length_replicate, iotaI_len]; omega))) ?_
    | refine EqL.mk [] rfl ?_
    | refine EqL.mk [_] rfl ?_
    | refine EqL.mk _ rfl ?_
    | refine ArgF.is (c_spec_l01Div _ _ (by first | assumption | omega) (by first | assumption | omega)) ?_
    | refine ArgQ.is (fun hG => c_spec_l01Div _ _ (by first | assumption | omega) (by first | assumption | omega)) rfl rfl ?_
    | refine CallF.mk (CallW.is [] true rfl ?_)
    | refine CallG.mk ?_
    | (refine CondF.mk (fun hb => ?_) (fun hb => ?_) <;> try simp only [forall_const, eq_self, not_true_eq_false, not_false_eq_true, or_false, false_or, or_self, or_true, true_or, and_true, true_and, and_false, false_and, decide_true, decide_false, Bool.not_true, Bool.not_false, decide_eq_true_eq, decide_eq_false_iff_not, ite_and_p, ite_or_p, Bool.decide_eq_true, Bool.and_eq_true, Bool.or_eq_true, Bool.not_eq_true', Bool.not_eq_false', Bool.and_eq_false_imp, Bool.or_eq_false_iff, bne_iff_ne, beq_iff_eq, bne_eq_false_iff_eq, beq_eq_false_iff_ne, gt_iff_lt, ge_iff_le, Int.not_lt, Int.not_le, ne_eq, Bool.true_eq_false, Bool.false_eq_true, reduceCtorEq, eta_Airway, eta_Fan, eta_Mine] at hb)
    | apply BackF.auto3
    | refine BackB.mk ?_ ?_
    | refine RetF.auto (And.intro rfl ?_)
    | exact Is.mk rfl rfl
    | refine Is.mk ?_ rfl
    | refine Is.mk rfl ?_
    | refine Is.mk ?_ ?_
  all_goals try dsimp only
  all_goals first
    | omega
    | exact ⟨by omega, by omega, rfl, rfl⟩
    | exact ⟨by omega, by omega, by rw [mixS_s h0, h2], by rw [sumI_s h0, h3]⟩
    | (rw [h2, h3, show i.toNat = fs.length by omega]; rfl)
    | skip
end
section
open Go.Av
attribute [local irreducible] Go.IntKind.wrap leastI rdZ rd rootI rawA okMine heatF heatY
set_option maxRecDepth 20000
set_option maxHeartbeats 8000000

/-! Temperatures: times in airways, what the reference asks. -/
--@fn spec.l03Abs
theorem absZ (x : Int) (h : -1000000 ≤ x ∧ x ≤ 1000000) : FnSem Try.prog 182 [In x] [] (Is [In (max x (-x))] []) := by
  have := c_spec_l03Abs x
  rw [wrapI (by omega) (by omega), show (0 : Int) - x = -x by omega] at this
  exact this
theorem c_spec_l03Time (x : GAirway) (q : Int) (hx : okAirway x = true) (h0 : ¬q = 0) (hq : -100000 ≤ q ∧ q ≤ 100000) : FnSem Try.prog 187 [.p .any (.ref x.cells), In q] [] (Is [In ((x.length * x.section_ + max q (-q) - 1) / max q (-q))] []) := by
  have k := okAirway_b hx
  have e := mulB' (a := x.length) (A := 10000) (b := x.section_) (B := 5000) (by omega) (by omega) (by omega) (by omega)
  refine FnSem.walk (zs := zeroPV Try.prog) (by kernel_rfl) Try.func187 rfl Try.results187 (by kernel_rfl) (by kernel_rfl) (by kernel_rfl) fun hw hh => ?_
  obtain ⟨w0, w1, _⟩ := hw
  first | replace w0 := wfr_Airway w0 | skip
  first | replace w1 := wf_I w1 | skip
  repeat' first
    | refine And.intro rfl ?_
    | refine GdF.mk (fun h => h) ?_
    | refine And.intro (Nat.succ_ne_zero _) ?_
    | refine And.intro (Nat.le_of_ble_eq_true rfl) ?_
    | refine SeqF.run ?_
    | refine ArgF.is (absZ q (by omega)) ?_
    | refine ArgQ.is (fun hG => absZ q (by omega)) rfl rfl ?_
    | refine EqI.mk ((x.length * x.section_ + max q (-q) - 1) / max q (-q)) (fun _ => divW (by omega) (by omega)) ?_
    | refine EqI.mk _ (fun _ => wrapI (by omega) (by omega)) ?_
    | refine GhF.go ?_
    | refine DrawG.old (DrawF.lex (by decide +kernel) ?_)
    | refine BndF.mk (fun _ => by omega) ?_
    | refine BndF.mk (fun _ => by simp only [List.length_map, List.length_cons, List.length_nil, List.length_append, List.length_set, List.length_replicate, iotaI_len]; omega) ?_
    | refine EqI.mk _ (fun _ => wrapI (by omega) (by omega)) ?_
    | refine EqI.mk _ (fun _ => wrapD (by omega) (by omega) (by omega)) ?_
    | refine EqI.mk _ (fun _ => rfl) ?_
    | refine EqL.mk [] rfl ?_
    | refine EqL.mk [_] rfl ?_
    | refine EqL.mk _ rfl ?_
    | refine ArgF.is (c_spec_l03Abs ..) ?_
    | refine ArgQ.is (fun hG => c_spec_l03Abs ..) rfl rfl ?_
    | refine CallF.mk (CallW.is [] true rfl ?_)
    | refine CallG.mk ?_
    | (refine CondF.mk (fun hb => ?_) (fun hb => ?_) <;> try simp only [forall_const, eq_self, not_true_eq_false, not_false_eq_true, or_false, false_or, or_self, or_true, true_or, and_true, true_and, and_false, false_and, decide_true, decide_false, Bool.not_true, Bool.not_false, decide_eq_true_eq, decide_eq_false_iff_not, ite_and_p, ite_or_p, Bool.decide_eq_true, Bool.and_eq_true, Bool.or_eq_true, Bool.not_eq_true', Bool.not_eq_false', Bool.and_eq_false_imp, Bool.or_eq_false_iff, bne_iff_ne, beq_iff_eq, bne_eq_false_iff_eq, beq_eq_false_iff_ne, gt_iff_lt, ge_iff_le, Int.not_lt, Int.not_le, ne_eq, Bool.true_eq_false, Bool.false_eq_true, reduceCtorEq, eta_Airway, eta_Fan, eta_Mine] at hb)
    | refine RetF.auto (And.intro rfl ?_)
    | exact Is.mk rfl rfl
    | refine Is.mk ?_ rfl
    | refine Is.mk rfl ?_
    | refine Is.mk ?_ ?_
  all_goals skip
end
section
open Go.Av
attribute [local irreducible] Go.IntKind.wrap leastI rdZ rd rootI rawA okMine heatF heatY
set_option maxRecDepth 20000
set_option maxHeartbeats 8000000

/-! Temperatures: what the reference asks. -/
--@fn spec.l03Flow
theorem flowZ (n : Int) : FnSem Try.prog 123 [In n] [] (Is [Bo (inR n (-100000) 100000)] []) := by
  refine FnSem.walk (zs := zeroPV Try.prog) (by kernel_rfl) Try.func123 rfl Try.results123 (by kernel_rfl) (by kernel_rfl) (by kernel_rfl) fun hw hh => ?_
  obtain ⟨w0, _⟩ := hw
  first | replace w0 := wf_I w0 | skip
  repeat' first
    | refine And.intro rfl ?_
    | refine GdF.mk (fun h => h) ?_
    | refine And.intro (Nat.succ_ne_zero _) ?_
    | refine And.intro (Nat.le_of_ble_eq_true rfl) ?_
    | refine SeqF.run ?_
    | refine GhF.go ?_
    | refine BndF.mk (fun _ => by omega) ?_
    | refine BndF.mk (fun _ => by simp only [List.length_map, List.length_cons, List.length_nil, List.length_append, List.length_set, List.length_replicate, iotaI_len]; omega) ?_
    | refine EqL.mk [] rfl ?_
    | refine EqL.mk [_] rfl ?_
    | refine EqL.mk _ rfl ?_
    | refine ArgF.is (c_spec_l00In ..) ?_
    | refine ArgQ.is (fun hG => c_spec_l00In ..) rfl rfl ?_
    | refine CallF.mk (CallW.is [] true rfl ?_)
    | refine CallG.mk ?_
    | (refine CondF.mk (fun hb => ?_) (fun hb => ?_) <;> try simp only [forall_const, eq_self, not_true_eq_false, not_false_eq_true, or_false, false_or, or_self, or_true, true_or, and_true, true_and, and_false, false_and, decide_true, decide_false, Bool.not_true, Bool.not_false, decide_eq_true_eq, decide_eq_false_iff_not, ite_and_p, ite_or_p, Bool.decide_eq_true, Bool.and_eq_true, Bool.or_eq_true, Bool.not_eq_true', Bool.not_eq_false', Bool.and_eq_false_imp, Bool.or_eq_false_iff, bne_iff_ne, beq_iff_eq, bne_eq_false_iff_eq, beq_eq_false_iff_ne, gt_iff_lt, ge_iff_le, Int.not_lt, Int.not_le, ne_eq, Bool.true_eq_false, Bool.false_eq_true, reduceCtorEq, eta_Airway, eta_Fan, eta_Mine] at hb)
    | refine RetF.auto (And.intro rfl ?_)
    | exact Is.mk rfl rfl
    | refine Is.mk ?_ rfl
    | refine Is.mk rfl ?_
    | refine Is.mk ?_ ?_
section
variable {m : GMine} {fs rs ps ss : List Int} {t rate : Int}
theorem htC_02 (h : okMine m = true) : htC m fs rs ps ss t rate = 0 ∨ htC m fs rs ps ss t rate = 2 := by
  unfold htC
  rw [if_pos h]
  split
  · split
    · exact .inl rfl
    · exact .inr rfl
  · exact .inr rfl
theorem htC_a (h : htC m fs rs ps ss t rate = 0) : (fs.length = m.airways.length ∧ rs.length = m.airways.length ∧ ps.length = m.airways.length) ∧ (ss.all (inR · 0 (m.junctions - 1)) && rising ss) = true ∧ inR t (-100) 600 = true ∧ inR rate 0 1000 = true ∧ ∀ j : Nat, (j : Int) < m.airways.length → inR (fs.getD j 0) (-100000) 100000 = true ∧ inR (rs.getD j 0) 0 900 = true ∧ inR (ps.getD j 0) (-10000000) 10000000 = true := by
  have q := htC_p h
  have e := okMine_p q.1.mine
  unfold htC at h
  rw [if_pos q.1.mine] at h
  split at h
  · split at h
    · rename_i h2 h3
      simp only [Bool.and_eq_true, jnO] at h3
      exact ⟨q.1.fl, by rw [h3.1.1.1, h3.1.1.2]; rfl, h3.1.2, h3.2, fun j _ => ⟨inR_iff.2 (q.1.fs j), inR_iff.2 (q.1.rs j), inR_iff.2 (q.2.1 j)⟩⟩
    · cases h
  · cases h
theorem htC_z (h : okMine m = true) (h1 : fs.length = m.airways.length ∧ rs.length = m.airways.length ∧ ps.length = m.airways.length) (h2 : (ss.all (inR · 0 (m.junctions - 1)) && rising ss) = true) (h3 : inR t (-100) 600 = true) (h4 : inR rate 0 1000 = true) (h5 : ∀ j : Nat, (j : Int) < m.airways.length → inR (fs.getD j 0) (-100000) 100000 = true ∧ inR (rs.getD j 0) 0 900 = true ∧ inR (ps.getD j 0) (-10000000) 10000000 = true) : htC m fs rs ps ss t rate = 0 := by
  rw [Bool.and_eq_true] at h2
  have a1 : lsO m fs (-100000) 100000 = true := by unfold lsO; rw [decide_eq_true h1.1, Bool.true_and]; exact (all_iff (d := 0)).2 fun j hj => (h5 j (by omega)).1
  have a2 : lsO m rs 0 900 = true := by unfold lsO; rw [decide_eq_true h1.2.1, Bool.true_and]; exact (all_iff (d := 0)).2 fun j hj => (h5 j (by omega)).2.1
  have a3 : lsO m ps (-10000000) 10000000 = true := by unfold lsO; rw [decide_eq_true h1.2.2, Bool.true_and]; exact (all_iff (d := 0)).2 fun j hj => (h5 j (by omega)).2.2
  unfold htC
  rw [if_pos h, if_pos (by rw [a1, a2, a3]; rfl), if_pos (by unfold jnO; rw [h2.1, h2.2, h3, h4]; rfl)]
theorem ask_2 (h : okMine m = true) (hb : ((((¬((fs.length : Nat) : Int) = ((m.airways.length : Nat) : Int) ∨ ¬((rs.length : Nat) : Int) = ((m.airways.length : Nat) : Int)) ∨ ¬((ps.length : Nat) : Int) = ((m.airways.length : Nat) : Int)) ∨ ((ss.all fun x => inR x 0 (m.junctions - 1)) = true → rising ss = false)) ∨ inR t (-100) 600 = false) ∨ inR rate 0 1000 = false) : htC m fs rs ps ss t rate = 2 := by
  rcases htC_02 (fs := fs) (rs := rs) (ps := ps) (ss := ss) (t := t) (rate := rate) h with e | e
  · exfalso
    have a := htC_a e
    have b := a.2.1
    rw [Bool.and_eq_true] at b
    rcases hb with ((((hb | hb) | hb) | hb) | hb) | hb
    · omega
    · omega
    · omega
    · have := hb b.1; rw [b.2] at this; cases this
    · rw [a.2.2.1] at hb; cases hb
    · rw [a.2.2.2.1] at hb; cases hb
  · exact e
theorem ask_3 (h : okMine m = true) {i : Int} (h0 : 0 ≤ i) (hi : i < m.airways.length) (hb : (inR (fs.getD i.toNat 0) (-100000) 100000 = false ∨ inR (rs.getD i.toNat 0) 0 900 = false) ∨ inR (ps.getD i.toNat 0) (-10000000) 10000000 = false) : htC m fs rs ps ss t rate = 2 := by
  rcases htC_02 (fs := fs) (rs := rs) (ps := ps) (ss := ss) (t := t) (rate := rate) h with e | e
  · exfalso
    have a := (htC_a e).2.2.2.2 i.toNat (by omega)
    rcases hb with (hb | hb) | hb
    · rw [a.1] at hb; cases hb
    · rw [a.2.1] at hb; cases hb
    · rw [a.2.2] at hb; cases hb
  · exact e
theorem ask_0 (h : okMine m = true) {i : Int} (hi : (m.airways.length : Int) ≤ i) (h2 : ∀ j : Nat, (j : Int) < i → inR (fs.getD j 0) (-100000) 100000 = true ∧ inR (rs.getD j 0) 0 900 = true ∧ inR (ps.getD j 0) (-10000000) 10000000 = true) (hb : ¬((((¬((fs.length : Nat) : Int) = ((m.airways.length : Nat) : Int) ∨ ¬((rs.length : Nat) : Int) = ((m.airways.length : Nat) : Int)) ∨ ¬((ps.length : Nat) : Int) = ((m.airways.length : Nat) : Int)) ∨ ((ss.all fun x => inR x 0 (m.junctions - 1)) = true → rising ss = false)) ∨ inR t (-100) 600 = false) ∧ inR rate 0 1000 = true) : htC m fs rs ps ss t rate = 0 := by
  obtain ⟨g, g2⟩ := hb
  simp only [not_or] at g
  obtain ⟨⟨⟨⟨g3, g4⟩, g5⟩, g6⟩, g7⟩ := g
  have g8 := Classical.not_imp.1 g6
  refine htC_z h ⟨by omega, by omega, by omega⟩ ?_ (by simpa using g7) g2 fun j hj => h2 j (by omega)
  rw [Bool.and_eq_true]
  exact ⟨g8.1, by simpa using g8.2⟩
end
theorem c_spec_l16Ask (m : GMine) (fs rs ps ss : List Int) (t rate : Int) : FnSem Try.prog 56 [.p .any (.ref m.cells), Lx (LI fs), Lx (LI rs), Lx (LI ps), Lx (LI ss), In t, In rate] [] (Is [In (htC m fs rs ps ss t rate)] []) := by
  refine FnSem.walk (zs := zeroPV Try.prog) (by kernel_rfl) Try.func56 rfl Try.results56 (by kernel_rfl) (by kernel_rfl) (by kernel_rfl) fun hw hh => ?_
  obtain ⟨w0, w1, w2, w3, w4, w5, w6, _⟩ := hw
  first | replace w0 := wfr_Mine w0 | skip
  first | replace w1 := wf_LI w1 | skip
  first | replace w2 := wf_LI w2 | skip
  first | replace w3 := wf_LI w3 | skip
  first | replace w4 := wf_LI w4 | skip
  first | replace w5 := wf_I w5 | skip
  first | replace w6 := wf_I w6 | skip
  repeat' first
    | refine And.intro rfl ?_
    | refine GdF.mk (fun h => h) ?_
    | refine And.intro (Nat.succ_ne_zero _) ?_
    | refine And.intro (Nat.le_of_ble_eq_true rfl) ?_
    | refine SeqF.run ?_
    | refine ArgF.is (c_spec_l04Ok m) ?_
    | refine ArgQ.is (fun hG => c_spec_l04Ok m) rfl rfl ?_
    | refine ArgF.is (c_spec_l00Rises ss 0 (m.junctions - 1)) ?_
    | refine ArgQ.is (fun hG => c_spec_l00Rises ss 0 (m.junctions - 1)) rfl rfl ?_
    | refine ArgF.is (flowZ (fs.getD i.toNat 0)) ?_
    | refine ArgQ.is (fun hG => flowZ (fs.getD i.toNat 0)) rfl rfl ?_
    | refine EqI.mk (m.junctions - 1) (fun _ => by have e := okMine_p (m := m) (by assumption); exact wrapI (by omega) (by omega)) ?_
    | refine EqI.mk _ (fun _ => by have e := okMine_p (m := m) (by assumption); exact wrapI (by omega) (by omega)) ?_
    | refine LoopF.at 7 rfl (LoopF.fix [1, 2, 3, 15] (Int) (fun i => 0 ≤ i ∧ i ≤ m.airways.length ∧ ∀ j : Nat, (j : Int) < i → inR (fs.getD j 0) (-100000) 100000 = true ∧ inR (rs.getD j 0) 0 900 = true ∧ inR (ps.getD j 0) (-10000000) 10000000 = true) (fun i => [(16, In i)]) (fun i => []) (fun i => ((m.airways.length - i).toNat)) (0) ?_)
    | (refine LoopB.of (T := Int) ?_ ?_; rotate_left; rintro i ⟨h0, h1, h2⟩; rotate_left)
    | refine GhF.go ?_
    | refine GdS.keep ?_
    | refine EqP.mk _ (gm eI 0 rfl) ?_
    | refine EqP.mk _ (gm GAirway.cells default rfl) ?_
    | refine BndF.mk (fun _ => by omega) ?_
    | refine BndF.mk (fun _ => by simp only [List.length_map, List.length_cons, List.length_nil, List.length_append, List.length_set, List.length_replicate, iotaI_len]; omega) ?_
    | refine BndF.mk (fun hG => by simp only [forall_const, eq_self, not_true_eq_false, not_false_eq_true, or_false, false_or, or_self, or_true, true_or, and_true, true_and, and_false, false_and, decide_true, decide_false, Bool.not_true, Bool.not_false, decide_eq_true_eq, decide_eq_false_iff_not, ite_and_p, ite_or_p, Bool.decide_eq_true, Bool.and_eq_true, Bool.or_eq_true, Bool.not_eq_true', Bool.not_eq_false', Bool.and_eq_false_imp, Bool.or_eq_false_iff, bne_iff_ne, beq_iff_eq, bne_eq_false_iff_eq, beq_eq_false_iff_ne, gt_iff_lt, ge_iff_le, Int.not_lt, Int.not_le, ne_eq, Bool.true_eq_false, Bool.false_eq_true, reduceCtorEq, eta_Airway, eta_Fan, eta_Mine, bytes_nil] at hG; (try simp only [List.length_map]); omega) ?_
    | refine EqI.mk _ (fun _ => wrapI (by omega) (by omega)) ?_
    | refine EqI.mk _ (fun _ => rfl) ?_
    | refine EqN.mk _ (ln eI) ?_
    | refine EqN.mk _ (ln GAirway.cells) ?_
    | refine EqN.mk _ (Nat.zero_add _) ?_
    | refine EqN.mk _ (Int.toNat_natCast _) ?_
    | refine EqN.mk _ rfl ?_
    | refine EqL.mk _ (tk eI (by first | rfl | assumption | omega | (simp only [List.length_map, List.length_cons, List.length_nil, List.length_append, List.length_set, List.length_replicate, iotaI_len]; done) | (simp only [List.length_map, List.length_cons, List.length_nil, List.length_append, List.length_set, List.length_replicate, iotaI_len]; omega))) ?_
    | refine EqL.mk _ (tk GAirway.cells (by first | rfl | assumption | omega | (simp only [List.length_map, List.length_cons, List.length_nil, List.length_append, List.length_set, List.length_replicate, iotaI_len]; done) | (simp only [List.length_map, List.length_cons, List.length_nil, List.length_append, List.length_set, List.length_replicate, iotaI_len]; omega))) ?_
    | refine EqL.mk [] rfl ?_
    | refine EqL.mk [_] rfl ?_
    | refine EqL.mk _ rfl ?_
    | refine ArgF.is (c_spec_l04Ok ⟨_, _⟩) ?_
    | refine ArgQ.is (fun hG => c_spec_l04Ok ⟨_, _⟩) rfl rfl ?_
    | refine ArgF.is (c_spec_l00Rises ..) ?_
    | refine ArgQ.is (fun hG => c_spec_l00Rises ..) rfl rfl ?_
    | refine ArgF.is (c_spec_l02Temperature ..) ?_
    | refine ArgQ.is (fun hG => c_spec_l02Temperature ..) rfl rfl ?_
    | refine ArgF.is (c_spec_l16Rate ..) ?_
    | refine ArgQ.is (fun hG => c_spec_l16Rate ..) rfl rfl ?_
    | refine ArgF.is (c_spec_l03Flow ..) ?_
    | refine ArgQ.is (fun hG => c_spec_l03Flow ..) rfl rfl ?_
    | refine ArgF.is (c_spec_l16Rock ..) ?_
    | refine ArgQ.is (fun hG => c_spec_l16Rock ..) rfl rfl ?_
    | refine ArgF.is (c_spec_l16Power ..) ?_
    | refine ArgQ.is (fun hG => c_spec_l16Power ..) rfl rfl ?_
    | refine CallF.mk (CallW.is [] true rfl ?_)
    | refine CallG.mk ?_
    | (refine CondF.mk (fun hb => ?_) (fun hb => ?_) <;> try simp only [forall_const, eq_self, not_true_eq_false, not_false_eq_true, or_false, false_or, or_self, or_true, true_or, and_true, true_and, and_false, false_and, decide_true, decide_false, Bool.not_true, Bool.not_false, decide_eq_true_eq, decide_eq_false_iff_not, ite_and_p, ite_or_p, Bool.decide_eq_true, Bool.and_eq_true, Bool.or_eq_true, Bool.not_eq_true', Bool.not_eq_false', Bool.and_eq_false_imp, Bool.or_eq_false_iff, bne_iff_ne, beq_iff_eq, bne_eq_false_iff_eq, beq_eq_false_iff_ne, gt_iff_lt, ge_iff_le, Int.not_lt, Int.not_le, ne_eq, Bool.true_eq_false, Bool.false_eq_true, reduceCtorEq, eta_Airway, eta_Fan, eta_Mine] at hb)
    | apply BackF.auto
    | refine BackB.mk ?_ ?_
    | refine RetF.auto (And.intro rfl ?_)
    | exact Is.mk rfl rfl
    | refine Is.mk ?_ rfl
    | refine Is.mk rfl ?_
    | refine Is.mk ?_ ?_
  all_goals try dsimp only
  all_goals first
    | omega
    | rw [htC_1 hb]
    | exact ⟨by omega, by omega, all_0⟩
    | rw [ask_2 (by assumption) hb]
    | rw [ask_3 (by assumption) h0 (by assumption) hb]
    | rw [ask_0 (by assumption) hb h2 (by assumption)]
    | (refine ⟨by omega, by omega, all_s (P := fun j => inR (fs.getD j 0) (-100000) 100000 = true ∧ inR (rs.getD j 0) 0 900 = true ∧ inR (ps.getD j 0) (-10000000) 10000000 = true) h0 h2 ?_⟩
       obtain ⟨g, g2⟩ := hb
       simp only [not_or, Bool.not_eq_false] at g
       exact ⟨g.1, g.2, g2⟩)
    | skip
end
section
open Go.Av
attribute [local irreducible] Go.IntKind.wrap leastI rdZ rd rootI rawA okMine heatF heatY
set_option maxRecDepth 20000
set_option maxHeartbeats 8000000

/-! Temperatures: the reference's search for all of them, plain. -/
theorem srf_len {J : Nat} {ss : List Int} {t : Int} : ∀ n : Nat, (srf J ss t n).length = J
  | 0 => by simp [srf]
  | n + 1 => by rw [srf, List.length_set, srf_len n]
theorem srf_in {J : Nat} {ss : List Int} {t : Int} : ∀ n : Nat, (∀ i : Nat, i < n → 0 ≤ ss.getD i 0 ∧ ss.getD i 0 < J) → ∀ j : Nat, j < J → ((∃ i, i < n ∧ ss.getD i 0 = (j : Int)) → (srf J ss t n).getD j 0 = t) ∧ (¬(∃ i, i < n ∧ ss.getD i 0 = (j : Int)) → (srf J ss t n).getD j 0 = -1000)
  | 0, _, j, hj => ⟨fun h => by obtain ⟨i, hi, _⟩ := h; omega, fun _ => by rw [srf, List.getD_eq_getElem?_getD, List.getElem?_replicate, if_pos hj]; rfl⟩
  | n + 1, h, j, hj => by
    have ih := srf_in (t := t) n (fun i hi => h i (by omega)) j hj
    have hn := h n (by omega)
    rw [srf, gdSetY, srf_len]
    constructor
    · rintro ⟨i, hi, e⟩
      split
      · rfl
      · rename_i hc
        by_cases e2 : i = n
        · subst e2; exact absurd ⟨by omega, by omega⟩ hc
        · exact ih.1 ⟨i, by omega, e⟩
    · intro hx
      rw [if_neg (fun hc => hx ⟨n, by omega, by omega⟩)]
      exact ih.2 (fun ⟨i, hi, e⟩ => hx ⟨i, by omega, e⟩)
theorem srf_eq {J : Nat} {ss xs : List Int} {t : Int} (h : ∀ i : Nat, (i : Int) < ss.length → 0 ≤ ss.getD i 0 ∧ ss.getD i 0 < J) (hl : xs.length = J) (hx : ∀ j : Nat, j < J → xs.getD j 0 = if (j : Int) ∈ ss then t else -1000) : xs = srf J ss t ss.length := by
  apply List.ext_getElem?
  intro j
  by_cases e : j < J
  · have a := hx j e
    have b := srf_in (t := t) ss.length (fun i hi => h i (by omega)) j e
    have c : (srf J ss t ss.length).getD j 0 = if (j : Int) ∈ ss then t else -1000 := by
      by_cases hm : (j : Int) ∈ ss
      · rw [if_pos hm]
        obtain ⟨i, hi, e2⟩ := List.getElem_of_mem hm
        exact b.1 ⟨i, hi, by rw [List.getD_eq_getElem?_getD, List.getElem?_eq_getElem hi]; exact e2⟩
      · rw [if_neg hm]
        refine b.2 fun ⟨i, hi, e2⟩ => hm ?_
        rw [← e2]; exact getD_mem hi
    rw [← c] at a
    have l2 := srf_len (J := J) (ss := ss) (t := t) ss.length
    rw [List.getD_eq_getElem?_getD, List.getD_eq_getElem?_getD, List.getElem?_eq_getElem (by omega), List.getElem?_eq_getElem (by omega)] at a
    rw [List.getElem?_eq_getElem (by omega), List.getElem?_eq_getElem (by omega)]
    exact congrArg some a
  · rw [List.getElem?_eq_none (by omega), List.getElem?_eq_none (by rw [srf_len]; omega)]
section
variable {m : GMine} {fs rs ps ls : List Int} {rate j : Int}
/-- what the reference has gathered of the first airways -/
structure cmG (m : GMine) (fs rs ps ls : List Int) (rate j : Int) (i : Nat) (rd : Bool) (xs ys : List Int) : Prop where
  ln : xs.length ≤ i ∧ ys.length = xs.length
  no : rd = false → cmF m fs rs ps ls rate j i = none
  ok : rd = true → cmF m fs rs ps ls rate j i = some (xs, ys)
theorem cmG_0 : cmG m fs rs ps ls rate j 0 true [] [] := ⟨by simp, (fun h => by cases h), (fun _ => rfl)⟩
theorem cmG_k {i : Int} {rd : Bool} {xs ys : List Int} (h0 : 0 ≤ i) (h : cmG m fs rs ps ls rate j i.toNat rd xs ys) (h1 : fs.getD i.toNat 0 = 0 ∨ ¬enA m fs i.toNat = j) : cmG m fs rs ps ls rate j (i + 1).toNat rd xs ys := by
  refine ⟨⟨by have := h.ln; omega, h.ln.2⟩, fun e => ?_, fun e => cmF_k h0 (h.ok e) h1⟩
  have := cmF_no 1 (h.no e)
  rw [show (i + 1).toNat = i.toNat + 1 by omega]; exact this
theorem cmG_n {i : Int} {rd : Bool} {xs ys : List Int} (h0 : 0 ≤ i) (h : cmG m fs rs ps ls rate j i.toNat rd xs ys) (h1 : ¬(fs.getD i.toNat 0 = 0 ∨ ¬enA m fs i.toNat = j)) (h2 : ls.getD (stW m fs i.toNat).toNat 0 = -1000) : cmG m fs rs ps ls rate j (i + 1).toNat false xs ys := by
  refine ⟨⟨by have := h.ln; omega, h.ln.2⟩, fun _ => ?_, fun e => by cases e⟩
  rw [show (i + 1).toNat = i.toNat + 1 by omega]
  cases e : rd with
  | false => exact cmF_no 1 (h.no e)
  | true => rw [cmF, h.ok e]; dsimp only; rw [if_neg h1, if_pos h2]
theorem cmG_a {i : Int} {rd : Bool} {xs ys : List Int} (h0 : 0 ≤ i) (h : cmG m fs rs ps ls rate j i.toNat rd xs ys) (h1 : ¬(fs.getD i.toNat 0 = 0 ∨ ¬enA m fs i.toNat = j)) (h2 : ¬ls.getD (stW m fs i.toNat).toNat 0 = -1000) : cmG m fs rs ps ls rate j (i + 1).toNat rd (xs ++ [max (fs.getD i.toNat 0) (-fs.getD i.toNat 0)]) (ys ++ [tmW m fs rs ps ls rate i.toNat]) := by
  refine ⟨by have := h.ln; simp; omega, fun e => ?_, fun e => cmF_a h0 (h.ok e) h1 h2⟩
  rw [show (i + 1).toNat = i.toNat + 1 by omega]
  exact cmF_no 1 (h.no e)
theorem cmG_t {i : Int} {rd : Bool} {xs ys : List Int} (h1 : i ≤ m.airways.length) (h2 : (m.airways.length : Int) ≤ i) (h0 : 0 ≤ i) (h : cmG m fs rs ps ls rate j i.toNat rd xs ys) (hr : rd = true) (hn : 0 < xs.length) : cmI m fs rs ps ls rate j = (mixT xs ys, true) := by
  have e := h.ok hr
  rw [show i.toNat = m.airways.length by omega] at e
  unfold cmI; rw [e]; dsimp only; rw [if_neg (by omega)]
theorem cmG_f {i : Int} {rd : Bool} {xs ys : List Int} (h1 : i ≤ m.airways.length) (h2 : (m.airways.length : Int) ≤ i) (h0 : 0 ≤ i) (h : cmG m fs rs ps ls rate j i.toNat rd xs ys) (hr : rd = false ∨ xs.length = 0) : (cmI m fs rs ps ls rate j).2 = false := by
  unfold cmI
  have e0 : i.toNat = m.airways.length := by omega
  rw [e0] at h
  cases e : rd with
  | false => rw [h.no e]
  | true =>
    rw [h.ok e]; dsimp only
    rcases hr with hr | hr
    · rw [e] at hr; cases hr
    · rw [if_pos hr]
end
end
end Go.Proofs.Ytfcnlpghdpfjkaa
