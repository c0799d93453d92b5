/- Contracts of functions of the program, and what they compute. Conditions: those that each theorem states. -/
import Derived.Test.YtmifcbekaniiiaaGreatDoorProg
import Derived.Test.YtmifcbekaniiiaaGreatDoorT11
import Derived.Test.YtmifcbekaniiiaaGreatDoorG1
import Derived.Test.YtmifcbekaniiiaaGreatDoorL3
import Derived.Test.YtmifcbekaniiiaaGreatDoorK3
import Derived.Test.YtmifcbekaniiiaaGreatDoorR2
set_option linter.unusedVariables false
set_option linter.unusedSimpArgs false
namespace Go.Proofs.YtmifcbekaniiiaaGreatDoor
open Go.Av
attribute [local irreducible] Go.IntKind.wrap listS decS idS isName setN leastI rd rdZ
set_option maxRecDepth 20000
set_option maxHeartbeats 8000000

/-! Ducts: what is left of a flow. -/
def okDuct (x : GDuct) : Bool := isName x.id && inR x.length 1 2000 && inR x.joint 5 50 && inR x.loss 0 100000
theorem okDuct_b {x : GDuct} (h : okDuct x = true) : (1 ≤ x.length ∧ x.length ≤ 2000) ∧ (5 ≤ x.joint ∧ x.joint ≤ 50) ∧ 0 ≤ x.loss ∧ x.loss ≤ 100000 := by
  simp only [okDuct, Bool.and_eq_true, inR_iff] at h; omega
theorem c_impl_ValidDuct (x : GDuct) : FnSem Tryz.prog 99 [.p .any (.agg x.cells)] [] (Is [Bo (okDuct x)] []) := by
  refine FnSem.walk (zs := zeroPV Tryz.prog) (by kernel_rfl) Tryz.func99 rfl Tryz.results99 (by kernel_rfl) (by kernel_rfl) (by kernel_rfl) fun hw hh => ?_
  obtain ⟨w0, _⟩ := hw
  first | replace w0 := wf_Duct w0 | skip
  repeat' first
    | refine And.intro rfl ?_
    | refine GdF.mk (fun h => h) ?_
    | refine And.intro (Nat.succ_ne_zero _) ?_
    | refine And.intro (Nat.le_of_ble_eq_true rfl) ?_
    | refine SeqF.run ?_
    | refine GhF.go ?_
    | refine GdS.keep ?_
    | refine BndF.mk (fun _ => by omega) ?_
    | refine BndF.mk (fun _ => by simp only [List.length_map, List.length_cons, List.length_nil, List.length_append, List.length_set, List.length_replicate, iotaI_len]; omega) ?_
    | refine BndF.mk (fun hG => by simp only [forall_const, eq_self, not_true_eq_false, not_false_eq_true, or_false, false_or, or_self, or_true, true_or, and_true, true_and, and_false, false_and, decide_true, decide_false, Bool.not_true, Bool.not_false, decide_eq_true_eq, decide_eq_false_iff_not, ite_and_p, ite_or_p, Bool.decide_eq_true, Bool.and_eq_true, Bool.or_eq_true, Bool.not_eq_true', Bool.not_eq_false', Bool.and_eq_false_imp, Bool.or_eq_false_iff, bne_iff_ne, beq_iff_eq, bne_eq_false_iff_eq, beq_eq_false_iff_ne, gt_iff_lt, ge_iff_le, Int.not_lt, Int.not_le, ne_eq, Bool.true_eq_false, Bool.false_eq_true, reduceCtorEq, eta_Airway, eta_Duct, eta_Fan, eta_Mine, eta_Survey, bytes_nil] at hG; (try simp only [List.length_map]); omega) ?_
    | refine EqL.mk [] rfl ?_
    | refine EqL.mk [_] rfl ?_
    | refine EqL.mk _ rfl ?_
    | refine ArgF.is (c_impl_IsName ..) ?_
    | refine ArgQ.is (fun hG => c_impl_IsName ..) rfl rfl ?_
    | refine ArgF.is (c_impl_within ..) ?_
    | refine ArgQ.is (fun hG => c_impl_within ..) rfl rfl ?_
    | refine CallF.mk (CallW.is [] true rfl ?_)
    | refine CallG.mk ?_
    | (refine CondF.mk (fun hb => ?_) (fun hb => ?_) <;> try simp only [forall_const, eq_self, not_true_eq_false, not_false_eq_true, or_false, false_or, or_self, or_true, true_or, and_true, true_and, and_false, false_and, decide_true, decide_false, Bool.not_true, Bool.not_false, decide_eq_true_eq, decide_eq_false_iff_not, ite_and_p, ite_or_p, Bool.decide_eq_true, Bool.and_eq_true, Bool.or_eq_true, Bool.not_eq_true', Bool.not_eq_false', Bool.and_eq_false_imp, Bool.or_eq_false_iff, bne_iff_ne, beq_iff_eq, bne_eq_false_iff_eq, beq_eq_false_iff_ne, gt_iff_lt, ge_iff_le, Int.not_lt, Int.not_le, ne_eq, Bool.true_eq_false, Bool.false_eq_true, reduceCtorEq, eta_Airway, eta_Duct, eta_Fan, eta_Mine, eta_Survey] at hb)
    | refine RetF.auto (And.intro rfl ?_)
    | exact Is.mk rfl rfl
    | refine Is.mk ?_ rfl
    | refine Is.mk rfl ?_
    | refine Is.mk ?_ ?_
  all_goals try dsimp only
  all_goals try simp only [Bo, I, OB.row.injEq, AV.osl.injEq, eI_same,  List.cons.injEq, AV.p.injEq, PV.c.injEq, Value.int.injEq, Value.bool.injEq, and_true, true_and, ite_and_p, ite_or_p, Bool.decide_eq_true, eta_Airway, eta_Duct, eta_Fan, eta_Mine, eta_Survey, okDuct]
theorem c_spec_l11Ok (x : GDuct) : FnSem Tryz.prog 105 [.p .any (.ref x.cells)] [] (Is [Bo (okDuct x)] []) := by
  refine FnSem.walk (zs := zeroPV Tryz.prog) (by kernel_rfl) Tryz.func105 rfl Tryz.results105 (by kernel_rfl) (by kernel_rfl) (by kernel_rfl) fun hw hh => ?_
  obtain ⟨w0, _⟩ := hw
  first | replace w0 := wfr_Duct w0 | skip
  repeat' first
    | refine And.intro rfl ?_
    | refine GdF.mk (fun h => h) ?_
    | refine And.intro (Nat.succ_ne_zero _) ?_
    | refine And.intro (Nat.le_of_ble_eq_true rfl) ?_
    | refine SeqF.run ?_
    | refine GhF.go ?_
    | refine GdS.keep ?_
    | refine BndF.mk (fun _ => by omega) ?_
    | refine BndF.mk (fun _ => by simp only [List.length_map, List.length_cons, List.length_nil, List.length_append, List.length_set, List.length_replicate, iotaI_len]; omega) ?_
    | refine BndF.mk (fun hG => by simp only [forall_const, eq_self, not_true_eq_false, not_false_eq_true, or_false, false_or, or_self, or_true, true_or, and_true, true_and, and_false, false_and, decide_true, decide_false, Bool.not_true, Bool.not_false, decide_eq_true_eq, decide_eq_false_iff_not, ite_and_p, ite_or_p, Bool.decide_eq_true, Bool.and_eq_true, Bool.or_eq_true, Bool.not_eq_true', Bool.not_eq_false', Bool.and_eq_false_imp, Bool.or_eq_false_iff, bne_iff_ne, beq_iff_eq, bne_eq_false_iff_eq, beq_eq_false_iff_ne, gt_iff_lt, ge_iff_le, Int.not_lt, Int.not_le, ne_eq, Bool.true_eq_false, Bool.false_eq_true, reduceCtorEq, eta_Airway, eta_Duct, eta_Fan, eta_Mine, eta_Survey, bytes_nil] at hG; (try simp only [List.length_map]); omega) ?_
    | refine EqL.mk [] rfl ?_
    | refine EqL.mk [_] rfl ?_
    | refine EqL.mk _ rfl ?_
    | refine ArgF.is (c_spec_l01Name ..) ?_
    | refine ArgQ.is (fun hG => c_spec_l01Name ..) rfl rfl ?_
    | refine ArgF.is (c_spec_l00In ..) ?_
    | refine ArgQ.is (fun hG => c_spec_l00In ..) rfl rfl ?_
    | refine CallF.mk (CallW.is [] true rfl ?_)
    | refine CallG.mk ?_
    | (refine CondF.mk (fun hb => ?_) (fun hb => ?_) <;> try simp only [forall_const, eq_self, not_true_eq_false, not_false_eq_true, or_false, false_or, or_self, or_true, true_or, and_true, true_and, and_false, false_and, decide_true, decide_false, Bool.not_true, Bool.not_false, decide_eq_true_eq, decide_eq_false_iff_not, ite_and_p, ite_or_p, Bool.decide_eq_true, Bool.and_eq_true, Bool.or_eq_true, Bool.not_eq_true', Bool.not_eq_false', Bool.and_eq_false_imp, Bool.or_eq_false_iff, bne_iff_ne, beq_iff_eq, bne_eq_false_iff_eq, beq_eq_false_iff_ne, gt_iff_lt, ge_iff_le, Int.not_lt, Int.not_le, ne_eq, Bool.true_eq_false, Bool.false_eq_true, reduceCtorEq, eta_Airway, eta_Duct, eta_Fan, eta_Mine, eta_Survey] at hb)
    | refine RetF.auto (And.intro rfl ?_)
    | exact Is.mk rfl rfl
    | refine Is.mk ?_ rfl
    | refine Is.mk rfl ?_
    | refine Is.mk ?_ ?_
  all_goals try dsimp only
  all_goals try simp only [Bo, I, OB.row.injEq, AV.osl.injEq, eI_same,  List.cons.injEq, AV.p.injEq, PV.c.injEq, Value.int.injEq, Value.bool.injEq, and_true, true_and, ite_and_p, ite_or_p, Bool.decide_eq_true, eta_Airway, eta_Duct, eta_Fan, eta_Mine, eta_Survey, okDuct]
  all_goals grind
/-- how many joints -/
def joI (x : GDuct) : Int := (x.length - 1) / x.joint
theorem joI_b {x : GDuct} (h : okDuct x = true) : 0 ≤ joI x ∧ joI x ≤ 2000 := by
  have hb := okDuct_b h
  unfold joI
  have h1 := Int.ediv_nonneg (show 0 ≤ x.length - 1 by omega) (show 0 ≤ x.joint by omega)
  have h2 := Int.ediv_le_self x.joint (show 0 ≤ x.length - 1 by omega)
  omega
theorem c_impl_Duct_joints (x : GDuct) (h : okDuct x = true) : FnSem Tryz.prog 102 [.p .any (.agg x.cells)] [] (Is [In (joI x)] []) := by
  have hb := okDuct_b h
  refine FnSem.walk (zs := zeroPV Tryz.prog) (by kernel_rfl) Tryz.func102 rfl Tryz.results102 (by kernel_rfl) (by kernel_rfl) (by kernel_rfl) fun hw hh => ?_
  obtain ⟨w0, _⟩ := hw
  first | replace w0 := wf_Duct w0 | skip
  repeat' first
    | refine And.intro rfl ?_
    | refine GdF.mk (fun h => h) ?_
    | refine And.intro (Nat.succ_ne_zero _) ?_
    | refine And.intro (Nat.le_of_ble_eq_true rfl) ?_
    | refine SeqF.run ?_
    | refine GhF.go ?_
    | refine BndF.mk (fun _ => by omega) ?_
    | refine BndF.mk (fun _ => by simp only [List.length_map, List.length_cons, List.length_nil, List.length_append, List.length_set, List.length_replicate, iotaI_len]; omega) ?_
    | refine EqI.mk _ (fun _ => wrapI (by omega) (by omega)) ?_
    | refine EqI.mk _ (fun _ => wrapD (by omega) (by omega) (by omega)) ?_
    | refine EqI.mk _ (fun _ => rfl) ?_
    | (refine CondF.mk (fun hb => ?_) (fun hb => ?_) <;> try simp only [forall_const, eq_self, not_true_eq_false, not_false_eq_true, or_false, false_or, or_self, or_true, true_or, and_true, true_and, and_false, false_and, decide_true, decide_false, Bool.not_true, Bool.not_false, decide_eq_true_eq, decide_eq_false_iff_not, ite_and_p, ite_or_p, Bool.decide_eq_true, Bool.and_eq_true, Bool.or_eq_true, Bool.not_eq_true', Bool.not_eq_false', Bool.and_eq_false_imp, Bool.or_eq_false_iff, bne_iff_ne, beq_iff_eq, bne_eq_false_iff_eq, beq_eq_false_iff_ne, gt_iff_lt, ge_iff_le, Int.not_lt, Int.not_le, ne_eq, Bool.true_eq_false, Bool.false_eq_true, reduceCtorEq, eta_Airway, eta_Duct, eta_Fan, eta_Mine, eta_Survey] at hb)
    | refine RetF.auto (And.intro rfl ?_)
    | exact Is.mk rfl rfl
    | refine Is.mk ?_ rfl
    | refine Is.mk rfl ?_
    | refine Is.mk ?_ ?_
theorem c_spec_l11Joints (x : GDuct) (h : okDuct x = true) : FnSem Tryz.prog 108 [.p .any (.ref x.cells)] [] (Is [In (joI x)] []) := by
  have hb := okDuct_b h
  refine FnSem.walk (zs := zeroPV Tryz.prog) (by kernel_rfl) Tryz.func108 rfl Tryz.results108 (by kernel_rfl) (by kernel_rfl) (by kernel_rfl) fun hw hh => ?_
  obtain ⟨w0, _⟩ := hw
  first | replace w0 := wfr_Duct w0 | skip
  repeat' first
    | refine And.intro rfl ?_
    | refine GdF.mk (fun h => h) ?_
    | refine And.intro (Nat.succ_ne_zero _) ?_
    | refine And.intro (Nat.le_of_ble_eq_true rfl) ?_
    | refine SeqF.run ?_
    | refine GhF.go ?_
    | refine DrawG.old (DrawF.lex (by decide +kernel) ?_)
    | refine BndF.mk (fun _ => by omega) ?_
    | refine BndF.mk (fun _ => by simp only [List.length_map, List.length_cons, List.length_nil, List.length_append, List.length_set, List.length_replicate, iotaI_len]; omega) ?_
    | refine EqI.mk _ (fun _ => wrapI (by omega) (by omega)) ?_
    | refine EqI.mk _ (fun _ => wrapD (by omega) (by omega) (by omega)) ?_
    | refine EqI.mk _ (fun _ => rfl) ?_
    | (refine CondF.mk (fun hb => ?_) (fun hb => ?_) <;> try simp only [forall_const, eq_self, not_true_eq_false, not_false_eq_true, or_false, false_or, or_self, or_true, true_or, and_true, true_and, and_false, false_and, decide_true, decide_false, Bool.not_true, Bool.not_false, decide_eq_true_eq, decide_eq_false_iff_not, ite_and_p, ite_or_p, Bool.decide_eq_true, Bool.and_eq_true, Bool.or_eq_true, Bool.not_eq_true', Bool.not_eq_false', Bool.and_eq_false_imp, Bool.or_eq_false_iff, bne_iff_ne, beq_iff_eq, bne_eq_false_iff_eq, beq_eq_false_iff_ne, gt_iff_lt, ge_iff_le, Int.not_lt, Int.not_le, ne_eq, Bool.true_eq_false, Bool.false_eq_true, reduceCtorEq, eta_Airway, eta_Duct, eta_Fan, eta_Mine, eta_Survey] at hb)
    | refine RetF.auto (And.intro rfl ?_)
    | exact Is.mk rfl rfl
    | refine Is.mk ?_ rfl
    | refine Is.mk rfl ?_
    | refine Is.mk ?_ ?_
theorem setN_0 (s d : Int) : setN s 0 d = d := by rw [setN]
theorem setN_1 (s d : Int) (n : Nat) : setN s (n + 1) d = stepD s (setN s n d) := by rw [setN]
theorem setN_t {s d i : Int} (h : 0 ≤ i) : setN s (i + 1).toNat d = stepD s (setN s i.toNat d) := by rw [show (i + 1).toNat = i.toNat + 1 by omega, setN_1]
theorem stepD_m {s d e : Int} (hs : 0 ≤ s ∧ s ≤ 1000000) (h0 : 0 ≤ d) (h : d ≤ e) : stepD s d ≤ stepD s e := by
  unfold stepD
  rw [rd_eq (Int.mul_nonneg h0 hs.1) (by omega), rd_eq (Int.mul_nonneg (show 0 ≤ e by omega) hs.1) (by omega)]
  have e1 : e * s = d * s + (e - d) * s := by rw [← Int.add_mul]; congr 1; omega
  have h1 := Int.mul_le_mul_of_nonneg_left hs.2 (show 0 ≤ e - d by omega)
  have h2 := Int.mul_nonneg (show 0 ≤ e - d by omega) hs.1
  rw [e1]
  generalize d * s = a at *
  generalize (e - d) * s = b at *
  omega
theorem setN_m {s d e : Int} (hs : 0 ≤ s ∧ s ≤ 1000000) (h0 : 0 ≤ d) (h : d ≤ e) : ∀ n : Nat, setN s n d ≤ setN s n e
  | 0 => by rw [setN_0, setN_0]; exact h
  | n + 1 => by
    have h1 := setN_m hs h0 h n
    have h2 := setN_b h0 hs.1 hs.2 n
    rw [setN_1, setN_1]
    exact stepD_m hs h2.1 h1
/-- what is left at the end -/
def endI (x : GDuct) (q : Int) : Int := setN x.loss (joI x).toNat q
theorem endI_b {x : GDuct} (h : okDuct x = true) {q : Int} (h0 : 0 ≤ q) : 0 ≤ endI x q ∧ endI x q ≤ q := by
  have hb := okDuct_b h
  exact setN_b h0 hb.2.2.1 (by omega) _
theorem endI_m {x : GDuct} (h : okDuct x = true) {p q : Int} (h0 : 0 ≤ p) (h1 : p ≤ q) : endI x p ≤ endI x q := by
  have hb := okDuct_b h
  exact setN_m ⟨hb.2.2.1, by omega⟩ h0 h1 _
theorem loss_b {q s : Int} (hq : 0 ≤ q ∧ q ≤ 100000) (hs : 0 ≤ s ∧ s ≤ 100000) : (0 ≤ q * s ∧ q * s ≤ 10000000000) ∧ 0 ≤ rd (q * s) 1000000 ∧ rd (q * s) 1000000 ≤ q := by
  have h1 := mulB' (a := q) (b := s) (A := 100000) (B := 100000) hq.1 hq.2 hs.1 hs.2
  have h2 := rd_le (z := q * s) (d := q) h1.1 (Int.mul_le_mul_of_nonneg_left (by omega) hq.1)
  omega
theorem c_impl_Duct_after (x : GDuct) (q n : Int) (h : okDuct x = true) (hq : 0 ≤ q ∧ q ≤ 100000) (hn : 0 ≤ n ∧ n ≤ 100000) : FnSem Tryz.prog 101 [.p .any (.agg x.cells), In q, In n] [] (Is [In (setN x.loss n.toNat q)] []) := by
  have hb' := okDuct_b h
  refine FnSem.walk (zs := zeroPV Tryz.prog) (by kernel_rfl) Tryz.func101 rfl Tryz.results101 (by kernel_rfl) (by kernel_rfl) (by kernel_rfl) fun hw hh => ?_
  obtain ⟨w0, w1, w2, _⟩ := hw
  first | replace w0 := wf_Duct w0 | skip
  first | replace w1 := wf_I w1 | skip
  first | replace w2 := wf_I w2 | skip
  repeat' first
    | refine And.intro rfl ?_
    | refine GdF.mk (fun h => h) ?_
    | refine And.intro (Nat.succ_ne_zero _) ?_
    | refine And.intro (Nat.le_of_ble_eq_true rfl) ?_
    | refine SeqF.run ?_
    | refine EqI.mk (v * x.loss) (fun _ => by have q1 := loss_b (q := v) (s := x.loss) (by omega) (by omega); exact wrapI (by omega) (by omega)) ?_
    | refine ArgF.is (c_impl_divRound (v * x.loss) 1000000 (by have q1 := loss_b (q := v) (s := x.loss) (by omega) (by omega); omega) (by have q1 := loss_b (q := v) (s := x.loss) (by omega) (by omega); omega) (by omega) (by omega)) ?_
    | refine ArgQ.is (fun hG => c_impl_divRound (v * x.loss) 1000000 (by have q1 := loss_b (q := v) (s := x.loss) (by omega) (by omega); omega) (by have q1 := loss_b (q := v) (s := x.loss) (by omega) (by omega); omega) (by omega) (by omega)) rfl rfl ?_
    | refine EqI.mk (stepD x.loss v) (fun _ => by unfold stepD; have q1 := loss_b (q := v) (s := x.loss) (by omega) (by omega); exact wrapI (by omega) (by omega)) ?_
    | refine LoopF.at 2 rfl (LoopF.fix [3, 7] (Int × Int) (fun (i, v) => 0 ≤ i ∧ i ≤ n ∧ v = setN x.loss i.toNat q ∧ 0 ≤ v ∧ v ≤ 100000) (fun (i, v) => [(8, In i), (1, In v)]) (fun (i, v) => []) (fun (i, v) => ((n - i).toNat)) ((0, q)) ?_)
    | (refine LoopB.of (T := Int × Int) ?_ ?_; rotate_left; rintro ⟨i, v⟩ ⟨k0, k1, k2, k3, k4⟩; rotate_left)
    | refine GhF.go ?_
    | refine BndF.mk (fun _ => by omega) ?_
    | refine BndF.mk (fun _ => by simp only [List.length_map, List.length_cons, List.length_nil, List.length_append, List.length_set, List.length_replicate, iotaI_len]; omega) ?_
    | refine EqI.mk _ (fun _ => wrapI (by omega) (by omega)) ?_
    | refine EqI.mk _ (fun _ => rfl) ?_
    | refine EqL.mk [] rfl ?_
    | refine EqL.mk [_] rfl ?_
    | refine EqL.mk _ rfl ?_
    | refine ArgF.is (c_impl_divRound _ _ (by first | assumption | omega) (by first | assumption | omega) (by first | assumption | omega) (by first | assumption | omega)) ?_
    | refine ArgQ.is (fun hG => c_impl_divRound _ _ (by first | assumption | omega) (by first | assumption | omega) (by first | assumption | omega) (by first | assumption | omega)) rfl rfl ?_
    | refine CallF.mk (CallW.is [] true rfl ?_)
    | refine CallG.mk ?_
    | (refine CondF.mk (fun hb => ?_) (fun hb => ?_) <;> try simp only [forall_const, eq_self, not_true_eq_false, not_false_eq_true, or_false, false_or, or_self, or_true, true_or, and_true, true_and, and_false, false_and, decide_true, decide_false, Bool.not_true, Bool.not_false, decide_eq_true_eq, decide_eq_false_iff_not, ite_and_p, ite_or_p, Bool.decide_eq_true, Bool.and_eq_true, Bool.or_eq_true, Bool.not_eq_true', Bool.not_eq_false', Bool.and_eq_false_imp, Bool.or_eq_false_iff, bne_iff_ne, beq_iff_eq, bne_eq_false_iff_eq, beq_eq_false_iff_ne, gt_iff_lt, ge_iff_le, Int.not_lt, Int.not_le, ne_eq, Bool.true_eq_false, Bool.false_eq_true, reduceCtorEq, eta_Airway, eta_Duct, eta_Fan, eta_Mine, eta_Survey] at hb)
    | apply BackF.auto2
    | refine BackB.mk ?_ ?_
    | refine RetF.auto (And.intro rfl ?_)
    | exact Is.mk rfl rfl
    | refine Is.mk ?_ rfl
    | refine Is.mk rfl ?_
    | refine Is.mk ?_ ?_
  all_goals try dsimp only
  all_goals first
    | omega
    | exact ⟨by omega, by omega, (setN_0 _ _).symm, by omega, by omega⟩
    | (have q2 := stepD_b (s := x.loss) (d := v) (by omega) (by omega) (by omega)
       exact ⟨by omega, by omega, by rw [setN_t k0, ← k2], by omega, by omega⟩)
    | (rw [k2, show i = n by omega]; done)
    | skip
theorem c_spec_l11After (x : GDuct) (q n : Int) (h : okDuct x = true) (hq : 0 ≤ q ∧ q ≤ 100000) (hn : 0 ≤ n ∧ n ≤ 100000) : FnSem Tryz.prog 107 [.p .any (.ref x.cells), In q, In n] [] (Is [In (setN x.loss n.toNat q)] []) := by
  have hb' := okDuct_b h
  refine FnSem.walk (zs := zeroPV Tryz.prog) (by kernel_rfl) Tryz.func107 rfl Tryz.results107 (by kernel_rfl) (by kernel_rfl) (by kernel_rfl) fun hw hh => ?_
  obtain ⟨w0, w1, w2, _⟩ := hw
  first | replace w0 := wfr_Duct w0 | skip
  first | replace w1 := wf_I w1 | skip
  first | replace w2 := wf_I w2 | skip
  repeat' first
    | refine And.intro rfl ?_
    | refine GdF.mk (fun h => h) ?_
    | refine And.intro (Nat.succ_ne_zero _) ?_
    | refine And.intro (Nat.le_of_ble_eq_true rfl) ?_
    | refine SeqF.run ?_
    | refine EqI.mk (v * x.loss) (fun _ => by have q1 := loss_b (q := v) (s := x.loss) (by omega) (by omega); exact wrapI (by omega) (by omega)) ?_
    | refine ArgF.is (c_spec_l01Div (v * x.loss) 1000000 (by have q1 := loss_b (q := v) (s := x.loss) (by omega) (by omega); omega) (by omega)) ?_
    | refine ArgQ.is (fun hG => c_spec_l01Div (v * x.loss) 1000000 (by have q1 := loss_b (q := v) (s := x.loss) (by omega) (by omega); omega) (by omega)) rfl rfl ?_
    | refine EqI.mk (stepD x.loss v) (fun _ => by unfold stepD; have q1 := loss_b (q := v) (s := x.loss) (by omega) (by omega); rw [rdZ_p q1.1.1]; exact wrapI (by omega) (by omega)) ?_
    | refine LoopF.at 2 rfl (LoopF.fix [0, 2] (Int × Int) (fun (i, v) => 0 ≤ i ∧ i ≤ n ∧ v = setN x.loss i.toNat q ∧ 0 ≤ v ∧ v ≤ 100000) (fun (i, v) => [(7, In i), (1, In v)]) (fun (i, v) => []) (fun (i, v) => ((n - i).toNat)) ((0, q)) ?_)
    | (refine LoopB.of (T := Int × Int) ?_ ?_; rotate_left; rintro ⟨i, v⟩ ⟨k0, k1, k2, k3, k4⟩; rotate_left)
    | refine GhF.go ?_
    | refine BndF.mk (fun _ => by omega) ?_
    | refine BndF.mk (fun _ => by simp only [List.length_map, List.length_cons, List.length_nil, List.length_append, List.length_set, List.length_replicate, iotaI_len]; omega) ?_
    | refine EqI.mk _ (fun _ => wrapI (by omega) (by omega)) ?_
    | refine EqI.mk _ (fun _ => rfl) ?_
    | refine EqL.mk [] rfl ?_
    | refine EqL.mk [_] rfl ?_
    | refine EqL.mk _ rfl ?_
    | refine ArgF.is (c_spec_l01Div _ _ (by first | assumption | omega) (by first | assumption | omega)) ?_
    | refine ArgQ.is (fun hG => c_spec_l01Div _ _ (by first | assumption | omega) (by first | assumption | omega)) rfl rfl ?_
    | refine CallF.mk (CallW.is [] true rfl ?_)
    | refine CallG.mk ?_
    | (refine CondF.mk (fun hb => ?_) (fun hb => ?_) <;> try simp only [forall_const, eq_self, not_true_eq_false, not_false_eq_true, or_false, false_or, or_self, or_true, true_or, and_true, true_and, and_false, false_and, decide_true, decide_false, Bool.not_true, Bool.not_false, decide_eq_true_eq, decide_eq_false_iff_not, ite_and_p, ite_or_p, Bool.decide_eq_true, Bool.and_eq_true, Bool.or_eq_true, Bool.not_eq_true', Bool.not_eq_false', Bool.and_eq_false_imp, Bool.or_eq_false_iff, bne_iff_ne, beq_iff_eq, bne_eq_false_iff_eq, beq_eq_false_iff_ne, gt_iff_lt, ge_iff_le, Int.not_lt, Int.not_le, ne_eq, Bool.true_eq_false, Bool.false_eq_true, reduceCtorEq, eta_Airway, eta_Duct, eta_Fan, eta_Mine, eta_Survey] at hb)
    | apply BackF.auto2
    | refine BackB.mk ?_ ?_
    | refine RetF.auto (And.intro rfl ?_)
    | exact Is.mk rfl rfl
    | refine Is.mk ?_ rfl
    | refine Is.mk rfl ?_
    | refine Is.mk ?_ ?_
  all_goals try dsimp only
  all_goals first
    | omega
    | exact ⟨by omega, by omega, (setN_0 _ _).symm, by omega, by omega⟩
    | (have q2 := stepD_b (s := x.loss) (d := v) (by omega) (by omega) (by omega)
       exact ⟨by omega, by omega, by rw [setN_t k0, ← k2], by omega, by omega⟩)
    | (rw [k2, show i = n by omega]; done)
    | skip
end Go.Proofs.YtmifcbekaniiiaaGreatDoor
