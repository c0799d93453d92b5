/- Contracts of functions of the program, and what they compute. Conditions: those that each theorem states. -/
import Derived.Test.YtdhkpmaanegjkaaGreatProg
import Derived.Test.YtdhkpmaanegjkaaGreatF4
import Derived.Test.YtdhkpmaanegjkaaGreatR5
import Derived.Test.YtdhkpmaanegjkaaGreatG7
import Derived.Test.YtdhkpmaanegjkaaGreatF17
set_option linter.unusedVariables false
set_option linter.unusedSimpArgs false
namespace Go.Proofs.YtdhkpmaanegjkaaGreat
open Go.Av
attribute [local irreducible] Go.IntKind.wrap leastI rdZ rd rootI okMine treeC mshC dropI
set_option maxRecDepth 20000
set_option maxHeartbeats 16000000
--@fn spec.l00In
theorem inT (x a b : Int) (h : a ≤ x ∧ x ≤ b) : FnSem Tryz.prog 56 [In x, In a, In b] [] (Is [Bo true] []) := by
  have := c_spec_l00In x a b
  rwa [inR_iff.2 h] at this
--@fn spec.l03Flow
theorem flT (x : Int) (h : -100000 ≤ x ∧ x ≤ 100000) : FnSem Tryz.prog 59 [In x] [] (Is [Bo true] []) := by
  refine FnSem.walk (zs := zeroPV Tryz.prog) (by kernel_rfl) Tryz.func59 rfl Tryz.results59 (by kernel_rfl) (by kernel_rfl) (by kernel_rfl) fun hw hh => ?_
  obtain ⟨w0, _⟩ := hw
  first | replace w0 := wf_I w0 | skip
  repeat' first
    | refine And.intro rfl ?_
    | refine GdF.mk (fun h => h) ?_
    | refine And.intro (Nat.succ_ne_zero _) ?_
    | refine And.intro (Nat.le_of_ble_eq_true rfl) ?_
    | refine SeqF.run ?_
    | refine ArgF.is (inT x (-100000) 100000 h) ?_
    | refine ArgQ.is (fun hG => inT x (-100000) 100000 h) rfl rfl ?_
    | refine GhF.go ?_
    | refine BndF.mk (fun _ => by omega) ?_
    | refine BndF.mk (fun _ => by simp only [lnS]; omega) ?_
    | refine EqL.mk [] rfl ?_
    | refine EqL.mk [_] rfl ?_
    | refine EqL.mk _ rfl ?_
    | refine ArgF.is (c_spec_l00In ..) ?_
    | refine ArgQ.is (fun hG => c_spec_l00In ..) rfl rfl ?_
    | refine CallF.mk (CallW.is [] true rfl ?_)
    | refine CallG.mk ?_
    | (refine CondF.mk (fun hb => ?_) (fun hb => ?_) <;> try simp only [forall_const, eq_self, not_true_eq_false, not_false_eq_true, or_false, false_or, or_self, or_true, true_or, and_true, true_and, and_false, false_and, decide_true, decide_false, Bool.not_true, Bool.not_false, decide_eq_true_eq, decide_eq_false_iff_not, ite_and_p, ite_or_p, Bool.decide_eq_true, Bool.and_eq_true, Bool.or_eq_true, Bool.not_eq_true', Bool.not_eq_false', Bool.and_eq_false_imp, Bool.or_eq_false_iff, bne_iff_ne, beq_iff_eq, bne_eq_false_iff_eq, beq_eq_false_iff_ne, gt_iff_lt, ge_iff_le, Int.not_lt, Int.not_le, ne_eq, Bool.true_eq_false, Bool.false_eq_true, reduceCtorEq, eta_Airway, eta_Fan, eta_Mine] at hb)
    | refine RetF.auto (And.intro rfl ?_)
    | exact Is.mk rfl rfl
    | refine Is.mk ?_ rfl
    | refine Is.mk rfl ?_
    | refine Is.mk ?_ ?_
  all_goals skip
theorem c_spec_l07Flows (m : GMine) (xs : List Int) (h : lsO m xs (-100000) 100000 = true) : FnSem Tryz.prog 27 [.p .any (.ref m.cells), Lx (LI xs)] [] (Is [Bo true] []) := by
  have hp := lsO_p h
  have hl := hp.1
  refine FnSem.walk (zs := zeroPV Tryz.prog) (by kernel_rfl) Tryz.func27 rfl Tryz.results27 (by kernel_rfl) (by kernel_rfl) (by kernel_rfl) fun hw hh => ?_
  obtain ⟨w0, w1, _⟩ := hw
  first | replace w0 := wfr_Mine w0 | skip
  first | replace w1 := wf_LI w1 | skip
  repeat' first
    | refine And.intro rfl ?_
    | refine GdF.mk (fun h => h) ?_
    | refine And.intro (Nat.succ_ne_zero _) ?_
    | refine And.intro (Nat.le_of_ble_eq_true rfl) ?_
    | refine SeqF.run ?_
    | refine LoopF.at 2 rfl (LoopF.fix [0, 1] (Int) (fun i => 0 ≤ i ∧ i ≤ xs.length) (fun i => [(5, In i)]) (fun i => []) (fun i => ((xs.length - i).toNat)) (0) ?_)
    | (refine LoopB.of (T := Int) ?_ ?_; rotate_left; rintro i ⟨i0, i1⟩; rotate_left)
    | refine ArgF.is (flT _ (hp.2 i.toNat (by omega))) ?_
    | refine ArgQ.is (fun hG => flT _ (hp.2 i.toNat (by omega))) rfl rfl ?_
    | refine GhF.go ?_
    | refine EqP.mk _ (gm GAirway.cells default rfl) ?_
    | refine EqP.mk _ (gm eI 0 rfl) ?_
    | refine BndF.mk (fun _ => by omega) ?_
    | refine BndF.mk (fun _ => by simp only [lnS]; omega) ?_
    | refine EqI.mk _ (fun _ => wrapI (by omega) (by omega)) ?_
    | refine EqI.mk _ (fun _ => rfl) ?_
    | refine EqN.mk _ (ln GAirway.cells) ?_
    | refine EqN.mk _ (ln eI) ?_
    | refine EqN.mk _ (Nat.zero_add _) ?_
    | refine EqN.mk _ (Int.toNat_natCast _) ?_
    | refine EqN.mk _ rfl ?_
    | refine EqL.mk _ (tk GAirway.cells (by first | rfl | assumption | omega | (simp only [lnS] <;> omega))) ?_
    | refine EqL.mk _ (tk eI (by first | rfl | assumption | omega | (simp only [lnS] <;> omega))) ?_
    | refine EqL.mk [] rfl ?_
    | refine EqL.mk [_] rfl ?_
    | refine EqL.mk _ rfl ?_
    | refine ArgF.is (c_spec_l03Flow ..) ?_
    | refine ArgQ.is (fun hG => c_spec_l03Flow ..) rfl rfl ?_
    | refine CallF.mk (CallW.is [] true rfl ?_)
    | refine CallG.mk ?_
    | (refine CondF.mk (fun hb => ?_) (fun hb => ?_) <;> try simp only [forall_const, eq_self, not_true_eq_false, not_false_eq_true, or_false, false_or, or_self, or_true, true_or, and_true, true_and, and_false, false_and, decide_true, decide_false, Bool.not_true, Bool.not_false, decide_eq_true_eq, decide_eq_false_iff_not, ite_and_p, ite_or_p, Bool.decide_eq_true, Bool.and_eq_true, Bool.or_eq_true, Bool.not_eq_true', Bool.not_eq_false', Bool.and_eq_false_imp, Bool.or_eq_false_iff, bne_iff_ne, beq_iff_eq, bne_eq_false_iff_eq, beq_eq_false_iff_ne, gt_iff_lt, ge_iff_le, Int.not_lt, Int.not_le, ne_eq, Bool.true_eq_false, Bool.false_eq_true, reduceCtorEq, eta_Airway, eta_Fan, eta_Mine] at hb)
    | apply BackF.auto
    | refine BackB.mk ?_ ?_
    | refine RetF.auto (And.intro rfl ?_)
    | exact Is.mk rfl rfl
    | refine Is.mk ?_ rfl
    | refine Is.mk rfl ?_
    | refine Is.mk ?_ ?_
  all_goals try dsimp only
  all_goals first
    | omega
    | exact ⟨by omega, by omega⟩
    | (have e : ((xs.length : Int) == (m.airways.length : Int)) = true := beq_iff_eq.2 (by omega)
       rw [e]; rfl)
    | skip
theorem c_spec_l07Excess (m : GMine) (fl : List Int) (j : Int) (hm : okMine m = true) (hl : fl.length = m.airways.length) (hf : ∀ k : Nat, -100000 ≤ fl.getD k 0 ∧ fl.getD k 0 ≤ 100000) : FnSem Tryz.prog 60 [.p .any (.ref m.cells), Lx (LI fl), In j] [] (Is [In (imbA m fl j)] []) := by
  have hmp := okMine_p hm
  have hL := hmp.2.1
  have hne : ∀ i : Int, 0 ≤ i → i < m.airways.length → (m.airways.getD i.toNat default).from_ ≠ (m.airways.getD i.toNat default).to := fun i h0 h1 => (okAirway_b (hmp.2.2 i.toNat (by omega)).1).2.2.1
  have hB := fun i : Int => imbI_b (m := m) (j := j) (B := 100000) (by omega) hf i.toNat
  refine FnSem.walk (zs := zeroPV Tryz.prog) (by kernel_rfl) Tryz.func60 rfl Tryz.results60 (by kernel_rfl) (by kernel_rfl) (by kernel_rfl) fun hw hh => ?_
  obtain ⟨w0, w1, w2, _⟩ := hw
  first | replace w0 := wfr_Mine w0 | skip
  first | replace w1 := wf_LI w1 | skip
  first | replace w2 := wf_I w2 | skip
  have hwl := w0.2.1
  repeat' first
    | refine And.intro rfl ?_
    | refine GdF.mk (fun h => h) ?_
    | refine And.intro (Nat.succ_ne_zero _) ?_
    | refine And.intro (Nat.le_of_ble_eq_true rfl) ?_
    | refine SeqF.run ?_
    | refine LoopF.at 3 rfl (LoopF.fix [0, 1, 2] (Int × Int) (fun (i, s) => 0 ≤ i ∧ i ≤ m.airways.length ∧ s = imbI m fl j i.toNat) (fun (i, s) => [(8, In i), (7, In s)]) (fun (i, s) => []) (fun (i, s) => ((m.airways.length - i).toNat)) ((0, 0)) ?_)
    | (refine LoopB.of (T := Int × Int) ?_ ?_; rotate_left; rintro ⟨i, s⟩ ⟨i0, i1, i2⟩; rotate_left)
    | refine EqI.mk _ (fun _ => by have q := hB i; have q2 := hf i.toNat; exact wrapI (by omega) (by omega)) ?_
    | refine GhF.go ?_
    | refine EqP.mk _ (gm GAirway.cells default rfl) ?_
    | refine EqP.mk _ (gm eI 0 rfl) ?_
    | refine BndF.mk (fun _ => by omega) ?_
    | refine BndF.mk (fun _ => by simp only [lnS]; omega) ?_
    | refine EqI.mk _ (fun _ => wrapI (by omega) (by omega)) ?_
    | refine EqI.mk _ (fun _ => rfl) ?_
    | refine EqN.mk _ (ln GAirway.cells) ?_
    | refine EqN.mk _ (ln eI) ?_
    | refine EqN.mk _ (Nat.zero_add _) ?_
    | refine EqN.mk _ (Int.toNat_natCast _) ?_
    | refine EqN.mk _ rfl ?_
    | (refine CondF.mk (fun hb => ?_) (fun hb => ?_) <;> try simp only [forall_const, eq_self, not_true_eq_false, not_false_eq_true, or_false, false_or, or_self, or_true, true_or, and_true, true_and, and_false, false_and, decide_true, decide_false, Bool.not_true, Bool.not_false, decide_eq_true_eq, decide_eq_false_iff_not, ite_and_p, ite_or_p, Bool.decide_eq_true, Bool.and_eq_true, Bool.or_eq_true, Bool.not_eq_true', Bool.not_eq_false', Bool.and_eq_false_imp, Bool.or_eq_false_iff, bne_iff_ne, beq_iff_eq, bne_eq_false_iff_eq, beq_eq_false_iff_ne, gt_iff_lt, ge_iff_le, Int.not_lt, Int.not_le, ne_eq, Bool.true_eq_false, Bool.false_eq_true, reduceCtorEq, eta_Airway, eta_Fan, eta_Mine] at hb)
    | apply BackF.auto2
    | refine BackB.mk ?_ ?_
    | refine RetF.auto (And.intro rfl ?_)
    | exact Is.mk rfl rfl
    | refine Is.mk ?_ rfl
    | refine Is.mk rfl ?_
    | refine Is.mk ?_ ?_
  all_goals try dsimp only
  all_goals try simp only [Bo, I, OB.row.injEq, AV.osl.injEq, eI_same,  List.cons.injEq, AV.p.injEq, PV.c.injEq, Value.int.injEq, Value.bool.injEq, and_true, true_and, ite_and_p, ite_or_p, Bool.decide_eq_true, eta_Airway, eta_Fan, eta_Mine]
  all_goals try dsimp only
  all_goals first
    | omega
    | exact ⟨by omega, by omega, rfl⟩
    | (exfalso; exact hne i i0 (by omega) (by omega))
    | (refine ⟨by omega, by omega, ?_⟩; rw [imbI_s i0, i2, inc_t (by omega)])
    | (refine ⟨by omega, by omega, ?_⟩; rw [imbI_s i0, i2, inc_f (by omega) (by omega)]; omega)
    | (refine ⟨by omega, by omega, ?_⟩; rw [imbI_s i0, i2, inc_n (by omega) (by omega)]; omega)
    | (rw [i2, show i.toNat = m.airways.length by omega])
    | skip
theorem c_spec_l07Balanced (m : GMine) (fl : List Int) (hm : okMine m = true) (h : blF m fl 100000) : FnSem Tryz.prog 28 [.p .any (.ref m.cells), Lx (LI fl)] [] (Is [Bo true] []) := by
  have hi := fun j : Int => c_spec_l07Excess m fl j hm h.ln h.bd
  have hJ := (okMine_p hm).1
  have hi2 : ∀ j : Int, FnSem Tryz.prog 60 [.p .any (.ref m.cells), Lx (LI fl), In j] [] (Is [In 0] []) := fun j => by have := hi j; rwa [h.im j] at this
  refine FnSem.walk (zs := zeroPV Tryz.prog) (by kernel_rfl) Tryz.func28 rfl Tryz.results28 (by kernel_rfl) (by kernel_rfl) (by kernel_rfl) fun hw hh => ?_
  obtain ⟨w0, w1, _⟩ := hw
  first | replace w0 := wfr_Mine w0 | skip
  first | replace w1 := wf_LI w1 | skip
  repeat' first
    | refine And.intro rfl ?_
    | refine GdF.mk (fun h => h) ?_
    | refine And.intro (Nat.succ_ne_zero _) ?_
    | refine And.intro (Nat.le_of_ble_eq_true rfl) ?_
    | refine SeqF.run ?_
    | refine ArgF.is (hi2 j) ?_
    | refine ArgQ.is (fun hG => hi2 j) rfl rfl ?_
    | refine LoopF.at 2 rfl (LoopF.fix [0, 1] (Int) (fun j => 0 ≤ j ∧ j ≤ max m.junctions 0) (fun j => [(5, In j)]) (fun j => []) (fun j => ((m.junctions - j).toNat)) (0) ?_)
    | (refine LoopB.of (T := Int) ?_ ?_; rotate_left; rintro j ⟨j0, j1⟩; rotate_left)
    | refine GhF.go ?_
    | refine BndF.mk (fun _ => by omega) ?_
    | refine BndF.mk (fun _ => by simp only [lnS]; omega) ?_
    | refine EqI.mk _ (fun _ => wrapI (by omega) (by omega)) ?_
    | refine EqI.mk _ (fun _ => rfl) ?_
    | refine EqL.mk _ (tk eI (by first | rfl | assumption | omega | (simp only [lnS] <;> omega))) ?_
    | refine EqL.mk [] rfl ?_
    | refine EqL.mk [_] rfl ?_
    | refine EqL.mk _ rfl ?_
    | refine ArgF.is (c_spec_l07Excess ⟨_, _⟩ _ _ (by first | assumption | omega) (by first | assumption | omega) (by first | assumption | omega)) ?_
    | refine ArgQ.is (fun hG => c_spec_l07Excess ⟨_, _⟩ _ _ (by first | assumption | omega) (by first | assumption | omega) (by first | assumption | omega)) rfl rfl ?_
    | refine CallF.mk (CallW.is [] true rfl ?_)
    | refine CallG.mk ?_
    | (refine CondF.mk (fun hb => ?_) (fun hb => ?_) <;> try simp only [forall_const, eq_self, not_true_eq_false, not_false_eq_true, or_false, false_or, or_self, or_true, true_or, and_true, true_and, and_false, false_and, decide_true, decide_false, Bool.not_true, Bool.not_false, decide_eq_true_eq, decide_eq_false_iff_not, ite_and_p, ite_or_p, Bool.decide_eq_true, Bool.and_eq_true, Bool.or_eq_true, Bool.not_eq_true', Bool.not_eq_false', Bool.and_eq_false_imp, Bool.or_eq_false_iff, bne_iff_ne, beq_iff_eq, bne_eq_false_iff_eq, beq_eq_false_iff_ne, gt_iff_lt, ge_iff_le, Int.not_lt, Int.not_le, ne_eq, Bool.true_eq_false, Bool.false_eq_true, reduceCtorEq, eta_Airway, eta_Fan, eta_Mine] at hb)
    | apply BackF.auto
    | refine BackB.mk ?_ ?_
    | refine RetF.auto (And.intro rfl ?_)
    | exact Is.mk rfl rfl
    | refine Is.mk ?_ rfl
    | refine Is.mk rfl ?_
    | refine Is.mk ?_ ?_
  all_goals try dsimp only
  all_goals first
    | omega
    | exact ⟨by omega, by omega⟩
    | skip
--@fn spec.IsBalanced
theorem sBalT (m : GMine) (fl : List Int) (hm : okMine m = true) (h : blF m fl 100000) : FnSem Tryz.prog 10 [.p .any (.agg m.cells), Lx (LI fl)] [] (Is [Bo true] []) := by
  refine FnSem.walk (zs := zeroPV Tryz.prog) (by kernel_rfl) Tryz.func10 rfl Tryz.results10 (by kernel_rfl) (by kernel_rfl) (by kernel_rfl) fun hw hh => ?_
  obtain ⟨w0, w1, _⟩ := hw
  first | replace w0 := wf_Mine w0 | skip
  first | replace w1 := wf_LI w1 | skip
  repeat' first
    | refine And.intro rfl ?_
    | refine GdF.mk (fun h => h) ?_
    | refine And.intro (Nat.succ_ne_zero _) ?_
    | refine And.intro (Nat.le_of_ble_eq_true rfl) ?_
    | refine SeqF.run ?_
    | refine ArgF.is (okT m hm) ?_
    | refine ArgQ.is (fun hG => okT m hm) rfl rfl ?_
    | refine ArgF.is (c_spec_l07Flows m fl h.lo) ?_
    | refine ArgQ.is (fun hG => c_spec_l07Flows m fl h.lo) rfl rfl ?_
    | refine ArgF.is (c_spec_l07Balanced m fl hm h) ?_
    | refine ArgQ.is (fun hG => c_spec_l07Balanced m fl hm h) rfl rfl ?_
    | refine GhF.go ?_
    | refine GdS.keep ?_
    | refine BndF.mk (fun _ => by omega) ?_
    | refine BndF.mk (fun _ => by simp only [lnS]; omega) ?_
    | refine BndF.mk (fun hG => by simp only [forall_const, eq_self, not_true_eq_false, not_false_eq_true, or_false, false_or, or_self, or_true, true_or, and_true, true_and, and_false, false_and, decide_true, decide_false, Bool.not_true, Bool.not_false, decide_eq_true_eq, decide_eq_false_iff_not, ite_and_p, ite_or_p, Bool.decide_eq_true, Bool.and_eq_true, Bool.or_eq_true, Bool.not_eq_true', Bool.not_eq_false', Bool.and_eq_false_imp, Bool.or_eq_false_iff, bne_iff_ne, beq_iff_eq, bne_eq_false_iff_eq, beq_eq_false_iff_ne, gt_iff_lt, ge_iff_le, Int.not_lt, Int.not_le, ne_eq, Bool.true_eq_false, Bool.false_eq_true, reduceCtorEq, eta_Airway, eta_Fan, eta_Mine, bytes_nil] at hG; (try simp only [List.length_map]); omega) ?_
    | refine EqL.mk _ (tk eI (by first | rfl | assumption | omega | (simp only [lnS] <;> omega))) ?_
    | refine EqL.mk [] rfl ?_
    | refine EqL.mk [_] rfl ?_
    | refine EqL.mk _ rfl ?_
    | refine ArgF.is (c_spec_l04Ok ⟨_, _⟩) ?_
    | refine ArgQ.is (fun hG => c_spec_l04Ok ⟨_, _⟩) rfl rfl ?_
    | refine ArgF.is (c_spec_l07Flows ⟨_, _⟩ _ (by first | assumption | omega)) ?_
    | refine ArgQ.is (fun hG => c_spec_l07Flows ⟨_, _⟩ _ (by first | assumption | omega)) rfl rfl ?_
    | refine ArgQ.is (fun hG => c_spec_l07Flows ⟨_, _⟩ _ (by simp only [forall_const, eq_self, not_true_eq_false, not_false_eq_true, or_false, false_or, or_self, or_true, true_or, and_true, true_and, and_false, false_and, decide_true, decide_false, Bool.not_true, Bool.not_false, decide_eq_true_eq, decide_eq_false_iff_not, ite_and_p, ite_or_p, Bool.decide_eq_true, Bool.and_eq_true, Bool.or_eq_true, Bool.not_eq_true', Bool.not_eq_false', Bool.and_eq_false_imp, Bool.or_eq_false_iff, bne_iff_ne, beq_iff_eq, bne_eq_false_iff_eq, beq_eq_false_iff_ne, gt_iff_lt, ge_iff_le, Int.not_lt, Int.not_le, ne_eq, Bool.true_eq_false, Bool.false_eq_true, reduceCtorEq, eta_Airway, eta_Fan, eta_Mine, bytes_nil] at hG; omega)) rfl rfl ?_
    | refine ArgF.is (c_spec_l07Balanced ⟨_, _⟩ _ (by first | assumption | omega) (by first | assumption | omega)) ?_
    | refine ArgQ.is (fun hG => c_spec_l07Balanced ⟨_, _⟩ _ (by first | assumption | omega) (by first | assumption | omega)) rfl rfl ?_
    | refine ArgQ.is (fun hG => c_spec_l07Balanced ⟨_, _⟩ _ (by simp only [forall_const, eq_self, not_true_eq_false, not_false_eq_true, or_false, false_or, or_self, or_true, true_or, and_true, true_and, and_false, false_and, decide_true, decide_false, Bool.not_true, Bool.not_false, decide_eq_true_eq, decide_eq_false_iff_not, ite_and_p, ite_or_p, Bool.decide_eq_true, Bool.and_eq_true, Bool.or_eq_true, Bool.not_eq_true', Bool.not_eq_false', Bool.and_eq_false_imp, Bool.or_eq_false_iff, bne_iff_ne, beq_iff_eq, bne_eq_false_iff_eq, beq_eq_false_iff_ne, gt_iff_lt, ge_iff_le, Int.not_lt, Int.not_le, ne_eq, Bool.true_eq_false, Bool.false_eq_true, reduceCtorEq, eta_Airway, eta_Fan, eta_Mine, bytes_nil] at hG; omega) (by simp only [forall_const, eq_self, not_true_eq_false, not_false_eq_true, or_false, false_or, or_self, or_true, true_or, and_true, true_and, and_false, false_and, decide_true, decide_false, Bool.not_true, Bool.not_false, decide_eq_true_eq, decide_eq_false_iff_not, ite_and_p, ite_or_p, Bool.decide_eq_true, Bool.and_eq_true, Bool.or_eq_true, Bool.not_eq_true', Bool.not_eq_false', Bool.and_eq_false_imp, Bool.or_eq_false_iff, bne_iff_ne, beq_iff_eq, bne_eq_false_iff_eq, beq_eq_false_iff_ne, gt_iff_lt, ge_iff_le, Int.not_lt, Int.not_le, ne_eq, Bool.true_eq_false, Bool.false_eq_true, reduceCtorEq, eta_Airway, eta_Fan, eta_Mine, bytes_nil] at hG; omega)) rfl rfl ?_
    | refine CallF.mk (CallW.is [] true rfl ?_)
    | refine CallG.mk ?_
    | (refine CondF.mk (fun hb => ?_) (fun hb => ?_) <;> try simp only [forall_const, eq_self, not_true_eq_false, not_false_eq_true, or_false, false_or, or_self, or_true, true_or, and_true, true_and, and_false, false_and, decide_true, decide_false, Bool.not_true, Bool.not_false, decide_eq_true_eq, decide_eq_false_iff_not, ite_and_p, ite_or_p, Bool.decide_eq_true, Bool.and_eq_true, Bool.or_eq_true, Bool.not_eq_true', Bool.not_eq_false', Bool.and_eq_false_imp, Bool.or_eq_false_iff, bne_iff_ne, beq_iff_eq, bne_eq_false_iff_eq, beq_eq_false_iff_ne, gt_iff_lt, ge_iff_le, Int.not_lt, Int.not_le, ne_eq, Bool.true_eq_false, Bool.false_eq_true, reduceCtorEq, eta_Airway, eta_Fan, eta_Mine] at hb)
    | refine RetF.auto (And.intro rfl ?_)
    | exact Is.mk rfl rfl
    | refine Is.mk ?_ rfl
    | refine Is.mk rfl ?_
    | refine Is.mk ?_ ?_
  all_goals skip
end Go.Proofs.YtdhkpmaanegjkaaGreat
/- Contracts of functions of the program, and what they compute. Conditions: those that each theorem states. -/
set_option linter.unusedVariables false
set_option linter.unusedSimpArgs false
namespace Go.Proofs.YtdhkpmaanegjkaaGreat
open Go.Av
attribute [local irreducible] Go.IntKind.wrap leastI rdZ rd rootI okMine treeC mshC dropI prI okFanB okFsB hsB spI solF fwF tabF fpI revI
set_option maxRecDepth 20000
set_option maxHeartbeats 40000000
def lsT (t : List Int) (i g : Int) : Prop := (g = 0 ∧ ∀ j : Nat, (j : Int) < i → t.getD j 0 ≤ 0) ∨ (0 < g ∧ (∃ j : Nat, (j : Int) < i ∧ t.getD j 0 = g) ∧ ∀ j : Nat, (j : Int) < i → 0 < t.getD j 0 → g ≤ t.getD j 0)
theorem lsT_0 {t : List Int} : lsT t 0 0 := .inl ⟨rfl, fun j hj => absurd hj (by omega)⟩
theorem lsT_y {t : List Int} {i g : Int} (h : lsT t i g) (h0 : 0 ≤ i) (hp : 0 < t.getD i.toNat 0) (hb : g = 0 ∨ t.getD i.toNat 0 < g) : lsT t (i + 1) (t.getD i.toNat 0) := by
  refine .inr ⟨hp, ⟨i.toNat, by omega, rfl⟩, fun j hj hj0 => ?_⟩
  by_cases e : (j : Int) = i
  · rw [show j = i.toNat by omega]; exact Int.le_refl _
  · rcases h with ⟨h1, h2⟩ | ⟨h1, h2, h3⟩
    · have := h2 j (by omega); omega
    · have := h3 j (by omega) hj0; omega
theorem lsT_n {t : List Int} {i g : Int} (h : lsT t i g) (h0 : 0 ≤ i) (hn : 0 < t.getD i.toNat 0 → ¬g = 0 ∧ g ≤ t.getD i.toNat 0) : lsT t (i + 1) g := by
  rcases h with ⟨h1, h2⟩ | ⟨h1, ⟨j0, h2, h4⟩, h3⟩
  · refine .inl ⟨h1, fun j hj => ?_⟩
    by_cases e : (j : Int) = i
    · rw [show j = i.toNat by omega]
      apply Int.not_lt.1
      intro hlt
      exact (hn hlt).1 h1
    · exact h2 j (by omega)
  · refine .inr ⟨h1, ⟨j0, by omega, h4⟩, fun j hj hj0 => ?_⟩
    by_cases e : (j : Int) = i
    · rw [show j = i.toNat by omega] at hj0 ⊢; exact (hn hj0).2
    · exact h3 j (by omega) hj0
structure posK (t : List Int) (k : Int) : Prop where
  kb : 0 ≤ k ∧ k < t.length
  ps : 0 < t.getD k.toNat 0
  mn : ∀ j : Nat, j < t.length → 0 < t.getD j 0 → t.getD k.toNat 0 ≤ t.getD j 0
section
variable {t : List Int} {i g k : Int}
theorem posK.eq (h : posK t k) (hl : lsT t i g) (hi : (t.length : Int) ≤ i) (h1 : i ≤ t.length) : g = t.getD k.toNat 0 := by
  have hk := h.kb
  rcases hl with ⟨_, h2⟩ | ⟨h1', ⟨j0, h2, h4⟩, h3⟩
  · have := h2 k.toNat (by omega); have := h.ps; omega
  · have a := h3 k.toNat (by omega) h.ps
    have b := h.mn j0 (by omega) (by omega)
    omega
theorem posK.b0 (h : posK t k) (hl : lsT t i g) (hi : (t.length : Int) ≤ i) (h1 : i ≤ t.length) : decide (g > 0) = true := decide_eq_true (by rw [h.eq hl hi h1]; exact h.ps)
theorem posK.b1 (h : posK t k) (hl : lsT t i g) (hi : (t.length : Int) ≤ i) (h1 : i ≤ t.length) : (t.getD k.toNat 0 != g) = false := by rw [h.eq hl hi h1]; simp
theorem posK.b2 (h : posK t k) : decide (k < 0) = false := decide_eq_false (by have := h.kb; omega)
theorem posK.b3 (h : posK t k) : decide (k ≥ (t.length : Int)) = false := decide_eq_false (by have := h.kb; omega)
theorem none_b (h : ∀ j : Nat, j < t.length → t.getD j 0 ≤ 0) (hl : lsT t i g) (h1 : i ≤ t.length) : decide (g > 0) = false := decide_eq_false (by
  rcases hl with ⟨e, _⟩ | ⟨h1', ⟨j0, h2, h4⟩, _⟩
  · omega
  · have := h j0 (by omega); omega)
end
theorem itF {a b : Bool} : (if (false = true) then a else b) = b := rfl
theorem itT {a b : Bool} : (if (true = true) then a else b) = a := rfl
theorem n00 : ((0 : Int) != 0) = false := rfl
theorem e30 : ((3 : Int) == 0) = false := rfl
theorem e00 : ((0 : Int) == 0) = true := rfl
theorem nSS {a : Int} : (a != a) = false := by simp
theorem nSe {a : Int} (h : ¬a = 0) : (a != 0) = true := by simpa using h
theorem leN {a b : Nat} (h : a = b) : ((a : Int) != (b : Int)) = false := by rw [h]; simp
theorem fin_b {x u v u1 v1 u2 v2 : Int} (h : v = 0 → (u1, v1) = (-u, 0) ∧ (u2, v2) = (0, 0) ∧ (0 < x → 0 ≤ u)) (hv : v = 0) (hb : -100000000000000 ≤ u ∧ u ≤ 100000000000000) : (if (if (if (if (v1 == 0) = true then u1 == Go.IntKind.i64.wrap (0 - u) else false) = true then v2 == 0 else false) = true then u2 == 0 else false) = true then (if decide (x ≤ 0) = true then true else decide (u ≥ 0)) else false) = true := by
  obtain ⟨e1, e2, e3⟩ := h hv
  rw [Prod.mk.injEq] at e1 e2
  have ew : Go.IntKind.i64.wrap (0 - u) = -u := by rw [wrapI (by omega) (by omega)]; omega
  rw [e1.1, e1.2, e2.1, e2.2, ew]
  by_cases hx : x ≤ 0
  · simp [hx]
  · have := e3 (by omega)
    simp [hx, this]
theorem fin_c {x u v u1 v1 u2 v2 : Int} (h : v = 0 → (u1, v1) = (-u, 0) ∧ (u2, v2) = (0, 0) ∧ (0 < x → 0 ≤ u)) (hv : v = 0) (hb : -100000000000000 ≤ u ∧ u ≤ 100000000000000) : (if (if (if (if (v1 == 0) = true then u1 == 0 - u else false) = true then v2 == 0 else false) = true then u2 == 0 else false) = true then (if decide (x ≤ 0) = true then true else decide (u ≥ 0)) else false) = true := by
  obtain ⟨e1, e2, e3⟩ := h hv
  rw [Prod.mk.injEq] at e1 e2
  have ew : 0 - u = -u := by omega
  rw [e1.1, e1.2, e2.1, e2.2, ew]
  by_cases hx : x ≤ 0
  · simp [hx]
  · have := e3 (by omega)
    simp [hx, this]
theorem c_laws_FnReversal (c1 c2 : List Int) : FnSem Tryz.prog 3 [Lx (LY c1), Lx (LY c2)] [] (Is [Bo true] []) := by
  refine FnSem.walk (zs := zeroPV Tryz.prog) (by kernel_rfl) Tryz.func3 rfl Tryz.results3 (by kernel_rfl) (by kernel_rfl) (by kernel_rfl) fun hw hh => ?_
  obtain ⟨w0, w1, _⟩ := hw
  first | replace w0 := wf_LY w0 | skip
  first | replace w1 := wf_LY w1 | skip
  have hc1 : bytes c1 := w0.2
  have hc2 : bytes c2 := w1.2
  repeat' first
    | refine And.intro rfl ?_
    | refine GdF.mk (fun h => h) ?_
    | refine And.intro (Nat.succ_ne_zero _) ?_
    | refine And.intro (Nat.le_of_ble_eq_true rfl) ?_
    | exact absurd (by assumption) hc
    | refine BndF.mk (fun hG => absurd (show false = true from hG) Bool.false_ne_true) ?_
    | rw [itF]
    | rw [itT]
    | rw [n00]
    | rw [e30]
    | rw [e00]
    | rw [nFF]
    | rw [nTT]
    | rw [nSS]
    | rw [nSe hc]
    | rw [leN hL]
    | rw [hK.b2]
    | rw [hK.b3]
    | rw [hK.b0 i2 (by assumption) i1]
    | rw [hK.b1 i2 (by assumption) i1]
    | rw [none_b hN i2 i1]
    | rw [hW0]
    | rw [hW1]
    | rw [revI_s]
    | rw [hHas]
    | refine CallF.mk (f := 5) (CallW.is [] false rfl ?_)
    | (refine ArgF.ret (c_spec_DrawFirstReversal c1 hc1) ?_; rintro ⟨m, r, fs, dr, st, tol, rounds, aw, step, count⟩ -; dsimp only)
    | (refine ArgF.is (tabX m r fs dr st tol rounds aw step count) ?_; have hp := tabF_p (m := m) (r := r) (fs := fs) (dr := dr) (st := st) (tol := tol) (rounds := rounds) (aw := aw) (step := step) (count := count); have hf := tabF_f (m := m) (r := r) (fs := fs) (dr := dr) (st := st) (tol := tol) (rounds := rounds) (aw := aw) (step := step) (count := count); have hfst := firstT m r fs dr st tol rounds aw step count; generalize tabF m r fs dr st tol rounds aw step count = T at hp hf hfst ⊢; obtain ⟨t, c⟩ := T; dsimp only at hp hf hfst ⊢)
    | (refine ArgF.ret hfst ?_; rintro ⟨n, k, e⟩ hfr; dsimp only at hfr ⊢; clear hfst; by_cases hc : c = 0; rotate_left; (have hf := hf hc; subst hf; have he := hfr.er hc; subst he; clear hp hfr); rotate_left; (subst hc; have hp := hp rfl; have hm := hp.1; have hmp := okMine_p hm; have hW0 := hp.2.1; have hBl := (fwF_b hW0).2; have hL : t.length = m.airways.length := hp.2.2.2.1; have hT := hp.2.2.2.2; have hS := hp.2.2.1; clear hp hf); rcases hfr.ok rfl with ⟨rfl, hN⟩ | ⟨rfl, a1, rfl, a2, a3⟩; rotate_left; (have hK : posK t k := ⟨a1, a2, a3⟩; have hTk := (hT k.toNat).2.2 a2; have hW1 := hTk.1; have hB1 := (fwF_b hW1).2; have hTc := (hT k.toNat).2.1; have hHas : decide (k ∈ revI (fwF m r fs dr st tol rounds aw 0).1 (fwF m r fs dr st tol rounds aw (t.getD k.toNat 0 * step)).1 (fwF m r fs dr st tol rounds aw 0).1.length) = true := decide_eq_true (by have q := revI_m (j := k.toNat) hTk.2 (fwF m r fs dr st tol rounds aw 0).1.length (by have := hK.kb; have := hBl.ln; omega); rwa [show ((k.toNat : Nat) : Int) = k by have := hK.kb; omega] at q); clear hfr a1 a2 a3))
    | (refine SeqF.cutfix (a := codeF _ _ _ (.seq _ (.cond (.tmp 104) _ _))) [1, 6, 7, 8, 9, 10, 11, 12, 13, 14, 15, 17, 18, 19, 5] [0] (Unit × Unit) (fun _ => True) (fun _ => []) (fun _ => [.fix [In m.junctions, airV m.airways]]) ?_ ?_; rotate_left; rintro ⟨⟨⟩, ⟨⟩⟩ _; rotate_left)
    | apply FitF.auto2 () ()
    | refine SeqF.run ?_
    | refine LoopF.at 13 rfl (LoopF.fix [1, 5, 6, 7, 8, 9, 10, 11, 12, 13, 14, 15, 17, 18, 19] (Int × Int) (fun (i, g) => 0 ≤ i ∧ i ≤ t.length ∧ lsT t i g) (fun (i, g) => [(21, In i), (20, In g)]) (fun (i, g) => []) (fun (i, g) => ((t.length - i).toNat)) ((0, 0)) ?_)
    | (refine LoopB.of (T := Int × Int) ?_ ?_; rotate_left; rintro ⟨i, g⟩ ⟨i0, i1, i2⟩; rotate_left)
    | refine EqI.mk (i + 1) (fun _ => by exact wrapI (by omega) (by omega)) ?_
    | refine BndF.mk (fun _ => by have := hK.kb; first | omega | (simp only [List.length_map]; omega)) ?_
    | refine ArgF.is (fwX m r fs dr st tol rounds aw 0) ?_
    | refine ArgQ.is (fun hG => fwX m r fs dr st tol rounds aw 0) rfl rfl ?_
    | refine ArgF.is (fwX m r fs dr st tol rounds aw (t.getD k.toNat 0 * step)) ?_
    | refine ArgQ.is (fun hG => fwX m r fs dr st tol rounds aw (t.getD k.toNat 0 * step)) rfl rfl ?_
    | refine EqI.mk (t.getD k.toNat 0 * step) (fun _ => by have q := Int.mul_le_mul_of_nonneg_right hTc (show 0 ≤ step by omega); have q2 := Int.mul_nonneg (show 0 ≤ t.getD k.toNat 0 by have := hK.ps; omega) (show 0 ≤ step by omega); have q3 := Int.mul_comm count step; exact wrapI (by omega) (by omega)) ?_
    | refine ArgF.is (revT (fwF m r fs dr st tol rounds aw 0).1 (fwF m r fs dr st tol rounds aw 0).1 (by rw [hBl.ln]; omega) rfl hBl.bd hBl.bd) ?_
    | refine ArgQ.is (fun hG => revT (fwF m r fs dr st tol rounds aw 0).1 (fwF m r fs dr st tol rounds aw 0).1 (by rw [hBl.ln]; omega) rfl hBl.bd hBl.bd) rfl rfl ?_
    | refine ArgF.is (revT (fwF m r fs dr st tol rounds aw 0).1 (fwF m r fs dr st tol rounds aw (t.getD k.toNat 0 * step)).1 (by rw [hBl.ln]; omega) (by rw [hBl.ln, hB1.ln]) hBl.bd hB1.bd) ?_
    | refine ArgQ.is (fun hG => revT (fwF m r fs dr st tol rounds aw 0).1 (fwF m r fs dr st tol rounds aw (t.getD k.toNat 0 * step)).1 (by rw [hBl.ln]; omega) (by rw [hBl.ln, hB1.ln]) hBl.bd hB1.bd) rfl rfl ?_
    | refine ArgF.is (sBalT m (fwF m r fs dr st tol rounds aw 0).1 hm hBl) ?_
    | refine ArgQ.is (fun hG => sBalT m (fwF m r fs dr st tol rounds aw 0).1 hm hBl) rfl rfl ?_
    | refine ArgF.is (c_laws_b10Has (revI (fwF m r fs dr st tol rounds aw 0).1 (fwF m r fs dr st tol rounds aw (t.getD k.toNat 0 * step)).1 (fwF m r fs dr st tol rounds aw 0).1.length) k) ?_
    | refine ArgQ.is (fun hG => c_laws_b10Has (revI (fwF m r fs dr st tol rounds aw 0).1 (fwF m r fs dr st tol rounds aw (t.getD k.toNat 0 * step)).1 (fwF m r fs dr st tol rounds aw 0).1.length) k) rfl rfl ?_
    | (refine ArgF.ret (c_spec_DrawFirePush c2 hc2) ?_; rintro ⟨x, y, z⟩ hxy; dsimp only at hxy ⊢)
    | (refine ArgF.is (fpX x y z) ?_; have hF0 := fp_0 (rise := x) (t := y) (base := z); have hF1 := fp_law (rise := x) (t := y) (base := z); have hFb := fp_b (rise := x) (t := y) (base := z); have hFm := fpX (-x) y z; have hFz := fpX 0 y z; generalize fpI x y z = U at hF0 hF1 hFb ⊢; obtain ⟨u, v⟩ := U; dsimp only at hF0 hF1 hFb ⊢; generalize fpI (-x) y z = U1 at hF1 hFm; obtain ⟨u1, v1⟩ := U1; generalize fpI 0 y z = U2 at hF1 hFz; obtain ⟨u2, v2⟩ := U2; dsimp only at hF1 hFm hFz; rw [show -x = 0 - x from by omega] at hFm)
    | refine ArgF.is hFm ?_
    | refine ArgF.is hFz ?_
    | refine GhF.go ?_
    | refine GdS.keep ?_
    | refine EqP.mk _ (gm eY 0 rfl) ?_
    | refine EqP.mk _ (gm GAirway.cells default rfl) ?_
    | refine EqP.mk _ (gm eI 0 rfl) ?_
    | refine EqP.mk _ (gmb GFan.cells default (by omega)) ?_
    | refine BndF.mk (fun _ => by omega) ?_
    | refine BndF.mk (fun _ => by simp only [lnS]; omega) ?_
    | refine BndF.mk (fun hG => by simp only [forall_const, eq_self, not_true_eq_false, not_false_eq_true, or_false, false_or, or_self, or_true, true_or, and_true, true_and, and_false, false_and, decide_true, decide_false, Bool.not_true, Bool.not_false, decide_eq_true_eq, decide_eq_false_iff_not, ite_and_p, ite_or_p, Bool.decide_eq_true, Bool.and_eq_true, Bool.or_eq_true, Bool.not_eq_true', Bool.not_eq_false', Bool.and_eq_false_imp, Bool.or_eq_false_iff, bne_iff_ne, beq_iff_eq, bne_eq_false_iff_eq, beq_eq_false_iff_ne, gt_iff_lt, ge_iff_le, Int.not_lt, Int.not_le, ne_eq, Bool.true_eq_false, Bool.false_eq_true, reduceCtorEq, eta_Airway, eta_Fan, eta_Mine, bytes_nil] at hG; (try simp only [List.length_map]); omega) ?_
    | refine EqI.mk _ (fun _ => wrapI (by omega) (by omega)) ?_
    | refine EqI.mk _ (fun _ => rfl) ?_
    | refine EqN.mk _ (ln eY) ?_
    | refine EqN.mk _ (ln GAirway.cells) ?_
    | refine EqN.mk _ (ln eI) ?_
    | refine EqN.mk _ (ln GFan.cells) ?_
    | refine EqN.mk _ (Nat.zero_add _) ?_
    | refine EqN.mk _ (Int.toNat_natCast _) ?_
    | refine EqN.mk _ rfl ?_
    | refine EqL.mk _ (tk eY (by first | rfl | assumption | omega | (simp only [lnS] <;> omega))) ?_
    | refine EqL.mk _ (st eY) ?_
    | refine EqL.mk _ (tk GAirway.cells (by first | rfl | assumption | omega | (simp only [lnS] <;> omega))) ?_
    | refine EqL.mk _ (st GAirway.cells) ?_
    | refine EqL.mk _ (tk eI (by first | rfl | assumption | omega | (simp only [lnS] <;> omega))) ?_
    | refine EqL.mk _ (st eI) ?_
    | refine EqL.mk _ (tk GFan.cells (by first | rfl | assumption | omega | (simp only [lnS] <;> omega))) ?_
    | refine EqL.mk _ (st GFan.cells) ?_
    | refine EqL.mk [] rfl ?_
    | refine EqL.mk [_] rfl ?_
    | refine EqL.mk _ rfl ?_
    | refine ArgF.is (c_laws_b10Long ..) ?_
    | refine ArgQ.is (fun hG => c_laws_b10Long ..) rfl rfl ?_
    | refine ArgF.is (c_spec_DrawFirstReversal _ (by first | assumption | omega)) ?_
    | refine ArgQ.is (fun hG => c_spec_DrawFirstReversal _ (by first | assumption | omega)) rfl rfl ?_
    | refine ArgQ.is (fun hG => c_spec_DrawFirstReversal _ (by simp only [forall_const, eq_self, not_true_eq_false, not_false_eq_true, or_false, false_or, or_self, or_true, true_or, and_true, true_and, and_false, false_and, decide_true, decide_false, Bool.not_true, Bool.not_false, decide_eq_true_eq, decide_eq_false_iff_not, ite_and_p, ite_or_p, Bool.decide_eq_true, Bool.and_eq_true, Bool.or_eq_true, Bool.not_eq_true', Bool.not_eq_false', Bool.and_eq_false_imp, Bool.or_eq_false_iff, bne_iff_ne, beq_iff_eq, bne_eq_false_iff_eq, beq_eq_false_iff_ne, gt_iff_lt, ge_iff_le, Int.not_lt, Int.not_le, ne_eq, Bool.true_eq_false, Bool.false_eq_true, reduceCtorEq, eta_Airway, eta_Fan, eta_Mine, bytes_nil] at hG; omega)) rfl rfl ?_
    | refine ArgF.is (c_impl_ReversalTable ..) ?_
    | refine ArgQ.is (fun hG => c_impl_ReversalTable ..) rfl rfl ?_
    | refine ArgF.is (c_impl_FirstReversal ..) ?_
    | refine ArgQ.is (fun hG => c_impl_FirstReversal ..) rfl rfl ?_
    | refine ArgF.is (c_impl_FlowsWithFire ..) ?_
    | refine ArgQ.is (fun hG => c_impl_FlowsWithFire ..) rfl rfl ?_
    | refine ArgF.is (c_impl_ReversedBy ..) ?_
    | refine ArgQ.is (fun hG => c_impl_ReversedBy ..) rfl rfl ?_
    | refine ArgF.is (c_spec_IsBalanced ..) ?_
    | refine ArgQ.is (fun hG => c_spec_IsBalanced ..) rfl rfl ?_
    | refine ArgF.is (c_laws_b10Has ..) ?_
    | refine ArgQ.is (fun hG => c_laws_b10Has ..) rfl rfl ?_
    | refine ArgF.is (c_spec_DrawFirePush _ (by first | assumption | omega)) ?_
    | refine ArgQ.is (fun hG => c_spec_DrawFirePush _ (by first | assumption | omega)) rfl rfl ?_
    | refine ArgQ.is (fun hG => c_spec_DrawFirePush _ (by simp only [forall_const, eq_self, not_true_eq_false, not_false_eq_true, or_false, false_or, or_self, or_true, true_or, and_true, true_and, and_false, false_and, decide_true, decide_false, Bool.not_true, Bool.not_false, decide_eq_true_eq, decide_eq_false_iff_not, ite_and_p, ite_or_p, Bool.decide_eq_true, Bool.and_eq_true, Bool.or_eq_true, Bool.not_eq_true', Bool.not_eq_false', Bool.and_eq_false_imp, Bool.or_eq_false_iff, bne_iff_ne, beq_iff_eq, bne_eq_false_iff_eq, beq_eq_false_iff_ne, gt_iff_lt, ge_iff_le, Int.not_lt, Int.not_le, ne_eq, Bool.true_eq_false, Bool.false_eq_true, reduceCtorEq, eta_Airway, eta_Fan, eta_Mine, bytes_nil] at hG; omega)) rfl rfl ?_
    | refine ArgF.is (c_impl_FirePush ..) ?_
    | refine ArgQ.is (fun hG => c_impl_FirePush ..) rfl rfl ?_
    | refine CallF.mk (CallW.is [] true rfl ?_)
    | refine CallG.mk ?_
    | (refine CondF.mk (fun hb => ?_) (fun hb => ?_) <;> try simp only [forall_const, eq_self, not_true_eq_false, not_false_eq_true, or_false, false_or, or_self, or_true, true_or, and_true, true_and, and_false, false_and, decide_true, decide_false, Bool.not_true, Bool.not_false, decide_eq_true_eq, decide_eq_false_iff_not, ite_and_p, ite_or_p, Bool.decide_eq_true, Bool.and_eq_true, Bool.or_eq_true, Bool.not_eq_true', Bool.not_eq_false', Bool.and_eq_false_imp, Bool.or_eq_false_iff, bne_iff_ne, beq_iff_eq, bne_eq_false_iff_eq, beq_eq_false_iff_ne, gt_iff_lt, ge_iff_le, Int.not_lt, Int.not_le, ne_eq, Bool.true_eq_false, Bool.false_eq_true, reduceCtorEq, eta_Airway, eta_Fan, eta_Mine] at hb)
    | apply BackF.auto2
    | refine BackB.mk ?_ ?_
    | refine RetF.auto (And.intro rfl ?_)
    | exact Is.mk rfl rfl
    | refine Is.mk ?_ rfl
    | refine Is.mk rfl ?_
    | refine Is.mk ?_ ?_
  all_goals try dsimp only
  all_goals first
    | omega
    | rfl
    | exact True.intro
    | exact absurd (by assumption) hc
    | exact ⟨by omega, by omega, lsT_0⟩
    | exact ⟨by omega, by omega, lsT_y i2 i0 hb.1 hb.2⟩
    | exact ⟨by omega, by omega, lsT_n i2 i0 hb⟩
    | (exfalso; have q := hT i.toNat; omega)
    | (exfalso; rw [hL] at hb; exact hb rfl)
    | (exfalso; exact hb rfl)
    | (exfalso; simp at hb; done)
    | (rw [hF0 hb]; rfl)
    | exact absurd (of_decide_eq_true hHas) hb
    | exact congrArg (fun b => [AV.p Fl.flat (PV.c (Value.bool b))]) (fin_b hF1 hb (hFb hb))
    | exact congrArg (fun b => [AV.p Fl.flat (PV.c (Value.bool b))]) (fin_c hF1 hb (hFb hb))
    | skip
end Go.Proofs.YtdhkpmaanegjkaaGreat
