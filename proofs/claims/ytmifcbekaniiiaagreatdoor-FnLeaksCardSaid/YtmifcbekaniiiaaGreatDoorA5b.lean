/- Contracts of functions of the program, and what they compute. Conditions: those that each theorem states. -/
import Derived.Test.YtmifcbekaniiiaaGreatDoorProg
import Derived.Test.YtmifcbekaniiiaaGreatDoorA5
import Derived.Test.YtmifcbekaniiiaaGreatDoorF1
import Derived.Test.YtmifcbekaniiiaaGreatDoorJ0
set_option linter.unusedVariables false
set_option linter.unusedSimpArgs false
namespace Go.Proofs.YtmifcbekaniiiaaGreatDoor
open Go.Av
attribute [local irreducible] Go.IntKind.wrap listS decS idS isName setN leastI rd rdZ joI needI
set_option maxRecDepth 20000
set_option maxHeartbeats 8000000

/-! Ducts: the longest one. -/
theorem ok_len {x : GDuct} {n : Int} (h : okDuct x = true) (hn : 1 ≤ n ∧ n ≤ 2000) : okDuct { x with length := n } = true := by
  simp only [okDuct, Bool.and_eq_true] at h ⊢
  rw [inR_iff.2 hn]; simp_all
/-- a duct of another length -/
abbrev lenD (x : GDuct) (n : Int) : GDuct := ⟨x.id, n, x.joint, x.loss⟩
theorem ok_lenD {x : GDuct} {n : Int} (h : okDuct x = true) (hn : 1 ≤ n ∧ n ≤ 2000) : okDuct (lenD x n) = true := ok_len h hn
inductive LongR (x : GDuct) (q n : Int) (rs : List AV) (ho : List OB) : Prop
  | mk (l : Int) (h1 : rs = [In l, In 0]) (h2 : ho = []) (h3 : 1 ≤ l ∧ l ≤ 2000) (h4 : n ≤ endI (lenD x l) q)
theorem long_step {x : GDuct} {q n l : Int} (h : okDuct x = true) (hl : 1 ≤ l ∧ l ≤ 2000) (hq : 0 ≤ q) (hn : n ≤ q) (he : endI (lenD x l) q < n) : (0 ≤ (l - 1) / x.joint ∧ (l - 1) / x.joint ≤ 2000) ∧ 1 ≤ (l - 1) / x.joint * x.joint ∧ (l - 1) / x.joint * x.joint < l := by
  have hb := okDuct_b h
  have h1 := Int.ediv_nonneg (show 0 ≤ l - 1 by omega) (show 0 ≤ x.joint by omega)
  have h2 := Int.ediv_mul_le (l - 1) (show x.joint ≠ 0 by omega)
  have h3 := Int.ediv_le_self x.joint (show 0 ≤ l - 1 by omega)
  have h4 : (l - 1) / x.joint ≠ 0 := fun e => by
    have : endI (lenD x l) q = q := by
      unfold endI joI
      rw [show ((lenD x l).length - 1) / (lenD x l).joint = 0 from e]
      show setN _ 0 q = q
      unfold setN; rfl
    omega
  have h6 : (l - 1) / x.joint * 1 ≤ (l - 1) / x.joint * x.joint := Int.mul_le_mul_of_nonneg_left (by omega) h1
  omega
theorem c_impl_LongestDuct (x : GDuct) (q n : Int) (h : okDuct x = true) (hq : 0 ≤ q ∧ q ≤ 100000) (hn : 0 ≤ n ∧ n ≤ q) : FnSem Tryz.prog 39 [.p .any (.agg x.cells), In q, In n] [] (LongR x q n) := by
  have hb' := okDuct_b h
  refine FnSem.walk (zs := zeroPV Tryz.prog) (by kernel_rfl) Tryz.func39 rfl Tryz.results39 (by kernel_rfl) (by kernel_rfl) (by kernel_rfl) fun hw hh => ?_
  obtain ⟨w0, w1, w2, _⟩ := hw
  first | replace w0 := wf_Duct w0 | skip
  first | replace w1 := wf_I w1 | skip
  first | replace w2 := wf_I w2 | skip
  repeat' first
    | refine And.intro rfl ?_
    | refine GdF.mk (fun h => h) ?_
    | refine And.intro (Nat.succ_ne_zero _) ?_
    | refine And.intro (Nat.le_of_ble_eq_true rfl) ?_
    | refine SeqF.run ?_
    | refine ArgF.is (vduT x h) ?_
    | refine ArgQ.is (fun hG => vduT x h) rfl rfl ?_
    | refine ArgF.is (dfT q (by omega)) ?_
    | refine ArgQ.is (fun hG => dfT q (by omega)) rfl rfl ?_
    | refine ArgF.is (dfT n (by omega)) ?_
    | refine ArgQ.is (fun hG => dfT n (by omega)) rfl rfl ?_
    | refine ArgF.is (c_impl_Duct_joints (lenD x l) (ok_lenD h ⟨k0, k1⟩)) ?_
    | refine ArgQ.is (fun hG => c_impl_Duct_joints (lenD x l) (ok_lenD h ⟨k0, k1⟩)) rfl rfl ?_
    | refine ArgF.is (c_impl_Duct_after (lenD x l) q (joI (lenD x l)) (ok_lenD h ⟨k0, k1⟩) hq (by have q1 := joI_b (ok_lenD h (n := l) ⟨k0, k1⟩); omega)) ?_
    | refine ArgQ.is (fun hG => c_impl_Duct_after (lenD x l) q (joI (lenD x l)) (ok_lenD h ⟨k0, k1⟩) hq (by have q1 := joI_b (ok_lenD h (n := l) ⟨k0, k1⟩); omega)) rfl rfl ?_
    | refine EqI.mk ((l - 1) / x.joint) (fun _ => wrapD (by omega) (by omega) (by omega)) ?_
    | refine EqI.mk ((l - 1) / x.joint * x.joint) (fun _ => by have q1 := long_step (x := x) (q := q) (n := n) (l := l) h ⟨k0, k1⟩ hq.1 hn.2 hb; exact wrapI (by omega) (by omega)) ?_
    | refine LoopF.at 8 rfl (LoopF.fix [1, 2, 3] (Int) (fun l => 1 ≤ l ∧ l ≤ 2000) (fun l => []) (fun l => [(0, .fix [Str x.id, In l, In x.joint, In x.loss])]) (fun l => (l.toNat)) (2000) ?_)
    | (refine LoopB.of (T := Int) ?_ ?_; rotate_left; rintro l ⟨k0, k1⟩; rotate_left)
    | refine LongR.mk l rfl rfl ⟨k0, k1⟩ ?_
    | refine GhF.go ?_
    | refine GdS.keep ?_
    | refine DrawG.old (DrawF.lex (by decide +kernel) ?_)
    | refine BndF.mk (fun _ => by omega) ?_
    | refine BndF.mk (fun _ => by simp only [List.length_map, List.length_cons, List.length_nil, List.length_append, List.length_set, List.length_replicate, iotaI_len]; omega) ?_
    | refine BndF.mk (fun hG => by simp only [forall_const, eq_self, not_true_eq_false, not_false_eq_true, or_false, false_or, or_self, or_true, true_or, and_true, true_and, and_false, false_and, decide_true, decide_false, Bool.not_true, Bool.not_false, decide_eq_true_eq, decide_eq_false_iff_not, ite_and_p, ite_or_p, Bool.decide_eq_true, Bool.and_eq_true, Bool.or_eq_true, Bool.not_eq_true', Bool.not_eq_false', Bool.and_eq_false_imp, Bool.or_eq_false_iff, bne_iff_ne, beq_iff_eq, bne_eq_false_iff_eq, beq_eq_false_iff_ne, gt_iff_lt, ge_iff_le, Int.not_lt, Int.not_le, ne_eq, Bool.true_eq_false, Bool.false_eq_true, reduceCtorEq, eta_Airway, eta_Duct, eta_Fan, eta_Mine, eta_Survey, bytes_nil] at hG; (try simp only [List.length_map]); omega) ?_
    | refine EqI.mk _ (fun _ => wrapI (by omega) (by omega)) ?_
    | refine EqI.mk _ (fun _ => wrapD (by omega) (by omega) (by omega)) ?_
    | refine EqI.mk _ (fun _ => rfl) ?_
    | refine EqL.mk [] rfl ?_
    | refine EqL.mk [_] rfl ?_
    | refine EqL.mk _ rfl ?_
    | refine ArgF.is (c_impl_ValidDuct ⟨_, _, _, _⟩) ?_
    | refine ArgQ.is (fun hG => c_impl_ValidDuct ⟨_, _, _, _⟩) rfl rfl ?_
    | refine ArgF.is (c_impl_ductFlow ..) ?_
    | refine ArgQ.is (fun hG => c_impl_ductFlow ..) rfl rfl ?_
    | refine ArgF.is (c_impl_Duct_joints ⟨_, _, _, _⟩ (by first | assumption | omega)) ?_
    | refine ArgQ.is (fun hG => c_impl_Duct_joints ⟨_, _, _, _⟩ (by first | assumption | omega)) rfl rfl ?_
    | refine ArgQ.is (fun hG => c_impl_Duct_joints ⟨_, _, _, _⟩ (by simp only [forall_const, eq_self, not_true_eq_false, not_false_eq_true, or_false, false_or, or_self, or_true, true_or, and_true, true_and, and_false, false_and, decide_true, decide_false, Bool.not_true, Bool.not_false, decide_eq_true_eq, decide_eq_false_iff_not, ite_and_p, ite_or_p, Bool.decide_eq_true, Bool.and_eq_true, Bool.or_eq_true, Bool.not_eq_true', Bool.not_eq_false', Bool.and_eq_false_imp, Bool.or_eq_false_iff, bne_iff_ne, beq_iff_eq, bne_eq_false_iff_eq, beq_eq_false_iff_ne, gt_iff_lt, ge_iff_le, Int.not_lt, Int.not_le, ne_eq, Bool.true_eq_false, Bool.false_eq_true, reduceCtorEq, eta_Airway, eta_Duct, eta_Fan, eta_Mine, eta_Survey, bytes_nil] at hG; omega)) rfl rfl ?_
    | refine ArgF.is (c_impl_Duct_after ⟨_, _, _, _⟩ _ _ (by first | assumption | omega) (by first | assumption | omega) (by first | assumption | omega)) ?_
    | refine ArgQ.is (fun hG => c_impl_Duct_after ⟨_, _, _, _⟩ _ _ (by first | assumption | omega) (by first | assumption | omega) (by first | assumption | omega)) rfl rfl ?_
    | refine ArgQ.is (fun hG => c_impl_Duct_after ⟨_, _, _, _⟩ _ _ (by simp only [forall_const, eq_self, not_true_eq_false, not_false_eq_true, or_false, false_or, or_self, or_true, true_or, and_true, true_and, and_false, false_and, decide_true, decide_false, Bool.not_true, Bool.not_false, decide_eq_true_eq, decide_eq_false_iff_not, ite_and_p, ite_or_p, Bool.decide_eq_true, Bool.and_eq_true, Bool.or_eq_true, Bool.not_eq_true', Bool.not_eq_false', Bool.and_eq_false_imp, Bool.or_eq_false_iff, bne_iff_ne, beq_iff_eq, bne_eq_false_iff_eq, beq_eq_false_iff_ne, gt_iff_lt, ge_iff_le, Int.not_lt, Int.not_le, ne_eq, Bool.true_eq_false, Bool.false_eq_true, reduceCtorEq, eta_Airway, eta_Duct, eta_Fan, eta_Mine, eta_Survey, bytes_nil] at hG; omega) (by simp only [forall_const, eq_self, not_true_eq_false, not_false_eq_true, or_false, false_or, or_self, or_true, true_or, and_true, true_and, and_false, false_and, decide_true, decide_false, Bool.not_true, Bool.not_false, decide_eq_true_eq, decide_eq_false_iff_not, ite_and_p, ite_or_p, Bool.decide_eq_true, Bool.and_eq_true, Bool.or_eq_true, Bool.not_eq_true', Bool.not_eq_false', Bool.and_eq_false_imp, Bool.or_eq_false_iff, bne_iff_ne, beq_iff_eq, bne_eq_false_iff_eq, beq_eq_false_iff_ne, gt_iff_lt, ge_iff_le, Int.not_lt, Int.not_le, ne_eq, Bool.true_eq_false, Bool.false_eq_true, reduceCtorEq, eta_Airway, eta_Duct, eta_Fan, eta_Mine, eta_Survey, bytes_nil] at hG; omega) (by simp only [forall_const, eq_self, not_true_eq_false, not_false_eq_true, or_false, false_or, or_self, or_true, true_or, and_true, true_and, and_false, false_and, decide_true, decide_false, Bool.not_true, Bool.not_false, decide_eq_true_eq, decide_eq_false_iff_not, ite_and_p, ite_or_p, Bool.decide_eq_true, Bool.and_eq_true, Bool.or_eq_true, Bool.not_eq_true', Bool.not_eq_false', Bool.and_eq_false_imp, Bool.or_eq_false_iff, bne_iff_ne, beq_iff_eq, bne_eq_false_iff_eq, beq_eq_false_iff_ne, gt_iff_lt, ge_iff_le, Int.not_lt, Int.not_le, ne_eq, Bool.true_eq_false, Bool.false_eq_true, reduceCtorEq, eta_Airway, eta_Duct, eta_Fan, eta_Mine, eta_Survey, bytes_nil] at hG; omega)) rfl rfl ?_
    | refine CallF.mk (CallW.is [] true rfl ?_)
    | refine CallG.mk ?_
    | (refine CondF.mk (fun hb => ?_) (fun hb => ?_) <;> try simp only [forall_const, eq_self, not_true_eq_false, not_false_eq_true, or_false, false_or, or_self, or_true, true_or, and_true, true_and, and_false, false_and, decide_true, decide_false, Bool.not_true, Bool.not_false, decide_eq_true_eq, decide_eq_false_iff_not, ite_and_p, ite_or_p, Bool.decide_eq_true, Bool.and_eq_true, Bool.or_eq_true, Bool.not_eq_true', Bool.not_eq_false', Bool.and_eq_false_imp, Bool.or_eq_false_iff, bne_iff_ne, beq_iff_eq, bne_eq_false_iff_eq, beq_eq_false_iff_ne, gt_iff_lt, ge_iff_le, Int.not_lt, Int.not_le, ne_eq, Bool.true_eq_false, Bool.false_eq_true, reduceCtorEq, eta_Airway, eta_Duct, eta_Fan, eta_Mine, eta_Survey] at hb)
    | apply BackF.auto
    | refine BackB.mk ?_ ?_
    | refine RetF.auto (And.intro rfl ?_)
    | exact Is.mk rfl rfl
    | refine Is.mk ?_ rfl
    | refine Is.mk rfl ?_
    | refine Is.mk ?_ ?_
  all_goals try dsimp only
  all_goals first
    | omega
    | (have q1 := long_step (x := x) (q := q) (n := n) (l := l) h ⟨k0, k1⟩ hq.1 hn.2 (by unfold endI; assumption)
       omega)
    | (unfold endI; assumption)
    | skip
end Go.Proofs.YtmifcbekaniiiaaGreatDoor
