/- Contracts of functions of the program, and what they compute. Conditions: those that each theorem states. -/
import Derived.Test.YtdhkpmaanegjkaaGreatDoorProg
import Derived.Test.YtdhkpmaanegjkaaGreatDoorI9
import Derived.Test.YtdhkpmaanegjkaaGreatDoorI2s
import Derived.Test.YtdhkpmaanegjkaaGreatDoorJ0
set_option linter.unusedVariables false
set_option linter.unusedSimpArgs false
namespace Go.Proofs.YtdhkpmaanegjkaaGreatDoor
open Go.Av
attribute [local irreducible] Go.IntKind.wrap leastI binI rdZ rd rootI rawA
set_option maxRecDepth 20000
set_option maxHeartbeats 4000000
theorem blZ_mono {a v b w t t' : Int} (h : w ≤ v) (ht : t ≤ t') : blZ a v b w t' ≤ blZ a v b w t := by
  have h1 := blZ_b (a := a) (v := v) (b := b) (w := w) (t := t) h
  have h2 := blZ_b (a := a) (v := v) (b := b) (w := w) (t := t') h
  by_cases c1 : t ≤ a ∨ b ≤ a
  · have e : blZ a v b w t = v := by unfold blZ; rw [if_pos c1]
    rw [e]; exact h2.2
  · by_cases c3 : b ≤ t'
    · have e : blZ a v b w t' = w := by unfold blZ; rw [if_neg (by omega), if_pos c3]
      rw [e]; exact h1.1
    · have e1 : blZ a v b w t = v + rdZ ((w - v) * (t - a)) (b - a) := by unfold blZ; rw [if_neg c1, if_neg (by omega)]
      have e2 : blZ a v b w t' = v + rdZ ((w - v) * (t' - a)) (b - a) := by unfold blZ; rw [if_neg (by omega), if_neg c3]
      have h3 := Int.mul_le_mul_of_nonneg_left (show t - a ≤ t' - a by omega) (show 0 ≤ v - w by omega)
      have h4 := rdZ_mono (x := (w - v) * (t' - a)) (x' := (w - v) * (t - a)) (y := b - a) (by rw [show w - v = -(v - w) by omega, Int.neg_mul, Int.neg_mul]; omega) (by omega)
      omega
theorem prK_f {c : List (List Int)} {q : Int} (h : okCur c) : (∀ m : Nat, 1 ≤ m → m < prK c q → (c.getD m []).getD 0 0 < q) ∧ (prK c q < c.length - 1 → q ≤ (c.getD (prK c q) []).getD 0 0) := by
  have hl := h.ln
  have hh : leastI (prP c q) 1 (c.length - 1) ≤ c.length - 1 := by
    apply Classical.byContradiction
    intro hn
    have h1 := leastI_none hn (c.length - 1) (by omega) (by omega)
    have h2 := of_decide_eq_false h1
    omega
  obtain ⟨a, b, d⟩ := leastI_hit hh (by omega)
  have b2 := of_decide_eq_true b
  refine ⟨fun m h1 h2 => ?_, fun h1 => ?_⟩
  · have h3 : prP c q (m : Int) = false := d m (by omega) (by unfold prK at h2; omega)
    have h4 := of_decide_eq_false h3
    rw [Int.toNat_natCast] at h4
    omega
  · have e : prK c q = (leastI (prP c q) 1 (c.length - 1)).toNat := rfl
    rw [e] at h1 ⊢
    omega
theorem curY {c : List (List Int)} (h : okCur c) {j : Nat} : ∀ d : Nat, j + d < c.length → (c.getD (j + d) []).getD 1 0 ≤ (c.getD j []).getD 1 0
  | 0, _ => Int.le_refl _
  | d + 1, hk => by
    have h1 := curY h (j := j) d (by omega)
    have h2 := (h.so (j + (d + 1)) (by omega) hk).2
    rw [show j + (d + 1) - 1 = j + d by omega] at h2
    omega
theorem prI_mono {f : GFan} (h : okFan f) {q q' : Int} (hq : q ≤ q') : prI f q' ≤ prI f q := by
  have k1 := prK_r h.cu q
  have k2 := prK_r h.cu q'
  have f1 := prK_f (q := q) h.cu
  have f2 := prK_f (q := q') h.cu
  have hk : prK f.curve q ≤ prK f.curve q' := by
    apply Classical.byContradiction
    intro hn
    have a := f2.2 (by omega)
    have b := f1.1 (prK f.curve q') k2.1 (by omega)
    omega
  have s1 := h.cu.so (prK f.curve q) (by omega) k1.2
  have s2 := h.cu.so (prK f.curve q') (by omega) k2.2
  by_cases e : prK f.curve q = prK f.curve q'
  · unfold prI
    rw [e]
    exact blZ_mono s2.2 hq
  · have b1 := blZ_b (a := (f.curve.getD (prK f.curve q - 1) []).getD 0 0) (b := (f.curve.getD (prK f.curve q) []).getD 0 0) (t := q) s1.2
    have b2 := blZ_b (a := (f.curve.getD (prK f.curve q' - 1) []).getD 0 0) (b := (f.curve.getD (prK f.curve q') []).getD 0 0) (t := q') s2.2
    have m := curY h.cu (j := prK f.curve q) (prK f.curve q' - 1 - prK f.curve q) (by omega)
    rw [show prK f.curve q + (prK f.curve q' - 1 - prK f.curve q) = prK f.curve q' - 1 by omega] at m
    unfold prI
    omega
theorem prI_0 {f : GFan} (h : okFan f) {q : Int} (hq : q ≤ 0) : prI f q = (f.curve.getD 0 []).getD 1 0 := by
  have hl := h.cu.ln
  have hp := h.cu.pt 0 (by omega)
  exact prI_first h (by omega)
theorem sur_law {f : GFan} (h : okFan f) : (0 ≤ suI f ∧ suI f ≤ 100000) ∧ prI f (suI f) = prI f (-100000) ∧ (suI f < 100000 → prI f (suI f + 1) < prI f (-100000)) := by
  rw [prI_0 h (q := -100000) (by omega)]
  unfold suI
  generalize hY : (f.curve.getD 0 []).getD 1 0 = Y
  have h0 : prI f 0 = Y := by rw [prI_0 h (by omega), hY]
  obtain ⟨a, b, c, d⟩ := binI_p (p := lfP f Y) (lo := 0) (hi := 100000) (by omega)
  unfold lfI
  generalize hB : binI (lfP f Y) 0 100000 = B at a b c d
  by_cases c1 : 100000 < B
  · rw [if_pos c1]
    have d1 := of_decide_eq_false (d (by omega))
    have m := prI_mono h (q := 0) (q' := 100000) (by omega)
    rw [show B - 1 = 100000 by omega] at d1
    exact ⟨by omega, by omega, fun x => by omega⟩
  · rw [if_neg c1]
    by_cases c2 : B = 0
    · have c3 := of_decide_eq_true (c (by omega))
      rw [c2] at c3
      omega
    · rw [if_neg c2]
      have c3 := of_decide_eq_true (c (by omega))
      have d1 := of_decide_eq_false (d (by omega))
      have m := prI_mono h (q := 0) (q' := B - 1) (by omega)
      rw [show B - 1 + 1 = B by omega]
      exact ⟨by omega, by omega, fun x => c3⟩
end Go.Proofs.YtdhkpmaanegjkaaGreatDoor

set_option linter.unusedVariables false
set_option linter.unusedSimpArgs false
namespace Go.Proofs.YtdhkpmaanegjkaaGreatDoor
open Go.Av
attribute [local irreducible] Go.IntKind.wrap leastI rdZ rd rootI rawA prI okFanB
set_option maxRecDepth 20000
set_option maxHeartbeats 8000000
--@fn spec.l00Same
theorem l00sT (xs : List Int) : FnSem Tryz.prog 128 [Lx (LI xs), Lx (LI xs)] [] (Is [Bo true] []) := by
  refine FnSem.walk (zs := zeroPV Tryz.prog) (by kernel_rfl) Tryz.func128 rfl Tryz.results128 (by kernel_rfl) (by kernel_rfl) (by kernel_rfl) fun hw hh => ?_
  obtain ⟨w0, w1, _⟩ := hw
  first | replace w0 := wf_LI w0 | skip
  first | replace w1 := wf_LI w1 | skip
  repeat' first
    | refine And.intro rfl ?_
    | refine GdF.mk (fun h => h) ?_
    | refine And.intro (Nat.succ_ne_zero _) ?_
    | refine And.intro (Nat.le_of_ble_eq_true rfl) ?_
    | refine SeqF.run ?_
    | refine LoopF.at 4 rfl (LoopF.fix [0, 1] (Int) (fun i => 0 ≤ i ∧ i ≤ xs.length) (fun i => [(5, In i)]) (fun i => []) (fun i => (((xs.length : Int) - i).toNat)) (0) ?_)
    | (refine LoopB.of (T := Int) ?_ ?_; rotate_left; rintro i ⟨i0, i1⟩; rotate_left)
    | exact absurd rfl hb
    | refine GhF.go ?_
    | refine DrawG.old (DrawF.lex (by decide +kernel) ?_)
    | refine EqP.mk _ (gm eI 0 rfl) ?_
    | refine BndF.mk (fun _ => by omega) ?_
    | refine BndF.mk (fun _ => by simp only [lnS]; omega) ?_
    | refine EqI.mk _ (fun _ => wrapI (by omega) (by omega)) ?_
    | refine EqI.mk _ (fun _ => rfl) ?_
    | refine EqN.mk _ (ln eI) ?_
    | refine EqN.mk _ (Nat.zero_add _) ?_
    | refine EqN.mk _ (Int.toNat_natCast _) ?_
    | refine EqN.mk _ rfl ?_
    | (refine CondF.mk (fun hb => ?_) (fun hb => ?_) <;> try simp only [forall_const, eq_self, not_true_eq_false, not_false_eq_true, or_false, false_or, or_self, or_true, true_or, and_true, true_and, and_false, false_and, decide_true, decide_false, Bool.not_true, Bool.not_false, decide_eq_true_eq, decide_eq_false_iff_not, ite_and_p, ite_or_p, Bool.decide_eq_true, Bool.and_eq_true, Bool.or_eq_true, Bool.not_eq_true', Bool.not_eq_false', Bool.and_eq_false_imp, Bool.or_eq_false_iff, bne_iff_ne, beq_iff_eq, bne_eq_false_iff_eq, beq_eq_false_iff_ne, gt_iff_lt, ge_iff_le, Int.not_lt, Int.not_le, ne_eq, Bool.true_eq_false, Bool.false_eq_true, reduceCtorEq, eta_Airway, eta_Fan, eta_Mine] at hb)
    | apply BackF.auto
    | refine BackB.mk ?_ ?_
    | refine RetF.auto (And.intro rfl ?_)
    | exact Is.mk rfl rfl
    | refine Is.mk ?_ rfl
    | refine Is.mk rfl ?_
    | refine Is.mk ?_ ?_
  all_goals try dsimp only
  all_goals first
    | omega
    | exact ⟨by omega, by omega⟩
    | skip
--@fn spec.l06Rows
theorem l06rT (cs : List (List Int)) : FnSem Tryz.prog 103 [Lx (LLI cs), Lx (LLI cs)] [] (Is [Bo true] []) := by
  refine FnSem.walk (zs := zeroPV Tryz.prog) (by kernel_rfl) Tryz.func103 rfl Tryz.results103 (by kernel_rfl) (by kernel_rfl) (by kernel_rfl) fun hw hh => ?_
  obtain ⟨w0, w1, _⟩ := hw
  first | replace w0 := wf_LLI w0 | skip
  first | replace w1 := wf_LLI w1 | skip
  repeat' first
    | refine And.intro rfl ?_
    | refine GdF.mk (fun h => h) ?_
    | refine And.intro (Nat.succ_ne_zero _) ?_
    | refine And.intro (Nat.le_of_ble_eq_true rfl) ?_
    | refine SeqF.run ?_
    | refine ArgF.is (l00sT (cs.getD i.toNat [])) ?_
    | refine ArgQ.is (fun hG => l00sT (cs.getD i.toNat [])) rfl rfl ?_
    | refine LoopF.at 4 rfl (LoopF.fix [0, 1] (Int) (fun i => 0 ≤ i ∧ i ≤ cs.length) (fun i => [(5, In i)]) (fun i => []) (fun i => (((cs.length : Int) - i).toNat)) (0) ?_)
    | (refine LoopB.of (T := Int) ?_ ?_; rotate_left; rintro i ⟨i0, i1⟩; rotate_left)
    | exact absurd rfl hb
    | refine GhF.go ?_
    | refine DrawG.old (DrawF.lex (by decide +kernel) ?_)
    | refine EqP.mk _ (gm eI 0 rfl) ?_
    | refine EqP.mk _ (gmb eLI [] (by omega)) ?_
    | refine BndF.mk (fun _ => by omega) ?_
    | refine BndF.mk (fun _ => by simp only [lnS]; omega) ?_
    | refine EqI.mk _ (fun _ => wrapI (by omega) (by omega)) ?_
    | refine EqI.mk _ (fun _ => rfl) ?_
    | refine EqN.mk _ (ln eI) ?_
    | refine EqN.mk _ (ln eLI) ?_
    | refine EqN.mk _ (Nat.zero_add _) ?_
    | refine EqN.mk _ (Int.toNat_natCast _) ?_
    | refine EqN.mk _ rfl ?_
    | refine EqL.mk _ (tk eI (by first | rfl | assumption | omega | (simp only [lnS] <;> omega))) ?_
    | refine EqL.mk _ (tk eLI (by first | rfl | assumption | omega | (simp only [lnS] <;> omega))) ?_
    | refine EqL.mk [] rfl ?_
    | refine EqL.mk [_] rfl ?_
    | refine EqL.mk _ rfl ?_
    | refine ArgF.is (c_spec_l00Same ..) ?_
    | refine ArgQ.is (fun hG => c_spec_l00Same ..) rfl rfl ?_
    | refine CallF.mk (CallW.is [] true rfl ?_)
    | refine CallG.mk ?_
    | (refine CondF.mk (fun hb => ?_) (fun hb => ?_) <;> try simp only [forall_const, eq_self, not_true_eq_false, not_false_eq_true, or_false, false_or, or_self, or_true, true_or, and_true, true_and, and_false, false_and, decide_true, decide_false, Bool.not_true, Bool.not_false, decide_eq_true_eq, decide_eq_false_iff_not, ite_and_p, ite_or_p, Bool.decide_eq_true, Bool.and_eq_true, Bool.or_eq_true, Bool.not_eq_true', Bool.not_eq_false', Bool.and_eq_false_imp, Bool.or_eq_false_iff, bne_iff_ne, beq_iff_eq, bne_eq_false_iff_eq, beq_eq_false_iff_ne, gt_iff_lt, ge_iff_le, Int.not_lt, Int.not_le, ne_eq, Bool.true_eq_false, Bool.false_eq_true, reduceCtorEq, eta_Airway, eta_Fan, eta_Mine] at hb)
    | apply BackF.auto
    | refine BackB.mk ?_ ?_
    | refine RetF.auto (And.intro rfl ?_)
    | exact Is.mk rfl rfl
    | refine Is.mk ?_ rfl
    | refine Is.mk rfl ?_
    | refine Is.mk ?_ ?_
  all_goals try dsimp only
  all_goals first
    | omega
    | exact ⟨by omega, by omega⟩
    | skip
--@fn spec.l06Same
theorem l06sT (f : GFan) : FnSem Tryz.prog 70 [.p .any (.ref f.cells), .p .any (.ref f.cells)] [] (Is [Bo true] []) := by
  refine FnSem.walk (zs := zeroPV Tryz.prog) (by kernel_rfl) Tryz.func70 rfl Tryz.results70 (by kernel_rfl) (by kernel_rfl) (by kernel_rfl) fun hw hh => ?_
  obtain ⟨w0, w1, _⟩ := hw
  first | replace w0 := wfr_Fan w0 | skip
  first | replace w1 := wfr_Fan w1 | skip
  repeat' first
    | refine And.intro rfl ?_
    | refine GdF.mk (fun h => h) ?_
    | refine And.intro (Nat.succ_ne_zero _) ?_
    | refine And.intro (Nat.le_of_ble_eq_true rfl) ?_
    | refine SeqF.run ?_
    | refine ArgF.is (l06rT f.curve) ?_
    | refine ArgQ.is (fun hG => l06rT f.curve) rfl rfl ?_
    | refine GhF.go ?_
    | refine GdS.keep ?_
    | refine DrawG.old (DrawF.lex (by decide +kernel) ?_)
    | refine BndF.mk (fun _ => by omega) ?_
    | refine BndF.mk (fun _ => by simp only [lnS]; omega) ?_
    | refine BndF.mk (fun hG => by simp only [forall_const, eq_self, not_true_eq_false, not_false_eq_true, or_false, false_or, or_self, or_true, true_or, and_true, true_and, and_false, false_and, decide_true, decide_false, Bool.not_true, Bool.not_false, decide_eq_true_eq, decide_eq_false_iff_not, ite_and_p, ite_or_p, Bool.decide_eq_true, Bool.and_eq_true, Bool.or_eq_true, Bool.not_eq_true', Bool.not_eq_false', Bool.and_eq_false_imp, Bool.or_eq_false_iff, bne_iff_ne, beq_iff_eq, bne_eq_false_iff_eq, beq_eq_false_iff_ne, gt_iff_lt, ge_iff_le, Int.not_lt, Int.not_le, ne_eq, Bool.true_eq_false, Bool.false_eq_true, reduceCtorEq, eta_Airway, eta_Fan, eta_Mine, bytes_nil] at hG; (try simp only [List.length_map]); omega) ?_
    | refine EqL.mk _ (tk eLI (by first | rfl | assumption | omega | (simp only [lnS] <;> omega))) ?_
    | refine EqL.mk [] rfl ?_
    | refine EqL.mk [_] rfl ?_
    | refine EqL.mk _ rfl ?_
    | refine ArgF.is (c_spec_l06Rows ..) ?_
    | refine ArgQ.is (fun hG => c_spec_l06Rows ..) rfl rfl ?_
    | refine CallF.mk (CallW.is [] true rfl ?_)
    | refine CallG.mk ?_
    | (refine CondF.mk (fun hb => ?_) (fun hb => ?_) <;> try simp only [forall_const, eq_self, not_true_eq_false, not_false_eq_true, or_false, false_or, or_self, or_true, true_or, and_true, true_and, and_false, false_and, decide_true, decide_false, Bool.not_true, Bool.not_false, decide_eq_true_eq, decide_eq_false_iff_not, ite_and_p, ite_or_p, Bool.decide_eq_true, Bool.and_eq_true, Bool.or_eq_true, Bool.not_eq_true', Bool.not_eq_false', Bool.and_eq_false_imp, Bool.or_eq_false_iff, bne_iff_ne, beq_iff_eq, bne_eq_false_iff_eq, beq_eq_false_iff_ne, gt_iff_lt, ge_iff_le, Int.not_lt, Int.not_le, ne_eq, Bool.true_eq_false, Bool.false_eq_true, reduceCtorEq, eta_Airway, eta_Fan, eta_Mine] at hb)
    | refine RetF.auto (And.intro rfl ?_)
    | exact Is.mk rfl rfl
    | refine Is.mk ?_ rfl
    | refine Is.mk rfl ?_
    | refine Is.mk ?_ ?_
  all_goals try dsimp only
  all_goals try simp only [Bo, I, OB.row.injEq, AV.osl.injEq, eI_same,  List.cons.injEq, AV.p.injEq, PV.c.injEq, Value.int.injEq, Value.bool.injEq, and_true, true_and, ite_and_p, ite_or_p, Bool.decide_eq_true, eta_Airway, eta_Fan, eta_Mine]
  all_goals try dsimp only
  all_goals first
    | simp
    | skip
--@fn spec.SameFan
theorem sameF (f : GFan) : FnSem Tryz.prog 26 [.p .any (.agg f.cells), .p .any (.agg f.cells)] [] (Is [Bo true] []) := by
  refine FnSem.walk (zs := zeroPV Tryz.prog) (by kernel_rfl) Tryz.func26 rfl Tryz.results26 (by kernel_rfl) (by kernel_rfl) (by kernel_rfl) fun hw hh => ?_
  obtain ⟨w0, w1, _⟩ := hw
  first | replace w0 := wf_Fan w0 | skip
  first | replace w1 := wf_Fan w1 | skip
  repeat' first
    | refine And.intro rfl ?_
    | refine GdF.mk (fun h => h) ?_
    | refine And.intro (Nat.succ_ne_zero _) ?_
    | refine And.intro (Nat.le_of_ble_eq_true rfl) ?_
    | refine SeqF.run ?_
    | refine ArgF.is (l06sT f) ?_
    | refine ArgQ.is (fun hG => l06sT f) rfl rfl ?_
    | refine GhF.go ?_
    | refine BndF.mk (fun _ => by omega) ?_
    | refine BndF.mk (fun _ => by simp only [lnS]; omega) ?_
    | refine EqL.mk [] rfl ?_
    | refine EqL.mk [_] rfl ?_
    | refine EqL.mk _ rfl ?_
    | refine ArgF.is (c_spec_l06Same ..) ?_
    | refine ArgQ.is (fun hG => c_spec_l06Same ..) rfl rfl ?_
    | refine CallF.mk (CallW.is [] true rfl ?_)
    | refine CallG.mk ?_
    | (refine CondF.mk (fun hb => ?_) (fun hb => ?_) <;> try simp only [forall_const, eq_self, not_true_eq_false, not_false_eq_true, or_false, false_or, or_self, or_true, true_or, and_true, true_and, and_false, false_and, decide_true, decide_false, Bool.not_true, Bool.not_false, decide_eq_true_eq, decide_eq_false_iff_not, ite_and_p, ite_or_p, Bool.decide_eq_true, Bool.and_eq_true, Bool.or_eq_true, Bool.not_eq_true', Bool.not_eq_false', Bool.and_eq_false_imp, Bool.or_eq_false_iff, bne_iff_ne, beq_iff_eq, bne_eq_false_iff_eq, beq_eq_false_iff_ne, gt_iff_lt, ge_iff_le, Int.not_lt, Int.not_le, ne_eq, Bool.true_eq_false, Bool.false_eq_true, reduceCtorEq, eta_Airway, eta_Fan, eta_Mine] at hb)
    | refine RetF.auto (And.intro rfl ?_)
    | exact Is.mk rfl rfl
    | refine Is.mk ?_ rfl
    | refine Is.mk rfl ?_
    | refine Is.mk ?_ ?_
  all_goals skip
--@fn spec.ValidFan
theorem svF (f : GFan) (h : okFan f) : FnSem Tryz.prog 30 [.p .any (.agg f.cells)] [] (Is [Bo true] []) := by
  refine FnSem.walk (zs := zeroPV Tryz.prog) (by kernel_rfl) Tryz.func30 rfl Tryz.results30 (by kernel_rfl) (by kernel_rfl) (by kernel_rfl) fun hw hh => ?_
  obtain ⟨w0, _⟩ := hw
  first | replace w0 := wf_Fan w0 | skip
  repeat' first
    | refine And.intro rfl ?_
    | refine GdF.mk (fun h => h) ?_
    | refine And.intro (Nat.succ_ne_zero _) ?_
    | refine And.intro (Nat.le_of_ble_eq_true rfl) ?_
    | refine SeqF.run ?_
    | refine ArgF.is (c_spec_l06Ok f h) ?_
    | refine ArgQ.is (fun hG => c_spec_l06Ok f h) rfl rfl ?_
    | refine GhF.go ?_
    | refine BndF.mk (fun _ => by omega) ?_
    | refine BndF.mk (fun _ => by simp only [lnS]; omega) ?_
    | refine EqL.mk [] rfl ?_
    | refine EqL.mk [_] rfl ?_
    | refine EqL.mk _ rfl ?_
    | refine ArgF.is (c_spec_l06Ok ⟨_, _, _⟩ (by first | assumption | omega)) ?_
    | refine ArgQ.is (fun hG => c_spec_l06Ok ⟨_, _, _⟩ (by first | assumption | omega)) rfl rfl ?_
    | refine CallF.mk (CallW.is [] true rfl ?_)
    | refine CallG.mk ?_
    | (refine CondF.mk (fun hb => ?_) (fun hb => ?_) <;> try simp only [forall_const, eq_self, not_true_eq_false, not_false_eq_true, or_false, false_or, or_self, or_true, true_or, and_true, true_and, and_false, false_and, decide_true, decide_false, Bool.not_true, Bool.not_false, decide_eq_true_eq, decide_eq_false_iff_not, ite_and_p, ite_or_p, Bool.decide_eq_true, Bool.and_eq_true, Bool.or_eq_true, Bool.not_eq_true', Bool.not_eq_false', Bool.and_eq_false_imp, Bool.or_eq_false_iff, bne_iff_ne, beq_iff_eq, bne_eq_false_iff_eq, beq_eq_false_iff_ne, gt_iff_lt, ge_iff_le, Int.not_lt, Int.not_le, ne_eq, Bool.true_eq_false, Bool.false_eq_true, reduceCtorEq, eta_Airway, eta_Fan, eta_Mine] at hb)
    | refine RetF.auto (And.intro rfl ?_)
    | exact Is.mk rfl rfl
    | refine Is.mk ?_ rfl
    | refine Is.mk rfl ?_
    | refine Is.mk ?_ ?_
  all_goals skip
end Go.Proofs.YtdhkpmaanegjkaaGreatDoor

set_option linter.unusedVariables false
set_option linter.unusedSimpArgs false
namespace Go.Proofs.YtdhkpmaanegjkaaGreatDoor
open Go.Av
open Go
def frzT (m : Nat) (R : List AV → List OB → Prop) (vs : List AV) (ho : List OB) : Prop :=
  ∃ k ob, 2 ≤ vs.length ∧ ho.length = k + 1 ∧ m ≤ k ∧ ho[k]? = some ob ∧ fzOk ob = true ∧ seqW (fzV k ob 4) vs fun vs' => R (renL (expG (List.range k)) some vs') (renHeap (List.range k) (ho.set k .dead))
theorem semFrzT {P : Program} [Kn P] {f : FuncId} {args : List AV} {hin : List OB} {R : List AV → List OB → Prop} (h : FnSem P f args hin fun vs ho => R vs ho ∨ frzT hin.length R vs ho) : FnSem P f args hin R := by
  refine ⟨h.1, fun w vals pl A hA hkn he => (h.2 w vals pl A hA hkn he).mono ?_⟩
  rintro e w' ⟨u, vs, ho, pl', rfl, hR | ⟨k, ob, h2, hl, hm, hk, hob, hfz⟩, hB⟩
  · exact ⟨u, vs, ho, pl', rfl, hR, hB⟩
  have hret : retAV vs = .tup vs := by
    match vs, h2 with
    | _ :: _ :: _, _ => rfl
  have hres := hB.res
  rw [hret] at hres
  cases hres with
  | @tup _ arr hs hr =>
  have hC : ConcP arr.size hin.length (Stab pl hin w) A w ⟨fun s => vs.getD s .junk, ho⟩ pl' { tmps := arr, defers := [] } w' :=
    { defers := rfl, size := rfl, os := hB.os, tape := hB.tape, output := hB.output, hsize := hB.size, frame := hB.frame, ownlt := fun k b hk => (hB.own k b hk).1, ownF := fun k b hk => (hB.own k b hk).2, newb := hB.newb, disj := hB.disj, heap := hB.heap
      env := fun s => by
        show RelA _ _ _ _ _ (vs.getD s .junk) (arr.getD s undef)
        by_cases hsl : s < vs.length
        · have ha : s < arr.size := by omega
          rw [List.getD_eq_getElem?_getD, List.getElem?_eq_getElem hsl, Array.getD_eq_getD_getElem?, Array.getElem?_eq_getElem ha]
          exact hr s _ _ (List.getElem?_eq_getElem hsl) (Array.getElem?_eq_getElem ha)
        · rw [List.getD_eq_getElem?_getD, List.getElem?_eq_none (by omega)]; exact .junk }
  obtain ⟨hS, hFr, hFS, hown⟩ := frz1 hC hk hob
  obtain ⟨vs', hR, hlv, hv⟩ := seqW_sound (r := fun v v' => ∀ u, RelA pl' ho.length (Sany A w.heap.size pl' ho w') (Fresh w.heap.size pl' ho w') w' v u → RelA pl' ho.length (Sany A w.heap.size pl' (ho.set k .dead) w') (Fresh w.heap.size pl' (ho.set k .dead) w') w' v' u)
    (fun v K h => fzV_sound hC hk hob hS hFr hFS hown 4 v K h) hfz
  have hC2 := hC.freeze (env' := fun s => vs'.getD s .junk) (h' := ho.set k .dead) hk hob (by simp) (R := fun a b => ∀ u, RelA pl' ho.length (Sany A w.heap.size pl' ho w') (Fresh w.heap.size pl' ho w') w' a u → RelA pl' ho.length (Sany A w.heap.size pl' (ho.set k .dead) w') (Fresh w.heap.size pl' (ho.set k .dead) w') w' b u)
    (fun a b hab => hab) (fun i o o' h1 h2 => by
      rw [h1] at h2
      cases h2
      cases o with
      | fix cs =>
        refine ⟨cs, rfl, rfl, fun j c c' hj hj' u hu => ?_⟩
        rw [hj] at hj'
        cases hj'
        exact hu.mono (Nat.le_refl _) (fun _ _ => Pl.Base.refl _) hS hFr (fun _ _ => rfl) (fun _ _ => rfl)
      | _ => rfl) (fun s u hu => by
      by_cases hsl : s < vs.length
      · have hsl' : s < vs'.length := by omega
        simp only [List.getD_eq_getElem?_getD, List.getElem?_eq_getElem hsl, List.getElem?_eq_getElem hsl', Option.getD_some] at hu ⊢
        exact hv s _ _ (List.getElem?_eq_getElem hsl) (List.getElem?_eq_getElem hsl') u hu
      · simp only [List.getD_eq_getElem?_getD, List.getElem?_eq_none (show vs'.length ≤ s by omega)]; exact .junk)
  have hkl : k < ho.length := by omega
  have hC3 := hC2.rename (List.range k) (by rw [List.take_range, Nat.min_eq_left hm]) List.nodup_range (fun i hi => by simp only [List.length_set]; have := List.mem_range.1 hi; omega)
  have hret2 : retAV (renL (expG (List.range k)) some vs') = .tup (renL (expG (List.range k)) some vs') := by
    rw [renL_eq]
    match vs', show 2 ≤ vs'.length by omega with
    | _ :: _ :: _, _ => rfl
  refine ⟨_, _, _, _, rfl, hR, { os := hC3.os, tape := hC3.tape, output := hC3.output, size := hC3.hsize, frame := hC3.frame, len := by simp [renHeap]; exact hm, io := fun i hi => ?_, own := fun i b hi => ⟨hC3.ownlt i b hi, hC3.ownF i b hi⟩, newb := hC3.newb, disj := hC3.disj, heap := hC3.heap, res := ?_ }⟩
  · rw [renPl_get (k := i) (by rw [List.getElem?_range (by omega)])]
    exact hB.io i hi
  · rw [hret2]
    refine .tup (by rw [renL_eq, List.length_map]; omega) fun j p x hp hx => ?_
    have := hC3.env j
    rw [renL_eq, List.getElem?_map] at hp
    cases hvj : vs'[j]? with
    | none => rw [hvj] at hp; cases hp
    | some v0 =>
      rw [hvj] at hp
      cases hp
      simp only [List.getD_eq_getElem?_getD, hvj, Option.getD_some] at this
      rw [Array.getD_eq_getD_getElem?, hx] at this
      exact this
def freshV : AV → AV
  | .p .flat (.lst z es) => .p .fresh (.lst z es)
  | v => v
def freshL : List AV → List AV
  | [] => []
  | v :: r => freshV v :: freshL r
theorem freshV_rel {pl : Nat → Pl} {L : Nat} {S Fr : Nat → Prop} {w : World} {v : AV} {u : Value} (h : RelA pl L S Fr w v u) : RelA pl L S Fr w (freshV v) u := by
  unfold freshV
  split
  · cases h with
    | p h => exact .p (h.mono (fun b hb => hb.elim) (fun _ _ => rfl))
  · exact h
theorem freshL_eq (l : List AV) : freshL l = l.map freshV := by
  induction l with
  | nil => rfl
  | cons a r ih => simp [freshL, ih]
theorem semFresh {P : Program} [Kn P] {f : FuncId} {args : List AV} {hin : List OB} {R : List AV → List OB → Prop} (h : FnSem P f args hin fun vs ho => R (freshL vs) ho) : FnSem P f args hin R := by
  refine ⟨h.1, fun w vals pl A hA hkn he => (h.2 w vals pl A hA hkn he).mono ?_⟩
  rintro e w' ⟨u, vs, ho, pl', rfl, hR, hB⟩
  refine ⟨u, _, ho, pl', rfl, hR, { os := hB.os, tape := hB.tape, output := hB.output, size := hB.size, frame := hB.frame, len := hB.len, io := hB.io, own := hB.own, newb := hB.newb, disj := hB.disj, heap := hB.heap, res := ?_ }⟩
  have hr := hB.res
  rw [freshL_eq]
  match vs, hr with
  | [], hr => exact hr
  | [v], hr => exact freshV_rel hr
  | v :: v2 :: r, hr =>
    cases hr with
    | @tup _ arr hs hr2 =>
      refine .tup (by rw [hs]; simp) fun j p x hp hx => ?_
      have hp : ((v :: v2 :: r).map freshV)[j]? = some p := hp
      rw [List.getElem?_map] at hp
      cases hv : (v :: v2 :: r)[j]? with
      | none => rw [hv] at hp; cases hp
      | some v0 => rw [hv] at hp; cases hp; exact freshV_rel (hr2 j v0 x hv hx)
end Go.Proofs.YtdhkpmaanegjkaaGreatDoor

set_option linter.unusedVariables false
set_option linter.unusedSimpArgs false
namespace Go.Proofs.YtdhkpmaanegjkaaGreatDoor
open Go.Av
open Go
def aggL : List AV → List AV
  | [] => []
  | v :: r => aggV v :: aggL r
theorem aggL_eq (l : List AV) : aggL l = l.map aggV := by
  induction l with
  | nil => rfl
  | cons a r ih => simp [aggL, ih]
theorem aggV_rel {pl : Nat → Pl} {L : Nat} {S Fr : Nat → Prop} (hFS : ∀ b, Fr b → S b) {w : World} {v : AV} {u : Value} (h : RelA pl L S Fr w v u) : RelA pl L S Fr w (aggV v) u := by
  cases v with
  | aagg cs =>
    cases h with
    | @aagg _ arr hs h1 hr => exact relA_mkAgg hFS hs h1 hr
  | _ => exact h
theorem semAgg {P : Program} [Kn P] {f : FuncId} {args : List AV} {hin : List OB} {R : List AV → List OB → Prop} (h : FnSem P f args hin fun vs ho => R (aggL vs) ho) : FnSem P f args hin R := by
  refine ⟨h.1, fun w vals pl A hA hkn he => (h.2 w vals pl A hA hkn he).mono ?_⟩
  rintro e w' ⟨u, vs, ho, pl', rfl, hR, hB⟩
  refine ⟨u, _, ho, pl', rfl, hR, { os := hB.os, tape := hB.tape, output := hB.output, size := hB.size, frame := hB.frame, len := hB.len, io := hB.io, own := hB.own, newb := hB.newb, disj := hB.disj, heap := hB.heap, res := ?_ }⟩
  have hFS : ∀ b, Fresh w.heap.size pl' ho w' b → Sany A w.heap.size pl' ho w' b := fun b hb => ⟨hb.2, .inr hb.1⟩
  have hr := hB.res
  rw [aggL_eq]
  match vs, hr with
  | [], hr => exact hr
  | [v], hr => exact aggV_rel hFS hr
  | v :: v2 :: r, hr =>
    cases hr with
    | @tup _ arr hs hr2 =>
      refine .tup (by rw [hs]; simp) fun j p x hp hx => ?_
      have hp : ((v :: v2 :: r).map aggV)[j]? = some p := hp
      rw [List.getElem?_map] at hp
      cases hv : (v :: v2 :: r)[j]? with
      | none => rw [hv] at hp; cases hp
      | some v0 => rw [hv] at hp; cases hp; exact aggV_rel hFS (hr2 j v0 x hv hx)
end Go.Proofs.YtdhkpmaanegjkaaGreatDoor
