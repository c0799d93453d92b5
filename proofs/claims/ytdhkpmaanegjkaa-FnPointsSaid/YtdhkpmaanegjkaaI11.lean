/- Contracts of functions of the program, and what they compute. Conditions: those that each theorem states. -/
import Derived.Test.YtdhkpmaanegjkaaProg
import Derived.Test.YtdhkpmaanegjkaaI2
import Derived.Test.YtdhkpmaanegjkaaI10
set_option linter.unusedVariables false
set_option linter.unusedSimpArgs false
namespace Go.Proofs.Ytdhkpmaanegjkaa
open Go.Av
attribute [local irreducible] Go.IntKind.wrap leastI binI rdZ rd rootI rawA dropI prI wfI pwF okFanB
set_option maxRecDepth 20000
set_option maxHeartbeats 16000000

/-! The law of working points. -/
structure wpK (f : GFan) (r q p : Int) : Prop where
  ok : okFan f
  rb : 1 ≤ r ∧ r ≤ 1000000
  qb : 0 ≤ q ∧ q ≤ 100000
  pe : p = prI f q
  lo : dropI r q ≤ prI f q
  hi : q < 100000 → prI f (q + 1) < dropI r (q + 1)
theorem wpK_of {f : GFan} {r q p : Int} (h : okFan f ∧ (1 ≤ r ∧ r ≤ 1000000) ∧ q = wfI f r ∧ p = prI f q) : wpK f r q p := by
  obtain ⟨h1, h2, rfl, rfl⟩ := h
  have q := wfI_p (r := r) h1
  exact ⟨h1, h2, q.1, rfl, q.2.1, q.2.2⟩
section
variable {f : GFan} {r q p : Int}
theorem wpK.b0 (h : wpK f r q p) : decide (q < 0) = false := decide_eq_false (by have := h.qb; omega)
theorem wpK.b1 (h : wpK f r q p) : decide (q > 100000) = false := decide_eq_false (by have := h.qb; omega)
theorem wpK.b2 (h : wpK f r q p) : (prI f q != p) = false := by rw [h.pe]; simp
theorem wpK.b3 (h : wpK f r q p) : decide (dropI r q > p) = false := decide_eq_false (by have := h.lo; have := h.pe; omega)
theorem wpK.b4 (h : wpK f r q p) (hq : q < 100000) : decide (dropI r (q + 1) ≤ prI f (q + 1)) = false := decide_eq_false (by have := h.hi hq; omega)
end
/-- the best fan is known -/
structure bfK (fs : List GFan) (r d k : Int) : Prop where
  ok : ∀ j : Nat, j < fs.length → okFan (fs.getD j default)
  rb : 1 ≤ r ∧ r ≤ 1000000
  kb : 0 ≤ k ∧ k < fs.length
  le : d ≤ wfI (fs.getD k.toNat default) r
  be : ∀ j : Nat, (j : Int) < fs.length → d ≤ wfI (fs.getD j default) r → pwF (fs.getD k.toNat default) (wfI (fs.getD k.toNat default) r) ≤ pwF (fs.getD j default) (wfI (fs.getD j default) r)
section
variable {fs : List GFan} {r d k : Int}
theorem bfK.b0 (h : bfK fs r d k) : decide (k < 0) = false := decide_eq_false (by have := h.kb; omega)
theorem bfK.b1 (h : bfK fs r d k) : decide (k ≥ (fs.length : Int)) = false := decide_eq_false (by have := h.kb; omega)
theorem bfK.b2 (h : bfK fs r d k) : decide (wfI (fs.getD k.toNat default) r < d) = false := decide_eq_false (by have := h.le; omega)
theorem bfK.b5 (h : bfK fs r d k) {i : Int} (h0 : 0 ≤ i) (hi : i < fs.length) : (if decide (wfI (fs.getD i.toNat default) r ≥ d) = true then decide (pwF (fs.getD i.toNat default) (wfI (fs.getD i.toNat default) r) < pwF (fs.getD k.toNat default) (wfI (fs.getD k.toNat default) r)) else false) = false := by
  have q := h.be i.toNat (by omega)
  split
  · rename_i e
    have e := of_decide_eq_true e
    have := q e
    exact decide_eq_false (by omega)
  · rfl
theorem bfK.wb (h : bfK fs r d k) {j : Nat} (hj : j < fs.length) : 0 ≤ wfI (fs.getD j default) r ∧ wfI (fs.getD j default) r ≤ 100000 := (wfI_p (r := r) (h.ok j hj)).1
theorem bfK.lt (h : bfK fs r d k) : k.toNat < fs.length := by have := h.kb; omega
end
theorem iteF {b : Bool} : (if (false = true) then true else b) = b := rfl
theorem ne00 : ((0 : Int) != 0) = false := rfl
theorem c_laws_FnPoints (c1 c2 : List Int) : FnSem Try.prog 3 [Lx (LY c1), Lx (LY c2)] [] (Is [Bo true] []) := by
  refine FnSem.walk (zs := zeroPV Try.prog) (by kernel_rfl) Try.func3 rfl Try.results3 (by kernel_rfl) (by kernel_rfl) (by kernel_rfl) fun hw hh => ?_
  obtain ⟨w0, w1, _⟩ := hw
  first | replace w0 := wf_LY w0 | skip
  first | replace w1 := wf_LY w1 | skip
  have hc1 : bytes c1 := w0.2
  have hc2 : bytes c2 := w1.2
  repeat' first
    | exact True.intro
    | exact hkl (by assumption)
    | rw [iteF]
    | rw [ne00]
    | rw [(hq (by assumption)).b0]
    | rw [(hq (by assumption)).b1]
    | rw [(hq (by assumption)).b2]
    | rw [(hq (by assumption)).b3]
    | rw [(hq (by assumption)).b4 (by assumption)]
    | rw [(hB (by assumption)).b0]
    | rw [(hB (by assumption)).b1]
    | rw [(hB (by assumption)).b2]
    | rw [(hB (by assumption)).b5 i0 (by assumption)]
    | refine And.intro rfl ?_
    | refine GdF.mk (fun h => h) ?_
    | refine And.intro (Nat.succ_ne_zero _) ?_
    | refine And.intro (Nat.le_of_ble_eq_true rfl) ?_
    | (refine SeqF.cutfix (a := codeF _ _ _ (.seq _ (.cond (.tmp 53) _ _))) [1] [] (Unit × Unit) (fun _ => True) (fun _ => []) (fun _ => []) ?_ ?_; rotate_left; rintro ⟨⟨⟩, ⟨⟩⟩ _; rotate_left)
    | (refine SeqF.cutfix (a := codeF _ _ _ (.seq _ (.cond (.tmp 171) _ _))) [18, 19, 20, 26] [] (Unit × Unit × Unit) (fun _ => c = 0) (fun _ => []) (fun _ => []) ?_ ?_; rotate_left; rintro ⟨⟨⟩, ⟨⟩, ⟨⟩⟩ hc0; rotate_left)
    | apply FitF.auto2 () ()
    | apply FitF.auto3 () () ()
    | refine SeqF.run ?_
    | refine EqP.mk _ (gmb GFan.cells default (hB (by assumption)).lt) ?_
    | (refine ArgF.ret (c_spec_DrawWorkingPoint c1 hc1) ?_; rintro ⟨f, r⟩ -; dsimp only)
    | (refine ArgF.mk _ (c_impl_WorkingPoint f r) (fun rs ho hR _ => ?_); obtain ⟨q, p, one, rfl, rfl, hw⟩ := hR; have hq : one = 0 → wpK f r q p := fun e => wpK_of (hw e); clear hw)
    | refine ArgF.is (prAtT f q (hq (by assumption)).ok (by have := (hq (by assumption)).qb; omega)) ?_
    | refine ArgQ.is (fun hG => prAtT f q (hq (by assumption)).ok (by have := (hq (by assumption)).qb; omega)) rfl rfl ?_
    | refine ArgF.is (prAtT f (q + 1) (hq (by assumption)).ok (by have := (hq (by assumption)).qb; omega)) ?_
    | refine ArgQ.is (fun hG => prAtT f (q + 1) (hq (by assumption)).ok (by have := (hq (by assumption)).qb; omega)) rfl rfl ?_
    | refine ArgF.is (drOfT r q (hq (by assumption)).rb (by have := (hq (by assumption)).qb; omega)) ?_
    | refine ArgQ.is (fun hG => drOfT r q (hq (by assumption)).rb (by have := (hq (by assumption)).qb; omega)) rfl rfl ?_
    | refine ArgF.is (drOfT r (q + 1) (hq (by assumption)).rb (by have := (hq (by assumption)).qb; omega)) ?_
    | refine ArgQ.is (fun hG => drOfT r (q + 1) (hq (by assumption)).rb (by have := (hq (by assumption)).qb; omega)) rfl rfl ?_
    | refine EqI.mk (q + 1) (fun _ => by have := (hq (by assumption)).qb; exact wrapI (by omega) (by omega)) ?_
    | (refine ArgF.ret (c_spec_DrawBestFan c2 hc2) ?_; rintro ⟨fs, r2, d⟩ hfl; dsimp only at hfl ⊢)
    | (refine ArgF.mk _ (c_impl_BestFan fs r2 d) (fun rs ho hR _ => ?_); obtain ⟨k, c, rfl, rfl, hk, hB0⟩ := hR; have hB : c = 0 → bfK fs r2 d k := fun e => ⟨(hB0 e).1, (hB0 e).2.1, (hB0 e).2.2.1, (hB0 e).2.2.2.1, (hB0 e).2.2.2.2⟩; clear hB0; have hkl : ¬c = 0 → ([.p .flat (.c (.bool (k == 0)))] : List AV) = [Bo true] := fun e => by rw [hk e]; rfl)
    | refine ArgF.is (wpT (fs.getD k.toNat default) r2 ((hB (by assumption)).ok k.toNat (hB (by assumption)).lt) (hB (by assumption)).rb) ?_
    | refine ArgQ.is (fun hG => wpT (fs.getD k.toNat default) r2 ((hB (by assumption)).ok k.toNat (hB (by assumption)).lt) (hB (by assumption)).rb) rfl rfl ?_
    | refine ArgF.is (wpT (fs.getD i.toNat default) r2 ((hB (by assumption)).ok i.toNat (by omega)) (hB (by assumption)).rb) ?_
    | refine ArgQ.is (fun hG => wpT (fs.getD i.toNat default) r2 ((hB (by assumption)).ok i.toNat (by omega)) (hB (by assumption)).rb) rfl rfl ?_
    | refine ArgF.is (c_impl_FanPower (fs.getD k.toNat default) (wfI (fs.getD k.toNat default) r2) ((hB (by assumption)).ok k.toNat (hB (by assumption)).lt) (by have := (hB (by assumption)).wb (hB (by assumption)).lt; omega)) ?_
    | refine ArgQ.is (fun hG => c_impl_FanPower (fs.getD k.toNat default) (wfI (fs.getD k.toNat default) r2) ((hB (by assumption)).ok k.toNat (hB (by assumption)).lt) (by have := (hB (by assumption)).wb (hB (by assumption)).lt; omega)) rfl rfl ?_
    | refine ArgF.is (c_impl_FanPower (fs.getD i.toNat default) (wfI (fs.getD i.toNat default) r2) ((hB (by assumption)).ok i.toNat (by omega)) (by have := (hB (by assumption)).wb (j := i.toNat) (by omega); omega)) ?_
    | refine ArgQ.is (fun hG => c_impl_FanPower (fs.getD i.toNat default) (wfI (fs.getD i.toNat default) r2) ((hB (by assumption)).ok i.toNat (by omega)) (by have := (hB (by assumption)).wb (j := i.toNat) (by omega); omega)) rfl rfl ?_
    | refine BndF.mk (fun _ => by have := (hB (by assumption)).kb; simp only [List.length_map]; omega) ?_
    | refine LoopF.at 26 rfl (LoopF.fix [18, 19, 20, 26] (Int) (fun i => 0 ≤ i ∧ i ≤ fs.length) (fun i => [(28, In i)]) (fun i => []) (fun i => ((fs.length - i).toNat)) (0) ?_)
    | (refine LoopB.of (T := Int) ?_ ?_; rotate_left; rintro i ⟨i0, i1⟩; rotate_left)
    | refine GhF.go ?_
    | refine GdS.keep ?_
    | refine EqP.mk _ (gm eY 0 rfl) ?_
    | refine EqP.mk _ (gmb GFan.cells default (by omega)) ?_
    | refine BndF.mk (fun _ => by omega) ?_
    | refine BndF.mk (fun _ => by simp only [List.length_map, List.length_cons, List.length_nil, List.length_append, List.length_set, List.length_replicate, iotaI_len]; omega) ?_
    | refine BndF.mk (fun hG => by simp only [forall_const, eq_self, not_true_eq_false, not_false_eq_true, or_false, false_or, or_self, or_true, true_or, and_true, true_and, and_false, false_and, decide_true, decide_false, Bool.not_true, Bool.not_false, decide_eq_true_eq, decide_eq_false_iff_not, ite_and_p, ite_or_p, Bool.decide_eq_true, Bool.and_eq_true, Bool.or_eq_true, Bool.not_eq_true', Bool.not_eq_false', Bool.and_eq_false_imp, Bool.or_eq_false_iff, bne_iff_ne, beq_iff_eq, bne_eq_false_iff_eq, beq_eq_false_iff_ne, gt_iff_lt, ge_iff_le, Int.not_lt, Int.not_le, ne_eq, Bool.true_eq_false, Bool.false_eq_true, reduceCtorEq, eta_Fan, bytes_nil] at hG; (try simp only [List.length_map]); omega) ?_
    | refine EqI.mk _ (fun _ => wrapI (by omega) (by omega)) ?_
    | refine EqI.mk _ (fun _ => rfl) ?_
    | refine EqN.mk _ (ln eY) ?_
    | refine EqN.mk _ (ln GFan.cells) ?_
    | refine EqN.mk _ (Nat.zero_add _) ?_
    | refine EqN.mk _ (Int.toNat_natCast _) ?_
    | refine EqN.mk _ rfl ?_
    | refine EqL.mk _ (tk eY (by first | rfl | assumption | omega | (simp only [List.length_map, List.length_cons, List.length_nil, List.length_append, List.length_set, List.length_replicate, iotaI_len]; done) | (simp only [List.length_map, List.length_cons, List.length_nil, List.length_append, List.length_set, List.length_replicate, iotaI_len]; omega))) ?_
    | refine EqL.mk _ (st eY) ?_
    | refine EqL.mk _ (tk GFan.cells (by first | rfl | assumption | omega | (simp only [List.length_map, List.length_cons, List.length_nil, List.length_append, List.length_set, List.length_replicate, iotaI_len]; done) | (simp only [List.length_map, List.length_cons, List.length_nil, List.length_append, List.length_set, List.length_replicate, iotaI_len]; omega))) ?_
    | refine EqL.mk _ (st GFan.cells) ?_
    | refine EqL.mk [] rfl ?_
    | refine EqL.mk [_] rfl ?_
    | refine EqL.mk _ rfl ?_
    | refine ArgF.is (c_laws_b10Long ..) ?_
    | refine ArgQ.is (fun hG => c_laws_b10Long ..) rfl rfl ?_
    | refine ArgF.is (c_spec_DrawWorkingPoint _ (by first | assumption | omega)) ?_
    | refine ArgQ.is (fun hG => c_spec_DrawWorkingPoint _ (by first | assumption | omega)) rfl rfl ?_
    | refine ArgQ.is (fun hG => c_spec_DrawWorkingPoint _ (by simp only [forall_const, eq_self, not_true_eq_false, not_false_eq_true, or_false, false_or, or_self, or_true, true_or, and_true, true_and, and_false, false_and, decide_true, decide_false, Bool.not_true, Bool.not_false, decide_eq_true_eq, decide_eq_false_iff_not, ite_and_p, ite_or_p, Bool.decide_eq_true, Bool.and_eq_true, Bool.or_eq_true, Bool.not_eq_true', Bool.not_eq_false', Bool.and_eq_false_imp, Bool.or_eq_false_iff, bne_iff_ne, beq_iff_eq, bne_eq_false_iff_eq, beq_eq_false_iff_ne, gt_iff_lt, ge_iff_le, Int.not_lt, Int.not_le, ne_eq, Bool.true_eq_false, Bool.false_eq_true, reduceCtorEq, eta_Fan, bytes_nil] at hG; omega)) rfl rfl ?_
    | refine ArgF.is (c_impl_WorkingPoint ⟨_, _, _⟩ _) ?_
    | refine ArgQ.is (fun hG => c_impl_WorkingPoint ⟨_, _, _⟩ _) rfl rfl ?_
    | refine ArgF.is (c_spec_PressureAt ..) ?_
    | refine ArgQ.is (fun hG => c_spec_PressureAt ..) rfl rfl ?_
    | refine ArgF.is (c_spec_DropOf ..) ?_
    | refine ArgQ.is (fun hG => c_spec_DropOf ..) rfl rfl ?_
    | refine ArgF.is (c_spec_DrawBestFan _ (by first | assumption | omega)) ?_
    | refine ArgQ.is (fun hG => c_spec_DrawBestFan _ (by first | assumption | omega)) rfl rfl ?_
    | refine ArgQ.is (fun hG => c_spec_DrawBestFan _ (by simp only [forall_const, eq_self, not_true_eq_false, not_false_eq_true, or_false, false_or, or_self, or_true, true_or, and_true, true_and, and_false, false_and, decide_true, decide_false, Bool.not_true, Bool.not_false, decide_eq_true_eq, decide_eq_false_iff_not, ite_and_p, ite_or_p, Bool.decide_eq_true, Bool.and_eq_true, Bool.or_eq_true, Bool.not_eq_true', Bool.not_eq_false', Bool.and_eq_false_imp, Bool.or_eq_false_iff, bne_iff_ne, beq_iff_eq, bne_eq_false_iff_eq, beq_eq_false_iff_ne, gt_iff_lt, ge_iff_le, Int.not_lt, Int.not_le, ne_eq, Bool.true_eq_false, Bool.false_eq_true, reduceCtorEq, eta_Fan, bytes_nil] at hG; omega)) rfl rfl ?_
    | refine ArgF.is (c_impl_BestFan ..) ?_
    | refine ArgQ.is (fun hG => c_impl_BestFan ..) rfl rfl ?_
    | refine ArgF.is (c_impl_FanPower ⟨_, _, _⟩ _ (by first | assumption | omega) (by first | assumption | omega)) ?_
    | refine ArgQ.is (fun hG => c_impl_FanPower ⟨_, _, _⟩ _ (by first | assumption | omega) (by first | assumption | omega)) rfl rfl ?_
    | refine ArgQ.is (fun hG => c_impl_FanPower ⟨_, _, _⟩ _ (by simp only [forall_const, eq_self, not_true_eq_false, not_false_eq_true, or_false, false_or, or_self, or_true, true_or, and_true, true_and, and_false, false_and, decide_true, decide_false, Bool.not_true, Bool.not_false, decide_eq_true_eq, decide_eq_false_iff_not, ite_and_p, ite_or_p, Bool.decide_eq_true, Bool.and_eq_true, Bool.or_eq_true, Bool.not_eq_true', Bool.not_eq_false', Bool.and_eq_false_imp, Bool.or_eq_false_iff, bne_iff_ne, beq_iff_eq, bne_eq_false_iff_eq, beq_eq_false_iff_ne, gt_iff_lt, ge_iff_le, Int.not_lt, Int.not_le, ne_eq, Bool.true_eq_false, Bool.false_eq_true, reduceCtorEq, eta_Fan, bytes_nil] at hG; omega) (by simp only [forall_const, eq_self, not_true_eq_false, not_false_eq_true, or_false, false_or, or_self, or_true, true_or, and_true, true_and, and_false, false_and, decide_true, decide_false, Bool.not_true, Bool.not_false, decide_eq_true_eq, decide_eq_false_iff_not, ite_and_p, ite_or_p, Bool.decide_eq_true, Bool.and_eq_true, Bool.or_eq_true, Bool.not_eq_true', Bool.not_eq_false', Bool.and_eq_false_imp, Bool.or_eq_false_iff, bne_iff_ne, beq_iff_eq, bne_eq_false_iff_eq, beq_eq_false_iff_ne, gt_iff_lt, ge_iff_le, Int.not_lt, Int.not_le, ne_eq, Bool.true_eq_false, Bool.false_eq_true, reduceCtorEq, eta_Fan, bytes_nil] at hG; omega)) rfl rfl ?_
    | refine CallF.mk (CallW.is [] true rfl ?_)
    | refine CallG.mk ?_
    | (refine CondF.mk (fun hb => ?_) (fun hb => ?_) <;> try simp only [forall_const, eq_self, not_true_eq_false, not_false_eq_true, or_false, false_or, or_self, or_true, true_or, and_true, true_and, and_false, false_and, decide_true, decide_false, Bool.not_true, Bool.not_false, decide_eq_true_eq, decide_eq_false_iff_not, ite_and_p, ite_or_p, Bool.decide_eq_true, Bool.and_eq_true, Bool.or_eq_true, Bool.not_eq_true', Bool.not_eq_false', Bool.and_eq_false_imp, Bool.or_eq_false_iff, bne_iff_ne, beq_iff_eq, bne_eq_false_iff_eq, beq_eq_false_iff_ne, gt_iff_lt, ge_iff_le, Int.not_lt, Int.not_le, ne_eq, Bool.true_eq_false, Bool.false_eq_true, reduceCtorEq, eta_Fan] at hb)
    | apply BackF.auto
    | refine BackB.mk ?_ ?_
    | refine RetF.auto (And.intro rfl ?_)
    | exact Is.mk rfl rfl
    | refine Is.mk ?_ rfl
    | refine Is.mk rfl ?_
    | refine Is.mk ?_ ?_
  all_goals try dsimp only
  all_goals first
    | omega
    | exact ⟨by omega, by omega⟩
    | (rw [hk (by assumption)]; rfl)
    | assumption
    | rfl
    | (exfalso
       have q := (hB (by assumption)).be i.toNat (by omega) hb.1
       have q2 := hb.2
       omega)
    | skip
end Go.Proofs.Ytdhkpmaanegjkaa
