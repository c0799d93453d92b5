/- Contracts of functions of the program, and what they compute. Conditions: those that each theorem states. -/
import Derived.Test.YtdhkpmaanegjkaaGreatProg
import Derived.Test.YtdhkpmaanegjkaaGreatL1
import Derived.Test.YtdhkpmaanegjkaaGreatG1
import Derived.Test.YtdhkpmaanegjkaaGreatH0
set_option linter.unusedVariables false
set_option linter.unusedSimpArgs false
namespace Go.Proofs.YtdhkpmaanegjkaaGreat
open Go.Av
attribute [local irreducible] Go.IntKind.wrap leastI rdZ rd rootI
set_option maxRecDepth 20000
set_option maxHeartbeats 16000000
structure okCur (c : List (List Int)) : Prop where
  ln : 2 ≤ c.length ∧ c.length ≤ 8
  pt : ∀ k : Nat, k < c.length → (c.getD k []).length = 2 ∧ (0 ≤ (c.getD k []).getD 0 0 ∧ (c.getD k []).getD 0 0 ≤ 100000) ∧ (0 ≤ (c.getD k []).getD 1 0 ∧ (c.getD k []).getD 1 0 ≤ 10000)
  so : ∀ k : Nat, 0 < k → k < c.length → (c.getD (k - 1) []).getD 0 0 < (c.getD k []).getD 0 0 ∧ (c.getD k []).getD 1 0 ≤ (c.getD (k - 1) []).getD 1 0
structure okFan (f : GFan) : Prop where
  nm : isName f.id = true
  aw : 0 ≤ f.airway ∧ f.airway ≤ 23
  cu : okCur f.curve
def blZ (a v b w t : Int) : Int := if t ≤ a ∨ b ≤ a then v else if b ≤ t then w else v + rdZ ((w - v) * (t - a)) (b - a)
theorem blZ_b {a v b w t : Int} (h : w ≤ v) : w ≤ blZ a v b w t ∧ blZ a v b w t ≤ v := by
  unfold blZ
  split
  · omega
  · split
    · omega
    · have h1 : (w - v) * (b - a) ≤ (w - v) * (t - a) := by
        have := Int.mul_le_mul_of_nonneg_left (show t - a ≤ b - a by omega) (show 0 ≤ v - w by omega)
        rw [show w - v = -(v - w) by omega, Int.neg_mul, Int.neg_mul]; omega
      have h2 : (w - v) * (t - a) ≤ 0 := by
        have := Int.mul_nonneg (a := v - w) (b := t - a) (by omega) (by omega)
        rw [show w - v = -(v - w) by omega, Int.neg_mul]; omega
      have h3 := rdZ_lo (a := w - v) (x := (w - v) * (t - a)) (y := b - a) (by omega) h1
      have h4 := rdZ_hi (b := 0) (x := (w - v) * (t - a)) (y := b - a) (by omega) (by omega)
      omega
--@fn impl.blend
theorem blendT (a v b w t : Int) (h : 0 ≤ w ∧ w ≤ v ∧ v ≤ 10000) (ha : 0 ≤ a ∧ a ≤ 100000) (hb : 0 ≤ b ∧ b ≤ 100000) (ht : -100000 ≤ t ∧ t ≤ 100000) : FnSem Tryz.prog 96 [In a, In v, In b, In w, In t] [] (Is [In (blZ a v b w t)] []) := by
  have hz := blZ_b (a := a) (v := v) (b := b) (w := w) (t := t) h.2.1
  have hm : ¬(t ≤ a ∨ b ≤ a) → ¬b ≤ t → -1000000000 ≤ (w - v) * (t - a) ∧ (w - v) * (t - a) ≤ 1000000000 := fun h1 h2 => by
    have := mulB (a := w - v) (b := t - a) (A := 10000) (B := 100000) (by omega) (by omega)
    omega
  have hr : ¬(t ≤ a ∨ b ≤ a) → ¬b ≤ t → v + rdZ ((w - v) * (t - a)) (b - a) = blZ a v b w t := fun h1 h2 => by unfold blZ; rw [if_neg h1, if_neg h2]
  refine FnSem.walk (zs := zeroPV Tryz.prog) (by kernel_rfl) Tryz.func96 rfl Tryz.results96 (by kernel_rfl) (by kernel_rfl) (by kernel_rfl) fun hw hh => ?_
  obtain ⟨w0, w1, w2, w3, w4, _⟩ := hw
  first | replace w0 := wf_I w0 | skip
  first | replace w1 := wf_I w1 | skip
  first | replace w2 := wf_I w2 | skip
  first | replace w3 := wf_I w3 | skip
  first | replace w4 := wf_I w4 | skip
  repeat' first
    | refine And.intro rfl ?_
    | refine GdF.mk (fun h => h) ?_
    | refine And.intro (Nat.succ_ne_zero _) ?_
    | refine And.intro (Nat.le_of_ble_eq_true rfl) ?_
    | refine SeqF.run ?_
    | refine ArgF.is (divRoundZ ((w - v) * (t - a)) (b - a) (by have := hm (by omega) (by omega); omega) (by omega) (by omega)) ?_
    | refine ArgQ.is (fun hG => divRoundZ ((w - v) * (t - a)) (b - a) (by have := hm (by omega) (by omega); omega) (by omega) (by omega)) rfl rfl ?_
    | refine EqI.mk _ (fun _ => by have q := hm (by omega) (by omega); exact wrapI (by omega) (by omega)) ?_
    | refine EqI.mk _ (fun _ => by have q := hr (by omega) (by omega); exact wrapI (by omega) (by omega)) ?_
    | refine GhF.go ?_
    | refine GdS.keep ?_
    | refine BndF.mk (fun _ => by omega) ?_
    | refine BndF.mk (fun _ => by simp only [lnS]; omega) ?_
    | refine BndF.mk (fun hG => by simp only [forall_const, eq_self, not_true_eq_false, not_false_eq_true, or_false, false_or, or_self, or_true, true_or, and_true, true_and, and_false, false_and, decide_true, decide_false, Bool.not_true, Bool.not_false, decide_eq_true_eq, decide_eq_false_iff_not, ite_and_p, ite_or_p, Bool.decide_eq_true, Bool.and_eq_true, Bool.or_eq_true, Bool.not_eq_true', Bool.not_eq_false', Bool.and_eq_false_imp, Bool.or_eq_false_iff, bne_iff_ne, beq_iff_eq, bne_eq_false_iff_eq, beq_eq_false_iff_ne, gt_iff_lt, ge_iff_le, Int.not_lt, Int.not_le, ne_eq, Bool.true_eq_false, Bool.false_eq_true, reduceCtorEq, eta_Airway, eta_Fan, eta_Mine, bytes_nil] at hG; (try simp only [List.length_map]); omega) ?_
    | refine EqI.mk _ (fun _ => wrapI (by omega) (by omega)) ?_
    | refine EqI.mk _ (fun _ => rfl) ?_
    | refine EqL.mk [] rfl ?_
    | refine EqL.mk [_] rfl ?_
    | refine EqL.mk _ rfl ?_
    | refine ArgF.is (c_impl_divRound _ _ (by first | assumption | omega) (by first | assumption | omega) (by first | assumption | omega) (by first | assumption | omega)) ?_
    | refine ArgQ.is (fun hG => c_impl_divRound _ _ (by first | assumption | omega) (by first | assumption | omega) (by first | assumption | omega) (by first | assumption | omega)) rfl rfl ?_
    | refine ArgQ.is (fun hG => c_impl_divRound _ _ (by simp only [forall_const, eq_self, not_true_eq_false, not_false_eq_true, or_false, false_or, or_self, or_true, true_or, and_true, true_and, and_false, false_and, decide_true, decide_false, Bool.not_true, Bool.not_false, decide_eq_true_eq, decide_eq_false_iff_not, ite_and_p, ite_or_p, Bool.decide_eq_true, Bool.and_eq_true, Bool.or_eq_true, Bool.not_eq_true', Bool.not_eq_false', Bool.and_eq_false_imp, Bool.or_eq_false_iff, bne_iff_ne, beq_iff_eq, bne_eq_false_iff_eq, beq_eq_false_iff_ne, gt_iff_lt, ge_iff_le, Int.not_lt, Int.not_le, ne_eq, Bool.true_eq_false, Bool.false_eq_true, reduceCtorEq, eta_Airway, eta_Fan, eta_Mine, bytes_nil] at hG; omega) (by simp only [forall_const, eq_self, not_true_eq_false, not_false_eq_true, or_false, false_or, or_self, or_true, true_or, and_true, true_and, and_false, false_and, decide_true, decide_false, Bool.not_true, Bool.not_false, decide_eq_true_eq, decide_eq_false_iff_not, ite_and_p, ite_or_p, Bool.decide_eq_true, Bool.and_eq_true, Bool.or_eq_true, Bool.not_eq_true', Bool.not_eq_false', Bool.and_eq_false_imp, Bool.or_eq_false_iff, bne_iff_ne, beq_iff_eq, bne_eq_false_iff_eq, beq_eq_false_iff_ne, gt_iff_lt, ge_iff_le, Int.not_lt, Int.not_le, ne_eq, Bool.true_eq_false, Bool.false_eq_true, reduceCtorEq, eta_Airway, eta_Fan, eta_Mine, bytes_nil] at hG; omega) (by simp only [forall_const, eq_self, not_true_eq_false, not_false_eq_true, or_false, false_or, or_self, or_true, true_or, and_true, true_and, and_false, false_and, decide_true, decide_false, Bool.not_true, Bool.not_false, decide_eq_true_eq, decide_eq_false_iff_not, ite_and_p, ite_or_p, Bool.decide_eq_true, Bool.and_eq_true, Bool.or_eq_true, Bool.not_eq_true', Bool.not_eq_false', Bool.and_eq_false_imp, Bool.or_eq_false_iff, bne_iff_ne, beq_iff_eq, bne_eq_false_iff_eq, beq_eq_false_iff_ne, gt_iff_lt, ge_iff_le, Int.not_lt, Int.not_le, ne_eq, Bool.true_eq_false, Bool.false_eq_true, reduceCtorEq, eta_Airway, eta_Fan, eta_Mine, bytes_nil] at hG; omega) (by simp only [forall_const, eq_self, not_true_eq_false, not_false_eq_true, or_false, false_or, or_self, or_true, true_or, and_true, true_and, and_false, false_and, decide_true, decide_false, Bool.not_true, Bool.not_false, decide_eq_true_eq, decide_eq_false_iff_not, ite_and_p, ite_or_p, Bool.decide_eq_true, Bool.and_eq_true, Bool.or_eq_true, Bool.not_eq_true', Bool.not_eq_false', Bool.and_eq_false_imp, Bool.or_eq_false_iff, bne_iff_ne, beq_iff_eq, bne_eq_false_iff_eq, beq_eq_false_iff_ne, gt_iff_lt, ge_iff_le, Int.not_lt, Int.not_le, ne_eq, Bool.true_eq_false, Bool.false_eq_true, reduceCtorEq, eta_Airway, eta_Fan, eta_Mine, bytes_nil] at hG; omega)) rfl rfl ?_
    | refine CallF.mk (CallW.is [] true rfl ?_)
    | refine CallG.mk ?_
    | (refine CondF.mk (fun hb => ?_) (fun hb => ?_) <;> try simp only [forall_const, eq_self, not_true_eq_false, not_false_eq_true, or_false, false_or, or_self, or_true, true_or, and_true, true_and, and_false, false_and, decide_true, decide_false, Bool.not_true, Bool.not_false, decide_eq_true_eq, decide_eq_false_iff_not, ite_and_p, ite_or_p, Bool.decide_eq_true, Bool.and_eq_true, Bool.or_eq_true, Bool.not_eq_true', Bool.not_eq_false', Bool.and_eq_false_imp, Bool.or_eq_false_iff, bne_iff_ne, beq_iff_eq, bne_eq_false_iff_eq, beq_eq_false_iff_ne, gt_iff_lt, ge_iff_le, Int.not_lt, Int.not_le, ne_eq, Bool.true_eq_false, Bool.false_eq_true, reduceCtorEq, eta_Airway, eta_Fan, eta_Mine] at hb)
    | refine RetF.auto (And.intro rfl ?_)
    | exact Is.mk rfl rfl
    | refine Is.mk ?_ rfl
    | refine Is.mk rfl ?_
    | refine Is.mk ?_ ?_
  all_goals try dsimp only
  all_goals try simp only [Bo, I, OB.row.injEq, AV.osl.injEq, eI_same,  List.cons.injEq, AV.p.injEq, PV.c.injEq, Value.int.injEq, Value.bool.injEq, and_true, true_and, ite_and_p, ite_or_p, Bool.decide_eq_true, eta_Airway, eta_Fan, eta_Mine]
  all_goals try dsimp only
  all_goals first
    | (unfold blZ; rw [if_pos (by omega)])
    | (unfold blZ; rw [if_neg (by omega), if_pos (by omega)])
    | (unfold blZ; rw [if_neg (by omega), if_neg (by omega)])
    | skip
def prP (c : List (List Int)) (q : Int) (k : Int) : Bool := decide ((c.length : Int) - 1 ≤ k ∨ q ≤ (c.getD k.toNat []).getD 0 0)
def prK (c : List (List Int)) (q : Int) : Nat := (leastI (prP c q) 1 (c.length - 1)).toNat
def prI (f : GFan) (q : Int) : Int := blZ ((f.curve.getD (prK f.curve q - 1) []).getD 0 0) ((f.curve.getD (prK f.curve q - 1) []).getD 1 0) ((f.curve.getD (prK f.curve q) []).getD 0 0) ((f.curve.getD (prK f.curve q) []).getD 1 0) q
theorem prK_r {c : List (List Int)} (h : okCur c) (q : Int) : 1 ≤ prK c q ∧ prK c q < c.length := by
  have hl := h.ln
  have h1 := leastI_r (p := prP c q) (lo := 1) (hi := c.length - 1) (by omega)
  have h2 : leastI (prP c q) 1 (c.length - 1) ≤ c.length - 1 := by
    apply Int.not_lt.1
    intro hlt
    have := leastI_none (p := prP c q) (lo := 1) (hi := c.length - 1) (by omega) (c.length - 1) (by omega) (by omega)
    have := of_decide_eq_false this
    omega
  unfold prK
  omega
theorem prI_b {f : GFan} (h : okFan f) (q : Int) : 0 ≤ prI f q ∧ prI f q ≤ 10000 := by
  have hk := prK_r h.cu q
  have h1 := h.cu.pt (prK f.curve q) hk.2
  have h2 := h.cu.pt (prK f.curve q - 1) (by omega)
  have h3 := h.cu.so (prK f.curve q) (by omega) hk.2
  have := blZ_b (a := (f.curve.getD (prK f.curve q - 1) []).getD 0 0) (b := (f.curve.getD (prK f.curve q) []).getD 0 0) (t := q) h3.2
  unfold prI
  omega
theorem prK_at {c : List (List Int)} {q k : Int} (h : okCur c) (h0 : 1 ≤ k) (h1 : k < c.length) (h2 : ¬(k < c.length - 1 ∧ (c.getD k.toNat []).getD 0 0 < q)) (h3 : ∀ m : Int, 1 ≤ m → m < k → m < c.length - 1 ∧ (c.getD m.toNat []).getD 0 0 < q) : prK c q = k.toNat := by
  unfold prK
  rw [leastI_at (p := prP c q) (lo := 1) (hi := (c.length : Int) - 1) (n := k) h0 (by omega) (decide_eq_true (by omega)) (fun m a b => decide_eq_false (by have := h3 m a b; omega))]
theorem c_impl_Fan_pressure (f : GFan) (q : Int) (h : okFan f) (hq : -100000 ≤ q ∧ q ≤ 100000) : FnSem Tryz.prog 77 [.p .any (.agg f.cells), In q] [] (Is [In (prI f q)] []) := by
  have hl := h.cu.ln
  have hp := fun k : Int => h.cu.pt k.toNat
  refine FnSem.walk (zs := zeroPV Tryz.prog) (by kernel_rfl) Tryz.func77 rfl Tryz.results77 (by kernel_rfl) (by kernel_rfl) (by kernel_rfl) fun hw hh => ?_
  obtain ⟨w0, w1, _⟩ := hw
  first | replace w0 := wf_Fan w0 | skip
  first | replace w1 := wf_I w1 | skip
  repeat' first
    | refine And.intro rfl ?_
    | refine GdF.mk (fun h => h) ?_
    | refine And.intro (Nat.succ_ne_zero _) ?_
    | refine And.intro (Nat.le_of_ble_eq_true rfl) ?_
    | refine SeqF.run ?_
    | refine LoopF.at 2 rfl (LoopF.fix [1, 2] (Int) (fun k => 1 ≤ k ∧ k < f.curve.length ∧ (∀ m : Int, 1 ≤ m → m < k → m < f.curve.length - 1 ∧ (f.curve.getD m.toNat []).getD 0 0 < q)) (fun k => [(5, In k)]) (fun k => []) (fun k => ((f.curve.length - k).toNat)) (1) ?_)
    | (refine LoopB.of (T := Int) ?_ ?_; rotate_left; rintro k ⟨k0, k1, k2⟩; rotate_left)
    | refine BndF.mk (fun hG => by have q1 := hp k (by omega); have q2 := hp (k - 1) (by omega); first | omega | (simp only [List.length_map]; omega)) ?_
    | refine ArgF.is (blendT _ _ _ _ _ (by have q1 := hp k (by omega); have q2 := hp (k - 1) (by omega); have q3 := h.cu.so k.toNat (by omega) (by omega); rw [show k.toNat - 1 = (k - 1).toNat by omega] at q3; exact ⟨q1.2.2.1, q3.2, q2.2.2.2⟩) (hp (k - 1) (by omega)).2.1 (hp k (by omega)).2.1 hq) ?_
    | refine ArgQ.is (fun hG => blendT _ _ _ _ _ (by have q1 := hp k (by omega); have q2 := hp (k - 1) (by omega); have q3 := h.cu.so k.toNat (by omega) (by omega); rw [show k.toNat - 1 = (k - 1).toNat by omega] at q3; exact ⟨q1.2.2.1, q3.2, q2.2.2.2⟩) (hp (k - 1) (by omega)).2.1 (hp k (by omega)).2.1 hq) rfl rfl ?_
    | refine GhF.go ?_
    | refine GdS.keep ?_
    | refine DrawG.old (DrawF.lex (by decide +kernel) ?_)
    | refine EqP.mk _ (gm eI 0 rfl) ?_
    | refine EqP.mk _ (gmb eLI [] (by omega)) ?_
    | refine BndF.mk (fun _ => by omega) ?_
    | refine BndF.mk (fun _ => by simp only [lnS]; omega) ?_
    | refine BndF.mk (fun hG => by simp only [forall_const, eq_self, not_true_eq_false, not_false_eq_true, or_false, false_or, or_self, or_true, true_or, and_true, true_and, and_false, false_and, decide_true, decide_false, Bool.not_true, Bool.not_false, decide_eq_true_eq, decide_eq_false_iff_not, ite_and_p, ite_or_p, Bool.decide_eq_true, Bool.and_eq_true, Bool.or_eq_true, Bool.not_eq_true', Bool.not_eq_false', Bool.and_eq_false_imp, Bool.or_eq_false_iff, bne_iff_ne, beq_iff_eq, bne_eq_false_iff_eq, beq_eq_false_iff_ne, gt_iff_lt, ge_iff_le, Int.not_lt, Int.not_le, ne_eq, Bool.true_eq_false, Bool.false_eq_true, reduceCtorEq, eta_Airway, eta_Fan, eta_Mine, bytes_nil] at hG; (try simp only [List.length_map]); omega) ?_
    | refine EqI.mk _ (fun _ => wrapI (by omega) (by omega)) ?_
    | refine EqI.mk _ (fun _ => rfl) ?_
    | refine EqN.mk _ (ln eI) ?_
    | refine EqN.mk _ (ln eLI) ?_
    | refine EqN.mk _ (Nat.zero_add _) ?_
    | refine EqN.mk _ (Int.toNat_natCast _) ?_
    | refine EqN.mk _ rfl ?_
    | refine EqL.mk _ (tk eI (by first | rfl | assumption | omega | (simp only [lnS] <;> omega))) ?_
    | refine EqL.mk _ (tk eLI (by first | rfl | assumption | omega | (simp only [lnS] <;> omega))) ?_
    | refine EqL.mk [] rfl ?_
    | refine EqL.mk [_] rfl ?_
    | refine EqL.mk _ rfl ?_
    | refine ArgF.is (c_impl_blend _ _ _ _ _ (by first | assumption | omega) (by first | assumption | omega)) ?_
    | refine ArgQ.is (fun hG => c_impl_blend _ _ _ _ _ (by first | assumption | omega) (by first | assumption | omega)) rfl rfl ?_
    | refine ArgQ.is (fun hG => c_impl_blend _ _ _ _ _ (by simp only [forall_const, eq_self, not_true_eq_false, not_false_eq_true, or_false, false_or, or_self, or_true, true_or, and_true, true_and, and_false, false_and, decide_true, decide_false, Bool.not_true, Bool.not_false, decide_eq_true_eq, decide_eq_false_iff_not, ite_and_p, ite_or_p, Bool.decide_eq_true, Bool.and_eq_true, Bool.or_eq_true, Bool.not_eq_true', Bool.not_eq_false', Bool.and_eq_false_imp, Bool.or_eq_false_iff, bne_iff_ne, beq_iff_eq, bne_eq_false_iff_eq, beq_eq_false_iff_ne, gt_iff_lt, ge_iff_le, Int.not_lt, Int.not_le, ne_eq, Bool.true_eq_false, Bool.false_eq_true, reduceCtorEq, eta_Airway, eta_Fan, eta_Mine, bytes_nil] at hG; omega) (by simp only [forall_const, eq_self, not_true_eq_false, not_false_eq_true, or_false, false_or, or_self, or_true, true_or, and_true, true_and, and_false, false_and, decide_true, decide_false, Bool.not_true, Bool.not_false, decide_eq_true_eq, decide_eq_false_iff_not, ite_and_p, ite_or_p, Bool.decide_eq_true, Bool.and_eq_true, Bool.or_eq_true, Bool.not_eq_true', Bool.not_eq_false', Bool.and_eq_false_imp, Bool.or_eq_false_iff, bne_iff_ne, beq_iff_eq, bne_eq_false_iff_eq, beq_eq_false_iff_ne, gt_iff_lt, ge_iff_le, Int.not_lt, Int.not_le, ne_eq, Bool.true_eq_false, Bool.false_eq_true, reduceCtorEq, eta_Airway, eta_Fan, eta_Mine, bytes_nil] at hG; omega)) rfl rfl ?_
    | refine CallF.mk (CallW.is [] true rfl ?_)
    | refine CallG.mk ?_
    | (refine CondF.mk (fun hb => ?_) (fun hb => ?_) <;> try simp only [forall_const, eq_self, not_true_eq_false, not_false_eq_true, or_false, false_or, or_self, or_true, true_or, and_true, true_and, and_false, false_and, decide_true, decide_false, Bool.not_true, Bool.not_false, decide_eq_true_eq, decide_eq_false_iff_not, ite_and_p, ite_or_p, Bool.decide_eq_true, Bool.and_eq_true, Bool.or_eq_true, Bool.not_eq_true', Bool.not_eq_false', Bool.and_eq_false_imp, Bool.or_eq_false_iff, bne_iff_ne, beq_iff_eq, bne_eq_false_iff_eq, beq_eq_false_iff_ne, gt_iff_lt, ge_iff_le, Int.not_lt, Int.not_le, ne_eq, Bool.true_eq_false, Bool.false_eq_true, reduceCtorEq, eta_Airway, eta_Fan, eta_Mine] at hb)
    | apply BackF.auto
    | refine BackB.mk ?_ ?_
    | refine RetF.auto (And.intro rfl ?_)
    | exact Is.mk rfl rfl
    | refine Is.mk ?_ rfl
    | refine Is.mk rfl ?_
    | refine Is.mk ?_ ?_
  all_goals try dsimp only
  all_goals try simp only [Bo, I, OB.row.injEq, AV.osl.injEq, eI_same,  List.cons.injEq, AV.p.injEq, PV.c.injEq, Value.int.injEq, Value.bool.injEq, and_true, true_and, ite_and_p, ite_or_p, Bool.decide_eq_true, eta_Airway, eta_Fan, eta_Mine]
  all_goals try dsimp only
  all_goals first
    | omega
    | exact ⟨by omega, by omega, fun m a b => absurd b (by omega)⟩
    | (refine ⟨by omega, by omega, fun m a b => ?_⟩
       by_cases e : m < k
       · exact k2 m a e
       · rw [show m = k by omega]; exact hb)
    | (have e9 := prK_at h.cu k0 k1 (fun e => by have h9 : q ≤ (f.curve.getD k.toNat []).getD 0 0 := hb e.1; omega) k2
       unfold prI
       rw [e9, show k.toNat - 1 = (k - 1).toNat by omega]; rfl)
    | skip
--@fn impl.within
--@fn impl.ValidFan
end Go.Proofs.YtdhkpmaanegjkaaGreat
/- Contracts of functions of the program, and what they compute. Conditions: those that each theorem states. -/
set_option linter.unusedVariables false
set_option linter.unusedSimpArgs false
namespace Go.Proofs.YtdhkpmaanegjkaaGreat
open Go.Av
attribute [local irreducible] Go.IntKind.wrap leastI rdZ rd rootI prI
set_option maxRecDepth 20000
set_option maxHeartbeats 16000000
noncomputable def okFanB (f : GFan) : Bool := @decide (okFan f) (Classical.propDecidable _)
theorem okFanB_t {f : GFan} (h : okFan f) : okFanB f = true := @decide_eq_true _ (Classical.propDecidable _) h
theorem okFanB_f {f : GFan} (h : ¬okFan f) : okFanB f = false := @decide_eq_false _ (Classical.propDecidable _) h
theorem okFanB_p {f : GFan} (h : okFanB f = true) : okFan f := @of_decide_eq_true _ (Classical.propDecidable _) h
--@fn impl.ValidFan
theorem vFanX (f : GFan) : FnSem Tryz.prog 43 [.p .any (.agg f.cells)] [] (Is [Bo (okFanB f)] []) := by
  refine FnSem.walk (zs := zeroPV Tryz.prog) (by kernel_rfl) Tryz.func43 rfl Tryz.results43 (by kernel_rfl) (by kernel_rfl) (by kernel_rfl) fun hw hh => ?_
  obtain ⟨w0, _⟩ := hw
  first | replace w0 := wf_Fan w0 | skip
  repeat' first
    | refine And.intro rfl ?_
    | refine GdF.mk (fun h => h) ?_
    | refine And.intro (Nat.succ_ne_zero _) ?_
    | refine And.intro (Nat.le_of_ble_eq_true rfl) ?_
    | refine SeqF.run ?_
    | refine LoopF.at 4 rfl (LoopF.fix [1, 28, 29] (Int) (fun k => 0 ≤ k ∧ k ≤ f.curve.length ∧ (isName f.id = true ∧ inR f.airway 0 23 = true ∧ 2 ≤ f.curve.length ∧ f.curve.length ≤ 8) ∧ (∀ j : Nat, (j : Int) < k → (f.curve.getD j []).length = 2 ∧ (0 ≤ (f.curve.getD j []).getD 0 0 ∧ (f.curve.getD j []).getD 0 0 ≤ 100000) ∧ (0 ≤ (f.curve.getD j []).getD 1 0 ∧ (f.curve.getD j []).getD 1 0 ≤ 10000)) ∧ (∀ j : Nat, 0 < j → (j : Int) < k → (f.curve.getD (j - 1) []).getD 0 0 < (f.curve.getD j []).getD 0 0 ∧ (f.curve.getD j []).getD 1 0 ≤ (f.curve.getD (j - 1) []).getD 1 0)) (fun k => [(30, In k)]) (fun k => []) (fun k => ((f.curve.length - k).toNat)) (0) ?_)
    | (refine LoopB.of (T := Int) ?_ ?_; rotate_left; rintro k ⟨k0, k1, k2, k3, k4⟩; rotate_left)
    | refine BndF.mk (fun hG => by simp only [Bool.and_eq_true, Bool.not_eq_true', bne_eq_false_iff_eq, decide_eq_true_eq] at hG; first | omega | (simp only [List.length_map]; omega)) ?_
    | refine BndF.mk (fun hG => by simp only [Bool.and_eq_true, decide_eq_true_eq] at hG; have q := k3 (k - 1).toNat (by omega); first | omega | (simp only [List.length_map]; omega)) ?_
    | refine GhF.go ?_
    | refine GdS.keep ?_
    | refine DrawG.old (DrawF.lex (by decide +kernel) ?_)
    | refine EqP.mk _ (gm eI 0 rfl) ?_
    | refine EqP.mk _ (gmb eLI [] (by omega)) ?_
    | refine BndF.mk (fun _ => by omega) ?_
    | refine BndF.mk (fun _ => by simp only [lnS]; omega) ?_
    | refine BndF.mk (fun hG => by simp only [forall_const, eq_self, not_true_eq_false, not_false_eq_true, or_false, false_or, or_self, or_true, true_or, and_true, true_and, and_false, false_and, decide_true, decide_false, Bool.not_true, Bool.not_false, decide_eq_true_eq, decide_eq_false_iff_not, ite_and_p, ite_or_p, Bool.decide_eq_true, Bool.and_eq_true, Bool.or_eq_true, Bool.not_eq_true', Bool.not_eq_false', Bool.and_eq_false_imp, Bool.or_eq_false_iff, bne_iff_ne, beq_iff_eq, bne_eq_false_iff_eq, beq_eq_false_iff_ne, gt_iff_lt, ge_iff_le, Int.not_lt, Int.not_le, ne_eq, Bool.true_eq_false, Bool.false_eq_true, reduceCtorEq, eta_Airway, eta_Fan, eta_Mine, bytes_nil] at hG; (try simp only [List.length_map]); omega) ?_
    | refine EqI.mk _ (fun _ => wrapI (by omega) (by omega)) ?_
    | refine EqI.mk _ (fun _ => rfl) ?_
    | refine EqN.mk _ (ln eI) ?_
    | refine EqN.mk _ (ln eLI) ?_
    | refine EqN.mk _ (Nat.zero_add _) ?_
    | refine EqN.mk _ (Int.toNat_natCast _) ?_
    | refine EqN.mk _ rfl ?_
    | refine EqL.mk _ (tk eI (by first | rfl | assumption | omega | (simp only [lnS] <;> omega))) ?_
    | refine EqL.mk _ (tk eLI (by first | rfl | assumption | omega | (simp only [lnS] <;> omega))) ?_
    | refine EqL.mk [] rfl ?_
    | refine EqL.mk [_] rfl ?_
    | refine EqL.mk _ rfl ?_
    | refine ArgF.is (c_impl_IsName ..) ?_
    | refine ArgQ.is (fun hG => c_impl_IsName ..) rfl rfl ?_
    | refine ArgF.is (c_impl_within ..) ?_
    | refine ArgQ.is (fun hG => c_impl_within ..) rfl rfl ?_
    | refine CallF.mk (CallW.is [] true rfl ?_)
    | refine CallG.mk ?_
    | (refine CondF.mk (fun hb => ?_) (fun hb => ?_) <;> try simp only [forall_const, eq_self, not_true_eq_false, not_false_eq_true, or_false, false_or, or_self, or_true, true_or, and_true, true_and, and_false, false_and, decide_true, decide_false, Bool.not_true, Bool.not_false, decide_eq_true_eq, decide_eq_false_iff_not, ite_and_p, ite_or_p, Bool.decide_eq_true, Bool.and_eq_true, Bool.or_eq_true, Bool.not_eq_true', Bool.not_eq_false', Bool.and_eq_false_imp, Bool.or_eq_false_iff, bne_iff_ne, beq_iff_eq, bne_eq_false_iff_eq, beq_eq_false_iff_ne, gt_iff_lt, ge_iff_le, Int.not_lt, Int.not_le, ne_eq, Bool.true_eq_false, Bool.false_eq_true, reduceCtorEq, eta_Airway, eta_Fan, eta_Mine] at hb)
    | apply BackF.auto
    | refine BackB.mk ?_ ?_
    | refine RetF.auto (And.intro rfl ?_)
    | exact Is.mk rfl rfl
    | refine Is.mk ?_ rfl
    | refine Is.mk rfl ?_
    | refine Is.mk ?_ ?_
  all_goals try dsimp only
  all_goals try simp only [Bo, I, OB.row.injEq, AV.osl.injEq, eI_same,  List.cons.injEq, AV.p.injEq, PV.c.injEq, Value.int.injEq, Value.bool.injEq, and_true, true_and, ite_and_p, ite_or_p, Bool.decide_eq_true, eta_Airway, eta_Fan, eta_Mine]
  all_goals try dsimp only
  all_goals first
    | omega
    | (refine (okFanB_f fun h => ?_).symm
       have h1 := h.aw
       have h2 := h.cu.ln
       rcases hb with ((hb | hb) | hb) | hb
       · rw [h.nm] at hb; cases hb
       · rw [inR_iff.2 h.aw] at hb; cases hb
       · omega
       · omega)
    | (refine (okFanB_f fun h => ?_).symm
       have q1 := h.cu.pt k.toNat (by omega)
       rcases hb with ((hb | hb) | hb) | ⟨a, b⟩
       · omega
       · have e : inR ((f.curve.getD k.toNat []).getD (Int.toNat 0) 0) 0 100000 = true := inR_iff.2 q1.2.1
         rw [e] at hb; cases hb
       · have e : inR ((f.curve.getD k.toNat []).getD (Int.toNat 1) 0) 0 10000 = true := inR_iff.2 q1.2.2
         rw [e] at hb; cases hb
       · have q3 := h.cu.so k.toNat (by omega) (by omega)
         rw [show k.toNat - 1 = (k - 1).toNat by omega] at q3
         rcases b with b | b
         · have b2 : (f.curve.getD k.toNat []).getD 0 0 ≤ (f.curve.getD (k - 1).toNat []).getD 0 0 := b
           omega
         · have b2 : (f.curve.getD (k - 1).toNat []).getD 1 0 < (f.curve.getD k.toNat []).getD 1 0 := b
           omega)
    | (have h1 := hb.1
       simp only [not_or, Bool.not_eq_false] at h1
       exact ⟨by omega, by omega, ⟨h1.1.1, h1.1.2, by omega, by omega⟩, fun j a => absurd a (by omega), fun j a b => absurd b (by omega)⟩)
    | (have h1 := hb.1
       simp only [not_or, Decidable.not_not, Bool.not_eq_false, inR_iff] at h1
       have g1 : (f.curve.getD k.toNat []).length = 2 := by omega
       have g2 : 0 ≤ (f.curve.getD k.toNat []).getD 0 0 ∧ (f.curve.getD k.toNat []).getD 0 0 ≤ 100000 := h1.1.2
       have g3 : 0 ≤ (f.curve.getD k.toNat []).getD 1 0 ∧ (f.curve.getD k.toNat []).getD 1 0 ≤ 10000 := h1.2
       have g4 := hb.2
       refine ⟨by omega, by omega, k2, fun j a => ?_, fun j a b => ?_⟩
       · by_cases e : (j : Int) = k
         · obtain rfl : j = k.toNat := by omega
           exact ⟨g1, g2, g3⟩
         · exact k3 j (by omega)
       · by_cases e : (j : Int) = k
         · obtain rfl : j = k.toNat := by omega
           rw [show k.toNat - 1 = (k - 1).toNat by omega]
           exact g4 (by omega)
         · exact k4 j a (by omega))
    | exact (okFanB_t ⟨k2.1, inR_iff.1 k2.2.1, ⟨k2.2.2, fun j hj => k3 j (by omega), fun j a b => k4 j a (by omega)⟩⟩).symm
    | skip
end Go.Proofs.YtdhkpmaanegjkaaGreat
/- Contracts of functions of the program, and what they compute. Conditions: those that each theorem states. -/
set_option linter.unusedVariables false
set_option linter.unusedSimpArgs false
namespace Go.Proofs.YtdhkpmaanegjkaaGreat
open Go.Av
attribute [local irreducible] Go.IntKind.wrap leastI rdZ rd rootI okMine
set_option maxRecDepth 20000
set_option maxHeartbeats 8000000
section
variable {m : GMine} {ls : List Int}
theorem cnA_refl {u : Int} : cnA m ls u u := ⟨0, rfl⟩
theorem cnA_tr {u x v : Int} (h : cnA m ls u x) (h2 : cnA m ls x v) : cnA m ls u v := by
  obtain ⟨a, ha⟩ := h
  obtain ⟨b, hb⟩ := h2
  exact ⟨a + b, wkA_add a b u x v ha hb⟩
theorem cnA_mono {bs : List Int} (h : ∀ i ∈ ls, i ∈ bs) {u v : Int} (hc : cnA m ls u v) : cnA m bs u v := by
  obtain ⟨n, hn⟩ := hc
  exact ⟨n, wkA_mono h n u v hn⟩
theorem cnA_nil {u v : Int} (h : cnA m [] u v) : u = v := by
  obtain ⟨n, hn⟩ := h
  cases n with
  | zero => exact hn
  | succ n => obtain ⟨x, ⟨k, hk, _⟩, _⟩ := hn; cases hk
theorem cnA_snoc (hm : okMine m = true) {i : Int} (hi : 0 ≤ i ∧ i < m.airways.length) {u v : Int} :
    cnA m (ls ++ [i]) u v ↔ cnA m ls u v ∨ ((cnA m ls u (m.airways.getD i.toNat default).from_ ∨ cnA m ls u (m.airways.getD i.toNat default).to) ∧ (cnA m ls v (m.airways.getD i.toNat default).from_ ∨ cnA m ls v (m.airways.getD i.toNat default).to)) := by
  constructor
  · rintro ⟨n, hn⟩
    induction n generalizing u with
    | zero => left; rw [show u = v from hn]; exact cnA_refl
    | succ n ih =>
      obtain ⟨x, ⟨k, hk, hr, ho⟩, hn⟩ := hn
      have q := ih hn
      rcases List.mem_append.1 hk with hk | hk
      · have c : cnA m ls u x := ⟨1, wkA_one ⟨k, hk, hr, ho⟩⟩
        rcases q with q | ⟨q1, q2⟩
        · exact .inl (cnA_tr c q)
        · exact .inr ⟨q1.imp (cnA_tr c) (cnA_tr c), q2⟩
      · have e : k = i := by simpa using hk
        subst e
        have ab : (cnA m ls u (m.airways.getD k.toNat default).from_ ∨ cnA m ls u (m.airways.getD k.toNat default).to) ∧ (cnA m ls x (m.airways.getD k.toNat default).from_ ∨ cnA m ls x (m.airways.getD k.toNat default).to) := by
          rcases oth_p hm hr ho with ⟨e1, e2⟩ | ⟨e1, e2⟩
          · exact ⟨.inl (by rw [e1]; exact cnA_refl), .inr (by rw [e2]; exact cnA_refl)⟩
          · exact ⟨.inr (by rw [e1]; exact cnA_refl), .inl (by rw [e2]; exact cnA_refl)⟩
        rcases q with q | ⟨q1, q2⟩
        · exact .inr ⟨ab.1, ab.2.imp (cnA_tr (cnA_sym hm q)) (cnA_tr (cnA_sym hm q))⟩
        · exact .inr ⟨ab.1, q2⟩
  · have mo : ∀ {u v : Int}, cnA m ls u v → cnA m (ls ++ [i]) u v := fun h => cnA_mono (fun j hj => List.mem_append_left _ hj) h
    rintro (h | ⟨h1, h2⟩)
    · exact mo h
    · have e : cnA m (ls ++ [i]) (m.airways.getD i.toNat default).from_ (m.airways.getD i.toNat default).to := ⟨1, wkA_one ⟨i, by simp, hi, (oth_f hm hi).1⟩⟩
      have es := cnA_sym hm e
      have p : cnA m (ls ++ [i]) u (m.airways.getD i.toNat default).from_ := h1.elim mo fun h => cnA_tr (mo h) es
      have q : cnA m (ls ++ [i]) v (m.airways.getD i.toNat default).from_ := h2.elim mo fun h => cnA_tr (mo h) es
      exact cnA_tr p (cnA_sym hm q)
end
structure prtI (m : GMine) (ls o : List Int) : Prop where
  ln : (o.length : Int) = m.junctions
  rg : ∀ j : Nat, j < o.length → 0 ≤ o.getD j 0 ∧ o.getD j 0 < m.junctions
  eq : ∀ u v : Int, inV m u → inV m v → (o.getD u.toNat 0 = o.getD v.toNat 0 ↔ cnA m ls u v)
structure rpI (o : List Int) (h l j : Int) (o' : List Int) : Prop where
  ln : o'.length = o.length
  lo : ∀ k : Nat, (k : Int) < j → o'.getD k 0 = if o.getD k 0 = h then l else o.getD k 0
  hi : ∀ k : Nat, j ≤ (k : Int) → o'.getD k 0 = o.getD k 0
section
variable {m : GMine} {ls o o' : List Int} {h l j : Int}
theorem prtI_0 (hj : 0 ≤ m.junctions) : prtI m [] (iotaI 0 m.junctions.toNat) where
  ln := by rw [iotaI_len]; omega
  rg := fun j hj => by rw [iotaI_len] at hj; rw [iotaI_get hj]; omega
  eq := fun u v hu hv => by
    have hu2 : 0 ≤ u ∧ u < m.junctions := hu
    have hv2 : 0 ≤ v ∧ v < m.junctions := hv
    rw [iotaI_get (by omega), iotaI_get (by omega)]
    exact ⟨fun e => by rw [show u = v by omega]; exact cnA_refl, fun e => by rw [cnA_nil e]⟩
theorem rpI_0 : rpI o h l 0 o := ⟨rfl, fun k hk => by omega, fun k _ => rfl⟩
theorem rpI_set (r : rpI o h l j o') (h0 : 0 ≤ j) (hj : j < o'.length) (e : o'.getD j.toNat 0 = h) : rpI o h l (j + 1) (o'.set j.toNat l) where
  ln := by rw [List.length_set]; exact r.ln
  lo := fun k hk => by
    by_cases ek : k = j.toNat
    · subst ek
      rw [List.getD_eq_getElem?_getD, List.getElem?_set_self (by omega), Option.getD_some, if_pos (by rw [← r.hi _ (by omega)]; exact e)]
    · rw [List.getD_eq_getElem?_getD, List.getElem?_set_ne (by omega), ← List.getD_eq_getElem?_getD]
      exact r.lo k (by omega)
  hi := fun k hk => by
    rw [List.getD_eq_getElem?_getD, List.getElem?_set_ne (by omega), ← List.getD_eq_getElem?_getD]
    exact r.hi k (by omega)
theorem rpI_keep (r : rpI o h l j o') (h0 : 0 ≤ j) (e : ¬o'.getD j.toNat 0 = h) : rpI o h l (j + 1) o' where
  ln := r.ln
  lo := fun k hk => by
    by_cases ek : k = j.toNat
    · subst ek
      rw [r.hi _ (by omega)] at e ⊢
      rw [if_neg e]
    · exact r.lo k (by omega)
  hi := fun k hk => r.hi k (by omega)
theorem mm_eq {a b x y : Int} : ((if x = max a b then min a b else x) = (if y = max a b then min a b else y)) ↔ (x = y ∨ ((x = a ∨ x = b) ∧ (y = a ∨ y = b))) := by
  split <;> split <;> omega
theorem prt_add (hm : okMine m = true) {i : Int} (hi : 0 ≤ i ∧ i < m.airways.length) (p : prtI m ls o)
    (r : rpI o (max (o.getD (m.airways.getD i.toNat default).from_.toNat 0) (o.getD (m.airways.getD i.toNat default).to.toNat 0)) (min (o.getD (m.airways.getD i.toNat default).from_.toNat 0) (o.getD (m.airways.getD i.toNat default).to.toNat 0)) j o') (hj : o'.length ≤ j) : prtI m (ls ++ [i]) o' := by
  have q := (okMine_p hm).2.2 i.toNat (by omega)
  have hF : inV m (m.airways.getD i.toNat default).from_ := q.2.1
  have hT : inV m (m.airways.getD i.toNat default).to := q.2.2
  have hF2 : 0 ≤ (m.airways.getD i.toNat default).from_ ∧ (m.airways.getD i.toNat default).from_ < m.junctions := hF
  have hT2 : 0 ≤ (m.airways.getD i.toNat default).to ∧ (m.airways.getD i.toNat default).to < m.junctions := hT
  have hln := p.ln
  have hrn := r.ln
  refine ⟨by omega, fun k hk => ?_, fun u v hu hv => ?_⟩
  · have a := p.rg k (by omega)
    have b := p.rg (m.airways.getD i.toNat default).from_.toNat (by omega)
    have c := p.rg (m.airways.getD i.toNat default).to.toNat (by omega)
    rw [r.lo k (by omega)]
    split <;> omega
  · have hu2 : 0 ≤ u ∧ u < m.junctions := hu
    have hv2 : 0 ≤ v ∧ v < m.junctions := hv
    rw [r.lo _ (by omega), r.lo _ (by omega), mm_eq, cnA_snoc hm hi, ← p.eq u v hu hv, ← p.eq u _ hu hF, ← p.eq u _ hu hT, ← p.eq v _ hv hF, ← p.eq v _ hv hT]
end
theorem take_s {ls : List Int} {i : Int} (h0 : 0 ≤ i) (hi : i < ls.length) : ls.take (i + 1).toNat = ls.take i.toNat ++ [ls.getD i.toNat 0] := by
  rw [show (i + 1).toNat = i.toNat + 1 by omega, List.take_add_one, List.getD_eq_getElem?_getD, List.getElem?_eq_getElem (by omega)]; rfl
noncomputable def treeC (m : GMine) : Nat → List Int
  | 0 => []
  | i + 1 => haveI := Classical.propDecidable (cnA m (treeC m i) (m.airways.getD i default).from_ (m.airways.getD i default).to)
    if cnA m (treeC m i) (m.airways.getD i default).from_ (m.airways.getD i default).to then treeC m i else treeC m i ++ [(i : Int)]
section
variable {m : GMine} {i : Int}
theorem treeC_k (h0 : 0 ≤ i) (h : cnA m (treeC m i.toNat) (m.airways.getD i.toNat default).from_ (m.airways.getD i.toNat default).to) : treeC m (i + 1).toNat = treeC m i.toNat := by
  rw [show (i + 1).toNat = i.toNat + 1 by omega]
  rw [treeC, if_pos h]
theorem treeC_a (h0 : 0 ≤ i) (h : ¬cnA m (treeC m i.toNat) (m.airways.getD i.toNat default).from_ (m.airways.getD i.toNat default).to) : treeC m (i + 1).toNat = treeC m i.toNat ++ [i] := by
  rw [show (i + 1).toNat = i.toNat + 1 by omega]
  rw [treeC, if_neg h, show ((i.toNat : Nat) : Int) = i by omega]
theorem treeC_I : ∀ n : Nat, trI m (treeC m n) n
  | 0 => trI_0
  | n + 1 => by
    have h := treeC_I n
    by_cases c : cnA m (treeC m n) (m.airways.getD n default).from_ (m.airways.getD n default).to
    · have e := treeC_k (m := m) (i := n) (by omega) c
      rw [show ((n : Int) + 1).toNat = n + 1 by omega] at e
      rw [e]; exact trI_keep h (by omega) c
    · have e := treeC_a (m := m) (i := n) (by omega) c
      rw [show ((n : Int) + 1).toNat = n + 1 by omega] at e
      rw [e]; exact trI_add h (by omega)
end
end Go.Proofs.YtdhkpmaanegjkaaGreat
/- Contracts of functions of the program, and what they compute. Conditions: those that each theorem states. -/
set_option linter.unusedVariables false
set_option linter.unusedSimpArgs false
namespace Go.Proofs.YtdhkpmaanegjkaaGreat
open Go.Av
attribute [local irreducible] Go.IntKind.wrap leastI rdZ rd rootI okMine treeC
set_option maxRecDepth 20000
set_option maxHeartbeats 40000000
theorem c_spec_l04Parts (m : GMine) (ls : List Int) (hm : okMine m = true) (hl : ∀ i ∈ ls, 0 ≤ i ∧ i < m.airways.length) (hll : ls.length ≤ 1000) : FnSem Tryz.prog 102 [.p .any (.ref m.cells), Lx (LI ls)] [] (RetV (fun v : Nat × List Int => [.osl 0 0 v.1]) (fun v => [.row false .flat (eI 0) (v.2.map eI)]) (fun v => v.1 = v.2.length ∧ prtI m ls v.2)) := by
  have hmp := okMine_p hm
  refine FnSem.old ?_
  refine FnSem.walk (zs := zeroPV Tryz.prog) (by kernel_rfl) Tryz.func102 rfl Tryz.results102 (by kernel_rfl) (by kernel_rfl) (by kernel_rfl) fun hw hh => ?_
  obtain ⟨w0, w1, _⟩ := hw
  first | replace w0 := wfr_Mine w0 | skip
  first | replace w1 := wf_LI w1 | skip
  repeat' first
    | refine And.intro rfl ?_
    | refine GdF.mk (fun h => h) ?_
    | refine And.intro (Nat.succ_ne_zero _) ?_
    | refine And.intro (Nat.le_of_ble_eq_true rfl) ?_
    | refine SeqF.run ?_
    | refine ArgF.is (c_spec_l00Min (o.getD (m.airways.getD (ls.getD i.toNat 0).toNat default).from_.toNat 0) (o.getD (m.airways.getD (ls.getD i.toNat 0).toNat default).to.toNat 0)) ?_
    | refine ArgQ.is (fun hG => c_spec_l00Min (o.getD (m.airways.getD (ls.getD i.toNat 0).toNat default).from_.toNat 0) (o.getD (m.airways.getD (ls.getD i.toNat 0).toNat default).to.toNat 0)) rfl rfl ?_
    | refine ArgF.is (c_spec_l00Max (o.getD (m.airways.getD (ls.getD i.toNat 0).toNat default).from_.toNat 0) (o.getD (m.airways.getD (ls.getD i.toNat 0).toNat default).to.toNat 0)) ?_
    | refine ArgQ.is (fun hG => c_spec_l00Max (o.getD (m.airways.getD (ls.getD i.toNat 0).toNat default).from_.toNat 0) (o.getD (m.airways.getD (ls.getD i.toNat 0).toNat default).to.toNat 0)) rfl rfl ?_
    | refine LoopF.at 3 rfl (LoopF.fix [0, 1] (Int × Nat × List Int) (fun (j, n, o0) => 0 ≤ j ∧ j ≤ m.junctions ∧ (n : Int) = j ∧ o0 = iotaI 0 n) (fun (j, n, o0) => [(6, In j), (5, .osl 0 0 n)]) (fun (j, n, o0) => [(0, .row true .flat (eI 0) (o0.map eI))]) (fun (j, n, o0) => ((m.junctions - j).toNat)) ((0, 0, [])) ?_)
    | (refine LoopB.of (T := Int × Nat × List Int) ?_ ?_; rotate_left; rintro ⟨j, n, o0⟩ ⟨a0, a1, a2, a3⟩; rotate_left)
    | refine LoopF.at 7 rfl (LoopF.fix [0, 1, 5] (Int × List Int) (fun (i, o) => 0 ≤ i ∧ i ≤ ls.length ∧ prtI m (ls.take i.toNat) o ∧ o.length = n) (fun (i, o) => [(7, In i)]) (fun (i, o) => [(0, .row true .flat (eI 0) (o.map eI))]) (fun (i, o) => ((ls.length - i).toNat)) ((0, o0)) ?_)
    | (refine LoopB.of (T := Int × List Int) ?_ ?_; rotate_left; rintro ⟨i, o⟩ ⟨i0, i1, i2, i3⟩; rotate_left)
    | refine LoopF.at 13 rfl (LoopF.fix [0, 1, 5, 7, 9, 10] (Int × List Int × Unit) (fun (k, o', _) => 0 ≤ k ∧ k ≤ n ∧ rpI o (max (o.getD (m.airways.getD (ls.getD i.toNat 0).toNat default).from_.toNat 0) (o.getD (m.airways.getD (ls.getD i.toNat 0).toNat default).to.toNat 0)) (min (o.getD (m.airways.getD (ls.getD i.toNat 0).toNat default).from_.toNat 0) (o.getD (m.airways.getD (ls.getD i.toNat 0).toNat default).to.toNat 0)) k o') (fun (k, o', _) => [(11, In k)]) (fun (k, o', _) => [(0, .row true .flat (eI 0) (o'.map eI))]) (fun (k, o', _) => ((n - k).toNat)) ((0, o, ())) ?_)
    | (refine LoopB.of (T := Int × List Int × Unit) ?_ ?_; rotate_left; rintro ⟨k, o', _⟩ ⟨k0, k1, k2⟩; rotate_left)
    | refine BndF.mk (fun _ => by have a := lsB hl i0 (by assumption); have b := (hmp.2.2 (ls.getD i.toNat 0).toNat (by omega)).2; have c := i2.ln; first | omega | (simp only [List.length_map]; omega)) ?_
    | refine BndF.mk (fun _ => by rw [a3]; simp only [List.length_map, iotaI_len]; omega) ?_
    | refine BndF.mk (fun _ => by have b := k2.ln; first | omega | (simp only [List.length_map]; omega)) ?_
    | refine EqL.mk _ (snT (take_all (by rw [a3, iotaI_len]))) ?_
    | refine RetV.mk (α := Nat × List Int) (_, _) rfl rfl ?_
    | refine GhF.go ?_
    | refine DrawG.old (DrawF.lex (by decide +kernel) ?_)
    | refine MkF.row ?_
    | refine EqP.mk _ (gm GAirway.cells default rfl) ?_
    | refine EqP.mk _ (gm eI 0 rfl) ?_
    | refine BndF.mk (fun _ => by omega) ?_
    | refine BndF.mk (fun _ => by simp only [lnS]; omega) ?_
    | refine EqI.mk _ (fun _ => wrapI (by omega) (by omega)) ?_
    | refine EqI.mk _ (fun _ => rfl) ?_
    | refine FlF.keep ?_
    | refine EqN.mk _ (ln GAirway.cells) ?_
    | refine EqN.mk _ (ln eI) ?_
    | refine EqN.mk _ (Nat.zero_add _) ?_
    | refine EqN.mk (_ + 1) rfl ?_
    | refine EqN.mk _ (Int.toNat_natCast _) ?_
    | refine EqN.mk _ rfl ?_
    | refine EqL.mk _ (sn0 GAirway.cells) ?_
    | refine EqL.mk _ (sn GAirway.cells (by first | rfl | assumption | omega | (simp only [lnS] <;> omega))) ?_
    | refine EqL.mk _ (ap0 GAirway.cells) ?_
    | refine EqL.mk _ (ap GAirway.cells (by first | rfl | assumption | omega | (simp only [lnS] <;> omega))) ?_
    | refine EqL.mk _ (tk GAirway.cells (by first | rfl | assumption | omega | (simp only [lnS] <;> omega))) ?_
    | refine EqL.mk _ (st GAirway.cells) ?_
    | refine EqL.mk _ (dt GAirway.cells) ?_
    | refine EqL.mk _ (sn0 eI) ?_
    | refine EqL.mk _ (sn eI (by first | rfl | assumption | omega | (simp only [lnS] <;> omega))) ?_
    | refine EqL.mk _ (ap0 eI) ?_
    | refine EqL.mk _ (ap eI (by first | rfl | assumption | omega | (simp only [lnS] <;> omega))) ?_
    | refine EqL.mk _ (tk eI (by first | rfl | assumption | omega | (simp only [lnS] <;> omega))) ?_
    | refine EqL.mk _ (st eI) ?_
    | refine EqL.mk _ (dt eI) ?_
    | refine EqL.mk [] rfl ?_
    | refine EqL.mk [_] rfl ?_
    | refine EqL.mk _ rfl ?_
    | refine ArgF.is (c_spec_l00Min ..) ?_
    | refine ArgQ.is (fun hG => c_spec_l00Min ..) rfl rfl ?_
    | refine ArgF.is (c_spec_l00Max ..) ?_
    | refine ArgQ.is (fun hG => c_spec_l00Max ..) rfl rfl ?_
    | refine CallF.mk (CallW.is [] true rfl ?_)
    | refine CallG.mk ?_
    | (refine CondF.mk (fun hb => ?_) (fun hb => ?_) <;> try simp only [forall_const, eq_self, not_true_eq_false, not_false_eq_true, or_false, false_or, or_self, or_true, true_or, and_true, true_and, and_false, false_and, decide_true, decide_false, Bool.not_true, Bool.not_false, decide_eq_true_eq, decide_eq_false_iff_not, ite_and_p, ite_or_p, Bool.decide_eq_true, Bool.and_eq_true, Bool.or_eq_true, Bool.not_eq_true', Bool.not_eq_false', Bool.and_eq_false_imp, Bool.or_eq_false_iff, bne_iff_ne, beq_iff_eq, bne_eq_false_iff_eq, beq_eq_false_iff_ne, gt_iff_lt, ge_iff_le, Int.not_lt, Int.not_le, ne_eq, Bool.true_eq_false, Bool.false_eq_true, reduceCtorEq, eta_Airway, eta_Fan, eta_Mine] at hb)
    | apply BackF.auto3
    | apply BackF.auto2
    | refine BackB.mk ?_ ?_
    | refine RetF.auto (And.intro rfl ?_)
    | exact Is.mk rfl rfl
    | refine Is.mk ?_ rfl
    | refine Is.mk rfl ?_
    | refine Is.mk ?_ ?_
  all_goals try dsimp only
  all_goals first
    | omega
    | exact ⟨by omega, by omega, rfl, rfl⟩
    | exact ⟨by omega, by omega, by omega, by rw [a3, iotaI_succ]; simp [a2]⟩
    | exact ⟨by omega, by omega, by rw [a3, show n = m.junctions.toNat by omega]; exact prtI_0 (by omega), by rw [a3, iotaI_len]⟩
    | exact ⟨by omega, by omega, rpI_0⟩
    | exact ⟨by omega, by omega, rpI_set k2 k0 (by have := k2.ln; omega) hb⟩
    | exact ⟨by omega, by omega, rpI_keep k2 k0 hb⟩
    | (have a := lsB hl i0 (by assumption)
       have q := prt_add hm a i2 k2 (by have := k2.ln; omega)
       exact ⟨by omega, by omega, by rw [take_s i0 (by assumption)]; exact q, by have := k2.ln; omega⟩)
    | exact ⟨i3.symm, by rw [List.take_of_length_le (by omega)] at i2; exact i2⟩
    | skip
end Go.Proofs.YtdhkpmaanegjkaaGreat
