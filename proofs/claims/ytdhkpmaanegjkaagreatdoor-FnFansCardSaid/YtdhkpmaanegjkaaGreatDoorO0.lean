/- Contracts of functions of the program, and what they compute. Conditions: those that each theorem states. -/
import Derived.Test.YtdhkpmaanegjkaaGreatDoorProg
import Derived.Test.YtdhkpmaanegjkaaGreatDoorJ0
import Derived.Test.YtdhkpmaanegjkaaGreatDoorK15
import Derived.Test.YtdhkpmaanegjkaaGreatDoorH0
set_option linter.unusedVariables false
set_option linter.unusedSimpArgs false
namespace Go.Proofs.YtdhkpmaanegjkaaGreatDoor
open Go.Av
attribute [local irreducible] Go.IntKind.wrap leastI rdZ rd rootI rawA
set_option maxRecDepth 20000
set_option maxHeartbeats 16000000
abbrev ptX (c : List (List Int)) (k : Nat) : Int := (c.getD k []).getD 0 0
abbrev ptY (c : List (List Int)) (k : Nat) : Int := (c.getD k []).getD 1 0
structure okCur (c : List (List Int)) : Prop where
  ln : 2 ≤ c.length ∧ c.length ≤ 8
  pt : ∀ k : Nat, k < c.length → (c.getD k []).length = 2 ∧ (0 ≤ (c.getD k []).getD 0 0 ∧ (c.getD k []).getD 0 0 ≤ 100000) ∧ (0 ≤ (c.getD k []).getD 1 0 ∧ (c.getD k []).getD 1 0 ≤ 10000)
  so : ∀ k : Nat, 0 < k → k < c.length → (c.getD (k - 1) []).getD 0 0 < (c.getD k []).getD 0 0 ∧ (c.getD k []).getD 1 0 ≤ (c.getD (k - 1) []).getD 1 0
structure okFan (f : GFan) : Prop where
  nm : isName f.id = true
  aw : 0 ≤ f.airway ∧ f.airway ≤ 23
  cu : okCur f.curve
def blZ (a v b w t : Int) : Int := if t ≤ a ∨ b ≤ a then v else if b ≤ t then w else v + rdZ ((w - v) * (t - a)) (b - a)
theorem blZ_b {a v b w t : Int} (h : w ≤ v) : w ≤ blZ a v b w t ∧ blZ a v b w t ≤ v := by
  unfold blZ
  split
  · omega
  · split
    · omega
    · have h1 : (w - v) * (b - a) ≤ (w - v) * (t - a) := by
        have := Int.mul_le_mul_of_nonneg_left (show t - a ≤ b - a by omega) (show 0 ≤ v - w by omega)
        rw [show w - v = -(v - w) by omega, Int.neg_mul, Int.neg_mul]; omega
      have h2 : (w - v) * (t - a) ≤ 0 := by
        have := Int.mul_nonneg (a := v - w) (b := t - a) (by omega) (by omega)
        rw [show w - v = -(v - w) by omega, Int.neg_mul]; omega
      have h3 := rdZ_lo (a := w - v) (x := (w - v) * (t - a)) (y := b - a) (by omega) h1
      have h4 := rdZ_hi (b := 0) (x := (w - v) * (t - a)) (y := b - a) (by omega) (by omega)
      omega
--@fn impl.blend
theorem blendT (a v b w t : Int) (h : 0 ≤ w ∧ w ≤ v ∧ v ≤ 10000) (ha : 0 ≤ a ∧ a ≤ 100000) (hb : 0 ≤ b ∧ b ≤ 100000) (ht : -100000 ≤ t ∧ t ≤ 100000) : FnSem Tryz.prog 99 [In a, In v, In b, In w, In t] [] (Is [In (blZ a v b w t)] []) := by
  have hz := blZ_b (a := a) (v := v) (b := b) (w := w) (t := t) h.2.1
  have hm : ¬(t ≤ a ∨ b ≤ a) → ¬b ≤ t → -1000000000 ≤ (w - v) * (t - a) ∧ (w - v) * (t - a) ≤ 1000000000 := fun h1 h2 => by
    have := mulB (a := w - v) (b := t - a) (A := 10000) (B := 100000) (by omega) (by omega)
    omega
  have hr : ¬(t ≤ a ∨ b ≤ a) → ¬b ≤ t → v + rdZ ((w - v) * (t - a)) (b - a) = blZ a v b w t := fun h1 h2 => by unfold blZ; rw [if_neg h1, if_neg h2]
  refine FnSem.walk (zs := zeroPV Tryz.prog) (by kernel_rfl) Tryz.func99 rfl Tryz.results99 (by kernel_rfl) (by kernel_rfl) (by kernel_rfl) fun hw hh => ?_
  obtain ⟨w0, w1, w2, w3, w4, _⟩ := hw
  first | replace w0 := wf_I w0 | skip
  first | replace w1 := wf_I w1 | skip
  first | replace w2 := wf_I w2 | skip
  first | replace w3 := wf_I w3 | skip
  first | replace w4 := wf_I w4 | skip
  repeat' first
    | refine And.intro rfl ?_
    | refine GdF.mk (fun h => h) ?_
    | refine And.intro (Nat.succ_ne_zero _) ?_
    | refine And.intro (Nat.le_of_ble_eq_true rfl) ?_
    | refine SeqF.run ?_
    | refine ArgF.is (divRoundZ ((w - v) * (t - a)) (b - a) (by have := hm (by omega) (by omega); omega) (by omega) (by omega)) ?_
    | refine ArgQ.is (fun hG => divRoundZ ((w - v) * (t - a)) (b - a) (by have := hm (by omega) (by omega); omega) (by omega) (by omega)) rfl rfl ?_
    | refine EqI.mk _ (fun _ => by have q := hm (by omega) (by omega); exact wrapI (by omega) (by omega)) ?_
    | refine EqI.mk _ (fun _ => by have q := hr (by omega) (by omega); exact wrapI (by omega) (by omega)) ?_
    | refine GhF.go ?_
    | refine GdS.keep ?_
    | refine BndF.mk (fun _ => by omega) ?_
    | refine BndF.mk (fun _ => by simp only [lnS]; omega) ?_
    | refine BndF.mk (fun hG => by simp only [forall_const, eq_self, not_true_eq_false, not_false_eq_true, or_false, false_or, or_self, or_true, true_or, and_true, true_and, and_false, false_and, decide_true, decide_false, Bool.not_true, Bool.not_false, decide_eq_true_eq, decide_eq_false_iff_not, ite_and_p, ite_or_p, Bool.decide_eq_true, Bool.and_eq_true, Bool.or_eq_true, Bool.not_eq_true', Bool.not_eq_false', Bool.and_eq_false_imp, Bool.or_eq_false_iff, bne_iff_ne, beq_iff_eq, bne_eq_false_iff_eq, beq_eq_false_iff_ne, gt_iff_lt, ge_iff_le, Int.not_lt, Int.not_le, ne_eq, Bool.true_eq_false, Bool.false_eq_true, reduceCtorEq, eta_Airway, eta_Fan, eta_Mine, bytes_nil] at hG; (try simp only [List.length_map]); omega) ?_
    | refine EqI.mk _ (fun _ => wrapI (by omega) (by omega)) ?_
    | refine EqI.mk _ (fun _ => rfl) ?_
    | refine EqL.mk [] rfl ?_
    | refine EqL.mk [_] rfl ?_
    | refine EqL.mk _ rfl ?_
    | refine ArgF.is (c_impl_divRound _ _ (by first | assumption | omega) (by first | assumption | omega) (by first | assumption | omega) (by first | assumption | omega)) ?_
    | refine ArgQ.is (fun hG => c_impl_divRound _ _ (by first | assumption | omega) (by first | assumption | omega) (by first | assumption | omega) (by first | assumption | omega)) rfl rfl ?_
    | refine ArgQ.is (fun hG => c_impl_divRound _ _ (by simp only [forall_const, eq_self, not_true_eq_false, not_false_eq_true, or_false, false_or, or_self, or_true, true_or, and_true, true_and, and_false, false_and, decide_true, decide_false, Bool.not_true, Bool.not_false, decide_eq_true_eq, decide_eq_false_iff_not, ite_and_p, ite_or_p, Bool.decide_eq_true, Bool.and_eq_true, Bool.or_eq_true, Bool.not_eq_true', Bool.not_eq_false', Bool.and_eq_false_imp, Bool.or_eq_false_iff, bne_iff_ne, beq_iff_eq, bne_eq_false_iff_eq, beq_eq_false_iff_ne, gt_iff_lt, ge_iff_le, Int.not_lt, Int.not_le, ne_eq, Bool.true_eq_false, Bool.false_eq_true, reduceCtorEq, eta_Airway, eta_Fan, eta_Mine, bytes_nil] at hG; omega) (by simp only [forall_const, eq_self, not_true_eq_false, not_false_eq_true, or_false, false_or, or_self, or_true, true_or, and_true, true_and, and_false, false_and, decide_true, decide_false, Bool.not_true, Bool.not_false, decide_eq_true_eq, decide_eq_false_iff_not, ite_and_p, ite_or_p, Bool.decide_eq_true, Bool.and_eq_true, Bool.or_eq_true, Bool.not_eq_true', Bool.not_eq_false', Bool.and_eq_false_imp, Bool.or_eq_false_iff, bne_iff_ne, beq_iff_eq, bne_eq_false_iff_eq, beq_eq_false_iff_ne, gt_iff_lt, ge_iff_le, Int.not_lt, Int.not_le, ne_eq, Bool.true_eq_false, Bool.false_eq_true, reduceCtorEq, eta_Airway, eta_Fan, eta_Mine, bytes_nil] at hG; omega) (by simp only [forall_const, eq_self, not_true_eq_false, not_false_eq_true, or_false, false_or, or_self, or_true, true_or, and_true, true_and, and_false, false_and, decide_true, decide_false, Bool.not_true, Bool.not_false, decide_eq_true_eq, decide_eq_false_iff_not, ite_and_p, ite_or_p, Bool.decide_eq_true, Bool.and_eq_true, Bool.or_eq_true, Bool.not_eq_true', Bool.not_eq_false', Bool.and_eq_false_imp, Bool.or_eq_false_iff, bne_iff_ne, beq_iff_eq, bne_eq_false_iff_eq, beq_eq_false_iff_ne, gt_iff_lt, ge_iff_le, Int.not_lt, Int.not_le, ne_eq, Bool.true_eq_false, Bool.false_eq_true, reduceCtorEq, eta_Airway, eta_Fan, eta_Mine, bytes_nil] at hG; omega) (by simp only [forall_const, eq_self, not_true_eq_false, not_false_eq_true, or_false, false_or, or_self, or_true, true_or, and_true, true_and, and_false, false_and, decide_true, decide_false, Bool.not_true, Bool.not_false, decide_eq_true_eq, decide_eq_false_iff_not, ite_and_p, ite_or_p, Bool.decide_eq_true, Bool.and_eq_true, Bool.or_eq_true, Bool.not_eq_true', Bool.not_eq_false', Bool.and_eq_false_imp, Bool.or_eq_false_iff, bne_iff_ne, beq_iff_eq, bne_eq_false_iff_eq, beq_eq_false_iff_ne, gt_iff_lt, ge_iff_le, Int.not_lt, Int.not_le, ne_eq, Bool.true_eq_false, Bool.false_eq_true, reduceCtorEq, eta_Airway, eta_Fan, eta_Mine, bytes_nil] at hG; omega)) rfl rfl ?_
    | refine CallF.mk (CallW.is [] true rfl ?_)
    | refine CallG.mk ?_
    | (refine CondF.mk (fun hb => ?_) (fun hb => ?_) <;> try simp only [forall_const, eq_self, not_true_eq_false, not_false_eq_true, or_false, false_or, or_self, or_true, true_or, and_true, true_and, and_false, false_and, decide_true, decide_false, Bool.not_true, Bool.not_false, decide_eq_true_eq, decide_eq_false_iff_not, ite_and_p, ite_or_p, Bool.decide_eq_true, Bool.and_eq_true, Bool.or_eq_true, Bool.not_eq_true', Bool.not_eq_false', Bool.and_eq_false_imp, Bool.or_eq_false_iff, bne_iff_ne, beq_iff_eq, bne_eq_false_iff_eq, beq_eq_false_iff_ne, gt_iff_lt, ge_iff_le, Int.not_lt, Int.not_le, ne_eq, Bool.true_eq_false, Bool.false_eq_true, reduceCtorEq, eta_Airway, eta_Fan, eta_Mine] at hb)
    | refine RetF.auto (And.intro rfl ?_)
    | exact Is.mk rfl rfl
    | refine Is.mk ?_ rfl
    | refine Is.mk rfl ?_
    | refine Is.mk ?_ ?_
  all_goals try dsimp only
  all_goals try simp only [Bo, I, OB.row.injEq, AV.osl.injEq, eI_same,  List.cons.injEq, AV.p.injEq, PV.c.injEq, Value.int.injEq, Value.bool.injEq, and_true, true_and, ite_and_p, ite_or_p, Bool.decide_eq_true, eta_Airway, eta_Fan, eta_Mine]
  all_goals try dsimp only
  all_goals first
    | (unfold blZ; rw [if_pos (by omega)])
    | (unfold blZ; rw [if_neg (by omega), if_pos (by omega)])
    | (unfold blZ; rw [if_neg (by omega), if_neg (by omega)])
    | skip
def prP (c : List (List Int)) (q : Int) (k : Int) : Bool := decide ((c.length : Int) - 1 ≤ k ∨ q ≤ (c.getD k.toNat []).getD 0 0)
def prK (c : List (List Int)) (q : Int) : Nat := (leastI (prP c q) 1 (c.length - 1)).toNat
def prI (f : GFan) (q : Int) : Int := blZ ((f.curve.getD (prK f.curve q - 1) []).getD 0 0) ((f.curve.getD (prK f.curve q - 1) []).getD 1 0) ((f.curve.getD (prK f.curve q) []).getD 0 0) ((f.curve.getD (prK f.curve q) []).getD 1 0) q
theorem prK_r {c : List (List Int)} (h : okCur c) (q : Int) : 1 ≤ prK c q ∧ prK c q < c.length := by
  have hl := h.ln
  have h1 := leastI_r (p := prP c q) (lo := 1) (hi := c.length - 1) (by omega)
  have h2 : leastI (prP c q) 1 (c.length - 1) ≤ c.length - 1 := by
    apply Int.not_lt.1
    intro hlt
    have := leastI_none (p := prP c q) (lo := 1) (hi := c.length - 1) (by omega) (c.length - 1) (by omega) (by omega)
    have := of_decide_eq_false this
    omega
  unfold prK
  omega
theorem prI_b {f : GFan} (h : okFan f) (q : Int) : 0 ≤ prI f q ∧ prI f q ≤ 10000 := by
  have hk := prK_r h.cu q
  have h1 := h.cu.pt (prK f.curve q) hk.2
  have h2 := h.cu.pt (prK f.curve q - 1) (by omega)
  have h3 := h.cu.so (prK f.curve q) (by omega) hk.2
  have := blZ_b (a := (f.curve.getD (prK f.curve q - 1) []).getD 0 0) (b := (f.curve.getD (prK f.curve q) []).getD 0 0) (t := q) h3.2
  unfold prI
  omega
theorem prK_at {c : List (List Int)} {q k : Int} (h : okCur c) (h0 : 1 ≤ k) (h1 : k < c.length) (h2 : ¬(k < c.length - 1 ∧ (c.getD k.toNat []).getD 0 0 < q)) (h3 : ∀ m : Int, 1 ≤ m → m < k → m < c.length - 1 ∧ (c.getD m.toNat []).getD 0 0 < q) : prK c q = k.toNat := by
  unfold prK
  rw [leastI_at (p := prP c q) (lo := 1) (hi := (c.length : Int) - 1) (n := k) h0 (by omega) (decide_eq_true (by omega)) (fun m a b => decide_eq_false (by have := h3 m a b; omega))]
theorem c_impl_Fan_pressure (f : GFan) (q : Int) (h : okFan f) (hq : -100000 ≤ q ∧ q ≤ 100000) : FnSem Tryz.prog 66 [.p .any (.agg f.cells), In q] [] (Is [In (prI f q)] []) := by
  have hl := h.cu.ln
  have hp := fun k : Int => h.cu.pt k.toNat
  refine FnSem.walk (zs := zeroPV Tryz.prog) (by kernel_rfl) Tryz.func66 rfl Tryz.results66 (by kernel_rfl) (by kernel_rfl) (by kernel_rfl) fun hw hh => ?_
  obtain ⟨w0, w1, _⟩ := hw
  first | replace w0 := wf_Fan w0 | skip
  first | replace w1 := wf_I w1 | skip
  repeat' first
    | refine And.intro rfl ?_
    | refine GdF.mk (fun h => h) ?_
    | refine And.intro (Nat.succ_ne_zero _) ?_
    | refine And.intro (Nat.le_of_ble_eq_true rfl) ?_
    | refine SeqF.run ?_
    | refine LoopF.at 2 rfl (LoopF.fix [1, 2] (Int) (fun k => 1 ≤ k ∧ k < f.curve.length ∧ (∀ m : Int, 1 ≤ m → m < k → m < f.curve.length - 1 ∧ (f.curve.getD m.toNat []).getD 0 0 < q)) (fun k => [(5, In k)]) (fun k => []) (fun k => ((f.curve.length - k).toNat)) (1) ?_)
    | (refine LoopB.of (T := Int) ?_ ?_; rotate_left; rintro k ⟨k0, k1, k2⟩; rotate_left)
    | refine BndF.mk (fun hG => by have q1 := hp k (by omega); have q2 := hp (k - 1) (by omega); first | omega | (simp only [List.length_map]; omega)) ?_
    | refine ArgF.is (blendT _ _ _ _ _ (by have q1 := hp k (by omega); have q2 := hp (k - 1) (by omega); have q3 := h.cu.so k.toNat (by omega) (by omega); rw [show k.toNat - 1 = (k - 1).toNat by omega] at q3; exact ⟨q1.2.2.1, q3.2, q2.2.2.2⟩) (hp (k - 1) (by omega)).2.1 (hp k (by omega)).2.1 hq) ?_
    | refine ArgQ.is (fun hG => blendT _ _ _ _ _ (by have q1 := hp k (by omega); have q2 := hp (k - 1) (by omega); have q3 := h.cu.so k.toNat (by omega) (by omega); rw [show k.toNat - 1 = (k - 1).toNat by omega] at q3; exact ⟨q1.2.2.1, q3.2, q2.2.2.2⟩) (hp (k - 1) (by omega)).2.1 (hp k (by omega)).2.1 hq) rfl rfl ?_
    | refine GhF.go ?_
    | refine GdS.keep ?_
    | refine DrawG.old (DrawF.lex (by decide +kernel) ?_)
    | refine EqP.mk _ (gm eI 0 rfl) ?_
    | refine EqP.mk _ (gmb eLI [] (by omega)) ?_
    | refine BndF.mk (fun _ => by omega) ?_
    | refine BndF.mk (fun _ => by simp only [lnS]; omega) ?_
    | refine BndF.mk (fun hG => by simp only [forall_const, eq_self, not_true_eq_false, not_false_eq_true, or_false, false_or, or_self, or_true, true_or, and_true, true_and, and_false, false_and, decide_true, decide_false, Bool.not_true, Bool.not_false, decide_eq_true_eq, decide_eq_false_iff_not, ite_and_p, ite_or_p, Bool.decide_eq_true, Bool.and_eq_true, Bool.or_eq_true, Bool.not_eq_true', Bool.not_eq_false', Bool.and_eq_false_imp, Bool.or_eq_false_iff, bne_iff_ne, beq_iff_eq, bne_eq_false_iff_eq, beq_eq_false_iff_ne, gt_iff_lt, ge_iff_le, Int.not_lt, Int.not_le, ne_eq, Bool.true_eq_false, Bool.false_eq_true, reduceCtorEq, eta_Airway, eta_Fan, eta_Mine, bytes_nil] at hG; (try simp only [List.length_map]); omega) ?_
    | refine EqI.mk _ (fun _ => wrapI (by omega) (by omega)) ?_
    | refine EqI.mk _ (fun _ => rfl) ?_
    | refine EqN.mk _ (ln eI) ?_
    | refine EqN.mk _ (ln eLI) ?_
    | refine EqN.mk _ (Nat.zero_add _) ?_
    | refine EqN.mk _ (Int.toNat_natCast _) ?_
    | refine EqN.mk _ rfl ?_
    | refine EqL.mk _ (tk eI (by first | rfl | assumption | omega | (simp only [lnS] <;> omega))) ?_
    | refine EqL.mk _ (tk eLI (by first | rfl | assumption | omega | (simp only [lnS] <;> omega))) ?_
    | refine EqL.mk [] rfl ?_
    | refine EqL.mk [_] rfl ?_
    | refine EqL.mk _ rfl ?_
    | refine ArgF.is (c_impl_blend _ _ _ _ _ (by first | assumption | omega) (by first | assumption | omega)) ?_
    | refine ArgQ.is (fun hG => c_impl_blend _ _ _ _ _ (by first | assumption | omega) (by first | assumption | omega)) rfl rfl ?_
    | refine ArgQ.is (fun hG => c_impl_blend _ _ _ _ _ (by simp only [forall_const, eq_self, not_true_eq_false, not_false_eq_true, or_false, false_or, or_self, or_true, true_or, and_true, true_and, and_false, false_and, decide_true, decide_false, Bool.not_true, Bool.not_false, decide_eq_true_eq, decide_eq_false_iff_not, ite_and_p, ite_or_p, Bool.decide_eq_true, Bool.and_eq_true, Bool.or_eq_true, Bool.not_eq_true', Bool.not_eq_false', Bool.and_eq_false_imp, Bool.or_eq_false_iff, bne_iff_ne, beq_iff_eq, bne_eq_false_iff_eq, beq_eq_false_iff_ne, gt_iff_lt, ge_iff_le, Int.not_lt, Int.not_le, ne_eq, Bool.true_eq_false, Bool.false_eq_true, reduceCtorEq, eta_Airway, eta_Fan, eta_Mine, bytes_nil] at hG; omega) (by simp only [forall_const, eq_self, not_true_eq_false, not_false_eq_true, or_false, false_or, or_self, or_true, true_or, and_true, true_and, and_false, false_and, decide_true, decide_false, Bool.not_true, Bool.not_false, decide_eq_true_eq, decide_eq_false_iff_not, ite_and_p, ite_or_p, Bool.decide_eq_true, Bool.and_eq_true, Bool.or_eq_true, Bool.not_eq_true', Bool.not_eq_false', Bool.and_eq_false_imp, Bool.or_eq_false_iff, bne_iff_ne, beq_iff_eq, bne_eq_false_iff_eq, beq_eq_false_iff_ne, gt_iff_lt, ge_iff_le, Int.not_lt, Int.not_le, ne_eq, Bool.true_eq_false, Bool.false_eq_true, reduceCtorEq, eta_Airway, eta_Fan, eta_Mine, bytes_nil] at hG; omega)) rfl rfl ?_
    | refine CallF.mk (CallW.is [] true rfl ?_)
    | refine CallG.mk ?_
    | (refine CondF.mk (fun hb => ?_) (fun hb => ?_) <;> try simp only [forall_const, eq_self, not_true_eq_false, not_false_eq_true, or_false, false_or, or_self, or_true, true_or, and_true, true_and, and_false, false_and, decide_true, decide_false, Bool.not_true, Bool.not_false, decide_eq_true_eq, decide_eq_false_iff_not, ite_and_p, ite_or_p, Bool.decide_eq_true, Bool.and_eq_true, Bool.or_eq_true, Bool.not_eq_true', Bool.not_eq_false', Bool.and_eq_false_imp, Bool.or_eq_false_iff, bne_iff_ne, beq_iff_eq, bne_eq_false_iff_eq, beq_eq_false_iff_ne, gt_iff_lt, ge_iff_le, Int.not_lt, Int.not_le, ne_eq, Bool.true_eq_false, Bool.false_eq_true, reduceCtorEq, eta_Airway, eta_Fan, eta_Mine] at hb)
    | apply BackF.auto
    | refine BackB.mk ?_ ?_
    | refine RetF.auto (And.intro rfl ?_)
    | exact Is.mk rfl rfl
    | refine Is.mk ?_ rfl
    | refine Is.mk rfl ?_
    | refine Is.mk ?_ ?_
  all_goals try dsimp only
  all_goals try simp only [Bo, I, OB.row.injEq, AV.osl.injEq, eI_same,  List.cons.injEq, AV.p.injEq, PV.c.injEq, Value.int.injEq, Value.bool.injEq, and_true, true_and, ite_and_p, ite_or_p, Bool.decide_eq_true, eta_Airway, eta_Fan, eta_Mine]
  all_goals try dsimp only
  all_goals first
    | omega
    | exact ⟨by omega, by omega, fun m a b => absurd b (by omega)⟩
    | (refine ⟨by omega, by omega, fun m a b => ?_⟩
       by_cases e : m < k
       · exact k2 m a e
       · rw [show m = k by omega]; exact hb)
    | (have e9 := prK_at h.cu k0 k1 (fun e => by have h9 : q ≤ (f.curve.getD k.toNat []).getD 0 0 := hb e.1; omega) k2
       unfold prI
       rw [e9, show k.toNat - 1 = (k - 1).toNat by omega]; rfl)
    | skip
--@fn impl.within
theorem wiF (x a b : Int) (h : a ≤ x ∧ x ≤ b) : FnSem Tryz.prog 68 [In x, In a, In b] [] (Is [Bo true] []) := by
  have := c_impl_within x a b
  rwa [inR_iff.2 h] at this
--@fn impl.ValidFan
theorem vFanT (f : GFan) (h : okFan f) : FnSem Tryz.prog 64 [.p .any (.agg f.cells)] [] (Is [Bo true] []) := by
  have hl := h.cu.ln
  have hp := fun k : Int => h.cu.pt k.toNat
  have hin := c_impl_IsName f.id
  rw [h.nm] at hin
  refine FnSem.walk (zs := zeroPV Tryz.prog) (by kernel_rfl) Tryz.func64 rfl Tryz.results64 (by kernel_rfl) (by kernel_rfl) (by kernel_rfl) fun hw hh => ?_
  obtain ⟨w0, _⟩ := hw
  first | replace w0 := wf_Fan w0 | skip
  repeat' first
    | refine And.intro rfl ?_
    | refine GdF.mk (fun h => h) ?_
    | refine And.intro (Nat.succ_ne_zero _) ?_
    | refine And.intro (Nat.le_of_ble_eq_true rfl) ?_
    | refine SeqF.run ?_
    | refine ArgF.is (hin) ?_
    | refine ArgQ.is (fun hG => hin) rfl rfl ?_
    | refine ArgF.is (wiF f.airway 0 23 h.aw) ?_
    | refine ArgQ.is (fun hG => wiF f.airway 0 23 h.aw) rfl rfl ?_
    | refine LoopF.at 4 rfl (LoopF.fix [1, 28, 29] (Int) (fun k => 0 ≤ k ∧ k ≤ f.curve.length) (fun k => [(30, In k)]) (fun k => []) (fun k => ((f.curve.length - k).toNat)) (0) ?_)
    | (refine LoopB.of (T := Int) ?_ ?_; rotate_left; rintro k ⟨k0, k1⟩; rotate_left)
    | refine BndF.mk (fun hG => by have q1 := hp k (by omega); first | omega | (simp only [List.length_map]; omega)) ?_
    | refine BndF.mk (fun hG => by have q1 := hp k (by omega); simp only [Bool.and_eq_true, decide_eq_true_eq] at hG; have q2 := hp (k - 1) (by omega); first | omega | (simp only [List.length_map]; omega)) ?_
    | refine ArgF.is (wiF _ 0 100000 (hp k (by omega)).2.1) ?_
    | refine ArgQ.is (fun hG => wiF _ 0 100000 (hp k (by omega)).2.1) rfl rfl ?_
    | refine ArgF.is (wiF _ 0 10000 (hp k (by omega)).2.2) ?_
    | refine ArgQ.is (fun hG => wiF _ 0 10000 (hp k (by omega)).2.2) rfl rfl ?_
    | refine GhF.go ?_
    | refine GdS.keep ?_
    | refine DrawG.old (DrawF.lex (by decide +kernel) ?_)
    | refine EqP.mk _ (gm eI 0 rfl) ?_
    | refine EqP.mk _ (gmb eLI [] (by omega)) ?_
    | refine BndF.mk (fun _ => by omega) ?_
    | refine BndF.mk (fun _ => by simp only [lnS]; omega) ?_
    | refine BndF.mk (fun hG => by simp only [forall_const, eq_self, not_true_eq_false, not_false_eq_true, or_false, false_or, or_self, or_true, true_or, and_true, true_and, and_false, false_and, decide_true, decide_false, Bool.not_true, Bool.not_false, decide_eq_true_eq, decide_eq_false_iff_not, ite_and_p, ite_or_p, Bool.decide_eq_true, Bool.and_eq_true, Bool.or_eq_true, Bool.not_eq_true', Bool.not_eq_false', Bool.and_eq_false_imp, Bool.or_eq_false_iff, bne_iff_ne, beq_iff_eq, bne_eq_false_iff_eq, beq_eq_false_iff_ne, gt_iff_lt, ge_iff_le, Int.not_lt, Int.not_le, ne_eq, Bool.true_eq_false, Bool.false_eq_true, reduceCtorEq, eta_Airway, eta_Fan, eta_Mine, bytes_nil] at hG; (try simp only [List.length_map]); omega) ?_
    | refine EqI.mk _ (fun _ => wrapI (by omega) (by omega)) ?_
    | refine EqI.mk _ (fun _ => rfl) ?_
    | refine EqN.mk _ (ln eI) ?_
    | refine EqN.mk _ (ln eLI) ?_
    | refine EqN.mk _ (Nat.zero_add _) ?_
    | refine EqN.mk _ (Int.toNat_natCast _) ?_
    | refine EqN.mk _ rfl ?_
    | refine EqL.mk _ (tk eI (by first | rfl | assumption | omega | (simp only [lnS] <;> omega))) ?_
    | refine EqL.mk _ (tk eLI (by first | rfl | assumption | omega | (simp only [lnS] <;> omega))) ?_
    | refine EqL.mk [] rfl ?_
    | refine EqL.mk [_] rfl ?_
    | refine EqL.mk _ rfl ?_
    | refine ArgF.is (c_impl_IsName ..) ?_
    | refine ArgQ.is (fun hG => c_impl_IsName ..) rfl rfl ?_
    | refine ArgF.is (c_impl_within ..) ?_
    | refine ArgQ.is (fun hG => c_impl_within ..) rfl rfl ?_
    | refine CallF.mk (CallW.is [] true rfl ?_)
    | refine CallG.mk ?_
    | (refine CondF.mk (fun hb => ?_) (fun hb => ?_) <;> try simp only [forall_const, eq_self, not_true_eq_false, not_false_eq_true, or_false, false_or, or_self, or_true, true_or, and_true, true_and, and_false, false_and, decide_true, decide_false, Bool.not_true, Bool.not_false, decide_eq_true_eq, decide_eq_false_iff_not, ite_and_p, ite_or_p, Bool.decide_eq_true, Bool.and_eq_true, Bool.or_eq_true, Bool.not_eq_true', Bool.not_eq_false', Bool.and_eq_false_imp, Bool.or_eq_false_iff, bne_iff_ne, beq_iff_eq, bne_eq_false_iff_eq, beq_eq_false_iff_ne, gt_iff_lt, ge_iff_le, Int.not_lt, Int.not_le, ne_eq, Bool.true_eq_false, Bool.false_eq_true, reduceCtorEq, eta_Airway, eta_Fan, eta_Mine] at hb)
    | apply BackF.auto
    | refine BackB.mk ?_ ?_
    | refine RetF.auto (And.intro rfl ?_)
    | exact Is.mk rfl rfl
    | refine Is.mk ?_ rfl
    | refine Is.mk rfl ?_
    | refine Is.mk ?_ ?_
  all_goals try dsimp only
  all_goals first
    | omega
    | exact ⟨by omega, by omega⟩
    | (exfalso
       have q1 := hp k (by omega)
       rcases hb with hb | ⟨a, b⟩
       · omega
       · have q3 := h.cu.so k.toNat (by omega) (by omega)
         rw [show k.toNat - 1 = (k - 1).toNat by omega] at q3
         rcases b with b | b
         · have b2 : (f.curve.getD k.toNat []).getD 0 0 ≤ (f.curve.getD (k - 1).toNat []).getD 0 0 := b
           omega
         · have b2 : (f.curve.getD (k - 1).toNat []).getD 1 0 < (f.curve.getD k.toNat []).getD 1 0 := b
           omega)
    | skip
end Go.Proofs.YtdhkpmaanegjkaaGreatDoor
