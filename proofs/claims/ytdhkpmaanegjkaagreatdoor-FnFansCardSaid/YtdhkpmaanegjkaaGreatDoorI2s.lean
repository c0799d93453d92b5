/- Contracts of functions of the program, and what they compute. Conditions: those that each theorem states. -/
import Derived.Test.YtdhkpmaanegjkaaGreatDoorProg
import Derived.Test.YtdhkpmaanegjkaaGreatDoorI8
set_option linter.unusedVariables false
set_option linter.unusedSimpArgs false
namespace Go.Proofs.YtdhkpmaanegjkaaGreatDoor
open Go.Av
attribute [local irreducible] Go.IntKind.wrap leastI rdZ rd rootI rawA prI okFanB
set_option maxRecDepth 20000
set_option maxHeartbeats 16000000
--@fn spec.l01Line
theorem lineT (a v b w t : Int) (h : 0 ≤ w ∧ w ≤ v ∧ v ≤ 10000) (ha : 0 ≤ a ∧ a ≤ 100000) (hbb : 0 ≤ b ∧ b ≤ 100000) (ht : -100000 ≤ t ∧ t ≤ 100001) : FnSem Tryz.prog 110 [In a, In v, In b, In w, In t] [] (Is [In (blZ a v b w t)] []) := by
  have hz := blZ_b (a := a) (v := v) (b := b) (w := w) (t := t) h.2.1
  have hm : ¬(t ≤ a ∨ b ≤ a) → ¬b ≤ t → -1000000000 ≤ (w - v) * (t - a) ∧ (w - v) * (t - a) ≤ 1000000000 := fun h1 h2 => by
    have := mulB (a := w - v) (b := t - a) (A := 10000) (B := 100000) (by omega) (by omega)
    omega
  have hr : ¬(t ≤ a ∨ b ≤ a) → ¬b ≤ t → v + rdZ ((w - v) * (t - a)) (b - a) = blZ a v b w t := fun h1 h2 => by unfold blZ; rw [if_neg h1, if_neg h2]
  refine FnSem.walk (zs := zeroPV Tryz.prog) (by kernel_rfl) Tryz.func110 rfl Tryz.results110 (by kernel_rfl) (by kernel_rfl) (by kernel_rfl) fun hw hh => ?_
  obtain ⟨w0, w1, w2, w3, w4, _⟩ := hw
  first | replace w0 := wf_I w0 | skip
  first | replace w1 := wf_I w1 | skip
  first | replace w2 := wf_I w2 | skip
  first | replace w3 := wf_I w3 | skip
  first | replace w4 := wf_I w4 | skip
  repeat' first
    | refine And.intro rfl ?_
    | refine GdF.mk (fun h => h) ?_
    | refine And.intro (Nat.succ_ne_zero _) ?_
    | refine And.intro (Nat.le_of_ble_eq_true rfl) ?_
    | refine SeqF.run ?_
    | refine ArgF.is (c_spec_l01Div ((w - v) * (t - a)) (b - a) (by have := hm (by omega) (by omega); omega) (by omega)) ?_
    | refine ArgQ.is (fun hG => c_spec_l01Div ((w - v) * (t - a)) (b - a) (by have := hm (by omega) (by omega); omega) (by omega)) rfl rfl ?_
    | refine EqI.mk _ (fun _ => by have q := hm (by omega) (by omega); exact wrapI (by omega) (by omega)) ?_
    | refine EqI.mk _ (fun _ => by have q := hr (by omega) (by omega); exact wrapI (by omega) (by omega)) ?_
    | refine GhF.go ?_
    | refine GdS.keep ?_
    | refine BndF.mk (fun _ => by omega) ?_
    | refine BndF.mk (fun _ => by simp only [lnS]; omega) ?_
    | refine BndF.mk (fun hG => by simp only [forall_const, eq_self, not_true_eq_false, not_false_eq_true, or_false, false_or, or_self, or_true, true_or, and_true, true_and, and_false, false_and, decide_true, decide_false, Bool.not_true, Bool.not_false, decide_eq_true_eq, decide_eq_false_iff_not, ite_and_p, ite_or_p, Bool.decide_eq_true, Bool.and_eq_true, Bool.or_eq_true, Bool.not_eq_true', Bool.not_eq_false', Bool.and_eq_false_imp, Bool.or_eq_false_iff, bne_iff_ne, beq_iff_eq, bne_eq_false_iff_eq, beq_eq_false_iff_ne, gt_iff_lt, ge_iff_le, Int.not_lt, Int.not_le, ne_eq, Bool.true_eq_false, Bool.false_eq_true, reduceCtorEq, eta_Airway, eta_Fan, eta_Mine, bytes_nil] at hG; (try simp only [List.length_map]); omega) ?_
    | refine EqI.mk _ (fun _ => wrapI (by omega) (by omega)) ?_
    | refine EqI.mk _ (fun _ => rfl) ?_
    | refine EqL.mk [] rfl ?_
    | refine EqL.mk [_] rfl ?_
    | refine EqL.mk _ rfl ?_
    | refine ArgF.is (c_spec_l01Div _ _ (by first | assumption | omega) (by first | assumption | omega)) ?_
    | refine ArgQ.is (fun hG => c_spec_l01Div _ _ (by first | assumption | omega) (by first | assumption | omega)) rfl rfl ?_
    | refine ArgQ.is (fun hG => c_spec_l01Div _ _ (by simp only [forall_const, eq_self, not_true_eq_false, not_false_eq_true, or_false, false_or, or_self, or_true, true_or, and_true, true_and, and_false, false_and, decide_true, decide_false, Bool.not_true, Bool.not_false, decide_eq_true_eq, decide_eq_false_iff_not, ite_and_p, ite_or_p, Bool.decide_eq_true, Bool.and_eq_true, Bool.or_eq_true, Bool.not_eq_true', Bool.not_eq_false', Bool.and_eq_false_imp, Bool.or_eq_false_iff, bne_iff_ne, beq_iff_eq, bne_eq_false_iff_eq, beq_eq_false_iff_ne, gt_iff_lt, ge_iff_le, Int.not_lt, Int.not_le, ne_eq, Bool.true_eq_false, Bool.false_eq_true, reduceCtorEq, eta_Airway, eta_Fan, eta_Mine, bytes_nil] at hG; omega) (by simp only [forall_const, eq_self, not_true_eq_false, not_false_eq_true, or_false, false_or, or_self, or_true, true_or, and_true, true_and, and_false, false_and, decide_true, decide_false, Bool.not_true, Bool.not_false, decide_eq_true_eq, decide_eq_false_iff_not, ite_and_p, ite_or_p, Bool.decide_eq_true, Bool.and_eq_true, Bool.or_eq_true, Bool.not_eq_true', Bool.not_eq_false', Bool.and_eq_false_imp, Bool.or_eq_false_iff, bne_iff_ne, beq_iff_eq, bne_eq_false_iff_eq, beq_eq_false_iff_ne, gt_iff_lt, ge_iff_le, Int.not_lt, Int.not_le, ne_eq, Bool.true_eq_false, Bool.false_eq_true, reduceCtorEq, eta_Airway, eta_Fan, eta_Mine, bytes_nil] at hG; omega)) rfl rfl ?_
    | refine CallF.mk (CallW.is [] true rfl ?_)
    | refine CallG.mk ?_
    | (refine CondF.mk (fun hb => ?_) (fun hb => ?_) <;> try simp only [forall_const, eq_self, not_true_eq_false, not_false_eq_true, or_false, false_or, or_self, or_true, true_or, and_true, true_and, and_false, false_and, decide_true, decide_false, Bool.not_true, Bool.not_false, decide_eq_true_eq, decide_eq_false_iff_not, ite_and_p, ite_or_p, Bool.decide_eq_true, Bool.and_eq_true, Bool.or_eq_true, Bool.not_eq_true', Bool.not_eq_false', Bool.and_eq_false_imp, Bool.or_eq_false_iff, bne_iff_ne, beq_iff_eq, bne_eq_false_iff_eq, beq_eq_false_iff_ne, gt_iff_lt, ge_iff_le, Int.not_lt, Int.not_le, ne_eq, Bool.true_eq_false, Bool.false_eq_true, reduceCtorEq, eta_Airway, eta_Fan, eta_Mine] at hb)
    | refine RetF.auto (And.intro rfl ?_)
    | exact Is.mk rfl rfl
    | refine Is.mk ?_ rfl
    | refine Is.mk rfl ?_
    | refine Is.mk ?_ ?_
  all_goals try dsimp only
  all_goals try simp only [Bo, I, OB.row.injEq, AV.osl.injEq, eI_same,  List.cons.injEq, AV.p.injEq, PV.c.injEq, Value.int.injEq, Value.bool.injEq, and_true, true_and, ite_and_p, ite_or_p, Bool.decide_eq_true, eta_Airway, eta_Fan, eta_Mine]
  all_goals try dsimp only
  all_goals first
    | (unfold blZ; rw [if_pos (by omega)])
    | (unfold blZ; rw [if_neg (by omega), if_pos (by omega)])
    | (unfold blZ; rw [if_neg (by omega), if_neg (by omega)])
    | skip
theorem prI_at {f : GFan} {q : Int} {k : Nat} (h : prK f.curve q = k) : prI f q = blZ ((f.curve.getD (k - 1) []).getD 0 0) ((f.curve.getD (k - 1) []).getD 1 0) ((f.curve.getD k []).getD 0 0) ((f.curve.getD k []).getD 1 0) q := by
  unfold prI; rw [h]
theorem prI_first {f : GFan} {q : Int} (h : okFan f) (hq : q ≤ (f.curve.getD 0 []).getD 0 0) : prI f q = (f.curve.getD 0 []).getD 1 0 := by
  have hl := h.cu.ln
  have h1 := h.cu.so 1 (by omega) (by omega)
  have hk := prK_at (q := q) (k := 1) h.cu (by omega) (by omega) (fun e => by have := e.2; rw [show (1 : Int).toNat = 1 from rfl] at this; simp only [Nat.sub_self] at h1; omega) (fun m a b => absurd b (by omega))
  rw [prI_at hk]
  unfold blZ
  rw [if_pos (.inl hq)]; rfl
theorem prI_last {f : GFan} {q : Int} (h : okFan f) (hn : ∀ m : Int, 1 ≤ m → m < f.curve.length → (f.curve.getD m.toNat []).getD 0 0 < q) : prI f q = (f.curve.getD (f.curve.length - 1) []).getD 1 0 := by
  have hl := h.cu.ln
  have h1 := h.cu.so (f.curve.length - 1) (by omega) (by omega)
  have h2 := hn (f.curve.length - 1) (by omega) (by omega)
  have e : ((f.curve.length : Int) - 1).toNat = f.curve.length - 1 := by omega
  rw [e] at h2
  have hk := prK_at (q := q) (k := f.curve.length - 1) h.cu (by omega) (by omega) (fun x => by omega) (fun m a b => ⟨by omega, hn m a (by omega)⟩)
  rw [e] at hk
  rw [prI_at hk]
  unfold blZ
  rw [if_neg (by omega), if_pos (by omega)]
--@fn spec.l00In
theorem sinT (x a b : Int) (h : a ≤ x ∧ x ≤ b) : FnSem Tryz.prog 108 [In x, In a, In b] [] (Is [Bo true] []) := by
  have := c_spec_l00In x a b
  rwa [inR_iff.2 h] at this
theorem c_spec_l06Curve (c : List (List Int)) (h : okCur c) : FnSem Tryz.prog 109 [.p .any (LLI c)] [] (Is [Bo true] []) := by
  have hl := h.ln
  have hp := fun k : Int => h.pt k.toNat
  refine FnSem.walk (zs := zeroPV Tryz.prog) (by kernel_rfl) Tryz.func109 rfl Tryz.results109 (by kernel_rfl) (by kernel_rfl) (by kernel_rfl) fun hw hh => ?_
  obtain ⟨w0, _⟩ := hw
  first | replace w0 := wf_LLI w0 | skip
  repeat' first
    | refine And.intro rfl ?_
    | refine GdF.mk (fun h => h) ?_
    | refine And.intro (Nat.succ_ne_zero _) ?_
    | refine And.intro (Nat.le_of_ble_eq_true rfl) ?_
    | refine SeqF.run ?_
    | refine LoopF.at 2 rfl (LoopF.fix [0] (Int) (fun k => 0 ≤ k ∧ k ≤ c.length) (fun k => [(3, In k)]) (fun k => []) (fun k => ((c.length - k).toNat)) (0) ?_)
    | (refine LoopB.of (T := Int) ?_ ?_; rotate_left; rintro k ⟨k0, k1⟩; rotate_left)
    | refine BndF.mk (fun hG => by have q1 := hp k (by omega); first | omega | (simp only [List.length_map]; omega)) ?_
    | refine BndF.mk (fun hG => by have q1 := hp k (by omega); simp only [Bool.and_eq_true, decide_eq_true_eq] at hG; have q2 := hp (k - 1) (by omega); first | omega | (simp only [List.length_map]; omega)) ?_
    | refine ArgF.is (sinT _ 0 100000 (hp k (by omega)).2.1) ?_
    | refine ArgQ.is (fun hG => sinT _ 0 100000 (hp k (by omega)).2.1) rfl rfl ?_
    | refine ArgF.is (sinT _ 0 10000 (hp k (by omega)).2.2) ?_
    | refine ArgQ.is (fun hG => sinT _ 0 10000 (hp k (by omega)).2.2) rfl rfl ?_
    | refine GhF.go ?_
    | refine GdS.keep ?_
    | refine DrawG.old (DrawF.lex (by decide +kernel) ?_)
    | refine EqP.mk _ (gm eI 0 rfl) ?_
    | refine EqP.mk _ (gmb eLI [] (by omega)) ?_
    | refine BndF.mk (fun _ => by omega) ?_
    | refine BndF.mk (fun _ => by simp only [lnS]; omega) ?_
    | refine BndF.mk (fun hG => by simp only [forall_const, eq_self, not_true_eq_false, not_false_eq_true, or_false, false_or, or_self, or_true, true_or, and_true, true_and, and_false, false_and, decide_true, decide_false, Bool.not_true, Bool.not_false, decide_eq_true_eq, decide_eq_false_iff_not, ite_and_p, ite_or_p, Bool.decide_eq_true, Bool.and_eq_true, Bool.or_eq_true, Bool.not_eq_true', Bool.not_eq_false', Bool.and_eq_false_imp, Bool.or_eq_false_iff, bne_iff_ne, beq_iff_eq, bne_eq_false_iff_eq, beq_eq_false_iff_ne, gt_iff_lt, ge_iff_le, Int.not_lt, Int.not_le, ne_eq, Bool.true_eq_false, Bool.false_eq_true, reduceCtorEq, eta_Airway, eta_Fan, eta_Mine, bytes_nil] at hG; (try simp only [List.length_map]); omega) ?_
    | refine EqI.mk _ (fun _ => wrapI (by omega) (by omega)) ?_
    | refine EqI.mk _ (fun _ => rfl) ?_
    | refine EqN.mk _ (ln eI) ?_
    | refine EqN.mk _ (ln eLI) ?_
    | refine EqN.mk _ (Nat.zero_add _) ?_
    | refine EqN.mk _ (Int.toNat_natCast _) ?_
    | refine EqN.mk _ rfl ?_
    | refine EqL.mk _ (tk eI (by first | rfl | assumption | omega | (simp only [lnS] <;> omega))) ?_
    | refine EqL.mk _ (tk eLI (by first | rfl | assumption | omega | (simp only [lnS] <;> omega))) ?_
    | refine EqL.mk [] rfl ?_
    | refine EqL.mk [_] rfl ?_
    | refine EqL.mk _ rfl ?_
    | refine ArgF.is (c_spec_l00In ..) ?_
    | refine ArgQ.is (fun hG => c_spec_l00In ..) rfl rfl ?_
    | refine CallF.mk (CallW.is [] true rfl ?_)
    | refine CallG.mk ?_
    | (refine CondF.mk (fun hb => ?_) (fun hb => ?_) <;> try simp only [forall_const, eq_self, not_true_eq_false, not_false_eq_true, or_false, false_or, or_self, or_true, true_or, and_true, true_and, and_false, false_and, decide_true, decide_false, Bool.not_true, Bool.not_false, decide_eq_true_eq, decide_eq_false_iff_not, ite_and_p, ite_or_p, Bool.decide_eq_true, Bool.and_eq_true, Bool.or_eq_true, Bool.not_eq_true', Bool.not_eq_false', Bool.and_eq_false_imp, Bool.or_eq_false_iff, bne_iff_ne, beq_iff_eq, bne_eq_false_iff_eq, beq_eq_false_iff_ne, gt_iff_lt, ge_iff_le, Int.not_lt, Int.not_le, ne_eq, Bool.true_eq_false, Bool.false_eq_true, reduceCtorEq, eta_Airway, eta_Fan, eta_Mine] at hb)
    | apply BackF.auto
    | refine BackB.mk ?_ ?_
    | refine RetF.auto (And.intro rfl ?_)
    | exact Is.mk rfl rfl
    | refine Is.mk ?_ rfl
    | refine Is.mk rfl ?_
    | refine Is.mk ?_ ?_
  all_goals try dsimp only
  all_goals first
    | omega
    | exact ⟨by omega, by omega⟩
    | (exfalso
       have q1 := hp k (by omega)
       rcases hb with hb | ⟨a, b⟩
       · omega
       · have q3 := h.so k.toNat (by omega) (by omega)
         rw [show k.toNat - 1 = (k - 1).toNat by omega] at q3
         rcases b with b | b
         · have b2 : (c.getD k.toNat []).getD 0 0 ≤ (c.getD (k - 1).toNat []).getD 0 0 := b
           omega
         · have b2 : (c.getD (k - 1).toNat []).getD 1 0 < (c.getD k.toNat []).getD 1 0 := b
           omega)
    | (rw [decide_eq_true (show (c.length : Int) ≥ 2 by omega), decide_eq_true (show (c.length : Int) ≤ 8 by omega)]; rfl)
    | skip
theorem c_spec_l06Ok (f : GFan) (h : okFan f) : FnSem Tryz.prog 73 [.p .any (.ref f.cells)] [] (Is [Bo true] []) := by
  have hin := c_spec_l01Name f.id
  rw [h.nm] at hin
  refine FnSem.walk (zs := zeroPV Tryz.prog) (by kernel_rfl) Tryz.func73 rfl Tryz.results73 (by kernel_rfl) (by kernel_rfl) (by kernel_rfl) fun hw hh => ?_
  obtain ⟨w0, _⟩ := hw
  first | replace w0 := wfr_Fan w0 | skip
  repeat' first
    | refine And.intro rfl ?_
    | refine GdF.mk (fun h => h) ?_
    | refine And.intro (Nat.succ_ne_zero _) ?_
    | refine And.intro (Nat.le_of_ble_eq_true rfl) ?_
    | refine SeqF.run ?_
    | refine ArgF.is (hin) ?_
    | refine ArgQ.is (fun hG => hin) rfl rfl ?_
    | refine ArgF.is (sinT f.airway 0 23 h.aw) ?_
    | refine ArgQ.is (fun hG => sinT f.airway 0 23 h.aw) rfl rfl ?_
    | refine ArgF.is (c_spec_l06Curve f.curve h.cu) ?_
    | refine ArgQ.is (fun hG => c_spec_l06Curve f.curve h.cu) rfl rfl ?_
    | refine GhF.go ?_
    | refine GdS.keep ?_
    | refine BndF.mk (fun _ => by omega) ?_
    | refine BndF.mk (fun _ => by simp only [lnS]; omega) ?_
    | refine BndF.mk (fun hG => by simp only [forall_const, eq_self, not_true_eq_false, not_false_eq_true, or_false, false_or, or_self, or_true, true_or, and_true, true_and, and_false, false_and, decide_true, decide_false, Bool.not_true, Bool.not_false, decide_eq_true_eq, decide_eq_false_iff_not, ite_and_p, ite_or_p, Bool.decide_eq_true, Bool.and_eq_true, Bool.or_eq_true, Bool.not_eq_true', Bool.not_eq_false', Bool.and_eq_false_imp, Bool.or_eq_false_iff, bne_iff_ne, beq_iff_eq, bne_eq_false_iff_eq, beq_eq_false_iff_ne, gt_iff_lt, ge_iff_le, Int.not_lt, Int.not_le, ne_eq, Bool.true_eq_false, Bool.false_eq_true, reduceCtorEq, eta_Airway, eta_Fan, eta_Mine, bytes_nil] at hG; (try simp only [List.length_map]); omega) ?_
    | refine EqL.mk _ (tk eLI (by first | rfl | assumption | omega | (simp only [lnS] <;> omega))) ?_
    | refine EqL.mk [] rfl ?_
    | refine EqL.mk [_] rfl ?_
    | refine EqL.mk _ rfl ?_
    | refine ArgF.is (c_spec_l01Name ..) ?_
    | refine ArgQ.is (fun hG => c_spec_l01Name ..) rfl rfl ?_
    | refine ArgF.is (c_spec_l00In ..) ?_
    | refine ArgQ.is (fun hG => c_spec_l00In ..) rfl rfl ?_
    | refine ArgF.is (c_spec_l06Curve _ (by first | assumption | omega)) ?_
    | refine ArgQ.is (fun hG => c_spec_l06Curve _ (by first | assumption | omega)) rfl rfl ?_
    | refine ArgQ.is (fun hG => c_spec_l06Curve _ (by simp only [forall_const, eq_self, not_true_eq_false, not_false_eq_true, or_false, false_or, or_self, or_true, true_or, and_true, true_and, and_false, false_and, decide_true, decide_false, Bool.not_true, Bool.not_false, decide_eq_true_eq, decide_eq_false_iff_not, ite_and_p, ite_or_p, Bool.decide_eq_true, Bool.and_eq_true, Bool.or_eq_true, Bool.not_eq_true', Bool.not_eq_false', Bool.and_eq_false_imp, Bool.or_eq_false_iff, bne_iff_ne, beq_iff_eq, bne_eq_false_iff_eq, beq_eq_false_iff_ne, gt_iff_lt, ge_iff_le, Int.not_lt, Int.not_le, ne_eq, Bool.true_eq_false, Bool.false_eq_true, reduceCtorEq, eta_Airway, eta_Fan, eta_Mine, bytes_nil] at hG; omega)) rfl rfl ?_
    | refine CallF.mk (CallW.is [] true rfl ?_)
    | refine CallG.mk ?_
    | (refine CondF.mk (fun hb => ?_) (fun hb => ?_) <;> try simp only [forall_const, eq_self, not_true_eq_false, not_false_eq_true, or_false, false_or, or_self, or_true, true_or, and_true, true_and, and_false, false_and, decide_true, decide_false, Bool.not_true, Bool.not_false, decide_eq_true_eq, decide_eq_false_iff_not, ite_and_p, ite_or_p, Bool.decide_eq_true, Bool.and_eq_true, Bool.or_eq_true, Bool.not_eq_true', Bool.not_eq_false', Bool.and_eq_false_imp, Bool.or_eq_false_iff, bne_iff_ne, beq_iff_eq, bne_eq_false_iff_eq, beq_eq_false_iff_ne, gt_iff_lt, ge_iff_le, Int.not_lt, Int.not_le, ne_eq, Bool.true_eq_false, Bool.false_eq_true, reduceCtorEq, eta_Airway, eta_Fan, eta_Mine] at hb)
    | refine RetF.auto (And.intro rfl ?_)
    | exact Is.mk rfl rfl
    | refine Is.mk ?_ rfl
    | refine Is.mk rfl ?_
    | refine Is.mk ?_ ?_
  all_goals skip
theorem c_spec_l06Pressure (f : GFan) (q : Int) (h : okFan f) (hq : -100000 ≤ q ∧ q ≤ 100000) : FnSem Tryz.prog 75 [.p .any (.ref f.cells), In q] [] (Is [In (prI f q)] []) := by
  have hl := h.cu.ln
  have hp := fun k : Int => h.cu.pt k.toNat
  have hp0 := h.cu.pt 0 (by omega)
  refine FnSem.walk (zs := zeroPV Tryz.prog) (by kernel_rfl) Tryz.func75 rfl Tryz.results75 (by kernel_rfl) (by kernel_rfl) (by kernel_rfl) fun hw hh => ?_
  obtain ⟨w0, w1, _⟩ := hw
  first | replace w0 := wfr_Fan w0 | skip
  first | replace w1 := wf_I w1 | skip
  repeat' first
    | refine And.intro rfl ?_
    | refine GdF.mk (fun h => h) ?_
    | refine And.intro (Nat.succ_ne_zero _) ?_
    | refine And.intro (Nat.le_of_ble_eq_true rfl) ?_
    | refine SeqF.run ?_
    | refine LoopF.at 5 rfl (LoopF.fix [0, 1, 5] (Int) (fun k => 1 ≤ k ∧ k ≤ f.curve.length ∧ (∀ m : Int, 1 ≤ m → m < k → (f.curve.getD m.toNat []).getD 0 0 < q)) (fun k => [(6, In k)]) (fun k => []) (fun k => ((f.curve.length - k).toNat)) (1) ?_)
    | (refine LoopB.of (T := Int) ?_ ?_; rotate_left; rintro k ⟨k0, k1, k2⟩; rotate_left)
    | refine BndF.mk (fun hG => by first | omega | (simp only [List.length_map]; show _ ∧ _; have e : (f.curve.getD (Int.toNat 0) []).length = 2 := hp0.1; omega)) ?_
    | refine BndF.mk (fun hG => by have q1 := hp k (by omega); have q2 := hp (k - 1) (by omega); first | omega | (simp only [List.length_map]; omega)) ?_
    | refine BndF.mk (fun hG => by have q2 := hp (f.curve.length - 1) (by omega); first | omega | (simp only [List.length_map]; omega)) ?_
    | refine ArgF.is (lineT _ _ _ _ _ (by have q1 := hp k (by omega); have q2 := hp (k - 1) (by omega); have q3 := h.cu.so k.toNat (by omega) (by omega); rw [show k.toNat - 1 = (k - 1).toNat by omega] at q3; exact ⟨q1.2.2.1, q3.2, q2.2.2.2⟩) (hp (k - 1) (by omega)).2.1 (hp k (by omega)).2.1 (by omega)) ?_
    | refine ArgQ.is (fun hG => lineT _ _ _ _ _ (by have q1 := hp k (by omega); have q2 := hp (k - 1) (by omega); have q3 := h.cu.so k.toNat (by omega) (by omega); rw [show k.toNat - 1 = (k - 1).toNat by omega] at q3; exact ⟨q1.2.2.1, q3.2, q2.2.2.2⟩) (hp (k - 1) (by omega)).2.1 (hp k (by omega)).2.1 (by omega)) rfl rfl ?_
    | refine GhF.go ?_
    | refine DrawG.old (DrawF.lex (by decide +kernel) ?_)
    | refine EqP.mk _ (gm eI 0 rfl) ?_
    | refine EqP.mk _ (gmb eLI [] (by omega)) ?_
    | refine BndF.mk (fun _ => by omega) ?_
    | refine BndF.mk (fun _ => by simp only [lnS]; omega) ?_
    | refine EqI.mk _ (fun _ => wrapI (by omega) (by omega)) ?_
    | refine EqI.mk _ (fun _ => rfl) ?_
    | refine EqN.mk _ (ln eI) ?_
    | refine EqN.mk _ (ln eLI) ?_
    | refine EqN.mk _ (Nat.zero_add _) ?_
    | refine EqN.mk _ (Int.toNat_natCast _) ?_
    | refine EqN.mk _ rfl ?_
    | refine EqL.mk _ (tk eI (by first | rfl | assumption | omega | (simp only [lnS] <;> omega))) ?_
    | refine EqL.mk _ (tk eLI (by first | rfl | assumption | omega | (simp only [lnS] <;> omega))) ?_
    | refine EqL.mk [] rfl ?_
    | refine EqL.mk [_] rfl ?_
    | refine EqL.mk _ rfl ?_
    | refine ArgF.is (c_spec_l01Line ..) ?_
    | refine ArgQ.is (fun hG => c_spec_l01Line ..) rfl rfl ?_
    | refine CallF.mk (CallW.is [] true rfl ?_)
    | refine CallG.mk ?_
    | (refine CondF.mk (fun hb => ?_) (fun hb => ?_) <;> try simp only [forall_const, eq_self, not_true_eq_false, not_false_eq_true, or_false, false_or, or_self, or_true, true_or, and_true, true_and, and_false, false_and, decide_true, decide_false, Bool.not_true, Bool.not_false, decide_eq_true_eq, decide_eq_false_iff_not, ite_and_p, ite_or_p, Bool.decide_eq_true, Bool.and_eq_true, Bool.or_eq_true, Bool.not_eq_true', Bool.not_eq_false', Bool.and_eq_false_imp, Bool.or_eq_false_iff, bne_iff_ne, beq_iff_eq, bne_eq_false_iff_eq, beq_eq_false_iff_ne, gt_iff_lt, ge_iff_le, Int.not_lt, Int.not_le, ne_eq, Bool.true_eq_false, Bool.false_eq_true, reduceCtorEq, eta_Airway, eta_Fan, eta_Mine] at hb)
    | apply BackF.auto
    | refine BackB.mk ?_ ?_
    | refine RetF.auto (And.intro rfl ?_)
    | exact Is.mk rfl rfl
    | refine Is.mk ?_ rfl
    | refine Is.mk rfl ?_
    | refine Is.mk ?_ ?_
  all_goals try dsimp only
  all_goals try simp only [Bo, I, OB.row.injEq, AV.osl.injEq, eI_same,  List.cons.injEq, AV.p.injEq, PV.c.injEq, Value.int.injEq, Value.bool.injEq, and_true, true_and, ite_and_p, ite_or_p, Bool.decide_eq_true, eta_Airway, eta_Fan, eta_Mine]
  all_goals try dsimp only
  all_goals first
    | omega
    | exact ⟨by omega, by omega, fun m a b => absurd b (by omega)⟩
    | (refine ⟨by omega, by omega, fun m a b => ?_⟩
       by_cases e : m < k
       · exact k2 m a e
       · rw [show m = k by omega]; exact hb)
    | exact (prI_first h hb).symm
    | (have e9 := prK_at (q := q) (k := k) h.cu k0 (by omega) (fun e => by have h9 : q ≤ (f.curve.getD k.toNat []).getD 0 0 := hb; omega) (fun m a b => by
         refine ⟨by omega, k2 m a b⟩)
       rw [prI_at e9, show k.toNat - 1 = (k - 1).toNat by omega]; rfl)
    | (rw [prI_last h (fun m a b => k2 m a (by omega)), show f.curve.length - 1 = ((f.curve.length : Int) - 1).toNat by omega]; rfl)
    | skip
--@fn spec.l03Flow
theorem sflX (q : Int) : FnSem Tryz.prog 74 [In q] [] (Is [Bo (inR q (-100000) 100000)] []) := by
  refine FnSem.walk (zs := zeroPV Tryz.prog) (by kernel_rfl) Tryz.func74 rfl Tryz.results74 (by kernel_rfl) (by kernel_rfl) (by kernel_rfl) fun hw hh => ?_
  obtain ⟨w0, _⟩ := hw
  first | replace w0 := wf_I w0 | skip
  repeat' first
    | refine And.intro rfl ?_
    | refine GdF.mk (fun h => h) ?_
    | refine And.intro (Nat.succ_ne_zero _) ?_
    | refine And.intro (Nat.le_of_ble_eq_true rfl) ?_
    | refine SeqF.run ?_
    | refine GhF.go ?_
    | refine BndF.mk (fun _ => by omega) ?_
    | refine BndF.mk (fun _ => by simp only [lnS]; omega) ?_
    | refine EqL.mk [] rfl ?_
    | refine EqL.mk [_] rfl ?_
    | refine EqL.mk _ rfl ?_
    | refine ArgF.is (c_spec_l00In ..) ?_
    | refine ArgQ.is (fun hG => c_spec_l00In ..) rfl rfl ?_
    | refine CallF.mk (CallW.is [] true rfl ?_)
    | refine CallG.mk ?_
    | (refine CondF.mk (fun hb => ?_) (fun hb => ?_) <;> try simp only [forall_const, eq_self, not_true_eq_false, not_false_eq_true, or_false, false_or, or_self, or_true, true_or, and_true, true_and, and_false, false_and, decide_true, decide_false, Bool.not_true, Bool.not_false, decide_eq_true_eq, decide_eq_false_iff_not, ite_and_p, ite_or_p, Bool.decide_eq_true, Bool.and_eq_true, Bool.or_eq_true, Bool.not_eq_true', Bool.not_eq_false', Bool.and_eq_false_imp, Bool.or_eq_false_iff, bne_iff_ne, beq_iff_eq, bne_eq_false_iff_eq, beq_eq_false_iff_ne, gt_iff_lt, ge_iff_le, Int.not_lt, Int.not_le, ne_eq, Bool.true_eq_false, Bool.false_eq_true, reduceCtorEq, eta_Airway, eta_Fan, eta_Mine] at hb)
    | refine RetF.auto (And.intro rfl ?_)
    | exact Is.mk rfl rfl
    | refine Is.mk ?_ rfl
    | refine Is.mk rfl ?_
    | refine Is.mk ?_ ?_
--@fn spec.l03Flow
theorem sflT (q : Int) (h : -100000 ≤ q ∧ q ≤ 100000) : FnSem Tryz.prog 74 [In q] [] (Is [Bo true] []) := by
  have := sflX q
  rwa [inR_iff.2 h] at this
--@fn spec.PressureAt
theorem prAtT (f : GFan) (q : Int) (h : okFan f) (hq : -100000 ≤ q ∧ q ≤ 100000) : FnSem Tryz.prog 29 [.p .any (.agg f.cells), In q] [] (Is [In (prI f q), In 0] []) := by
  refine FnSem.walk (zs := zeroPV Tryz.prog) (by kernel_rfl) Tryz.func29 rfl Tryz.results29 (by kernel_rfl) (by kernel_rfl) (by kernel_rfl) fun hw hh => ?_
  obtain ⟨w0, w1, _⟩ := hw
  first | replace w0 := wf_Fan w0 | skip
  first | replace w1 := wf_I w1 | skip
  repeat' first
    | refine And.intro rfl ?_
    | refine GdF.mk (fun h => h) ?_
    | refine And.intro (Nat.succ_ne_zero _) ?_
    | refine And.intro (Nat.le_of_ble_eq_true rfl) ?_
    | refine SeqF.run ?_
    | refine ArgF.is (sflT q hq) ?_
    | refine ArgQ.is (fun hG => sflT q hq) rfl rfl ?_
    | refine ArgF.is (c_spec_l06Ok f h) ?_
    | refine ArgQ.is (fun hG => c_spec_l06Ok f h) rfl rfl ?_
    | refine ArgF.is (c_spec_l06Pressure f q h hq) ?_
    | refine ArgQ.is (fun hG => c_spec_l06Pressure f q h hq) rfl rfl ?_
    | refine GhF.go ?_
    | refine BndF.mk (fun _ => by omega) ?_
    | refine BndF.mk (fun _ => by simp only [lnS]; omega) ?_
    | refine EqL.mk [] rfl ?_
    | refine EqL.mk [_] rfl ?_
    | refine EqL.mk _ rfl ?_
    | refine ArgF.is (c_spec_l06Ok ⟨_, _, _⟩ (by first | assumption | omega)) ?_
    | refine ArgQ.is (fun hG => c_spec_l06Ok ⟨_, _, _⟩ (by first | assumption | omega)) rfl rfl ?_
    | refine ArgF.is (c_spec_l03Flow ..) ?_
    | refine ArgQ.is (fun hG => c_spec_l03Flow ..) rfl rfl ?_
    | refine ArgF.is (c_spec_l06Pressure ⟨_, _, _⟩ _ (by first | assumption | omega) (by first | assumption | omega)) ?_
    | refine ArgQ.is (fun hG => c_spec_l06Pressure ⟨_, _, _⟩ _ (by first | assumption | omega) (by first | assumption | omega)) rfl rfl ?_
    | refine CallF.mk (CallW.is [] true rfl ?_)
    | refine CallG.mk ?_
    | (refine CondF.mk (fun hb => ?_) (fun hb => ?_) <;> try simp only [forall_const, eq_self, not_true_eq_false, not_false_eq_true, or_false, false_or, or_self, or_true, true_or, and_true, true_and, and_false, false_and, decide_true, decide_false, Bool.not_true, Bool.not_false, decide_eq_true_eq, decide_eq_false_iff_not, ite_and_p, ite_or_p, Bool.decide_eq_true, Bool.and_eq_true, Bool.or_eq_true, Bool.not_eq_true', Bool.not_eq_false', Bool.and_eq_false_imp, Bool.or_eq_false_iff, bne_iff_ne, beq_iff_eq, bne_eq_false_iff_eq, beq_eq_false_iff_ne, gt_iff_lt, ge_iff_le, Int.not_lt, Int.not_le, ne_eq, Bool.true_eq_false, Bool.false_eq_true, reduceCtorEq, eta_Airway, eta_Fan, eta_Mine] at hb)
    | refine RetF.auto (And.intro rfl ?_)
    | exact Is.mk rfl rfl
    | refine Is.mk ?_ rfl
    | refine Is.mk rfl ?_
    | refine Is.mk ?_ ?_
  all_goals skip
end Go.Proofs.YtdhkpmaanegjkaaGreatDoor
