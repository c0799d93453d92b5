/- Contracts of functions of the program, and what they compute. Conditions: those that each theorem states. -/
import Derived.Test.YtdhkpmaanegjkaaGreatDoorProg
import Derived.Test.YtdhkpmaanegjkaaGreatDoorK25
import Derived.Test.YtdhkpmaanegjkaaGreatDoorI13
import Derived.Test.YtdhkpmaanegjkaaGreatDoorI6
import Derived.Test.YtdhkpmaanegjkaaGreatDoorI14l
import Derived.Test.YtdhkpmaanegjkaaGreatDoorI15
set_option linter.unusedVariables false
set_option linter.unusedSimpArgs false
namespace Go.Proofs.YtdhkpmaanegjkaaGreatDoor
open Go.Av
attribute [local irreducible] Go.IntKind.wrap leastI binI rdZ rd rootI rawA prI okFanB prV suI fanS
set_option maxRecDepth 20000
set_option maxHeartbeats 16000000
structure frK (f : GFan) (q p : Int) : Prop where
  ok : okFan f
  qb : -100000 ≤ q ∧ q ≤ 100000
  pe : p = prI f q
inductive PrR (f : GFan) (q : Int) (rs : List AV) (ho : List OB) : Prop
  | mk (p c : Int) (h1 : rs = [In p, In c]) (h2 : ho = []) (h : c = 0 → frK f q p)
--@fn impl.PressureAt
theorem prE (f : GFan) (q : Int) : FnSem Tryz.prog 21 [.p .any (.agg f.cells), In q] [] (PrR f q) := by
  refine (c_impl_PressureAt f q).mono fun rs ho h => ?_
  obtain ⟨h1, h2⟩ := h
  exact ⟨_, _, h1, h2, fun e => ⟨(prV_0 e).1, (prV_0 e).2.1, (prV_0 e).2.2⟩⟩
--@fn impl.PressureAt
theorem prT (f : GFan) (q : Int) (h : okFan f) (hq : -100000 ≤ q ∧ q ≤ 100000) : FnSem Tryz.prog 21 [.p .any (.agg f.cells), In q] [] (Is [In (prI f q), In 0] []) := by
  have := c_impl_PressureAt f q
  rwa [prV_t (okFanB_t h) hq] at this
inductive PnR (f : GFan) (p : Int) (rs : List AV) (ho : List OB) : Prop
  | mk (x c : Int) (h1 : rs = [In x, In c]) (h2 : ho = []) (h : (if (c == 0) = true then decide (x > p) else false) = false)
--@fn impl.PressureAt
theorem prN (f : GFan) (q p : Int) (h : frK f q p) : FnSem Tryz.prog 21 [.p .any (.agg f.cells), In (q + 1)] [] (PnR f p) := by
  refine (c_impl_PressureAt f (q + 1)).mono fun rs ho hR => ?_
  obtain ⟨h1, h2⟩ := hR
  refine ⟨_, _, h1, h2, ?_⟩
  split
  · rename_i e
    have e := prV_0 (beq_iff_eq.1 e)
    rw [e.2.2, h.pe]
    have := prI_mono h.ok (q := q) (q' := q + 1) (by omega)
    exact decide_eq_false (by omega)
  · rfl
section
variable {f : GFan} {q p : Int}
theorem frK.b0 (h : frK f q p) : decide (p < 0) = false := decide_eq_false (by have := prI_b h.ok q; have := h.pe; omega)
theorem frK.b2 (h : frK f q p) : decide (prI f (Int.negSucc 99999) < p) = false := decide_eq_false (by have := h.qb; have := h.pe; have e := prI_mono h.ok (q := Int.negSucc 99999) (q' := q) (by omega); omega)
theorem frK.b3 (h : frK f q p) : (prI f (suI f) != prI f (Int.negSucc 99999)) = false := by
  have e := (sur_law h.ok).2.1
  have e2 : prI f (suI f) = prI f (Int.negSucc 99999) := e
  rw [e2]; simp
theorem frK.b4 (h : frK f q p) (hs : suI f < 100000) : decide (prI f (suI f + 1) ≥ prI f (Int.negSucc 99999)) = false := by
  have e : prI f (suI f + 1) < prI f (Int.negSucc 99999) := (sur_law h.ok).2.2 hs
  exact decide_eq_false (by omega)
theorem frK.sb (h : frK f q p) : 0 ≤ suI f ∧ suI f ≤ 100000 := (sur_law h.ok).1
end
theorem iteF6 {b : Bool} : (if (false = true) then true else b) = b := rfl
theorem ne006 : ((0 : Int) != 0) = false := rfl
theorem serB {x y z : Int} (h : x = y + z) : (x != y + z) = false := by rw [h]; simp
theorem c_laws_FnFans (c1 c2 : List Int) : FnSem Tryz.prog 4 [Lx (LY c1), Lx (LY c2)] [] (Is [Bo true] []) := by
  refine FnSem.walk (zs := zeroPV Tryz.prog) (by kernel_rfl) Tryz.func4 rfl Tryz.results4 (by kernel_rfl) (by kernel_rfl) (by kernel_rfl) fun hw hh => ?_
  obtain ⟨w0, w1, _⟩ := hw
  first | replace w0 := wf_LY w0 | skip
  first | replace w1 := wf_LY w1 | skip
  have hc1 : bytes c1 := w0.2
  have hc2 : bytes c2 := w1.2
  repeat' first
    | exact True.intro
    | rw [iteF6]
    | rw [ne006]
    | rw [(hq (by assumption)).b0]
    | rw [hN]
    | rw [(hq (by assumption)).b2]
    | rw [(hq (by assumption)).b3]
    | rw [(hq (by assumption)).b4 (by assumption)]
    | rw [serB (hs i.toNat (by omega))]
    | refine And.intro rfl ?_
    | refine GdF.mk (fun h => h) ?_
    | refine And.intro (Nat.succ_ne_zero _) ?_
    | refine And.intro (Nat.le_of_ble_eq_true rfl) ?_
    | (refine SeqF.cutfix (a := codeF _ _ _ (.seq _ (.cond (.tmp 50) _ _))) [1] [] (Unit × Unit) (fun _ => True) (fun _ => []) (fun _ => []) ?_ ?_; rotate_left; rintro ⟨⟨⟩, ⟨⟩⟩ _; rotate_left)
    | apply FitF.auto2 () ()
    | refine SeqF.run ?_
    | (refine ArgF.ret (c_spec_DrawPressureAt c1 hc1) ?_; rintro ⟨f, q⟩ hqb; dsimp only at hqb ⊢)
    | (refine ArgF.mk _ (prE f q) (fun rs ho hR _ => ?_); obtain ⟨p, one, rfl, rfl, hq⟩ := hR)
    | (refine ArgF.mk _ (prN f q p (hq (by assumption))) (fun rs ho hR _ => ?_); obtain ⟨x, two, rfl, rfl, hN⟩ := hR)
    | refine ArgF.is (prT f (Int.negSucc 99999) (hq (by assumption)).ok (by omega)) ?_
    | refine ArgQ.is (fun hG => prT f (Int.negSucc 99999) (hq (by assumption)).ok (by omega)) rfl rfl ?_
    | refine ArgF.is (prT f (suI f) (hq (by assumption)).ok (by have := (hq (by assumption)).sb; omega)) ?_
    | refine ArgQ.is (fun hG => prT f (suI f) (hq (by assumption)).ok (by have := (hq (by assumption)).sb; omega)) rfl rfl ?_
    | refine ArgF.is (prT f (suI f + 1) (hq (by assumption)).ok (by have := (hq (by assumption)).sb; omega)) ?_
    | refine ArgQ.is (fun hG => prT f (suI f + 1) (hq (by assumption)).ok (by have := (hq (by assumption)).sb; omega)) rfl rfl ?_
    | refine ArgF.is (surgeT f (hq (by assumption)).ok) ?_
    | refine ArgQ.is (fun hG => surgeT f (hq (by assumption)).ok) rfl rfl ?_
    | refine ArgF.is (speedT f (hq (by assumption)).ok) ?_
    | refine ArgQ.is (fun hG => speedT f (hq (by assumption)).ok) rfl rfl ?_
    | refine ArgF.is (fanTx f (hq (by assumption)).ok) ?_
    | refine ArgQ.is (fun hG => fanTx f (hq (by assumption)).ok) rfl rfl ?_
    | refine ArgF.is (rdF f (hq (by assumption)).ok) ?_
    | refine ArgQ.is (fun hG => rdF f (hq (by assumption)).ok) rfl rfl ?_
    | refine ArgF.is (sameF f) ?_
    | refine ArgQ.is (fun hG => sameF f) rfl rfl ?_
    | refine EqI.mk (q + 1) (fun _ => wrapI (by omega) (by omega)) ?_
    | refine EqI.mk (suI f + 1) (fun _ => by have := (hq (by assumption)).sb; exact wrapI (by omega) (by omega)) ?_
    | (refine ArgF.ret (c_spec_DrawFansInSeries c2 hc2) ?_; rintro ⟨a, b⟩ -; dsimp only)
    | refine CallF.mk (f := 28) (CallW.is [] false rfl ?_)
    | (refine ArgF.mk _ (fsT a b) (fun rs ho hR _ => ?_); rcases hR with ⟨rfl, rfl⟩ | ⟨rfl, rfl⟩ | ⟨rfl, rfl⟩ | ⟨g, rfl, rfl, ha, hb9, hg, hs⟩)
    | refine ArgF.is (prAtT a ((g.curve.getD i.toNat []).getD 0 0) ha (by have := hg.cu.pt i.toNat (by omega); omega)) ?_
    | refine ArgQ.is (fun hG => prAtT a ((g.curve.getD i.toNat []).getD 0 0) ha (by have := hg.cu.pt i.toNat (by omega); omega)) rfl rfl ?_
    | refine ArgF.is (prAtT b ((g.curve.getD i.toNat []).getD 0 0) hb9 (by have := hg.cu.pt i.toNat (by omega); omega)) ?_
    | refine ArgQ.is (fun hG => prAtT b ((g.curve.getD i.toNat []).getD 0 0) hb9 (by have := hg.cu.pt i.toNat (by omega); omega)) rfl rfl ?_
    | refine ArgF.is (svF g hg) ?_
    | refine ArgQ.is (fun hG => svF g hg) rfl rfl ?_
    | refine EqI.mk _ (fun _ => by have g1 := prI_b ha ((g.curve.getD i.toNat []).getD 0 0); have g2 := prI_b hb9 ((g.curve.getD i.toNat []).getD 0 0); exact wrapI (by omega) (by omega)) ?_
    | refine EqI.mk (i + 1) (fun _ => by have := hg.cu.ln; exact wrapI (by omega) (by omega)) ?_
    | refine BndF.mk (fun _ => by have := hg.cu.pt i.toNat (by omega); first | omega | (simp only [List.length_map]; omega)) ?_
    | refine LoopF.at 25 rfl (LoopF.fix [23, 24, 25] (Int) (fun i => 0 ≤ i ∧ i ≤ g.curve.length) (fun i => [(27, In i)]) (fun i => []) (fun i => ((g.curve.length - i).toNat)) (0) ?_)
    | (refine LoopB.of (T := Int) ?_ ?_; rotate_left; rintro i ⟨i0, i1⟩; rotate_left)
    | refine GhF.go ?_
    | refine GdS.keep ?_
    | refine DrawG.old (DrawF.lex (by decide +kernel) ?_)
    | refine EqP.mk _ (gm eY 0 rfl) ?_
    | refine EqP.mk _ (gm eI 0 rfl) ?_
    | refine EqP.mk _ (gmb eLI [] (by omega)) ?_
    | refine BndF.mk (fun _ => by omega) ?_
    | refine BndF.mk (fun _ => by simp only [lnS]; omega) ?_
    | refine BndF.mk (fun hG => by simp only [forall_const, eq_self, not_true_eq_false, not_false_eq_true, or_false, false_or, or_self, or_true, true_or, and_true, true_and, and_false, false_and, decide_true, decide_false, Bool.not_true, Bool.not_false, decide_eq_true_eq, decide_eq_false_iff_not, ite_and_p, ite_or_p, Bool.decide_eq_true, Bool.and_eq_true, Bool.or_eq_true, Bool.not_eq_true', Bool.not_eq_false', Bool.and_eq_false_imp, Bool.or_eq_false_iff, bne_iff_ne, beq_iff_eq, bne_eq_false_iff_eq, beq_eq_false_iff_ne, gt_iff_lt, ge_iff_le, Int.not_lt, Int.not_le, ne_eq, Bool.true_eq_false, Bool.false_eq_true, reduceCtorEq, eta_Airway, eta_Fan, eta_Mine, bytes_nil] at hG; (try simp only [List.length_map]); omega) ?_
    | refine EqI.mk _ (fun _ => wrapI (by omega) (by omega)) ?_
    | refine EqI.mk _ (fun _ => rfl) ?_
    | refine EqN.mk _ (ln eY) ?_
    | refine EqN.mk _ (ln eI) ?_
    | refine EqN.mk _ (ln eLI) ?_
    | refine EqN.mk _ (Nat.zero_add _) ?_
    | refine EqN.mk _ (Int.toNat_natCast _) ?_
    | refine EqN.mk _ rfl ?_
    | refine EqL.mk _ (tk eY (by first | rfl | assumption | omega | (simp only [lnS] <;> omega))) ?_
    | refine EqL.mk _ (st eY) ?_
    | refine EqL.mk _ (tk eI (by first | rfl | assumption | omega | (simp only [lnS] <;> omega))) ?_
    | refine EqL.mk _ (st eI) ?_
    | refine EqL.mk _ (tk eLI (by first | rfl | assumption | omega | (simp only [lnS] <;> omega))) ?_
    | refine EqL.mk _ (st eLI) ?_
    | refine EqL.mk [] rfl ?_
    | refine EqL.mk [_] rfl ?_
    | refine EqL.mk _ rfl ?_
    | refine ArgF.is (c_laws_b10Long ..) ?_
    | refine ArgQ.is (fun hG => c_laws_b10Long ..) rfl rfl ?_
    | refine ArgF.is (c_spec_DrawPressureAt _ (by first | assumption | omega)) ?_
    | refine ArgQ.is (fun hG => c_spec_DrawPressureAt _ (by first | assumption | omega)) rfl rfl ?_
    | refine ArgQ.is (fun hG => c_spec_DrawPressureAt _ (by simp only [forall_const, eq_self, not_true_eq_false, not_false_eq_true, or_false, false_or, or_self, or_true, true_or, and_true, true_and, and_false, false_and, decide_true, decide_false, Bool.not_true, Bool.not_false, decide_eq_true_eq, decide_eq_false_iff_not, ite_and_p, ite_or_p, Bool.decide_eq_true, Bool.and_eq_true, Bool.or_eq_true, Bool.not_eq_true', Bool.not_eq_false', Bool.and_eq_false_imp, Bool.or_eq_false_iff, bne_iff_ne, beq_iff_eq, bne_eq_false_iff_eq, beq_eq_false_iff_ne, gt_iff_lt, ge_iff_le, Int.not_lt, Int.not_le, ne_eq, Bool.true_eq_false, Bool.false_eq_true, reduceCtorEq, eta_Airway, eta_Fan, eta_Mine, bytes_nil] at hG; omega)) rfl rfl ?_
    | refine ArgF.is (c_impl_PressureAt ⟨_, _, _⟩ _) ?_
    | refine ArgQ.is (fun hG => c_impl_PressureAt ⟨_, _, _⟩ _) rfl rfl ?_
    | refine ArgF.is (c_impl_SurgeFlow ..) ?_
    | refine ArgQ.is (fun hG => c_impl_SurgeFlow ..) rfl rfl ?_
    | refine ArgF.is (c_impl_SpeedFan ..) ?_
    | refine ArgQ.is (fun hG => c_impl_SpeedFan ..) rfl rfl ?_
    | refine ArgF.is (c_impl_FanText ..) ?_
    | refine ArgQ.is (fun hG => c_impl_FanText ..) rfl rfl ?_
    | refine ArgF.is (c_impl_ReadFan ..) ?_
    | refine ArgQ.is (fun hG => c_impl_ReadFan ..) rfl rfl ?_
    | refine ArgF.is (c_spec_SameFan ..) ?_
    | refine ArgQ.is (fun hG => c_spec_SameFan ..) rfl rfl ?_
    | refine ArgF.is (c_spec_DrawFansInSeries _ (by first | assumption | omega)) ?_
    | refine ArgQ.is (fun hG => c_spec_DrawFansInSeries _ (by first | assumption | omega)) rfl rfl ?_
    | refine ArgQ.is (fun hG => c_spec_DrawFansInSeries _ (by simp only [forall_const, eq_self, not_true_eq_false, not_false_eq_true, or_false, false_or, or_self, or_true, true_or, and_true, true_and, and_false, false_and, decide_true, decide_false, Bool.not_true, Bool.not_false, decide_eq_true_eq, decide_eq_false_iff_not, ite_and_p, ite_or_p, Bool.decide_eq_true, Bool.and_eq_true, Bool.or_eq_true, Bool.not_eq_true', Bool.not_eq_false', Bool.and_eq_false_imp, Bool.or_eq_false_iff, bne_iff_ne, beq_iff_eq, bne_eq_false_iff_eq, beq_eq_false_iff_ne, gt_iff_lt, ge_iff_le, Int.not_lt, Int.not_le, ne_eq, Bool.true_eq_false, Bool.false_eq_true, reduceCtorEq, eta_Airway, eta_Fan, eta_Mine, bytes_nil] at hG; omega)) rfl rfl ?_
    | refine ArgF.is (c_impl_FansInSeries ..) ?_
    | refine ArgQ.is (fun hG => c_impl_FansInSeries ..) rfl rfl ?_
    | refine ArgF.is (c_spec_PressureAt ..) ?_
    | refine ArgQ.is (fun hG => c_spec_PressureAt ..) rfl rfl ?_
    | refine ArgF.is (c_spec_ValidFan ..) ?_
    | refine ArgQ.is (fun hG => c_spec_ValidFan ..) rfl rfl ?_
    | refine CallF.mk (CallW.is [] true rfl ?_)
    | refine CallG.mk ?_
    | (refine CondF.mk (fun hb => ?_) (fun hb => ?_) <;> try simp only [forall_const, eq_self, not_true_eq_false, not_false_eq_true, or_false, false_or, or_self, or_true, true_or, and_true, true_and, and_false, false_and, decide_true, decide_false, Bool.not_true, Bool.not_false, decide_eq_true_eq, decide_eq_false_iff_not, ite_and_p, ite_or_p, Bool.decide_eq_true, Bool.and_eq_true, Bool.or_eq_true, Bool.not_eq_true', Bool.not_eq_false', Bool.and_eq_false_imp, Bool.or_eq_false_iff, bne_iff_ne, beq_iff_eq, bne_eq_false_iff_eq, beq_eq_false_iff_ne, gt_iff_lt, ge_iff_le, Int.not_lt, Int.not_le, ne_eq, Bool.true_eq_false, Bool.false_eq_true, reduceCtorEq, eta_Airway, eta_Fan, eta_Mine] at hb)
    | apply BackF.auto
    | refine BackB.mk ?_ ?_
    | refine RetF.auto (And.intro rfl ?_)
    | exact Is.mk rfl rfl
    | refine Is.mk ?_ rfl
    | refine Is.mk rfl ?_
    | refine Is.mk ?_ ?_
  all_goals try dsimp only
  all_goals first
    | omega
    | exact ⟨by omega, by omega⟩
    | assumption
    | rfl
    | (exfalso; have := (hg.cu.pt i.toNat (by omega)).1; omega)
    | (exfalso; exact hb (hs i.toNat (by omega)))
    | skip
end Go.Proofs.YtdhkpmaanegjkaaGreatDoor
