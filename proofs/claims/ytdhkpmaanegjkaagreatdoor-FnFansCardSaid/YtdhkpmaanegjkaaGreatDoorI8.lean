/- Contracts of functions of the program, and what they compute. Conditions: those that each theorem states. -/
import Derived.Test.YtdhkpmaanegjkaaGreatDoorProg
import Derived.Test.YtdhkpmaanegjkaaGreatDoorO0
set_option linter.unusedVariables false
set_option linter.unusedSimpArgs false
namespace Go.Proofs.YtdhkpmaanegjkaaGreatDoor
open Go.Av
attribute [local irreducible] Go.IntKind.wrap leastI rdZ rd rootI rawA prI
set_option maxRecDepth 20000
set_option maxHeartbeats 16000000
noncomputable def okFanB (f : GFan) : Bool := @decide (okFan f) (Classical.propDecidable _)
theorem okFanB_t {f : GFan} (h : okFan f) : okFanB f = true := @decide_eq_true _ (Classical.propDecidable _) h
theorem okFanB_f {f : GFan} (h : ¬okFan f) : okFanB f = false := @decide_eq_false _ (Classical.propDecidable _) h
theorem okFanB_p {f : GFan} (h : okFanB f = true) : okFan f := @of_decide_eq_true _ (Classical.propDecidable _) h
--@fn impl.ValidFan
theorem vFanX (f : GFan) : FnSem Tryz.prog 64 [.p .any (.agg f.cells)] [] (Is [Bo (okFanB f)] []) := by
  refine FnSem.walk (zs := zeroPV Tryz.prog) (by kernel_rfl) Tryz.func64 rfl Tryz.results64 (by kernel_rfl) (by kernel_rfl) (by kernel_rfl) fun hw hh => ?_
  obtain ⟨w0, _⟩ := hw
  first | replace w0 := wf_Fan w0 | skip
  repeat' first
    | refine And.intro rfl ?_
    | refine GdF.mk (fun h => h) ?_
    | refine And.intro (Nat.succ_ne_zero _) ?_
    | refine And.intro (Nat.le_of_ble_eq_true rfl) ?_
    | refine SeqF.run ?_
    | refine LoopF.at 4 rfl (LoopF.fix [1, 28, 29] (Int) (fun k => 0 ≤ k ∧ k ≤ f.curve.length ∧ (isName f.id = true ∧ inR f.airway 0 23 = true ∧ 2 ≤ f.curve.length ∧ f.curve.length ≤ 8) ∧ (∀ j : Nat, (j : Int) < k → (f.curve.getD j []).length = 2 ∧ (0 ≤ (f.curve.getD j []).getD 0 0 ∧ (f.curve.getD j []).getD 0 0 ≤ 100000) ∧ (0 ≤ (f.curve.getD j []).getD 1 0 ∧ (f.curve.getD j []).getD 1 0 ≤ 10000)) ∧ (∀ j : Nat, 0 < j → (j : Int) < k → (f.curve.getD (j - 1) []).getD 0 0 < (f.curve.getD j []).getD 0 0 ∧ (f.curve.getD j []).getD 1 0 ≤ (f.curve.getD (j - 1) []).getD 1 0)) (fun k => [(30, In k)]) (fun k => []) (fun k => ((f.curve.length - k).toNat)) (0) ?_)
    | (refine LoopB.of (T := Int) ?_ ?_; rotate_left; rintro k ⟨k0, k1, k2, k3, k4⟩; rotate_left)
    | refine BndF.mk (fun hG => by simp only [Bool.and_eq_true, Bool.not_eq_true', bne_eq_false_iff_eq, decide_eq_true_eq] at hG; first | omega | (simp only [List.length_map]; omega)) ?_
    | refine BndF.mk (fun hG => by simp only [Bool.and_eq_true, decide_eq_true_eq] at hG; have q := k3 (k - 1).toNat (by omega); first | omega | (simp only [List.length_map]; omega)) ?_
    | refine GhF.go ?_
    | refine GdS.keep ?_
    | refine DrawG.old (DrawF.lex (by decide +kernel) ?_)
    | refine EqP.mk _ (gm eI 0 rfl) ?_
    | refine EqP.mk _ (gmb eLI [] (by omega)) ?_
    | refine BndF.mk (fun _ => by omega) ?_
    | refine BndF.mk (fun _ => by simp only [lnS]; omega) ?_
    | refine BndF.mk (fun hG => by simp only [forall_const, eq_self, not_true_eq_false, not_false_eq_true, or_false, false_or, or_self, or_true, true_or, and_true, true_and, and_false, false_and, decide_true, decide_false, Bool.not_true, Bool.not_false, decide_eq_true_eq, decide_eq_false_iff_not, ite_and_p, ite_or_p, Bool.decide_eq_true, Bool.and_eq_true, Bool.or_eq_true, Bool.not_eq_true', Bool.not_eq_false', Bool.and_eq_false_imp, Bool.or_eq_false_iff, bne_iff_ne, beq_iff_eq, bne_eq_false_iff_eq, beq_eq_false_iff_ne, gt_iff_lt, ge_iff_le, Int.not_lt, Int.not_le, ne_eq, Bool.true_eq_false, Bool.false_eq_true, reduceCtorEq, eta_Airway, eta_Fan, eta_Mine, bytes_nil] at hG; (try simp only [List.length_map]); omega) ?_
    | refine EqI.mk _ (fun _ => wrapI (by omega) (by omega)) ?_
    | refine EqI.mk _ (fun _ => rfl) ?_
    | refine EqN.mk _ (ln eI) ?_
    | refine EqN.mk _ (ln eLI) ?_
    | refine EqN.mk _ (Nat.zero_add _) ?_
    | refine EqN.mk _ (Int.toNat_natCast _) ?_
    | refine EqN.mk _ rfl ?_
    | refine EqL.mk _ (tk eI (by first | rfl | assumption | omega | (simp only [lnS] <;> omega))) ?_
    | refine EqL.mk _ (tk eLI (by first | rfl | assumption | omega | (simp only [lnS] <;> omega))) ?_
    | refine EqL.mk [] rfl ?_
    | refine EqL.mk [_] rfl ?_
    | refine EqL.mk _ rfl ?_
    | refine ArgF.is (c_impl_IsName ..) ?_
    | refine ArgQ.is (fun hG => c_impl_IsName ..) rfl rfl ?_
    | refine ArgF.is (c_impl_within ..) ?_
    | refine ArgQ.is (fun hG => c_impl_within ..) rfl rfl ?_
    | refine CallF.mk (CallW.is [] true rfl ?_)
    | refine CallG.mk ?_
    | (refine CondF.mk (fun hb => ?_) (fun hb => ?_) <;> try simp only [forall_const, eq_self, not_true_eq_false, not_false_eq_true, or_false, false_or, or_self, or_true, true_or, and_true, true_and, and_false, false_and, decide_true, decide_false, Bool.not_true, Bool.not_false, decide_eq_true_eq, decide_eq_false_iff_not, ite_and_p, ite_or_p, Bool.decide_eq_true, Bool.and_eq_true, Bool.or_eq_true, Bool.not_eq_true', Bool.not_eq_false', Bool.and_eq_false_imp, Bool.or_eq_false_iff, bne_iff_ne, beq_iff_eq, bne_eq_false_iff_eq, beq_eq_false_iff_ne, gt_iff_lt, ge_iff_le, Int.not_lt, Int.not_le, ne_eq, Bool.true_eq_false, Bool.false_eq_true, reduceCtorEq, eta_Airway, eta_Fan, eta_Mine] at hb)
    | apply BackF.auto
    | refine BackB.mk ?_ ?_
    | refine RetF.auto (And.intro rfl ?_)
    | exact Is.mk rfl rfl
    | refine Is.mk ?_ rfl
    | refine Is.mk rfl ?_
    | refine Is.mk ?_ ?_
  all_goals try dsimp only
  all_goals try simp only [Bo, I, OB.row.injEq, AV.osl.injEq, eI_same,  List.cons.injEq, AV.p.injEq, PV.c.injEq, Value.int.injEq, Value.bool.injEq, and_true, true_and, ite_and_p, ite_or_p, Bool.decide_eq_true, eta_Airway, eta_Fan, eta_Mine]
  all_goals try dsimp only
  all_goals first
    | omega
    | (refine (okFanB_f fun h => ?_).symm
       have h1 := h.aw
       have h2 := h.cu.ln
       rcases hb with ((hb | hb) | hb) | hb
       · rw [h.nm] at hb; cases hb
       · rw [inR_iff.2 h.aw] at hb; cases hb
       · omega
       · omega)
    | (refine (okFanB_f fun h => ?_).symm
       have q1 := h.cu.pt k.toNat (by omega)
       rcases hb with ((hb | hb) | hb) | ⟨a, b⟩
       · omega
       · have e : inR ((f.curve.getD k.toNat []).getD (Int.toNat 0) 0) 0 100000 = true := inR_iff.2 q1.2.1
         rw [e] at hb; cases hb
       · have e : inR ((f.curve.getD k.toNat []).getD (Int.toNat 1) 0) 0 10000 = true := inR_iff.2 q1.2.2
         rw [e] at hb; cases hb
       · have q3 := h.cu.so k.toNat (by omega) (by omega)
         rw [show k.toNat - 1 = (k - 1).toNat by omega] at q3
         rcases b with b | b
         · have b2 : (f.curve.getD k.toNat []).getD 0 0 ≤ (f.curve.getD (k - 1).toNat []).getD 0 0 := b
           omega
         · have b2 : (f.curve.getD (k - 1).toNat []).getD 1 0 < (f.curve.getD k.toNat []).getD 1 0 := b
           omega)
    | (have h1 := hb.1
       simp only [not_or, Bool.not_eq_false] at h1
       exact ⟨by omega, by omega, ⟨h1.1.1, h1.1.2, by omega, by omega⟩, fun j a => absurd a (by omega), fun j a b => absurd b (by omega)⟩)
    | (have h1 := hb.1
       simp only [not_or, Decidable.not_not, Bool.not_eq_false, inR_iff] at h1
       have g1 : (f.curve.getD k.toNat []).length = 2 := by omega
       have g2 : 0 ≤ (f.curve.getD k.toNat []).getD 0 0 ∧ (f.curve.getD k.toNat []).getD 0 0 ≤ 100000 := h1.1.2
       have g3 : 0 ≤ (f.curve.getD k.toNat []).getD 1 0 ∧ (f.curve.getD k.toNat []).getD 1 0 ≤ 10000 := h1.2
       have g4 := hb.2
       refine ⟨by omega, by omega, k2, fun j a => ?_, fun j a b => ?_⟩
       · by_cases e : (j : Int) = k
         · obtain rfl : j = k.toNat := by omega
           exact ⟨g1, g2, g3⟩
         · exact k3 j (by omega)
       · by_cases e : (j : Int) = k
         · obtain rfl : j = k.toNat := by omega
           rw [show k.toNat - 1 = (k - 1).toNat by omega]
           exact g4 (by omega)
         · exact k4 j a (by omega))
    | exact (okFanB_t ⟨k2.1, inR_iff.1 k2.2.1, ⟨k2.2.2, fun j hj => k3 j (by omega), fun j a b => k4 j a (by omega)⟩⟩).symm
    | skip
end Go.Proofs.YtdhkpmaanegjkaaGreatDoor

set_option linter.unusedVariables false
set_option linter.unusedSimpArgs false
namespace Go.Proofs.YtdhkpmaanegjkaaGreatDoor
open Go.Av
attribute [local irreducible] Go.IntKind.wrap leastI rdZ rd rootI rawA prI
set_option maxRecDepth 20000
set_option maxHeartbeats 16000000
open Classical in
noncomputable def prV (f : GFan) (q : Int) : Int × Int := if okFan f then (if -100000 ≤ q ∧ q ≤ 100000 then (prI f q, 0) else (0, 2)) else (0, 1)
theorem prV_0 {f : GFan} {q : Int} (h : (prV f q).2 = 0) : okFan f ∧ (-100000 ≤ q ∧ q ≤ 100000) ∧ (prV f q).1 = prI f q := by
  unfold prV at h ⊢
  split at h
  · rename_i h1
    rw [if_pos h1]
    split at h
    · rename_i h2
      rw [if_pos h2]; exact ⟨h1, h2, rfl⟩
    · exact absurd h (by decide)
  · exact absurd h (by decide)
theorem prV_f {f : GFan} {q : Int} (h : okFanB f = false) : prV f q = (0, 1) := by
  unfold prV
  rw [if_neg]
  intro h1
  rw [okFanB_t h1] at h
  cases h
theorem prV_r {f : GFan} {q : Int} (h : okFanB f = true) (hq : ¬(-100000 ≤ q ∧ q ≤ 100000)) : prV f q = (0, 2) := by
  unfold prV
  rw [if_pos (okFanB_p h), if_neg hq]
theorem prV_t {f : GFan} {q : Int} (h : okFanB f = true) (hq : -100000 ≤ q ∧ q ≤ 100000) : prV f q = (prI f q, 0) := by
  unfold prV
  rw [if_pos (okFanB_p h), if_pos hq]
--@fn impl.flowOk
theorem foX (q : Int) : FnSem Tryz.prog 65 [In q] [] (Is [Bo (inR q (-100000) 100000)] []) := by
  refine FnSem.walk (zs := zeroPV Tryz.prog) (by kernel_rfl) Tryz.func65 rfl Tryz.results65 (by kernel_rfl) (by kernel_rfl) (by kernel_rfl) fun hw hh => ?_
  obtain ⟨w0, _⟩ := hw
  first | replace w0 := wf_I w0 | skip
  repeat' first
    | refine And.intro rfl ?_
    | refine GdF.mk (fun h => h) ?_
    | refine And.intro (Nat.succ_ne_zero _) ?_
    | refine And.intro (Nat.le_of_ble_eq_true rfl) ?_
    | refine SeqF.run ?_
    | refine GhF.go ?_
    | refine BndF.mk (fun _ => by omega) ?_
    | refine BndF.mk (fun _ => by simp only [lnS]; omega) ?_
    | refine EqL.mk [] rfl ?_
    | refine EqL.mk [_] rfl ?_
    | refine EqL.mk _ rfl ?_
    | refine ArgF.is (c_impl_within ..) ?_
    | refine ArgQ.is (fun hG => c_impl_within ..) rfl rfl ?_
    | refine CallF.mk (CallW.is [] true rfl ?_)
    | refine CallG.mk ?_
    | (refine CondF.mk (fun hb => ?_) (fun hb => ?_) <;> try simp only [forall_const, eq_self, not_true_eq_false, not_false_eq_true, or_false, false_or, or_self, or_true, true_or, and_true, true_and, and_false, false_and, decide_true, decide_false, Bool.not_true, Bool.not_false, decide_eq_true_eq, decide_eq_false_iff_not, ite_and_p, ite_or_p, Bool.decide_eq_true, Bool.and_eq_true, Bool.or_eq_true, Bool.not_eq_true', Bool.not_eq_false', Bool.and_eq_false_imp, Bool.or_eq_false_iff, bne_iff_ne, beq_iff_eq, bne_eq_false_iff_eq, beq_eq_false_iff_ne, gt_iff_lt, ge_iff_le, Int.not_lt, Int.not_le, ne_eq, Bool.true_eq_false, Bool.false_eq_true, reduceCtorEq, eta_Airway, eta_Fan, eta_Mine] at hb)
    | refine RetF.auto (And.intro rfl ?_)
    | exact Is.mk rfl rfl
    | refine Is.mk ?_ rfl
    | refine Is.mk rfl ?_
    | refine Is.mk ?_ ?_
theorem c_impl_PressureAt (f : GFan) (q : Int) : FnSem Tryz.prog 21 [.p .any (.agg f.cells), In q] [] (Is [In (prV f q).1, In (prV f q).2] []) := by
  refine FnSem.walk (zs := zeroPV Tryz.prog) (by kernel_rfl) Tryz.func21 rfl Tryz.results21 (by kernel_rfl) (by kernel_rfl) (by kernel_rfl) fun hw hh => ?_
  obtain ⟨w0, w1, _⟩ := hw
  first | replace w0 := wf_Fan w0 | skip
  first | replace w1 := wf_I w1 | skip
  repeat' first
    | refine And.intro rfl ?_
    | refine GdF.mk (fun h => h) ?_
    | refine And.intro (Nat.succ_ne_zero _) ?_
    | refine And.intro (Nat.le_of_ble_eq_true rfl) ?_
    | refine SeqF.run ?_
    | refine ArgF.is (vFanX f) ?_
    | refine ArgQ.is (fun hG => vFanX f) rfl rfl ?_
    | refine ArgF.is (foX q) ?_
    | refine ArgQ.is (fun hG => foX q) rfl rfl ?_
    | refine ArgF.is (c_impl_Fan_pressure f q (okFanB_p (by assumption)) (inR_iff.1 (by assumption))) ?_
    | refine ArgQ.is (fun hG => c_impl_Fan_pressure f q (okFanB_p (by assumption)) (inR_iff.1 (by assumption))) rfl rfl ?_
    | refine GhF.go ?_
    | refine BndF.mk (fun _ => by omega) ?_
    | refine BndF.mk (fun _ => by simp only [lnS]; omega) ?_
    | refine EqL.mk [] rfl ?_
    | refine EqL.mk [_] rfl ?_
    | refine EqL.mk _ rfl ?_
    | refine ArgF.is (c_impl_ValidFan ..) ?_
    | refine ArgQ.is (fun hG => c_impl_ValidFan ..) rfl rfl ?_
    | refine ArgF.is (c_impl_flowOk ..) ?_
    | refine ArgQ.is (fun hG => c_impl_flowOk ..) rfl rfl ?_
    | refine ArgF.is (c_impl_Fan_pressure ⟨_, _, _⟩ _ (by first | assumption | omega) (by first | assumption | omega)) ?_
    | refine ArgQ.is (fun hG => c_impl_Fan_pressure ⟨_, _, _⟩ _ (by first | assumption | omega) (by first | assumption | omega)) rfl rfl ?_
    | refine CallF.mk (CallW.is [] true rfl ?_)
    | refine CallG.mk ?_
    | (refine CondF.mk (fun hb => ?_) (fun hb => ?_) <;> try simp only [forall_const, eq_self, not_true_eq_false, not_false_eq_true, or_false, false_or, or_self, or_true, true_or, and_true, true_and, and_false, false_and, decide_true, decide_false, Bool.not_true, Bool.not_false, decide_eq_true_eq, decide_eq_false_iff_not, ite_and_p, ite_or_p, Bool.decide_eq_true, Bool.and_eq_true, Bool.or_eq_true, Bool.not_eq_true', Bool.not_eq_false', Bool.and_eq_false_imp, Bool.or_eq_false_iff, bne_iff_ne, beq_iff_eq, bne_eq_false_iff_eq, beq_eq_false_iff_ne, gt_iff_lt, ge_iff_le, Int.not_lt, Int.not_le, ne_eq, Bool.true_eq_false, Bool.false_eq_true, reduceCtorEq, eta_Airway, eta_Fan, eta_Mine] at hb)
    | refine RetF.auto (And.intro rfl ?_)
    | exact Is.mk rfl rfl
    | refine Is.mk ?_ rfl
    | refine Is.mk rfl ?_
    | refine Is.mk ?_ ?_
  all_goals try dsimp only
  all_goals try simp only [Bo, I, OB.row.injEq, AV.osl.injEq, eI_same,  List.cons.injEq, AV.p.injEq, PV.c.injEq, Value.int.injEq, Value.bool.injEq, and_true, true_and, ite_and_p, ite_or_p, Bool.decide_eq_true, eta_Airway, eta_Fan, eta_Mine]
  all_goals try dsimp only
  all_goals first
    | (rw [prV_f (by assumption)]; exact ⟨rfl, rfl⟩)
    | (rw [prV_t (by assumption) (inR_iff.1 (by assumption))]; exact ⟨rfl, rfl⟩)
    | (rw [prV_r (by assumption) (fun h => by rename_i hb; rw [inR_iff.2 h] at hb; cases hb)]; exact ⟨rfl, rfl⟩)
    | skip
end Go.Proofs.YtdhkpmaanegjkaaGreatDoor
