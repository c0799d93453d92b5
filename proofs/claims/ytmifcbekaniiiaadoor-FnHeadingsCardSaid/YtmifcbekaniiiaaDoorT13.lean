/- Contracts of functions of the program, and what they compute. Conditions: those that each theorem states. -/
import Derived.Test.YtmifcbekaniiiaaDoorProg
import Derived.Test.YtmifcbekaniiiaaDoorT12
set_option linter.unusedVariables false
set_option linter.unusedSimpArgs false
namespace Go.Proofs.YtmifcbekaniiiaaDoor
open Go.Av
attribute [local irreducible] Go.IntKind.wrap listS decS isName idS headS r8W r8A gasN mostG gasAfter fillT gasShare
set_option maxRecDepth 20000
set_option maxHeartbeats 8000000

theorem share_in {x : GHeading} {g : Int} (hv : okHeading x = true) (hg : 0 ≤ g ∧ g ≤ x.volume * 1000000) : 0 ≤ g / x.volume ∧ g / x.volume ≤ 1000000 := by
  have hv' := okHeading_b hv
  refine ⟨Int.ediv_nonneg hg.1 (by omega), Int.le_of_lt_add_one (Int.ediv_lt_of_lt_mul (by omega) ?_)⟩
  rw [Int.add_mul, Int.mul_comm 1000000]; omega
theorem out_in {x : GHeading} {s : Int} (hv : okHeading x = true) (hs : 0 ≤ s ∧ s < 1000000) (h : (gasShare x (mostG x s + 1)).2 = 0) : s < (gasShare x (mostG x s + 1)).1 := by
  have h2 := most_in hv hs
  unfold gasShare at h ⊢
  split at h
  · rename_i h1; rw [if_pos h1]; dsimp only; omega
  · cases h
theorem fill_law {h : GHeading} {s : Int} (hv : okHeading h = true) (hs : 0 ≤ s ∧ s < 1000000) (hb : (fillT h s).2 = 0) : (if decide (IntKind.i64.wrap ((fillT h s).1 * h.rate) ≤ mostG h s) = true then decide (IntKind.i64.wrap (IntKind.i64.wrap ((fillT h s).1 + 1) * h.rate) > mostG h s) else false) = true := by
  have hv' := okHeading_b hv
  have e : ¬h.rate = 0 := fun e => by
    unfold fillT at hb
    rw [if_pos e] at hb
    exact absurd hb (by decide)
  have f := fill_in (s := s) hv hs e
  have e3 := mostB (share := s) hv (by omega)
  have e4 : (fillT h s).1 = mostG h s / h.rate := by unfold fillT; rw [if_neg e]
  rw [e4]
  generalize mostG h s / h.rate = q at *
  have f2 : (q + 1) * h.rate ≤ mostG h s + 1000000 := by rw [Int.add_mul]; omega
  have hm : mostG h s ≤ 100000000000 := by omega
  rw [wrapI (n := q * h.rate) (by have := Int.mul_nonneg f.1 (show 0 ≤ h.rate by omega); omega) (by omega), wrapI (n := q + 1) (by omega) (by omega), wrapI (n := (q + 1) * h.rate) (by omega) (by omega), if_pos (decide_eq_true f.2.2.1)]
  exact decide_eq_true f.2.2.2
theorem c_laws_FnHeadings (c1 c2 : List Int) : FnSem Tryd.prog 4 [Lx (LY c1), Lx (LY c2)] [] (Is [Bo true] []) := by
  have q0 := r8W_b c2 0 (n := 60000) (by omega)
  have q2 := r8W_b c2 2 (n := 1500) (by omega)
  have q4 := r8W_b c2 4 (n := 400) (by omega)
  have q6 := r8W_b c2 6 (n := 400) (by omega)
  have q8 := r8A_b c2 8 (n := 200) (by omega)
  have q9 := r8W_b c2 9 (n := 30000) (by omega)
  refine FnSem.walk (zs := zeroPV Tryd.prog) (by kernel_rfl) Tryd.func4 rfl Tryd.results4 (by kernel_rfl) (by kernel_rfl) (by kernel_rfl) fun hw hh => ?_
  obtain ⟨w0, w1, _⟩ := hw
  first | replace w0 := wf_LY w0 | skip
  first | replace w1 := wf_LY w1 | skip
  repeat' first
    | refine And.intro rfl ?_
    | refine GdF.mk (fun h => h) ?_
    | refine And.intro (Nat.succ_ne_zero _) ?_
    | refine And.intro (Nat.le_of_ble_eq_true rfl) ?_
    | refine SeqF.run ?_
    | (refine ArgF.ret (c_spec_R8Heading c1) ?_; intro h hv; have hv' := okHeading_b hv; have hG : 0 ≤ h.volume * r8W c2 0 60000 ∧ h.volume * r8W c2 0 60000 ≤ h.volume * 1000000 := ⟨Int.mul_nonneg (by omega) (by omega), Int.mul_le_mul_of_nonneg_left (by omega) (by omega)⟩; have hN := fun q a => gasN_b (x := h) (gas := h.volume * r8W c2 0 60000) (q := q) hv hG a)
    | refine ArgF.is (gaT h (h.volume * r8W c2 0 60000) (r8W c2 2 1500) (r8W c2 4 400) hv hG (by omega) (by omega)) ?_
    | refine ArgQ.is (fun hG => gaT h (h.volume * r8W c2 0 60000) (r8W c2 2 1500) (r8W c2 4 400) hv hG (by omega) (by omega)) rfl rfl ?_
    | refine ArgF.is (gaT h (gasN h (h.volume * r8W c2 0 60000) (r8W c2 2 1500) (r8W c2 4 400).toNat) (r8W c2 2 1500) (r8W c2 6 400) hv (hN _ (by omega) _) (by omega) (by omega)) ?_
    | refine ArgQ.is (fun hG => gaT h (gasN h (h.volume * r8W c2 0 60000) (r8W c2 2 1500) (r8W c2 4 400).toNat) (r8W c2 2 1500) (r8W c2 6 400) hv (hN _ (by omega) _) (by omega) (by omega)) rfl rfl ?_
    | refine ArgF.is (gaT h (h.volume * r8W c2 0 60000) (r8W c2 2 1500) (r8W c2 4 400 + r8W c2 6 400) hv hG (by omega) (by omega)) ?_
    | refine ArgQ.is (fun hG => gaT h (h.volume * r8W c2 0 60000) (r8W c2 2 1500) (r8W c2 4 400 + r8W c2 6 400) hv hG (by omega) (by omega)) rfl rfl ?_
    | refine ArgF.is (gaT h (h.volume * r8W c2 0 60000) (r8W c2 2 1500 + r8A c2 8 200) (r8W c2 4 400 + r8W c2 6 400) hv hG (by omega) (by omega)) ?_
    | refine ArgQ.is (fun hG => gaT h (h.volume * r8W c2 0 60000) (r8W c2 2 1500 + r8A c2 8 200) (r8W c2 4 400 + r8W c2 6 400) hv hG (by omega) (by omega)) rfl rfl ?_
    | refine ArgF.is (gsT h (gasN h (h.volume * r8W c2 0 60000) (r8W c2 2 1500) (r8W c2 4 400 + r8W c2 6 400).toNat) hv (hN _ (by omega) _)) ?_
    | refine ArgQ.is (fun hG => gsT h (gasN h (h.volume * r8W c2 0 60000) (r8W c2 2 1500) (r8W c2 4 400 + r8W c2 6 400).toNat) hv (hN _ (by omega) _)) rfl rfl ?_
    | refine ArgF.is (c_impl_HeadingText h hv) ?_
    | refine ArgQ.is (fun hG => c_impl_HeadingText h hv) rfl rfl ?_
    | refine ArgF.is (c_impl_ReadHeading h hv) ?_
    | refine ArgQ.is (fun hG => c_impl_ReadHeading h hv) rfl rfl ?_
    | refine ArgF.is (c_impl_GasFor h (r8W c2 9 30000) hv (by omega)) ?_
    | refine ArgQ.is (fun hG => c_impl_GasFor h (r8W c2 9 30000) hv (by omega)) rfl rfl ?_
    | refine ArgF.is (gsT h (mostG h (r8W c2 9 30000)) hv (mostB hv (by omega))) ?_
    | refine ArgQ.is (fun hG => gsT h (mostG h (r8W c2 9 30000)) hv (mostB hv (by omega))) rfl rfl ?_
    | refine ArgF.is (c_impl_GasShare h (mostG h (r8W c2 9 30000) + 1) hv) ?_
    | refine ArgQ.is (fun hG => c_impl_GasShare h (mostG h (r8W c2 9 30000) + 1) hv) rfl rfl ?_
    | refine ArgF.is (c_impl_FillTime h (r8W c2 9 30000) hv (by omega)) ?_
    | refine ArgQ.is (fun hG => c_impl_FillTime h (r8W c2 9 30000) hv (by omega)) rfl rfl ?_
    | refine GhF.go ?_
    | refine GdS.keep ?_
    | refine DrawG.old (DrawF.lex (by decide +kernel) ?_)
    | refine AggN.mk true (by kernel_rfl) (iff_of_true rfl rfl) ?_
    | refine AggE.mk true (by kernel_rfl) (iff_of_true rfl rfl) ?_
    | refine BndF.mk (fun _ => by omega) ?_
    | refine BndF.mk (fun _ => by simp only [List.length_map, List.length_cons, List.length_nil, List.length_append, List.length_set, List.length_replicate, iotaI_len]; omega) ?_
    | refine BndF.mk (fun hG => by simp only [forall_const, eq_self, not_true_eq_false, not_false_eq_true, or_false, false_or, or_self, or_true, true_or, and_true, true_and, and_false, false_and, decide_true, decide_false, Bool.not_true, Bool.not_false, decide_eq_true_eq, decide_eq_false_iff_not, ite_and_p, ite_or_p, Bool.decide_eq_true, Bool.and_eq_true, Bool.or_eq_true, Bool.not_eq_true', Bool.not_eq_false', Bool.and_eq_false_imp, Bool.or_eq_false_iff, bne_iff_ne, beq_iff_eq, bne_eq_false_iff_eq, beq_eq_false_iff_ne, gt_iff_lt, ge_iff_le, Int.not_lt, Int.not_le, ne_eq, Bool.true_eq_false, Bool.false_eq_true, reduceCtorEq, eta_Air, eta_Heading, bytes_nil] at hG; (try simp only [List.length_map]); omega) ?_
    | refine EqI.mk _ (fun _ => wrapI (by omega) (by omega)) ?_
    | refine EqI.mk _ (fun _ => rfl) ?_
    | refine EqL.mk _ (tk eY (by first | rfl | assumption | omega | (simp only [List.length_map, List.length_cons, List.length_nil, List.length_append, List.length_set, List.length_replicate, iotaI_len]; done) | (simp only [List.length_map, List.length_cons, List.length_nil, List.length_append, List.length_set, List.length_replicate, iotaI_len]; omega))) ?_
    | refine EqL.mk _ (st eY) ?_
    | refine EqL.mk [] rfl ?_
    | refine EqL.mk [_] rfl ?_
    | refine EqL.mk _ rfl ?_
    | refine ArgF.is (c_laws_r8Long ..) ?_
    | refine ArgQ.is (fun hG => c_laws_r8Long ..) rfl rfl ?_
    | refine ArgF.is (c_spec_R8Heading ..) ?_
    | refine ArgQ.is (fun hG => c_spec_R8Heading ..) rfl rfl ?_
    | refine ArgF.is (c_laws_r8Wide _ _ _ (by first | assumption | omega) (by first | assumption | omega)) ?_
    | refine ArgQ.is (fun hG => c_laws_r8Wide _ _ _ (by first | assumption | omega) (by first | assumption | omega)) rfl rfl ?_
    | refine ArgQ.is (fun hG => c_laws_r8Wide _ _ _ (by simp only [forall_const, eq_self, not_true_eq_false, not_false_eq_true, or_false, false_or, or_self, or_true, true_or, and_true, true_and, and_false, false_and, decide_true, decide_false, Bool.not_true, Bool.not_false, decide_eq_true_eq, decide_eq_false_iff_not, ite_and_p, ite_or_p, Bool.decide_eq_true, Bool.and_eq_true, Bool.or_eq_true, Bool.not_eq_true', Bool.not_eq_false', Bool.and_eq_false_imp, Bool.or_eq_false_iff, bne_iff_ne, beq_iff_eq, bne_eq_false_iff_eq, beq_eq_false_iff_ne, gt_iff_lt, ge_iff_le, Int.not_lt, Int.not_le, ne_eq, Bool.true_eq_false, Bool.false_eq_true, reduceCtorEq, eta_Air, eta_Heading, bytes_nil] at hG; omega) (by simp only [forall_const, eq_self, not_true_eq_false, not_false_eq_true, or_false, false_or, or_self, or_true, true_or, and_true, true_and, and_false, false_and, decide_true, decide_false, Bool.not_true, Bool.not_false, decide_eq_true_eq, decide_eq_false_iff_not, ite_and_p, ite_or_p, Bool.decide_eq_true, Bool.and_eq_true, Bool.or_eq_true, Bool.not_eq_true', Bool.not_eq_false', Bool.and_eq_false_imp, Bool.or_eq_false_iff, bne_iff_ne, beq_iff_eq, bne_eq_false_iff_eq, beq_eq_false_iff_ne, gt_iff_lt, ge_iff_le, Int.not_lt, Int.not_le, ne_eq, Bool.true_eq_false, Bool.false_eq_true, reduceCtorEq, eta_Air, eta_Heading, bytes_nil] at hG; omega)) rfl rfl ?_
    | refine ArgF.is (c_impl_GasAfter ⟨_, _, _⟩ _ _ _) ?_
    | refine ArgQ.is (fun hG => c_impl_GasAfter ⟨_, _, _⟩ _ _ _) rfl rfl ?_
    | refine ArgF.is (c_laws_r8At _ _ _ (by first | assumption | omega)) ?_
    | refine ArgQ.is (fun hG => c_laws_r8At _ _ _ (by first | assumption | omega)) rfl rfl ?_
    | refine ArgQ.is (fun hG => c_laws_r8At _ _ _ (by simp only [forall_const, eq_self, not_true_eq_false, not_false_eq_true, or_false, false_or, or_self, or_true, true_or, and_true, true_and, and_false, false_and, decide_true, decide_false, Bool.not_true, Bool.not_false, decide_eq_true_eq, decide_eq_false_iff_not, ite_and_p, ite_or_p, Bool.decide_eq_true, Bool.and_eq_true, Bool.or_eq_true, Bool.not_eq_true', Bool.not_eq_false', Bool.and_eq_false_imp, Bool.or_eq_false_iff, bne_iff_ne, beq_iff_eq, bne_eq_false_iff_eq, beq_eq_false_iff_ne, gt_iff_lt, ge_iff_le, Int.not_lt, Int.not_le, ne_eq, Bool.true_eq_false, Bool.false_eq_true, reduceCtorEq, eta_Air, eta_Heading, bytes_nil] at hG; omega)) rfl rfl ?_
    | refine ArgF.is (c_impl_GasShare ⟨_, _, _⟩ _ (by first | assumption | omega)) ?_
    | refine ArgQ.is (fun hG => c_impl_GasShare ⟨_, _, _⟩ _ (by first | assumption | omega)) rfl rfl ?_
    | refine ArgQ.is (fun hG => c_impl_GasShare ⟨_, _, _⟩ _ (by simp only [forall_const, eq_self, not_true_eq_false, not_false_eq_true, or_false, false_or, or_self, or_true, true_or, and_true, true_and, and_false, false_and, decide_true, decide_false, Bool.not_true, Bool.not_false, decide_eq_true_eq, decide_eq_false_iff_not, ite_and_p, ite_or_p, Bool.decide_eq_true, Bool.and_eq_true, Bool.or_eq_true, Bool.not_eq_true', Bool.not_eq_false', Bool.and_eq_false_imp, Bool.or_eq_false_iff, bne_iff_ne, beq_iff_eq, bne_eq_false_iff_eq, beq_eq_false_iff_ne, gt_iff_lt, ge_iff_le, Int.not_lt, Int.not_le, ne_eq, Bool.true_eq_false, Bool.false_eq_true, reduceCtorEq, eta_Air, eta_Heading, bytes_nil] at hG; omega)) rfl rfl ?_
    | refine ArgF.is (c_impl_HeadingText ⟨_, _, _⟩ (by first | assumption | omega)) ?_
    | refine ArgQ.is (fun hG => c_impl_HeadingText ⟨_, _, _⟩ (by first | assumption | omega)) rfl rfl ?_
    | refine ArgQ.is (fun hG => c_impl_HeadingText ⟨_, _, _⟩ (by simp only [forall_const, eq_self, not_true_eq_false, not_false_eq_true, or_false, false_or, or_self, or_true, true_or, and_true, true_and, and_false, false_and, decide_true, decide_false, Bool.not_true, Bool.not_false, decide_eq_true_eq, decide_eq_false_iff_not, ite_and_p, ite_or_p, Bool.decide_eq_true, Bool.and_eq_true, Bool.or_eq_true, Bool.not_eq_true', Bool.not_eq_false', Bool.and_eq_false_imp, Bool.or_eq_false_iff, bne_iff_ne, beq_iff_eq, bne_eq_false_iff_eq, beq_eq_false_iff_ne, gt_iff_lt, ge_iff_le, Int.not_lt, Int.not_le, ne_eq, Bool.true_eq_false, Bool.false_eq_true, reduceCtorEq, eta_Air, eta_Heading, bytes_nil] at hG; omega)) rfl rfl ?_
    | refine ArgF.is (c_impl_ReadHeading ⟨_, _, _⟩ (by first | assumption | omega)) ?_
    | refine ArgQ.is (fun hG => c_impl_ReadHeading ⟨_, _, _⟩ (by first | assumption | omega)) rfl rfl ?_
    | refine ArgQ.is (fun hG => c_impl_ReadHeading ⟨_, _, _⟩ (by simp only [forall_const, eq_self, not_true_eq_false, not_false_eq_true, or_false, false_or, or_self, or_true, true_or, and_true, true_and, and_false, false_and, decide_true, decide_false, Bool.not_true, Bool.not_false, decide_eq_true_eq, decide_eq_false_iff_not, ite_and_p, ite_or_p, Bool.decide_eq_true, Bool.and_eq_true, Bool.or_eq_true, Bool.not_eq_true', Bool.not_eq_false', Bool.and_eq_false_imp, Bool.or_eq_false_iff, bne_iff_ne, beq_iff_eq, bne_eq_false_iff_eq, beq_eq_false_iff_ne, gt_iff_lt, ge_iff_le, Int.not_lt, Int.not_le, ne_eq, Bool.true_eq_false, Bool.false_eq_true, reduceCtorEq, eta_Air, eta_Heading, bytes_nil] at hG; omega)) rfl rfl ?_
    | refine ArgF.is (c_impl_GasFor ⟨_, _, _⟩ _ (by first | assumption | omega) (by first | assumption | omega)) ?_
    | refine ArgQ.is (fun hG => c_impl_GasFor ⟨_, _, _⟩ _ (by first | assumption | omega) (by first | assumption | omega)) rfl rfl ?_
    | refine ArgQ.is (fun hG => c_impl_GasFor ⟨_, _, _⟩ _ (by simp only [forall_const, eq_self, not_true_eq_false, not_false_eq_true, or_false, false_or, or_self, or_true, true_or, and_true, true_and, and_false, false_and, decide_true, decide_false, Bool.not_true, Bool.not_false, decide_eq_true_eq, decide_eq_false_iff_not, ite_and_p, ite_or_p, Bool.decide_eq_true, Bool.and_eq_true, Bool.or_eq_true, Bool.not_eq_true', Bool.not_eq_false', Bool.and_eq_false_imp, Bool.or_eq_false_iff, bne_iff_ne, beq_iff_eq, bne_eq_false_iff_eq, beq_eq_false_iff_ne, gt_iff_lt, ge_iff_le, Int.not_lt, Int.not_le, ne_eq, Bool.true_eq_false, Bool.false_eq_true, reduceCtorEq, eta_Air, eta_Heading, bytes_nil] at hG; omega) (by simp only [forall_const, eq_self, not_true_eq_false, not_false_eq_true, or_false, false_or, or_self, or_true, true_or, and_true, true_and, and_false, false_and, decide_true, decide_false, Bool.not_true, Bool.not_false, decide_eq_true_eq, decide_eq_false_iff_not, ite_and_p, ite_or_p, Bool.decide_eq_true, Bool.and_eq_true, Bool.or_eq_true, Bool.not_eq_true', Bool.not_eq_false', Bool.and_eq_false_imp, Bool.or_eq_false_iff, bne_iff_ne, beq_iff_eq, bne_eq_false_iff_eq, beq_eq_false_iff_ne, gt_iff_lt, ge_iff_le, Int.not_lt, Int.not_le, ne_eq, Bool.true_eq_false, Bool.false_eq_true, reduceCtorEq, eta_Air, eta_Heading, bytes_nil] at hG; omega)) rfl rfl ?_
    | refine ArgF.is (c_impl_FillTime ⟨_, _, _⟩ _ (by first | assumption | omega) (by first | assumption | omega)) ?_
    | refine ArgQ.is (fun hG => c_impl_FillTime ⟨_, _, _⟩ _ (by first | assumption | omega) (by first | assumption | omega)) rfl rfl ?_
    | refine ArgQ.is (fun hG => c_impl_FillTime ⟨_, _, _⟩ _ (by simp only [forall_const, eq_self, not_true_eq_false, not_false_eq_true, or_false, false_or, or_self, or_true, true_or, and_true, true_and, and_false, false_and, decide_true, decide_false, Bool.not_true, Bool.not_false, decide_eq_true_eq, decide_eq_false_iff_not, ite_and_p, ite_or_p, Bool.decide_eq_true, Bool.and_eq_true, Bool.or_eq_true, Bool.not_eq_true', Bool.not_eq_false', Bool.and_eq_false_imp, Bool.or_eq_false_iff, bne_iff_ne, beq_iff_eq, bne_eq_false_iff_eq, beq_eq_false_iff_ne, gt_iff_lt, ge_iff_le, Int.not_lt, Int.not_le, ne_eq, Bool.true_eq_false, Bool.false_eq_true, reduceCtorEq, eta_Air, eta_Heading, bytes_nil] at hG; omega) (by simp only [forall_const, eq_self, not_true_eq_false, not_false_eq_true, or_false, false_or, or_self, or_true, true_or, and_true, true_and, and_false, false_and, decide_true, decide_false, Bool.not_true, Bool.not_false, decide_eq_true_eq, decide_eq_false_iff_not, ite_and_p, ite_or_p, Bool.decide_eq_true, Bool.and_eq_true, Bool.or_eq_true, Bool.not_eq_true', Bool.not_eq_false', Bool.and_eq_false_imp, Bool.or_eq_false_iff, bne_iff_ne, beq_iff_eq, bne_eq_false_iff_eq, beq_eq_false_iff_ne, gt_iff_lt, ge_iff_le, Int.not_lt, Int.not_le, ne_eq, Bool.true_eq_false, Bool.false_eq_true, reduceCtorEq, eta_Air, eta_Heading, bytes_nil] at hG; omega)) rfl rfl ?_
    | refine CallF.mk (CallW.is [] true rfl ?_)
    | refine CallG.mk ?_
    | (refine CondF.mk (fun hb => ?_) (fun hb => ?_) <;> try simp only [forall_const, eq_self, not_true_eq_false, not_false_eq_true, or_false, false_or, or_self, or_true, true_or, and_true, true_and, and_false, false_and, decide_true, decide_false, Bool.not_true, Bool.not_false, decide_eq_true_eq, decide_eq_false_iff_not, ite_and_p, ite_or_p, Bool.decide_eq_true, Bool.and_eq_true, Bool.or_eq_true, Bool.not_eq_true', Bool.not_eq_false', Bool.and_eq_false_imp, Bool.or_eq_false_iff, bne_iff_ne, beq_iff_eq, bne_eq_false_iff_eq, beq_eq_false_iff_ne, gt_iff_lt, ge_iff_le, Int.not_lt, Int.not_le, ne_eq, Bool.true_eq_false, Bool.false_eq_true, reduceCtorEq, eta_Air, eta_Heading] at hb)
    | refine RetF.auto (And.intro rfl ?_)
    | exact Is.mk rfl rfl
    | refine Is.mk ?_ rfl
    | refine Is.mk rfl ?_
    | refine Is.mk ?_ ?_
  all_goals try dsimp only
  all_goals first
    | (exfalso
       have e0 := gasAfter_ok (x := h) (gas := h.volume * r8W c2 0 60000) (flow := r8W c2 2 1500 + r8A c2 8 200) (secs := r8W c2 4 400 + r8W c2 6 400) hv hG (by omega) (by omega)
       have e1 := share_in hv (hN (r8W c2 2 1500) (by omega) (r8W c2 4 400 + r8W c2 6 400).toNat)
       have e2 := gasN_mono (x := h) (gas := h.volume * r8W c2 0 60000) (a := r8W c2 2 1500) (b := r8W c2 2 1500 + r8A c2 8 200) hv hG (by omega) (by omega) (by omega) (r8W c2 4 400 + r8W c2 6 400).toNat
       have e3 := gasN_add (x := h) (g := h.volume * r8W c2 0 60000) (q := r8W c2 2 1500) (a := (r8W c2 4 400).toNat) (r8W c2 6 400).toNat
       rw [show (r8W c2 4 400).toNat + (r8W c2 6 400).toNat = (r8W c2 4 400 + r8W c2 6 400).toNat by omega] at e3
       rw [← e3, e0] at hb
       dsimp only at hb
       omega)
    | (exfalso
       have e1 := most_in (s := r8W c2 9 30000) hv (by omega)
       have e2 := out_in (s := r8W c2 9 30000) hv (by omega)
       have e3 := mostB (share := r8W c2 9 30000) hv (by omega)
       rw [wrapI (n := mostG h (r8W c2 9 30000) + 1) (by omega) (by omega)] at hb
       omega)
    | (have e : h.rate = 0 := by
         apply Classical.byContradiction
         intro e
         unfold fillT at hb
         rw [if_neg e] at hb
         exact hb rfl
       unfold fillT
       rw [if_pos e, e]; rfl)
    | exact congrArg (fun b => [Bo b]) (fill_law hv (by omega) hb)
    | skip
end Go.Proofs.YtmifcbekaniiiaaDoor
