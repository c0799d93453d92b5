/- Contracts of functions of the program, and what they compute. Conditions: those that each theorem states. -/
import Derived.Test.YtlcpjlmhfhiggaaProg
import Derived.Test.YtlcpjlmhfhiggaaE3
import Derived.Test.YtlcpjlmhfhiggaaE4
set_option linter.unusedVariables false
set_option linter.unusedSimpArgs false
namespace Go.Proofs.Ytlcpjlmhfhiggaa
open Go.Av
attribute [local irreducible] Go.IntKind.wrap dTo okDusts okStays okDust okStay dS dAt expo masked expos fstSet okMasks masks
set_option maxRecDepth 20000
set_option maxHeartbeats 8000000

/-! What is told of exposures. -/
theorem c_spec_DrawLongestStay (c : List Int) : FnSem Try.prog 49 [Lx (LY c)] [] (RetV (fun v : Nat × List GDusting × Int × Int × Int => [.osl 0 0 v.1, In v.2.2.1, In v.2.2.2.1, In v.2.2.2.2]) (fun v => [RwD v.2.1]) (fun v => v.1 = v.2.1.length ∧ v.1 ≤ 20)) := by
  refine FnSem.walk (zs := zeroPV Try.prog) (by kernel_rfl) Try.func49 rfl Try.results49 (by kernel_rfl) (by kernel_rfl) (by kernel_rfl) fun hw hh => ?_
  obtain ⟨w0, _⟩ := hw
  first | replace w0 := wf_I w0 | replace w0 := wf_Y w0 | replace w0 := wf_S w0 | replace w0 := wf_LI w0 | replace w0 := wf_LY w0 | replace w0 := wf_LLI w0 | replace w0 := wf_Ls w0 | skip
  have hc : bytes c := w0.2
  repeat' first
    | refine And.intro rfl ?_
    | refine GdF.mk (fun h => h) ?_
    | refine And.intro (Nat.succ_ne_zero _) ?_
    | refine And.intro (Nat.le_of_ble_eq_true rfl) ?_
    | refine SeqF.run ?_
    | (refine ArgF.srx (c_spec_l14Draw _ _ _ hc (by omega)) ?_; rintro ⟨k, xs⟩ p1 s1 hv hp1; dsimp only at hv hp1 ⊢)
    | refine RetV.mk (α := Nat × List GDusting × Int × Int × Int) (_, _, _, _, _) rfl rfl ?_
    | refine GhF.go ?_
    | refine MkF.row ?_
    | refine BndF.mk (fun _ => by omega) ?_
    | refine BndF.mk (fun _ => by simp only [List.length_map, List.length_cons, List.length_nil, List.length_append, List.length_set, List.length_replicate, iotaI_len]; omega) ?_
    | refine EqN.mk _ (Nat.zero_add _) ?_
    | refine EqN.mk _ (Int.toNat_natCast _) ?_
    | refine EqN.mk _ rfl ?_
    | refine EqL.mk _ (tk eI (by first | rfl | assumption | omega | (simp only [List.length_map, List.length_cons, List.length_nil, List.length_append, List.length_set, List.length_replicate, iotaI_len]; done) | (simp only [List.length_map, List.length_cons, List.length_nil, List.length_append, List.length_set, List.length_replicate, iotaI_len]; omega))) ?_
    | refine EqL.mk _ (dt eI) ?_
    | refine EqL.mk _ (tk eY (by first | rfl | assumption | omega | (simp only [List.length_map, List.length_cons, List.length_nil, List.length_append, List.length_set, List.length_replicate, iotaI_len]; done) | (simp only [List.length_map, List.length_cons, List.length_nil, List.length_append, List.length_set, List.length_replicate, iotaI_len]; omega))) ?_
    | refine EqL.mk _ (dt eY) ?_
    | refine EqL.mk (List.map eI [_, _, _, _]) rfl ?_
    | refine EqL.mk (List.map eI [_, _, _, _, _, _, _]) rfl ?_
    | refine EqL.mk [] rfl ?_
    | refine EqL.mk [_] rfl ?_
    | refine EqL.mk _ rfl ?_
    | refine ArgF.is (c_spec_l00From ..) ?_
    | refine ArgQ.is (fun hG => c_spec_l00From ..) rfl rfl ?_
    | (refine ArgF.src (c_spec_l14Draw _ _ _ (by first | assumption | omega | rfl | (simp only [List.length_cons, List.length_nil]; omega)) (by first | assumption | omega | rfl | (simp only [List.length_cons, List.length_nil]; omega))) ?_; intro _ _ _ _ _)
    | (refine ArgF.src (c_spec_l14DrawAirway _ _ _ (by first | assumption | omega | rfl | (simp only [List.length_cons, List.length_nil]; omega)) (by first | assumption | omega | rfl | (simp only [List.length_cons, List.length_nil]; omega))) ?_; intro _ _ _ _ _)
    | (refine ArgF.src (c_spec_l00Src_pick _ _ _ _ (by first | assumption | omega | rfl | (simp only [List.length_cons, List.length_nil]; omega)) (by first | assumption | omega | rfl | (simp only [List.length_cons, List.length_nil]; omega)) (by first | assumption | omega | rfl | (simp only [List.length_cons, List.length_nil]; omega))) ?_; intro _ _ _ _ _)
    | (refine ArgF.src (c_spec_l00Src_one _ _ _ _ (by first | assumption | omega | rfl | (simp only [List.length_cons, List.length_nil]; omega)) (by first | assumption | omega | rfl | (simp only [List.length_cons, List.length_nil]; omega)) (by first | assumption | omega | rfl | (simp only [List.length_cons, List.length_nil]; omega))) ?_; intro _ _ _ _ _)
    | (refine ArgF.srw (c_spec_l00Src_among _ _ _ _ _ (by first | assumption | omega | rfl | (simp only [List.length_cons, List.length_nil]; omega)) (by first | assumption | omega | rfl | (simp only [List.length_cons, List.length_nil]; omega)) (by first | assumption | omega | rfl | (simp only [List.length_cons, List.length_nil]; omega)) (by first | assumption | omega | rfl | (simp only [List.length_cons, List.length_nil]; omega))) ?_; intro _ _ _ _ _)
    | refine CallF.own (f := 106) [0, 1] false ?_
    | refine CallF.own (f := 114) [0] false ?_
    | refine CallF.own (f := 115) [0] false ?_
    | refine CallF.own (f := 125) [0] false ?_
    | refine CallF.own (f := 126) [0] false ?_
    | refine CallF.mk (f := 102) (CallW.is [] false rfl ?_)
    | refine CallF.mk (CallW.is [] true rfl ?_)
    | refine CallG.mk ?_
    | (refine CondF.mk (fun hb => ?_) (fun hb => ?_) <;> try simp only [forall_const, eq_self, not_true_eq_false, not_false_eq_true, or_false, false_or, or_self, or_true, true_or, and_true, true_and, and_false, false_and, decide_true, decide_false, Bool.not_true, Bool.not_false, decide_eq_true_eq, decide_eq_false_iff_not, ite_and_p, ite_or_p, Bool.decide_eq_true, Bool.and_eq_true, Bool.or_eq_true, Bool.not_eq_true', Bool.not_eq_false', Bool.and_eq_false_imp, Bool.or_eq_false_iff, bne_iff_ne, beq_iff_eq, bne_eq_false_iff_eq, beq_eq_false_iff_ne, gt_iff_lt, ge_iff_le, Int.not_lt, Int.not_le, ne_eq, Bool.true_eq_false, Bool.false_eq_true, reduceCtorEq, eta_Airway, eta_Dusting, eta_Heading, eta_Mine, eta_Mode, eta_Sensor] at hb)
    | refine RetF.auto (And.intro rfl ?_)
    | exact Is.mk rfl rfl
    | refine Is.mk ?_ rfl
    | refine Is.mk rfl ?_
    | refine Is.mk ?_ ?_
  all_goals exact hv
theorem c_spec_DrawFewestMasks (c : List Int) : FnSem Try.prog 54 [Lx (LY c)] [] (RetV (fun v : Nat × List GDusting × Nat × List (List Int) × Int × Int × Int => [.osl 0 0 v.1, .osl 1 0 v.2.2.1, In v.2.2.2.2.1, In v.2.2.2.2.2.1, In v.2.2.2.2.2.2]) (fun v => [RwD v.2.1, .row true .fresh zL (v.2.2.2.1.map eLI)]) (fun v => (v.1 = v.2.1.length ∧ v.1 ≤ 20) ∧ v.2.2.1 = v.2.2.2.1.length ∧ v.2.2.1 ≤ 20)) := by
  refine FnSem.walk (zs := zeroPV Try.prog) (by kernel_rfl) Try.func54 rfl Try.results54 (by kernel_rfl) (by kernel_rfl) (by kernel_rfl) fun hw hh => ?_
  obtain ⟨w0, _⟩ := hw
  first | replace w0 := wf_I w0 | replace w0 := wf_Y w0 | replace w0 := wf_S w0 | replace w0 := wf_LI w0 | replace w0 := wf_LY w0 | replace w0 := wf_LLI w0 | replace w0 := wf_Ls w0 | skip
  have hc : bytes c := w0.2
  repeat' first
    | refine And.intro rfl ?_
    | refine GdF.mk (fun h => h) ?_
    | refine And.intro (Nat.succ_ne_zero _) ?_
    | refine And.intro (Nat.le_of_ble_eq_true rfl) ?_
    | refine SeqF.run ?_
    | (refine ArgF.srx (c_spec_l14Draw _ _ _ hc (by omega)) ?_; rintro ⟨k, xs⟩ p1 s1 hv hp1; dsimp only at hv hp1 ⊢)
    | (refine ArgF.srx (c_spec_l14DrawStays _ _ _ hc (by omega)) ?_; rintro ⟨k2, ys⟩ p2 s2 hv2 hp2; dsimp only at hv2 hp2 ⊢)
    | refine RetV.mk (α := Nat × List GDusting × Nat × List (List Int) × Int × Int × Int) (_, _, _, _, _, _, _) rfl rfl ?_
    | refine GhF.go ?_
    | refine MkF.row ?_
    | refine BndF.mk (fun _ => by omega) ?_
    | refine BndF.mk (fun _ => by simp only [List.length_map, List.length_cons, List.length_nil, List.length_append, List.length_set, List.length_replicate, iotaI_len]; omega) ?_
    | refine EqN.mk _ (Nat.zero_add _) ?_
    | refine EqN.mk _ (Int.toNat_natCast _) ?_
    | refine EqN.mk _ rfl ?_
    | refine EqL.mk _ (tk eI (by first | rfl | assumption | omega | (simp only [List.length_map, List.length_cons, List.length_nil, List.length_append, List.length_set, List.length_replicate, iotaI_len]; done) | (simp only [List.length_map, List.length_cons, List.length_nil, List.length_append, List.length_set, List.length_replicate, iotaI_len]; omega))) ?_
    | refine EqL.mk _ (dt eI) ?_
    | refine EqL.mk _ (tk eY (by first | rfl | assumption | omega | (simp only [List.length_map, List.length_cons, List.length_nil, List.length_append, List.length_set, List.length_replicate, iotaI_len]; done) | (simp only [List.length_map, List.length_cons, List.length_nil, List.length_append, List.length_set, List.length_replicate, iotaI_len]; omega))) ?_
    | refine EqL.mk _ (dt eY) ?_
    | refine EqL.mk (List.map eI [_, _, _, _, _, _]) rfl ?_
    | refine EqL.mk (List.map eI [_, _, _, _, _, _, _]) rfl ?_
    | refine EqL.mk [] rfl ?_
    | refine EqL.mk [_] rfl ?_
    | refine EqL.mk _ rfl ?_
    | refine ArgF.is (c_spec_l00From ..) ?_
    | refine ArgQ.is (fun hG => c_spec_l00From ..) rfl rfl ?_
    | (refine ArgF.src (c_spec_l14Draw _ _ _ (by first | assumption | omega | rfl | (simp only [List.length_cons, List.length_nil]; omega)) (by first | assumption | omega | rfl | (simp only [List.length_cons, List.length_nil]; omega))) ?_; intro _ _ _ _ _)
    | (refine ArgF.src (c_spec_l14DrawStays _ _ _ (by first | assumption | omega | rfl | (simp only [List.length_cons, List.length_nil]; omega)) (by first | assumption | omega | rfl | (simp only [List.length_cons, List.length_nil]; omega))) ?_; intro _ _ _ _ _)
    | (refine ArgF.srw (c_spec_l00Src_among _ _ _ _ _ (by first | assumption | omega | rfl | (simp only [List.length_cons, List.length_nil]; omega)) (by first | assumption | omega | rfl | (simp only [List.length_cons, List.length_nil]; omega)) (by first | assumption | omega | rfl | (simp only [List.length_cons, List.length_nil]; omega)) (by first | assumption | omega | rfl | (simp only [List.length_cons, List.length_nil]; omega))) ?_; intro _ _ _ _ _)
    | refine CallF.own (f := 106) [0, 1] false ?_
    | refine CallF.own (f := 125) [0] false ?_
    | refine CallF.own (f := 131) [0] false ?_
    | refine CallF.mk (f := 102) (CallW.is [] false rfl ?_)
    | refine CallF.mk (CallW.is [] true rfl ?_)
    | refine CallG.mk ?_
    | (refine CondF.mk (fun hb => ?_) (fun hb => ?_) <;> try simp only [forall_const, eq_self, not_true_eq_false, not_false_eq_true, or_false, false_or, or_self, or_true, true_or, and_true, true_and, and_false, false_and, decide_true, decide_false, Bool.not_true, Bool.not_false, decide_eq_true_eq, decide_eq_false_iff_not, ite_and_p, ite_or_p, Bool.decide_eq_true, Bool.and_eq_true, Bool.or_eq_true, Bool.not_eq_true', Bool.not_eq_false', Bool.and_eq_false_imp, Bool.or_eq_false_iff, bne_iff_ne, beq_iff_eq, bne_eq_false_iff_eq, beq_eq_false_iff_ne, gt_iff_lt, ge_iff_le, Int.not_lt, Int.not_le, ne_eq, Bool.true_eq_false, Bool.false_eq_true, reduceCtorEq, eta_Airway, eta_Dusting, eta_Heading, eta_Mine, eta_Mode, eta_Sensor] at hb)
    | refine RetF.auto (And.intro rfl ?_)
    | exact Is.mk rfl rfl
    | refine Is.mk ?_ rfl
    | refine Is.mk rfl ?_
    | refine Is.mk ?_ ?_
  all_goals exact ⟨hv, hv2⟩
def dustR (ds : List GDusting) (a t : Int) : Int × Int := if okDusts ds = true then (if inR a 0 23 = true ∧ inR t 0 1439 = true then (dAt ds a t, 0) else (0, 2)) else (0, 1)
theorem c_impl_DustAt (ds : List GDusting) (a t : Int) : FnSem Try.prog 53 [LD ds, In a, In t] [] (Is [In (dustR ds a t).1, In (dustR ds a t).2] []) := by
  refine FnSem.walk (zs := zeroPV Try.prog) (by kernel_rfl) Try.func53 rfl Try.results53 (by kernel_rfl) (by kernel_rfl) (by kernel_rfl) fun hw hh => ?_
  obtain ⟨w0, w1, w2, _⟩ := hw
  first | replace w0 := wf_LDusting w0 | skip
  first | replace w1 := wf_I w1 | replace w1 := wf_Y w1 | replace w1 := wf_S w1 | replace w1 := wf_LI w1 | replace w1 := wf_LY w1 | replace w1 := wf_LLI w1 | replace w1 := wf_Ls w1 | skip
  first | replace w2 := wf_I w2 | replace w2 := wf_Y w2 | replace w2 := wf_S w2 | replace w2 := wf_LI w2 | replace w2 := wf_LY w2 | replace w2 := wf_LLI w2 | replace w2 := wf_Ls w2 | skip
  repeat' first
    | refine And.intro rfl ?_
    | refine GdF.mk (fun h => h) ?_
    | refine And.intro (Nat.succ_ne_zero _) ?_
    | refine And.intro (Nat.le_of_ble_eq_true rfl) ?_
    | refine SeqF.run ?_
    | refine ArgF.is (c_impl_dustAt ds a t (by assumption)) ?_
    | refine ArgQ.is (fun hG => c_impl_dustAt ds a t (by assumption)) rfl rfl ?_
    | refine GhF.go ?_
    | refine GdS.keep ?_
    | refine BndF.mk (fun _ => by omega) ?_
    | refine BndF.mk (fun _ => by simp only [List.length_map, List.length_cons, List.length_nil, List.length_append, List.length_set, List.length_replicate, iotaI_len]; omega) ?_
    | refine BndF.mk (fun hG => by simp only [forall_const, eq_self, not_true_eq_false, not_false_eq_true, or_false, false_or, or_self, or_true, true_or, and_true, true_and, and_false, false_and, decide_true, decide_false, Bool.not_true, Bool.not_false, decide_eq_true_eq, decide_eq_false_iff_not, ite_and_p, ite_or_p, Bool.decide_eq_true, Bool.and_eq_true, Bool.or_eq_true, Bool.not_eq_true', Bool.not_eq_false', Bool.and_eq_false_imp, Bool.or_eq_false_iff, bne_iff_ne, beq_iff_eq, bne_eq_false_iff_eq, beq_eq_false_iff_ne, gt_iff_lt, ge_iff_le, Int.not_lt, Int.not_le, ne_eq, Bool.true_eq_false, Bool.false_eq_true, reduceCtorEq, eta_Airway, eta_Dusting, eta_Heading, eta_Mine, eta_Mode, eta_Sensor, bytes_nil] at hG; (try simp only [List.length_map]); omega) ?_
    | refine EqL.mk _ (tk GDusting.cells (by first | rfl | assumption | omega | (simp only [List.length_map, List.length_cons, List.length_nil, List.length_append, List.length_set, List.length_replicate, iotaI_len]; done) | (simp only [List.length_map, List.length_cons, List.length_nil, List.length_append, List.length_set, List.length_replicate, iotaI_len]; omega))) ?_
    | refine EqL.mk [] rfl ?_
    | refine EqL.mk [_] rfl ?_
    | refine EqL.mk _ rfl ?_
    | refine ArgF.is (c_impl_ValidDustings ..) ?_
    | refine ArgQ.is (fun hG => c_impl_ValidDustings ..) rfl rfl ?_
    | refine ArgF.is (c_impl_within ..) ?_
    | refine ArgQ.is (fun hG => c_impl_within ..) rfl rfl ?_
    | refine ArgF.is (c_impl_dustAt _ _ _ (by first | assumption | omega)) ?_
    | refine ArgQ.is (fun hG => c_impl_dustAt _ _ _ (by first | assumption | omega)) rfl rfl ?_
    | refine ArgQ.is (fun hG => c_impl_dustAt _ _ _ (by simp only [forall_const, eq_self, not_true_eq_false, not_false_eq_true, or_false, false_or, or_self, or_true, true_or, and_true, true_and, and_false, false_and, decide_true, decide_false, Bool.not_true, Bool.not_false, decide_eq_true_eq, decide_eq_false_iff_not, ite_and_p, ite_or_p, Bool.decide_eq_true, Bool.and_eq_true, Bool.or_eq_true, Bool.not_eq_true', Bool.not_eq_false', Bool.and_eq_false_imp, Bool.or_eq_false_iff, bne_iff_ne, beq_iff_eq, bne_eq_false_iff_eq, beq_eq_false_iff_ne, gt_iff_lt, ge_iff_le, Int.not_lt, Int.not_le, ne_eq, Bool.true_eq_false, Bool.false_eq_true, reduceCtorEq, eta_Airway, eta_Dusting, eta_Heading, eta_Mine, eta_Mode, eta_Sensor, bytes_nil] at hG; omega)) rfl rfl ?_
    | refine CallF.mk (CallW.is [] true rfl ?_)
    | refine CallG.mk ?_
    | (refine CondF.mk (fun hb => ?_) (fun hb => ?_) <;> try simp only [forall_const, eq_self, not_true_eq_false, not_false_eq_true, or_false, false_or, or_self, or_true, true_or, and_true, true_and, and_false, false_and, decide_true, decide_false, Bool.not_true, Bool.not_false, decide_eq_true_eq, decide_eq_false_iff_not, ite_and_p, ite_or_p, Bool.decide_eq_true, Bool.and_eq_true, Bool.or_eq_true, Bool.not_eq_true', Bool.not_eq_false', Bool.and_eq_false_imp, Bool.or_eq_false_iff, bne_iff_ne, beq_iff_eq, bne_eq_false_iff_eq, beq_eq_false_iff_ne, gt_iff_lt, ge_iff_le, Int.not_lt, Int.not_le, ne_eq, Bool.true_eq_false, Bool.false_eq_true, reduceCtorEq, eta_Airway, eta_Dusting, eta_Heading, eta_Mine, eta_Mode, eta_Sensor] at hb)
    | refine RetF.auto (And.intro rfl ?_)
    | exact Is.mk rfl rfl
    | refine Is.mk ?_ rfl
    | refine Is.mk rfl ?_
    | refine Is.mk ?_ ?_
  all_goals try dsimp only
  all_goals try simp only [Bo, I, OB.row.injEq, AV.osl.injEq, eI_same,  List.cons.injEq, AV.p.injEq, PV.c.injEq, Value.int.injEq, Value.bool.injEq, and_true, true_and, ite_and_p, ite_or_p, Bool.decide_eq_true, eta_Airway, eta_Dusting, eta_Heading, eta_Mine, eta_Mode, eta_Sensor, dustR]
  all_goals try (first | omega | (set_option maxHeartbeats 60000 in grind))
def expT (ds : List GDusting) (ss : List (List Int)) : Nat → Int
  | 0 => 0
  | k + 1 => expT ds ss k + expo ds 1 (ss.getD k [])
theorem expT_b {ds : List GDusting} {ss : List (List Int)} (h : okDusts ds = true) (hs : okStays ss = true) : ∀ k : Nat, k ≤ ss.length → 0 ≤ expT ds ss k ∧ expT ds ss k ≤ 17280000000 * k
  | 0, _ => by simp [expT]
  | k + 1, hk => by
    have ih := expT_b h hs k (by omega)
    have := expo_b (f := 1) h (by omega) ((okStays_b hs).2 _ (getD_mem (d := []) (show k < ss.length by omega)))
    simp only [expT]; omega
theorem expT_s {ds : List GDusting} {ss : List (List Int)} {i : Int} (h : 0 ≤ i) : expT ds ss (i + 1).toNat = expT ds ss i.toNat + expo ds 1 (ss.getD i.toNat []) := by
  rw [show (i + 1).toNat = i.toNat + 1 by omega]; rfl
def expR (ds : List GDusting) (ss : List (List Int)) : Int × Int := if okDusts ds = true then (if okStays ss = true then (expT ds ss ss.length, 0) else (0, 2)) else (0, 1)
theorem expR_1 {ds : List GDusting} {ss : List (List Int)} (h : okDusts ds = false) : expR ds ss = (0, 1) := by unfold expR; rw [if_neg (by rw [h]; decide)]
theorem expR_2 {ds : List GDusting} {ss : List (List Int)} (h : okDusts ds = true) (h2 : okStays ss = false) : expR ds ss = (0, 2) := by unfold expR; rw [if_pos h, if_neg (by rw [h2]; decide)]
theorem expR_0 {ds : List GDusting} {ss : List (List Int)} (h : okDusts ds = true) (h2 : okStays ss = true) : expR ds ss = (expT ds ss ss.length, 0) := by unfold expR; rw [if_pos h, if_pos h2]
attribute [local irreducible] expT
theorem c_impl_ExposureOf (ds : List GDusting) (ss : List (List Int)) : FnSem Try.prog 51 [LD ds, Lx (LLI ss)] [] (Is [In (expR ds ss).1, In (expR ds ss).2] []) := by
  refine FnSem.walk (zs := zeroPV Try.prog) (by kernel_rfl) Try.func51 rfl Try.results51 (by kernel_rfl) (by kernel_rfl) (by kernel_rfl) fun hw hh => ?_
  obtain ⟨w0, w1, _⟩ := hw
  first | replace w0 := wf_LDusting w0 | skip
  first | replace w1 := wf_I w1 | replace w1 := wf_Y w1 | replace w1 := wf_S w1 | replace w1 := wf_LI w1 | replace w1 := wf_LY w1 | replace w1 := wf_LLI w1 | replace w1 := wf_Ls w1 | skip
  repeat' first
    | refine And.intro rfl ?_
    | refine GdF.mk (fun h => h) ?_
    | refine And.intro (Nat.succ_ne_zero _) ?_
    | refine And.intro (Nat.le_of_ble_eq_true rfl) ?_
    | refine SeqF.run ?_
    | refine ArgF.is (c_impl_exposureOf ds (ss.getD i.toNat []) 1 h2 ((okStays_b h3).2 _ (getD_mem (by omega))) (by omega)) ?_
    | refine ArgQ.is (fun hG => c_impl_exposureOf ds (ss.getD i.toNat []) 1 h2 ((okStays_b h3).2 _ (getD_mem (by omega))) (by omega)) rfl rfl ?_
    | refine EqI.mk _ (fun _ => wrapI (by have := expT_b h2 h3 i.toNat (by omega); have := (okStays_b h3).1; have := expo_b (f := 1) h2 (by omega) ((okStays_b h3).2 _ (getD_mem (d := []) (show i.toNat < ss.length by omega))); omega) (by have := expT_b h2 h3 i.toNat (by omega); have := (okStays_b h3).1; have := expo_b (f := 1) h2 (by omega) ((okStays_b h3).2 _ (getD_mem (d := []) (show i.toNat < ss.length by omega))); omega)) ?_
    | refine LoopF.at 7 rfl (LoopF.fix [0, 17, 18] (Int × Int) (fun (x, i) => 0 ≤ i ∧ i ≤ ss.length ∧ okDusts ds = true ∧ okStays ss = true ∧ x = expT ds ss i.toNat) (fun (x, i) => [(6, In x), (19, In i)]) (fun (x, i) => []) (fun (x, i) => ((ss.length - i).toNat)) ((0, 0)) ?_)
    | (refine LoopB.of (T := Int × Int) ?_ ?_; rotate_left; rintro ⟨x, i⟩ ⟨h0, h1, h2, h3, h4⟩; rotate_left)
    | refine GhF.go ?_
    | refine EqP.mk _ (gm eI 0 rfl) ?_
    | refine EqP.mk _ (gm GDusting.cells default rfl) ?_
    | refine EqP.mk _ (gmb eLI [] (by omega)) ?_
    | refine BndF.mk (fun _ => by omega) ?_
    | refine BndF.mk (fun _ => by simp only [List.length_map, List.length_cons, List.length_nil, List.length_append, List.length_set, List.length_replicate, iotaI_len]; omega) ?_
    | refine EqI.mk _ (fun _ => wrapI (by omega) (by omega)) ?_
    | refine EqI.mk _ (fun _ => rfl) ?_
    | refine EqN.mk _ (ln eI) ?_
    | refine EqN.mk _ (ln GDusting.cells) ?_
    | refine EqN.mk _ (ln eLI) ?_
    | refine EqN.mk _ (Nat.zero_add _) ?_
    | refine EqN.mk _ (Int.toNat_natCast _) ?_
    | refine EqN.mk _ rfl ?_
    | refine EqL.mk _ (tk eI (by first | rfl | assumption | omega | (simp only [List.length_map, List.length_cons, List.length_nil, List.length_append, List.length_set, List.length_replicate, iotaI_len]; done) | (simp only [List.length_map, List.length_cons, List.length_nil, List.length_append, List.length_set, List.length_replicate, iotaI_len]; omega))) ?_
    | refine EqL.mk _ (tk GDusting.cells (by first | rfl | assumption | omega | (simp only [List.length_map, List.length_cons, List.length_nil, List.length_append, List.length_set, List.length_replicate, iotaI_len]; done) | (simp only [List.length_map, List.length_cons, List.length_nil, List.length_append, List.length_set, List.length_replicate, iotaI_len]; omega))) ?_
    | refine EqL.mk _ (tk eLI (by first | rfl | assumption | omega | (simp only [List.length_map, List.length_cons, List.length_nil, List.length_append, List.length_set, List.length_replicate, iotaI_len]; done) | (simp only [List.length_map, List.length_cons, List.length_nil, List.length_append, List.length_set, List.length_replicate, iotaI_len]; omega))) ?_
    | refine EqL.mk [] rfl ?_
    | refine EqL.mk [_] rfl ?_
    | refine EqL.mk _ rfl ?_
    | refine ArgF.is (c_impl_ValidDustings ..) ?_
    | refine ArgQ.is (fun hG => c_impl_ValidDustings ..) rfl rfl ?_
    | refine ArgF.is (c_impl_staysOk ..) ?_
    | refine ArgQ.is (fun hG => c_impl_staysOk ..) rfl rfl ?_
    | refine ArgF.is (c_impl_exposureOf _ _ _ (by first | assumption | omega) (by first | assumption | omega) (by first | assumption | omega)) ?_
    | refine ArgQ.is (fun hG => c_impl_exposureOf _ _ _ (by first | assumption | omega) (by first | assumption | omega) (by first | assumption | omega)) rfl rfl ?_
    | refine ArgQ.is (fun hG => c_impl_exposureOf _ _ _ (by simp only [forall_const, eq_self, not_true_eq_false, not_false_eq_true, or_false, false_or, or_self, or_true, true_or, and_true, true_and, and_false, false_and, decide_true, decide_false, Bool.not_true, Bool.not_false, decide_eq_true_eq, decide_eq_false_iff_not, ite_and_p, ite_or_p, Bool.decide_eq_true, Bool.and_eq_true, Bool.or_eq_true, Bool.not_eq_true', Bool.not_eq_false', Bool.and_eq_false_imp, Bool.or_eq_false_iff, bne_iff_ne, beq_iff_eq, bne_eq_false_iff_eq, beq_eq_false_iff_ne, gt_iff_lt, ge_iff_le, Int.not_lt, Int.not_le, ne_eq, Bool.true_eq_false, Bool.false_eq_true, reduceCtorEq, eta_Airway, eta_Dusting, eta_Heading, eta_Mine, eta_Mode, eta_Sensor, bytes_nil] at hG; omega) (by simp only [forall_const, eq_self, not_true_eq_false, not_false_eq_true, or_false, false_or, or_self, or_true, true_or, and_true, true_and, and_false, false_and, decide_true, decide_false, Bool.not_true, Bool.not_false, decide_eq_true_eq, decide_eq_false_iff_not, ite_and_p, ite_or_p, Bool.decide_eq_true, Bool.and_eq_true, Bool.or_eq_true, Bool.not_eq_true', Bool.not_eq_false', Bool.and_eq_false_imp, Bool.or_eq_false_iff, bne_iff_ne, beq_iff_eq, bne_eq_false_iff_eq, beq_eq_false_iff_ne, gt_iff_lt, ge_iff_le, Int.not_lt, Int.not_le, ne_eq, Bool.true_eq_false, Bool.false_eq_true, reduceCtorEq, eta_Airway, eta_Dusting, eta_Heading, eta_Mine, eta_Mode, eta_Sensor, bytes_nil] at hG; omega) (by simp only [forall_const, eq_self, not_true_eq_false, not_false_eq_true, or_false, false_or, or_self, or_true, true_or, and_true, true_and, and_false, false_and, decide_true, decide_false, Bool.not_true, Bool.not_false, decide_eq_true_eq, decide_eq_false_iff_not, ite_and_p, ite_or_p, Bool.decide_eq_true, Bool.and_eq_true, Bool.or_eq_true, Bool.not_eq_true', Bool.not_eq_false', Bool.and_eq_false_imp, Bool.or_eq_false_iff, bne_iff_ne, beq_iff_eq, bne_eq_false_iff_eq, beq_eq_false_iff_ne, gt_iff_lt, ge_iff_le, Int.not_lt, Int.not_le, ne_eq, Bool.true_eq_false, Bool.false_eq_true, reduceCtorEq, eta_Airway, eta_Dusting, eta_Heading, eta_Mine, eta_Mode, eta_Sensor, bytes_nil] at hG; omega)) rfl rfl ?_
    | refine CallF.mk (CallW.is [] true rfl ?_)
    | refine CallG.mk ?_
    | (refine CondF.mk (fun hb => ?_) (fun hb => ?_) <;> try simp only [forall_const, eq_self, not_true_eq_false, not_false_eq_true, or_false, false_or, or_self, or_true, true_or, and_true, true_and, and_false, false_and, decide_true, decide_false, Bool.not_true, Bool.not_false, decide_eq_true_eq, decide_eq_false_iff_not, ite_and_p, ite_or_p, Bool.decide_eq_true, Bool.and_eq_true, Bool.or_eq_true, Bool.not_eq_true', Bool.not_eq_false', Bool.and_eq_false_imp, Bool.or_eq_false_iff, bne_iff_ne, beq_iff_eq, bne_eq_false_iff_eq, beq_eq_false_iff_ne, gt_iff_lt, ge_iff_le, Int.not_lt, Int.not_le, ne_eq, Bool.true_eq_false, Bool.false_eq_true, reduceCtorEq, eta_Airway, eta_Dusting, eta_Heading, eta_Mine, eta_Mode, eta_Sensor] at hb)
    | apply BackF.auto2
    | refine BackB.mk ?_ ?_
    | refine RetF.auto (And.intro rfl ?_)
    | exact Is.mk rfl rfl
    | refine Is.mk ?_ rfl
    | refine Is.mk rfl ?_
    | refine Is.mk ?_ ?_
  all_goals try dsimp only
  all_goals try simp only [Bo, I, OB.row.injEq, AV.osl.injEq, eI_same,  List.cons.injEq, AV.p.injEq, PV.c.injEq, Value.int.injEq, Value.bool.injEq, and_true, true_and, ite_and_p, ite_or_p, Bool.decide_eq_true, eta_Airway, eta_Dusting, eta_Heading, eta_Mine, eta_Mode, eta_Sensor]
  all_goals first
    | omega
    | (rw [expR_1 (by assumption)]; exact ⟨rfl, rfl⟩)
    | (rw [expR_2 (by assumption) (by assumption)]; exact ⟨rfl, rfl⟩)
    | exact ⟨by omega, by omega, by assumption, by assumption, by unfold expT; rfl⟩
    | exact ⟨by omega, by omega, h2, h3, by rw [expT_s h0, h4]⟩
    | (rw [expR_0 h2 h3, h4, show i.toNat = ss.length by omega]; exact ⟨rfl, rfl⟩)
    | skip
/-- the longest stay: so much is just within its limit -/
def stayP (ds : List GDusting) (a u limit : Int) (v : Int × Int) : Prop := v.2 ≠ 0 ∨ v.2 = 0 ∧ okDusts ds = true ∧ (0 ≤ a ∧ a ≤ 23) ∧ (0 ≤ u ∧ u ≤ 1439) ∧ 0 ≤ limit ∧ 0 ≤ v.1 ∧ u + v.1 ≤ 1440 ∧ dS ds a 1 u v.1.toNat ≤ limit ∧ (u + v.1 < 1440 → limit < dS ds a 1 u (v.1 + 1).toNat)
theorem dS1_s {ds : List GDusting} {a u i : Int} (h : u ≤ i) : dS ds a 1 u (i + 1 - u).toNat = dS ds a 1 u (i - u).toNat + dAt ds a i := by rw [dS_s h, Int.ediv_one]
theorem c_impl_LongestStay (ds : List GDusting) (a u limit : Int) : FnSem Try.prog 50 [LD ds, In a, In u, In limit] [] (RetV (fun v : Int × Int => [In v.1, In v.2]) (fun _ => []) (stayP ds a u limit)) := by
  refine FnSem.walk (zs := zeroPV Try.prog) (by kernel_rfl) Try.func50 rfl Try.results50 (by kernel_rfl) (by kernel_rfl) (by kernel_rfl) fun hw hh => ?_
  obtain ⟨w0, w1, w2, w3, _⟩ := hw
  first | replace w0 := wf_LDusting w0 | skip
  first | replace w1 := wf_I w1 | replace w1 := wf_Y w1 | replace w1 := wf_S w1 | replace w1 := wf_LI w1 | replace w1 := wf_LY w1 | replace w1 := wf_LLI w1 | replace w1 := wf_Ls w1 | skip
  first | replace w2 := wf_I w2 | replace w2 := wf_Y w2 | replace w2 := wf_S w2 | replace w2 := wf_LI w2 | replace w2 := wf_LY w2 | replace w2 := wf_LLI w2 | replace w2 := wf_Ls w2 | skip
  first | replace w3 := wf_I w3 | replace w3 := wf_Y w3 | replace w3 := wf_S w3 | replace w3 := wf_LI w3 | replace w3 := wf_LY w3 | replace w3 := wf_LLI w3 | replace w3 := wf_Ls w3 | skip
  repeat' first
    | refine And.intro rfl ?_
    | refine GdF.mk (fun h => h) ?_
    | refine And.intro (Nat.succ_ne_zero _) ?_
    | refine And.intro (Nat.le_of_ble_eq_true rfl) ?_
    | refine SeqF.run ?_
    | refine ArgF.is (c_impl_dustAt ds a i h2) ?_
    | refine ArgQ.is (fun hG => c_impl_dustAt ds a i h2) rfl rfl ?_
    | refine EqI.mk _ (fun _ => wrapI (by have := dS_b (a := a) (u := u) h2 (show (1 : Int) ≤ 1 by omega) (i - u).toNat; have := dAt_b (a := a) (t := i) h2; omega) (by have := dS_b (a := a) (u := u) h2 (show (1 : Int) ≤ 1 by omega) (i - u).toNat; have := dAt_b (a := a) (t := i) h2; omega)) ?_
    | refine LoopF.at 6 rfl (LoopF.fix [0, 1, 2, 3] (Int × Int) (fun (x, i) => u ≤ i ∧ i ≤ 1440 ∧ okDusts ds = true ∧ (0 ≤ a ∧ a ≤ 23) ∧ (0 ≤ u ∧ u ≤ 1439) ∧ 0 ≤ limit ∧ x = dS ds a 1 u (i - u).toNat ∧ x ≤ limit) (fun (x, i) => [(10, In x), (11, In i)]) (fun (x, i) => []) (fun (x, i) => ((1440 - i).toNat)) ((0, u)) ?_)
    | (refine LoopB.of (T := Int × Int) ?_ ?_; rotate_left; rintro ⟨x, i⟩ ⟨h0, h1, h2, h3, h4, h5, h6, h7⟩; rotate_left)
    | refine RetV.mk (α := Int × Int) (_, _) rfl rfl ?_
    | refine GhF.go ?_
    | refine GdS.keep ?_
    | refine BndF.mk (fun _ => by omega) ?_
    | refine BndF.mk (fun _ => by simp only [List.length_map, List.length_cons, List.length_nil, List.length_append, List.length_set, List.length_replicate, iotaI_len]; omega) ?_
    | refine BndF.mk (fun hG => by simp only [forall_const, eq_self, not_true_eq_false, not_false_eq_true, or_false, false_or, or_self, or_true, true_or, and_true, true_and, and_false, false_and, decide_true, decide_false, Bool.not_true, Bool.not_false, decide_eq_true_eq, decide_eq_false_iff_not, ite_and_p, ite_or_p, Bool.decide_eq_true, Bool.and_eq_true, Bool.or_eq_true, Bool.not_eq_true', Bool.not_eq_false', Bool.and_eq_false_imp, Bool.or_eq_false_iff, bne_iff_ne, beq_iff_eq, bne_eq_false_iff_eq, beq_eq_false_iff_ne, gt_iff_lt, ge_iff_le, Int.not_lt, Int.not_le, ne_eq, Bool.true_eq_false, Bool.false_eq_true, reduceCtorEq, eta_Airway, eta_Dusting, eta_Heading, eta_Mine, eta_Mode, eta_Sensor, bytes_nil] at hG; (try simp only [List.length_map]); omega) ?_
    | refine EqI.mk _ (fun _ => wrapI (by omega) (by omega)) ?_
    | refine EqI.mk _ (fun _ => rfl) ?_
    | refine EqL.mk _ (tk GDusting.cells (by first | rfl | assumption | omega | (simp only [List.length_map, List.length_cons, List.length_nil, List.length_append, List.length_set, List.length_replicate, iotaI_len]; done) | (simp only [List.length_map, List.length_cons, List.length_nil, List.length_append, List.length_set, List.length_replicate, iotaI_len]; omega))) ?_
    | refine EqL.mk [] rfl ?_
    | refine EqL.mk [_] rfl ?_
    | refine EqL.mk _ rfl ?_
    | refine ArgF.is (c_impl_ValidDustings ..) ?_
    | refine ArgQ.is (fun hG => c_impl_ValidDustings ..) rfl rfl ?_
    | refine ArgF.is (c_impl_within ..) ?_
    | refine ArgQ.is (fun hG => c_impl_within ..) rfl rfl ?_
    | refine ArgF.is (c_impl_dustAt _ _ _ (by first | assumption | omega)) ?_
    | refine ArgQ.is (fun hG => c_impl_dustAt _ _ _ (by first | assumption | omega)) rfl rfl ?_
    | refine ArgQ.is (fun hG => c_impl_dustAt _ _ _ (by simp only [forall_const, eq_self, not_true_eq_false, not_false_eq_true, or_false, false_or, or_self, or_true, true_or, and_true, true_and, and_false, false_and, decide_true, decide_false, Bool.not_true, Bool.not_false, decide_eq_true_eq, decide_eq_false_iff_not, ite_and_p, ite_or_p, Bool.decide_eq_true, Bool.and_eq_true, Bool.or_eq_true, Bool.not_eq_true', Bool.not_eq_false', Bool.and_eq_false_imp, Bool.or_eq_false_iff, bne_iff_ne, beq_iff_eq, bne_eq_false_iff_eq, beq_eq_false_iff_ne, gt_iff_lt, ge_iff_le, Int.not_lt, Int.not_le, ne_eq, Bool.true_eq_false, Bool.false_eq_true, reduceCtorEq, eta_Airway, eta_Dusting, eta_Heading, eta_Mine, eta_Mode, eta_Sensor, bytes_nil] at hG; omega)) rfl rfl ?_
    | refine CallF.mk (CallW.is [] true rfl ?_)
    | refine CallG.mk ?_
    | (refine CondF.mk (fun hb => ?_) (fun hb => ?_) <;> try simp only [forall_const, eq_self, not_true_eq_false, not_false_eq_true, or_false, false_or, or_self, or_true, true_or, and_true, true_and, and_false, false_and, decide_true, decide_false, Bool.not_true, Bool.not_false, decide_eq_true_eq, decide_eq_false_iff_not, ite_and_p, ite_or_p, Bool.decide_eq_true, Bool.and_eq_true, Bool.or_eq_true, Bool.not_eq_true', Bool.not_eq_false', Bool.and_eq_false_imp, Bool.or_eq_false_iff, bne_iff_ne, beq_iff_eq, bne_eq_false_iff_eq, beq_eq_false_iff_ne, gt_iff_lt, ge_iff_le, Int.not_lt, Int.not_le, ne_eq, Bool.true_eq_false, Bool.false_eq_true, reduceCtorEq, eta_Airway, eta_Dusting, eta_Heading, eta_Mine, eta_Mode, eta_Sensor] at hb)
    | apply BackF.auto2
    | refine BackB.mk ?_ ?_
    | refine RetF.auto (And.intro rfl ?_)
    | exact Is.mk rfl rfl
    | refine Is.mk ?_ rfl
    | refine Is.mk rfl ?_
    | refine Is.mk ?_ ?_
  all_goals try dsimp only [stayP]
  · exact .inl (by decide)
  · exact .inl (by decide)
  · simp only [not_or, Bool.not_eq_false, inR_iff] at hb
    exact ⟨by omega, by omega, by assumption, hb.1.1, hb.1.2, hb.2, by rw [Int.sub_self]; unfold dS; rfl, hb.2⟩
  · exact .inr ⟨rfl, h2, h3, h4, h5, by omega, by omega, by omega, fun _ => by have := dS1_s (ds := ds) (a := a) h0; rw [show i - u + 1 = i + 1 - u by omega, this]; omega⟩
  · exact ⟨by omega, by omega, h2, h3, h4, h5, by rw [dS1_s h0, h6], by omega⟩
  · omega
  · exact .inr ⟨rfl, h2, h3, h4, h5, by omega, by omega, by omega, fun _ => by omega⟩
theorem c_impl_WorstMinute (ds : List GDusting) (a : Int) : FnSem Try.prog 52 [LD ds, In a] [] (RetV (fun v : Int × Int × Int => [In v.1, In v.2.1, In v.2.2]) (fun _ => []) (fun v => (okDusts ds = true → 0 ≤ a ∧ a ≤ 23 → v.2.2 = 0 ∧ v.2.1 = dAt ds a v.1 ∧ (0 ≤ v.1 ∧ v.1 ≤ 1439) ∧ ∀ j : Nat, (j : Int) < 1440 → dAt ds a j ≤ v.2.1))) := by
  refine FnSem.walk (zs := zeroPV Try.prog) (by kernel_rfl) Try.func52 rfl Try.results52 (by kernel_rfl) (by kernel_rfl) (by kernel_rfl) fun hw hh => ?_
  obtain ⟨w0, w1, _⟩ := hw
  first | replace w0 := wf_LDusting w0 | skip
  first | replace w1 := wf_I w1 | replace w1 := wf_Y w1 | replace w1 := wf_S w1 | replace w1 := wf_LI w1 | replace w1 := wf_LY w1 | replace w1 := wf_LLI w1 | replace w1 := wf_Ls w1 | skip
  repeat' first
    | refine And.intro rfl ?_
    | refine GdF.mk (fun h => h) ?_
    | refine And.intro (Nat.succ_ne_zero _) ?_
    | refine And.intro (Nat.le_of_ble_eq_true rfl) ?_
    | refine SeqF.run ?_
    | refine ArgF.is (c_impl_dustAt ds a i h2) ?_
    | refine ArgQ.is (fun hG => c_impl_dustAt ds a i h2) rfl rfl ?_
    | refine LoopF.at 7 rfl (LoopF.fix [0, 1] (Int × Int × Int) (fun (b, m, i) => 0 ≤ i ∧ i ≤ 1440 ∧ okDusts ds = true ∧ (0 ≤ a ∧ a ≤ 23) ∧ (0 ≤ b ∧ b ≤ 1439) ∧ (m = -1 ∧ i = 0 ∨ m = dAt ds a b ∧ b < i) ∧ ∀ j : Nat, (j : Int) < i → dAt ds a j ≤ m) (fun (b, m, i) => [(7, In b), (8, In m), (19, In i)]) (fun (b, m, i) => []) (fun (b, m, i) => ((1440 - i).toNat)) ((0, -1, 0)) ?_)
    | (refine LoopB.of (T := Int × Int × Int) ?_ ?_; rotate_left; rintro ⟨b, m, i⟩ ⟨h0, h1, h2, h3, h4, h5, h6⟩; rotate_left)
    | refine RetV.mk (α := Int × Int × Int) (_, _, _) rfl rfl ?_
    | refine GhF.go ?_
    | refine BndF.mk (fun _ => by omega) ?_
    | refine BndF.mk (fun _ => by simp only [List.length_map, List.length_cons, List.length_nil, List.length_append, List.length_set, List.length_replicate, iotaI_len]; omega) ?_
    | refine EqI.mk _ (fun _ => wrapI (by omega) (by omega)) ?_
    | refine EqI.mk _ (fun _ => rfl) ?_
    | refine EqL.mk _ (tk GDusting.cells (by first | rfl | assumption | omega | (simp only [List.length_map, List.length_cons, List.length_nil, List.length_append, List.length_set, List.length_replicate, iotaI_len]; done) | (simp only [List.length_map, List.length_cons, List.length_nil, List.length_append, List.length_set, List.length_replicate, iotaI_len]; omega))) ?_
    | refine EqL.mk [] rfl ?_
    | refine EqL.mk [_] rfl ?_
    | refine EqL.mk _ rfl ?_
    | refine ArgF.is (c_impl_ValidDustings ..) ?_
    | refine ArgQ.is (fun hG => c_impl_ValidDustings ..) rfl rfl ?_
    | refine ArgF.is (c_impl_within ..) ?_
    | refine ArgQ.is (fun hG => c_impl_within ..) rfl rfl ?_
    | refine ArgF.is (c_impl_dustAt _ _ _ (by first | assumption | omega)) ?_
    | refine ArgQ.is (fun hG => c_impl_dustAt _ _ _ (by first | assumption | omega)) rfl rfl ?_
    | refine ArgQ.is (fun hG => c_impl_dustAt _ _ _ (by simp only [forall_const, eq_self, not_true_eq_false, not_false_eq_true, or_false, false_or, or_self, or_true, true_or, and_true, true_and, and_false, false_and, decide_true, decide_false, Bool.not_true, Bool.not_false, decide_eq_true_eq, decide_eq_false_iff_not, ite_and_p, ite_or_p, Bool.decide_eq_true, Bool.and_eq_true, Bool.or_eq_true, Bool.not_eq_true', Bool.not_eq_false', Bool.and_eq_false_imp, Bool.or_eq_false_iff, bne_iff_ne, beq_iff_eq, bne_eq_false_iff_eq, beq_eq_false_iff_ne, gt_iff_lt, ge_iff_le, Int.not_lt, Int.not_le, ne_eq, Bool.true_eq_false, Bool.false_eq_true, reduceCtorEq, eta_Airway, eta_Dusting, eta_Heading, eta_Mine, eta_Mode, eta_Sensor, bytes_nil] at hG; omega)) rfl rfl ?_
    | refine CallF.mk (CallW.is [] true rfl ?_)
    | refine CallG.mk ?_
    | (refine CondF.mk (fun hb => ?_) (fun hb => ?_) <;> try simp only [forall_const, eq_self, not_true_eq_false, not_false_eq_true, or_false, false_or, or_self, or_true, true_or, and_true, true_and, and_false, false_and, decide_true, decide_false, Bool.not_true, Bool.not_false, decide_eq_true_eq, decide_eq_false_iff_not, ite_and_p, ite_or_p, Bool.decide_eq_true, Bool.and_eq_true, Bool.or_eq_true, Bool.not_eq_true', Bool.not_eq_false', Bool.and_eq_false_imp, Bool.or_eq_false_iff, bne_iff_ne, beq_iff_eq, bne_eq_false_iff_eq, beq_eq_false_iff_ne, gt_iff_lt, ge_iff_le, Int.not_lt, Int.not_le, ne_eq, Bool.true_eq_false, Bool.false_eq_true, reduceCtorEq, eta_Airway, eta_Dusting, eta_Heading, eta_Mine, eta_Mode, eta_Sensor] at hb)
    | apply BackF.auto3
    | refine BackB.mk ?_ ?_
    | refine RetF.auto (And.intro rfl ?_)
    | exact Is.mk rfl rfl
    | refine Is.mk ?_ rfl
    | refine Is.mk rfl ?_
    | refine Is.mk ?_ ?_
  all_goals try dsimp only
  · intro h; rw [hb] at h; cases h
  · intro _ h; simp only [inR_f] at hb; omega
  · exact ⟨by omega, by omega, by assumption, inR_iff.1 hb, by omega, .inl ⟨rfl, rfl⟩, all_0⟩
  · refine ⟨by omega, by omega, h2, h3, by omega, .inr ⟨rfl, by omega⟩, fun j hj => ?_⟩
    by_cases e : (j : Int) = i
    · rw [e]; exact Int.le_refl _
    · have := h6 j (by omega); omega
  · omega
  · refine ⟨by omega, by omega, h2, h3, h4, ?_, fun j hj => ?_⟩
    · have := dAt_b (a := a) (t := i) h2; omega
    · by_cases e : (j : Int) = i
      · rw [e]; omega
      · exact h6 j (by omega)
  · omega
  · intro _ _
    exact ⟨rfl, by omega, by omega, fun j hj => h6 j (by omega)⟩
theorem exp1 {ds : List GDusting} {a u n : Int} (h : okDusts ds = true) (ha : 0 ≤ a ∧ a ≤ 23) (hu : 0 ≤ u) (hn : 0 < n) (h2 : u + n ≤ 1440) : expR ds [[a, u, u + n]] = (dS ds a 1 u n.toNat, 0) := by
  have hs : okStays [[a, u, u + n]] = true := by
    unfold okStays okStay okDust inR
    simp; omega
  rw [expR_0 h hs]
  unfold expT expT
  simp [expo]
  rw [show u + n - u = n by omega]
end Go.Proofs.Ytlcpjlmhfhiggaa
