/- Contracts of functions of the program, and what they compute. Conditions: those that each theorem states. -/
import Derived.Test.YtlcpjlmhfhiggaaProg
import Derived.Test.YtlcpjlmhfhiggaaE6
set_option linter.unusedVariables false
set_option linter.unusedSimpArgs false
namespace Go.Proofs.Ytlcpjlmhfhiggaa
open Go.Av
attribute [local irreducible] Go.IntKind.wrap dTo okDusts okStays okDust okStay dS dAt expo okMasks masks expR dustR rises expT
set_option maxRecDepth 20000
set_option maxHeartbeats 8000000

theorem c_laws_FnExposure (c1 c2 : List Int) : FnSem Try.prog 10 [Lx (LY c1), Lx (LY c2)] [] (Is [Bo true] []) := by
  refine FnSem.walk (zs := zeroPV Try.prog) (by kernel_rfl) Try.func10 rfl Try.results10 (by kernel_rfl) (by kernel_rfl) (by kernel_rfl) fun hw hh => ?_
  obtain ⟨w0, w1, _⟩ := hw
  first | replace w0 := wf_I w0 | replace w0 := wf_Y w0 | replace w0 := wf_S w0 | replace w0 := wf_LI w0 | replace w0 := wf_LY w0 | replace w0 := wf_LLI w0 | replace w0 := wf_Ls w0 | skip
  first | replace w1 := wf_I w1 | replace w1 := wf_Y w1 | replace w1 := wf_S w1 | replace w1 := wf_LI w1 | replace w1 := wf_LY w1 | replace w1 := wf_LLI w1 | replace w1 := wf_Ls w1 | skip
  repeat' first
    | refine And.intro rfl ?_
    | refine GdF.mk (fun h => h) ?_
    | refine And.intro (Nat.succ_ne_zero _) ?_
    | refine And.intro (Nat.le_of_ble_eq_true rfl) ?_
    | refine SeqF.run ?_
    | (refine ArgF.ret (c_spec_DrawLongestStay _) ?_; rintro ⟨k, ds, a, u, lim⟩ ⟨hv, hv'⟩; dsimp only at hv hv' ⊢)
    | (refine ArgF.ret (c_impl_LongestStay ds a u lim) ?_; rintro ⟨n, code⟩ hs; dsimp only at hs ⊢)
    | (refine ArgF.ret (c_impl_WorstMinute ds a) ?_; rintro ⟨wm, wmost, c4⟩ hw; dsimp only at hw ⊢)
    | (refine ArgF.ret (c_spec_DrawFewestMasks _) ?_; rintro ⟨k1, ts, k2, ss, f, most, budget⟩ ⟨⟨hv1, hv1'⟩, hv2, hv2'⟩; dsimp only at hv1 hv1' hv2 hv2' ⊢)
    | (refine ArgF.ret (c_impl_FewestMasks ts ss f most budget) ?_; rintro ⟨n2, ys, code2⟩ ⟨hm1, hm2⟩; dsimp only at hm1 hm2 ⊢)
    | refine EqL.mk (List.map eLI [_]) rfl ?_
    | refine EqL.mk _ (tkT (s := ys.take n2) rfl) ?_
    | refine EqI.mk _ (fun _ => wrapI (by have := stay0 hs (by assumption); omega) (by have := stay0 hs (by assumption); omega)) ?_
    | refine GhF.go ?_
    | refine GdS.keep ?_
    | refine MkF.row ?_
    | refine BndF.mk (fun _ => by omega) ?_
    | refine BndF.mk (fun _ => by simp only [List.length_map, List.length_cons, List.length_nil, List.length_append, List.length_set, List.length_replicate, iotaI_len]; omega) ?_
    | refine BndF.mk (fun hG => by simp only [forall_const, eq_self, not_true_eq_false, not_false_eq_true, or_false, false_or, or_self, or_true, true_or, and_true, true_and, and_false, false_and, decide_true, decide_false, Bool.not_true, Bool.not_false, decide_eq_true_eq, decide_eq_false_iff_not, ite_and_p, ite_or_p, Bool.decide_eq_true, Bool.and_eq_true, Bool.or_eq_true, Bool.not_eq_true', Bool.not_eq_false', Bool.and_eq_false_imp, Bool.or_eq_false_iff, bne_iff_ne, beq_iff_eq, bne_eq_false_iff_eq, beq_eq_false_iff_ne, gt_iff_lt, ge_iff_le, Int.not_lt, Int.not_le, ne_eq, Bool.true_eq_false, Bool.false_eq_true, reduceCtorEq, eta_Airway, eta_Dusting, eta_Heading, eta_Mine, eta_Mode, eta_Sensor, bytes_nil] at hG; (try simp only [List.length_map]); omega) ?_
    | refine EqI.mk _ (fun _ => wrapI (by omega) (by omega)) ?_
    | refine EqI.mk _ (fun _ => rfl) ?_
    | refine EqN.mk _ (ln eI) ?_
    | refine EqN.mk _ (ln eY) ?_
    | refine EqN.mk _ (ln GDusting.cells) ?_
    | refine EqN.mk _ (ln eLI) ?_
    | refine EqL.mk _ (tk eI (by first | rfl | assumption | omega | (simp only [List.length_map, List.length_cons, List.length_nil, List.length_append, List.length_set, List.length_replicate, iotaI_len]; done) | (simp only [List.length_map, List.length_cons, List.length_nil, List.length_append, List.length_set, List.length_replicate, iotaI_len]; omega))) ?_
    | refine EqL.mk _ (tk eY (by first | rfl | assumption | omega | (simp only [List.length_map, List.length_cons, List.length_nil, List.length_append, List.length_set, List.length_replicate, iotaI_len]; done) | (simp only [List.length_map, List.length_cons, List.length_nil, List.length_append, List.length_set, List.length_replicate, iotaI_len]; omega))) ?_
    | refine EqL.mk _ (tk GDusting.cells (by first | rfl | assumption | omega | (simp only [List.length_map, List.length_cons, List.length_nil, List.length_append, List.length_set, List.length_replicate, iotaI_len]; done) | (simp only [List.length_map, List.length_cons, List.length_nil, List.length_append, List.length_set, List.length_replicate, iotaI_len]; omega))) ?_
    | refine EqL.mk _ (tk eLI (by first | rfl | assumption | omega | (simp only [List.length_map, List.length_cons, List.length_nil, List.length_append, List.length_set, List.length_replicate, iotaI_len]; done) | (simp only [List.length_map, List.length_cons, List.length_nil, List.length_append, List.length_set, List.length_replicate, iotaI_len]; omega))) ?_
    | refine EqL.mk (List.map eI [_, _, _]) rfl ?_
    | refine EqL.mk [] rfl ?_
    | refine EqL.mk [_] rfl ?_
    | refine EqL.mk _ rfl ?_
    | refine ArgF.is (c_laws_b10Long ..) ?_
    | refine ArgQ.is (fun hG => c_laws_b10Long ..) rfl rfl ?_
    | refine ArgF.is (c_spec_DrawLongestStay ..) ?_
    | refine ArgQ.is (fun hG => c_spec_DrawLongestStay ..) rfl rfl ?_
    | refine ArgF.is (c_impl_LongestStay ..) ?_
    | refine ArgQ.is (fun hG => c_impl_LongestStay ..) rfl rfl ?_
    | refine ArgF.is (c_impl_ExposureOf ..) ?_
    | refine ArgQ.is (fun hG => c_impl_ExposureOf ..) rfl rfl ?_
    | refine ArgF.is (c_impl_WorstMinute ..) ?_
    | refine ArgQ.is (fun hG => c_impl_WorstMinute ..) rfl rfl ?_
    | refine ArgF.is (c_impl_DustAt ..) ?_
    | refine ArgQ.is (fun hG => c_impl_DustAt ..) rfl rfl ?_
    | refine ArgF.is (c_spec_DrawFewestMasks ..) ?_
    | refine ArgQ.is (fun hG => c_spec_DrawFewestMasks ..) rfl rfl ?_
    | refine ArgF.is (c_impl_FewestMasks ..) ?_
    | refine ArgQ.is (fun hG => c_impl_FewestMasks ..) rfl rfl ?_
    | refine ArgF.is (c_laws_b10Rises ..) ?_
    | refine ArgQ.is (fun hG => c_laws_b10Rises ..) rfl rfl ?_
    | refine CallF.mk (CallW.is [] true rfl ?_)
    | refine CallG.mk ?_
    | (refine CondF.mk (fun hb => ?_) (fun hb => ?_) <;> try simp only [forall_const, eq_self, not_true_eq_false, not_false_eq_true, or_false, false_or, or_self, or_true, true_or, and_true, true_and, and_false, false_and, decide_true, decide_false, Bool.not_true, Bool.not_false, decide_eq_true_eq, decide_eq_false_iff_not, ite_and_p, ite_or_p, Bool.decide_eq_true, Bool.and_eq_true, Bool.or_eq_true, Bool.not_eq_true', Bool.not_eq_false', Bool.and_eq_false_imp, Bool.or_eq_false_iff, bne_iff_ne, beq_iff_eq, bne_eq_false_iff_eq, beq_eq_false_iff_ne, gt_iff_lt, ge_iff_le, Int.not_lt, Int.not_le, ne_eq, Bool.true_eq_false, Bool.false_eq_true, reduceCtorEq, eta_Airway, eta_Dusting, eta_Heading, eta_Mine, eta_Mode, eta_Sensor] at hb)
    | refine RetF.auto (And.intro rfl ?_)
    | exact Is.mk rfl rfl
    | refine Is.mk ?_ rfl
    | refine Is.mk rfl ?_
    | refine Is.mk ?_ ?_
  all_goals try dsimp only
  all_goals try simp only [Bo, I, OB.row.injEq, AV.osl.injEq, eI_same,  List.cons.injEq, AV.p.injEq, PV.c.injEq, Value.int.injEq, Value.bool.injEq, and_true, true_and, ite_and_p, ite_or_p, Bool.decide_eq_true, eta_Airway, eta_Dusting, eta_Heading, eta_Mine, eta_Mode, eta_Sensor]
  all_goals first
    | exact law_c hm1 hm2 (by assumption)
    | exact law_d hm1 hm2 (by assumption) hv2
    | (exfalso; have q := stay0 hs (by assumption); omega)
    | (exfalso; have q := stay0 hs (by assumption); rw [exp1 q.1 q.2.1 q.2.2.1.1 (by omega) (by omega)] at hb; dsimp only at hb; omega)
    | (exfalso; have q := stay0 hs (by assumption); rw [show u + n + 1 = u + (n + 1) by omega, exp1 q.1 q.2.1 q.2.2.1.1 (by omega) (by omega)] at hb; dsimp only at hb; have := q.2.2.2.2.2.2.2 (by omega); omega)
    | (exfalso; have q := stay0 hs (by assumption); obtain ⟨w1, w2, w3, w4⟩ := hw q.1 q.2.1; have w5 := w4 u.toNat (by omega); rw [show ((u.toNat : Nat) : Int) = u by omega] at w5; rw [dust0 q.1 q.2.1 w3, dust0 q.1 q.2.1 (by omega)] at hb; dsimp only at hb; omega)
    | skip
end Go.Proofs.Ytlcpjlmhfhiggaa
