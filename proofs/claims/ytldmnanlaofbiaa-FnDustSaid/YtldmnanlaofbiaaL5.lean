/- Contracts of functions of the program, and what they compute. Conditions: those that each theorem states. -/
import Derived.Test.YtldmnanlaofbiaaProg
import Derived.Test.YtldmnanlaofbiaaL4
set_option linter.unusedVariables false
set_option linter.unusedSimpArgs false
namespace Go.Proofs.Ytldmnanlaofbiaa
open Go.Av
attribute [local irreducible] Go.IntKind.wrap settled dustOf
set_option maxRecDepth 20000
set_option maxHeartbeats 8000000
theorem good_at {bs xs : List Int} {i : Int} (h : goodD bs xs) (h0 : 0 ≤ i) (h1 : i < xs.length) : 0 ≤ xs.getD i.toNat 0 ∧ xs.getD i.toNat 0 ≤ prevD xs i.toNat + bs.getD i.toNat 0 ∧ xs.getD i.toNat 0 ≤ 1000000 := h _ (by omega)
theorem prevD_s {xs : List Int} {i : Int} (h0 : 0 ≤ i) : xs.getD i.toNat 0 = prevD xs (i + 1).toNat := by
  unfold prevD; rw [if_neg (by omega), show (i + 1).toNat - 1 = i.toNat by omega]
theorem c_laws_FnDust (c1 c2 : List Int) : FnSem Try.prog 5 [Lx (LY c1), Lx (LY c2)] [] (Is [Bo true] []) := by
  refine FnSem.walk (zs := zeroPV Try.prog) (by kernel_rfl) Try.func5 rfl Try.results5 (by kernel_rfl) (by kernel_rfl) (by kernel_rfl) fun hw hh => ?_
  obtain ⟨w0, w1, _⟩ := hw
  first | replace w0 := wf_I w0 | replace w0 := wf_Y w0 | replace w0 := wf_S w0 | replace w0 := wf_LI w0 | replace w0 := wf_LY w0 | replace w0 := wf_LLI w0 | replace w0 := wf_Ls w0 | skip
  first | replace w1 := wf_I w1 | replace w1 := wf_Y w1 | replace w1 := wf_S w1 | replace w1 := wf_LI w1 | replace w1 := wf_LY w1 | replace w1 := wf_LLI w1 | replace w1 := wf_Ls w1 | skip
  repeat' first
    | refine And.intro rfl ?_
    | refine GdF.mk (fun h => h) ?_
    | refine And.intro (Nat.succ_ne_zero _) ?_
    | refine SeqF.run ?_
    | refine EqI.mk _ (fun _ => wrapD (by have := settled_all (by assumption); omega) (by omega) (by omega)) ?_
    | refine EqI.mk _ (fun _ => wrapI (by have := settled_all (by assumption); omega) (by have := settled_all (by assumption); omega)) ?_
    | refine EqI.mk _ (fun _ => wrapI (by have := all_at (i := i) q5 (by omega) (by omega); omega) (by have := all_at (i := i) q5 (by omega) (by omega); omega)) ?_
    | (refine ArgF.ret (c_spec_DrawSettledAfter _) ?_; rintro ⟨d, s, t⟩ hv; dsimp only at hv ⊢)
    | (refine ArgF.ret (c_spec_DrawDustOf _) ?_; rintro ⟨d, f⟩ hw; dsimp only at hw ⊢)
    | (refine ArgF.ret (c_spec_DrawDustAlong _) ?_; rintro ⟨k, xs, l, ys, x⟩ hx; dsimp only at hx ⊢)
    | (refine ArgF.ret (c_impl_DustAlong _ _ _) ?_; rintro ⟨n, out, code⟩ hd; dsimp only at hd ⊢)
    | refine LoopF.fix [22, 24] (Int × Int) (fun (g, i) => 0 ≤ i ∧ i ≤ n ∧ g = prevD out i.toNat ∧ 0 ≤ g ∧ g ≤ 1000000 ∧ ys.all (inR · 0 1000000) = true ∧ goodD ys out ∧ n = out.length ∧ n = ys.length ∧ l = ys.length ∧ n ≤ 10) (fun (g, i) => [(26, In g), (27, In i)]) (fun (g, i) => []) (fun (g, i) => ((n - i).toNat)) ((0, 0)) ?_
    | (refine LoopB.mk ?_ ?_; rotate_left; rintro ⟨g, i⟩ ⟨q0, q1, q2, q3, q4, q5, q6, q7, q8, q9, qa⟩; rotate_left)
    | refine EqP.mk _ (gm eY 0 rfl) ?_
    | refine EqP.mk _ (gm eI 0 rfl) ?_
    | refine BndF.mk (fun _ => by omega) ?_
    | refine BndF.mk (fun _ => by simp only [List.length_map, List.length_cons, List.length_nil, List.length_append, List.length_set, List.length_replicate, iotaI_len]; omega) ?_
    | refine BndF.mk (fun hG => by simp only [forall_const, eq_self, not_true_eq_false, not_false_eq_true, or_false, false_or, or_self, or_true, true_or, and_true, true_and, and_false, false_and, decide_true, decide_false, Bool.not_true, Bool.not_false, decide_eq_true_eq, decide_eq_false_iff_not, ite_and_p, ite_or_p, Bool.decide_eq_true, Bool.and_eq_true, Bool.or_eq_true, Bool.not_eq_true', Bool.not_eq_false', Bool.and_eq_false_imp, Bool.or_eq_false_iff, bne_iff_ne, beq_iff_eq, bne_eq_false_iff_eq, beq_eq_false_iff_ne, gt_iff_lt, ge_iff_le, Int.not_lt, Int.not_le, ne_eq, Bool.true_eq_false, Bool.false_eq_true, reduceCtorEq, eta_Airway, eta_Fan, eta_Heading, eta_Mine, eta_Sensor, bytes_nil] at hG; (try simp only [List.length_map]); omega) ?_
    | refine EqI.mk _ (fun _ => wrapI (by omega) (by omega)) ?_
    | refine EqI.mk _ (fun _ => wrapD (by omega) (by omega) (by omega)) ?_
    | refine EqI.mk _ (fun _ => rfl) ?_
    | refine EqN.mk _ (ln eY) ?_
    | refine EqN.mk _ (ln eI) ?_
    | refine EqN.mk _ (Nat.zero_add _) ?_
    | refine EqN.mk _ (Int.toNat_natCast _) ?_
    | refine EqN.mk _ rfl ?_
    | refine EqL.mk _ (tk eY (by first | rfl | assumption | omega | (simp only [List.length_map, List.length_cons, List.length_nil, List.length_append, List.length_set, List.length_replicate, iotaI_len]; done) | (simp only [List.length_map, List.length_cons, List.length_nil, List.length_append, List.length_set, List.length_replicate, iotaI_len]; omega))) ?_
    | refine EqL.mk _ (tk eI (by first | rfl | assumption | omega | (simp only [List.length_map, List.length_cons, List.length_nil, List.length_append, List.length_set, List.length_replicate, iotaI_len]; done) | (simp only [List.length_map, List.length_cons, List.length_nil, List.length_append, List.length_set, List.length_replicate, iotaI_len]; omega))) ?_
    | refine EqL.mk [] rfl ?_
    | refine EqL.mk [_] rfl ?_
    | refine EqL.mk _ rfl ?_
    | refine ArgF.is (c_laws_b10Long ..) ?_
    | refine ArgQ.is (fun hG => c_laws_b10Long ..) rfl rfl ?_
    | refine ArgF.is (c_spec_DrawSettledAfter ..) ?_
    | refine ArgQ.is (fun hG => c_spec_DrawSettledAfter ..) rfl rfl ?_
    | refine ArgF.is (c_impl_SettledAfter ..) ?_
    | refine ArgQ.is (fun hG => c_impl_SettledAfter ..) rfl rfl ?_
    | refine ArgF.is (c_spec_DrawDustOf ..) ?_
    | refine ArgQ.is (fun hG => c_spec_DrawDustOf ..) rfl rfl ?_
    | refine ArgF.is (c_impl_DustOf ..) ?_
    | refine ArgQ.is (fun hG => c_impl_DustOf ..) rfl rfl ?_
    | refine ArgF.is (c_spec_DrawDustAlong ..) ?_
    | refine ArgQ.is (fun hG => c_spec_DrawDustAlong ..) rfl rfl ?_
    | refine ArgF.is (c_impl_DustAlong ..) ?_
    | refine ArgQ.is (fun hG => c_impl_DustAlong ..) rfl rfl ?_
    | refine CallF.mk (CallW.is [] true rfl ?_)
    | refine CallG.mk ?_
    | (refine CondF.mk (fun hb => ?_) (fun hb => ?_) <;> try simp only [forall_const, eq_self, not_true_eq_false, not_false_eq_true, or_false, false_or, or_self, or_true, true_or, and_true, true_and, and_false, false_and, decide_true, decide_false, Bool.not_true, Bool.not_false, decide_eq_true_eq, decide_eq_false_iff_not, ite_and_p, ite_or_p, Bool.decide_eq_true, Bool.and_eq_true, Bool.or_eq_true, Bool.not_eq_true', Bool.not_eq_false', Bool.and_eq_false_imp, Bool.or_eq_false_iff, bne_iff_ne, beq_iff_eq, bne_eq_false_iff_eq, beq_eq_false_iff_ne, gt_iff_lt, ge_iff_le, Int.not_lt, Int.not_le, ne_eq, Bool.true_eq_false, Bool.false_eq_true, reduceCtorEq, eta_Airway, eta_Fan, eta_Heading, eta_Mine, eta_Sensor] at hb)
    | apply BackF.auto2
    | refine BackB.mk ?_ ?_
    | refine RetF.auto (And.intro rfl ?_)
    | exact Is.mk rfl rfl
    | refine Is.mk ?_ rfl
    | refine Is.mk rfl ?_
    | refine Is.mk ?_ ?_
  all_goals try dsimp only
  all_goals first
    | rfl
    | omega
    | (exfalso; have h := settled_all (by assumption); obtain ⟨_, ⟨h1, h2⟩, h3, h4, h5⟩ := h; rw [h4] at hb; omega)
    | (exfalso; have h := dustOf_less hb.1.1 hb.1.2; omega)
    | (exfalso; have h := good_at q6 q0 (by omega); rw [← q2] at h; omega)
    | (have h := good_at q6 q0 (by omega); exact ⟨by omega, by omega, prevD_s q0, h.1, h.2.2, q5, q6, q7, q8, q9, qa⟩)
    | (rcases hd with ⟨h1, ⟨h2, h3⟩ | ⟨h2, h3, h4, h5, h6⟩⟩ <;> first | (subst h2; rfl) | exact absurd h2 hb)
    | (exfalso; rcases hd with ⟨h1, ⟨h2, h3⟩ | ⟨h2, h3, h4, h5, h6⟩⟩ <;> omega)
    | (rcases hd with ⟨h1, ⟨h2, h3⟩ | ⟨h2, h3, h4, h5, h6⟩⟩ <;> first | omega | exact ⟨by omega, by omega, rfl, by omega, by omega, h5, h6, h1, by omega, by omega, by omega⟩)
    | skip
