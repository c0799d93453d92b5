/- Contracts of functions of the program, and what they compute. Conditions: those that each theorem states. -/
import Derived.Test.YtlcpjlmhfhiggaaProg
import Derived.Test.YtlcpjlmhfhiggaaR8
set_option linter.unusedVariables false
set_option linter.unusedSimpArgs false
namespace Go.Proofs.Ytlcpjlmhfhiggaa
open Go.Av
attribute [local irreducible] Go.IntKind.wrap leastI rdZ rd mixT heatF
set_option maxRecDepth 20000
set_option maxHeartbeats 4000000

theorem ht1 {t rock rate time : Int} (ht : -101 ≤ t ∧ t ≤ 601) : ¬(warmA t rock rate time).2 = 0 ∨ (t ≤ rock ∧ t ≤ (warmA t rock rate time).1 ∧ (warmA t rock rate time).1 ≤ rock ∨ rock ≤ t ∧ rock ≤ (warmA t rock rate time).1 ∧ (warmA t rock rate time).1 ≤ t) := by
  unfold warmA
  split
  · rename_i h
    simp only [Bool.and_eq_true, inR_iff] at h
    obtain ⟨a, b, _⟩ := warmN_b h.1.1.1 h.1.1.2 h.1.2 (time / 10).toNat
    right; dsimp only
    rcases Int.le_total t rock with h1 | h1
    · exact .inl ⟨h1, a h1⟩
    · exact .inr ⟨h1, b h1⟩
  · left; dsimp only; omega
theorem heat_neg {p flow density : Int} (hf : 1 ≤ flow ∧ flow ≤ 100000) (hd : 1 ≤ density ∧ density ≤ 5000) : heatF (-p) flow density = -(heatF p flow density) := by
  unfold heatF
  rw [Int.mul_neg, rdZ_neg (by have := heatY_b hf hd; omega)]
theorem ht2 {t limit flow density : Int} (ht : -101 ≤ t ∧ t ≤ 601) : ¬(coolFor t limit flow density).2 = 0 ∨ (0 ≤ (coolFor t limit flow density).1 ∧ (coolFor t limit flow density).1 ≤ 10000000 ∧ (heatFr (0 - (coolFor t limit flow density).1) flow density).2 = 0 ∧ t + (heatFr (0 - (coolFor t limit flow density).1) flow density).1 ≤ limit ∧ (-20000000000 ≤ (heatFr (0 - (coolFor t limit flow density).1) flow density).1 ∧ (heatFr (0 - (coolFor t limit flow density).1) flow density).1 ≤ 20000000000) ∧ ((coolFor t limit flow density).1 = 0 ∨ (heatFr (1 - (coolFor t limit flow density).1) flow density).2 = 0 ∧ limit < t + (heatFr (1 - (coolFor t limit flow density).1) flow density).1 ∧ (-20000000000 ≤ (heatFr (1 - (coolFor t limit flow density).1) flow density).1 ∧ (heatFr (1 - (coolFor t limit flow density).1) flow density).1 ≤ 20000000000))) := by
  unfold coolFor
  split
  · rename_i h
    simp only [Bool.and_eq_true, inR_iff] at h
    have hl := leastI_hit (p := coolP t limit flow density) (lo := 0) (hi := 10000000)
    generalize leastI (coolP t limit flow density) 0 10000000 = n at *
    by_cases hn : n ≤ 10000000
    · rw [if_pos hn]
      obtain ⟨a1, a2, a3⟩ := hl hn (by omega)
      have a2 : t - heatF n flow density ≤ limit := of_decide_eq_true a2
      have hb := heatF_b (power := -n) (by omega) h.1.2 h.2
      right; dsimp only; rw [Int.zero_sub]
      have e1 : heatFr (-n) flow density = (heatF (-n) flow density, 0) := by
        unfold heatFr; rw [if_pos (by simp only [Bool.and_eq_true, inR_iff]; omega)]
      rw [e1]; dsimp only
      have e2 := heat_neg (p := n) h.1.2 h.2
      refine ⟨a1, hn, rfl, by omega, hb, ?_⟩
      by_cases h0 : n = 0
      · exact .inl h0
      · right
        have hb := heatF_b (power := 1 - n) (by omega) h.1.2 h.2
        have e3 : heatFr (1 - n) flow density = (heatF (1 - n) flow density, 0) := by
          unfold heatFr; rw [if_pos (by simp only [Bool.and_eq_true, inR_iff]; omega)]
        have e4 := heat_neg (p := n - 1) h.1.2 h.2
        rw [show -(n - 1) = 1 - n by omega] at e4
        have a4 : ¬(t - heatF (n - 1) flow density ≤ limit) := of_decide_eq_false (a3 (n - 1) (by omega) (by omega))
        rw [e3]; dsimp only
        exact ⟨rfl, by omega, hb⟩
    · rw [if_neg hn]; left; dsimp only; omega
  · left; dsimp only; omega
theorem ht3 {fs ts : List Int} : (¬(mixTemp fs ts).2 = 0 ∧ (mixTemp fs ts).1 = 0) ∨ (mixTemp fs ts).2 = 0 ∧ fs.length = ts.length ∧ (∀ lo hi : Int, (∀ j : Nat, (j : Int) < ts.length → lo ≤ ts.getD j 0 ∧ ts.getD j 0 ≤ hi) → lo ≤ (mixTemp fs ts).1 ∧ (mixTemp fs ts).1 ≤ hi) := by
  unfold mixTemp
  split
  · rename_i h
    have hl := (okMix_b h).1
    right; refine ⟨rfl, by omega, fun lo hi hh => mixT_b h fun j hj => hh j (by omega)⟩
  · left; dsimp only; omega
attribute [local irreducible] warmA coolFor heatFr mixTemp
theorem c_laws_FnHeat (c1 c2 : List Int) : FnSem Try.prog 8 [Lx (LY c1), Lx (LY c2)] [] (Is [Bo true] []) := by
  refine FnSem.walk (zs := zeroPV Try.prog) (by kernel_rfl) Try.func8 rfl Try.results8 (by kernel_rfl) (by kernel_rfl) (by kernel_rfl) fun hw hh => ?_
  obtain ⟨w0, w1, _⟩ := hw
  first | replace w0 := wf_I w0 | replace w0 := wf_Y w0 | replace w0 := wf_S w0 | replace w0 := wf_LI w0 | replace w0 := wf_LY w0 | replace w0 := wf_LLI w0 | replace w0 := wf_Ls w0 | skip
  first | replace w1 := wf_I w1 | replace w1 := wf_Y w1 | replace w1 := wf_S w1 | replace w1 := wf_LI w1 | replace w1 := wf_LY w1 | replace w1 := wf_LLI w1 | replace w1 := wf_Ls w1 | skip
  repeat' first
    | refine And.intro rfl ?_
    | refine GdF.mk (fun h => h) ?_
    | refine And.intro (Nat.succ_ne_zero _) ?_
    | refine And.intro (Nat.le_of_ble_eq_true rfl) ?_
    | refine SeqF.run ?_
    | (refine ArgF.ret (c_spec_DrawWarmAlong _) ?_; rintro ⟨t, rock, rate, time⟩ hv; dsimp only at hv ⊢; have H1 := ht1 (rock := rock) (rate := rate) (time := time) hv)
    | (refine ArgF.ret (c_spec_DrawCoolingFor _) ?_; rintro ⟨warm, limit, flow, density⟩ hv2; dsimp only at hv2 ⊢; have H2 := ht2 (limit := limit) (flow := flow) (density := density) hv2.1)
    | (refine ArgF.ret (c_spec_DrawMixTemperature _) ?_; rintro ⟨k, fs, l, ts⟩ hv3; dsimp only at hv3 ⊢; have H3 := ht3 (fs := fs) (ts := ts))
    | refine LoopF.fix [22, 23] (Int × Int × Int) (fun (lo, hi, i) => 0 ≤ i ∧ i ≤ ts.length ∧ (∀ j : Nat, (j : Int) < i → lo ≤ ts.getD j 0 ∧ ts.getD j 0 ≤ hi)) (fun (lo, hi, i) => [(25, In lo), (26, In hi), (27, In i)]) (fun (lo, hi, i) => []) (fun (lo, hi, i) => ((ts.length - i).toNat)) ((1000, -1000, 0)) ?_
    | (refine LoopB.mk ?_ ?_; rotate_left; rintro ⟨lo, hi, i⟩ ⟨h0, h1, h2⟩; rotate_left)
    | refine EqP.mk _ (gm eI 0 rfl) ?_
    | refine EqP.mk _ (gm eY 0 rfl) ?_
    | refine BndF.mk (fun _ => by omega) ?_
    | refine BndF.mk (fun _ => by simp only [List.length_map, List.length_cons, List.length_nil, List.length_append, List.length_set, List.length_replicate, iotaI_len]; omega) ?_
    | refine BndF.mk (fun hG => by simp only [forall_const, eq_self, not_true_eq_false, not_false_eq_true, or_false, false_or, or_self, or_true, true_or, and_true, true_and, and_false, false_and, decide_true, decide_false, Bool.not_true, Bool.not_false, decide_eq_true_eq, decide_eq_false_iff_not, ite_and_p, ite_or_p, Bool.decide_eq_true, Bool.and_eq_true, Bool.or_eq_true, Bool.not_eq_true', Bool.not_eq_false', Bool.and_eq_false_imp, Bool.or_eq_false_iff, bne_iff_ne, beq_iff_eq, bne_eq_false_iff_eq, beq_eq_false_iff_ne, gt_iff_lt, ge_iff_le, Int.not_lt, Int.not_le, ne_eq, Bool.true_eq_false, Bool.false_eq_true, reduceCtorEq, eta_Airway, eta_Dusting, eta_Heading, eta_Mine, eta_Mode, eta_Sensor, bytes_nil] at hG; (try simp only [List.length_map]); omega) ?_
    | refine EqI.mk _ (fun _ => wrapI (by omega) (by omega)) ?_
    | refine EqI.mk _ (fun _ => rfl) ?_
    | refine EqN.mk _ (ln eI) ?_
    | refine EqN.mk _ (ln eY) ?_
    | refine EqN.mk _ (Nat.zero_add _) ?_
    | refine EqN.mk _ (Int.toNat_natCast _) ?_
    | refine EqN.mk _ rfl ?_
    | refine EqL.mk _ (tk eI (by first | rfl | assumption | omega | (simp only [List.length_map, List.length_cons, List.length_nil, List.length_append, List.length_set, List.length_replicate, iotaI_len]; done) | (simp only [List.length_map, List.length_cons, List.length_nil, List.length_append, List.length_set, List.length_replicate, iotaI_len]; omega))) ?_
    | refine EqL.mk _ (tk eY (by first | rfl | assumption | omega | (simp only [List.length_map, List.length_cons, List.length_nil, List.length_append, List.length_set, List.length_replicate, iotaI_len]; done) | (simp only [List.length_map, List.length_cons, List.length_nil, List.length_append, List.length_set, List.length_replicate, iotaI_len]; omega))) ?_
    | refine EqL.mk [] rfl ?_
    | refine EqL.mk [_] rfl ?_
    | refine EqL.mk _ rfl ?_
    | refine ArgF.is (c_laws_b10Long ..) ?_
    | refine ArgQ.is (fun hG => c_laws_b10Long ..) rfl rfl ?_
    | refine ArgF.is (c_spec_DrawWarmAlong ..) ?_
    | refine ArgQ.is (fun hG => c_spec_DrawWarmAlong ..) rfl rfl ?_
    | refine ArgF.is (c_impl_WarmAlong ..) ?_
    | refine ArgQ.is (fun hG => c_impl_WarmAlong ..) rfl rfl ?_
    | refine ArgF.is (c_spec_DrawCoolingFor ..) ?_
    | refine ArgQ.is (fun hG => c_spec_DrawCoolingFor ..) rfl rfl ?_
    | refine ArgF.is (c_impl_CoolingFor ..) ?_
    | refine ArgQ.is (fun hG => c_impl_CoolingFor ..) rfl rfl ?_
    | refine ArgF.is (c_impl_HeatFrom ..) ?_
    | refine ArgQ.is (fun hG => c_impl_HeatFrom ..) rfl rfl ?_
    | refine ArgF.is (c_spec_DrawMixTemperature ..) ?_
    | refine ArgQ.is (fun hG => c_spec_DrawMixTemperature ..) rfl rfl ?_
    | refine ArgF.is (c_impl_MixTemperature ..) ?_
    | refine ArgQ.is (fun hG => c_impl_MixTemperature ..) rfl rfl ?_
    | refine CallF.mk (CallW.is [] true rfl ?_)
    | refine CallG.mk ?_
    | (refine CondF.mk (fun hb => ?_) (fun hb => ?_) <;> try simp only [forall_const, eq_self, not_true_eq_false, not_false_eq_true, or_false, false_or, or_self, or_true, true_or, and_true, true_and, and_false, false_and, decide_true, decide_false, Bool.not_true, Bool.not_false, decide_eq_true_eq, decide_eq_false_iff_not, ite_and_p, ite_or_p, Bool.decide_eq_true, Bool.and_eq_true, Bool.or_eq_true, Bool.not_eq_true', Bool.not_eq_false', Bool.and_eq_false_imp, Bool.or_eq_false_iff, bne_iff_ne, beq_iff_eq, bne_eq_false_iff_eq, beq_eq_false_iff_ne, gt_iff_lt, ge_iff_le, Int.not_lt, Int.not_le, ne_eq, Bool.true_eq_false, Bool.false_eq_true, reduceCtorEq, eta_Airway, eta_Dusting, eta_Heading, eta_Mine, eta_Mode, eta_Sensor] at hb)
    | apply BackF.auto3
    | refine BackB.mk ?_ ?_
    | refine RetF.auto (And.intro rfl ?_)
    | exact Is.mk rfl rfl
    | refine Is.mk ?_ rfl
    | refine Is.mk rfl ?_
    | refine Is.mk ?_ ?_
  all_goals try dsimp only
  all_goals try simp only [Bo, I, OB.row.injEq, AV.osl.injEq, eI_same,  List.cons.injEq, AV.p.injEq, PV.c.injEq, Value.int.injEq, Value.bool.injEq, and_true, true_and, ite_and_p, ite_or_p, Bool.decide_eq_true, eta_Airway, eta_Dusting, eta_Heading, eta_Mine, eta_Mode, eta_Sensor]
  all_goals first
    | (exfalso; omega)
    | omega
    | exact ⟨by omega, by omega, all_0⟩
    | exact ⟨by omega, by omega, fun j hj => by
        by_cases e : (j : Int) < i
        · have := h2 j e; omega
        · rw [show j = i.toNat by omega]; omega⟩
    | (rw [beq_iff_eq]; omega)
    | (rcases H3 with H3 | H3
       · exfalso; omega
       · have := H3.2.2 lo hi (fun j hj => h2 j (by omega)); simp only [Bool.and_eq_true, decide_eq_true_eq]; omega)
end Go.Proofs.Ytlcpjlmhfhiggaa
