/- Contracts of functions of the program, and what they compute. Conditions: those that each theorem states. -/
import Derived.Test.YtlcpjlmhfhiggaaProg
import Derived.Test.YtlcpjlmhfhiggaaK13
set_option linter.unusedVariables false
set_option linter.unusedSimpArgs false
namespace Go.Proofs.Ytlcpjlmhfhiggaa
open Go.Av
attribute [local irreducible] Go.IntKind.wrap clearI gasN mostG stepG leastI
set_option maxRecDepth 20000
set_option maxHeartbeats 2000000

theorem step_gas {x : GHeading} {g g' q : Int} (hv : okHeading x = true) (h0 : 0 ≤ g') (h1 : g' ≤ g) (hq : 0 ≤ q) : stepG x g' q ≤ stepG x g q := by
  have hb := okHeading_b hv
  have e1 : 0 ≤ g' * q := Int.mul_nonneg h0 hq
  have e2 : g' * q ≤ g * q := Int.mul_le_mul_of_nonneg_right h1 hq
  unfold stepG
  rw [Int.tdiv_eq_ediv_of_nonneg e1, Int.tdiv_eq_ediv_of_nonneg (by omega)]
  have hD1 : 1 ≤ 100 * x.volume := by omega
  generalize 100 * x.volume = D at *
  by_cases hqD : D ≤ q
  · have a1 : g' ≤ g' * q / D := by
      rw [Int.le_ediv_iff_mul_le (by omega)]
      exact Int.mul_le_mul_of_nonneg_left hqD h0
    omega
  · have a2 : g * q ≤ g' * q + (g - g') * D := by
      have := Int.mul_le_mul_of_nonneg_left (show q ≤ D by omega) (show 0 ≤ g - g' by omega)
      rw [Int.sub_mul g g' q] at this; omega
    have a3 : g * q / D ≤ g' * q / D + (g - g') := by
      have := Int.ediv_le_ediv (show 0 < D by omega) a2
      rwa [Int.add_mul_ediv_right _ _ (by omega)] at this
    have a4 : g' * q / D ≤ g' * q / D := Int.le_refl _
    omega
theorem gasN_b {x : GHeading} {gas q : Int} (hv : okHeading x = true) (hg : 0 ≤ gas ∧ gas ≤ x.volume * 1000000) (hq : 0 ≤ q ∧ q ≤ 100000) : ∀ k : Nat, 0 ≤ gasN x gas q k ∧ gasN x gas q k ≤ x.volume * 1000000
  | 0 => by unfold gasN; exact hg
  | k + 1 => by unfold gasN; exact stepB hv (gasN_b hv hg hq k) hq
theorem gasN_mono {x : GHeading} {gas a b : Int} (hv : okHeading x = true) (hg : 0 ≤ gas ∧ gas ≤ x.volume * 1000000) (h0 : 0 ≤ a) (h1 : a ≤ b) (h2 : b ≤ 100000) : ∀ k : Nat, gasN x gas b k ≤ gasN x gas a k
  | 0 => by unfold gasN; exact Int.le_refl _
  | k + 1 => by
    unfold gasN
    exact Int.le_trans (step_mono hv (gasN_b hv hg ⟨by omega, h2⟩ k).1 h0 h1) (step_gas hv (gasN_b hv hg ⟨by omega, h2⟩ k).1 (gasN_mono hv hg h0 h1 h2 k) h0)
theorem clear_any {x : GHeading} {gas q most secs : Int} : decide (0 ≤ clearI x gas q most secs) = (List.range (secs.toNat + 1)).any fun k => decide (gasN x gas q k ≤ most) := by
  unfold clearI
  split
  · rename_i k hk
    rw [List.find?_range_eq_some] at hk
    rw [decide_eq_true (by omega)]
    exact (List.any_eq_true.2 ⟨k, hk.2.1, hk.1⟩).symm
  · rename_i hk
    rw [decide_eq_false (by omega)]
    refine (Bool.eq_false_iff.2 fun h => ?_).symm
    obtain ⟨k, h1, h2⟩ := List.any_eq_true.1 h
    rw [List.find?_range_eq_none] at hk
    have := hk k (by simpa using h1)
    rw [h2] at this; cases this
theorem clear_mono {x : GHeading} {gas a b most secs : Int} (hv : okHeading x = true) (hg : 0 ≤ gas ∧ gas ≤ x.volume * 1000000) (h0 : 0 ≤ a) (h1 : a ≤ b) (h2 : b ≤ 100000) (h : decide (0 ≤ clearI x gas a most secs) = true) : decide (0 ≤ clearI x gas b most secs) = true := by
  rw [clear_any, List.any_eq_true] at h ⊢
  obtain ⟨k, h3, h4⟩ := h
  refine ⟨k, h3, ?_⟩
  have := gasN_mono hv hg h0 h1 h2 k
  simp only [decide_eq_true_eq] at h4 ⊢
  omega
theorem c_impl_ClearFlow_1 (x : GHeading) (gas flow share secs : Int) (hv : okHeading x = true) (hg : 0 ≤ gas ∧ gas ≤ x.volume * 1000000) (hf : 0 ≤ flow ∧ flow ≤ 100000) (hs : 0 ≤ secs ∧ secs ≤ 36000) (hm : 0 ≤ share ∧ share ≤ 1000000) : FnSem Try.prog 78 [In flow, .p .any (.ref x.cells), .p .any (.ref [.c (.int .i64 gas)]), .p .any (.ref [.c (.int .i64 share)]), .p .any (.ref [.c (.int .i64 secs)])] [] (Is [Bo (decide (0 ≤ clearI x gas flow (mostG x share) secs))] []) := by
  refine FnSem.walk (zs := zeroPV Try.prog) (by kernel_rfl) Try.func78 rfl Try.results78 (by kernel_rfl) (by kernel_rfl) (by kernel_rfl) fun hw hh => ?_
  obtain ⟨w0, w1, w2, w3, w4, _⟩ := hw
  first | replace w0 := wf_I w0 | replace w0 := wf_Y w0 | replace w0 := wf_S w0 | replace w0 := wf_LI w0 | replace w0 := wf_LY w0 | replace w0 := wf_LLI w0 | replace w0 := wf_Ls w0 | skip
  first | replace w1 := wf_I w1 | replace w1 := wf_Y w1 | replace w1 := wf_S w1 | replace w1 := wf_LI w1 | replace w1 := wf_LY w1 | replace w1 := wf_LLI w1 | replace w1 := wf_Ls w1 | skip
  first | replace w2 := wf_I w2 | replace w2 := wf_Y w2 | replace w2 := wf_S w2 | replace w2 := wf_LI w2 | replace w2 := wf_LY w2 | replace w2 := wf_LLI w2 | replace w2 := wf_Ls w2 | skip
  first | replace w3 := wf_I w3 | replace w3 := wf_Y w3 | replace w3 := wf_S w3 | replace w3 := wf_LI w3 | replace w3 := wf_LY w3 | replace w3 := wf_LLI w3 | replace w3 := wf_Ls w3 | skip
  first | replace w4 := wf_I w4 | replace w4 := wf_Y w4 | replace w4 := wf_S w4 | replace w4 := wf_LI w4 | replace w4 := wf_LY w4 | replace w4 := wf_LLI w4 | replace w4 := wf_Ls w4 | skip
  repeat' first
    | refine And.intro rfl ?_
    | refine GdF.mk (fun h => h) ?_
    | refine And.intro (Nat.succ_ne_zero _) ?_
    | refine And.intro (Nat.le_of_ble_eq_true rfl) ?_
    | refine SeqF.run ?_
    | refine ArgF.is (c_impl_Heading_clearTime x _ _ _ _ (by assumption) (by assumption) (by assumption) (by assumption) (by assumption)) ?_
    | refine ArgQ.is (fun hG => c_impl_Heading_clearTime x _ _ _ _ (by assumption) (by assumption) (by assumption) (by assumption) (by assumption)) rfl rfl ?_
    | refine BndF.mk (fun _ => by omega) ?_
    | refine BndF.mk (fun _ => by simp only [List.length_map, List.length_cons, List.length_nil, List.length_append, List.length_set, List.length_replicate, iotaI_len]; omega) ?_
    | refine EqL.mk [] rfl ?_
    | refine EqL.mk [_] rfl ?_
    | refine EqL.mk _ rfl ?_
    | refine ArgF.is (c_impl_Heading_clearTime ⟨_, _, _⟩ _ _ _ _ (by first | assumption | omega) (by first | assumption | omega) (by first | assumption | omega) (by first | assumption | omega) (by first | assumption | omega)) ?_
    | refine ArgQ.is (fun hG => c_impl_Heading_clearTime ⟨_, _, _⟩ _ _ _ _ (by first | assumption | omega) (by first | assumption | omega) (by first | assumption | omega) (by first | assumption | omega) (by first | assumption | omega)) rfl rfl ?_
    | refine ArgQ.is (fun hG => c_impl_Heading_clearTime ⟨_, _, _⟩ _ _ _ _ (by simp only [forall_const, eq_self, not_true_eq_false, not_false_eq_true, or_false, false_or, or_self, or_true, true_or, and_true, true_and, and_false, false_and, decide_true, decide_false, Bool.not_true, Bool.not_false, decide_eq_true_eq, decide_eq_false_iff_not, ite_and_p, ite_or_p, Bool.decide_eq_true, Bool.and_eq_true, Bool.or_eq_true, Bool.not_eq_true', Bool.not_eq_false', Bool.and_eq_false_imp, Bool.or_eq_false_iff, bne_iff_ne, beq_iff_eq, bne_eq_false_iff_eq, beq_eq_false_iff_ne, gt_iff_lt, ge_iff_le, Int.not_lt, Int.not_le, ne_eq, Bool.true_eq_false, Bool.false_eq_true, reduceCtorEq, eta_Airway, eta_Dusting, eta_Heading, eta_Mine, eta_Mode, eta_Sensor, bytes_nil] at hG; omega) (by simp only [forall_const, eq_self, not_true_eq_false, not_false_eq_true, or_false, false_or, or_self, or_true, true_or, and_true, true_and, and_false, false_and, decide_true, decide_false, Bool.not_true, Bool.not_false, decide_eq_true_eq, decide_eq_false_iff_not, ite_and_p, ite_or_p, Bool.decide_eq_true, Bool.and_eq_true, Bool.or_eq_true, Bool.not_eq_true', Bool.not_eq_false', Bool.and_eq_false_imp, Bool.or_eq_false_iff, bne_iff_ne, beq_iff_eq, bne_eq_false_iff_eq, beq_eq_false_iff_ne, gt_iff_lt, ge_iff_le, Int.not_lt, Int.not_le, ne_eq, Bool.true_eq_false, Bool.false_eq_true, reduceCtorEq, eta_Airway, eta_Dusting, eta_Heading, eta_Mine, eta_Mode, eta_Sensor, bytes_nil] at hG; omega) (by simp only [forall_const, eq_self, not_true_eq_false, not_false_eq_true, or_false, false_or, or_self, or_true, true_or, and_true, true_and, and_false, false_and, decide_true, decide_false, Bool.not_true, Bool.not_false, decide_eq_true_eq, decide_eq_false_iff_not, ite_and_p, ite_or_p, Bool.decide_eq_true, Bool.and_eq_true, Bool.or_eq_true, Bool.not_eq_true', Bool.not_eq_false', Bool.and_eq_false_imp, Bool.or_eq_false_iff, bne_iff_ne, beq_iff_eq, bne_eq_false_iff_eq, beq_eq_false_iff_ne, gt_iff_lt, ge_iff_le, Int.not_lt, Int.not_le, ne_eq, Bool.true_eq_false, Bool.false_eq_true, reduceCtorEq, eta_Airway, eta_Dusting, eta_Heading, eta_Mine, eta_Mode, eta_Sensor, bytes_nil] at hG; omega) (by simp only [forall_const, eq_self, not_true_eq_false, not_false_eq_true, or_false, false_or, or_self, or_true, true_or, and_true, true_and, and_false, false_and, decide_true, decide_false, Bool.not_true, Bool.not_false, decide_eq_true_eq, decide_eq_false_iff_not, ite_and_p, ite_or_p, Bool.decide_eq_true, Bool.and_eq_true, Bool.or_eq_true, Bool.not_eq_true', Bool.not_eq_false', Bool.and_eq_false_imp, Bool.or_eq_false_iff, bne_iff_ne, beq_iff_eq, bne_eq_false_iff_eq, beq_eq_false_iff_ne, gt_iff_lt, ge_iff_le, Int.not_lt, Int.not_le, ne_eq, Bool.true_eq_false, Bool.false_eq_true, reduceCtorEq, eta_Airway, eta_Dusting, eta_Heading, eta_Mine, eta_Mode, eta_Sensor, bytes_nil] at hG; omega) (by simp only [forall_const, eq_self, not_true_eq_false, not_false_eq_true, or_false, false_or, or_self, or_true, true_or, and_true, true_and, and_false, false_and, decide_true, decide_false, Bool.not_true, Bool.not_false, decide_eq_true_eq, decide_eq_false_iff_not, ite_and_p, ite_or_p, Bool.decide_eq_true, Bool.and_eq_true, Bool.or_eq_true, Bool.not_eq_true', Bool.not_eq_false', Bool.and_eq_false_imp, Bool.or_eq_false_iff, bne_iff_ne, beq_iff_eq, bne_eq_false_iff_eq, beq_eq_false_iff_ne, gt_iff_lt, ge_iff_le, Int.not_lt, Int.not_le, ne_eq, Bool.true_eq_false, Bool.false_eq_true, reduceCtorEq, eta_Airway, eta_Dusting, eta_Heading, eta_Mine, eta_Mode, eta_Sensor, bytes_nil] at hG; omega)) rfl rfl ?_
    | refine CallF.mk (CallW.is [] true rfl ?_)
    | refine CallG.mk ?_
    | (refine CondF.mk (fun hb => ?_) (fun hb => ?_) <;> try simp only [forall_const, eq_self, not_true_eq_false, not_false_eq_true, or_false, false_or, or_self, or_true, true_or, and_true, true_and, and_false, false_and, decide_true, decide_false, Bool.not_true, Bool.not_false, decide_eq_true_eq, decide_eq_false_iff_not, ite_and_p, ite_or_p, Bool.decide_eq_true, Bool.and_eq_true, Bool.or_eq_true, Bool.not_eq_true', Bool.not_eq_false', Bool.and_eq_false_imp, Bool.or_eq_false_iff, bne_iff_ne, beq_iff_eq, bne_eq_false_iff_eq, beq_eq_false_iff_ne, gt_iff_lt, ge_iff_le, Int.not_lt, Int.not_le, ne_eq, Bool.true_eq_false, Bool.false_eq_true, reduceCtorEq, eta_Airway, eta_Dusting, eta_Heading, eta_Mine, eta_Mode, eta_Sensor] at hb)
    | refine RetF.auto (And.intro rfl ?_)
    | exact Is.mk rfl rfl
    | refine Is.mk ?_ rfl
    | refine Is.mk rfl ?_
    | refine Is.mk ?_ ?_
def clearP (x : GHeading) (gas share secs : Int) (q : Int) : Bool := decide (0 ≤ clearI x gas q (mostG x share) secs)
def clearFlow (x : GHeading) (gas share secs : Int) : Int × Int := if askG x gas 0 share = 0 then (if inR secs 0 3600 = true then (if leastI (clearP x gas share secs) 0 100000 ≤ 100000 then (leastI (clearP x gas share secs) 0 100000, 0) else (0, 3)) else (0, 2)) else (0, askG x gas 0 share)
theorem c_impl_ClearFlow (x : GHeading) (gas share secs : Int) : FnSem Try.prog 16 [.p .any (.agg x.cells), In gas, In share, In secs] [] (Is [In (clearFlow x gas share secs).1, In (clearFlow x gas share secs).2] []) := by
  refine FnSem.walk (zs := zeroPV Try.prog) (by kernel_rfl) Try.func16 rfl Try.results16 (by kernel_rfl) (by kernel_rfl) (by kernel_rfl) fun hw hh => ?_
  obtain ⟨w0, w1, w2, w3, _⟩ := hw
  first | replace w0 := wf_Heading w0 | skip
  first | replace w1 := wf_I w1 | replace w1 := wf_Y w1 | replace w1 := wf_S w1 | replace w1 := wf_LI w1 | replace w1 := wf_LY w1 | replace w1 := wf_LLI w1 | replace w1 := wf_Ls w1 | skip
  first | replace w2 := wf_I w2 | replace w2 := wf_Y w2 | replace w2 := wf_S w2 | replace w2 := wf_LI w2 | replace w2 := wf_LY w2 | replace w2 := wf_LLI w2 | replace w2 := wf_Ls w2 | skip
  first | replace w3 := wf_I w3 | replace w3 := wf_Y w3 | replace w3 := wf_S w3 | replace w3 := wf_LI w3 | replace w3 := wf_LY w3 | replace w3 := wf_LLI w3 | replace w3 := wf_Ls w3 | skip
  repeat' first
    | refine And.intro rfl ?_
    | refine GdF.mk (fun h => h) ?_
    | refine And.intro (Nat.succ_ne_zero _) ?_
    | refine And.intro (Nat.le_of_ble_eq_true rfl) ?_
    | refine SeqF.run ?_
    | refine ArgF.is (firstIn4 _ _ _ _ _ _ _ (clearP x gas share secs) (fun q h0 h1 => c_impl_ClearFlow_1 x _ q _ _ (askG_0 (by assumption)).1 (askG_0 (by assumption)).2.1 ⟨h0, h1⟩ (by simp only [inR_iff] at *; omega) (askG_0 (by assumption)).2.2.2) (by omega) (fun a b h0 h1 h2 h => clear_mono (askG_0 (by assumption)).1 (askG_0 (by assumption)).2.1 h0 h1 h2 h)) ?_
    | refine ArgQ.is (fun hG => firstIn4 _ _ _ _ _ _ _ (clearP x gas share secs) (fun q h0 h1 => c_impl_ClearFlow_1 x _ q _ _ (askG_0 (by assumption)).1 (askG_0 (by assumption)).2.1 ⟨h0, h1⟩ (by simp only [inR_iff] at *; omega) (askG_0 (by assumption)).2.2.2) (by omega) (fun a b h0 h1 h2 h => clear_mono (askG_0 (by assumption)).1 (askG_0 (by assumption)).2.1 h0 h1 h2 h)) rfl rfl ?_
    | refine BndF.mk (fun _ => by omega) ?_
    | refine BndF.mk (fun _ => by simp only [List.length_map, List.length_cons, List.length_nil, List.length_append, List.length_set, List.length_replicate, iotaI_len]; omega) ?_
    | refine EqL.mk [] rfl ?_
    | refine EqL.mk [_] rfl ?_
    | refine EqL.mk _ rfl ?_
    | refine ArgF.is (c_impl_Heading_code ⟨_, _, _⟩ _ _ _) ?_
    | refine ArgQ.is (fun hG => c_impl_Heading_code ⟨_, _, _⟩ _ _ _) rfl rfl ?_
    | refine ArgF.is (c_impl_within ..) ?_
    | refine ArgQ.is (fun hG => c_impl_within ..) rfl rfl ?_
    | refine ArgF.is (c_impl_firstIn ..) ?_
    | refine ArgQ.is (fun hG => c_impl_firstIn ..) rfl rfl ?_
    | refine ArgF.is (c_impl_orNotFound ..) ?_
    | refine ArgQ.is (fun hG => c_impl_orNotFound ..) rfl rfl ?_
    | refine CallF.mk (CallW.is [] true rfl ?_)
    | refine CallG.mk ?_
    | (refine CondF.mk (fun hb => ?_) (fun hb => ?_) <;> try simp only [forall_const, eq_self, not_true_eq_false, not_false_eq_true, or_false, false_or, or_self, or_true, true_or, and_true, true_and, and_false, false_and, decide_true, decide_false, Bool.not_true, Bool.not_false, decide_eq_true_eq, decide_eq_false_iff_not, ite_and_p, ite_or_p, Bool.decide_eq_true, Bool.and_eq_true, Bool.or_eq_true, Bool.not_eq_true', Bool.not_eq_false', Bool.and_eq_false_imp, Bool.or_eq_false_iff, bne_iff_ne, beq_iff_eq, bne_eq_false_iff_eq, beq_eq_false_iff_ne, gt_iff_lt, ge_iff_le, Int.not_lt, Int.not_le, ne_eq, Bool.true_eq_false, Bool.false_eq_true, reduceCtorEq, eta_Airway, eta_Dusting, eta_Heading, eta_Mine, eta_Mode, eta_Sensor] at hb)
    | refine RetF.auto (And.intro rfl ?_)
    | exact Is.mk rfl rfl
    | refine Is.mk ?_ rfl
    | refine Is.mk rfl ?_
    | refine Is.mk ?_ ?_
  all_goals try dsimp only
  all_goals try simp only [Bo, I, OB.row.injEq, AV.osl.injEq, eI_same,  List.cons.injEq, AV.p.injEq, PV.c.injEq, Value.int.injEq, Value.bool.injEq, and_true, true_and, ite_and_p, ite_or_p, Bool.decide_eq_true, eta_Airway, eta_Dusting, eta_Heading, eta_Mine, eta_Mode, eta_Sensor, clearFlow]
  all_goals (generalize leastI (clearP x gas share secs) 0 100000 = c at *; grind)
attribute [local irreducible] clearFlow
theorem cf_bad {x : GHeading} {gas share secs : Int} (h : ¬askG x gas 0 0 = 0) : clearFlow x gas share secs = (0, askG x gas 0 0) := by
  have e : askG x gas 0 share = askG x gas 0 0 := by rw [ask_split x gas 0 share, if_neg h]
  unfold clearFlow; rw [e, if_neg h]
theorem cf_range {x : GHeading} {gas share secs : Int} (h : askG x gas 0 0 = 0) (h1 : inR share 0 1000000 = false ∨ inR secs 0 3600 = false) : clearFlow x gas share secs = (0, 2) := by
  have e := ask_split x gas 0 share
  rw [if_pos h] at e
  unfold clearFlow; rw [e]
  cases h2 : inR share 0 1000000 with
  | false => rw [if_neg (by decide)]; rfl
  | true => rw [if_pos rfl, if_pos rfl, if_neg (by grind)]
theorem cf_ok {x : GHeading} {gas share secs : Int} (h : askG x gas 0 0 = 0) (h1 : ¬inR share 0 1000000 = false ∧ inR secs 0 3600 = true) : clearFlow x gas share secs = if leastI (clearP x gas share secs) 0 100000 ≤ 100000 then (leastI (clearP x gas share secs) 0 100000, 0) else (0, 3) := by
  have e := ask_split x gas 0 share
  rw [if_pos h, if_pos (by simpa using h1.1)] at e
  unfold clearFlow; rw [if_pos e, if_pos h1.2]
theorem c_spec_ClearFlow (x : GHeading) (gas share secs : Int) : FnSem Try.prog 14 [.p .any (.agg x.cells), In gas, In share, In secs] [] (Is [In (clearFlow x gas share secs).1, In (clearFlow x gas share secs).2] []) := by
  refine FnSem.walk (zs := zeroPV Try.prog) (by kernel_rfl) Try.func14 rfl Try.results14 (by kernel_rfl) (by kernel_rfl) (by kernel_rfl) fun hw hh => ?_
  obtain ⟨w0, w1, w2, w3, _⟩ := hw
  first | replace w0 := wf_Heading w0 | skip
  first | replace w1 := wf_I w1 | replace w1 := wf_Y w1 | replace w1 := wf_S w1 | replace w1 := wf_LI w1 | replace w1 := wf_LY w1 | replace w1 := wf_LLI w1 | replace w1 := wf_Ls w1 | skip
  first | replace w2 := wf_I w2 | replace w2 := wf_Y w2 | replace w2 := wf_S w2 | replace w2 := wf_LI w2 | replace w2 := wf_LY w2 | replace w2 := wf_LLI w2 | replace w2 := wf_Ls w2 | skip
  first | replace w3 := wf_I w3 | replace w3 := wf_Y w3 | replace w3 := wf_S w3 | replace w3 := wf_LI w3 | replace w3 := wf_LY w3 | replace w3 := wf_LLI w3 | replace w3 := wf_Ls w3 | skip
  repeat' first
    | refine And.intro rfl ?_
    | refine GdF.mk (fun h => h) ?_
    | refine And.intro (Nat.succ_ne_zero _) ?_
    | refine And.intro (Nat.le_of_ble_eq_true rfl) ?_
    | refine SeqF.run ?_
    | refine ArgF.is (c_spec_l15Most x _ (askG_0 (by assumption)).1 (by simp only [not_or, Bool.not_eq_false, inR_iff] at *; omega)) ?_
    | refine ArgQ.is (fun hG => c_spec_l15Most x _ (askG_0 (by assumption)).1 (by simp only [not_or, Bool.not_eq_false, inR_iff] at *; omega)) rfl rfl ?_
    | refine ArgF.is (c_spec_l15Clear x _ _ _ _ (askG_0 (by assumption)).1 (askG_0 (by assumption)).2.1 (by omega) (by simp only [not_or, Bool.not_eq_false, inR_iff] at *; omega)) ?_
    | refine ArgQ.is (fun hG => c_spec_l15Clear x _ _ _ _ (askG_0 (by assumption)).1 (askG_0 (by assumption)).2.1 (by omega) (by simp only [not_or, Bool.not_eq_false, inR_iff] at *; omega)) rfl rfl ?_
    | refine LoopF.fix [1, 3, 4, 11] (Int × Int) (fun (i, j) => 0 ≤ i ∧ i ≤ j ∧ j ≤ 100000 ∧ (∀ m, 0 ≤ m → m < i → clearP x gas share secs m = false) ∧ clearP x gas share secs j = true) (fun (i, j) => [(12, In i), (13, In j)]) (fun (i, j) => []) (fun (i, j) => ((j - i).toNat)) ((0, 100000)) ?_
    | (refine LoopB.mk ?_ ?_; rotate_left; rintro ⟨i, j⟩ ⟨h0, h1, h2, h3, h4⟩; rotate_left)
    | refine BndF.mk (fun _ => by omega) ?_
    | refine BndF.mk (fun _ => by simp only [List.length_map, List.length_cons, List.length_nil, List.length_append, List.length_set, List.length_replicate, iotaI_len]; omega) ?_
    | refine BndF.mk (fun hG => by simp only [forall_const, eq_self, not_true_eq_false, not_false_eq_true, or_false, false_or, or_self, or_true, true_or, and_true, true_and, and_false, false_and, decide_true, decide_false, Bool.not_true, Bool.not_false, decide_eq_true_eq, decide_eq_false_iff_not, ite_and_p, ite_or_p, Bool.decide_eq_true, Bool.and_eq_true, Bool.or_eq_true, Bool.not_eq_true', Bool.not_eq_false', Bool.and_eq_false_imp, Bool.or_eq_false_iff, bne_iff_ne, beq_iff_eq, bne_eq_false_iff_eq, beq_eq_false_iff_ne, gt_iff_lt, ge_iff_le, Int.not_lt, Int.not_le, ne_eq, Bool.true_eq_false, Bool.false_eq_true, reduceCtorEq, eta_Airway, eta_Dusting, eta_Heading, eta_Mine, eta_Mode, eta_Sensor, bytes_nil] at hG; (try simp only [List.length_map]); omega) ?_
    | refine EqI.mk _ (fun _ => wrapI (by omega) (by omega)) ?_
    | refine EqI.mk _ (fun _ => wrapD (by omega) (by omega) (by omega)) ?_
    | refine EqI.mk _ (fun _ => rfl) ?_
    | refine EqL.mk [] rfl ?_
    | refine EqL.mk [_] rfl ?_
    | refine EqL.mk _ rfl ?_
    | refine ArgF.is (c_spec_l15Ask ⟨_, _, _⟩ _ _) ?_
    | refine ArgQ.is (fun hG => c_spec_l15Ask ⟨_, _, _⟩ _ _) rfl rfl ?_
    | refine ArgF.is (c_spec_l15Share ..) ?_
    | refine ArgQ.is (fun hG => c_spec_l15Share ..) rfl rfl ?_
    | refine ArgF.is (c_spec_l00In ..) ?_
    | refine ArgQ.is (fun hG => c_spec_l00In ..) rfl rfl ?_
    | refine ArgF.is (c_spec_l15Most ⟨_, _, _⟩ _ (by first | assumption | omega) (by first | assumption | omega)) ?_
    | refine ArgQ.is (fun hG => c_spec_l15Most ⟨_, _, _⟩ _ (by first | assumption | omega) (by first | assumption | omega)) rfl rfl ?_
    | refine ArgQ.is (fun hG => c_spec_l15Most ⟨_, _, _⟩ _ (by simp only [forall_const, eq_self, not_true_eq_false, not_false_eq_true, or_false, false_or, or_self, or_true, true_or, and_true, true_and, and_false, false_and, decide_true, decide_false, Bool.not_true, Bool.not_false, decide_eq_true_eq, decide_eq_false_iff_not, ite_and_p, ite_or_p, Bool.decide_eq_true, Bool.and_eq_true, Bool.or_eq_true, Bool.not_eq_true', Bool.not_eq_false', Bool.and_eq_false_imp, Bool.or_eq_false_iff, bne_iff_ne, beq_iff_eq, bne_eq_false_iff_eq, beq_eq_false_iff_ne, gt_iff_lt, ge_iff_le, Int.not_lt, Int.not_le, ne_eq, Bool.true_eq_false, Bool.false_eq_true, reduceCtorEq, eta_Airway, eta_Dusting, eta_Heading, eta_Mine, eta_Mode, eta_Sensor, bytes_nil] at hG; omega) (by simp only [forall_const, eq_self, not_true_eq_false, not_false_eq_true, or_false, false_or, or_self, or_true, true_or, and_true, true_and, and_false, false_and, decide_true, decide_false, Bool.not_true, Bool.not_false, decide_eq_true_eq, decide_eq_false_iff_not, ite_and_p, ite_or_p, Bool.decide_eq_true, Bool.and_eq_true, Bool.or_eq_true, Bool.not_eq_true', Bool.not_eq_false', Bool.and_eq_false_imp, Bool.or_eq_false_iff, bne_iff_ne, beq_iff_eq, bne_eq_false_iff_eq, beq_eq_false_iff_ne, gt_iff_lt, ge_iff_le, Int.not_lt, Int.not_le, ne_eq, Bool.true_eq_false, Bool.false_eq_true, reduceCtorEq, eta_Airway, eta_Dusting, eta_Heading, eta_Mine, eta_Mode, eta_Sensor, bytes_nil] at hG; omega)) rfl rfl ?_
    | refine ArgF.is (c_spec_l15Clear ⟨_, _, _⟩ _ _ _ _ (by first | assumption | omega) (by first | assumption | omega) (by first | assumption | omega) (by first | assumption | omega)) ?_
    | refine ArgQ.is (fun hG => c_spec_l15Clear ⟨_, _, _⟩ _ _ _ _ (by first | assumption | omega) (by first | assumption | omega) (by first | assumption | omega) (by first | assumption | omega)) rfl rfl ?_
    | refine ArgQ.is (fun hG => c_spec_l15Clear ⟨_, _, _⟩ _ _ _ _ (by simp only [forall_const, eq_self, not_true_eq_false, not_false_eq_true, or_false, false_or, or_self, or_true, true_or, and_true, true_and, and_false, false_and, decide_true, decide_false, Bool.not_true, Bool.not_false, decide_eq_true_eq, decide_eq_false_iff_not, ite_and_p, ite_or_p, Bool.decide_eq_true, Bool.and_eq_true, Bool.or_eq_true, Bool.not_eq_true', Bool.not_eq_false', Bool.and_eq_false_imp, Bool.or_eq_false_iff, bne_iff_ne, beq_iff_eq, bne_eq_false_iff_eq, beq_eq_false_iff_ne, gt_iff_lt, ge_iff_le, Int.not_lt, Int.not_le, ne_eq, Bool.true_eq_false, Bool.false_eq_true, reduceCtorEq, eta_Airway, eta_Dusting, eta_Heading, eta_Mine, eta_Mode, eta_Sensor, bytes_nil] at hG; omega) (by simp only [forall_const, eq_self, not_true_eq_false, not_false_eq_true, or_false, false_or, or_self, or_true, true_or, and_true, true_and, and_false, false_and, decide_true, decide_false, Bool.not_true, Bool.not_false, decide_eq_true_eq, decide_eq_false_iff_not, ite_and_p, ite_or_p, Bool.decide_eq_true, Bool.and_eq_true, Bool.or_eq_true, Bool.not_eq_true', Bool.not_eq_false', Bool.and_eq_false_imp, Bool.or_eq_false_iff, bne_iff_ne, beq_iff_eq, bne_eq_false_iff_eq, beq_eq_false_iff_ne, gt_iff_lt, ge_iff_le, Int.not_lt, Int.not_le, ne_eq, Bool.true_eq_false, Bool.false_eq_true, reduceCtorEq, eta_Airway, eta_Dusting, eta_Heading, eta_Mine, eta_Mode, eta_Sensor, bytes_nil] at hG; omega) (by simp only [forall_const, eq_self, not_true_eq_false, not_false_eq_true, or_false, false_or, or_self, or_true, true_or, and_true, true_and, and_false, false_and, decide_true, decide_false, Bool.not_true, Bool.not_false, decide_eq_true_eq, decide_eq_false_iff_not, ite_and_p, ite_or_p, Bool.decide_eq_true, Bool.and_eq_true, Bool.or_eq_true, Bool.not_eq_true', Bool.not_eq_false', Bool.and_eq_false_imp, Bool.or_eq_false_iff, bne_iff_ne, beq_iff_eq, bne_eq_false_iff_eq, beq_eq_false_iff_ne, gt_iff_lt, ge_iff_le, Int.not_lt, Int.not_le, ne_eq, Bool.true_eq_false, Bool.false_eq_true, reduceCtorEq, eta_Airway, eta_Dusting, eta_Heading, eta_Mine, eta_Mode, eta_Sensor, bytes_nil] at hG; omega) (by simp only [forall_const, eq_self, not_true_eq_false, not_false_eq_true, or_false, false_or, or_self, or_true, true_or, and_true, true_and, and_false, false_and, decide_true, decide_false, Bool.not_true, Bool.not_false, decide_eq_true_eq, decide_eq_false_iff_not, ite_and_p, ite_or_p, Bool.decide_eq_true, Bool.and_eq_true, Bool.or_eq_true, Bool.not_eq_true', Bool.not_eq_false', Bool.and_eq_false_imp, Bool.or_eq_false_iff, bne_iff_ne, beq_iff_eq, bne_eq_false_iff_eq, beq_eq_false_iff_ne, gt_iff_lt, ge_iff_le, Int.not_lt, Int.not_le, ne_eq, Bool.true_eq_false, Bool.false_eq_true, reduceCtorEq, eta_Airway, eta_Dusting, eta_Heading, eta_Mine, eta_Mode, eta_Sensor, bytes_nil] at hG; omega)) rfl rfl ?_
    | refine CallF.mk (CallW.is [] true rfl ?_)
    | refine CallG.mk ?_
    | (refine CondF.mk (fun hb => ?_) (fun hb => ?_) <;> try simp only [forall_const, eq_self, not_true_eq_false, not_false_eq_true, or_false, false_or, or_self, or_true, true_or, and_true, true_and, and_false, false_and, decide_true, decide_false, Bool.not_true, Bool.not_false, decide_eq_true_eq, decide_eq_false_iff_not, ite_and_p, ite_or_p, Bool.decide_eq_true, Bool.and_eq_true, Bool.or_eq_true, Bool.not_eq_true', Bool.not_eq_false', Bool.and_eq_false_imp, Bool.or_eq_false_iff, bne_iff_ne, beq_iff_eq, bne_eq_false_iff_eq, beq_eq_false_iff_ne, gt_iff_lt, ge_iff_le, Int.not_lt, Int.not_le, ne_eq, Bool.true_eq_false, Bool.false_eq_true, reduceCtorEq, eta_Airway, eta_Dusting, eta_Heading, eta_Mine, eta_Mode, eta_Sensor] at hb)
    | apply BackF.auto2
    | refine BackB.mk ?_ ?_
    | refine RetF.auto (And.intro rfl ?_)
    | exact Is.mk rfl rfl
    | refine Is.mk ?_ rfl
    | refine Is.mk rfl ?_
    | refine Is.mk ?_ ?_
  all_goals try dsimp only
  all_goals try simp only [Bo, I, OB.row.injEq, AV.osl.injEq, eI_same,  List.cons.injEq, AV.p.injEq, PV.c.injEq, Value.int.injEq, Value.bool.injEq, and_true, true_and, ite_and_p, ite_or_p, Bool.decide_eq_true, eta_Airway, eta_Dusting, eta_Heading, eta_Mine, eta_Mode, eta_Sensor]
  · rw [cf_bad hb]; exact ⟨rfl, rfl⟩
  · rename_i h1; rw [cf_range h1 hb]; exact ⟨rfl, rfl⟩
  · rename_i h1 h2
    rw [cf_ok h1 h2, leastI_no (p := clearP x gas share secs) (lo := 0) (hi := 100000)]
    · exact ⟨rfl, rfl⟩
    · intro m a b
      refine Bool.eq_false_iff.2 fun h => ?_
      have := clear_mono (askG_0 h1).1 (askG_0 h1).2.1 a b (by omega) h
      rw [decide_eq_true_eq] at this; omega
  · exact ⟨by omega, by omega, by omega, fun m a b => by omega, decide_eq_true hb⟩
  · exact ⟨h0, by omega, by omega, h3, decide_eq_true hb⟩
  · omega
  · rename_i h5 h6 h7 h8
    refine ⟨by omega, by omega, h2, fun m a b => ?_, h4⟩
    refine Bool.eq_false_iff.2 fun h => ?_
    have := clear_mono (askG_0 h5).1 (askG_0 h5).2.1 a (show m ≤ (i + j) / 2 by omega) (by omega) h
    rw [decide_eq_true_eq] at this; omega
  · omega
  · rename_i h5 h6 h7
    rw [cf_ok h5 h6, leastI_at (n := i) h0 (by omega) (by rw [show i = j by omega]; exact h4) h3, if_pos (by omega)]; exact ⟨rfl, rfl⟩
theorem c_laws_FnExactClearFlow (x : GHeading) (gas share secs : Int) : FnSem Try.prog 3 [.p .any (.agg x.cells), In gas, In share, In secs] [] (Is [Bo true] []) := by
  refine FnSem.walk (zs := zeroPV Try.prog) (by kernel_rfl) Try.func3 rfl Try.results3 (by kernel_rfl) (by kernel_rfl) (by kernel_rfl) fun hw hh => ?_
  obtain ⟨w0, w1, w2, w3, _⟩ := hw
  first | replace w0 := wf_Heading w0 | skip
  first | replace w1 := wf_I w1 | replace w1 := wf_Y w1 | replace w1 := wf_S w1 | replace w1 := wf_LI w1 | replace w1 := wf_LY w1 | replace w1 := wf_LLI w1 | replace w1 := wf_Ls w1 | skip
  first | replace w2 := wf_I w2 | replace w2 := wf_Y w2 | replace w2 := wf_S w2 | replace w2 := wf_LI w2 | replace w2 := wf_LY w2 | replace w2 := wf_LLI w2 | replace w2 := wf_Ls w2 | skip
  first | replace w3 := wf_I w3 | replace w3 := wf_Y w3 | replace w3 := wf_S w3 | replace w3 := wf_LI w3 | replace w3 := wf_LY w3 | replace w3 := wf_LLI w3 | replace w3 := wf_Ls w3 | skip
  repeat' first
    | refine And.intro rfl ?_
    | refine GdF.mk (fun h => h) ?_
    | refine And.intro (Nat.succ_ne_zero _) ?_
    | refine And.intro (Nat.le_of_ble_eq_true rfl) ?_
    | refine SeqF.run ?_
    | refine BndF.mk (fun _ => by omega) ?_
    | refine BndF.mk (fun _ => by simp only [List.length_map, List.length_cons, List.length_nil, List.length_append, List.length_set, List.length_replicate, iotaI_len]; omega) ?_
    | refine BndF.mk (fun hG => by simp only [forall_const, eq_self, not_true_eq_false, not_false_eq_true, or_false, false_or, or_self, or_true, true_or, and_true, true_and, and_false, false_and, decide_true, decide_false, Bool.not_true, Bool.not_false, decide_eq_true_eq, decide_eq_false_iff_not, ite_and_p, ite_or_p, Bool.decide_eq_true, Bool.and_eq_true, Bool.or_eq_true, Bool.not_eq_true', Bool.not_eq_false', Bool.and_eq_false_imp, Bool.or_eq_false_iff, bne_iff_ne, beq_iff_eq, bne_eq_false_iff_eq, beq_eq_false_iff_ne, gt_iff_lt, ge_iff_le, Int.not_lt, Int.not_le, ne_eq, Bool.true_eq_false, Bool.false_eq_true, reduceCtorEq, eta_Airway, eta_Dusting, eta_Heading, eta_Mine, eta_Mode, eta_Sensor, bytes_nil] at hG; (try simp only [List.length_map]); omega) ?_
    | refine EqL.mk [] rfl ?_
    | refine EqL.mk [_] rfl ?_
    | refine EqL.mk _ rfl ?_
    | refine ArgF.is (c_laws_szHeading ⟨_, _, _⟩ _ (by first | assumption | omega)) ?_
    | refine ArgQ.is (fun hG => c_laws_szHeading ⟨_, _, _⟩ _ (by first | assumption | omega)) rfl rfl ?_
    | refine ArgQ.is (fun hG => c_laws_szHeading ⟨_, _, _⟩ _ (by simp only [forall_const, eq_self, not_true_eq_false, not_false_eq_true, or_false, false_or, or_self, or_true, true_or, and_true, true_and, and_false, false_and, decide_true, decide_false, Bool.not_true, Bool.not_false, decide_eq_true_eq, decide_eq_false_iff_not, ite_and_p, ite_or_p, Bool.decide_eq_true, Bool.and_eq_true, Bool.or_eq_true, Bool.not_eq_true', Bool.not_eq_false', Bool.and_eq_false_imp, Bool.or_eq_false_iff, bne_iff_ne, beq_iff_eq, bne_eq_false_iff_eq, beq_eq_false_iff_ne, gt_iff_lt, ge_iff_le, Int.not_lt, Int.not_le, ne_eq, Bool.true_eq_false, Bool.false_eq_true, reduceCtorEq, eta_Airway, eta_Dusting, eta_Heading, eta_Mine, eta_Mode, eta_Sensor, bytes_nil] at hG; omega)) rfl rfl ?_
    | refine ArgF.is (c_laws_toHeading ⟨_, _, _⟩) ?_
    | refine ArgQ.is (fun hG => c_laws_toHeading ⟨_, _, _⟩) rfl rfl ?_
    | refine ArgF.is (c_spec_ClearFlow ⟨_, _, _⟩ _ _ _) ?_
    | refine ArgQ.is (fun hG => c_spec_ClearFlow ⟨_, _, _⟩ _ _ _) rfl rfl ?_
    | refine ArgF.is (c_impl_ClearFlow ⟨_, _, _⟩ _ _ _) ?_
    | refine ArgQ.is (fun hG => c_impl_ClearFlow ⟨_, _, _⟩ _ _ _) rfl rfl ?_
    | refine CallF.mk (CallW.is [] true rfl ?_)
    | refine CallG.mk ?_
    | (refine CondF.mk (fun hb => ?_) (fun hb => ?_) <;> try simp only [forall_const, eq_self, not_true_eq_false, not_false_eq_true, or_false, false_or, or_self, or_true, true_or, and_true, true_and, and_false, false_and, decide_true, decide_false, Bool.not_true, Bool.not_false, decide_eq_true_eq, decide_eq_false_iff_not, ite_and_p, ite_or_p, Bool.decide_eq_true, Bool.and_eq_true, Bool.or_eq_true, Bool.not_eq_true', Bool.not_eq_false', Bool.and_eq_false_imp, Bool.or_eq_false_iff, bne_iff_ne, beq_iff_eq, bne_eq_false_iff_eq, beq_eq_false_iff_ne, gt_iff_lt, ge_iff_le, Int.not_lt, Int.not_le, ne_eq, Bool.true_eq_false, Bool.false_eq_true, reduceCtorEq, eta_Airway, eta_Dusting, eta_Heading, eta_Mine, eta_Mode, eta_Sensor] at hb)
    | refine RetF.auto (And.intro rfl ?_)
    | exact Is.mk rfl rfl
    | refine Is.mk ?_ rfl
    | refine Is.mk rfl ?_
    | refine Is.mk ?_ ?_
end Go.Proofs.Ytlcpjlmhfhiggaa
