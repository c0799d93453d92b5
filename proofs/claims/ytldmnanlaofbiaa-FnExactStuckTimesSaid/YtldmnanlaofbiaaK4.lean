/- Contracts of functions of the program, and what they compute. Conditions: those that each theorem states. -/
import Derived.Test.YtldmnanlaofbiaaProg
import Derived.Test.YtldmnanlaofbiaaK3
set_option linter.unusedVariables false
set_option linter.unusedSimpArgs false
namespace Go.Proofs.Ytldmnanlaofbiaa
open Go.Av
attribute [local irreducible] Go.IntKind.wrap
set_option maxRecDepth 20000
set_option maxHeartbeats 4000000

def absW (x : Int) : Int := max x (IntKind.i64.wrap (0 - x))
def isJump (xs : List Int) (step t : Int) : Bool := decide (1 ≤ t) && (decide (xs.getD t.toNat 0 ≠ -1) && decide (xs.getD (t - 1).toNat 0 ≠ -1) && decide (absW (IntKind.i64.wrap (xs.getD t.toNat 0 - xs.getD (t - 1).toNat 0)) > step))
def jumps (xs : List Int) (step : Int) : List Int × Int := if okSeries xs && inR step 0 1000000 then (selI (isJump xs step) xs.length, 0) else ([], 2)
theorem jumps_no {xs : List Int} {step : Int} (h : okSeries xs = false ∨ inR step 0 1000000 = false) : jumps xs step = ([], 2) := by
  unfold jumps; rw [if_neg]; rcases h with h | h <;> simp [h]
theorem jumps_yes {xs : List Int} {step : Int} (h : ¬okSeries xs = false ∧ inR step 0 1000000 = true) : jumps xs step = (selI (isJump xs step) xs.length, 0) := by
  unfold jumps; rw [if_pos]; rw [h.2]; cases h2 : okSeries xs <;> simp_all
theorem okSeries_len {xs : List Int} (h : ¬okSeries xs = false) : xs.length ≤ 200 := by
  unfold okSeries at h; simp at h; exact h.2
theorem isJump_iff {xs : List Int} {step t : Int} : isJump xs step t = true ↔ 1 ≤ t ∧ (¬xs.getD t.toNat 0 = -1 ∧ ¬xs.getD (t - 1).toNat 0 = -1) ∧ step < max (IntKind.i64.wrap (xs.getD t.toNat 0 - xs.getD (t - 1).toNat 0)) (IntKind.i64.wrap (0 - IntKind.i64.wrap (xs.getD t.toNat 0 - xs.getD (t - 1).toNat 0))) := by
  simp only [isJump, absW, Bool.and_eq_true, decide_eq_true_eq, ne_eq, gt_iff_lt, and_assoc]
theorem jump_s {xs : List Int} {step i : Int} {ys : List Int} (h0 : 1 ≤ i) (h : ys = selI (isJump xs step) i.toNat) (hb : (¬xs.getD i.toNat 0 = -1 ∧ ¬xs.getD (i - 1).toNat 0 = -1) ∧ step < max (IntKind.i64.wrap (xs.getD i.toNat 0 - xs.getD (i - 1).toNat 0)) (IntKind.i64.wrap (0 - IntKind.i64.wrap (xs.getD i.toNat 0 - xs.getD (i - 1).toNat 0)))) : ys ++ [i] = selI (isJump xs step) (i + 1).toNat := by
  rw [selI_s (by omega) (isJump_iff.2 ⟨h0, hb⟩), h]
theorem jump_n {xs : List Int} {step i : Int} {ys : List Int} (h0 : 1 ≤ i) (h : ys = selI (isJump xs step) i.toNat) (hb : ¬xs.getD i.toNat 0 = -1 ∧ ¬xs.getD (i - 1).toNat 0 = -1 → max (IntKind.i64.wrap (xs.getD i.toNat 0 - xs.getD (i - 1).toNat 0)) (IntKind.i64.wrap (0 - IntKind.i64.wrap (xs.getD i.toNat 0 - xs.getD (i - 1).toNat 0))) ≤ step) : ys = selI (isJump xs step) (i + 1).toNat := by
  rw [selI_n (by omega) (Bool.eq_false_iff.2 fun hj => ?_), h]
  obtain ⟨_, h1, h2⟩ := isJump_iff.1 hj
  have := hb h1
  exact absurd h2 (Int.not_lt.2 this)
theorem jump_end {xs : List Int} {step i : Int} {ys : List Int} (h0 : 1 ≤ i) (h1 : i ≤ xs.length ∨ i = 1) (h : ys = selI (isJump xs step) i.toNat) (hb : xs.length ≤ i) : ys = selI (isJump xs step) xs.length := by
  by_cases e : i = xs.length
  · rw [h, e]; rfl
  · have h1 : i = 1 := by omega
    have h2 : xs.length = 0 := by omega
    rw [h, h1, h2]; rfl
theorem jump_0 {xs : List Int} {step : Int} : [] = selI (isJump xs step) (Int.toNat 1) := by
  rw [show Int.toNat 1 = 0 + 1 from rfl, selI_succ, if_neg]
  · rfl
  · simp [isJump]
theorem c_impl_JumpsOf (xs : List Int) (step : Int) : FnSem Try.prog 46 [Lx (LI xs), In step] [] (Is [.osl 0 0 (jumps xs step).1.length, In (jumps xs step).2] [Rw .flat (eI 0) ((jumps xs step).1.map eI)]) := by
  refine FnSem.walk (zs := zeroPV Try.prog) (by kernel_rfl) Try.func46 rfl Try.results46 (by kernel_rfl) (by kernel_rfl) (by kernel_rfl) fun hw hh => ?_
  obtain ⟨w0, w1, _⟩ := hw
  first | replace w0 := wf_I w0 | replace w0 := wf_Y w0 | replace w0 := wf_S w0 | replace w0 := wf_LI w0 | replace w0 := wf_LY w0 | replace w0 := wf_LLI w0 | replace w0 := wf_Ls w0 | skip
  first | replace w1 := wf_I w1 | replace w1 := wf_Y w1 | replace w1 := wf_S w1 | replace w1 := wf_LI w1 | replace w1 := wf_LY w1 | replace w1 := wf_LLI w1 | replace w1 := wf_Ls w1 | skip
  repeat' first
    | refine And.intro rfl ?_
    | refine GdF.mk (fun h => h) ?_
    | refine And.intro (Nat.succ_ne_zero _) ?_
    | refine And.intro (Nat.le_of_ble_eq_true rfl) ?_
    | refine SeqF.run ?_
    | refine LoopF.at 5 rfl (LoopF.fix [0, 1] (Int × Nat × List Int) (fun (i, n, ys) => 1 ≤ i ∧ (i ≤ xs.length ∨ i = 1) ∧ n = ys.length ∧ ys = selI (isJump xs step) i.toNat ∧ n + 1 ≤ i ∧ xs.length ≤ 200) (fun (i, n, ys) => [(7, In i), (6, .osl 0 0 n)]) (fun (i, n, ys) => [(0, Rw .flat (eI 0) (ys.map eI))]) (fun (i, n, ys) => ((xs.length - i).toNat)) ((1, 0, [])) ?_)
    | (refine LoopB.of (T := Int × Nat × List Int) ?_ ?_; rotate_left; rintro ⟨i, n, ys⟩ ⟨h0, h1, h2, h3, h4, h5⟩; rotate_left)
    | refine DrawF.lex (by decide +kernel) ?_
    | refine MkF.row ?_
    | refine EqP.mk _ (gm eI 0 rfl) ?_
    | refine BndF.mk (fun _ => by omega) ?_
    | refine BndF.mk (fun _ => by simp only [List.length_map, List.length_cons, List.length_nil, List.length_append, List.length_set, List.length_replicate, iotaI_len]; omega) ?_
    | refine BndF.mk (fun hG => by simp only [forall_const, eq_self, not_true_eq_false, not_false_eq_true, or_false, false_or, or_self, or_true, true_or, and_true, true_and, and_false, false_and, decide_true, decide_false, Bool.not_true, Bool.not_false, decide_eq_true_eq, decide_eq_false_iff_not, ite_and_p, ite_or_p, Bool.decide_eq_true, Bool.and_eq_true, Bool.or_eq_true, Bool.not_eq_true', Bool.not_eq_false', Bool.and_eq_false_imp, Bool.or_eq_false_iff, bne_iff_ne, beq_iff_eq, bne_eq_false_iff_eq, beq_eq_false_iff_ne, gt_iff_lt, ge_iff_le, Int.not_lt, Int.not_le, ne_eq, Bool.true_eq_false, Bool.false_eq_true, reduceCtorEq, eta_Airway, eta_Fan, eta_Heading, eta_Mine, eta_Sensor, bytes_nil] at hG; (try simp only [List.length_map]); omega) ?_
    | refine EqI.mk _ (fun _ => wrapI (by omega) (by omega)) ?_
    | refine EqI.mk _ (fun _ => rfl) ?_
    | refine FlF.keep ?_
    | refine EqN.mk _ (ln eI) ?_
    | refine EqN.mk _ (Nat.zero_add _) ?_
    | refine EqN.mk (_ + 1) rfl ?_
    | refine EqN.mk _ (Int.toNat_natCast _) ?_
    | refine EqN.mk _ rfl ?_
    | refine EqL.mk _ (sn0 eI) ?_
    | refine EqL.mk _ (sn eI (by first | rfl | assumption | omega | (simp only [List.length_map, List.length_cons, List.length_nil, List.length_append, List.length_set, List.length_replicate, iotaI_len]; done) | (simp only [List.length_map, List.length_cons, List.length_nil, List.length_append, List.length_set, List.length_replicate, iotaI_len]; omega))) ?_
    | refine EqL.mk _ (ap0 eI) ?_
    | refine EqL.mk _ (ap eI (by first | rfl | assumption | omega | (simp only [List.length_map, List.length_cons, List.length_nil, List.length_append, List.length_set, List.length_replicate, iotaI_len]; done) | (simp only [List.length_map, List.length_cons, List.length_nil, List.length_append, List.length_set, List.length_replicate, iotaI_len]; omega))) ?_
    | refine EqL.mk _ (tk eI (by first | rfl | assumption | omega | (simp only [List.length_map, List.length_cons, List.length_nil, List.length_append, List.length_set, List.length_replicate, iotaI_len]; done) | (simp only [List.length_map, List.length_cons, List.length_nil, List.length_append, List.length_set, List.length_replicate, iotaI_len]; omega))) ?_
    | refine EqL.mk _ (dt eI) ?_
    | refine EqL.mk [] rfl ?_
    | refine EqL.mk [_] rfl ?_
    | refine EqL.mk _ rfl ?_
    | refine ArgF.is (c_impl_seriesOk ..) ?_
    | refine ArgQ.is (fun hG => c_impl_seriesOk ..) rfl rfl ?_
    | refine ArgF.is (c_impl_within ..) ?_
    | refine ArgQ.is (fun hG => c_impl_within ..) rfl rfl ?_
    | refine ArgF.is (c_impl_abs ..) ?_
    | refine ArgQ.is (fun hG => c_impl_abs ..) rfl rfl ?_
    | refine CallF.mk (CallW.is [] true rfl ?_)
    | refine CallG.mk ?_
    | (refine CondF.mk (fun hb => ?_) (fun hb => ?_) <;> try simp only [forall_const, eq_self, not_true_eq_false, not_false_eq_true, or_false, false_or, or_self, or_true, true_or, and_true, true_and, and_false, false_and, decide_true, decide_false, Bool.not_true, Bool.not_false, decide_eq_true_eq, decide_eq_false_iff_not, ite_and_p, ite_or_p, Bool.decide_eq_true, Bool.and_eq_true, Bool.or_eq_true, Bool.not_eq_true', Bool.not_eq_false', Bool.and_eq_false_imp, Bool.or_eq_false_iff, bne_iff_ne, beq_iff_eq, bne_eq_false_iff_eq, beq_eq_false_iff_ne, gt_iff_lt, ge_iff_le, Int.not_lt, Int.not_le, ne_eq, Bool.true_eq_false, Bool.false_eq_true, reduceCtorEq, eta_Airway, eta_Fan, eta_Heading, eta_Mine, eta_Sensor] at hb)
    | apply BackF.auto3
    | refine BackB.mk ?_ ?_
    | refine RetF.auto (And.intro rfl ?_)
    | exact Is.mk rfl rfl
    | refine Is.mk ?_ rfl
    | refine Is.mk rfl ?_
    | refine Is.mk ?_ ?_
  all_goals try dsimp only
  all_goals try simp only [Bo, I, OB.row.injEq, AV.osl.injEq, eI_same,  List.cons.injEq, AV.p.injEq, PV.c.injEq, Value.int.injEq, Value.bool.injEq, and_true, true_and, ite_and_p, ite_or_p, Bool.decide_eq_true, eta_Airway, eta_Fan, eta_Heading, eta_Mine, eta_Sensor]
  · rw [jumps_no hb]; exact ⟨rfl, rfl⟩
  · rw [jumps_no hb]; rfl
  · exact ⟨by omega, by simp, rfl, jump_0, by omega, okSeries_len hb.1⟩
  · exact ⟨by omega, by omega, by simp [h2], jump_s h0 h3 hb, by omega, h5⟩
  · omega
  · exact ⟨by omega, by omega, h2, jump_n h0 h3 hb, by omega, h5⟩
  · omega
  · rename_i hb1; rw [jumps_yes hb1, h2, jump_end h0 h1 h3 hb]; exact ⟨rfl, rfl⟩
  · rename_i hb1; rw [jumps_yes hb1, jump_end h0 h1 h3 hb]
end Go.Proofs.Ytldmnanlaofbiaa
