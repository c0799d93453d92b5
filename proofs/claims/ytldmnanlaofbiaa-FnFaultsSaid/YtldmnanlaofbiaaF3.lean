/- Contracts of functions of the program, and what they compute. Conditions: those that each theorem states. -/
import Derived.Test.YtldmnanlaofbiaaProg
import Derived.Test.YtldmnanlaofbiaaF2
set_option linter.unusedVariables false
set_option linter.unusedSimpArgs false
namespace Go.Proofs.Ytldmnanlaofbiaa
open Go.Av
attribute [local irreducible] Go.IntKind.wrap
set_option maxRecDepth 20000
set_option maxHeartbeats 8000000

theorem selI_last {p : Int → Bool} : ∀ n : Nat, ∀ x ∈ selI p n, 0 ≤ x ∧ x < n := fun n x hx => by have := selI_mem.1 hx; exact ⟨this.1, this.2.1⟩
theorem selI_rises {p : Int → Bool} : ∀ n : Nat, ∀ j : Nat, j < (selI p n).length → (0 ≤ (selI p n).getD j 0 ∧ (selI p n).getD j 0 < n) ∧ (j = 0 ∨ (selI p n).getD (j - 1) 0 < (selI p n).getD j 0)
  | 0, j, h => by simp [selI] at h
  | n + 1, j, h => by
    rw [selI_succ] at h ⊢
    split at h
    · rename_i hp
      rw [if_pos hp]
      by_cases e : j < (selI p n).length
      · have := selI_rises n j e
        rw [getD_snoc, if_neg (by omega), getD_snoc, if_neg (by omega)]; omega
      · have hj : j = (selI p n).length := by simp at h; omega
        rw [getD_snoc, if_pos hj]
        refine ⟨by omega, ?_⟩
        by_cases e0 : j = 0
        · exact .inl e0
        · right; rw [getD_snoc, if_neg (by omega)]
          have := selI_last n _ (getD_mem (xs := selI p n) (d := 0) (j := j - 1) (by omega)); omega
    · rename_i hp
      rw [if_neg hp]
      have := selI_rises n j h; omega
theorem rises_sel {p : Int → Bool} {n : Nat} : rises (selI p n) n = true :=
  List.all_eq_true.2 fun j hj => by
    have := selI_rises (p := p) n j (List.mem_range.1 hj)
    exact decide_eq_true ⟨this.1.1, this.1.2, this.2⟩
def jumpL (xs : List Int) (step t : Int) : Bool := decide ((0 ≤ xs.getD t.toNat 0 ∧ 0 ≤ xs.getD (t - 1).toNat 0) ∧ step < absI (xs.getD t.toNat 0 - xs.getD (t - 1).toNat 0))
theorem jumpL_eq {xs : List Int} {step t : Int} (h : okSeries xs = true) (h1 : 1 ≤ t) (h2 : t < xs.length) : jumpL xs step t = isJump xs step t := by
  have a := okSeries_b h t.toNat (by omega)
  have b := okSeries_b h (t - 1).toNat (by omega)
  have e1 : IntKind.i64.wrap (xs.getD t.toNat 0 - xs.getD (t - 1).toNat 0) = xs.getD t.toNat 0 - xs.getD (t - 1).toNat 0 := wrapI (by omega) (by omega)
  have e2 : IntKind.i64.wrap (0 - (xs.getD t.toNat 0 - xs.getD (t - 1).toNat 0)) = 0 - (xs.getD t.toNat 0 - xs.getD (t - 1).toNat 0) := wrapI (by omega) (by omega)
  have h3 : isJump xs step t = true ↔ _ := isJump_iff
  rw [e1, e2] at h3
  rw [Bool.eq_iff_iff, h3]
  unfold jumpL
  rw [decide_eq_true_eq]
  unfold absI
  omega
theorem jumps_ok {xs : List Int} {step : Int} (h : (jumps xs step).2 = 0) : okSeries xs = true ∧ (jumps xs step).1 = selI (isJump xs step) xs.length := by
  unfold jumps at *
  split at h
  · rename_i h1; rw [if_pos h1]; simp only [Bool.and_eq_true] at h1; exact ⟨h1.1, rfl⟩
  · cases h
theorem jumps_bad {xs : List Int} {step : Int} (h : ¬(jumps xs step).2 = 0) : (jumps xs step).1 = [] := by
  unfold jumps at *
  split
  · rename_i h1; rw [if_pos h1] at h; exact absurd rfl h
  · rfl
theorem jumps_in {xs : List Int} {step t : Int} (h : (jumps xs step).2 = 0) (h0 : 1 ≤ t) (h1 : t < xs.length) : decide (t ∈ (jumps xs step).1) = jumpL xs step t := by
  obtain ⟨a, b⟩ := jumps_ok h
  rw [jumpL_eq a h0 h1, b, Bool.eq_iff_iff, decide_eq_true_eq, selI_mem]
  exact ⟨fun h => h.2.2, fun h => ⟨by omega, h1, h⟩⟩
theorem jumps_rise {xs : List Int} {step : Int} (h : (jumps xs step).2 = 0) : rises (jumps xs step).1 xs.length = true := by
  rw [(jumps_ok h).2]; exact rises_sel
attribute [local irreducible] jumps
theorem stuckP_q {xs : List Int} {len : Int} {ss : List (List Int)} {i : Nat} (h : stuckP xs len ss i) : (ss.getD i []).length = 2 ∧ prevE ss i ≤ (ss.getD i []).getD (Int.toNat 0) 0 ∧ 0 ≤ (ss.getD i []).getD (Int.toNat 0) 0 ∧ len ≤ (ss.getD i []).getD (Int.toNat 1) 0 - (ss.getD i []).getD (Int.toNat 0) 0 ∧ ((ss.getD i []).getD (Int.toNat 0) 0 < (ss.getD i []).getD (Int.toNat 1) 0 ∧ (ss.getD i []).getD (Int.toNat 1) 0 ≤ xs.length) ∧ (at2 ss i 0 = (ss.getD i []).getD (Int.toNat 0) 0 ∧ at2 ss i 1 = (ss.getD i []).getD (Int.toNat 1) 0) ∧ ∀ t : Nat, (ss.getD i []).getD (Int.toNat 0) 0 ≤ t → (t : Int) < (ss.getD i []).getD (Int.toNat 1) 0 → xs.getD t 0 = xs.getD ((ss.getD i []).getD (Int.toNat 0) 0).toNat 0 ∧ 0 ≤ xs.getD t 0 :=
  ⟨h.1, h.2.1, h.2.2.1, h.2.2.2.1, h.2.2.2.2.1, ⟨rfl, rfl⟩, h.2.2.2.2.2⟩
theorem c_laws_FnFaults (c1 c2 : List Int) : FnSem Try.prog 8 [Lx (LY c1), Lx (LY c2)] [] (Is [Bo true] []) := by
  refine FnSem.walk (zs := zeroPV Try.prog) (by kernel_rfl) Try.func8 rfl Try.results8 (by kernel_rfl) (by kernel_rfl) (by kernel_rfl) fun hw hh => ?_
  obtain ⟨w0, w1, _⟩ := hw
  first | replace w0 := wf_I w0 | replace w0 := wf_Y w0 | replace w0 := wf_S w0 | replace w0 := wf_LI w0 | replace w0 := wf_LY w0 | replace w0 := wf_LLI w0 | replace w0 := wf_Ls w0 | skip
  first | replace w1 := wf_I w1 | replace w1 := wf_Y w1 | replace w1 := wf_S w1 | replace w1 := wf_LI w1 | replace w1 := wf_LY w1 | replace w1 := wf_LLI w1 | replace w1 := wf_Ls w1 | skip
  repeat' first
    | refine And.intro rfl ?_
    | refine GdF.mk (fun h => h) ?_
    | refine And.intro (Nat.succ_ne_zero _) ?_
    | refine And.intro (Nat.le_of_ble_eq_true rfl) ?_
    | refine SeqF.run ?_
    | (refine ArgF.ret (c_spec_DrawStuckTimes _) ?_; rintro ⟨k, xs, len⟩ hv; dsimp only at hv ⊢)
    | (refine ArgF.ret (c_spec_DrawJumpsOf _) ?_; rintro ⟨l, ys, step⟩ hy; dsimp only at hy ⊢)
    | (refine ArgF.mk _ (c_impl_StuckTimes _ _) (fun rs ho hR _ => ?_); rcases hR with ⟨rfl, rfl⟩ | ⟨n, ss, rfl, rfl, hn, hss, hS⟩)
    | refine EqI.mk _ (fun hG => by have := okSeries_b (jumps_ok (by assumption)).1 t.toNat (by omega); have := okSeries_b (jumps_ok (by assumption)).1 (t - 1).toNat (by omega); exact wrapI (by omega) (by omega)) ?_
    | refine ArgQ.is (fun hG => c_laws_b10Abs _ (by have := okSeries_b (jumps_ok (by assumption)).1 t.toNat (by omega); have := okSeries_b (jumps_ok (by assumption)).1 (t - 1).toNat (by omega); omega)) rfl rfl ?_
    | refine EqI.mk _ (fun _ => by have := stuckP_q (hS i.toNat (by omega)); exact wrapI (by omega) (by omega)) ?_
    | exact absurd hb (show ¬((2 : Int) = 0) by decide)
    | refine BndF.mk (fun _ => by have := stuckP_q (hS i.toNat (by omega)); first | omega | (simp only [List.length_map]; omega)) ?_
    | refine LoopF.fix [13, 14, 15] (Int × Unit) (fun (t, z) => 1 ≤ t ∧ (t ≤ ys.length ∨ t = 1)) (fun (t, z) => [(17, In t)]) (fun (t, z) => []) (fun (t, z) => ((ys.length - t).toNat)) ((1, ())) ?_
    | (refine LoopB.of (T := Int × Unit) ?_ ?_; rotate_left; rintro ⟨t, z⟩ ⟨k0, k1⟩; rotate_left)
    | refine LoopF.fix [1, 5, 6, 7, 9, 10, 11] (Int) (fun t => at2 ss i.toNat 0 ≤ t ∧ t ≤ max (at2 ss i.toNat 0) (at2 ss i.toNat 1)) (fun t => [(12, In t)]) (fun t => []) (fun t => ((at2 ss i.toNat 1 - t).toNat)) ((at2 ss i.toNat 0)) ?_
    | (refine LoopB.of (T := Int) ?_ ?_; rotate_left; rintro t ⟨g0, g1⟩; rotate_left)
    | refine LoopF.fix [1, 5, 6, 7] (Int × Int) (fun (last, i) => 0 ≤ i ∧ i ≤ ss.length ∧ last = prevE ss i.toNat) (fun (last, i) => [(9, In last), (10, In i)]) (fun (last, i) => []) (fun (last, i) => ((ss.length - i).toNat)) ((0, 0)) ?_
    | (refine LoopB.of (T := Int × Int) ?_ ?_; rotate_left; rintro ⟨last, i⟩ ⟨h0, h1, h2⟩; rotate_left)
    | refine EqP.mk _ (gm eY 0 rfl) ?_
    | refine EqP.mk _ (gm eI 0 rfl) ?_
    | refine EqP.mk _ (gmb eLI [] (by omega)) ?_
    | refine BndF.mk (fun _ => by omega) ?_
    | refine BndF.mk (fun _ => by simp only [List.length_map, List.length_cons, List.length_nil, List.length_append, List.length_set, List.length_replicate, iotaI_len]; omega) ?_
    | refine BndF.mk (fun hG => by simp only [forall_const, eq_self, not_true_eq_false, not_false_eq_true, or_false, false_or, or_self, or_true, true_or, and_true, true_and, and_false, false_and, decide_true, decide_false, Bool.not_true, Bool.not_false, decide_eq_true_eq, decide_eq_false_iff_not, ite_and_p, ite_or_p, Bool.decide_eq_true, Bool.and_eq_true, Bool.or_eq_true, Bool.not_eq_true', Bool.not_eq_false', Bool.and_eq_false_imp, Bool.or_eq_false_iff, bne_iff_ne, beq_iff_eq, bne_eq_false_iff_eq, beq_eq_false_iff_ne, gt_iff_lt, ge_iff_le, Int.not_lt, Int.not_le, ne_eq, Bool.true_eq_false, Bool.false_eq_true, reduceCtorEq, eta_Airway, eta_Fan, eta_Heading, eta_Mine, eta_Sensor, bytes_nil] at hG; (try simp only [List.length_map]); omega) ?_
    | refine EqI.mk _ (fun _ => wrapI (by omega) (by omega)) ?_
    | refine EqI.mk _ (fun _ => rfl) ?_
    | refine EqN.mk _ (ln eY) ?_
    | refine EqN.mk _ (ln eI) ?_
    | refine EqN.mk _ (ln eLI) ?_
    | refine EqN.mk _ (Nat.zero_add _) ?_
    | refine EqN.mk _ (Int.toNat_natCast _) ?_
    | refine EqN.mk _ rfl ?_
    | refine EqL.mk _ (tk eY (by first | rfl | assumption | omega | (simp only [List.length_map, List.length_cons, List.length_nil, List.length_append, List.length_set, List.length_replicate, iotaI_len]; done) | (simp only [List.length_map, List.length_cons, List.length_nil, List.length_append, List.length_set, List.length_replicate, iotaI_len]; omega))) ?_
    | refine EqL.mk _ (tk eI (by first | rfl | assumption | omega | (simp only [List.length_map, List.length_cons, List.length_nil, List.length_append, List.length_set, List.length_replicate, iotaI_len]; done) | (simp only [List.length_map, List.length_cons, List.length_nil, List.length_append, List.length_set, List.length_replicate, iotaI_len]; omega))) ?_
    | refine EqL.mk _ (tk eLI (by first | rfl | assumption | omega | (simp only [List.length_map, List.length_cons, List.length_nil, List.length_append, List.length_set, List.length_replicate, iotaI_len]; done) | (simp only [List.length_map, List.length_cons, List.length_nil, List.length_append, List.length_set, List.length_replicate, iotaI_len]; omega))) ?_
    | refine EqL.mk [] rfl ?_
    | refine EqL.mk [_] rfl ?_
    | refine EqL.mk _ rfl ?_
    | refine ArgF.is (c_laws_b10Long ..) ?_
    | refine ArgQ.is (fun hG => c_laws_b10Long ..) rfl rfl ?_
    | refine ArgF.is (c_spec_DrawStuckTimes ..) ?_
    | refine ArgQ.is (fun hG => c_spec_DrawStuckTimes ..) rfl rfl ?_
    | refine ArgF.is (c_impl_StuckTimes ..) ?_
    | refine ArgQ.is (fun hG => c_impl_StuckTimes ..) rfl rfl ?_
    | refine ArgF.is (c_spec_DrawJumpsOf ..) ?_
    | refine ArgQ.is (fun hG => c_spec_DrawJumpsOf ..) rfl rfl ?_
    | refine ArgF.is (c_impl_JumpsOf ..) ?_
    | refine ArgQ.is (fun hG => c_impl_JumpsOf ..) rfl rfl ?_
    | refine ArgF.is (c_laws_b10Abs _ (by first | assumption | omega)) ?_
    | refine ArgQ.is (fun hG => c_laws_b10Abs _ (by first | assumption | omega)) rfl rfl ?_
    | refine ArgQ.is (fun hG => c_laws_b10Abs _ (by simp only [forall_const, eq_self, not_true_eq_false, not_false_eq_true, or_false, false_or, or_self, or_true, true_or, and_true, true_and, and_false, false_and, decide_true, decide_false, Bool.not_true, Bool.not_false, decide_eq_true_eq, decide_eq_false_iff_not, ite_and_p, ite_or_p, Bool.decide_eq_true, Bool.and_eq_true, Bool.or_eq_true, Bool.not_eq_true', Bool.not_eq_false', Bool.and_eq_false_imp, Bool.or_eq_false_iff, bne_iff_ne, beq_iff_eq, bne_eq_false_iff_eq, beq_eq_false_iff_ne, gt_iff_lt, ge_iff_le, Int.not_lt, Int.not_le, ne_eq, Bool.true_eq_false, Bool.false_eq_true, reduceCtorEq, eta_Airway, eta_Fan, eta_Heading, eta_Mine, eta_Sensor, bytes_nil] at hG; omega)) rfl rfl ?_
    | refine ArgF.is (c_laws_b10Has ..) ?_
    | refine ArgQ.is (fun hG => c_laws_b10Has ..) rfl rfl ?_
    | refine ArgF.is (c_laws_b10Rises ..) ?_
    | refine ArgQ.is (fun hG => c_laws_b10Rises ..) rfl rfl ?_
    | refine CallF.mk (CallW.is [] true rfl ?_)
    | refine CallG.mk ?_
    | (refine CondF.mk (fun hb => ?_) (fun hb => ?_) <;> try simp only [forall_const, eq_self, not_true_eq_false, not_false_eq_true, or_false, false_or, or_self, or_true, true_or, and_true, true_and, and_false, false_and, decide_true, decide_false, Bool.not_true, Bool.not_false, decide_eq_true_eq, decide_eq_false_iff_not, ite_and_p, ite_or_p, Bool.decide_eq_true, Bool.and_eq_true, Bool.or_eq_true, Bool.not_eq_true', Bool.not_eq_false', Bool.and_eq_false_imp, Bool.or_eq_false_iff, bne_iff_ne, beq_iff_eq, bne_eq_false_iff_eq, beq_eq_false_iff_ne, gt_iff_lt, ge_iff_le, Int.not_lt, Int.not_le, ne_eq, Bool.true_eq_false, Bool.false_eq_true, reduceCtorEq, eta_Airway, eta_Fan, eta_Heading, eta_Mine, eta_Sensor] at hb)
    | apply BackF.auto2
    | apply BackF.auto
    | refine BackB.mk ?_ ?_
    | refine RetF.auto (And.intro rfl ?_)
    | exact Is.mk rfl rfl
    | refine Is.mk ?_ rfl
    | refine Is.mk rfl ?_
    | refine Is.mk ?_ ?_
  all_goals try exact ()
  all_goals try dsimp only
  all_goals try dsimp only
  all_goals try simp only [Bo, I, OB.row.injEq, AV.osl.injEq, eI_same,  List.cons.injEq, AV.p.injEq, PV.c.injEq, Value.int.injEq, Value.bool.injEq, and_true, true_and, ite_and_p, ite_or_p, Bool.decide_eq_true, eta_Airway, eta_Fan, eta_Heading, eta_Mine, eta_Sensor]
  all_goals first
    | (rw [jumps_bad hb]; rfl)
    | omega
    | exact ⟨by omega, .inr trivial⟩
    | (rw [hy.1]; exact jumps_rise (by assumption))
    | exact ⟨by omega, by omega, rfl⟩
    | (exfalso; have := stuckP_q (hS i.toNat (by omega)); omega)
    | (have := stuckP_q (hS i.toNat (by omega)); omega)
    | exact absurd (by rw [jumps_in (by assumption) k0 (by omega)]; unfold jumpL; simp only [Bool.decide_and]) hb
    | (exfalso; have h3 := stuckP_q (hS i.toNat (by omega)); have h4 := h3.2.2.2.2.2.2 t.toNat (by omega) (by omega); omega)
    | exact ⟨by omega, by omega, by unfold prevE; rw [if_neg (by omega), show (i + 1).toNat - 1 = i.toNat by omega]; rfl⟩
end Go.Proofs.Ytldmnanlaofbiaa
