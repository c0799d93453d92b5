/- Contracts of functions of the program, and what they compute. Conditions: those that each theorem states. -/
import Derived.Test.YticilhlmmakbkaaDoorProg
import Derived.Test.YticilhlmmakbkaaDoorS7
set_option linter.unusedVariables false
set_option linter.unusedSimpArgs false
namespace Go.Proofs.YticilhlmmakbkaaDoor
open Go.Av
attribute [local irreducible] Go.IntKind.wrap okModes okMode bestT argT costM leastV leftS okHours restF freeN dayN pathM costTo bestD freeB askD
set_option maxRecDepth 20000
set_option maxHeartbeats 8000000

/-! The flattest day. -/
def powF (ms : List GMode) (needs : List Int) (h : Int) (j : Nat) : Int := if needs.getD h.toNat 0 ≤ (ms.getD j default).flow then (ms.getD j default).power else -1
def peakT (ms : List GMode) (needs : List Int) : Nat → Int
  | 0 => 0
  | h + 1 => max (peakT ms needs h) (bestT (powF ms needs h) ms.length)
section
variable {ms : List GMode} {needs prices : List Int} {h i b : Int}
theorem peakT_s (h0 : 0 ≤ h) : peakT ms needs (h + 1).toNat = max (peakT ms needs h.toNat) (bestT (powF ms needs h) ms.length) := by
  rw [show (h + 1).toNat = h.toNat + 1 by omega]
  simp only [peakT]
  rw [show ((h.toNat : Nat) : Int) = h by omega]
theorem powF_le (ho : okModes ms = true) {h : Int} {j : Nat} (hj : j < ms.length) : -1 ≤ powF ms needs h j ∧ powF ms needs h j ≤ 10000000 := by
  have q2 := mode_b ho hj
  unfold powF
  split <;> omega
theorem powF_inv {h : Int} {j : Nat} (hc : 0 ≤ powF ms needs h j) : needs.getD h.toNat 0 ≤ (ms.getD j default).flow ∧ powF ms needs h j = (ms.getD j default).power := by
  unfold powF at *
  split at hc
  · rename_i hf; rw [if_pos hf]; exact ⟨hf, rfl⟩
  · omega
theorem powF_b (ho : okModes ms = true) {h : Int} {n : Nat} (hn : n ≤ ms.length) : -1 ≤ bestT (powF ms needs h) n ∧ bestT (powF ms needs h) n ≤ 10000000 := by
  refine ⟨bestT_ge _, ?_⟩
  by_cases hb : 0 ≤ bestT (powF ms needs h) n
  · have q := bestT_arg hb
    rw [← q.2.1]
    exact (powF_le ho (by omega)).2
  · omega
theorem peakT_b (ho : okModes ms = true) : ∀ n : Nat, 0 ≤ peakT ms needs n ∧ peakT ms needs n ≤ 10000000
  | 0 => by simp [peakT]
  | n + 1 => by
    have ih := peakT_b ho n
    have := powF_b (needs := needs) ho (h := n) (Nat.le_refl _)
    simp only [peakT]
    omega
theorem peakT_le : ∀ {n k : Nat}, k < n → bestT (powF ms needs k) ms.length ≤ peakT ms needs n
  | n + 1, k, hk => by
    simp only [peakT]
    by_cases e : k = n
    · subst e; omega
    · have := peakT_le (n := n) (k := k) (by omega); omega
theorem pow_t (g0 : 0 ≤ i) (g2 : b = bestT (powF ms needs h) i.toNat) (ho : okModes ms = true) (hi : i < ms.length) (hc : needs.getD h.toNat 0 ≤ (ms.getD i.toNat default).flow) (hb : b < 0 ∨ (ms.getD i.toNat default).power < b) : (ms.getD i.toNat default).power = bestT (powF ms needs h) (i + 1).toNat :=
  best_take g0 g2 (if_pos hc) (mode_b ho (by omega)).1 hb
theorem pow_k (g0 : 0 ≤ i) (g2 : b = bestT (powF ms needs h) i.toNat) (hc : needs.getD h.toNat 0 ≤ (ms.getD i.toNat default).flow → ¬(b < 0 ∨ (ms.getD i.toNat default).power < b)) : b = bestT (powF ms needs h) (i + 1).toNat := by
  by_cases hf : needs.getD h.toNat 0 ≤ (ms.getD i.toNat default).flow
  · exact best_keep g0 g2 (if_pos hf) (hc hf)
  · exact best_skip g0 g2 (if_neg hf)
theorem flat_no (h : askD ms needs prices = 0) {t : Int} (h0 : 0 ≤ t) (h1 : t < 24) (hb : bestT (powF ms needs t) ms.length < 0) {peak : Int} : bestD ms needs prices 24 peak = ([], 0, 3) := by
  refine free_no h ?_
  rw [freeB_f h0 h1]
  rw [bestT_at (v := -1) (.inl ⟨rfl, fun j hj => ?_⟩)]
  · omega
  · have := bestT_no hb hj
    have q := mode_b (ask_0 h).1 hj
    unfold powF at this
    unfold costF fitH
    simp only [Int.toNat_natCast]
    split at this
    · omega
    · rename_i hc
      rw [if_neg]
      · omega
      · simp only [Bool.and_eq_true, decide_eq_true_eq]; omega
theorem flat_yes (h : askD ms needs prices = 0) (hj : ∀ j : Nat, (j : Int) < 24 → 0 ≤ bestT (powF ms needs j) ms.length) : (freeB ms needs prices (peakT ms needs 24)).2 = true := by
  rw [freeB_t (h := 24) (by omega) (by omega)]
  intro j hj2
  have h1 := hj j hj2
  have q := bestT_arg h1
  have h2 := peakT_le (ms := ms) (needs := needs) (n := 24) (k := j) (by omega)
  have hp := ask_0 h
  have hm := mode_b hp.1 q.1
  have hc := costM_b hm (price_b hp.2.2 (h := j) (by omega) (by omega))
  rw [← q.2.1] at h1 h2
  have hi := powF_inv h1
  rw [hi.2] at h2
  refine (bestT_le q.1 ?_).1
  unfold costF fitH
  rw [if_pos]
  · exact hc.2.1
  · simp only [Int.toNat_natCast, Bool.and_eq_true, decide_eq_true_eq] at *
    exact ⟨hi.1, h2⟩
theorem bestD_c (ho : okModes ms = true) (hb : (okHours needs 100000 = false ∨ okHours prices 1000 = false)) {peak : Int} : bestD ms needs prices 24 peak = ([], 0, 2) := bestD_2 ho (.inl hb)
theorem ok_and (hb : ¬(okHours needs 100000 = false) ∧ okHours prices 1000 = true) : okHours needs 100000 = true ∧ okHours prices 1000 = true := by
  cases h : okHours needs 100000
  · exact absurd h hb.1
  · exact ⟨rfl, hb.2⟩
end
attribute [local irreducible] powF peakT
theorem c_impl_FlattestDay (ms : List GMode) (needs prices : List Int) : FnSem Tryd.prog 13 [.p .any (.lst (GMode.cells default) (ms.map GMode.cells)), Lx (LI needs), Lx (LI prices)] [] (Is [.osl 0 0 (bestD ms needs prices 24 (peakT ms needs 24)).1.length, In (bestD ms needs prices 24 (peakT ms needs 24)).2.1, In (bestD ms needs prices 24 (peakT ms needs 24)).2.2] [Rw .flat (eI 0) ((bestD ms needs prices 24 (peakT ms needs 24)).1.map eI)]) := by
  refine FnSem.walk (zs := zeroPV Tryd.prog) (by kernel_rfl) Tryd.func13 rfl Tryd.results13 (by kernel_rfl) (by kernel_rfl) (by kernel_rfl) fun hw hh => ?_
  obtain ⟨w0, w1, w2, _⟩ := hw
  first | replace w0 := wf_LMode w0 | skip
  first | replace w1 := wf_I w1 | replace w1 := wf_Y w1 | replace w1 := wf_S w1 | replace w1 := wf_LI w1 | replace w1 := wf_LY w1 | replace w1 := wf_LLI w1 | replace w1 := wf_Ls w1 | skip
  first | replace w2 := wf_I w2 | replace w2 := wf_Y w2 | replace w2 := wf_S w2 | replace w2 := wf_LI w2 | replace w2 := wf_LY w2 | replace w2 := wf_LLI w2 | replace w2 := wf_Ls w2 | skip
  repeat' first
    | refine And.intro rfl ?_
    | refine GdF.mk (fun h => h) ?_
    | refine And.intro (Nat.succ_ne_zero _) ?_
    | refine And.intro (Nat.le_of_ble_eq_true rfl) ?_
    | refine SeqF.run ?_
    | refine LoopF.at 7 rfl (LoopF.fix [0, 1, 2, 28, 29] (Int × Int) (fun (t, p) => 0 ≤ t ∧ t ≤ 24 ∧ p = peakT ms needs t.toNat ∧ okModes ms = true ∧ needs.length = 24) (fun (t, p) => [(30, In t), (9, In p)]) (fun (t, p) => []) (fun (t, p) => ((24 - t).toNat)) ((0, 0)) ?_)
    | (refine LoopB.of (T := Int × Int) ?_ ?_; rotate_left; rintro ⟨t, p⟩ ⟨h0, h1, h2, h3, h4⟩; rotate_left)
    | refine LoopF.at 11 rfl (LoopF.fix [0, 1, 2, 9, 11, 28, 29, 30, 34, 35] (Int × Int × Unit) (fun (i, b, u) => 0 ≤ i ∧ i ≤ ms.length ∧ b = bestT (powF ms needs t) i.toNat ∧ t < 24) (fun (i, b, u) => [(36, In i), (12, In b)]) (fun (i, b, u) => []) (fun (i, b, u) => ((ms.length - i).toNat)) ((0, -1, ())) ?_)
    | (refine LoopB.of (T := Int × Int × Unit) ?_ ?_; rotate_left; rintro ⟨i, b, u⟩ ⟨g0, g1, g2, g3⟩; rotate_left)
    | refine EqP.mk _ (gmb GMode.cells default (by omega)) ?_
    | refine ArgF.is (c_impl_bestDay ms needs prices 24 p (by have := peakT_b (needs := needs) h3 t.toNat; omega)) ?_
    | refine ArgQ.is (fun hG => c_impl_bestDay ms needs prices 24 p (by have := peakT_b (needs := needs) h3 t.toNat; omega)) rfl rfl ?_
    | refine GhF.go ?_
    | refine GdS.keep ?_
    | refine MkF.row ?_
    | refine EqP.mk _ (gm eI 0 rfl) ?_
    | refine EqP.mk _ (gm GMode.cells default rfl) ?_
    | refine BndF.mk (fun _ => by omega) ?_
    | refine BndF.mk (fun _ => by simp only [List.length_map, List.length_cons, List.length_nil, List.length_append, List.length_set, List.length_replicate, iotaI_len]; omega) ?_
    | refine BndF.mk (fun hG => by simp only [forall_const, eq_self, not_true_eq_false, not_false_eq_true, or_false, false_or, or_self, or_true, true_or, and_true, true_and, and_false, false_and, decide_true, decide_false, Bool.not_true, Bool.not_false, decide_eq_true_eq, decide_eq_false_iff_not, ite_and_p, ite_or_p, Bool.decide_eq_true, Bool.and_eq_true, Bool.or_eq_true, Bool.not_eq_true', Bool.not_eq_false', Bool.and_eq_false_imp, Bool.or_eq_false_iff, bne_iff_ne, beq_iff_eq, bne_eq_false_iff_eq, beq_eq_false_iff_ne, gt_iff_lt, ge_iff_le, Int.not_lt, Int.not_le, ne_eq, Bool.true_eq_false, Bool.false_eq_true, reduceCtorEq, eta_Mode, bytes_nil] at hG; (try simp only [List.length_map]); omega) ?_
    | refine EqI.mk _ (fun _ => wrapI (by omega) (by omega)) ?_
    | refine EqI.mk _ (fun _ => rfl) ?_
    | refine EqN.mk _ (ln eI) ?_
    | refine EqN.mk _ (ln GMode.cells) ?_
    | refine EqN.mk _ (Nat.zero_add _) ?_
    | refine EqN.mk _ (Int.toNat_natCast _) ?_
    | refine EqN.mk _ rfl ?_
    | refine EqL.mk _ (tk eI (by first | rfl | assumption | omega | (simp only [List.length_map, List.length_cons, List.length_nil, List.length_append, List.length_set, List.length_replicate, iotaI_len]; done) | (simp only [List.length_map, List.length_cons, List.length_nil, List.length_append, List.length_set, List.length_replicate, iotaI_len]; omega))) ?_
    | refine EqL.mk _ (st eI) ?_
    | refine EqL.mk _ (dt eI) ?_
    | refine EqL.mk _ (tk GMode.cells (by first | rfl | assumption | omega | (simp only [List.length_map, List.length_cons, List.length_nil, List.length_append, List.length_set, List.length_replicate, iotaI_len]; done) | (simp only [List.length_map, List.length_cons, List.length_nil, List.length_append, List.length_set, List.length_replicate, iotaI_len]; omega))) ?_
    | refine EqL.mk _ (st GMode.cells) ?_
    | refine EqL.mk _ (dt GMode.cells) ?_
    | refine EqL.mk [] rfl ?_
    | refine EqL.mk [_] rfl ?_
    | refine EqL.mk _ rfl ?_
    | refine ArgF.is (c_impl_ValidModes ..) ?_
    | refine ArgQ.is (fun hG => c_impl_ValidModes ..) rfl rfl ?_
    | refine ArgF.is (c_impl_needsOk ..) ?_
    | refine ArgQ.is (fun hG => c_impl_needsOk ..) rfl rfl ?_
    | refine ArgF.is (c_impl_pricesOk ..) ?_
    | refine ArgQ.is (fun hG => c_impl_pricesOk ..) rfl rfl ?_
    | refine ArgF.is (c_impl_bestDay _ _ _ _ _ (by first | assumption | omega)) ?_
    | refine ArgQ.is (fun hG => c_impl_bestDay _ _ _ _ _ (by first | assumption | omega)) rfl rfl ?_
    | refine ArgQ.is (fun hG => c_impl_bestDay _ _ _ _ _ (by simp only [forall_const, eq_self, not_true_eq_false, not_false_eq_true, or_false, false_or, or_self, or_true, true_or, and_true, true_and, and_false, false_and, decide_true, decide_false, Bool.not_true, Bool.not_false, decide_eq_true_eq, decide_eq_false_iff_not, ite_and_p, ite_or_p, Bool.decide_eq_true, Bool.and_eq_true, Bool.or_eq_true, Bool.not_eq_true', Bool.not_eq_false', Bool.and_eq_false_imp, Bool.or_eq_false_iff, bne_iff_ne, beq_iff_eq, bne_eq_false_iff_eq, beq_eq_false_iff_ne, gt_iff_lt, ge_iff_le, Int.not_lt, Int.not_le, ne_eq, Bool.true_eq_false, Bool.false_eq_true, reduceCtorEq, eta_Mode, bytes_nil] at hG; omega)) rfl rfl ?_
    | refine CallF.mk (CallW.is [] true rfl ?_)
    | refine CallG.mk ?_
    | (refine CondF.mk (fun hb => ?_) (fun hb => ?_) <;> try simp only [forall_const, eq_self, not_true_eq_false, not_false_eq_true, or_false, false_or, or_self, or_true, true_or, and_true, true_and, and_false, false_and, decide_true, decide_false, Bool.not_true, Bool.not_false, decide_eq_true_eq, decide_eq_false_iff_not, ite_and_p, ite_or_p, Bool.decide_eq_true, Bool.and_eq_true, Bool.or_eq_true, Bool.not_eq_true', Bool.not_eq_false', Bool.and_eq_false_imp, Bool.or_eq_false_iff, bne_iff_ne, beq_iff_eq, bne_eq_false_iff_eq, beq_eq_false_iff_ne, gt_iff_lt, ge_iff_le, Int.not_lt, Int.not_le, ne_eq, Bool.true_eq_false, Bool.false_eq_true, reduceCtorEq, eta_Mode] at hb)
    | apply BackF.auto3
    | apply BackF.auto2
    | refine BackB.mk ?_ ?_
    | refine RetF.auto (And.intro rfl ?_)
    | exact Is.mk rfl rfl
    | refine Is.mk ?_ rfl
    | refine Is.mk rfl ?_
    | refine Is.mk ?_ ?_
  all_goals try dsimp only
  all_goals try exact ()
  all_goals first
    | omega
    | (rw [bestD_1 hb] <;> rfl)
    | (rw [bestD_c (by assumption) hb] <;> rfl)
    | exact ⟨by omega, by omega, by unfold peakT; rfl, by assumption, (okHours_iff.1 (ok_and hb).1).1⟩
    | exact ⟨by omega, by omega, by unfold bestT; rfl, by omega⟩
    | exact ⟨by omega, by omega, pow_t g0 g2 h3 (by omega) hb.1 hb.2, g3⟩
    | exact ⟨by omega, by omega, pow_k g0 g2 (fun hf => by grind), g3⟩
    | exact ⟨by omega, by omega, by rw [peakT_s h0, ← h2, g2, show i.toNat = ms.length by omega], h3, h4⟩
    | (rw [h2, show t.toNat = 24 by omega]; done)
    | (rw [h2, show t.toNat = 24 by omega] <;> rfl)
    | skip
end Go.Proofs.YticilhlmmakbkaaDoor
