/- Contracts of functions of the program, and what they compute. Conditions: those that each theorem states. -/
import Derived.Test.YtfcnlpghdpfjkaaProg
import Derived.Test.YtfcnlpghdpfjkaaY5
set_option linter.unusedVariables false
set_option linter.unusedSimpArgs false
namespace Go.Proofs.Ytfcnlpghdpfjkaa
open Go.Av
attribute [local irreducible] Go.IntKind.wrap leastI rdZ rd rootI rawA okMine mixT heatF heatY warmN clampW cmI temI ext extL fstL fstSet htC colR
set_option maxRecDepth 20000
set_option maxHeartbeats 8000000

/-! The fewest coolers: the program's function. -/
def askC (m : GMine) (fs rs ps ss : List Int) (t rate c lim b : Int) : Int := if htC m fs rs ps ss t rate = 0 then (if (inR c 1 10000000 && inR lim (-100) 600) && inR b 1 20000 then 0 else 2) else htC m fs rs ps ss t rate
def cooV (m : GMine) (fs rs ps ss : List Int) (t rate c lim b : Int) : List Int × Int := if askC m fs rs ps ss t rate c lim b = 0 then fstSet (iotaI 0 m.airways.length) (colR m fs rs ps ss t rate c lim) b else ([], askC m fs rs ps ss t rate c lim b)
section
variable {m : GMine} {fs rs ps ss : List Int} {t rate c lim b : Int}
theorem askC_0 (h : htC m fs rs ps ss t rate = 0) (h2 : ¬(inR c 1 10000000 = false ∨ inR lim (-100) 600 = false) ∧ inR b 1 20000 = true) : askC m fs rs ps ss t rate c lim b = 0 := by
  simp only [not_or, Bool.not_eq_false] at h2
  unfold askC; rw [if_pos h, if_pos (by rw [h2.1.1, h2.1.2, h2.2]; rfl)]
theorem askC_2 (h : htC m fs rs ps ss t rate = 0) (h2 : (inR c 1 10000000 = false ∨ inR lim (-100) 600 = false) ∨ inR b 1 20000 = false) : askC m fs rs ps ss t rate c lim b = 2 := by
  unfold askC; rw [if_pos h, if_neg]
  intro e
  simp only [Bool.and_eq_true] at e
  rcases h2 with (h2 | h2) | h2
  · rw [e.1.1] at h2; cases h2
  · rw [e.1.2] at h2; cases h2
  · rw [e.2] at h2; cases h2
theorem askC_c (h : ¬htC m fs rs ps ss t rate = 0) : askC m fs rs ps ss t rate c lim b = htC m fs rs ps ss t rate := by unfold askC; rw [if_neg h]
theorem askC_p (h : askC m fs rs ps ss t rate c lim b = 0) : htC m fs rs ps ss t rate = 0 ∧ (1 ≤ c ∧ c ≤ 10000000) ∧ (-100 ≤ lim ∧ lim ≤ 600) ∧ 1 ≤ b ∧ b ≤ 20000 := by
  unfold askC at h
  split at h
  · rename_i h1
    split at h
    · rename_i h2
      simp only [Bool.and_eq_true, inR_iff] at h2
      exact ⟨h1, h2.1.1, h2.1.2, h2.2⟩
    · cases h
  · rename_i h1; exact absurd h h1
theorem cooV_0 (h : askC m fs rs ps ss t rate c lim b = 0) : cooV m fs rs ps ss t rate c lim b = fstSet (iotaI 0 m.airways.length) (colR m fs rs ps ss t rate c lim) b := by unfold cooV; rw [if_pos h]
theorem cooV_c (h : ¬askC m fs rs ps ss t rate c lim b = 0) : cooV m fs rs ps ss t rate c lim b = ([], askC m fs rs ps ss t rate c lim b) := by unfold cooV; rw [if_neg h]
end
theorem iota_Y {n : Nat} {xs : List Int} (h : ∀ x ∈ xs, x ∈ iotaI 0 n) (j : Nat) (hj : (j : Int) < xs.length) : 0 ≤ xs.getD j 0 ∧ xs.getD j 0 < n := by
  have := h _ (getD_mem (d := 0) (show j < xs.length by omega))
  unfold iotaI at this
  obtain ⟨k, h1, h2⟩ := List.mem_map.1 this
  have := List.mem_range.1 h1
  omega
theorem iota_LY (n : Nat) : (iotaI 0 n).length = n := by unfold iotaI; simp
inductive CooR (r : List Int × Int) (rs : List AV) (ho : List OB) : Prop
  | mk (n : Nat) (ys : List Int) (c : Int) (h1 : rs = [.osl 0 0 n, In c]) (h2 : ho = [.row false .flat (eI 0) (ys.map eI)]) (h3 : n ≤ ys.length) (h4 : r = (ys.take n, c))
theorem c_impl_FewestCoolers (m : GMine) (fs rs ps ss : List Int) (t rate c lim b : Int) : FnSem Try.prog 12 [.p .any (.agg m.cells), Lx (LI fs), Lx (LI rs), Lx (LI ps), Lx (LI ss), In t, In rate, In c, In lim, In b] [] (CooR (cooV m fs rs ps ss t rate c lim b)) := by
  refine FnSem.old ?_
  refine FnSem.walk (zs := zeroPV Try.prog) (by kernel_rfl) Try.func12 rfl Try.results12 (by kernel_rfl) (by kernel_rfl) (by kernel_rfl) fun hw hh => ?_
  obtain ⟨w0, w1, w2, w3, w4, w5, w6, w7, w8, w9, _⟩ := hw
  first | replace w0 := wf_Mine w0 | skip
  first | replace w1 := wf_LI w1 | skip
  first | replace w2 := wf_LI w2 | skip
  first | replace w3 := wf_LI w3 | skip
  first | replace w4 := wf_LI w4 | skip
  first | replace w5 := wf_I w5 | skip
  first | replace w6 := wf_I w6 | skip
  first | replace w7 := wf_I w7 | skip
  first | replace w8 := wf_I w8 | skip
  first | replace w9 := wf_I w9 | skip
  repeat' first
    | refine And.intro rfl ?_
    | refine GdF.mk (fun h => h) ?_
    | refine And.intro (Nat.succ_ne_zero _) ?_
    | refine And.intro (Nat.le_of_ble_eq_true rfl) ?_
    | refine SeqF.run ?_
    | refine ArgF.is (c_impl_heatCode m fs rs ps ss t rate) ?_
    | refine ArgQ.is (fun hG => c_impl_heatCode m fs rs ps ss t rate) rfl rfl ?_
    | refine ArgF.is (budgetY b) ?_
    | refine ArgQ.is (fun hG => budgetY b) rfl rfl ?_
    | refine ArgF.is (c_impl_Mine_all m (by have := okMine_p (htC_p (by assumption)).1.mine; omega)) ?_
    | refine ArgQ.is (fun hG => c_impl_Mine_all m (by have := okMine_p (htC_p (by assumption)).1.mine; omega)) rfl rfl ?_
    | refine GhF.at 8 rfl [.nils 11 3 (eI 0)] ?_
    | refine EqL.mk ((iotaI 0 m.airways.length).map eI) (tkW (iota_LY _).symm) ?_
    | refine CallF.mk (f := 71) (CallW.is [11, 12] true rfl ?_)
    | (refine ArgF.fst (fstC_9 (iotaI 0 m.airways.length) (colR m fs rs ps ss t rate c lim) _ _ _ _ _ _ _ _ _ _ b (by rw [iota_LY]; have := okMine_p (htC_p (by assumption)).1.mine; omega) (by have := askC_p (askC_0 (by assumption) hb); omega) (fun xs q1 q2 => c_impl_FewestCoolers_1 m fs rs ps ss xs t rate c lim (by assumption) (askC_p (askC_0 (by assumption) hb)).2.1 (iota_Y q2) (by rw [iota_LY] at q1; have := okMine_p (htC_p (by assumption)).1.mine; omega))) (fun n2 ys2 l2 e1 e2 => ?_) (fun c2 n2 ys2 l2 e1 e2 => ?_))
    | refine CooR.mk 0 [] _ rfl rfl ?_ ?_
    | refine CooR.mk _ _ _ rfl rfl ?_ ?_
    | refine GhF.go ?_
    | refine GdS.keep ?_
    | refine MkF.row ?_
    | refine BndF.mk (fun _ => by omega) ?_
    | refine BndF.mk (fun _ => by simp only [List.length_map, List.length_cons, List.length_nil, List.length_append, List.length_set, List.length_replicate, iotaI_len]; omega) ?_
    | refine BndF.mk (fun hG => by simp only [forall_const, eq_self, not_true_eq_false, not_false_eq_true, or_false, false_or, or_self, or_true, true_or, and_true, true_and, and_false, false_and, decide_true, decide_false, Bool.not_true, Bool.not_false, decide_eq_true_eq, decide_eq_false_iff_not, ite_and_p, ite_or_p, Bool.decide_eq_true, Bool.and_eq_true, Bool.or_eq_true, Bool.not_eq_true', Bool.not_eq_false', Bool.and_eq_false_imp, Bool.or_eq_false_iff, bne_iff_ne, beq_iff_eq, bne_eq_false_iff_eq, beq_eq_false_iff_ne, gt_iff_lt, ge_iff_le, Int.not_lt, Int.not_le, ne_eq, Bool.true_eq_false, Bool.false_eq_true, reduceCtorEq, eta_Airway, eta_Fan, eta_Mine, bytes_nil] at hG; (try simp only [List.length_map]); omega) ?_
    | refine EqN.mk _ (Nat.zero_add _) ?_
    | refine EqN.mk _ (Int.toNat_natCast _) ?_
    | refine EqN.mk _ rfl ?_
    | refine EqL.mk _ (tk eI (by first | rfl | assumption | omega | (simp only [List.length_map, List.length_cons, List.length_nil, List.length_append, List.length_set, List.length_replicate, iotaI_len]; done) | (simp only [List.length_map, List.length_cons, List.length_nil, List.length_append, List.length_set, List.length_replicate, iotaI_len]; omega))) ?_
    | refine EqL.mk _ (st eI) ?_
    | refine EqL.mk _ (dt eI) ?_
    | refine EqL.mk [] rfl ?_
    | refine EqL.mk [_] rfl ?_
    | refine EqL.mk _ rfl ?_
    | refine ArgF.is (c_impl_heatCode ⟨_, _⟩ _ _ _ _ _ _) ?_
    | refine ArgQ.is (fun hG => c_impl_heatCode ⟨_, _⟩ _ _ _ _ _ _) rfl rfl ?_
    | refine ArgF.is (c_impl_within ..) ?_
    | refine ArgQ.is (fun hG => c_impl_within ..) rfl rfl ?_
    | refine ArgF.is (c_impl_warmthOk ..) ?_
    | refine ArgQ.is (fun hG => c_impl_warmthOk ..) rfl rfl ?_
    | refine ArgF.is (c_impl_budgetValid ..) ?_
    | refine ArgQ.is (fun hG => c_impl_budgetValid ..) rfl rfl ?_
    | refine ArgF.is (c_impl_Mine_all ⟨_, _⟩ (by first | assumption | omega)) ?_
    | refine ArgQ.is (fun hG => c_impl_Mine_all ⟨_, _⟩ (by first | assumption | omega)) rfl rfl ?_
    | refine ArgQ.is (fun hG => c_impl_Mine_all ⟨_, _⟩ (by simp only [forall_const, eq_self, not_true_eq_false, not_false_eq_true, or_false, false_or, or_self, or_true, true_or, and_true, true_and, and_false, false_and, decide_true, decide_false, Bool.not_true, Bool.not_false, decide_eq_true_eq, decide_eq_false_iff_not, ite_and_p, ite_or_p, Bool.decide_eq_true, Bool.and_eq_true, Bool.or_eq_true, Bool.not_eq_true', Bool.not_eq_false', Bool.and_eq_false_imp, Bool.or_eq_false_iff, bne_iff_ne, beq_iff_eq, bne_eq_false_iff_eq, beq_eq_false_iff_ne, gt_iff_lt, ge_iff_le, Int.not_lt, Int.not_le, ne_eq, Bool.true_eq_false, Bool.false_eq_true, reduceCtorEq, eta_Airway, eta_Fan, eta_Mine, bytes_nil] at hG; omega)) rfl rfl ?_
    | refine ArgF.is (c_impl_setSearch_first ..) ?_
    | refine ArgQ.is (fun hG => c_impl_setSearch_first ..) rfl rfl ?_
    | refine CallF.mk (CallW.is [] true rfl ?_)
    | refine CallG.mk ?_
    | (refine CondF.mk (fun hb => ?_) (fun hb => ?_) <;> try simp only [forall_const, eq_self, not_true_eq_false, not_false_eq_true, or_false, false_or, or_self, or_true, true_or, and_true, true_and, and_false, false_and, decide_true, decide_false, Bool.not_true, Bool.not_false, decide_eq_true_eq, decide_eq_false_iff_not, ite_and_p, ite_or_p, Bool.decide_eq_true, Bool.and_eq_true, Bool.or_eq_true, Bool.not_eq_true', Bool.not_eq_false', Bool.and_eq_false_imp, Bool.or_eq_false_iff, bne_iff_ne, beq_iff_eq, bne_eq_false_iff_eq, beq_eq_false_iff_ne, gt_iff_lt, ge_iff_le, Int.not_lt, Int.not_le, ne_eq, Bool.true_eq_false, Bool.false_eq_true, reduceCtorEq, eta_Airway, eta_Fan, eta_Mine] at hb)
    | refine RetF.auto (And.intro rfl ?_)
    | exact Is.mk rfl rfl
    | refine Is.mk ?_ rfl
    | refine Is.mk rfl ?_
    | refine Is.mk ?_ ?_
  all_goals try dsimp only
  all_goals first
    | omega
    | exact Nat.zero_le _
    | assumption
    | (rw [cooV_c (by rw [askC_c (by assumption)]; assumption), askC_c (by assumption)]; rfl)
    | (rw [cooV_c (by rw [askC_2 (by assumption) hb]; decide), askC_2 (by assumption) hb]; rfl)
    | (rw [cooV_0 (askC_0 (by assumption) hb), e2])
    | (rw [cooV_0 (askC_0 (by assumption) hb), e1]; rfl)
    | skip
end Go.Proofs.Ytfcnlpghdpfjkaa
