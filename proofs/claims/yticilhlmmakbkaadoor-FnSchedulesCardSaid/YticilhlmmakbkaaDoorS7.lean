/- Contracts of functions of the program, and what they compute. Conditions: those that each theorem states. -/
import Derived.Test.YticilhlmmakbkaaDoorProg
import Derived.Test.YticilhlmmakbkaaDoorS5
import Derived.Test.YticilhlmmakbkaaDoorS6
import Derived.Test.YticilhlmmakbkaaDoorT1
set_option linter.unusedVariables false
set_option linter.unusedSimpArgs false
namespace Go.Proofs.YticilhlmmakbkaaDoor
open Go.Av
attribute [local irreducible] Go.IntKind.wrap okModes okMode bestT argT costM leastV leftS fitH okHours restF freeN dayN pathM costTo
set_option maxRecDepth 20000
set_option maxHeartbeats 8000000

/-! The cheapest day. -/
section
variable {ms : List GMode} {needs prices : List Int} {peak : Int}
theorem ask_0 (h : askD ms needs prices = 0) : okModes ms = true ∧ okHours needs 100000 = true ∧ okHours prices 1000 = true := by
  unfold askD at h
  split at h
  · rename_i h1; split at h
    · rename_i h2; exact ⟨h1, h2⟩
    · cases h
  · cases h
theorem ask_c {c : Int} {sw : Int} (h : askD ms needs prices = c) (hc : ¬c = 0) : bestD ms needs prices sw peak = ([], 0, c) := by
  unfold askD at h
  unfold bestD
  split at h
  · rename_i h1
    rw [if_pos h1]
    split at h
    · exact absurd h.symm hc
    · rename_i h2; rw [if_neg (fun q => h2 ⟨q.1, q.2.1⟩), h]
  · rename_i h1; rw [if_neg h1, h]
theorem free_no (h : askD ms needs prices = 0) (hb : (freeB ms needs prices peak).2 = false) : bestD ms needs prices 24 peak = ([], 0, 3) := by
  obtain ⟨ho, hn, hp⟩ := ask_0 h
  unfold bestD
  rw [if_pos ho, if_pos ⟨hn, hp, by decide⟩, if_pos]
  rw [least_free ho hp 24 (by omega) (-1) 24 (by omega)]
  unfold freeB at hb
  split at hb
  · cases hb
  · omega
theorem free_yes (h : askD ms needs prices = 0) (hb : (freeB ms needs prices peak).2 = true) : bestD ms needs prices 24 peak = ((freeB ms needs prices peak).1, costTo ms prices (freeB ms needs prices peak).1 24, 0) ∧ okHours (freeB ms needs prices peak).1 (ms.length - 1) = true := by
  obtain ⟨ho, hn, hp⟩ := ask_0 h
  have hr : 0 ≤ restF ms needs prices peak 24 := by
    unfold freeB at hb
    split at hb
    · assumption
    · cases hb
  have hl : 0 ≤ leastV ms needs prices peak 24 (-1) 24 := by rw [least_free ho hp 24 (by omega) (-1) 24 (by omega)]; exact hr
  have e : (freeB ms needs prices peak).1 = dayN ms needs prices peak 24 24 := by
    unfold freeB; rw [if_pos hr, (day_free ho hp hr 24 (by omega)).1]
  rw [e]
  refine ⟨?_, day_hours hl (by omega)⟩
  unfold bestD
  rw [if_pos ho, if_pos ⟨hn, hp, by decide⟩, if_neg (by omega), day_sum hl (by omega)]
theorem bestD_len {sw : Int} : (bestD ms needs prices sw peak).1.length ≤ 24 := by
  unfold bestD
  split
  · split
    · split
      · simp
      · dsimp only; rw [dayN_len]; omega
    · simp
  · simp
end
attribute [local irreducible] bestD freeB askD
theorem c_impl_CheapestDay (ms : List GMode) (needs prices : List Int) : FnSem Tryd.prog 12 [.p .any (.lst (GMode.cells default) (ms.map GMode.cells)), Lx (LI needs), Lx (LI prices)] [] (Is [.osl 0 0 (bestD ms needs prices 24 10000000).1.length, In (bestD ms needs prices 24 10000000).2.1, In (bestD ms needs prices 24 10000000).2.2] [Rw .flat (eI 0) ((bestD ms needs prices 24 10000000).1.map eI)]) := by
  refine FnSem.walk (zs := zeroPV Tryd.prog) (by kernel_rfl) Tryd.func12 rfl Tryd.results12 (by kernel_rfl) (by kernel_rfl) (by kernel_rfl) fun hw hh => ?_
  obtain ⟨w0, w1, w2, _⟩ := hw
  first | replace w0 := wf_LMode w0 | skip
  first | replace w1 := wf_I w1 | replace w1 := wf_Y w1 | replace w1 := wf_S w1 | replace w1 := wf_LI w1 | replace w1 := wf_LY w1 | replace w1 := wf_LLI w1 | replace w1 := wf_Ls w1 | skip
  first | replace w2 := wf_I w2 | replace w2 := wf_Y w2 | replace w2 := wf_S w2 | replace w2 := wf_LI w2 | replace w2 := wf_LY w2 | replace w2 := wf_LLI w2 | replace w2 := wf_Ls w2 | skip
  repeat' first
    | refine And.intro rfl ?_
    | refine GdF.mk (fun h => h) ?_
    | refine And.intro (Nat.succ_ne_zero _) ?_
    | refine And.intro (Nat.le_of_ble_eq_true rfl) ?_
    | refine SeqF.run ?_
    | refine GhF.go ?_
    | refine MkF.row ?_
    | refine BndF.mk (fun _ => by omega) ?_
    | refine BndF.mk (fun _ => by simp only [List.length_map, List.length_cons, List.length_nil, List.length_append, List.length_set, List.length_replicate, iotaI_len]; omega) ?_
    | refine EqN.mk _ (Nat.zero_add _) ?_
    | refine EqN.mk _ (Int.toNat_natCast _) ?_
    | refine EqN.mk _ rfl ?_
    | refine EqL.mk _ (tk eI (by first | rfl | assumption | omega | (simp only [List.length_map, List.length_cons, List.length_nil, List.length_append, List.length_set, List.length_replicate, iotaI_len]; done) | (simp only [List.length_map, List.length_cons, List.length_nil, List.length_append, List.length_set, List.length_replicate, iotaI_len]; omega))) ?_
    | refine EqL.mk _ (dt eI) ?_
    | refine EqL.mk _ (tk GMode.cells (by first | rfl | assumption | omega | (simp only [List.length_map, List.length_cons, List.length_nil, List.length_append, List.length_set, List.length_replicate, iotaI_len]; done) | (simp only [List.length_map, List.length_cons, List.length_nil, List.length_append, List.length_set, List.length_replicate, iotaI_len]; omega))) ?_
    | refine EqL.mk _ (dt GMode.cells) ?_
    | refine EqL.mk [] rfl ?_
    | refine EqL.mk [_] rfl ?_
    | refine EqL.mk _ rfl ?_
    | refine ArgF.is (c_impl_bestDay _ _ _ _ _ (by first | assumption | omega)) ?_
    | refine ArgQ.is (fun hG => c_impl_bestDay _ _ _ _ _ (by first | assumption | omega)) rfl rfl ?_
    | refine ArgQ.is (fun hG => c_impl_bestDay _ _ _ _ _ (by simp only [forall_const, eq_self, not_true_eq_false, not_false_eq_true, or_false, false_or, or_self, or_true, true_or, and_true, true_and, and_false, false_and, decide_true, decide_false, Bool.not_true, Bool.not_false, decide_eq_true_eq, decide_eq_false_iff_not, ite_and_p, ite_or_p, Bool.decide_eq_true, Bool.and_eq_true, Bool.or_eq_true, Bool.not_eq_true', Bool.not_eq_false', Bool.and_eq_false_imp, Bool.or_eq_false_iff, bne_iff_ne, beq_iff_eq, bne_eq_false_iff_eq, beq_eq_false_iff_ne, gt_iff_lt, ge_iff_le, Int.not_lt, Int.not_le, ne_eq, Bool.true_eq_false, Bool.false_eq_true, reduceCtorEq, eta_Mode, bytes_nil] at hG; omega)) rfl rfl ?_
    | refine CallF.mk (CallW.is [] true rfl ?_)
    | refine CallG.mk ?_
    | (refine CondF.mk (fun hb => ?_) (fun hb => ?_) <;> try simp only [forall_const, eq_self, not_true_eq_false, not_false_eq_true, or_false, false_or, or_self, or_true, true_or, and_true, true_and, and_false, false_and, decide_true, decide_false, Bool.not_true, Bool.not_false, decide_eq_true_eq, decide_eq_false_iff_not, ite_and_p, ite_or_p, Bool.decide_eq_true, Bool.and_eq_true, Bool.or_eq_true, Bool.not_eq_true', Bool.not_eq_false', Bool.and_eq_false_imp, Bool.or_eq_false_iff, bne_iff_ne, beq_iff_eq, bne_eq_false_iff_eq, beq_eq_false_iff_ne, gt_iff_lt, ge_iff_le, Int.not_lt, Int.not_le, ne_eq, Bool.true_eq_false, Bool.false_eq_true, reduceCtorEq, eta_Mode] at hb)
    | refine RetF.auto (And.intro rfl ?_)
    | exact Is.mk rfl rfl
    | refine Is.mk ?_ rfl
    | refine Is.mk rfl ?_
    | refine Is.mk ?_ ?_
end Go.Proofs.YticilhlmmakbkaaDoor
