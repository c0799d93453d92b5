/- Contracts of functions of the program, and what they compute. Conditions: those that each theorem states. -/
import Derived.Test.YtnmfbdkiehickaaProg
import Derived.Test.YtnmfbdkiehickaaS11
import Derived.Test.YtnmfbdkiehickaaS13
import Derived.Test.YtnmfbdkiehickaaS14
set_option linter.unusedVariables false
set_option linter.unusedSimpArgs false
namespace Go.Proofs.Ytnmfbdkiehickaa
open Go.Av
attribute [local irreducible] Go.IntKind.wrap okModes okMode bestT argT costM okHours leastV pathM dayN isDay dayCost switchesOf
set_option maxRecDepth 20000
set_option maxHeartbeats 8000000

/-! Calm days: the law. -/
theorem takT {ys : List Int} {n : Nat} : ((ys.map eI).drop 0).take n = (ys.take n).map eI := by simp
inductive DrwR (rs : List AV) (ho : List OB) : Prop
  | mk (n1 n2 n3 : Nat) (ms : List GMode) (xs ys : List Int) (sw : Int) (h1 : rs = [.osl 0 0 n1, .osl 1 0 n2, .osl 2 0 n3, In sw]) (h2 : ho = [RwM ms, Rw .flat (eI 0) (xs.map eI), Rw .flat (eI 0) (ys.map eI)]) (h3 : n1 = ms.length) (h4 : n2 ≤ xs.length ∧ n3 ≤ ys.length) (h5 : -1 ≤ sw ∧ sw ≤ 25)
theorem ArgF.drw {k : Nat} {Pr : Program} {f : FuncId} {args : List AV} {hin : List OB} {K : List AV → List OB → Prop} (h : FnSem Pr f args hin DrwR)
    (hk : ∀ (n1 n2 n3 : Nat) (ms : List GMode) (xs ys : List Int) (sw : Int), n1 = ms.length → (n2 ≤ xs.length ∧ n3 ≤ ys.length) → (-1 ≤ sw ∧ sw ≤ 25) → K [.osl 0 0 n1, .osl 1 0 n2, .osl 2 0 n3, In sw] [RwM ms, Rw .flat (eI 0) (xs.map eI), Rw .flat (eI 0) (ys.map eI)]) : ArgF k Pr f args hin K :=
  ⟨_, h, fun rs ho hR _ => by obtain ⟨n1, n2, n3, ms, xs, ys, sw, rfl, rfl, h3, h4, h5⟩ := hR; exact hk n1 n2 n3 ms xs ys sw h3 h4 h5⟩
theorem c_spec_DrawCalmDay (c : List Int) : FnSem Try.prog 22 [Lx (LY c)] [] DrwR := by
  refine FnSem.walk (zs := zeroPV Try.prog) (by kernel_rfl) Try.func22 rfl Try.results22 (by kernel_rfl) (by kernel_rfl) (by kernel_rfl) fun hw hh => ?_
  obtain ⟨w0, _⟩ := hw
  first | replace w0 := wf_I w0 | replace w0 := wf_Y w0 | replace w0 := wf_S w0 | replace w0 := wf_LI w0 | replace w0 := wf_LY w0 | replace w0 := wf_LLI w0 | replace w0 := wf_Ls w0 | skip
  have hc : bytes c := w0.2
  repeat' first
    | refine And.intro rfl ?_
    | refine GdF.mk (fun h => h) ?_
    | refine And.intro (Nat.succ_ne_zero _) ?_
    | refine And.intro (Nat.le_of_ble_eq_true rfl) ?_
    | refine SeqF.run ?_
    | (refine ArgF.srx (c_spec_l22DrawModes _ _ _ hc (by omega)) ?_; rintro ⟨n1, ms⟩ p1 s1 hv1 hp1; dsimp only at hv1 hp1 ⊢)
    | (refine ArgF.srx (c_spec_l22DrawHours _ _ _ 1000 12 hc (by omega) (by omega)) ?_; rintro ⟨n2, xs⟩ p2 s2 hv2 hp2; dsimp only at hv2 hp2 ⊢)
    | (refine ArgF.srx (c_spec_l22DrawHours _ _ _ 10 40 hc (by omega) (by omega)) ?_; rintro ⟨n3, ys⟩ p3 s3 hv3 hp3; dsimp only at hv3 hp3 ⊢)
    | refine DrwR.mk _ _ _ _ _ _ _ rfl rfl ?_ ?_ ?_
    | refine GhF.go ?_
    | refine MkF.row ?_
    | refine BndF.mk (fun _ => by omega) ?_
    | refine BndF.mk (fun _ => by simp only [List.length_map, List.length_cons, List.length_nil, List.length_append, List.length_set, List.length_replicate, iotaI_len]; omega) ?_
    | refine EqN.mk _ (Nat.zero_add _) ?_
    | refine EqN.mk _ (Int.toNat_natCast _) ?_
    | refine EqN.mk _ rfl ?_
    | refine EqL.mk _ (tk eY (by first | rfl | assumption | omega | (simp only [List.length_map, List.length_cons, List.length_nil, List.length_append, List.length_set, List.length_replicate, iotaI_len]; done) | (simp only [List.length_map, List.length_cons, List.length_nil, List.length_append, List.length_set, List.length_replicate, iotaI_len]; omega))) ?_
    | refine EqL.mk _ (dt eY) ?_
    | refine EqL.mk _ (tk eI (by first | rfl | assumption | omega | (simp only [List.length_map, List.length_cons, List.length_nil, List.length_append, List.length_set, List.length_replicate, iotaI_len]; done) | (simp only [List.length_map, List.length_cons, List.length_nil, List.length_append, List.length_set, List.length_replicate, iotaI_len]; omega))) ?_
    | refine EqL.mk _ (dt eI) ?_
    | refine EqL.mk (List.map eI [_, _, _, _, _, _, _, _]) rfl ?_
    | refine EqL.mk [] rfl ?_
    | refine EqL.mk [_] rfl ?_
    | refine EqL.mk _ rfl ?_
    | refine ArgF.is (c_spec_l00From ..) ?_
    | refine ArgQ.is (fun hG => c_spec_l00From ..) rfl rfl ?_
    | (refine ArgF.src (c_spec_l22DrawModes _ _ _ (by first | assumption | omega | rfl | (simp only [List.length_cons, List.length_nil]; omega)) (by first | assumption | omega | rfl | (simp only [List.length_cons, List.length_nil]; omega))) ?_; intro _ _ _ _ _)
    | (refine ArgF.src (c_spec_l22DrawHours _ _ _ _ _ (by first | assumption | omega | rfl | (simp only [List.length_cons, List.length_nil]; omega)) (by first | assumption | omega | rfl | (simp only [List.length_cons, List.length_nil]; omega)) (by first | assumption | omega | rfl | (simp only [List.length_cons, List.length_nil]; omega))) ?_; intro _ _ _ _ _)
    | (refine ArgF.srw (c_spec_l00Src_among _ _ _ _ _ (by first | assumption | omega | rfl | (simp only [List.length_cons, List.length_nil]; omega)) (by first | assumption | omega | rfl | (simp only [List.length_cons, List.length_nil]; omega)) (by first | assumption | omega | rfl | (simp only [List.length_cons, List.length_nil]; omega)) (by first | assumption | omega | rfl | (simp only [List.length_cons, List.length_nil]; omega))) ?_; intro _ _ _ _ _)
    | refine CallF.own (f := 100) [0] false ?_
    | refine CallF.own (f := 101) [0] false ?_
    | refine CallF.own (f := 102) [0, 1] false ?_
    | refine CallF.mk (f := 81) (CallW.is [] false rfl ?_)
    | refine CallF.mk (CallW.is [] true rfl ?_)
    | refine CallG.mk ?_
    | (refine CondF.mk (fun hb => ?_) (fun hb => ?_) <;> try simp only [forall_const, eq_self, not_true_eq_false, not_false_eq_true, or_false, false_or, or_self, or_true, true_or, and_true, true_and, and_false, false_and, decide_true, decide_false, Bool.not_true, Bool.not_false, decide_eq_true_eq, decide_eq_false_iff_not, ite_and_p, ite_or_p, Bool.decide_eq_true, Bool.and_eq_true, Bool.or_eq_true, Bool.not_eq_true', Bool.not_eq_false', Bool.and_eq_false_imp, Bool.or_eq_false_iff, bne_iff_ne, beq_iff_eq, bne_eq_false_iff_eq, beq_eq_false_iff_ne, gt_iff_lt, ge_iff_le, Int.not_lt, Int.not_le, ne_eq, Bool.true_eq_false, Bool.false_eq_true, reduceCtorEq, eta_Airway, eta_Door, eta_Dusting, eta_Fan, eta_Mine, eta_Mode] at hb)
    | refine RetF.auto (And.intro rfl ?_)
    | exact Is.mk rfl rfl
    | refine Is.mk ?_ rfl
    | refine Is.mk rfl ?_
    | refine Is.mk ?_ ?_
  all_goals try simp only [List.mem_cons, List.not_mem_nil, or_false] at *
  all_goals first | omega | skip
section
variable {ms : List GMode} {needs prices : List Int} {sw peak : Int}
theorem calm_bad (h : ¬(bestD ms needs prices sw peak).2.2 = 0) : (bestD ms needs prices sw peak).1.length = 0 ∧ (bestD ms needs prices sw peak).2.1 = 0 := by
  unfold bestD at *
  split at h
  · rename_i h1
    rw [if_pos h1]
    split at h
    · rename_i h2
      rw [if_pos h2]
      split at h
      · rename_i h3; rw [if_pos h3]; simp
      · exact absurd rfl h
    · rename_i h2; rw [if_neg h2]; simp
  · rename_i h1; rw [if_neg h1]; simp
theorem calm_ok (h : (bestD ms needs prices sw peak).2.2 = 0) : (okModes ms = true ∧ okHours needs 100000 = true ∧ okHours prices 1000 = true) ∧ (0 ≤ sw ∧ sw ≤ 24) ∧ 0 ≤ leastV ms needs prices peak 24 (-1) sw ∧ bestD ms needs prices sw peak = (dayN ms needs prices peak sw 24, leastV ms needs prices peak 24 (-1) sw, 0) := by
  unfold bestD at *
  split at h
  · rename_i h1
    rw [if_pos h1]
    split at h
    · rename_i h2
      rw [if_pos h2]
      split at h
      · cases h
      · rename_i h3; rw [if_neg h3]; exact ⟨⟨h1, h2.1, h2.2.1⟩, inR_iff.1 h2.2.2, by omega, rfl⟩
    · cases h
  · cases h
theorem calm_good (h : (bestD ms needs prices sw peak).2.2 = 0) : isDay ms needs (bestD ms needs prices sw peak).1 = true ∧ (dayCost ms prices (bestD ms needs prices sw peak).1).1 = (bestD ms needs prices sw peak).2.1 ∧ (dayCost ms prices (bestD ms needs prices sw peak).1).2 = 0 ∧ (switchesOf (bestD ms needs prices sw peak).1).2 = 0 ∧ (switchesOf (bestD ms needs prices sw peak).1).1 ≤ sw ∧ (bestD ms needs prices 24 peak).2.2 = 0 ∧ (bestD ms needs prices 24 peak).2.1 ≤ (bestD ms needs prices sw peak).2.1 := by
  obtain ⟨⟨ho, hn, hp⟩, hs, hl, e⟩ := calm_ok h
  rw [e]
  dsimp only
  obtain ⟨m, e2, hm⟩ := day_switch ho hl hs.1
  have q := least_mono ho hp 24 (-1) sw 24 (by omega) hs.2 hl
  have e3 : bestD ms needs prices 24 peak = (dayN ms needs prices peak 24 24, leastV ms needs prices peak 24 (-1) 24, 0) := by
    unfold bestD; rw [if_pos ho, if_pos ⟨hn, hp, by decide⟩, if_neg (by omega)]
  rw [e2, e3, day_dc ho hp hl hs.1]
  exact ⟨day_is ho hn hl hs.1, rfl, rfl, rfl, hm, rfl, q.2⟩
theorem calm_less (h : (bestD ms needs prices sw peak).2.2 = 0) (h0 : ¬sw = 0) : (bestD ms needs prices (sw - 1) peak).2.2 = 3 ∨ (bestD ms needs prices (sw - 1) peak).2.2 = 0 ∧ (bestD ms needs prices sw peak).2.1 ≤ (bestD ms needs prices (sw - 1) peak).2.1 := by
  obtain ⟨⟨ho, hn, hp⟩, hs, hl, e⟩ := calm_ok h
  by_cases hb : leastV ms needs prices peak 24 (-1) (sw - 1) < 0
  · left
    unfold bestD; rw [if_pos ho, if_pos ⟨hn, hp, inR_iff.2 (by omega)⟩, if_pos hb]
  · right
    have q := least_mono (needs := needs) (peak := peak) ho hp 24 (-1) (sw - 1) sw (by omega) (by omega) (by omega)
    rw [e]
    unfold bestD; rw [if_pos ho, if_pos ⟨hn, hp, inR_iff.2 (by omega)⟩, if_neg hb]
    exact ⟨rfl, q.2⟩
end
attribute [local irreducible] bestD
theorem c_laws_FnCalm (c : List Int) : FnSem Try.prog 4 [Lx (LY c)] [] (Is [Bo true] []) := by
  refine FnSem.walk (zs := zeroPV Try.prog) (by kernel_rfl) Try.func4 rfl Try.results4 (by kernel_rfl) (by kernel_rfl) (by kernel_rfl) fun hw hh => ?_
  obtain ⟨w0, _⟩ := hw
  first | replace w0 := wf_I w0 | replace w0 := wf_Y w0 | replace w0 := wf_S w0 | replace w0 := wf_LI w0 | replace w0 := wf_LY w0 | replace w0 := wf_LLI w0 | replace w0 := wf_Ls w0 | skip
  repeat' first
    | refine And.intro rfl ?_
    | refine GdF.mk (fun h => h) ?_
    | refine And.intro (Nat.succ_ne_zero _) ?_
    | refine And.intro (Nat.le_of_ble_eq_true rfl) ?_
    | refine SeqF.run ?_
    | (refine ArgF.drw (c_spec_DrawCalmDay _) ?_; intro n1 n2 n3 ms xs ys sw q1 q2 q3)
    | refine ArgF.is (c_impl_CalmDay ms (xs.take n2) (ys.take n3) sw) ?_
    | refine ArgQ.is (fun hG => c_impl_CalmDay ms (xs.take n2) (ys.take n3) sw) rfl rfl ?_
    | refine EqL.mk _ (tk GMode.cells (xs := ms) q1) ?_
    | refine EqL.mk _ (takT (ys := xs) (n := n2)) ?_
    | refine EqL.mk _ (takT (ys := ys) (n := n3)) ?_
    | refine GhF.go ?_
    | refine GdS.keep ?_
    | refine BndF.mk (fun _ => by omega) ?_
    | refine BndF.mk (fun _ => by simp only [List.length_map, List.length_cons, List.length_nil, List.length_append, List.length_set, List.length_replicate, iotaI_len]; omega) ?_
    | refine BndF.mk (fun hG => by simp only [forall_const, eq_self, not_true_eq_false, not_false_eq_true, or_false, false_or, or_self, or_true, true_or, and_true, true_and, and_false, false_and, decide_true, decide_false, Bool.not_true, Bool.not_false, decide_eq_true_eq, decide_eq_false_iff_not, ite_and_p, ite_or_p, Bool.decide_eq_true, Bool.and_eq_true, Bool.or_eq_true, Bool.not_eq_true', Bool.not_eq_false', Bool.and_eq_false_imp, Bool.or_eq_false_iff, bne_iff_ne, beq_iff_eq, bne_eq_false_iff_eq, beq_eq_false_iff_ne, gt_iff_lt, ge_iff_le, Int.not_lt, Int.not_le, ne_eq, Bool.true_eq_false, Bool.false_eq_true, reduceCtorEq, eta_Airway, eta_Door, eta_Dusting, eta_Fan, eta_Mine, eta_Mode, bytes_nil] at hG; (try simp only [List.length_map]); omega) ?_
    | refine EqI.mk _ (fun _ => wrapI (by omega) (by omega)) ?_
    | refine EqI.mk _ (fun _ => rfl) ?_
    | refine EqN.mk _ (ln eY) ?_
    | refine EqN.mk _ (ln eI) ?_
    | refine EqN.mk _ (ln GMode.cells) ?_
    | refine EqL.mk _ (tk eY (by first | rfl | assumption | omega | (simp only [List.length_map, List.length_cons, List.length_nil, List.length_append, List.length_set, List.length_replicate, iotaI_len]; done) | (simp only [List.length_map, List.length_cons, List.length_nil, List.length_append, List.length_set, List.length_replicate, iotaI_len]; omega))) ?_
    | refine EqL.mk _ (tk eI (by first | rfl | assumption | omega | (simp only [List.length_map, List.length_cons, List.length_nil, List.length_append, List.length_set, List.length_replicate, iotaI_len]; done) | (simp only [List.length_map, List.length_cons, List.length_nil, List.length_append, List.length_set, List.length_replicate, iotaI_len]; omega))) ?_
    | refine EqL.mk _ (tk GMode.cells (by first | rfl | assumption | omega | (simp only [List.length_map, List.length_cons, List.length_nil, List.length_append, List.length_set, List.length_replicate, iotaI_len]; done) | (simp only [List.length_map, List.length_cons, List.length_nil, List.length_append, List.length_set, List.length_replicate, iotaI_len]; omega))) ?_
    | refine EqL.mk [] rfl ?_
    | refine EqL.mk [_] rfl ?_
    | refine EqL.mk _ rfl ?_
    | refine ArgF.is (c_laws_b10Long ..) ?_
    | refine ArgQ.is (fun hG => c_laws_b10Long ..) rfl rfl ?_
    | refine ArgF.is (c_spec_DrawCalmDay ..) ?_
    | refine ArgQ.is (fun hG => c_spec_DrawCalmDay ..) rfl rfl ?_
    | refine ArgF.is (c_impl_CalmDay ..) ?_
    | refine ArgQ.is (fun hG => c_impl_CalmDay ..) rfl rfl ?_
    | refine ArgF.is (c_impl_DayCost ..) ?_
    | refine ArgQ.is (fun hG => c_impl_DayCost ..) rfl rfl ?_
    | refine ArgF.is (c_impl_SwitchesOf ..) ?_
    | refine ArgQ.is (fun hG => c_impl_SwitchesOf ..) rfl rfl ?_
    | refine ArgF.is (c_impl_CheapestDay ..) ?_
    | refine ArgQ.is (fun hG => c_impl_CheapestDay ..) rfl rfl ?_
    | refine ArgF.is (c_spec_IsDay ..) ?_
    | refine ArgQ.is (fun hG => c_spec_IsDay ..) rfl rfl ?_
    | refine CallF.mk (CallW.is [] true rfl ?_)
    | refine CallG.mk ?_
    | (refine CondF.mk (fun hb => ?_) (fun hb => ?_) <;> try simp only [forall_const, eq_self, not_true_eq_false, not_false_eq_true, or_false, false_or, or_self, or_true, true_or, and_true, true_and, and_false, false_and, decide_true, decide_false, Bool.not_true, Bool.not_false, decide_eq_true_eq, decide_eq_false_iff_not, ite_and_p, ite_or_p, Bool.decide_eq_true, Bool.and_eq_true, Bool.or_eq_true, Bool.not_eq_true', Bool.not_eq_false', Bool.and_eq_false_imp, Bool.or_eq_false_iff, bne_iff_ne, beq_iff_eq, bne_eq_false_iff_eq, beq_eq_false_iff_ne, gt_iff_lt, ge_iff_le, Int.not_lt, Int.not_le, ne_eq, Bool.true_eq_false, Bool.false_eq_true, reduceCtorEq, eta_Airway, eta_Door, eta_Dusting, eta_Fan, eta_Mine, eta_Mode] at hb)
    | refine RetF.auto (And.intro rfl ?_)
    | exact Is.mk rfl rfl
    | refine Is.mk ?_ rfl
    | refine Is.mk rfl ?_
    | refine Is.mk ?_ ?_
  all_goals try dsimp only
  all_goals first
    | (have q := calm_bad hb
       rw [q.1, q.2]
       rfl)
    | (exfalso
       obtain ⟨r1, r2, r3, r4, r5, r6, r7⟩ := calm_good (by assumption)
       rw [r1] at hb
       simp only [reduceCtorEq, false_or] at hb
       omega)
    | (rcases calm_less (by assumption) hb with h | ⟨h, h2⟩
       · rw [h]; rfl
       · rw [h, decide_eq_true (show _ ≥ _ from h2)]; rfl)
    | skip
end Go.Proofs.Ytnmfbdkiehickaa
