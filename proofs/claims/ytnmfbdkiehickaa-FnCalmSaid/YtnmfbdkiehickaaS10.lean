/- Contracts of functions of the program, and what they compute. Conditions: those that each theorem states. -/
import Derived.Test.YtnmfbdkiehickaaProg
import Derived.Test.YtnmfbdkiehickaaS9
set_option linter.unusedVariables false
set_option linter.unusedSimpArgs false
namespace Go.Proofs.Ytnmfbdkiehickaa
open Go.Av
attribute [local irreducible] Go.IntKind.wrap okModes okMode bestT argT costM leastV leftS okHours restF freeN dayN pathM costTo valT minC rowT tblN
set_option maxRecDepth 20000
set_option maxHeartbeats 8000000

/-! The reference's tables. -/
theorem val_yes {ms : List GMode} {needs prices : List Int} {h s c : Int} {k : Nat} (hf : needs.getD h.toNat 0 ≤ (ms.getD k default).flow) (hc : c = leastV ms needs prices 10000000 (23 - h.toNat) k s) (h0 : 0 ≤ c) : c + costM (ms.getD k default) (prices.getD h.toNat 0) = valT ms needs prices h k s := by
  unfold valT; rw [if_pos ⟨hf, by omega⟩, hc]
theorem val_no {ms : List GMode} {needs prices : List Int} {h s c : Int} {k : Nat} (hc : c = leastV ms needs prices 10000000 (23 - h.toNat) k s) (h0 : c < 0) (h1 : -1 ≤ c) : c = valT ms needs prices h k s := by
  unfold valT; rw [if_neg (fun q => by have := q.2; omega)]; omega
theorem val_f {ms : List GMode} {needs prices : List Int} {h s : Int} {k : Nat} (hf : (ms.getD k default).flow < needs.getD h.toNat 0) : -1 = valT ms needs prices h k s := by
  unfold valT; rw [if_neg (fun q => by have := q.1; omega)]
theorem least_0 {ms : List GMode} {needs prices : List Int} {h m s : Int} (h0 : 23 ≤ h) : 0 = leastV ms needs prices 10000000 (23 - h.toNat) m s := by
  rw [show 23 - h.toNat = 0 by omega]; unfold leastV; rfl
/-- what lies behind an hour -/
def behT (ms : List GMode) (needs prices : List Int) (h : Int) (xs : List (List Int)) : Prop := h + 1 < 24 → xs = tblN ms needs prices (h + 1) ms.length
theorem beh_get {ms : List GMode} {needs prices : List Int} {h s : Int} {k : Nat} {xs : List (List Int)} (hb : behT ms needs prices h xs) (h1 : h + 1 < 24) (hk : k < ms.length) (h0 : 0 ≤ s) (hs : s ≤ 24) : xs.length = ms.length ∧ (xs.getD k []).length = 25 ∧ (xs.getD k []).getD s.toNat 0 = valT ms needs prices (h + 1) k s := by
  rw [hb h1, tblN_len, tblN_get hk, rowT_len]
  exact ⟨rfl, rfl, rowT_get h0 (by omega)⟩
theorem minC_k2 {a : Int} {g : Nat → Int} {k : Nat} {i c x kI : Int} (h0 : 0 ≤ i) (hc : c = minC a g k i.toNat) (hk : kI = (k : Int)) (hx : g i.toNat = x) (hb : ¬i = kI ∧ 0 ≤ x → 0 ≤ c ∧ c ≤ x) : c = minC a g k (i + 1).toNat :=
  minC_k h0 hc (by rintro ⟨w1, w2, w3⟩; rw [hx] at w2 w3; have := hb ⟨by omega, w2⟩; omega)
theorem tab_c {ms : List GMode} {needs prices : List Int} {h s j c k : Int} (ho : okModes ms = true) (hp : okHours prices 1000 = true) (h0 : 0 ≤ h) (h1 : h + 1 < 24) (hk0 : 0 ≤ k) (hk : k < ms.length) (g0 : 0 ≤ s) (f0 : 0 ≤ j) (f1 : j ≤ ms.length)
    (f2 : c = minC (valT ms needs prices (h + 1) k.toNat s) (fun j => valT ms needs prices (h + 1) j (s - 1)) k.toNat j.toNat) (f5 : s ≤ 0 → j = 0) (hx : j < ms.length → s ≤ 0) : c = leastV ms needs prices 10000000 (23 - h.toNat) k.toNat s := by
  by_cases hs : 0 < s
  · rw [f2, show j.toNat = ms.length by omega, next_min ho hp h0 h1 (by omega) hs]
  · rw [f2, show j.toNat = 0 by omega]
    have := next_one (needs := needs) ho hp h0 h1 (k := k.toNat) (by omega) (show s = 0 by omega)
    rw [← this]
    unfold minC; rfl
theorem c_spec_l22Table (ms : List GMode) (needs prices : List Int) (h : Int) (xs : List (List Int)) (ho : okModes ms = true) (hn : needs.length = 24) (hp : okHours prices 1000 = true) (hh0 : 0 ≤ h) (hh1 : h < 24) (hxs : behT ms needs prices h xs) : FnSem Try.prog 131 [.p .any (.lst (GMode.cells default) (ms.map GMode.cells)), Lx (LI needs), Lx (LI prices), In h, Lx (LLI xs)] [] (Is [.osl 0 0 (tblN ms needs prices h ms.length).length] [Rw .fresh zL ((tblN ms needs prices h ms.length).map eLI)]) := by
  have hpl := (okHours_iff.1 hp).1
  have hml := (okModes_p ho).1
  have hB := fun (k : Nat) (h1 : h + 1 < 24) (hk : k < ms.length) => (fun q => And.intro q.1 q.2.1) (beh_get (s := 0) hxs h1 hk (by omega) (by omega))
  refine FnSem.walk (zs := zeroPV Try.prog) (by kernel_rfl) Try.func131 rfl Try.results131 (by kernel_rfl) (by kernel_rfl) (by kernel_rfl) fun hw hh => ?_
  obtain ⟨w0, w1, w2, w3, w4, _⟩ := hw
  first | replace w0 := wf_LMode w0 | skip
  first | replace w1 := wf_I w1 | replace w1 := wf_Y w1 | replace w1 := wf_S w1 | replace w1 := wf_LI w1 | replace w1 := wf_LY w1 | replace w1 := wf_LLI w1 | replace w1 := wf_Ls w1 | skip
  first | replace w2 := wf_I w2 | replace w2 := wf_Y w2 | replace w2 := wf_S w2 | replace w2 := wf_LI w2 | replace w2 := wf_LY w2 | replace w2 := wf_LLI w2 | replace w2 := wf_Ls w2 | skip
  first | replace w3 := wf_I w3 | replace w3 := wf_Y w3 | replace w3 := wf_S w3 | replace w3 := wf_LI w3 | replace w3 := wf_LY w3 | replace w3 := wf_LLI w3 | replace w3 := wf_Ls w3 | skip
  first | replace w4 := wf_I w4 | replace w4 := wf_Y w4 | replace w4 := wf_S w4 | replace w4 := wf_LI w4 | replace w4 := wf_LY w4 | replace w4 := wf_LLI w4 | replace w4 := wf_Ls w4 | skip
  repeat' first
    | refine And.intro rfl ?_
    | refine GdF.mk (fun h => h) ?_
    | refine And.intro (Nat.succ_ne_zero _) ?_
    | refine And.intro (Nat.le_of_ble_eq_true rfl) ?_
    | refine SeqF.run ?_
    | refine LoopF.at 3 rfl (LoopF.fixw [0] [0, 1, 2, 3, 4] (Int × Nat × List (List Int)) (fun (k, n, ys) => 0 ≤ k ∧ k ≤ ms.length ∧ (n = ys.length ∧ (n : Int) = k) ∧ ys = tblN ms needs prices h k.toNat) (fun (k, n, ys) => [(12, In k), (11, .osl 0 0 n)]) (fun (k, n, ys) => [(0, Rw .fresh zL (ys.map eLI))]) (fun (k, n, ys) => ((ms.length - k).toNat)) ((0, 0, [])) ?_)
    | (refine LoopB.of (T := Int × Nat × List (List Int)) ?_ ?_; rotate_left; rintro ⟨k, n, ys⟩ ⟨h0, h1, h2, h3⟩; rotate_left)
    | refine LoopF.at 7 rfl (LoopF.fix [0, 1, 2, 3, 4, 11, 12] (Int × Nat × List Int) (fun (s, n2, zs) => 0 ≤ s ∧ s ≤ 25 ∧ (n2 = zs.length ∧ (n2 : Int) = s) ∧ zs = rowT ms needs prices h k.toNat s.toNat ∧ k < ms.length) (fun (s, n2, zs) => [(14, In s), (13, .osl 1 0 n2)]) (fun (s, n2, zs) => [(1, Rw .flat (eI 0) (zs.map eI))]) (fun (s, n2, zs) => ((25 - s).toNat)) ((0, 0, [])) ?_)
    | (refine LoopB.of (T := Int × Nat × List Int) ?_ ?_; rotate_left; rintro ⟨s, n2, zs⟩ ⟨g0, g1, g2, g3, g4⟩; rotate_left)
    | refine LoopF.at 15 rfl (LoopF.fix [0, 1, 2, 3, 4, 11, 12, 13, 14] (Int × Int) (fun (j, c) => 0 ≤ j ∧ j ≤ ms.length ∧ c = minC (valT ms needs prices (h + 1) k.toNat s) (fun j => valT ms needs prices (h + 1) j (s - 1)) k.toNat j.toNat ∧ h + 1 < 24 ∧ s ≤ 24 ∧ (s ≤ 0 → j = 0) ∧ needs.getD h.toNat 0 ≤ (ms.getD k.toNat default).flow) (fun (j, c) => [(16, In j), (15, In c)]) (fun (j, c) => []) (fun (j, c) => ((ms.length - j).toNat)) ((0, (xs.getD k.toNat []).getD s.toNat 0)) ?_)
    | (refine LoopB.of (T := Int × Int) ?_ ?_; rotate_left; rintro ⟨j, c⟩ ⟨f0, f1, f2, f3, f4, f5, f6⟩; rotate_left)
    | refine BndF.mk (fun _ => by simp only [List.length_map]; have q := hB k.toNat (by omega) (by omega); omega) ?_
    | refine BndF.mk (fun _ => by simp only [List.length_map]; have q := hB j.toNat (by omega) (by omega); omega) ?_
    | refine EqP.mk _ (gmb eLI [] (by have q := hB k.toNat (by omega) (by omega); omega)) ?_
    | refine EqP.mk _ (gmb GMode.cells default (by omega)) ?_
    | refine ArgF.is (c_spec_l22Cost (ms.getD k.toNat default) (prices.getD h.toNat 0) (mode_b ho (by omega)) (price_b hp (by omega) (by omega))) ?_
    | refine ArgQ.is (fun hG => c_spec_l22Cost (ms.getD k.toNat default) (prices.getD h.toNat 0) (mode_b ho (by omega)) (price_b hp (by omega) (by omega))) rfl rfl ?_
    | refine EqI.mk _ (fun _ => by have q := (costM_b (mode_b ho (show k.toNat < ms.length by omega)) (price_b hp hh0 hh1)).2; exact wrapI (by omega) (by omega)) ?_
    | refine EqI.mk _ (fun _ => by have q := (costM_b (mode_b ho (show k.toNat < ms.length by omega)) (price_b hp hh0 hh1)).2; have q2 := tab_c ho hp hh0 f3 h0 g4 g0 f0 f1 f2 f5 (by assumption); have q3 := leastV_b (needs := needs) (peak := 10000000) ho hp (23 - h.toNat) (by omega) k.toNat s; exact wrapI (by omega) (by omega)) ?_
    | refine GhF.go ?_
    | refine GdS.keep ?_
    | refine DrawG.old (DrawF.lex (by decide +kernel) ?_)
    | refine MkF.row ?_
    | refine EqP.mk _ (gm eI 0 rfl) ?_
    | refine EqP.mk _ (gm GMode.cells default rfl) ?_
    | refine EqP.mk _ (gmb eLI [] (by omega)) ?_
    | refine BndF.mk (fun _ => by omega) ?_
    | refine BndF.mk (fun _ => by simp only [List.length_map, List.length_cons, List.length_nil, List.length_append, List.length_set, List.length_replicate, iotaI_len]; omega) ?_
    | refine BndF.mk (fun hG => by simp only [forall_const, eq_self, not_true_eq_false, not_false_eq_true, or_false, false_or, or_self, or_true, true_or, and_true, true_and, and_false, false_and, decide_true, decide_false, Bool.not_true, Bool.not_false, decide_eq_true_eq, decide_eq_false_iff_not, ite_and_p, ite_or_p, Bool.decide_eq_true, Bool.and_eq_true, Bool.or_eq_true, Bool.not_eq_true', Bool.not_eq_false', Bool.and_eq_false_imp, Bool.or_eq_false_iff, bne_iff_ne, beq_iff_eq, bne_eq_false_iff_eq, beq_eq_false_iff_ne, gt_iff_lt, ge_iff_le, Int.not_lt, Int.not_le, ne_eq, Bool.true_eq_false, Bool.false_eq_true, reduceCtorEq, eta_Airway, eta_Door, eta_Dusting, eta_Fan, eta_Mine, eta_Mode, bytes_nil] at hG; (try simp only [List.length_map]); omega) ?_
    | refine EqI.mk _ (fun _ => wrapI (by omega) (by omega)) ?_
    | refine EqI.mk _ (fun _ => rfl) ?_
    | refine FlF.keep ?_
    | refine EqN.mk _ (ln eI) ?_
    | refine EqN.mk _ (ln GMode.cells) ?_
    | refine EqN.mk _ (ln eLI) ?_
    | refine EqN.mk _ (Nat.zero_add _) ?_
    | refine EqN.mk (_ + 1) rfl ?_
    | refine EqN.mk _ (Int.toNat_natCast _) ?_
    | refine EqN.mk _ rfl ?_
    | refine EqL.mk _ (sn0 eI) ?_
    | refine EqL.mk _ (sn eI (by first | rfl | assumption | omega | (simp only [List.length_map, List.length_cons, List.length_nil, List.length_append, List.length_set, List.length_replicate, iotaI_len]; done) | (simp only [List.length_map, List.length_cons, List.length_nil, List.length_append, List.length_set, List.length_replicate, iotaI_len]; omega))) ?_
    | refine EqL.mk _ (ap0 eI) ?_
    | refine EqL.mk _ (ap eI (by first | rfl | assumption | omega | (simp only [List.length_map, List.length_cons, List.length_nil, List.length_append, List.length_set, List.length_replicate, iotaI_len]; done) | (simp only [List.length_map, List.length_cons, List.length_nil, List.length_append, List.length_set, List.length_replicate, iotaI_len]; omega))) ?_
    | refine EqL.mk _ (tk eI (by first | rfl | assumption | omega | (simp only [List.length_map, List.length_cons, List.length_nil, List.length_append, List.length_set, List.length_replicate, iotaI_len]; done) | (simp only [List.length_map, List.length_cons, List.length_nil, List.length_append, List.length_set, List.length_replicate, iotaI_len]; omega))) ?_
    | refine EqL.mk _ (dt eI) ?_
    | refine EqL.mk _ (sn0 GMode.cells) ?_
    | refine EqL.mk _ (sn GMode.cells (by first | rfl | assumption | omega | (simp only [List.length_map, List.length_cons, List.length_nil, List.length_append, List.length_set, List.length_replicate, iotaI_len]; done) | (simp only [List.length_map, List.length_cons, List.length_nil, List.length_append, List.length_set, List.length_replicate, iotaI_len]; omega))) ?_
    | refine EqL.mk _ (ap0 GMode.cells) ?_
    | refine EqL.mk _ (ap GMode.cells (by first | rfl | assumption | omega | (simp only [List.length_map, List.length_cons, List.length_nil, List.length_append, List.length_set, List.length_replicate, iotaI_len]; done) | (simp only [List.length_map, List.length_cons, List.length_nil, List.length_append, List.length_set, List.length_replicate, iotaI_len]; omega))) ?_
    | refine EqL.mk _ (tk GMode.cells (by first | rfl | assumption | omega | (simp only [List.length_map, List.length_cons, List.length_nil, List.length_append, List.length_set, List.length_replicate, iotaI_len]; done) | (simp only [List.length_map, List.length_cons, List.length_nil, List.length_append, List.length_set, List.length_replicate, iotaI_len]; omega))) ?_
    | refine EqL.mk _ (dt GMode.cells) ?_
    | refine EqL.mk _ (sn0 eLI) ?_
    | refine EqL.mk _ (sn eLI (by first | rfl | assumption | omega | (simp only [List.length_map, List.length_cons, List.length_nil, List.length_append, List.length_set, List.length_replicate, iotaI_len]; done) | (simp only [List.length_map, List.length_cons, List.length_nil, List.length_append, List.length_set, List.length_replicate, iotaI_len]; omega))) ?_
    | refine EqL.mk _ (ap0 eLI) ?_
    | refine EqL.mk _ (ap eLI (by first | rfl | assumption | omega | (simp only [List.length_map, List.length_cons, List.length_nil, List.length_append, List.length_set, List.length_replicate, iotaI_len]; done) | (simp only [List.length_map, List.length_cons, List.length_nil, List.length_append, List.length_set, List.length_replicate, iotaI_len]; omega))) ?_
    | refine EqL.mk _ (tk eLI (by first | rfl | assumption | omega | (simp only [List.length_map, List.length_cons, List.length_nil, List.length_append, List.length_set, List.length_replicate, iotaI_len]; done) | (simp only [List.length_map, List.length_cons, List.length_nil, List.length_append, List.length_set, List.length_replicate, iotaI_len]; omega))) ?_
    | refine EqL.mk _ (dt eLI) ?_
    | refine EqL.mk [] rfl ?_
    | refine EqL.mk [_] rfl ?_
    | refine EqL.mk _ rfl ?_
    | refine ArgF.is (c_spec_l22Cost ⟨_, _, _⟩ _ (by first | assumption | omega) (by first | assumption | omega)) ?_
    | refine ArgQ.is (fun hG => c_spec_l22Cost ⟨_, _, _⟩ _ (by first | assumption | omega) (by first | assumption | omega)) rfl rfl ?_
    | refine ArgQ.is (fun hG => c_spec_l22Cost ⟨_, _, _⟩ _ (by simp only [forall_const, eq_self, not_true_eq_false, not_false_eq_true, or_false, false_or, or_self, or_true, true_or, and_true, true_and, and_false, false_and, decide_true, decide_false, Bool.not_true, Bool.not_false, decide_eq_true_eq, decide_eq_false_iff_not, ite_and_p, ite_or_p, Bool.decide_eq_true, Bool.and_eq_true, Bool.or_eq_true, Bool.not_eq_true', Bool.not_eq_false', Bool.and_eq_false_imp, Bool.or_eq_false_iff, bne_iff_ne, beq_iff_eq, bne_eq_false_iff_eq, beq_eq_false_iff_ne, gt_iff_lt, ge_iff_le, Int.not_lt, Int.not_le, ne_eq, Bool.true_eq_false, Bool.false_eq_true, reduceCtorEq, eta_Airway, eta_Door, eta_Dusting, eta_Fan, eta_Mine, eta_Mode, bytes_nil] at hG; omega) (by simp only [forall_const, eq_self, not_true_eq_false, not_false_eq_true, or_false, false_or, or_self, or_true, true_or, and_true, true_and, and_false, false_and, decide_true, decide_false, Bool.not_true, Bool.not_false, decide_eq_true_eq, decide_eq_false_iff_not, ite_and_p, ite_or_p, Bool.decide_eq_true, Bool.and_eq_true, Bool.or_eq_true, Bool.not_eq_true', Bool.not_eq_false', Bool.and_eq_false_imp, Bool.or_eq_false_iff, bne_iff_ne, beq_iff_eq, bne_eq_false_iff_eq, beq_eq_false_iff_ne, gt_iff_lt, ge_iff_le, Int.not_lt, Int.not_le, ne_eq, Bool.true_eq_false, Bool.false_eq_true, reduceCtorEq, eta_Airway, eta_Door, eta_Dusting, eta_Fan, eta_Mine, eta_Mode, bytes_nil] at hG; omega)) rfl rfl ?_
    | refine CallF.mk (CallW.is [] true rfl ?_)
    | refine CallG.mk ?_
    | (refine CondF.mk (fun hb => ?_) (fun hb => ?_) <;> try simp only [forall_const, eq_self, not_true_eq_false, not_false_eq_true, or_false, false_or, or_self, or_true, true_or, and_true, true_and, and_false, false_and, decide_true, decide_false, Bool.not_true, Bool.not_false, decide_eq_true_eq, decide_eq_false_iff_not, ite_and_p, ite_or_p, Bool.decide_eq_true, Bool.and_eq_true, Bool.or_eq_true, Bool.not_eq_true', Bool.not_eq_false', Bool.and_eq_false_imp, Bool.or_eq_false_iff, bne_iff_ne, beq_iff_eq, bne_eq_false_iff_eq, beq_eq_false_iff_ne, gt_iff_lt, ge_iff_le, Int.not_lt, Int.not_le, ne_eq, Bool.true_eq_false, Bool.false_eq_true, reduceCtorEq, eta_Airway, eta_Door, eta_Dusting, eta_Fan, eta_Mine, eta_Mode] at hb)
    | apply BackF.auto3
    | apply BackF.auto2
    | refine BackB.mk ?_ ?_
    | refine RetF.auto (And.intro rfl ?_)
    | exact Is.mk rfl rfl
    | refine Is.mk ?_ rfl
    | refine Is.mk rfl ?_
    | refine Is.mk ?_ ?_
  all_goals try dsimp only
  all_goals first
    | omega
    | exact ⟨by omega, by omega, ⟨rfl, rfl⟩, tblN_0⟩
    | exact ⟨by omega, by omega, ⟨rfl, rfl⟩, rowT_0, by omega⟩
    | (have q := beh_get (s := s) hxs hb (show k.toNat < ms.length by omega) g0 (by omega)
       exact ⟨by omega, by omega, by rw [q.2.2]; unfold minC; rfl, hb, by omega, fun _ => rfl, by assumption⟩)
    | (refine ⟨by omega, by omega, ⟨by simp [g2.1], by omega⟩, ?_, g4⟩
       rw [rowT_s g0, ← g3]
       congr 2
       first
       | exact val_f hb
       | exact val_yes (by assumption) (least_0 (by omega)) (by omega)
       | exact val_yes f6 (tab_c ho hp hh0 f3 h0 g4 g0 f0 f1 f2 f5 (by assumption)) hb
       | exact val_no (tab_c ho hp hh0 f3 h0 g4 g0 f0 f1 f2 f5 (by assumption)) hb (by rw [f2]; exact (minC_inv (valT_b ho hp (by omega) f3 (by omega)).1 _).1))
    | exact ⟨by omega, by omega, ⟨by simp [h2.1], by omega⟩, by rw [tblN_s h0, ← h3, g3, show s.toNat = 25 by omega]⟩
    | (have q := (beh_get (s := s - 1) hxs f3 (show j.toNat < ms.length by omega) (by omega) (by omega)).2.2
       rw [q] at hb ⊢
       exact ⟨by omega, by omega, minC_s f0 f2 ⟨by omega, hb.1.2, hb.2⟩, f3, f4, by omega, f6⟩)
    | (have q := (beh_get (s := s - 1) hxs f3 (show j.toNat < ms.length by omega) (by omega) (by omega)).2.2
       exact ⟨by omega, by omega, minC_k2 f0 f2 (by omega) q.symm hb, f3, f4, by omega, f6⟩)
    | (rw [h2.1, h3, show k.toNat = ms.length by omega])
    | (rw [h3, show k.toNat = ms.length by omega] <;> rfl)
    | skip
end Go.Proofs.Ytnmfbdkiehickaa
