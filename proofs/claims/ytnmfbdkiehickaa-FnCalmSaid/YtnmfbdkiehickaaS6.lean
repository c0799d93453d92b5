/- Contracts of functions of the program, and what they compute. Conditions: those that each theorem states. -/
import Derived.Test.YtnmfbdkiehickaaProg
import Derived.Test.YtnmfbdkiehickaaS3
set_option linter.unusedVariables false
set_option linter.unusedSimpArgs false
namespace Go.Proofs.Ytnmfbdkiehickaa
open Go.Av
attribute [local irreducible] Go.IntKind.wrap okModes okMode bestT argT costM leastV leftS fitH okHours restF freeN
set_option maxRecDepth 20000
set_option maxHeartbeats 8000000

/-! The reference's best day, each hour by itself. -/
def askD (ms : List GMode) (needs prices : List Int) : Int := if okModes ms = true then (if okHours needs 100000 = true ∧ okHours prices 1000 = true then 0 else 2) else 1
theorem c_spec_l22Ask (ms : List GMode) (needs prices : List Int) : FnSem Try.prog 114 [.p .any (.lst (GMode.cells default) (ms.map GMode.cells)), Lx (LI needs), Lx (LI prices)] [] (Is [In (askD ms needs prices)] []) := by
  refine FnSem.walk (zs := zeroPV Try.prog) (by kernel_rfl) Try.func114 rfl Try.results114 (by kernel_rfl) (by kernel_rfl) (by kernel_rfl) fun hw hh => ?_
  obtain ⟨w0, w1, w2, _⟩ := hw
  first | replace w0 := wf_LMode w0 | skip
  first | replace w1 := wf_I w1 | replace w1 := wf_Y w1 | replace w1 := wf_S w1 | replace w1 := wf_LI w1 | replace w1 := wf_LY w1 | replace w1 := wf_LLI w1 | replace w1 := wf_Ls w1 | skip
  first | replace w2 := wf_I w2 | replace w2 := wf_Y w2 | replace w2 := wf_S w2 | replace w2 := wf_LI w2 | replace w2 := wf_LY w2 | replace w2 := wf_LLI w2 | replace w2 := wf_Ls w2 | skip
  repeat' first
    | refine And.intro rfl ?_
    | refine GdF.mk (fun h => h) ?_
    | refine And.intro (Nat.succ_ne_zero _) ?_
    | refine And.intro (Nat.le_of_ble_eq_true rfl) ?_
    | refine SeqF.run ?_
    | refine GhF.go ?_
    | refine GdS.keep ?_
    | refine BndF.mk (fun _ => by omega) ?_
    | refine BndF.mk (fun _ => by simp only [List.length_map, List.length_cons, List.length_nil, List.length_append, List.length_set, List.length_replicate, iotaI_len]; omega) ?_
    | refine BndF.mk (fun hG => by simp only [forall_const, eq_self, not_true_eq_false, not_false_eq_true, or_false, false_or, or_self, or_true, true_or, and_true, true_and, and_false, false_and, decide_true, decide_false, Bool.not_true, Bool.not_false, decide_eq_true_eq, decide_eq_false_iff_not, ite_and_p, ite_or_p, Bool.decide_eq_true, Bool.and_eq_true, Bool.or_eq_true, Bool.not_eq_true', Bool.not_eq_false', Bool.and_eq_false_imp, Bool.or_eq_false_iff, bne_iff_ne, beq_iff_eq, bne_eq_false_iff_eq, beq_eq_false_iff_ne, gt_iff_lt, ge_iff_le, Int.not_lt, Int.not_le, ne_eq, Bool.true_eq_false, Bool.false_eq_true, reduceCtorEq, eta_Airway, eta_Door, eta_Dusting, eta_Fan, eta_Mine, eta_Mode, bytes_nil] at hG; (try simp only [List.length_map]); omega) ?_
    | refine EqL.mk _ (tk eI (by first | rfl | assumption | omega | (simp only [List.length_map, List.length_cons, List.length_nil, List.length_append, List.length_set, List.length_replicate, iotaI_len]; done) | (simp only [List.length_map, List.length_cons, List.length_nil, List.length_append, List.length_set, List.length_replicate, iotaI_len]; omega))) ?_
    | refine EqL.mk _ (tk GMode.cells (by first | rfl | assumption | omega | (simp only [List.length_map, List.length_cons, List.length_nil, List.length_append, List.length_set, List.length_replicate, iotaI_len]; done) | (simp only [List.length_map, List.length_cons, List.length_nil, List.length_append, List.length_set, List.length_replicate, iotaI_len]; omega))) ?_
    | refine EqL.mk [] rfl ?_
    | refine EqL.mk [_] rfl ?_
    | refine EqL.mk _ rfl ?_
    | refine ArgF.is (c_spec_l22Ok ..) ?_
    | refine ArgQ.is (fun hG => c_spec_l22Ok ..) rfl rfl ?_
    | refine ArgF.is (c_spec_l22Hours ..) ?_
    | refine ArgQ.is (fun hG => c_spec_l22Hours ..) rfl rfl ?_
    | refine CallF.mk (CallW.is [] true rfl ?_)
    | refine CallG.mk ?_
    | (refine CondF.mk (fun hb => ?_) (fun hb => ?_) <;> try simp only [forall_const, eq_self, not_true_eq_false, not_false_eq_true, or_false, false_or, or_self, or_true, true_or, and_true, true_and, and_false, false_and, decide_true, decide_false, Bool.not_true, Bool.not_false, decide_eq_true_eq, decide_eq_false_iff_not, ite_and_p, ite_or_p, Bool.decide_eq_true, Bool.and_eq_true, Bool.or_eq_true, Bool.not_eq_true', Bool.not_eq_false', Bool.and_eq_false_imp, Bool.or_eq_false_iff, bne_iff_ne, beq_iff_eq, bne_eq_false_iff_eq, beq_eq_false_iff_ne, gt_iff_lt, ge_iff_le, Int.not_lt, Int.not_le, ne_eq, Bool.true_eq_false, Bool.false_eq_true, reduceCtorEq, eta_Airway, eta_Door, eta_Dusting, eta_Fan, eta_Mine, eta_Mode] at hb)
    | refine RetF.auto (And.intro rfl ?_)
    | exact Is.mk rfl rfl
    | refine Is.mk ?_ rfl
    | refine Is.mk rfl ?_
    | refine Is.mk ?_ ?_
  all_goals try dsimp only
  all_goals try simp only [Bo, I, OB.row.injEq, AV.osl.injEq, eI_same,  List.cons.injEq, AV.p.injEq, PV.c.injEq, Value.int.injEq, Value.bool.injEq, and_true, true_and, ite_and_p, ite_or_p, Bool.decide_eq_true, eta_Airway, eta_Door, eta_Dusting, eta_Fan, eta_Mine, eta_Mode, askD]
  · rw [if_neg (by simp [hb])]
  · rename_i h; rw [if_pos h, if_neg (by grind)]
  · rename_i h; rw [if_pos h, if_pos (by grind)]
/-- where the least is first; -1 if there is none -/
def bestA (g : Nat → Int) (n : Nat) : Int := if bestT g n < 0 then -1 else argT g n
section
variable {g : Nat → Int} {i b : Int}
theorem bestA_n (h : b = bestA g i.toNat) : (b < 0 ↔ bestT g i.toNat < 0) ∧ -1 ≤ b ∧ (0 ≤ b → b < i.toNat ∧ g b.toNat = bestT g i.toNat ∧ b = argT g i.toNat) := by
  unfold bestA at h
  by_cases hb : bestT g i.toNat < 0
  · rw [if_pos hb] at h; omega
  · rw [if_neg hb] at h
    have := bestT_arg (g := g) (n := i.toNat) (by omega)
    refine ⟨by omega, by omega, fun _ => ⟨by omega, ?_, h⟩⟩
    rw [h, Int.toNat_natCast]; exact this.2.1
theorem bestA_skip (h0 : 0 ≤ i) (h : b = bestA g i.toNat) (hg : g i.toNat = -1) : b = bestA g (i + 1).toNat := by
  unfold bestA at *
  have hc : ¬(0 ≤ g i.toNat ∧ (bestT g i.toNat < 0 ∨ g i.toNat < bestT g i.toNat)) := by omega
  rw [bestT_k h0 hc, argT_k h0 hc]; exact h
theorem bestA_take (h0 : 0 ≤ i) (h : b = bestA g i.toNat) {n : Int} (hg : g i.toNat = n) (hn : 0 ≤ n) (hb : b < 0 ∨ n < g b.toNat) : i = bestA g (i + 1).toNat := by
  have q := bestA_n h
  have hc : 0 ≤ g i.toNat ∧ (bestT g i.toNat < 0 ∨ g i.toNat < bestT g i.toNat) := by
    refine ⟨by omega, ?_⟩
    by_cases h2 : b < 0
    · exact .inl (q.1.1 h2)
    · have := q.2.2 (by omega); omega
  unfold bestA
  rw [bestT_s h0 hc, argT_s h0 hc, if_neg (by omega)]; omega
theorem bestA_keep (h0 : 0 ≤ i) (h : b = bestA g i.toNat) {n : Int} (hg : g i.toNat = n) (hb : ¬(b < 0 ∨ n < g b.toNat)) : b = bestA g (i + 1).toNat := by
  have q := bestA_n h
  have q2 := q.2.2 (by omega)
  have hc : ¬(0 ≤ g i.toNat ∧ (bestT g i.toNat < 0 ∨ g i.toNat < bestT g i.toNat)) := by omega
  unfold bestA at *
  rw [bestT_k h0 hc, argT_k h0 hc]; exact h
end
def freeB (ms : List GMode) (needs prices : List Int) (peak : Int) : List Int × Bool := if 0 ≤ restF ms needs prices peak 24 then (freeN ms needs prices peak 24, true) else ([], false)
section
variable {ms : List GMode} {needs prices : List Int} {peak h i : Int}
theorem freeB_f (h0 : 0 ≤ h) (h1 : h < 24) (hb : bestT (costF ms needs prices peak h) ms.length < 0) : freeB ms needs prices peak = ([], false) := by
  unfold freeB; rw [if_neg]
  intro hr
  have := rest_hour hr (i := h.toNat) (by omega)
  rw [show ((h.toNat : Nat) : Int) = h by omega] at this
  omega
theorem freeB_t (h0 : ¬h < 24) (h1 : h ≤ 24) (hj : ∀ j : Nat, (j : Int) < h → 0 ≤ bestT (costF ms needs prices peak j) ms.length) : freeB ms needs prices peak = (freeN ms needs prices peak h.toNat, true) := by
  unfold freeB; rw [if_pos (rest_of (fun i hi => hj i (by omega)) 24 (by omega)), show h.toNat = 24 by omega]
theorem freeN_s (h0 : 0 ≤ h) : freeN ms needs prices peak (h + 1).toNat = freeN ms needs prices peak h.toNat ++ [((argT (costF ms needs prices peak h) ms.length : Nat) : Int)] := by
  rw [show (h + 1).toNat = h.toNat + 1 by omega, freeN_c, show ((h.toNat : Nat) : Int) = h by omega]
theorem costI_f (h0 : 0 ≤ i) (hc : (ms.getD i.toNat default).flow < needs.getD h.toNat 0 ∨ peak < (ms.getD i.toNat default).power) : costF ms needs prices peak h i.toNat = -1 := by
  unfold costF fitH
  rw [if_neg]
  simp only [Int.toNat_natCast, Bool.and_eq_true, decide_eq_true_eq]
  omega
theorem costI_t (h0 : 0 ≤ i) (hc : needs.getD h.toNat 0 ≤ (ms.getD i.toNat default).flow ∧ (ms.getD i.toNat default).power ≤ peak) : costF ms needs prices peak h i.toNat = costM (ms.getD i.toNat default) (prices.getD h.toNat 0) := by
  unfold costF fitH
  rw [if_pos]
  simp only [Int.toNat_natCast, Bool.and_eq_true, decide_eq_true_eq]
  omega
theorem costI_b {j : Nat} (hg : 0 ≤ costF ms needs prices peak h j) : costF ms needs prices peak h j = costM (ms.getD j default) (prices.getD h.toNat 0) := by
  unfold costF at *; split at hg
  · rename_i hc; rw [if_pos hc]
  · omega
variable {b : Int}
theorem free_b (g2 : b = bestA (costF ms needs prices peak h) i.toNat) (hb : 0 ≤ b) : costF ms needs prices peak h b.toNat = costM (ms.getD b.toNat default) (prices.getD h.toNat 0) := by
  have q := bestA_n g2
  have q2 := q.2.2 hb
  exact costI_b (by rw [q2.2.1]; omega)
theorem free_take (ho : okModes ms = true) (hp : okHours prices 1000 = true) (h0 : 0 ≤ h) (h1 : h < 24) (g0 : 0 ≤ i) (hi : i < ms.length) (g2 : b = bestA (costF ms needs prices peak h) i.toNat) (hc : needs.getD h.toNat 0 ≤ (ms.getD i.toNat default).flow ∧ (ms.getD i.toNat default).power ≤ peak)
    (hb : b < 0 ∨ costM (ms.getD i.toNat default) (prices.getD h.toNat 0) < costM (ms.getD b.toNat default) (prices.getD h.toNat 0)) : i = bestA (costF ms needs prices peak h) (i + 1).toNat := by
  refine bestA_take g0 g2 (costI_t g0 hc) (costM_b (mode_b ho (by omega)) (price_b hp h0 h1)).2.1 ?_
  by_cases hn : b < 0
  · exact .inl hn
  · right; rw [free_b g2 (by omega)]; exact hb.resolve_left hn
theorem free_keep (g0 : 0 ≤ i) (g2 : b = bestA (costF ms needs prices peak h) i.toNat) (hc : needs.getD h.toNat 0 ≤ (ms.getD i.toNat default).flow ∧ (ms.getD i.toNat default).power ≤ peak)
    (hb : 0 ≤ b ∧ costM (ms.getD b.toNat default) (prices.getD h.toNat 0) ≤ costM (ms.getD i.toNat default) (prices.getD h.toNat 0)) : b = bestA (costF ms needs prices peak h) (i + 1).toNat := by
  refine bestA_keep g0 g2 (costI_t g0 hc) ?_
  rw [free_b g2 hb.1]; omega
theorem free_all (g2 : b = bestA (costF ms needs prices peak h) i.toNat) (g1 : i ≤ ms.length) (hi : (ms.length : Int) ≤ i) : (b < 0 → bestT (costF ms needs prices peak h) ms.length < 0) ∧ (0 ≤ b → 0 ≤ bestT (costF ms needs prices peak h) ms.length ∧ b = ((argT (costF ms needs prices peak h) ms.length : Nat) : Int)) := by
  have q := bestA_n g2
  rw [show i.toNat = ms.length by omega] at q
  exact ⟨q.1.1, fun hb => ⟨by omega, (q.2.2 hb).2.2⟩⟩
end
theorem c_spec_l22Best (ms : List GMode) (needs prices : List Int) (peak : Int) (ho : okModes ms = true) (hn : needs.length = 24) (hp : okHours prices 1000 = true) : FnSem Try.prog 115 [.p .any (.lst (GMode.cells default) (ms.map GMode.cells)), Lx (LI needs), Lx (LI prices), In peak] [] (Is [.osl 0 0 (freeB ms needs prices peak).1.length, Bo (freeB ms needs prices peak).2] [Rw .flat (eI 0) ((freeB ms needs prices peak).1.map eI)]) := by
  have hpl := (okHours_iff.1 hp).1
  have hml := (okModes_p ho).1
  refine FnSem.walk (zs := zeroPV Try.prog) (by kernel_rfl) Try.func115 rfl Try.results115 (by kernel_rfl) (by kernel_rfl) (by kernel_rfl) fun hw hh => ?_
  obtain ⟨w0, w1, w2, w3, _⟩ := hw
  first | replace w0 := wf_LMode w0 | skip
  first | replace w1 := wf_I w1 | replace w1 := wf_Y w1 | replace w1 := wf_S w1 | replace w1 := wf_LI w1 | replace w1 := wf_LY w1 | replace w1 := wf_LLI w1 | replace w1 := wf_Ls w1 | skip
  first | replace w2 := wf_I w2 | replace w2 := wf_Y w2 | replace w2 := wf_S w2 | replace w2 := wf_LI w2 | replace w2 := wf_LY w2 | replace w2 := wf_LLI w2 | replace w2 := wf_Ls w2 | skip
  first | replace w3 := wf_I w3 | replace w3 := wf_Y w3 | replace w3 := wf_S w3 | replace w3 := wf_LI w3 | replace w3 := wf_LY w3 | replace w3 := wf_LLI w3 | replace w3 := wf_Ls w3 | skip
  repeat' first
    | refine And.intro rfl ?_
    | refine GdF.mk (fun h => h) ?_
    | refine And.intro (Nat.succ_ne_zero _) ?_
    | refine And.intro (Nat.le_of_ble_eq_true rfl) ?_
    | refine SeqF.run ?_
    | refine BndF.mk (fun hG => by have q := bestA_n g2; rw [ln]; first | omega | (simp only [Bool.not_eq_true', decide_eq_false_iff_not] at hG; omega)) ?_
    | refine ArgF.is (c_spec_l22Cost (ms.getD i.toNat default) (prices.getD h.toNat 0) (mode_b ho (by omega)) (price_b hp (by omega) (by omega))) ?_
    | refine ArgQ.is (fun hG => c_spec_l22Cost (ms.getD i.toNat default) (prices.getD h.toNat 0) (mode_b ho (by omega)) (price_b hp (by omega) (by omega))) rfl rfl ?_
    | refine ArgQ.is (fun hG => c_spec_l22Cost (ms.getD b.toNat default) (prices.getD h.toNat 0) (mode_b ho (by have q := bestA_n g2; simp only [Bool.not_eq_true', decide_eq_false_iff_not] at hG; omega)) (price_b hp (by omega) (by omega))) rfl rfl ?_
    | refine EqP.mk _ (gmb GMode.cells default (by omega)) ?_
    | refine EqP.mk _ (by exact gm (by exact GMode.cells) rfl) ?_
    | refine LoopF.at 3 rfl (LoopF.fix [0, 1, 2, 3] (Int × Nat × List Int) (fun (h, n, xs) => 0 ≤ h ∧ h ≤ 24 ∧ (n = xs.length ∧ (n : Int) = h) ∧ xs = freeN ms needs prices peak h.toNat ∧ ∀ j : Nat, (j : Int) < h → 0 ≤ bestT (costF ms needs prices peak j) ms.length) (fun (h, n, xs) => [(11, In h), (10, .osl 0 0 n)]) (fun (h, n, xs) => [(0, Rw .flat (eI 0) (xs.map eI))]) (fun (h, n, xs) => ((24 - h).toNat)) ((0, 0, [])) ?_)
    | (refine LoopB.of (T := Int × Nat × List Int) ?_ ?_; rotate_left; rintro ⟨h, n, xs⟩ ⟨h0, h1, h2, h3, h4⟩; rotate_left)
    | refine LoopF.at 7 rfl (LoopF.fix [0, 1, 2, 3, 10, 11] (Int × Int) (fun (i, b) => 0 ≤ i ∧ i ≤ ms.length ∧ b = bestA (costF ms needs prices peak h) i.toNat ∧ h < 24) (fun (i, b) => [(13, In i), (12, In b)]) (fun (i, b) => []) (fun (i, b) => ((ms.length - i).toNat)) ((0, -1)) ?_)
    | (refine LoopB.of (T := Int × Int) ?_ ?_; rotate_left; rintro ⟨i, b⟩ ⟨g0, g1, g2, g3⟩; rotate_left)
    | refine GhF.go ?_
    | refine GdS.keep ?_
    | refine DrawG.old (DrawF.lex (by decide +kernel) ?_)
    | refine MkF.row ?_
    | refine EqP.mk _ (gm eI 0 rfl) ?_
    | refine EqP.mk _ (gm GMode.cells default rfl) ?_
    | refine BndF.mk (fun _ => by omega) ?_
    | refine BndF.mk (fun _ => by simp only [List.length_map, List.length_cons, List.length_nil, List.length_append, List.length_set, List.length_replicate, iotaI_len]; omega) ?_
    | refine BndF.mk (fun hG => by simp only [forall_const, eq_self, not_true_eq_false, not_false_eq_true, or_false, false_or, or_self, or_true, true_or, and_true, true_and, and_false, false_and, decide_true, decide_false, Bool.not_true, Bool.not_false, decide_eq_true_eq, decide_eq_false_iff_not, ite_and_p, ite_or_p, Bool.decide_eq_true, Bool.and_eq_true, Bool.or_eq_true, Bool.not_eq_true', Bool.not_eq_false', Bool.and_eq_false_imp, Bool.or_eq_false_iff, bne_iff_ne, beq_iff_eq, bne_eq_false_iff_eq, beq_eq_false_iff_ne, gt_iff_lt, ge_iff_le, Int.not_lt, Int.not_le, ne_eq, Bool.true_eq_false, Bool.false_eq_true, reduceCtorEq, eta_Airway, eta_Door, eta_Dusting, eta_Fan, eta_Mine, eta_Mode, bytes_nil] at hG; (try simp only [List.length_map]); omega) ?_
    | refine EqI.mk _ (fun _ => wrapI (by omega) (by omega)) ?_
    | refine EqI.mk _ (fun _ => rfl) ?_
    | refine FlF.keep ?_
    | refine EqN.mk _ (ln eI) ?_
    | refine EqN.mk _ (ln GMode.cells) ?_
    | refine EqN.mk _ (Nat.zero_add _) ?_
    | refine EqN.mk (_ + 1) rfl ?_
    | refine EqN.mk _ (Int.toNat_natCast _) ?_
    | refine EqN.mk _ rfl ?_
    | refine EqL.mk _ (sn0 eI) ?_
    | refine EqL.mk _ (sn eI (by first | rfl | assumption | omega | (simp only [List.length_map, List.length_cons, List.length_nil, List.length_append, List.length_set, List.length_replicate, iotaI_len]; done) | (simp only [List.length_map, List.length_cons, List.length_nil, List.length_append, List.length_set, List.length_replicate, iotaI_len]; omega))) ?_
    | refine EqL.mk _ (ap0 eI) ?_
    | refine EqL.mk _ (ap eI (by first | rfl | assumption | omega | (simp only [List.length_map, List.length_cons, List.length_nil, List.length_append, List.length_set, List.length_replicate, iotaI_len]; done) | (simp only [List.length_map, List.length_cons, List.length_nil, List.length_append, List.length_set, List.length_replicate, iotaI_len]; omega))) ?_
    | refine EqL.mk _ (tk eI (by first | rfl | assumption | omega | (simp only [List.length_map, List.length_cons, List.length_nil, List.length_append, List.length_set, List.length_replicate, iotaI_len]; done) | (simp only [List.length_map, List.length_cons, List.length_nil, List.length_append, List.length_set, List.length_replicate, iotaI_len]; omega))) ?_
    | refine EqL.mk _ (dt eI) ?_
    | refine EqL.mk _ (sn0 GMode.cells) ?_
    | refine EqL.mk _ (sn GMode.cells (by first | rfl | assumption | omega | (simp only [List.length_map, List.length_cons, List.length_nil, List.length_append, List.length_set, List.length_replicate, iotaI_len]; done) | (simp only [List.length_map, List.length_cons, List.length_nil, List.length_append, List.length_set, List.length_replicate, iotaI_len]; omega))) ?_
    | refine EqL.mk _ (ap0 GMode.cells) ?_
    | refine EqL.mk _ (ap GMode.cells (by first | rfl | assumption | omega | (simp only [List.length_map, List.length_cons, List.length_nil, List.length_append, List.length_set, List.length_replicate, iotaI_len]; done) | (simp only [List.length_map, List.length_cons, List.length_nil, List.length_append, List.length_set, List.length_replicate, iotaI_len]; omega))) ?_
    | refine EqL.mk _ (tk GMode.cells (by first | rfl | assumption | omega | (simp only [List.length_map, List.length_cons, List.length_nil, List.length_append, List.length_set, List.length_replicate, iotaI_len]; done) | (simp only [List.length_map, List.length_cons, List.length_nil, List.length_append, List.length_set, List.length_replicate, iotaI_len]; omega))) ?_
    | refine EqL.mk _ (dt GMode.cells) ?_
    | refine EqL.mk [] rfl ?_
    | refine EqL.mk [_] rfl ?_
    | refine EqL.mk _ rfl ?_
    | refine ArgF.is (c_spec_l22Cost ⟨_, _, _⟩ _ (by first | assumption | omega) (by first | assumption | omega)) ?_
    | refine ArgQ.is (fun hG => c_spec_l22Cost ⟨_, _, _⟩ _ (by first | assumption | omega) (by first | assumption | omega)) rfl rfl ?_
    | refine ArgQ.is (fun hG => c_spec_l22Cost ⟨_, _, _⟩ _ (by simp only [forall_const, eq_self, not_true_eq_false, not_false_eq_true, or_false, false_or, or_self, or_true, true_or, and_true, true_and, and_false, false_and, decide_true, decide_false, Bool.not_true, Bool.not_false, decide_eq_true_eq, decide_eq_false_iff_not, ite_and_p, ite_or_p, Bool.decide_eq_true, Bool.and_eq_true, Bool.or_eq_true, Bool.not_eq_true', Bool.not_eq_false', Bool.and_eq_false_imp, Bool.or_eq_false_iff, bne_iff_ne, beq_iff_eq, bne_eq_false_iff_eq, beq_eq_false_iff_ne, gt_iff_lt, ge_iff_le, Int.not_lt, Int.not_le, ne_eq, Bool.true_eq_false, Bool.false_eq_true, reduceCtorEq, eta_Airway, eta_Door, eta_Dusting, eta_Fan, eta_Mine, eta_Mode, bytes_nil] at hG; omega) (by simp only [forall_const, eq_self, not_true_eq_false, not_false_eq_true, or_false, false_or, or_self, or_true, true_or, and_true, true_and, and_false, false_and, decide_true, decide_false, Bool.not_true, Bool.not_false, decide_eq_true_eq, decide_eq_false_iff_not, ite_and_p, ite_or_p, Bool.decide_eq_true, Bool.and_eq_true, Bool.or_eq_true, Bool.not_eq_true', Bool.not_eq_false', Bool.and_eq_false_imp, Bool.or_eq_false_iff, bne_iff_ne, beq_iff_eq, bne_eq_false_iff_eq, beq_eq_false_iff_ne, gt_iff_lt, ge_iff_le, Int.not_lt, Int.not_le, ne_eq, Bool.true_eq_false, Bool.false_eq_true, reduceCtorEq, eta_Airway, eta_Door, eta_Dusting, eta_Fan, eta_Mine, eta_Mode, bytes_nil] at hG; omega)) rfl rfl ?_
    | refine CallF.mk (CallW.is [] true rfl ?_)
    | refine CallG.mk ?_
    | (refine CondF.mk (fun hb => ?_) (fun hb => ?_) <;> try simp only [forall_const, eq_self, not_true_eq_false, not_false_eq_true, or_false, false_or, or_self, or_true, true_or, and_true, true_and, and_false, false_and, decide_true, decide_false, Bool.not_true, Bool.not_false, decide_eq_true_eq, decide_eq_false_iff_not, ite_and_p, ite_or_p, Bool.decide_eq_true, Bool.and_eq_true, Bool.or_eq_true, Bool.not_eq_true', Bool.not_eq_false', Bool.and_eq_false_imp, Bool.or_eq_false_iff, bne_iff_ne, beq_iff_eq, bne_eq_false_iff_eq, beq_eq_false_iff_ne, gt_iff_lt, ge_iff_le, Int.not_lt, Int.not_le, ne_eq, Bool.true_eq_false, Bool.false_eq_true, reduceCtorEq, eta_Airway, eta_Door, eta_Dusting, eta_Fan, eta_Mine, eta_Mode] at hb)
    | apply BackF.auto3
    | apply BackF.auto2
    | refine BackB.mk ?_ ?_
    | refine RetF.auto (And.intro rfl ?_)
    | exact Is.mk rfl rfl
    | refine Is.mk ?_ rfl
    | refine Is.mk rfl ?_
    | refine Is.mk ?_ ?_
  all_goals try dsimp only
  all_goals first
    | omega
    | exact ⟨by omega, by omega, ⟨rfl, rfl⟩, freeN_0, fun j hj => absurd hj (by omega)⟩
    | exact ⟨by omega, by omega, by unfold bestA bestT; rfl, by assumption⟩
    | exact ⟨by omega, by omega, bestA_skip g0 g2 (costI_f g0 hb), g3⟩
    | exact ⟨by omega, by omega, free_take ho hp h0 g3 g0 (by omega) g2 (by assumption) hb, g3⟩
    | exact ⟨by omega, by omega, free_keep g0 g2 (by assumption) hb, g3⟩
    | (rw [freeB_f h0 g3 ((free_all g2 g1 (by assumption)).1 hb)] <;> rfl)
    | (have q := (free_all g2 g1 (by assumption)).2 hb
       refine ⟨by omega, by omega, ⟨by simp [h2.1], by omega⟩, by rw [freeN_s h0, ← h3, ← q.2], ?_⟩
       exact all_s (P := fun j => 0 ≤ bestT (costF ms needs prices peak j) ms.length) h0 h4 (by rw [show ((h.toNat : Nat) : Int) = h by omega]; exact q.1))
    | (rw [freeB_t (by omega) h1 h4, ← h3, h2.1] <;> rfl)
    | (rw [freeB_t (by omega) h1 h4, ← h3] <;> rfl)
    | skip
end Go.Proofs.Ytnmfbdkiehickaa
