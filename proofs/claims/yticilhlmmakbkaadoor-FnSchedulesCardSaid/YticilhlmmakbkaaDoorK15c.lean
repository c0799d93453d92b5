/- Contracts of functions of the program, and what they compute. Conditions: those that each theorem states. -/
import Derived.Test.YticilhlmmakbkaaDoorProg
import Derived.Test.YticilhlmmakbkaaDoorK15
set_option linter.unusedVariables false
set_option linter.unusedSimpArgs false
namespace Go.Proofs.YticilhlmmakbkaaDoor
open Go.Av
attribute [local irreducible] Go.IntKind.wrap okModes okMode
set_option maxRecDepth 20000
set_option maxHeartbeats 2000000

/-- the cost of a mode in an hour -/
def costM (x : GMode) (price : Int) : Int := (x.power * price).tdiv 1000
theorem costM_b {x : GMode} {price : Int} (h : 0 ≤ x.power ∧ x.power ≤ 10000000) (hp : 0 ≤ price ∧ price ≤ 1000) : (0 ≤ x.power * price ∧ x.power * price ≤ 10000000000) ∧ 0 ≤ costM x price ∧ costM x price ≤ 10000000 := by
  have h1 : 0 ≤ x.power * price := Int.mul_nonneg h.1 hp.1
  have h2 : x.power * price ≤ 10000000 * 1000 := Int.mul_le_mul h.2 hp.2 hp.1 (by omega)
  unfold costM
  rw [Int.tdiv_eq_ediv_of_nonneg h1]; omega
theorem c_impl_Mode_cost (x : GMode) (price : Int) (h : 0 ≤ x.power ∧ x.power ≤ 10000000) (hp : 0 ≤ price ∧ price ≤ 1000) : FnSem Tryd.prog 31 [.p .any (.agg x.cells), In price] [] (Is [In (costM x price)] []) := by
  have hc := costM_b h hp
  unfold costM at *
  refine FnSem.walk (zs := zeroPV Tryd.prog) (by kernel_rfl) Tryd.func31 rfl Tryd.results31 (by kernel_rfl) (by kernel_rfl) (by kernel_rfl) fun hw hh => ?_
  obtain ⟨w0, w1, _⟩ := hw
  first | replace w0 := wf_Mode w0 | skip
  first | replace w1 := wf_I w1 | replace w1 := wf_Y w1 | replace w1 := wf_S w1 | replace w1 := wf_LI w1 | replace w1 := wf_LY w1 | replace w1 := wf_LLI w1 | replace w1 := wf_Ls w1 | skip
  repeat' first
    | refine And.intro rfl ?_
    | refine GdF.mk (fun h => h) ?_
    | refine And.intro (Nat.succ_ne_zero _) ?_
    | refine And.intro (Nat.le_of_ble_eq_true rfl) ?_
    | refine SeqF.run ?_
    | refine GhF.go ?_
    | refine BndF.mk (fun _ => by omega) ?_
    | refine BndF.mk (fun _ => by simp only [List.length_map, List.length_cons, List.length_nil, List.length_append, List.length_set, List.length_replicate, iotaI_len]; omega) ?_
    | refine EqI.mk _ (fun _ => wrapI (by omega) (by omega)) ?_
    | refine EqI.mk _ (fun _ => wrapD (by omega) (by omega) (by omega)) ?_
    | refine EqI.mk _ (fun _ => rfl) ?_
    | (refine CondF.mk (fun hb => ?_) (fun hb => ?_) <;> try simp only [forall_const, eq_self, not_true_eq_false, not_false_eq_true, or_false, false_or, or_self, or_true, true_or, and_true, true_and, and_false, false_and, decide_true, decide_false, Bool.not_true, Bool.not_false, decide_eq_true_eq, decide_eq_false_iff_not, ite_and_p, ite_or_p, Bool.decide_eq_true, Bool.and_eq_true, Bool.or_eq_true, Bool.not_eq_true', Bool.not_eq_false', Bool.and_eq_false_imp, Bool.or_eq_false_iff, bne_iff_ne, beq_iff_eq, bne_eq_false_iff_eq, beq_eq_false_iff_ne, gt_iff_lt, ge_iff_le, Int.not_lt, Int.not_le, ne_eq, Bool.true_eq_false, Bool.false_eq_true, reduceCtorEq, eta_Mode] at hb)
    | refine RetF.auto (And.intro rfl ?_)
    | exact Is.mk rfl rfl
    | refine Is.mk ?_ rfl
    | refine Is.mk rfl ?_
    | refine Is.mk ?_ ?_
def costTo (ms : List GMode) (prices day : List Int) : Nat → Int
  | 0 => 0
  | n + 1 => costTo ms prices day n + costM (modeAt ms day n) (prices.getD n 0)
theorem costTo_s {ms : List GMode} {prices day : List Int} {i : Int} (h0 : 0 ≤ i) : costTo ms prices day (i + 1).toNat = costTo ms prices day i.toNat + costM (modeAt ms day i.toNat) (prices.getD i.toNat 0) := by
  rw [show (i + 1).toNat = i.toNat + 1 by omega]; rfl
def dayCost (ms : List GMode) (prices day : List Int) : Int × Int := if okModes ms then (if okHours prices 1000 && okHours day (ms.length - 1) then (costTo ms prices day 24, 0) else (0, 2)) else (0, 1)
theorem c_impl_DayCost (ms : List GMode) (prices day : List Int) : FnSem Tryd.prog 14 [Lx (.lst (GMode.cells default) (ms.map GMode.cells)), Lx (LI prices), Lx (LI day)] [] (Is [In (dayCost ms prices day).1, In (dayCost ms prices day).2] []) := by
  refine FnSem.walk (zs := zeroPV Tryd.prog) (by kernel_rfl) Tryd.func14 rfl Tryd.results14 (by kernel_rfl) (by kernel_rfl) (by kernel_rfl) fun hw hh => ?_
  obtain ⟨w0, w1, w2, _⟩ := hw
  first | replace w0 := wf_LMode w0 | skip
  first | replace w1 := wf_I w1 | replace w1 := wf_Y w1 | replace w1 := wf_S w1 | replace w1 := wf_LI w1 | replace w1 := wf_LY w1 | replace w1 := wf_LLI w1 | replace w1 := wf_Ls w1 | skip
  first | replace w2 := wf_I w2 | replace w2 := wf_Y w2 | replace w2 := wf_S w2 | replace w2 := wf_LI w2 | replace w2 := wf_LY w2 | replace w2 := wf_LLI w2 | replace w2 := wf_Ls w2 | skip
  repeat' first
    | refine And.intro rfl ?_
    | refine GdF.mk (fun h => h) ?_
    | refine And.intro (Nat.succ_ne_zero _) ?_
    | refine And.intro (Nat.le_of_ble_eq_true rfl) ?_
    | refine SeqF.run ?_
    | refine LoopF.at 7 rfl (LoopF.fix [0, 1, 25, 26] (Int × Int) (fun (i, m) => 0 ≤ i ∧ i ≤ 24 ∧ m = costTo ms prices day i.toNat ∧ okModes ms = true ∧ okHours prices 1000 = true ∧ okHours day (ms.length - 1) = true ∧ prices.length = 24 ∧ day.length = 24 ∧ (∀ j : Nat, (j : Int) < 24 → (0 ≤ day.getD j 0 ∧ day.getD j 0 < ms.length) ∧ ((0 ≤ prices.getD j 0 ∧ prices.getD j 0 ≤ 1000) ∧ 0 ≤ (modeAt ms day j).power ∧ (modeAt ms day j).power ≤ 10000000)) ∧ 0 ≤ m ∧ m ≤ 10000000 * i) (fun (i, m) => [(27, In i), (8, In m)]) (fun (i, m) => []) (fun (i, m) => ((24 - i).toNat)) ((0, 0)) ?_)
    | (refine LoopB.of (T := Int × Int) ?_ ?_; rotate_left; rintro ⟨i, m⟩ ⟨h0, h1, h2, h3, h4, h5, h6, h7, h8, h9, h10⟩; rotate_left)
    | refine BndF.mk (fun _ => by have := h8 i.toNat (by omega); rw [ln]; omega) ?_
    | refine EqP.mk _ (gmb GMode.cells default (by have := h8 i.toNat (by omega); omega)) ?_
    | refine ArgF.is (c_impl_Mode_cost (modeAt ms day i.toNat) _ (h8 i.toNat (by omega)).2.2 (h8 i.toNat (by omega)).2.1) ?_
    | refine ArgQ.is (fun hG => c_impl_Mode_cost (modeAt ms day i.toNat) _ (h8 i.toNat (by omega)).2.2 (h8 i.toNat (by omega)).2.1) rfl rfl ?_
    | refine EqI.mk _ (fun _ => by have := (costM_b (h8 i.toNat (by omega)).2.2 (h8 i.toNat (by omega)).2.1).2; exact wrapI (by omega) (by omega)) ?_
    | refine GhF.go ?_
    | refine GdS.keep ?_
    | refine DrawG.old (DrawF.lex (by decide +kernel) ?_)
    | refine EqP.mk _ (gm eI 0 rfl) ?_
    | refine EqP.mk _ (gm GMode.cells default rfl) ?_
    | refine BndF.mk (fun _ => by omega) ?_
    | refine BndF.mk (fun _ => by simp only [List.length_map, List.length_cons, List.length_nil, List.length_append, List.length_set, List.length_replicate, iotaI_len]; omega) ?_
    | refine BndF.mk (fun hG => by simp only [forall_const, eq_self, not_true_eq_false, not_false_eq_true, or_false, false_or, or_self, or_true, true_or, and_true, true_and, and_false, false_and, decide_true, decide_false, Bool.not_true, Bool.not_false, decide_eq_true_eq, decide_eq_false_iff_not, ite_and_p, ite_or_p, Bool.decide_eq_true, Bool.and_eq_true, Bool.or_eq_true, Bool.not_eq_true', Bool.not_eq_false', Bool.and_eq_false_imp, Bool.or_eq_false_iff, bne_iff_ne, beq_iff_eq, bne_eq_false_iff_eq, beq_eq_false_iff_ne, gt_iff_lt, ge_iff_le, Int.not_lt, Int.not_le, ne_eq, Bool.true_eq_false, Bool.false_eq_true, reduceCtorEq, eta_Mode, bytes_nil] at hG; (try simp only [List.length_map]); omega) ?_
    | refine EqI.mk _ (fun _ => wrapI (by omega) (by omega)) ?_
    | refine EqI.mk _ (fun _ => rfl) ?_
    | refine EqN.mk _ (ln eI) ?_
    | refine EqN.mk _ (ln GMode.cells) ?_
    | refine EqN.mk _ (Nat.zero_add _) ?_
    | refine EqN.mk _ (Int.toNat_natCast _) ?_
    | refine EqN.mk _ rfl ?_
    | refine EqL.mk _ (tk eI (by first | rfl | assumption | omega | (simp only [List.length_map, List.length_cons, List.length_nil, List.length_append, List.length_set, List.length_replicate, iotaI_len]; done) | (simp only [List.length_map, List.length_cons, List.length_nil, List.length_append, List.length_set, List.length_replicate, iotaI_len]; omega))) ?_
    | refine EqL.mk _ (tk GMode.cells (by first | rfl | assumption | omega | (simp only [List.length_map, List.length_cons, List.length_nil, List.length_append, List.length_set, List.length_replicate, iotaI_len]; done) | (simp only [List.length_map, List.length_cons, List.length_nil, List.length_append, List.length_set, List.length_replicate, iotaI_len]; omega))) ?_
    | refine EqL.mk [] rfl ?_
    | refine EqL.mk [_] rfl ?_
    | refine EqL.mk _ rfl ?_
    | refine ArgF.is (c_impl_ValidModes ..) ?_
    | refine ArgQ.is (fun hG => c_impl_ValidModes ..) rfl rfl ?_
    | refine ArgF.is (c_impl_pricesOk ..) ?_
    | refine ArgQ.is (fun hG => c_impl_pricesOk ..) rfl rfl ?_
    | refine ArgF.is (c_impl_dayOk ..) ?_
    | refine ArgQ.is (fun hG => c_impl_dayOk ..) rfl rfl ?_
    | refine ArgF.is (c_impl_Mode_cost ⟨_, _, _⟩ _ (by first | assumption | omega) (by first | assumption | omega)) ?_
    | refine ArgQ.is (fun hG => c_impl_Mode_cost ⟨_, _, _⟩ _ (by first | assumption | omega) (by first | assumption | omega)) rfl rfl ?_
    | refine ArgQ.is (fun hG => c_impl_Mode_cost ⟨_, _, _⟩ _ (by simp only [forall_const, eq_self, not_true_eq_false, not_false_eq_true, or_false, false_or, or_self, or_true, true_or, and_true, true_and, and_false, false_and, decide_true, decide_false, Bool.not_true, Bool.not_false, decide_eq_true_eq, decide_eq_false_iff_not, ite_and_p, ite_or_p, Bool.decide_eq_true, Bool.and_eq_true, Bool.or_eq_true, Bool.not_eq_true', Bool.not_eq_false', Bool.and_eq_false_imp, Bool.or_eq_false_iff, bne_iff_ne, beq_iff_eq, bne_eq_false_iff_eq, beq_eq_false_iff_ne, gt_iff_lt, ge_iff_le, Int.not_lt, Int.not_le, ne_eq, Bool.true_eq_false, Bool.false_eq_true, reduceCtorEq, eta_Mode, bytes_nil] at hG; omega) (by simp only [forall_const, eq_self, not_true_eq_false, not_false_eq_true, or_false, false_or, or_self, or_true, true_or, and_true, true_and, and_false, false_and, decide_true, decide_false, Bool.not_true, Bool.not_false, decide_eq_true_eq, decide_eq_false_iff_not, ite_and_p, ite_or_p, Bool.decide_eq_true, Bool.and_eq_true, Bool.or_eq_true, Bool.not_eq_true', Bool.not_eq_false', Bool.and_eq_false_imp, Bool.or_eq_false_iff, bne_iff_ne, beq_iff_eq, bne_eq_false_iff_eq, beq_eq_false_iff_ne, gt_iff_lt, ge_iff_le, Int.not_lt, Int.not_le, ne_eq, Bool.true_eq_false, Bool.false_eq_true, reduceCtorEq, eta_Mode, bytes_nil] at hG; omega)) rfl rfl ?_
    | refine CallF.mk (CallW.is [] true rfl ?_)
    | refine CallG.mk ?_
    | (refine CondF.mk (fun hb => ?_) (fun hb => ?_) <;> try simp only [forall_const, eq_self, not_true_eq_false, not_false_eq_true, or_false, false_or, or_self, or_true, true_or, and_true, true_and, and_false, false_and, decide_true, decide_false, Bool.not_true, Bool.not_false, decide_eq_true_eq, decide_eq_false_iff_not, ite_and_p, ite_or_p, Bool.decide_eq_true, Bool.and_eq_true, Bool.or_eq_true, Bool.not_eq_true', Bool.not_eq_false', Bool.and_eq_false_imp, Bool.or_eq_false_iff, bne_iff_ne, beq_iff_eq, bne_eq_false_iff_eq, beq_eq_false_iff_ne, gt_iff_lt, ge_iff_le, Int.not_lt, Int.not_le, ne_eq, Bool.true_eq_false, Bool.false_eq_true, reduceCtorEq, eta_Mode] at hb)
    | apply BackF.auto2
    | refine BackB.mk ?_ ?_
    | refine RetF.auto (And.intro rfl ?_)
    | exact Is.mk rfl rfl
    | refine Is.mk ?_ rfl
    | refine Is.mk rfl ?_
    | refine Is.mk ?_ ?_
  all_goals try dsimp only
  all_goals try simp only [Bo, I, OB.row.injEq, AV.osl.injEq, eI_same,  List.cons.injEq, AV.p.injEq, PV.c.injEq, Value.int.injEq, Value.bool.injEq, and_true, true_and, ite_and_p, ite_or_p, Bool.decide_eq_true, eta_Mode, dayCost]
  · rw [if_neg (by simp [hb])]; exact ⟨rfl, rfl⟩
  · rename_i h; rw [if_pos h, if_neg (by grind)]; exact ⟨rfl, rfl⟩
  · rename_i h; have h' : okHours prices 1000 = true := by simpa using hb.1
    have hd := dayB hb.2; have hp := okHours_iff.1 h'
    exact ⟨by omega, by omega, rfl, h, h', hb.2, hp.1, hd.1, fun j hj => ⟨hd.2 j hj, hp.2 j hj, (modeAt_b h hb.2 hj).2.2⟩, by omega, by omega⟩
  · have := (costM_b (h8 i.toNat (by omega)).2.2 (h8 i.toNat (by omega)).2.1).2
    exact ⟨by omega, by omega, by rw [costTo_s h0, ← h2], h3, h4, h5, h6, h7, h8, by omega, by omega⟩
  · omega
  · rw [if_pos h3, if_pos (by simp [h4, h5]), h2, show i.toNat = 24 by omega]; exact ⟨rfl, rfl⟩
end Go.Proofs.YticilhlmmakbkaaDoor
