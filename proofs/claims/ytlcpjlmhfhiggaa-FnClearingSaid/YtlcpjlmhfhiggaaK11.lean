/- Contracts of functions of the program, and what they compute. Conditions: those that each theorem states. -/
import Derived.Test.YtlcpjlmhfhiggaaProg
import Derived.Test.YtlcpjlmhfhiggaaK9
set_option linter.unusedVariables false
set_option linter.unusedSimpArgs false
namespace Go.Proofs.Ytlcpjlmhfhiggaa
open Go.Av
attribute [local irreducible] Go.IntKind.wrap
set_option maxRecDepth 20000
set_option maxHeartbeats 2000000

def peakN (x : GHeading) (flow stop start : Int) : Nat → Int × Int
  | 0 => (0, 0)
  | n + 1 => (stepG x (peakN x flow stop start n).1 (if stop ≤ (n : Int) ∧ (n : Int) < start then 0 else flow), max (peakN x flow stop start n).2 (stepG x (peakN x flow stop start n).1 (if stop ≤ (n : Int) ∧ (n : Int) < start then 0 else flow)))
theorem peakN_s {x : GHeading} {flow stop start i : Int} (h0 : 0 ≤ i) : peakN x flow stop start (i + 1).toNat = (stepG x (peakN x flow stop start i.toNat).1 (if stop ≤ i ∧ i < start then 0 else flow), max (peakN x flow stop start i.toNat).2 (stepG x (peakN x flow stop start i.toNat).1 (if stop ≤ i ∧ i < start then 0 else flow))) := by
  obtain ⟨n, rfl⟩ := Int.eq_ofNat_of_zero_le h0
  rfl
def peakShare (x : GHeading) (flow stop start till : Int) : Int × Int := if askG x 0 flow 0 = 0 then (if inR stop 0 36000 && inR start stop 36000 && inR till start 36000 then ((peakN x flow stop start till.toNat).2.tdiv x.volume, 0) else (0, 2)) else (0, askG x 0 flow 0)
theorem peak_1 {x : GHeading} {flow stop start i g m q : Int} (h0 : 0 ≤ i) (h2 : (g, m) = peakN x flow stop start i.toNat) (hq : q = if stop ≤ i ∧ i < start then 0 else flow) : (stepG x g q, max m (stepG x g q)) = peakN x flow stop start (i + 1).toNat := by
  rw [peakN_s h0, ← h2, hq]
theorem peak_0 {x : GHeading} {flow stop start till : Int} (h : ¬askG x 0 flow 0 = 0) : peakShare x flow stop start till = (0, askG x 0 flow 0) := by unfold peakShare; rw [if_neg h]
theorem peak_2 {x : GHeading} {flow stop start till : Int} (h : askG x 0 flow 0 = 0) (h1 : (inR stop 0 36000 = false ∨ inR start stop 36000 = false) ∨ inR till start 36000 = false) : peakShare x flow stop start till = (0, 2) := by
  unfold peakShare; rw [if_pos h, if_neg (by grind)]
theorem peak_3 {x : GHeading} {flow stop start till : Int} (h : askG x 0 flow 0 = 0) (h1 : ¬(inR stop 0 36000 = false ∨ inR start stop 36000 = false) ∧ inR till start 36000 = true) : peakShare x flow stop start till = ((peakN x flow stop start till.toNat).2.tdiv x.volume, 0) := by
  unfold peakShare; rw [if_pos h, if_pos (by grind)]
theorem peak_r {stop start till : Int} (h1 : ¬(inR stop 0 36000 = false ∨ inR start stop 36000 = false) ∧ inR till start 36000 = true) : 0 ≤ stop ∧ stop ≤ start ∧ start ≤ till ∧ till ≤ 36000 := by
  have a : inR stop 0 36000 = true := by grind
  have b : inR start stop 36000 = true := by grind
  have c := h1.2
  rw [inR_iff] at a b c; omega
theorem c_impl_PeakShare (x : GHeading) (flow stop start till : Int) : FnSem Try.prog 48 [.p .any (.agg x.cells), In flow, In stop, In start, In till] [] (Is [In (peakShare x flow stop start till).1, In (peakShare x flow stop start till).2] []) := by
  refine FnSem.walk (zs := zeroPV Try.prog) (by kernel_rfl) Try.func48 rfl Try.results48 (by kernel_rfl) (by kernel_rfl) (by kernel_rfl) fun hw hh => ?_
  obtain ⟨w0, w1, w2, w3, w4, _⟩ := hw
  first | replace w0 := wf_Heading w0 | skip
  first | replace w1 := wf_I w1 | replace w1 := wf_Y w1 | replace w1 := wf_S w1 | replace w1 := wf_LI w1 | replace w1 := wf_LY w1 | replace w1 := wf_LLI w1 | replace w1 := wf_Ls w1 | skip
  first | replace w2 := wf_I w2 | replace w2 := wf_Y w2 | replace w2 := wf_S w2 | replace w2 := wf_LI w2 | replace w2 := wf_LY w2 | replace w2 := wf_LLI w2 | replace w2 := wf_Ls w2 | skip
  first | replace w3 := wf_I w3 | replace w3 := wf_Y w3 | replace w3 := wf_S w3 | replace w3 := wf_LI w3 | replace w3 := wf_LY w3 | replace w3 := wf_LLI w3 | replace w3 := wf_Ls w3 | skip
  first | replace w4 := wf_I w4 | replace w4 := wf_Y w4 | replace w4 := wf_S w4 | replace w4 := wf_LI w4 | replace w4 := wf_LY w4 | replace w4 := wf_LLI w4 | replace w4 := wf_Ls w4 | skip
  repeat' first
    | refine And.intro rfl ?_
    | refine GdF.mk (fun h => h) ?_
    | refine And.intro (Nat.succ_ne_zero _) ?_
    | refine And.intro (Nat.le_of_ble_eq_true rfl) ?_
    | refine SeqF.run ?_
    | refine EqI.mk _ (fun _ => by have := tdivB h4.1 h7.1; exact wrapI (by omega) (by omega)) ?_
    | refine LoopF.fix [1, 2, 3, 5, 39] (Int × Int × Int) (fun (i, g, m) => 0 ≤ i ∧ i ≤ till ∧ (g, m) = peakN x flow stop start i.toNat ∧ (0 ≤ g ∧ g ≤ x.volume * 1000000) ∧ (0 ≤ m ∧ m ≤ x.volume * 1000000) ∧ okHeading x = true ∧ (0 ≤ flow ∧ flow ≤ 100000) ∧ (1 ≤ x.volume ∧ x.volume ≤ 100000) ∧ till ≤ 36000 ∧ 0 ≤ start) (fun (i, g, m) => [(40, In i), (13, In g), (14, In m)]) (fun (i, g, m) => []) (fun (i, g, m) => ((till - i).toNat)) ((0, 0, 0)) ?_
    | (refine LoopB.mk ?_ ?_; rotate_left; rintro ⟨i, g, m⟩ ⟨h0, h1, h2, h3, h4, h5, h6, h7, h8, h9⟩; rotate_left)
    | refine ArgF.is (c_impl_Heading_next x _ _ (by assumption) (by assumption) (by first | assumption | omega)) ?_
    | refine ArgQ.is (fun hG => c_impl_Heading_next x _ _ (by assumption) (by assumption) (by first | assumption | omega)) rfl rfl ?_
    | refine BndF.mk (fun _ => by omega) ?_
    | refine BndF.mk (fun _ => by simp only [List.length_map, List.length_cons, List.length_nil, List.length_append, List.length_set, List.length_replicate, iotaI_len]; omega) ?_
    | refine BndF.mk (fun hG => by simp only [forall_const, eq_self, not_true_eq_false, not_false_eq_true, or_false, false_or, or_self, or_true, true_or, and_true, true_and, and_false, false_and, decide_true, decide_false, Bool.not_true, Bool.not_false, decide_eq_true_eq, decide_eq_false_iff_not, ite_and_p, ite_or_p, Bool.decide_eq_true, Bool.and_eq_true, Bool.or_eq_true, Bool.not_eq_true', Bool.not_eq_false', Bool.and_eq_false_imp, Bool.or_eq_false_iff, bne_iff_ne, beq_iff_eq, bne_eq_false_iff_eq, beq_eq_false_iff_ne, gt_iff_lt, ge_iff_le, Int.not_lt, Int.not_le, ne_eq, Bool.true_eq_false, Bool.false_eq_true, reduceCtorEq, eta_Airway, eta_Dusting, eta_Heading, eta_Mine, eta_Mode, eta_Sensor, bytes_nil] at hG; (try simp only [List.length_map]); omega) ?_
    | refine EqI.mk _ (fun _ => wrapI (by omega) (by omega)) ?_
    | refine EqI.mk _ (fun _ => wrapD (by omega) (by omega) (by omega)) ?_
    | refine EqI.mk _ (fun _ => rfl) ?_
    | refine EqL.mk [] rfl ?_
    | refine EqL.mk [_] rfl ?_
    | refine EqL.mk _ rfl ?_
    | refine ArgF.is (c_impl_Heading_code ⟨_, _, _⟩ _ _ _) ?_
    | refine ArgQ.is (fun hG => c_impl_Heading_code ⟨_, _, _⟩ _ _ _) rfl rfl ?_
    | refine ArgF.is (c_impl_within ..) ?_
    | refine ArgQ.is (fun hG => c_impl_within ..) rfl rfl ?_
    | refine ArgF.is (c_impl_Heading_next ⟨_, _, _⟩ _ _ (by first | assumption | omega) (by first | assumption | omega) (by first | assumption | omega)) ?_
    | refine ArgQ.is (fun hG => c_impl_Heading_next ⟨_, _, _⟩ _ _ (by first | assumption | omega) (by first | assumption | omega) (by first | assumption | omega)) rfl rfl ?_
    | refine ArgQ.is (fun hG => c_impl_Heading_next ⟨_, _, _⟩ _ _ (by simp only [forall_const, eq_self, not_true_eq_false, not_false_eq_true, or_false, false_or, or_self, or_true, true_or, and_true, true_and, and_false, false_and, decide_true, decide_false, Bool.not_true, Bool.not_false, decide_eq_true_eq, decide_eq_false_iff_not, ite_and_p, ite_or_p, Bool.decide_eq_true, Bool.and_eq_true, Bool.or_eq_true, Bool.not_eq_true', Bool.not_eq_false', Bool.and_eq_false_imp, Bool.or_eq_false_iff, bne_iff_ne, beq_iff_eq, bne_eq_false_iff_eq, beq_eq_false_iff_ne, gt_iff_lt, ge_iff_le, Int.not_lt, Int.not_le, ne_eq, Bool.true_eq_false, Bool.false_eq_true, reduceCtorEq, eta_Airway, eta_Dusting, eta_Heading, eta_Mine, eta_Mode, eta_Sensor, bytes_nil] at hG; omega) (by simp only [forall_const, eq_self, not_true_eq_false, not_false_eq_true, or_false, false_or, or_self, or_true, true_or, and_true, true_and, and_false, false_and, decide_true, decide_false, Bool.not_true, Bool.not_false, decide_eq_true_eq, decide_eq_false_iff_not, ite_and_p, ite_or_p, Bool.decide_eq_true, Bool.and_eq_true, Bool.or_eq_true, Bool.not_eq_true', Bool.not_eq_false', Bool.and_eq_false_imp, Bool.or_eq_false_iff, bne_iff_ne, beq_iff_eq, bne_eq_false_iff_eq, beq_eq_false_iff_ne, gt_iff_lt, ge_iff_le, Int.not_lt, Int.not_le, ne_eq, Bool.true_eq_false, Bool.false_eq_true, reduceCtorEq, eta_Airway, eta_Dusting, eta_Heading, eta_Mine, eta_Mode, eta_Sensor, bytes_nil] at hG; omega) (by simp only [forall_const, eq_self, not_true_eq_false, not_false_eq_true, or_false, false_or, or_self, or_true, true_or, and_true, true_and, and_false, false_and, decide_true, decide_false, Bool.not_true, Bool.not_false, decide_eq_true_eq, decide_eq_false_iff_not, ite_and_p, ite_or_p, Bool.decide_eq_true, Bool.and_eq_true, Bool.or_eq_true, Bool.not_eq_true', Bool.not_eq_false', Bool.and_eq_false_imp, Bool.or_eq_false_iff, bne_iff_ne, beq_iff_eq, bne_eq_false_iff_eq, beq_eq_false_iff_ne, gt_iff_lt, ge_iff_le, Int.not_lt, Int.not_le, ne_eq, Bool.true_eq_false, Bool.false_eq_true, reduceCtorEq, eta_Airway, eta_Dusting, eta_Heading, eta_Mine, eta_Mode, eta_Sensor, bytes_nil] at hG; omega)) rfl rfl ?_
    | refine CallF.mk (CallW.is [] true rfl ?_)
    | refine CallG.mk ?_
    | (refine CondF.mk (fun hb => ?_) (fun hb => ?_) <;> try simp only [forall_const, eq_self, not_true_eq_false, not_false_eq_true, or_false, false_or, or_self, or_true, true_or, and_true, true_and, and_false, false_and, decide_true, decide_false, Bool.not_true, Bool.not_false, decide_eq_true_eq, decide_eq_false_iff_not, ite_and_p, ite_or_p, Bool.decide_eq_true, Bool.and_eq_true, Bool.or_eq_true, Bool.not_eq_true', Bool.not_eq_false', Bool.and_eq_false_imp, Bool.or_eq_false_iff, bne_iff_ne, beq_iff_eq, bne_eq_false_iff_eq, beq_eq_false_iff_ne, gt_iff_lt, ge_iff_le, Int.not_lt, Int.not_le, ne_eq, Bool.true_eq_false, Bool.false_eq_true, reduceCtorEq, eta_Airway, eta_Dusting, eta_Heading, eta_Mine, eta_Mode, eta_Sensor] at hb)
    | apply BackF.auto3
    | refine BackB.mk ?_ ?_
    | refine RetF.auto (And.intro rfl ?_)
    | exact Is.mk rfl rfl
    | refine Is.mk ?_ rfl
    | refine Is.mk rfl ?_
    | refine Is.mk ?_ ?_
  all_goals try dsimp only
  all_goals try simp only [Bo, I, OB.row.injEq, AV.osl.injEq, eI_same,  List.cons.injEq, AV.p.injEq, PV.c.injEq, Value.int.injEq, Value.bool.injEq, and_true, true_and, ite_and_p, ite_or_p, Bool.decide_eq_true, eta_Airway, eta_Dusting, eta_Heading, eta_Mine, eta_Mode, eta_Sensor]
  · rw [peak_0 hb]; exact ⟨rfl, rfl⟩
  · rename_i h1; rw [peak_2 h1 hb]; exact ⟨rfl, rfl⟩
  · rename_i h1; have ha := askG_0 h1; have hi := peak_r hb; have hv := okHeading_b ha.1; exact ⟨by omega, by omega, rfl, by omega, by omega, ha.1, ha.2.2.1, by omega, by omega, by omega⟩
  · have hs := stepB h5 h3 (flow := 0) (by omega); rw [inR_iff] at hb; exact ⟨by omega, by omega, peak_1 h0 h2 (by rw [if_pos (by omega)]), hs, by omega, h5, h6, h7, h8, h9⟩
  · omega
  · have hs := stepB h5 h3 h6; rw [inR_f] at hb; exact ⟨by omega, by omega, peak_1 h0 h2 (by rw [if_neg (by omega)]), hs, by omega, h5, h6, h7, h8, h9⟩
  · omega
  · rename_i h11 h10; rw [peak_3 h11 h10, show till = i by omega, ← h2]; exact ⟨rfl, rfl⟩
end Go.Proofs.Ytlcpjlmhfhiggaa
