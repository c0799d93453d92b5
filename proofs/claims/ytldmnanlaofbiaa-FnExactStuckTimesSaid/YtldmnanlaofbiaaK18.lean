/- Contracts of functions of the program, and what they compute. Conditions: those that each theorem states. -/
import Derived.Test.YtldmnanlaofbiaaProg
import Derived.Test.YtldmnanlaofbiaaK17
set_option linter.unusedVariables false
set_option linter.unusedSimpArgs false
namespace Go.Proofs.Ytldmnanlaofbiaa
open Go.Av
attribute [local irreducible] Go.IntKind.wrap leastI stuckN bndU runU okSeries
set_option maxRecDepth 20000
set_option maxHeartbeats 4000000

theorem stuck_len {xs : List Int} (h : okSeries xs = true) : xs.length ≤ 200 := by
  unfold okSeries at h
  simp only [Bool.and_eq_true, decide_eq_true_eq] at h
  omega
theorem stuck_no {xs : List Int} {len : Int} (h : okSeries xs = false ∨ inR len 2 200 = false) : ¬(okSeries xs = true ∧ inR len 2 200 = true) := by
  rcases h with h | h <;> simp [h]
--@fn impl.StuckTimes
theorem stuckRows (xs : List Int) (len : Int) : FnSem Try.prog 23 [Lx (LI xs), In len] [] (Is [.osl 0 0 (stuckT xs len).1.length, In (stuckT xs len).2] [.rows true .flat (eI 0) ((stuckT xs len).1.map eR) none]) := by
  refine FnSem.walk (zs := zeroPV Try.prog) (by kernel_rfl) Try.func23 rfl Try.results23 (by kernel_rfl) (by kernel_rfl) (by kernel_rfl) fun hw hh => ?_
  obtain ⟨w0, w1, _⟩ := hw
  first | replace w0 := wf_I w0 | replace w0 := wf_Y w0 | replace w0 := wf_S w0 | replace w0 := wf_LI w0 | replace w0 := wf_LY w0 | replace w0 := wf_LLI w0 | replace w0 := wf_Ls w0 | skip
  first | replace w1 := wf_I w1 | replace w1 := wf_Y w1 | replace w1 := wf_S w1 | replace w1 := wf_LI w1 | replace w1 := wf_LY w1 | replace w1 := wf_LLI w1 | replace w1 := wf_Ls w1 | skip
  repeat' first
    | refine And.intro rfl ?_
    | refine GdF.mk (fun h => h) ?_
    | refine And.intro (Nat.succ_ne_zero _) ?_
    | refine And.intro (Nat.le_of_ble_eq_true rfl) ?_
    | refine SeqF.run ?_
    | refine MkF.rows ?_
    | refine EqR.mk (List.map eR [[_, _]]) rfl ?_
    | refine EqR.mk [] rfl ?_
    | refine EqR.mk (List.map eR [[_, _]]) (by simp) ?_
    | refine EqR.mk _ apR ?_
    | refine LoopF.at 7 rfl (LoopF.fix [0, 1, 6, 7] (Int) (fun u => f < u ∧ u ≤ xs.length ∧ (∀ t : Int, f < t → t < u → xs.getD t.toNat 0 = xs.getD f.toNat 0)) (fun u => [(8, In u)]) (fun u => []) (fun u => ((xs.length - u).toNat)) ((f + 1)) ?_)
    | (refine LoopB.of (T := Int) ?_ ?_; rotate_left; rintro u ⟨g0, g1, g2⟩; rotate_left)
    | refine LoopF.at 5 rfl (LoopF.fix [0, 1] (Int × Nat × List (List Int)) (fun (f, n, ss) => 0 ≤ f ∧ f ≤ xs.length ∧ n = ss.length ∧ (n : Int) ≤ f ∧ (xs.length ≤ 200 ∧ 2 ≤ len ∧ okSeries xs = true ∧ inR len 2 200 = true) ∧ (∃ k : Nat, (k : Int) ≤ f ∧ f = bndU xs k ∧ ss = stuckN xs len k)) (fun (f, n, ss) => [(7, In f), (6, .osl 0 0 n)]) (fun (f, n, ss) => [(0, .rows true .flat (eI 0) (ss.map eR) none)]) (fun (f, n, ss) => ((xs.length - f).toNat)) ((0, 0, [])) ?_)
    | (refine LoopB.of (T := Int × Nat × List (List Int)) ?_ ?_; rotate_left; rintro ⟨f, n, ss⟩ ⟨h0, h1, h2, h3, h4, h5⟩; rotate_left)
    | refine DrawF.lex (by decide +kernel) ?_
    | refine BndF.mk (fun _ => ⟨rfl, by first | rfl | omega | (simp only [List.length_map, List.length_cons, List.length_nil, List.length_append, List.length_set, List.length_replicate]; first | done | omega)⟩) ?_
    | refine MkF.row ?_
    | refine EqP.mk _ (gm eI 0 rfl) ?_
    | refine EqP.mk _ (gmb eLI [] (by omega)) ?_
    | refine BndF.mk (fun _ => by omega) ?_
    | refine BndF.mk (fun _ => by simp only [List.length_map, List.length_cons, List.length_nil, List.length_append, List.length_set, List.length_replicate, iotaI_len]; omega) ?_
    | refine BndF.mk (fun hG => by simp only [forall_const, eq_self, not_true_eq_false, not_false_eq_true, or_false, false_or, or_self, or_true, true_or, and_true, true_and, and_false, false_and, decide_true, decide_false, Bool.not_true, Bool.not_false, decide_eq_true_eq, decide_eq_false_iff_not, ite_and_p, ite_or_p, Bool.decide_eq_true, Bool.and_eq_true, Bool.or_eq_true, Bool.not_eq_true', Bool.not_eq_false', Bool.and_eq_false_imp, Bool.or_eq_false_iff, bne_iff_ne, beq_iff_eq, bne_eq_false_iff_eq, beq_eq_false_iff_ne, gt_iff_lt, ge_iff_le, Int.not_lt, Int.not_le, ne_eq, Bool.true_eq_false, Bool.false_eq_true, reduceCtorEq, eta_Airway, eta_Fan, eta_Heading, eta_Mine, eta_Sensor, bytes_nil] at hG; (try simp only [List.length_map]); omega) ?_
    | refine EqI.mk _ (fun _ => wrapI (by omega) (by omega)) ?_
    | refine EqI.mk _ (fun _ => rfl) ?_
    | refine FlF.keep ?_
    | refine EqN.mk _ (ln eI) ?_
    | refine EqN.mk _ (ln eLI) ?_
    | refine EqN.mk _ (Nat.zero_add _) ?_
    | refine EqN.mk (_ + 1) rfl ?_
    | refine EqN.mk _ (Int.toNat_natCast _) ?_
    | refine EqN.mk _ rfl ?_
    | refine EqL.mk _ (sn0 eI) ?_
    | refine EqL.mk _ (sn eI (by first | rfl | assumption | omega | (simp only [List.length_map, List.length_cons, List.length_nil, List.length_append, List.length_set, List.length_replicate, iotaI_len]; done) | (simp only [List.length_map, List.length_cons, List.length_nil, List.length_append, List.length_set, List.length_replicate, iotaI_len]; omega))) ?_
    | refine EqL.mk _ (ap0 eI) ?_
    | refine EqL.mk _ (ap eI (by first | rfl | assumption | omega | (simp only [List.length_map, List.length_cons, List.length_nil, List.length_append, List.length_set, List.length_replicate, iotaI_len]; done) | (simp only [List.length_map, List.length_cons, List.length_nil, List.length_append, List.length_set, List.length_replicate, iotaI_len]; omega))) ?_
    | refine EqL.mk _ (tk eI (by first | rfl | assumption | omega | (simp only [List.length_map, List.length_cons, List.length_nil, List.length_append, List.length_set, List.length_replicate, iotaI_len]; done) | (simp only [List.length_map, List.length_cons, List.length_nil, List.length_append, List.length_set, List.length_replicate, iotaI_len]; omega))) ?_
    | refine EqL.mk _ (dt eI) ?_
    | refine EqL.mk _ (sn0 eLI) ?_
    | refine EqL.mk _ (sn eLI (by first | rfl | assumption | omega | (simp only [List.length_map, List.length_cons, List.length_nil, List.length_append, List.length_set, List.length_replicate, iotaI_len]; done) | (simp only [List.length_map, List.length_cons, List.length_nil, List.length_append, List.length_set, List.length_replicate, iotaI_len]; omega))) ?_
    | refine EqL.mk _ (ap0 eLI) ?_
    | refine EqL.mk _ (ap eLI (by first | rfl | assumption | omega | (simp only [List.length_map, List.length_cons, List.length_nil, List.length_append, List.length_set, List.length_replicate, iotaI_len]; done) | (simp only [List.length_map, List.length_cons, List.length_nil, List.length_append, List.length_set, List.length_replicate, iotaI_len]; omega))) ?_
    | refine EqL.mk _ (tk eLI (by first | rfl | assumption | omega | (simp only [List.length_map, List.length_cons, List.length_nil, List.length_append, List.length_set, List.length_replicate, iotaI_len]; done) | (simp only [List.length_map, List.length_cons, List.length_nil, List.length_append, List.length_set, List.length_replicate, iotaI_len]; omega))) ?_
    | refine EqL.mk _ (dt eLI) ?_
    | refine EqL.mk (List.map eI [_, _]) rfl ?_
    | refine EqL.mk [] rfl ?_
    | refine EqL.mk [_] rfl ?_
    | refine EqL.mk _ rfl ?_
    | refine ArgF.is (c_impl_seriesOk ..) ?_
    | refine ArgQ.is (fun hG => c_impl_seriesOk ..) rfl rfl ?_
    | refine ArgF.is (c_impl_within ..) ?_
    | refine ArgQ.is (fun hG => c_impl_within ..) rfl rfl ?_
    | refine CallF.mk (CallW.is [] true rfl ?_)
    | refine CallG.mk ?_
    | (refine CondF.mk (fun hb => ?_) (fun hb => ?_) <;> try simp only [forall_const, eq_self, not_true_eq_false, not_false_eq_true, or_false, false_or, or_self, or_true, true_or, and_true, true_and, and_false, false_and, decide_true, decide_false, Bool.not_true, Bool.not_false, decide_eq_true_eq, decide_eq_false_iff_not, ite_and_p, ite_or_p, Bool.decide_eq_true, Bool.and_eq_true, Bool.or_eq_true, Bool.not_eq_true', Bool.not_eq_false', Bool.and_eq_false_imp, Bool.or_eq_false_iff, bne_iff_ne, beq_iff_eq, bne_eq_false_iff_eq, beq_eq_false_iff_ne, gt_iff_lt, ge_iff_le, Int.not_lt, Int.not_le, ne_eq, Bool.true_eq_false, Bool.false_eq_true, reduceCtorEq, eta_Airway, eta_Fan, eta_Heading, eta_Mine, eta_Sensor] at hb)
    | apply BackF.auto3
    | apply BackF.auto
    | refine BackB.mk ?_ ?_
    | refine RetF.auto (And.intro rfl ?_)
    | exact Is.mk rfl rfl
    | refine Is.mk ?_ rfl
    | refine Is.mk rfl ?_
    | refine Is.mk ?_ ?_
  all_goals try dsimp only
  all_goals try simp only [Bo, I, OB.row.injEq, AV.osl.injEq, eI_same,  List.cons.injEq, AV.p.injEq, PV.c.injEq, Value.int.injEq, Value.bool.injEq, and_true, true_and, ite_and_p, ite_or_p, Bool.decide_eq_true, eta_Airway, eta_Fan, eta_Heading, eta_Mine, eta_Sensor, stuckT]
  all_goals try omega
  all_goals first
    | (rw [if_neg (stuck_no hb)]; first | exact ⟨rfl, rfl⟩ | rfl)
    | exact ⟨by omega, by omega, rfl, by omega, ⟨stuck_len (by simpa using hb.1), (inR_iff.1 hb.2).1, by simpa using hb.1, hb.2⟩, 0, by omega, bndU_0, stuckN_0⟩
    | exact ⟨by omega, by omega, fun t a b => by omega⟩
    | (refine ⟨by omega, by omega, fun t a b => ?_⟩
       by_cases e : t < u
       · exact g2 t a e
       · rw [show t = u by omega]; exact hb.2)
    | exact ⟨by omega, by omega, by simp [h2], by omega, h4, stuck_inv1 h5 (by assumption) g0 g1 g2 (by assumption) hb.1 hb.2⟩
    | exact ⟨by omega, by omega, h2, by omega, h4, stuck_inv2 h5 (by assumption) g0 g1 g2 (by assumption) hb⟩
    | (rw [if_pos ⟨h4.2.2.1, h4.2.2.2⟩, stuck_fin h5 (by omega) h1]; first | exact ⟨h2, rfl⟩ | rfl)
theorem c_spec_StuckTimes (xs : List Int) (len : Int) : FnSem Try.prog 21 [Lx (LI xs), In len] [] (Is [.osl 0 0 (stuckT xs len).1.length, In (stuckT xs len).2] [.rows true .flat (eI 0) ((stuckT xs len).1.map eR) none]) := by
  refine FnSem.walk (zs := zeroPV Try.prog) (by kernel_rfl) Try.func21 rfl Try.results21 (by kernel_rfl) (by kernel_rfl) (by kernel_rfl) fun hw hh => ?_
  obtain ⟨w0, w1, _⟩ := hw
  first | replace w0 := wf_I w0 | replace w0 := wf_Y w0 | replace w0 := wf_S w0 | replace w0 := wf_LI w0 | replace w0 := wf_LY w0 | replace w0 := wf_LLI w0 | replace w0 := wf_Ls w0 | skip
  first | replace w1 := wf_I w1 | replace w1 := wf_Y w1 | replace w1 := wf_S w1 | replace w1 := wf_LI w1 | replace w1 := wf_LY w1 | replace w1 := wf_LLI w1 | replace w1 := wf_Ls w1 | skip
  repeat' first
    | refine And.intro rfl ?_
    | refine GdF.mk (fun h => h) ?_
    | refine And.intro (Nat.succ_ne_zero _) ?_
    | refine And.intro (Nat.le_of_ble_eq_true rfl) ?_
    | refine SeqF.run ?_
    | refine MkF.rows ?_
    | refine EqR.mk (List.map eR [[_, _]]) rfl ?_
    | refine EqR.mk [] rfl ?_
    | refine EqR.mk (List.map eR [[_, _]]) (by simp) ?_
    | refine EqR.mk _ apR ?_
    | refine LoopF.at 8 rfl (LoopF.fix [0, 1, 6, 7, 8] (Int) (fun u => f < u ∧ u ≤ xs.length ∧ (∀ t : Int, f < t → t < u → xs.getD t.toNat 0 = xs.getD f.toNat 0)) (fun u => [(9, In u)]) (fun u => []) (fun u => ((xs.length - u).toNat)) ((f + 1)) ?_)
    | (refine LoopB.of (T := Int) ?_ ?_; rotate_left; rintro u ⟨g0, g1, g2⟩; rotate_left)
    | refine LoopF.at 6 rfl (LoopF.fix [0, 1, 7] (Int × Nat × List (List Int)) (fun (f, n, ss) => 0 ≤ f ∧ f ≤ xs.length ∧ n = ss.length ∧ (n : Int) ≤ f ∧ (xs.length ≤ 200 ∧ 2 ≤ len ∧ okSeries xs = true ∧ inR len 2 200 = true) ∧ (∃ k : Nat, (k : Int) ≤ f ∧ f = bndU xs k ∧ ss = stuckN xs len k)) (fun (f, n, ss) => [(8, In f), (6, .osl 0 0 n)]) (fun (f, n, ss) => [(0, .rows true .flat (eI 0) (ss.map eR) none)]) (fun (f, n, ss) => ((xs.length - f).toNat)) ((0, 0, [])) ?_)
    | (refine LoopB.of (T := Int × Nat × List (List Int)) ?_ ?_; rotate_left; rintro ⟨f, n, ss⟩ ⟨h0, h1, h2, h3, h4, h5⟩; rotate_left)
    | refine DrawF.lex (by decide +kernel) ?_
    | refine BndF.mk (fun _ => ⟨rfl, by first | rfl | omega | (simp only [List.length_map, List.length_cons, List.length_nil, List.length_append, List.length_set, List.length_replicate]; first | done | omega)⟩) ?_
    | refine MkF.row ?_
    | refine EqP.mk _ (gm eI 0 rfl) ?_
    | refine EqP.mk _ (gmb eLI [] (by omega)) ?_
    | refine BndF.mk (fun _ => by omega) ?_
    | refine BndF.mk (fun _ => by simp only [List.length_map, List.length_cons, List.length_nil, List.length_append, List.length_set, List.length_replicate, iotaI_len]; omega) ?_
    | refine BndF.mk (fun hG => by simp only [forall_const, eq_self, not_true_eq_false, not_false_eq_true, or_false, false_or, or_self, or_true, true_or, and_true, true_and, and_false, false_and, decide_true, decide_false, Bool.not_true, Bool.not_false, decide_eq_true_eq, decide_eq_false_iff_not, ite_and_p, ite_or_p, Bool.decide_eq_true, Bool.and_eq_true, Bool.or_eq_true, Bool.not_eq_true', Bool.not_eq_false', Bool.and_eq_false_imp, Bool.or_eq_false_iff, bne_iff_ne, beq_iff_eq, bne_eq_false_iff_eq, beq_eq_false_iff_ne, gt_iff_lt, ge_iff_le, Int.not_lt, Int.not_le, ne_eq, Bool.true_eq_false, Bool.false_eq_true, reduceCtorEq, eta_Airway, eta_Fan, eta_Heading, eta_Mine, eta_Sensor, bytes_nil] at hG; (try simp only [List.length_map]); omega) ?_
    | refine EqI.mk _ (fun _ => wrapI (by omega) (by omega)) ?_
    | refine EqI.mk _ (fun _ => rfl) ?_
    | refine FlF.keep ?_
    | refine EqN.mk _ (ln eI) ?_
    | refine EqN.mk _ (ln eLI) ?_
    | refine EqN.mk _ (Nat.zero_add _) ?_
    | refine EqN.mk (_ + 1) rfl ?_
    | refine EqN.mk _ (Int.toNat_natCast _) ?_
    | refine EqN.mk _ rfl ?_
    | refine EqL.mk _ (sn0 eI) ?_
    | refine EqL.mk _ (sn eI (by first | rfl | assumption | omega | (simp only [List.length_map, List.length_cons, List.length_nil, List.length_append, List.length_set, List.length_replicate, iotaI_len]; done) | (simp only [List.length_map, List.length_cons, List.length_nil, List.length_append, List.length_set, List.length_replicate, iotaI_len]; omega))) ?_
    | refine EqL.mk _ (ap0 eI) ?_
    | refine EqL.mk _ (ap eI (by first | rfl | assumption | omega | (simp only [List.length_map, List.length_cons, List.length_nil, List.length_append, List.length_set, List.length_replicate, iotaI_len]; done) | (simp only [List.length_map, List.length_cons, List.length_nil, List.length_append, List.length_set, List.length_replicate, iotaI_len]; omega))) ?_
    | refine EqL.mk _ (tk eI (by first | rfl | assumption | omega | (simp only [List.length_map, List.length_cons, List.length_nil, List.length_append, List.length_set, List.length_replicate, iotaI_len]; done) | (simp only [List.length_map, List.length_cons, List.length_nil, List.length_append, List.length_set, List.length_replicate, iotaI_len]; omega))) ?_
    | refine EqL.mk _ (dt eI) ?_
    | refine EqL.mk _ (sn0 eLI) ?_
    | refine EqL.mk _ (sn eLI (by first | rfl | assumption | omega | (simp only [List.length_map, List.length_cons, List.length_nil, List.length_append, List.length_set, List.length_replicate, iotaI_len]; done) | (simp only [List.length_map, List.length_cons, List.length_nil, List.length_append, List.length_set, List.length_replicate, iotaI_len]; omega))) ?_
    | refine EqL.mk _ (ap0 eLI) ?_
    | refine EqL.mk _ (ap eLI (by first | rfl | assumption | omega | (simp only [List.length_map, List.length_cons, List.length_nil, List.length_append, List.length_set, List.length_replicate, iotaI_len]; done) | (simp only [List.length_map, List.length_cons, List.length_nil, List.length_append, List.length_set, List.length_replicate, iotaI_len]; omega))) ?_
    | refine EqL.mk _ (tk eLI (by first | rfl | assumption | omega | (simp only [List.length_map, List.length_cons, List.length_nil, List.length_append, List.length_set, List.length_replicate, iotaI_len]; done) | (simp only [List.length_map, List.length_cons, List.length_nil, List.length_append, List.length_set, List.length_replicate, iotaI_len]; omega))) ?_
    | refine EqL.mk _ (dt eLI) ?_
    | refine EqL.mk (List.map eI [_, _]) rfl ?_
    | refine EqL.mk [] rfl ?_
    | refine EqL.mk [_] rfl ?_
    | refine EqL.mk _ rfl ?_
    | refine ArgF.is (c_spec_l24Series ..) ?_
    | refine ArgQ.is (fun hG => c_spec_l24Series ..) rfl rfl ?_
    | refine ArgF.is (c_spec_l00In ..) ?_
    | refine ArgQ.is (fun hG => c_spec_l00In ..) rfl rfl ?_
    | refine CallF.mk (CallW.is [] true rfl ?_)
    | refine CallG.mk ?_
    | (refine CondF.mk (fun hb => ?_) (fun hb => ?_) <;> try simp only [forall_const, eq_self, not_true_eq_false, not_false_eq_true, or_false, false_or, or_self, or_true, true_or, and_true, true_and, and_false, false_and, decide_true, decide_false, Bool.not_true, Bool.not_false, decide_eq_true_eq, decide_eq_false_iff_not, ite_and_p, ite_or_p, Bool.decide_eq_true, Bool.and_eq_true, Bool.or_eq_true, Bool.not_eq_true', Bool.not_eq_false', Bool.and_eq_false_imp, Bool.or_eq_false_iff, bne_iff_ne, beq_iff_eq, bne_eq_false_iff_eq, beq_eq_false_iff_ne, gt_iff_lt, ge_iff_le, Int.not_lt, Int.not_le, ne_eq, Bool.true_eq_false, Bool.false_eq_true, reduceCtorEq, eta_Airway, eta_Fan, eta_Heading, eta_Mine, eta_Sensor] at hb)
    | apply BackF.auto3
    | apply BackF.auto
    | refine BackB.mk ?_ ?_
    | refine RetF.auto (And.intro rfl ?_)
    | exact Is.mk rfl rfl
    | refine Is.mk ?_ rfl
    | refine Is.mk rfl ?_
    | refine Is.mk ?_ ?_
  all_goals try dsimp only
  all_goals try simp only [Bo, I, OB.row.injEq, AV.osl.injEq, eI_same,  List.cons.injEq, AV.p.injEq, PV.c.injEq, Value.int.injEq, Value.bool.injEq, and_true, true_and, ite_and_p, ite_or_p, Bool.decide_eq_true, eta_Airway, eta_Fan, eta_Heading, eta_Mine, eta_Sensor, stuckT]
  all_goals try omega
  all_goals first
    | (rw [if_neg (stuck_no hb)]; first | exact ⟨rfl, rfl⟩ | rfl)
    | exact ⟨by omega, by omega, rfl, by omega, ⟨stuck_len (by simpa using hb.1), (inR_iff.1 hb.2).1, by simpa using hb.1, hb.2⟩, 0, by omega, bndU_0, stuckN_0⟩
    | exact ⟨by omega, by omega, fun t a b => by omega⟩
    | (refine ⟨by omega, by omega, fun t a b => ?_⟩
       by_cases e : t < u
       · exact g2 t a e
       · rw [show t = u by omega]; exact hb.2)
    | exact ⟨by omega, by omega, by simp [h2], by omega, h4, stuck_inv1 h5 (by assumption) g0 g1 g2 (by assumption) hb.1 hb.2⟩
    | exact ⟨by omega, by omega, h2, by omega, h4, stuck_inv2 h5 (by assumption) g0 g1 g2 (by assumption) hb⟩
    | (rw [if_pos ⟨h4.2.2.1, h4.2.2.2⟩, stuck_fin h5 (by omega) h1]; first | exact ⟨h2, rfl⟩ | rfl)
theorem stuckT_b {xs : List Int} {len : Int} : totI (stuckT xs len).1 ≤ 1000 ∧ (stuckT xs len).1.length ≤ 1000 := by
  unfold stuckT
  split
  · rename_i h
    have h1 := stuck_len h.1
    have h2 := stuckN_b (xs := xs) (len := len) xs.length
    exact ⟨by dsimp only; omega, by dsimp only; omega⟩
  · exact ⟨by decide, by decide⟩
attribute [local irreducible] stuckT
theorem c_laws_FnExactStuckTimes (xs : List Int) (len : Int) : FnSem Try.prog 4 [Lx (LI xs), In len] [] (Is [Bo true] []) := by
  have hb0 := stuckT_b (xs := xs) (len := len)
  refine FnSem.walk (zs := zeroPV Try.prog) (by kernel_rfl) Try.func4 rfl Try.results4 (by kernel_rfl) (by kernel_rfl) (by kernel_rfl) fun hw hh => ?_
  obtain ⟨w0, w1, _⟩ := hw
  first | replace w0 := wf_I w0 | replace w0 := wf_Y w0 | replace w0 := wf_S w0 | replace w0 := wf_LI w0 | replace w0 := wf_LY w0 | replace w0 := wf_LLI w0 | replace w0 := wf_Ls w0 | skip
  first | replace w1 := wf_I w1 | replace w1 := wf_Y w1 | replace w1 := wf_S w1 | replace w1 := wf_LI w1 | replace w1 := wf_LY w1 | replace w1 := wf_LLI w1 | replace w1 := wf_Ls w1 | skip
  repeat' first
    | refine And.intro rfl ?_
    | refine GdF.mk (fun h => h) ?_
    | refine And.intro (Nat.succ_ne_zero _) ?_
    | refine And.intro (Nat.le_of_ble_eq_true rfl) ?_
    | refine SeqF.run ?_
    | refine ArgF.is (stuckRows _ _) ?_
    | refine ArgQ.is (fun hG => stuckRows _ _) rfl rfl ?_
    | refine EqL.mk _ (tkRows rfl) ?_
    | refine EqL.mk _ (tkRows (by rw [markI_len])) ?_
    | refine ArgF.is (c_laws_markInt64SS (stuckT xs len).1 _ 1 rfl (by omega) (by omega)) ?_
    | refine ArgQ.is (fun hG => c_laws_markInt64SS (stuckT xs len).1 _ 1 rfl (by omega) (by omega)) rfl rfl ?_
    | refine BndF.mk (fun _ => by simp only [List.length_map, markI_len]; omega) ?_
    | refine ArgF.is (c_laws_heldInt64SS (stuckT xs len).1 1 (by omega) (by omega)) ?_
    | refine ArgQ.is (fun hG => c_laws_heldInt64SS (stuckT xs len).1 1 (by omega) (by omega)) rfl rfl ?_
    | refine BndF.mk (fun _ => by omega) ?_
    | refine BndF.mk (fun _ => by simp only [List.length_map, List.length_cons, List.length_nil, List.length_append, List.length_set, List.length_replicate, iotaI_len]; omega) ?_
    | refine BndF.mk (fun hG => by simp only [forall_const, eq_self, not_true_eq_false, not_false_eq_true, or_false, false_or, or_self, or_true, true_or, and_true, true_and, and_false, false_and, decide_true, decide_false, Bool.not_true, Bool.not_false, decide_eq_true_eq, decide_eq_false_iff_not, ite_and_p, ite_or_p, Bool.decide_eq_true, Bool.and_eq_true, Bool.or_eq_true, Bool.not_eq_true', Bool.not_eq_false', Bool.and_eq_false_imp, Bool.or_eq_false_iff, bne_iff_ne, beq_iff_eq, bne_eq_false_iff_eq, beq_eq_false_iff_ne, gt_iff_lt, ge_iff_le, Int.not_lt, Int.not_le, ne_eq, Bool.true_eq_false, Bool.false_eq_true, reduceCtorEq, eta_Airway, eta_Fan, eta_Heading, eta_Mine, eta_Sensor, bytes_nil] at hG; (try simp only [List.length_map]); omega) ?_
    | refine EqN.mk _ (ln eI) ?_
    | refine EqN.mk _ (ln eLI) ?_
    | refine EqL.mk _ (tk eI (by first | rfl | assumption | omega | (simp only [List.length_map, List.length_cons, List.length_nil, List.length_append, List.length_set, List.length_replicate, iotaI_len]; done) | (simp only [List.length_map, List.length_cons, List.length_nil, List.length_append, List.length_set, List.length_replicate, iotaI_len]; omega))) ?_
    | refine EqL.mk _ (tk eLI (by first | rfl | assumption | omega | (simp only [List.length_map, List.length_cons, List.length_nil, List.length_append, List.length_set, List.length_replicate, iotaI_len]; done) | (simp only [List.length_map, List.length_cons, List.length_nil, List.length_append, List.length_set, List.length_replicate, iotaI_len]; omega))) ?_
    | refine EqL.mk [] rfl ?_
    | refine EqL.mk [_] rfl ?_
    | refine EqL.mk _ rfl ?_
    | refine ArgF.is (c_laws_toInt64S _ (by first | assumption | omega)) ?_
    | refine ArgQ.is (fun hG => c_laws_toInt64S _ (by first | assumption | omega)) rfl rfl ?_
    | refine ArgQ.is (fun hG => c_laws_toInt64S _ (by simp only [forall_const, eq_self, not_true_eq_false, not_false_eq_true, or_false, false_or, or_self, or_true, true_or, and_true, true_and, and_false, false_and, decide_true, decide_false, Bool.not_true, Bool.not_false, decide_eq_true_eq, decide_eq_false_iff_not, ite_and_p, ite_or_p, Bool.decide_eq_true, Bool.and_eq_true, Bool.or_eq_true, Bool.not_eq_true', Bool.not_eq_false', Bool.and_eq_false_imp, Bool.or_eq_false_iff, bne_iff_ne, beq_iff_eq, bne_eq_false_iff_eq, beq_eq_false_iff_ne, gt_iff_lt, ge_iff_le, Int.not_lt, Int.not_le, ne_eq, Bool.true_eq_false, Bool.false_eq_true, reduceCtorEq, eta_Airway, eta_Fan, eta_Heading, eta_Mine, eta_Sensor, bytes_nil] at hG; omega)) rfl rfl ?_
    | refine ArgF.is (c_spec_StuckTimes ..) ?_
    | refine ArgQ.is (fun hG => c_spec_StuckTimes ..) rfl rfl ?_
    | refine ArgF.is (c_impl_StuckTimes ..) ?_
    | refine ArgQ.is (fun hG => c_impl_StuckTimes ..) rfl rfl ?_
    | refine ArgF.is (c_laws_eqInt64SS ..) ?_
    | refine ArgQ.is (fun hG => c_laws_eqInt64SS ..) rfl rfl ?_
    | refine ArgF.is (c_laws_eqInt64S ..) ?_
    | refine ArgQ.is (fun hG => c_laws_eqInt64S ..) rfl rfl ?_
    | refine ArgF.is (c_laws_markInt64S _ _ _ (by first | assumption | omega) (by first | assumption | omega) (by first | assumption | omega)) ?_
    | refine ArgQ.is (fun hG => c_laws_markInt64S _ _ _ (by first | assumption | omega) (by first | assumption | omega) (by first | assumption | omega)) rfl rfl ?_
    | refine ArgQ.is (fun hG => c_laws_markInt64S _ _ _ (by simp only [forall_const, eq_self, not_true_eq_false, not_false_eq_true, or_false, false_or, or_self, or_true, true_or, and_true, true_and, and_false, false_and, decide_true, decide_false, Bool.not_true, Bool.not_false, decide_eq_true_eq, decide_eq_false_iff_not, ite_and_p, ite_or_p, Bool.decide_eq_true, Bool.and_eq_true, Bool.or_eq_true, Bool.not_eq_true', Bool.not_eq_false', Bool.and_eq_false_imp, Bool.or_eq_false_iff, bne_iff_ne, beq_iff_eq, bne_eq_false_iff_eq, beq_eq_false_iff_ne, gt_iff_lt, ge_iff_le, Int.not_lt, Int.not_le, ne_eq, Bool.true_eq_false, Bool.false_eq_true, reduceCtorEq, eta_Airway, eta_Fan, eta_Heading, eta_Mine, eta_Sensor, bytes_nil] at hG; omega) (by simp only [forall_const, eq_self, not_true_eq_false, not_false_eq_true, or_false, false_or, or_self, or_true, true_or, and_true, true_and, and_false, false_and, decide_true, decide_false, Bool.not_true, Bool.not_false, decide_eq_true_eq, decide_eq_false_iff_not, ite_and_p, ite_or_p, Bool.decide_eq_true, Bool.and_eq_true, Bool.or_eq_true, Bool.not_eq_true', Bool.not_eq_false', Bool.and_eq_false_imp, Bool.or_eq_false_iff, bne_iff_ne, beq_iff_eq, bne_eq_false_iff_eq, beq_eq_false_iff_ne, gt_iff_lt, ge_iff_le, Int.not_lt, Int.not_le, ne_eq, Bool.true_eq_false, Bool.false_eq_true, reduceCtorEq, eta_Airway, eta_Fan, eta_Heading, eta_Mine, eta_Sensor, bytes_nil] at hG; omega) (by simp only [forall_const, eq_self, not_true_eq_false, not_false_eq_true, or_false, false_or, or_self, or_true, true_or, and_true, true_and, and_false, false_and, decide_true, decide_false, Bool.not_true, Bool.not_false, decide_eq_true_eq, decide_eq_false_iff_not, ite_and_p, ite_or_p, Bool.decide_eq_true, Bool.and_eq_true, Bool.or_eq_true, Bool.not_eq_true', Bool.not_eq_false', Bool.and_eq_false_imp, Bool.or_eq_false_iff, bne_iff_ne, beq_iff_eq, bne_eq_false_iff_eq, beq_eq_false_iff_ne, gt_iff_lt, ge_iff_le, Int.not_lt, Int.not_le, ne_eq, Bool.true_eq_false, Bool.false_eq_true, reduceCtorEq, eta_Airway, eta_Fan, eta_Heading, eta_Mine, eta_Sensor, bytes_nil] at hG; omega)) rfl rfl ?_
    | refine ArgF.is (c_laws_markInt64SS _ _ _ (by first | assumption | omega) (by first | assumption | omega) (by first | assumption | omega)) ?_
    | refine ArgQ.is (fun hG => c_laws_markInt64SS _ _ _ (by first | assumption | omega) (by first | assumption | omega) (by first | assumption | omega)) rfl rfl ?_
    | refine ArgQ.is (fun hG => c_laws_markInt64SS _ _ _ (by simp only [forall_const, eq_self, not_true_eq_false, not_false_eq_true, or_false, false_or, or_self, or_true, true_or, and_true, true_and, and_false, false_and, decide_true, decide_false, Bool.not_true, Bool.not_false, decide_eq_true_eq, decide_eq_false_iff_not, ite_and_p, ite_or_p, Bool.decide_eq_true, Bool.and_eq_true, Bool.or_eq_true, Bool.not_eq_true', Bool.not_eq_false', Bool.and_eq_false_imp, Bool.or_eq_false_iff, bne_iff_ne, beq_iff_eq, bne_eq_false_iff_eq, beq_eq_false_iff_ne, gt_iff_lt, ge_iff_le, Int.not_lt, Int.not_le, ne_eq, Bool.true_eq_false, Bool.false_eq_true, reduceCtorEq, eta_Airway, eta_Fan, eta_Heading, eta_Mine, eta_Sensor, bytes_nil] at hG; omega) (by simp only [forall_const, eq_self, not_true_eq_false, not_false_eq_true, or_false, false_or, or_self, or_true, true_or, and_true, true_and, and_false, false_and, decide_true, decide_false, Bool.not_true, Bool.not_false, decide_eq_true_eq, decide_eq_false_iff_not, ite_and_p, ite_or_p, Bool.decide_eq_true, Bool.and_eq_true, Bool.or_eq_true, Bool.not_eq_true', Bool.not_eq_false', Bool.and_eq_false_imp, Bool.or_eq_false_iff, bne_iff_ne, beq_iff_eq, bne_eq_false_iff_eq, beq_eq_false_iff_ne, gt_iff_lt, ge_iff_le, Int.not_lt, Int.not_le, ne_eq, Bool.true_eq_false, Bool.false_eq_true, reduceCtorEq, eta_Airway, eta_Fan, eta_Heading, eta_Mine, eta_Sensor, bytes_nil] at hG; omega) (by simp only [forall_const, eq_self, not_true_eq_false, not_false_eq_true, or_false, false_or, or_self, or_true, true_or, and_true, true_and, and_false, false_and, decide_true, decide_false, Bool.not_true, Bool.not_false, decide_eq_true_eq, decide_eq_false_iff_not, ite_and_p, ite_or_p, Bool.decide_eq_true, Bool.and_eq_true, Bool.or_eq_true, Bool.not_eq_true', Bool.not_eq_false', Bool.and_eq_false_imp, Bool.or_eq_false_iff, bne_iff_ne, beq_iff_eq, bne_eq_false_iff_eq, beq_eq_false_iff_ne, gt_iff_lt, ge_iff_le, Int.not_lt, Int.not_le, ne_eq, Bool.true_eq_false, Bool.false_eq_true, reduceCtorEq, eta_Airway, eta_Fan, eta_Heading, eta_Mine, eta_Sensor, bytes_nil] at hG; omega)) rfl rfl ?_
    | refine ArgF.is (c_laws_heldInt64SS _ _ (by first | assumption | omega) (by first | assumption | omega)) ?_
    | refine ArgQ.is (fun hG => c_laws_heldInt64SS _ _ (by first | assumption | omega) (by first | assumption | omega)) rfl rfl ?_
    | refine ArgQ.is (fun hG => c_laws_heldInt64SS _ _ (by simp only [forall_const, eq_self, not_true_eq_false, not_false_eq_true, or_false, false_or, or_self, or_true, true_or, and_true, true_and, and_false, false_and, decide_true, decide_false, Bool.not_true, Bool.not_false, decide_eq_true_eq, decide_eq_false_iff_not, ite_and_p, ite_or_p, Bool.decide_eq_true, Bool.and_eq_true, Bool.or_eq_true, Bool.not_eq_true', Bool.not_eq_false', Bool.and_eq_false_imp, Bool.or_eq_false_iff, bne_iff_ne, beq_iff_eq, bne_eq_false_iff_eq, beq_eq_false_iff_ne, gt_iff_lt, ge_iff_le, Int.not_lt, Int.not_le, ne_eq, Bool.true_eq_false, Bool.false_eq_true, reduceCtorEq, eta_Airway, eta_Fan, eta_Heading, eta_Mine, eta_Sensor, bytes_nil] at hG; omega) (by simp only [forall_const, eq_self, not_true_eq_false, not_false_eq_true, or_false, false_or, or_self, or_true, true_or, and_true, true_and, and_false, false_and, decide_true, decide_false, Bool.not_true, Bool.not_false, decide_eq_true_eq, decide_eq_false_iff_not, ite_and_p, ite_or_p, Bool.decide_eq_true, Bool.and_eq_true, Bool.or_eq_true, Bool.not_eq_true', Bool.not_eq_false', Bool.and_eq_false_imp, Bool.or_eq_false_iff, bne_iff_ne, beq_iff_eq, bne_eq_false_iff_eq, beq_eq_false_iff_ne, gt_iff_lt, ge_iff_le, Int.not_lt, Int.not_le, ne_eq, Bool.true_eq_false, Bool.false_eq_true, reduceCtorEq, eta_Airway, eta_Fan, eta_Heading, eta_Mine, eta_Sensor, bytes_nil] at hG; omega)) rfl rfl ?_
    | refine CallF.own (f := 26) [0] true ?_
    | refine CallF.own (f := 27) [0] true ?_
    | refine CallF.mk (CallW.is [] true rfl ?_)
    | refine CallG.mk ?_
    | (refine CondF.mk (fun hb => ?_) (fun hb => ?_) <;> try simp only [forall_const, eq_self, not_true_eq_false, not_false_eq_true, or_false, false_or, or_self, or_true, true_or, and_true, true_and, and_false, false_and, decide_true, decide_false, Bool.not_true, Bool.not_false, decide_eq_true_eq, decide_eq_false_iff_not, ite_and_p, ite_or_p, Bool.decide_eq_true, Bool.and_eq_true, Bool.or_eq_true, Bool.not_eq_true', Bool.not_eq_false', Bool.and_eq_false_imp, Bool.or_eq_false_iff, bne_iff_ne, beq_iff_eq, bne_eq_false_iff_eq, beq_eq_false_iff_ne, gt_iff_lt, ge_iff_le, Int.not_lt, Int.not_le, ne_eq, Bool.true_eq_false, Bool.false_eq_true, reduceCtorEq, eta_Airway, eta_Fan, eta_Heading, eta_Mine, eta_Sensor] at hb)
    | refine RetF.auto (And.intro rfl ?_)
    | exact Is.mk rfl rfl
    | refine Is.mk ?_ rfl
    | refine Is.mk rfl ?_
    | refine Is.mk ?_ ?_
  all_goals omega
end Go.Proofs.Ytldmnanlaofbiaa
