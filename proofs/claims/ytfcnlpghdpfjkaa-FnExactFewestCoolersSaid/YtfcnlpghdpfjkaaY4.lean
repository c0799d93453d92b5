/- Contracts of functions of the program, and what they compute. Conditions: those that each theorem states. -/
import Derived.Test.YtfcnlpghdpfjkaaProg
import Derived.Test.YtfcnlpghdpfjkaaY3
import Derived.Test.YtfcnlpghdpfjkaaK6
import Derived.Test.YtfcnlpghdpfjkaaE2p
set_option linter.unusedVariables false
set_option linter.unusedSimpArgs false
namespace Go.Proofs.Ytfcnlpghdpfjkaa
open Go.Av
attribute [local irreducible] Go.IntKind.wrap leastI rdZ rd rootI rawA okMine mixT heatF heatY warmN clampW cmI temI
set_option maxRecDepth 20000
set_option maxHeartbeats 8000000

/-! Temperatures: the functions that ask. -/
def lsO (m : GMine) (xs : List Int) (a b : Int) : Bool := decide (xs.length = m.airways.length) && xs.all (inR · a b)
def jnO (m : GMine) (ss : List Int) : Bool := rising ss && ss.all (inR · 0 (m.junctions - 1))
theorem c_impl_Mine_hasFlows (m : GMine) (xs : List Int) : FnSem Try.prog 94 [.p .any (.agg m.cells), Lx (LI xs)] [] (Is [Bo (lsO m xs (-100000) 100000)] []) := by
  refine FnSem.walk (zs := zeroPV Try.prog) (by kernel_rfl) Try.func94 rfl Try.results94 (by kernel_rfl) (by kernel_rfl) (by kernel_rfl) fun hw hh => ?_
  obtain ⟨w0, w1, _⟩ := hw
  first | replace w0 := wf_Mine w0 | skip
  first | replace w1 := wf_LI w1 | skip
  repeat' first
    | refine And.intro rfl ?_
    | refine GdF.mk (fun h => h) ?_
    | refine And.intro (Nat.succ_ne_zero _) ?_
    | refine And.intro (Nat.le_of_ble_eq_true rfl) ?_
    | refine SeqF.run ?_
    | refine ArgF.is (c_impl_Mine_hasList m xs (-100000) 100000) ?_
    | refine ArgQ.is (fun hG => c_impl_Mine_hasList m xs (-100000) 100000) rfl rfl ?_
    | refine GhF.go ?_
    | refine BndF.mk (fun _ => by omega) ?_
    | refine BndF.mk (fun _ => by simp only [List.length_map, List.length_cons, List.length_nil, List.length_append, List.length_set, List.length_replicate, iotaI_len]; omega) ?_
    | refine EqL.mk _ (tk eI (by first | rfl | assumption | omega | (simp only [List.length_map, List.length_cons, List.length_nil, List.length_append, List.length_set, List.length_replicate, iotaI_len]; done) | (simp only [List.length_map, List.length_cons, List.length_nil, List.length_append, List.length_set, List.length_replicate, iotaI_len]; omega))) ?_
    | refine EqL.mk [] rfl ?_
    | refine EqL.mk [_] rfl ?_
    | refine EqL.mk _ rfl ?_
    | refine ArgF.is (c_impl_Mine_hasList ⟨_, _⟩ _ _ _) ?_
    | refine ArgQ.is (fun hG => c_impl_Mine_hasList ⟨_, _⟩ _ _ _) rfl rfl ?_
    | refine CallF.mk (CallW.is [] true rfl ?_)
    | refine CallG.mk ?_
    | (refine CondF.mk (fun hb => ?_) (fun hb => ?_) <;> try simp only [forall_const, eq_self, not_true_eq_false, not_false_eq_true, or_false, false_or, or_self, or_true, true_or, and_true, true_and, and_false, false_and, decide_true, decide_false, Bool.not_true, Bool.not_false, decide_eq_true_eq, decide_eq_false_iff_not, ite_and_p, ite_or_p, Bool.decide_eq_true, Bool.and_eq_true, Bool.or_eq_true, Bool.not_eq_true', Bool.not_eq_false', Bool.and_eq_false_imp, Bool.or_eq_false_iff, bne_iff_ne, beq_iff_eq, bne_eq_false_iff_eq, beq_eq_false_iff_ne, gt_iff_lt, ge_iff_le, Int.not_lt, Int.not_le, ne_eq, Bool.true_eq_false, Bool.false_eq_true, reduceCtorEq, eta_Airway, eta_Fan, eta_Mine] at hb)
    | refine RetF.auto (And.intro rfl ?_)
    | exact Is.mk rfl rfl
    | refine Is.mk ?_ rfl
    | refine Is.mk rfl ?_
    | refine Is.mk ?_ ?_
  all_goals try dsimp only
  all_goals try simp only [Bo, I, OB.row.injEq, AV.osl.injEq, eI_same,  List.cons.injEq, AV.p.injEq, PV.c.injEq, Value.int.injEq, Value.bool.injEq, and_true, true_and, ite_and_p, ite_or_p, Bool.decide_eq_true, eta_Airway, eta_Fan, eta_Mine, lsO]
  all_goals skip
theorem c_impl_Mine_hasJunctions (m : GMine) (xs : List Int) (hm : -1000 ≤ m.junctions ∧ m.junctions ≤ 1000) : FnSem Try.prog 137 [.p .any (.agg m.cells), Lx (LI xs)] [] (Is [Bo (jnO m xs)] []) := by
  refine FnSem.walk (zs := zeroPV Try.prog) (by kernel_rfl) Try.func137 rfl Try.results137 (by kernel_rfl) (by kernel_rfl) (by kernel_rfl) fun hw hh => ?_
  obtain ⟨w0, w1, _⟩ := hw
  first | replace w0 := wf_Mine w0 | skip
  first | replace w1 := wf_LI w1 | skip
  repeat' first
    | refine And.intro rfl ?_
    | refine GdF.mk (fun h => h) ?_
    | refine And.intro (Nat.succ_ne_zero _) ?_
    | refine And.intro (Nat.le_of_ble_eq_true rfl) ?_
    | refine SeqF.run ?_
    | refine GhF.go ?_
    | refine GdS.keep ?_
    | refine BndF.mk (fun _ => by omega) ?_
    | refine BndF.mk (fun _ => by simp only [List.length_map, List.length_cons, List.length_nil, List.length_append, List.length_set, List.length_replicate, iotaI_len]; omega) ?_
    | refine BndF.mk (fun hG => by simp only [forall_const, eq_self, not_true_eq_false, not_false_eq_true, or_false, false_or, or_self, or_true, true_or, and_true, true_and, and_false, false_and, decide_true, decide_false, Bool.not_true, Bool.not_false, decide_eq_true_eq, decide_eq_false_iff_not, ite_and_p, ite_or_p, Bool.decide_eq_true, Bool.and_eq_true, Bool.or_eq_true, Bool.not_eq_true', Bool.not_eq_false', Bool.and_eq_false_imp, Bool.or_eq_false_iff, bne_iff_ne, beq_iff_eq, bne_eq_false_iff_eq, beq_eq_false_iff_ne, gt_iff_lt, ge_iff_le, Int.not_lt, Int.not_le, ne_eq, Bool.true_eq_false, Bool.false_eq_true, reduceCtorEq, eta_Airway, eta_Fan, eta_Mine, bytes_nil] at hG; (try simp only [List.length_map]); omega) ?_
    | refine EqI.mk _ (fun _ => wrapI (by omega) (by omega)) ?_
    | refine EqI.mk _ (fun _ => rfl) ?_
    | refine EqL.mk _ (tk eI (by first | rfl | assumption | omega | (simp only [List.length_map, List.length_cons, List.length_nil, List.length_append, List.length_set, List.length_replicate, iotaI_len]; done) | (simp only [List.length_map, List.length_cons, List.length_nil, List.length_append, List.length_set, List.length_replicate, iotaI_len]; omega))) ?_
    | refine EqL.mk [] rfl ?_
    | refine EqL.mk [_] rfl ?_
    | refine EqL.mk _ rfl ?_
    | refine ArgF.is (c_impl_increasing ..) ?_
    | refine ArgQ.is (fun hG => c_impl_increasing ..) rfl rfl ?_
    | refine ArgF.is (c_impl_allWithin ..) ?_
    | refine ArgQ.is (fun hG => c_impl_allWithin ..) rfl rfl ?_
    | refine CallF.mk (CallW.is [] true rfl ?_)
    | refine CallG.mk ?_
    | (refine CondF.mk (fun hb => ?_) (fun hb => ?_) <;> try simp only [forall_const, eq_self, not_true_eq_false, not_false_eq_true, or_false, false_or, or_self, or_true, true_or, and_true, true_and, and_false, false_and, decide_true, decide_false, Bool.not_true, Bool.not_false, decide_eq_true_eq, decide_eq_false_iff_not, ite_and_p, ite_or_p, Bool.decide_eq_true, Bool.and_eq_true, Bool.or_eq_true, Bool.not_eq_true', Bool.not_eq_false', Bool.and_eq_false_imp, Bool.or_eq_false_iff, bne_iff_ne, beq_iff_eq, bne_eq_false_iff_eq, beq_eq_false_iff_ne, gt_iff_lt, ge_iff_le, Int.not_lt, Int.not_le, ne_eq, Bool.true_eq_false, Bool.false_eq_true, reduceCtorEq, eta_Airway, eta_Fan, eta_Mine] at hb)
    | refine RetF.auto (And.intro rfl ?_)
    | exact Is.mk rfl rfl
    | refine Is.mk ?_ rfl
    | refine Is.mk rfl ?_
    | refine Is.mk ?_ ?_
  all_goals try dsimp only
  all_goals try simp only [Bo, I, OB.row.injEq, AV.osl.injEq, eI_same,  List.cons.injEq, AV.p.injEq, PV.c.injEq, Value.int.injEq, Value.bool.injEq, and_true, true_and, ite_and_p, ite_or_p, Bool.decide_eq_true, eta_Airway, eta_Fan, eta_Mine, jnO]
  all_goals skip
def htC (m : GMine) (fs rs ps ss : List Int) (t rate : Int) : Int := if okMine m = true then (if (lsO m fs (-100000) 100000 && lsO m rs 0 900) && lsO m ps (-10000000) 10000000 then (if (jnO m ss && inR t (-100) 600) && inR rate 0 1000 then 0 else 2) else 2) else 1
--@fn (impl.Mine).hasList
theorem hasL (m : GMine) (xs : List Int) (a b : Int) : FnSem Try.prog 102 [.p .any (.agg m.cells), Lx (LI xs), In a, In b] [] (Is [Bo (lsO m xs a b)] []) := c_impl_Mine_hasList m xs a b
section
variable {m : GMine} {fs rs ps ss : List Int} {t rate : Int}
theorem htC_1 (h : okMine m = false) : htC m fs rs ps ss t rate = 1 := by unfold htC; rw [if_neg (by rw [h]; decide)]
theorem htC_2 (h : okMine m = true) (h2 : (lsO m fs (-100000) 100000 = false ∨ lsO m rs 0 900 = false) ∨ lsO m ps (-10000000) 10000000 = false) : htC m fs rs ps ss t rate = 2 := by
  unfold htC; rw [if_pos h, if_neg]
  intro e
  simp only [Bool.and_eq_true] at e
  rcases h2 with (h2 | h2) | h2
  · rw [e.1.1] at h2; cases h2
  · rw [e.1.2] at h2; cases h2
  · rw [e.2] at h2; cases h2
theorem htC_3 (h : okMine m = true) (h2 : ¬(lsO m fs (-100000) 100000 = false ∨ lsO m rs 0 900 = false) ∧ lsO m ps (-10000000) 10000000 = true) (h3 : (jnO m ss = false ∨ inR t (-100) 600 = false) ∨ inR rate 0 1000 = false) : htC m fs rs ps ss t rate = 2 := by
  simp only [not_or, Bool.not_eq_false] at h2
  unfold htC; rw [if_pos h, if_pos (by rw [h2.1.1, h2.1.2, h2.2]; rfl), if_neg]
  intro e
  simp only [Bool.and_eq_true] at e
  rcases h3 with (h3 | h3) | h3
  · rw [e.1.1] at h3; cases h3
  · rw [e.1.2] at h3; cases h3
  · rw [e.2] at h3; cases h3
theorem htC_4 (h : okMine m = true) (h2 : ¬(lsO m fs (-100000) 100000 = false ∨ lsO m rs 0 900 = false) ∧ lsO m ps (-10000000) 10000000 = true) (h3 : ¬(jnO m ss = false ∨ inR t (-100) 600 = false) ∧ inR rate 0 1000 = true) : htC m fs rs ps ss t rate = 0 := by
  simp only [not_or, Bool.not_eq_false] at h2 h3
  unfold htC; rw [if_pos h, if_pos (by rw [h2.1.1, h2.1.2, h2.2]; rfl), if_pos (by rw [h3.1.1, h3.1.2, h3.2]; rfl)]
end
theorem c_impl_heatCode (m : GMine) (fs rs ps ss : List Int) (t rate : Int) : FnSem Try.prog 62 [.p .any (.agg m.cells), Lx (LI fs), Lx (LI rs), Lx (LI ps), Lx (LI ss), In t, In rate] [] (Is [In (htC m fs rs ps ss t rate)] []) := by
  refine FnSem.walk (zs := zeroPV Try.prog) (by kernel_rfl) Try.func62 rfl Try.results62 (by kernel_rfl) (by kernel_rfl) (by kernel_rfl) fun hw hh => ?_
  obtain ⟨w0, w1, w2, w3, w4, w5, w6, _⟩ := hw
  first | replace w0 := wf_Mine w0 | skip
  first | replace w1 := wf_LI w1 | skip
  first | replace w2 := wf_LI w2 | skip
  first | replace w3 := wf_LI w3 | skip
  first | replace w4 := wf_LI w4 | skip
  first | replace w5 := wf_I w5 | skip
  first | replace w6 := wf_I w6 | skip
  repeat' first
    | refine And.intro rfl ?_
    | refine GdF.mk (fun h => h) ?_
    | refine And.intro (Nat.succ_ne_zero _) ?_
    | refine And.intro (Nat.le_of_ble_eq_true rfl) ?_
    | refine SeqF.run ?_
    | refine ArgF.is (c_impl_ValidMine m) ?_
    | refine ArgQ.is (fun hG => c_impl_ValidMine m) rfl rfl ?_
    | refine ArgF.is (c_impl_Mine_hasFlows m fs) ?_
    | refine ArgQ.is (fun hG => c_impl_Mine_hasFlows m fs) rfl rfl ?_
    | refine ArgF.is (hasL m rs 0 900) ?_
    | refine ArgQ.is (fun hG => hasL m rs 0 900) rfl rfl ?_
    | refine ArgF.is (hasL m ps (-10000000) 10000000) ?_
    | refine ArgQ.is (fun hG => hasL m ps (-10000000) 10000000) rfl rfl ?_
    | refine ArgF.is (c_impl_Mine_hasJunctions m ss (by have := okMine_p (m := m) (by assumption); omega)) ?_
    | refine ArgQ.is (fun hG => c_impl_Mine_hasJunctions m ss (by have := okMine_p (m := m) (by assumption); omega)) rfl rfl ?_
    | refine GhF.go ?_
    | refine GdS.keep ?_
    | refine BndF.mk (fun _ => by omega) ?_
    | refine BndF.mk (fun _ => by simp only [List.length_map, List.length_cons, List.length_nil, List.length_append, List.length_set, List.length_replicate, iotaI_len]; omega) ?_
    | refine BndF.mk (fun hG => by simp only [forall_const, eq_self, not_true_eq_false, not_false_eq_true, or_false, false_or, or_self, or_true, true_or, and_true, true_and, and_false, false_and, decide_true, decide_false, Bool.not_true, Bool.not_false, decide_eq_true_eq, decide_eq_false_iff_not, ite_and_p, ite_or_p, Bool.decide_eq_true, Bool.and_eq_true, Bool.or_eq_true, Bool.not_eq_true', Bool.not_eq_false', Bool.and_eq_false_imp, Bool.or_eq_false_iff, bne_iff_ne, beq_iff_eq, bne_eq_false_iff_eq, beq_eq_false_iff_ne, gt_iff_lt, ge_iff_le, Int.not_lt, Int.not_le, ne_eq, Bool.true_eq_false, Bool.false_eq_true, reduceCtorEq, eta_Airway, eta_Fan, eta_Mine, bytes_nil] at hG; (try simp only [List.length_map]); omega) ?_
    | refine EqL.mk _ (tk eI (by first | rfl | assumption | omega | (simp only [List.length_map, List.length_cons, List.length_nil, List.length_append, List.length_set, List.length_replicate, iotaI_len]; done) | (simp only [List.length_map, List.length_cons, List.length_nil, List.length_append, List.length_set, List.length_replicate, iotaI_len]; omega))) ?_
    | refine EqL.mk [] rfl ?_
    | refine EqL.mk [_] rfl ?_
    | refine EqL.mk _ rfl ?_
    | refine ArgF.is (c_impl_ValidMine ⟨_, _⟩) ?_
    | refine ArgQ.is (fun hG => c_impl_ValidMine ⟨_, _⟩) rfl rfl ?_
    | refine ArgF.is (c_impl_Mine_hasFlows ⟨_, _⟩ _) ?_
    | refine ArgQ.is (fun hG => c_impl_Mine_hasFlows ⟨_, _⟩ _) rfl rfl ?_
    | refine ArgF.is (c_impl_Mine_hasList ⟨_, _⟩ _ _ _) ?_
    | refine ArgQ.is (fun hG => c_impl_Mine_hasList ⟨_, _⟩ _ _ _) rfl rfl ?_
    | refine ArgF.is (c_impl_Mine_hasJunctions ⟨_, _⟩ _ (by first | assumption | omega)) ?_
    | refine ArgQ.is (fun hG => c_impl_Mine_hasJunctions ⟨_, _⟩ _ (by first | assumption | omega)) rfl rfl ?_
    | refine ArgQ.is (fun hG => c_impl_Mine_hasJunctions ⟨_, _⟩ _ (by simp only [forall_const, eq_self, not_true_eq_false, not_false_eq_true, or_false, false_or, or_self, or_true, true_or, and_true, true_and, and_false, false_and, decide_true, decide_false, Bool.not_true, Bool.not_false, decide_eq_true_eq, decide_eq_false_iff_not, ite_and_p, ite_or_p, Bool.decide_eq_true, Bool.and_eq_true, Bool.or_eq_true, Bool.not_eq_true', Bool.not_eq_false', Bool.and_eq_false_imp, Bool.or_eq_false_iff, bne_iff_ne, beq_iff_eq, bne_eq_false_iff_eq, beq_eq_false_iff_ne, gt_iff_lt, ge_iff_le, Int.not_lt, Int.not_le, ne_eq, Bool.true_eq_false, Bool.false_eq_true, reduceCtorEq, eta_Airway, eta_Fan, eta_Mine, bytes_nil] at hG; omega)) rfl rfl ?_
    | refine ArgF.is (c_impl_warmthOk ..) ?_
    | refine ArgQ.is (fun hG => c_impl_warmthOk ..) rfl rfl ?_
    | refine ArgF.is (c_impl_within ..) ?_
    | refine ArgQ.is (fun hG => c_impl_within ..) rfl rfl ?_
    | refine CallF.mk (CallW.is [] true rfl ?_)
    | refine CallG.mk ?_
    | (refine CondF.mk (fun hb => ?_) (fun hb => ?_) <;> try simp only [forall_const, eq_self, not_true_eq_false, not_false_eq_true, or_false, false_or, or_self, or_true, true_or, and_true, true_and, and_false, false_and, decide_true, decide_false, Bool.not_true, Bool.not_false, decide_eq_true_eq, decide_eq_false_iff_not, ite_and_p, ite_or_p, Bool.decide_eq_true, Bool.and_eq_true, Bool.or_eq_true, Bool.not_eq_true', Bool.not_eq_false', Bool.and_eq_false_imp, Bool.or_eq_false_iff, bne_iff_ne, beq_iff_eq, bne_eq_false_iff_eq, beq_eq_false_iff_ne, gt_iff_lt, ge_iff_le, Int.not_lt, Int.not_le, ne_eq, Bool.true_eq_false, Bool.false_eq_true, reduceCtorEq, eta_Airway, eta_Fan, eta_Mine] at hb)
    | refine RetF.auto (And.intro rfl ?_)
    | exact Is.mk rfl rfl
    | refine Is.mk ?_ rfl
    | refine Is.mk rfl ?_
    | refine Is.mk ?_ ?_
  all_goals first
    | (rw [htC_1 hb]; done)
    | (rw [htC_2 (by assumption) hb]; done)
    | (rw [htC_3 (by assumption) (by assumption) hb]; done)
    | (rw [htC_4 (by assumption) (by assumption) hb]; done)
theorem lsO_p {m : GMine} {xs : List Int} {a b : Int} (h : lsO m xs a b = true) (ha : a ≤ 0) (hb : 0 ≤ b) : xs.length = m.airways.length ∧ ∀ i : Nat, a ≤ xs.getD i 0 ∧ xs.getD i 0 ≤ b := by
  simp only [lsO, Bool.and_eq_true, decide_eq_true_eq] at h
  refine ⟨h.1, fun i => ?_⟩
  by_cases e : i < xs.length
  · exact inR_iff.1 (all_iff.1 h.2 i (by omega))
  · rw [List.getD_eq_getElem?_getD, List.getElem?_eq_none (by omega)]
    exact ⟨ha, hb⟩
theorem htC_p {m : GMine} {fs rs ps ss : List Int} {t rate : Int} (h : htC m fs rs ps ss t rate = 0) : htP m fs rs ps rate ∧ (∀ i : Nat, -10000000 ≤ ps.getD i 0 ∧ ps.getD i 0 ≤ 10000000) ∧ (rising ss = true ∧ ∀ i : Nat, (i : Int) < ss.length → 0 ≤ ss.getD i 0 ∧ ss.getD i 0 < m.junctions) ∧ -100 ≤ t ∧ t ≤ 600 := by
  unfold htC at h
  split at h
  · rename_i h1
    split at h
    · rename_i h2
      split at h
      · rename_i h3
        simp only [Bool.and_eq_true, inR_iff] at h2 h3
        have q1 := lsO_p h2.1.1 (by omega) (by omega)
        have q2 := lsO_p h2.1.2 (by omega) (by omega)
        have q3 := lsO_p h2.2 (by omega) (by omega)
        have q4 := h3.1.1
        simp only [jnO, Bool.and_eq_true] at q4
        refine ⟨⟨h1, ⟨q1.1, q2.1, q3.1⟩, q1.2, q2.2, fun i => ?_, h3.2⟩, q3.2, ⟨q4.1, fun i hi => ?_⟩, h3.1.2⟩
        · have := q3.2 i; omega
        · have q5 : inR (ss.getD i 0) 0 (m.junctions - 1) = true := all_iff.1 q4.2 i (by omega)
          have := inR_iff.1 q5; omega
      · cases h
    · cases h
  · cases h
def temV (m : GMine) (fs rs ps ss : List Int) (t rate : Int) : List Int × Int := if htC m fs rs ps ss t rate = 0 then (temI m fs rs ps ss t rate, 0) else ([], htC m fs rs ps ss t rate)
inductive TemR (m : GMine) (fs rs ps ss : List Int) (t rate : Int) (rs' : List AV) (ho : List OB) : Prop
  | mk (n : Nat) (c : Int) (ls : List Int) (h1 : rs' = [.osl 0 0 n, In c]) (h2 : ho = [.row false .flat (eI 0) (ls.map eI)]) (h3 : n = ls.length) (h4 : c = htC m fs rs ps ss t rate) (h5 : c = 0 → ls = temI m fs rs ps ss t rate) (h6 : c ≠ 0 → ls = [])
end Go.Proofs.Ytfcnlpghdpfjkaa
