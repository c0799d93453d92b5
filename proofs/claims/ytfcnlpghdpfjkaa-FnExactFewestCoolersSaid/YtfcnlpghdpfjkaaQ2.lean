/- Contracts of functions of the program, and what they compute. Conditions: those that each theorem states. -/
import Derived.Test.YtfcnlpghdpfjkaaProg
import Derived.Test.YtfcnlpghdpfjkaaQ1
set_option linter.unusedVariables false
set_option linter.unusedSimpArgs false
namespace Go.Proofs.Ytfcnlpghdpfjkaa
open Go.Av
attribute [local irreducible] Go.IntKind.wrap leastI rdZ rd rootI rawA okMine gainsI
set_option maxRecDepth 20000
set_option maxHeartbeats 8000000

/-! Potentials that fit: the functions. -/
theorem stI {xs : List Int} {k : Nat} {v w : Int} {c : Nat} (hc : c = 1) : (xs.map eI).set k (List.take 0 (eI w) ++ pvCells (.c (.int .i64 v)) ++ List.drop (0 + c) (eI w)) = (xs.set k v).map eI := by
  subst hc; exact st eI
theorem c_slices_Clone_int64_int64 (xs : List Int) (hl : xs.length ≤ 1000000) : FnSem Try.prog 68 [Lx (LI xs)] [] (Is [.osl 0 0 xs.length] [Rw .flat (eI 0) (xs.map eI)]) := by
  refine FnSem.walk (zs := zeroPV Try.prog) (by kernel_rfl) Try.func68 rfl Try.results68 (by kernel_rfl) (by kernel_rfl) (by kernel_rfl) fun hw hh => ?_
  obtain ⟨w0, _⟩ := hw
  first | replace w0 := wf_LI w0 | skip
  repeat' first
    | refine And.intro rfl ?_
    | refine GdF.mk (fun h => h) ?_
    | refine And.intro (Nat.succ_ne_zero _) ?_
    | refine And.intro (Nat.le_of_ble_eq_true rfl) ?_
    | refine SeqF.run ?_
    | refine FlF.flat (by simp only [List.mem_map, forall_exists_index, and_imp, forall_apply_eq_imp_iff₂]; intro a _ p hp; simp only [eI, List.mem_singleton] at hp; exact ⟨_, hp⟩) ?_
    | refine GhF.go ?_
    | refine NilE.mk fun nb hnb => ?_
    | refine MkF.row ?_
    | refine BndF.mk (fun _ => by omega) ?_
    | refine BndF.mk (fun _ => by simp only [List.length_map, List.length_cons, List.length_nil, List.length_append, List.length_set, List.length_replicate, iotaI_len]; omega) ?_
    | refine FlF.keep ?_
    | refine EqN.mk _ (Nat.zero_add _) ?_
    | refine EqN.mk (_ + 1) rfl ?_
    | refine EqN.mk _ (Int.toNat_natCast _) ?_
    | refine EqN.mk _ rfl ?_
    | refine EqL.mk _ (sn0 eI) ?_
    | refine EqL.mk _ (sn eI (by first | rfl | assumption | omega | (simp only [List.length_map, List.length_cons, List.length_nil, List.length_append, List.length_set, List.length_replicate, iotaI_len]; done) | (simp only [List.length_map, List.length_cons, List.length_nil, List.length_append, List.length_set, List.length_replicate, iotaI_len]; omega))) ?_
    | refine EqL.mk _ (ap0 eI) ?_
    | refine EqL.mk _ (ap eI (by first | rfl | assumption | omega | (simp only [List.length_map, List.length_cons, List.length_nil, List.length_append, List.length_set, List.length_replicate, iotaI_len]; done) | (simp only [List.length_map, List.length_cons, List.length_nil, List.length_append, List.length_set, List.length_replicate, iotaI_len]; omega))) ?_
    | refine EqL.mk _ (tk eI (by first | rfl | assumption | omega | (simp only [List.length_map, List.length_cons, List.length_nil, List.length_append, List.length_set, List.length_replicate, iotaI_len]; done) | (simp only [List.length_map, List.length_cons, List.length_nil, List.length_append, List.length_set, List.length_replicate, iotaI_len]; omega))) ?_
    | refine EqL.mk _ (dt eI) ?_
    | refine EqL.mk [] rfl ?_
    | refine EqL.mk [_] rfl ?_
    | refine EqL.mk _ rfl ?_
    | (refine CondF.mk (fun hb => ?_) (fun hb => ?_) <;> try simp only [forall_const, eq_self, not_true_eq_false, not_false_eq_true, or_false, false_or, or_self, or_true, true_or, and_true, true_and, and_false, false_and, decide_true, decide_false, Bool.not_true, Bool.not_false, decide_eq_true_eq, decide_eq_false_iff_not, ite_and_p, ite_or_p, Bool.decide_eq_true, Bool.and_eq_true, Bool.or_eq_true, Bool.not_eq_true', Bool.not_eq_false', Bool.and_eq_false_imp, Bool.or_eq_false_iff, bne_iff_ne, beq_iff_eq, bne_eq_false_iff_eq, beq_eq_false_iff_ne, gt_iff_lt, ge_iff_le, Int.not_lt, Int.not_le, ne_eq, Bool.true_eq_false, Bool.false_eq_true, reduceCtorEq, eta_Airway, eta_Fan, eta_Mine] at hb)
    | refine RetF.auto (And.intro rfl ?_)
    | exact Is.mk rfl rfl
    | refine Is.mk ?_ rfl
    | refine Is.mk rfl ?_
    | refine Is.mk ?_ ?_
  all_goals try dsimp only
  all_goals try simp only [Bo, I, OB.row.injEq, AV.osl.injEq, eI_same,  List.cons.injEq, AV.p.injEq, PV.c.injEq, Value.int.injEq, Value.bool.injEq, and_true, true_and, ite_and_p, ite_or_p, Bool.decide_eq_true, eta_Airway, eta_Fan, eta_Mine]
  · have := congrArg List.length (hnb hb); simpa using this.symm
  · exact (hnb hb).symm
  · simp
theorem c_impl_Mine_hasList (m : GMine) (xs : List Int) (a b : Int) : FnSem Try.prog 102 [.p .any (.agg m.cells), Lx (LI xs), In a, In b] [] (Is [Bo (decide (xs.length = m.airways.length) && xs.all (inR · a b))] []) := by
  refine FnSem.walk (zs := zeroPV Try.prog) (by kernel_rfl) Try.func102 rfl Try.results102 (by kernel_rfl) (by kernel_rfl) (by kernel_rfl) fun hw hh => ?_
  obtain ⟨w0, w1, w2, w3, _⟩ := hw
  first | replace w0 := wf_Mine w0 | skip
  first | replace w1 := wf_LI w1 | skip
  first | replace w2 := wf_I w2 | skip
  first | replace w3 := wf_I w3 | skip
  repeat' first
    | refine And.intro rfl ?_
    | refine GdF.mk (fun h => h) ?_
    | refine And.intro (Nat.succ_ne_zero _) ?_
    | refine And.intro (Nat.le_of_ble_eq_true rfl) ?_
    | refine SeqF.run ?_
    | refine GhF.go ?_
    | refine GdS.keep ?_
    | refine BndF.mk (fun _ => by omega) ?_
    | refine BndF.mk (fun _ => by simp only [List.length_map, List.length_cons, List.length_nil, List.length_append, List.length_set, List.length_replicate, iotaI_len]; omega) ?_
    | refine BndF.mk (fun hG => by simp only [forall_const, eq_self, not_true_eq_false, not_false_eq_true, or_false, false_or, or_self, or_true, true_or, and_true, true_and, and_false, false_and, decide_true, decide_false, Bool.not_true, Bool.not_false, decide_eq_true_eq, decide_eq_false_iff_not, ite_and_p, ite_or_p, Bool.decide_eq_true, Bool.and_eq_true, Bool.or_eq_true, Bool.not_eq_true', Bool.not_eq_false', Bool.and_eq_false_imp, Bool.or_eq_false_iff, bne_iff_ne, beq_iff_eq, bne_eq_false_iff_eq, beq_eq_false_iff_ne, gt_iff_lt, ge_iff_le, Int.not_lt, Int.not_le, ne_eq, Bool.true_eq_false, Bool.false_eq_true, reduceCtorEq, eta_Airway, eta_Fan, eta_Mine, bytes_nil] at hG; (try simp only [List.length_map]); omega) ?_
    | refine EqN.mk _ (ln eI) ?_
    | refine EqN.mk _ (ln GAirway.cells) ?_
    | refine EqL.mk _ (tk eI (by first | rfl | assumption | omega | (simp only [List.length_map, List.length_cons, List.length_nil, List.length_append, List.length_set, List.length_replicate, iotaI_len]; done) | (simp only [List.length_map, List.length_cons, List.length_nil, List.length_append, List.length_set, List.length_replicate, iotaI_len]; omega))) ?_
    | refine EqL.mk _ (tk GAirway.cells (by first | rfl | assumption | omega | (simp only [List.length_map, List.length_cons, List.length_nil, List.length_append, List.length_set, List.length_replicate, iotaI_len]; done) | (simp only [List.length_map, List.length_cons, List.length_nil, List.length_append, List.length_set, List.length_replicate, iotaI_len]; omega))) ?_
    | refine EqL.mk [] rfl ?_
    | refine EqL.mk [_] rfl ?_
    | refine EqL.mk _ rfl ?_
    | refine ArgF.is (c_impl_allWithin ..) ?_
    | refine ArgQ.is (fun hG => c_impl_allWithin ..) rfl rfl ?_
    | refine CallF.mk (CallW.is [] true rfl ?_)
    | refine CallG.mk ?_
    | (refine CondF.mk (fun hb => ?_) (fun hb => ?_) <;> try simp only [forall_const, eq_self, not_true_eq_false, not_false_eq_true, or_false, false_or, or_self, or_true, true_or, and_true, true_and, and_false, false_and, decide_true, decide_false, Bool.not_true, Bool.not_false, decide_eq_true_eq, decide_eq_false_iff_not, ite_and_p, ite_or_p, Bool.decide_eq_true, Bool.and_eq_true, Bool.or_eq_true, Bool.not_eq_true', Bool.not_eq_false', Bool.and_eq_false_imp, Bool.or_eq_false_iff, bne_iff_ne, beq_iff_eq, bne_eq_false_iff_eq, beq_eq_false_iff_ne, gt_iff_lt, ge_iff_le, Int.not_lt, Int.not_le, ne_eq, Bool.true_eq_false, Bool.false_eq_true, reduceCtorEq, eta_Airway, eta_Fan, eta_Mine] at hb)
    | refine RetF.auto (And.intro rfl ?_)
    | exact Is.mk rfl rfl
    | refine Is.mk ?_ rfl
    | refine Is.mk rfl ?_
    | refine Is.mk ?_ ?_
  all_goals try dsimp only
  all_goals try simp only [Bo, I, OB.row.injEq, AV.osl.injEq, eI_same,  List.cons.injEq, AV.p.injEq, PV.c.injEq, Value.int.injEq, Value.bool.injEq, and_true, true_and, ite_and_p, ite_or_p, Bool.decide_eq_true, eta_Airway, eta_Fan, eta_Mine]
  · congr 1; rw [Bool.eq_iff_iff]; simp; omega
/-- a booster: a mine, its gains, where regulators may be -/
def boostC (m : GMine) (g : List Int) (rg : List Bool) : List PV := [.c (.int .i64 m.junctions), .lst (GAirway.cells default) (m.airways.map GAirway.cells), LI g, LB rg]
inductive BoostR (m : GMine) (ds ps : List Int) (rg : List Bool) (rs : List AV) (ho : List OB) : Prop
  | bad (h : ¬askB m ds ps rg = 0) (h1 : rs = [.p .flat (.agg [.c (.int .i64 0), .c (.slice none 0 0), .c (.slice none 0 0), .c (.slice none 0 0)]), In (askB m ds ps rg)]) (h2 : ho = [])
  | good (h : askB m ds ps rg = 0) (h1 : rs = [.aagg [In m.junctions, Lx (.lst (GAirway.cells default) (m.airways.map GAirway.cells)), .osl 0 0 (gainsI ps ds).length, Lx (LB rg)], In 0]) (h2 : ho = [Rw .flat (eI 0) ((gainsI ps ds).map eI)])
theorem askB_1 {m : GMine} {ds ps : List Int} {rg : List Bool} (h : okMine m = false) : askB m ds ps rg = 1 := by unfold askB; rw [if_pos h]
theorem askB_c {m : GMine} {ds ps : List Int} {rg : List Bool} : askB m ds ps rg = 0 ∨ askB m ds ps rg = 1 ∨ askB m ds ps rg = 2 := by unfold askB; split; exact .inr (.inl rfl); split; exact .inl rfl; exact .inr (.inr rfl)
theorem askB_2 {m : GMine} {ds ps : List Int} {rg : List Bool} (h : okMine m = true) (hb : ((ds.length = m.airways.length → (ds.all fun x => inR x (-1000000) 1000000) = false) ∨ (ps.length = m.airways.length → (ps.all fun x => inR x (-20000) 20000) = false)) ∨ ¬(rg.length : Int) = m.airways.length) : askB m ds ps rg = 2 := by
  unfold askB
  rw [if_neg (by rw [h]; decide), if_neg]
  simp only [Bool.and_eq_true, decide_eq_true_eq]
  rintro ⟨⟨⟨a, b⟩, c, d⟩, e⟩
  rcases hb with (hb | hb) | hb
  · rw [hb a] at b; cases b
  · rw [hb c] at d; cases d
  · omega
theorem askB_0 {m : GMine} {ds ps : List Int} {rg : List Bool} (h : okMine m = true) (hb : ¬((ds.length = m.airways.length → (ds.all fun x => inR x (-1000000) 1000000) = false) ∨ (ps.length = m.airways.length → (ps.all fun x => inR x (-20000) 20000) = false)) ∧ (rg.length : Int) = m.airways.length) : askB m ds ps rg = 0 := by
  unfold askB
  rw [if_neg (by rw [h]; decide), if_pos]
  simp only [Bool.and_eq_true, decide_eq_true_eq]
  obtain ⟨h1, h2⟩ := hb
  rw [not_or] at h1
  refine ⟨⟨?_, ?_⟩, by omega⟩
  · have := Classical.not_imp.1 h1.1; exact ⟨this.1, by simpa using this.2⟩
  · have := Classical.not_imp.1 h1.2; exact ⟨this.1, by simpa using this.2⟩
theorem askB_l {m : GMine} {ds ps : List Int} {rg : List Bool} (h : askB m ds ps rg = 0) : okMine m = true ∧ m.airways.length ≤ 24 ∧ ds.length = m.airways.length ∧ ps.length = m.airways.length ∧ rg.length = m.airways.length ∧ bdL 1000000 ds ∧ bdL 20000 ps := by
  have h1 := askB_p h
  exact ⟨h1.1, (okMine_p h1.1).2.1, h1.2⟩
theorem gain_b {m : GMine} {ds ps xs : List Int} {rg : List Bool} {i : Int} (h2 : askB m ds ps rg = 0) (h4 : ∀ j : Nat, j < ps.length → xs.getD j 0 = if (j : Int) < i then ps.getD j 0 - ds.getD j 0 else ps.getD j 0) (h0 : 0 ≤ i) (h : i < ds.length) (h5 : ds.length = ps.length) : xs.getD i.toNat 0 = ps.getD i.toNat 0 ∧ (-20000 ≤ xs.getD i.toNat 0 ∧ xs.getD i.toNat 0 ≤ 20000) ∧ -1000000 ≤ ds.getD i.toNat 0 ∧ ds.getD i.toNat 0 ≤ 1000000 := by
  have q := askB_l h2
  have q1 := q.2.2.2.2.2.1 i.toNat
  have q2 := q.2.2.2.2.2.2 i.toNat
  have q3 := h4 i.toNat (by omega)
  rw [if_neg (by omega)] at q3
  omega
theorem gain_s {ds ps xs : List Int} {i : Int} (h4 : ∀ j : Nat, j < ps.length → xs.getD j 0 = if (j : Int) < i then ps.getD j 0 - ds.getD j 0 else ps.getD j 0) (h0 : 0 ≤ i) (h : i < ps.length) (hl : xs.length = ps.length) (e : xs.getD i.toNat 0 = ps.getD i.toNat 0) : ∀ j : Nat, j < ps.length → (xs.set i.toNat (xs.getD i.toNat 0 - ds.getD i.toNat 0)).getD j 0 = if (j : Int) < i + 1 then ps.getD j 0 - ds.getD j 0 else ps.getD j 0 := by
  intro j hj
  rw [getD_set]
  by_cases e1 : i.toNat = j
  · subst e1; rw [if_pos ⟨rfl, by omega⟩, if_pos (by omega), e]
  · rw [if_neg (by omega), h4 j hj]
    by_cases e2 : (j : Int) < i
    · rw [if_pos e2, if_pos (by omega)]
    · rw [if_neg e2, if_neg (by omega)]
theorem gain_e {ds ps xs : List Int} {i : Int} (h4 : ∀ j : Nat, j < ps.length → xs.getD j 0 = if (j : Int) < i then ps.getD j 0 - ds.getD j 0 else ps.getD j 0) (h : ps.length ≤ i) (hl : xs.length = ps.length) : xs = gainsI ps ds :=
  ext_getD 0 (by rw [gainsI_len, hl]) fun j hj => by rw [h4 j (by omega), if_pos (by omega), gainsI_get (by omega)]
end Go.Proofs.Ytfcnlpghdpfjkaa
