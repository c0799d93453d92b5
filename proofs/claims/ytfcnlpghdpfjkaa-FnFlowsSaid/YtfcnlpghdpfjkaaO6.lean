/- Contracts of functions of the program, and what they compute. Conditions: those that each theorem states. -/
import Derived.Test.YtfcnlpghdpfjkaaProg
import Derived.Test.YtfcnlpghdpfjkaaO3
import Derived.Test.YtfcnlpghdpfjkaaO4
import Derived.Test.YtfcnlpghdpfjkaaO5
import Derived.Test.YtfcnlpghdpfjkaaJ1b
set_option linter.unusedVariables false
set_option linter.unusedSimpArgs false
namespace Go.Proofs.Ytfcnlpghdpfjkaa
open Go.Av
attribute [local irreducible] Go.IntKind.wrap leastI rdZ rd rootI okMine treeC mshC dropI prI esF wsF psL
set_option maxRecDepth 20000
set_option maxHeartbeats 40000000

/-! The law of flows. -/
--@fn laws.r8Same
theorem sameT (xs : List Int) : FnSem Try.prog 46 [Lx (LI xs), Lx (LI xs)] [] (Is [Bo true] []) := by
  refine FnSem.walk (zs := zeroPV Try.prog) (by kernel_rfl) Try.func46 rfl Try.results46 (by kernel_rfl) (by kernel_rfl) (by kernel_rfl) fun hw hh => ?_
  obtain ⟨w0, w1, _⟩ := hw
  first | replace w0 := wf_LI w0 | skip
  first | replace w1 := wf_LI w1 | skip
  repeat' first
    | refine And.intro rfl ?_
    | refine GdF.mk (fun h => h) ?_
    | refine And.intro (Nat.succ_ne_zero _) ?_
    | refine And.intro (Nat.le_of_ble_eq_true rfl) ?_
    | refine SeqF.run ?_
    | refine LoopF.at 4 rfl (LoopF.fix [0, 1] (Int) (fun i => 0 ≤ i ∧ i ≤ xs.length) (fun i => [(5, In i)]) (fun i => []) (fun i => ((xs.length - i).toNat)) (0) ?_)
    | (refine LoopB.of (T := Int) ?_ ?_; rotate_left; rintro i ⟨h0, h1⟩; rotate_left)
    | refine GhF.go ?_
    | refine DrawG.old (DrawF.lex (by decide +kernel) ?_)
    | refine EqP.mk _ (gm eI 0 rfl) ?_
    | refine BndF.mk (fun _ => by omega) ?_
    | refine BndF.mk (fun _ => by simp only [List.length_map, List.length_cons, List.length_nil, List.length_append, List.length_set, List.length_replicate, iotaI_len]; omega) ?_
    | refine EqI.mk _ (fun _ => wrapI (by omega) (by omega)) ?_
    | refine EqI.mk _ (fun _ => rfl) ?_
    | refine EqN.mk _ (ln eI) ?_
    | refine EqN.mk _ (Nat.zero_add _) ?_
    | refine EqN.mk _ (Int.toNat_natCast _) ?_
    | refine EqN.mk _ rfl ?_
    | (refine CondF.mk (fun hb => ?_) (fun hb => ?_) <;> try simp only [forall_const, eq_self, not_true_eq_false, not_false_eq_true, or_false, false_or, or_self, or_true, true_or, and_true, true_and, and_false, false_and, decide_true, decide_false, Bool.not_true, Bool.not_false, decide_eq_true_eq, decide_eq_false_iff_not, ite_and_p, ite_or_p, Bool.decide_eq_true, Bool.and_eq_true, Bool.or_eq_true, Bool.not_eq_true', Bool.not_eq_false', Bool.and_eq_false_imp, Bool.or_eq_false_iff, bne_iff_ne, beq_iff_eq, bne_eq_false_iff_eq, beq_eq_false_iff_ne, gt_iff_lt, ge_iff_le, Int.not_lt, Int.not_le, ne_eq, Bool.true_eq_false, Bool.false_eq_true, reduceCtorEq, eta_Airway, eta_Fan, eta_Mine] at hb)
    | apply BackF.auto
    | refine BackB.mk ?_ ?_
    | refine RetF.auto (And.intro rfl ?_)
    | exact Is.mk rfl rfl
    | refine Is.mk ?_ rfl
    | refine Is.mk rfl ?_
    | refine Is.mk ?_ ?_
  all_goals try dsimp only
  all_goals first
    | omega
    | exact ⟨by omega, by omega⟩
    | (exfalso; exact hb rfl)
    | skip
--@fn laws.r8Abs
theorem rabsT (n : Int) (h : -1000000000000000 ≤ n ∧ n ≤ 1000000000000000) : FnSem Try.prog 26 [In n] [] (Is [In (absI n)] []) := by
  refine FnSem.walk (zs := zeroPV Try.prog) (by kernel_rfl) Try.func26 rfl Try.results26 (by kernel_rfl) (by kernel_rfl) (by kernel_rfl) fun hw hh => ?_
  obtain ⟨w0, _⟩ := hw
  first | replace w0 := wf_I w0 | skip
  repeat' first
    | refine And.intro rfl ?_
    | refine GdF.mk (fun h => h) ?_
    | refine And.intro (Nat.succ_ne_zero _) ?_
    | refine And.intro (Nat.le_of_ble_eq_true rfl) ?_
    | refine SeqF.run ?_
    | refine GhF.go ?_
    | refine EqI.mk _ (fun _ => wrapI (by omega) (by omega)) ?_
    | refine EqI.mk _ (fun _ => rfl) ?_
    | (refine CondF.mk (fun hb => ?_) (fun hb => ?_) <;> try simp only [forall_const, eq_self, not_true_eq_false, not_false_eq_true, or_false, false_or, or_self, or_true, true_or, and_true, true_and, and_false, false_and, decide_true, decide_false, Bool.not_true, Bool.not_false, decide_eq_true_eq, decide_eq_false_iff_not, ite_and_p, ite_or_p, Bool.decide_eq_true, Bool.and_eq_true, Bool.or_eq_true, Bool.not_eq_true', Bool.not_eq_false', Bool.and_eq_false_imp, Bool.or_eq_false_iff, bne_iff_ne, beq_iff_eq, bne_eq_false_iff_eq, beq_eq_false_iff_ne, gt_iff_lt, ge_iff_le, Int.not_lt, Int.not_le, ne_eq, Bool.true_eq_false, Bool.false_eq_true, reduceCtorEq, eta_Airway, eta_Fan, eta_Mine] at hb)
    | refine RetF.auto (And.intro rfl ?_)
    | exact Is.mk rfl rfl
    | refine Is.mk ?_ rfl
    | refine Is.mk rfl ?_
    | refine Is.mk ?_ ?_
  all_goals try dsimp only
  all_goals try simp only [Bo, I, OB.row.injEq, AV.osl.injEq, eI_same,  List.cons.injEq, AV.p.injEq, PV.c.injEq, Value.int.injEq, Value.bool.injEq, and_true, true_and, ite_and_p, ite_or_p, Bool.decide_eq_true, eta_Airway, eta_Fan, eta_Mine, absI]
theorem askS_of {m : GMine} {r p : List Int} {fs : List GFan} (hm : okMine m = true) (hfs : okFs m fs) (hr : r.length = m.airways.length ∧ ∀ k : Nat, k < r.length → 2000 ≤ r.getD k 0 ∧ r.getD k 0 ≤ 52000) (hp : p.length = m.airways.length ∧ ∀ k : Nat, k < p.length → -20 ≤ p.getD k 0 ∧ p.getD k 0 ≤ 400) : askS m r fs p :=
  ⟨⟨hm, hfs, hp.1, fun k => by
    by_cases e : k < p.length
    · have := hp.2 k e; omega
    · rw [List.getD_eq_getElem?_getD, List.getElem?_eq_none (by omega)]
      show (-400 : Int) ≤ 0 ∧ (0 : Int) ≤ 400
      omega⟩, lsO_t hr.1 fun k hk => by have := hr.2 k hk; omega⟩
theorem askM_of {m : GMine} {r p fl : List Int} {fs : List GFan} (h : askS m r fs p) (hfl : blF m fl 100000) : askM m r (psF fs p fl) fl :=
  ⟨h.f.hm, hfl, h.r, lsO_t (psF_b h.f fl).1 fun k _ => by have := (psF_b h.f fl).2 k; omega⟩
theorem wsF_0 {m : GMine} {r p fl : List Int} {fs : List GFan} : 0 ≤ wsF m r fs p fl := by unfold wsF; exact wsL_0 _
theorem esF_e {m : GMine} {r p fl : List Int} {fs : List GFan} : esF m r fs p fl = (mshC m).map (errW r (psF fs p fl) fl) ∧ (esF m r fs p fl).length = (mshC m).length := by
  unfold esF; exact ⟨rfl, by rw [List.length_map]⟩
theorem wsF_e {m : GMine} {r p fl : List Int} {fs : List GFan} : wsF m r fs p fl = wsL (esF m r fs p fl) (mshC m).length := by unfold wsF; rfl
theorem c_laws_FnFlows (c1 c2 : List Int) : FnSem Try.prog 6 [Lx (LY c1), Lx (LY c2)] [] (Is [Bo true] []) := by
  refine FnSem.walk (zs := zeroPV Try.prog) (by kernel_rfl) Try.func6 rfl Try.results6 (by kernel_rfl) (by kernel_rfl) (by kernel_rfl) fun hw hh => ?_
  obtain ⟨w0, w1, _⟩ := hw
  first | replace w0 := wf_LY w0 | skip
  first | replace w1 := wf_LY w1 | skip
  repeat' first
    | refine And.intro rfl ?_
    | refine GdF.mk (fun h => h) ?_
    | refine And.intro (Nat.succ_ne_zero _) ?_
    | refine And.intro (Nat.le_of_ble_eq_true rfl) ?_
    | refine SeqF.run ?_
    | refine GdS.tt (by rfl) ?_
    | refine GdS.ff (by rfl) ?_
    | refine EqL.mk _ (tk GAirway.cells rfl) ?_
    | (refine ArgF.ret (r8Mine c1) ?_; rintro ⟨j, n0, xs⟩ ⟨v1, v2, v3, v4, hm⟩; dsimp only at v1 v2 v3 v4 hm; subst v3)
    | (refine ArgF.ret (c_spec_R8Resistances c2 ⟨j, xs⟩ hm) ?_; intro r hr)
    | (refine ArgF.ret (c_spec_R8Fans c2 ⟨j, xs⟩ hm) ?_; intro fs hfs)
    | (refine ArgF.ret (c_spec_R8Draught c1 ⟨j, xs⟩ hm) ?_; intro p hp; have hA := askS_of hm hfs hr hp)
    | (refine ArgF.ret (c_spec_R8Flows c2 ⟨j, xs⟩ hm) ?_; intro ow how)
    | refine ArgF.is (c_laws_r8At c2 0 200 (by omega)) ?_
    | refine ArgQ.is (fun hG => c_laws_r8At c2 0 200 (by omega)) rfl rfl ?_
    | refine EqI.mk _ (fun _ => by have q := r8A_b c2 0 (n := 200) (by omega); exact wrapI (by omega) (by omega)) ?_
    | refine BndF.mk (fun _ => by have := hr.1; simp only [List.length_map]; dsimp only at this; omega) ?_
    | refine EqL.mk _ (tkT (take_all hr.1.symm)) ?_
    | refine BndF.mk (fun _ => by have := hp.1; simp only [List.length_map]; dsimp only at this; omega) ?_
    | refine EqL.mk _ (tkT (take_all hp.1.symm)) ?_
    | refine BndF.mk (fun _ => by have := how.ln; simp only [List.length_map]; dsimp only at this; omega) ?_
    | refine EqL.mk _ (tkT (take_all how.ln.symm)) ?_
    | (refine ArgF.mk _ (c_impl_SolveFlows ⟨j, xs⟩ r fs p ow (10 + r8A c2 0 200) 60 hA (blF_le how (by omega)) (by have q := r8A_b c2 0 (n := 200) (by omega); omega) (by omega)) (fun rs ho hR _ => ?_); rcases hR with ⟨x, c, rfl, rfl, h3, h4⟩ | ⟨fl, rfl, rfl, hfl, h6, h7⟩)
    | refine BndF.mk (fun _ => by have := hfl.ln; simp only [List.length_map]; dsimp only at this; omega) ?_
    | refine EqL.mk _ (tkT (take_all hfl.ln.symm)) ?_
    | refine ArgF.is (sBalT ⟨j, xs⟩ fl hm hfl) ?_
    | refine ArgQ.is (fun hG => sBalT ⟨j, xs⟩ fl hm hfl) rfl rfl ?_
    | refine ArgF.is (pushT ⟨j, xs⟩ fs p fl hA.f hfl hA.dr) ?_
    | refine ArgQ.is (fun hG => pushT ⟨j, xs⟩ fs p fl hA.f hfl hA.dr) rfl rfl ?_
    | refine BndF.mk (fun _ => by have := (psF_b hA.f fl).1; simp only [List.length_map]; dsimp only at this; omega) ?_
    | refine EqL.mk _ (tkT (take_all (psF_b hA.f fl).1.symm)) ?_
    | (refine ArgF.ret (c_spec_MeshErrors ⟨j, xs⟩ r (psF fs p fl) fl (askM_of hA hfl)) ?_; rintro ⟨ne, es⟩ ⟨e1, e2⟩; dsimp only at e1 e2; rw [← esF_e.1] at e2; subst e2)
    | refine BndF.mk (fun _ => by have q := (esF_e (m := ⟨j, xs⟩) (r := r) (fs := fs) (p := p) (fl := fl)).2; simp only [List.length_map]; omega) ?_
    | refine EqI.mk _ (fun _ => by have q := mshC_len hm; exact wrapI (by omega) (by omega)) ?_
    | refine LoopF.at 20 rfl (LoopF.fix [5, 6, 7, 8, 10, 11, 12, 16] (Int × Int) (fun (i, g) => 0 ≤ i ∧ i ≤ ne ∧ g = wsL (esF ⟨j, xs⟩ r fs p fl) i.toNat) (fun (i, g) => [(19, In i), (18, In g)]) (fun (i, g) => []) (fun (i, g) => ((ne - i).toNat)) ((0, 0)) ?_)
    | (refine LoopB.of (T := Int × Int) ?_ ?_; rotate_left; rintro ⟨i, g⟩ ⟨i0, i1, i2⟩; rotate_left)
    | refine ArgF.is (rabsT ((esF ⟨j, xs⟩ r fs p fl).getD i.toNat 0) (by have q := es_b hA hfl i.toNat; omega)) ?_
    | refine ArgQ.is (fun hG => rabsT ((esF ⟨j, xs⟩ r fs p fl).getD i.toNat 0) (by have q := es_b hA hfl i.toNat; omega)) rfl rfl ?_
    | (refine ArgF.mk _ (c_impl_SolveFlows ⟨j, xs⟩ r fs p fl (10 + r8A c2 0 200) 0 hA hfl (by have q := r8A_b c2 0 (n := 200) (by omega); omega) (by omega)) (fun rs ho hR _ => ?_); rcases hR with ⟨x, c, rfl, rfl, h3, h4⟩ | ⟨fl2, rfl, rfl, hfl2, h8, h9⟩; rotate_left; obtain rfl := h9 h6)
    | refine ArgF.is (sameT fl2) ?_
    | refine ArgQ.is (fun hG => sameT fl2) rfl rfl ?_
    | refine GhF.go ?_
    | refine GdS.keep ?_
    | refine EqP.mk _ (gm eI 0 rfl) ?_
    | refine EqP.mk _ (gm eY 0 rfl) ?_
    | refine EqP.mk _ (gmb GFan.cells default (by omega)) ?_
    | refine BndF.mk (fun _ => by omega) ?_
    | refine BndF.mk (fun _ => by simp only [List.length_map, List.length_cons, List.length_nil, List.length_append, List.length_set, List.length_replicate, iotaI_len]; omega) ?_
    | refine BndF.mk (fun hG => by simp only [forall_const, eq_self, not_true_eq_false, not_false_eq_true, or_false, false_or, or_self, or_true, true_or, and_true, true_and, and_false, false_and, decide_true, decide_false, Bool.not_true, Bool.not_false, decide_eq_true_eq, decide_eq_false_iff_not, ite_and_p, ite_or_p, Bool.decide_eq_true, Bool.and_eq_true, Bool.or_eq_true, Bool.not_eq_true', Bool.not_eq_false', Bool.and_eq_false_imp, Bool.or_eq_false_iff, bne_iff_ne, beq_iff_eq, bne_eq_false_iff_eq, beq_eq_false_iff_ne, gt_iff_lt, ge_iff_le, Int.not_lt, Int.not_le, ne_eq, Bool.true_eq_false, Bool.false_eq_true, reduceCtorEq, eta_Airway, eta_Fan, eta_Mine, bytes_nil] at hG; (try simp only [List.length_map]); omega) ?_
    | refine EqI.mk _ (fun _ => wrapI (by omega) (by omega)) ?_
    | refine EqI.mk _ (fun _ => rfl) ?_
    | refine EqN.mk _ (ln eI) ?_
    | refine EqN.mk _ (ln eY) ?_
    | refine EqN.mk _ (ln GFan.cells) ?_
    | refine EqN.mk _ (Nat.zero_add _) ?_
    | refine EqN.mk _ (Int.toNat_natCast _) ?_
    | refine EqN.mk _ rfl ?_
    | refine EqL.mk _ (tk eI (by first | rfl | assumption | omega | (simp only [List.length_map, List.length_cons, List.length_nil, List.length_append, List.length_set, List.length_replicate, iotaI_len]; done) | (simp only [List.length_map, List.length_cons, List.length_nil, List.length_append, List.length_set, List.length_replicate, iotaI_len]; omega))) ?_
    | refine EqL.mk _ (st eI) ?_
    | refine EqL.mk _ (tk eY (by first | rfl | assumption | omega | (simp only [List.length_map, List.length_cons, List.length_nil, List.length_append, List.length_set, List.length_replicate, iotaI_len]; done) | (simp only [List.length_map, List.length_cons, List.length_nil, List.length_append, List.length_set, List.length_replicate, iotaI_len]; omega))) ?_
    | refine EqL.mk _ (st eY) ?_
    | refine EqL.mk _ (tk GFan.cells (by first | rfl | assumption | omega | (simp only [List.length_map, List.length_cons, List.length_nil, List.length_append, List.length_set, List.length_replicate, iotaI_len]; done) | (simp only [List.length_map, List.length_cons, List.length_nil, List.length_append, List.length_set, List.length_replicate, iotaI_len]; omega))) ?_
    | refine EqL.mk _ (st GFan.cells) ?_
    | refine EqL.mk [] rfl ?_
    | refine EqL.mk [_] rfl ?_
    | refine EqL.mk _ rfl ?_
    | refine ArgF.is (c_laws_r8Long ..) ?_
    | refine ArgQ.is (fun hG => c_laws_r8Long ..) rfl rfl ?_
    | refine ArgF.is (c_spec_R8Mine ..) ?_
    | refine ArgQ.is (fun hG => c_spec_R8Mine ..) rfl rfl ?_
    | refine ArgF.is (c_spec_R8Resistances _ ⟨_, _⟩ (by first | assumption | omega)) ?_
    | refine ArgQ.is (fun hG => c_spec_R8Resistances _ ⟨_, _⟩ (by first | assumption | omega)) rfl rfl ?_
    | refine ArgQ.is (fun hG => c_spec_R8Resistances _ ⟨_, _⟩ (by simp only [forall_const, eq_self, not_true_eq_false, not_false_eq_true, or_false, false_or, or_self, or_true, true_or, and_true, true_and, and_false, false_and, decide_true, decide_false, Bool.not_true, Bool.not_false, decide_eq_true_eq, decide_eq_false_iff_not, ite_and_p, ite_or_p, Bool.decide_eq_true, Bool.and_eq_true, Bool.or_eq_true, Bool.not_eq_true', Bool.not_eq_false', Bool.and_eq_false_imp, Bool.or_eq_false_iff, bne_iff_ne, beq_iff_eq, bne_eq_false_iff_eq, beq_eq_false_iff_ne, gt_iff_lt, ge_iff_le, Int.not_lt, Int.not_le, ne_eq, Bool.true_eq_false, Bool.false_eq_true, reduceCtorEq, eta_Airway, eta_Fan, eta_Mine, bytes_nil] at hG; omega)) rfl rfl ?_
    | refine ArgF.is (c_spec_R8Fans _ ⟨_, _⟩ (by first | assumption | omega)) ?_
    | refine ArgQ.is (fun hG => c_spec_R8Fans _ ⟨_, _⟩ (by first | assumption | omega)) rfl rfl ?_
    | refine ArgQ.is (fun hG => c_spec_R8Fans _ ⟨_, _⟩ (by simp only [forall_const, eq_self, not_true_eq_false, not_false_eq_true, or_false, false_or, or_self, or_true, true_or, and_true, true_and, and_false, false_and, decide_true, decide_false, Bool.not_true, Bool.not_false, decide_eq_true_eq, decide_eq_false_iff_not, ite_and_p, ite_or_p, Bool.decide_eq_true, Bool.and_eq_true, Bool.or_eq_true, Bool.not_eq_true', Bool.not_eq_false', Bool.and_eq_false_imp, Bool.or_eq_false_iff, bne_iff_ne, beq_iff_eq, bne_eq_false_iff_eq, beq_eq_false_iff_ne, gt_iff_lt, ge_iff_le, Int.not_lt, Int.not_le, ne_eq, Bool.true_eq_false, Bool.false_eq_true, reduceCtorEq, eta_Airway, eta_Fan, eta_Mine, bytes_nil] at hG; omega)) rfl rfl ?_
    | refine ArgF.is (c_spec_R8Draught _ ⟨_, _⟩ (by first | assumption | omega)) ?_
    | refine ArgQ.is (fun hG => c_spec_R8Draught _ ⟨_, _⟩ (by first | assumption | omega)) rfl rfl ?_
    | refine ArgQ.is (fun hG => c_spec_R8Draught _ ⟨_, _⟩ (by simp only [forall_const, eq_self, not_true_eq_false, not_false_eq_true, or_false, false_or, or_self, or_true, true_or, and_true, true_and, and_false, false_and, decide_true, decide_false, Bool.not_true, Bool.not_false, decide_eq_true_eq, decide_eq_false_iff_not, ite_and_p, ite_or_p, Bool.decide_eq_true, Bool.and_eq_true, Bool.or_eq_true, Bool.not_eq_true', Bool.not_eq_false', Bool.and_eq_false_imp, Bool.or_eq_false_iff, bne_iff_ne, beq_iff_eq, bne_eq_false_iff_eq, beq_eq_false_iff_ne, gt_iff_lt, ge_iff_le, Int.not_lt, Int.not_le, ne_eq, Bool.true_eq_false, Bool.false_eq_true, reduceCtorEq, eta_Airway, eta_Fan, eta_Mine, bytes_nil] at hG; omega)) rfl rfl ?_
    | refine ArgF.is (c_spec_R8Flows _ ⟨_, _⟩ (by first | assumption | omega)) ?_
    | refine ArgQ.is (fun hG => c_spec_R8Flows _ ⟨_, _⟩ (by first | assumption | omega)) rfl rfl ?_
    | refine ArgQ.is (fun hG => c_spec_R8Flows _ ⟨_, _⟩ (by simp only [forall_const, eq_self, not_true_eq_false, not_false_eq_true, or_false, false_or, or_self, or_true, true_or, and_true, true_and, and_false, false_and, decide_true, decide_false, Bool.not_true, Bool.not_false, decide_eq_true_eq, decide_eq_false_iff_not, ite_and_p, ite_or_p, Bool.decide_eq_true, Bool.and_eq_true, Bool.or_eq_true, Bool.not_eq_true', Bool.not_eq_false', Bool.and_eq_false_imp, Bool.or_eq_false_iff, bne_iff_ne, beq_iff_eq, bne_eq_false_iff_eq, beq_eq_false_iff_ne, gt_iff_lt, ge_iff_le, Int.not_lt, Int.not_le, ne_eq, Bool.true_eq_false, Bool.false_eq_true, reduceCtorEq, eta_Airway, eta_Fan, eta_Mine, bytes_nil] at hG; omega)) rfl rfl ?_
    | refine ArgF.is (c_laws_r8At _ _ _ (by first | assumption | omega)) ?_
    | refine ArgQ.is (fun hG => c_laws_r8At _ _ _ (by first | assumption | omega)) rfl rfl ?_
    | refine ArgQ.is (fun hG => c_laws_r8At _ _ _ (by simp only [forall_const, eq_self, not_true_eq_false, not_false_eq_true, or_false, false_or, or_self, or_true, true_or, and_true, true_and, and_false, false_and, decide_true, decide_false, Bool.not_true, Bool.not_false, decide_eq_true_eq, decide_eq_false_iff_not, ite_and_p, ite_or_p, Bool.decide_eq_true, Bool.and_eq_true, Bool.or_eq_true, Bool.not_eq_true', Bool.not_eq_false', Bool.and_eq_false_imp, Bool.or_eq_false_iff, bne_iff_ne, beq_iff_eq, bne_eq_false_iff_eq, beq_eq_false_iff_ne, gt_iff_lt, ge_iff_le, Int.not_lt, Int.not_le, ne_eq, Bool.true_eq_false, Bool.false_eq_true, reduceCtorEq, eta_Airway, eta_Fan, eta_Mine, bytes_nil] at hG; omega)) rfl rfl ?_
    | refine ArgF.is (c_impl_SolveFlows ⟨_, _⟩ _ _ _ _ _ _ (by first | assumption | omega) (by first | assumption | omega) (by first | assumption | omega) (by first | assumption | omega)) ?_
    | refine ArgQ.is (fun hG => c_impl_SolveFlows ⟨_, _⟩ _ _ _ _ _ _ (by first | assumption | omega) (by first | assumption | omega) (by first | assumption | omega) (by first | assumption | omega)) rfl rfl ?_
    | refine ArgQ.is (fun hG => c_impl_SolveFlows ⟨_, _⟩ _ _ _ _ _ _ (by simp only [forall_const, eq_self, not_true_eq_false, not_false_eq_true, or_false, false_or, or_self, or_true, true_or, and_true, true_and, and_false, false_and, decide_true, decide_false, Bool.not_true, Bool.not_false, decide_eq_true_eq, decide_eq_false_iff_not, ite_and_p, ite_or_p, Bool.decide_eq_true, Bool.and_eq_true, Bool.or_eq_true, Bool.not_eq_true', Bool.not_eq_false', Bool.and_eq_false_imp, Bool.or_eq_false_iff, bne_iff_ne, beq_iff_eq, bne_eq_false_iff_eq, beq_eq_false_iff_ne, gt_iff_lt, ge_iff_le, Int.not_lt, Int.not_le, ne_eq, Bool.true_eq_false, Bool.false_eq_true, reduceCtorEq, eta_Airway, eta_Fan, eta_Mine, bytes_nil] at hG; omega) (by simp only [forall_const, eq_self, not_true_eq_false, not_false_eq_true, or_false, false_or, or_self, or_true, true_or, and_true, true_and, and_false, false_and, decide_true, decide_false, Bool.not_true, Bool.not_false, decide_eq_true_eq, decide_eq_false_iff_not, ite_and_p, ite_or_p, Bool.decide_eq_true, Bool.and_eq_true, Bool.or_eq_true, Bool.not_eq_true', Bool.not_eq_false', Bool.and_eq_false_imp, Bool.or_eq_false_iff, bne_iff_ne, beq_iff_eq, bne_eq_false_iff_eq, beq_eq_false_iff_ne, gt_iff_lt, ge_iff_le, Int.not_lt, Int.not_le, ne_eq, Bool.true_eq_false, Bool.false_eq_true, reduceCtorEq, eta_Airway, eta_Fan, eta_Mine, bytes_nil] at hG; omega) (by simp only [forall_const, eq_self, not_true_eq_false, not_false_eq_true, or_false, false_or, or_self, or_true, true_or, and_true, true_and, and_false, false_and, decide_true, decide_false, Bool.not_true, Bool.not_false, decide_eq_true_eq, decide_eq_false_iff_not, ite_and_p, ite_or_p, Bool.decide_eq_true, Bool.and_eq_true, Bool.or_eq_true, Bool.not_eq_true', Bool.not_eq_false', Bool.and_eq_false_imp, Bool.or_eq_false_iff, bne_iff_ne, beq_iff_eq, bne_eq_false_iff_eq, beq_eq_false_iff_ne, gt_iff_lt, ge_iff_le, Int.not_lt, Int.not_le, ne_eq, Bool.true_eq_false, Bool.false_eq_true, reduceCtorEq, eta_Airway, eta_Fan, eta_Mine, bytes_nil] at hG; omega) (by simp only [forall_const, eq_self, not_true_eq_false, not_false_eq_true, or_false, false_or, or_self, or_true, true_or, and_true, true_and, and_false, false_and, decide_true, decide_false, Bool.not_true, Bool.not_false, decide_eq_true_eq, decide_eq_false_iff_not, ite_and_p, ite_or_p, Bool.decide_eq_true, Bool.and_eq_true, Bool.or_eq_true, Bool.not_eq_true', Bool.not_eq_false', Bool.and_eq_false_imp, Bool.or_eq_false_iff, bne_iff_ne, beq_iff_eq, bne_eq_false_iff_eq, beq_eq_false_iff_ne, gt_iff_lt, ge_iff_le, Int.not_lt, Int.not_le, ne_eq, Bool.true_eq_false, Bool.false_eq_true, reduceCtorEq, eta_Airway, eta_Fan, eta_Mine, bytes_nil] at hG; omega)) rfl rfl ?_
    | refine ArgF.is (c_spec_IsBalanced ..) ?_
    | refine ArgQ.is (fun hG => c_spec_IsBalanced ..) rfl rfl ?_
    | refine ArgF.is (c_impl_PushesOf ..) ?_
    | refine ArgQ.is (fun hG => c_impl_PushesOf ..) rfl rfl ?_
    | refine ArgF.is (c_spec_MeshErrors ⟨_, _⟩ _ _ _ (by first | assumption | omega)) ?_
    | refine ArgQ.is (fun hG => c_spec_MeshErrors ⟨_, _⟩ _ _ _ (by first | assumption | omega)) rfl rfl ?_
    | refine ArgQ.is (fun hG => c_spec_MeshErrors ⟨_, _⟩ _ _ _ (by simp only [forall_const, eq_self, not_true_eq_false, not_false_eq_true, or_false, false_or, or_self, or_true, true_or, and_true, true_and, and_false, false_and, decide_true, decide_false, Bool.not_true, Bool.not_false, decide_eq_true_eq, decide_eq_false_iff_not, ite_and_p, ite_or_p, Bool.decide_eq_true, Bool.and_eq_true, Bool.or_eq_true, Bool.not_eq_true', Bool.not_eq_false', Bool.and_eq_false_imp, Bool.or_eq_false_iff, bne_iff_ne, beq_iff_eq, bne_eq_false_iff_eq, beq_eq_false_iff_ne, gt_iff_lt, ge_iff_le, Int.not_lt, Int.not_le, ne_eq, Bool.true_eq_false, Bool.false_eq_true, reduceCtorEq, eta_Airway, eta_Fan, eta_Mine, bytes_nil] at hG; omega)) rfl rfl ?_
    | refine ArgF.is (c_laws_r8Abs _ (by first | assumption | omega)) ?_
    | refine ArgQ.is (fun hG => c_laws_r8Abs _ (by first | assumption | omega)) rfl rfl ?_
    | refine ArgQ.is (fun hG => c_laws_r8Abs _ (by simp only [forall_const, eq_self, not_true_eq_false, not_false_eq_true, or_false, false_or, or_self, or_true, true_or, and_true, true_and, and_false, false_and, decide_true, decide_false, Bool.not_true, Bool.not_false, decide_eq_true_eq, decide_eq_false_iff_not, ite_and_p, ite_or_p, Bool.decide_eq_true, Bool.and_eq_true, Bool.or_eq_true, Bool.not_eq_true', Bool.not_eq_false', Bool.and_eq_false_imp, Bool.or_eq_false_iff, bne_iff_ne, beq_iff_eq, bne_eq_false_iff_eq, beq_eq_false_iff_ne, gt_iff_lt, ge_iff_le, Int.not_lt, Int.not_le, ne_eq, Bool.true_eq_false, Bool.false_eq_true, reduceCtorEq, eta_Airway, eta_Fan, eta_Mine, bytes_nil] at hG; omega)) rfl rfl ?_
    | refine ArgF.is (c_laws_r8Same ..) ?_
    | refine ArgQ.is (fun hG => c_laws_r8Same ..) rfl rfl ?_
    | refine CallF.mk (CallW.is [] true rfl ?_)
    | refine CallG.mk ?_
    | (refine CondF.mk (fun hb => ?_) (fun hb => ?_) <;> try simp only [forall_const, eq_self, not_true_eq_false, not_false_eq_true, or_false, false_or, or_self, or_true, true_or, and_true, true_and, and_false, false_and, decide_true, decide_false, Bool.not_true, Bool.not_false, decide_eq_true_eq, decide_eq_false_iff_not, ite_and_p, ite_or_p, Bool.decide_eq_true, Bool.and_eq_true, Bool.or_eq_true, Bool.not_eq_true', Bool.not_eq_false', Bool.and_eq_false_imp, Bool.or_eq_false_iff, bne_iff_ne, beq_iff_eq, bne_eq_false_iff_eq, beq_eq_false_iff_ne, gt_iff_lt, ge_iff_le, Int.not_lt, Int.not_le, ne_eq, Bool.true_eq_false, Bool.false_eq_true, reduceCtorEq, eta_Airway, eta_Fan, eta_Mine] at hb)
    | apply BackF.auto2
    | refine BackB.mk ?_ ?_
    | refine RetF.auto (And.intro rfl ?_)
    | exact Is.mk rfl rfl
    | refine Is.mk ?_ rfl
    | refine Is.mk rfl ?_
    | refine Is.mk ?_ ?_
  all_goals try dsimp only
  all_goals first
    | omega
    | exact ⟨by omega, by omega, rfl⟩
    | exact ⟨by omega, by omega, by rw [wsL_s i0, i2]⟩
    | (exfalso; have q := wsF_0 (m := ⟨j, xs⟩) (r := r) (p := p) (fl := fl) (fs := fs); omega)
    | (rcases h3 with h3 | ⟨h3, h5⟩
       · subst h3; rfl
       · subst h3
         have e1 : decide (x > 10 + r8A c2 0 200) = true := decide_eq_true h5
         rw [e1]; rfl)
    | (exfalso; rcases h3 with h3 | ⟨h3, h5⟩ <;> omega)
    | (have e : g = wsF ⟨j, xs⟩ r fs p fl2 := by (rw [i2, wsF_e, show i.toNat = (mshC ⟨j, xs⟩).length by omega])
       rw [e]
       simp only [beq_self_eq_true, if_true]
       rfl)
    | skip
end Go.Proofs.Ytfcnlpghdpfjkaa

