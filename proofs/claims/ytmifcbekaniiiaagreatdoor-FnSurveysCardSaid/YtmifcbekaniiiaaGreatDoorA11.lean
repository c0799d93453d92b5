/- Contracts of functions of the program, and what they compute. Conditions: those that each theorem states. -/
import Derived.Test.YtmifcbekaniiiaaGreatDoorProg
import Derived.Test.YtmifcbekaniiiaaGreatDoorA10
import Derived.Test.YtmifcbekaniiiaaGreatDoorK20
set_option linter.unusedVariables false
set_option linter.unusedSimpArgs false
namespace Go.Proofs.YtmifcbekaniiiaaGreatDoor
open Go.Av
attribute [local irreducible] Go.IntKind.wrap listS decS idS isName rd rdZ okSur loR hiR
set_option maxRecDepth 20000
set_option maxHeartbeats 8000000

/-! Surveys: lists of them. -/
abbrev LS (xs : List GSurvey) : AV := Lx (.lst (GSurvey.cells default) (xs.map GSurvey.cells))
structure okSurs (xs : List GSurvey) : Prop where
  ln : xs.length ≤ 16
  ok : ∀ x ∈ xs, okSur x = true
theorem okSurs.nth {xs : List GSurvey} (h : okSurs xs) {i : Int} (h0 : 0 ≤ i) (h1 : i < xs.length) : okSur (xs.getD i.toNat default) = true := by
  apply h.ok
  rw [List.getD_eq_getElem?_getD, List.getElem?_eq_getElem (by omega), Option.getD_some]
  exact List.getElem_mem _
--@fn slices.IndexFunc[[]impl.Survey,impl.Survey]
theorem idxFnS (xs : List GSurvey) (f : Nat) (p : GSurvey → Bool) (hf : ∀ x, FnSem Tryz.prog f [.p .any (.agg x.cells)] [] (Is [Bo (p x)] [])) : FnSem Tryz.prog 198 [LS xs, .p .any (.fn f [])] [] (Is [In (idxG p xs)] []) := by
  refine FnSem.walk (zs := zeroPV Tryz.prog) (by kernel_rfl) Tryz.func198 rfl Tryz.results198 (by kernel_rfl) (by kernel_rfl) (by kernel_rfl) fun hw hh => ?_
  obtain ⟨w0, w1, _⟩ := hw
  first | replace w0 := wf_LSurvey w0 | skip
  repeat' first
    | refine And.intro rfl ?_
    | refine GdF.mk (fun h => h) ?_
    | refine And.intro (Nat.succ_ne_zero _) ?_
    | refine And.intro (Nat.le_of_ble_eq_true rfl) ?_
    | refine SeqF.run ?_
    | refine ArgF.is (hf (xs.getD i.toNat default)) ?_
    | refine ArgQ.is (fun hG => hf (xs.getD i.toNat default)) rfl rfl ?_
    | refine LoopF.at 2 rfl (LoopF.fix [0, 1, 7] (Int) (fun i => 0 ≤ i ∧ i ≤ xs.length ∧ ∀ j : Nat, (j : Int) < i → p (xs.getD j default) = false) (fun i => [(8, In i)]) (fun i => []) (fun i => ((xs.length - i).toNat)) (0) ?_)
    | (refine LoopB.of (T := Int) ?_ ?_; rotate_left; rintro i ⟨h0, h1, h2⟩; rotate_left)
    | refine GhF.go ?_
    | refine EqP.mk _ (gm GSurvey.cells default rfl) ?_
    | refine BndF.mk (fun _ => by omega) ?_
    | refine BndF.mk (fun _ => by simp only [List.length_map, List.length_cons, List.length_nil, List.length_append, List.length_set, List.length_replicate, iotaI_len]; omega) ?_
    | refine EqI.mk _ (fun _ => wrapI (by omega) (by omega)) ?_
    | refine EqI.mk _ (fun _ => rfl) ?_
    | refine EqN.mk _ (ln GSurvey.cells) ?_
    | refine EqN.mk _ (Nat.zero_add _) ?_
    | refine EqN.mk _ (Int.toNat_natCast _) ?_
    | refine EqN.mk _ rfl ?_
    | refine CallF.mk (CallW.is [] true rfl ?_)
    | refine CallG.mk ?_
    | (refine CondF.mk (fun hb => ?_) (fun hb => ?_) <;> try simp only [forall_const, eq_self, not_true_eq_false, not_false_eq_true, or_false, false_or, or_self, or_true, true_or, and_true, true_and, and_false, false_and, decide_true, decide_false, Bool.not_true, Bool.not_false, decide_eq_true_eq, decide_eq_false_iff_not, ite_and_p, ite_or_p, Bool.decide_eq_true, Bool.and_eq_true, Bool.or_eq_true, Bool.not_eq_true', Bool.not_eq_false', Bool.and_eq_false_imp, Bool.or_eq_false_iff, bne_iff_ne, beq_iff_eq, bne_eq_false_iff_eq, beq_eq_false_iff_ne, gt_iff_lt, ge_iff_le, Int.not_lt, Int.not_le, ne_eq, Bool.true_eq_false, Bool.false_eq_true, reduceCtorEq, eta_Airway, eta_Duct, eta_Fan, eta_Mine, eta_Survey] at hb)
    | apply BackF.auto
    | refine BackB.mk ?_ ?_
    | refine RetF.auto (And.intro rfl ?_)
    | exact Is.mk rfl rfl
    | refine Is.mk ?_ rfl
    | refine Is.mk rfl ?_
    | refine Is.mk ?_ ?_
  all_goals try dsimp only
  all_goals try simp only [Bo, I, OB.row.injEq, AV.osl.injEq, eI_same,  List.cons.injEq, AV.p.injEq, PV.c.injEq, Value.int.injEq, Value.bool.injEq, and_true, true_and, ite_and_p, ite_or_p, Bool.decide_eq_true, eta_Airway, eta_Duct, eta_Fan, eta_Mine, eta_Survey]
  all_goals first
    | omega
    | exact ⟨by omega, by omega, all_0⟩
    | exact ⟨by omega, by omega, all_s (P := fun j => p (xs.getD j default) = false) h0 h2 (by simpa using hb)⟩
    | exact idxG_at (d := default) h0 (by omega) hb h2
    | exact idxG_none (d := default) (by omega) h2
--@fn slices.ContainsFunc[[]impl.Survey,impl.Survey]
theorem contFnS (xs : List GSurvey) (f : Nat) (p : GSurvey → Bool) (hf : ∀ x, FnSem Tryz.prog f [.p .any (.agg x.cells)] [] (Is [Bo (p x)] [])) : FnSem Tryz.prog 156 [LS xs, .p .any (.fn f [])] [] (Is [Bo (xs.any p)] []) := by
  refine FnSem.walk (zs := zeroPV Tryz.prog) (by kernel_rfl) Tryz.func156 rfl Tryz.results156 (by kernel_rfl) (by kernel_rfl) (by kernel_rfl) fun hw hh => ?_
  obtain ⟨w0, w1, _⟩ := hw
  first | replace w0 := wf_LSurvey w0 | skip
  repeat' first
    | refine And.intro rfl ?_
    | refine GdF.mk (fun h => h) ?_
    | refine And.intro (Nat.succ_ne_zero _) ?_
    | refine And.intro (Nat.le_of_ble_eq_true rfl) ?_
    | refine SeqF.run ?_
    | refine ArgF.is (idxFnS xs f p hf) ?_
    | refine ArgQ.is (fun hG => idxFnS xs f p hf) rfl rfl ?_
    | refine GhF.go ?_
    | refine BndF.mk (fun _ => by omega) ?_
    | refine BndF.mk (fun _ => by simp only [List.length_map, List.length_cons, List.length_nil, List.length_append, List.length_set, List.length_replicate, iotaI_len]; omega) ?_
    | refine EqL.mk _ (tk GSurvey.cells (by first | rfl | assumption | omega | (simp only [List.length_map, List.length_cons, List.length_nil, List.length_append, List.length_set, List.length_replicate, iotaI_len]; done) | (simp only [List.length_map, List.length_cons, List.length_nil, List.length_append, List.length_set, List.length_replicate, iotaI_len]; omega))) ?_
    | refine EqL.mk [] rfl ?_
    | refine EqL.mk [_] rfl ?_
    | refine EqL.mk _ rfl ?_
    | refine ArgF.is (c_slices_IndexFunc_impl_Survey_impl_Survey ..) ?_
    | refine ArgQ.is (fun hG => c_slices_IndexFunc_impl_Survey_impl_Survey ..) rfl rfl ?_
    | refine CallF.mk (CallW.is [] true rfl ?_)
    | refine CallG.mk ?_
    | (refine CondF.mk (fun hb => ?_) (fun hb => ?_) <;> try simp only [forall_const, eq_self, not_true_eq_false, not_false_eq_true, or_false, false_or, or_self, or_true, true_or, and_true, true_and, and_false, false_and, decide_true, decide_false, Bool.not_true, Bool.not_false, decide_eq_true_eq, decide_eq_false_iff_not, ite_and_p, ite_or_p, Bool.decide_eq_true, Bool.and_eq_true, Bool.or_eq_true, Bool.not_eq_true', Bool.not_eq_false', Bool.and_eq_false_imp, Bool.or_eq_false_iff, bne_iff_ne, beq_iff_eq, bne_eq_false_iff_eq, beq_eq_false_iff_ne, gt_iff_lt, ge_iff_le, Int.not_lt, Int.not_le, ne_eq, Bool.true_eq_false, Bool.false_eq_true, reduceCtorEq, eta_Airway, eta_Duct, eta_Fan, eta_Mine, eta_Survey] at hb)
    | refine RetF.auto (And.intro rfl ?_)
    | exact Is.mk rfl rfl
    | refine Is.mk ?_ rfl
    | refine Is.mk rfl ?_
    | refine Is.mk ?_ ?_
  all_goals try dsimp only
  all_goals try simp only [Bo, I, OB.row.injEq, AV.osl.injEq, eI_same,  List.cons.injEq, AV.p.injEq, PV.c.injEq, Value.int.injEq, Value.bool.injEq, and_true, true_and, ite_and_p, ite_or_p, Bool.decide_eq_true, eta_Airway, eta_Duct, eta_Fan, eta_Mine, eta_Survey]
  · exact idxG_any
theorem c_impl_surveysOk_1 (x : GSurvey) : FnSem Tryz.prog 157 [.p .any (.agg x.cells)] [] (Is [Bo (!okSur x)] []) := by
  refine FnSem.walk (zs := zeroPV Tryz.prog) (by kernel_rfl) Tryz.func157 rfl Tryz.results157 (by kernel_rfl) (by kernel_rfl) (by kernel_rfl) fun hw hh => ?_
  obtain ⟨w0, _⟩ := hw
  first | replace w0 := wf_Survey w0 | skip
  repeat' first
    | refine And.intro rfl ?_
    | refine GdF.mk (fun h => h) ?_
    | refine And.intro (Nat.succ_ne_zero _) ?_
    | refine And.intro (Nat.le_of_ble_eq_true rfl) ?_
    | refine SeqF.run ?_
    | refine GhF.go ?_
    | refine BndF.mk (fun _ => by omega) ?_
    | refine BndF.mk (fun _ => by simp only [List.length_map, List.length_cons, List.length_nil, List.length_append, List.length_set, List.length_replicate, iotaI_len]; omega) ?_
    | refine EqL.mk [] rfl ?_
    | refine EqL.mk [_] rfl ?_
    | refine EqL.mk _ rfl ?_
    | refine ArgF.is (c_impl_ValidSurvey ⟨_, _, _, _, _⟩) ?_
    | refine ArgQ.is (fun hG => c_impl_ValidSurvey ⟨_, _, _, _, _⟩) rfl rfl ?_
    | refine CallF.mk (CallW.is [] true rfl ?_)
    | refine CallG.mk ?_
    | (refine CondF.mk (fun hb => ?_) (fun hb => ?_) <;> try simp only [forall_const, eq_self, not_true_eq_false, not_false_eq_true, or_false, false_or, or_self, or_true, true_or, and_true, true_and, and_false, false_and, decide_true, decide_false, Bool.not_true, Bool.not_false, decide_eq_true_eq, decide_eq_false_iff_not, ite_and_p, ite_or_p, Bool.decide_eq_true, Bool.and_eq_true, Bool.or_eq_true, Bool.not_eq_true', Bool.not_eq_false', Bool.and_eq_false_imp, Bool.or_eq_false_iff, bne_iff_ne, beq_iff_eq, bne_eq_false_iff_eq, beq_eq_false_iff_ne, gt_iff_lt, ge_iff_le, Int.not_lt, Int.not_le, ne_eq, Bool.true_eq_false, Bool.false_eq_true, reduceCtorEq, eta_Airway, eta_Duct, eta_Fan, eta_Mine, eta_Survey] at hb)
    | refine RetF.auto (And.intro rfl ?_)
    | exact Is.mk rfl rfl
    | refine Is.mk ?_ rfl
    | refine Is.mk rfl ?_
    | refine Is.mk ?_ ?_
  all_goals try dsimp only
  all_goals try simp only [Bo, I, OB.row.injEq, AV.osl.injEq, eI_same,  List.cons.injEq, AV.p.injEq, PV.c.injEq, Value.int.injEq, Value.bool.injEq, and_true, true_and, ite_and_p, ite_or_p, Bool.decide_eq_true, eta_Airway, eta_Duct, eta_Fan, eta_Mine, eta_Survey]
--@fn impl.surveysOk
theorem suoT (xs : List GSurvey) (h : okSurs xs) : FnSem Tryz.prog 82 [LS xs] [] (Is [Bo true] []) := by
  have hl := h.ln
  have ha : xs.any (fun x => !okSur x) = false := by
    rw [List.any_eq_false]
    intro x hx
    rw [h.ok x hx]; decide
  refine FnSem.walk (zs := zeroPV Tryz.prog) (by kernel_rfl) Tryz.func82 rfl Tryz.results82 (by kernel_rfl) (by kernel_rfl) (by kernel_rfl) fun hw hh => ?_
  obtain ⟨w0, _⟩ := hw
  first | replace w0 := wf_LSurvey w0 | skip
  repeat' first
    | refine And.intro rfl ?_
    | refine GdF.mk (fun h => h) ?_
    | refine And.intro (Nat.succ_ne_zero _) ?_
    | refine And.intro (Nat.le_of_ble_eq_true rfl) ?_
    | refine SeqF.run ?_
    | refine ArgF.is (contFnS xs _ (fun x => !okSur x) (fun x => c_impl_surveysOk_1 x)) ?_
    | refine ArgQ.is (fun hG => contFnS xs _ (fun x => !okSur x) (fun x => c_impl_surveysOk_1 x)) rfl rfl ?_
    | refine GhF.go ?_
    | refine GdS.keep ?_
    | refine BndF.mk (fun _ => by omega) ?_
    | refine BndF.mk (fun _ => by simp only [List.length_map, List.length_cons, List.length_nil, List.length_append, List.length_set, List.length_replicate, iotaI_len]; omega) ?_
    | refine BndF.mk (fun hG => by simp only [forall_const, eq_self, not_true_eq_false, not_false_eq_true, or_false, false_or, or_self, or_true, true_or, and_true, true_and, and_false, false_and, decide_true, decide_false, Bool.not_true, Bool.not_false, decide_eq_true_eq, decide_eq_false_iff_not, ite_and_p, ite_or_p, Bool.decide_eq_true, Bool.and_eq_true, Bool.or_eq_true, Bool.not_eq_true', Bool.not_eq_false', Bool.and_eq_false_imp, Bool.or_eq_false_iff, bne_iff_ne, beq_iff_eq, bne_eq_false_iff_eq, beq_eq_false_iff_ne, gt_iff_lt, ge_iff_le, Int.not_lt, Int.not_le, ne_eq, Bool.true_eq_false, Bool.false_eq_true, reduceCtorEq, eta_Airway, eta_Duct, eta_Fan, eta_Mine, eta_Survey, bytes_nil] at hG; (try simp only [List.length_map]); omega) ?_
    | refine EqN.mk _ (ln GSurvey.cells) ?_
    | refine EqL.mk _ (tk GSurvey.cells (by first | rfl | assumption | omega | (simp only [List.length_map, List.length_cons, List.length_nil, List.length_append, List.length_set, List.length_replicate, iotaI_len]; done) | (simp only [List.length_map, List.length_cons, List.length_nil, List.length_append, List.length_set, List.length_replicate, iotaI_len]; omega))) ?_
    | refine EqL.mk [] rfl ?_
    | refine EqL.mk [_] rfl ?_
    | refine EqL.mk _ rfl ?_
    | refine ArgF.is (c_slices_ContainsFunc_impl_Survey_impl_Survey ..) ?_
    | refine ArgQ.is (fun hG => c_slices_ContainsFunc_impl_Survey_impl_Survey ..) rfl rfl ?_
    | refine CallF.mk (CallW.is [] true rfl ?_)
    | refine CallG.mk ?_
    | (refine CondF.mk (fun hb => ?_) (fun hb => ?_) <;> try simp only [forall_const, eq_self, not_true_eq_false, not_false_eq_true, or_false, false_or, or_self, or_true, true_or, and_true, true_and, and_false, false_and, decide_true, decide_false, Bool.not_true, Bool.not_false, decide_eq_true_eq, decide_eq_false_iff_not, ite_and_p, ite_or_p, Bool.decide_eq_true, Bool.and_eq_true, Bool.or_eq_true, Bool.not_eq_true', Bool.not_eq_false', Bool.and_eq_false_imp, Bool.or_eq_false_iff, bne_iff_ne, beq_iff_eq, bne_eq_false_iff_eq, beq_eq_false_iff_ne, gt_iff_lt, ge_iff_le, Int.not_lt, Int.not_le, ne_eq, Bool.true_eq_false, Bool.false_eq_true, reduceCtorEq, eta_Airway, eta_Duct, eta_Fan, eta_Mine, eta_Survey] at hb)
    | refine RetF.auto (And.intro rfl ?_)
    | exact Is.mk rfl rfl
    | refine Is.mk ?_ rfl
    | refine Is.mk rfl ?_
    | refine Is.mk ?_ ?_
  all_goals try dsimp only
  all_goals (rw [ha, decide_eq_true (show (xs.length : Int) ≤ 16 by omega)]; rfl)
/-- the surveys of an airway -/
def selS (xs : List GSurvey) (a : ByteArray) : List Int := selI (fun i => decide ((xs.getD i.toNat default).airway = a)) xs.length
--@fn impl.surveysOf
theorem suvT (xs : List GSurvey) (a : ByteArray) (hl : xs.length ≤ 16) : FnSem Tryz.prog 85 [LS xs, Str a] [] (Is [.osl 0 0 (selS xs a).length] [Rw .flat (eI 0) ((selS xs a).map eI)]) := by
  unfold selS
  refine FnSem.walk (zs := zeroPV Tryz.prog) (by kernel_rfl) Tryz.func85 rfl Tryz.results85 (by kernel_rfl) (by kernel_rfl) (by kernel_rfl) fun hw hh => ?_
  obtain ⟨w0, w1, _⟩ := hw
  first | replace w0 := wf_LSurvey w0 | skip
  first | replace w1 := wf_S w1 | skip
  repeat' first
    | refine And.intro rfl ?_
    | refine GdF.mk (fun h => h) ?_
    | refine And.intro (Nat.succ_ne_zero _) ?_
    | refine And.intro (Nat.le_of_ble_eq_true rfl) ?_
    | refine SeqF.run ?_
    | refine LoopF.at 3 rfl (LoopF.fix [1, 8, 9] (Int × Nat × List Int) (fun (i, n, ys) => 0 ≤ i ∧ i ≤ xs.length ∧ (n = ys.length ∧ n ≤ i) ∧ ys = selI (fun i => decide ((xs.getD i.toNat default).airway = a)) i.toNat) (fun (i, n, ys) => [(10, In i), (5, .osl 0 0 n)]) (fun (i, n, ys) => [(0, Rw .flat (eI 0) (ys.map eI))]) (fun (i, n, ys) => ((xs.length - i).toNat)) ((0, 0, [])) ?_)
    | (refine LoopB.of (T := Int × Nat × List Int) ?_ ?_; rotate_left; rintro ⟨i, n, ys⟩ ⟨k0, k1, k2, k3⟩; rotate_left)
    | refine GhF.go ?_
    | refine MkF.row ?_
    | refine EqP.mk _ (gm GSurvey.cells default rfl) ?_
    | refine EqP.mk _ (gm eI 0 rfl) ?_
    | refine BndF.mk (fun _ => by omega) ?_
    | refine BndF.mk (fun _ => by simp only [List.length_map, List.length_cons, List.length_nil, List.length_append, List.length_set, List.length_replicate, iotaI_len]; omega) ?_
    | refine EqI.mk _ (fun _ => wrapI (by omega) (by omega)) ?_
    | refine EqI.mk _ (fun _ => rfl) ?_
    | refine FlF.keep ?_
    | refine EqN.mk _ (ln GSurvey.cells) ?_
    | refine EqN.mk _ (ln eI) ?_
    | refine EqN.mk _ (Nat.zero_add _) ?_
    | refine EqN.mk (_ + 1) rfl ?_
    | refine EqN.mk _ (Int.toNat_natCast _) ?_
    | refine EqN.mk _ rfl ?_
    | refine EqL.mk _ (sn0 GSurvey.cells) ?_
    | refine EqL.mk _ (sn GSurvey.cells (by first | rfl | assumption | omega | (simp only [List.length_map, List.length_cons, List.length_nil, List.length_append, List.length_set, List.length_replicate, iotaI_len]; done) | (simp only [List.length_map, List.length_cons, List.length_nil, List.length_append, List.length_set, List.length_replicate, iotaI_len]; omega))) ?_
    | refine EqL.mk _ (ap0 GSurvey.cells) ?_
    | refine EqL.mk _ (ap GSurvey.cells (by first | rfl | assumption | omega | (simp only [List.length_map, List.length_cons, List.length_nil, List.length_append, List.length_set, List.length_replicate, iotaI_len]; done) | (simp only [List.length_map, List.length_cons, List.length_nil, List.length_append, List.length_set, List.length_replicate, iotaI_len]; omega))) ?_
    | refine EqL.mk _ (tk GSurvey.cells (by first | rfl | assumption | omega | (simp only [List.length_map, List.length_cons, List.length_nil, List.length_append, List.length_set, List.length_replicate, iotaI_len]; done) | (simp only [List.length_map, List.length_cons, List.length_nil, List.length_append, List.length_set, List.length_replicate, iotaI_len]; omega))) ?_
    | refine EqL.mk _ (st GSurvey.cells) ?_
    | refine EqL.mk _ (dt GSurvey.cells) ?_
    | refine EqL.mk _ (sn0 eI) ?_
    | refine EqL.mk _ (sn eI (by first | rfl | assumption | omega | (simp only [List.length_map, List.length_cons, List.length_nil, List.length_append, List.length_set, List.length_replicate, iotaI_len]; done) | (simp only [List.length_map, List.length_cons, List.length_nil, List.length_append, List.length_set, List.length_replicate, iotaI_len]; omega))) ?_
    | refine EqL.mk _ (ap0 eI) ?_
    | refine EqL.mk _ (ap eI (by first | rfl | assumption | omega | (simp only [List.length_map, List.length_cons, List.length_nil, List.length_append, List.length_set, List.length_replicate, iotaI_len]; done) | (simp only [List.length_map, List.length_cons, List.length_nil, List.length_append, List.length_set, List.length_replicate, iotaI_len]; omega))) ?_
    | refine EqL.mk _ (tk eI (by first | rfl | assumption | omega | (simp only [List.length_map, List.length_cons, List.length_nil, List.length_append, List.length_set, List.length_replicate, iotaI_len]; done) | (simp only [List.length_map, List.length_cons, List.length_nil, List.length_append, List.length_set, List.length_replicate, iotaI_len]; omega))) ?_
    | refine EqL.mk _ (st eI) ?_
    | refine EqL.mk _ (dt eI) ?_
    | refine EqL.mk [] rfl ?_
    | refine EqL.mk [_] rfl ?_
    | refine EqL.mk _ rfl ?_
    | (refine CondF.mk (fun hb => ?_) (fun hb => ?_) <;> try simp only [forall_const, eq_self, not_true_eq_false, not_false_eq_true, or_false, false_or, or_self, or_true, true_or, and_true, true_and, and_false, false_and, decide_true, decide_false, Bool.not_true, Bool.not_false, decide_eq_true_eq, decide_eq_false_iff_not, ite_and_p, ite_or_p, Bool.decide_eq_true, Bool.and_eq_true, Bool.or_eq_true, Bool.not_eq_true', Bool.not_eq_false', Bool.and_eq_false_imp, Bool.or_eq_false_iff, bne_iff_ne, beq_iff_eq, bne_eq_false_iff_eq, beq_eq_false_iff_ne, gt_iff_lt, ge_iff_le, Int.not_lt, Int.not_le, ne_eq, Bool.true_eq_false, Bool.false_eq_true, reduceCtorEq, eta_Airway, eta_Duct, eta_Fan, eta_Mine, eta_Survey] at hb)
    | apply BackF.auto3
    | refine BackB.mk ?_ ?_
    | refine RetF.auto (And.intro rfl ?_)
    | exact Is.mk rfl rfl
    | refine Is.mk ?_ rfl
    | refine Is.mk rfl ?_
    | refine Is.mk ?_ ?_
  all_goals try dsimp only
  all_goals first
    | omega
    | exact ⟨by omega, by omega, ⟨rfl, by omega⟩, rfl⟩
    | exact ⟨by omega, by omega, ⟨by simp [k2.1], by omega⟩, by rw [selI_s k0 (decide_eq_true hb), k3]⟩
    | exact ⟨by omega, by omega, ⟨k2.1, by omega⟩, by rw [selI_n k0 (decide_eq_false hb), k3]⟩
    | (rw [k2.1, k3, show i.toNat = xs.length by omega]; done)
    | (rw [k3, show i.toNat = xs.length by omega]; rfl)
    | skip
--@fn slices.IndexFunc[[]int64,int64]
theorem idx2 (xs : List Int) (f : Nat) (c1 c2 : List PV) (p : Int → Bool) (hf : ∀ x ∈ xs, FnSem Tryz.prog f [In x, .p .any (.ref c1), .p .any (.ref c2)] [] (Is [Bo (p x)] [])) : FnSem Tryz.prog 173 [Lx (LI xs), .p .any (.fn f [.ref c1, .ref c2])] [] (Is [In (idxI p xs)] []) := by
  refine FnSem.walk (zs := zeroPV Tryz.prog) (by kernel_rfl) Tryz.func173 rfl Tryz.results173 (by kernel_rfl) (by kernel_rfl) (by kernel_rfl) fun hw hh => ?_
  obtain ⟨w0, w1, _⟩ := hw
  first | replace w0 := wf_LI w0 | skip
  repeat' first
    | refine And.intro rfl ?_
    | refine GdF.mk (fun h => h) ?_
    | refine And.intro (Nat.succ_ne_zero _) ?_
    | refine And.intro (Nat.le_of_ble_eq_true rfl) ?_
    | refine SeqF.run ?_
    | refine ArgF.is (hf _ (getD_mem (by omega))) ?_
    | refine ArgQ.is (fun hG => hf _ (getD_mem (by omega))) rfl rfl ?_
    | refine LoopF.at 2 rfl (LoopF.fix [0, 1, 7] (Int) (fun i => 0 ≤ i ∧ i ≤ xs.length ∧ ∀ j : Nat, (j : Int) < i → p (xs.getD j 0) = false) (fun i => [(8, In i)]) (fun i => []) (fun i => ((xs.length - i).toNat)) (0) ?_)
    | (refine LoopB.of (T := Int) ?_ ?_; rotate_left; rintro i ⟨h0, h1, h2⟩; rotate_left)
    | refine GhF.go ?_
    | refine EqP.mk _ (gm eI 0 rfl) ?_
    | refine BndF.mk (fun _ => by omega) ?_
    | refine BndF.mk (fun _ => by simp only [List.length_map, List.length_cons, List.length_nil, List.length_append, List.length_set, List.length_replicate, iotaI_len]; omega) ?_
    | refine EqI.mk _ (fun _ => wrapI (by omega) (by omega)) ?_
    | refine EqI.mk _ (fun _ => rfl) ?_
    | refine EqN.mk _ (ln eI) ?_
    | refine EqN.mk _ (Nat.zero_add _) ?_
    | refine EqN.mk _ (Int.toNat_natCast _) ?_
    | refine EqN.mk _ rfl ?_
    | refine CallF.mk (CallW.is [] true rfl ?_)
    | refine CallG.mk ?_
    | (refine CondF.mk (fun hb => ?_) (fun hb => ?_) <;> try simp only [forall_const, eq_self, not_true_eq_false, not_false_eq_true, or_false, false_or, or_self, or_true, true_or, and_true, true_and, and_false, false_and, decide_true, decide_false, Bool.not_true, Bool.not_false, decide_eq_true_eq, decide_eq_false_iff_not, ite_and_p, ite_or_p, Bool.decide_eq_true, Bool.and_eq_true, Bool.or_eq_true, Bool.not_eq_true', Bool.not_eq_false', Bool.and_eq_false_imp, Bool.or_eq_false_iff, bne_iff_ne, beq_iff_eq, bne_eq_false_iff_eq, beq_eq_false_iff_ne, gt_iff_lt, ge_iff_le, Int.not_lt, Int.not_le, ne_eq, Bool.true_eq_false, Bool.false_eq_true, reduceCtorEq, eta_Airway, eta_Duct, eta_Fan, eta_Mine, eta_Survey] at hb)
    | apply BackF.auto
    | refine BackB.mk ?_ ?_
    | refine RetF.auto (And.intro rfl ?_)
    | exact Is.mk rfl rfl
    | refine Is.mk ?_ rfl
    | refine Is.mk rfl ?_
    | refine Is.mk ?_ ?_
  all_goals try dsimp only
  all_goals try simp only [Bo, I, OB.row.injEq, AV.osl.injEq, eI_same,  List.cons.injEq, AV.p.injEq, PV.c.injEq, Value.int.injEq, Value.bool.injEq, and_true, true_and, ite_and_p, ite_or_p, Bool.decide_eq_true, eta_Airway, eta_Duct, eta_Fan, eta_Mine, eta_Survey]
  all_goals try (first | omega | (set_option maxHeartbeats 60000 in grind))
  · exact idxI_at h0 (by omega) hb h2
  · exact idxI_none hb h2
theorem idxI_pos {p : Int → Bool} {xs : List Int} (h : ¬idxI p xs = -1) : 0 ≤ idxI p xs ∧ idxI p xs < xs.length ∧ p (xs.getD (idxI p xs).toNat 0) = true ∧ ∀ j : Nat, (j : Int) < idxI p xs → p (xs.getD j 0) = false := by
  unfold idxI at h ⊢
  cases hf : xs.findIdx? p with
  | none => rw [hf] at h; exact absurd rfl h
  | some k =>
    rw [List.findIdx?_eq_some_iff_getElem] at hf
    obtain ⟨hk, hp, hlt⟩ := hf
    dsimp only
    refine ⟨by omega, by omega, by rw [Int.toNat_natCast, List.getD_eq_getElem?_getD, List.getElem?_eq_getElem hk]; exact hp, fun j hj => ?_⟩
    have := hlt j (by omega)
    rw [List.getD_eq_getElem?_getD, List.getElem?_eq_getElem (by omega)]
    simpa using this
theorem idxI_neg {p : Int → Bool} {xs : List Int} (h : idxI p xs = -1) : xs.filter (fun x => !p x) = xs := by
  unfold idxI at h
  cases hf : xs.findIdx? p with
  | none =>
    rw [List.findIdx?_eq_none_iff] at hf
    rw [List.filter_eq_self]
    intro x hx
    rw [hf x hx]; rfl
  | some k => rw [hf] at h; dsimp only at h; omega
theorem pre_keep {p : Int → Bool} {xs : List Int} : ∀ {n : Nat}, n ≤ xs.length → (∀ j : Nat, j < n → p (xs.getD j 0) = false) → (xs.take n).filter (fun x => !p x) = xs.take n := fun {n} hn h => by
  rw [List.filter_eq_self]
  intro x hx
  obtain ⟨j, hj, rfl⟩ := List.getElem_of_mem hx
  rw [List.length_take] at hj
  have := h j (by omega)
  rw [List.getD_eq_getElem?_getD, List.getElem?_eq_getElem (by omega)] at this
  rw [List.getElem_take]
  simpa using this
theorem filt_s {p : Int → Bool} {xs : List Int} {j : Int} (h0 : 0 ≤ j) (h1 : j < xs.length) : (xs.take (j + 1).toNat).filter (fun x => !p x) = (xs.take j.toNat).filter (fun x => !p x) ++ (if p (xs.getD j.toNat 0) = true then [] else [xs.getD j.toNat 0]) := by
  rw [take_snoc h0 h1 0, List.filter_append]
  congr 1
  generalize xs.getD j.toNat 0 = v
  cases e : p v <;> simp [e]
theorem take_set {ys : List Int} {k : Int} {v : Int} (h0 : 0 ≤ k) (h1 : k < ys.length) : (ys.set k.toNat v).take (k + 1).toNat = ys.take k.toNat ++ [v] := by
  rw [take_snoc h0 (by rw [List.length_set]; exact h1) 0, getD_set, if_pos ⟨rfl, by omega⟩, List.take_set_of_le (by omega)]
--@fn slices.DeleteFunc[[]int64,int64]
theorem del2 (xs : List Int) (m : Nat) (f : Nat) (c1 c2 : List PV) (p : Int → Bool) (hm : m = xs.length) (hl : xs.length ≤ 1000) (hf : ∀ x ∈ xs, FnSem Tryz.prog f [In x, .p .any (.ref c1), .p .any (.ref c2)] [] (Is [Bo (p x)] [])) : FnSem Tryz.prog 121 [.osl 0 0 m, .p .any (.fn f [.ref c1, .ref c2])] [.row false .flat (eI 0) (xs.map eI)] (RetV (fun v : Nat × List Int => [.osl 0 0 v.1]) (fun v => [.row false .flat (eI 0) (v.2.map eI)]) (fun v => v.1 ≤ v.2.length ∧ v.2.take v.1 = xs.filter (fun x => !p x))) := by
  subst hm
  refine FnSem.walk (zs := zeroPV Tryz.prog) (by kernel_rfl) Tryz.func121 rfl Tryz.results121 (by kernel_rfl) (by kernel_rfl) (by kernel_rfl) fun hw hh => ?_
  obtain ⟨w0, w1, _⟩ := hw
  first | replace w0 := wf_LI w0 | skip
  repeat' first
    | refine And.intro rfl ?_
    | refine GdF.mk (fun h => h) ?_
    | refine And.intro (Nat.succ_ne_zero _) ?_
    | refine And.intro (Nat.le_of_ble_eq_true rfl) ?_
    | refine SeqF.run ?_
    | refine ArgF.is (idx2 xs f c1 c2 p hf) ?_
    | refine ArgQ.is (fun hG => idx2 xs f c1 c2 p hf) rfl rfl ?_
    | (have hi := idxI_pos hb; refine EqI.mk (idxI p xs + 1) (fun _ => wrapI (by omega) (by omega)) ?_)
    | refine ArgF.is (hf (ys.getD j.toNat 0) (by rw [k5 j.toNat (by omega)]; exact getD_mem (by omega))) ?_
    | refine ArgQ.is (fun hG => hf (ys.getD j.toNat 0) (by rw [k5 j.toNat (by omega)]; exact getD_mem (by omega))) rfl rfl ?_
    | refine BndF.mk (fun _ => by show k.toNat ≤ xs.length ∧ xs.length ≤ _; simp only [List.length_map]; omega) ?_
    | refine BndF.mk (fun _ => by show 0 ≤ k.toNat ∧ k.toNat ≤ _; simp only [List.length_map]; omega) ?_
    | refine BndF.mk (fun _ => by show k.toNat + (xs.length - k.toNat) ≤ _; rw [List.length_map]; omega) ?_
    | refine EqL.mk ((ys.take k.toNat ++ List.replicate (xs.length - k.toNat) 0 ++ ys.drop (k.toNat + (xs.length - k.toNat))).map eI) (by rw [List.map_append, List.map_append, List.map_take, List.map_drop, List.map_replicate]; rfl) ?_
    | refine RetV.mk (α := Nat × List Int) (xs.length, xs) rfl rfl ?_
    | refine RetV.mk (α := Nat × List Int) (_, _) rfl rfl ?_
    | refine LoopF.at 5 rfl (LoopF.fix [0, 1] (Int × Int × List Int) (fun (k, j, ys) => 0 ≤ k ∧ k < j ∧ j ≤ xs.length ∧ ys.length = xs.length ∧ ys.take k.toNat = (xs.take j.toNat).filter (fun x => !p x) ∧ (∀ i : Nat, j ≤ (i : Int) → ys.getD i 0 = xs.getD i 0)) (fun (k, j, ys) => [(5, In k), (6, In j)]) (fun (k, j, ys) => [(0, .row false .flat (eI 0) (ys.map eI))]) (fun (k, j, ys) => ((xs.length - j).toNat)) ((idxI p xs, idxI p xs + 1, xs)) ?_)
    | (refine LoopB.of (T := Int × Int × List Int) ?_ ?_; rotate_left; rintro ⟨k, j, ys⟩ ⟨k0, k1, k2, k3, k4, k5⟩; rotate_left)
    | refine GhF.go ?_
    | refine MkF.row ?_
    | refine EqP.mk _ (gm eI 0 rfl) ?_
    | refine BndF.mk (fun _ => by omega) ?_
    | refine BndF.mk (fun _ => by simp only [List.length_map, List.length_cons, List.length_nil, List.length_append, List.length_set, List.length_replicate, iotaI_len]; omega) ?_
    | refine EqI.mk _ (fun _ => wrapI (by omega) (by omega)) ?_
    | refine EqI.mk _ (fun _ => rfl) ?_
    | refine EqN.mk _ (ln eI) ?_
    | refine EqN.mk _ (Nat.zero_add _) ?_
    | refine EqN.mk _ (Int.toNat_natCast _) ?_
    | refine EqN.mk _ rfl ?_
    | refine EqL.mk _ (tk eI (by first | rfl | assumption | omega | (simp only [List.length_map, List.length_cons, List.length_nil, List.length_append, List.length_set, List.length_replicate, iotaI_len]; done) | (simp only [List.length_map, List.length_cons, List.length_nil, List.length_append, List.length_set, List.length_replicate, iotaI_len]; omega))) ?_
    | refine EqL.mk _ (st eI) ?_
    | refine EqL.mk _ (dt eI) ?_
    | refine EqL.mk [] rfl ?_
    | refine EqL.mk [_] rfl ?_
    | refine EqL.mk _ rfl ?_
    | refine ArgF.is (c_slices_IndexFunc_int64_int64 _ _ _ _ _ (by first | assumption | omega)) ?_
    | refine ArgQ.is (fun hG => c_slices_IndexFunc_int64_int64 _ _ _ _ _ (by first | assumption | omega)) rfl rfl ?_
    | refine CallF.mk (CallW.is [] true rfl ?_)
    | refine CallG.mk ?_
    | (refine CondF.mk (fun hb => ?_) (fun hb => ?_) <;> try simp only [forall_const, eq_self, not_true_eq_false, not_false_eq_true, or_false, false_or, or_self, or_true, true_or, and_true, true_and, and_false, false_and, decide_true, decide_false, Bool.not_true, Bool.not_false, decide_eq_true_eq, decide_eq_false_iff_not, ite_and_p, ite_or_p, Bool.decide_eq_true, Bool.and_eq_true, Bool.or_eq_true, Bool.not_eq_true', Bool.not_eq_false', Bool.and_eq_false_imp, Bool.or_eq_false_iff, bne_iff_ne, beq_iff_eq, bne_eq_false_iff_eq, beq_eq_false_iff_ne, gt_iff_lt, ge_iff_le, Int.not_lt, Int.not_le, ne_eq, Bool.true_eq_false, Bool.false_eq_true, reduceCtorEq, eta_Airway, eta_Duct, eta_Fan, eta_Mine, eta_Survey] at hb)
    | apply BackF.auto3
    | refine BackB.mk ?_ ?_
    | refine RetF.auto (And.intro rfl ?_)
    | exact Is.mk rfl rfl
    | refine Is.mk ?_ rfl
    | refine Is.mk rfl ?_
    | refine Is.mk ?_ ?_
  all_goals try dsimp only
  all_goals first
    | omega
    | exact ⟨Nat.le_refl _, by rw [List.take_of_length_le (Nat.le_refl _), idxI_neg hb]⟩
    | (have hi := idxI_pos hb
       refine ⟨by omega, by omega, by omega, rfl, ?_, fun _ _ => rfl⟩
       rw [filt_s hi.1 hi.2.1, if_pos hi.2.2.1, List.append_nil, pre_keep (by omega) (fun j hj => hi.2.2.2 j (by omega))])
    | (have e5 := k5 j.toNat (by omega)
       refine ⟨by omega, by omega, by omega, by rw [List.length_set]; exact k3, ?_, fun i hi => ?_⟩
       · rw [take_set k0 (by omega), k4, filt_s (by omega) (by omega), if_neg (by rw [← e5]; simpa using hb), e5]
       · rw [getD_set, if_neg (by omega)]; exact k5 i (by omega))
    | (have e5 := k5 j.toNat (by omega)
       refine ⟨by omega, by omega, by omega, k3, ?_, fun i hi => k5 i (by omega)⟩
       rw [k4, filt_s (by omega) (by omega), if_pos (by rw [← e5]; simpa using hb), List.append_nil])
    | (show k.toNat - 0 ≤ _ ∧ List.take (k.toNat - 0) _ = _
       rw [Nat.sub_zero, List.append_assoc]
       refine ⟨by simp only [List.length_append, List.length_take]; omega, ?_⟩
       rw [List.take_append_of_le_length (by rw [List.length_take]; omega), List.take_take, Nat.min_self, k4, List.take_of_length_le (by omega)])
    | skip
end Go.Proofs.YtmifcbekaniiiaaGreatDoor
