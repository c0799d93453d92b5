/- Contracts of functions of the program, and what they compute. Conditions: those that each theorem states. -/
import Derived.Test.YtmifcbekaniiiaaGreatDoorProg
import Derived.Test.YtmifcbekaniiiaaGreatDoorA14
set_option linter.unusedVariables false
set_option linter.unusedSimpArgs false
namespace Go.Proofs.YtmifcbekaniiiaaGreatDoor
open Go.Av
attribute [local irreducible] Go.IntKind.wrap listS decS idS isName rd rdZ okSur loR hiR miR selS agA lgA cbLo cbHi oddA cbF surS
set_option maxRecDepth 20000
set_option maxHeartbeats 16000000

/-! Surveys: the law. -/
--@fn laws.r8Has
theorem hasS (xs : List Int) (x : Int) : FnSem Tryz.prog 19 [Lx (LI xs), In x] [] (Is [Bo (decide (x ∈ xs))] []) := by
  refine FnSem.walk (zs := zeroPV Tryz.prog) (by kernel_rfl) Tryz.func19 rfl Tryz.results19 (by kernel_rfl) (by kernel_rfl) (by kernel_rfl) fun hw hh => ?_
  obtain ⟨w0, w1, _⟩ := hw
  first | replace w0 := wf_LI w0 | skip
  first | replace w1 := wf_I w1 | skip
  repeat' first
    | refine And.intro rfl ?_
    | refine GdF.mk (fun h => h) ?_
    | refine And.intro (Nat.succ_ne_zero _) ?_
    | refine And.intro (Nat.le_of_ble_eq_true rfl) ?_
    | refine SeqF.run ?_
    | refine LoopF.at 2 rfl (LoopF.fix [0, 1] (Int) (fun i => 0 ≤ i ∧ i ≤ xs.length ∧ ∀ j : Nat, (j : Int) < i → ¬xs.getD j 0 = x) (fun i => [(5, In i)]) (fun i => []) (fun i => ((xs.length - i).toNat)) (0) ?_)
    | (refine LoopB.of (T := Int) ?_ ?_; rotate_left; rintro i ⟨h0, h1, h2⟩; rotate_left)
    | refine GhF.go ?_
    | refine EqP.mk _ (gm eI 0 rfl) ?_
    | refine BndF.mk (fun _ => by omega) ?_
    | refine BndF.mk (fun _ => by simp only [List.length_map, List.length_cons, List.length_nil, List.length_append, List.length_set, List.length_replicate, iotaI_len]; omega) ?_
    | refine EqI.mk _ (fun _ => wrapI (by omega) (by omega)) ?_
    | refine EqI.mk _ (fun _ => rfl) ?_
    | refine EqN.mk _ (ln eI) ?_
    | refine EqN.mk _ (Nat.zero_add _) ?_
    | refine EqN.mk _ (Int.toNat_natCast _) ?_
    | refine EqN.mk _ rfl ?_
    | (refine CondF.mk (fun hb => ?_) (fun hb => ?_) <;> try simp only [forall_const, eq_self, not_true_eq_false, not_false_eq_true, or_false, false_or, or_self, or_true, true_or, and_true, true_and, and_false, false_and, decide_true, decide_false, Bool.not_true, Bool.not_false, decide_eq_true_eq, decide_eq_false_iff_not, ite_and_p, ite_or_p, Bool.decide_eq_true, Bool.and_eq_true, Bool.or_eq_true, Bool.not_eq_true', Bool.not_eq_false', Bool.and_eq_false_imp, Bool.or_eq_false_iff, bne_iff_ne, beq_iff_eq, bne_eq_false_iff_eq, beq_eq_false_iff_ne, gt_iff_lt, ge_iff_le, Int.not_lt, Int.not_le, ne_eq, Bool.true_eq_false, Bool.false_eq_true, reduceCtorEq, eta_Airway, eta_Duct, eta_Fan, eta_Mine, eta_Survey] at hb)
    | apply BackF.auto
    | refine BackB.mk ?_ ?_
    | refine RetF.auto (And.intro rfl ?_)
    | exact Is.mk rfl rfl
    | refine Is.mk ?_ rfl
    | refine Is.mk rfl ?_
    | refine Is.mk ?_ ?_
  all_goals try dsimp only
  all_goals try simp only [Bo, I, OB.row.injEq, AV.osl.injEq, eI_same,  List.cons.injEq, AV.p.injEq, PV.c.injEq, Value.int.injEq, Value.bool.injEq, and_true, true_and, ite_and_p, ite_or_p, Bool.decide_eq_true, eta_Airway, eta_Duct, eta_Fan, eta_Mine, eta_Survey]
  · exact ⟨by omega, by omega, all_0⟩
  · rw [← hb]; exact (decide_eq_true (getD_mem (by omega))).symm
  · exact ⟨by omega, by omega, all_s h0 h2 hb⟩
  · omega
  · refine (decide_eq_false fun hm => ?_).symm
    obtain ⟨j, hj, e⟩ := List.getElem_of_mem hm
    refine h2 j (by omega) ?_
    rw [List.getD_eq_getElem?_getD, List.getElem?_eq_getElem hj]; exact e
def cntS (xs : List GSurvey) (a : ByteArray) (i : Int) : Int := (selI (fun i => decide ((xs.getD i.toNat default).airway = a)) i.toNat).length
theorem cntS_0 {xs : List GSurvey} {a : ByteArray} : cntS xs a 0 = 0 := rfl
theorem cntS_s {xs : List GSurvey} {a : ByteArray} {i : Int} (h0 : 0 ≤ i) (h : (surA xs i).airway = a) : cntS xs a (i + 1) = cntS xs a i + 1 := by
  unfold cntS
  rw [selI_s h0 (decide_eq_true h)]; simp
theorem cntS_n {xs : List GSurvey} {a : ByteArray} {i : Int} (h0 : 0 ≤ i) (h : ¬(surA xs i).airway = a) : cntS xs a (i + 1) = cntS xs a i := by
  unfold cntS
  rw [selI_n h0 (decide_eq_false h)]
theorem cntS_e {xs : List GSurvey} {a : ByteArray} {i : Int} (h0 : 0 ≤ i) (h : i = xs.length) : cntS xs a i = (selS xs a).length := by
  unfold cntS selS
  rw [show i.toNat = xs.length by omega]
theorem cntS_b {xs : List GSurvey} {a : ByteArray} {i : Int} (h0 : 0 ≤ i) : 0 ≤ cntS xs a i ∧ cntS xs a i ≤ i := by
  have := selI_le (p := fun i => decide ((xs.getD i.toNat default).airway = a)) (n := i.toNat)
  unfold cntS; omega
theorem cb3 {xs : List GSurvey} {a : ByteArray} : ((cbF xs a).2.2 = 3 ↔ (selS xs a).length = 0) := by
  unfold cbF
  split
  · exact ⟨fun _ => by assumption, fun _ => rfl⟩
  · rename_i h
    refine ⟨fun e => ?_, fun e => absurd e h⟩
    split at e
    · exact absurd (show (6 : Int) = 3 from e) (by decide)
    · exact absurd (show (0 : Int) = 3 from e) (by decide)
theorem sur_law {xs : List GSurvey} {a : ByteArray} {i : Int} (h : okSurs xs) (h0 : 0 ≤ i) (h1 : i < xs.length) (ha : (surA xs i).airway = a) : (i ∈ oddA xs ↔ ¬i ∈ lgA xs a) ∧ ((cbF xs a).2.2 = 0 → i ∈ lgA xs a ∧ inR (cbF xs a).1 (loR (surA xs i)) (hiR (surA xs i)) = true ∧ inR (cbF xs a).2.1 (loR (surA xs i)) (hiR (surA xs i)) = true) := by
  have hm : i ∈ selS xs a := sel_mem.2 ⟨⟨h0, h1⟩, ha⟩
  refine ⟨by rw [odd_mem h0 h1, ha], fun e => ?_⟩
  have hp := List.length_pos_of_mem hm
  unfold cbF at e ⊢
  rw [if_neg (by omega)] at e ⊢
  split at e
  · exact absurd e (by decide)
  · rename_i hc
    rw [if_neg hc]
    have hi := cb_in hm
    rw [lg_all h hp (by omega)]
    exact ⟨hm, inR_iff.2 ⟨by dsimp only; omega, by dsimp only; omega⟩, inR_iff.2 ⟨by dsimp only; omega, by dsimp only; omega⟩⟩
theorem take_n {ws s : List Int} {n : Nat} (h : n ≤ ws.length) (e : ws.take n = s) : n = s.length := by
  rw [← e, List.length_take]; omega
theorem sur_end {xs : List GSurvey} {a : ByteArray} {n : Nat} {ct : Int} (h : okSurs xs) (hn : n = (lgA xs a).length) (hc : ct = (selS xs a).length) : (if (if decide ((n : Int) ≤ ct) = true then (ct == 0) == ((if (selS xs a).length = 0 then (3 : Int) else 0) == 3) else false) = true then (if ((if (selS xs a).length = 0 then (3 : Int) else 0) != 0) = true then true else decide ((n : Int) ≥ 1)) else false) = true := by
  have h1 := lg_len (xs := xs) (a := a)
  rw [decide_eq_true (show (n : Int) ≤ ct by omega)]
  by_cases e : (selS xs a).length = 0
  · rw [if_pos e, show ct = 0 by omega]; rfl
  · have h2 := lg_pos (a := a) h (by omega)
    have h3 : (ct == 0) = false := beq_eq_false_iff_ne.2 (by omega)
    rw [if_neg e, h3, decide_eq_true (show (n : Int) ≥ 1 by omega)]; rfl
theorem sur_3 {xs : List GSurvey} {a : ByteArray} : ((cbF xs a).2.2 == 3) = ((if (selS xs a).length = 0 then (3 : Int) else 0) == 3) := by
  by_cases e : (selS xs a).length = 0
  · rw [if_pos e, cb3.2 e]
  · rw [if_neg e]
    exact beq_eq_false_iff_ne.2 fun c => e (cb3.1 c)
theorem c_laws_FnSurveys (c1 c2 : List Int) : FnSem Tryz.prog 3 [Lx (LY c1), Lx (LY c2)] [] (Is [Bo true] []) := by
  refine FnSem.walk (zs := zeroPV Tryz.prog) (by kernel_rfl) Tryz.func3 rfl Tryz.results3 (by kernel_rfl) (by kernel_rfl) (by kernel_rfl) fun hw hh => ?_
  obtain ⟨w0, w1, _⟩ := hw
  first | replace w0 := wf_LY w0 | skip
  first | replace w1 := wf_LY w1 | skip
  repeat' first
    | refine And.intro rfl ?_
    | refine GdF.mk (fun h => h) ?_
    | refine And.intro (Nat.succ_ne_zero _) ?_
    | refine And.intro (Nat.le_of_ble_eq_true rfl) ?_
    | refine SeqF.run ?_
    | (refine ArgF.ret (c_spec_R8Survey c1) ?_; intro x hx; have hM := mid_in hx; have hA := asR_b (loA x); have hB := asR_b (hiA x))
    | refine ArgF.is (bndT x hx) ?_
    | refine ArgQ.is (fun hG => bndT x hx) rfl rfl ?_
    | refine ArgF.is (midT x hx) ?_
    | refine ArgQ.is (fun hG => midT x hx) rfl rfl ?_
    | refine ArgF.is (c_impl_SurveyText x hx) ?_
    | refine ArgQ.is (fun hG => c_impl_SurveyText x hx) rfl rfl ?_
    | refine ArgF.is (c_impl_ReadSurvey x hx) ?_
    | refine ArgQ.is (fun hG => c_impl_ReadSurvey x hx) rfl rfl ?_
    | refine ArgF.is (fitT x (miR x) hx) ?_
    | refine ArgQ.is (fun hG => fitT x (miR x) hx) rfl rfl ?_
    | (refine ArgF.ret (c_spec_R8Surveys c2) ?_; rintro ⟨n0, xs⟩ ⟨hn0, hs⟩; dsimp only at hn0 hs ⊢; subst hn0; have hl := hs.ln)
    | (refine ArgF.ret (oddT xs hs) ?_; rintro ⟨n1, os⟩ ⟨hn1, ho⟩; dsimp only at hn1 ho ⊢; subst ho; subst hn1)
    | refine ArgF.is (c_impl_CommonBounds xs ⟨#[97]⟩ hs) ?_
    | refine ArgQ.is (fun hG => c_impl_CommonBounds xs ⟨#[97]⟩ hs) rfl rfl ?_
    | (refine ArgF.ret (c_impl_LargestAgreement xs ⟨#[97]⟩ hs) ?_; rintro ⟨n2, ws⟩ ⟨hn2, hw⟩; dsimp only at hn2 hw ⊢; have hn3 := take_n hn2 hw)
    | refine EqL.mk _ (tkL hw) ?_
    | refine EqL.mk _ (tk GSurvey.cells rfl) ?_
    | refine ArgF.is (hasS (lgA xs ⟨#[97]⟩) i) ?_
    | refine ArgQ.is (fun hG => hasS (lgA xs ⟨#[97]⟩) i) rfl rfl ?_
    | refine ArgF.is (hasS (oddA xs) i) ?_
    | refine ArgQ.is (fun hG => hasS (oddA xs) i) rfl rfl ?_
    | refine ArgQ.is (fun hG => fitT (surA xs i) (cbF xs ⟨#[97]⟩).1 (hs.nth k0 (by omega))) rfl rfl ?_
    | refine ArgQ.is (fun hG => fitT (surA xs i) (cbF xs ⟨#[97]⟩).2.1 (hs.nth k0 (by omega))) rfl rfl ?_
    | refine EqI.mk _ (fun _ => by have q := cntS_b (xs := xs) (a := ⟨#[97]⟩) k0; exact wrapI (by omega) (by omega)) ?_
    | refine LoopF.at 17 rfl (LoopF.fix [13, 14, 16, 17, 18, 19, 20] (Int × Int) (fun (ct, i) => 0 ≤ i ∧ i ≤ xs.length ∧ ct = cntS xs ⟨#[97]⟩ i) (fun (ct, i) => [(21, In ct), (22, In i)]) (fun (ct, i) => []) (fun (ct, i) => ((xs.length - i).toNat)) ((0, 0)) ?_)
    | (refine LoopB.of (T := Int × Int) ?_ ?_; rotate_left; rintro ⟨ct, i⟩ ⟨k0, k1, k2⟩; rotate_left)
    | refine GhF.go ?_
    | refine GdS.keep ?_
    | refine AggN.mk true (by kernel_rfl) (iff_of_true rfl rfl) ?_
    | refine AggE.mk true (by kernel_rfl) (iff_of_true rfl rfl) ?_
    | refine EqP.mk _ (gm eY 0 rfl) ?_
    | refine EqP.mk _ (gm GSurvey.cells default rfl) ?_
    | refine EqP.mk _ (gm eI 0 rfl) ?_
    | refine BndF.mk (fun _ => by omega) ?_
    | refine BndF.mk (fun _ => by simp only [List.length_map, List.length_cons, List.length_nil, List.length_append, List.length_set, List.length_replicate, iotaI_len]; omega) ?_
    | refine BndF.mk (fun hG => by simp only [forall_const, eq_self, not_true_eq_false, not_false_eq_true, or_false, false_or, or_self, or_true, true_or, and_true, true_and, and_false, false_and, decide_true, decide_false, Bool.not_true, Bool.not_false, decide_eq_true_eq, decide_eq_false_iff_not, ite_and_p, ite_or_p, Bool.decide_eq_true, Bool.and_eq_true, Bool.or_eq_true, Bool.not_eq_true', Bool.not_eq_false', Bool.and_eq_false_imp, Bool.or_eq_false_iff, bne_iff_ne, beq_iff_eq, bne_eq_false_iff_eq, beq_eq_false_iff_ne, gt_iff_lt, ge_iff_le, Int.not_lt, Int.not_le, ne_eq, Bool.true_eq_false, Bool.false_eq_true, reduceCtorEq, eta_Airway, eta_Duct, eta_Fan, eta_Mine, eta_Survey, bytes_nil] at hG; (try simp only [List.length_map]); omega) ?_
    | refine EqI.mk _ (fun _ => wrapI (by omega) (by omega)) ?_
    | refine EqI.mk _ (fun _ => rfl) ?_
    | refine EqN.mk _ (ln eY) ?_
    | refine EqN.mk _ (ln GSurvey.cells) ?_
    | refine EqN.mk _ (ln eI) ?_
    | refine EqN.mk _ (Nat.zero_add _) ?_
    | refine EqN.mk _ (Int.toNat_natCast _) ?_
    | refine EqN.mk _ rfl ?_
    | refine EqL.mk _ (tk eY (by first | rfl | assumption | omega | (simp only [List.length_map, List.length_cons, List.length_nil, List.length_append, List.length_set, List.length_replicate, iotaI_len]; done) | (simp only [List.length_map, List.length_cons, List.length_nil, List.length_append, List.length_set, List.length_replicate, iotaI_len]; omega))) ?_
    | refine EqL.mk _ (st eY) ?_
    | refine EqL.mk _ (tk GSurvey.cells (by first | rfl | assumption | omega | (simp only [List.length_map, List.length_cons, List.length_nil, List.length_append, List.length_set, List.length_replicate, iotaI_len]; done) | (simp only [List.length_map, List.length_cons, List.length_nil, List.length_append, List.length_set, List.length_replicate, iotaI_len]; omega))) ?_
    | refine EqL.mk _ (st GSurvey.cells) ?_
    | refine EqL.mk _ (tk eI (by first | rfl | assumption | omega | (simp only [List.length_map, List.length_cons, List.length_nil, List.length_append, List.length_set, List.length_replicate, iotaI_len]; done) | (simp only [List.length_map, List.length_cons, List.length_nil, List.length_append, List.length_set, List.length_replicate, iotaI_len]; omega))) ?_
    | refine EqL.mk _ (st eI) ?_
    | refine EqL.mk [] rfl ?_
    | refine EqL.mk [_] rfl ?_
    | refine EqL.mk _ rfl ?_
    | refine ArgF.is (c_laws_r8Long ..) ?_
    | refine ArgQ.is (fun hG => c_laws_r8Long ..) rfl rfl ?_
    | refine ArgF.is (c_spec_R8Survey ..) ?_
    | refine ArgQ.is (fun hG => c_spec_R8Survey ..) rfl rfl ?_
    | refine ArgF.is (c_impl_BoundsOf ..) ?_
    | refine ArgQ.is (fun hG => c_impl_BoundsOf ..) rfl rfl ?_
    | refine ArgF.is (c_impl_MiddleOf ..) ?_
    | refine ArgQ.is (fun hG => c_impl_MiddleOf ..) rfl rfl ?_
    | refine ArgF.is (c_impl_SurveyText ⟨_, _, _, _, _⟩ (by first | assumption | omega)) ?_
    | refine ArgQ.is (fun hG => c_impl_SurveyText ⟨_, _, _, _, _⟩ (by first | assumption | omega)) rfl rfl ?_
    | refine ArgQ.is (fun hG => c_impl_SurveyText ⟨_, _, _, _, _⟩ (by simp only [forall_const, eq_self, not_true_eq_false, not_false_eq_true, or_false, false_or, or_self, or_true, true_or, and_true, true_and, and_false, false_and, decide_true, decide_false, Bool.not_true, Bool.not_false, decide_eq_true_eq, decide_eq_false_iff_not, ite_and_p, ite_or_p, Bool.decide_eq_true, Bool.and_eq_true, Bool.or_eq_true, Bool.not_eq_true', Bool.not_eq_false', Bool.and_eq_false_imp, Bool.or_eq_false_iff, bne_iff_ne, beq_iff_eq, bne_eq_false_iff_eq, beq_eq_false_iff_ne, gt_iff_lt, ge_iff_le, Int.not_lt, Int.not_le, ne_eq, Bool.true_eq_false, Bool.false_eq_true, reduceCtorEq, eta_Airway, eta_Duct, eta_Fan, eta_Mine, eta_Survey, bytes_nil] at hG; omega)) rfl rfl ?_
    | refine ArgF.is (c_impl_ReadSurvey ⟨_, _, _, _, _⟩ (by first | assumption | omega)) ?_
    | refine ArgQ.is (fun hG => c_impl_ReadSurvey ⟨_, _, _, _, _⟩ (by first | assumption | omega)) rfl rfl ?_
    | refine ArgQ.is (fun hG => c_impl_ReadSurvey ⟨_, _, _, _, _⟩ (by simp only [forall_const, eq_self, not_true_eq_false, not_false_eq_true, or_false, false_or, or_self, or_true, true_or, and_true, true_and, and_false, false_and, decide_true, decide_false, Bool.not_true, Bool.not_false, decide_eq_true_eq, decide_eq_false_iff_not, ite_and_p, ite_or_p, Bool.decide_eq_true, Bool.and_eq_true, Bool.or_eq_true, Bool.not_eq_true', Bool.not_eq_false', Bool.and_eq_false_imp, Bool.or_eq_false_iff, bne_iff_ne, beq_iff_eq, bne_eq_false_iff_eq, beq_eq_false_iff_ne, gt_iff_lt, ge_iff_le, Int.not_lt, Int.not_le, ne_eq, Bool.true_eq_false, Bool.false_eq_true, reduceCtorEq, eta_Airway, eta_Duct, eta_Fan, eta_Mine, eta_Survey, bytes_nil] at hG; omega)) rfl rfl ?_
    | refine ArgF.is (c_impl_FitsSurvey ..) ?_
    | refine ArgQ.is (fun hG => c_impl_FitsSurvey ..) rfl rfl ?_
    | refine ArgF.is (c_spec_R8Surveys ..) ?_
    | refine ArgQ.is (fun hG => c_spec_R8Surveys ..) rfl rfl ?_
    | refine ArgF.is (c_impl_OddSurveys ..) ?_
    | refine ArgQ.is (fun hG => c_impl_OddSurveys ..) rfl rfl ?_
    | refine ArgF.is (c_impl_CommonBounds _ _ (by first | assumption | omega)) ?_
    | refine ArgQ.is (fun hG => c_impl_CommonBounds _ _ (by first | assumption | omega)) rfl rfl ?_
    | refine ArgQ.is (fun hG => c_impl_CommonBounds _ _ (by simp only [forall_const, eq_self, not_true_eq_false, not_false_eq_true, or_false, false_or, or_self, or_true, true_or, and_true, true_and, and_false, false_and, decide_true, decide_false, Bool.not_true, Bool.not_false, decide_eq_true_eq, decide_eq_false_iff_not, ite_and_p, ite_or_p, Bool.decide_eq_true, Bool.and_eq_true, Bool.or_eq_true, Bool.not_eq_true', Bool.not_eq_false', Bool.and_eq_false_imp, Bool.or_eq_false_iff, bne_iff_ne, beq_iff_eq, bne_eq_false_iff_eq, beq_eq_false_iff_ne, gt_iff_lt, ge_iff_le, Int.not_lt, Int.not_le, ne_eq, Bool.true_eq_false, Bool.false_eq_true, reduceCtorEq, eta_Airway, eta_Duct, eta_Fan, eta_Mine, eta_Survey, bytes_nil] at hG; omega)) rfl rfl ?_
    | refine ArgF.is (c_impl_LargestAgreement _ _ (by first | assumption | omega)) ?_
    | refine ArgQ.is (fun hG => c_impl_LargestAgreement _ _ (by first | assumption | omega)) rfl rfl ?_
    | refine ArgQ.is (fun hG => c_impl_LargestAgreement _ _ (by simp only [forall_const, eq_self, not_true_eq_false, not_false_eq_true, or_false, false_or, or_self, or_true, true_or, and_true, true_and, and_false, false_and, decide_true, decide_false, Bool.not_true, Bool.not_false, decide_eq_true_eq, decide_eq_false_iff_not, ite_and_p, ite_or_p, Bool.decide_eq_true, Bool.and_eq_true, Bool.or_eq_true, Bool.not_eq_true', Bool.not_eq_false', Bool.and_eq_false_imp, Bool.or_eq_false_iff, bne_iff_ne, beq_iff_eq, bne_eq_false_iff_eq, beq_eq_false_iff_ne, gt_iff_lt, ge_iff_le, Int.not_lt, Int.not_le, ne_eq, Bool.true_eq_false, Bool.false_eq_true, reduceCtorEq, eta_Airway, eta_Duct, eta_Fan, eta_Mine, eta_Survey, bytes_nil] at hG; omega)) rfl rfl ?_
    | refine ArgF.is (c_laws_r8Has ..) ?_
    | refine ArgQ.is (fun hG => c_laws_r8Has ..) rfl rfl ?_
    | refine CallF.mk (CallW.is [] true rfl ?_)
    | refine CallG.mk ?_
    | (refine CondF.mk (fun hb => ?_) (fun hb => ?_) <;> try simp only [forall_const, eq_self, not_true_eq_false, not_false_eq_true, or_false, false_or, or_self, or_true, true_or, and_true, true_and, and_false, false_and, decide_true, decide_false, Bool.not_true, Bool.not_false, decide_eq_true_eq, decide_eq_false_iff_not, ite_and_p, ite_or_p, Bool.decide_eq_true, Bool.and_eq_true, Bool.or_eq_true, Bool.not_eq_true', Bool.not_eq_false', Bool.and_eq_false_imp, Bool.or_eq_false_iff, bne_iff_ne, beq_iff_eq, bne_eq_false_iff_eq, beq_eq_false_iff_ne, gt_iff_lt, ge_iff_le, Int.not_lt, Int.not_le, ne_eq, Bool.true_eq_false, Bool.false_eq_true, reduceCtorEq, eta_Airway, eta_Duct, eta_Fan, eta_Mine, eta_Survey] at hb)
    | apply BackF.auto2
    | refine BackB.mk ?_ ?_
    | refine RetF.auto (And.intro rfl ?_)
    | exact Is.mk rfl rfl
    | refine Is.mk ?_ rfl
    | refine Is.mk rfl ?_
    | refine Is.mk ?_ ?_
  all_goals try dsimp only
  all_goals first
    | omega
    | (exfalso
       have e : inR (miR x) (loR x) (hiR x) = true := inR_iff.2 hM
       rw [e] at hb
       unfold loR hiR at hb hM
       simp only [Bool.true_eq_false, or_false] at hb
       omega)
    | exact absurd sur_3 hb
    | exact ⟨by omega, by omega, rfl⟩
    | exact ⟨by omega, by omega, by rw [cntS_n k0 hb]; exact k2⟩
    | exact ⟨by omega, by omega, by rw [cntS_s k0 (by assumption), k2]⟩
    | (exfalso
       have e := sur_law (a := ⟨#[97]⟩) hs k0 (by assumption) (by assumption)
       rcases hb with hb | ⟨hb, hc⟩
       · by_cases e2 : i ∈ lgA xs ⟨#[97]⟩
         · have e3 : ¬i ∈ oddA xs := fun c => (e.1.1 c) e2
           rw [decide_eq_true e2, decide_eq_false e3] at hb; cases hb
         · rw [decide_eq_false e2, decide_eq_true (e.1.2 e2)] at hb; cases hb
       · have e2 := e.2 hb
         rw [e2.2.1, e2.2.2] at hc
         simp only [e2.1, not_true_eq_false, Bool.true_eq_false, or_self] at hc)
    | exact congrArg (fun b => [Bo b]) (sur_end hs hn3 (by rw [k2]; exact cntS_e k0 (by omega)))
    | skip
end Go.Proofs.YtmifcbekaniiiaaGreatDoor
