/- Contracts of functions of the program, and what they compute. Conditions: those that each theorem states. -/
import Derived.Test.YtmifcbekaniiiaaGreatDoorProg
import Derived.Test.YtmifcbekaniiiaaGreatDoorA12
import Derived.Test.YtmifcbekaniiiaaGreatDoorF1
set_option linter.unusedVariables false
set_option linter.unusedSimpArgs false
namespace Go.Proofs.YtmifcbekaniiiaaGreatDoor
open Go.Av
attribute [local irreducible] Go.IntKind.wrap listS decS idS isName rd rdZ okSur loR hiR selS agA lgA cbLo cbHi
set_option maxRecDepth 20000
set_option maxHeartbeats 16000000

/-! Surveys: agreement, bounds: the program. -/
theorem c_impl_largestAgreement_1 (xs : List GSurvey) (r k : Int) (h : okSurs xs) (hk : 0 ≤ k ∧ k < xs.length) : FnSem Tryz.prog 159 [In k, .p .any (.ref [.lst (GSurvey.cells default) (xs.map GSurvey.cells)]), .p .any (.ref [.c (.int .i64 r)])] [] (Is [Bo (offP xs r k)] []) := by
  have hl := h.ln
  refine FnSem.walk (zs := zeroPV Tryz.prog) (by kernel_rfl) Tryz.func159 rfl Tryz.results159 (by kernel_rfl) (by kernel_rfl) (by kernel_rfl) fun hw hh => ?_
  obtain ⟨w0, w1, w2, _⟩ := hw
  first | replace w0 := wf_I w0 | skip
  first | replace w1 := wf_I w1 | replace w1 := wf_Y w1 | replace w1 := wf_S w1 | replace w1 := wf_LI w1 | replace w1 := wf_LY w1 | replace w1 := wf_LLI w1 | replace w1 := wf_Ls w1 | skip
  first | replace w2 := wf_I w2 | replace w2 := wf_Y w2 | replace w2 := wf_S w2 | replace w2 := wf_LI w2 | replace w2 := wf_LY w2 | replace w2 := wf_LLI w2 | replace w2 := wf_Ls w2 | skip
  repeat' first
    | refine And.intro rfl ?_
    | refine GdF.mk (fun h => h) ?_
    | refine And.intro (Nat.succ_ne_zero _) ?_
    | refine And.intro (Nat.le_of_ble_eq_true rfl) ?_
    | refine SeqF.run ?_
    | refine ArgF.is (c_impl_Survey_bounds (surA xs k) (h.nth hk.1 hk.2)) ?_
    | refine ArgQ.is (fun hG => c_impl_Survey_bounds (surA xs k) (h.nth hk.1 hk.2)) rfl rfl ?_
    | refine GhF.go ?_
    | refine EqP.mk _ (gm GSurvey.cells default rfl) ?_
    | refine BndF.mk (fun _ => by omega) ?_
    | refine BndF.mk (fun _ => by simp only [List.length_map, List.length_cons, List.length_nil, List.length_append, List.length_set, List.length_replicate, iotaI_len]; omega) ?_
    | refine EqN.mk _ (Nat.zero_add _) ?_
    | refine EqN.mk _ (Int.toNat_natCast _) ?_
    | refine EqN.mk _ rfl ?_
    | refine EqL.mk _ (tk GSurvey.cells (by first | rfl | assumption | omega | (simp only [List.length_map, List.length_cons, List.length_nil, List.length_append, List.length_set, List.length_replicate, iotaI_len]; done) | (simp only [List.length_map, List.length_cons, List.length_nil, List.length_append, List.length_set, List.length_replicate, iotaI_len]; omega))) ?_
    | refine EqL.mk [] rfl ?_
    | refine EqL.mk [_] rfl ?_
    | refine EqL.mk _ rfl ?_
    | refine ArgF.is (c_impl_Survey_bounds ⟨_, _, _, _, _⟩ (by first | assumption | omega)) ?_
    | refine ArgQ.is (fun hG => c_impl_Survey_bounds ⟨_, _, _, _, _⟩ (by first | assumption | omega)) rfl rfl ?_
    | refine ArgF.is (c_impl_within ..) ?_
    | refine ArgQ.is (fun hG => c_impl_within ..) rfl rfl ?_
    | refine CallF.mk (CallW.is [] true rfl ?_)
    | refine CallG.mk ?_
    | (refine CondF.mk (fun hb => ?_) (fun hb => ?_) <;> try simp only [forall_const, eq_self, not_true_eq_false, not_false_eq_true, or_false, false_or, or_self, or_true, true_or, and_true, true_and, and_false, false_and, decide_true, decide_false, Bool.not_true, Bool.not_false, decide_eq_true_eq, decide_eq_false_iff_not, ite_and_p, ite_or_p, Bool.decide_eq_true, Bool.and_eq_true, Bool.or_eq_true, Bool.not_eq_true', Bool.not_eq_false', Bool.and_eq_false_imp, Bool.or_eq_false_iff, bne_iff_ne, beq_iff_eq, bne_eq_false_iff_eq, beq_eq_false_iff_ne, gt_iff_lt, ge_iff_le, Int.not_lt, Int.not_le, ne_eq, Bool.true_eq_false, Bool.false_eq_true, reduceCtorEq, eta_Airway, eta_Duct, eta_Fan, eta_Mine, eta_Survey] at hb)
    | refine RetF.auto (And.intro rfl ?_)
    | exact Is.mk rfl rfl
    | refine Is.mk ?_ rfl
    | refine Is.mk rfl ?_
    | refine Is.mk ?_ ?_
  all_goals try dsimp only
  all_goals skip
theorem lgF_e {xs : List GSurvey} {a : ByteArray} {b : List Int} {i : Int} : lgF xs a b i = if (agA xs a (loR (surA xs i))).length > b.length then agA xs a (loR (surA xs i)) else b := rfl
theorem lg_s {xs : List GSurvey} {a : ByteArray} {j : Int} (h0 : 0 ≤ j) (h1 : j < (selS xs a).length) : foldT (lgF xs a) [] (selS xs a) (j + 1) = lgF xs a (foldT (lgF xs a) [] (selS xs a) j) ((selS xs a).getD j.toNat 0) := foldT_s h0 h1 0
theorem sel_nth {xs : List GSurvey} {a : ByteArray} {j : Int} (h0 : 0 ≤ j) (h1 : j < (selS xs a).length) : 0 ≤ (selS xs a).getD j.toNat 0 ∧ (selS xs a).getD j.toNat 0 < xs.length :=
  (sel_mem.1 (getD_mem (d := 0) (show j.toNat < (selS xs a).length by omega))).1
theorem c_impl_largestAgreement (xs : List GSurvey) (a : ByteArray) (h : okSurs xs) : FnSem Tryz.prog 84 [LS xs, Str a] [] (RetV (fun v : Nat × List Int => [.osl 0 0 v.1]) (fun v => [Rw .flat (eI 0) (v.2.map eI)]) (fun v => v.1 ≤ v.2.length ∧ v.2.take v.1 = lgA xs a)) := by
  have hl := h.ln
  have hs := sel_len (xs := xs) (a := a)
  refine FnSem.walk (zs := zeroPV Tryz.prog) (by kernel_rfl) Tryz.func84 rfl Tryz.results84 (by kernel_rfl) (by kernel_rfl) (by kernel_rfl) fun hw hh => ?_
  obtain ⟨w0, w1, _⟩ := hw
  first | replace w0 := wf_LSurvey w0 | skip
  first | replace w1 := wf_S w1 | skip
  repeat' first
    | refine And.intro rfl ?_
    | refine GdF.mk (fun h => h) ?_
    | refine And.intro (Nat.succ_ne_zero _) ?_
    | refine And.intro (Nat.le_of_ble_eq_true rfl) ?_
    | refine SeqF.run ?_
    | refine ArgF.is (suvT xs a hl) ?_
    | refine ArgQ.is (fun hG => suvT xs a hl) rfl rfl ?_
    | refine ArgF.is (c_impl_Survey_bounds (surA xs ((selS xs a).getD j.toNat 0)) (h.nth (sel_nth j0 (by omega)).1 (sel_nth j0 (by omega)).2)) ?_
    | refine ArgQ.is (fun hG => c_impl_Survey_bounds (surA xs ((selS xs a).getD j.toNat 0)) (h.nth (sel_nth j0 (by omega)).1 (sel_nth j0 (by omega)).2)) rfl rfl ?_
    | (refine CallF.own (f := 121) [0] true ?_)
    | (refine ArgF.ret (del2 (selS xs a) (selS xs a).length _ _ _ (offP xs (loR (surA xs ((selS xs a).getD j.toNat 0)))) rfl (by omega) (fun k hk => c_impl_largestAgreement_1 xs (loR (surA xs ((selS xs a).getD j.toNat 0))) k h (sel_mem.1 hk).1)) ?_; rintro ⟨m, ws⟩ ⟨hm, hw⟩; dsimp only at hm hw ⊢)
    | refine BndF.mk (fun _ => by have q := sel_nth (xs := xs) (a := a) j0 (by omega); rw [List.length_map]; exact q) ?_
    | refine LoopF.at 3 rfl (LoopF.fix [1, 2, 13, 14] (Int × Nat × List Int) (fun (j, n, zs) => 0 ≤ j ∧ j ≤ (selS xs a).length ∧ n ≤ zs.length ∧ zs.take n = foldT (lgF xs a) [] (selS xs a) j) (fun (j, n, zs) => [(15, In j), (5, .osl 2 0 n)]) (fun (j, n, zs) => [(2, Rw .flat (eI 0) (zs.map eI))]) (fun (j, n, zs) => (((selS xs a).length - j).toNat)) ((0, 0, [])) ?_)
    | (refine LoopB.of (T := Int × Nat × List Int) ?_ ?_; rotate_left; rintro ⟨j, n, zs⟩ ⟨j0, j1, j2, j3⟩; rotate_left)
    | refine RetV.mk (α := Nat × List Int) (_, _) rfl rfl ?_
    | refine GhF.go ?_
    | refine MkF.row ?_
    | refine EqP.mk _ (gm GSurvey.cells default rfl) ?_
    | refine EqP.mk _ (gm eI 0 rfl) ?_
    | refine BndF.mk (fun _ => by omega) ?_
    | refine BndF.mk (fun _ => by simp only [List.length_map, List.length_cons, List.length_nil, List.length_append, List.length_set, List.length_replicate, iotaI_len]; omega) ?_
    | refine EqI.mk _ (fun _ => wrapI (by omega) (by omega)) ?_
    | refine EqI.mk _ (fun _ => rfl) ?_
    | refine EqN.mk _ (ln GSurvey.cells) ?_
    | refine EqN.mk _ (ln eI) ?_
    | refine EqN.mk _ (Nat.zero_add _) ?_
    | refine EqN.mk _ (Int.toNat_natCast _) ?_
    | refine EqN.mk _ rfl ?_
    | refine EqL.mk _ (tk GSurvey.cells (by first | rfl | assumption | omega | (simp only [List.length_map, List.length_cons, List.length_nil, List.length_append, List.length_set, List.length_replicate, iotaI_len]; done) | (simp only [List.length_map, List.length_cons, List.length_nil, List.length_append, List.length_set, List.length_replicate, iotaI_len]; omega))) ?_
    | refine EqL.mk _ (st GSurvey.cells) ?_
    | refine EqL.mk _ (dt GSurvey.cells) ?_
    | refine EqL.mk _ (tk eI (by first | rfl | assumption | omega | (simp only [List.length_map, List.length_cons, List.length_nil, List.length_append, List.length_set, List.length_replicate, iotaI_len]; done) | (simp only [List.length_map, List.length_cons, List.length_nil, List.length_append, List.length_set, List.length_replicate, iotaI_len]; omega))) ?_
    | refine EqL.mk _ (st eI) ?_
    | refine EqL.mk _ (dt eI) ?_
    | refine EqL.mk [] rfl ?_
    | refine EqL.mk [_] rfl ?_
    | refine EqL.mk _ rfl ?_
    | refine ArgF.is (c_impl_surveysOf ..) ?_
    | refine ArgQ.is (fun hG => c_impl_surveysOf ..) rfl rfl ?_
    | refine ArgF.is (c_impl_Survey_bounds ⟨_, _, _, _, _⟩ (by first | assumption | omega)) ?_
    | refine ArgQ.is (fun hG => c_impl_Survey_bounds ⟨_, _, _, _, _⟩ (by first | assumption | omega)) rfl rfl ?_
    | refine ArgF.is (c_slices_DeleteFunc_int64_int64 ..) ?_
    | refine ArgQ.is (fun hG => c_slices_DeleteFunc_int64_int64 ..) rfl rfl ?_
    | refine CallF.mk (CallW.is [] true rfl ?_)
    | refine CallG.mk ?_
    | (refine CondF.mk (fun hb => ?_) (fun hb => ?_) <;> try simp only [forall_const, eq_self, not_true_eq_false, not_false_eq_true, or_false, false_or, or_self, or_true, true_or, and_true, true_and, and_false, false_and, decide_true, decide_false, Bool.not_true, Bool.not_false, decide_eq_true_eq, decide_eq_false_iff_not, ite_and_p, ite_or_p, Bool.decide_eq_true, Bool.and_eq_true, Bool.or_eq_true, Bool.not_eq_true', Bool.not_eq_false', Bool.and_eq_false_imp, Bool.or_eq_false_iff, bne_iff_ne, beq_iff_eq, bne_eq_false_iff_eq, beq_eq_false_iff_ne, gt_iff_lt, ge_iff_le, Int.not_lt, Int.not_le, ne_eq, Bool.true_eq_false, Bool.false_eq_true, reduceCtorEq, eta_Airway, eta_Duct, eta_Fan, eta_Mine, eta_Survey] at hb)
    | apply BackF.auto3
    | refine BackB.mk ?_ ?_
    | refine RetF.auto (And.intro rfl ?_)
    | exact Is.mk rfl rfl
    | refine Is.mk ?_ rfl
    | refine Is.mk rfl ?_
    | refine Is.mk ?_ ?_
  all_goals try dsimp only
  all_goals first
    | omega
    | exact ⟨by omega, by omega, Nat.le_refl _, rfl⟩
    | exact ⟨j2, by rw [j3]; unfold lgA; exact foldT_e (by omega)⟩
    | (have e : agA xs a (loR (surA xs ((selS xs a).getD j.toNat 0))) = ws.take m := by unfold agA; exact hw.symm
       have e2 := congrArg List.length e
       have e3 := congrArg List.length j3
       rw [List.length_take] at e2 e3
       refine ⟨by omega, by omega, hm, ?_⟩
       rw [lg_s j0 (by omega)]
       rw [lgF_e, if_pos (by omega)]
       exact e.symm)
    | (have e : agA xs a (loR (surA xs ((selS xs a).getD j.toNat 0))) = ws.take m := by unfold agA; exact hw.symm
       have e2 := congrArg List.length e
       have e3 := congrArg List.length j3
       rw [List.length_take] at e2 e3
       refine ⟨by omega, by omega, j2, ?_⟩
       rw [lg_s j0 (by omega)]
       rw [lgF_e, if_neg (by omega)]
       exact j3)
    | skip
theorem cbL_s {xs : List GSurvey} {a : ByteArray} {j : Int} (h0 : 0 ≤ j) (h1 : j < (selS xs a).length) : foldT (cbL xs) 1 (selS xs a) (j + 1) = max (foldT (cbL xs) 1 (selS xs a) j) (loR (surA xs ((selS xs a).getD j.toNat 0))) := foldT_s h0 h1 0
theorem cbH_s {xs : List GSurvey} {a : ByteArray} {j : Int} (h0 : 0 ≤ j) (h1 : j < (selS xs a).length) : foldT (cbH xs) 1000000 (selS xs a) (j + 1) = min (foldT (cbH xs) 1000000 (selS xs a) j) (hiR (surA xs ((selS xs a).getD j.toNat 0))) := foldT_s h0 h1 0
def cbF (xs : List GSurvey) (a : ByteArray) : Int × Int × Int := if (selS xs a).length = 0 then (0, 0, 3) else if cbLo xs a > cbHi xs a then (0, 0, 6) else (cbLo xs a, cbHi xs a, 0)
theorem c_impl_CommonBounds (xs : List GSurvey) (a : ByteArray) (h : okSurs xs) : FnSem Tryz.prog 17 [LS xs, Str a] [] (Is [In (cbF xs a).1, In (cbF xs a).2.1, In (cbF xs a).2.2] []) := by
  have hl := h.ln
  have hs := sel_len (xs := xs) (a := a)
  refine FnSem.walk (zs := zeroPV Tryz.prog) (by kernel_rfl) Tryz.func17 rfl Tryz.results17 (by kernel_rfl) (by kernel_rfl) (by kernel_rfl) fun hw hh => ?_
  obtain ⟨w0, w1, _⟩ := hw
  first | replace w0 := wf_LSurvey w0 | skip
  first | replace w1 := wf_S w1 | skip
  repeat' first
    | refine And.intro rfl ?_
    | refine GdF.mk (fun h => h) ?_
    | refine And.intro (Nat.succ_ne_zero _) ?_
    | refine And.intro (Nat.le_of_ble_eq_true rfl) ?_
    | refine SeqF.run ?_
    | refine ArgF.is (suoT xs h) ?_
    | refine ArgQ.is (fun hG => suoT xs h) rfl rfl ?_
    | refine ArgF.is (suvT xs a hl) ?_
    | refine ArgQ.is (fun hG => suvT xs a hl) rfl rfl ?_
    | refine BndF.mk (fun _ => by have q := sel_nth (xs := xs) (a := a) j0 (by omega); rw [List.length_map]; exact q) ?_
    | refine ArgF.is (c_impl_Survey_bounds (surA xs ((selS xs a).getD j.toNat 0)) (h.nth (sel_nth j0 (by omega)).1 (sel_nth j0 (by omega)).2)) ?_
    | refine ArgQ.is (fun hG => c_impl_Survey_bounds (surA xs ((selS xs a).getD j.toNat 0)) (h.nth (sel_nth j0 (by omega)).1 (sel_nth j0 (by omega)).2)) rfl rfl ?_
    | refine LoopF.at 8 rfl (LoopF.fix [0, 23, 24] (Int × Int × Int) (fun (j, l, m) => 0 ≤ j ∧ j ≤ (selS xs a).length ∧ l = foldT (cbL xs) 1 (selS xs a) j ∧ m = foldT (cbH xs) 1000000 (selS xs a) j) (fun (j, l, m) => [(25, In j), (8, In l), (9, In m)]) (fun (j, l, m) => []) (fun (j, l, m) => (((selS xs a).length - j).toNat)) ((0, 1, 1000000)) ?_)
    | (refine LoopB.of (T := Int × Int × Int) ?_ ?_; rotate_left; rintro ⟨j, l, m⟩ ⟨j0, j1, j2, j3⟩; rotate_left)
    | refine GhF.go ?_
    | refine EqP.mk _ (gm GSurvey.cells default rfl) ?_
    | refine EqP.mk _ (gm eI 0 rfl) ?_
    | refine BndF.mk (fun _ => by omega) ?_
    | refine BndF.mk (fun _ => by simp only [List.length_map, List.length_cons, List.length_nil, List.length_append, List.length_set, List.length_replicate, iotaI_len]; omega) ?_
    | refine EqI.mk _ (fun _ => wrapI (by omega) (by omega)) ?_
    | refine EqI.mk _ (fun _ => rfl) ?_
    | refine EqN.mk _ (ln GSurvey.cells) ?_
    | refine EqN.mk _ (ln eI) ?_
    | refine EqN.mk _ (Nat.zero_add _) ?_
    | refine EqN.mk _ (Int.toNat_natCast _) ?_
    | refine EqN.mk _ rfl ?_
    | refine EqL.mk _ (tk GSurvey.cells (by first | rfl | assumption | omega | (simp only [List.length_map, List.length_cons, List.length_nil, List.length_append, List.length_set, List.length_replicate, iotaI_len]; done) | (simp only [List.length_map, List.length_cons, List.length_nil, List.length_append, List.length_set, List.length_replicate, iotaI_len]; omega))) ?_
    | refine EqL.mk _ (tk eI (by first | rfl | assumption | omega | (simp only [List.length_map, List.length_cons, List.length_nil, List.length_append, List.length_set, List.length_replicate, iotaI_len]; done) | (simp only [List.length_map, List.length_cons, List.length_nil, List.length_append, List.length_set, List.length_replicate, iotaI_len]; omega))) ?_
    | refine EqL.mk [] rfl ?_
    | refine EqL.mk [_] rfl ?_
    | refine EqL.mk _ rfl ?_
    | refine ArgF.is (c_impl_surveysOk ..) ?_
    | refine ArgQ.is (fun hG => c_impl_surveysOk ..) rfl rfl ?_
    | refine ArgF.is (c_impl_surveysOf ..) ?_
    | refine ArgQ.is (fun hG => c_impl_surveysOf ..) rfl rfl ?_
    | refine ArgF.is (c_impl_Survey_bounds ⟨_, _, _, _, _⟩ (by first | assumption | omega)) ?_
    | refine ArgQ.is (fun hG => c_impl_Survey_bounds ⟨_, _, _, _, _⟩ (by first | assumption | omega)) rfl rfl ?_
    | refine CallF.mk (CallW.is [] true rfl ?_)
    | refine CallG.mk ?_
    | (refine CondF.mk (fun hb => ?_) (fun hb => ?_) <;> try simp only [forall_const, eq_self, not_true_eq_false, not_false_eq_true, or_false, false_or, or_self, or_true, true_or, and_true, true_and, and_false, false_and, decide_true, decide_false, Bool.not_true, Bool.not_false, decide_eq_true_eq, decide_eq_false_iff_not, ite_and_p, ite_or_p, Bool.decide_eq_true, Bool.and_eq_true, Bool.or_eq_true, Bool.not_eq_true', Bool.not_eq_false', Bool.and_eq_false_imp, Bool.or_eq_false_iff, bne_iff_ne, beq_iff_eq, bne_eq_false_iff_eq, beq_eq_false_iff_ne, gt_iff_lt, ge_iff_le, Int.not_lt, Int.not_le, ne_eq, Bool.true_eq_false, Bool.false_eq_true, reduceCtorEq, eta_Airway, eta_Duct, eta_Fan, eta_Mine, eta_Survey] at hb)
    | apply BackF.auto3
    | refine BackB.mk ?_ ?_
    | refine RetF.auto (And.intro rfl ?_)
    | exact Is.mk rfl rfl
    | refine Is.mk ?_ rfl
    | refine Is.mk rfl ?_
    | refine Is.mk ?_ ?_
  all_goals try dsimp only
  all_goals first
    | omega
    | exact ⟨by omega, by omega, rfl, rfl⟩
    | exact ⟨by omega, by omega, by rw [cbL_s j0 (by omega), j2], by rw [cbH_s j0 (by omega), j3]⟩
    | (unfold cbF; rw [if_pos (by omega)]; done)
    | (have e1 : l = cbLo xs a := by rw [j2]; unfold cbLo; exact foldT_e (by omega)
       have e2 : m = cbHi xs a := by rw [j3]; unfold cbHi; exact foldT_e (by omega)
       unfold cbF
       rw [if_neg (by omega)]
       first
         | (rw [if_pos (by omega)]; done)
         | (rw [if_neg (by omega), e1, e2]; done))
    | skip
theorem c_impl_LargestAgreement (xs : List GSurvey) (a : ByteArray) (h : okSurs xs) : FnSem Tryz.prog 18 [LS xs, Str a] [] (RetV (fun v : Nat × List Int => [.osl 0 0 v.1, In (if (selS xs a).length = 0 then 3 else 0)]) (fun v => [Rw .flat (eI 0) (v.2.map eI)]) (fun v => v.1 ≤ v.2.length ∧ v.2.take v.1 = lgA xs a)) := by
  have hl := h.ln
  refine FnSem.walk (zs := zeroPV Tryz.prog) (by kernel_rfl) Tryz.func18 rfl Tryz.results18 (by kernel_rfl) (by kernel_rfl) (by kernel_rfl) fun hw hh => ?_
  obtain ⟨w0, w1, _⟩ := hw
  first | replace w0 := wf_LSurvey w0 | skip
  first | replace w1 := wf_S w1 | skip
  repeat' first
    | refine And.intro rfl ?_
    | refine GdF.mk (fun h => h) ?_
    | refine And.intro (Nat.succ_ne_zero _) ?_
    | refine And.intro (Nat.le_of_ble_eq_true rfl) ?_
    | refine SeqF.run ?_
    | refine ArgF.is (suoT xs h) ?_
    | refine ArgQ.is (fun hG => suoT xs h) rfl rfl ?_
    | refine ArgF.is (suvT xs a hl) ?_
    | refine ArgQ.is (fun hG => suvT xs a hl) rfl rfl ?_
    | (refine ArgF.ret (c_impl_largestAgreement xs a h) ?_; rintro ⟨m, ws⟩ ⟨hm, hw⟩; dsimp only at hm hw ⊢)
    | refine RetV.mk (α := Nat × List Int) (0, []) (by dsimp only; rw [if_pos (by omega)]) rfl ⟨Nat.le_refl _, by unfold lgA; rw [List.eq_nil_of_length_eq_zero (show (selS xs a).length = 0 by omega)]; rfl⟩
    | refine RetV.mk (α := Nat × List Int) (m, ws) (by dsimp only; rw [if_neg (by omega)]) rfl ⟨hm, hw⟩
    | refine GhF.go ?_
    | refine MkF.row ?_
    | refine BndF.mk (fun _ => by omega) ?_
    | refine BndF.mk (fun _ => by simp only [List.length_map, List.length_cons, List.length_nil, List.length_append, List.length_set, List.length_replicate, iotaI_len]; omega) ?_
    | refine EqN.mk _ (ln GSurvey.cells) ?_
    | refine EqN.mk _ (ln eI) ?_
    | refine EqN.mk _ (Nat.zero_add _) ?_
    | refine EqN.mk _ (Int.toNat_natCast _) ?_
    | refine EqN.mk _ rfl ?_
    | refine EqL.mk _ (tk GSurvey.cells (by first | rfl | assumption | omega | (simp only [List.length_map, List.length_cons, List.length_nil, List.length_append, List.length_set, List.length_replicate, iotaI_len]; done) | (simp only [List.length_map, List.length_cons, List.length_nil, List.length_append, List.length_set, List.length_replicate, iotaI_len]; omega))) ?_
    | refine EqL.mk _ (dt GSurvey.cells) ?_
    | refine EqL.mk _ (tk eI (by first | rfl | assumption | omega | (simp only [List.length_map, List.length_cons, List.length_nil, List.length_append, List.length_set, List.length_replicate, iotaI_len]; done) | (simp only [List.length_map, List.length_cons, List.length_nil, List.length_append, List.length_set, List.length_replicate, iotaI_len]; omega))) ?_
    | refine EqL.mk _ (dt eI) ?_
    | refine EqL.mk [] rfl ?_
    | refine EqL.mk [_] rfl ?_
    | refine EqL.mk _ rfl ?_
    | refine ArgF.is (c_impl_surveysOk ..) ?_
    | refine ArgQ.is (fun hG => c_impl_surveysOk ..) rfl rfl ?_
    | refine ArgF.is (c_impl_surveysOf ..) ?_
    | refine ArgQ.is (fun hG => c_impl_surveysOf ..) rfl rfl ?_
    | refine ArgF.is (c_impl_largestAgreement _ _ (by first | assumption | omega)) ?_
    | refine ArgQ.is (fun hG => c_impl_largestAgreement _ _ (by first | assumption | omega)) rfl rfl ?_
    | refine CallF.mk (CallW.is [] true rfl ?_)
    | refine CallG.mk ?_
    | (refine CondF.mk (fun hb => ?_) (fun hb => ?_) <;> try simp only [forall_const, eq_self, not_true_eq_false, not_false_eq_true, or_false, false_or, or_self, or_true, true_or, and_true, true_and, and_false, false_and, decide_true, decide_false, Bool.not_true, Bool.not_false, decide_eq_true_eq, decide_eq_false_iff_not, ite_and_p, ite_or_p, Bool.decide_eq_true, Bool.and_eq_true, Bool.or_eq_true, Bool.not_eq_true', Bool.not_eq_false', Bool.and_eq_false_imp, Bool.or_eq_false_iff, bne_iff_ne, beq_iff_eq, bne_eq_false_iff_eq, beq_eq_false_iff_ne, gt_iff_lt, ge_iff_le, Int.not_lt, Int.not_le, ne_eq, Bool.true_eq_false, Bool.false_eq_true, reduceCtorEq, eta_Airway, eta_Duct, eta_Fan, eta_Mine, eta_Survey] at hb)
    | refine RetF.auto (And.intro rfl ?_)
    | exact Is.mk rfl rfl
    | refine Is.mk ?_ rfl
    | refine Is.mk rfl ?_
    | refine Is.mk ?_ ?_
  all_goals try dsimp only
  all_goals skip
--@fn slices.Index[[]int64,int64]
theorem ixS (xs : List Int) (x : Int) : FnSem Tryz.prog 158 [Lx (LI xs), In x] [] (Is [In (idxG (fun y => decide (x = y)) xs)] []) := by
  refine FnSem.walk (zs := zeroPV Tryz.prog) (by kernel_rfl) Tryz.func158 rfl Tryz.results158 (by kernel_rfl) (by kernel_rfl) (by kernel_rfl) fun hw hh => ?_
  obtain ⟨w0, w1, _⟩ := hw
  first | replace w0 := wf_LI w0 | skip
  first | replace w1 := wf_I w1 | skip
  repeat' first
    | refine And.intro rfl ?_
    | refine GdF.mk (fun h => h) ?_
    | refine And.intro (Nat.succ_ne_zero _) ?_
    | refine And.intro (Nat.le_of_ble_eq_true rfl) ?_
    | refine SeqF.run ?_
    | refine LoopF.at 2 rfl (LoopF.fix [0, 1, 7] (Int) (fun i => 0 ≤ i ∧ i ≤ xs.length ∧ ∀ j : Nat, (j : Int) < i → decide (x = xs.getD j 0) = false) (fun i => [(8, In i)]) (fun i => []) (fun i => ((xs.length - i).toNat)) (0) ?_)
    | (refine LoopB.of (T := Int) ?_ ?_; rotate_left; rintro i ⟨h0, h1, h2⟩; rotate_left)
    | refine GhF.go ?_
    | refine EqP.mk _ (gm eI 0 rfl) ?_
    | refine BndF.mk (fun _ => by omega) ?_
    | refine BndF.mk (fun _ => by simp only [List.length_map, List.length_cons, List.length_nil, List.length_append, List.length_set, List.length_replicate, iotaI_len]; omega) ?_
    | refine EqI.mk _ (fun _ => wrapI (by omega) (by omega)) ?_
    | refine EqI.mk _ (fun _ => rfl) ?_
    | refine EqN.mk _ (ln eI) ?_
    | refine EqN.mk _ (Nat.zero_add _) ?_
    | refine EqN.mk _ (Int.toNat_natCast _) ?_
    | refine EqN.mk _ rfl ?_
    | (refine CondF.mk (fun hb => ?_) (fun hb => ?_) <;> try simp only [forall_const, eq_self, not_true_eq_false, not_false_eq_true, or_false, false_or, or_self, or_true, true_or, and_true, true_and, and_false, false_and, decide_true, decide_false, Bool.not_true, Bool.not_false, decide_eq_true_eq, decide_eq_false_iff_not, ite_and_p, ite_or_p, Bool.decide_eq_true, Bool.and_eq_true, Bool.or_eq_true, Bool.not_eq_true', Bool.not_eq_false', Bool.and_eq_false_imp, Bool.or_eq_false_iff, bne_iff_ne, beq_iff_eq, bne_eq_false_iff_eq, beq_eq_false_iff_ne, gt_iff_lt, ge_iff_le, Int.not_lt, Int.not_le, ne_eq, Bool.true_eq_false, Bool.false_eq_true, reduceCtorEq, eta_Airway, eta_Duct, eta_Fan, eta_Mine, eta_Survey] at hb)
    | apply BackF.auto
    | refine BackB.mk ?_ ?_
    | refine RetF.auto (And.intro rfl ?_)
    | exact Is.mk rfl rfl
    | refine Is.mk ?_ rfl
    | refine Is.mk rfl ?_
    | refine Is.mk ?_ ?_
  all_goals try dsimp only
  all_goals try simp only [Bo, I, OB.row.injEq, AV.osl.injEq, eI_same,  List.cons.injEq, AV.p.injEq, PV.c.injEq, Value.int.injEq, Value.bool.injEq, and_true, true_and, ite_and_p, ite_or_p, Bool.decide_eq_true, eta_Airway, eta_Duct, eta_Fan, eta_Mine, eta_Survey]
  all_goals first
    | omega
    | exact ⟨by omega, by omega, all_0⟩
    | exact ⟨by omega, by omega, all_s (P := fun j => decide (x = xs.getD j 0) = false) h0 h2 (by simpa using hb)⟩
    | exact idxG_at (d := 0) h0 (by omega) (by simpa using hb) h2
    | exact idxG_none (d := 0) (by omega) h2
    | skip
--@fn slices.Contains[[]int64,int64]
theorem cnS (xs : List Int) (x : Int) : FnSem Tryz.prog 83 [Lx (LI xs), In x] [] (Is [Bo (decide (x ∈ xs))] []) := by
  refine FnSem.walk (zs := zeroPV Tryz.prog) (by kernel_rfl) Tryz.func83 rfl Tryz.results83 (by kernel_rfl) (by kernel_rfl) (by kernel_rfl) fun hw hh => ?_
  obtain ⟨w0, w1, _⟩ := hw
  first | replace w0 := wf_LI w0 | skip
  first | replace w1 := wf_I w1 | skip
  repeat' first
    | refine And.intro rfl ?_
    | refine GdF.mk (fun h => h) ?_
    | refine And.intro (Nat.succ_ne_zero _) ?_
    | refine And.intro (Nat.le_of_ble_eq_true rfl) ?_
    | refine SeqF.run ?_
    | refine ArgF.is (ixS xs x) ?_
    | refine ArgQ.is (fun hG => ixS xs x) rfl rfl ?_
    | refine GhF.go ?_
    | refine BndF.mk (fun _ => by omega) ?_
    | refine BndF.mk (fun _ => by simp only [List.length_map, List.length_cons, List.length_nil, List.length_append, List.length_set, List.length_replicate, iotaI_len]; omega) ?_
    | refine EqL.mk _ (tk eI (by first | rfl | assumption | omega | (simp only [List.length_map, List.length_cons, List.length_nil, List.length_append, List.length_set, List.length_replicate, iotaI_len]; done) | (simp only [List.length_map, List.length_cons, List.length_nil, List.length_append, List.length_set, List.length_replicate, iotaI_len]; omega))) ?_
    | refine EqL.mk [] rfl ?_
    | refine EqL.mk [_] rfl ?_
    | refine EqL.mk _ rfl ?_
    | refine ArgF.is (c_slices_Index_int64_int64 ..) ?_
    | refine ArgQ.is (fun hG => c_slices_Index_int64_int64 ..) rfl rfl ?_
    | refine CallF.mk (CallW.is [] true rfl ?_)
    | refine CallG.mk ?_
    | (refine CondF.mk (fun hb => ?_) (fun hb => ?_) <;> try simp only [forall_const, eq_self, not_true_eq_false, not_false_eq_true, or_false, false_or, or_self, or_true, true_or, and_true, true_and, and_false, false_and, decide_true, decide_false, Bool.not_true, Bool.not_false, decide_eq_true_eq, decide_eq_false_iff_not, ite_and_p, ite_or_p, Bool.decide_eq_true, Bool.and_eq_true, Bool.or_eq_true, Bool.not_eq_true', Bool.not_eq_false', Bool.and_eq_false_imp, Bool.or_eq_false_iff, bne_iff_ne, beq_iff_eq, bne_eq_false_iff_eq, beq_eq_false_iff_ne, gt_iff_lt, ge_iff_le, Int.not_lt, Int.not_le, ne_eq, Bool.true_eq_false, Bool.false_eq_true, reduceCtorEq, eta_Airway, eta_Duct, eta_Fan, eta_Mine, eta_Survey] at hb)
    | refine RetF.auto (And.intro rfl ?_)
    | exact Is.mk rfl rfl
    | refine Is.mk ?_ rfl
    | refine Is.mk rfl ?_
    | refine Is.mk ?_ ?_
  all_goals try dsimp only
  all_goals try simp only [Bo, I, OB.row.injEq, AV.osl.injEq, eI_same,  List.cons.injEq, AV.p.injEq, PV.c.injEq, Value.int.injEq, Value.bool.injEq, and_true, true_and, ite_and_p, ite_or_p, Bool.decide_eq_true, eta_Airway, eta_Duct, eta_Fan, eta_Mine, eta_Survey]
  · rw [show decide (x ∈ xs) = xs.any (fun y => decide (x = y)) by
      rw [Bool.eq_iff_iff, List.any_eq_true, decide_eq_true_eq]
      exact ⟨fun h => ⟨x, h, decide_eq_true rfl⟩, fun ⟨y, h, e⟩ => by rw [of_decide_eq_true e]; exact h⟩]
    exact idxG_any
end Go.Proofs.YtmifcbekaniiiaaGreatDoor
