/- Contracts of functions of the program, and what they compute. Conditions: those that each theorem states. -/
import Derived.Test.YtnmfbdkiehickaaProg
import Derived.Test.YtnmfbdkiehickaaL1
import Derived.Test.YtnmfbdkiehickaaK3
import Derived.Test.YtnmfbdkiehickaaL3
import Derived.Test.YtnmfbdkiehickaaK20
set_option linter.unusedVariables false
set_option linter.unusedSimpArgs false
namespace Go.Proofs.Ytnmfbdkiehickaa
open Go.Av
attribute [local irreducible] Go.IntKind.wrap
set_option maxRecDepth 20000
set_option maxHeartbeats 4000000

/-! Tasks that make dust, stays, exposures. -/
abbrev LD (ds : List GDusting) : AV := Lx (.lst (GDusting.cells default) (ds.map GDusting.cells))
def okDust (x : GDusting) : Bool := inR x.airway 0 23 && inR x.until_ 0 1440 && inR x.from_ 0 (x.until_ - 1) && inR x.dust 0 1000000
def okDusts (ds : List GDusting) : Bool := decide (ds.length ≤ 12) && ds.all okDust
theorem okDust_b {x : GDusting} (h : okDust x = true) : (0 ≤ x.airway ∧ x.airway ≤ 23) ∧ (0 ≤ x.from_ ∧ x.from_ < x.until_ ∧ x.until_ ≤ 1440) ∧ 0 ≤ x.dust ∧ x.dust ≤ 1000000 := by
  simp only [okDust, Bool.and_eq_true, inR_iff] at h; omega
theorem okDusts_b {ds : List GDusting} (h : okDusts ds = true) : ds.length ≤ 12 ∧ ∀ x ∈ ds, okDust x = true := by
  simp only [okDusts, Bool.and_eq_true, decide_eq_true_eq, List.all_eq_true] at h; exact h
theorem c_impl_ValidDusting (x : GDusting) : FnSem Try.prog 206 [.p .any (.agg x.cells)] [] (Is [Bo (okDust x)] []) := by
  refine FnSem.walk (zs := zeroPV Try.prog) (by kernel_rfl) Try.func206 rfl Try.results206 (by kernel_rfl) (by kernel_rfl) (by kernel_rfl) fun hw hh => ?_
  obtain ⟨w0, _⟩ := hw
  first | replace w0 := wf_Dusting w0 | skip
  repeat' first
    | refine And.intro rfl ?_
    | refine GdF.mk (fun h => h) ?_
    | refine And.intro (Nat.succ_ne_zero _) ?_
    | refine And.intro (Nat.le_of_ble_eq_true rfl) ?_
    | refine SeqF.run ?_
    | refine GhF.go ?_
    | refine GdS.keep ?_
    | refine BndF.mk (fun _ => by omega) ?_
    | refine BndF.mk (fun _ => by simp only [List.length_map, List.length_cons, List.length_nil, List.length_append, List.length_set, List.length_replicate, iotaI_len]; omega) ?_
    | refine BndF.mk (fun hG => by simp only [forall_const, eq_self, not_true_eq_false, not_false_eq_true, or_false, false_or, or_self, or_true, true_or, and_true, true_and, and_false, false_and, decide_true, decide_false, Bool.not_true, Bool.not_false, decide_eq_true_eq, decide_eq_false_iff_not, ite_and_p, ite_or_p, Bool.decide_eq_true, Bool.and_eq_true, Bool.or_eq_true, Bool.not_eq_true', Bool.not_eq_false', Bool.and_eq_false_imp, Bool.or_eq_false_iff, bne_iff_ne, beq_iff_eq, bne_eq_false_iff_eq, beq_eq_false_iff_ne, gt_iff_lt, ge_iff_le, Int.not_lt, Int.not_le, ne_eq, Bool.true_eq_false, Bool.false_eq_true, reduceCtorEq, eta_Airway, eta_Door, eta_Dusting, eta_Fan, eta_Mine, eta_Mode, bytes_nil] at hG; (try simp only [List.length_map]); omega) ?_
    | refine EqI.mk _ (fun _ => wrapI (by omega) (by omega)) ?_
    | refine EqI.mk _ (fun _ => rfl) ?_
    | refine EqL.mk [] rfl ?_
    | refine EqL.mk [_] rfl ?_
    | refine EqL.mk _ rfl ?_
    | refine ArgF.is (c_impl_within ..) ?_
    | refine ArgQ.is (fun hG => c_impl_within ..) rfl rfl ?_
    | refine ArgF.is (c_impl_dustOk ..) ?_
    | refine ArgQ.is (fun hG => c_impl_dustOk ..) rfl rfl ?_
    | refine CallF.mk (CallW.is [] true rfl ?_)
    | refine CallG.mk ?_
    | (refine CondF.mk (fun hb => ?_) (fun hb => ?_) <;> try simp only [forall_const, eq_self, not_true_eq_false, not_false_eq_true, or_false, false_or, or_self, or_true, true_or, and_true, true_and, and_false, false_and, decide_true, decide_false, Bool.not_true, Bool.not_false, decide_eq_true_eq, decide_eq_false_iff_not, ite_and_p, ite_or_p, Bool.decide_eq_true, Bool.and_eq_true, Bool.or_eq_true, Bool.not_eq_true', Bool.not_eq_false', Bool.and_eq_false_imp, Bool.or_eq_false_iff, bne_iff_ne, beq_iff_eq, bne_eq_false_iff_eq, beq_eq_false_iff_ne, gt_iff_lt, ge_iff_le, Int.not_lt, Int.not_le, ne_eq, Bool.true_eq_false, Bool.false_eq_true, reduceCtorEq, eta_Airway, eta_Door, eta_Dusting, eta_Fan, eta_Mine, eta_Mode] at hb)
    | refine RetF.auto (And.intro rfl ?_)
    | exact Is.mk rfl rfl
    | refine Is.mk ?_ rfl
    | refine Is.mk rfl ?_
    | refine Is.mk ?_ ?_
  all_goals try dsimp only
  all_goals try simp only [Bo, I, OB.row.injEq, AV.osl.injEq, eI_same,  List.cons.injEq, AV.p.injEq, PV.c.injEq, Value.int.injEq, Value.bool.injEq, and_true, true_and, ite_and_p, ite_or_p, Bool.decide_eq_true, eta_Airway, eta_Door, eta_Dusting, eta_Fan, eta_Mine, eta_Mode, okDust]
  by_cases h : inR x.until_ 0 1440 = true
  · have := inR_iff.1 h
    rw [wrapI (by omega) (by omega)]
  · simp [h]
theorem c_impl_ValidDustings_1 (x : GDusting) : FnSem Try.prog 205 [.p .any (.agg x.cells)] [] (Is [Bo (!okDust x)] []) := by
  refine FnSem.walk (zs := zeroPV Try.prog) (by kernel_rfl) Try.func205 rfl Try.results205 (by kernel_rfl) (by kernel_rfl) (by kernel_rfl) fun hw hh => ?_
  obtain ⟨w0, _⟩ := hw
  first | replace w0 := wf_Dusting w0 | skip
  repeat' first
    | refine And.intro rfl ?_
    | refine GdF.mk (fun h => h) ?_
    | refine And.intro (Nat.succ_ne_zero _) ?_
    | refine And.intro (Nat.le_of_ble_eq_true rfl) ?_
    | refine SeqF.run ?_
    | refine GhF.go ?_
    | refine BndF.mk (fun _ => by omega) ?_
    | refine BndF.mk (fun _ => by simp only [List.length_map, List.length_cons, List.length_nil, List.length_append, List.length_set, List.length_replicate, iotaI_len]; omega) ?_
    | refine EqL.mk [] rfl ?_
    | refine EqL.mk [_] rfl ?_
    | refine EqL.mk _ rfl ?_
    | refine ArgF.is (c_impl_ValidDusting ⟨_, _, _, _⟩) ?_
    | refine ArgQ.is (fun hG => c_impl_ValidDusting ⟨_, _, _, _⟩) rfl rfl ?_
    | refine CallF.mk (CallW.is [] true rfl ?_)
    | refine CallG.mk ?_
    | (refine CondF.mk (fun hb => ?_) (fun hb => ?_) <;> try simp only [forall_const, eq_self, not_true_eq_false, not_false_eq_true, or_false, false_or, or_self, or_true, true_or, and_true, true_and, and_false, false_and, decide_true, decide_false, Bool.not_true, Bool.not_false, decide_eq_true_eq, decide_eq_false_iff_not, ite_and_p, ite_or_p, Bool.decide_eq_true, Bool.and_eq_true, Bool.or_eq_true, Bool.not_eq_true', Bool.not_eq_false', Bool.and_eq_false_imp, Bool.or_eq_false_iff, bne_iff_ne, beq_iff_eq, bne_eq_false_iff_eq, beq_eq_false_iff_ne, gt_iff_lt, ge_iff_le, Int.not_lt, Int.not_le, ne_eq, Bool.true_eq_false, Bool.false_eq_true, reduceCtorEq, eta_Airway, eta_Door, eta_Dusting, eta_Fan, eta_Mine, eta_Mode] at hb)
    | refine RetF.auto (And.intro rfl ?_)
    | exact Is.mk rfl rfl
    | refine Is.mk ?_ rfl
    | refine Is.mk rfl ?_
    | refine Is.mk ?_ ?_
  all_goals try dsimp only
  all_goals try simp only [Bo, I, OB.row.injEq, AV.osl.injEq, eI_same,  List.cons.injEq, AV.p.injEq, PV.c.injEq, Value.int.injEq, Value.bool.injEq, and_true, true_and, ite_and_p, ite_or_p, Bool.decide_eq_true, eta_Airway, eta_Door, eta_Dusting, eta_Fan, eta_Mine, eta_Mode]
--@fn slices.IndexFunc[[]impl.Dusting,impl.Dusting]
theorem idxFnD (xs : List GDusting) (f : Nat) (p : GDusting → Bool) (hf : ∀ x, FnSem Try.prog f [.p .any (.agg x.cells)] [] (Is [Bo (p x)] [])) : FnSem Try.prog 252 [LD xs, .p .any (.fn f [])] [] (Is [In (idxG p xs)] []) := by
  refine FnSem.walk (zs := zeroPV Try.prog) (by kernel_rfl) Try.func252 rfl Try.results252 (by kernel_rfl) (by kernel_rfl) (by kernel_rfl) fun hw hh => ?_
  obtain ⟨w0, w1, _⟩ := hw
  first | replace w0 := wf_LDusting w0 | skip
  first | replace w1 := wf_I w1 | replace w1 := wf_Y w1 | replace w1 := wf_S w1 | replace w1 := wf_LI w1 | replace w1 := wf_LY w1 | replace w1 := wf_LLI w1 | replace w1 := wf_Ls w1 | skip
  repeat' first
    | refine And.intro rfl ?_
    | refine GdF.mk (fun h => h) ?_
    | refine And.intro (Nat.succ_ne_zero _) ?_
    | refine And.intro (Nat.le_of_ble_eq_true rfl) ?_
    | refine SeqF.run ?_
    | refine ArgF.is (hf (xs.getD i.toNat default)) ?_
    | refine ArgQ.is (fun hG => hf (xs.getD i.toNat default)) rfl rfl ?_
    | refine LoopF.at 2 rfl (LoopF.fix [0, 1, 7] (Int) (fun i => 0 ≤ i ∧ i ≤ xs.length ∧ ∀ j : Nat, (j : Int) < i → p (xs.getD j default) = false) (fun i => [(8, In i)]) (fun i => []) (fun i => ((xs.length - i).toNat)) (0) ?_)
    | (refine LoopB.of (T := Int) ?_ ?_; rotate_left; rintro i ⟨h0, h1, h2⟩; rotate_left)
    | refine GhF.go ?_
    | refine EqP.mk _ (gm GDusting.cells default rfl) ?_
    | refine BndF.mk (fun _ => by omega) ?_
    | refine BndF.mk (fun _ => by simp only [List.length_map, List.length_cons, List.length_nil, List.length_append, List.length_set, List.length_replicate, iotaI_len]; omega) ?_
    | refine EqI.mk _ (fun _ => wrapI (by omega) (by omega)) ?_
    | refine EqI.mk _ (fun _ => rfl) ?_
    | refine EqN.mk _ (ln GDusting.cells) ?_
    | refine EqN.mk _ (Nat.zero_add _) ?_
    | refine EqN.mk _ (Int.toNat_natCast _) ?_
    | refine EqN.mk _ rfl ?_
    | refine CallF.mk (CallW.is [] true rfl ?_)
    | refine CallG.mk ?_
    | (refine CondF.mk (fun hb => ?_) (fun hb => ?_) <;> try simp only [forall_const, eq_self, not_true_eq_false, not_false_eq_true, or_false, false_or, or_self, or_true, true_or, and_true, true_and, and_false, false_and, decide_true, decide_false, Bool.not_true, Bool.not_false, decide_eq_true_eq, decide_eq_false_iff_not, ite_and_p, ite_or_p, Bool.decide_eq_true, Bool.and_eq_true, Bool.or_eq_true, Bool.not_eq_true', Bool.not_eq_false', Bool.and_eq_false_imp, Bool.or_eq_false_iff, bne_iff_ne, beq_iff_eq, bne_eq_false_iff_eq, beq_eq_false_iff_ne, gt_iff_lt, ge_iff_le, Int.not_lt, Int.not_le, ne_eq, Bool.true_eq_false, Bool.false_eq_true, reduceCtorEq, eta_Airway, eta_Door, eta_Dusting, eta_Fan, eta_Mine, eta_Mode] at hb)
    | apply BackF.auto
    | refine BackB.mk ?_ ?_
    | refine RetF.auto (And.intro rfl ?_)
    | exact Is.mk rfl rfl
    | refine Is.mk ?_ rfl
    | refine Is.mk rfl ?_
    | refine Is.mk ?_ ?_
  all_goals try dsimp only
  all_goals try simp only [Bo, I, OB.row.injEq, AV.osl.injEq, eI_same,  List.cons.injEq, AV.p.injEq, PV.c.injEq, Value.int.injEq, Value.bool.injEq, and_true, true_and, ite_and_p, ite_or_p, Bool.decide_eq_true, eta_Airway, eta_Door, eta_Dusting, eta_Fan, eta_Mine, eta_Mode]
  all_goals first
    | omega
    | exact ⟨by omega, by omega, all_0⟩
    | exact ⟨by omega, by omega, all_s (P := fun j => p (xs.getD j default) = false) h0 h2 (by simpa using hb)⟩
    | exact idxG_at (d := default) h0 (by omega) hb h2
    | exact idxG_none (d := default) (by omega) h2
--@fn slices.ContainsFunc[[]impl.Dusting,impl.Dusting]
theorem contFnD (xs : List GDusting) (f : Nat) (p : GDusting → Bool) (hf : ∀ x, FnSem Try.prog f [.p .any (.agg x.cells)] [] (Is [Bo (p x)] [])) : FnSem Try.prog 204 [LD xs, .p .any (.fn f [])] [] (Is [Bo (xs.any p)] []) := by
  refine FnSem.walk (zs := zeroPV Try.prog) (by kernel_rfl) Try.func204 rfl Try.results204 (by kernel_rfl) (by kernel_rfl) (by kernel_rfl) fun hw hh => ?_
  obtain ⟨w0, w1, _⟩ := hw
  first | replace w0 := wf_LDusting w0 | skip
  first | replace w1 := wf_I w1 | replace w1 := wf_Y w1 | replace w1 := wf_S w1 | replace w1 := wf_LI w1 | replace w1 := wf_LY w1 | replace w1 := wf_LLI w1 | replace w1 := wf_Ls w1 | skip
  repeat' first
    | refine And.intro rfl ?_
    | refine GdF.mk (fun h => h) ?_
    | refine And.intro (Nat.succ_ne_zero _) ?_
    | refine And.intro (Nat.le_of_ble_eq_true rfl) ?_
    | refine SeqF.run ?_
    | refine ArgF.is (idxFnD xs f p hf) ?_
    | refine ArgQ.is (fun hG => idxFnD xs f p hf) rfl rfl ?_
    | refine GhF.go ?_
    | refine BndF.mk (fun _ => by omega) ?_
    | refine BndF.mk (fun _ => by simp only [List.length_map, List.length_cons, List.length_nil, List.length_append, List.length_set, List.length_replicate, iotaI_len]; omega) ?_
    | refine EqL.mk _ (tk GDusting.cells (by first | rfl | assumption | omega | (simp only [List.length_map, List.length_cons, List.length_nil, List.length_append, List.length_set, List.length_replicate, iotaI_len]; done) | (simp only [List.length_map, List.length_cons, List.length_nil, List.length_append, List.length_set, List.length_replicate, iotaI_len]; omega))) ?_
    | refine EqL.mk [] rfl ?_
    | refine EqL.mk [_] rfl ?_
    | refine EqL.mk _ rfl ?_
    | refine ArgF.is (c_slices_IndexFunc_impl_Dusting_impl_Dusting ..) ?_
    | refine ArgQ.is (fun hG => c_slices_IndexFunc_impl_Dusting_impl_Dusting ..) rfl rfl ?_
    | refine CallF.mk (CallW.is [] true rfl ?_)
    | refine CallG.mk ?_
    | (refine CondF.mk (fun hb => ?_) (fun hb => ?_) <;> try simp only [forall_const, eq_self, not_true_eq_false, not_false_eq_true, or_false, false_or, or_self, or_true, true_or, and_true, true_and, and_false, false_and, decide_true, decide_false, Bool.not_true, Bool.not_false, decide_eq_true_eq, decide_eq_false_iff_not, ite_and_p, ite_or_p, Bool.decide_eq_true, Bool.and_eq_true, Bool.or_eq_true, Bool.not_eq_true', Bool.not_eq_false', Bool.and_eq_false_imp, Bool.or_eq_false_iff, bne_iff_ne, beq_iff_eq, bne_eq_false_iff_eq, beq_eq_false_iff_ne, gt_iff_lt, ge_iff_le, Int.not_lt, Int.not_le, ne_eq, Bool.true_eq_false, Bool.false_eq_true, reduceCtorEq, eta_Airway, eta_Door, eta_Dusting, eta_Fan, eta_Mine, eta_Mode] at hb)
    | refine RetF.auto (And.intro rfl ?_)
    | exact Is.mk rfl rfl
    | refine Is.mk ?_ rfl
    | refine Is.mk rfl ?_
    | refine Is.mk ?_ ?_
  all_goals try dsimp only
  all_goals try simp only [Bo, I, OB.row.injEq, AV.osl.injEq, eI_same,  List.cons.injEq, AV.p.injEq, PV.c.injEq, Value.int.injEq, Value.bool.injEq, and_true, true_and, ite_and_p, ite_or_p, Bool.decide_eq_true, eta_Airway, eta_Door, eta_Dusting, eta_Fan, eta_Mine, eta_Mode]
  · exact idxG_any
theorem c_impl_ValidDustings (ds : List GDusting) : FnSem Try.prog 138 [LD ds] [] (Is [Bo (okDusts ds)] []) := by
  refine FnSem.walk (zs := zeroPV Try.prog) (by kernel_rfl) Try.func138 rfl Try.results138 (by kernel_rfl) (by kernel_rfl) (by kernel_rfl) fun hw hh => ?_
  obtain ⟨w0, _⟩ := hw
  first | replace w0 := wf_LDusting w0 | skip
  repeat' first
    | refine And.intro rfl ?_
    | refine GdF.mk (fun h => h) ?_
    | refine And.intro (Nat.succ_ne_zero _) ?_
    | refine And.intro (Nat.le_of_ble_eq_true rfl) ?_
    | refine SeqF.run ?_
    | refine ArgF.is (contFnD ds _ (fun x => !okDust x) (fun x => c_impl_ValidDustings_1 x)) ?_
    | refine ArgQ.is (fun hG => contFnD ds _ (fun x => !okDust x) (fun x => c_impl_ValidDustings_1 x)) rfl rfl ?_
    | refine GhF.go ?_
    | refine GdS.keep ?_
    | refine BndF.mk (fun _ => by omega) ?_
    | refine BndF.mk (fun _ => by simp only [List.length_map, List.length_cons, List.length_nil, List.length_append, List.length_set, List.length_replicate, iotaI_len]; omega) ?_
    | refine BndF.mk (fun hG => by simp only [forall_const, eq_self, not_true_eq_false, not_false_eq_true, or_false, false_or, or_self, or_true, true_or, and_true, true_and, and_false, false_and, decide_true, decide_false, Bool.not_true, Bool.not_false, decide_eq_true_eq, decide_eq_false_iff_not, ite_and_p, ite_or_p, Bool.decide_eq_true, Bool.and_eq_true, Bool.or_eq_true, Bool.not_eq_true', Bool.not_eq_false', Bool.and_eq_false_imp, Bool.or_eq_false_iff, bne_iff_ne, beq_iff_eq, bne_eq_false_iff_eq, beq_eq_false_iff_ne, gt_iff_lt, ge_iff_le, Int.not_lt, Int.not_le, ne_eq, Bool.true_eq_false, Bool.false_eq_true, reduceCtorEq, eta_Airway, eta_Door, eta_Dusting, eta_Fan, eta_Mine, eta_Mode, bytes_nil] at hG; (try simp only [List.length_map]); omega) ?_
    | refine EqN.mk _ (ln GDusting.cells) ?_
    | refine EqL.mk _ (tk GDusting.cells (by first | rfl | assumption | omega | (simp only [List.length_map, List.length_cons, List.length_nil, List.length_append, List.length_set, List.length_replicate, iotaI_len]; done) | (simp only [List.length_map, List.length_cons, List.length_nil, List.length_append, List.length_set, List.length_replicate, iotaI_len]; omega))) ?_
    | refine EqL.mk [] rfl ?_
    | refine EqL.mk [_] rfl ?_
    | refine EqL.mk _ rfl ?_
    | refine ArgF.is (c_slices_ContainsFunc_impl_Dusting_impl_Dusting ..) ?_
    | refine ArgQ.is (fun hG => c_slices_ContainsFunc_impl_Dusting_impl_Dusting ..) rfl rfl ?_
    | refine CallF.mk (CallW.is [] true rfl ?_)
    | refine CallG.mk ?_
    | (refine CondF.mk (fun hb => ?_) (fun hb => ?_) <;> try simp only [forall_const, eq_self, not_true_eq_false, not_false_eq_true, or_false, false_or, or_self, or_true, true_or, and_true, true_and, and_false, false_and, decide_true, decide_false, Bool.not_true, Bool.not_false, decide_eq_true_eq, decide_eq_false_iff_not, ite_and_p, ite_or_p, Bool.decide_eq_true, Bool.and_eq_true, Bool.or_eq_true, Bool.not_eq_true', Bool.not_eq_false', Bool.and_eq_false_imp, Bool.or_eq_false_iff, bne_iff_ne, beq_iff_eq, bne_eq_false_iff_eq, beq_eq_false_iff_ne, gt_iff_lt, ge_iff_le, Int.not_lt, Int.not_le, ne_eq, Bool.true_eq_false, Bool.false_eq_true, reduceCtorEq, eta_Airway, eta_Door, eta_Dusting, eta_Fan, eta_Mine, eta_Mode] at hb)
    | refine RetF.auto (And.intro rfl ?_)
    | exact Is.mk rfl rfl
    | refine Is.mk ?_ rfl
    | refine Is.mk rfl ?_
    | refine Is.mk ?_ ?_
  all_goals try dsimp only
  all_goals try simp only [Bo, I, OB.row.injEq, AV.osl.injEq, eI_same,  List.cons.injEq, AV.p.injEq, PV.c.injEq, Value.int.injEq, Value.bool.injEq, and_true, true_and, ite_and_p, ite_or_p, Bool.decide_eq_true, eta_Airway, eta_Door, eta_Dusting, eta_Fan, eta_Mine, eta_Mode, okDusts]
  · rw [← not_any_not]; grind
--@fn slices.IndexFunc[[][]int64,[]int64]
theorem idxFnR0 (xs : List (List Int)) (f : Nat) (p : List Int → Bool) (hf : ∀ x, FnSem Try.prog f [Lx (LI x)] [] (Is [Bo (p x)] [])) : FnSem Try.prog 250 [Lx (LLI xs), .p .any (.fn f [])] [] (Is [In (idxG p xs)] []) := by
  refine FnSem.walk (zs := zeroPV Try.prog) (by kernel_rfl) Try.func250 rfl Try.results250 (by kernel_rfl) (by kernel_rfl) (by kernel_rfl) fun hw hh => ?_
  obtain ⟨w0, w1, _⟩ := hw
  first | replace w0 := wf_I w0 | replace w0 := wf_Y w0 | replace w0 := wf_S w0 | replace w0 := wf_LI w0 | replace w0 := wf_LY w0 | replace w0 := wf_LLI w0 | replace w0 := wf_Ls w0 | skip
  first | replace w1 := wf_I w1 | replace w1 := wf_Y w1 | replace w1 := wf_S w1 | replace w1 := wf_LI w1 | replace w1 := wf_LY w1 | replace w1 := wf_LLI w1 | replace w1 := wf_Ls w1 | skip
  repeat' first
    | refine And.intro rfl ?_
    | refine GdF.mk (fun h => h) ?_
    | refine And.intro (Nat.succ_ne_zero _) ?_
    | refine And.intro (Nat.le_of_ble_eq_true rfl) ?_
    | refine SeqF.run ?_
    | refine ArgF.is (hf _) ?_
    | refine ArgQ.is (fun hG => hf _) rfl rfl ?_
    | refine LoopF.at 2 rfl (LoopF.fix [0, 1, 7] (Int) (fun i => 0 ≤ i ∧ i ≤ xs.length ∧ ∀ j : Nat, (j : Int) < i → p (xs.getD j []) = false) (fun i => [(8, In i)]) (fun i => []) (fun i => ((xs.length - i).toNat)) (0) ?_)
    | (refine LoopB.of (T := Int) ?_ ?_; rotate_left; rintro i ⟨h0, h1, h2⟩; rotate_left)
    | refine GhF.go ?_
    | refine EqP.mk _ (gm eI 0 rfl) ?_
    | refine EqP.mk _ (gmb eLI [] (by omega)) ?_
    | refine BndF.mk (fun _ => by omega) ?_
    | refine BndF.mk (fun _ => by simp only [List.length_map, List.length_cons, List.length_nil, List.length_append, List.length_set, List.length_replicate, iotaI_len]; omega) ?_
    | refine EqI.mk _ (fun _ => wrapI (by omega) (by omega)) ?_
    | refine EqI.mk _ (fun _ => rfl) ?_
    | refine EqN.mk _ (ln eI) ?_
    | refine EqN.mk _ (ln eLI) ?_
    | refine EqN.mk _ (Nat.zero_add _) ?_
    | refine EqN.mk _ (Int.toNat_natCast _) ?_
    | refine EqN.mk _ rfl ?_
    | refine CallF.mk (CallW.is [] true rfl ?_)
    | refine CallG.mk ?_
    | (refine CondF.mk (fun hb => ?_) (fun hb => ?_) <;> try simp only [forall_const, eq_self, not_true_eq_false, not_false_eq_true, or_false, false_or, or_self, or_true, true_or, and_true, true_and, and_false, false_and, decide_true, decide_false, Bool.not_true, Bool.not_false, decide_eq_true_eq, decide_eq_false_iff_not, ite_and_p, ite_or_p, Bool.decide_eq_true, Bool.and_eq_true, Bool.or_eq_true, Bool.not_eq_true', Bool.not_eq_false', Bool.and_eq_false_imp, Bool.or_eq_false_iff, bne_iff_ne, beq_iff_eq, bne_eq_false_iff_eq, beq_eq_false_iff_ne, gt_iff_lt, ge_iff_le, Int.not_lt, Int.not_le, ne_eq, Bool.true_eq_false, Bool.false_eq_true, reduceCtorEq, eta_Airway, eta_Door, eta_Dusting, eta_Fan, eta_Mine, eta_Mode] at hb)
    | apply BackF.auto
    | refine BackB.mk ?_ ?_
    | refine RetF.auto (And.intro rfl ?_)
    | exact Is.mk rfl rfl
    | refine Is.mk ?_ rfl
    | refine Is.mk rfl ?_
    | refine Is.mk ?_ ?_
  all_goals try dsimp only
  all_goals try simp only [Bo, I, OB.row.injEq, AV.osl.injEq, eI_same,  List.cons.injEq, AV.p.injEq, PV.c.injEq, Value.int.injEq, Value.bool.injEq, and_true, true_and, ite_and_p, ite_or_p, Bool.decide_eq_true, eta_Airway, eta_Door, eta_Dusting, eta_Fan, eta_Mine, eta_Mode]
  all_goals first
    | omega
    | exact ⟨by omega, by omega, all_0⟩
    | exact ⟨by omega, by omega, all_s (P := fun j => p (xs.getD j []) = false) h0 h2 (by simpa using hb)⟩
    | exact idxG_at (d := []) h0 (by omega) hb h2
    | exact idxG_none (d := []) (by omega) h2
--@fn slices.ContainsFunc[[][]int64,[]int64]
theorem contFnR0 (xs : List (List Int)) (f : Nat) (p : List Int → Bool) (hf : ∀ x, FnSem Try.prog f [Lx (LI x)] [] (Is [Bo (p x)] [])) : FnSem Try.prog 197 [Lx (LLI xs), .p .any (.fn f [])] [] (Is [Bo (xs.any p)] []) := by
  refine FnSem.walk (zs := zeroPV Try.prog) (by kernel_rfl) Try.func197 rfl Try.results197 (by kernel_rfl) (by kernel_rfl) (by kernel_rfl) fun hw hh => ?_
  obtain ⟨w0, w1, _⟩ := hw
  first | replace w0 := wf_I w0 | replace w0 := wf_Y w0 | replace w0 := wf_S w0 | replace w0 := wf_LI w0 | replace w0 := wf_LY w0 | replace w0 := wf_LLI w0 | replace w0 := wf_Ls w0 | skip
  first | replace w1 := wf_I w1 | replace w1 := wf_Y w1 | replace w1 := wf_S w1 | replace w1 := wf_LI w1 | replace w1 := wf_LY w1 | replace w1 := wf_LLI w1 | replace w1 := wf_Ls w1 | skip
  repeat' first
    | refine And.intro rfl ?_
    | refine GdF.mk (fun h => h) ?_
    | refine And.intro (Nat.succ_ne_zero _) ?_
    | refine And.intro (Nat.le_of_ble_eq_true rfl) ?_
    | refine SeqF.run ?_
    | refine ArgF.is (idxFnR0 xs f p hf) ?_
    | refine ArgQ.is (fun hG => idxFnR0 xs f p hf) rfl rfl ?_
    | refine GhF.go ?_
    | refine BndF.mk (fun _ => by omega) ?_
    | refine BndF.mk (fun _ => by simp only [List.length_map, List.length_cons, List.length_nil, List.length_append, List.length_set, List.length_replicate, iotaI_len]; omega) ?_
    | refine EqL.mk _ (tk eLI (by first | rfl | assumption | omega | (simp only [List.length_map, List.length_cons, List.length_nil, List.length_append, List.length_set, List.length_replicate, iotaI_len]; done) | (simp only [List.length_map, List.length_cons, List.length_nil, List.length_append, List.length_set, List.length_replicate, iotaI_len]; omega))) ?_
    | refine EqL.mk [] rfl ?_
    | refine EqL.mk [_] rfl ?_
    | refine EqL.mk _ rfl ?_
    | refine ArgF.is (c_slices_IndexFunc_int64_int64 ..) ?_
    | refine ArgQ.is (fun hG => c_slices_IndexFunc_int64_int64 ..) rfl rfl ?_
    | refine CallF.mk (CallW.is [] true rfl ?_)
    | refine CallG.mk ?_
    | (refine CondF.mk (fun hb => ?_) (fun hb => ?_) <;> try simp only [forall_const, eq_self, not_true_eq_false, not_false_eq_true, or_false, false_or, or_self, or_true, true_or, and_true, true_and, and_false, false_and, decide_true, decide_false, Bool.not_true, Bool.not_false, decide_eq_true_eq, decide_eq_false_iff_not, ite_and_p, ite_or_p, Bool.decide_eq_true, Bool.and_eq_true, Bool.or_eq_true, Bool.not_eq_true', Bool.not_eq_false', Bool.and_eq_false_imp, Bool.or_eq_false_iff, bne_iff_ne, beq_iff_eq, bne_eq_false_iff_eq, beq_eq_false_iff_ne, gt_iff_lt, ge_iff_le, Int.not_lt, Int.not_le, ne_eq, Bool.true_eq_false, Bool.false_eq_true, reduceCtorEq, eta_Airway, eta_Door, eta_Dusting, eta_Fan, eta_Mine, eta_Mode] at hb)
    | refine RetF.auto (And.intro rfl ?_)
    | exact Is.mk rfl rfl
    | refine Is.mk ?_ rfl
    | refine Is.mk rfl ?_
    | refine Is.mk ?_ ?_
  all_goals try dsimp only
  all_goals try simp only [Bo, I, OB.row.injEq, AV.osl.injEq, eI_same,  List.cons.injEq, AV.p.injEq, PV.c.injEq, Value.int.injEq, Value.bool.injEq, and_true, true_and, ite_and_p, ite_or_p, Bool.decide_eq_true, eta_Airway, eta_Door, eta_Dusting, eta_Fan, eta_Mine, eta_Mode]
  · exact idxG_any
def okStay (s : List Int) : Bool := decide (s.length = 3) && okDust ⟨s.getD 0 0, s.getD 1 0, s.getD 2 0, 0⟩
def okStays (ss : List (List Int)) : Bool := decide (ss.length ≤ 12) && ss.all okStay
theorem okStay_b {s : List Int} (h : okStay s = true) : s.length = 3 ∧ (0 ≤ s.getD 0 0 ∧ s.getD 0 0 ≤ 23) ∧ 0 ≤ s.getD 1 0 ∧ s.getD 1 0 < s.getD 2 0 ∧ s.getD 2 0 ≤ 1440 := by
  simp only [okStay, Bool.and_eq_true, decide_eq_true_eq] at h
  have := okDust_b h.2
  dsimp only at this; omega
theorem okStays_b {ss : List (List Int)} (h : okStays ss = true) : ss.length ≤ 12 ∧ ∀ x ∈ ss, okStay x = true := by
  simp only [okStays, Bool.and_eq_true, decide_eq_true_eq, List.all_eq_true] at h; exact h
theorem c_impl_staysOk_1 (s : List Int) : FnSem Try.prog 207 [Lx (LI s)] [] (Is [Bo (!okStay s)] []) := by
  refine FnSem.walk (zs := zeroPV Try.prog) (by kernel_rfl) Try.func207 rfl Try.results207 (by kernel_rfl) (by kernel_rfl) (by kernel_rfl) fun hw hh => ?_
  obtain ⟨w0, _⟩ := hw
  first | replace w0 := wf_I w0 | replace w0 := wf_Y w0 | replace w0 := wf_S w0 | replace w0 := wf_LI w0 | replace w0 := wf_LY w0 | replace w0 := wf_LLI w0 | replace w0 := wf_Ls w0 | skip
  repeat' first
    | refine And.intro rfl ?_
    | refine GdF.mk (fun h => h) ?_
    | refine And.intro (Nat.succ_ne_zero _) ?_
    | refine And.intro (Nat.le_of_ble_eq_true rfl) ?_
    | refine SeqF.run ?_
    | refine BndF.mk (fun hG => by simp only [Bool.not_eq_true', bne_eq_false_iff_eq] at hG; simp only [List.length_map]; omega) ?_
    | refine ArgQ.is (fun hG => c_impl_ValidDusting ⟨_, _, _, _⟩) rfl rfl ?_
    | refine GhF.go ?_
    | refine GdS.keep ?_
    | refine DrawG.old (DrawF.lex (by decide +kernel) ?_)
    | refine EqP.mk _ (gm eI 0 rfl) ?_
    | refine BndF.mk (fun _ => by omega) ?_
    | refine BndF.mk (fun _ => by simp only [List.length_map, List.length_cons, List.length_nil, List.length_append, List.length_set, List.length_replicate, iotaI_len]; omega) ?_
    | refine BndF.mk (fun hG => by simp only [forall_const, eq_self, not_true_eq_false, not_false_eq_true, or_false, false_or, or_self, or_true, true_or, and_true, true_and, and_false, false_and, decide_true, decide_false, Bool.not_true, Bool.not_false, decide_eq_true_eq, decide_eq_false_iff_not, ite_and_p, ite_or_p, Bool.decide_eq_true, Bool.and_eq_true, Bool.or_eq_true, Bool.not_eq_true', Bool.not_eq_false', Bool.and_eq_false_imp, Bool.or_eq_false_iff, bne_iff_ne, beq_iff_eq, bne_eq_false_iff_eq, beq_eq_false_iff_ne, gt_iff_lt, ge_iff_le, Int.not_lt, Int.not_le, ne_eq, Bool.true_eq_false, Bool.false_eq_true, reduceCtorEq, eta_Airway, eta_Door, eta_Dusting, eta_Fan, eta_Mine, eta_Mode, bytes_nil] at hG; (try simp only [List.length_map]); omega) ?_
    | refine EqN.mk _ (ln eI) ?_
    | refine EqN.mk _ (Nat.zero_add _) ?_
    | refine EqN.mk _ (Int.toNat_natCast _) ?_
    | refine EqN.mk _ rfl ?_
    | refine EqL.mk _ (tk eI (by first | rfl | assumption | omega | (simp only [List.length_map, List.length_cons, List.length_nil, List.length_append, List.length_set, List.length_replicate, iotaI_len]; done) | (simp only [List.length_map, List.length_cons, List.length_nil, List.length_append, List.length_set, List.length_replicate, iotaI_len]; omega))) ?_
    | refine EqL.mk [] rfl ?_
    | refine EqL.mk [_] rfl ?_
    | refine EqL.mk _ rfl ?_
    | refine ArgF.is (c_impl_ValidDusting ⟨_, _, _, _⟩) ?_
    | refine ArgQ.is (fun hG => c_impl_ValidDusting ⟨_, _, _, _⟩) rfl rfl ?_
    | refine CallF.mk (CallW.is [] true rfl ?_)
    | refine CallG.mk ?_
    | (refine CondF.mk (fun hb => ?_) (fun hb => ?_) <;> try simp only [forall_const, eq_self, not_true_eq_false, not_false_eq_true, or_false, false_or, or_self, or_true, true_or, and_true, true_and, and_false, false_and, decide_true, decide_false, Bool.not_true, Bool.not_false, decide_eq_true_eq, decide_eq_false_iff_not, ite_and_p, ite_or_p, Bool.decide_eq_true, Bool.and_eq_true, Bool.or_eq_true, Bool.not_eq_true', Bool.not_eq_false', Bool.and_eq_false_imp, Bool.or_eq_false_iff, bne_iff_ne, beq_iff_eq, bne_eq_false_iff_eq, beq_eq_false_iff_ne, gt_iff_lt, ge_iff_le, Int.not_lt, Int.not_le, ne_eq, Bool.true_eq_false, Bool.false_eq_true, reduceCtorEq, eta_Airway, eta_Door, eta_Dusting, eta_Fan, eta_Mine, eta_Mode] at hb)
    | refine RetF.auto (And.intro rfl ?_)
    | exact Is.mk rfl rfl
    | refine Is.mk ?_ rfl
    | refine Is.mk rfl ?_
    | refine Is.mk ?_ ?_
  all_goals try dsimp only
  all_goals try simp only [Bo, I, OB.row.injEq, AV.osl.injEq, eI_same,  List.cons.injEq, AV.p.injEq, PV.c.injEq, Value.int.injEq, Value.bool.injEq, and_true, true_and, ite_and_p, ite_or_p, Bool.decide_eq_true, eta_Airway, eta_Door, eta_Dusting, eta_Fan, eta_Mine, eta_Mode, okStay]
  all_goals try (first | omega | (set_option maxHeartbeats 60000 in grind))
theorem c_impl_staysOk (ss : List (List Int)) : FnSem Try.prog 139 [Lx (LLI ss)] [] (Is [Bo (okStays ss)] []) := by
  refine FnSem.walk (zs := zeroPV Try.prog) (by kernel_rfl) Try.func139 rfl Try.results139 (by kernel_rfl) (by kernel_rfl) (by kernel_rfl) fun hw hh => ?_
  obtain ⟨w0, _⟩ := hw
  first | replace w0 := wf_I w0 | replace w0 := wf_Y w0 | replace w0 := wf_S w0 | replace w0 := wf_LI w0 | replace w0 := wf_LY w0 | replace w0 := wf_LLI w0 | replace w0 := wf_Ls w0 | skip
  repeat' first
    | refine And.intro rfl ?_
    | refine GdF.mk (fun h => h) ?_
    | refine And.intro (Nat.succ_ne_zero _) ?_
    | refine And.intro (Nat.le_of_ble_eq_true rfl) ?_
    | refine SeqF.run ?_
    | refine ArgF.is (contFnR0 ss _ (fun x => !okStay x) (fun x => c_impl_staysOk_1 x)) ?_
    | refine ArgQ.is (fun hG => contFnR0 ss _ (fun x => !okStay x) (fun x => c_impl_staysOk_1 x)) rfl rfl ?_
    | refine GhF.go ?_
    | refine GdS.keep ?_
    | refine BndF.mk (fun _ => by omega) ?_
    | refine BndF.mk (fun _ => by simp only [List.length_map, List.length_cons, List.length_nil, List.length_append, List.length_set, List.length_replicate, iotaI_len]; omega) ?_
    | refine BndF.mk (fun hG => by simp only [forall_const, eq_self, not_true_eq_false, not_false_eq_true, or_false, false_or, or_self, or_true, true_or, and_true, true_and, and_false, false_and, decide_true, decide_false, Bool.not_true, Bool.not_false, decide_eq_true_eq, decide_eq_false_iff_not, ite_and_p, ite_or_p, Bool.decide_eq_true, Bool.and_eq_true, Bool.or_eq_true, Bool.not_eq_true', Bool.not_eq_false', Bool.and_eq_false_imp, Bool.or_eq_false_iff, bne_iff_ne, beq_iff_eq, bne_eq_false_iff_eq, beq_eq_false_iff_ne, gt_iff_lt, ge_iff_le, Int.not_lt, Int.not_le, ne_eq, Bool.true_eq_false, Bool.false_eq_true, reduceCtorEq, eta_Airway, eta_Door, eta_Dusting, eta_Fan, eta_Mine, eta_Mode, bytes_nil] at hG; (try simp only [List.length_map]); omega) ?_
    | refine EqN.mk _ (ln eLI) ?_
    | refine EqL.mk _ (tk eLI (by first | rfl | assumption | omega | (simp only [List.length_map, List.length_cons, List.length_nil, List.length_append, List.length_set, List.length_replicate, iotaI_len]; done) | (simp only [List.length_map, List.length_cons, List.length_nil, List.length_append, List.length_set, List.length_replicate, iotaI_len]; omega))) ?_
    | refine EqL.mk [] rfl ?_
    | refine EqL.mk [_] rfl ?_
    | refine EqL.mk _ rfl ?_
    | refine ArgF.is (c_slices_ContainsFunc_int64_int64 ..) ?_
    | refine ArgQ.is (fun hG => c_slices_ContainsFunc_int64_int64 ..) rfl rfl ?_
    | refine CallF.mk (CallW.is [] true rfl ?_)
    | refine CallG.mk ?_
    | (refine CondF.mk (fun hb => ?_) (fun hb => ?_) <;> try simp only [forall_const, eq_self, not_true_eq_false, not_false_eq_true, or_false, false_or, or_self, or_true, true_or, and_true, true_and, and_false, false_and, decide_true, decide_false, Bool.not_true, Bool.not_false, decide_eq_true_eq, decide_eq_false_iff_not, ite_and_p, ite_or_p, Bool.decide_eq_true, Bool.and_eq_true, Bool.or_eq_true, Bool.not_eq_true', Bool.not_eq_false', Bool.and_eq_false_imp, Bool.or_eq_false_iff, bne_iff_ne, beq_iff_eq, bne_eq_false_iff_eq, beq_eq_false_iff_ne, gt_iff_lt, ge_iff_le, Int.not_lt, Int.not_le, ne_eq, Bool.true_eq_false, Bool.false_eq_true, reduceCtorEq, eta_Airway, eta_Door, eta_Dusting, eta_Fan, eta_Mine, eta_Mode] at hb)
    | refine RetF.auto (And.intro rfl ?_)
    | exact Is.mk rfl rfl
    | refine Is.mk ?_ rfl
    | refine Is.mk rfl ?_
    | refine Is.mk ?_ ?_
  all_goals try dsimp only
  all_goals try simp only [Bo, I, OB.row.injEq, AV.osl.injEq, eI_same,  List.cons.injEq, AV.p.injEq, PV.c.injEq, Value.int.injEq, Value.bool.injEq, and_true, true_and, ite_and_p, ite_or_p, Bool.decide_eq_true, eta_Airway, eta_Door, eta_Dusting, eta_Fan, eta_Mine, eta_Mode, okStays]
  · rw [← not_any_not]; grind
/-- the dust in an airway at a minute -/
def dAt1 (a t : Int) (x : GDusting) : Int := if x.airway = a ∧ x.from_ ≤ t ∧ t < x.until_ then x.dust else 0
def dTo (ds : List GDusting) (a t : Int) : Nat → Int
  | 0 => 0
  | k + 1 => dTo ds a t k + dAt1 a t (ds.getD k default)
def dAt (ds : List GDusting) (a t : Int) : Int := dTo ds a t ds.length
theorem dTo_b {ds : List GDusting} {a t : Int} (h : okDusts ds = true) : ∀ k : Nat, k ≤ ds.length → 0 ≤ dTo ds a t k ∧ dTo ds a t k ≤ 1000000 * k
  | 0, _ => by simp [dTo]
  | k + 1, hk => by
    have ih := dTo_b (a := a) (t := t) h k (by omega)
    have hx := okDust_b ((okDusts_b h).2 _ (getD_mem (d := default) (show k < ds.length by omega)))
    simp only [dTo, dAt1]
    split <;> omega
theorem dAt_b {ds : List GDusting} {a t : Int} (h : okDusts ds = true) : 0 ≤ dAt ds a t ∧ dAt ds a t ≤ 12000000 := by
  have := dTo_b (a := a) (t := t) h ds.length (Nat.le_refl _)
  have := (okDusts_b h).1
  unfold dAt; omega
theorem dTo_s {ds : List GDusting} {a t i : Int} (h : 0 ≤ i) : dTo ds a t (i + 1).toNat = dTo ds a t i.toNat + dAt1 a t (ds.getD i.toNat default) := by
  rw [show (i + 1).toNat = i.toNat + 1 by omega]; rfl
attribute [local irreducible] dTo okDusts okStays okDust okStay
theorem okD_at {ds : List GDusting} (h : okDusts ds = true) {i : Int} (h0 : 0 ≤ i) (h1 : i < ds.length) : ((0 ≤ (ds.getD i.toNat default).airway ∧ (ds.getD i.toNat default).airway ≤ 23) ∧ (0 ≤ (ds.getD i.toNat default).from_ ∧ (ds.getD i.toNat default).from_ < (ds.getD i.toNat default).until_ ∧ (ds.getD i.toNat default).until_ ≤ 1440) ∧ 0 ≤ (ds.getD i.toNat default).dust ∧ (ds.getD i.toNat default).dust ≤ 1000000) := okDust_b ((okDusts_b h).2 _ (getD_mem (d := default) (by omega)))
theorem c_impl_dustAt (ds : List GDusting) (a t : Int) (hd : okDusts ds = true) : FnSem Try.prog 208 [LD ds, In a, In t] [] (Is [In (dAt ds a t)] []) := by
  have hl := (okDusts_b hd).1
  refine FnSem.walk (zs := zeroPV Try.prog) (by kernel_rfl) Try.func208 rfl Try.results208 (by kernel_rfl) (by kernel_rfl) (by kernel_rfl) fun hw hh => ?_
  obtain ⟨w0, w1, w2, _⟩ := hw
  first | replace w0 := wf_LDusting w0 | skip
  first | replace w1 := wf_I w1 | replace w1 := wf_Y w1 | replace w1 := wf_S w1 | replace w1 := wf_LI w1 | replace w1 := wf_LY w1 | replace w1 := wf_LLI w1 | replace w1 := wf_Ls w1 | skip
  first | replace w2 := wf_I w2 | replace w2 := wf_Y w2 | replace w2 := wf_S w2 | replace w2 := wf_LI w2 | replace w2 := wf_LY w2 | replace w2 := wf_LLI w2 | replace w2 := wf_Ls w2 | skip
  repeat' first
    | refine And.intro rfl ?_
    | refine GdF.mk (fun h => h) ?_
    | refine And.intro (Nat.succ_ne_zero _) ?_
    | refine And.intro (Nat.le_of_ble_eq_true rfl) ?_
    | refine SeqF.run ?_
    | refine EqI.mk _ (fun _ => wrapI (by have := okD_at hd (i := i) (by omega) (by omega); omega) (by have := okD_at hd (i := i) (by omega) (by omega); omega)) ?_
    | refine EqI.mk _ (fun _ => wrapI (by have := okD_at hd (i := i) (by omega) (by omega); have := dTo_b (a := a) (t := t) hd i.toNat (by omega); omega) (by have := okD_at hd (i := i) (by omega) (by omega); have := dTo_b (a := a) (t := t) hd i.toNat (by omega); omega)) ?_
    | refine LoopF.at 3 rfl (LoopF.fix [1, 2, 10, 11] (Int × Int) (fun (s, i) => 0 ≤ i ∧ i ≤ ds.length ∧ s = dTo ds a t i.toNat) (fun (s, i) => [(7, In s), (12, In i)]) (fun (s, i) => []) (fun (s, i) => ((ds.length - i).toNat)) ((0, 0)) ?_)
    | (refine LoopB.of (T := Int × Int) ?_ ?_; rotate_left; rintro ⟨s, i⟩ ⟨h0, h1, h2⟩; rotate_left)
    | refine GhF.go ?_
    | refine GdS.keep ?_
    | refine EqP.mk _ (gm GDusting.cells default rfl) ?_
    | refine BndF.mk (fun _ => by omega) ?_
    | refine BndF.mk (fun _ => by simp only [List.length_map, List.length_cons, List.length_nil, List.length_append, List.length_set, List.length_replicate, iotaI_len]; omega) ?_
    | refine BndF.mk (fun hG => by simp only [forall_const, eq_self, not_true_eq_false, not_false_eq_true, or_false, false_or, or_self, or_true, true_or, and_true, true_and, and_false, false_and, decide_true, decide_false, Bool.not_true, Bool.not_false, decide_eq_true_eq, decide_eq_false_iff_not, ite_and_p, ite_or_p, Bool.decide_eq_true, Bool.and_eq_true, Bool.or_eq_true, Bool.not_eq_true', Bool.not_eq_false', Bool.and_eq_false_imp, Bool.or_eq_false_iff, bne_iff_ne, beq_iff_eq, bne_eq_false_iff_eq, beq_eq_false_iff_ne, gt_iff_lt, ge_iff_le, Int.not_lt, Int.not_le, ne_eq, Bool.true_eq_false, Bool.false_eq_true, reduceCtorEq, eta_Airway, eta_Door, eta_Dusting, eta_Fan, eta_Mine, eta_Mode, bytes_nil] at hG; (try simp only [List.length_map]); omega) ?_
    | refine EqI.mk _ (fun _ => wrapI (by omega) (by omega)) ?_
    | refine EqI.mk _ (fun _ => rfl) ?_
    | refine EqN.mk _ (ln GDusting.cells) ?_
    | refine EqN.mk _ (Nat.zero_add _) ?_
    | refine EqN.mk _ (Int.toNat_natCast _) ?_
    | refine EqN.mk _ rfl ?_
    | refine EqL.mk _ (tk GDusting.cells (by first | rfl | assumption | omega | (simp only [List.length_map, List.length_cons, List.length_nil, List.length_append, List.length_set, List.length_replicate, iotaI_len]; done) | (simp only [List.length_map, List.length_cons, List.length_nil, List.length_append, List.length_set, List.length_replicate, iotaI_len]; omega))) ?_
    | refine EqL.mk _ (st GDusting.cells) ?_
    | refine EqL.mk [] rfl ?_
    | refine EqL.mk [_] rfl ?_
    | refine EqL.mk _ rfl ?_
    | refine ArgF.is (c_impl_within ..) ?_
    | refine ArgQ.is (fun hG => c_impl_within ..) rfl rfl ?_
    | refine CallF.mk (CallW.is [] true rfl ?_)
    | refine CallG.mk ?_
    | (refine CondF.mk (fun hb => ?_) (fun hb => ?_) <;> try simp only [forall_const, eq_self, not_true_eq_false, not_false_eq_true, or_false, false_or, or_self, or_true, true_or, and_true, true_and, and_false, false_and, decide_true, decide_false, Bool.not_true, Bool.not_false, decide_eq_true_eq, decide_eq_false_iff_not, ite_and_p, ite_or_p, Bool.decide_eq_true, Bool.and_eq_true, Bool.or_eq_true, Bool.not_eq_true', Bool.not_eq_false', Bool.and_eq_false_imp, Bool.or_eq_false_iff, bne_iff_ne, beq_iff_eq, bne_eq_false_iff_eq, beq_eq_false_iff_ne, gt_iff_lt, ge_iff_le, Int.not_lt, Int.not_le, ne_eq, Bool.true_eq_false, Bool.false_eq_true, reduceCtorEq, eta_Airway, eta_Door, eta_Dusting, eta_Fan, eta_Mine, eta_Mode] at hb)
    | apply BackF.auto2
    | refine BackB.mk ?_ ?_
    | refine RetF.auto (And.intro rfl ?_)
    | exact Is.mk rfl rfl
    | refine Is.mk ?_ rfl
    | refine Is.mk rfl ?_
    | refine Is.mk ?_ ?_
  all_goals try dsimp only
  all_goals try simp only [Bo, I, OB.row.injEq, AV.osl.injEq, eI_same,  List.cons.injEq, AV.p.injEq, PV.c.injEq, Value.int.injEq, Value.bool.injEq, and_true, true_and, ite_and_p, ite_or_p, Bool.decide_eq_true, eta_Airway, eta_Door, eta_Dusting, eta_Fan, eta_Mine, eta_Mode]
  all_goals try omega
  · exact ⟨by omega, by omega, by unfold dTo; rfl⟩
  · exact ⟨by omega, by omega, by rw [dTo_s h0, h2]; unfold dAt1; simp only [inR_iff] at hb; rw [if_pos (by omega)]⟩
  · exact ⟨by omega, by omega, by rw [dTo_s h0, h2]; unfold dAt1; rw [if_neg (by simp only [Bool.and_eq_false_imp, decide_eq_true_eq, inR_f] at hb; omega)]; omega⟩
  · rw [h2, show i.toNat = ds.length by omega]; rfl
/-- the dust of a time, each minute's divided by f -/
def dS (ds : List GDusting) (a f u : Int) : Nat → Int
  | 0 => 0
  | k + 1 => dS ds a f u k + dAt ds a (u + k) / f
theorem dS_s {ds : List GDusting} {a f u i : Int} (h : u ≤ i) : dS ds a f u (i + 1 - u).toNat = dS ds a f u (i - u).toNat + dAt ds a i / f := by
  rw [show (i + 1 - u).toNat = (i - u).toNat + 1 by omega]
  simp only [dS]; rw [show u + ((i - u).toNat : Int) = i by omega]
theorem dS_b {ds : List GDusting} {a f u : Int} (h : okDusts ds = true) (hf : 1 ≤ f) : ∀ k : Nat, 0 ≤ dS ds a f u k ∧ dS ds a f u k ≤ 12000000 * k
  | 0 => by simp [dS]
  | k + 1 => by
    have ih := dS_b (a := a) (f := f) (u := u) h hf k
    have h1 := dAt_b (a := a) (t := u + k) h
    have h2 := Int.ediv_nonneg h1.1 (show 0 ≤ f by omega)
    have h3 := Int.ediv_le_self f h1.1
    simp only [dS]; omega
def expo (ds : List GDusting) (f : Int) (s : List Int) : Int := dS ds (s.getD 0 0) f (s.getD 1 0) (s.getD 2 0 - s.getD 1 0).toNat
theorem expo_b {ds : List GDusting} {f : Int} {s : List Int} (h : okDusts ds = true) (hf : 1 ≤ f) (hs : okStay s = true) : 0 ≤ expo ds f s ∧ expo ds f s ≤ 17280000000 := by
  have h1 := okStay_b hs
  have h2 := dS_b (a := s.getD 0 0) (f := f) (u := s.getD 1 0) h hf (s.getD 2 0 - s.getD 1 0).toNat
  unfold expo; omega
attribute [local irreducible] dS dAt
theorem c_impl_exposureOf (ds : List GDusting) (s : List Int) (f : Int) (hd : okDusts ds = true) (hs : okStay s = true) (hf : 1 ≤ f) : FnSem Try.prog 142 [LD ds, Lx (LI s), In f] [] (Is [In (expo ds f s)] []) := by
  have hl := okStay_b hs
  have hB := fun t => dAt_b (a := s.getD 0 0) (t := t) hd
  have hQ : ∀ t, 0 ≤ dAt ds (s.getD 0 0) t / f ∧ dAt ds (s.getD 0 0) t / f ≤ 12000000 := fun t => ⟨Int.ediv_nonneg (hB t).1 (by omega), Int.le_trans (Int.ediv_le_self f (hB t).1) (hB t).2⟩
  have hS := fun k => dS_b (a := s.getD 0 0) (f := f) (u := s.getD 1 0) hd hf k
  refine FnSem.walk (zs := zeroPV Try.prog) (by kernel_rfl) Try.func142 rfl Try.results142 (by kernel_rfl) (by kernel_rfl) (by kernel_rfl) fun hw hh => ?_
  obtain ⟨w0, w1, w2, _⟩ := hw
  first | replace w0 := wf_LDusting w0 | skip
  first | replace w1 := wf_I w1 | replace w1 := wf_Y w1 | replace w1 := wf_S w1 | replace w1 := wf_LI w1 | replace w1 := wf_LY w1 | replace w1 := wf_LLI w1 | replace w1 := wf_Ls w1 | skip
  first | replace w2 := wf_I w2 | replace w2 := wf_Y w2 | replace w2 := wf_S w2 | replace w2 := wf_LI w2 | replace w2 := wf_LY w2 | replace w2 := wf_LLI w2 | replace w2 := wf_Ls w2 | skip
  repeat' first
    | refine And.intro rfl ?_
    | refine GdF.mk (fun h => h) ?_
    | refine And.intro (Nat.succ_ne_zero _) ?_
    | refine And.intro (Nat.le_of_ble_eq_true rfl) ?_
    | refine SeqF.run ?_
    | refine EqP.mk _ (gm 0 rfl) ?_
    | refine EqI.mk _ (fun _ => wrapD (hB _).1 (by omega) (by have := (hB i).2; simp only [Int.toNat_zero]; omega)) ?_
    | refine EqI.mk _ (fun _ => wrapI (by have := hQ i; have := hS (i - s.getD 1 0).toNat; simp only [Int.toNat_zero]; omega) (by have := hQ i; have := hS (i - s.getD 1 0).toNat; simp only [Int.toNat_zero]; omega)) ?_
    | refine LoopF.at 3 rfl (LoopF.fix [0, 1, 2] (Int × Int) (fun (x, i) => s.getD 1 0 ≤ i ∧ i ≤ s.getD 2 0 ∧ x = dS ds (s.getD 0 0) f (s.getD 1 0) (i - s.getD 1 0).toNat) (fun (x, i) => [(7, In x), (8, In i)]) (fun (x, i) => []) (fun (x, i) => ((s.getD 2 0 - i).toNat)) ((0, s.getD 1 0)) ?_)
    | (refine LoopB.of (T := Int × Int) ?_ ?_; rotate_left; rintro ⟨x, i⟩ ⟨h0, h1, h2⟩; rotate_left)
    | refine GhF.go ?_
    | refine EqP.mk _ (gm eI 0 rfl) ?_
    | refine EqP.mk _ (gm GDusting.cells default rfl) ?_
    | refine BndF.mk (fun _ => by omega) ?_
    | refine BndF.mk (fun _ => by simp only [List.length_map, List.length_cons, List.length_nil, List.length_append, List.length_set, List.length_replicate, iotaI_len]; omega) ?_
    | refine EqI.mk _ (fun _ => wrapI (by omega) (by omega)) ?_
    | refine EqI.mk _ (fun _ => wrapD (by omega) (by omega) (by omega)) ?_
    | refine EqI.mk _ (fun _ => rfl) ?_
    | refine EqN.mk _ (Nat.zero_add _) ?_
    | refine EqN.mk _ (Int.toNat_natCast _) ?_
    | refine EqN.mk _ rfl ?_
    | refine EqL.mk _ (tk eI (by first | rfl | assumption | omega | (simp only [List.length_map, List.length_cons, List.length_nil, List.length_append, List.length_set, List.length_replicate, iotaI_len]; done) | (simp only [List.length_map, List.length_cons, List.length_nil, List.length_append, List.length_set, List.length_replicate, iotaI_len]; omega))) ?_
    | refine EqL.mk _ (tk GDusting.cells (by first | rfl | assumption | omega | (simp only [List.length_map, List.length_cons, List.length_nil, List.length_append, List.length_set, List.length_replicate, iotaI_len]; done) | (simp only [List.length_map, List.length_cons, List.length_nil, List.length_append, List.length_set, List.length_replicate, iotaI_len]; omega))) ?_
    | refine EqL.mk [] rfl ?_
    | refine EqL.mk [_] rfl ?_
    | refine EqL.mk _ rfl ?_
    | refine ArgF.is (c_impl_dustAt _ _ _ (by first | assumption | omega)) ?_
    | refine ArgQ.is (fun hG => c_impl_dustAt _ _ _ (by first | assumption | omega)) rfl rfl ?_
    | refine ArgQ.is (fun hG => c_impl_dustAt _ _ _ (by simp only [forall_const, eq_self, not_true_eq_false, not_false_eq_true, or_false, false_or, or_self, or_true, true_or, and_true, true_and, and_false, false_and, decide_true, decide_false, Bool.not_true, Bool.not_false, decide_eq_true_eq, decide_eq_false_iff_not, ite_and_p, ite_or_p, Bool.decide_eq_true, Bool.and_eq_true, Bool.or_eq_true, Bool.not_eq_true', Bool.not_eq_false', Bool.and_eq_false_imp, Bool.or_eq_false_iff, bne_iff_ne, beq_iff_eq, bne_eq_false_iff_eq, beq_eq_false_iff_ne, gt_iff_lt, ge_iff_le, Int.not_lt, Int.not_le, ne_eq, Bool.true_eq_false, Bool.false_eq_true, reduceCtorEq, eta_Airway, eta_Door, eta_Dusting, eta_Fan, eta_Mine, eta_Mode, bytes_nil] at hG; omega)) rfl rfl ?_
    | refine CallF.mk (CallW.is [] true rfl ?_)
    | refine CallG.mk ?_
    | (refine CondF.mk (fun hb => ?_) (fun hb => ?_) <;> try simp only [forall_const, eq_self, not_true_eq_false, not_false_eq_true, or_false, false_or, or_self, or_true, true_or, and_true, true_and, and_false, false_and, decide_true, decide_false, Bool.not_true, Bool.not_false, decide_eq_true_eq, decide_eq_false_iff_not, ite_and_p, ite_or_p, Bool.decide_eq_true, Bool.and_eq_true, Bool.or_eq_true, Bool.not_eq_true', Bool.not_eq_false', Bool.and_eq_false_imp, Bool.or_eq_false_iff, bne_iff_ne, beq_iff_eq, bne_eq_false_iff_eq, beq_eq_false_iff_ne, gt_iff_lt, ge_iff_le, Int.not_lt, Int.not_le, ne_eq, Bool.true_eq_false, Bool.false_eq_true, reduceCtorEq, eta_Airway, eta_Door, eta_Dusting, eta_Fan, eta_Mine, eta_Mode] at hb)
    | apply BackF.auto2
    | refine BackB.mk ?_ ?_
    | refine RetF.auto (And.intro rfl ?_)
    | exact Is.mk rfl rfl
    | refine Is.mk ?_ rfl
    | refine Is.mk rfl ?_
    | refine Is.mk ?_ ?_
  all_goals try dsimp only
  all_goals try simp only [Bo, I, OB.row.injEq, AV.osl.injEq, eI_same,  List.cons.injEq, AV.p.injEq, PV.c.injEq, Value.int.injEq, Value.bool.injEq, and_true, true_and, ite_and_p, ite_or_p, Bool.decide_eq_true, eta_Airway, eta_Door, eta_Dusting, eta_Fan, eta_Mine, eta_Mode]
  · exact ⟨by omega, by omega, by rw [Int.sub_self]; unfold dS; rfl⟩
  · exact ⟨by omega, by have : i < s.getD 2 0 := hb; omega, by rw [dS_s h0, h2]; rfl⟩
  · have : i < s.getD 2 0 := hb; omega
  · have : s.getD 2 0 ≤ i := hb
    rw [h2, show i = s.getD 2 0 by omega]; rfl
end Go.Proofs.Ytnmfbdkiehickaa
