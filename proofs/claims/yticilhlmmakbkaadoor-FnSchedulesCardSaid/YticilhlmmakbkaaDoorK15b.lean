/- Contracts of functions of the program, and what they compute. Conditions: those that each theorem states. -/
import Derived.Test.YticilhlmmakbkaaDoorProg
import Derived.Test.YticilhlmmakbkaaDoorK15
set_option linter.unusedVariables false
set_option linter.unusedSimpArgs false
namespace Go.Proofs.YticilhlmmakbkaaDoor
open Go.Av
attribute [local irreducible] Go.IntKind.wrap okModes okMode
set_option maxRecDepth 20000
set_option maxHeartbeats 2000000

/-- the greatest power -/
def peakP (ms : List GMode) (m : Int) (k : Int) : Int := max m (ms.getD k.toNat default).power
def peakPow (ms : List GMode) (day : List Int) : Int × Int := if okModes ms then (if okHours day (ms.length - 1) then (day.foldl (peakP ms) 0, 0) else (0, 2)) else (0, 1)
theorem c_impl_PeakPower (ms : List GMode) (day : List Int) : FnSem Tryd.prog 15 [Lx (.lst (GMode.cells default) (ms.map GMode.cells)), Lx (LI day)] [] (Is [In (peakPow ms day).1, In (peakPow ms day).2] []) := by
  refine FnSem.walk (zs := zeroPV Tryd.prog) (by kernel_rfl) Tryd.func15 rfl Tryd.results15 (by kernel_rfl) (by kernel_rfl) (by kernel_rfl) fun hw hh => ?_
  obtain ⟨w0, w1, _⟩ := hw
  first | replace w0 := wf_LMode w0 | skip
  first | replace w1 := wf_I w1 | replace w1 := wf_Y w1 | replace w1 := wf_S w1 | replace w1 := wf_LI w1 | replace w1 := wf_LY w1 | replace w1 := wf_LLI w1 | replace w1 := wf_Ls w1 | skip
  repeat' first
    | refine And.intro rfl ?_
    | refine GdF.mk (fun h => h) ?_
    | refine And.intro (Nat.succ_ne_zero _) ?_
    | refine And.intro (Nat.le_of_ble_eq_true rfl) ?_
    | refine SeqF.run ?_
    | refine LoopF.at 7 rfl (LoopF.fix [0, 18, 19] (Int × Int) (fun (i, m) => 0 ≤ i ∧ i ≤ 24 ∧ m = foldT (peakP ms) 0 day i ∧ okModes ms = true ∧ okHours day (ms.length - 1) = true ∧ day.length = 24 ∧ (∀ j : Nat, (j : Int) < 24 → 0 ≤ day.getD j 0 ∧ day.getD j 0 < ms.length)) (fun (i, m) => [(20, In i), (6, In m)]) (fun (i, m) => []) (fun (i, m) => ((24 - i).toNat)) ((0, 0)) ?_)
    | (refine LoopB.of (T := Int × Int) ?_ ?_; rotate_left; rintro ⟨i, m⟩ ⟨h0, h1, h2, h3, h4, h5, h6⟩; rotate_left)
    | refine BndF.mk (fun _ => by have := h6 i.toNat (by omega); rw [ln]; omega) ?_
    | refine EqP.mk _ (gmb GMode.cells default (by have := h6 i.toNat (by omega); omega)) ?_
    | refine GhF.go ?_
    | refine EqP.mk _ (gm eI 0 rfl) ?_
    | refine EqP.mk _ (gm GMode.cells default rfl) ?_
    | refine BndF.mk (fun _ => by omega) ?_
    | refine BndF.mk (fun _ => by simp only [List.length_map, List.length_cons, List.length_nil, List.length_append, List.length_set, List.length_replicate, iotaI_len]; omega) ?_
    | refine EqI.mk _ (fun _ => wrapI (by omega) (by omega)) ?_
    | refine EqI.mk _ (fun _ => rfl) ?_
    | refine EqN.mk _ (ln eI) ?_
    | refine EqN.mk _ (ln GMode.cells) ?_
    | refine EqN.mk _ (Nat.zero_add _) ?_
    | refine EqN.mk _ (Int.toNat_natCast _) ?_
    | refine EqN.mk _ rfl ?_
    | refine EqL.mk _ (tk eI (by first | rfl | assumption | omega | (simp only [List.length_map, List.length_cons, List.length_nil, List.length_append, List.length_set, List.length_replicate, iotaI_len]; done) | (simp only [List.length_map, List.length_cons, List.length_nil, List.length_append, List.length_set, List.length_replicate, iotaI_len]; omega))) ?_
    | refine EqL.mk _ (tk GMode.cells (by first | rfl | assumption | omega | (simp only [List.length_map, List.length_cons, List.length_nil, List.length_append, List.length_set, List.length_replicate, iotaI_len]; done) | (simp only [List.length_map, List.length_cons, List.length_nil, List.length_append, List.length_set, List.length_replicate, iotaI_len]; omega))) ?_
    | refine EqL.mk [] rfl ?_
    | refine EqL.mk [_] rfl ?_
    | refine EqL.mk _ rfl ?_
    | refine ArgF.is (c_impl_ValidModes ..) ?_
    | refine ArgQ.is (fun hG => c_impl_ValidModes ..) rfl rfl ?_
    | refine ArgF.is (c_impl_dayOk ..) ?_
    | refine ArgQ.is (fun hG => c_impl_dayOk ..) rfl rfl ?_
    | refine CallF.mk (CallW.is [] true rfl ?_)
    | refine CallG.mk ?_
    | (refine CondF.mk (fun hb => ?_) (fun hb => ?_) <;> try simp only [forall_const, eq_self, not_true_eq_false, not_false_eq_true, or_false, false_or, or_self, or_true, true_or, and_true, true_and, and_false, false_and, decide_true, decide_false, Bool.not_true, Bool.not_false, decide_eq_true_eq, decide_eq_false_iff_not, ite_and_p, ite_or_p, Bool.decide_eq_true, Bool.and_eq_true, Bool.or_eq_true, Bool.not_eq_true', Bool.not_eq_false', Bool.and_eq_false_imp, Bool.or_eq_false_iff, bne_iff_ne, beq_iff_eq, bne_eq_false_iff_eq, beq_eq_false_iff_ne, gt_iff_lt, ge_iff_le, Int.not_lt, Int.not_le, ne_eq, Bool.true_eq_false, Bool.false_eq_true, reduceCtorEq, eta_Mode] at hb)
    | apply BackF.auto2
    | refine BackB.mk ?_ ?_
    | refine RetF.auto (And.intro rfl ?_)
    | exact Is.mk rfl rfl
    | refine Is.mk ?_ rfl
    | refine Is.mk rfl ?_
    | refine Is.mk ?_ ?_
  all_goals try dsimp only
  all_goals try simp only [Bo, I, OB.row.injEq, AV.osl.injEq, eI_same,  List.cons.injEq, AV.p.injEq, PV.c.injEq, Value.int.injEq, Value.bool.injEq, and_true, true_and, ite_and_p, ite_or_p, Bool.decide_eq_true, eta_Mode, peakPow]
  · rw [if_neg (by simp [hb])]; exact ⟨rfl, rfl⟩
  · rename_i h; rw [if_pos h, if_neg (by simp [hb])]; exact ⟨rfl, rfl⟩
  · rename_i h; have hd := dayB hb; exact ⟨by omega, by omega, rfl, h, hb, hd.1, hd.2⟩
  · exact ⟨by omega, by omega, by rw [foldT_s h0 hb 0, ← h2]; rfl, h3, h4, h5, h6⟩
  · omega
  · rw [if_pos h3, if_pos h4, h2, foldT_e (by omega)]; exact ⟨rfl, rfl⟩
end Go.Proofs.YticilhlmmakbkaaDoor
