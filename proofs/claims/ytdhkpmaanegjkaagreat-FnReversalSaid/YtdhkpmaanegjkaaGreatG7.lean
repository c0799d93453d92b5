/- Contracts of functions of the program, and what they compute. Conditions: those that each theorem states. -/
import Derived.Test.YtdhkpmaanegjkaaGreatProg
import Derived.Test.YtdhkpmaanegjkaaGreatF7
import Derived.Test.YtdhkpmaanegjkaaGreatR5
import Derived.Test.YtdhkpmaanegjkaaGreatL1
import Derived.Test.YtdhkpmaanegjkaaGreatB2
import Derived.Test.YtdhkpmaanegjkaaGreatV1
import Derived.Test.YtdhkpmaanegjkaaGreatG1
set_option linter.unusedVariables false
set_option linter.unusedSimpArgs false
namespace Go.Proofs.YtdhkpmaanegjkaaGreat
open Go.Av
attribute [local irreducible] Go.IntKind.wrap leastI rdZ rd rootI
set_option maxRecDepth 20000
set_option maxHeartbeats 16000000
def fpB (rise t base : Int) : Bool := inR rise (-1000) 1000 && inR base (-100) 600 && inR t base 12000
def fpI (rise t base : Int) : Int × Int := if fpB rise t base = true then (rdZ (1177200 * rise * (t - base)) (100000 * (t + 2731)), 0) else (0, 2)
section
variable {rise t base : Int}
theorem fpI_t (h : fpB rise t base = true) : fpI rise t base = (rdZ (1177200 * rise * (t - base)) (100000 * (t + 2731)), 0) := by unfold fpI; rw [if_pos h]
theorem fpI_f (h : fpB rise t base = false) : fpI rise t base = (0, 2) := by unfold fpI; rw [h]; rfl
theorem fpB_f (h : (inR rise (-1000) 1000 = false ∨ inR base (-100) 600 = false) ∨ inR t base 12000 = false) : fpB rise t base = false := by
  unfold fpB; rcases h with (h | h) | h <;> rw [h] <;> simp
theorem fpB_t (h : fpB rise t base = true) : (-1000 ≤ rise ∧ rise ≤ 1000) ∧ (-100 ≤ base ∧ base ≤ 600) ∧ base ≤ t ∧ t ≤ 12000 := by
  unfold fpB at h
  simp only [Bool.and_eq_true, inR_iff] at h
  exact ⟨h.1.1, h.1.2, h.2⟩
theorem fpB_o (h1 : inR rise (-1000) 1000 = true) (h2 : inR base (-100) 600 = true) (h3 : inR t base 12000 = true) : fpB rise t base = true := by
  unfold fpB; rw [h1, h2, h3]; rfl
theorem rdZ_zero {y : Int} (hy : 0 < y) : rdZ 0 y = 0 := by
  have h1 := rdZ_lo (a := 0) (x := 0) (y := y) hy (by omega)
  have h2 := rdZ_hi (b := 0) (x := 0) (y := y) hy (by omega)
  omega
theorem fp_law (h : (fpI rise t base).2 = 0) : fpI (-rise) t base = (-(fpI rise t base).1, 0) ∧ fpI 0 t base = (0, 0) ∧ (0 < rise → 0 ≤ (fpI rise t base).1) := by
  by_cases hb : fpB rise t base = true
  · have q := fpB_t hb
    have hy : 0 < 100000 * (t + 2731) := by omega
    have h1 : fpB (-rise) t base = true := fpB_o (inR_iff.2 (by omega)) (inR_iff.2 q.2.1) (inR_iff.2 q.2.2)
    have h2 : fpB 0 t base = true := fpB_o (inR_iff.2 (by omega)) (inR_iff.2 q.2.1) (inR_iff.2 q.2.2)
    rw [fpI_t hb, fpI_t h1, fpI_t h2]
    refine ⟨?_, ?_, fun h0 => ?_⟩
    · rw [show 1177200 * -rise * (t - base) = -(1177200 * rise * (t - base)) by rw [Int.mul_neg, Int.neg_mul], rdZ_neg hy]
    · rw [Int.mul_zero, Int.zero_mul, rdZ_zero hy]
    · refine rdZ_lo hy ?_
      rw [Int.zero_mul]
      exact Int.mul_nonneg (by omega) (by omega)
  · rw [fpI_f (by simpa using hb)] at h; cases h
theorem fp_b (h : (fpI rise t base).2 = 0) : -100000000000000 ≤ (fpI rise t base).1 ∧ (fpI rise t base).1 ≤ 100000000000000 := by
  by_cases hb : fpB rise t base = true
  · have q := fpB_t hb
    have hy : 0 < 100000 * (t + 2731) := by omega
    have hm := mulB (a := 1177200 * rise) (b := t - base) (A := 1177200000) (B := 12100) (by omega) (by omega)
    rw [fpI_t hb]
    exact ⟨rdZ_lo hy (by omega), rdZ_hi hy (by omega)⟩
  · rw [fpI_f (by simpa using hb)] at h; cases h
theorem fp_0 (h : ¬(fpI rise t base).2 = 0) : (fpI rise t base).1 = 0 := by
  by_cases hb : fpB rise t base = true
  · rw [fpI_t hb] at h; exact absurd rfl h
  · rw [fpI_f (by simpa using hb)]
end
theorem rsP {x y : Int × Int} (h : x = y) : y.1 = x.1 ∧ y.2 = x.2 := by rw [h]; exact ⟨rfl, rfl⟩
--@fn impl.FirePush
theorem fpX (rise t base : Int) : FnSem Tryz.prog 13 [In rise, In t, In base] [] (Is [In (fpI rise t base).1, In (fpI rise t base).2] []) := by
  refine FnSem.walk (zs := zeroPV Tryz.prog) (by kernel_rfl) Tryz.func13 rfl Tryz.results13 (by kernel_rfl) (by kernel_rfl) (by kernel_rfl) fun hw hh => ?_
  obtain ⟨w0, w1, w2, _⟩ := hw
  first | replace w0 := wf_I w0 | skip
  first | replace w1 := wf_I w1 | skip
  first | replace w2 := wf_I w2 | skip
  repeat' first
    | refine And.intro rfl ?_
    | refine GdF.mk (fun h => h) ?_
    | refine And.intro (Nat.succ_ne_zero _) ?_
    | refine And.intro (Nat.le_of_ble_eq_true rfl) ?_
    | refine SeqF.run ?_
    | refine ArgF.is (c_impl_within rise (-1000) 1000) ?_
    | refine ArgQ.is (fun hG => c_impl_within rise (-1000) 1000) rfl rfl ?_
    | refine ArgF.is (c_impl_warmthOk base) ?_
    | refine ArgQ.is (fun hG => c_impl_warmthOk base) rfl rfl ?_
    | refine ArgF.is (c_impl_within t base 12000) ?_
    | refine ArgQ.is (fun hG => c_impl_within t base 12000) rfl rfl ?_
    | (have h1 : inR rise (-1000) 1000 = true := (by simp_all); have h2 : inR base (-100) 600 = true := (by simp_all); have h3 : inR t base 12000 = true := (by simp_all); have a1 := inR_iff.1 h1; have a2 := inR_iff.1 h2; have a3 := inR_iff.1 h3; have hm := mulB (a := 1177200 * rise) (b := t - base) (A := 1177200000) (B := 12100) (by omega) (by omega); refine EqI.mk (1177200 * rise) (fun _ => wrapI (by omega) (by omega)) ?_)
    | refine ArgF.is (divRoundZ (1177200 * rise * (t - base)) (100000 * (t + 2731)) (by omega) (by omega) (by omega)) ?_
    | refine ArgQ.is (fun hG => divRoundZ (1177200 * rise * (t - base)) (100000 * (t + 2731)) (by omega) (by omega) (by omega)) rfl rfl ?_
    | refine GhF.go ?_
    | refine GdS.keep ?_
    | refine BndF.mk (fun _ => by omega) ?_
    | refine BndF.mk (fun _ => by simp only [lnS]; omega) ?_
    | refine BndF.mk (fun hG => by simp only [forall_const, eq_self, not_true_eq_false, not_false_eq_true, or_false, false_or, or_self, or_true, true_or, and_true, true_and, and_false, false_and, decide_true, decide_false, Bool.not_true, Bool.not_false, decide_eq_true_eq, decide_eq_false_iff_not, ite_and_p, ite_or_p, Bool.decide_eq_true, Bool.and_eq_true, Bool.or_eq_true, Bool.not_eq_true', Bool.not_eq_false', Bool.and_eq_false_imp, Bool.or_eq_false_iff, bne_iff_ne, beq_iff_eq, bne_eq_false_iff_eq, beq_eq_false_iff_ne, gt_iff_lt, ge_iff_le, Int.not_lt, Int.not_le, ne_eq, Bool.true_eq_false, Bool.false_eq_true, reduceCtorEq, eta_Airway, eta_Fan, eta_Mine, bytes_nil] at hG; (try simp only [List.length_map]); omega) ?_
    | refine EqI.mk _ (fun _ => wrapI (by omega) (by omega)) ?_
    | refine EqI.mk _ (fun _ => rfl) ?_
    | refine EqL.mk [] rfl ?_
    | refine EqL.mk [_] rfl ?_
    | refine EqL.mk _ rfl ?_
    | refine ArgF.is (c_impl_within ..) ?_
    | refine ArgQ.is (fun hG => c_impl_within ..) rfl rfl ?_
    | refine ArgF.is (c_impl_warmthOk ..) ?_
    | refine ArgQ.is (fun hG => c_impl_warmthOk ..) rfl rfl ?_
    | refine ArgF.is (c_impl_divRound _ _ (by first | assumption | omega) (by first | assumption | omega) (by first | assumption | omega) (by first | assumption | omega)) ?_
    | refine ArgQ.is (fun hG => c_impl_divRound _ _ (by first | assumption | omega) (by first | assumption | omega) (by first | assumption | omega) (by first | assumption | omega)) rfl rfl ?_
    | refine ArgQ.is (fun hG => c_impl_divRound _ _ (by simp only [forall_const, eq_self, not_true_eq_false, not_false_eq_true, or_false, false_or, or_self, or_true, true_or, and_true, true_and, and_false, false_and, decide_true, decide_false, Bool.not_true, Bool.not_false, decide_eq_true_eq, decide_eq_false_iff_not, ite_and_p, ite_or_p, Bool.decide_eq_true, Bool.and_eq_true, Bool.or_eq_true, Bool.not_eq_true', Bool.not_eq_false', Bool.and_eq_false_imp, Bool.or_eq_false_iff, bne_iff_ne, beq_iff_eq, bne_eq_false_iff_eq, beq_eq_false_iff_ne, gt_iff_lt, ge_iff_le, Int.not_lt, Int.not_le, ne_eq, Bool.true_eq_false, Bool.false_eq_true, reduceCtorEq, eta_Airway, eta_Fan, eta_Mine, bytes_nil] at hG; omega) (by simp only [forall_const, eq_self, not_true_eq_false, not_false_eq_true, or_false, false_or, or_self, or_true, true_or, and_true, true_and, and_false, false_and, decide_true, decide_false, Bool.not_true, Bool.not_false, decide_eq_true_eq, decide_eq_false_iff_not, ite_and_p, ite_or_p, Bool.decide_eq_true, Bool.and_eq_true, Bool.or_eq_true, Bool.not_eq_true', Bool.not_eq_false', Bool.and_eq_false_imp, Bool.or_eq_false_iff, bne_iff_ne, beq_iff_eq, bne_eq_false_iff_eq, beq_eq_false_iff_ne, gt_iff_lt, ge_iff_le, Int.not_lt, Int.not_le, ne_eq, Bool.true_eq_false, Bool.false_eq_true, reduceCtorEq, eta_Airway, eta_Fan, eta_Mine, bytes_nil] at hG; omega) (by simp only [forall_const, eq_self, not_true_eq_false, not_false_eq_true, or_false, false_or, or_self, or_true, true_or, and_true, true_and, and_false, false_and, decide_true, decide_false, Bool.not_true, Bool.not_false, decide_eq_true_eq, decide_eq_false_iff_not, ite_and_p, ite_or_p, Bool.decide_eq_true, Bool.and_eq_true, Bool.or_eq_true, Bool.not_eq_true', Bool.not_eq_false', Bool.and_eq_false_imp, Bool.or_eq_false_iff, bne_iff_ne, beq_iff_eq, bne_eq_false_iff_eq, beq_eq_false_iff_ne, gt_iff_lt, ge_iff_le, Int.not_lt, Int.not_le, ne_eq, Bool.true_eq_false, Bool.false_eq_true, reduceCtorEq, eta_Airway, eta_Fan, eta_Mine, bytes_nil] at hG; omega) (by simp only [forall_const, eq_self, not_true_eq_false, not_false_eq_true, or_false, false_or, or_self, or_true, true_or, and_true, true_and, and_false, false_and, decide_true, decide_false, Bool.not_true, Bool.not_false, decide_eq_true_eq, decide_eq_false_iff_not, ite_and_p, ite_or_p, Bool.decide_eq_true, Bool.and_eq_true, Bool.or_eq_true, Bool.not_eq_true', Bool.not_eq_false', Bool.and_eq_false_imp, Bool.or_eq_false_iff, bne_iff_ne, beq_iff_eq, bne_eq_false_iff_eq, beq_eq_false_iff_ne, gt_iff_lt, ge_iff_le, Int.not_lt, Int.not_le, ne_eq, Bool.true_eq_false, Bool.false_eq_true, reduceCtorEq, eta_Airway, eta_Fan, eta_Mine, bytes_nil] at hG; omega)) rfl rfl ?_
    | refine CallF.mk (CallW.is [] true rfl ?_)
    | refine CallG.mk ?_
    | (refine CondF.mk (fun hb => ?_) (fun hb => ?_) <;> try simp only [forall_const, eq_self, not_true_eq_false, not_false_eq_true, or_false, false_or, or_self, or_true, true_or, and_true, true_and, and_false, false_and, decide_true, decide_false, Bool.not_true, Bool.not_false, decide_eq_true_eq, decide_eq_false_iff_not, ite_and_p, ite_or_p, Bool.decide_eq_true, Bool.and_eq_true, Bool.or_eq_true, Bool.not_eq_true', Bool.not_eq_false', Bool.and_eq_false_imp, Bool.or_eq_false_iff, bne_iff_ne, beq_iff_eq, bne_eq_false_iff_eq, beq_eq_false_iff_ne, gt_iff_lt, ge_iff_le, Int.not_lt, Int.not_le, ne_eq, Bool.true_eq_false, Bool.false_eq_true, reduceCtorEq, eta_Airway, eta_Fan, eta_Mine] at hb)
    | refine RetF.auto (And.intro rfl ?_)
    | exact Is.mk rfl rfl
    | refine Is.mk ?_ rfl
    | refine Is.mk rfl ?_
    | refine Is.mk ?_ ?_
  all_goals try dsimp only
  all_goals try simp only [Bo, I, OB.row.injEq, AV.osl.injEq, eI_same,  List.cons.injEq, AV.p.injEq, PV.c.injEq, Value.int.injEq, Value.bool.injEq, and_true, true_and, ite_and_p, ite_or_p, Bool.decide_eq_true, eta_Airway, eta_Fan, eta_Mine]
  all_goals try dsimp only
  all_goals first
    | exact rsP (fpI_f (fpB_f (by simpa using hb)))
    | exact rsP (fpI_t (fpB_o h1 h2 h3))
    | skip
theorem c_spec_DrawFirePush (c : List Int) (hc : bytes c) : FnSem Tryz.prog 12 [Lx (LY c)] [] (RetV (fun v : Int × Int × Int => [In v.1, In v.2.1, In v.2.2]) (fun _ => []) (fun v => -1001 ≤ v.1 ∧ v.1 ≤ 1001)) := by
  refine FnSem.walk (zs := zeroPV Tryz.prog) (by kernel_rfl) Tryz.func12 rfl Tryz.results12 (by kernel_rfl) (by kernel_rfl) (by kernel_rfl) fun hw hh => ?_
  obtain ⟨w0, _⟩ := hw
  first | replace w0 := wf_LY w0 | skip
  repeat' first
    | refine And.intro rfl ?_
    | refine GdF.mk (fun h => h) ?_
    | refine And.intro (Nat.succ_ne_zero _) ?_
    | refine And.intro (Nat.le_of_ble_eq_true rfl) ?_
    | refine SeqF.run ?_
    | (refine ArgF.srw (c_spec_l00Src_among c _ _ [-1001, -1000, 0, 1000, 1001] 5 hc (by omega) (by omega) rfl) ?_; intro w4 pw4 sw4 hw4 hpw4; simp only [List.mem_cons, List.not_mem_nil, or_false] at hw4)
    | refine RetV.mk (α := Int × Int × Int) (_, _, _) rfl rfl ?_
    | refine GhF.go ?_
    | refine MkF.row ?_
    | refine BndF.mk (fun _ => by omega) ?_
    | refine BndF.mk (fun _ => by simp only [lnS]; omega) ?_
    | refine EqI.mk _ (fun _ => wrapI (by omega) (by omega)) ?_
    | refine EqI.mk _ (fun _ => rfl) ?_
    | refine EqL.mk _ (tk eY (by first | rfl | assumption | omega | (simp only [lnS] <;> omega))) ?_
    | refine EqL.mk _ (tk eI (by first | rfl | assumption | omega | (simp only [lnS] <;> omega))) ?_
    | refine EqL.mk (List.map eI [_, _, _, _]) rfl ?_
    | refine EqL.mk (List.map eI [_, _, _, _, _]) rfl ?_
    | refine EqL.mk [] rfl ?_
    | refine EqL.mk [_] rfl ?_
    | refine EqL.mk _ rfl ?_
    | refine ArgF.is (c_spec_l00From ..) ?_
    | refine ArgQ.is (fun hG => c_spec_l00From ..) rfl rfl ?_
    | (refine ArgF.src (c_spec_l00Src_pick _ _ _ _ (by first | assumption | omega | rfl | (simp only [List.length_cons, List.length_nil]; omega)) (by first | assumption | omega | rfl | (simp only [List.length_cons, List.length_nil]; omega)) (by first | assumption | omega | rfl | (simp only [List.length_cons, List.length_nil]; omega))) ?_; intro _ _ _ _ _)
    | (refine ArgF.src (c_spec_l02DrawTemperature _ _ _ (by first | assumption | omega | rfl | (simp only [List.length_cons, List.length_nil]; omega)) (by first | assumption | omega | rfl | (simp only [List.length_cons, List.length_nil]; omega))) ?_; intro _ _ _ _ _)
    | (refine ArgF.srw (c_spec_l00Src_among _ _ _ _ _ (by first | assumption | omega | rfl | (simp only [List.length_cons, List.length_nil]; omega)) (by first | assumption | omega | rfl | (simp only [List.length_cons, List.length_nil]; omega)) (by first | assumption | omega | rfl | (simp only [List.length_cons, List.length_nil]; omega)) (by first | assumption | omega | rfl | (simp only [List.length_cons, List.length_nil]; omega))) ?_; intro _ _ _ _ _)
    | refine CallF.own (f := 16) [0, 1] false ?_
    | refine CallF.own (f := 29) [0] false ?_
    | refine CallF.own (f := 30) [0] false ?_
    | refine CallF.mk (f := 14) (CallW.is [] false rfl ?_)
    | refine CallF.mk (CallW.is [] true rfl ?_)
    | refine CallG.mk ?_
    | (refine CondF.mk (fun hb => ?_) (fun hb => ?_) <;> try simp only [forall_const, eq_self, not_true_eq_false, not_false_eq_true, or_false, false_or, or_self, or_true, true_or, and_true, true_and, and_false, false_and, decide_true, decide_false, Bool.not_true, Bool.not_false, decide_eq_true_eq, decide_eq_false_iff_not, ite_and_p, ite_or_p, Bool.decide_eq_true, Bool.and_eq_true, Bool.or_eq_true, Bool.not_eq_true', Bool.not_eq_false', Bool.and_eq_false_imp, Bool.or_eq_false_iff, bne_iff_ne, beq_iff_eq, bne_eq_false_iff_eq, beq_eq_false_iff_ne, gt_iff_lt, ge_iff_le, Int.not_lt, Int.not_le, ne_eq, Bool.true_eq_false, Bool.false_eq_true, reduceCtorEq, eta_Airway, eta_Fan, eta_Mine] at hb)
    | refine RetF.auto (And.intro rfl ?_)
    | exact Is.mk rfl rfl
    | refine Is.mk ?_ rfl
    | refine Is.mk rfl ?_
    | refine Is.mk ?_ ?_
  all_goals try dsimp only
  all_goals first
    | omega
    | skip
end Go.Proofs.YtdhkpmaanegjkaaGreat
/- Contracts of functions of the program, and what they compute. Conditions: those that each theorem states. -/
set_option linter.unusedVariables false
set_option linter.unusedSimpArgs false
namespace Go.Proofs.YtdhkpmaanegjkaaGreat
open Go.Av
attribute [local irreducible] Go.IntKind.wrap
set_option maxRecDepth 20000
set_option maxHeartbeats 2000000
theorem c_spec_l00Src_text (c : List Int) (p s : Int) (xs : List ByteArray) (k : Nat) (hc : bytes c) (hp : 0 ≤ p ∧ p ≤ 100000000) (h1 : 1 ≤ k) (h2 : k = xs.length) : FnSem Tryz.prog 82 [.own 0 0, .osl 1 0 k] [srcO c p s, .row false .flat (eS ⟨#[]⟩) (xs.map eS)] (SrcW (fun n : ByteArray => [Str n]) (fun n => n ∈ xs) c 2 p (.row false .flat (eS ⟨#[]⟩) (xs.map eS))) := by
  refine FnSem.walk (zs := zeroPV Tryz.prog) (by kernel_rfl) Tryz.func82 rfl Tryz.results82 (by kernel_rfl) (by kernel_rfl) (by kernel_rfl) fun hw hh => ?_
  obtain ⟨w0, w1, _⟩ := hw
  first | replace w0 := wfr_L00Src w0 | skip
  first | replace w1 := wf_I w1 | replace w1 := wf_Y w1 | replace w1 := wf_S w1 | replace w1 := wf_LI w1 | replace w1 := wf_LY w1 | replace w1 := wf_LLI w1 | replace w1 := wf_Ls w1 | skip
  repeat' first
    | refine And.intro rfl ?_
    | refine GdF.mk (fun h => h) ?_
    | refine And.intro (Nat.succ_ne_zero _) ?_
    | refine And.intro (Nat.le_of_ble_eq_true rfl) ?_
    | refine SeqF.run ?_
    | refine SrcW.mk (α := ByteArray) _ _ _ rfl rfl ?_ ?_
    | refine GhF.go ?_
    | refine EqP.mk _ (gm eS ⟨#[]⟩ rfl) ?_
    | refine BndF.mk (fun _ => by omega) ?_
    | refine BndF.mk (fun _ => by simp only [lnS]; omega) ?_
    | refine EqN.mk _ (ln eS) ?_
    | refine EqN.mk _ (Nat.zero_add _) ?_
    | refine EqN.mk _ (Int.toNat_natCast _) ?_
    | refine EqN.mk _ rfl ?_
    | refine EqL.mk _ (tk eS (by first | rfl | assumption | omega | (simp only [lnS] <;> omega))) ?_
    | refine EqL.mk [] rfl ?_
    | refine EqL.mk [_] rfl ?_
    | refine EqL.mk _ rfl ?_
    | (refine ArgF.src (c_spec_l00Src_pick _ _ _ _ (by first | assumption | omega | rfl | (simp only [List.length_cons, List.length_nil]; omega)) (by first | assumption | omega | rfl | (simp only [List.length_cons, List.length_nil]; omega)) (by first | assumption | omega | rfl | (simp only [List.length_cons, List.length_nil]; omega))) ?_; intro _ _ _ _ _)
    | refine CallF.own (f := 29) [0] false ?_
    | refine CallF.mk (CallW.is [] true rfl ?_)
    | refine CallG.mk ?_
    | (refine CondF.mk (fun hb => ?_) (fun hb => ?_) <;> try simp only [forall_const, eq_self, not_true_eq_false, not_false_eq_true, or_false, false_or, or_self, or_true, true_or, and_true, true_and, and_false, false_and, decide_true, decide_false, Bool.not_true, Bool.not_false, decide_eq_true_eq, decide_eq_false_iff_not, ite_and_p, ite_or_p, Bool.decide_eq_true, Bool.and_eq_true, Bool.or_eq_true, Bool.not_eq_true', Bool.not_eq_false', Bool.and_eq_false_imp, Bool.or_eq_false_iff, bne_iff_ne, beq_iff_eq, bne_eq_false_iff_eq, beq_eq_false_iff_ne, gt_iff_lt, ge_iff_le, Int.not_lt, Int.not_le, ne_eq, Bool.true_eq_false, Bool.false_eq_true, reduceCtorEq, eta_Airway, eta_Fan, eta_Mine] at hb)
    | refine RetF.auto (And.intro rfl ?_)
    | exact Is.mk rfl rfl
    | refine Is.mk ?_ rfl
    | refine Is.mk rfl ?_
    | refine Is.mk ?_ ?_
  all_goals try omega
  · rename_i v _ _ _ _
    have hv : v.toNat < xs.length := by omega
    rw [List.getD_eq_getElem?_getD, List.getElem?_eq_getElem hv]; exact List.getElem_mem hv
end Go.Proofs.YtdhkpmaanegjkaaGreat
/- Contracts of functions of the program, and what they compute. Conditions: those that each theorem states. -/
set_option linter.unusedVariables false
set_option linter.unusedSimpArgs false
namespace Go.Proofs.YtdhkpmaanegjkaaGreat
open Go.Av
attribute [local irreducible] Go.IntKind.wrap leastI rdZ rd rootI okMine
set_option maxRecDepth 20000
set_option maxHeartbeats 16000000
abbrev RwF (cs : List (List Int)) : OB := .rows false .flat (eI 0) (cs.map eR) none
def two (cs : List (List Int)) : Prop := ∀ k : Nat, k < cs.length → (cs.getD k []).length = 2
theorem two_a {cs : List (List Int)} {x y : Int} (h : two cs) : two (cs ++ [[x, y]]) := fun k hk => by
  rw [List.length_append, List.length_singleton] at hk
  by_cases e : k < cs.length
  · rw [getS e]; exact h k e
  · rw [show k = cs.length by omega, getE]; rfl
--@fn spec.l06DrawOk
theorem drFanU (c : List Int) (p s : Int) (id : ByteArray) (a : Int) (hc : bytes c) (hp : 0 ≤ p ∧ p ≤ 50000000) : FnSem Tryz.prog 83 [.own 0 0, Str id, In a] [srcO c p s] (SrcX (fun v : Nat × List (List Int) => [.aagg [Str id, In a, .osl 1 0 v.1]]) (fun v => [RwF v.2]) (fun v => v.1 = v.2.length ∧ 2 ≤ v.1 ∧ v.1 ≤ 5 ∧ two v.2) c 40 p) := by
  refine FnSem.old ?_
  refine FnSem.walk (zs := zeroPV Tryz.prog) (by kernel_rfl) Tryz.func83 rfl Tryz.results83 (by kernel_rfl) (by kernel_rfl) (by kernel_rfl) fun hw hh => ?_
  obtain ⟨w0, w1, w2, _⟩ := hw
  first | replace w0 := wfr_L00Src w0 | skip
  first | replace w1 := wf_S w1 | skip
  first | replace w2 := wf_I w2 | skip
  repeat' first
    | refine And.intro rfl ?_
    | refine GdF.mk (fun h => h) ?_
    | refine And.intro (Nat.succ_ne_zero _) ?_
    | refine And.intro (Nat.le_of_ble_eq_true rfl) ?_
    | refine SeqF.run ?_
    | refine GhF.at 2 rfl [.nilr 2 2 (eI 0)] ?_
    | refine MkF.rows ?_
    | refine EqR.mk [] rfl ?_
    | refine EqR.mk _ apR ?_
    | refine EqL.mk (List.map eI [x, y]) rfl ?_
    | refine EqR.mk (List.map eR [[x, y]]) rfl ?_
    | refine EqR.mk (List.map eR [[x, y]]) (by simp) ?_
    | (refine ArgF.srw (c_spec_l00Src_among _ _ _ [0, 0, 500] 3 hc (by omega) (by omega) rfl) ?_; intro x0 pa sa hx0 hpa; simp only [List.mem_cons, List.not_mem_nil, or_false] at hx0)
    | (refine ArgF.srw (c_spec_l00Src_among _ _ _ [0, 100, 400, 900, 37] 5 hc (by omega) (by omega) rfl) ?_; intro w pw sw hw hpw; simp only [List.mem_cons, List.not_mem_nil, or_false] at hw)
    | refine SrcX.mk (α := Nat × List (List Int)) (n, cs) _ _ rfl rfl ?_ ?_
    | (rename_i y0 pb sb _ _ v2 pc sc _ _; refine LoopF.at 5 rfl (LoopF.fix [0, 6, 7] (Int × Int × Int × Nat × List (List Int) × Int × Int) (fun (k, x, y, n, cs, q, t) => -1 ≤ k ∧ k ≤ 4 ∧ n = cs.length ∧ two cs ∧ (0 ≤ x ∧ x ≤ 500 + 8499 * n) ∧ (0 ≤ y ∧ y ≤ 3300) ∧ (n : Int) + k + 1 = v2 + 2 ∧ (p ≤ q ∧ q ≤ p + 6 + 4 * n)) (fun (k, x, y, n, cs, q, t) => [(10, In k), (8, In x), (9, In y)]) (fun (k, x, y, n, cs, q, t) => [(0, srcO c q t), (2, .fix [Str id, In a, .osl 3 0 n]), (3, .rows true .flat (eI 0) (cs.map eR) none)]) (fun (k, x, y, n, cs, q, t) => ((k + 1).toNat)) ((1 + v2, x0, 800 + y0, 0, [], pc, sc)) ?_))
    | (refine LoopB.of (T := Int × Int × Int × Nat × List (List Int) × Int × Int) ?_ ?_; rotate_left; rintro ⟨k, x, y, n, cs, q, t⟩ ⟨k0, k1, n1, c1, x1, y1, z1, q1⟩; rotate_left)
    | refine GhF.go ?_
    | refine BndF.mk (fun _ => ⟨rfl, by first | rfl | omega | (simp only [List.length_map, List.length_cons, List.length_nil, List.length_append, List.length_set, List.length_replicate]; first | done | omega)⟩) ?_
    | refine MkF.row ?_
    | refine BndF.mk (fun _ => by omega) ?_
    | refine BndF.mk (fun _ => by simp only [lnS]; omega) ?_
    | refine EqI.mk _ (fun _ => wrapI (by omega) (by omega)) ?_
    | refine EqI.mk _ (fun _ => rfl) ?_
    | refine FlF.keep ?_
    | refine EqN.mk _ (Nat.zero_add _) ?_
    | refine EqN.mk (_ + 1) rfl ?_
    | refine EqN.mk _ (Int.toNat_natCast _) ?_
    | refine EqN.mk _ rfl ?_
    | refine EqL.mk _ (sn0 eI) ?_
    | refine EqL.mk _ (sn eI (by first | rfl | assumption | omega | (simp only [lnS] <;> omega))) ?_
    | refine EqL.mk _ (ap0 eI) ?_
    | refine EqL.mk _ (ap eI (by first | rfl | assumption | omega | (simp only [lnS] <;> omega))) ?_
    | refine EqL.mk _ (tk eI (by first | rfl | assumption | omega | (simp only [lnS] <;> omega))) ?_
    | refine EqL.mk _ (st eI) ?_
    | refine EqL.mk _ (sn0 eLI) ?_
    | refine EqL.mk _ (sn eLI (by first | rfl | assumption | omega | (simp only [lnS] <;> omega))) ?_
    | refine EqL.mk _ (ap0 eLI) ?_
    | refine EqL.mk _ (ap eLI (by first | rfl | assumption | omega | (simp only [lnS] <;> omega))) ?_
    | refine EqL.mk _ (tk eLI (by first | rfl | assumption | omega | (simp only [lnS] <;> omega))) ?_
    | refine EqL.mk _ (st eLI) ?_
    | refine EqL.mk (List.map eI [_, _]) rfl ?_
    | refine EqL.mk (List.map eI [_, _, _]) rfl ?_
    | refine EqL.mk (List.map eI [_, _, _, _, _]) rfl ?_
    | refine EqL.mk [] rfl ?_
    | refine EqL.mk [_] rfl ?_
    | refine EqL.mk _ rfl ?_
    | (refine ArgF.srw (c_spec_l00Src_among _ _ _ _ _ (by first | assumption | omega | rfl | (simp only [List.length_cons, List.length_nil]; omega)) (by first | assumption | omega | rfl | (simp only [List.length_cons, List.length_nil]; omega)) (by first | assumption | omega | rfl | (simp only [List.length_cons, List.length_nil]; omega)) (by first | assumption | omega | rfl | (simp only [List.length_cons, List.length_nil]; omega))) ?_; intro _ _ _ _ _)
    | (refine ArgF.src (c_spec_l00Src_pick _ _ _ _ (by first | assumption | omega | rfl | (simp only [List.length_cons, List.length_nil]; omega)) (by first | assumption | omega | rfl | (simp only [List.length_cons, List.length_nil]; omega)) (by first | assumption | omega | rfl | (simp only [List.length_cons, List.length_nil]; omega))) ?_; intro _ _ _ _ _)
    | refine ArgF.is (c_spec_l00Max ..) ?_
    | refine ArgQ.is (fun hG => c_spec_l00Max ..) rfl rfl ?_
    | refine CallF.own (f := 16) [0, 1] false ?_
    | refine CallF.own (f := 29) [0] false ?_
    | refine CallF.mk (CallW.is [] true rfl ?_)
    | refine CallG.mk ?_
    | (refine CondF.mk (fun hb => ?_) (fun hb => ?_) <;> try simp only [forall_const, eq_self, not_true_eq_false, not_false_eq_true, or_false, false_or, or_self, or_true, true_or, and_true, true_and, and_false, false_and, decide_true, decide_false, Bool.not_true, Bool.not_false, decide_eq_true_eq, decide_eq_false_iff_not, ite_and_p, ite_or_p, Bool.decide_eq_true, Bool.and_eq_true, Bool.or_eq_true, Bool.not_eq_true', Bool.not_eq_false', Bool.and_eq_false_imp, Bool.or_eq_false_iff, bne_iff_ne, beq_iff_eq, bne_eq_false_iff_eq, beq_eq_false_iff_ne, gt_iff_lt, ge_iff_le, Int.not_lt, Int.not_le, ne_eq, Bool.true_eq_false, Bool.false_eq_true, reduceCtorEq, eta_Airway, eta_Fan, eta_Mine] at hb)
    | apply BackF.auto7
    | refine BackB.mk ?_ ?_
    | refine RetF.auto (And.intro rfl ?_)
    | exact Is.mk rfl rfl
    | refine Is.mk ?_ rfl
    | refine Is.mk rfl ?_
    | refine Is.mk ?_ ?_
  all_goals try dsimp only
  all_goals first
    | omega
    | exact ⟨by omega, by omega, rfl, fun k hk => absurd hk (Nat.not_lt_zero k), by omega, by omega, by omega, by omega, by omega⟩
    | exact ⟨by omega, by omega, by simp [n1], two_a c1, by omega, by omega, by omega, by omega, by omega⟩
    | exact ⟨n1, by omega, by omega, c1⟩
    | skip
structure BenF where
  airway : Int
  n : Nat
  rows : List (List Int)
structure okBen (v : BenF) : Prop where
  le : v.n ≤ v.rows.length ∧ v.n ≤ 9
  tw : two v.rows
theorem two_s {cs : List (List Int)} {w : Int} (h : two cs) : two (cs.set 0 ((cs.getD 0 []).set 1 w)) := fun k hk => by
  rw [List.length_set] at hk
  rw [getD_set]
  split
  · rw [List.length_set]; exact h 0 (by omega)
  · exact h k hk
--@fn spec.l06Bend
theorem bendF (c : List Int) (p s : Int) (id : ByteArray) (a : Int) (n : Nat) (cs : List (List Int)) (hc : bytes c) (hp : 0 ≤ p ∧ p ≤ 50000000) (hn : n = cs.length) (h2 : 2 ≤ n ∧ n ≤ 5) (ht : two cs) : FnSem Tryz.prog 101 [.own 0 0, .aagg [Str id, In a, .osl 1 0 n]] [srcO c p s, RwF cs] (SrcX (fun v : BenF => [.aagg [Str id, In v.airway, .osl 2 0 v.n]]) (fun v => [.dead, RwF v.rows]) okBen c 60 p) := by
  refine FnSem.old ?_
  have ht0 : (cs.getD 0 []).length = 2 := ht 0 (by omega)
  refine FnSem.walk (zs := zeroPV Tryz.prog) (by kernel_rfl) Tryz.func101 rfl Tryz.results101 (by kernel_rfl) (by kernel_rfl) (by kernel_rfl) fun hw hh => ?_
  obtain ⟨w0, w1, _⟩ := hw
  first | replace w0 := wfr_L00Src w0 | skip
  first | replace w1 := wf_Fan w1 | skip
  repeat' first
    | refine And.intro rfl ?_
    | refine GdF.mk (fun h => h) ?_
    | refine And.intro (Nat.succ_ne_zero _) ?_
    | refine And.intro (Nat.le_of_ble_eq_true rfl) ?_
    | refine SeqF.run ?_
    | refine OpH.heap ?_
    | refine GhF.held 7 rfl [(4, [0]), (7, [4]), (9, [2])] ?_
    | refine GhF.at 1 rfl [.mv 1] ?_
    | refine MkF.rows ?_
    | refine BndF.mk (fun hG => by simp only [List.length_map]; omega) ?_
    | refine BndF.mk (fun hG => by rw [getR_len]; simp) ?_
    | refine EqR.mk (List.map eR (cs.set 0 ((cs.getD 0 []).set 1 w3))) stR ?_
    | (refine ArgF.srw (c_spec_l00Src_among _ _ _ [-1, 23, 24] 3 hc (by omega) (by omega) rfl) ?_; intro w0 pw0 sw0 hw0 hpw0)
    | (refine ArgF.srw (c_spec_l00Src_among _ _ _ [0, 100000, 100001] 3 hc (by omega) (by omega) rfl) ?_; intro w2 pw2 sw2 hw2 hpw2)
    | (refine ArgF.srw (c_spec_l00Src_among _ _ _ [10000, 10001, -1] 3 hc (by omega) (by omega) rfl) ?_; intro w3 pw3 sw3 hw3 hpw3)
    | (refine ArgF.srw (c_spec_l00Src_among _ _ _ [8, 9] 2 hc (by omega) (by omega) rfl) ?_; intro w4 pw4 sw4 hw4 hpw4; simp only [List.mem_cons, List.not_mem_nil, or_false] at hw4)
    | refine EqR.mk [] rfl ?_
    | refine EqL.mk (List.map eI (cs.getD 0 [])) getR ?_
    | refine EqR.mk _ apR ?_
    | refine EqL.mk (List.map eI [w2, 0]) rfl ?_
    | refine EqR.mk (List.map eR [[w2, 0]]) rfl ?_
    | refine EqL.mk (List.map eI [1000 * k, 2000 - 100 * k]) rfl ?_
    | refine EqR.mk (List.map eR [[1000 * k, 2000 - 100 * k]]) rfl ?_
    | refine EqR.mk (List.map eR [[1000 * k, 2000 - 100 * k]]) (by simp) ?_
    | refine SrcX.mk (α := BenF) ⟨w0, n, cs⟩ _ _ rfl rfl ?_ ?_
    | refine SrcX.mk (α := BenF) ⟨a, n + 1, cs ++ [[w2, 0]]⟩ _ _ rfl rfl ?_ ?_
    | refine SrcX.mk (α := BenF) ⟨a, n4, c4⟩ _ _ rfl rfl ?_ ?_
    | refine SrcX.mk (α := BenF) ⟨a, 1, cs⟩ _ _ rfl rfl ?_ ?_
    | refine SrcX.mk (α := BenF) ⟨a, n, cs⟩ _ _ rfl rfl ?_ ?_
    | refine SrcX.mk (α := BenF) ⟨a, n, cs.set 0 ((cs.getD 0 []).set 1 w3)⟩ _ _ rfl rfl ?_ ?_
    | refine LoopF.at 14 rfl (LoopF.fix [3, 4, 5] (Int × Nat × List (List Int)) (fun (k, n4, c4) => 0 ≤ k ∧ k ≤ w4 ∧ (n4 : Int) = k ∧ n4 = c4.length ∧ two c4) (fun (k, n4, c4) => [(6, In k)]) (fun (k, n4, c4) => [(2, .fix [Str id, In a, .osl 3 0 n4]), (3, .rows true .flat (eI 0) (c4.map eR) none)]) (fun (k, n4, c4) => ((w4 - k).toNat)) ((0, 0, [])) ?_)
    | (refine LoopB.of (T := Int × Nat × List (List Int)) ?_ ?_; rotate_left; rintro ⟨k, n4, c4⟩ ⟨k0, k1, n1, c1, t1⟩; rotate_left)
    | refine HdF.at 9 rfl 0 [] (And.intro (by decide +kernel) (And.intro rfl ?_))
    | refine HdF.at 8 rfl 1 [7, 8, 9] (And.intro (by decide +kernel) (And.intro rfl ?_))
    | refine HdF.at 7 rfl 2 [] (And.intro (by decide +kernel) (And.intro rfl ?_))
    | refine HdF.goAt 6 rfl ?_
    | refine OrdL.ord ?_
    | refine OrdF.take 8 (by decide +kernel) (And.intro rfl ?_)
    | refine OrdF.all [9] (by decide +kernel) ?_
    | refine OrdF.all [7] (by decide +kernel) ?_
    | refine OrdF.all [6] (by decide +kernel) ?_
    | refine OrdF.all [5] (by decide +kernel) ?_
    | refine OrdF.all [4] (by decide +kernel) ?_
    | refine OrdF.all [3] (by decide +kernel) ?_
    | refine OrdF.fin (by decide +kernel) ?_
    | refine AllF.one _ ?_
    | refine AllF.cons _ _ ?_ ?_
    | refine OpH.quiet rfl ?_
    | refine OpH.heap ?_
    | refine GhF.go ?_
    | refine DrawG.old (DrawF.lex (by decide +kernel) ?_)
    | refine DrawG.old (DrawF.any ?_)
    | refine OrdF.take 0 (by decide +kernel) ?_
    | refine OrdF.take 2 (by decide +kernel) ?_
    | refine OrdF.take 8 (by decide +kernel) ?_
    | refine OrdF.take 4 (by decide +kernel) ?_
    | refine OrdF.take 7 (by decide +kernel) ?_
    | refine OrdF.all [9] (by decide +kernel) ?_
    | refine OrdF.all [7] (by decide +kernel) ?_
    | refine OrdF.all [1] (by decide +kernel) ?_
    | refine OrdF.all [6] (by decide +kernel) ?_
    | refine OrdF.all [1, 6] (by decide +kernel) ?_
    | refine OrdF.all [5] (by decide +kernel) ?_
    | refine OrdF.all [1, 5] (by decide +kernel) ?_
    | refine OrdF.all [4] (by decide +kernel) ?_
    | refine OrdF.all [1, 4] (by decide +kernel) ?_
    | refine OrdF.all [3] (by decide +kernel) ?_
    | refine OrdF.all [1, 3] (by decide +kernel) ?_
    | refine OrdF.all [8] (by decide +kernel) ?_
    | refine OrdF.all [3, 6] (by decide +kernel) ?_
    | refine OrdF.all [3, 5] (by decide +kernel) ?_
    | refine OrdF.fin (by decide +kernel) ?_
    | refine AllF.one _ ?_
    | refine AllF.cons _ _ ?_ ?_
    | refine BndF.mk (fun _ => ⟨rfl, by first | rfl | omega | (simp only [List.length_map, List.length_cons, List.length_nil, List.length_append, List.length_set, List.length_replicate]; first | done | omega)⟩) ?_
    | refine MkF.row ?_
    | refine EqP.mk _ (gm eI 0 rfl) ?_
    | refine EqP.mk _ (gmb eLI [] (by omega)) ?_
    | refine BndF.mk (fun _ => by omega) ?_
    | refine BndF.mk (fun _ => by simp only [lnS]; omega) ?_
    | refine EqI.mk _ (fun _ => wrapI (by omega) (by omega)) ?_
    | refine EqI.mk _ (fun _ => rfl) ?_
    | refine FlF.keep ?_
    | refine EqN.mk _ (Nat.zero_add _) ?_
    | refine EqN.mk (_ + 1) rfl ?_
    | refine EqN.mk _ (Int.toNat_natCast _) ?_
    | refine EqN.mk _ rfl ?_
    | refine EqL.mk _ (sn0 eI) ?_
    | refine EqL.mk _ (sn eI (by first | rfl | assumption | omega | (simp only [lnS] <;> omega))) ?_
    | refine EqL.mk _ (ap0 eI) ?_
    | refine EqL.mk _ (ap eI (by first | rfl | assumption | omega | (simp only [lnS] <;> omega))) ?_
    | refine EqL.mk _ (tk eI (by first | rfl | assumption | omega | (simp only [lnS] <;> omega))) ?_
    | refine EqL.mk _ (st eI) ?_
    | refine EqL.mk _ (dt eI) ?_
    | refine EqL.mk _ (sn0 eLI) ?_
    | refine EqL.mk _ (sn eLI (by first | rfl | assumption | omega | (simp only [lnS] <;> omega))) ?_
    | refine EqL.mk _ (ap0 eLI) ?_
    | refine EqL.mk _ (ap eLI (by first | rfl | assumption | omega | (simp only [lnS] <;> omega))) ?_
    | refine EqL.mk _ (tk eLI (by first | rfl | assumption | omega | (simp only [lnS] <;> omega))) ?_
    | refine EqL.mk _ (st eLI) ?_
    | refine EqL.mk _ (dt eLI) ?_
    | refine EqL.mk (List.map eI [_, _]) rfl ?_
    | refine EqL.mk (List.map eI [_, _, _]) rfl ?_
    | refine EqL.mk [] rfl ?_
    | refine EqL.mk [_] rfl ?_
    | refine EqL.mk _ rfl ?_
    | (refine ArgF.src (c_spec_l00Src_pick _ _ _ _ (by first | assumption | omega | rfl | (simp only [List.length_cons, List.length_nil]; omega)) (by first | assumption | omega | rfl | (simp only [List.length_cons, List.length_nil]; omega)) (by first | assumption | omega | rfl | (simp only [List.length_cons, List.length_nil]; omega))) ?_; intro _ _ _ _ _)
    | (refine ArgF.srw (c_spec_l00Src_among _ _ _ _ _ (by first | assumption | omega | rfl | (simp only [List.length_cons, List.length_nil]; omega)) (by first | assumption | omega | rfl | (simp only [List.length_cons, List.length_nil]; omega)) (by first | assumption | omega | rfl | (simp only [List.length_cons, List.length_nil]; omega)) (by first | assumption | omega | rfl | (simp only [List.length_cons, List.length_nil]; omega))) ?_; intro _ _ _ _ _)
    | refine CallF.own (f := 16) [0, 1] false ?_
    | refine CallF.own (f := 29) [0] false ?_
    | refine CallF.mk (CallW.is [] true rfl ?_)
    | refine CallG.mk ?_
    | (refine CondF.mk (fun hb => ?_) (fun hb => ?_) <;> try simp only [forall_const, eq_self, not_true_eq_false, not_false_eq_true, or_false, false_or, or_self, or_true, true_or, and_true, true_and, and_false, false_and, decide_true, decide_false, Bool.not_true, Bool.not_false, decide_eq_true_eq, decide_eq_false_iff_not, ite_and_p, ite_or_p, Bool.decide_eq_true, Bool.and_eq_true, Bool.or_eq_true, Bool.not_eq_true', Bool.not_eq_false', Bool.and_eq_false_imp, Bool.or_eq_false_iff, bne_iff_ne, beq_iff_eq, bne_eq_false_iff_eq, beq_eq_false_iff_ne, gt_iff_lt, ge_iff_le, Int.not_lt, Int.not_le, ne_eq, Bool.true_eq_false, Bool.false_eq_true, reduceCtorEq, eta_Airway, eta_Fan, eta_Mine] at hb)
    | apply BackF.auto3
    | refine BackB.mk ?_ ?_
    | refine RetF.auto (And.intro rfl ?_)
    | exact Is.mk rfl rfl
    | refine Is.mk ?_ rfl
    | refine Is.mk rfl ?_
    | refine Is.mk ?_ ?_
  all_goals try dsimp only
  all_goals first
    | omega
    | exact ⟨by omega, by omega, rfl, rfl, fun k hk => absurd hk (Nat.not_lt_zero k)⟩
    | exact ⟨by omega, by omega, by omega, by simp [c1], two_a t1⟩
    | exact ⟨by dsimp only; omega, ht⟩
    | exact ⟨by simp; omega, two_a ht⟩
    | exact ⟨by dsimp only; omega, t1⟩
    | exact ⟨by simp; omega, two_s ht⟩
    | skip
end Go.Proofs.YtdhkpmaanegjkaaGreat
/- Contracts of functions of the program, and what they compute. Conditions: those that each theorem states. -/
set_option linter.unusedVariables false
set_option linter.unusedSimpArgs false
namespace Go.Proofs.YtdhkpmaanegjkaaGreat
open Go.Av
attribute [local irreducible] Go.IntKind.wrap leastI rdZ rd rootI
set_option maxRecDepth 20000
set_option maxHeartbeats 16000000
structure DrwF where
  id : ByteArray
  airway : Int
  n : Nat
  rows : List (List Int)
structure okDrw (v : DrwF) : Prop where
  le : v.n ≤ v.rows.length ∧ v.n ≤ 9
  tw : two v.rows
--@fn spec.l06Draw
theorem drawN (c : List Int) (p s : Int) (hc : bytes c) (hp : 0 ≤ p ∧ p ≤ 40000000) : FnSem Tryz.prog 84 [.own 0 0] [srcO c p s] (SrcX (fun v : DrwF => [.aagg [Str v.id, In v.airway, .osl 1 0 v.n]]) (fun v => [.rows true .flat (eI 0) (v.rows.map eR) none]) okDrw c 130 p) := by
  refine FnSem.walk (zs := zeroPV Tryz.prog) (by kernel_rfl) Tryz.func84 rfl Tryz.results84 (by kernel_rfl) (by kernel_rfl) (by kernel_rfl) fun hw hh => ?_
  obtain ⟨w0, _⟩ := hw
  first | replace w0 := wfr_L00Src w0 | skip
  repeat' first
    | refine And.intro rfl ?_
    | refine GdF.mk (fun h => h) ?_
    | refine And.intro (Nat.succ_ne_zero _) ?_
    | refine And.intro (Nat.le_of_ble_eq_true rfl) ?_
    | refine SeqF.run ?_
    | refine CallF.ownN (f := 83) [0] false ?_
    | refine CallF.ownN (f := 101) [0, 1] false ?_
    | (refine ArgF.srw (c_spec_l00Src_text c p s _ _ hc (by omega) (by omega) rfl) ?_; intro nm p1 s1 hnm hp1)
    | (refine ArgF.srx (drFanU c _ _ _ _ hc (by omega)) ?_; intro v2 p2 s2 hv2 hp2)
    | (refine ArgF.srx (bendF c _ _ _ _ _ _ hc (by omega) hv2.1 (by omega) hv2.2.2.2) ?_; intro v3 p3 s3 hv3 hp3)
    | refine SrcX.mk (α := DrwF) ⟨_, v3.airway, v3.n, v3.rows⟩ _ _ rfl rfl ?_ ?_
    | refine GhF.go ?_
    | refine MkF.row ?_
    | refine BndF.mk (fun _ => by omega) ?_
    | refine BndF.mk (fun _ => by simp only [lnS]; omega) ?_
    | refine EqL.mk _ (tk eS (by first | rfl | assumption | omega | (simp only [lnS] <;> omega))) ?_
    | refine EqL.mk _ (st eS) ?_
    | refine EqL.mk (List.map eS [_, _]) rfl ?_
    | refine EqL.mk [] rfl ?_
    | refine EqL.mk [_] rfl ?_
    | refine EqL.mk _ rfl ?_
    | (refine ArgF.srw (c_spec_l00Src_text _ _ _ _ _ (by first | assumption | omega | rfl | (simp only [List.length_cons, List.length_nil]; omega)) (by first | assumption | omega | rfl | (simp only [List.length_cons, List.length_nil]; omega)) (by first | assumption | omega | rfl | (simp only [List.length_cons, List.length_nil]; omega)) (by first | assumption | omega | rfl | (simp only [List.length_cons, List.length_nil]; omega))) ?_; intro _ _ _ _ _)
    | (refine ArgF.src (c_spec_l00Src_pick _ _ _ _ (by first | assumption | omega | rfl | (simp only [List.length_cons, List.length_nil]; omega)) (by first | assumption | omega | rfl | (simp only [List.length_cons, List.length_nil]; omega)) (by first | assumption | omega | rfl | (simp only [List.length_cons, List.length_nil]; omega))) ?_; intro _ _ _ _ _)
    | refine ArgF.is (c_spec_l06DrawOk ..) ?_
    | refine ArgQ.is (fun hG => c_spec_l06DrawOk ..) rfl rfl ?_
    | refine ArgF.is (c_spec_l06Bend ..) ?_
    | refine ArgQ.is (fun hG => c_spec_l06Bend ..) rfl rfl ?_
    | refine CallF.own (f := 29) [0] false ?_
    | refine CallF.own (f := 82) [0, 1] false ?_
    | refine CallF.mk (CallW.is [] true rfl ?_)
    | refine CallG.mk ?_
    | (refine CondF.mk (fun hb => ?_) (fun hb => ?_) <;> try simp only [forall_const, eq_self, not_true_eq_false, not_false_eq_true, or_false, false_or, or_self, or_true, true_or, and_true, true_and, and_false, false_and, decide_true, decide_false, Bool.not_true, Bool.not_false, decide_eq_true_eq, decide_eq_false_iff_not, ite_and_p, ite_or_p, Bool.decide_eq_true, Bool.and_eq_true, Bool.or_eq_true, Bool.not_eq_true', Bool.not_eq_false', Bool.and_eq_false_imp, Bool.or_eq_false_iff, bne_iff_ne, beq_iff_eq, bne_eq_false_iff_eq, beq_eq_false_iff_ne, gt_iff_lt, ge_iff_le, Int.not_lt, Int.not_le, ne_eq, Bool.true_eq_false, Bool.false_eq_true, reduceCtorEq, eta_Airway, eta_Fan, eta_Mine] at hb)
    | refine RetF.auto (And.intro rfl ?_)
    | exact Is.mk rfl rfl
    | refine Is.mk ?_ rfl
    | refine Is.mk rfl ?_
    | refine Is.mk ?_ ?_
  all_goals try dsimp only
  all_goals first
    | omega
    | exact ⟨hv3.le, hv3.tw⟩
    | skip
theorem frzEq {cs : List (List Int)} {n : Nat} (h : n ≤ cs.length) : ((((cs.map eR).drop 0).take n).map fun e => [PV.lst [.c (.int .i64 0)] e]) = (cs.take n).map eLI := by
  rw [List.drop_zero, ← List.map_take, List.map_map]
  rfl
theorem c_spec_l06Draw (c : List Int) (p s : Int) (hc : bytes c) (hp : 0 ≤ p ∧ p ≤ 40000000) : FnSem Tryz.prog 84 [.own 0 0] [srcO c p s] (SrcV (fun f : GFan => [.p .fresh (.agg f.cells)]) (fun f => f.curve.length ≤ 9 ∧ two f.curve) c 130 p) := by
  refine FnSem.frz ((drawN c p s hc hp).mono ?_)
  rintro rs ho ⟨v, p', s', rfl, rfl, hv, hp'⟩
  refine ⟨_, 1, _, rfl, rfl, Nat.le_refl _, rfl, rfl, ?_⟩
  refine ⟨fun _ => by have := hv.le; simp only [List.length_map]; omega, _, frzEq hv.le.1, ?_⟩
  refine SrcV.mk (α := GFan) ⟨v.id, v.airway, v.rows.take v.n⟩ p' s' rfl rfl ⟨?_, ?_⟩ hp'
  · have := hv.le; simp only [List.length_take]; omega
  · intro k hk
    simp only [List.length_take] at hk
    rw [List.getD_eq_getElem?_getD, List.getElem?_take, if_pos (by omega), ← List.getD_eq_getElem?_getD]
    exact hv.tw k (by omega)
end Go.Proofs.YtdhkpmaanegjkaaGreat
/- Contracts of functions of the program, and what they compute. Conditions: those that each theorem states. -/
set_option linter.unusedVariables false
set_option linter.unusedSimpArgs false
namespace Go.Proofs.YtdhkpmaanegjkaaGreat
open Go.Av
attribute [local irreducible] Go.IntKind.wrap leastI rdZ rd rootI okMine
set_option maxRecDepth 20000
set_option maxHeartbeats 16000000
structure crI (cs : List (List Int)) (q p : Int) : Prop where
  pt : ∀ k : Nat, k < cs.length → (cs.getD k []).length = 2 ∧ (0 ≤ (cs.getD k []).getD 0 0 ∧ (cs.getD k []).getD 0 0 < q) ∧ (p ≤ (cs.getD k []).getD 1 0 ∧ 0 ≤ (cs.getD k []).getD 1 0 ∧ (cs.getD k []).getD 1 0 ≤ 10000)
  so : ∀ k : Nat, 0 < k → k < cs.length → (cs.getD (k - 1) []).getD 0 0 < (cs.getD k []).getD 0 0 ∧ (cs.getD k []).getD 1 0 ≤ (cs.getD (k - 1) []).getD 1 0
theorem crI_0 {q p : Int} : crI [] q p := ⟨fun k hk => absurd hk (by simp), fun k _ hk => absurd hk (by simp)⟩
theorem crI_a {cs : List (List Int)} {q p q' p' : Int} (h : crI cs q p) (h0 : 0 ≤ q) (hp : 0 ≤ p ∧ p ≤ 10000) (hq' : q < q') (hp' : p' ≤ p) : crI (cs ++ [[q, p]]) q' p' := by
  refine ⟨fun k hk => ?_, fun k h1 hk => ?_⟩
  all_goals rw [List.length_append, List.length_singleton] at hk
  · by_cases e : k < cs.length
    · rw [getS e]; have := h.pt k e; omega
    · rw [show k = cs.length by omega, getE]
      exact ⟨rfl, by show 0 ≤ q ∧ q < q'; omega, by show p' ≤ p ∧ 0 ≤ p ∧ p ≤ 10000; omega⟩
  · by_cases e : k < cs.length
    · rw [getS e, getS (by omega)]; exact h.so k h1 e
    · rw [show k = cs.length by omega, getE, getS (by omega)]
      have := h.pt (cs.length - 1) (by omega)
      exact ⟨by show _ < q; omega, by show p ≤ _; omega⟩
theorem crI_ok {cs : List (List Int)} {q p : Int} (h : crI cs q p) (hl : 2 ≤ cs.length ∧ cs.length ≤ 5) (hq : q ≤ 100001) : okCur cs :=
  ⟨by omega, fun k hk => by have := h.pt k hk; omega, h.so⟩
--@fn spec.l06DrawOk
theorem drFan (c : List Int) (p s : Int) (id : ByteArray) (a : Int) (hc : bytes c) (hp : 0 ≤ p ∧ p ≤ 50000000) : FnSem Tryz.prog 83 [.own 0 0, Str id, In a] [srcO c p s] (SrcV (fun f : GFan => [.p .fresh (.agg f.cells)]) (fun f => f.id = id ∧ f.airway = a ∧ okCur f.curve) c 40 p) := by
  refine FnSem.walk (zs := zeroPV Tryz.prog) (by kernel_rfl) Tryz.func83 rfl Tryz.results83 (by kernel_rfl) (by kernel_rfl) (by kernel_rfl) fun hw hh => ?_
  obtain ⟨w0, w1, w2, _⟩ := hw
  first | replace w0 := wfr_L00Src w0 | skip
  first | replace w1 := wf_S w1 | skip
  first | replace w2 := wf_I w2 | skip
  repeat' first
    | refine And.intro rfl ?_
    | refine GdF.mk (fun h => h) ?_
    | refine And.intro (Nat.succ_ne_zero _) ?_
    | refine And.intro (Nat.le_of_ble_eq_true rfl) ?_
    | refine SeqF.run ?_
    | refine GhF.at 2 rfl [.nilr 2 2 (eI 0)] ?_
    | refine GhF.at 10 rfl [.fzc 3 2 2] ?_
    | refine MkF.rows ?_
    | refine EqR.mk [] rfl ?_
    | refine EqR.mk _ apR ?_
    | refine EqL.mk (List.map eI [x, y]) rfl ?_
    | refine EqR.mk (List.map eR [[x, y]]) rfl ?_
    | refine EqR.mk (List.map eR [[x, y]]) (by simp) ?_
    | refine EqL.mk (cs.map eLI) (tkRows n1) ?_
    | (refine ArgF.srw (c_spec_l00Src_among _ _ _ [0, 0, 500] 3 hc (by omega) (by omega) rfl) ?_; intro x0 pa sa hx0 hpa; simp only [List.mem_cons, List.not_mem_nil, or_false] at hx0)
    | (refine ArgF.srw (c_spec_l00Src_among _ _ _ [0, 100, 400, 900, 37] 5 hc (by omega) (by omega) rfl) ?_; intro w pw sw hw hpw; simp only [List.mem_cons, List.not_mem_nil, or_false] at hw)
    | refine SrcV.mk (α := GFan) ⟨id, a, cs⟩ _ _ rfl rfl ?_ ?_
    | (rename_i y0 pb sb _ _ v2 pc sc _ _; refine LoopF.at 5 rfl (LoopF.fix [0, 6, 7] (Int × Int × Int × Nat × List (List Int) × Int × Int) (fun (k, x, y, n, cs, q, t) => -1 ≤ k ∧ k ≤ 4 ∧ n = cs.length ∧ crI cs x y ∧ (0 ≤ x ∧ x ≤ 500 + 8499 * n) ∧ (0 ≤ y ∧ y ≤ 3300) ∧ (n : Int) + k + 1 = v2 + 2 ∧ (p ≤ q ∧ q ≤ p + 6 + 4 * n)) (fun (k, x, y, n, cs, q, t) => [(10, In k), (8, In x), (9, In y)]) (fun (k, x, y, n, cs, q, t) => [(0, srcO c q t), (2, .fix [Str id, In a, .osl 3 0 n]), (3, .rows true .flat (eI 0) (cs.map eR) none)]) (fun (k, x, y, n, cs, q, t) => ((k + 1).toNat)) ((1 + v2, x0, 800 + y0, 0, [], pc, sc)) ?_))
    | (refine LoopB.of (T := Int × Int × Int × Nat × List (List Int) × Int × Int) ?_ ?_; rotate_left; rintro ⟨k, x, y, n, cs, q, t⟩ ⟨k0, k1, n1, c1, x1, y1, z1, q1⟩; rotate_left)
    | refine GhF.go ?_
    | refine BndF.mk (fun _ => ⟨rfl, by first | rfl | omega | (simp only [List.length_map, List.length_cons, List.length_nil, List.length_append, List.length_set, List.length_replicate]; first | done | omega)⟩) ?_
    | refine MkF.row ?_
    | refine BndF.mk (fun _ => by omega) ?_
    | refine BndF.mk (fun _ => by simp only [lnS]; omega) ?_
    | refine EqI.mk _ (fun _ => wrapI (by omega) (by omega)) ?_
    | refine EqI.mk _ (fun _ => rfl) ?_
    | refine FlF.keep ?_
    | refine EqN.mk _ (Nat.zero_add _) ?_
    | refine EqN.mk (_ + 1) rfl ?_
    | refine EqN.mk _ (Int.toNat_natCast _) ?_
    | refine EqN.mk _ rfl ?_
    | refine EqL.mk _ (sn0 eI) ?_
    | refine EqL.mk _ (sn eI (by first | rfl | assumption | omega | (simp only [lnS] <;> omega))) ?_
    | refine EqL.mk _ (ap0 eI) ?_
    | refine EqL.mk _ (ap eI (by first | rfl | assumption | omega | (simp only [lnS] <;> omega))) ?_
    | refine EqL.mk _ (tk eI (by first | rfl | assumption | omega | (simp only [lnS] <;> omega))) ?_
    | refine EqL.mk _ (st eI) ?_
    | refine EqL.mk _ (sn0 eLI) ?_
    | refine EqL.mk _ (sn eLI (by first | rfl | assumption | omega | (simp only [lnS] <;> omega))) ?_
    | refine EqL.mk _ (ap0 eLI) ?_
    | refine EqL.mk _ (ap eLI (by first | rfl | assumption | omega | (simp only [lnS] <;> omega))) ?_
    | refine EqL.mk _ (tk eLI (by first | rfl | assumption | omega | (simp only [lnS] <;> omega))) ?_
    | refine EqL.mk _ (st eLI) ?_
    | refine EqL.mk (List.map eI [_, _]) rfl ?_
    | refine EqL.mk (List.map eI [_, _, _]) rfl ?_
    | refine EqL.mk (List.map eI [_, _, _, _, _]) rfl ?_
    | refine EqL.mk [] rfl ?_
    | refine EqL.mk [_] rfl ?_
    | refine EqL.mk _ rfl ?_
    | (refine ArgF.srw (c_spec_l00Src_among _ _ _ _ _ (by first | assumption | omega | rfl | (simp only [List.length_cons, List.length_nil]; omega)) (by first | assumption | omega | rfl | (simp only [List.length_cons, List.length_nil]; omega)) (by first | assumption | omega | rfl | (simp only [List.length_cons, List.length_nil]; omega)) (by first | assumption | omega | rfl | (simp only [List.length_cons, List.length_nil]; omega))) ?_; intro _ _ _ _ _)
    | (refine ArgF.src (c_spec_l00Src_pick _ _ _ _ (by first | assumption | omega | rfl | (simp only [List.length_cons, List.length_nil]; omega)) (by first | assumption | omega | rfl | (simp only [List.length_cons, List.length_nil]; omega)) (by first | assumption | omega | rfl | (simp only [List.length_cons, List.length_nil]; omega))) ?_; intro _ _ _ _ _)
    | refine ArgF.is (c_spec_l00Max ..) ?_
    | refine ArgQ.is (fun hG => c_spec_l00Max ..) rfl rfl ?_
    | refine CallF.own (f := 16) [0, 1] false ?_
    | refine CallF.own (f := 29) [0] false ?_
    | refine CallF.mk (CallW.is [] true rfl ?_)
    | refine CallG.mk ?_
    | (refine CondF.mk (fun hb => ?_) (fun hb => ?_) <;> try simp only [forall_const, eq_self, not_true_eq_false, not_false_eq_true, or_false, false_or, or_self, or_true, true_or, and_true, true_and, and_false, false_and, decide_true, decide_false, Bool.not_true, Bool.not_false, decide_eq_true_eq, decide_eq_false_iff_not, ite_and_p, ite_or_p, Bool.decide_eq_true, Bool.and_eq_true, Bool.or_eq_true, Bool.not_eq_true', Bool.not_eq_false', Bool.and_eq_false_imp, Bool.or_eq_false_iff, bne_iff_ne, beq_iff_eq, bne_eq_false_iff_eq, beq_eq_false_iff_ne, gt_iff_lt, ge_iff_le, Int.not_lt, Int.not_le, ne_eq, Bool.true_eq_false, Bool.false_eq_true, reduceCtorEq, eta_Airway, eta_Fan, eta_Mine] at hb)
    | apply BackF.auto7
    | refine BackB.mk ?_ ?_
    | refine RetF.auto (And.intro rfl ?_)
    | exact Is.mk rfl rfl
    | refine Is.mk ?_ rfl
    | refine Is.mk rfl ?_
    | refine Is.mk ?_ ?_
  all_goals try dsimp only
  all_goals first
    | omega
    | exact ⟨by omega, by omega, rfl, crI_0, by omega, by omega, by omega, by omega, by omega⟩
    | exact ⟨rfl, rfl, crI_ok c1 (by omega) (by omega)⟩
    | exact crI_ok c1 (by omega) (by omega)
    | exact ⟨by omega, by omega, by simp [n1], crI_a c1 (by omega) (by omega) (by omega) (by omega), by omega, by omega, by omega, by omega, by omega⟩
    | skip
end Go.Proofs.YtdhkpmaanegjkaaGreat
/- Contracts of functions of the program, and what they compute. Conditions: those that each theorem states. -/
set_option linter.unusedVariables false
set_option linter.unusedSimpArgs false
namespace Go.Proofs.YtdhkpmaanegjkaaGreat
open Go.Av
attribute [local irreducible] Go.IntKind.wrap leastI rdZ rd rootI
set_option maxRecDepth 20000
set_option maxHeartbeats 4000000
theorem kN (k : Int) (h : 1 ≤ k) : (k - 1).toNat + 1 = k.toNat := by omega
end Go.Proofs.YtdhkpmaanegjkaaGreat
