/- Contracts of functions of the program, and what they compute. Conditions: those that each theorem states. -/
import Derived.Test.YtmifcbekaniiiaaDoorProg
import Derived.Test.YtmifcbekaniiiaaDoorA2
set_option linter.unusedVariables false
set_option linter.unusedSimpArgs false
namespace Go.Proofs.YtmifcbekaniiiaaDoor
open Go.Av
attribute [local irreducible] Go.IntKind.wrap listS decS satI vapI rd rdZ densI pdN densOf pdR moistOf massOf airS
set_option maxRecDepth 20000
set_option maxHeartbeats 8000000

/-! Air: draws, the law. -/
theorem c_spec_l02Draw (c : List Int) (p s : Int) (hc : bytes c) (hp : 0 ≤ p ∧ p ≤ 1000000) : FnSem Tryd.prog 61 [.own 0 0] [srcO c p s] (SrcV (fun x : GAir => [.p .flat (.agg x.cells)]) (fun x => (-101 ≤ x.temperature ∧ x.temperature ≤ 601) ∧ (49999 ≤ x.pressure ∧ x.pressure ≤ 150001) ∧ -1 ≤ x.humidity ∧ x.humidity ≤ 1001) c 12 p) := by
  refine FnSem.walk (zs := zeroPV Tryd.prog) (by kernel_rfl) Tryd.func61 rfl Tryd.results61 (by kernel_rfl) (by kernel_rfl) (by kernel_rfl) fun hw hh => ?_
  obtain ⟨w0, _⟩ := hw
  first | replace w0 := wfr_L00Src w0 | skip
  repeat' first
    | refine And.intro rfl ?_
    | refine GdF.mk (fun h => h) ?_
    | refine And.intro (Nat.succ_ne_zero _) ?_
    | refine And.intro (Nat.le_of_ble_eq_true rfl) ?_
    | refine SeqF.run ?_
    | refine SrcV.mk (α := GAir) ⟨_, _, _⟩ _ _ rfl rfl ?_ ?_
    | refine GhF.go ?_
    | refine BndF.mk (fun _ => by omega) ?_
    | refine BndF.mk (fun _ => by simp only [List.length_map, List.length_cons, List.length_nil, List.length_append, List.length_set, List.length_replicate, iotaI_len]; omega) ?_
    | refine EqL.mk [] rfl ?_
    | refine EqL.mk [_] rfl ?_
    | refine EqL.mk _ rfl ?_
    | (refine ArgF.src (c_spec_l02DrawTemperature _ _ _ (by first | assumption | omega | rfl | (simp only [List.length_cons, List.length_nil]; omega)) (by first | assumption | omega | rfl | (simp only [List.length_cons, List.length_nil]; omega))) ?_; intro _ _ _ _ _)
    | (refine ArgF.src (c_spec_l02DrawPressure _ _ _ (by first | assumption | omega | rfl | (simp only [List.length_cons, List.length_nil]; omega)) (by first | assumption | omega | rfl | (simp only [List.length_cons, List.length_nil]; omega))) ?_; intro _ _ _ _ _)
    | (refine ArgF.src (c_spec_l02DrawHumidity _ _ _ (by first | assumption | omega | rfl | (simp only [List.length_cons, List.length_nil]; omega)) (by first | assumption | omega | rfl | (simp only [List.length_cons, List.length_nil]; omega))) ?_; intro _ _ _ _ _)
    | refine CallF.own (f := 56) [0] false ?_
    | refine CallF.own (f := 57) [0] false ?_
    | refine CallF.own (f := 83) [0] false ?_
    | refine CallF.mk (CallW.is [] true rfl ?_)
    | refine CallG.mk ?_
    | (refine CondF.mk (fun hb => ?_) (fun hb => ?_) <;> try simp only [forall_const, eq_self, not_true_eq_false, not_false_eq_true, or_false, false_or, or_self, or_true, true_or, and_true, true_and, and_false, false_and, decide_true, decide_false, Bool.not_true, Bool.not_false, decide_eq_true_eq, decide_eq_false_iff_not, ite_and_p, ite_or_p, Bool.decide_eq_true, Bool.and_eq_true, Bool.or_eq_true, Bool.not_eq_true', Bool.not_eq_false', Bool.and_eq_false_imp, Bool.or_eq_false_iff, bne_iff_ne, beq_iff_eq, bne_eq_false_iff_eq, beq_eq_false_iff_ne, gt_iff_lt, ge_iff_le, Int.not_lt, Int.not_le, ne_eq, Bool.true_eq_false, Bool.false_eq_true, reduceCtorEq, eta_Air, eta_Heading] at hb)
    | refine RetF.auto (And.intro rfl ?_)
    | exact Is.mk rfl rfl
    | refine Is.mk ?_ rfl
    | refine Is.mk rfl ?_
    | refine Is.mk ?_ ?_
  all_goals try dsimp only
  all_goals omega
theorem c_spec_DrawMoistDensity (c : List Int) : FnSem Tryd.prog 30 [Lx (LY c)] [] (RetV (fun x : GAir => [.p .flat (.agg x.cells)]) (fun _ => []) (fun x => (-101 ≤ x.temperature ∧ x.temperature ≤ 601) ∧ (49999 ≤ x.pressure ∧ x.pressure ≤ 150001) ∧ -1 ≤ x.humidity ∧ x.humidity ≤ 1001)) := by
  refine FnSem.walk (zs := zeroPV Tryd.prog) (by kernel_rfl) Tryd.func30 rfl Tryd.results30 (by kernel_rfl) (by kernel_rfl) (by kernel_rfl) fun hw hh => ?_
  obtain ⟨w0, _⟩ := hw
  first | replace w0 := wf_LY w0 | skip
  have hc : bytes c := w0.2
  repeat' first
    | refine And.intro rfl ?_
    | refine GdF.mk (fun h => h) ?_
    | refine And.intro (Nat.succ_ne_zero _) ?_
    | refine And.intro (Nat.le_of_ble_eq_true rfl) ?_
    | refine SeqF.run ?_
    | (refine ArgF.src (c_spec_l02Draw _ _ _ hc (by omega)) ?_; rintro ⟨a, b, d⟩ p s hv hp; dsimp only at hv ⊢)
    | refine RetV.mk (α := GAir) ⟨_, _, _⟩ rfl rfl ?_
    | refine GhF.go ?_
    | refine BndF.mk (fun _ => by omega) ?_
    | refine BndF.mk (fun _ => by simp only [List.length_map, List.length_cons, List.length_nil, List.length_append, List.length_set, List.length_replicate, iotaI_len]; omega) ?_
    | refine EqL.mk _ (tk eY (by first | rfl | assumption | omega | (simp only [List.length_map, List.length_cons, List.length_nil, List.length_append, List.length_set, List.length_replicate, iotaI_len]; done) | (simp only [List.length_map, List.length_cons, List.length_nil, List.length_append, List.length_set, List.length_replicate, iotaI_len]; omega))) ?_
    | refine EqL.mk _ (st eY) ?_
    | refine EqL.mk [] rfl ?_
    | refine EqL.mk [_] rfl ?_
    | refine EqL.mk _ rfl ?_
    | refine ArgF.is (c_spec_l00From ..) ?_
    | refine ArgQ.is (fun hG => c_spec_l00From ..) rfl rfl ?_
    | (refine ArgF.src (c_spec_l02Draw _ _ _ (by first | assumption | omega | rfl | (simp only [List.length_cons, List.length_nil]; omega)) (by first | assumption | omega | rfl | (simp only [List.length_cons, List.length_nil]; omega))) ?_; intro _ _ _ _ _)
    | refine CallF.own (f := 61) [0] false ?_
    | refine CallF.mk (f := 37) (CallW.is [] false rfl ?_)
    | refine CallF.mk (CallW.is [] true rfl ?_)
    | refine CallG.mk ?_
    | (refine CondF.mk (fun hb => ?_) (fun hb => ?_) <;> try simp only [forall_const, eq_self, not_true_eq_false, not_false_eq_true, or_false, false_or, or_self, or_true, true_or, and_true, true_and, and_false, false_and, decide_true, decide_false, Bool.not_true, Bool.not_false, decide_eq_true_eq, decide_eq_false_iff_not, ite_and_p, ite_or_p, Bool.decide_eq_true, Bool.and_eq_true, Bool.or_eq_true, Bool.not_eq_true', Bool.not_eq_false', Bool.and_eq_false_imp, Bool.or_eq_false_iff, bne_iff_ne, beq_iff_eq, bne_eq_false_iff_eq, beq_eq_false_iff_ne, gt_iff_lt, ge_iff_le, Int.not_lt, Int.not_le, ne_eq, Bool.true_eq_false, Bool.false_eq_true, reduceCtorEq, eta_Air, eta_Heading] at hb)
    | refine RetF.auto (And.intro rfl ?_)
    | exact Is.mk rfl rfl
    | refine Is.mk ?_ rfl
    | refine Is.mk rfl ?_
    | refine Is.mk ?_ ?_
  exact hv
theorem c_spec_l02DrawFlow (c : List Int) (p s : Int) (hc : bytes c) (hp : 0 ≤ p ∧ p ≤ 10000000) : FnSem Tryd.prog 65 [.own 0 0] [srcO c p s] (SrcR c 4 p (-100001) 100001) := by
  refine FnSem.walk (zs := zeroPV Tryd.prog) (by kernel_rfl) Tryd.func65 rfl Tryd.results65 (by kernel_rfl) (by kernel_rfl) (by kernel_rfl) fun hw hh => ?_
  obtain ⟨w0, _⟩ := hw
  first | replace w0 := wfr_L00Src w0 | skip
  repeat' first
    | refine And.intro rfl ?_
    | refine GdF.mk (fun h => h) ?_
    | refine And.intro (Nat.succ_ne_zero _) ?_
    | refine And.intro (Nat.le_of_ble_eq_true rfl) ?_
    | refine SeqF.run ?_
    | refine SrcV.mk (α := Int) _ _ _ rfl rfl ?_ ?_
    | refine GhF.go ?_
    | refine MkF.row ?_
    | refine BndF.mk (fun _ => by omega) ?_
    | refine BndF.mk (fun _ => by simp only [List.length_map, List.length_cons, List.length_nil, List.length_append, List.length_set, List.length_replicate, iotaI_len]; omega) ?_
    | refine EqI.mk _ (fun _ => wrapI (by omega) (by omega)) ?_
    | refine EqI.mk _ (fun _ => rfl) ?_
    | refine EqL.mk _ (tk eI (by first | rfl | assumption | omega | (simp only [List.length_map, List.length_cons, List.length_nil, List.length_append, List.length_set, List.length_replicate, iotaI_len]; done) | (simp only [List.length_map, List.length_cons, List.length_nil, List.length_append, List.length_set, List.length_replicate, iotaI_len]; omega))) ?_
    | refine EqL.mk (List.map eI [_, _, _, _, _]) rfl ?_
    | refine EqL.mk [] rfl ?_
    | refine EqL.mk [_] rfl ?_
    | refine EqL.mk _ rfl ?_
    | (refine ArgF.src (c_spec_l00Src_one _ _ _ _ (by first | assumption | omega | rfl | (simp only [List.length_cons, List.length_nil]; omega)) (by first | assumption | omega | rfl | (simp only [List.length_cons, List.length_nil]; omega)) (by first | assumption | omega | rfl | (simp only [List.length_cons, List.length_nil]; omega))) ?_; intro _ _ _ _ _)
    | (refine ArgF.srw (c_spec_l00Src_among _ _ _ _ _ (by first | assumption | omega | rfl | (simp only [List.length_cons, List.length_nil]; omega)) (by first | assumption | omega | rfl | (simp only [List.length_cons, List.length_nil]; omega)) (by first | assumption | omega | rfl | (simp only [List.length_cons, List.length_nil]; omega)) (by first | assumption | omega | rfl | (simp only [List.length_cons, List.length_nil]; omega))) ?_; intro _ _ _ _ _)
    | (refine ArgF.src (c_spec_l00Src_pick _ _ _ _ (by first | assumption | omega | rfl | (simp only [List.length_cons, List.length_nil]; omega)) (by first | assumption | omega | rfl | (simp only [List.length_cons, List.length_nil]; omega)) (by first | assumption | omega | rfl | (simp only [List.length_cons, List.length_nil]; omega))) ?_; intro _ _ _ _ _)
    | refine CallF.own (f := 38) [0] false ?_
    | refine CallF.own (f := 79) [0, 1] false ?_
    | refine CallF.own (f := 82) [0] false ?_
    | refine CallF.mk (CallW.is [] true rfl ?_)
    | refine CallG.mk ?_
    | (refine CondF.mk (fun hb => ?_) (fun hb => ?_) <;> try simp only [forall_const, eq_self, not_true_eq_false, not_false_eq_true, or_false, false_or, or_self, or_true, true_or, and_true, true_and, and_false, false_and, decide_true, decide_false, Bool.not_true, Bool.not_false, decide_eq_true_eq, decide_eq_false_iff_not, ite_and_p, ite_or_p, Bool.decide_eq_true, Bool.and_eq_true, Bool.or_eq_true, Bool.not_eq_true', Bool.not_eq_false', Bool.and_eq_false_imp, Bool.or_eq_false_iff, bne_iff_ne, beq_iff_eq, bne_eq_false_iff_eq, beq_eq_false_iff_ne, gt_iff_lt, ge_iff_le, Int.not_lt, Int.not_le, ne_eq, Bool.true_eq_false, Bool.false_eq_true, reduceCtorEq, eta_Air, eta_Heading] at hb)
    | refine RetF.auto (And.intro rfl ?_)
    | exact Is.mk rfl rfl
    | refine Is.mk ?_ rfl
    | refine Is.mk rfl ?_
    | refine Is.mk ?_ ?_
  all_goals first | omega | (simp only [List.mem_cons, List.not_mem_nil, or_false] at *; omega) | skip
theorem c_spec_DrawSameMass (c : List Int) : FnSem Tryd.prog 34 [Lx (LY c)] [] (RetV (fun v : Int × Int × Int => [In v.1, In v.2.1, In v.2.2]) (fun _ => []) (fun v => (-100001 ≤ v.1 ∧ v.1 ≤ 100001) ∧ (0 ≤ v.2.1 ∧ v.2.1 ≤ 5001) ∧ 0 ≤ v.2.2 ∧ v.2.2 ≤ 5001)) := by
  refine FnSem.walk (zs := zeroPV Tryd.prog) (by kernel_rfl) Tryd.func34 rfl Tryd.results34 (by kernel_rfl) (by kernel_rfl) (by kernel_rfl) fun hw hh => ?_
  obtain ⟨w0, _⟩ := hw
  first | replace w0 := wf_LY w0 | skip
  have hc : bytes c := w0.2
  repeat' first
    | refine And.intro rfl ?_
    | refine GdF.mk (fun h => h) ?_
    | refine And.intro (Nat.succ_ne_zero _) ?_
    | refine And.intro (Nat.le_of_ble_eq_true rfl) ?_
    | refine SeqF.run ?_
    | refine RetV.mk (α := Int × Int × Int) (_, _, _) rfl rfl ?_
    | refine GhF.go ?_
    | refine BndF.mk (fun _ => by omega) ?_
    | refine BndF.mk (fun _ => by simp only [List.length_map, List.length_cons, List.length_nil, List.length_append, List.length_set, List.length_replicate, iotaI_len]; omega) ?_
    | refine EqL.mk _ (tk eY (by first | rfl | assumption | omega | (simp only [List.length_map, List.length_cons, List.length_nil, List.length_append, List.length_set, List.length_replicate, iotaI_len]; done) | (simp only [List.length_map, List.length_cons, List.length_nil, List.length_append, List.length_set, List.length_replicate, iotaI_len]; omega))) ?_
    | refine EqL.mk [] rfl ?_
    | refine EqL.mk [_] rfl ?_
    | refine EqL.mk _ rfl ?_
    | refine ArgF.is (c_spec_l00From ..) ?_
    | refine ArgQ.is (fun hG => c_spec_l00From ..) rfl rfl ?_
    | (refine ArgF.src (c_spec_l02DrawFlow _ _ _ (by first | assumption | omega | rfl | (simp only [List.length_cons, List.length_nil]; omega)) (by first | assumption | omega | rfl | (simp only [List.length_cons, List.length_nil]; omega))) ?_; intro _ _ _ _ _)
    | (refine ArgF.src (c_spec_l02DrawDense _ _ _ (by first | assumption | omega | rfl | (simp only [List.length_cons, List.length_nil]; omega)) (by first | assumption | omega | rfl | (simp only [List.length_cons, List.length_nil]; omega))) ?_; intro _ _ _ _ _)
    | refine CallF.own (f := 65) [0] false ?_
    | refine CallF.own (f := 66) [0] false ?_
    | refine CallF.mk (f := 37) (CallW.is [] false rfl ?_)
    | refine CallF.mk (CallW.is [] true rfl ?_)
    | refine CallG.mk ?_
    | (refine CondF.mk (fun hb => ?_) (fun hb => ?_) <;> try simp only [forall_const, eq_self, not_true_eq_false, not_false_eq_true, or_false, false_or, or_self, or_true, true_or, and_true, true_and, and_false, false_and, decide_true, decide_false, Bool.not_true, Bool.not_false, decide_eq_true_eq, decide_eq_false_iff_not, ite_and_p, ite_or_p, Bool.decide_eq_true, Bool.and_eq_true, Bool.or_eq_true, Bool.not_eq_true', Bool.not_eq_false', Bool.and_eq_false_imp, Bool.or_eq_false_iff, bne_iff_ne, beq_iff_eq, bne_eq_false_iff_eq, beq_eq_false_iff_ne, gt_iff_lt, ge_iff_le, Int.not_lt, Int.not_le, ne_eq, Bool.true_eq_false, Bool.false_eq_true, reduceCtorEq, eta_Air, eta_Heading] at hb)
    | refine RetF.auto (And.intro rfl ?_)
    | exact Is.mk rfl rfl
    | refine Is.mk ?_ rfl
    | refine Is.mk rfl ?_
    | refine Is.mk ?_ ?_
  all_goals dsimp only
  all_goals first | omega | (simp only [List.mem_cons, List.not_mem_nil, or_false] at *; omega) | skip
theorem rdZ_near2 {x y : Int} (hy : 0 < y) : 2 * (x - rdZ x y * y) ≤ y ∧ -y ≤ 2 * (x - rdZ x y * y) := by
  have key : ∀ x : Int, 0 ≤ x → 2 * (x - rd x y * y) ≤ y ∧ -y ≤ 2 * (x - rd x y * y) := fun x hx => by
    rw [rd_eq hx hy]
    have h1 := Int.mul_ediv_add_emod (2 * x + y) (2 * y)
    have h2 := Int.emod_nonneg (2 * x + y) (show 2 * y ≠ 0 by omega)
    have h3 := Int.emod_lt_of_pos (2 * x + y) (show 0 < 2 * y by omega)
    generalize (2 * x + y) / (2 * y) = q at *
    have e : 2 * y * q = 2 * (q * y) := by grind
    omega
  unfold rdZ
  split
  · exact key x (by assumption)
  · have := key (-x) (by omega)
    rw [Int.neg_mul]; omega
theorem mass_no {q a b : Int} (h : ¬(massOf q a b).2 = 0) : (massOf q a b).1 = 0 := by
  unfold massOf at *
  split
  · rename_i h1; rw [if_pos h1] at h; exact absurd rfl h
  · rfl
theorem mass_ok {q a b : Int} (h : (massOf q a b).2 = 0) : ((massOf q a a).2 = 0 ∧ (massOf q a a).1 = q) ∧ (-500000000 ≤ q * a ∧ q * a ≤ 500000000) ∧ (1 ≤ b ∧ b ≤ 5000) ∧ (-b ≤ (massOf q a b).1 * b - q * a ∧ (massOf q a b).1 * b - q * a ≤ b) := by
  unfold massOf at h
  split at h
  · rename_i h1
    have h2 := h1
    simp only [Bool.and_eq_true, inR_iff] at h2
    unfold massOf
    rw [if_pos h1, if_pos (by simp only [Bool.and_eq_true, inR_iff]; omega)]
    have h3 := rdZ_near2 (x := q * a) (y := b) (by omega)
    have h4 := mulR (q := q) (a := a) (by omega) (by omega)
    refine ⟨⟨rfl, ?_⟩, h4, by omega, by dsimp only; omega⟩
    dsimp only
    have h5 := rdZ_lo (a := q) (x := q * a) (y := a) (by omega) (Int.le_refl _)
    have h6 := rdZ_hi (b := q) (x := q * a) (y := a) (by omega) (Int.le_refl _)
    omega
  · cases h
theorem pd_law {t p : Int} (ht : -100 ≤ t ∧ t ≤ 600) (hp : 50000 ≤ p ∧ p ≤ 150000) (h : (pdR t p 1).2 = 0) : p < (pdR t p 1).1 ∧ ((pdR t p 10).2 = 0 → (pdR t p 1).1 < (pdR t p 10).1) := by
  have a := pdN_lt ht (p := p) (by omega) (n := 0) (m := 1) (by omega)
  have b := pdN_lt ht (p := p) (by omega) (n := 1) (m := 10) (by omega)
  have e : pdN t p 0 = p := by unfold pdN; rfl
  unfold pdR at h ⊢
  split at h
  · rename_i h1
    rw [if_pos h1]
    refine ⟨by dsimp only; omega, fun h2 => ?_⟩
    split at h2
    · rename_i h3; rw [if_pos h3]; exact b
    · cases h2
  · cases h
theorem dens_law {t p : Int} (h : (densOf t p).2 = 0) : 1 ≤ (densOf t p).1 ∧ ((densOf (t + 1) p).2 = 0 → (densOf (t + 1) p).1 ≤ (densOf t p).1) ∧ ((densOf t (p - 1)).2 = 0 → (densOf t (p - 1)).1 ≤ (densOf t p).1) := by
  have a := densOf_0 h
  rw [a.2.2]
  refine ⟨densI_1 a.1 (by omega), fun h2 => ?_, fun h2 => ?_⟩
  · rw [(densOf_0 h2).2.2]; exact densI_t a.1.1 (by omega) (by omega)
  · rw [(densOf_0 h2).2.2]; exact densI_p a.1 (by omega) (by omega)
theorem c_laws_FnAir (c1 c2 : List Int) : FnSem Tryd.prog 5 [Lx (LY c1), Lx (LY c2)] [] (Is [Bo true] []) := by
  refine FnSem.walk (zs := zeroPV Tryd.prog) (by kernel_rfl) Tryd.func5 rfl Tryd.results5 (by kernel_rfl) (by kernel_rfl) (by kernel_rfl) fun hw hh => ?_
  obtain ⟨w0, w1, _⟩ := hw
  first | replace w0 := wf_LY w0 | skip
  first | replace w1 := wf_LY w1 | skip
  repeat' first
    | refine And.intro rfl ?_
    | refine GdF.mk (fun h => h) ?_
    | refine And.intro (Nat.succ_ne_zero _) ?_
    | refine And.intro (Nat.le_of_ble_eq_true rfl) ?_
    | refine SeqF.run ?_
    | (refine ArgF.ret (drawDens c1) ?_; rintro ⟨t, p⟩ hv; dsimp only at hv ⊢)
    | (refine ArgF.ret (c_spec_DrawMoistDensity c2) ?_; rintro x hx)
    | (refine ArgF.ret (c_spec_DrawSameMass c2) ?_; rintro ⟨q, a, b⟩ hq; dsimp only at hq ⊢)
    | refine ArgF.is (depthT t p 1 (by have q := densOf_0 (by assumption); omega) (by have q := densOf_0 (by assumption); omega) (by omega) 100 rfl) ?_
    | refine ArgQ.is (fun hG => depthT t p 1 (by have q := densOf_0 (by assumption); omega) (by have q := densOf_0 (by assumption); omega) (by omega) 100 rfl) rfl rfl ?_
    | refine ArgF.is (depthT t p 10 (by have q := densOf_0 (by assumption); omega) (by have q := densOf_0 (by assumption); omega) (by omega) 1000 rfl) ?_
    | refine ArgQ.is (fun hG => depthT t p 10 (by have q := densOf_0 (by assumption); omega) (by have q := densOf_0 (by assumption); omega) (by omega) 1000 rfl) rfl rfl ?_
    | refine ArgF.is (c_impl_AirText x (moist_0 (by assumption))) ?_
    | refine ArgQ.is (fun hG => c_impl_AirText x (moist_0 (by assumption))) rfl rfl ?_
    | refine ArgF.is (c_impl_ReadAir x (moist_0 (by assumption))) ?_
    | refine ArgQ.is (fun hG => c_impl_ReadAir x (moist_0 (by assumption))) rfl rfl ?_
    | refine EqI.mk ((massOf q a b).1 * b) (fun _ => by have q1 := mass_ok (by assumption); exact wrapI (by omega) (by omega)) ?_
    | refine EqI.mk (q * a) (fun _ => by have q1 := mass_ok (q := q) (a := a) (b := b) (by assumption); exact wrapI (by omega) (by omega)) ?_
    | refine EqI.mk ((massOf q a b).1 * b - q * a) (fun _ => by have q1 := mass_ok (by assumption); exact wrapI (by omega) (by omega)) ?_
    | refine ArgF.is (c_laws_b10Abs ((massOf q a b).1 * b - q * a) (by have q1 := mass_ok (by assumption); omega)) ?_
    | refine ArgQ.is (fun hG => c_laws_b10Abs ((massOf q a b).1 * b - q * a) (by have q1 := mass_ok (by assumption); omega)) rfl rfl ?_
    | refine GhF.go ?_
    | refine GdS.keep ?_
    | refine AggN.mk true (by kernel_rfl) (iff_of_true rfl rfl) ?_
    | refine AggE.mk true (by kernel_rfl) (iff_of_true rfl rfl) ?_
    | refine BndF.mk (fun _ => by omega) ?_
    | refine BndF.mk (fun _ => by simp only [List.length_map, List.length_cons, List.length_nil, List.length_append, List.length_set, List.length_replicate, iotaI_len]; omega) ?_
    | refine BndF.mk (fun hG => by simp only [forall_const, eq_self, not_true_eq_false, not_false_eq_true, or_false, false_or, or_self, or_true, true_or, and_true, true_and, and_false, false_and, decide_true, decide_false, Bool.not_true, Bool.not_false, decide_eq_true_eq, decide_eq_false_iff_not, ite_and_p, ite_or_p, Bool.decide_eq_true, Bool.and_eq_true, Bool.or_eq_true, Bool.not_eq_true', Bool.not_eq_false', Bool.and_eq_false_imp, Bool.or_eq_false_iff, bne_iff_ne, beq_iff_eq, bne_eq_false_iff_eq, beq_eq_false_iff_ne, gt_iff_lt, ge_iff_le, Int.not_lt, Int.not_le, ne_eq, Bool.true_eq_false, Bool.false_eq_true, reduceCtorEq, eta_Air, eta_Heading, bytes_nil] at hG; (try simp only [List.length_map]); omega) ?_
    | refine EqI.mk _ (fun _ => wrapI (by omega) (by omega)) ?_
    | refine EqI.mk _ (fun _ => rfl) ?_
    | refine EqL.mk _ (tk eY (by first | rfl | assumption | omega | (simp only [List.length_map, List.length_cons, List.length_nil, List.length_append, List.length_set, List.length_replicate, iotaI_len]; done) | (simp only [List.length_map, List.length_cons, List.length_nil, List.length_append, List.length_set, List.length_replicate, iotaI_len]; omega))) ?_
    | refine EqL.mk _ (st eY) ?_
    | refine EqL.mk [] rfl ?_
    | refine EqL.mk [_] rfl ?_
    | refine EqL.mk _ rfl ?_
    | refine ArgF.is (c_laws_b10Long ..) ?_
    | refine ArgQ.is (fun hG => c_laws_b10Long ..) rfl rfl ?_
    | refine ArgF.is (c_spec_DrawDensityOf ..) ?_
    | refine ArgQ.is (fun hG => c_spec_DrawDensityOf ..) rfl rfl ?_
    | refine ArgF.is (c_impl_DensityOf ..) ?_
    | refine ArgQ.is (fun hG => c_impl_DensityOf ..) rfl rfl ?_
    | refine ArgF.is (c_impl_PressureAtDepth ..) ?_
    | refine ArgQ.is (fun hG => c_impl_PressureAtDepth ..) rfl rfl ?_
    | refine ArgF.is (c_spec_DrawMoistDensity ..) ?_
    | refine ArgQ.is (fun hG => c_spec_DrawMoistDensity ..) rfl rfl ?_
    | refine ArgF.is (c_impl_MoistDensity ⟨_, _, _⟩) ?_
    | refine ArgQ.is (fun hG => c_impl_MoistDensity ⟨_, _, _⟩) rfl rfl ?_
    | refine ArgF.is (c_impl_AirText ⟨_, _, _⟩ (by first | assumption | omega)) ?_
    | refine ArgQ.is (fun hG => c_impl_AirText ⟨_, _, _⟩ (by first | assumption | omega)) rfl rfl ?_
    | refine ArgQ.is (fun hG => c_impl_AirText ⟨_, _, _⟩ (by simp only [forall_const, eq_self, not_true_eq_false, not_false_eq_true, or_false, false_or, or_self, or_true, true_or, and_true, true_and, and_false, false_and, decide_true, decide_false, Bool.not_true, Bool.not_false, decide_eq_true_eq, decide_eq_false_iff_not, ite_and_p, ite_or_p, Bool.decide_eq_true, Bool.and_eq_true, Bool.or_eq_true, Bool.not_eq_true', Bool.not_eq_false', Bool.and_eq_false_imp, Bool.or_eq_false_iff, bne_iff_ne, beq_iff_eq, bne_eq_false_iff_eq, beq_eq_false_iff_ne, gt_iff_lt, ge_iff_le, Int.not_lt, Int.not_le, ne_eq, Bool.true_eq_false, Bool.false_eq_true, reduceCtorEq, eta_Air, eta_Heading, bytes_nil] at hG; omega)) rfl rfl ?_
    | refine ArgF.is (c_impl_ReadAir ⟨_, _, _⟩ (by first | assumption | omega)) ?_
    | refine ArgQ.is (fun hG => c_impl_ReadAir ⟨_, _, _⟩ (by first | assumption | omega)) rfl rfl ?_
    | refine ArgQ.is (fun hG => c_impl_ReadAir ⟨_, _, _⟩ (by simp only [forall_const, eq_self, not_true_eq_false, not_false_eq_true, or_false, false_or, or_self, or_true, true_or, and_true, true_and, and_false, false_and, decide_true, decide_false, Bool.not_true, Bool.not_false, decide_eq_true_eq, decide_eq_false_iff_not, ite_and_p, ite_or_p, Bool.decide_eq_true, Bool.and_eq_true, Bool.or_eq_true, Bool.not_eq_true', Bool.not_eq_false', Bool.and_eq_false_imp, Bool.or_eq_false_iff, bne_iff_ne, beq_iff_eq, bne_eq_false_iff_eq, beq_eq_false_iff_ne, gt_iff_lt, ge_iff_le, Int.not_lt, Int.not_le, ne_eq, Bool.true_eq_false, Bool.false_eq_true, reduceCtorEq, eta_Air, eta_Heading, bytes_nil] at hG; omega)) rfl rfl ?_
    | refine ArgF.is (c_spec_DrawSameMass ..) ?_
    | refine ArgQ.is (fun hG => c_spec_DrawSameMass ..) rfl rfl ?_
    | refine ArgF.is (c_impl_SameMass ..) ?_
    | refine ArgQ.is (fun hG => c_impl_SameMass ..) rfl rfl ?_
    | refine ArgF.is (c_laws_b10Abs _ (by first | assumption | omega)) ?_
    | refine ArgQ.is (fun hG => c_laws_b10Abs _ (by first | assumption | omega)) rfl rfl ?_
    | refine ArgQ.is (fun hG => c_laws_b10Abs _ (by simp only [forall_const, eq_self, not_true_eq_false, not_false_eq_true, or_false, false_or, or_self, or_true, true_or, and_true, true_and, and_false, false_and, decide_true, decide_false, Bool.not_true, Bool.not_false, decide_eq_true_eq, decide_eq_false_iff_not, ite_and_p, ite_or_p, Bool.decide_eq_true, Bool.and_eq_true, Bool.or_eq_true, Bool.not_eq_true', Bool.not_eq_false', Bool.and_eq_false_imp, Bool.or_eq_false_iff, bne_iff_ne, beq_iff_eq, bne_eq_false_iff_eq, beq_eq_false_iff_ne, gt_iff_lt, ge_iff_le, Int.not_lt, Int.not_le, ne_eq, Bool.true_eq_false, Bool.false_eq_true, reduceCtorEq, eta_Air, eta_Heading, bytes_nil] at hG; omega)) rfl rfl ?_
    | refine CallF.mk (CallW.is [] true rfl ?_)
    | refine CallG.mk ?_
    | (refine CondF.mk (fun hb => ?_) (fun hb => ?_) <;> try simp only [forall_const, eq_self, not_true_eq_false, not_false_eq_true, or_false, false_or, or_self, or_true, true_or, and_true, true_and, and_false, false_and, decide_true, decide_false, Bool.not_true, Bool.not_false, decide_eq_true_eq, decide_eq_false_iff_not, ite_and_p, ite_or_p, Bool.decide_eq_true, Bool.and_eq_true, Bool.or_eq_true, Bool.not_eq_true', Bool.not_eq_false', Bool.and_eq_false_imp, Bool.or_eq_false_iff, bne_iff_ne, beq_iff_eq, bne_eq_false_iff_eq, beq_eq_false_iff_ne, gt_iff_lt, ge_iff_le, Int.not_lt, Int.not_le, ne_eq, Bool.true_eq_false, Bool.false_eq_true, reduceCtorEq, eta_Air, eta_Heading] at hb)
    | refine RetF.auto (And.intro rfl ?_)
    | exact Is.mk rfl rfl
    | refine Is.mk ?_ rfl
    | refine Is.mk rfl ?_
    | refine Is.mk ?_ ?_
  all_goals try dsimp only
  all_goals first
    | (exfalso
       have h := dens_law (t := t) (p := p) (by assumption)
       omega)
    | (exfalso
       have h := densOf_0 (t := t) (p := p) (by assumption)
       have h2 := pd_law h.1 h.2.1
       omega)
    | (exfalso
       have h := moist_1 (x := x) (by assumption)
       omega)
    | (rw [mass_no (by assumption)]; rfl)
    | (have h := mass_ok (q := q) (a := a) (b := b) (by assumption)
       have h2 : absI ((massOf q a b).1 * b - q * a) ≤ b := by unfold absI; omega
       simp only [h.1.1, h.1.2, beq_self_eq_true, if_true, decide_eq_true h2]; rfl)
    | skip
end Go.Proofs.YtmifcbekaniiiaaDoor
