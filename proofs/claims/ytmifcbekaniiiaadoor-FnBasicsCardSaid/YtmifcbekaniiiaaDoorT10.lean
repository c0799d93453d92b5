/- Contracts of functions of the program, and what they compute. Conditions: those that each theorem states. -/
import Derived.Test.YtmifcbekaniiiaaDoorProg
import Derived.Test.YtmifcbekaniiiaaDoorT9
import Derived.Test.YtmifcbekaniiiaaDoorG1
import Derived.Test.YtmifcbekaniiiaaDoorR2
import Derived.Test.YtmifcbekaniiiaaDoorF1
set_option linter.unusedVariables false
set_option linter.unusedSimpArgs false
namespace Go.Proofs.YtmifcbekaniiiaaDoor
open Go.Av
attribute [local irreducible] Go.IntKind.wrap leastI rdZ rd rootI listS decS r8W
set_option maxRecDepth 20000
set_option maxHeartbeats 8000000

/-! Basics: roots, quotients, lines, texts. -/
theorem rdZ_near {x y : Int} (hy : 0 < y) : 2 * (x - rdZ x y * y) ≤ y ∧ -y ≤ 2 * (x - rdZ x y * y) := by
  have key : ∀ x : Int, 0 ≤ x → 2 * (x - rd x y * y) ≤ y ∧ -y ≤ 2 * (x - rd x y * y) := fun x hx => by
    rw [rd_eq hx hy]
    have h1 := Int.mul_ediv_add_emod (2 * x + y) (2 * y)
    have h2 := Int.emod_nonneg (2 * x + y) (show 2 * y ≠ 0 by omega)
    have h3 := Int.emod_lt_of_pos (2 * x + y) (show 0 < 2 * y by omega)
    generalize (2 * x + y) / (2 * y) = q at *
    have e : 2 * y * q = 2 * (q * y) := by grind
    omega
  unfold rdZ
  split
  · exact key x (by assumption)
  · have := key (-x) (by omega)
    rw [Int.neg_mul]; omega
theorem rootI_f {n : Int} (h : -1000000000000 ≤ n ∧ n ≤ 1000000000000) : (n < 0 → rootI n = 0) ∧ (0 ≤ n → 0 ≤ rootI n ∧ rootI n ≤ 1000000 ∧ rootI n * rootI n ≤ n ∧ n < (rootI n + 1) * (rootI n + 1)) := by
  unfold rootI
  refine ⟨fun hn => by rw [if_pos hn], fun hn => ?_⟩
  rw [if_neg (by omega)]
  have h1 : leastI (rootP n) 0 3037000498 ≤ 1000000 := by
    apply Int.not_lt.1
    intro hlt
    by_cases hle : leastI (rootP n) 0 3037000498 ≤ 3037000498
    · have := (leastI_hit hle (by omega)).2.2 1000000 (by omega) hlt
      have := of_decide_eq_false this; omega
    · have := leastI_none hle 1000000 (by omega) (by omega)
      have := of_decide_eq_false this; omega
  have h2 := leastI_hit (p := rootP n) (lo := 0) (hi := 3037000498) (by omega) (by omega)
  generalize leastI (rootP n) 0 3037000498 = r at *
  refine ⟨h2.1, h1, ?_, of_decide_eq_true h2.2.1⟩
  by_cases e : r = 0
  · subst e; omega
  · have := of_decide_eq_false (h2.2.2 (r - 1) (by omega) (by omega))
    rw [Int.sub_add_cancel] at this; omega
theorem c_spec_R8Numbers (c : List Int) : FnSem Tryd.prog 7 [Lx (LY c)] [] (RetV (fun v : Int × Int => [In v.1, In v.2]) (fun _ => []) (fun v => -100000 ≤ v.1 ∧ v.1 ≤ 4000000000 ∧ 1 ≤ v.2 ∧ v.2 ≤ 5000)) := by
  refine FnSem.walk (zs := zeroPV Tryd.prog) (by kernel_rfl) Tryd.func7 rfl Tryd.results7 (by kernel_rfl) (by kernel_rfl) (by kernel_rfl) fun hw hh => ?_
  obtain ⟨w0, _⟩ := hw
  first | replace w0 := wf_LY w0 | skip
  have hc : bytes c := w0.2
  repeat' first
    | refine And.intro rfl ?_
    | refine GdF.mk (fun h => h) ?_
    | refine And.intro (Nat.succ_ne_zero _) ?_
    | refine And.intro (Nat.le_of_ble_eq_true rfl) ?_
    | refine SeqF.run ?_
    | (refine ArgF.src (c_spec_l00Src_pick c 0 0 60000 hc (by omega) (by omega)) ?_; intro u p1 s1 hu hp1)
    | (refine ArgF.src (c_spec_l00Src_pick c p1 s1 60000 hc (by omega) (by omega)) ?_; intro v p2 s2 hv hp2; have hm := mulB' (a := u) (b := v) (A := 59999) (B := 59999) hu.1 (by omega) hv.1 (by omega))
    | (refine ArgF.src (c_spec_l00Src_pick c p2 s2 5000 hc (by omega) (by omega)) ?_; intro w p3 s3 hw3 hp3)
    | refine EqI.mk (u * v) (fun _ => wrapI (by omega) (by omega)) ?_
    | refine EqI.mk (u * v - 100000) (fun _ => wrapI (by omega) (by omega)) ?_
    | refine RetV.mk (α := Int × Int) ⟨_, _⟩ rfl rfl ?_
    | refine GhF.go ?_
    | refine BndF.mk (fun _ => by omega) ?_
    | refine BndF.mk (fun _ => by simp only [List.length_map, List.length_cons, List.length_nil, List.length_append, List.length_set, List.length_replicate, iotaI_len]; omega) ?_
    | refine EqI.mk _ (fun _ => wrapI (by omega) (by omega)) ?_
    | refine EqI.mk _ (fun _ => rfl) ?_
    | refine EqL.mk _ (tk eY (by first | rfl | assumption | omega | (simp only [List.length_map, List.length_cons, List.length_nil, List.length_append, List.length_set, List.length_replicate, iotaI_len]; done) | (simp only [List.length_map, List.length_cons, List.length_nil, List.length_append, List.length_set, List.length_replicate, iotaI_len]; omega))) ?_
    | refine EqL.mk [] rfl ?_
    | refine EqL.mk [_] rfl ?_
    | refine EqL.mk _ rfl ?_
    | refine ArgF.is (c_spec_l00From ..) ?_
    | refine ArgQ.is (fun hG => c_spec_l00From ..) rfl rfl ?_
    | (refine ArgF.src (c_spec_l00Src_pick _ _ _ _ (by first | assumption | omega | rfl | (simp only [List.length_cons, List.length_nil]; omega)) (by first | assumption | omega | rfl | (simp only [List.length_cons, List.length_nil]; omega)) (by first | assumption | omega | rfl | (simp only [List.length_cons, List.length_nil]; omega))) ?_; intro _ _ _ _ _)
    | refine CallF.own (f := 38) [0] false ?_
    | refine CallF.mk (f := 37) (CallW.is [] false rfl ?_)
    | refine CallF.mk (CallW.is [] true rfl ?_)
    | refine CallG.mk ?_
    | (refine CondF.mk (fun hb => ?_) (fun hb => ?_) <;> try simp only [forall_const, eq_self, not_true_eq_false, not_false_eq_true, or_false, false_or, or_self, or_true, true_or, and_true, true_and, and_false, false_and, decide_true, decide_false, Bool.not_true, Bool.not_false, decide_eq_true_eq, decide_eq_false_iff_not, ite_and_p, ite_or_p, Bool.decide_eq_true, Bool.and_eq_true, Bool.or_eq_true, Bool.not_eq_true', Bool.not_eq_false', Bool.and_eq_false_imp, Bool.or_eq_false_iff, bne_iff_ne, beq_iff_eq, bne_eq_false_iff_eq, beq_eq_false_iff_ne, gt_iff_lt, ge_iff_le, Int.not_lt, Int.not_le, ne_eq, Bool.true_eq_false, Bool.false_eq_true, reduceCtorEq, eta_Air, eta_Heading] at hb)
    | refine RetF.auto (And.intro rfl ?_)
    | exact Is.mk rfl rfl
    | refine Is.mk ?_ rfl
    | refine Is.mk rfl ?_
    | refine Is.mk ?_ ?_
  dsimp only
  omega
theorem c_impl_DivRound (a b : Int) (ha : -1000000000000 ≤ a ∧ a ≤ 1000000000000) (hb' : 1 ≤ b ∧ b ≤ 1000000000000) : FnSem Tryd.prog 9 [In a, In b] [] (Is [In (rdZ a b)] []) := by
  refine FnSem.walk (zs := zeroPV Tryd.prog) (by kernel_rfl) Tryd.func9 rfl Tryd.results9 (by kernel_rfl) (by kernel_rfl) (by kernel_rfl) fun hw hh => ?_
  obtain ⟨w0, w1, _⟩ := hw
  first | replace w0 := wf_I w0 | skip
  first | replace w1 := wf_I w1 | skip
  repeat' first
    | refine And.intro rfl ?_
    | refine GdF.mk (fun h => h) ?_
    | refine And.intro (Nat.succ_ne_zero _) ?_
    | refine And.intro (Nat.le_of_ble_eq_true rfl) ?_
    | refine SeqF.run ?_
    | refine ArgF.is (divRoundZ a b (by omega) (by omega) (by omega)) ?_
    | refine ArgQ.is (fun hG => divRoundZ a b (by omega) (by omega) (by omega)) rfl rfl ?_
    | refine GhF.go ?_
    | refine GdS.keep ?_
    | refine BndF.mk (fun _ => by omega) ?_
    | refine BndF.mk (fun _ => by simp only [List.length_map, List.length_cons, List.length_nil, List.length_append, List.length_set, List.length_replicate, iotaI_len]; omega) ?_
    | refine BndF.mk (fun hG => by simp only [forall_const, eq_self, not_true_eq_false, not_false_eq_true, or_false, false_or, or_self, or_true, true_or, and_true, true_and, and_false, false_and, decide_true, decide_false, Bool.not_true, Bool.not_false, decide_eq_true_eq, decide_eq_false_iff_not, ite_and_p, ite_or_p, Bool.decide_eq_true, Bool.and_eq_true, Bool.or_eq_true, Bool.not_eq_true', Bool.not_eq_false', Bool.and_eq_false_imp, Bool.or_eq_false_iff, bne_iff_ne, beq_iff_eq, bne_eq_false_iff_eq, beq_eq_false_iff_ne, gt_iff_lt, ge_iff_le, Int.not_lt, Int.not_le, ne_eq, Bool.true_eq_false, Bool.false_eq_true, reduceCtorEq, eta_Air, eta_Heading, bytes_nil] at hG; (try simp only [List.length_map]); omega) ?_
    | refine EqL.mk [] rfl ?_
    | refine EqL.mk [_] rfl ?_
    | refine EqL.mk _ rfl ?_
    | refine ArgF.is (c_impl_within ..) ?_
    | refine ArgQ.is (fun hG => c_impl_within ..) rfl rfl ?_
    | refine ArgF.is (c_impl_divRound _ _ (by first | assumption | omega) (by first | assumption | omega) (by first | assumption | omega) (by first | assumption | omega)) ?_
    | refine ArgQ.is (fun hG => c_impl_divRound _ _ (by first | assumption | omega) (by first | assumption | omega) (by first | assumption | omega) (by first | assumption | omega)) rfl rfl ?_
    | refine ArgQ.is (fun hG => c_impl_divRound _ _ (by simp only [forall_const, eq_self, not_true_eq_false, not_false_eq_true, or_false, false_or, or_self, or_true, true_or, and_true, true_and, and_false, false_and, decide_true, decide_false, Bool.not_true, Bool.not_false, decide_eq_true_eq, decide_eq_false_iff_not, ite_and_p, ite_or_p, Bool.decide_eq_true, Bool.and_eq_true, Bool.or_eq_true, Bool.not_eq_true', Bool.not_eq_false', Bool.and_eq_false_imp, Bool.or_eq_false_iff, bne_iff_ne, beq_iff_eq, bne_eq_false_iff_eq, beq_eq_false_iff_ne, gt_iff_lt, ge_iff_le, Int.not_lt, Int.not_le, ne_eq, Bool.true_eq_false, Bool.false_eq_true, reduceCtorEq, eta_Air, eta_Heading, bytes_nil] at hG; omega) (by simp only [forall_const, eq_self, not_true_eq_false, not_false_eq_true, or_false, false_or, or_self, or_true, true_or, and_true, true_and, and_false, false_and, decide_true, decide_false, Bool.not_true, Bool.not_false, decide_eq_true_eq, decide_eq_false_iff_not, ite_and_p, ite_or_p, Bool.decide_eq_true, Bool.and_eq_true, Bool.or_eq_true, Bool.not_eq_true', Bool.not_eq_false', Bool.and_eq_false_imp, Bool.or_eq_false_iff, bne_iff_ne, beq_iff_eq, bne_eq_false_iff_eq, beq_eq_false_iff_ne, gt_iff_lt, ge_iff_le, Int.not_lt, Int.not_le, ne_eq, Bool.true_eq_false, Bool.false_eq_true, reduceCtorEq, eta_Air, eta_Heading, bytes_nil] at hG; omega) (by simp only [forall_const, eq_self, not_true_eq_false, not_false_eq_true, or_false, false_or, or_self, or_true, true_or, and_true, true_and, and_false, false_and, decide_true, decide_false, Bool.not_true, Bool.not_false, decide_eq_true_eq, decide_eq_false_iff_not, ite_and_p, ite_or_p, Bool.decide_eq_true, Bool.and_eq_true, Bool.or_eq_true, Bool.not_eq_true', Bool.not_eq_false', Bool.and_eq_false_imp, Bool.or_eq_false_iff, bne_iff_ne, beq_iff_eq, bne_eq_false_iff_eq, beq_eq_false_iff_ne, gt_iff_lt, ge_iff_le, Int.not_lt, Int.not_le, ne_eq, Bool.true_eq_false, Bool.false_eq_true, reduceCtorEq, eta_Air, eta_Heading, bytes_nil] at hG; omega) (by simp only [forall_const, eq_self, not_true_eq_false, not_false_eq_true, or_false, false_or, or_self, or_true, true_or, and_true, true_and, and_false, false_and, decide_true, decide_false, Bool.not_true, Bool.not_false, decide_eq_true_eq, decide_eq_false_iff_not, ite_and_p, ite_or_p, Bool.decide_eq_true, Bool.and_eq_true, Bool.or_eq_true, Bool.not_eq_true', Bool.not_eq_false', Bool.and_eq_false_imp, Bool.or_eq_false_iff, bne_iff_ne, beq_iff_eq, bne_eq_false_iff_eq, beq_eq_false_iff_ne, gt_iff_lt, ge_iff_le, Int.not_lt, Int.not_le, ne_eq, Bool.true_eq_false, Bool.false_eq_true, reduceCtorEq, eta_Air, eta_Heading, bytes_nil] at hG; omega)) rfl rfl ?_
    | refine CallF.mk (CallW.is [] true rfl ?_)
    | refine CallG.mk ?_
    | (refine CondF.mk (fun hb => ?_) (fun hb => ?_) <;> try simp only [forall_const, eq_self, not_true_eq_false, not_false_eq_true, or_false, false_or, or_self, or_true, true_or, and_true, true_and, and_false, false_and, decide_true, decide_false, Bool.not_true, Bool.not_false, decide_eq_true_eq, decide_eq_false_iff_not, ite_and_p, ite_or_p, Bool.decide_eq_true, Bool.and_eq_true, Bool.or_eq_true, Bool.not_eq_true', Bool.not_eq_false', Bool.and_eq_false_imp, Bool.or_eq_false_iff, bne_iff_ne, beq_iff_eq, bne_eq_false_iff_eq, beq_eq_false_iff_ne, gt_iff_lt, ge_iff_le, Int.not_lt, Int.not_le, ne_eq, Bool.true_eq_false, Bool.false_eq_true, reduceCtorEq, eta_Air, eta_Heading] at hb)
    | refine RetF.auto (And.intro rfl ?_)
    | exact Is.mk rfl rfl
    | refine Is.mk ?_ rfl
    | refine Is.mk rfl ?_
    | refine Is.mk ?_ ?_
  all_goals try dsimp only
  all_goals first
    | omega
    | (exfalso; simp only [inR_f] at hb; omega)
    | skip
/-- the line from (0, y) to (1000, z) -/
def lineI (y z x : Int) : Int := if x ≤ 0 then y else if 1000 ≤ x then z else y + rdZ ((z - y) * x) 1000
theorem lineI_b {y z x : Int} : min y z ≤ lineI y z x ∧ lineI y z x ≤ max y z := by
  unfold lineI
  split
  · omega
  · split
    · omega
    · by_cases e : y ≤ z
      · have h1 := Int.mul_nonneg (a := z - y) (b := x) (by omega) (by omega)
        have h2 := Int.mul_le_mul_of_nonneg_left (show x ≤ 1000 by omega) (show 0 ≤ z - y by omega)
        have h3 := rdZ_lo (a := 0) (x := (z - y) * x) (y := 1000) (by omega) (by omega)
        have h4 := rdZ_hi (b := z - y) (x := (z - y) * x) (y := 1000) (by omega) h2
        omega
      · have h1 := Int.mul_nonneg (a := y - z) (b := x) (by omega) (by omega)
        have h2 := Int.mul_le_mul_of_nonneg_left (show x ≤ 1000 by omega) (show 0 ≤ y - z by omega)
        rw [show z - y = -(y - z) by omega, Int.neg_mul]
        have h3 := rdZ_hi (b := 0) (x := -((y - z) * x)) (y := 1000) (by omega) (by omega)
        have h4 := rdZ_lo (a := -(y - z)) (x := -((y - z) * x)) (y := 1000) (by omega) (by rw [Int.neg_mul]; omega)
        omega
--@fn impl.blend
theorem lineT (y z x : Int) (hy : -5000 ≤ y ∧ y ≤ 5000) (hz : -5000 ≤ z ∧ z ≤ 5000) (hx : 0 ≤ x ∧ x ≤ 1000) : FnSem Tryd.prog 43 [In 0, In y, In 1000, In z, In x] [] (Is [In (lineI y z x)] []) := by
  have hm : -10000000 ≤ (z - y) * x ∧ (z - y) * x ≤ 10000000 := by
    by_cases e : y ≤ z
    · have := mulB' (a := z - y) (b := x) (A := 10000) (B := 1000) (by omega) (by omega) (by omega) (by omega); omega
    · have := mulB' (a := y - z) (b := x) (A := 10000) (B := 1000) (by omega) (by omega) (by omega) (by omega)
      rw [show z - y = -(y - z) by omega, Int.neg_mul]; omega
  have hl := lineI_b (y := y) (z := z) (x := x)
  have hm' : -10000000 ≤ (z - y) * (x - 0) ∧ (z - y) * (x - 0) ≤ 10000000 := by rw [Int.sub_zero]; exact hm
  have hr : ¬x ≤ 0 → ¬1000 ≤ x → y + rdZ ((z - y) * (x - 0)) (1000 - 0) = lineI y z x := fun h1 h2 => by unfold lineI; rw [if_neg h1, if_neg h2, Int.sub_zero]; rfl
  refine FnSem.walk (zs := zeroPV Tryd.prog) (by kernel_rfl) Tryd.func43 rfl Tryd.results43 (by kernel_rfl) (by kernel_rfl) (by kernel_rfl) fun hw hh => ?_
  obtain ⟨w0, w1, w2, w3, w4, _⟩ := hw
  first | replace w0 := wf_I w0 | skip
  first | replace w1 := wf_I w1 | skip
  first | replace w2 := wf_I w2 | skip
  first | replace w3 := wf_I w3 | skip
  first | replace w4 := wf_I w4 | skip
  repeat' first
    | refine And.intro rfl ?_
    | refine GdF.mk (fun h => h) ?_
    | refine And.intro (Nat.succ_ne_zero _) ?_
    | refine And.intro (Nat.le_of_ble_eq_true rfl) ?_
    | refine SeqF.run ?_
    | refine ArgF.is (divRoundZ ((z - y) * (x - 0)) (1000 - 0) (by omega) (by omega) (by omega)) ?_
    | refine ArgQ.is (fun hG => divRoundZ ((z - y) * (x - 0)) (1000 - 0) (by omega) (by omega) (by omega)) rfl rfl ?_
    | refine EqI.mk _ (fun _ => by have q := hr (by omega) (by omega); exact wrapI (by omega) (by omega)) ?_
    | refine GhF.go ?_
    | refine GdS.keep ?_
    | refine BndF.mk (fun _ => by omega) ?_
    | refine BndF.mk (fun _ => by simp only [List.length_map, List.length_cons, List.length_nil, List.length_append, List.length_set, List.length_replicate, iotaI_len]; omega) ?_
    | refine BndF.mk (fun hG => by simp only [forall_const, eq_self, not_true_eq_false, not_false_eq_true, or_false, false_or, or_self, or_true, true_or, and_true, true_and, and_false, false_and, decide_true, decide_false, Bool.not_true, Bool.not_false, decide_eq_true_eq, decide_eq_false_iff_not, ite_and_p, ite_or_p, Bool.decide_eq_true, Bool.and_eq_true, Bool.or_eq_true, Bool.not_eq_true', Bool.not_eq_false', Bool.and_eq_false_imp, Bool.or_eq_false_iff, bne_iff_ne, beq_iff_eq, bne_eq_false_iff_eq, beq_eq_false_iff_ne, gt_iff_lt, ge_iff_le, Int.not_lt, Int.not_le, ne_eq, Bool.true_eq_false, Bool.false_eq_true, reduceCtorEq, eta_Air, eta_Heading, bytes_nil] at hG; (try simp only [List.length_map]); omega) ?_
    | refine EqI.mk _ (fun _ => wrapI (by omega) (by omega)) ?_
    | refine EqI.mk _ (fun _ => rfl) ?_
    | refine EqL.mk [] rfl ?_
    | refine EqL.mk [_] rfl ?_
    | refine EqL.mk _ rfl ?_
    | refine ArgF.is (c_impl_divRound _ _ (by first | assumption | omega) (by first | assumption | omega) (by first | assumption | omega) (by first | assumption | omega)) ?_
    | refine ArgQ.is (fun hG => c_impl_divRound _ _ (by first | assumption | omega) (by first | assumption | omega) (by first | assumption | omega) (by first | assumption | omega)) rfl rfl ?_
    | refine ArgQ.is (fun hG => c_impl_divRound _ _ (by simp only [forall_const, eq_self, not_true_eq_false, not_false_eq_true, or_false, false_or, or_self, or_true, true_or, and_true, true_and, and_false, false_and, decide_true, decide_false, Bool.not_true, Bool.not_false, decide_eq_true_eq, decide_eq_false_iff_not, ite_and_p, ite_or_p, Bool.decide_eq_true, Bool.and_eq_true, Bool.or_eq_true, Bool.not_eq_true', Bool.not_eq_false', Bool.and_eq_false_imp, Bool.or_eq_false_iff, bne_iff_ne, beq_iff_eq, bne_eq_false_iff_eq, beq_eq_false_iff_ne, gt_iff_lt, ge_iff_le, Int.not_lt, Int.not_le, ne_eq, Bool.true_eq_false, Bool.false_eq_true, reduceCtorEq, eta_Air, eta_Heading, bytes_nil] at hG; omega) (by simp only [forall_const, eq_self, not_true_eq_false, not_false_eq_true, or_false, false_or, or_self, or_true, true_or, and_true, true_and, and_false, false_and, decide_true, decide_false, Bool.not_true, Bool.not_false, decide_eq_true_eq, decide_eq_false_iff_not, ite_and_p, ite_or_p, Bool.decide_eq_true, Bool.and_eq_true, Bool.or_eq_true, Bool.not_eq_true', Bool.not_eq_false', Bool.and_eq_false_imp, Bool.or_eq_false_iff, bne_iff_ne, beq_iff_eq, bne_eq_false_iff_eq, beq_eq_false_iff_ne, gt_iff_lt, ge_iff_le, Int.not_lt, Int.not_le, ne_eq, Bool.true_eq_false, Bool.false_eq_true, reduceCtorEq, eta_Air, eta_Heading, bytes_nil] at hG; omega) (by simp only [forall_const, eq_self, not_true_eq_false, not_false_eq_true, or_false, false_or, or_self, or_true, true_or, and_true, true_and, and_false, false_and, decide_true, decide_false, Bool.not_true, Bool.not_false, decide_eq_true_eq, decide_eq_false_iff_not, ite_and_p, ite_or_p, Bool.decide_eq_true, Bool.and_eq_true, Bool.or_eq_true, Bool.not_eq_true', Bool.not_eq_false', Bool.and_eq_false_imp, Bool.or_eq_false_iff, bne_iff_ne, beq_iff_eq, bne_eq_false_iff_eq, beq_eq_false_iff_ne, gt_iff_lt, ge_iff_le, Int.not_lt, Int.not_le, ne_eq, Bool.true_eq_false, Bool.false_eq_true, reduceCtorEq, eta_Air, eta_Heading, bytes_nil] at hG; omega) (by simp only [forall_const, eq_self, not_true_eq_false, not_false_eq_true, or_false, false_or, or_self, or_true, true_or, and_true, true_and, and_false, false_and, decide_true, decide_false, Bool.not_true, Bool.not_false, decide_eq_true_eq, decide_eq_false_iff_not, ite_and_p, ite_or_p, Bool.decide_eq_true, Bool.and_eq_true, Bool.or_eq_true, Bool.not_eq_true', Bool.not_eq_false', Bool.and_eq_false_imp, Bool.or_eq_false_iff, bne_iff_ne, beq_iff_eq, bne_eq_false_iff_eq, beq_eq_false_iff_ne, gt_iff_lt, ge_iff_le, Int.not_lt, Int.not_le, ne_eq, Bool.true_eq_false, Bool.false_eq_true, reduceCtorEq, eta_Air, eta_Heading, bytes_nil] at hG; omega)) rfl rfl ?_
    | refine CallF.mk (CallW.is [] true rfl ?_)
    | refine CallG.mk ?_
    | (refine CondF.mk (fun hb => ?_) (fun hb => ?_) <;> try simp only [forall_const, eq_self, not_true_eq_false, not_false_eq_true, or_false, false_or, or_self, or_true, true_or, and_true, true_and, and_false, false_and, decide_true, decide_false, Bool.not_true, Bool.not_false, decide_eq_true_eq, decide_eq_false_iff_not, ite_and_p, ite_or_p, Bool.decide_eq_true, Bool.and_eq_true, Bool.or_eq_true, Bool.not_eq_true', Bool.not_eq_false', Bool.and_eq_false_imp, Bool.or_eq_false_iff, bne_iff_ne, beq_iff_eq, bne_eq_false_iff_eq, beq_eq_false_iff_ne, gt_iff_lt, ge_iff_le, Int.not_lt, Int.not_le, ne_eq, Bool.true_eq_false, Bool.false_eq_true, reduceCtorEq, eta_Air, eta_Heading] at hb)
    | refine RetF.auto (And.intro rfl ?_)
    | exact Is.mk rfl rfl
    | refine Is.mk ?_ rfl
    | refine Is.mk rfl ?_
    | refine Is.mk ?_ ?_
  all_goals try dsimp only
  all_goals first
    | (unfold lineI; rw [if_pos (by omega)])
    | (unfold lineI; rw [if_neg (by omega), if_pos (by omega)])
    | (unfold lineI; rw [if_neg (by omega), if_neg (by omega), Int.sub_zero]; rfl)
    | skip
theorem pr4 {a b c d j : Int} (h0 : 0 ≤ j) (h1 : j < 4) : (([.c (.int .i64 a), .c (.int .i64 b), .c (.int .i64 c), .c (.int .i64 d)] : List PV).drop (j.toNat * 1)).take 1 = [.c (.int .i64 (if j = 0 then a else if j = 1 then b else if j = 2 then c else d))] := by
  have : j = 0 ∨ j = 1 ∨ j = 2 ∨ j = 3 := by omega
  rcases this with e | e | e | e <;> subst e <;> rfl
theorem lin4 {y z : Int} (hy : -5000 ≤ y ∧ y ≤ 5000) (hz : -5000 ≤ z ∧ z ≤ 5000) (j : Int) : -1000000 ≤ (if j = 0 then 0 else if j = 1 then y else if j = 2 then 1000 else z) ∧ (if j = 0 then 0 else if j = 1 then y else if j = 2 then 1000 else z) ≤ 1000000 := by
  repeat' split
  all_goals omega
--@fn impl.within
theorem wiB (x a b : Int) (h : a ≤ x ∧ x ≤ b) : FnSem Tryd.prog 41 [In x, In a, In b] [] (Is [Bo true] []) := by
  have := c_impl_within x a b
  rwa [inR_iff.2 h] at this
--@fn impl.Blend
theorem blendL (y z x : Int) (hy : -5000 ≤ y ∧ y ≤ 5000) (hz : -5000 ≤ z ∧ z ≤ 5000) (hx : 0 ≤ x ∧ x ≤ 1000) : FnSem Tryd.prog 12 [In 0, In y, In 1000, In z, In x] [] (Is [In (lineI y z x)] []) := by
  refine FnSem.walk (zs := zeroPV Tryd.prog) (by kernel_rfl) Tryd.func12 rfl Tryd.results12 (by kernel_rfl) (by kernel_rfl) (by kernel_rfl) fun hw hh => ?_
  obtain ⟨w0, w1, w2, w3, w4, _⟩ := hw
  first | replace w0 := wf_I w0 | skip
  first | replace w1 := wf_I w1 | skip
  first | replace w2 := wf_I w2 | skip
  first | replace w3 := wf_I w3 | skip
  first | replace w4 := wf_I w4 | skip
  repeat' first
    | refine And.intro rfl ?_
    | refine GdF.mk (fun h => h) ?_
    | refine And.intro (Nat.succ_ne_zero _) ?_
    | refine And.intro (Nat.le_of_ble_eq_true rfl) ?_
    | refine SeqF.run ?_
    | refine ArgF.is (lineT y z x hy hz hx) ?_
    | refine ArgQ.is (fun hG => lineT y z x hy hz hx) rfl rfl ?_
    | refine EqP.mk _ (pr4 j0 (by omega)) ?_
    | refine ArgF.is (wiB (if j = 0 then 0 else if j = 1 then y else if j = 2 then 1000 else z) (-1000000) 1000000 (lin4 hy hz j)) ?_
    | refine ArgQ.is (fun hG => wiB (if j = 0 then 0 else if j = 1 then y else if j = 2 then 1000 else z) (-1000000) 1000000 (lin4 hy hz j)) rfl rfl ?_
    | refine LoopF.at 2 rfl (LoopF.fix [0, 1, 2, 3, 4, 17] (Int) (fun j => 0 ≤ j ∧ j ≤ 4) (fun j => [(18, In j)]) (fun j => []) (fun j => ((4 - j).toNat)) (0) ?_)
    | (refine LoopB.of (T := Int) ?_ ?_; rotate_left; rintro j ⟨j0, j1⟩; rotate_left)
    | refine GhF.go ?_
    | refine BndF.mk (fun _ => by omega) ?_
    | refine BndF.mk (fun _ => by simp only [List.length_map, List.length_cons, List.length_nil, List.length_append, List.length_set, List.length_replicate, iotaI_len]; omega) ?_
    | refine EqI.mk _ (fun _ => wrapI (by omega) (by omega)) ?_
    | refine EqI.mk _ (fun _ => rfl) ?_
    | refine EqL.mk [] rfl ?_
    | refine EqL.mk [_] rfl ?_
    | refine EqL.mk _ rfl ?_
    | refine ArgF.is (c_impl_within ..) ?_
    | refine ArgQ.is (fun hG => c_impl_within ..) rfl rfl ?_
    | refine ArgF.is (c_impl_blend _ _ _ _ _ (by first | assumption | omega) (by first | assumption | omega)) ?_
    | refine ArgQ.is (fun hG => c_impl_blend _ _ _ _ _ (by first | assumption | omega) (by first | assumption | omega)) rfl rfl ?_
    | refine CallF.mk (CallW.is [] true rfl ?_)
    | refine CallG.mk ?_
    | (refine CondF.mk (fun hb => ?_) (fun hb => ?_) <;> try simp only [forall_const, eq_self, not_true_eq_false, not_false_eq_true, or_false, false_or, or_self, or_true, true_or, and_true, true_and, and_false, false_and, decide_true, decide_false, Bool.not_true, Bool.not_false, decide_eq_true_eq, decide_eq_false_iff_not, ite_and_p, ite_or_p, Bool.decide_eq_true, Bool.and_eq_true, Bool.or_eq_true, Bool.not_eq_true', Bool.not_eq_false', Bool.and_eq_false_imp, Bool.or_eq_false_iff, bne_iff_ne, beq_iff_eq, bne_eq_false_iff_eq, beq_eq_false_iff_ne, gt_iff_lt, ge_iff_le, Int.not_lt, Int.not_le, ne_eq, Bool.true_eq_false, Bool.false_eq_true, reduceCtorEq, eta_Air, eta_Heading] at hb)
    | apply BackF.auto
    | refine BackB.mk ?_ ?_
    | refine RetF.auto (And.intro rfl ?_)
    | exact Is.mk rfl rfl
    | refine Is.mk ?_ rfl
    | refine Is.mk rfl ?_
    | refine Is.mk ?_ ?_
  all_goals try dsimp only
  all_goals omega
theorem lineI_0 {y z : Int} : lineI y z 0 = y := by unfold lineI; rw [if_pos (by omega)]
theorem lineI_1 {y z : Int} : lineI y z 1000 = z := by unfold lineI; rw [if_neg (by omega), if_pos (by omega)]
theorem bas_1 {a : Int} (h : -1000000000000 ≤ a ∧ a ≤ 1000000000000) : IntKind.i64.wrap (rootI a * rootI a) = rootI a * rootI a ∧ IntKind.i64.wrap ((rootI a + 1) * (rootI a + 1)) = (rootI a + 1) * (rootI a + 1) := by
  have hr := rootI_f h
  by_cases e : a < 0
  · rw [hr.1 e]; exact ⟨wrapI (by omega) (by omega), wrapI (by omega) (by omega)⟩
  · have h1 := hr.2 (by omega)
    have h2 := mulB' (a := rootI a) (b := rootI a) (A := 1000000) (B := 1000000) h1.1 h1.2.1 h1.1 h1.2.1
    have h3 := mulB' (a := rootI a + 1) (b := rootI a + 1) (A := 1000001) (B := 1000001) (by omega) (by omega) (by omega) (by omega)
    exact ⟨wrapI (by omega) (by omega), wrapI (by omega) (by omega)⟩
theorem bas_2 {a b : Int} (h : -100000 ≤ a ∧ a ≤ 4000000000) (hb : 1 ≤ b ∧ b ≤ 5000) : IntKind.i64.wrap (2 * absI (a - rdZ a b * b)) = 2 * absI (a - rdZ a b * b) ∧ IntKind.i64.wrap (0 - rdZ a b) = 0 - rdZ a b ∧ 2 * absI (a - rdZ a b * b) ≤ b ∧ rdZ (0 - a) b = 0 - rdZ a b := by
  have h1 := rdZ_near (x := a) (y := b) (by omega)
  have h2 := rdZ_lo (a := -100000) (x := a) (y := b) (by omega) (by omega)
  have h3 := rdZ_hi (b := 4000000000) (x := a) (y := b) (by omega) (by omega)
  have h4 := rdZ_neg (x := a) (y := b) (by omega)
  rw [show -a = 0 - a by omega] at h4
  have h5 : 2 * absI (a - rdZ a b * b) ≤ b ∧ 0 ≤ absI (a - rdZ a b * b) := by unfold absI; omega
  exact ⟨wrapI (by omega) (by omega), wrapI (by omega) (by omega), h5.1, by omega⟩
theorem lits {a b x y z : Int} (h : -100000 ≤ a ∧ a ≤ 4000000000 ∧ 1 ≤ b ∧ b ≤ 5000) (hx : 0 ≤ x ∧ x ≤ 999) (hy : -2500 ≤ y ∧ y ≤ 2499) (hz : -2500 ≤ z ∧ z ≤ 2499) : okL [a, b, x, y, z] := by
  refine ⟨Nat.succ_pos _, Nat.le_of_ble_eq_true rfl, fun v hv => ?_⟩
  simp only [List.mem_cons, List.not_mem_nil, or_false] at hv
  rcases hv with rfl | rfl | rfl | rfl | rfl <;> omega
--@fn laws.r8Abs
theorem rab2 (n : Int) (h : -1000000000000000 ≤ n ∧ n ≤ 1000000000000000) : FnSem Tryd.prog 10 [In n] [] (Is [In (absI n)] []) := by
  refine FnSem.walk (zs := zeroPV Tryd.prog) (by kernel_rfl) Tryd.func10 rfl Tryd.results10 (by kernel_rfl) (by kernel_rfl) (by kernel_rfl) fun hw hh => ?_
  obtain ⟨w0, _⟩ := hw
  first | replace w0 := wf_I w0 | skip
  repeat' first
    | refine And.intro rfl ?_
    | refine GdF.mk (fun h => h) ?_
    | refine And.intro (Nat.succ_ne_zero _) ?_
    | refine And.intro (Nat.le_of_ble_eq_true rfl) ?_
    | refine SeqF.run ?_
    | refine GhF.go ?_
    | refine EqI.mk _ (fun _ => wrapI (by omega) (by omega)) ?_
    | refine EqI.mk _ (fun _ => rfl) ?_
    | (refine CondF.mk (fun hb => ?_) (fun hb => ?_) <;> try simp only [forall_const, eq_self, not_true_eq_false, not_false_eq_true, or_false, false_or, or_self, or_true, true_or, and_true, true_and, and_false, false_and, decide_true, decide_false, Bool.not_true, Bool.not_false, decide_eq_true_eq, decide_eq_false_iff_not, ite_and_p, ite_or_p, Bool.decide_eq_true, Bool.and_eq_true, Bool.or_eq_true, Bool.not_eq_true', Bool.not_eq_false', Bool.and_eq_false_imp, Bool.or_eq_false_iff, bne_iff_ne, beq_iff_eq, bne_eq_false_iff_eq, beq_eq_false_iff_ne, gt_iff_lt, ge_iff_le, Int.not_lt, Int.not_le, ne_eq, Bool.true_eq_false, Bool.false_eq_true, reduceCtorEq, eta_Air, eta_Heading] at hb)
    | refine RetF.auto (And.intro rfl ?_)
    | exact Is.mk rfl rfl
    | refine Is.mk ?_ rfl
    | refine Is.mk rfl ?_
    | refine Is.mk ?_ ?_
  all_goals try dsimp only
  all_goals try simp only [Bo, I, OB.row.injEq, AV.osl.injEq, eI_same,  List.cons.injEq, AV.p.injEq, PV.c.injEq, Value.int.injEq, Value.bool.injEq, and_true, true_and, ite_and_p, ite_or_p, Bool.decide_eq_true, eta_Air, eta_Heading, absI]
--@fn laws.r8Same
theorem sam2 (xs : List Int) : FnSem Tryd.prog 17 [Lx (LI xs), Lx (LI xs)] [] (Is [Bo true] []) := by
  refine FnSem.walk (zs := zeroPV Tryd.prog) (by kernel_rfl) Tryd.func17 rfl Tryd.results17 (by kernel_rfl) (by kernel_rfl) (by kernel_rfl) fun hw hh => ?_
  obtain ⟨w0, w1, _⟩ := hw
  first | replace w0 := wf_LI w0 | skip
  first | replace w1 := wf_LI w1 | skip
  repeat' first
    | refine And.intro rfl ?_
    | refine GdF.mk (fun h => h) ?_
    | refine And.intro (Nat.succ_ne_zero _) ?_
    | refine And.intro (Nat.le_of_ble_eq_true rfl) ?_
    | refine SeqF.run ?_
    | refine LoopF.at 4 rfl (LoopF.fix [0, 1] (Int) (fun i => 0 ≤ i ∧ i ≤ xs.length) (fun i => [(5, In i)]) (fun i => []) (fun i => ((xs.length - i).toNat)) (0) ?_)
    | (refine LoopB.of (T := Int) ?_ ?_; rotate_left; rintro i ⟨h0, h1⟩; rotate_left)
    | refine GhF.go ?_
    | refine DrawG.old (DrawF.lex (by decide +kernel) ?_)
    | refine EqP.mk _ (gm eI 0 rfl) ?_
    | refine BndF.mk (fun _ => by omega) ?_
    | refine BndF.mk (fun _ => by simp only [List.length_map, List.length_cons, List.length_nil, List.length_append, List.length_set, List.length_replicate, iotaI_len]; omega) ?_
    | refine EqI.mk _ (fun _ => wrapI (by omega) (by omega)) ?_
    | refine EqI.mk _ (fun _ => rfl) ?_
    | refine EqN.mk _ (ln eI) ?_
    | refine EqN.mk _ (Nat.zero_add _) ?_
    | refine EqN.mk _ (Int.toNat_natCast _) ?_
    | refine EqN.mk _ rfl ?_
    | (refine CondF.mk (fun hb => ?_) (fun hb => ?_) <;> try simp only [forall_const, eq_self, not_true_eq_false, not_false_eq_true, or_false, false_or, or_self, or_true, true_or, and_true, true_and, and_false, false_and, decide_true, decide_false, Bool.not_true, Bool.not_false, decide_eq_true_eq, decide_eq_false_iff_not, ite_and_p, ite_or_p, Bool.decide_eq_true, Bool.and_eq_true, Bool.or_eq_true, Bool.not_eq_true', Bool.not_eq_false', Bool.and_eq_false_imp, Bool.or_eq_false_iff, bne_iff_ne, beq_iff_eq, bne_eq_false_iff_eq, beq_eq_false_iff_ne, gt_iff_lt, ge_iff_le, Int.not_lt, Int.not_le, ne_eq, Bool.true_eq_false, Bool.false_eq_true, reduceCtorEq, eta_Air, eta_Heading] at hb)
    | apply BackF.auto
    | refine BackB.mk ?_ ?_
    | refine RetF.auto (And.intro rfl ?_)
    | exact Is.mk rfl rfl
    | refine Is.mk ?_ rfl
    | refine Is.mk rfl ?_
    | refine Is.mk ?_ ?_
  all_goals try dsimp only
  all_goals first
    | omega
    | exact ⟨by omega, by omega⟩
    | (exfalso; exact hb rfl)
    | skip
theorem c_laws_FnBasics (c1 c2 : List Int) : FnSem Tryd.prog 3 [Lx (LY c1), Lx (LY c2)] [] (Is [Bo true] []) := by
  have qx := r8W_b c2 0 (n := 1000) (by omega)
  have qy := r8W_b c2 2 (n := 5000) (by omega)
  have qz := r8W_b c2 4 (n := 5000) (by omega)
  refine FnSem.walk (zs := zeroPV Tryd.prog) (by kernel_rfl) Tryd.func3 rfl Tryd.results3 (by kernel_rfl) (by kernel_rfl) (by kernel_rfl) fun hw hh => ?_
  obtain ⟨w0, w1, _⟩ := hw
  first | replace w0 := wf_LY w0 | skip
  first | replace w1 := wf_LY w1 | skip
  repeat' first
    | refine And.intro rfl ?_
    | refine GdF.mk (fun h => h) ?_
    | refine And.intro (Nat.succ_ne_zero _) ?_
    | refine And.intro (Nat.le_of_ble_eq_true rfl) ?_
    | refine SeqF.run ?_
    | (refine ArgF.ret (c_spec_R8Numbers c1) ?_; rintro ⟨a, b⟩ hab; dsimp only at hab ⊢; have hr := rootI_f (n := a) (by omega); have hq := rdZ_near (x := a) (y := b) (by omega); have hL := lits hab (x := r8W c2 0 1000) (y := r8W c2 2 5000 - 2500) (z := r8W c2 4 5000 - 2500) (by omega) (by omega) (by omega))
    | refine ArgF.is (c_impl_DivRound a b (by omega) (by omega)) ?_
    | refine ArgQ.is (fun hG => c_impl_DivRound a b (by omega) (by omega)) rfl rfl ?_
    | refine ArgF.is (c_impl_DivRound (0 - a) b (by omega) (by omega)) ?_
    | refine ArgQ.is (fun hG => c_impl_DivRound (0 - a) b (by omega) (by omega)) rfl rfl ?_
    | refine ArgF.is (rab2 (a - rdZ a b * b) (by omega)) ?_
    | refine ArgQ.is (fun hG => rab2 (a - rdZ a b * b) (by omega)) rfl rfl ?_
    | refine ArgF.is (blendL (r8W c2 2 5000 - 2500) (r8W c2 4 5000 - 2500) (r8W c2 0 1000) (by omega) (by omega) (by omega)) ?_
    | refine ArgQ.is (fun hG => blendL (r8W c2 2 5000 - 2500) (r8W c2 4 5000 - 2500) (r8W c2 0 1000) (by omega) (by omega) (by omega)) rfl rfl ?_
    | refine ArgF.is (blendL (r8W c2 2 5000 - 2500) (r8W c2 4 5000 - 2500) 0 (by omega) (by omega) (by omega)) ?_
    | refine ArgQ.is (fun hG => blendL (r8W c2 2 5000 - 2500) (r8W c2 4 5000 - 2500) 0 (by omega) (by omega) (by omega)) rfl rfl ?_
    | refine ArgF.is (blendL (r8W c2 2 5000 - 2500) (r8W c2 4 5000 - 2500) 1000 (by omega) (by omega) (by omega)) ?_
    | refine ArgQ.is (fun hG => blendL (r8W c2 2 5000 - 2500) (r8W c2 4 5000 - 2500) 1000 (by omega) (by omega) (by omega)) rfl rfl ?_
    | refine ArgF.is (ltxT [a, b, r8W c2 0 1000, r8W c2 2 5000 - 2500, r8W c2 4 5000 - 2500] hL) ?_
    | refine ArgQ.is (fun hG => ltxT [a, b, r8W c2 0 1000, r8W c2 2 5000 - 2500, r8W c2 4 5000 - 2500] hL) rfl rfl ?_
    | refine ArgF.is (rlsT [a, b, r8W c2 0 1000, r8W c2 2 5000 - 2500, r8W c2 4 5000 - 2500] hL) ?_
    | refine ArgQ.is (fun hG => rlsT [a, b, r8W c2 0 1000, r8W c2 2 5000 - 2500, r8W c2 4 5000 - 2500] hL) rfl rfl ?_
    | refine ArgF.is (sam2 [a, b, r8W c2 0 1000, r8W c2 2 5000 - 2500, r8W c2 4 5000 - 2500]) ?_
    | refine ArgQ.is (fun hG => sam2 [a, b, r8W c2 0 1000, r8W c2 2 5000 - 2500, r8W c2 4 5000 - 2500]) rfl rfl ?_
    | refine ArgF.is (rdcT a (by omega)) ?_
    | refine ArgQ.is (fun hG => rdcT a (by omega)) rfl rfl ?_
    | refine ArgF.is (decT a (by omega)) ?_
    | refine ArgQ.is (fun hG => decT a (by omega)) rfl rfl ?_
    | refine GhF.go ?_
    | refine GdS.keep ?_
    | refine MkF.row ?_
    | refine BndF.mk (fun _ => by omega) ?_
    | refine BndF.mk (fun _ => by simp only [List.length_map, List.length_cons, List.length_nil, List.length_append, List.length_set, List.length_replicate, iotaI_len]; omega) ?_
    | refine BndF.mk (fun hG => by simp only [forall_const, eq_self, not_true_eq_false, not_false_eq_true, or_false, false_or, or_self, or_true, true_or, and_true, true_and, and_false, false_and, decide_true, decide_false, Bool.not_true, Bool.not_false, decide_eq_true_eq, decide_eq_false_iff_not, ite_and_p, ite_or_p, Bool.decide_eq_true, Bool.and_eq_true, Bool.or_eq_true, Bool.not_eq_true', Bool.not_eq_false', Bool.and_eq_false_imp, Bool.or_eq_false_iff, bne_iff_ne, beq_iff_eq, bne_eq_false_iff_eq, beq_eq_false_iff_ne, gt_iff_lt, ge_iff_le, Int.not_lt, Int.not_le, ne_eq, Bool.true_eq_false, Bool.false_eq_true, reduceCtorEq, eta_Air, eta_Heading, bytes_nil] at hG; (try simp only [List.length_map]); omega) ?_
    | refine EqI.mk _ (fun _ => wrapI (by omega) (by omega)) ?_
    | refine EqI.mk _ (fun _ => rfl) ?_
    | refine EqL.mk _ (tk eY (by first | rfl | assumption | omega | (simp only [List.length_map, List.length_cons, List.length_nil, List.length_append, List.length_set, List.length_replicate, iotaI_len]; done) | (simp only [List.length_map, List.length_cons, List.length_nil, List.length_append, List.length_set, List.length_replicate, iotaI_len]; omega))) ?_
    | refine EqL.mk _ (tk eI (by first | rfl | assumption | omega | (simp only [List.length_map, List.length_cons, List.length_nil, List.length_append, List.length_set, List.length_replicate, iotaI_len]; done) | (simp only [List.length_map, List.length_cons, List.length_nil, List.length_append, List.length_set, List.length_replicate, iotaI_len]; omega))) ?_
    | refine EqL.mk (List.map eI [_, _, _, _, _]) rfl ?_
    | refine EqL.mk [] rfl ?_
    | refine EqL.mk [_] rfl ?_
    | refine EqL.mk _ rfl ?_
    | refine ArgF.is (c_laws_r8Long ..) ?_
    | refine ArgQ.is (fun hG => c_laws_r8Long ..) rfl rfl ?_
    | refine ArgF.is (c_spec_R8Numbers ..) ?_
    | refine ArgQ.is (fun hG => c_spec_R8Numbers ..) rfl rfl ?_
    | refine ArgF.is (c_impl_RootOf ..) ?_
    | refine ArgQ.is (fun hG => c_impl_RootOf ..) rfl rfl ?_
    | refine ArgF.is (c_impl_DivRound _ _ (by first | assumption | omega) (by first | assumption | omega)) ?_
    | refine ArgQ.is (fun hG => c_impl_DivRound _ _ (by first | assumption | omega) (by first | assumption | omega)) rfl rfl ?_
    | refine ArgQ.is (fun hG => c_impl_DivRound _ _ (by simp only [forall_const, eq_self, not_true_eq_false, not_false_eq_true, or_false, false_or, or_self, or_true, true_or, and_true, true_and, and_false, false_and, decide_true, decide_false, Bool.not_true, Bool.not_false, decide_eq_true_eq, decide_eq_false_iff_not, ite_and_p, ite_or_p, Bool.decide_eq_true, Bool.and_eq_true, Bool.or_eq_true, Bool.not_eq_true', Bool.not_eq_false', Bool.and_eq_false_imp, Bool.or_eq_false_iff, bne_iff_ne, beq_iff_eq, bne_eq_false_iff_eq, beq_eq_false_iff_ne, gt_iff_lt, ge_iff_le, Int.not_lt, Int.not_le, ne_eq, Bool.true_eq_false, Bool.false_eq_true, reduceCtorEq, eta_Air, eta_Heading, bytes_nil] at hG; omega) (by simp only [forall_const, eq_self, not_true_eq_false, not_false_eq_true, or_false, false_or, or_self, or_true, true_or, and_true, true_and, and_false, false_and, decide_true, decide_false, Bool.not_true, Bool.not_false, decide_eq_true_eq, decide_eq_false_iff_not, ite_and_p, ite_or_p, Bool.decide_eq_true, Bool.and_eq_true, Bool.or_eq_true, Bool.not_eq_true', Bool.not_eq_false', Bool.and_eq_false_imp, Bool.or_eq_false_iff, bne_iff_ne, beq_iff_eq, bne_eq_false_iff_eq, beq_eq_false_iff_ne, gt_iff_lt, ge_iff_le, Int.not_lt, Int.not_le, ne_eq, Bool.true_eq_false, Bool.false_eq_true, reduceCtorEq, eta_Air, eta_Heading, bytes_nil] at hG; omega)) rfl rfl ?_
    | refine ArgF.is (c_laws_r8Abs _ (by first | assumption | omega)) ?_
    | refine ArgQ.is (fun hG => c_laws_r8Abs _ (by first | assumption | omega)) rfl rfl ?_
    | refine ArgQ.is (fun hG => c_laws_r8Abs _ (by simp only [forall_const, eq_self, not_true_eq_false, not_false_eq_true, or_false, false_or, or_self, or_true, true_or, and_true, true_and, and_false, false_and, decide_true, decide_false, Bool.not_true, Bool.not_false, decide_eq_true_eq, decide_eq_false_iff_not, ite_and_p, ite_or_p, Bool.decide_eq_true, Bool.and_eq_true, Bool.or_eq_true, Bool.not_eq_true', Bool.not_eq_false', Bool.and_eq_false_imp, Bool.or_eq_false_iff, bne_iff_ne, beq_iff_eq, bne_eq_false_iff_eq, beq_eq_false_iff_ne, gt_iff_lt, ge_iff_le, Int.not_lt, Int.not_le, ne_eq, Bool.true_eq_false, Bool.false_eq_true, reduceCtorEq, eta_Air, eta_Heading, bytes_nil] at hG; omega)) rfl rfl ?_
    | refine ArgF.is (c_laws_r8Wide _ _ _ (by first | assumption | omega) (by first | assumption | omega)) ?_
    | refine ArgQ.is (fun hG => c_laws_r8Wide _ _ _ (by first | assumption | omega) (by first | assumption | omega)) rfl rfl ?_
    | refine ArgQ.is (fun hG => c_laws_r8Wide _ _ _ (by simp only [forall_const, eq_self, not_true_eq_false, not_false_eq_true, or_false, false_or, or_self, or_true, true_or, and_true, true_and, and_false, false_and, decide_true, decide_false, Bool.not_true, Bool.not_false, decide_eq_true_eq, decide_eq_false_iff_not, ite_and_p, ite_or_p, Bool.decide_eq_true, Bool.and_eq_true, Bool.or_eq_true, Bool.not_eq_true', Bool.not_eq_false', Bool.and_eq_false_imp, Bool.or_eq_false_iff, bne_iff_ne, beq_iff_eq, bne_eq_false_iff_eq, beq_eq_false_iff_ne, gt_iff_lt, ge_iff_le, Int.not_lt, Int.not_le, ne_eq, Bool.true_eq_false, Bool.false_eq_true, reduceCtorEq, eta_Air, eta_Heading, bytes_nil] at hG; omega) (by simp only [forall_const, eq_self, not_true_eq_false, not_false_eq_true, or_false, false_or, or_self, or_true, true_or, and_true, true_and, and_false, false_and, decide_true, decide_false, Bool.not_true, Bool.not_false, decide_eq_true_eq, decide_eq_false_iff_not, ite_and_p, ite_or_p, Bool.decide_eq_true, Bool.and_eq_true, Bool.or_eq_true, Bool.not_eq_true', Bool.not_eq_false', Bool.and_eq_false_imp, Bool.or_eq_false_iff, bne_iff_ne, beq_iff_eq, bne_eq_false_iff_eq, beq_eq_false_iff_ne, gt_iff_lt, ge_iff_le, Int.not_lt, Int.not_le, ne_eq, Bool.true_eq_false, Bool.false_eq_true, reduceCtorEq, eta_Air, eta_Heading, bytes_nil] at hG; omega)) rfl rfl ?_
    | refine ArgF.is (c_impl_Blend ..) ?_
    | refine ArgQ.is (fun hG => c_impl_Blend ..) rfl rfl ?_
    | refine ArgF.is (c_impl_ListText ..) ?_
    | refine ArgQ.is (fun hG => c_impl_ListText ..) rfl rfl ?_
    | refine ArgF.is (c_impl_ReadList ..) ?_
    | refine ArgQ.is (fun hG => c_impl_ReadList ..) rfl rfl ?_
    | refine ArgF.is (c_impl_Decimal _ (by first | assumption | omega)) ?_
    | refine ArgQ.is (fun hG => c_impl_Decimal _ (by first | assumption | omega)) rfl rfl ?_
    | refine ArgQ.is (fun hG => c_impl_Decimal _ (by simp only [forall_const, eq_self, not_true_eq_false, not_false_eq_true, or_false, false_or, or_self, or_true, true_or, and_true, true_and, and_false, false_and, decide_true, decide_false, Bool.not_true, Bool.not_false, decide_eq_true_eq, decide_eq_false_iff_not, ite_and_p, ite_or_p, Bool.decide_eq_true, Bool.and_eq_true, Bool.or_eq_true, Bool.not_eq_true', Bool.not_eq_false', Bool.and_eq_false_imp, Bool.or_eq_false_iff, bne_iff_ne, beq_iff_eq, bne_eq_false_iff_eq, beq_eq_false_iff_ne, gt_iff_lt, ge_iff_le, Int.not_lt, Int.not_le, ne_eq, Bool.true_eq_false, Bool.false_eq_true, reduceCtorEq, eta_Air, eta_Heading, bytes_nil] at hG; omega)) rfl rfl ?_
    | refine ArgF.is (c_impl_ReadDecimal ..) ?_
    | refine ArgQ.is (fun hG => c_impl_ReadDecimal ..) rfl rfl ?_
    | refine ArgF.is (c_laws_r8Same ..) ?_
    | refine ArgQ.is (fun hG => c_laws_r8Same ..) rfl rfl ?_
    | refine CallF.mk (CallW.is [] true rfl ?_)
    | refine CallG.mk ?_
    | (refine CondF.mk (fun hb => ?_) (fun hb => ?_) <;> try simp only [forall_const, eq_self, not_true_eq_false, not_false_eq_true, or_false, false_or, or_self, or_true, true_or, and_true, true_and, and_false, false_and, decide_true, decide_false, Bool.not_true, Bool.not_false, decide_eq_true_eq, decide_eq_false_iff_not, ite_and_p, ite_or_p, Bool.decide_eq_true, Bool.and_eq_true, Bool.or_eq_true, Bool.not_eq_true', Bool.not_eq_false', Bool.and_eq_false_imp, Bool.or_eq_false_iff, bne_iff_ne, beq_iff_eq, bne_eq_false_iff_eq, beq_eq_false_iff_ne, gt_iff_lt, ge_iff_le, Int.not_lt, Int.not_le, ne_eq, Bool.true_eq_false, Bool.false_eq_true, reduceCtorEq, eta_Air, eta_Heading] at hb)
    | refine RetF.auto (And.intro rfl ?_)
    | exact Is.mk rfl rfl
    | refine Is.mk ?_ rfl
    | refine Is.mk rfl ?_
    | refine Is.mk ?_ ?_
  all_goals try dsimp only
  all_goals first
    | (exfalso
       have e := bas_1 (a := a) (by omega)
       rw [e.1, e.2] at hb
       omega)
    | (exfalso
       have e := bas_2 (a := a) (b := b) (by omega) (by omega)
       rw [e.1, e.2.1] at hb
       omega)
    | (exfalso
       have e := lineI_b (y := r8W c2 2 5000 - 2500) (z := r8W c2 4 5000 - 2500) (x := r8W c2 0 1000)
       rw [lineI_0, lineI_1] at hb
       omega)
    | (simp only [beq_self_eq_true, if_true]; rfl)
    | skip
end Go.Proofs.YtmifcbekaniiiaaDoor
