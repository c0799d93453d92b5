/- Contracts of functions of the program, and what they compute. Conditions: those that each theorem states. -/
import Derived.Test.YtmifcbekaniiiaaGreatDoorProg
import Derived.Test.YtmifcbekaniiiaaGreatDoorR0
import Derived.Test.YtmifcbekaniiiaaGreatDoorR1
set_option linter.unusedVariables false
set_option linter.unusedSimpArgs false
namespace Go.Proofs.YtmifcbekaniiiaaGreatDoor
open Go.Av
attribute [local irreducible] Go.IntKind.wrap leastI rdZ rd
set_option maxRecDepth 20000
set_option maxHeartbeats 4000000

theorem sq_le {a b : Int} (h0 : 0 ≤ a) (h : a ≤ b) : a * a ≤ b * b := Int.mul_le_mul h h h0 (by omega)
/-- the square root, rounded down -/
def rootP (n r : Int) : Bool := decide (n < (r + 1) * (r + 1))
def rootI (n : Int) : Int := if n < 0 then 0 else leastI (rootP n) 0 3037000498
theorem rootP_mono {n a b : Int} (h0 : 0 ≤ a) (h : a ≤ b) (hp : rootP n a = true) : rootP n b = true := by
  have h1 : n < (a + 1) * (a + 1) := of_decide_eq_true hp
  have h2 := sq_le (a := a + 1) (b := b + 1) (by omega) (by omega)
  exact decide_eq_true (show n < (b + 1) * (b + 1) by omega)
theorem c_impl_RootOf_1 (r n : Int) (hr : 0 ≤ r ∧ r ≤ 3037000498) : FnSem Tryz.prog 199 [In r, .p .any (.ref [.c (.int .i64 n)])] [] (Is [Bo (rootP n r)] []) := by
  have h1 := sq_le (a := r + 1) (b := 3037000499) (by omega) (by omega)
  have h2 := sq_le (a := 0) (b := r + 1) (by omega) (by omega)
  refine FnSem.walk (zs := zeroPV Tryz.prog) (by kernel_rfl) Tryz.func199 rfl Tryz.results199 (by kernel_rfl) (by kernel_rfl) (by kernel_rfl) fun hw hh => ?_
  obtain ⟨w0, w1, _⟩ := hw
  first | replace w0 := wf_I w0 | skip
  first | replace w1 := wf_I w1 | replace w1 := wf_Y w1 | replace w1 := wf_S w1 | replace w1 := wf_LI w1 | replace w1 := wf_LY w1 | replace w1 := wf_LLI w1 | replace w1 := wf_Ls w1 | skip
  repeat' first
    | refine And.intro rfl ?_
    | refine GdF.mk (fun h => h) ?_
    | refine And.intro (Nat.succ_ne_zero _) ?_
    | refine And.intro (Nat.le_of_ble_eq_true rfl) ?_
    | refine SeqF.run ?_
    | refine GhF.go ?_
    | refine EqI.mk _ (fun _ => wrapI (by omega) (by omega)) ?_
    | refine EqI.mk _ (fun _ => rfl) ?_
    | (refine CondF.mk (fun hb => ?_) (fun hb => ?_) <;> try simp only [forall_const, eq_self, not_true_eq_false, not_false_eq_true, or_false, false_or, or_self, or_true, true_or, and_true, true_and, and_false, false_and, decide_true, decide_false, Bool.not_true, Bool.not_false, decide_eq_true_eq, decide_eq_false_iff_not, ite_and_p, ite_or_p, Bool.decide_eq_true, Bool.and_eq_true, Bool.or_eq_true, Bool.not_eq_true', Bool.not_eq_false', Bool.and_eq_false_imp, Bool.or_eq_false_iff, bne_iff_ne, beq_iff_eq, bne_eq_false_iff_eq, beq_eq_false_iff_ne, gt_iff_lt, ge_iff_le, Int.not_lt, Int.not_le, ne_eq, Bool.true_eq_false, Bool.false_eq_true, reduceCtorEq, eta_Airway, eta_Duct, eta_Fan, eta_Mine, eta_Survey] at hb)
    | refine RetF.auto (And.intro rfl ?_)
    | exact Is.mk rfl rfl
    | refine Is.mk ?_ rfl
    | refine Is.mk rfl ?_
    | refine Is.mk ?_ ?_
theorem c_impl_RootOf (n : Int) : FnSem Tryz.prog 161 [In n] [] (Is [In (rootI n)] []) := by
  refine FnSem.walk (zs := zeroPV Tryz.prog) (by kernel_rfl) Tryz.func161 rfl Tryz.results161 (by kernel_rfl) (by kernel_rfl) (by kernel_rfl) fun hw hh => ?_
  obtain ⟨w0, _⟩ := hw
  first | replace w0 := wf_I w0 | skip
  repeat' first
    | refine And.intro rfl ?_
    | refine GdF.mk (fun h => h) ?_
    | refine And.intro (Nat.succ_ne_zero _) ?_
    | refine And.intro (Nat.le_of_ble_eq_true rfl) ?_
    | refine SeqF.run ?_
    | refine ArgF.is (search1 _ _ _ (rootP n) (fun r h0 h1 => c_impl_RootOf_1 r n (by omega)) (by omega) (fun a b h0 h1 h2 h => rootP_mono h0 h1 h)) ?_
    | refine ArgQ.is (fun hG => search1 _ _ _ (rootP n) (fun r h0 h1 => c_impl_RootOf_1 r n (by omega)) (by omega) (fun a b h0 h1 h2 h => rootP_mono h0 h1 h)) rfl rfl ?_
    | refine GhF.go ?_
    | refine BndF.mk (fun _ => by omega) ?_
    | refine BndF.mk (fun _ => by simp only [List.length_map, List.length_cons, List.length_nil, List.length_append, List.length_set, List.length_replicate, iotaI_len]; omega) ?_
    | refine EqL.mk [] rfl ?_
    | refine EqL.mk [_] rfl ?_
    | refine EqL.mk _ rfl ?_
    | refine ArgF.is (c_sort_Search _ _ _ _ _ (by first | assumption | omega) (by first | assumption | omega) (by first | assumption | omega)) ?_
    | refine ArgQ.is (fun hG => c_sort_Search _ _ _ _ _ (by first | assumption | omega) (by first | assumption | omega) (by first | assumption | omega)) rfl rfl ?_
    | refine CallF.mk (CallW.is [] true rfl ?_)
    | refine CallG.mk ?_
    | (refine CondF.mk (fun hb => ?_) (fun hb => ?_) <;> try simp only [forall_const, eq_self, not_true_eq_false, not_false_eq_true, or_false, false_or, or_self, or_true, true_or, and_true, true_and, and_false, false_and, decide_true, decide_false, Bool.not_true, Bool.not_false, decide_eq_true_eq, decide_eq_false_iff_not, ite_and_p, ite_or_p, Bool.decide_eq_true, Bool.and_eq_true, Bool.or_eq_true, Bool.not_eq_true', Bool.not_eq_false', Bool.and_eq_false_imp, Bool.or_eq_false_iff, bne_iff_ne, beq_iff_eq, bne_eq_false_iff_eq, beq_eq_false_iff_ne, gt_iff_lt, ge_iff_le, Int.not_lt, Int.not_le, ne_eq, Bool.true_eq_false, Bool.false_eq_true, reduceCtorEq, eta_Airway, eta_Duct, eta_Fan, eta_Mine, eta_Survey] at hb)
    | refine RetF.auto (And.intro rfl ?_)
    | exact Is.mk rfl rfl
    | refine Is.mk ?_ rfl
    | refine Is.mk rfl ?_
    | refine Is.mk ?_ ?_
  all_goals try dsimp only
  all_goals try simp only [Bo, I, OB.row.injEq, AV.osl.injEq, eI_same,  List.cons.injEq, AV.p.injEq, PV.c.injEq, Value.int.injEq, Value.bool.injEq, and_true, true_and, ite_and_p, ite_or_p, Bool.decide_eq_true, eta_Airway, eta_Duct, eta_Fan, eta_Mine, eta_Survey, rootI]
  · rw [if_pos hb]
  · rw [if_neg (by omega)]; rfl
theorem rootI_of {n m : Int} (h0 : 0 ≤ m) (h1 : m ≤ 3037000499) (h2 : m = 0 ∨ m * m ≤ n) (h3 : m = 3037000499 ∨ n < (m + 1) * (m + 1)) : rootI n = m := by
  unfold rootI
  split
  · rename_i hn
    rcases h2 with h2 | h2
    · exact h2.symm
    · have := Int.mul_nonneg h0 h0; omega
  · rename_i hn
    have hlt : ∀ k, 0 ≤ k → k < m → rootP n k = false := fun k a b => by
      have := sq_le (a := k + 1) (b := m) (by omega) (by omega)
      exact decide_eq_false (by omega)
    by_cases e : m = 3037000499
    · rw [leastI_no fun k a b => hlt k a (by omega)]; omega
    · exact leastI_at h0 (by omega) (decide_eq_true (by omega)) hlt
theorem c_spec_l01Root (n : Int) : FnSem Tryz.prog 202 [In n] [] (Is [In (rootI n)] []) := by
  refine FnSem.walk (zs := zeroPV Tryz.prog) (by kernel_rfl) Tryz.func202 rfl Tryz.results202 (by kernel_rfl) (by kernel_rfl) (by kernel_rfl) fun hw hh => ?_
  obtain ⟨w0, _⟩ := hw
  first | replace w0 := wf_I w0 | skip
  repeat' first
    | refine And.intro rfl ?_
    | refine GdF.mk (fun h => h) ?_
    | refine And.intro (Nat.succ_ne_zero _) ?_
    | refine And.intro (Nat.le_of_ble_eq_true rfl) ?_
    | refine SeqF.run ?_
    | refine EqI.mk _ (fun _ => by have := sq_le (a := (lo + hi + 1) / 2) (b := 3037000499) (by omega) (by omega); have := sq_le (a := 0) (b := (lo + hi + 1) / 2) (by omega) (by omega); exact wrapI (by omega) (by omega)) ?_
    | refine LoopF.at 3 rfl (LoopF.fix [0] (Int × Int) (fun (lo, hi) => 0 ≤ lo ∧ lo ≤ hi ∧ hi ≤ 3037000499 ∧ (lo = 0 ∨ lo * lo ≤ n) ∧ (hi = 3037000499 ∨ n < (hi + 1) * (hi + 1))) (fun (lo, hi) => [(3, In lo), (4, In hi)]) (fun (lo, hi) => []) (fun (lo, hi) => ((hi - lo).toNat)) ((0, 3037000499)) ?_)
    | (refine LoopB.of (T := Int × Int) ?_ ?_; rotate_left; rintro ⟨lo, hi⟩ ⟨h0, h1, h2, h3, h4⟩; rotate_left)
    | refine GhF.go ?_
    | refine BndF.mk (fun _ => by omega) ?_
    | refine BndF.mk (fun _ => by simp only [List.length_map, List.length_cons, List.length_nil, List.length_append, List.length_set, List.length_replicate, iotaI_len]; omega) ?_
    | refine EqI.mk _ (fun _ => wrapI (by omega) (by omega)) ?_
    | refine EqI.mk _ (fun _ => wrapD (by omega) (by omega) (by omega)) ?_
    | refine EqI.mk _ (fun _ => rfl) ?_
    | (refine CondF.mk (fun hb => ?_) (fun hb => ?_) <;> try simp only [forall_const, eq_self, not_true_eq_false, not_false_eq_true, or_false, false_or, or_self, or_true, true_or, and_true, true_and, and_false, false_and, decide_true, decide_false, Bool.not_true, Bool.not_false, decide_eq_true_eq, decide_eq_false_iff_not, ite_and_p, ite_or_p, Bool.decide_eq_true, Bool.and_eq_true, Bool.or_eq_true, Bool.not_eq_true', Bool.not_eq_false', Bool.and_eq_false_imp, Bool.or_eq_false_iff, bne_iff_ne, beq_iff_eq, bne_eq_false_iff_eq, beq_eq_false_iff_ne, gt_iff_lt, ge_iff_le, Int.not_lt, Int.not_le, ne_eq, Bool.true_eq_false, Bool.false_eq_true, reduceCtorEq, eta_Airway, eta_Duct, eta_Fan, eta_Mine, eta_Survey] at hb)
    | apply BackF.auto2
    | refine BackB.mk ?_ ?_
    | refine RetF.auto (And.intro rfl ?_)
    | exact Is.mk rfl rfl
    | refine Is.mk ?_ rfl
    | refine Is.mk rfl ?_
    | refine Is.mk ?_ ?_
  all_goals try dsimp only
  all_goals try simp only [Bo, I, OB.row.injEq, AV.osl.injEq, eI_same,  List.cons.injEq, AV.p.injEq, PV.c.injEq, Value.int.injEq, Value.bool.injEq, and_true, true_and, ite_and_p, ite_or_p, Bool.decide_eq_true, eta_Airway, eta_Duct, eta_Fan, eta_Mine, eta_Survey]
  · exact ⟨by omega, by omega, by omega, .inl trivial, .inl trivial⟩
  · exact ⟨by omega, by omega, h2, .inr hb, h4⟩
  · omega
  · refine ⟨by omega, by omega, by omega, h3, .inr ?_⟩
    rw [Int.sub_add_cancel]; exact hb
  · omega
  · have e : lo = hi := by omega
    subst e; exact (rootI_of h0 h2 h3 h4).symm
theorem c_spec_l01Div (a b : Int) (ha : -4000000000000000000 ≤ a ∧ a ≤ 4000000000000000000) (hb : 1 ≤ b ∧ b ≤ 1000000000000000000) : FnSem Tryz.prog 168 [In a, In b] [] (Is [In (rdZ a b)] []) := by
  have e : rdZ a b = if 0 ≤ a then (2 * a + b) / (2 * b) else -((b - 2 * a) / (2 * b)) := by
    unfold rdZ
    split
    · rw [rd_eq (by omega) (by omega)]
    · rw [rd_eq (by omega) (by omega)]; congr 2; omega
  have b1 := rdZ_lo (a := -4000000000000000000) (x := a) (y := b) (by omega) (by have := Int.mul_le_mul_of_nonneg_left hb.1 (show (0 : Int) ≤ 4000000000000000000 by omega); rw [Int.neg_mul]; omega)
  have b2 := rdZ_hi (b := 4000000000000000000) (x := a) (y := b) (by omega) (by have := Int.mul_le_mul_of_nonneg_left hb.1 (show (0 : Int) ≤ 4000000000000000000 by omega); omega)
  rw [e] at b1 b2 ⊢
  refine FnSem.walk (zs := zeroPV Tryz.prog) (by kernel_rfl) Tryz.func168 rfl Tryz.results168 (by kernel_rfl) (by kernel_rfl) (by kernel_rfl) fun hw hh => ?_
  obtain ⟨w0, w1, _⟩ := hw
  first | replace w0 := wf_I w0 | skip
  first | replace w1 := wf_I w1 | skip
  repeat' first
    | refine And.intro rfl ?_
    | refine GdF.mk (fun h => h) ?_
    | refine And.intro (Nat.succ_ne_zero _) ?_
    | refine And.intro (Nat.le_of_ble_eq_true rfl) ?_
    | refine SeqF.run ?_
    | refine EqI.mk _ (fun _ => wrapD (by omega) (by omega) (by omega)) ?_
    | refine GhF.go ?_
    | refine BndF.mk (fun _ => by omega) ?_
    | refine BndF.mk (fun _ => by simp only [List.length_map, List.length_cons, List.length_nil, List.length_append, List.length_set, List.length_replicate, iotaI_len]; omega) ?_
    | refine EqI.mk _ (fun _ => wrapI (by omega) (by omega)) ?_
    | refine EqI.mk _ (fun _ => wrapD (by omega) (by omega) (by omega)) ?_
    | refine EqI.mk _ (fun _ => rfl) ?_
    | (refine CondF.mk (fun hb => ?_) (fun hb => ?_) <;> try simp only [forall_const, eq_self, not_true_eq_false, not_false_eq_true, or_false, false_or, or_self, or_true, true_or, and_true, true_and, and_false, false_and, decide_true, decide_false, Bool.not_true, Bool.not_false, decide_eq_true_eq, decide_eq_false_iff_not, ite_and_p, ite_or_p, Bool.decide_eq_true, Bool.and_eq_true, Bool.or_eq_true, Bool.not_eq_true', Bool.not_eq_false', Bool.and_eq_false_imp, Bool.or_eq_false_iff, bne_iff_ne, beq_iff_eq, bne_eq_false_iff_eq, beq_eq_false_iff_ne, gt_iff_lt, ge_iff_le, Int.not_lt, Int.not_le, ne_eq, Bool.true_eq_false, Bool.false_eq_true, reduceCtorEq, eta_Airway, eta_Duct, eta_Fan, eta_Mine, eta_Survey] at hb)
    | refine RetF.auto (And.intro rfl ?_)
    | exact Is.mk rfl rfl
    | refine Is.mk ?_ rfl
    | refine Is.mk rfl ?_
    | refine Is.mk ?_ ?_
  all_goals try dsimp only
  all_goals try simp only [Bo, I, OB.row.injEq, AV.osl.injEq, eI_same,  List.cons.injEq, AV.p.injEq, PV.c.injEq, Value.int.injEq, Value.bool.injEq, and_true, true_and, ite_and_p, ite_or_p, Bool.decide_eq_true, eta_Airway, eta_Duct, eta_Fan, eta_Mine, eta_Survey]
  all_goals first
    | (exfalso; omega)
    | (rw [if_pos hb])
    | (rw [if_neg (by omega)]; omega)
end Go.Proofs.YtmifcbekaniiiaaGreatDoor
