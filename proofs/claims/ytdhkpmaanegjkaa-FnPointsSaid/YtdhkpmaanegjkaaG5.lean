/- Contracts of functions of the program, and what they compute. Conditions: those that each theorem states. -/
import Derived.Test.YtdhkpmaanegjkaaProg
import Derived.Test.YtdhkpmaanegjkaaG2
import Derived.Test.YtdhkpmaanegjkaaG4
set_option linter.unusedVariables false
set_option linter.unusedSimpArgs false
namespace Go.Proofs.Ytdhkpmaanegjkaa
open Go.Av
attribute [local irreducible] Go.IntKind.wrap leastI rdZ rd rootI
set_option maxRecDepth 20000
set_option maxHeartbeats 4000000

/-- the conductance of a resistance -/
def condI (x : Int) : Int := rootI (10000000000000000 / x)
theorem rootI_1 {n : Int} (h : 1 ≤ n) : 1 ≤ rootI n := by
  unfold rootI
  rw [if_neg (by omega)]
  have h3 := leastI_r (p := rootP n) (lo := 0) (hi := 3037000498) (by omega)
  rcases Int.lt_or_le (leastI (rootP n) 0 3037000498) 1 with e | e
  · have h4 := (leastI_hit (p := rootP n) (lo := 0) (hi := 3037000498) (by omega) (by omega)).2.1
    rw [show leastI (rootP n) 0 3037000498 = 0 by omega] at h4
    have h5 : n < (0 + 1) * (0 + 1) := of_decide_eq_true h4
    omega
  · exact e
theorem condI_b {x : Int} (h : 1 ≤ x ∧ x ≤ 1000000) : 1 ≤ condI x ∧ condI x ≤ 100000000 := by
  have h1 : 10000000000000000 / x ≤ 10000000000000000 := Int.ediv_le_self _ (by omega)
  have h2 : 1 ≤ 10000000000000000 / x := (Int.le_ediv_iff_mul_le (by omega)).2 (by omega)
  exact ⟨rootI_1 h2, (rootI_b (b := 100000000) (by omega) (by omega) (by omega)).2⟩
/-! a quotient, its divisor great -/
--@fn impl.divRound
theorem divRound_big (x y : Int) (hx : 0 ≤ x) (hx' : x ≤ 4000000000000000000) (hy : 1 ≤ y) (hy' : y ≤ 9000000000000000000) : FnSem Try.prog 49 [In x, In y] [] (Is [In (rd x y)] []) := by
  have g1 := Int.emod_nonneg x (show y ≠ 0 by omega)
  have g2 := Int.emod_lt_of_pos x (show 0 < y by omega)
  have g3 := Int.ediv_nonneg hx (show 0 ≤ y by omega)
  have g4 := Int.ediv_le_self y hx
  refine FnSem.walk (zs := zeroPV Try.prog) (by kernel_rfl) Try.func49 rfl Try.results49 (by kernel_rfl) (by kernel_rfl) (by kernel_rfl) fun hw hh => ?_
  obtain ⟨w0, w1, _⟩ := hw
  first | replace w0 := wf_I w0 | skip
  first | replace w1 := wf_I w1 | skip
  repeat' first
    | refine And.intro rfl ?_
    | refine GdF.mk (fun h => h) ?_
    | refine And.intro (Nat.succ_ne_zero _) ?_
    | refine And.intro (Nat.le_of_ble_eq_true rfl) ?_
    | refine SeqF.run ?_
    | refine ArgF.is (abs_nn _ (by omega) (by omega)) ?_
    | refine ArgQ.is (fun hG => abs_nn _ (by omega) (by omega)) rfl rfl ?_
    | refine GhF.go ?_
    | refine DrawG.old (DrawF.lex (by decide +kernel) ?_)
    | refine BndF.mk (fun _ => by omega) ?_
    | refine BndF.mk (fun _ => by simp only [List.length_map, List.length_cons, List.length_nil, List.length_append, List.length_set, List.length_replicate, iotaI_len]; omega) ?_
    | refine EqI.mk _ (fun _ => wrapI (by omega) (by omega)) ?_
    | refine EqI.mk _ (fun _ => wrapD (by omega) (by omega) (by omega)) ?_
    | refine EqI.mk _ (fun _ => modE (by omega)) ?_
    | refine EqI.mk _ (fun _ => rfl) ?_
    | refine EqL.mk [] rfl ?_
    | refine EqL.mk [_] rfl ?_
    | refine EqL.mk _ rfl ?_
    | refine ArgF.is (c_impl_abs ..) ?_
    | refine ArgQ.is (fun hG => c_impl_abs ..) rfl rfl ?_
    | refine CallF.mk (CallW.is [] true rfl ?_)
    | refine CallG.mk ?_
    | (refine CondF.mk (fun hb => ?_) (fun hb => ?_) <;> try simp only [forall_const, eq_self, not_true_eq_false, not_false_eq_true, or_false, false_or, or_self, or_true, true_or, and_true, true_and, and_false, false_and, decide_true, decide_false, Bool.not_true, Bool.not_false, decide_eq_true_eq, decide_eq_false_iff_not, ite_and_p, ite_or_p, Bool.decide_eq_true, Bool.and_eq_true, Bool.or_eq_true, Bool.not_eq_true', Bool.not_eq_false', Bool.and_eq_false_imp, Bool.or_eq_false_iff, bne_iff_ne, beq_iff_eq, bne_eq_false_iff_eq, beq_eq_false_iff_ne, gt_iff_lt, ge_iff_le, Int.not_lt, Int.not_le, ne_eq, Bool.true_eq_false, Bool.false_eq_true, reduceCtorEq, eta_Fan] at hb)
    | refine RetF.auto (And.intro rfl ?_)
    | exact Is.mk rfl rfl
    | refine Is.mk ?_ rfl
    | refine Is.mk rfl ?_
    | refine Is.mk ?_ ?_
  all_goals try dsimp only
  all_goals try simp only [Bo, I, OB.row.injEq, AV.osl.injEq, eI_same,  List.cons.injEq, AV.p.injEq, PV.c.injEq, Value.int.injEq, Value.bool.injEq, and_true, true_and, ite_and_p, ite_or_p, Bool.decide_eq_true, eta_Fan, rd]
  all_goals grind
theorem rd_small {a b : Int} (h0 : 0 ≤ a) (h : 2 * a < b) : rd a b = 0 := by
  unfold rd
  rw [Int.emod_eq_of_lt h0 (by omega), Int.ediv_eq_zero_of_lt h0 (by omega), if_neg (by omega)]
theorem wrap_2b {b : Int} (h0 : 1000000000000000000 ≤ b) (h : b ≤ 9000000000000000000) : IntKind.i64.wrap (2 * b) = 2 * b ∧ b ≤ 4611686018427387903 ∨ IntKind.i64.wrap (2 * b) = 2 * b - 18446744073709551616 ∧ 4611686018427387904 ≤ b := by
  simp [IntKind.wrap, IntKind.bits, IntKind.signed]
  split <;> omega
theorem tdiv_0 {a b : Int} (h0 : 0 ≤ a) (h : a < b ∨ a < -b) : a.tdiv b = 0 := by
  rcases h with h | h
  · exact Int.tdiv_eq_zero_of_lt h0 h
  · have := Int.tdiv_eq_zero_of_lt h0 h
    rw [Int.tdiv_neg] at this; omega
--@fn spec.l01Div
theorem l01Div_big (a b : Int) (ha : 0 ≤ a ∧ a ≤ 10000000000000000) (hb : 1000000000000000000 ≤ b ∧ b ≤ 6000000000000000000) : FnSem Try.prog 45 [In a, In b] [] (Is [In (rdZ a b)] []) := by
  have e : rdZ a b = 0 := by rw [rdZ_p ha.1, rd_small ha.1 (by omega)]
  rw [e]
  have hw := wrap_2b hb.1 (by omega)
  have ht : (2 * a + b).tdiv (IntKind.i64.wrap (2 * b)) = 0 := tdiv_0 (by omega) (by omega)
  refine FnSem.walk (zs := zeroPV Try.prog) (by kernel_rfl) Try.func45 rfl Try.results45 (by kernel_rfl) (by kernel_rfl) (by kernel_rfl) fun hw hh => ?_
  obtain ⟨w0, w1, _⟩ := hw
  first | replace w0 := wf_I w0 | skip
  first | replace w1 := wf_I w1 | skip
  repeat' first
    | refine And.intro rfl ?_
    | refine GdF.mk (fun h => h) ?_
    | refine And.intro (Nat.succ_ne_zero _) ?_
    | refine And.intro (Nat.le_of_ble_eq_true rfl) ?_
    | refine SeqF.run ?_
    | refine EqI.mk 0 (fun _ => by rw [ht]; exact wrapI (by omega) (by omega)) ?_
    | (exfalso; omega)
    | refine GhF.go ?_
    | refine BndF.mk (fun _ => by omega) ?_
    | refine BndF.mk (fun _ => by simp only [List.length_map, List.length_cons, List.length_nil, List.length_append, List.length_set, List.length_replicate, iotaI_len]; omega) ?_
    | refine EqI.mk _ (fun _ => wrapI (by omega) (by omega)) ?_
    | refine EqI.mk _ (fun _ => wrapD (by omega) (by omega) (by omega)) ?_
    | refine EqI.mk _ (fun _ => rfl) ?_
    | (refine CondF.mk (fun hb => ?_) (fun hb => ?_) <;> try simp only [forall_const, eq_self, not_true_eq_false, not_false_eq_true, or_false, false_or, or_self, or_true, true_or, and_true, true_and, and_false, false_and, decide_true, decide_false, Bool.not_true, Bool.not_false, decide_eq_true_eq, decide_eq_false_iff_not, ite_and_p, ite_or_p, Bool.decide_eq_true, Bool.and_eq_true, Bool.or_eq_true, Bool.not_eq_true', Bool.not_eq_false', Bool.and_eq_false_imp, Bool.or_eq_false_iff, bne_iff_ne, beq_iff_eq, bne_eq_false_iff_eq, beq_eq_false_iff_ne, gt_iff_lt, ge_iff_le, Int.not_lt, Int.not_le, ne_eq, Bool.true_eq_false, Bool.false_eq_true, reduceCtorEq, eta_Fan] at hb)
    | refine RetF.auto (And.intro rfl ?_)
    | exact Is.mk rfl rfl
    | refine Is.mk ?_ rfl
    | refine Is.mk rfl ?_
    | refine Is.mk ?_ ?_
end Go.Proofs.Ytdhkpmaanegjkaa
