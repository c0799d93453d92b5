/- Contracts of functions of the program, and what they compute. Conditions: those that each theorem states. -/
import Derived.Test.YtdhkpmaanegjkaaProg
import Derived.Test.YtdhkpmaanegjkaaL3
set_option linter.unusedVariables false
set_option linter.unusedSimpArgs false
namespace Go.Proofs.Ytdhkpmaanegjkaa
open Go.Av
attribute [local irreducible] Go.IntKind.wrap
set_option maxRecDepth 20000
set_option maxHeartbeats 4000000
theorem abs_ng (x : Int) (h : 0 ≤ x) (h' : x ≤ 4000000000000000000) : FnSem Try.prog 50 [In (-x)] [] (Is [In x] []) := by
  have := c_impl_abs (-x)
  rw [wrapI (n := 0 - -x) (by omega) (by omega), show max (-x) (0 - -x) = x by omega] at this
  exact this
--@fn impl.divRound
theorem divRound_ng (a y : Int) (hx : 0 < a) (hx' : a ≤ 4000000000000000000) (hy : 1 ≤ y) (hy' : y ≤ 4000000000000000000) : FnSem Try.prog 49 [In (-a), In y] [] (Is [In (-(rd a y))] []) := by
  have g1 := Int.emod_nonneg a (show y ≠ 0 by omega)
  have g2 := Int.emod_lt_of_pos a (show 0 < y by omega)
  have g3 := Int.ediv_nonneg (show 0 ≤ a by omega) (show 0 ≤ y by omega)
  have g4 := Int.ediv_le_self y (show 0 ≤ a by omega)
  refine FnSem.walk (zs := zeroPV Try.prog) (by kernel_rfl) Try.func49 rfl Try.results49 (by kernel_rfl) (by kernel_rfl) (by kernel_rfl) fun hw hh => ?_
  obtain ⟨w0, w1, _⟩ := hw
  first | replace w0 := wf_I w0 | skip
  first | replace w1 := wf_I w1 | skip
  repeat' first
    | refine And.intro rfl ?_
    | refine GdF.mk (fun h => h) ?_
    | refine And.intro (Nat.succ_ne_zero _) ?_
    | refine And.intro (Nat.le_of_ble_eq_true rfl) ?_
    | refine SeqF.run ?_
    | refine EqI.mk (-(a / y)) (fun _ => by rw [Int.neg_tdiv, Int.tdiv_eq_ediv_of_nonneg (by omega)]; exact wrapI (by omega) (by omega)) ?_
    | refine EqI.mk (-(a % y)) (fun _ => by rw [Int.neg_tmod, Int.tmod_eq_emod_of_nonneg (by omega)]) ?_
    | refine ArgF.is (abs_ng _ (by omega) (by omega)) ?_
    | refine ArgQ.is (fun hG => abs_ng _ (by omega) (by omega)) rfl rfl ?_
    | refine ArgF.is (abs_nn _ (by omega) (by omega)) ?_
    | refine ArgQ.is (fun hG => abs_nn _ (by omega) (by omega)) rfl rfl ?_
    | refine GhF.go ?_
    | refine DrawG.old (DrawF.lex (by decide +kernel) ?_)
    | refine BndF.mk (fun _ => by omega) ?_
    | refine BndF.mk (fun _ => by simp only [List.length_map, List.length_cons, List.length_nil, List.length_append, List.length_set, List.length_replicate, iotaI_len]; omega) ?_
    | refine EqI.mk _ (fun _ => wrapI (by omega) (by omega)) ?_
    | refine EqI.mk _ (fun _ => wrapD (by omega) (by omega) (by omega)) ?_
    | refine EqI.mk _ (fun _ => modE (by omega)) ?_
    | refine EqI.mk _ (fun _ => rfl) ?_
    | refine EqL.mk [] rfl ?_
    | refine EqL.mk [_] rfl ?_
    | refine EqL.mk _ rfl ?_
    | refine ArgF.is (c_impl_abs ..) ?_
    | refine ArgQ.is (fun hG => c_impl_abs ..) rfl rfl ?_
    | refine CallF.mk (CallW.is [] true rfl ?_)
    | refine CallG.mk ?_
    | (refine CondF.mk (fun hb => ?_) (fun hb => ?_) <;> try simp only [forall_const, eq_self, not_true_eq_false, not_false_eq_true, or_false, false_or, or_self, or_true, true_or, and_true, true_and, and_false, false_and, decide_true, decide_false, Bool.not_true, Bool.not_false, decide_eq_true_eq, decide_eq_false_iff_not, ite_and_p, ite_or_p, Bool.decide_eq_true, Bool.and_eq_true, Bool.or_eq_true, Bool.not_eq_true', Bool.not_eq_false', Bool.and_eq_false_imp, Bool.or_eq_false_iff, bne_iff_ne, beq_iff_eq, bne_eq_false_iff_eq, beq_eq_false_iff_ne, gt_iff_lt, ge_iff_le, Int.not_lt, Int.not_le, ne_eq, Bool.true_eq_false, Bool.false_eq_true, reduceCtorEq, eta_Fan] at hb)
    | refine RetF.auto (And.intro rfl ?_)
    | exact Is.mk rfl rfl
    | refine Is.mk ?_ rfl
    | refine Is.mk rfl ?_
    | refine Is.mk ?_ ?_
  all_goals try dsimp only
  all_goals try simp only [Bo, I, OB.row.injEq, AV.osl.injEq, eI_same,  List.cons.injEq, AV.p.injEq, PV.c.injEq, Value.int.injEq, Value.bool.injEq, and_true, true_and, ite_and_p, ite_or_p, Bool.decide_eq_true, eta_Fan, rd]
  all_goals grind
def rdZ (x y : Int) : Int := if 0 ≤ x then rd x y else -(rd (-x) y)
theorem divRoundZ (x y : Int) (hx : -4000000000000000000 ≤ x ∧ x ≤ 4000000000000000000) (hy : 1 ≤ y) (hy' : y ≤ 4000000000000000000) : FnSem Try.prog 49 [In x, In y] [] (Is [In (rdZ x y)] []) := by
  unfold rdZ
  split
  · exact c_impl_divRound x y (by omega) (by omega) hy hy'
  · have := divRound_ng (-x) y (by omega) (by omega) hy hy'
    rwa [Int.neg_neg] at this
theorem rd_mono {x x' y : Int} (hx : 0 ≤ x) (h : x ≤ x') (hy : 0 < y) : rd x y ≤ rd x' y := by
  rw [rd_eq hx hy, rd_eq (by omega) hy]
  exact Int.ediv_le_ediv (by omega) (by omega)
theorem rd_lo {a x y : Int} (hx : 0 ≤ x) (hy : 0 < y) (h : a * y ≤ x) : a ≤ rd x y := by
  rw [rd_eq hx hy, Int.le_ediv_iff_mul_le (by omega), Int.mul_left_comm]; omega
theorem rd_hi {b x y : Int} (hx : 0 ≤ x) (hy : 0 < y) (h : x ≤ b * y) : rd x y ≤ b := by
  rw [rd_eq hx hy]
  apply Int.le_of_lt_add_one
  apply Int.ediv_lt_of_lt_mul (by omega)
  rw [Int.mul_left_comm, Int.add_mul]; omega
theorem rd_0 {y : Int} (hy : 0 < y) : rd 0 y = 0 := by
  have h1 := rd_lo (a := 0) (x := 0) (by omega) hy (by omega)
  have h2 := rd_hi (b := 0) (x := 0) (by omega) hy (by omega)
  omega
theorem rdZ_neg {x y : Int} (hy : 0 < y) : rdZ (-x) y = -(rdZ x y) := by
  unfold rdZ
  by_cases h : x = 0
  · subst h; simp [rd_0 hy]
  · by_cases h1 : 0 ≤ x
    · rw [if_neg (by omega), if_pos h1, Int.neg_neg]
    · rw [if_pos (by omega), if_neg h1, Int.neg_neg]
theorem rdZ_p {x y : Int} (h : 0 ≤ x) : rdZ x y = rd x y := by unfold rdZ; rw [if_pos h]
theorem rdZ_mono {x x' y : Int} (h : x ≤ x') (hy : 0 < y) : rdZ x y ≤ rdZ x' y := by
  unfold rdZ
  by_cases h1 : 0 ≤ x
  · rw [if_pos h1, if_pos (by omega)]; exact rd_mono h1 h hy
  · rw [if_neg h1]
    have e1 := rd_lo (a := 0) (x := -x) (by omega) hy (by omega)
    by_cases h2 : 0 ≤ x'
    · rw [if_pos h2]
      have e2 := rd_lo (a := 0) (x := x') h2 hy (by omega)
      omega
    · rw [if_neg h2]
      have := rd_mono (x := -x') (x' := -x) (by omega) (by omega) hy
      omega
theorem rdZ_lo {a x y : Int} (hy : 0 < y) (h : a * y ≤ x) : a ≤ rdZ x y := by
  unfold rdZ
  split
  · rename_i h1; exact rd_lo h1 hy h
  · rename_i h1
    have := rd_hi (b := -a) (x := -x) (by omega) hy (by rw [Int.neg_mul]; omega)
    omega
theorem rdZ_hi {b x y : Int} (hy : 0 < y) (h : x ≤ b * y) : rdZ x y ≤ b := by
  unfold rdZ
  split
  · rename_i h1; exact rd_hi h1 hy h
  · rename_i h1
    have := rd_lo (a := -b) (x := -x) (by omega) hy (by rw [Int.neg_mul]; omega)
    omega
end Go.Proofs.Ytdhkpmaanegjkaa
