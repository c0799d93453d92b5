/- Contracts of functions of the program, and what they compute. Conditions: those that each theorem states. -/
import Derived.Test.YtdhkpmaanegjkaaProg
import Derived.Test.YtdhkpmaanegjkaaL2
set_option linter.unusedVariables false
set_option linter.unusedSimpArgs false
namespace Go.Proofs.Ytdhkpmaanegjkaa
open Go.Av
attribute [local irreducible] Go.IntKind.wrap
set_option maxRecDepth 20000
set_option maxHeartbeats 2000000

/-- rounded to the nearer whole number -/
def rd (x y : Int) : Int := if x % y ≥ y - x % y then x / y + 1 else x / y
theorem rd_le {z d : Int} (h0 : 0 ≤ z) (h : z ≤ d * 1000000) : 0 ≤ rd z 1000000 ∧ rd z 1000000 ≤ d := by unfold rd; split <;> omega
theorem rd_eq {x y : Int} (hx : 0 ≤ x) (hy : 0 < y) : rd x y = (2 * x + y) / (2 * y) := by
  have h1 := Int.emod_nonneg x (show y ≠ 0 by omega); have h2 := Int.emod_lt_of_pos x hy
  have h3 := Int.mul_ediv_add_emod x y
  unfold rd
  generalize x / y = q at *; generalize x % y = r at *
  subst h3
  split
  · rw [show 2 * (y * q + r) + y = (2 * r - y) + (q + 1) * (2 * y) by grind, Int.add_mul_ediv_right _ _ (by omega), Int.ediv_eq_zero_of_lt (by omega) (by omega)]; omega
  · rw [show 2 * (y * q + r) + y = (2 * r + y) + q * (2 * y) by grind, Int.add_mul_ediv_right _ _ (by omega), Int.ediv_eq_zero_of_lt (by omega) (by omega)]; omega
theorem rd_anti {x y : Int} (hx : 0 ≤ x) (hy : 0 < y) : rd x (y + 1) ≤ rd x y := by
  rw [rd_eq hx hy, rd_eq hx (by omega)]
  have h0 : 0 ≤ (2 * x + y) / (2 * y) := Int.ediv_nonneg (by omega) (by omega)
  have h1 := Int.lt_mul_ediv_self_add (x := 2 * x + y) (k := 2 * y) (show 0 < 2 * y by omega) 
  apply Int.le_of_lt_add_one
  apply Int.ediv_lt_of_lt_mul (by omega)
  generalize (2 * x + y) / (2 * y) = q at *
  have : (q + 1) * (2 * (y + 1)) = 2 * y * q + 2 * y + 2 * q + 2 := by grind
  omega
theorem mulB' {a b A B : Int} (h1 : 0 ≤ a) (h2 : a ≤ A) (h3 : 0 ≤ b) (h4 : b ≤ B) : 0 ≤ a * b ∧ a * b ≤ A * B :=
  ⟨Int.mul_nonneg h1 h3, Int.mul_le_mul h2 h4 h3 (by omega)⟩
def stepD (s d : Int) : Int := d - rd (d * s) 1000000
theorem stepD_b {s d : Int} (h1 : 0 ≤ d) (h3 : 0 ≤ s) (h4 : s ≤ 1000000) : 0 ≤ stepD s d ∧ stepD s d ≤ d := by
  have := rd_le (z := d * s) (d := d) (Int.mul_nonneg h1 h3) (Int.mul_le_mul_of_nonneg_left h4 h1)
  unfold stepD; omega
def setN (s : Int) : Nat → Int → Int
  | 0, d => d
  | n + 1, d => stepD s (setN s n d)
theorem setN_add {s : Int} {d : Int} {a : Nat} : ∀ b : Nat, setN s (a + b) d = setN s b (setN s a d)
  | 0 => rfl
  | b + 1 => by rw [show a + (b + 1) = (a + b) + 1 by omega]; simp only [setN, setN_add b]
theorem setN_b {s d : Int} (h1 : 0 ≤ d) (h3 : 0 ≤ s) (h4 : s ≤ 1000000) : ∀ n : Nat, 0 ≤ setN s n d ∧ setN s n d ≤ d
  | 0 => by simp only [setN]; omega
  | n + 1 => by
    have := setN_b h1 h3 h4 n
    have := stepD_b this.1 h3 h4
    simp only [setN]; omega
theorem setN_s {s d i : Int} (h : 0 ≤ i) : setN s (i + 1).toNat d = stepD s (setN s i.toNat d) := by rw [show (i + 1).toNat = i.toNat + 1 by omega]; rfl
theorem abs_nn (x : Int) (h : 0 ≤ x) (h' : x ≤ 9223372036854775807) : FnSem Try.prog 50 [In x] [] (Is [In x] []) := by
  have := c_impl_abs x
  rw [wrapI (n := 0 - x) (by omega) (by omega), show max x (0 - x) = x by omega] at this
  exact this
theorem c_impl_divRound (x y : Int) (hx : 0 ≤ x) (hx' : x ≤ 4000000000000000000) (hy : 1 ≤ y) (hy' : y ≤ 4000000000000000000) : FnSem Try.prog 49 [In x, In y] [] (Is [In (rd x y)] []) := by
  have g1 := Int.emod_nonneg x (show y ≠ 0 by omega)
  have g2 := Int.emod_lt_of_pos x (show 0 < y by omega)
  have g3 := Int.ediv_nonneg hx (show 0 ≤ y by omega)
  have g4 := Int.ediv_le_self y hx
  refine FnSem.walk (zs := zeroPV Try.prog) (by kernel_rfl) Try.func49 rfl Try.results49 (by kernel_rfl) (by kernel_rfl) (by kernel_rfl) fun hw hh => ?_
  obtain ⟨w0, w1, _⟩ := hw
  first | replace w0 := wf_I w0 | skip
  first | replace w1 := wf_I w1 | skip
  repeat' first
    | refine And.intro rfl ?_
    | refine GdF.mk (fun h => h) ?_
    | refine And.intro (Nat.succ_ne_zero _) ?_
    | refine And.intro (Nat.le_of_ble_eq_true rfl) ?_
    | refine SeqF.run ?_
    | refine ArgF.is (abs_nn _ (by omega) (by omega)) ?_
    | refine ArgQ.is (fun hG => abs_nn _ (by omega) (by omega)) rfl rfl ?_
    | refine GhF.go ?_
    | refine DrawG.old (DrawF.lex (by decide +kernel) ?_)
    | refine BndF.mk (fun _ => by omega) ?_
    | refine BndF.mk (fun _ => by simp only [List.length_map, List.length_cons, List.length_nil, List.length_append, List.length_set, List.length_replicate, iotaI_len]; omega) ?_
    | refine EqI.mk _ (fun _ => wrapI (by omega) (by omega)) ?_
    | refine EqI.mk _ (fun _ => wrapD (by omega) (by omega) (by omega)) ?_
    | refine EqI.mk _ (fun _ => modE (by omega)) ?_
    | refine EqI.mk _ (fun _ => rfl) ?_
    | refine EqL.mk [] rfl ?_
    | refine EqL.mk [_] rfl ?_
    | refine EqL.mk _ rfl ?_
    | refine ArgF.is (c_impl_abs ..) ?_
    | refine ArgQ.is (fun hG => c_impl_abs ..) rfl rfl ?_
    | refine CallF.mk (CallW.is [] true rfl ?_)
    | refine CallG.mk ?_
    | (refine CondF.mk (fun hb => ?_) (fun hb => ?_) <;> try simp only [forall_const, eq_self, not_true_eq_false, not_false_eq_true, or_false, false_or, or_self, or_true, true_or, and_true, true_and, and_false, false_and, decide_true, decide_false, Bool.not_true, Bool.not_false, decide_eq_true_eq, decide_eq_false_iff_not, ite_and_p, ite_or_p, Bool.decide_eq_true, Bool.and_eq_true, Bool.or_eq_true, Bool.not_eq_true', Bool.not_eq_false', Bool.and_eq_false_imp, Bool.or_eq_false_iff, bne_iff_ne, beq_iff_eq, bne_eq_false_iff_eq, beq_eq_false_iff_ne, gt_iff_lt, ge_iff_le, Int.not_lt, Int.not_le, ne_eq, Bool.true_eq_false, Bool.false_eq_true, reduceCtorEq, eta_Fan] at hb)
    | refine RetF.auto (And.intro rfl ?_)
    | exact Is.mk rfl rfl
    | refine Is.mk ?_ rfl
    | refine Is.mk rfl ?_
    | refine Is.mk ?_ ?_
  all_goals try dsimp only
  all_goals try simp only [Bo, I, OB.row.injEq, AV.osl.injEq, eI_same,  List.cons.injEq, AV.p.injEq, PV.c.injEq, Value.int.injEq, Value.bool.injEq, and_true, true_and, ite_and_p, ite_or_p, Bool.decide_eq_true, eta_Fan, rd]
  all_goals grind
def okD (d s t : Int) : Bool := inR d 0 1000000 && inR s 0 1000000 && inR t 0 10000
def settled (d s t : Int) : Int × Int := if okD d s t then (setN s t.toNat d, 0) else (0, 2)
def dustOf (d f : Int) : Int × Int := if inR d 0 1000000 && inR f 1 100000 then (min (rd (100000 * d) f) 1000000, 0) else (0, 2)