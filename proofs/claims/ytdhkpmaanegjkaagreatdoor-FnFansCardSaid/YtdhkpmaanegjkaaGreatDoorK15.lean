/- Contracts of functions of the program, and what they compute. Conditions: those that each theorem states. -/
import Derived.Test.YtdhkpmaanegjkaaGreatDoorProg
import Derived.Test.YtdhkpmaanegjkaaGreatDoorL2
import Derived.Test.YtdhkpmaanegjkaaGreatDoorR0
set_option linter.unusedVariables false
set_option linter.unusedSimpArgs false
namespace Go.Proofs.YtdhkpmaanegjkaaGreatDoor
open Go.Av
attribute [local irreducible] Go.IntKind.wrap
set_option maxRecDepth 20000
set_option maxHeartbeats 2000000
def rd (x y : Int) : Int := if x % y ≥ y - x % y then x / y + 1 else x / y
theorem rd_le {z d : Int} (h0 : 0 ≤ z) (h : z ≤ d * 1000000) : 0 ≤ rd z 1000000 ∧ rd z 1000000 ≤ d := by unfold rd; split <;> omega
theorem rd_eq {x y : Int} (hx : 0 ≤ x) (hy : 0 < y) : rd x y = (2 * x + y) / (2 * y) := by
  have h1 := Int.emod_nonneg x (show y ≠ 0 by omega); have h2 := Int.emod_lt_of_pos x hy
  have h3 := Int.mul_ediv_add_emod x y
  unfold rd
  generalize x / y = q at *; generalize x % y = r at *
  subst h3
  split
  · rw [show 2 * (y * q + r) + y = (2 * r - y) + (q + 1) * (2 * y) by grind, Int.add_mul_ediv_right _ _ (by omega), Int.ediv_eq_zero_of_lt (by omega) (by omega)]; omega
  · rw [show 2 * (y * q + r) + y = (2 * r + y) + q * (2 * y) by grind, Int.add_mul_ediv_right _ _ (by omega), Int.ediv_eq_zero_of_lt (by omega) (by omega)]; omega
theorem rd_anti {x y : Int} (hx : 0 ≤ x) (hy : 0 < y) : rd x (y + 1) ≤ rd x y := by
  rw [rd_eq hx hy, rd_eq hx (by omega)]
  have h0 : 0 ≤ (2 * x + y) / (2 * y) := Int.ediv_nonneg (by omega) (by omega)
  have h1 := Int.lt_mul_ediv_self_add (x := 2 * x + y) (k := 2 * y) (show 0 < 2 * y by omega) 
  apply Int.le_of_lt_add_one
  apply Int.ediv_lt_of_lt_mul (by omega)
  generalize (2 * x + y) / (2 * y) = q at *
  have : (q + 1) * (2 * (y + 1)) = 2 * y * q + 2 * y + 2 * q + 2 := by grind
  omega
theorem mulB' {a b A B : Int} (h1 : 0 ≤ a) (h2 : a ≤ A) (h3 : 0 ≤ b) (h4 : b ≤ B) : 0 ≤ a * b ∧ a * b ≤ A * B :=
  ⟨Int.mul_nonneg h1 h3, Int.mul_le_mul h2 h4 h3 (by omega)⟩
def stepD (s d : Int) : Int := d - rd (d * s) 1000000
theorem stepD_b {s d : Int} (h1 : 0 ≤ d) (h3 : 0 ≤ s) (h4 : s ≤ 1000000) : 0 ≤ stepD s d ∧ stepD s d ≤ d := by
  have := rd_le (z := d * s) (d := d) (Int.mul_nonneg h1 h3) (Int.mul_le_mul_of_nonneg_left h4 h1)
  unfold stepD; omega
def setN (s : Int) : Nat → Int → Int
  | 0, d => d
  | n + 1, d => stepD s (setN s n d)
theorem setN_add {s : Int} {d : Int} {a : Nat} : ∀ b : Nat, setN s (a + b) d = setN s b (setN s a d)
  | 0 => rfl
  | b + 1 => by rw [show a + (b + 1) = (a + b) + 1 by omega]; simp only [setN, setN_add b]
theorem setN_b {s d : Int} (h1 : 0 ≤ d) (h3 : 0 ≤ s) (h4 : s ≤ 1000000) : ∀ n : Nat, 0 ≤ setN s n d ∧ setN s n d ≤ d
  | 0 => by simp only [setN]; omega
  | n + 1 => by
    have := setN_b h1 h3 h4 n
    have := stepD_b this.1 h3 h4
    simp only [setN]; omega
theorem setN_s {s d i : Int} (h : 0 ≤ i) : setN s (i + 1).toNat d = stepD s (setN s i.toNat d) := by rw [show (i + 1).toNat = i.toNat + 1 by omega]; rfl
theorem abs_nn (x : Int) (h : 0 ≤ x) (h' : x ≤ 9223372036854775807) : FnSem Tryz.prog 150 [In x] [] (Is [In x] []) := by
  have := c_impl_abs x
  rw [wrapI (n := 0 - x) (by omega) (by omega), show max x (0 - x) = x by omega] at this
  exact this
theorem c_impl_divRound (x y : Int) (hx : 0 ≤ x) (hx' : x ≤ 4000000000000000000) (hy : 1 ≤ y) (hy' : y ≤ 4000000000000000000) : FnSem Tryz.prog 124 [In x, In y] [] (Is [In (rd x y)] []) := by
  have g1 := Int.emod_nonneg x (show y ≠ 0 by omega)
  have g2 := Int.emod_lt_of_pos x (show 0 < y by omega)
  have g3 := Int.ediv_nonneg hx (show 0 ≤ y by omega)
  have g4 := Int.ediv_le_self y hx
  refine FnSem.walk (zs := zeroPV Tryz.prog) (by kernel_rfl) Tryz.func124 rfl Tryz.results124 (by kernel_rfl) (by kernel_rfl) (by kernel_rfl) fun hw hh => ?_
  obtain ⟨w0, w1, _⟩ := hw
  first | replace w0 := wf_I w0 | skip
  first | replace w1 := wf_I w1 | skip
  repeat' first
    | refine And.intro rfl ?_
    | refine GdF.mk (fun h => h) ?_
    | refine And.intro (Nat.succ_ne_zero _) ?_
    | refine And.intro (Nat.le_of_ble_eq_true rfl) ?_
    | refine SeqF.run ?_
    | refine ArgF.is (abs_nn _ (by omega) (by omega)) ?_
    | refine ArgQ.is (fun hG => abs_nn _ (by omega) (by omega)) rfl rfl ?_
    | refine GhF.go ?_
    | refine DrawG.old (DrawF.lex (by decide +kernel) ?_)
    | refine BndF.mk (fun _ => by omega) ?_
    | refine BndF.mk (fun _ => by simp only [lnS]; omega) ?_
    | refine EqI.mk _ (fun _ => wrapI (by omega) (by omega)) ?_
    | refine EqI.mk _ (fun _ => wrapD (by omega) (by omega) (by omega)) ?_
    | refine EqI.mk _ (fun _ => modE (by omega)) ?_
    | refine EqI.mk _ (fun _ => rfl) ?_
    | refine EqL.mk [] rfl ?_
    | refine EqL.mk [_] rfl ?_
    | refine EqL.mk _ rfl ?_
    | refine ArgF.is (c_impl_abs ..) ?_
    | refine ArgQ.is (fun hG => c_impl_abs ..) rfl rfl ?_
    | refine CallF.mk (CallW.is [] true rfl ?_)
    | refine CallG.mk ?_
    | (refine CondF.mk (fun hb => ?_) (fun hb => ?_) <;> try simp only [forall_const, eq_self, not_true_eq_false, not_false_eq_true, or_false, false_or, or_self, or_true, true_or, and_true, true_and, and_false, false_and, decide_true, decide_false, Bool.not_true, Bool.not_false, decide_eq_true_eq, decide_eq_false_iff_not, ite_and_p, ite_or_p, Bool.decide_eq_true, Bool.and_eq_true, Bool.or_eq_true, Bool.not_eq_true', Bool.not_eq_false', Bool.and_eq_false_imp, Bool.or_eq_false_iff, bne_iff_ne, beq_iff_eq, bne_eq_false_iff_eq, beq_eq_false_iff_ne, gt_iff_lt, ge_iff_le, Int.not_lt, Int.not_le, ne_eq, Bool.true_eq_false, Bool.false_eq_true, reduceCtorEq, eta_Airway, eta_Fan, eta_Mine] at hb)
    | refine RetF.auto (And.intro rfl ?_)
    | exact Is.mk rfl rfl
    | refine Is.mk ?_ rfl
    | refine Is.mk rfl ?_
    | refine Is.mk ?_ ?_
  all_goals try dsimp only
  all_goals try simp only [Bo, I, OB.row.injEq, AV.osl.injEq, eI_same,  List.cons.injEq, AV.p.injEq, PV.c.injEq, Value.int.injEq, Value.bool.injEq, and_true, true_and, ite_and_p, ite_or_p, Bool.decide_eq_true, eta_Airway, eta_Fan, eta_Mine, rd]
  all_goals grind
def okD (d s t : Int) : Bool := inR d 0 1000000 && inR s 0 1000000 && inR t 0 10000
def settled (d s t : Int) : Int × Int := if okD d s t then (setN s t.toNat d, 0) else (0, 2)
def dustOf (d f : Int) : Int × Int := if inR d 0 1000000 && inR f 1 100000 then (min (rd (100000 * d) f) 1000000, 0) else (0, 2)
end Go.Proofs.YtdhkpmaanegjkaaGreatDoor

set_option linter.unusedVariables false
set_option linter.unusedSimpArgs false
namespace Go.Proofs.YtdhkpmaanegjkaaGreatDoor
open Go.Av
attribute [local irreducible] Go.IntKind.wrap
set_option maxRecDepth 20000
set_option maxHeartbeats 4000000
theorem abs_ng (x : Int) (h : 0 ≤ x) (h' : x ≤ 4000000000000000000) : FnSem Tryz.prog 150 [In (-x)] [] (Is [In x] []) := by
  have := c_impl_abs (-x)
  rw [wrapI (n := 0 - -x) (by omega) (by omega), show max (-x) (0 - -x) = x by omega] at this
  exact this
--@fn impl.divRound
theorem divRound_ng (a y : Int) (hx : 0 < a) (hx' : a ≤ 4000000000000000000) (hy : 1 ≤ y) (hy' : y ≤ 4000000000000000000) : FnSem Tryz.prog 124 [In (-a), In y] [] (Is [In (-(rd a y))] []) := by
  have g1 := Int.emod_nonneg a (show y ≠ 0 by omega)
  have g2 := Int.emod_lt_of_pos a (show 0 < y by omega)
  have g3 := Int.ediv_nonneg (show 0 ≤ a by omega) (show 0 ≤ y by omega)
  have g4 := Int.ediv_le_self y (show 0 ≤ a by omega)
  refine FnSem.walk (zs := zeroPV Tryz.prog) (by kernel_rfl) Tryz.func124 rfl Tryz.results124 (by kernel_rfl) (by kernel_rfl) (by kernel_rfl) fun hw hh => ?_
  obtain ⟨w0, w1, _⟩ := hw
  first | replace w0 := wf_I w0 | skip
  first | replace w1 := wf_I w1 | skip
  repeat' first
    | refine And.intro rfl ?_
    | refine GdF.mk (fun h => h) ?_
    | refine And.intro (Nat.succ_ne_zero _) ?_
    | refine And.intro (Nat.le_of_ble_eq_true rfl) ?_
    | refine SeqF.run ?_
    | refine EqI.mk (-(a / y)) (fun _ => by rw [Int.neg_tdiv, Int.tdiv_eq_ediv_of_nonneg (by omega)]; exact wrapI (by omega) (by omega)) ?_
    | refine EqI.mk (-(a % y)) (fun _ => by rw [Int.neg_tmod, Int.tmod_eq_emod_of_nonneg (by omega)]) ?_
    | refine ArgF.is (abs_ng _ (by omega) (by omega)) ?_
    | refine ArgQ.is (fun hG => abs_ng _ (by omega) (by omega)) rfl rfl ?_
    | refine ArgF.is (abs_nn _ (by omega) (by omega)) ?_
    | refine ArgQ.is (fun hG => abs_nn _ (by omega) (by omega)) rfl rfl ?_
    | refine GhF.go ?_
    | refine DrawG.old (DrawF.lex (by decide +kernel) ?_)
    | refine BndF.mk (fun _ => by omega) ?_
    | refine BndF.mk (fun _ => by simp only [lnS]; omega) ?_
    | refine EqI.mk _ (fun _ => wrapI (by omega) (by omega)) ?_
    | refine EqI.mk _ (fun _ => wrapD (by omega) (by omega) (by omega)) ?_
    | refine EqI.mk _ (fun _ => modE (by omega)) ?_
    | refine EqI.mk _ (fun _ => rfl) ?_
    | refine EqL.mk [] rfl ?_
    | refine EqL.mk [_] rfl ?_
    | refine EqL.mk _ rfl ?_
    | refine ArgF.is (c_impl_abs ..) ?_
    | refine ArgQ.is (fun hG => c_impl_abs ..) rfl rfl ?_
    | refine CallF.mk (CallW.is [] true rfl ?_)
    | refine CallG.mk ?_
    | (refine CondF.mk (fun hb => ?_) (fun hb => ?_) <;> try simp only [forall_const, eq_self, not_true_eq_false, not_false_eq_true, or_false, false_or, or_self, or_true, true_or, and_true, true_and, and_false, false_and, decide_true, decide_false, Bool.not_true, Bool.not_false, decide_eq_true_eq, decide_eq_false_iff_not, ite_and_p, ite_or_p, Bool.decide_eq_true, Bool.and_eq_true, Bool.or_eq_true, Bool.not_eq_true', Bool.not_eq_false', Bool.and_eq_false_imp, Bool.or_eq_false_iff, bne_iff_ne, beq_iff_eq, bne_eq_false_iff_eq, beq_eq_false_iff_ne, gt_iff_lt, ge_iff_le, Int.not_lt, Int.not_le, ne_eq, Bool.true_eq_false, Bool.false_eq_true, reduceCtorEq, eta_Airway, eta_Fan, eta_Mine] at hb)
    | refine RetF.auto (And.intro rfl ?_)
    | exact Is.mk rfl rfl
    | refine Is.mk ?_ rfl
    | refine Is.mk rfl ?_
    | refine Is.mk ?_ ?_
  all_goals try dsimp only
  all_goals try simp only [Bo, I, OB.row.injEq, AV.osl.injEq, eI_same,  List.cons.injEq, AV.p.injEq, PV.c.injEq, Value.int.injEq, Value.bool.injEq, and_true, true_and, ite_and_p, ite_or_p, Bool.decide_eq_true, eta_Airway, eta_Fan, eta_Mine, rd]
  all_goals grind
def rdZ (x y : Int) : Int := if 0 ≤ x then rd x y else -(rd (-x) y)
theorem divRoundZ (x y : Int) (hx : -4000000000000000000 ≤ x ∧ x ≤ 4000000000000000000) (hy : 1 ≤ y) (hy' : y ≤ 4000000000000000000) : FnSem Tryz.prog 124 [In x, In y] [] (Is [In (rdZ x y)] []) := by
  unfold rdZ
  split
  · exact c_impl_divRound x y (by omega) (by omega) hy hy'
  · have := divRound_ng (-x) y (by omega) (by omega) hy hy'
    rwa [Int.neg_neg] at this
theorem rd_mono {x x' y : Int} (hx : 0 ≤ x) (h : x ≤ x') (hy : 0 < y) : rd x y ≤ rd x' y := by
  rw [rd_eq hx hy, rd_eq (by omega) hy]
  exact Int.ediv_le_ediv (by omega) (by omega)
theorem rd_lo {a x y : Int} (hx : 0 ≤ x) (hy : 0 < y) (h : a * y ≤ x) : a ≤ rd x y := by
  rw [rd_eq hx hy, Int.le_ediv_iff_mul_le (by omega), Int.mul_left_comm]; omega
theorem rd_hi {b x y : Int} (hx : 0 ≤ x) (hy : 0 < y) (h : x ≤ b * y) : rd x y ≤ b := by
  rw [rd_eq hx hy]
  apply Int.le_of_lt_add_one
  apply Int.ediv_lt_of_lt_mul (by omega)
  rw [Int.mul_left_comm, Int.add_mul]; omega
theorem rd_0 {y : Int} (hy : 0 < y) : rd 0 y = 0 := by
  have h1 := rd_lo (a := 0) (x := 0) (by omega) hy (by omega)
  have h2 := rd_hi (b := 0) (x := 0) (by omega) hy (by omega)
  omega
theorem rdZ_neg {x y : Int} (hy : 0 < y) : rdZ (-x) y = -(rdZ x y) := by
  unfold rdZ
  by_cases h : x = 0
  · subst h; simp [rd_0 hy]
  · by_cases h1 : 0 ≤ x
    · rw [if_neg (by omega), if_pos h1, Int.neg_neg]
    · rw [if_pos (by omega), if_neg h1, Int.neg_neg]
theorem rdZ_p {x y : Int} (h : 0 ≤ x) : rdZ x y = rd x y := by unfold rdZ; rw [if_pos h]
theorem rdZ_mono {x x' y : Int} (h : x ≤ x') (hy : 0 < y) : rdZ x y ≤ rdZ x' y := by
  unfold rdZ
  by_cases h1 : 0 ≤ x
  · rw [if_pos h1, if_pos (by omega)]; exact rd_mono h1 h hy
  · rw [if_neg h1]
    have e1 := rd_lo (a := 0) (x := -x) (by omega) hy (by omega)
    by_cases h2 : 0 ≤ x'
    · rw [if_pos h2]
      have e2 := rd_lo (a := 0) (x := x') h2 hy (by omega)
      omega
    · rw [if_neg h2]
      have := rd_mono (x := -x') (x' := -x) (by omega) (by omega) hy
      omega
theorem rdZ_lo {a x y : Int} (hy : 0 < y) (h : a * y ≤ x) : a ≤ rdZ x y := by
  unfold rdZ
  split
  · rename_i h1; exact rd_lo h1 hy h
  · rename_i h1
    have := rd_hi (b := -a) (x := -x) (by omega) hy (by rw [Int.neg_mul]; omega)
    omega
theorem rdZ_hi {b x y : Int} (hy : 0 < y) (h : x ≤ b * y) : rdZ x y ≤ b := by
  unfold rdZ
  split
  · rename_i h1; exact rd_hi h1 hy h
  · rename_i h1
    have := rd_lo (a := -b) (x := -x) (by omega) hy (by rw [Int.neg_mul]; omega)
    omega
end Go.Proofs.YtdhkpmaanegjkaaGreatDoor

set_option linter.unusedVariables false
set_option linter.unusedSimpArgs false
namespace Go.Proofs.YtdhkpmaanegjkaaGreatDoor
open Go.Av
attribute [local irreducible] Go.IntKind.wrap leastI rdZ rd
set_option maxRecDepth 20000
set_option maxHeartbeats 4000000
theorem sq_le {a b : Int} (h0 : 0 ≤ a) (h : a ≤ b) : a * a ≤ b * b := Int.mul_le_mul h h h0 (by omega)
def rootP (n r : Int) : Bool := decide (n < (r + 1) * (r + 1))
def rootI (n : Int) : Int := if n < 0 then 0 else leastI (rootP n) 0 3037000498
theorem rootP_mono {n a b : Int} (h0 : 0 ≤ a) (h : a ≤ b) (hp : rootP n a = true) : rootP n b = true := by
  have h1 : n < (a + 1) * (a + 1) := of_decide_eq_true hp
  have h2 := sq_le (a := a + 1) (b := b + 1) (by omega) (by omega)
  exact decide_eq_true (show n < (b + 1) * (b + 1) by omega)
theorem rootI_of {n m : Int} (h0 : 0 ≤ m) (h1 : m ≤ 3037000499) (h2 : m = 0 ∨ m * m ≤ n) (h3 : m = 3037000499 ∨ n < (m + 1) * (m + 1)) : rootI n = m := by
  unfold rootI
  split
  · rename_i hn
    rcases h2 with h2 | h2
    · exact h2.symm
    · have := Int.mul_nonneg h0 h0; omega
  · rename_i hn
    have hlt : ∀ k, 0 ≤ k → k < m → rootP n k = false := fun k a b => by
      have := sq_le (a := k + 1) (b := m) (by omega) (by omega)
      exact decide_eq_false (by omega)
    by_cases e : m = 3037000499
    · rw [leastI_no fun k a b => hlt k a (by omega)]; omega
    · exact leastI_at h0 (by omega) (decide_eq_true (by omega)) hlt
theorem c_spec_l01Div (a b : Int) (ha : -4000000000000000000 ≤ a ∧ a ≤ 4000000000000000000) (hb : 1 ≤ b ∧ b ≤ 1000000000000000000) : FnSem Tryz.prog 134 [In a, In b] [] (Is [In (rdZ a b)] []) := by
  have e : rdZ a b = if 0 ≤ a then (2 * a + b) / (2 * b) else -((b - 2 * a) / (2 * b)) := by
    unfold rdZ
    split
    · rw [rd_eq (by omega) (by omega)]
    · rw [rd_eq (by omega) (by omega)]; congr 2; omega
  have b1 := rdZ_lo (a := -4000000000000000000) (x := a) (y := b) (by omega) (by have := Int.mul_le_mul_of_nonneg_left hb.1 (show (0 : Int) ≤ 4000000000000000000 by omega); rw [Int.neg_mul]; omega)
  have b2 := rdZ_hi (b := 4000000000000000000) (x := a) (y := b) (by omega) (by have := Int.mul_le_mul_of_nonneg_left hb.1 (show (0 : Int) ≤ 4000000000000000000 by omega); omega)
  rw [e] at b1 b2 ⊢
  refine FnSem.walk (zs := zeroPV Tryz.prog) (by kernel_rfl) Tryz.func134 rfl Tryz.results134 (by kernel_rfl) (by kernel_rfl) (by kernel_rfl) fun hw hh => ?_
  obtain ⟨w0, w1, _⟩ := hw
  first | replace w0 := wf_I w0 | skip
  first | replace w1 := wf_I w1 | skip
  repeat' first
    | refine And.intro rfl ?_
    | refine GdF.mk (fun h => h) ?_
    | refine And.intro (Nat.succ_ne_zero _) ?_
    | refine And.intro (Nat.le_of_ble_eq_true rfl) ?_
    | refine SeqF.run ?_
    | refine EqI.mk _ (fun _ => wrapD (by omega) (by omega) (by omega)) ?_
    | refine GhF.go ?_
    | refine BndF.mk (fun _ => by omega) ?_
    | refine BndF.mk (fun _ => by simp only [lnS]; omega) ?_
    | refine EqI.mk _ (fun _ => wrapI (by omega) (by omega)) ?_
    | refine EqI.mk _ (fun _ => wrapD (by omega) (by omega) (by omega)) ?_
    | refine EqI.mk _ (fun _ => rfl) ?_
    | (refine CondF.mk (fun hb => ?_) (fun hb => ?_) <;> try simp only [forall_const, eq_self, not_true_eq_false, not_false_eq_true, or_false, false_or, or_self, or_true, true_or, and_true, true_and, and_false, false_and, decide_true, decide_false, Bool.not_true, Bool.not_false, decide_eq_true_eq, decide_eq_false_iff_not, ite_and_p, ite_or_p, Bool.decide_eq_true, Bool.and_eq_true, Bool.or_eq_true, Bool.not_eq_true', Bool.not_eq_false', Bool.and_eq_false_imp, Bool.or_eq_false_iff, bne_iff_ne, beq_iff_eq, bne_eq_false_iff_eq, beq_eq_false_iff_ne, gt_iff_lt, ge_iff_le, Int.not_lt, Int.not_le, ne_eq, Bool.true_eq_false, Bool.false_eq_true, reduceCtorEq, eta_Airway, eta_Fan, eta_Mine] at hb)
    | refine RetF.auto (And.intro rfl ?_)
    | exact Is.mk rfl rfl
    | refine Is.mk ?_ rfl
    | refine Is.mk rfl ?_
    | refine Is.mk ?_ ?_
  all_goals try dsimp only
  all_goals try simp only [Bo, I, OB.row.injEq, AV.osl.injEq, eI_same,  List.cons.injEq, AV.p.injEq, PV.c.injEq, Value.int.injEq, Value.bool.injEq, and_true, true_and, ite_and_p, ite_or_p, Bool.decide_eq_true, eta_Airway, eta_Fan, eta_Mine]
  all_goals first
    | (exfalso; omega)
    | (rw [if_pos hb])
    | (rw [if_neg (by omega)]; omega)
end Go.Proofs.YtdhkpmaanegjkaaGreatDoor

set_option linter.unusedVariables false
set_option linter.unusedSimpArgs false
namespace Go.Proofs.YtdhkpmaanegjkaaGreatDoor
open Go.Av
attribute [local irreducible] Go.IntKind.wrap leastI rdZ rd rootI
set_option maxRecDepth 20000
set_option maxHeartbeats 4000000
def okAirway (x : GAirway) : Bool := isName x.id && inR x.from_ 0 15 && inR x.to 0 15 && (x.from_ != x.to) && inR x.length 1 10000 && inR x.section_ 50 5000 && inR x.friction 1 1000 && inR x.shock 0 1000
theorem okAirway_b {x : GAirway} (h : okAirway x = true) : (0 ≤ x.from_ ∧ x.from_ ≤ 15) ∧ (0 ≤ x.to ∧ x.to ≤ 15) ∧ ¬x.from_ = x.to ∧ (1 ≤ x.length ∧ x.length ≤ 10000) ∧ (50 ≤ x.section_ ∧ x.section_ ≤ 5000) ∧ (1 ≤ x.friction ∧ x.friction ≤ 1000) ∧ 0 ≤ x.shock ∧ x.shock ≤ 1000 := by
  simp only [okAirway, Bool.and_eq_true, inR_iff, bne_iff_ne, ne_eq] at h; omega
theorem c_impl_ValidAirway (x : GAirway) : FnSem Tryz.prog 47 [.p .any (.agg x.cells)] [] (Is [Bo (okAirway x)] []) := by
  refine FnSem.walk (zs := zeroPV Tryz.prog) (by kernel_rfl) Tryz.func47 rfl Tryz.results47 (by kernel_rfl) (by kernel_rfl) (by kernel_rfl) fun hw hh => ?_
  obtain ⟨w0, _⟩ := hw
  first | replace w0 := wf_Airway w0 | skip
  repeat' first
    | refine And.intro rfl ?_
    | refine GdF.mk (fun h => h) ?_
    | refine And.intro (Nat.succ_ne_zero _) ?_
    | refine And.intro (Nat.le_of_ble_eq_true rfl) ?_
    | refine SeqF.run ?_
    | refine GhF.go ?_
    | refine GdS.keep ?_
    | refine BndF.mk (fun _ => by omega) ?_
    | refine BndF.mk (fun _ => by simp only [lnS]; omega) ?_
    | refine BndF.mk (fun hG => by simp only [forall_const, eq_self, not_true_eq_false, not_false_eq_true, or_false, false_or, or_self, or_true, true_or, and_true, true_and, and_false, false_and, decide_true, decide_false, Bool.not_true, Bool.not_false, decide_eq_true_eq, decide_eq_false_iff_not, ite_and_p, ite_or_p, Bool.decide_eq_true, Bool.and_eq_true, Bool.or_eq_true, Bool.not_eq_true', Bool.not_eq_false', Bool.and_eq_false_imp, Bool.or_eq_false_iff, bne_iff_ne, beq_iff_eq, bne_eq_false_iff_eq, beq_eq_false_iff_ne, gt_iff_lt, ge_iff_le, Int.not_lt, Int.not_le, ne_eq, Bool.true_eq_false, Bool.false_eq_true, reduceCtorEq, eta_Airway, eta_Fan, eta_Mine, bytes_nil] at hG; (try simp only [List.length_map]); omega) ?_
    | refine EqL.mk [] rfl ?_
    | refine EqL.mk [_] rfl ?_
    | refine EqL.mk _ rfl ?_
    | refine ArgF.is (c_impl_IsName ..) ?_
    | refine ArgQ.is (fun hG => c_impl_IsName ..) rfl rfl ?_
    | refine ArgF.is (c_impl_junctionOk ..) ?_
    | refine ArgQ.is (fun hG => c_impl_junctionOk ..) rfl rfl ?_
    | refine ArgF.is (c_impl_within ..) ?_
    | refine ArgQ.is (fun hG => c_impl_within ..) rfl rfl ?_
    | refine CallF.mk (CallW.is [] true rfl ?_)
    | refine CallG.mk ?_
    | (refine CondF.mk (fun hb => ?_) (fun hb => ?_) <;> try simp only [forall_const, eq_self, not_true_eq_false, not_false_eq_true, or_false, false_or, or_self, or_true, true_or, and_true, true_and, and_false, false_and, decide_true, decide_false, Bool.not_true, Bool.not_false, decide_eq_true_eq, decide_eq_false_iff_not, ite_and_p, ite_or_p, Bool.decide_eq_true, Bool.and_eq_true, Bool.or_eq_true, Bool.not_eq_true', Bool.not_eq_false', Bool.and_eq_false_imp, Bool.or_eq_false_iff, bne_iff_ne, beq_iff_eq, bne_eq_false_iff_eq, beq_eq_false_iff_ne, gt_iff_lt, ge_iff_le, Int.not_lt, Int.not_le, ne_eq, Bool.true_eq_false, Bool.false_eq_true, reduceCtorEq, eta_Airway, eta_Fan, eta_Mine] at hb)
    | refine RetF.auto (And.intro rfl ?_)
    | exact Is.mk rfl rfl
    | refine Is.mk ?_ rfl
    | refine Is.mk rfl ?_
    | refine Is.mk ?_ ?_
  all_goals try dsimp only
  all_goals try simp only [Bo, I, OB.row.injEq, AV.osl.injEq, eI_same,  List.cons.injEq, AV.p.injEq, PV.c.injEq, Value.int.injEq, Value.bool.injEq, and_true, true_and, ite_and_p, ite_or_p, Bool.decide_eq_true, eta_Airway, eta_Fan, eta_Mine, okAirway]
theorem rootI_b {n b : Int} (h0 : 0 ≤ b) (h1 : n < (b + 1) * (b + 1)) (h2 : b ≤ 3037000498) : 0 ≤ rootI n ∧ rootI n ≤ b := by
  unfold rootI
  split
  · omega
  · have h3 := leastI_r (p := rootP n) (lo := 0) (hi := 3037000498) (by omega)
    refine ⟨h3.1, ?_⟩
    apply Int.not_lt.1; intro hlt
    have h4 : rootP n b = false := by
      by_cases e : leastI (rootP n) 0 3037000498 ≤ 3037000498
      · exact (leastI_hit e (by omega)).2.2 b h0 hlt
      · exact leastI_none e b h0 (by omega)
    have h5 := of_decide_eq_false h4
    omega
def rawA (x : GAirway) (s : Int) : Int := rdZ (x.friction * (x.length + x.shock) * rootI (s * 10000) * 400000) (s * s * s)
theorem rawA_b {x : GAirway} {s : Int} (h : okAirway x = true) (hs : 50 ≤ s ∧ s ≤ 5000) : (0 ≤ rootI (s * 10000) ∧ rootI (s * 10000) ≤ 10000) ∧ (0 ≤ x.friction * (x.length + x.shock) ∧ x.friction * (x.length + x.shock) ≤ 11000000) ∧ (0 ≤ x.friction * (x.length + x.shock) * rootI (s * 10000) ∧ x.friction * (x.length + x.shock) * rootI (s * 10000) ≤ 110000000000) ∧ (0 ≤ s * s ∧ s * s ≤ 25000000) ∧ (1 ≤ s * s * s ∧ s * s * s ≤ 125000000000) := by
  have hb := okAirway_b h
  have h1 := rootI_b (n := s * 10000) (b := 10000) (by omega) (by omega) (by omega)
  have h2 := mulB' (a := x.friction) (A := 1000) (b := x.length + x.shock) (B := 11000) (by omega) (by omega) (by omega) (by omega)
  have h3 := mulB' (A := 11000000) (B := 10000) h2.1 h2.2 h1.1 h1.2
  have h4 := mulB' (a := s) (A := 5000) (b := s) (B := 5000) (by omega) (by omega) (by omega) (by omega)
  have h5 := mulB' (A := 25000000) (B := 5000) h4.1 h4.2 (show 0 ≤ s by omega) (by omega)
  have h6 := Int.mul_le_mul (show (1 : Int) ≤ s by omega) (show (1 : Int) ≤ s by omega) (by omega) (by omega)
  have h7 := Int.mul_le_mul (show (1 : Int) ≤ s * s by omega) (show (1 : Int) ≤ s by omega) (by omega) (by omega)
  omega
end Go.Proofs.YtdhkpmaanegjkaaGreatDoor

set_option linter.unusedVariables false
set_option linter.unusedSimpArgs false
namespace Go.Proofs.YtdhkpmaanegjkaaGreatDoor
open Go.Av
attribute [local irreducible] Go.IntKind.wrap
set_option maxRecDepth 20000
set_option maxHeartbeats 2000000
def okMode (x : GMode) : Bool := isName x.name && inR x.flow 0 100000 && inR x.power 0 10000000
def okModes (xs : List GMode) : Bool := okAll okMode (fun a b => sLt a.name b.name) default xs && decide (xs.length ≤ 8)
end Go.Proofs.YtdhkpmaanegjkaaGreatDoor

set_option linter.unusedVariables false
set_option linter.unusedSimpArgs false
namespace Go.Proofs.YtdhkpmaanegjkaaGreatDoor
open Go.Av
attribute [local irreducible] Go.IntKind.wrap okModes okMode
set_option maxRecDepth 20000
set_option maxHeartbeats 2000000
def okHours (xs : List Int) (most : Int) : Bool := decide (xs.length = 24) && xs.all (inR · 0 most)
theorem okHours_iff {xs : List Int} {most : Int} : okHours xs most = true ↔ xs.length = 24 ∧ ∀ j : Nat, (j : Int) < 24 → 0 ≤ xs.getD j 0 ∧ xs.getD j 0 ≤ most := by
  unfold okHours
  rw [Bool.and_eq_true, decide_eq_true_eq, all_iff (d := 0)]
  constructor
  · rintro ⟨h1, h2⟩; exact ⟨h1, fun j hj => inR_iff.1 (h2 j (by omega))⟩
  · rintro ⟨h1, h2⟩; exact ⟨h1, fun j hj => inR_iff.2 (h2 j (by omega))⟩
theorem okModes_p {ms : List GMode} (h : okModes ms = true) : ms.length ≤ 8 ∧ ∀ j : Nat, (j : Int) < ms.length → okMode (ms.getD j default) = true := by
  unfold okModes okAll at h
  simp only [Bool.and_eq_true, decide_eq_true_eq] at h
  exact ⟨h.2, fun j hj => all_iff.1 h.1.1 j hj⟩
theorem okMode_b {x : GMode} (h : okMode x = true) : (0 ≤ x.flow ∧ x.flow ≤ 100000) ∧ 0 ≤ x.power ∧ x.power ≤ 10000000 := by
  simp only [okMode, Bool.and_eq_true, inR_iff] at h; omega
def modeAt (ms : List GMode) (day : List Int) (j : Nat) : GMode := ms.getD (day.getD j 0).toNat default
theorem modeAt_b {ms : List GMode} {day : List Int} (h : okModes ms = true) (hd : okHours day (ms.length - 1) = true) {j : Nat} (hj : (j : Int) < 24) : (0 ≤ day.getD j 0 ∧ day.getD j 0 < ms.length) ∧ (0 ≤ (modeAt ms day j).flow ∧ (modeAt ms day j).flow ≤ 100000) ∧ 0 ≤ (modeAt ms day j).power ∧ (modeAt ms day j).power ≤ 10000000 := by
  have h1 := (okHours_iff.1 hd).2 j hj
  exact ⟨by omega, okMode_b ((okModes_p h).2 _ (by omega))⟩
def allN (n : Nat) (p : Nat → Bool) : Bool := (List.range n).all p
theorem allN_t {n : Nat} {p : Nat → Bool} {i : Int} (hi : (n : Int) ≤ i) (h : ∀ j : Nat, (j : Int) < i → p j = true) : allN n p = true :=
  List.all_eq_true.2 fun j hj => h j (by have := List.mem_range.1 hj; omega)
theorem allN_f {n : Nat} {p : Nat → Bool} {i : Int} (h0 : 0 ≤ i) (hi : i < n) (h : p i.toNat = false) : allN n p = false :=
  Bool.eq_false_iff.2 fun hh => by rw [List.all_eq_true.1 hh i.toNat (List.mem_range.2 (by omega))] at h; cases h
def fitsM (ms : List GMode) (needs day : List Int) (j : Nat) : Bool := decide (needs.getD j 0 ≤ (modeAt ms day j).flow)
def isDay (ms : List GMode) (needs day : List Int) : Bool := okModes ms && okHours needs 100000 && okHours day (ms.length - 1) && allN 24 (fitsM ms needs day)
theorem ok3 {ms : List GMode} {a b : Bool} (h : ¬(okModes ms = false ∨ a = false) ∧ b = true) : okModes ms = true ∧ a = true ∧ b = true := by
  cases a <;> cases b <;> simp_all
theorem isDay_all {ms : List GMode} {needs day : List Int} (h : okModes ms = true ∧ okHours needs 100000 = true ∧ okHours day (ms.length - 1) = true) : isDay ms needs day = allN 24 (fitsM ms needs day) := by
  unfold isDay; rw [h.1, h.2.1, h.2.2]; simp
theorem dayB {ms : List GMode} {day : List Int} (h : okHours day (ms.length - 1) = true) : day.length = 24 ∧ ∀ j : Nat, (j : Int) < 24 → 0 ≤ day.getD j 0 ∧ day.getD j 0 < ms.length := by
  have h1 := okHours_iff.1 h
  exact ⟨h1.1, fun j hj => by have := h1.2 j hj; omega⟩
end Go.Proofs.YtdhkpmaanegjkaaGreatDoor
