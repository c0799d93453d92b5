/- Contracts of functions of the program, and what they compute. Conditions: those that each theorem states. -/
import Derived.Test.YtmifcbekaniiiaaDoorProg
import Derived.Test.YtmifcbekaniiiaaDoorT9
import Derived.Test.YtmifcbekaniiiaaDoorL9
import Derived.Test.YtmifcbekaniiiaaDoorR1
import Derived.Test.YtmifcbekaniiiaaDoorF1
set_option linter.unusedVariables false
set_option linter.unusedSimpArgs false
namespace Go.Proofs.YtmifcbekaniiiaaDoor
open Go.Av
attribute [local irreducible] Go.IntKind.wrap listS decS satI vapI rd rdZ
set_option maxRecDepth 20000
set_option maxHeartbeats 8000000

/-! Air: densities, depths. -/
theorem rd_antiN {x y : Int} (hx : 0 ≤ x) (hy : 0 < y) : ∀ n : Nat, rd x (y + n) ≤ rd x y
  | 0 => by rw [show y + ((0 : Nat) : Int) = y by omega]; exact Int.le_refl _
  | n + 1 => by
    have h1 := rd_antiN hx hy n
    have h2 := rd_anti (x := x) (y := y + n) hx (by omega)
    rw [show y + ((n + 1 : Nat) : Int) = y + n + 1 by omega]
    omega
theorem rd_antiY {x y y' : Int} (hx : 0 ≤ x) (hy : 0 < y) (h : y ≤ y') : rd x y' ≤ rd x y := by
  have := rd_antiN hx hy (y' - y).toNat
  rwa [show y + ((y' - y).toNat : Int) = y' by omega] at this
def densI (t p : Int) : Int := rd (4000000 * p) (57410 * (5463 + 2 * t))
theorem densI_b {t p : Int} (ht : -100 ≤ t ∧ t ≤ 600) (hp : 40000 ≤ p ∧ p ≤ 200000) : 1 ≤ densI t p ∧ densI t p ≤ 2700 :=
  ⟨rd_lo (by omega) (by omega) (by omega), rd_hi (by omega) (by omega) (by omega)⟩
theorem densI_1 {t p : Int} (ht : -100 ≤ t ∧ t ≤ 600) (hp : 40000 ≤ p) : 1 ≤ densI t p := rd_lo (by omega) (by omega) (by omega)
theorem densI_p {t p q : Int} (ht : -100 ≤ t ∧ t ≤ 600) (h0 : 0 ≤ p) (h : p ≤ q) : densI t p ≤ densI t q := rd_mono (by omega) (by omega) (by omega)
theorem densI_t {t s p : Int} (ht : -100 ≤ t) (h0 : 0 ≤ p) (h : t ≤ s) : densI s p ≤ densI t p := rd_antiY (by omega) (by omega) (by omega)
theorem c_impl_densityOf (t p : Int) (ht : -100 ≤ t ∧ t ≤ 600) (hp : 40000 ≤ p ∧ p ≤ 200000) : FnSem Tryd.prog 60 [In t, In p] [] (Is [In (densI t p)] []) := by
  refine FnSem.walk (zs := zeroPV Tryd.prog) (by kernel_rfl) Tryd.func60 rfl Tryd.results60 (by kernel_rfl) (by kernel_rfl) (by kernel_rfl) fun hw hh => ?_
  obtain ⟨w0, w1, _⟩ := hw
  first | replace w0 := wf_I w0 | skip
  first | replace w1 := wf_I w1 | skip
  repeat' first
    | refine And.intro rfl ?_
    | refine GdF.mk (fun h => h) ?_
    | refine And.intro (Nat.succ_ne_zero _) ?_
    | refine And.intro (Nat.le_of_ble_eq_true rfl) ?_
    | refine SeqF.run ?_
    | refine GhF.go ?_
    | refine BndF.mk (fun _ => by omega) ?_
    | refine BndF.mk (fun _ => by simp only [List.length_map, List.length_cons, List.length_nil, List.length_append, List.length_set, List.length_replicate, iotaI_len]; omega) ?_
    | refine EqI.mk _ (fun _ => wrapI (by omega) (by omega)) ?_
    | refine EqI.mk _ (fun _ => rfl) ?_
    | refine EqL.mk [] rfl ?_
    | refine EqL.mk [_] rfl ?_
    | refine EqL.mk _ rfl ?_
    | refine ArgF.is (c_impl_divRound _ _ (by first | assumption | omega) (by first | assumption | omega) (by first | assumption | omega) (by first | assumption | omega)) ?_
    | refine ArgQ.is (fun hG => c_impl_divRound _ _ (by first | assumption | omega) (by first | assumption | omega) (by first | assumption | omega) (by first | assumption | omega)) rfl rfl ?_
    | refine CallF.mk (CallW.is [] true rfl ?_)
    | refine CallG.mk ?_
    | (refine CondF.mk (fun hb => ?_) (fun hb => ?_) <;> try simp only [forall_const, eq_self, not_true_eq_false, not_false_eq_true, or_false, false_or, or_self, or_true, true_or, and_true, true_and, and_false, false_and, decide_true, decide_false, Bool.not_true, Bool.not_false, decide_eq_true_eq, decide_eq_false_iff_not, ite_and_p, ite_or_p, Bool.decide_eq_true, Bool.and_eq_true, Bool.or_eq_true, Bool.not_eq_true', Bool.not_eq_false', Bool.and_eq_false_imp, Bool.or_eq_false_iff, bne_iff_ne, beq_iff_eq, bne_eq_false_iff_eq, beq_eq_false_iff_ne, gt_iff_lt, ge_iff_le, Int.not_lt, Int.not_le, ne_eq, Bool.true_eq_false, Bool.false_eq_true, reduceCtorEq, eta_Air, eta_Heading] at hb)
    | refine RetF.auto (And.intro rfl ?_)
    | exact Is.mk rfl rfl
    | refine Is.mk ?_ rfl
    | refine Is.mk rfl ?_
    | refine Is.mk ?_ ?_
def densOf (t p : Int) : Int × Int := if inR t (-100) 600 && inR p 50000 150000 then (densI t p, 0) else (0, 2)
theorem c_impl_DensityOf (t p : Int) : FnSem Tryd.prog 28 [In t, In p] [] (Is [In (densOf t p).1, In (densOf t p).2] []) := by
  refine FnSem.walk (zs := zeroPV Tryd.prog) (by kernel_rfl) Tryd.func28 rfl Tryd.results28 (by kernel_rfl) (by kernel_rfl) (by kernel_rfl) fun hw hh => ?_
  obtain ⟨w0, w1, _⟩ := hw
  first | replace w0 := wf_I w0 | skip
  first | replace w1 := wf_I w1 | skip
  repeat' first
    | refine And.intro rfl ?_
    | refine GdF.mk (fun h => h) ?_
    | refine And.intro (Nat.succ_ne_zero _) ?_
    | refine And.intro (Nat.le_of_ble_eq_true rfl) ?_
    | refine SeqF.run ?_
    | refine ArgF.is (c_impl_densityOf _ _ (by simp only [not_or, Bool.not_eq_false, inR_iff] at hb; omega) (by simp only [not_or, Bool.not_eq_false, inR_iff] at hb; omega)) ?_
    | refine ArgQ.is (fun hG => c_impl_densityOf _ _ (by simp only [not_or, Bool.not_eq_false, inR_iff] at hb; omega) (by simp only [not_or, Bool.not_eq_false, inR_iff] at hb; omega)) rfl rfl ?_
    | refine GhF.go ?_
    | refine GdS.keep ?_
    | refine BndF.mk (fun _ => by omega) ?_
    | refine BndF.mk (fun _ => by simp only [List.length_map, List.length_cons, List.length_nil, List.length_append, List.length_set, List.length_replicate, iotaI_len]; omega) ?_
    | refine BndF.mk (fun hG => by simp only [forall_const, eq_self, not_true_eq_false, not_false_eq_true, or_false, false_or, or_self, or_true, true_or, and_true, true_and, and_false, false_and, decide_true, decide_false, Bool.not_true, Bool.not_false, decide_eq_true_eq, decide_eq_false_iff_not, ite_and_p, ite_or_p, Bool.decide_eq_true, Bool.and_eq_true, Bool.or_eq_true, Bool.not_eq_true', Bool.not_eq_false', Bool.and_eq_false_imp, Bool.or_eq_false_iff, bne_iff_ne, beq_iff_eq, bne_eq_false_iff_eq, beq_eq_false_iff_ne, gt_iff_lt, ge_iff_le, Int.not_lt, Int.not_le, ne_eq, Bool.true_eq_false, Bool.false_eq_true, reduceCtorEq, eta_Air, eta_Heading, bytes_nil] at hG; (try simp only [List.length_map]); omega) ?_
    | refine EqL.mk [] rfl ?_
    | refine EqL.mk [_] rfl ?_
    | refine EqL.mk _ rfl ?_
    | refine ArgF.is (c_impl_warmthOk ..) ?_
    | refine ArgQ.is (fun hG => c_impl_warmthOk ..) rfl rfl ?_
    | refine ArgF.is (c_impl_airPressure ..) ?_
    | refine ArgQ.is (fun hG => c_impl_airPressure ..) rfl rfl ?_
    | refine ArgF.is (c_impl_densityOf _ _ (by first | assumption | omega) (by first | assumption | omega)) ?_
    | refine ArgQ.is (fun hG => c_impl_densityOf _ _ (by first | assumption | omega) (by first | assumption | omega)) rfl rfl ?_
    | refine ArgQ.is (fun hG => c_impl_densityOf _ _ (by simp only [forall_const, eq_self, not_true_eq_false, not_false_eq_true, or_false, false_or, or_self, or_true, true_or, and_true, true_and, and_false, false_and, decide_true, decide_false, Bool.not_true, Bool.not_false, decide_eq_true_eq, decide_eq_false_iff_not, ite_and_p, ite_or_p, Bool.decide_eq_true, Bool.and_eq_true, Bool.or_eq_true, Bool.not_eq_true', Bool.not_eq_false', Bool.and_eq_false_imp, Bool.or_eq_false_iff, bne_iff_ne, beq_iff_eq, bne_eq_false_iff_eq, beq_eq_false_iff_ne, gt_iff_lt, ge_iff_le, Int.not_lt, Int.not_le, ne_eq, Bool.true_eq_false, Bool.false_eq_true, reduceCtorEq, eta_Air, eta_Heading, bytes_nil] at hG; omega) (by simp only [forall_const, eq_self, not_true_eq_false, not_false_eq_true, or_false, false_or, or_self, or_true, true_or, and_true, true_and, and_false, false_and, decide_true, decide_false, Bool.not_true, Bool.not_false, decide_eq_true_eq, decide_eq_false_iff_not, ite_and_p, ite_or_p, Bool.decide_eq_true, Bool.and_eq_true, Bool.or_eq_true, Bool.not_eq_true', Bool.not_eq_false', Bool.and_eq_false_imp, Bool.or_eq_false_iff, bne_iff_ne, beq_iff_eq, bne_eq_false_iff_eq, beq_eq_false_iff_ne, gt_iff_lt, ge_iff_le, Int.not_lt, Int.not_le, ne_eq, Bool.true_eq_false, Bool.false_eq_true, reduceCtorEq, eta_Air, eta_Heading, bytes_nil] at hG; omega)) rfl rfl ?_
    | refine CallF.mk (CallW.is [] true rfl ?_)
    | refine CallG.mk ?_
    | (refine CondF.mk (fun hb => ?_) (fun hb => ?_) <;> try simp only [forall_const, eq_self, not_true_eq_false, not_false_eq_true, or_false, false_or, or_self, or_true, true_or, and_true, true_and, and_false, false_and, decide_true, decide_false, Bool.not_true, Bool.not_false, decide_eq_true_eq, decide_eq_false_iff_not, ite_and_p, ite_or_p, Bool.decide_eq_true, Bool.and_eq_true, Bool.or_eq_true, Bool.not_eq_true', Bool.not_eq_false', Bool.and_eq_false_imp, Bool.or_eq_false_iff, bne_iff_ne, beq_iff_eq, bne_eq_false_iff_eq, beq_eq_false_iff_ne, gt_iff_lt, ge_iff_le, Int.not_lt, Int.not_le, ne_eq, Bool.true_eq_false, Bool.false_eq_true, reduceCtorEq, eta_Air, eta_Heading] at hb)
    | refine RetF.auto (And.intro rfl ?_)
    | exact Is.mk rfl rfl
    | refine Is.mk ?_ rfl
    | refine Is.mk rfl ?_
    | refine Is.mk ?_ ?_
  all_goals try dsimp only
  all_goals try simp only [Bo, I, OB.row.injEq, AV.osl.injEq, eI_same,  List.cons.injEq, AV.p.injEq, PV.c.injEq, Value.int.injEq, Value.bool.injEq, and_true, true_and, ite_and_p, ite_or_p, Bool.decide_eq_true, eta_Air, eta_Heading, densOf]
  all_goals grind
theorem densOf_0 {t p : Int} (h : (densOf t p).2 = 0) : (-100 ≤ t ∧ t ≤ 600) ∧ (50000 ≤ p ∧ p ≤ 150000) ∧ (densOf t p).1 = densI t p := by
  unfold densOf at h ⊢
  split at h
  · rename_i h1
    rw [if_pos h1]
    simp only [Bool.and_eq_true, inR_iff] at h1
    exact ⟨h1.1, h1.2, rfl⟩
  · cases h
/-- what a hundred metres add -/
def incI (t p : Int) : Int := rd (98100 * densI t p) 100000
theorem incI_1 {t p : Int} (ht : -100 ≤ t ∧ t ≤ 600) (hp : 40000 ≤ p) : 1 ≤ incI t p := by
  have h1 := densI_1 ht hp
  unfold incI
  by_cases e : densI t p = 1
  · rw [e]; unfold rd; decide
  · exact rd_lo (by omega) (by omega) (by omega)
theorem incI_b {t p : Int} (ht : -100 ≤ t ∧ t ≤ 600) (hp : 40000 ≤ p ∧ p ≤ 200000) : 1 ≤ incI t p ∧ incI t p ≤ 2700 := by
  have h1 := densI_b ht hp
  exact ⟨incI_1 ht hp.1, rd_hi (by omega) (by omega) (by omega)⟩
def pdN (t p : Int) : Nat → Int
  | 0 => p
  | n + 1 => pdN t p n + incI t (pdN t p n)
theorem pdN_s {t p i : Int} (h : 0 ≤ i) : pdN t p (i + 1).toNat = pdN t p i.toNat + incI t (pdN t p i.toNat) := by rw [show (i + 1).toNat = i.toNat + 1 by omega]; rfl
theorem pdN_up {t p : Int} (ht : -100 ≤ t ∧ t ≤ 600) (hp : 40000 ≤ p) (n : Nat) : ∀ m : Nat, pdN t p n + m ≤ pdN t p (n + m) ∧ 40000 ≤ pdN t p (n + m)
  | 0 => by
    have h : ∀ k : Nat, 40000 ≤ pdN t p k := fun k => by
      induction k with
      | zero => exact hp
      | succ k ih => have := incI_1 ht ih; simp only [pdN]; omega
    exact ⟨by simp, h _⟩
  | m + 1 => by
    have h1 := pdN_up ht hp n m
    have h2 := incI_1 ht h1.2
    rw [show n + (m + 1) = (n + m) + 1 by omega]
    simp only [pdN]
    omega
theorem pdN_lt {t p : Int} (ht : -100 ≤ t ∧ t ≤ 600) (hp : 40000 ≤ p) {n m : Nat} (h : n < m) : pdN t p n < pdN t p m := by
  have := (pdN_up ht hp n (m - n)).1
  rw [show n + (m - n) = m by omega] at this
  omega
def pdR (t p : Int) (n : Nat) : Int × Int := if pdN t p n ≤ 150000 then (pdN t p n, 0) else (0, 6)
--@fn impl.PressureAtDepth
theorem depthT (t p : Int) (n : Nat) (ht : -100 ≤ t ∧ t ≤ 600) (hp : 50000 ≤ p ∧ p ≤ 150000) (hn : n ≤ 30) (d : Int) (hd : d = 100 * n) : FnSem Tryd.prog 29 [In t, In p, In d] [] (Is [In (pdR t p n).1, In (pdR t p n).2] []) := by
  have hi := fun v => incI_b (t := t) (p := v) ht
  have hdn := fun v => densI_b (t := t) (p := v) ht
  refine FnSem.walk (zs := zeroPV Tryd.prog) (by kernel_rfl) Tryd.func29 rfl Tryd.results29 (by kernel_rfl) (by kernel_rfl) (by kernel_rfl) fun hw hh => ?_
  obtain ⟨w0, w1, w2, _⟩ := hw
  first | replace w0 := wf_I w0 | skip
  first | replace w1 := wf_I w1 | skip
  first | replace w2 := wf_I w2 | skip
  repeat' first
    | refine And.intro rfl ?_
    | refine GdF.mk (fun h => h) ?_
    | refine And.intro (Nat.succ_ne_zero _) ?_
    | refine And.intro (Nat.le_of_ble_eq_true rfl) ?_
    | refine SeqF.run ?_
    | refine EqI.mk 98100 (fun _ => by rw [show min e 100 = 100 by omega]; exact wrapI (by omega) (by omega)) ?_
    | refine ArgF.is (c_impl_densityOf t v ht (by omega)) ?_
    | refine ArgQ.is (fun hG => c_impl_densityOf t v ht (by omega)) rfl rfl ?_
    | refine EqI.mk (98100 * densI t v) (fun _ => by have q := hdn v (by omega); exact wrapI (by omega) (by omega)) ?_
    | refine ArgF.is (c_impl_divRound (98100 * densI t v) 100000 (by have q := hdn v (by omega); omega) (by have q := hdn v (by omega); omega) (by omega) (by omega)) ?_
    | refine ArgQ.is (fun hG => c_impl_divRound (98100 * densI t v) 100000 (by have q := hdn v (by omega); omega) (by have q := hdn v (by omega); omega) (by omega) (by omega)) rfl rfl ?_
    | refine EqI.mk (v + incI t v) (fun _ => by have q := hi v (by omega); exact wrapI (by unfold incI at q; omega) (by unfold incI at q; omega)) ?_
    | refine LoopF.at 3 rfl (LoopF.fix [0] (Int × Int) (fun (v, e) => 0 ≤ e ∧ e ≤ d ∧ e % 100 = 0 ∧ v = pdN t p (n - e / 100).toNat ∧ 50000 ≤ v ∧ v ≤ 150000) (fun (v, e) => [(1, In v), (2, In e)]) (fun (v, e) => []) (fun (v, e) => (e.toNat)) ((p, d)) ?_)
    | (refine LoopB.of (T := Int × Int) ?_ ?_; rotate_left; rintro ⟨v, e⟩ ⟨h0, h1, h2, h3, h4, h5⟩; rotate_left)
    | refine GhF.go ?_
    | refine GdS.keep ?_
    | refine BndF.mk (fun _ => by omega) ?_
    | refine BndF.mk (fun _ => by simp only [List.length_map, List.length_cons, List.length_nil, List.length_append, List.length_set, List.length_replicate, iotaI_len]; omega) ?_
    | refine BndF.mk (fun hG => by simp only [forall_const, eq_self, not_true_eq_false, not_false_eq_true, or_false, false_or, or_self, or_true, true_or, and_true, true_and, and_false, false_and, decide_true, decide_false, Bool.not_true, Bool.not_false, decide_eq_true_eq, decide_eq_false_iff_not, ite_and_p, ite_or_p, Bool.decide_eq_true, Bool.and_eq_true, Bool.or_eq_true, Bool.not_eq_true', Bool.not_eq_false', Bool.and_eq_false_imp, Bool.or_eq_false_iff, bne_iff_ne, beq_iff_eq, bne_eq_false_iff_eq, beq_eq_false_iff_ne, gt_iff_lt, ge_iff_le, Int.not_lt, Int.not_le, ne_eq, Bool.true_eq_false, Bool.false_eq_true, reduceCtorEq, eta_Air, eta_Heading, bytes_nil] at hG; (try simp only [List.length_map]); omega) ?_
    | refine EqI.mk _ (fun _ => wrapI (by omega) (by omega)) ?_
    | refine EqI.mk _ (fun _ => rfl) ?_
    | refine EqL.mk [] rfl ?_
    | refine EqL.mk [_] rfl ?_
    | refine EqL.mk _ rfl ?_
    | refine ArgF.is (c_impl_warmthOk ..) ?_
    | refine ArgQ.is (fun hG => c_impl_warmthOk ..) rfl rfl ?_
    | refine ArgF.is (c_impl_airPressure ..) ?_
    | refine ArgQ.is (fun hG => c_impl_airPressure ..) rfl rfl ?_
    | refine ArgF.is (c_impl_within ..) ?_
    | refine ArgQ.is (fun hG => c_impl_within ..) rfl rfl ?_
    | refine ArgF.is (c_impl_densityOf _ _ (by first | assumption | omega) (by first | assumption | omega)) ?_
    | refine ArgQ.is (fun hG => c_impl_densityOf _ _ (by first | assumption | omega) (by first | assumption | omega)) rfl rfl ?_
    | refine ArgQ.is (fun hG => c_impl_densityOf _ _ (by simp only [forall_const, eq_self, not_true_eq_false, not_false_eq_true, or_false, false_or, or_self, or_true, true_or, and_true, true_and, and_false, false_and, decide_true, decide_false, Bool.not_true, Bool.not_false, decide_eq_true_eq, decide_eq_false_iff_not, ite_and_p, ite_or_p, Bool.decide_eq_true, Bool.and_eq_true, Bool.or_eq_true, Bool.not_eq_true', Bool.not_eq_false', Bool.and_eq_false_imp, Bool.or_eq_false_iff, bne_iff_ne, beq_iff_eq, bne_eq_false_iff_eq, beq_eq_false_iff_ne, gt_iff_lt, ge_iff_le, Int.not_lt, Int.not_le, ne_eq, Bool.true_eq_false, Bool.false_eq_true, reduceCtorEq, eta_Air, eta_Heading, bytes_nil] at hG; omega) (by simp only [forall_const, eq_self, not_true_eq_false, not_false_eq_true, or_false, false_or, or_self, or_true, true_or, and_true, true_and, and_false, false_and, decide_true, decide_false, Bool.not_true, Bool.not_false, decide_eq_true_eq, decide_eq_false_iff_not, ite_and_p, ite_or_p, Bool.decide_eq_true, Bool.and_eq_true, Bool.or_eq_true, Bool.not_eq_true', Bool.not_eq_false', Bool.and_eq_false_imp, Bool.or_eq_false_iff, bne_iff_ne, beq_iff_eq, bne_eq_false_iff_eq, beq_eq_false_iff_ne, gt_iff_lt, ge_iff_le, Int.not_lt, Int.not_le, ne_eq, Bool.true_eq_false, Bool.false_eq_true, reduceCtorEq, eta_Air, eta_Heading, bytes_nil] at hG; omega)) rfl rfl ?_
    | refine ArgF.is (c_impl_divRound _ _ (by first | assumption | omega) (by first | assumption | omega) (by first | assumption | omega) (by first | assumption | omega)) ?_
    | refine ArgQ.is (fun hG => c_impl_divRound _ _ (by first | assumption | omega) (by first | assumption | omega) (by first | assumption | omega) (by first | assumption | omega)) rfl rfl ?_
    | refine ArgQ.is (fun hG => c_impl_divRound _ _ (by simp only [forall_const, eq_self, not_true_eq_false, not_false_eq_true, or_false, false_or, or_self, or_true, true_or, and_true, true_and, and_false, false_and, decide_true, decide_false, Bool.not_true, Bool.not_false, decide_eq_true_eq, decide_eq_false_iff_not, ite_and_p, ite_or_p, Bool.decide_eq_true, Bool.and_eq_true, Bool.or_eq_true, Bool.not_eq_true', Bool.not_eq_false', Bool.and_eq_false_imp, Bool.or_eq_false_iff, bne_iff_ne, beq_iff_eq, bne_eq_false_iff_eq, beq_eq_false_iff_ne, gt_iff_lt, ge_iff_le, Int.not_lt, Int.not_le, ne_eq, Bool.true_eq_false, Bool.false_eq_true, reduceCtorEq, eta_Air, eta_Heading, bytes_nil] at hG; omega) (by simp only [forall_const, eq_self, not_true_eq_false, not_false_eq_true, or_false, false_or, or_self, or_true, true_or, and_true, true_and, and_false, false_and, decide_true, decide_false, Bool.not_true, Bool.not_false, decide_eq_true_eq, decide_eq_false_iff_not, ite_and_p, ite_or_p, Bool.decide_eq_true, Bool.and_eq_true, Bool.or_eq_true, Bool.not_eq_true', Bool.not_eq_false', Bool.and_eq_false_imp, Bool.or_eq_false_iff, bne_iff_ne, beq_iff_eq, bne_eq_false_iff_eq, beq_eq_false_iff_ne, gt_iff_lt, ge_iff_le, Int.not_lt, Int.not_le, ne_eq, Bool.true_eq_false, Bool.false_eq_true, reduceCtorEq, eta_Air, eta_Heading, bytes_nil] at hG; omega) (by simp only [forall_const, eq_self, not_true_eq_false, not_false_eq_true, or_false, false_or, or_self, or_true, true_or, and_true, true_and, and_false, false_and, decide_true, decide_false, Bool.not_true, Bool.not_false, decide_eq_true_eq, decide_eq_false_iff_not, ite_and_p, ite_or_p, Bool.decide_eq_true, Bool.and_eq_true, Bool.or_eq_true, Bool.not_eq_true', Bool.not_eq_false', Bool.and_eq_false_imp, Bool.or_eq_false_iff, bne_iff_ne, beq_iff_eq, bne_eq_false_iff_eq, beq_eq_false_iff_ne, gt_iff_lt, ge_iff_le, Int.not_lt, Int.not_le, ne_eq, Bool.true_eq_false, Bool.false_eq_true, reduceCtorEq, eta_Air, eta_Heading, bytes_nil] at hG; omega) (by simp only [forall_const, eq_self, not_true_eq_false, not_false_eq_true, or_false, false_or, or_self, or_true, true_or, and_true, true_and, and_false, false_and, decide_true, decide_false, Bool.not_true, Bool.not_false, decide_eq_true_eq, decide_eq_false_iff_not, ite_and_p, ite_or_p, Bool.decide_eq_true, Bool.and_eq_true, Bool.or_eq_true, Bool.not_eq_true', Bool.not_eq_false', Bool.and_eq_false_imp, Bool.or_eq_false_iff, bne_iff_ne, beq_iff_eq, bne_eq_false_iff_eq, beq_eq_false_iff_ne, gt_iff_lt, ge_iff_le, Int.not_lt, Int.not_le, ne_eq, Bool.true_eq_false, Bool.false_eq_true, reduceCtorEq, eta_Air, eta_Heading, bytes_nil] at hG; omega)) rfl rfl ?_
    | refine CallF.mk (CallW.is [] true rfl ?_)
    | refine CallG.mk ?_
    | (refine CondF.mk (fun hb => ?_) (fun hb => ?_) <;> try simp only [forall_const, eq_self, not_true_eq_false, not_false_eq_true, or_false, false_or, or_self, or_true, true_or, and_true, true_and, and_false, false_and, decide_true, decide_false, Bool.not_true, Bool.not_false, decide_eq_true_eq, decide_eq_false_iff_not, ite_and_p, ite_or_p, Bool.decide_eq_true, Bool.and_eq_true, Bool.or_eq_true, Bool.not_eq_true', Bool.not_eq_false', Bool.and_eq_false_imp, Bool.or_eq_false_iff, bne_iff_ne, beq_iff_eq, bne_eq_false_iff_eq, beq_eq_false_iff_ne, gt_iff_lt, ge_iff_le, Int.not_lt, Int.not_le, ne_eq, Bool.true_eq_false, Bool.false_eq_true, reduceCtorEq, eta_Air, eta_Heading] at hb)
    | apply BackF.auto2
    | refine BackB.mk ?_ ?_
    | refine RetF.auto (And.intro rfl ?_)
    | exact Is.mk rfl rfl
    | refine Is.mk ?_ rfl
    | refine Is.mk rfl ?_
    | refine Is.mk ?_ ?_
  all_goals try dsimp only
  all_goals first
    | omega
    | (exfalso; simp only [inR_f] at hb; omega)
    | exact ⟨by omega, by omega, by omega, by rw [show (n - d / 100 : Int).toNat = 0 by omega]; rfl, by omega, by omega⟩
    | (have q0 : v = pdN t p n := by rw [h3, show (n - e / 100 : Int).toNat = n by omega]
       unfold pdR
       rw [← q0, if_pos h5]; done)
    | (have q1 := pdN_s (t := t) (p := p) (i := n - e / 100) (by omega)
       rw [← h3] at q1
       have q2 := (pdN_up ht (p := p) (by omega) (n - e / 100 + 1 : Int).toNat (n - (n - e / 100 + 1 : Int).toNat)).1
       rw [show (n - e / 100 + 1 : Int).toNat + (n - (n - e / 100 + 1 : Int).toNat) = n by omega] at q2
       unfold pdR
       rw [if_neg (by omega)]; done)
    | (have q1 := pdN_s (t := t) (p := p) (i := n - e / 100) (by omega)
       rw [← h3] at q1
       have q3 := hi v (by omega)
       exact ⟨by omega, by omega, by omega, by rw [show (n - (e - min e 100) / 100 : Int) = n - e / 100 + 1 by omega]; exact q1.symm, by omega, by omega⟩)
    | skip
--@fn spec.DrawDensityOf
theorem drawDens (c : List Int) : FnSem Tryd.prog 27 [Lx (LY c)] [] (RetV (fun v : Int × Int => [In v.1, In v.2]) (fun _ => []) (fun v => -101 ≤ v.1 ∧ v.1 ≤ 601 ∧ 49999 ≤ v.2 ∧ v.2 ≤ 150001)) := by
  refine FnSem.walk (zs := zeroPV Tryd.prog) (by kernel_rfl) Tryd.func27 rfl Tryd.results27 (by kernel_rfl) (by kernel_rfl) (by kernel_rfl) fun hw hh => ?_
  obtain ⟨w0, _⟩ := hw
  first | replace w0 := wf_LY w0 | skip
  have hc : bytes c := w0.2
  repeat' first
    | refine And.intro rfl ?_
    | refine GdF.mk (fun h => h) ?_
    | refine And.intro (Nat.succ_ne_zero _) ?_
    | refine And.intro (Nat.le_of_ble_eq_true rfl) ?_
    | refine SeqF.run ?_
    | refine RetV.mk (α := Int × Int) ⟨_, _⟩ rfl rfl ?_
    | refine GhF.go ?_
    | refine BndF.mk (fun _ => by omega) ?_
    | refine BndF.mk (fun _ => by simp only [List.length_map, List.length_cons, List.length_nil, List.length_append, List.length_set, List.length_replicate, iotaI_len]; omega) ?_
    | refine EqL.mk _ (tk eY (by first | rfl | assumption | omega | (simp only [List.length_map, List.length_cons, List.length_nil, List.length_append, List.length_set, List.length_replicate, iotaI_len]; done) | (simp only [List.length_map, List.length_cons, List.length_nil, List.length_append, List.length_set, List.length_replicate, iotaI_len]; omega))) ?_
    | refine EqL.mk [] rfl ?_
    | refine EqL.mk [_] rfl ?_
    | refine EqL.mk _ rfl ?_
    | refine ArgF.is (c_spec_l00From ..) ?_
    | refine ArgQ.is (fun hG => c_spec_l00From ..) rfl rfl ?_
    | (refine ArgF.src (c_spec_l02DrawTemperature _ _ _ (by first | assumption | omega | rfl | (simp only [List.length_cons, List.length_nil]; omega)) (by first | assumption | omega | rfl | (simp only [List.length_cons, List.length_nil]; omega))) ?_; intro _ _ _ _ _)
    | (refine ArgF.src (c_spec_l02DrawPressure _ _ _ (by first | assumption | omega | rfl | (simp only [List.length_cons, List.length_nil]; omega)) (by first | assumption | omega | rfl | (simp only [List.length_cons, List.length_nil]; omega))) ?_; intro _ _ _ _ _)
    | refine CallF.own (f := 56) [0] false ?_
    | refine CallF.own (f := 57) [0] false ?_
    | refine CallF.mk (f := 37) (CallW.is [] false rfl ?_)
    | refine CallF.mk (CallW.is [] true rfl ?_)
    | refine CallG.mk ?_
    | (refine CondF.mk (fun hb => ?_) (fun hb => ?_) <;> try simp only [forall_const, eq_self, not_true_eq_false, not_false_eq_true, or_false, false_or, or_self, or_true, true_or, and_true, true_and, and_false, false_and, decide_true, decide_false, Bool.not_true, Bool.not_false, decide_eq_true_eq, decide_eq_false_iff_not, ite_and_p, ite_or_p, Bool.decide_eq_true, Bool.and_eq_true, Bool.or_eq_true, Bool.not_eq_true', Bool.not_eq_false', Bool.and_eq_false_imp, Bool.or_eq_false_iff, bne_iff_ne, beq_iff_eq, bne_eq_false_iff_eq, beq_eq_false_iff_ne, gt_iff_lt, ge_iff_le, Int.not_lt, Int.not_le, ne_eq, Bool.true_eq_false, Bool.false_eq_true, reduceCtorEq, eta_Air, eta_Heading] at hb)
    | refine RetF.auto (And.intro rfl ?_)
    | exact Is.mk rfl rfl
    | refine Is.mk ?_ rfl
    | refine Is.mk rfl ?_
    | refine Is.mk ?_ ?_
  dsimp only
  omega
end Go.Proofs.YtmifcbekaniiiaaDoor
