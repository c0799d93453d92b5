/- Contracts of functions of the program, and what they compute. Conditions: those that each theorem states. -/
import Derived.Test.YtfcnlpghdpfjkaaProg
import Derived.Test.YtfcnlpghdpfjkaaR0
import Derived.Test.YtfcnlpghdpfjkaaR1
import Derived.Test.YtfcnlpghdpfjkaaR5
set_option linter.unusedVariables false
set_option linter.unusedSimpArgs false
namespace Go.Proofs.Ytfcnlpghdpfjkaa
open Go.Av
attribute [local irreducible] Go.IntKind.wrap leastI rdZ rd
set_option maxRecDepth 20000
set_option maxHeartbeats 4000000

def clampW (n : Int) : Int := min (max n (-100)) 600
theorem c_impl_asWarmth (n : Int) : FnSem Try.prog 196 [In n] [] (Is [In (clampW n)] []) := by
  refine FnSem.walk (zs := zeroPV Try.prog) (by kernel_rfl) Try.func196 rfl Try.results196 (by kernel_rfl) (by kernel_rfl) (by kernel_rfl) fun hw hh => ?_
  obtain ⟨w0, _⟩ := hw
  first | replace w0 := wf_I w0 | skip
  repeat' first
    | refine And.intro rfl ?_
    | refine GdF.mk (fun h => h) ?_
    | refine And.intro (Nat.succ_ne_zero _) ?_
    | refine And.intro (Nat.le_of_ble_eq_true rfl) ?_
    | refine SeqF.run ?_
    | refine GhF.go ?_
    | (refine CondF.mk (fun hb => ?_) (fun hb => ?_) <;> try simp only [forall_const, eq_self, not_true_eq_false, not_false_eq_true, or_false, false_or, or_self, or_true, true_or, and_true, true_and, and_false, false_and, decide_true, decide_false, Bool.not_true, Bool.not_false, decide_eq_true_eq, decide_eq_false_iff_not, ite_and_p, ite_or_p, Bool.decide_eq_true, Bool.and_eq_true, Bool.or_eq_true, Bool.not_eq_true', Bool.not_eq_false', Bool.and_eq_false_imp, Bool.or_eq_false_iff, bne_iff_ne, beq_iff_eq, bne_eq_false_iff_eq, beq_eq_false_iff_ne, gt_iff_lt, ge_iff_le, Int.not_lt, Int.not_le, ne_eq, Bool.true_eq_false, Bool.false_eq_true, reduceCtorEq, eta_Airway, eta_Fan, eta_Mine] at hb)
    | refine RetF.auto (And.intro rfl ?_)
    | exact Is.mk rfl rfl
    | refine Is.mk ?_ rfl
    | refine Is.mk rfl ?_
    | refine Is.mk ?_ ?_
def warmS (rock rate t : Int) : Int := clampW (t + rdZ ((rock - t) * rate) 1000)
theorem warm_m {rock rate t : Int} (ht : -100 ≤ t ∧ t ≤ 600) (hr : 0 ≤ rock ∧ rock ≤ 900) (hq : 0 ≤ rate ∧ rate ≤ 1000) : (t ≤ rock → 0 ≤ (rock - t) * rate ∧ (rock - t) * rate ≤ (rock - t) * 1000) ∧ (rock ≤ t → (rock - t) * 1000 ≤ (rock - t) * rate ∧ (rock - t) * rate ≤ 0) := by
  constructor
  · intro h; exact ⟨Int.mul_nonneg (by omega) hq.1, Int.mul_le_mul_of_nonneg_left hq.2 (by omega)⟩
  · intro h
    have h1 := Int.mul_nonneg (show 0 ≤ t - rock by omega) hq.1
    have h2 := Int.mul_le_mul_of_nonneg_left hq.2 (show 0 ≤ t - rock by omega)
    have e : (rock - t) * rate = -((t - rock) * rate) := by rw [← Int.neg_mul]; congr 1; omega
    rw [e]; omega
theorem warmS_b {rock rate t : Int} (ht : -100 ≤ t ∧ t ≤ 600) (hr : 0 ≤ rock ∧ rock ≤ 900) (hq : 0 ≤ rate ∧ rate ≤ 1000) : (t ≤ rock → t ≤ warmS rock rate t ∧ warmS rock rate t ≤ rock) ∧ (rock ≤ t → rock ≤ warmS rock rate t ∧ warmS rock rate t ≤ t) ∧ -100 ≤ warmS rock rate t ∧ warmS rock rate t ≤ 600 := by
  obtain ⟨h1, h2⟩ := warm_m ht hr hq
  unfold warmS clampW
  refine ⟨fun h => ?_, fun h => ?_, by omega⟩
  · obtain ⟨a, b⟩ := h1 h
    have := rdZ_lo (a := 0) (x := (rock - t) * rate) (y := 1000) (by omega) (by omega)
    have := rdZ_hi (b := rock - t) (x := (rock - t) * rate) (y := 1000) (by omega) b
    omega
  · obtain ⟨a, b⟩ := h2 h
    have := rdZ_hi (b := 0) (x := (rock - t) * rate) (y := 1000) (by omega) (by omega)
    have := rdZ_lo (a := rock - t) (x := (rock - t) * rate) (y := 1000) (by omega) a
    omega
def warmN (rock rate t : Int) : Nat → Int
  | 0 => t
  | n + 1 => warmS rock rate (warmN rock rate t n)
theorem warmN_s {rock rate t i : Int} (h : 0 ≤ i) : warmN rock rate t (i + 1).toNat = warmS rock rate (warmN rock rate t i.toNat) := by rw [show (i + 1).toNat = i.toNat + 1 by omega]; rfl
theorem warmN_b {rock rate t : Int} (ht : -100 ≤ t ∧ t ≤ 600) (hr : 0 ≤ rock ∧ rock ≤ 900) (hq : 0 ≤ rate ∧ rate ≤ 1000) : ∀ n, (t ≤ rock → t ≤ warmN rock rate t n ∧ warmN rock rate t n ≤ rock) ∧ (rock ≤ t → rock ≤ warmN rock rate t n ∧ warmN rock rate t n ≤ t) ∧ -100 ≤ warmN rock rate t n ∧ warmN rock rate t n ≤ 600
  | 0 => by simp only [warmN]; omega
  | n + 1 => by
    obtain ⟨a, b, d⟩ := warmN_b ht hr hq n
    obtain ⟨e, f, g⟩ := warmS_b d hr hq
    simp only [warmN]
    refine ⟨fun h => ?_, fun h => ?_, g⟩
    · have := a h; have := e (by omega); omega
    · have := b h; have := f (by omega); omega
theorem mul_b {a b A B : Int} (h1 : -A ≤ a ∧ a ≤ A) (h2 : 0 ≤ b ∧ b ≤ B) : -(A * B) ≤ a * b ∧ a * b ≤ A * B := by
  have hA : 0 ≤ A := by omega
  by_cases h : 0 ≤ a
  · have := mulB' h h1.2 h2.1 h2.2; omega
  · have := mulB' (a := -a) (A := A) (by omega) (by omega) h2.1 h2.2
    rw [Int.neg_mul] at this; omega
theorem rdZ_abs {x y A : Int} (hy : 0 < y) (h : -A ≤ x ∧ x ≤ A) : -A ≤ rdZ x y ∧ rdZ x y ≤ A := by
  have hA : 0 ≤ A := by omega
  have h1 : A ≤ A * y := by have := Int.mul_le_mul_of_nonneg_left (show 1 ≤ y by omega) hA; omega
  exact ⟨rdZ_lo hy (by rw [Int.neg_mul]; omega), rdZ_hi hy (by omega)⟩
theorem c_impl_warmAlong (t rock rate time : Int) (ht : -100 ≤ t ∧ t ≤ 600) (hr : 0 ≤ rock ∧ rock ≤ 900) (hq : 0 ≤ rate ∧ rate ≤ 1000) (hT : 0 ≤ time ∧ time ≤ 100000) : FnSem Try.prog 194 [In t, In rock, In rate, In time] [] (Is [In (warmN rock rate t (time / 10).toNat)] []) := by
  refine FnSem.walk (zs := zeroPV Try.prog) (by kernel_rfl) Try.func194 rfl Try.results194 (by kernel_rfl) (by kernel_rfl) (by kernel_rfl) fun hw hh => ?_
  obtain ⟨w0, w1, w2, w3, _⟩ := hw
  first | replace w0 := wf_I w0 | skip
  first | replace w1 := wf_I w1 | skip
  first | replace w2 := wf_I w2 | skip
  first | replace w3 := wf_I w3 | skip
  repeat' first
    | refine And.intro rfl ?_
    | refine GdF.mk (fun h => h) ?_
    | refine And.intro (Nat.succ_ne_zero _) ?_
    | refine And.intro (Nat.le_of_ble_eq_true rfl) ?_
    | refine SeqF.run ?_
    | refine EqI.mk (time / 10) (fun _ => wrapD (by omega) (by omega) (by omega)) ?_
    | refine EqI.mk _ (fun _ => by have := mul_b (a := rock - x) (A := 1000) (b := rate) (B := 1000) (by omega) hq; exact wrapI (by omega) (by omega)) ?_
    | refine EqI.mk _ (fun _ => by have := rdZ_abs (y := 1000) (A := 1000000) (by omega) (mul_b (a := rock - x) (A := 1000) (b := rate) (B := 1000) (by omega) hq); exact wrapI (by omega) (by omega)) ?_
    | refine ArgF.is (divRoundZ _ _ (by have := mul_b (a := rock - x) (A := 1000) (b := rate) (B := 1000) (by omega) hq; omega) (by omega) (by omega)) ?_
    | refine ArgQ.is (fun hG => divRoundZ _ _ (by have := mul_b (a := rock - x) (A := 1000) (b := rate) (B := 1000) (by omega) hq; omega) (by omega) (by omega)) rfl rfl ?_
    | refine LoopF.at 2 rfl (LoopF.fix [1, 2, 10] (Int × Int) (fun (i, x) => 0 ≤ i ∧ i ≤ time / 10 ∧ x = warmN rock rate t i.toNat ∧ -100 ≤ x ∧ x ≤ 600) (fun (i, x) => [(11, In i), (0, In x)]) (fun (i, x) => []) (fun (i, x) => ((time / 10 - i).toNat)) ((0, t)) ?_)
    | (refine LoopB.of (T := Int × Int) ?_ ?_; rotate_left; rintro ⟨i, x⟩ ⟨h0, h1, h2, h3, h4⟩; rotate_left)
    | refine GhF.go ?_
    | refine BndF.mk (fun _ => by omega) ?_
    | refine BndF.mk (fun _ => by simp only [List.length_map, List.length_cons, List.length_nil, List.length_append, List.length_set, List.length_replicate, iotaI_len]; omega) ?_
    | refine EqI.mk _ (fun _ => wrapI (by omega) (by omega)) ?_
    | refine EqI.mk _ (fun _ => wrapD (by omega) (by omega) (by omega)) ?_
    | refine EqI.mk _ (fun _ => rfl) ?_
    | refine EqL.mk [] rfl ?_
    | refine EqL.mk [_] rfl ?_
    | refine EqL.mk _ rfl ?_
    | refine ArgF.is (c_impl_divRound _ _ (by first | assumption | omega) (by first | assumption | omega) (by first | assumption | omega) (by first | assumption | omega)) ?_
    | refine ArgQ.is (fun hG => c_impl_divRound _ _ (by first | assumption | omega) (by first | assumption | omega) (by first | assumption | omega) (by first | assumption | omega)) rfl rfl ?_
    | refine ArgF.is (c_impl_asWarmth ..) ?_
    | refine ArgQ.is (fun hG => c_impl_asWarmth ..) rfl rfl ?_
    | refine CallF.mk (CallW.is [] true rfl ?_)
    | refine CallG.mk ?_
    | (refine CondF.mk (fun hb => ?_) (fun hb => ?_) <;> try simp only [forall_const, eq_self, not_true_eq_false, not_false_eq_true, or_false, false_or, or_self, or_true, true_or, and_true, true_and, and_false, false_and, decide_true, decide_false, Bool.not_true, Bool.not_false, decide_eq_true_eq, decide_eq_false_iff_not, ite_and_p, ite_or_p, Bool.decide_eq_true, Bool.and_eq_true, Bool.or_eq_true, Bool.not_eq_true', Bool.not_eq_false', Bool.and_eq_false_imp, Bool.or_eq_false_iff, bne_iff_ne, beq_iff_eq, bne_eq_false_iff_eq, beq_eq_false_iff_ne, gt_iff_lt, ge_iff_le, Int.not_lt, Int.not_le, ne_eq, Bool.true_eq_false, Bool.false_eq_true, reduceCtorEq, eta_Airway, eta_Fan, eta_Mine] at hb)
    | apply BackF.auto2
    | refine BackB.mk ?_ ?_
    | refine RetF.auto (And.intro rfl ?_)
    | exact Is.mk rfl rfl
    | refine Is.mk ?_ rfl
    | refine Is.mk rfl ?_
    | refine Is.mk ?_ ?_
  all_goals try dsimp only
  all_goals try simp only [Bo, I, OB.row.injEq, AV.osl.injEq, eI_same,  List.cons.injEq, AV.p.injEq, PV.c.injEq, Value.int.injEq, Value.bool.injEq, and_true, true_and, ite_and_p, ite_or_p, Bool.decide_eq_true, eta_Airway, eta_Fan, eta_Mine]
  · exact ⟨by omega, by omega, rfl, by omega, by omega⟩
  · have := (warmS_b ⟨h3, h4⟩ hr hq).2.2
    unfold warmS at this
    exact ⟨by omega, by omega, by rw [warmN_s h0, ← h2]; rfl, this.1, this.2⟩
  · omega
  · rw [h2, show i = time / 10 by omega]
def warmA (t rock rate time : Int) : Int × Int := if inR t (-100) 600 && inR rock 0 900 && inR rate 0 1000 && inR time 0 100000 then (warmN rock rate t (time / 10).toNat, 0) else (0, 2)
def heatY (flow density : Int) : Int := 201 * max (rdZ (flow * density) 100) 1
def heatF (power flow density : Int) : Int := rdZ (2000 * power) (heatY flow density)
theorem heatY_b {flow density : Int} (hf : 1 ≤ flow ∧ flow ≤ 100000) (hd : 1 ≤ density ∧ density ≤ 5000) : (0 ≤ flow * density ∧ flow * density ≤ 500000000) ∧ (0 ≤ rdZ (flow * density) 100 ∧ rdZ (flow * density) 100 ≤ 500000000) ∧ 201 ≤ heatY flow density ∧ heatY flow density ≤ 100500000000 := by
  have h1 := mulB' (a := flow) (A := 100000) (b := density) (B := 5000) (by omega) (by omega) (by omega) (by omega)
  have h2 := rdZ_lo (a := 0) (x := flow * density) (y := 100) (by omega) (by omega)
  have h3 := rdZ_hi (b := 500000000) (x := flow * density) (y := 100) (by omega) (by omega)
  unfold heatY; omega
theorem heatF_b {power flow density : Int} (hp : -10000000 ≤ power ∧ power ≤ 10000000) (hf : 1 ≤ flow ∧ flow ≤ 100000) (hd : 1 ≤ density ∧ density ≤ 5000) : -20000000000 ≤ heatF power flow density ∧ heatF power flow density ≤ 20000000000 :=
  rdZ_abs (by have := heatY_b hf hd; omega) (by omega)
theorem c_impl_heatFrom (power flow density : Int) (hp : -10000000 ≤ power ∧ power ≤ 10000000) (hf : 1 ≤ flow ∧ flow ≤ 100000) (hd : 1 ≤ density ∧ density ≤ 5000) : FnSem Try.prog 197 [In power, In flow, In density] [] (Is [In (heatF power flow density)] []) := by
  obtain ⟨h1, h2, h3⟩ := heatY_b hf hd
  unfold heatF heatY at *
  refine FnSem.walk (zs := zeroPV Try.prog) (by kernel_rfl) Try.func197 rfl Try.results197 (by kernel_rfl) (by kernel_rfl) (by kernel_rfl) fun hw hh => ?_
  obtain ⟨w0, w1, w2, _⟩ := hw
  first | replace w0 := wf_I w0 | skip
  first | replace w1 := wf_I w1 | skip
  first | replace w2 := wf_I w2 | skip
  repeat' first
    | refine And.intro rfl ?_
    | refine GdF.mk (fun h => h) ?_
    | refine And.intro (Nat.succ_ne_zero _) ?_
    | refine And.intro (Nat.le_of_ble_eq_true rfl) ?_
    | refine SeqF.run ?_
    | refine ArgF.is (divRoundZ _ _ (by omega) (by omega) (by omega)) ?_
    | refine ArgQ.is (fun hG => divRoundZ _ _ (by omega) (by omega) (by omega)) rfl rfl ?_
    | refine GhF.go ?_
    | refine BndF.mk (fun _ => by omega) ?_
    | refine BndF.mk (fun _ => by simp only [List.length_map, List.length_cons, List.length_nil, List.length_append, List.length_set, List.length_replicate, iotaI_len]; omega) ?_
    | refine EqI.mk _ (fun _ => wrapI (by omega) (by omega)) ?_
    | refine EqI.mk _ (fun _ => rfl) ?_
    | refine EqL.mk [] rfl ?_
    | refine EqL.mk [_] rfl ?_
    | refine EqL.mk _ rfl ?_
    | refine ArgF.is (c_impl_divRound _ _ (by first | assumption | omega) (by first | assumption | omega) (by first | assumption | omega) (by first | assumption | omega)) ?_
    | refine ArgQ.is (fun hG => c_impl_divRound _ _ (by first | assumption | omega) (by first | assumption | omega) (by first | assumption | omega) (by first | assumption | omega)) rfl rfl ?_
    | refine CallF.mk (CallW.is [] true rfl ?_)
    | refine CallG.mk ?_
    | (refine CondF.mk (fun hb => ?_) (fun hb => ?_) <;> try simp only [forall_const, eq_self, not_true_eq_false, not_false_eq_true, or_false, false_or, or_self, or_true, true_or, and_true, true_and, and_false, false_and, decide_true, decide_false, Bool.not_true, Bool.not_false, decide_eq_true_eq, decide_eq_false_iff_not, ite_and_p, ite_or_p, Bool.decide_eq_true, Bool.and_eq_true, Bool.or_eq_true, Bool.not_eq_true', Bool.not_eq_false', Bool.and_eq_false_imp, Bool.or_eq_false_iff, bne_iff_ne, beq_iff_eq, bne_eq_false_iff_eq, beq_eq_false_iff_ne, gt_iff_lt, ge_iff_le, Int.not_lt, Int.not_le, ne_eq, Bool.true_eq_false, Bool.false_eq_true, reduceCtorEq, eta_Airway, eta_Fan, eta_Mine] at hb)
    | refine RetF.auto (And.intro rfl ?_)
    | exact Is.mk rfl rfl
    | refine Is.mk ?_ rfl
    | refine Is.mk rfl ?_
    | refine Is.mk ?_ ?_
def okHeat (flow density : Int) : Bool := inR flow 1 100000 && inR density 1 5000
def heatFr (power flow density : Int) : Int × Int := if inR power (-10000000) 10000000 && inR flow 1 100000 && inR density 1 5000 then (heatF power flow density, 0) else (0, 2)
def coolP (t limit flow density power : Int) : Bool := decide (t - heatF power flow density ≤ limit)
theorem cool_mono {t limit flow density a b : Int} (hf : 1 ≤ flow ∧ flow ≤ 100000) (hd : 1 ≤ density ∧ density ≤ 5000) (h : a ≤ b) (ha : coolP t limit flow density a = true) : coolP t limit flow density b = true := by
  have := rdZ_mono (x := 2000 * a) (x' := 2000 * b) (y := heatY flow density) (by omega) (by have := heatY_b hf hd; omega)
  have h1 : t - heatF a flow density ≤ limit := of_decide_eq_true ha
  have h2 : heatF a flow density ≤ heatF b flow density := this
  exact decide_eq_true (by omega)
def coolFor (t limit flow density : Int) : Int × Int := if inR t (-100) 600 && inR limit (-100) 600 && inR flow 1 100000 && inR density 1 5000 then (if leastI (coolP t limit flow density) 0 10000000 ≤ 10000000 then (leastI (coolP t limit flow density) 0 10000000, 0) else (0, 3)) else (0, 2)
end Go.Proofs.Ytfcnlpghdpfjkaa
