/- Contracts of functions of the program, and what they compute. Conditions: those that each theorem states. -/
import Derived.Test.YtnmfbdkiehickaaProg
import Derived.Test.YtnmfbdkiehickaaH1
set_option linter.unusedVariables false
set_option linter.unusedSimpArgs false
namespace Go.Proofs.Ytnmfbdkiehickaa
open Go.Av
attribute [local irreducible] Go.IntKind.wrap leastI rdZ rd rootI condI sumT parI condS
set_option maxRecDepth 20000
set_option maxHeartbeats 4000000

theorem mulB {a b A B : Int} (h1 : -A ≤ a ∧ a ≤ A) (h3 : 0 ≤ b ∧ b ≤ B) : -(A * B) ≤ a * b ∧ a * b ≤ A * B := by
  have g1 := Int.mul_le_mul_of_nonneg_left h3.2 (show 0 ≤ A by omega)
  have g2 := Int.mul_le_mul_of_nonneg_right h1.2 h3.1
  have g3 := Int.mul_le_mul_of_nonneg_right h1.1 h3.1
  rw [Int.neg_mul] at g3
  omega
theorem snocP {P : Nat → Int → Prop} {ys : List Int} {v : Int} (h : ∀ j : Nat, (j : Int) < ys.length → P j (ys.getD j 0)) (hv : P ys.length v) : ∀ j : Nat, (j : Int) < (ys ++ [v]).length → P j ((ys ++ [v]).getD j 0) := by
  intro j hj
  rw [getD_snoc]
  by_cases e : j = ys.length
  · rw [if_pos e, e]; exact hv
  · rw [if_neg e]; exact h j (by simp at hj; omega)
/-- resistances, all in their bounds -/
def resOk (xs : List Int) : Prop := ∀ j : Nat, (j : Int) < xs.length → 1 ≤ xs.getD j 0 ∧ xs.getD j 0 ≤ 1000000
theorem resOk_of {xs : List Int} (h : resB xs = true) : resOk xs ∧ 1 ≤ xs.length ∧ xs.length ≤ 24 := by
  simp only [resB, Bool.and_eq_true, decide_eq_true_eq] at h
  exact ⟨fun j hj => inR_iff.1 (all_iff.1 h.2 j hj), h.1⟩
theorem condS_0 {xs : List Int} : condS xs 0 = 0 := by unfold condS; rw [sumT_0]; rfl
theorem condS_b {xs : List Int} (hx : resOk xs) : ∀ i : Nat, i ≤ xs.length → (i : Int) ≤ condS xs i ∧ condS xs i ≤ 100000000 * i
  | 0, _ => by rw [show ((0 : Nat) : Int) = 0 from rfl, condS_0]; omega
  | i + 1, h => by
    have h1 := condS_b hx i (by omega)
    have h2 := condS_s (xs := xs) (i := i) (by omega) (by omega) hx
    have h3 := condI_b (hx (Int.toNat i) (by omega))
    rw [show ((i + 1 : Nat) : Int) = (i : Int) + 1 by omega, h2]; omega
theorem condS_mono {xs : List Int} (hx : resOk xs) : ∀ i j : Nat, i ≤ j → j ≤ xs.length → condS xs i ≤ condS xs j := by
  intro i j hij hj
  induction j with
  | zero => have : i = 0 := by omega
            subst this; exact Int.le_refl _
  | succ j ih =>
    by_cases h : i = j + 1
    · subst h; exact Int.le_refl _
    · have h1 := ih (by omega) (by omega)
      have h2 := condS_s (xs := xs) (i := j) (by omega) (by omega) hx
      have h3 := condI_b (hx (Int.toNat j) (by omega))
      rw [show ((j + 1 : Nat) : Int) = (j : Int) + 1 by omega, h2]; omega
/-- what is given away before the i-th -/
def givenD (xs : List Int) (q i : Int) : Int := rdZ (q * condS xs i) (condS xs xs.length)
theorem givenD_0 {xs : List Int} {q : Int} (hl : 1 ≤ condS xs xs.length) : givenD xs q 0 = 0 := by
  unfold givenD; rw [condS_0, Int.mul_zero, rdZ_p (by omega), rd_0 (by omega)]
theorem givenD_e {xs : List Int} {q : Int} (hl : 1 ≤ condS xs xs.length) : givenD xs q xs.length = q := by
  unfold givenD
  have h1 := rdZ_lo (a := q) (x := q * condS xs xs.length) (y := condS xs xs.length) (by omega) (Int.le_refl _)
  have h2 := rdZ_hi (b := q) (x := q * condS xs xs.length) (y := condS xs xs.length) (by omega) (Int.le_refl _)
  omega
theorem givenD_m {xs : List Int} {q : Int} (hx : resOk xs) (hl : 1 ≤ condS xs xs.length) {i j : Nat} (hij : i ≤ j) (hj : j ≤ xs.length) : (0 ≤ q → givenD xs q i ≤ givenD xs q j) ∧ (q ≤ 0 → givenD xs q j ≤ givenD xs q i) := by
  have h1 := condS_mono hx i j hij hj
  unfold givenD
  refine ⟨fun h => rdZ_mono (Int.mul_le_mul_of_nonneg_left h1 h) (by omega), fun h => rdZ_mono (Int.mul_le_mul_of_nonpos_left h h1) (by omega)⟩
theorem givenD_b {xs : List Int} {q : Int} (hx : resOk xs) (hl : 1 ≤ condS xs xs.length) {i : Nat} (hi : i ≤ xs.length) : (0 ≤ q → 0 ≤ givenD xs q i ∧ givenD xs q i ≤ q) ∧ (q ≤ 0 → q ≤ givenD xs q i ∧ givenD xs q i ≤ 0) := by
  have h0 := givenD_m (q := q) hx hl (i := 0) (j := i) (by omega) hi
  have h1 := givenD_m (q := q) hx hl (i := i) (j := xs.length) hi (Nat.le_refl _)
  rw [givenD_e hl] at h1
  rw [show ((0 : Nat) : Int) = 0 from rfl, givenD_0 hl] at h0
  exact ⟨fun h => ⟨h0.1 h, h1.1 h⟩, fun h => ⟨h1.2 h, h0.2 h⟩⟩
def partsI (xs : List Int) (q : Int) : List Int := (List.range xs.length).map fun (j : Nat) => givenD xs q (j + 1) - givenD xs q j
theorem partsI_len {xs : List Int} {q : Int} : (partsI xs q).length = xs.length := by simp [partsI]
theorem partsI_get {xs : List Int} {q : Int} {j : Nat} (h : j < xs.length) : (partsI xs q).getD j 0 = givenD xs q (j + 1) - givenD xs q j := by
  simp [partsI, List.getD_eq_getElem?_getD, h]
theorem partsI_b {xs : List Int} {q : Int} (hx : resOk xs) (hl : 1 ≤ condS xs xs.length) {j : Nat} (h : j < xs.length) : (0 ≤ q → 0 ≤ (partsI xs q).getD j 0 ∧ (partsI xs q).getD j 0 ≤ q) ∧ (q ≤ 0 → q ≤ (partsI xs q).getD j 0 ∧ (partsI xs q).getD j 0 ≤ 0) := by
  rw [partsI_get h]
  have h1 := givenD_b (q := q) hx hl (i := j) (by omega)
  have h2 := givenD_b (q := q) hx hl (i := j + 1) (by omega)
  have h3 := givenD_m (q := q) hx hl (i := j) (j := j + 1) (by omega) (by omega)
  rw [show ((j + 1 : Nat) : Int) = (j : Int) + 1 by omega] at h2 h3
  exact ⟨fun h => by have := h1.1 h; have := h2.1 h; have := h3.1 h; omega, fun h => by have := h1.2 h; have := h2.2 h; have := h3.2 h; omega⟩
attribute [local irreducible] givenD
theorem parts_t {xs : List Int} {q : Int} {ys : List Int} (hl : (ys.length : Int) = xs.length) (h : ∀ j : Nat, (j : Int) < ys.length → ys.getD j 0 = givenD xs q (j + 1) - givenD xs q j) : ys = partsI xs q :=
  ext_getD 0 (by rw [partsI_len]; omega) fun j hj => by rw [h j hj, partsI_get (by omega)]
theorem c_impl_splitFlow (xs : List Int) (q : Int) (hx : resOk xs) (hl : 1 ≤ xs.length ∧ xs.length ≤ 24) (hq : -100000 ≤ q ∧ q ≤ 100000) : FnSem Try.prog 86 [Lx (LI xs), In q] [] (Is [.osl 0 0 xs.length] [Rw .flat (eI 0) ((partsI xs q).map eI)]) := by
  have hS := condS_b hx
  have hA := hS xs.length (Nat.le_refl _)
  have hG : ∀ i : Nat, i ≤ xs.length → -100000 ≤ givenD xs q i ∧ givenD xs q i ≤ 100000 := fun i hi => by
    have := givenD_b (q := q) hx (by omega) hi
    rcases Int.le_total 0 q with h | h
    · have := this.1 h; omega
    · have := this.2 h; omega
  have hD : ∀ (i s s0 i0 : Int), 0 ≤ i → i < xs.length → s = condS xs i → s0 = condS xs i0 → i0 = xs.length → FnSem Try.prog 186 [In (q * (s + condI (xs.getD i.toNat 0))), In s0] [] (Is [In (givenD xs q (i + 1))] []) := by
    intro i s s0 i0 a1 a2 a3 a4 a5
    have e1 := condS_s a1 a2 hx
    have e2 := hS (i + 1).toNat (by omega)
    rw [show (((i + 1).toNat : Nat) : Int) = i + 1 by omega] at e2
    have e3 := mulB (A := 100000) (B := 2400000000) hq (b := condS xs (i + 1)) (by omega)
    have e4 := divRoundZ (q * condS xs (i + 1)) (condS xs xs.length) (by omega) (by omega) (by omega)
    rw [a3, ← e1, a4, a5]
    unfold givenD
    exact e4
  have hE : ∀ i : Int, 0 ≤ i → i ≤ xs.length → -100000 ≤ givenD xs q i ∧ givenD xs q i ≤ 100000 := fun i a b => by
    have := hG i.toNat (by omega)
    rw [show ((i.toNat : Nat) : Int) = i by omega] at this; exact this
  refine FnSem.walk (zs := zeroPV Try.prog) (by kernel_rfl) Try.func86 rfl Try.results86 (by kernel_rfl) (by kernel_rfl) (by kernel_rfl) fun hw hh => ?_
  obtain ⟨w0, w1, _⟩ := hw
  first | replace w0 := wf_I w0 | replace w0 := wf_Y w0 | replace w0 := wf_S w0 | replace w0 := wf_LI w0 | replace w0 := wf_LY w0 | replace w0 := wf_LLI w0 | replace w0 := wf_Ls w0 | skip
  first | replace w1 := wf_I w1 | replace w1 := wf_Y w1 | replace w1 := wf_S w1 | replace w1 := wf_LI w1 | replace w1 := wf_LY w1 | replace w1 := wf_LLI w1 | replace w1 := wf_Ls w1 | skip
  repeat' first
    | refine And.intro rfl ?_
    | refine GdF.mk (fun h => h) ?_
    | refine And.intro (Nat.succ_ne_zero _) ?_
    | refine And.intro (Nat.le_of_ble_eq_true rfl) ?_
    | refine SeqF.run ?_
    | refine ArgF.is (c_impl_conductance (xs.getD i.toNat 0) (hx _ (by omega))) ?_
    | refine ArgQ.is (fun hG => c_impl_conductance (xs.getD i.toNat 0) (hx _ (by omega))) rfl rfl ?_
    | refine EqI.mk _ (fun _ => by have := condI_b (hx i.toNat (by omega)); exact wrapI (by omega) (by omega)) ?_
    | refine ArgF.is (c_impl_conductance (xs.getD i0.toNat 0) (hx _ (by omega))) ?_
    | refine ArgQ.is (fun hG => c_impl_conductance (xs.getD i0.toNat 0) (hx _ (by omega))) rfl rfl ?_
    | refine EqI.mk _ (fun _ => by have := condI_b (hx i0.toNat (by omega)); exact wrapI (by omega) (by omega)) ?_
    | refine EqI.mk _ (fun _ => by have := mulB (A := 100000) (B := 2400000000) hq (show 0 ≤ s + condI (xs.getD i.toNat 0) ∧ s + condI (xs.getD i.toNat 0) ≤ 2400000000 by have := condI_b (hx i.toNat (by omega)); omega); exact wrapI (by omega) (by omega)) ?_
    | refine ArgF.is (hD i s s0 i0 (by omega) (by omega) (by assumption) (by assumption) (by omega)) ?_
    | refine ArgQ.is (fun hG => hD i s s0 i0 (by omega) (by omega) (by assumption) (by assumption) (by omega)) rfl rfl ?_
    | refine EqI.mk _ (fun _ => by have := hE i (by omega) (by omega); have := hE (i + 1) (by omega) (by omega); exact wrapI (by omega) (by omega)) ?_
    | refine LoopF.at 3 rfl (LoopF.fix [0, 1, 14, 15] (Int × Int) (fun (i0, s0) => 0 ≤ i0 ∧ i0 ≤ xs.length ∧ s0 = condS xs i0 ∧ i0 ≤ s0 ∧ s0 ≤ 100000000 * i0) (fun (i0, s0) => [(5, In s0), (16, In i0)]) (fun (i0, s0) => []) (fun (i0, s0) => ((xs.length - i0).toNat)) ((0, 0)) ?_)
    | (refine LoopB.of (T := Int × Int) ?_ ?_; rotate_left; rintro ⟨i0, s0⟩ ⟨h0, h1, h2, h3, h4⟩; rotate_left)
    | refine LoopF.at 10 rfl (LoopF.fix [1, 5, 25, 26] (Int × Nat × List Int × Int × Int) (fun (i, n, ys, s, g) => 0 ≤ i ∧ i ≤ xs.length ∧ s = condS xs i ∧ i ≤ s ∧ s ≤ 100000000 * i ∧ n = ys.length ∧ (n : Int) = i ∧ g = givenD xs q i ∧ (∀ j : Nat, (j : Int) < ys.length → ys.getD j 0 = givenD xs q (j + 1) - givenD xs q j)) (fun (i, n, ys, s, g) => [(8, .osl 0 0 n), (9, In s), (10, In g), (27, In i)]) (fun (i, n, ys, s, g) => [(0, Rw .flat (eI 0) (ys.map eI))]) (fun (i, n, ys, s, g) => ((xs.length - i).toNat)) ((0, 0, [], 0, 0)) ?_)
    | (refine LoopB.of (T := Int × Nat × List Int × Int × Int) ?_ ?_; rotate_left; rintro ⟨i, n, ys, s, g⟩ ⟨h0, h1, h2, h3, h4, h5, h6, h7, h8⟩; rotate_left)
    | refine MkF.row ?_
    | refine EqP.mk _ (gm eI 0 rfl) ?_
    | refine BndF.mk (fun _ => by omega) ?_
    | refine BndF.mk (fun _ => by simp only [List.length_map, List.length_cons, List.length_nil, List.length_append, List.length_set, List.length_replicate, iotaI_len]; omega) ?_
    | refine EqI.mk _ (fun _ => wrapI (by omega) (by omega)) ?_
    | refine EqI.mk _ (fun _ => rfl) ?_
    | refine FlF.keep ?_
    | refine EqN.mk _ (ln eI) ?_
    | refine EqN.mk _ (Nat.zero_add _) ?_
    | refine EqN.mk (_ + 1) rfl ?_
    | refine EqN.mk _ (Int.toNat_natCast _) ?_
    | refine EqN.mk _ rfl ?_
    | refine EqL.mk _ (sn0 eI) ?_
    | refine EqL.mk _ (sn eI (by first | rfl | assumption | omega | (simp only [List.length_map, List.length_cons, List.length_nil, List.length_append, List.length_set, List.length_replicate, iotaI_len]; done) | (simp only [List.length_map, List.length_cons, List.length_nil, List.length_append, List.length_set, List.length_replicate, iotaI_len]; omega))) ?_
    | refine EqL.mk _ (ap0 eI) ?_
    | refine EqL.mk _ (ap eI (by first | rfl | assumption | omega | (simp only [List.length_map, List.length_cons, List.length_nil, List.length_append, List.length_set, List.length_replicate, iotaI_len]; done) | (simp only [List.length_map, List.length_cons, List.length_nil, List.length_append, List.length_set, List.length_replicate, iotaI_len]; omega))) ?_
    | refine EqL.mk _ (tk eI (by first | rfl | assumption | omega | (simp only [List.length_map, List.length_cons, List.length_nil, List.length_append, List.length_set, List.length_replicate, iotaI_len]; done) | (simp only [List.length_map, List.length_cons, List.length_nil, List.length_append, List.length_set, List.length_replicate, iotaI_len]; omega))) ?_
    | refine EqL.mk _ (dt eI) ?_
    | refine EqL.mk [] rfl ?_
    | refine EqL.mk [_] rfl ?_
    | refine EqL.mk _ rfl ?_
    | refine ArgF.is (c_impl_conductance _ (by first | assumption | omega)) ?_
    | refine ArgQ.is (fun hG => c_impl_conductance _ (by first | assumption | omega)) rfl rfl ?_
    | refine ArgQ.is (fun hG => c_impl_conductance _ (by simp only [forall_const, eq_self, not_true_eq_false, not_false_eq_true, or_false, false_or, or_self, or_true, true_or, and_true, true_and, and_false, false_and, decide_true, decide_false, Bool.not_true, Bool.not_false, decide_eq_true_eq, decide_eq_false_iff_not, ite_and_p, ite_or_p, Bool.decide_eq_true, Bool.and_eq_true, Bool.or_eq_true, Bool.not_eq_true', Bool.not_eq_false', Bool.and_eq_false_imp, Bool.or_eq_false_iff, bne_iff_ne, beq_iff_eq, bne_eq_false_iff_eq, beq_eq_false_iff_ne, gt_iff_lt, ge_iff_le, Int.not_lt, Int.not_le, ne_eq, Bool.true_eq_false, Bool.false_eq_true, reduceCtorEq, eta_Airway, eta_Door, eta_Dusting, eta_Fan, eta_Mine, eta_Mode, bytes_nil] at hG; omega)) rfl rfl ?_
    | refine ArgF.is (c_impl_divRound _ _ (by first | assumption | omega) (by first | assumption | omega) (by first | assumption | omega) (by first | assumption | omega)) ?_
    | refine ArgQ.is (fun hG => c_impl_divRound _ _ (by first | assumption | omega) (by first | assumption | omega) (by first | assumption | omega) (by first | assumption | omega)) rfl rfl ?_
    | refine ArgQ.is (fun hG => c_impl_divRound _ _ (by simp only [forall_const, eq_self, not_true_eq_false, not_false_eq_true, or_false, false_or, or_self, or_true, true_or, and_true, true_and, and_false, false_and, decide_true, decide_false, Bool.not_true, Bool.not_false, decide_eq_true_eq, decide_eq_false_iff_not, ite_and_p, ite_or_p, Bool.decide_eq_true, Bool.and_eq_true, Bool.or_eq_true, Bool.not_eq_true', Bool.not_eq_false', Bool.and_eq_false_imp, Bool.or_eq_false_iff, bne_iff_ne, beq_iff_eq, bne_eq_false_iff_eq, beq_eq_false_iff_ne, gt_iff_lt, ge_iff_le, Int.not_lt, Int.not_le, ne_eq, Bool.true_eq_false, Bool.false_eq_true, reduceCtorEq, eta_Airway, eta_Door, eta_Dusting, eta_Fan, eta_Mine, eta_Mode, bytes_nil] at hG; omega) (by simp only [forall_const, eq_self, not_true_eq_false, not_false_eq_true, or_false, false_or, or_self, or_true, true_or, and_true, true_and, and_false, false_and, decide_true, decide_false, Bool.not_true, Bool.not_false, decide_eq_true_eq, decide_eq_false_iff_not, ite_and_p, ite_or_p, Bool.decide_eq_true, Bool.and_eq_true, Bool.or_eq_true, Bool.not_eq_true', Bool.not_eq_false', Bool.and_eq_false_imp, Bool.or_eq_false_iff, bne_iff_ne, beq_iff_eq, bne_eq_false_iff_eq, beq_eq_false_iff_ne, gt_iff_lt, ge_iff_le, Int.not_lt, Int.not_le, ne_eq, Bool.true_eq_false, Bool.false_eq_true, reduceCtorEq, eta_Airway, eta_Door, eta_Dusting, eta_Fan, eta_Mine, eta_Mode, bytes_nil] at hG; omega) (by simp only [forall_const, eq_self, not_true_eq_false, not_false_eq_true, or_false, false_or, or_self, or_true, true_or, and_true, true_and, and_false, false_and, decide_true, decide_false, Bool.not_true, Bool.not_false, decide_eq_true_eq, decide_eq_false_iff_not, ite_and_p, ite_or_p, Bool.decide_eq_true, Bool.and_eq_true, Bool.or_eq_true, Bool.not_eq_true', Bool.not_eq_false', Bool.and_eq_false_imp, Bool.or_eq_false_iff, bne_iff_ne, beq_iff_eq, bne_eq_false_iff_eq, beq_eq_false_iff_ne, gt_iff_lt, ge_iff_le, Int.not_lt, Int.not_le, ne_eq, Bool.true_eq_false, Bool.false_eq_true, reduceCtorEq, eta_Airway, eta_Door, eta_Dusting, eta_Fan, eta_Mine, eta_Mode, bytes_nil] at hG; omega) (by simp only [forall_const, eq_self, not_true_eq_false, not_false_eq_true, or_false, false_or, or_self, or_true, true_or, and_true, true_and, and_false, false_and, decide_true, decide_false, Bool.not_true, Bool.not_false, decide_eq_true_eq, decide_eq_false_iff_not, ite_and_p, ite_or_p, Bool.decide_eq_true, Bool.and_eq_true, Bool.or_eq_true, Bool.not_eq_true', Bool.not_eq_false', Bool.and_eq_false_imp, Bool.or_eq_false_iff, bne_iff_ne, beq_iff_eq, bne_eq_false_iff_eq, beq_eq_false_iff_ne, gt_iff_lt, ge_iff_le, Int.not_lt, Int.not_le, ne_eq, Bool.true_eq_false, Bool.false_eq_true, reduceCtorEq, eta_Airway, eta_Door, eta_Dusting, eta_Fan, eta_Mine, eta_Mode, bytes_nil] at hG; omega)) rfl rfl ?_
    | refine CallF.mk (CallW.is [] true rfl ?_)
    | refine CallG.mk ?_
    | (refine CondF.mk (fun hb => ?_) (fun hb => ?_) <;> try simp only [forall_const, eq_self, not_true_eq_false, not_false_eq_true, or_false, false_or, or_self, or_true, true_or, and_true, true_and, and_false, false_and, decide_true, decide_false, Bool.not_true, Bool.not_false, decide_eq_true_eq, decide_eq_false_iff_not, ite_and_p, ite_or_p, Bool.decide_eq_true, Bool.and_eq_true, Bool.or_eq_true, Bool.not_eq_true', Bool.not_eq_false', Bool.and_eq_false_imp, Bool.or_eq_false_iff, bne_iff_ne, beq_iff_eq, bne_eq_false_iff_eq, beq_eq_false_iff_ne, gt_iff_lt, ge_iff_le, Int.not_lt, Int.not_le, ne_eq, Bool.true_eq_false, Bool.false_eq_true, reduceCtorEq, eta_Airway, eta_Door, eta_Dusting, eta_Fan, eta_Mine, eta_Mode] at hb)
    | apply BackF.auto5
    | apply BackF.auto2
    | refine BackB.mk ?_ ?_
    | refine RetF.auto (And.intro rfl ?_)
    | exact Is.mk rfl rfl
    | refine Is.mk ?_ rfl
    | refine Is.mk rfl ?_
    | refine Is.mk ?_ ?_
  all_goals try dsimp only
  all_goals try omega
  · refine ⟨by omega, by omega, condS_0.symm, by omega, by omega⟩
  · have := condI_b (hx i0.toNat (by omega))
    exact ⟨by omega, by omega, by rw [condS_s h0 hb hx, h2], by omega, by omega⟩
  · exact ⟨by omega, by omega, condS_0.symm, by omega, by omega, rfl, rfl, (givenD_0 (by omega)).symm, fun j hj => absurd hj (by simp)⟩
  · refine ⟨by omega, by omega, by rw [condS_s h0 hb hx, h2], ?_, ?_, by simp [h5], by omega, by omega, snocP (P := fun j v => v = givenD xs q (j + 1) - givenD xs q j) h8 ?_⟩
    · have := condI_b (hx i.toNat (by omega)); omega
    · have := condI_b (hx i.toNat (by omega)); omega
    · rw [← h5, h6, h7]
  · rw [show n = xs.length by omega]
  · rw [parts_t (xs := xs) (q := q) (by omega) h8]; rfl
end Go.Proofs.Ytnmfbdkiehickaa
