/- Contracts of functions of the program, and what they compute. Conditions: those that each theorem states. -/
import Derived.Test.YtfcnlpghdpfjkaaProg
import Derived.Test.YtfcnlpghdpfjkaaR6
set_option linter.unusedVariables false
set_option linter.unusedSimpArgs false
namespace Go.Proofs.Ytfcnlpghdpfjkaa
open Go.Av
attribute [local irreducible] Go.IntKind.wrap leastI rdZ rd
set_option maxRecDepth 20000
set_option maxHeartbeats 4000000

/-- a sum of products -/
def mixS (fs ts : List Int) : Nat → Int
  | 0 => 0
  | n + 1 => mixS fs ts n + fs.getD n 0 * ts.getD n 0
theorem mixS_s {fs ts : List Int} {i : Int} (h : 0 ≤ i) : mixS fs ts (i + 1).toNat = mixS fs ts i.toNat + fs.getD i.toNat 0 * ts.getD i.toNat 0 := by rw [show (i + 1).toNat = i.toNat + 1 by omega]; rfl
def sumI (fs : List Int) : Nat → Int
  | 0 => 0
  | n + 1 => sumI fs n + fs.getD n 0
theorem sumI_s {fs : List Int} {i : Int} (h : 0 ≤ i) : sumI fs (i + 1).toNat = sumI fs i.toNat + fs.getD i.toNat 0 := by rw [show (i + 1).toNat = i.toNat + 1 by omega]; rfl
theorem sumI_b {fs : List Int} {a b : Int} {m : Nat} (h : ∀ j : Nat, (j : Int) < m → a ≤ fs.getD j 0 ∧ fs.getD j 0 ≤ b) : ∀ n : Nat, n ≤ m → a * n ≤ sumI fs n ∧ sumI fs n ≤ b * n
  | 0, _ => by simp [sumI]
  | n + 1, hn => by
    have h1 := sumI_b h n (by omega)
    have h2 := h n (by omega)
    simp only [sumI, Int.natCast_add, Int.mul_add]; omega
theorem mixS_b {fs ts : List Int} {lo hi : Int} {m : Nat} (hf : ∀ j : Nat, (j : Int) < m → 1 ≤ fs.getD j 0 ∧ fs.getD j 0 ≤ 100000) (h : ∀ j : Nat, (j : Int) < m → lo ≤ ts.getD j 0 ∧ ts.getD j 0 ≤ hi) : ∀ n : Nat, n ≤ m → lo * sumI fs n ≤ mixS fs ts n ∧ mixS fs ts n ≤ hi * sumI fs n
  | 0, _ => by simp [sumI, mixS]
  | n + 1, hn => by
    have h1 := mixS_b hf h n (by omega)
    have h2 := h n (by omega)
    have h3 := hf n (by omega)
    have h4 := Int.mul_le_mul_of_nonneg_right h2.1 (show 0 ≤ fs.getD n 0 by omega)
    have h5 := Int.mul_le_mul_of_nonneg_right h2.2 (show 0 ≤ fs.getD n 0 by omega)
    have e : fs.getD n 0 * ts.getD n 0 = ts.getD n 0 * fs.getD n 0 := Int.mul_comm _ _
    simp only [sumI, mixS, Int.mul_add]
    rw [e]; omega
def okMix (fs ts : List Int) : Bool := decide (1 ≤ fs.length ∧ fs.length ≤ 24 ∧ ts.length = fs.length) && fs.all (inR · 1 100000) && ts.all (inR · (-100) 600)
theorem okMix_b {fs ts : List Int} (h : okMix fs ts = true) : (1 ≤ fs.length ∧ fs.length ≤ 24 ∧ ts.length = fs.length) ∧ (∀ j : Nat, (j : Int) < fs.length → 1 ≤ fs.getD j 0 ∧ fs.getD j 0 ≤ 100000) ∧ ∀ j : Nat, (j : Int) < fs.length → -100 ≤ ts.getD j 0 ∧ ts.getD j 0 ≤ 600 := by
  simp only [okMix, Bool.and_eq_true, decide_eq_true_eq] at h
  exact ⟨h.1.1, fun j hj => inR_iff.1 (all_iff.1 h.1.2 j hj), fun j hj => inR_iff.1 (all_iff.1 h.2 j (by omega))⟩
theorem c_impl_sumOf (fs : List Int) (hf : ∀ j : Nat, (j : Int) < fs.length → -1000000000000 ≤ fs.getD j 0 ∧ fs.getD j 0 ≤ 1000000000000) (hl : fs.length ≤ 1000000) : FnSem Try.prog 215 [Lx (LI fs)] [] (Is [In (sumI fs fs.length)] []) := by
  refine FnSem.walk (zs := zeroPV Try.prog) (by kernel_rfl) Try.func215 rfl Try.results215 (by kernel_rfl) (by kernel_rfl) (by kernel_rfl) fun hw hh => ?_
  obtain ⟨w0, _⟩ := hw
  first | replace w0 := wf_LI w0 | skip
  repeat' first
    | refine And.intro rfl ?_
    | refine GdF.mk (fun h => h) ?_
    | refine And.intro (Nat.succ_ne_zero _) ?_
    | refine And.intro (Nat.le_of_ble_eq_true rfl) ?_
    | refine SeqF.run ?_
    | refine EqI.mk _ (fun _ => by have := hf i.toNat (by omega); have := sumI_b hf i.toNat (by omega); exact wrapI (by omega) (by omega)) ?_
    | refine LoopF.at 3 rfl (LoopF.fix [6, 7] (Int × Int) (fun (i, s) => 0 ≤ i ∧ i ≤ fs.length ∧ s = sumI fs i.toNat) (fun (i, s) => [(8, In i), (3, In s)]) (fun (i, s) => []) (fun (i, s) => ((fs.length - i).toNat)) ((0, 0)) ?_)
    | (refine LoopB.of (T := Int × Int) ?_ ?_; rotate_left; rintro ⟨i, s⟩ ⟨h0, h1, h2⟩; rotate_left)
    | refine GhF.go ?_
    | refine EqP.mk _ (gm eI 0 rfl) ?_
    | refine BndF.mk (fun _ => by omega) ?_
    | refine BndF.mk (fun _ => by simp only [List.length_map, List.length_cons, List.length_nil, List.length_append, List.length_set, List.length_replicate, iotaI_len]; omega) ?_
    | refine EqI.mk _ (fun _ => wrapI (by omega) (by omega)) ?_
    | refine EqI.mk _ (fun _ => rfl) ?_
    | refine EqN.mk _ (ln eI) ?_
    | refine EqN.mk _ (Nat.zero_add _) ?_
    | refine EqN.mk _ (Int.toNat_natCast _) ?_
    | refine EqN.mk _ rfl ?_
    | (refine CondF.mk (fun hb => ?_) (fun hb => ?_) <;> try simp only [forall_const, eq_self, not_true_eq_false, not_false_eq_true, or_false, false_or, or_self, or_true, true_or, and_true, true_and, and_false, false_and, decide_true, decide_false, Bool.not_true, Bool.not_false, decide_eq_true_eq, decide_eq_false_iff_not, ite_and_p, ite_or_p, Bool.decide_eq_true, Bool.and_eq_true, Bool.or_eq_true, Bool.not_eq_true', Bool.not_eq_false', Bool.and_eq_false_imp, Bool.or_eq_false_iff, bne_iff_ne, beq_iff_eq, bne_eq_false_iff_eq, beq_eq_false_iff_ne, gt_iff_lt, ge_iff_le, Int.not_lt, Int.not_le, ne_eq, Bool.true_eq_false, Bool.false_eq_true, reduceCtorEq, eta_Airway, eta_Fan, eta_Mine] at hb)
    | apply BackF.auto2
    | refine BackB.mk ?_ ?_
    | refine RetF.auto (And.intro rfl ?_)
    | exact Is.mk rfl rfl
    | refine Is.mk ?_ rfl
    | refine Is.mk rfl ?_
    | refine Is.mk ?_ ?_
  all_goals try dsimp only
  all_goals try simp only [Bo, I, OB.row.injEq, AV.osl.injEq, eI_same,  List.cons.injEq, AV.p.injEq, PV.c.injEq, Value.int.injEq, Value.bool.injEq, and_true, true_and, ite_and_p, ite_or_p, Bool.decide_eq_true, eta_Airway, eta_Fan, eta_Mine]
  · exact ⟨by omega, by omega, rfl⟩
  · exact ⟨by omega, by omega, by rw [sumI_s h0, ← h2]⟩
  · omega
  · rw [h2, show i.toNat = fs.length by omega]
def mixT (fs ts : List Int) : Int := rdZ (mixS fs ts fs.length) (sumI fs fs.length)
theorem c_impl_mixTemperature (fs ts : List Int) (h : okMix fs ts = true) : FnSem Try.prog 198 [Lx (LI fs), Lx (LI ts)] [] (Is [In (mixT fs ts)] []) := by
  obtain ⟨hl, hf, ht⟩ := okMix_b h
  have hs := sumI_b hf fs.length (by omega)
  have hm := mixS_b hf ht
  have hq := sumI_b hf
  have hx : ∀ j : Nat, (j : Int) < fs.length → -60000000 ≤ fs.getD j 0 * ts.getD j 0 ∧ fs.getD j 0 * ts.getD j 0 ≤ 60000000 := fun j hj => by
    have h1 := hf j hj; have h2 := ht j hj
    have := mul_b (a := ts.getD j 0) (A := 600) (b := fs.getD j 0) (B := 100000) (by omega) (by omega)
    rw [Int.mul_comm (fs.getD j 0)]; omega
  refine FnSem.walk (zs := zeroPV Try.prog) (by kernel_rfl) Try.func198 rfl Try.results198 (by kernel_rfl) (by kernel_rfl) (by kernel_rfl) fun hw hh => ?_
  obtain ⟨w0, w1, _⟩ := hw
  first | replace w0 := wf_LI w0 | skip
  first | replace w1 := wf_LI w1 | skip
  repeat' first
    | refine And.intro rfl ?_
    | refine GdF.mk (fun h => h) ?_
    | refine And.intro (Nat.succ_ne_zero _) ?_
    | refine And.intro (Nat.le_of_ble_eq_true rfl) ?_
    | refine SeqF.run ?_
    | refine EqI.mk _ (fun _ => by have := hx i.toNat (by omega); exact wrapI (by omega) (by omega)) ?_
    | refine EqI.mk _ (fun _ => by have := hx i.toNat (by omega); have := hm i.toNat (by omega); have := hq i.toNat (by omega); exact wrapI (by omega) (by omega)) ?_
    | refine ArgF.is (c_impl_sumOf fs (fun j hj => by have := hf j hj; omega) (by omega)) ?_
    | refine ArgQ.is (fun hG => c_impl_sumOf fs (fun j hj => by have := hf j hj; omega) (by omega)) rfl rfl ?_
    | refine ArgF.is (divRoundZ _ _ (by subst h2; have := hm i.toNat (by omega); have := hq i.toNat (by omega); omega) (by omega) (by omega)) ?_
    | refine ArgQ.is (fun hG => divRoundZ _ _ (by subst h2; have := hm i.toNat (by omega); have := hq i.toNat (by omega); omega) (by omega) (by omega)) rfl rfl ?_
    | refine LoopF.at 3 rfl (LoopF.fix [0, 1, 8, 9] (Int × Int) (fun (i, s) => 0 ≤ i ∧ i ≤ fs.length ∧ s = mixS fs ts i.toNat) (fun (i, s) => [(10, In i), (5, In s)]) (fun (i, s) => []) (fun (i, s) => ((fs.length - i).toNat)) ((0, 0)) ?_)
    | (refine LoopB.of (T := Int × Int) ?_ ?_; rotate_left; rintro ⟨i, s⟩ ⟨h0, h1, h2⟩; rotate_left)
    | refine GhF.go ?_
    | refine EqP.mk _ (gm eI 0 rfl) ?_
    | refine BndF.mk (fun _ => by omega) ?_
    | refine BndF.mk (fun _ => by simp only [List.length_map, List.length_cons, List.length_nil, List.length_append, List.length_set, List.length_replicate, iotaI_len]; omega) ?_
    | refine EqI.mk _ (fun _ => wrapI (by omega) (by omega)) ?_
    | refine EqI.mk _ (fun _ => rfl) ?_
    | refine EqN.mk _ (ln eI) ?_
    | refine EqN.mk _ (Nat.zero_add _) ?_
    | refine EqN.mk _ (Int.toNat_natCast _) ?_
    | refine EqN.mk _ rfl ?_
    | refine EqL.mk _ (tk eI (by first | rfl | assumption | omega | (simp only [List.length_map, List.length_cons, List.length_nil, List.length_append, List.length_set, List.length_replicate, iotaI_len]; done) | (simp only [List.length_map, List.length_cons, List.length_nil, List.length_append, List.length_set, List.length_replicate, iotaI_len]; omega))) ?_
    | refine EqL.mk [] rfl ?_
    | refine EqL.mk [_] rfl ?_
    | refine EqL.mk _ rfl ?_
    | refine ArgF.is (c_impl_sumOf _ (by first | assumption | omega) (by first | assumption | omega)) ?_
    | refine ArgQ.is (fun hG => c_impl_sumOf _ (by first | assumption | omega) (by first | assumption | omega)) rfl rfl ?_
    | refine ArgF.is (c_impl_divRound _ _ (by first | assumption | omega) (by first | assumption | omega) (by first | assumption | omega) (by first | assumption | omega)) ?_
    | refine ArgQ.is (fun hG => c_impl_divRound _ _ (by first | assumption | omega) (by first | assumption | omega) (by first | assumption | omega) (by first | assumption | omega)) rfl rfl ?_
    | refine CallF.mk (CallW.is [] true rfl ?_)
    | refine CallG.mk ?_
    | (refine CondF.mk (fun hb => ?_) (fun hb => ?_) <;> try simp only [forall_const, eq_self, not_true_eq_false, not_false_eq_true, or_false, false_or, or_self, or_true, true_or, and_true, true_and, and_false, false_and, decide_true, decide_false, Bool.not_true, Bool.not_false, decide_eq_true_eq, decide_eq_false_iff_not, ite_and_p, ite_or_p, Bool.decide_eq_true, Bool.and_eq_true, Bool.or_eq_true, Bool.not_eq_true', Bool.not_eq_false', Bool.and_eq_false_imp, Bool.or_eq_false_iff, bne_iff_ne, beq_iff_eq, bne_eq_false_iff_eq, beq_eq_false_iff_ne, gt_iff_lt, ge_iff_le, Int.not_lt, Int.not_le, ne_eq, Bool.true_eq_false, Bool.false_eq_true, reduceCtorEq, eta_Airway, eta_Fan, eta_Mine] at hb)
    | apply BackF.auto2
    | refine BackB.mk ?_ ?_
    | refine RetF.auto (And.intro rfl ?_)
    | exact Is.mk rfl rfl
    | refine Is.mk ?_ rfl
    | refine Is.mk rfl ?_
    | refine Is.mk ?_ ?_
  all_goals try dsimp only
  all_goals try simp only [Bo, I, OB.row.injEq, AV.osl.injEq, eI_same,  List.cons.injEq, AV.p.injEq, PV.c.injEq, Value.int.injEq, Value.bool.injEq, and_true, true_and, ite_and_p, ite_or_p, Bool.decide_eq_true, eta_Airway, eta_Fan, eta_Mine]
  · exact ⟨by omega, by omega, rfl⟩
  · exact ⟨by omega, by omega, by rw [mixS_s h0, ← h2]⟩
  · omega
  · rw [h2, show i.toNat = fs.length by omega]; rfl
def mixTemp (fs ts : List Int) : Int × Int := if okMix fs ts then (mixT fs ts, 0) else (0, 2)
theorem mixT_b {fs ts : List Int} {lo hi : Int} (h : okMix fs ts = true) (ht : ∀ j : Nat, (j : Int) < fs.length → lo ≤ ts.getD j 0 ∧ ts.getD j 0 ≤ hi) : lo ≤ mixT fs ts ∧ mixT fs ts ≤ hi := by
  obtain ⟨hl, hf, _⟩ := okMix_b h
  have hs := sumI_b hf fs.length (by omega)
  have hm := mixS_b hf ht fs.length (by omega)
  unfold mixT
  exact ⟨rdZ_lo (by omega) hm.1, rdZ_hi (by omega) hm.2⟩
attribute [local irreducible] mixT
end Go.Proofs.Ytfcnlpghdpfjkaa
