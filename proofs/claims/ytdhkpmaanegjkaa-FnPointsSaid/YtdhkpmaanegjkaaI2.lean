/- Contracts of functions of the program, and what they compute. Conditions: those that each theorem states. -/
import Derived.Test.YtdhkpmaanegjkaaProg
import Derived.Test.YtdhkpmaanegjkaaI1
import Derived.Test.YtdhkpmaanegjkaaI2s
set_option linter.unusedVariables false
set_option linter.unusedSimpArgs false
namespace Go.Proofs.Ytdhkpmaanegjkaa
open Go.Av
attribute [local irreducible] Go.IntKind.wrap leastI binI rdZ rd rootI rawA dropI prI wfI pwF okFanB
set_option maxRecDepth 20000
set_option maxHeartbeats 16000000

/-! The best fan: the program; pressures and drops: the reference. -/
/-- the best fan, in one form -/
inductive BfR (fs : List GFan) (r d : Int) (rs : List AV) (ho : List OB) : Prop
  | mk (k c : Int) (h1 : rs = [In k, In c]) (h2 : ho = []) (h3 : c ≠ 0 → k = 0) (h : c = 0 → (∀ j : Nat, j < fs.length → okFan (fs.getD j default)) ∧ (1 ≤ r ∧ r ≤ 1000000) ∧ (0 ≤ k ∧ k < fs.length) ∧ d ≤ wfI (fs.getD k.toNat default) r ∧ ∀ j : Nat, (j : Int) < fs.length → d ≤ wfI (fs.getD j default) r → pwF (fs.getD k.toNat default) (wfI (fs.getD k.toNat default) r) ≤ pwF (fs.getD j default) (wfI (fs.getD j default) r))
/-- the best one so far -/
def beI (fs : List GFan) (r d i b g : Int) : Prop := (b = -1 ∧ ∀ j : Nat, (j : Int) < i → ¬d ≤ wfI (fs.getD j default) r) ∨ ((0 ≤ b ∧ b < i) ∧ d ≤ wfI (fs.getD b.toNat default) r ∧ g = pwF (fs.getD b.toNat default) (wfI (fs.getD b.toNat default) r) ∧ ∀ j : Nat, (j : Int) < i → d ≤ wfI (fs.getD j default) r → g ≤ pwF (fs.getD j default) (wfI (fs.getD j default) r))
section
variable {fs : List GFan} {r d i b g : Int}
theorem beI_0 : beI fs r d 0 (-1) 0 := .inl ⟨rfl, fun j hj => absurd hj (by omega)⟩
theorem beI_y (h : beI fs r d i b g) (h0 : 0 ≤ i) (hd : d ≤ wfI (fs.getD i.toNat default) r) (hb : b < 0 ∨ pwF (fs.getD i.toNat default) (wfI (fs.getD i.toNat default) r) < g) : beI fs r d (i + 1) i (pwF (fs.getD i.toNat default) (wfI (fs.getD i.toNat default) r)) := by
  refine .inr ⟨by omega, hd, rfl, fun j hj hdj => ?_⟩
  by_cases e : (j : Int) = i
  · rw [show j = i.toNat by omega]; exact Int.le_refl _
  · rcases h with ⟨h1, h2⟩ | ⟨h1, h2, h3, h4⟩
    · exact absurd hdj (h2 j (by omega))
    · have := h4 j (by omega) hdj
      omega
theorem beI_n (h : beI fs r d i b g) (h0 : 0 ≤ i) (hn : d ≤ wfI (fs.getD i.toNat default) r → 0 ≤ b ∧ g ≤ pwF (fs.getD i.toNat default) (wfI (fs.getD i.toNat default) r)) : beI fs r d (i + 1) b g := by
  rcases h with ⟨h1, h2⟩ | ⟨h1, h2, h3, h4⟩
  · refine .inl ⟨h1, fun j hj hd => ?_⟩
    by_cases e : (j : Int) = i
    · rw [show j = i.toNat by omega] at hd; have := hn hd; omega
    · exact h2 j (by omega) hd
  · refine .inr ⟨by omega, h2, h3, fun j hj hd => ?_⟩
    by_cases e : (j : Int) = i
    · rw [show j = i.toNat by omega] at hd ⊢; exact (hn hd).2
    · exact h4 j (by omega) hd
theorem beI_r (h : beI fs r d i b g) : -1 ≤ b ∧ (b < i ∨ b = -1) := by
  rcases h with ⟨h1, _⟩ | ⟨h1, _⟩ <;> omega
end
theorem c_impl_BestFan (fs : List GFan) (r d : Int) : FnSem Try.prog 10 [Lx (.lst GFan.z (fs.map GFan.cells)), In r, In d] [] (BfR fs r d) := by
  refine FnSem.walk (zs := zeroPV Try.prog) (by kernel_rfl) Try.func10 rfl Try.results10 (by kernel_rfl) (by kernel_rfl) (by kernel_rfl) fun hw hh => ?_
  obtain ⟨w0, w1, w2, _⟩ := hw
  first | replace w0 := wf_LFan w0 | skip
  first | replace w1 := wf_I w1 | skip
  first | replace w2 := wf_I w2 | skip
  repeat' first
    | refine And.intro rfl ?_
    | refine GdF.mk (fun h => h) ?_
    | refine And.intro (Nat.succ_ne_zero _) ?_
    | refine And.intro (Nat.le_of_ble_eq_true rfl) ?_
    | refine SeqF.run ?_
    | (refine ArgF.ret (vFansW fs) ?_; intro bb hbv)
    | refine ArgF.is (c_impl_Fan_workingFlow (fs.getD i.toNat default) r (i2.2 i.toNat (by omega)) i3) ?_
    | refine ArgQ.is (fun hG => c_impl_Fan_workingFlow (fs.getD i.toNat default) r (i2.2 i.toNat (by omega)) i3) rfl rfl ?_
    | refine ArgF.is (c_impl_Fan_power (fs.getD i.toNat default) (wfI (fs.getD i.toNat default) r) (i2.2 i.toNat (by omega)) (by have q := (wfI_p (r := r) (i2.2 i.toNat (by omega))).1; omega)) ?_
    | refine ArgQ.is (fun hG => c_impl_Fan_power (fs.getD i.toNat default) (wfI (fs.getD i.toNat default) r) (i2.2 i.toNat (by omega)) (by have q := (wfI_p (r := r) (i2.2 i.toNat (by omega))).1; omega)) rfl rfl ?_
    | refine LoopF.at 7 rfl (LoopF.fix [1, 2, 26, 27] (Int × Int × Int) (fun (i, b, g) => 0 ≤ i ∧ i ≤ fs.length ∧ (fs.length ≤ 8 ∧ ∀ k : Nat, k < fs.length → okFan (fs.getD k default)) ∧ (1 ≤ r ∧ r ≤ 1000000) ∧ beI fs r d i b g) (fun (i, b, g) => [(28, In i), (8, In b), (9, In g)]) (fun (i, b, g) => []) (fun (i, b, g) => ((fs.length - i).toNat)) ((0, -1, 0)) ?_)
    | (refine LoopB.of (T := Int × Int × Int) ?_ ?_; rotate_left; rintro ⟨i, b, g⟩ ⟨i0, i1, i2, i3, i4⟩; rotate_left)
    | refine BfR.mk _ _ rfl rfl ?_ ?_
    | refine GhF.go ?_
    | refine GdS.keep ?_
    | refine EqP.mk _ (gmb GFan.cells default (by omega)) ?_
    | refine BndF.mk (fun _ => by omega) ?_
    | refine BndF.mk (fun _ => by simp only [List.length_map, List.length_cons, List.length_nil, List.length_append, List.length_set, List.length_replicate, iotaI_len]; omega) ?_
    | refine BndF.mk (fun hG => by simp only [forall_const, eq_self, not_true_eq_false, not_false_eq_true, or_false, false_or, or_self, or_true, true_or, and_true, true_and, and_false, false_and, decide_true, decide_false, Bool.not_true, Bool.not_false, decide_eq_true_eq, decide_eq_false_iff_not, ite_and_p, ite_or_p, Bool.decide_eq_true, Bool.and_eq_true, Bool.or_eq_true, Bool.not_eq_true', Bool.not_eq_false', Bool.and_eq_false_imp, Bool.or_eq_false_iff, bne_iff_ne, beq_iff_eq, bne_eq_false_iff_eq, beq_eq_false_iff_ne, gt_iff_lt, ge_iff_le, Int.not_lt, Int.not_le, ne_eq, Bool.true_eq_false, Bool.false_eq_true, reduceCtorEq, eta_Fan, bytes_nil] at hG; (try simp only [List.length_map]); omega) ?_
    | refine EqI.mk _ (fun _ => wrapI (by omega) (by omega)) ?_
    | refine EqI.mk _ (fun _ => rfl) ?_
    | refine EqN.mk _ (ln GFan.cells) ?_
    | refine EqN.mk _ (Nat.zero_add _) ?_
    | refine EqN.mk _ (Int.toNat_natCast _) ?_
    | refine EqN.mk _ rfl ?_
    | refine EqL.mk _ (tk GFan.cells (by first | rfl | assumption | omega | (simp only [List.length_map, List.length_cons, List.length_nil, List.length_append, List.length_set, List.length_replicate, iotaI_len]; done) | (simp only [List.length_map, List.length_cons, List.length_nil, List.length_append, List.length_set, List.length_replicate, iotaI_len]; omega))) ?_
    | refine EqL.mk _ (st GFan.cells) ?_
    | refine EqL.mk [] rfl ?_
    | refine EqL.mk [_] rfl ?_
    | refine EqL.mk _ rfl ?_
    | refine ArgF.is (c_impl_ValidFans ..) ?_
    | refine ArgQ.is (fun hG => c_impl_ValidFans ..) rfl rfl ?_
    | refine ArgF.is (c_impl_resistanceOk ..) ?_
    | refine ArgQ.is (fun hG => c_impl_resistanceOk ..) rfl rfl ?_
    | refine ArgF.is (c_impl_within ..) ?_
    | refine ArgQ.is (fun hG => c_impl_within ..) rfl rfl ?_
    | refine ArgF.is (c_impl_Fan_workingFlow ⟨_, _, _⟩ _ (by first | assumption | omega) (by first | assumption | omega)) ?_
    | refine ArgQ.is (fun hG => c_impl_Fan_workingFlow ⟨_, _, _⟩ _ (by first | assumption | omega) (by first | assumption | omega)) rfl rfl ?_
    | refine ArgQ.is (fun hG => c_impl_Fan_workingFlow ⟨_, _, _⟩ _ (by simp only [forall_const, eq_self, not_true_eq_false, not_false_eq_true, or_false, false_or, or_self, or_true, true_or, and_true, true_and, and_false, false_and, decide_true, decide_false, Bool.not_true, Bool.not_false, decide_eq_true_eq, decide_eq_false_iff_not, ite_and_p, ite_or_p, Bool.decide_eq_true, Bool.and_eq_true, Bool.or_eq_true, Bool.not_eq_true', Bool.not_eq_false', Bool.and_eq_false_imp, Bool.or_eq_false_iff, bne_iff_ne, beq_iff_eq, bne_eq_false_iff_eq, beq_eq_false_iff_ne, gt_iff_lt, ge_iff_le, Int.not_lt, Int.not_le, ne_eq, Bool.true_eq_false, Bool.false_eq_true, reduceCtorEq, eta_Fan, bytes_nil] at hG; omega) (by simp only [forall_const, eq_self, not_true_eq_false, not_false_eq_true, or_false, false_or, or_self, or_true, true_or, and_true, true_and, and_false, false_and, decide_true, decide_false, Bool.not_true, Bool.not_false, decide_eq_true_eq, decide_eq_false_iff_not, ite_and_p, ite_or_p, Bool.decide_eq_true, Bool.and_eq_true, Bool.or_eq_true, Bool.not_eq_true', Bool.not_eq_false', Bool.and_eq_false_imp, Bool.or_eq_false_iff, bne_iff_ne, beq_iff_eq, bne_eq_false_iff_eq, beq_eq_false_iff_ne, gt_iff_lt, ge_iff_le, Int.not_lt, Int.not_le, ne_eq, Bool.true_eq_false, Bool.false_eq_true, reduceCtorEq, eta_Fan, bytes_nil] at hG; omega)) rfl rfl ?_
    | refine ArgF.is (c_impl_Fan_power ⟨_, _, _⟩ _ (by first | assumption | omega) (by first | assumption | omega)) ?_
    | refine ArgQ.is (fun hG => c_impl_Fan_power ⟨_, _, _⟩ _ (by first | assumption | omega) (by first | assumption | omega)) rfl rfl ?_
    | refine ArgQ.is (fun hG => c_impl_Fan_power ⟨_, _, _⟩ _ (by simp only [forall_const, eq_self, not_true_eq_false, not_false_eq_true, or_false, false_or, or_self, or_true, true_or, and_true, true_and, and_false, false_and, decide_true, decide_false, Bool.not_true, Bool.not_false, decide_eq_true_eq, decide_eq_false_iff_not, ite_and_p, ite_or_p, Bool.decide_eq_true, Bool.and_eq_true, Bool.or_eq_true, Bool.not_eq_true', Bool.not_eq_false', Bool.and_eq_false_imp, Bool.or_eq_false_iff, bne_iff_ne, beq_iff_eq, bne_eq_false_iff_eq, beq_eq_false_iff_ne, gt_iff_lt, ge_iff_le, Int.not_lt, Int.not_le, ne_eq, Bool.true_eq_false, Bool.false_eq_true, reduceCtorEq, eta_Fan, bytes_nil] at hG; omega) (by simp only [forall_const, eq_self, not_true_eq_false, not_false_eq_true, or_false, false_or, or_self, or_true, true_or, and_true, true_and, and_false, false_and, decide_true, decide_false, Bool.not_true, Bool.not_false, decide_eq_true_eq, decide_eq_false_iff_not, ite_and_p, ite_or_p, Bool.decide_eq_true, Bool.and_eq_true, Bool.or_eq_true, Bool.not_eq_true', Bool.not_eq_false', Bool.and_eq_false_imp, Bool.or_eq_false_iff, bne_iff_ne, beq_iff_eq, bne_eq_false_iff_eq, beq_eq_false_iff_ne, gt_iff_lt, ge_iff_le, Int.not_lt, Int.not_le, ne_eq, Bool.true_eq_false, Bool.false_eq_true, reduceCtorEq, eta_Fan, bytes_nil] at hG; omega)) rfl rfl ?_
    | refine ArgF.is (c_impl_orNotFound ..) ?_
    | refine ArgQ.is (fun hG => c_impl_orNotFound ..) rfl rfl ?_
    | refine CallF.mk (CallW.is [] true rfl ?_)
    | refine CallG.mk ?_
    | (refine CondF.mk (fun hb => ?_) (fun hb => ?_) <;> try simp only [forall_const, eq_self, not_true_eq_false, not_false_eq_true, or_false, false_or, or_self, or_true, true_or, and_true, true_and, and_false, false_and, decide_true, decide_false, Bool.not_true, Bool.not_false, decide_eq_true_eq, decide_eq_false_iff_not, ite_and_p, ite_or_p, Bool.decide_eq_true, Bool.and_eq_true, Bool.or_eq_true, Bool.not_eq_true', Bool.not_eq_false', Bool.and_eq_false_imp, Bool.or_eq_false_iff, bne_iff_ne, beq_iff_eq, bne_eq_false_iff_eq, beq_eq_false_iff_ne, gt_iff_lt, ge_iff_le, Int.not_lt, Int.not_le, ne_eq, Bool.true_eq_false, Bool.false_eq_true, reduceCtorEq, eta_Fan] at hb)
    | apply BackF.auto3
    | refine BackB.mk ?_ ?_
    | refine RetF.auto (And.intro rfl ?_)
    | exact Is.mk rfl rfl
    | refine Is.mk ?_ rfl
    | refine Is.mk rfl ?_
    | refine Is.mk ?_ ?_
  all_goals try dsimp only
  all_goals first
    | omega
    | exact fun h => absurd h (by decide)
    | exact fun _ => rfl
    | exact ⟨by omega, by omega, hbv (by assumption), inR_iff.1 (by simpa using hb.1), beI_0⟩
    | exact ⟨by omega, by omega, i2, i3, beI_y i4 i0 hb.1 hb.2⟩
    | exact ⟨by omega, by omega, i2, i3, beI_n i4 i0 hb⟩
    | (by_cases e : b ≥ 0
       · rw [decide_eq_true e]; intro h; exact absurd rfl h
       · rw [decide_eq_false e]; intro _; rfl)
    | (by_cases e : b ≥ 0
       · simp only [decide_eq_true e, if_true]
         intro _
         rcases i4 with ⟨h1, _⟩ | ⟨h1, h2, h3, h4⟩
         · omega
         · exact ⟨i2.2, i3, by omega, h2, fun j hj hd => by rw [← h3]; exact h4 j (by omega) hd⟩
       · simp only [decide_eq_false e]
         intro h; exact absurd h (by decide))
    | skip
--@fn spec.l03Res
theorem reF (x : Int) (h : 1 ≤ x ∧ x ≤ 1000000) : FnSem Try.prog 22 [In x] [] (Is [Bo true] []) := by
  have := c_spec_l03Res x
  rwa [inR_iff.2 h] at this
--@fn spec.l03Abs
theorem sabsF (q : Int) (h : -1000000000000000 ≤ q ∧ q ≤ 1000000000000000) : FnSem Try.prog 46 [In q] [] (Is [In (absI q)] []) := by
  have ha := c_spec_l03Abs q
  rwa [show max q (IntKind.i64.wrap (0 - q)) = absI q by rw [wrapI (by omega) (by omega)]; rfl] at ha
--@fn spec.l03Drop
theorem drF (r q : Int) (hr : 1 ≤ r ∧ r ≤ 1000000) (hq : -100000 ≤ q ∧ q ≤ 100000) : FnSem Try.prog 23 [In r, In q] [] (Is [In (dropI r q)] []) := by
  have hb := dropI_b hr hq
  have hd := c_spec_l01Div (r * q * max q (-q)) 10000000000 (by omega) (by omega)
  have e : rdZ (r * q * max q (-q)) 10000000000 = dropI r q := by unfold dropI; rfl
  rw [e] at hd
  have ha := sabsF q (by omega)
  rw [show absI q = max q (-q) by unfold absI; omega] at ha
  refine FnSem.walk (zs := zeroPV Try.prog) (by kernel_rfl) Try.func23 rfl Try.results23 (by kernel_rfl) (by kernel_rfl) (by kernel_rfl) fun hw hh => ?_
  obtain ⟨w0, w1, _⟩ := hw
  first | replace w0 := wf_I w0 | skip
  first | replace w1 := wf_I w1 | skip
  repeat' first
    | refine And.intro rfl ?_
    | refine GdF.mk (fun h => h) ?_
    | refine And.intro (Nat.succ_ne_zero _) ?_
    | refine And.intro (Nat.le_of_ble_eq_true rfl) ?_
    | refine SeqF.run ?_
    | refine ArgF.is (ha) ?_
    | refine ArgQ.is (fun hG => ha) rfl rfl ?_
    | refine ArgF.is (hd) ?_
    | refine ArgQ.is (fun hG => hd) rfl rfl ?_
    | refine GhF.go ?_
    | refine BndF.mk (fun _ => by omega) ?_
    | refine BndF.mk (fun _ => by simp only [List.length_map, List.length_cons, List.length_nil, List.length_append, List.length_set, List.length_replicate, iotaI_len]; omega) ?_
    | refine EqI.mk _ (fun _ => wrapI (by omega) (by omega)) ?_
    | refine EqI.mk _ (fun _ => rfl) ?_
    | refine EqL.mk [] rfl ?_
    | refine EqL.mk [_] rfl ?_
    | refine EqL.mk _ rfl ?_
    | refine ArgF.is (c_spec_l03Abs ..) ?_
    | refine ArgQ.is (fun hG => c_spec_l03Abs ..) rfl rfl ?_
    | refine ArgF.is (c_spec_l01Div _ _ (by first | assumption | omega) (by first | assumption | omega)) ?_
    | refine ArgQ.is (fun hG => c_spec_l01Div _ _ (by first | assumption | omega) (by first | assumption | omega)) rfl rfl ?_
    | refine CallF.mk (CallW.is [] true rfl ?_)
    | refine CallG.mk ?_
    | (refine CondF.mk (fun hb => ?_) (fun hb => ?_) <;> try simp only [forall_const, eq_self, not_true_eq_false, not_false_eq_true, or_false, false_or, or_self, or_true, true_or, and_true, true_and, and_false, false_and, decide_true, decide_false, Bool.not_true, Bool.not_false, decide_eq_true_eq, decide_eq_false_iff_not, ite_and_p, ite_or_p, Bool.decide_eq_true, Bool.and_eq_true, Bool.or_eq_true, Bool.not_eq_true', Bool.not_eq_false', Bool.and_eq_false_imp, Bool.or_eq_false_iff, bne_iff_ne, beq_iff_eq, bne_eq_false_iff_eq, beq_eq_false_iff_ne, gt_iff_lt, ge_iff_le, Int.not_lt, Int.not_le, ne_eq, Bool.true_eq_false, Bool.false_eq_true, reduceCtorEq, eta_Fan] at hb)
    | refine RetF.auto (And.intro rfl ?_)
    | exact Is.mk rfl rfl
    | refine Is.mk ?_ rfl
    | refine Is.mk rfl ?_
    | refine Is.mk ?_ ?_
  all_goals skip
--@fn spec.DropOf
theorem drOfT (r q : Int) (hr : 1 ≤ r ∧ r ≤ 1000000) (hq : -100000 ≤ q ∧ q ≤ 100000) : FnSem Try.prog 8 [In r, In q] [] (Is [In (dropI r q), In 0] []) := by
  refine FnSem.walk (zs := zeroPV Try.prog) (by kernel_rfl) Try.func8 rfl Try.results8 (by kernel_rfl) (by kernel_rfl) (by kernel_rfl) fun hw hh => ?_
  obtain ⟨w0, w1, _⟩ := hw
  first | replace w0 := wf_I w0 | skip
  first | replace w1 := wf_I w1 | skip
  repeat' first
    | refine And.intro rfl ?_
    | refine GdF.mk (fun h => h) ?_
    | refine And.intro (Nat.succ_ne_zero _) ?_
    | refine And.intro (Nat.le_of_ble_eq_true rfl) ?_
    | refine SeqF.run ?_
    | refine ArgF.is (reF r hr) ?_
    | refine ArgQ.is (fun hG => reF r hr) rfl rfl ?_
    | refine ArgF.is (sflT q hq) ?_
    | refine ArgQ.is (fun hG => sflT q hq) rfl rfl ?_
    | refine ArgF.is (drF r q hr hq) ?_
    | refine ArgQ.is (fun hG => drF r q hr hq) rfl rfl ?_
    | refine GhF.go ?_
    | refine GdS.keep ?_
    | refine BndF.mk (fun _ => by omega) ?_
    | refine BndF.mk (fun _ => by simp only [List.length_map, List.length_cons, List.length_nil, List.length_append, List.length_set, List.length_replicate, iotaI_len]; omega) ?_
    | refine BndF.mk (fun hG => by simp only [forall_const, eq_self, not_true_eq_false, not_false_eq_true, or_false, false_or, or_self, or_true, true_or, and_true, true_and, and_false, false_and, decide_true, decide_false, Bool.not_true, Bool.not_false, decide_eq_true_eq, decide_eq_false_iff_not, ite_and_p, ite_or_p, Bool.decide_eq_true, Bool.and_eq_true, Bool.or_eq_true, Bool.not_eq_true', Bool.not_eq_false', Bool.and_eq_false_imp, Bool.or_eq_false_iff, bne_iff_ne, beq_iff_eq, bne_eq_false_iff_eq, beq_eq_false_iff_ne, gt_iff_lt, ge_iff_le, Int.not_lt, Int.not_le, ne_eq, Bool.true_eq_false, Bool.false_eq_true, reduceCtorEq, eta_Fan, bytes_nil] at hG; (try simp only [List.length_map]); omega) ?_
    | refine EqL.mk [] rfl ?_
    | refine EqL.mk [_] rfl ?_
    | refine EqL.mk _ rfl ?_
    | refine ArgF.is (c_spec_l03Res ..) ?_
    | refine ArgQ.is (fun hG => c_spec_l03Res ..) rfl rfl ?_
    | refine ArgF.is (c_spec_l03Flow ..) ?_
    | refine ArgQ.is (fun hG => c_spec_l03Flow ..) rfl rfl ?_
    | refine ArgF.is (c_spec_l03Drop _ _ (by first | assumption | omega) (by first | assumption | omega)) ?_
    | refine ArgQ.is (fun hG => c_spec_l03Drop _ _ (by first | assumption | omega) (by first | assumption | omega)) rfl rfl ?_
    | refine ArgQ.is (fun hG => c_spec_l03Drop _ _ (by simp only [forall_const, eq_self, not_true_eq_false, not_false_eq_true, or_false, false_or, or_self, or_true, true_or, and_true, true_and, and_false, false_and, decide_true, decide_false, Bool.not_true, Bool.not_false, decide_eq_true_eq, decide_eq_false_iff_not, ite_and_p, ite_or_p, Bool.decide_eq_true, Bool.and_eq_true, Bool.or_eq_true, Bool.not_eq_true', Bool.not_eq_false', Bool.and_eq_false_imp, Bool.or_eq_false_iff, bne_iff_ne, beq_iff_eq, bne_eq_false_iff_eq, beq_eq_false_iff_ne, gt_iff_lt, ge_iff_le, Int.not_lt, Int.not_le, ne_eq, Bool.true_eq_false, Bool.false_eq_true, reduceCtorEq, eta_Fan, bytes_nil] at hG; omega) (by simp only [forall_const, eq_self, not_true_eq_false, not_false_eq_true, or_false, false_or, or_self, or_true, true_or, and_true, true_and, and_false, false_and, decide_true, decide_false, Bool.not_true, Bool.not_false, decide_eq_true_eq, decide_eq_false_iff_not, ite_and_p, ite_or_p, Bool.decide_eq_true, Bool.and_eq_true, Bool.or_eq_true, Bool.not_eq_true', Bool.not_eq_false', Bool.and_eq_false_imp, Bool.or_eq_false_iff, bne_iff_ne, beq_iff_eq, bne_eq_false_iff_eq, beq_eq_false_iff_ne, gt_iff_lt, ge_iff_le, Int.not_lt, Int.not_le, ne_eq, Bool.true_eq_false, Bool.false_eq_true, reduceCtorEq, eta_Fan, bytes_nil] at hG; omega)) rfl rfl ?_
    | refine CallF.mk (CallW.is [] true rfl ?_)
    | refine CallG.mk ?_
    | (refine CondF.mk (fun hb => ?_) (fun hb => ?_) <;> try simp only [forall_const, eq_self, not_true_eq_false, not_false_eq_true, or_false, false_or, or_self, or_true, true_or, and_true, true_and, and_false, false_and, decide_true, decide_false, Bool.not_true, Bool.not_false, decide_eq_true_eq, decide_eq_false_iff_not, ite_and_p, ite_or_p, Bool.decide_eq_true, Bool.and_eq_true, Bool.or_eq_true, Bool.not_eq_true', Bool.not_eq_false', Bool.and_eq_false_imp, Bool.or_eq_false_iff, bne_iff_ne, beq_iff_eq, bne_eq_false_iff_eq, beq_eq_false_iff_ne, gt_iff_lt, ge_iff_le, Int.not_lt, Int.not_le, ne_eq, Bool.true_eq_false, Bool.false_eq_true, reduceCtorEq, eta_Fan] at hb)
    | refine RetF.auto (And.intro rfl ?_)
    | exact Is.mk rfl rfl
    | refine Is.mk ?_ rfl
    | refine Is.mk rfl ?_
    | refine Is.mk ?_ ?_
  all_goals skip
end Go.Proofs.Ytdhkpmaanegjkaa
