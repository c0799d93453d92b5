/- Contracts of functions of the program, and what they compute. Conditions: those that each theorem states. -/
import Derived.Test.YtnmfbdkiehickaaProg
import Derived.Test.YtnmfbdkiehickaaH3
set_option linter.unusedVariables false
set_option linter.unusedSimpArgs false
namespace Go.Proofs.Ytnmfbdkiehickaa
open Go.Av
attribute [local irreducible] Go.IntKind.wrap leastI rdZ rd rootI condI sumT parI condS resB spOk givenD
set_option maxRecDepth 20000
set_option maxHeartbeats 8000000

theorem parts_sum {xs : List Int} {q : Int} (hx : resOk xs) (hl : 1 ≤ xs.length) : foldT (· + ·) 0 (partsI xs q) (partsI xs q).length = q := by
  have h2 := condS_b hx xs.length (Nat.le_refl _)
  have key : ∀ i : Nat, i ≤ xs.length → foldT (· + ·) 0 (partsI xs q) i = givenD xs q i := by
    intro i
    induction i with
    | zero => intro _; exact (givenD_0 (by omega)).symm
    | succ i ih =>
      intro h
      have e := foldT_s (f := (· + ·)) (z := (0 : Int)) (xs := partsI xs q) (i := i) (by omega) (by rw [partsI_len]; omega) 0
      rw [show ((i + 1 : Nat) : Int) = (i : Int) + 1 by omega, e, ih (by omega), show (Int.toNat i) = i by omega, partsI_get (by omega)]
      omega
  rw [partsI_len, key _ (Nat.le_refl _), givenD_e (by omega)]
attribute [local irreducible] partsI
theorem parts_all {xs : List Int} {q : Int} (h : spOk xs q = true) : (partsI xs q).length = xs.length ∧ xs.length ≤ 24 ∧ foldT (· + ·) 0 (partsI xs q) (partsI xs q).length = q ∧ ∀ j : Nat, (j : Int) < xs.length → (-1000000 ≤ (partsI xs q).getD j 0 ∧ (partsI xs q).getD j 0 ≤ 1000000) ∧ (0 ≤ q → 0 ≤ (partsI xs q).getD j 0) ∧ (q ≤ 0 → (partsI xs q).getD j 0 ≤ 0) := by
  obtain ⟨a, b, c⟩ := spOk_b h
  have h2 := condS_b a xs.length (Nat.le_refl _)
  refine ⟨partsI_len, b.2, parts_sum a b.1, fun j hj => ?_⟩
  have h3 := partsI_b (q := q) a (by omega) (j := j) (by omega)
  rcases Int.le_total 0 q with h | h
  · have := h3.1 h; exact ⟨by omega, fun _ => by omega, fun h' => by have := h3.2 h'; omega⟩
  · have := h3.2 h; exact ⟨by omega, fun h' => by have := h3.1 h'; omega, fun _ => by omega⟩
theorem aw_spec {r t : Int} (h : (airwaysFor r t).2 = 0) : (1 ≤ r ∧ r ≤ 1000000) ∧ (1 ≤ (airwaysFor r t).1 ∧ (airwaysFor r t).1 ≤ 24) ∧ parI (List.replicate (airwaysFor r t).1.toNat r) ≤ t ∧ ∀ k : Int, 1 ≤ k → k < (airwaysFor r t).1 → t < parI (List.replicate k.toNat r) := by
  unfold airwaysFor at *
  by_cases e : inR r 1 1000000 = false ∨ inR t 1 1000000 = false
  · rw [if_pos e] at h; cases h
  · rw [if_neg e] at h ⊢
    by_cases e1 : leastI (parP r t) 1 24 ≤ 24
    · rw [if_pos e1]
      obtain ⟨a, b, c⟩ := leastI_hit e1 (by omega)
      refine ⟨inR_iff.1 (by simpa using fun e2 => e (.inl e2)), ⟨a, e1⟩, of_decide_eq_true b, fun k h1 h2 => ?_⟩
      have := of_decide_eq_false (c k h1 h2)
      omega
    · rw [if_neg e1] at h; cases h
theorem aw_bad {r t : Int} (h : ¬(airwaysFor r t).2 = 0) : (airwaysFor r t).1 = 0 := by
  unfold airwaysFor at *
  by_cases e : inR r 1 1000000 = false ∨ inR t 1 1000000 = false
  · rw [if_pos e]
  · rw [if_neg e] at h ⊢
    by_cases e1 : leastI (parP r t) 1 24 ≤ 24
    · rw [if_pos e1] at h; exact absurd rfl h
    · rw [if_neg e1]
attribute [local irreducible] airwaysFor
theorem rep_res {r : Int} {n : Nat} (hr : 1 ≤ r ∧ r ≤ 1000000) (hn : 1 ≤ n ∧ n ≤ 24) : resB (List.replicate n r) = true := by
  unfold resB
  simp only [Bool.and_eq_true, decide_eq_true_eq, List.length_replicate]
  refine ⟨hn, List.all_eq_true.2 fun x hx => ?_⟩
  rw [(List.mem_replicate.1 hx).2]; exact inR_iff.2 hr
theorem rep_drop {r : Int} {n : Nat} : (List.replicate n r).drop 1 = List.replicate (n - 1) r := by simp
theorem aw_e1 {r t j : Int} {ys : List Int} (h : (airwaysFor r t).2 = 0) (e : ys = List.replicate j.toNat r) (h1 : j ≤ (airwaysFor r t).1) (h2 : (airwaysFor r t).1 ≤ j) : resB ys = true ∧ parI ys ≤ t := by
  obtain ⟨a, b, c, d⟩ := aw_spec h
  rw [show j = (airwaysFor r t).1 by omega] at e
  subst e
  exact ⟨rep_res a (by omega), c⟩
theorem aw_e2 {r t j : Int} {n : Nat} {ys : List Int} (h : (airwaysFor r t).2 = 0) (e : ys = List.replicate j.toNat r) (h1 : j ≤ (airwaysFor r t).1) (h2 : (airwaysFor r t).1 ≤ j) (hn : ys.length = n) (h3 : ¬(airwaysFor r t).1 = 1) : resB (List.take (n - 1) (List.drop 1 ys)) = true ∧ t < parI (List.take (n - 1) (List.drop 1 ys)) := by
  obtain ⟨a, b, c, d⟩ := aw_spec h
  have hj : j = (airwaysFor r t).1 := by omega
  have hl : n = j.toNat := by rw [← hn, e]; simp
  have e2 : List.take (n - 1) (List.drop 1 ys) = List.replicate (j - 1).toNat r := by
    rw [e, rep_drop, List.take_of_length_le (by simp; omega), show j.toNat - 1 = (j - 1).toNat by omega]
  rw [e2]
  exact ⟨rep_res a (by omega), d (j - 1) (by omega) (by omega)⟩
theorem c_laws_FnSplits (c1 c2 : List Int) : FnSem Try.prog 3 [Lx (LY c1), Lx (LY c2)] [] (Is [Bo true] []) := by
  refine FnSem.walk (zs := zeroPV Try.prog) (by kernel_rfl) Try.func3 rfl Try.results3 (by kernel_rfl) (by kernel_rfl) (by kernel_rfl) fun hw hh => ?_
  obtain ⟨w0, w1, _⟩ := hw
  first | replace w0 := wf_I w0 | replace w0 := wf_Y w0 | replace w0 := wf_S w0 | replace w0 := wf_LI w0 | replace w0 := wf_LY w0 | replace w0 := wf_LLI w0 | replace w0 := wf_Ls w0 | skip
  first | replace w1 := wf_I w1 | replace w1 := wf_Y w1 | replace w1 := wf_S w1 | replace w1 := wf_LI w1 | replace w1 := wf_LY w1 | replace w1 := wf_LLI w1 | replace w1 := wf_Ls w1 | skip
  repeat' first
    | refine And.intro rfl ?_
    | refine GdF.mk (fun h => h) ?_
    | refine And.intro (Nat.succ_ne_zero _) ?_
    | refine And.intro (Nat.le_of_ble_eq_true rfl) ?_
    | refine SeqF.run ?_
    | (refine ArgF.ret (c_spec_DrawSplitFlow _) ?_; rintro ⟨k, xs, q⟩ hv; dsimp only at hv ⊢; obtain ⟨rfl, hv⟩ := hv)
    | (refine ArgF.mk _ (c_impl_SplitFlow _ _) (fun rs ho hR _ => ?_); rcases hR with ⟨hs, rfl, rfl⟩ | ⟨hs, rfl, rfl⟩; all_goals (try have hp := parts_all hs))
    | (refine ArgF.ret (c_impl_SplitError _ _) ?_; intro wr hwr; rw [hs])
    | (refine ArgF.ret (c_spec_DrawAirwaysFor _) ?_; rintro ⟨r, t⟩ _; dsimp only)
    | refine ArgF.is (c_laws_b10Sum (partsI xs q) (by have := parts_all hs; omega) (fun j hj => by have := parts_all hs; exact (this.2.2.2 j (by omega)).1)) ?_
    | refine ArgQ.is (fun hG => c_laws_b10Sum (partsI xs q) (by have := parts_all hs; omega) (fun j hj => by have := parts_all hs; exact (this.2.2.2 j (by omega)).1)) rfl rfl ?_
    | refine LoopF.at 12 rfl (LoopF.fix [1, 6, 7] (Int) (fun i => 0 ≤ i ∧ i ≤ xs.length) (fun i => [(11, In i)]) (fun i => []) (fun i => ((xs.length - i).toNat)) (0) ?_)
    | (refine LoopB.of (T := Int) ?_ ?_; rotate_left; rintro i ⟨h0, h1⟩; rotate_left)
    | refine LoopF.at 24 rfl (LoopF.fix [12, 13, 14] (Nat × Int × List Int) (fun (n, j, ys) => 0 ≤ j ∧ j ≤ (airwaysFor r t).1 ∧ (1 ≤ r ∧ r ≤ 1000000) ∧ (1 ≤ (airwaysFor r t).1 ∧ (airwaysFor r t).1 ≤ 24) ∧ ys = List.replicate j.toNat r ∧ ys.length = n ∧ (n : Int) = j) (fun (n, j, ys) => [(16, .osl 0 0 n), (17, In j)]) (fun (n, j, ys) => [(0, Rw .flat (eI 0) (ys.map eI))]) (fun (n, j, ys) => (((airwaysFor r t).1 - j).toNat)) ((0, 0, [])) ?_)
    | (refine LoopB.of (T := Nat × Int × List Int) ?_ ?_; rotate_left; rintro ⟨n, j, ys⟩ ⟨k0, k1, k2, k3, k4, k5, k6⟩; rotate_left)
    | refine MkF.row ?_
    | refine EqP.mk _ (gm eY 0 rfl) ?_
    | refine EqP.mk _ (gm eI 0 rfl) ?_
    | refine BndF.mk (fun _ => by omega) ?_
    | refine BndF.mk (fun _ => by simp only [List.length_map, List.length_cons, List.length_nil, List.length_append, List.length_set, List.length_replicate, iotaI_len]; omega) ?_
    | refine BndF.mk (fun hG => by simp only [forall_const, eq_self, not_true_eq_false, not_false_eq_true, or_false, false_or, or_self, or_true, true_or, and_true, true_and, and_false, false_and, decide_true, decide_false, Bool.not_true, Bool.not_false, decide_eq_true_eq, decide_eq_false_iff_not, ite_and_p, ite_or_p, Bool.decide_eq_true, Bool.and_eq_true, Bool.or_eq_true, Bool.not_eq_true', Bool.not_eq_false', Bool.and_eq_false_imp, Bool.or_eq_false_iff, bne_iff_ne, beq_iff_eq, bne_eq_false_iff_eq, beq_eq_false_iff_ne, gt_iff_lt, ge_iff_le, Int.not_lt, Int.not_le, ne_eq, Bool.true_eq_false, Bool.false_eq_true, reduceCtorEq, eta_Airway, eta_Door, eta_Dusting, eta_Fan, eta_Mine, eta_Mode, bytes_nil] at hG; (try simp only [List.length_map]); omega) ?_
    | refine EqI.mk _ (fun _ => wrapI (by omega) (by omega)) ?_
    | refine EqI.mk _ (fun _ => rfl) ?_
    | refine FlF.keep ?_
    | refine EqN.mk _ (ln eY) ?_
    | refine EqN.mk _ (ln eI) ?_
    | refine EqN.mk _ (Nat.zero_add _) ?_
    | refine EqN.mk (_ + 1) rfl ?_
    | refine EqN.mk _ (Int.toNat_natCast _) ?_
    | refine EqN.mk _ rfl ?_
    | refine EqL.mk _ (sn0 eY) ?_
    | refine EqL.mk _ (sn eY (by first | rfl | assumption | omega | (simp only [List.length_map, List.length_cons, List.length_nil, List.length_append, List.length_set, List.length_replicate, iotaI_len]; done) | (simp only [List.length_map, List.length_cons, List.length_nil, List.length_append, List.length_set, List.length_replicate, iotaI_len]; omega))) ?_
    | refine EqL.mk _ (ap0 eY) ?_
    | refine EqL.mk _ (ap eY (by first | rfl | assumption | omega | (simp only [List.length_map, List.length_cons, List.length_nil, List.length_append, List.length_set, List.length_replicate, iotaI_len]; done) | (simp only [List.length_map, List.length_cons, List.length_nil, List.length_append, List.length_set, List.length_replicate, iotaI_len]; omega))) ?_
    | refine EqL.mk _ (tk eY (by first | rfl | assumption | omega | (simp only [List.length_map, List.length_cons, List.length_nil, List.length_append, List.length_set, List.length_replicate, iotaI_len]; done) | (simp only [List.length_map, List.length_cons, List.length_nil, List.length_append, List.length_set, List.length_replicate, iotaI_len]; omega))) ?_
    | refine EqL.mk _ (dt eY) ?_
    | refine EqL.mk _ (sn0 eI) ?_
    | refine EqL.mk _ (sn eI (by first | rfl | assumption | omega | (simp only [List.length_map, List.length_cons, List.length_nil, List.length_append, List.length_set, List.length_replicate, iotaI_len]; done) | (simp only [List.length_map, List.length_cons, List.length_nil, List.length_append, List.length_set, List.length_replicate, iotaI_len]; omega))) ?_
    | refine EqL.mk _ (ap0 eI) ?_
    | refine EqL.mk _ (ap eI (by first | rfl | assumption | omega | (simp only [List.length_map, List.length_cons, List.length_nil, List.length_append, List.length_set, List.length_replicate, iotaI_len]; done) | (simp only [List.length_map, List.length_cons, List.length_nil, List.length_append, List.length_set, List.length_replicate, iotaI_len]; omega))) ?_
    | refine EqL.mk _ (tk eI (by first | rfl | assumption | omega | (simp only [List.length_map, List.length_cons, List.length_nil, List.length_append, List.length_set, List.length_replicate, iotaI_len]; done) | (simp only [List.length_map, List.length_cons, List.length_nil, List.length_append, List.length_set, List.length_replicate, iotaI_len]; omega))) ?_
    | refine EqL.mk _ (dt eI) ?_
    | refine EqL.mk [] rfl ?_
    | refine EqL.mk [_] rfl ?_
    | refine EqL.mk _ rfl ?_
    | refine ArgF.is (c_laws_b10Long ..) ?_
    | refine ArgQ.is (fun hG => c_laws_b10Long ..) rfl rfl ?_
    | refine ArgF.is (c_spec_DrawSplitFlow ..) ?_
    | refine ArgQ.is (fun hG => c_spec_DrawSplitFlow ..) rfl rfl ?_
    | refine ArgF.is (c_impl_SplitFlow ..) ?_
    | refine ArgQ.is (fun hG => c_impl_SplitFlow ..) rfl rfl ?_
    | refine ArgF.is (c_impl_SplitError ..) ?_
    | refine ArgQ.is (fun hG => c_impl_SplitError ..) rfl rfl ?_
    | refine ArgF.is (c_laws_b10Sum _ (by first | assumption | omega) (by first | assumption | omega)) ?_
    | refine ArgQ.is (fun hG => c_laws_b10Sum _ (by first | assumption | omega) (by first | assumption | omega)) rfl rfl ?_
    | refine ArgQ.is (fun hG => c_laws_b10Sum _ (by simp only [forall_const, eq_self, not_true_eq_false, not_false_eq_true, or_false, false_or, or_self, or_true, true_or, and_true, true_and, and_false, false_and, decide_true, decide_false, Bool.not_true, Bool.not_false, decide_eq_true_eq, decide_eq_false_iff_not, ite_and_p, ite_or_p, Bool.decide_eq_true, Bool.and_eq_true, Bool.or_eq_true, Bool.not_eq_true', Bool.not_eq_false', Bool.and_eq_false_imp, Bool.or_eq_false_iff, bne_iff_ne, beq_iff_eq, bne_eq_false_iff_eq, beq_eq_false_iff_ne, gt_iff_lt, ge_iff_le, Int.not_lt, Int.not_le, ne_eq, Bool.true_eq_false, Bool.false_eq_true, reduceCtorEq, eta_Airway, eta_Door, eta_Dusting, eta_Fan, eta_Mine, eta_Mode, bytes_nil] at hG; omega) (by simp only [forall_const, eq_self, not_true_eq_false, not_false_eq_true, or_false, false_or, or_self, or_true, true_or, and_true, true_and, and_false, false_and, decide_true, decide_false, Bool.not_true, Bool.not_false, decide_eq_true_eq, decide_eq_false_iff_not, ite_and_p, ite_or_p, Bool.decide_eq_true, Bool.and_eq_true, Bool.or_eq_true, Bool.not_eq_true', Bool.not_eq_false', Bool.and_eq_false_imp, Bool.or_eq_false_iff, bne_iff_ne, beq_iff_eq, bne_eq_false_iff_eq, beq_eq_false_iff_ne, gt_iff_lt, ge_iff_le, Int.not_lt, Int.not_le, ne_eq, Bool.true_eq_false, Bool.false_eq_true, reduceCtorEq, eta_Airway, eta_Door, eta_Dusting, eta_Fan, eta_Mine, eta_Mode, bytes_nil] at hG; omega)) rfl rfl ?_
    | refine ArgF.is (c_spec_DrawAirwaysFor ..) ?_
    | refine ArgQ.is (fun hG => c_spec_DrawAirwaysFor ..) rfl rfl ?_
    | refine ArgF.is (c_impl_AirwaysFor ..) ?_
    | refine ArgQ.is (fun hG => c_impl_AirwaysFor ..) rfl rfl ?_
    | refine ArgF.is (c_impl_ParallelResistance ..) ?_
    | refine ArgQ.is (fun hG => c_impl_ParallelResistance ..) rfl rfl ?_
    | refine CallF.mk (CallW.is [] true rfl ?_)
    | refine CallG.mk ?_
    | (refine CondF.mk (fun hb => ?_) (fun hb => ?_) <;> try simp only [forall_const, eq_self, not_true_eq_false, not_false_eq_true, or_false, false_or, or_self, or_true, true_or, and_true, true_and, and_false, false_and, decide_true, decide_false, Bool.not_true, Bool.not_false, decide_eq_true_eq, decide_eq_false_iff_not, ite_and_p, ite_or_p, Bool.decide_eq_true, Bool.and_eq_true, Bool.or_eq_true, Bool.not_eq_true', Bool.not_eq_false', Bool.and_eq_false_imp, Bool.or_eq_false_iff, bne_iff_ne, beq_iff_eq, bne_eq_false_iff_eq, beq_eq_false_iff_ne, gt_iff_lt, ge_iff_le, Int.not_lt, Int.not_le, ne_eq, Bool.true_eq_false, Bool.false_eq_true, reduceCtorEq, eta_Airway, eta_Door, eta_Dusting, eta_Fan, eta_Mine, eta_Mode] at hb)
    | apply BackF.auto3
    | apply BackF.auto
    | refine BackB.mk ?_ ?_
    | refine RetF.auto (And.intro rfl ?_)
    | exact Is.mk rfl rfl
    | refine Is.mk ?_ rfl
    | refine Is.mk rfl ?_
    | refine Is.mk ?_ ?_
  all_goals try dsimp only
  all_goals try omega
  all_goals try (rw [show (0 + 1) = 1 from rfl] at *)
  all_goals try first
    | (exfalso; have := aw_spec (r := r) (t := t) (by assumption); omega)
    | (rw [aw_bad (by assumption)]; rfl)
    | exact ⟨by omega, (aw_spec (by assumption)).2.1.1 |> fun h => by omega, (aw_spec (by assumption)).1, (aw_spec (by assumption)).2.1, rfl, rfl, rfl⟩
    | exact ⟨by omega, by omega, k2, k3, by rw [k4, show (j + 1).toNat = j.toNat + 1 by omega, List.replicate_succ'], by simp [k5], by omega⟩
  all_goals try first
    | (simp at hb; done)
    | (exfalso; have h := aw_e1 (by assumption) k4 k1 (by assumption); rw [if_pos h.1, if_pos h.1] at hb; omega)
    | (have h := aw_e2 (by assumption) k4 k1 (by assumption) k5 (by assumption); rw [if_pos h.1, if_pos h.1]; simp only [beq_self_eq_true, if_true, gt_iff_lt, decide_eq_true h.2]; rfl)
    | (exfalso; have := hp.2.2.2 i.toNat (by omega); omega)
  all_goals skip
end Go.Proofs.Ytnmfbdkiehickaa
