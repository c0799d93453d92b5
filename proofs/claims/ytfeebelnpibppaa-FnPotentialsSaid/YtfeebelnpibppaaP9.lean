/- Contracts of functions of the program, and what they compute. Conditions: those that each theorem states. -/
import Derived.Test.YtfeebelnpibppaaProg
import Derived.Test.YtfeebelnpibppaaP3
import Derived.Test.YtfeebelnpibppaaP9p
import Derived.Test.YtfeebelnpibppaaP9d
set_option linter.unusedVariables false
set_option linter.unusedSimpArgs false
namespace Go.Proofs.Ytfeebelnpibppaa
open Go.Av
attribute [local irreducible] Go.IntKind.wrap leastI rdZ rd rootI rawA gainsI potI askB okMine wrongV wrongP potC wlk wrAt absI
set_option maxRecDepth 20000
set_option maxHeartbeats 100000000

/-! The law of potentials. -/
theorem wrAt_b {m : GMine} {ds ps : List Int} {rg : List Bool} {A S : Nat → Int} {j : Nat} {y : Int} (h : wrAt m ds ps rg A S j y) (hl : m.airways.length ≤ 24) :
    (1 ≤ absI y ∧ absI y ≤ m.airways.length) ∧ (-24 ≤ y ∧ y ≤ 24) ∧ (y < 0 → rg.getD (absI y - 1).toNat false = false) ∧ (A j = if y < 0 then (m.airways.getD (absI y - 1).toNat default).to else (m.airways.getD (absI y - 1).toNat default).from_) ∧
    (0 < y → S (j + 1) = S j + (ps.getD (absI y - 1).toNat 0 - ds.getD (absI y - 1).toNat 0)) ∧ (y ≤ 0 → S (j + 1) = S j + (ds.getD (absI y - 1).toNat 0 - ps.getD (absI y - 1).toNat 0)) := by
  unfold wrAt at h
  obtain ⟨k, hk, ⟨rfl, h2, h3⟩ | ⟨rfl, h2, h3, h4⟩⟩ := h
  · have e : absI ((k : Int) + 1) = (k : Int) + 1 := absI_p (by omega)
    rw [e, show ((k : Int) + 1 - 1).toNat = k by omega, if_neg (by omega)]
    exact ⟨by omega, by omega, fun _ => by omega, h2, fun _ => h3, fun _ => by omega⟩
  · have e : absI (-((k : Int) + 1)) = (k : Int) + 1 := by rw [absI_n (by omega)]; omega
    rw [e, show ((k : Int) + 1 - 1).toNat = k by omega, if_pos (by omega)]
    exact ⟨by omega, by omega, fun _ => h3, h2, fun _ => by omega, fun _ => h4⟩
theorem bd_tk {ys : List Int} {n : Nat} (h : ∀ i : Int, 0 ≤ i → i < n → -24 ≤ ys.getD i.toNat 0 ∧ ys.getD i.toNat 0 ≤ 24) : bdL 1000000000 (ys.take n) := fun j => by
  rw [List.getD_eq_getElem?_getD, List.getElem?_take]
  split
  · have := h j (by omega) (by omega)
    rw [List.getD_eq_getElem?_getD, show ((j : Int)).toNat = j by omega] at this
    omega
  · simp
theorem S_e {S : Nat → Int} {i v : Int} {d : Int} (h0 : 0 ≤ i) (hv : v = S i.toNat) (h : S (i.toNat + 1) = S i.toNat + d) : v + d = S (i + 1).toNat := by
  rw [show (i + 1).toNat = i.toNat + 1 by omega, h, hv]
theorem c_laws_FnPotentials (c1 : List Int) : FnSem Try.prog 4 [Lx (LY c1)] [] (Is [Bo true] []) := by
  refine FnSem.walk (zs := zeroPV Try.prog) (by kernel_rfl) Try.func4 rfl Try.results4 (by kernel_rfl) (by kernel_rfl) (by kernel_rfl) fun hw hh => ?_
  obtain ⟨w0, _⟩ := hw
  first | replace w0 := wf_LY w0 | skip
  repeat' first
    | refine And.intro rfl ?_
    | refine GdF.mk (fun h => h) ?_
    | refine And.intro (Nat.succ_ne_zero _) ?_
    | refine And.intro (Nat.le_of_ble_eq_true rfl) ?_
    | refine SeqF.run ?_
    | (refine ArgF.mk _ (c_spec_DrawWrongLoop _) (fun rs ho hR _ => ?_); obtain ⟨j, n, xs, k, ds, l, ps, r, rg, rfl, rfl, e1, e2, e3, e4, hn, hl⟩ := hR; subst e1; subst e2; subst e3; subst e4)
    | refine EqL.mk _ (tk GAirway.cells rfl) ?_
    | (refine ArgF.mk _ (c_impl_PotentialsOf ⟨j, xs⟩ ds ps rg) (fun rs ho hR _ => ?_); obtain ⟨o1, p1, rfl, rfl, u1, v1⟩ := hR)
    | (refine ArgF.mk _ (c_impl_RegulatorDrops ⟨j, xs⟩ ds ps rg) (fun rs ho hR _ => ?_); obtain ⟨o2, n2, ys2, rfl, rfl, u2, v2⟩ := hR; have hK := fun (e : o1 = 0) => pot_ok (u1.symm.trans e) (v1 e) (v2 (by rw [u2, ← u1]; exact e)))
    | (refine ArgF.wr (c_impl_WrongLoop ⟨j, xs⟩ ds ps rg) ?_; intro n3 ys3 s3 c3 g1 g2; have hW3 := wr_3 g2; have hWo := wr_o g2; obtain ⟨A, S, hN⟩ := wr_ex g2 g1; rw [← u1] at hW3 hWo hN; have hM := fun (e : o1 = 3) (i : Int) (h0 : 0 ≤ i) (h1 : i < n3) => wrAt_b ((hN e).2.2.2.2.2.2.2.2.1 i h0 h1).2 (hN e).2.2.2.2.2.2.2.1.2.2.2; have hS := fun (e : o1 = 3) (i : Int) (h0 : 0 ≤ i) (h1 : i < n3) => ((hN e).2.2.2.2.2.2.2.2.1 i h0 h1).1; have hL := fun (e : o1 = 3) => (hN e).2.2.2.2.2.2.2.1; have hB := fun (e : o1 = 3) => (hN e).2.2.2.2.2.2.2.2.2; dsimp only at hK hN hM hL)
    | refine LoopF.at 14 rfl (LoopF.fix [3, 4, 5, 6, 7, 9, 14] (Int) (fun i => 0 ≤ i ∧ i ≤ xs.length ∧ o1 = 0) (fun i => [(15, In i)]) (fun i => []) (fun i => ((xs.length - i).toNat)) (0) ?_)
    | (refine LoopB.of (T := Int) ?_ ?_; rotate_left; rintro i ⟨a0, a1, a2⟩; rotate_left)
    | refine LoopF.at 23 rfl (LoopF.fix [7] (Int × Unit) (fun (i, _) => 0 ≤ i ∧ i ≤ p1.length ∧ o1 = 0 ∧ p1.length ≤ 16) (fun (i, _) => [(18, In i)]) (fun (i, _) => []) (fun (i, _) => ((p1.length - i).toNat)) ((0, ())) ?_)
    | (refine LoopB.of (T := Int × Unit) ?_ ?_; rotate_left; rintro ⟨i, _⟩ ⟨b0, b1, b2, b3⟩; rotate_left)
    | refine LoopF.at 35 rfl (LoopF.fix [3, 4, 5, 6, 11, 12, 14] (Int × Int × Int) (fun (i, w, st) => 0 ≤ i ∧ i ≤ n3 ∧ o1 = 3 ∧ w = S i.toNat ∧ (0 < i → st = A 0) ∧ (2 ≤ n3 ∧ n3 ≤ 16)) (fun (i, w, st) => [(21, In i), (19, In w), (20, In st)]) (fun (i, w, st) => []) (fun (i, w, st) => ((n3 - i).toNat)) ((0, 0, -1)) ?_)
    | (refine LoopB.of (T := Int × Int × Int) ?_ ?_; rotate_left; rintro ⟨i, w, st⟩ ⟨m0, m1, m2, m3, m4, m5⟩; rotate_left)
    | refine ArgF.is (c_laws_b10Abs (ys3.getD i.toNat 0) (by have q := hM m2 i m0 (by assumption); omega)) ?_
    | refine ArgQ.is (fun hG => c_laws_b10Abs (ys3.getD i.toNat 0) (by have q := hM m2 i m0 (by assumption); omega)) rfl rfl ?_
    | refine ArgF.is (c_laws_b10Walk ⟨j, xs⟩ (ys3.take n3) st (bd_tk fun i h0 h1 => (hM m2 i h0 h1).2.1)) ?_
    | refine ArgQ.is (fun hG => c_laws_b10Walk ⟨j, xs⟩ (ys3.take n3) st (bd_tk fun i h0 h1 => (hM m2 i h0 h1).2.1)) rfl rfl ?_
    | refine EqL.mk _ (tkT (ys := ys3) (n := n3) rfl) ?_
    | refine EqI.mk _ (fun _ => by have q := (hK a2).2.2.2.2.2 i a0 (by assumption); exact wrapI (by omega) (by omega)) ?_
    | refine EqI.mk _ (fun _ => by have q := hM m2 i m0 (by assumption); have q2 := hL m2; exact wrapI (by omega) (by omega)) ?_
    | refine EqI.mk _ (fun _ => by have q := hS m2 i m0 (by assumption); have q2 := hB m2 (absI (ys3.getD i.toNat 0) - 1).toNat; exact wrapI (by omega) (by omega)) ?_
    | refine BndF.mk (fun _ => by have q := hM m2 i m0 (by assumption); have q2 := hL m2; first | omega | (simp only [List.length_map]; omega)) ?_
    | refine GhF.go ?_
    | refine GdS.keep ?_
    | refine DrawG.old (DrawF.lex (by decide +kernel) ?_)
    | refine EqP.mk _ (gm eY 0 rfl) ?_
    | refine EqP.mk _ (gm GAirway.cells default rfl) ?_
    | refine EqP.mk _ (gm eI 0 rfl) ?_
    | refine EqP.mk _ (gm eB false rfl) ?_
    | refine BndF.mk (fun _ => by omega) ?_
    | refine BndF.mk (fun _ => by simp only [List.length_map, List.length_cons, List.length_nil, List.length_append, List.length_set, List.length_replicate, iotaI_len]; omega) ?_
    | refine BndF.mk (fun hG => by simp only [forall_const, eq_self, not_true_eq_false, not_false_eq_true, or_false, false_or, or_self, or_true, true_or, and_true, true_and, and_false, false_and, decide_true, decide_false, Bool.not_true, Bool.not_false, decide_eq_true_eq, decide_eq_false_iff_not, ite_and_p, ite_or_p, Bool.decide_eq_true, Bool.and_eq_true, Bool.or_eq_true, Bool.not_eq_true', Bool.not_eq_false', Bool.and_eq_false_imp, Bool.or_eq_false_iff, bne_iff_ne, beq_iff_eq, bne_eq_false_iff_eq, beq_eq_false_iff_ne, gt_iff_lt, ge_iff_le, Int.not_lt, Int.not_le, ne_eq, Bool.true_eq_false, Bool.false_eq_true, reduceCtorEq, eta_Airway, eta_Fan, eta_Mine, bytes_nil] at hG; (try simp only [List.length_map]); omega) ?_
    | refine EqI.mk _ (fun _ => wrapI (by omega) (by omega)) ?_
    | refine EqI.mk _ (fun _ => rfl) ?_
    | refine EqN.mk _ (ln eY) ?_
    | refine EqN.mk _ (ln GAirway.cells) ?_
    | refine EqN.mk _ (ln eI) ?_
    | refine EqN.mk _ (ln eB) ?_
    | refine EqN.mk _ (Nat.zero_add _) ?_
    | refine EqN.mk _ (Int.toNat_natCast _) ?_
    | refine EqN.mk _ rfl ?_
    | refine EqL.mk _ (tk eY (by first | rfl | assumption | omega | (simp only [List.length_map, List.length_cons, List.length_nil, List.length_append, List.length_set, List.length_replicate, iotaI_len]; done) | (simp only [List.length_map, List.length_cons, List.length_nil, List.length_append, List.length_set, List.length_replicate, iotaI_len]; omega))) ?_
    | refine EqL.mk _ (st eY) ?_
    | refine EqL.mk _ (tk GAirway.cells (by first | rfl | assumption | omega | (simp only [List.length_map, List.length_cons, List.length_nil, List.length_append, List.length_set, List.length_replicate, iotaI_len]; done) | (simp only [List.length_map, List.length_cons, List.length_nil, List.length_append, List.length_set, List.length_replicate, iotaI_len]; omega))) ?_
    | refine EqL.mk _ (st GAirway.cells) ?_
    | refine EqL.mk _ (tk eI (by first | rfl | assumption | omega | (simp only [List.length_map, List.length_cons, List.length_nil, List.length_append, List.length_set, List.length_replicate, iotaI_len]; done) | (simp only [List.length_map, List.length_cons, List.length_nil, List.length_append, List.length_set, List.length_replicate, iotaI_len]; omega))) ?_
    | refine EqL.mk _ (st eI) ?_
    | refine EqL.mk _ (tk eB (by first | rfl | assumption | omega | (simp only [List.length_map, List.length_cons, List.length_nil, List.length_append, List.length_set, List.length_replicate, iotaI_len]; done) | (simp only [List.length_map, List.length_cons, List.length_nil, List.length_append, List.length_set, List.length_replicate, iotaI_len]; omega))) ?_
    | refine EqL.mk _ (st eB) ?_
    | refine EqL.mk [] rfl ?_
    | refine EqL.mk [_] rfl ?_
    | refine EqL.mk _ rfl ?_
    | refine ArgF.is (c_laws_b10Long ..) ?_
    | refine ArgQ.is (fun hG => c_laws_b10Long ..) rfl rfl ?_
    | refine ArgF.is (c_spec_DrawWrongLoop ..) ?_
    | refine ArgQ.is (fun hG => c_spec_DrawWrongLoop ..) rfl rfl ?_
    | refine ArgF.is (c_impl_PotentialsOf ⟨_, _⟩ _ _ _) ?_
    | refine ArgQ.is (fun hG => c_impl_PotentialsOf ⟨_, _⟩ _ _ _) rfl rfl ?_
    | refine ArgF.is (c_impl_RegulatorDrops ⟨_, _⟩ _ _ _) ?_
    | refine ArgQ.is (fun hG => c_impl_RegulatorDrops ⟨_, _⟩ _ _ _) rfl rfl ?_
    | refine ArgF.is (c_impl_WrongLoop ⟨_, _⟩ _ _ _) ?_
    | refine ArgQ.is (fun hG => c_impl_WrongLoop ⟨_, _⟩ _ _ _) rfl rfl ?_
    | refine ArgF.is (c_laws_b10Abs _ (by first | assumption | omega)) ?_
    | refine ArgQ.is (fun hG => c_laws_b10Abs _ (by first | assumption | omega)) rfl rfl ?_
    | refine ArgQ.is (fun hG => c_laws_b10Abs _ (by simp only [forall_const, eq_self, not_true_eq_false, not_false_eq_true, or_false, false_or, or_self, or_true, true_or, and_true, true_and, and_false, false_and, decide_true, decide_false, Bool.not_true, Bool.not_false, decide_eq_true_eq, decide_eq_false_iff_not, ite_and_p, ite_or_p, Bool.decide_eq_true, Bool.and_eq_true, Bool.or_eq_true, Bool.not_eq_true', Bool.not_eq_false', Bool.and_eq_false_imp, Bool.or_eq_false_iff, bne_iff_ne, beq_iff_eq, bne_eq_false_iff_eq, beq_eq_false_iff_ne, gt_iff_lt, ge_iff_le, Int.not_lt, Int.not_le, ne_eq, Bool.true_eq_false, Bool.false_eq_true, reduceCtorEq, eta_Airway, eta_Fan, eta_Mine, bytes_nil] at hG; omega)) rfl rfl ?_
    | refine ArgF.is (c_laws_b10Walk ⟨_, _⟩ _ _ (by first | assumption | omega)) ?_
    | refine ArgQ.is (fun hG => c_laws_b10Walk ⟨_, _⟩ _ _ (by first | assumption | omega)) rfl rfl ?_
    | refine ArgQ.is (fun hG => c_laws_b10Walk ⟨_, _⟩ _ _ (by simp only [forall_const, eq_self, not_true_eq_false, not_false_eq_true, or_false, false_or, or_self, or_true, true_or, and_true, true_and, and_false, false_and, decide_true, decide_false, Bool.not_true, Bool.not_false, decide_eq_true_eq, decide_eq_false_iff_not, ite_and_p, ite_or_p, Bool.decide_eq_true, Bool.and_eq_true, Bool.or_eq_true, Bool.not_eq_true', Bool.not_eq_false', Bool.and_eq_false_imp, Bool.or_eq_false_iff, bne_iff_ne, beq_iff_eq, bne_eq_false_iff_eq, beq_eq_false_iff_ne, gt_iff_lt, ge_iff_le, Int.not_lt, Int.not_le, ne_eq, Bool.true_eq_false, Bool.false_eq_true, reduceCtorEq, eta_Airway, eta_Fan, eta_Mine, bytes_nil] at hG; omega)) rfl rfl ?_
    | refine CallF.mk (CallW.is [] true rfl ?_)
    | refine CallG.mk ?_
    | (refine CondF.mk (fun hb => ?_) (fun hb => ?_) <;> try simp only [forall_const, eq_self, not_true_eq_false, not_false_eq_true, or_false, false_or, or_self, or_true, true_or, and_true, true_and, and_false, false_and, decide_true, decide_false, Bool.not_true, Bool.not_false, decide_eq_true_eq, decide_eq_false_iff_not, ite_and_p, ite_or_p, Bool.decide_eq_true, Bool.and_eq_true, Bool.or_eq_true, Bool.not_eq_true', Bool.not_eq_false', Bool.and_eq_false_imp, Bool.or_eq_false_iff, bne_iff_ne, beq_iff_eq, bne_eq_false_iff_eq, beq_eq_false_iff_ne, gt_iff_lt, ge_iff_le, Int.not_lt, Int.not_le, ne_eq, Bool.true_eq_false, Bool.false_eq_true, reduceCtorEq, eta_Airway, eta_Fan, eta_Mine] at hb)
    | apply BackF.auto3
    | apply BackF.auto2
    | apply BackF.auto
    | refine BackB.mk ?_ ?_
    | refine RetF.auto (And.intro rfl ?_)
    | exact Is.mk rfl rfl
    | refine Is.mk ?_ rfl
    | refine Is.mk rfl ?_
    | refine Is.mk ?_ ?_
  all_goals try dsimp only
  all_goals first
    | omega
    | exact ⟨by omega, by omega, by assumption, by have q := hK (by assumption); omega⟩
    | exact bd_tk fun i h0 h1 => (hM m2 i h0 h1).2.1
    | (exfalso
       have q0 := hK a2
       have q := q0.2.2.2.2.2 i a0 (by assumption)
       first
       | omega
       | (rcases hb with (hb | hb) | hb <;> first | omega | (have e := q.2.2.2.2 (by omega); rw [e] at hb; exact absurd hb.2 (by decide))))
    | (exfalso
       have q := (hK b2).2.2.2.2.1 i.toNat
       omega)
    | (rw [hWo (by assumption) (by assumption), beq_self_eq_true]; done)
    | (rw [hWo (by assumption) (by assumption), beq_self_eq_true]; rfl)
    | exact ⟨by omega, by omega, by assumption, (hN (by assumption)).2.2.2.2.1.symm, fun h => by omega, (hN (by assumption)).2.1⟩
    | (exfalso
       have q := hM m2 i m0 (by assumption)
       have q2 := hL m2
       first
       | omega
       | (rcases hb with hb | hb <;> first | omega | (have e := q.2.2.1 hb.1; rw [e] at hb; exact absurd hb.2 (by decide))))
    | (have q := hM m2 i m0 (by assumption)
       have hi : i = 0 ∨ 0 < i := by omega
       refine ⟨by omega, by omega, m2, ?_, ?_, m5⟩
       · first
         | exact S_e m0 m3 (q.2.2.2.2.1 (by assumption))
         | exact S_e m0 m3 (q.2.2.2.2.2 (by omega))
       · intro _
         first
         | exact m4 (by omega)
         | (have e := q.2.2.2.1
            have e0 : A 0 = A i.toNat := congrArg A (by omega)
            rw [e0, e]
            first
            | (rw [if_pos (by omega)])
            | (rw [if_neg (by omega)])))
    | (have q := hN m2
       have ew : w = s3 := by rw [m3, show i.toNat = n3 by omega]; exact q.2.2.2.2.2.1
       have es : st = A 0 := m4 (by omega)
       have e3 := q.2.2.2.2.2.2.1
       rw [← es] at e3
       rw [e3, ew]
       simp only [beq_self_eq_true, if_true]
       try rfl)
    | skip
end Go.Proofs.Ytfeebelnpibppaa
