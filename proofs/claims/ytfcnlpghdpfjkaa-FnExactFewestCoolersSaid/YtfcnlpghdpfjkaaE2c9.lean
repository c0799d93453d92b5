/- Contracts of functions of the program, and what they compute. Conditions: those that each theorem states. -/
import Derived.Test.YtfcnlpghdpfjkaaProg
import Derived.Test.YtfcnlpghdpfjkaaE2p
set_option linter.unusedVariables false
set_option linter.unusedSimpArgs false
namespace Go.Proofs.Ytfcnlpghdpfjkaa
open Go.Av
attribute [local irreducible] Go.IntKind.wrap ext extL fstL
set_option maxRecDepth 20000
set_option maxHeartbeats 4000000

/-! The search for the first set: the functions, for a property that captures nine cells. -/
--@fn (*impl.setSearch).extend
theorem ext1_9 (L : List Int) (right : List Int → Bool) (f : Nat) (c1 c2 c3 c4 c5 c6 c7 c8 c9 : List PV) (hL : L.length ≤ 1000000) (hr : ∀ xs : List Int, xs.length ≤ L.length → (∀ x ∈ xs, x ∈ L) → FnSem Try.prog f [Lx (LI xs), .p .any (.ref c1), .p .any (.ref c2), .p .any (.ref c3), .p .any (.ref c4), .p .any (.ref c5), .p .any (.ref c6), .p .any (.ref c7), .p .any (.ref c8), .p .any (.ref c9)] [] (Is [Bo (right xs)] []))
    (m : Nat) (ih : ∀ (m' : Nat) (k : Int), k = m' → m' < m → ∀ (i : Int) (b : Int) (s ys : List Int) (n : Nat), 0 ≤ i → i ≤ L.length → (0 ≤ b ∧ b ≤ 1000000) → n ≤ ys.length → ys.take n = s → (∀ x ∈ s, x ∈ L) → s.length + m' ≤ L.length →
      FnSem Try.prog 140 [.own 0 0, In i, In k] [.fix [Lx (LI L), .p .any (.fn f [.ref c1, .ref c2, .ref c3, .ref c4, .ref c5, .ref c6, .ref c7, .ref c8, .ref c9]), In b, .osl 1 0 n], .row false .flat (eI 0) (ys.map eI)] (ExtR L (.fn f [.ref c1, .ref c2, .ref c3, .ref c4, .ref c5, .ref c6, .ref c7, .ref c8, .ref c9]) (ext L right m' i.toNat b s)))
    (i : Int) (b : Int) (s ys : List Int) (n : Nat) (hi : 0 ≤ i) (hi' : i ≤ L.length) (hb0 : 0 ≤ b ∧ b ≤ 1000000) (hn : n ≤ ys.length) (hs : ys.take n = s) (hsL : ∀ x ∈ s, x ∈ L) (hm : s.length + m ≤ L.length) :
    FnSem Try.prog 140 [.own 0 0, In i, In m] [.fix [Lx (LI L), .p .any (.fn f [.ref c1, .ref c2, .ref c3, .ref c4, .ref c5, .ref c6, .ref c7, .ref c8, .ref c9]), In b, .osl 1 0 n], .row false .flat (eI 0) (ys.map eI)] (ExtR L (.fn f [.ref c1, .ref c2, .ref c3, .ref c4, .ref c5, .ref c6, .ref c7, .ref c8, .ref c9]) (ext L right m i.toNat b s)) := by
  have hsn : s.length = n := by rw [← hs, List.length_take]; omega
  refine FnSem.walk (zs := zeroPV Try.prog) (by kernel_rfl) Try.func140 rfl Try.results140 (by kernel_rfl) (by kernel_rfl) (by kernel_rfl) fun hw hh => ?_
  obtain ⟨w0, w1, w2, _⟩ := hw
  first | replace w0 := wfr_SetSearch w0 | skip
  first | replace w1 := wf_I w1 | skip
  first | replace w2 := wf_I w2 | skip
  repeat' first
    | refine And.intro rfl ?_
    | refine GdF.mk (fun h => h) ?_
    | refine And.intro (Nat.succ_ne_zero _) ?_
    | refine And.intro (Nat.le_of_ble_eq_true rfl) ?_
    | refine SeqF.run ?_
    | refine GhF.at 0 rfl [.mv 1] ?_
    | refine EqL.mk _ (tkT hs) ?_
    | refine ArgF.is (hr s (by omega) hsL) ?_
    | refine ArgQ.is (fun hG => hr s (by omega) hsL) rfl rfl ?_
    | refine LoopF.at 5 rfl (LoopF.fix [0, 2] (Int × Int × Nat × List Int) (fun (j, c, n', zs) => i ≤ j ∧ j ≤ L.length ∧ 0 ≤ c ∧ c ≤ b ∧ n' ≤ zs.length ∧ zs.take n' = s ∧ n' = s.length ∧ 0 < m ∧ ext L right m i.toNat b s = extL (ext L right (m - 1)) L (L.length - (m - 1) - j.toNat) j.toNat c s) (fun (j, c, n', zs) => [(7, In j)]) (fun (j, c, n', zs) => [(0, .fix [Lx (LI L), .p .any (.fn f [.ref c1, .ref c2, .ref c3, .ref c4, .ref c5, .ref c6, .ref c7, .ref c8, .ref c9]), In c, .osl 2 0 n']), (2, .row false .flat (eI 0) (zs.map eI))]) (fun (j, c, n', zs) => ((L.length - j).toNat)) ((i, b, n, ys)) ?_)
    | (refine LoopB.of (T := Int × Int × Nat × List Int) ?_ ?_; rotate_left; rintro ⟨j, c, n', zs⟩ ⟨h0, h1, h2, h3, h4, h5, h8, h6, h7⟩; rotate_left)
    | refine EqL.mk _ (snT h5) ?_
    | refine CallF.own (f := 140) [0] false ?_
    | (refine ArgF.ext (ih (m - 1) (m - 1) (by omega) (by omega) (j + 1) c (s ++ [L.getD j.toNat 0]) (s ++ [L.getD j.toNat 0]) (n' + 1) (by omega) (by omega) (by omega) (by simp; omega) (List.take_of_length_le (by simp; omega)) (mem_snoc hsL (by omega)) (by simp; omega)) ?_; intro n2 ys2 b2 l2 e1 e2 e3 e4; have e5 := ext_len h2 e1 e2 e3 e4)
    | refine EqI.mk _ (fun _ => wrapI (by have := e5 hb; omega) (by have := e5 hb; omega)) ?_
    | refine BndF.mk (fun _ => by have := e5 hb; first | omega | (simp only [List.length_map]; omega)) ?_
    | refine EqN.mk n' (by have := e5 hb; omega) ?_
    | refine ExtR.mk _ _ _ _ rfl rfl ?_ ?_ ?_ ?_
    | refine GhF.go ?_
    | refine GdS.keep ?_
    | refine DrawG.old (DrawF.lex (by decide +kernel) ?_)
    | refine DrawG.old (DrawF.any ?_)
    | refine OrdF.take 0 (by decide +kernel) ?_
    | refine OrdF.take 1 (by decide +kernel) ?_
    | refine OrdF.take 2 (by decide +kernel) ?_
    | refine OrdF.take 3 (by decide +kernel) ?_
    | refine OrdF.take 5 (by decide +kernel) ?_
    | refine OrdF.take 6 (by decide +kernel) ?_
    | refine OrdF.take 7 (by decide +kernel) ?_
    | refine OrdF.take 9 (by decide +kernel) ?_
    | refine OrdF.take 10 (by decide +kernel) ?_
    | refine OrdF.take 14 (by decide +kernel) ?_
    | refine OrdF.take 15 (by decide +kernel) ?_
    | refine OrdF.all [16] (by decide +kernel) ?_
    | refine OrdF.all [13] (by decide +kernel) ?_
    | refine OrdF.all [4] (by decide +kernel) ?_
    | refine OrdF.all [12] (by decide +kernel) ?_
    | refine OrdF.all [4, 12] (by decide +kernel) ?_
    | refine OrdF.all [11] (by decide +kernel) ?_
    | refine OrdF.all [4, 11] (by decide +kernel) ?_
    | refine OrdF.all [8] (by decide +kernel) ?_
    | refine OrdF.all [4, 8] (by decide +kernel) ?_
    | refine OrdF.fin (by decide +kernel) ?_
    | refine AllF.one _ ?_
    | refine AllF.cons _ _ ?_ ?_
    | refine MkF.row ?_
    | refine EqP.mk _ (gm eI 0 rfl) ?_
    | refine BndF.mk (fun _ => by omega) ?_
    | refine BndF.mk (fun _ => by simp only [List.length_map, List.length_cons, List.length_nil, List.length_append, List.length_set, List.length_replicate, iotaI_len]; omega) ?_
    | refine BndF.mk (fun hG => by simp only [forall_const, eq_self, not_true_eq_false, not_false_eq_true, or_false, false_or, or_self, or_true, true_or, and_true, true_and, and_false, false_and, decide_true, decide_false, Bool.not_true, Bool.not_false, decide_eq_true_eq, decide_eq_false_iff_not, ite_and_p, ite_or_p, Bool.decide_eq_true, Bool.and_eq_true, Bool.or_eq_true, Bool.not_eq_true', Bool.not_eq_false', Bool.and_eq_false_imp, Bool.or_eq_false_iff, bne_iff_ne, beq_iff_eq, bne_eq_false_iff_eq, beq_eq_false_iff_ne, gt_iff_lt, ge_iff_le, Int.not_lt, Int.not_le, ne_eq, Bool.true_eq_false, Bool.false_eq_true, reduceCtorEq, eta_Airway, eta_Fan, eta_Mine, bytes_nil] at hG; (try simp only [List.length_map]); omega) ?_
    | refine EqI.mk _ (fun _ => wrapI (by omega) (by omega)) ?_
    | refine EqI.mk _ (fun _ => rfl) ?_
    | refine FlF.keep ?_
    | refine EqN.mk _ (ln eI) ?_
    | refine EqN.mk _ (Nat.zero_add _) ?_
    | refine EqN.mk (_ + 1) rfl ?_
    | refine EqN.mk _ (Int.toNat_natCast _) ?_
    | refine EqN.mk _ rfl ?_
    | refine EqL.mk _ (sn0 eI) ?_
    | refine EqL.mk _ (sn eI (by first | rfl | assumption | omega | (simp only [List.length_map, List.length_cons, List.length_nil, List.length_append, List.length_set, List.length_replicate, iotaI_len]; done) | (simp only [List.length_map, List.length_cons, List.length_nil, List.length_append, List.length_set, List.length_replicate, iotaI_len]; omega))) ?_
    | refine EqL.mk _ (ap0 eI) ?_
    | refine EqL.mk _ (ap eI (by first | rfl | assumption | omega | (simp only [List.length_map, List.length_cons, List.length_nil, List.length_append, List.length_set, List.length_replicate, iotaI_len]; done) | (simp only [List.length_map, List.length_cons, List.length_nil, List.length_append, List.length_set, List.length_replicate, iotaI_len]; omega))) ?_
    | refine EqL.mk _ (tk eI (by first | rfl | assumption | omega | (simp only [List.length_map, List.length_cons, List.length_nil, List.length_append, List.length_set, List.length_replicate, iotaI_len]; done) | (simp only [List.length_map, List.length_cons, List.length_nil, List.length_append, List.length_set, List.length_replicate, iotaI_len]; omega))) ?_
    | refine EqL.mk _ (st eI) ?_
    | refine EqL.mk _ (dt eI) ?_
    | refine EqL.mk [] rfl ?_
    | refine EqL.mk [_] rfl ?_
    | refine EqL.mk _ rfl ?_
    | refine ArgF.is (c_impl_setSearch_extend ..) ?_
    | refine ArgQ.is (fun hG => c_impl_setSearch_extend ..) rfl rfl ?_
    | refine CallF.mk (CallW.is [] true rfl ?_)
    | refine CallG.mk ?_
    | (refine CondF.mk (fun hb => ?_) (fun hb => ?_) <;> try simp only [forall_const, eq_self, not_true_eq_false, not_false_eq_true, or_false, false_or, or_self, or_true, true_or, and_true, true_and, and_false, false_and, decide_true, decide_false, Bool.not_true, Bool.not_false, decide_eq_true_eq, decide_eq_false_iff_not, ite_and_p, ite_or_p, Bool.decide_eq_true, Bool.and_eq_true, Bool.or_eq_true, Bool.not_eq_true', Bool.not_eq_false', Bool.and_eq_false_imp, Bool.or_eq_false_iff, bne_iff_ne, beq_iff_eq, bne_eq_false_iff_eq, beq_eq_false_iff_ne, gt_iff_lt, ge_iff_le, Int.not_lt, Int.not_le, ne_eq, Bool.true_eq_false, Bool.false_eq_true, reduceCtorEq, eta_Airway, eta_Fan, eta_Mine] at hb)
    | apply BackF.auto4
    | refine BackB.mk ?_ ?_
    | refine RetF.auto (And.intro rfl ?_)
    | exact Is.mk rfl rfl
    | refine Is.mk ?_ rfl
    | refine Is.mk rfl ?_
    | refine Is.mk ?_ ?_
  all_goals try dsimp only
  all_goals first
    | omega
    | exact ⟨by omega, by omega, by omega, by omega, hn, hs, by omega, by omega, ext_s (by omega)⟩
    | (rw [ext_0 (by omega)] <;> first | rfl | exact hs | (by_cases hq : b - 1 ≥ 0 <;> simp [hq] <;> omega))
    | (rw [ext_e h7 (by omega) h6 (by omega)] <;> first | rfl | exact h5)
    | (rw [ext_t h7 (by omega) h6 (by omega) e1 (by assumption)] <;> first | exact e2 | exact e4 | (rw [← e1]; exact Eq.symm (by assumption)))
    | (rw [ext_f h7 (by omega) h6 (by omega) e1 e2 (by assumption) (by omega)] <;> first | rfl | (have := e5 (by assumption); rw [h8]; exact this.2.1))
    | (have := e5 (by assumption); rw [h8]; omega)
    | (have q := e5 (by assumption); exact ⟨by omega, by omega, by omega, by omega, by omega, by rw [h8]; exact q.2.1, h8, h6, ext_n h7 (by omega) h6 (by omega) e1 e2 (by assumption) (by omega)⟩)
    | skip
theorem extC_9 (L : List Int) (right : List Int → Bool) (f : Nat) (c1 c2 c3 c4 c5 c6 c7 c8 c9 : List PV) (hL : L.length ≤ 1000000) (hr : ∀ xs : List Int, xs.length ≤ L.length → (∀ x ∈ xs, x ∈ L) → FnSem Try.prog f [Lx (LI xs), .p .any (.ref c1), .p .any (.ref c2), .p .any (.ref c3), .p .any (.ref c4), .p .any (.ref c5), .p .any (.ref c6), .p .any (.ref c7), .p .any (.ref c8), .p .any (.ref c9)] [] (Is [Bo (right xs)] []))
    (m : Nat) : ∀ (k : Int), k = m → ∀ (i : Int) (b : Int) (s ys : List Int) (n : Nat), 0 ≤ i → i ≤ L.length → (0 ≤ b ∧ b ≤ 1000000) → n ≤ ys.length → ys.take n = s → (∀ x ∈ s, x ∈ L) → s.length + m ≤ L.length →
      FnSem Try.prog 140 [.own 0 0, In i, In k] [.fix [Lx (LI L), .p .any (.fn f [.ref c1, .ref c2, .ref c3, .ref c4, .ref c5, .ref c6, .ref c7, .ref c8, .ref c9]), In b, .osl 1 0 n], .row false .flat (eI 0) (ys.map eI)] (ExtR L (.fn f [.ref c1, .ref c2, .ref c3, .ref c4, .ref c5, .ref c6, .ref c7, .ref c8, .ref c9]) (ext L right m i.toNat b s)) := by
  induction m using Nat.strongRecOn with
  | _ m ih =>
    intro k hk
    subst hk
    exact ext1_9 L right f c1 c2 c3 c4 c5 c6 c7 c8 c9 hL hr m (fun m' k hk hm => ih m' hm k hk)
--@fn (*impl.setSearch).first
theorem fstC_9 (L : List Int) (right : List Int → Bool) (f : Nat) (c1 c2 c3 c4 c5 c6 c7 c8 c9 : List PV) (b : Int) (hL : L.length ≤ 1000000) (hb0 : 0 ≤ b ∧ b ≤ 1000000) (hr : ∀ xs : List Int, xs.length ≤ L.length → (∀ x ∈ xs, x ∈ L) → FnSem Try.prog f [Lx (LI xs), .p .any (.ref c1), .p .any (.ref c2), .p .any (.ref c3), .p .any (.ref c4), .p .any (.ref c5), .p .any (.ref c6), .p .any (.ref c7), .p .any (.ref c8), .p .any (.ref c9)] [] (Is [Bo (right xs)] [])) :
    FnSem Try.prog 71 [.own 0 0] [.fix [Lx (LI L), .p .any (.fn f [.ref c1, .ref c2, .ref c3, .ref c4, .ref c5, .ref c6, .ref c7, .ref c8, .ref c9]), In b, .osl 1 0 0], .row false .flat (eI 0) (([] : List Int).map eI)] (FstR L (.fn f [.ref c1, .ref c2, .ref c3, .ref c4, .ref c5, .ref c6, .ref c7, .ref c8, .ref c9]) (fstSet L right b)) := by
  refine FnSem.walk (zs := zeroPV Try.prog) (by kernel_rfl) Try.func71 rfl Try.results71 (by kernel_rfl) (by kernel_rfl) (by kernel_rfl) fun hw hh => ?_
  obtain ⟨w0, _⟩ := hw
  first | replace w0 := wfr_SetSearch w0 | skip
  repeat' first
    | refine And.intro rfl ?_
    | refine GdF.mk (fun h => h) ?_
    | refine And.intro (Nat.succ_ne_zero _) ?_
    | refine And.intro (Nat.le_of_ble_eq_true rfl) ?_
    | refine SeqF.run ?_
    | refine GhF.at 0 rfl [.mv 1] ?_
    | refine CallF.own (f := 140) [0] false ?_
    | (refine ArgF.ext (extC_9 L right f c1 c2 c3 c4 c5 c6 c7 c8 c9 hL hr j.toNat j (by omega) 0 c [] zs n' (by omega) (by omega) (by omega) (by omega) (by rw [h4]; rfl) (by simp) (by simp; omega)) ?_; intro n2 ys2 b2 l2 e1 e2 e3 e4; have e5 := ext_emp h2 e1 e2 e3 e4)
    | refine LoopF.at 2 rfl (LoopF.fix [0, 10] (Int × Int × Nat × List Int) (fun (j, c, n', zs) => 0 ≤ j ∧ j ≤ L.length + 1 ∧ 0 ≤ c ∧ c ≤ b ∧ n' = 0 ∧ fstSet L right b = fstL L right (L.length + 1 - j.toNat) j.toNat c) (fun (j, c, n', zs) => [(11, In j)]) (fun (j, c, n', zs) => [(0, .fix [Lx (LI L), .p .any (.fn f [.ref c1, .ref c2, .ref c3, .ref c4, .ref c5, .ref c6, .ref c7, .ref c8, .ref c9]), In c, .osl 2 0 n']), (2, .row false .flat (eI 0) (zs.map eI))]) (fun (j, c, n', zs) => ((L.length + 1 - j).toNat)) ((0, b, 0, [])) ?_)
    | (refine LoopB.of (T := Int × Int × Nat × List Int) ?_ ?_; rotate_left; rintro ⟨j, c, n', zs⟩ ⟨h0, h1, h2, h3, h4, h5⟩; rotate_left)
    | refine FstR.ok _ _ _ rfl rfl ?_ ?_
    | refine FstR.no _ _ _ _ rfl rfl ?_ ?_
    | refine GhF.go ?_
    | refine MkF.row ?_
    | refine BndF.mk (fun _ => by omega) ?_
    | refine BndF.mk (fun _ => by simp only [List.length_map, List.length_cons, List.length_nil, List.length_append, List.length_set, List.length_replicate, iotaI_len]; omega) ?_
    | refine EqI.mk _ (fun _ => wrapI (by omega) (by omega)) ?_
    | refine EqI.mk _ (fun _ => rfl) ?_
    | refine EqN.mk _ (ln eI) ?_
    | refine EqN.mk _ (Nat.zero_add _) ?_
    | refine EqN.mk _ (Int.toNat_natCast _) ?_
    | refine EqN.mk _ rfl ?_
    | refine EqL.mk _ (tk eI (by first | rfl | assumption | omega | (simp only [List.length_map, List.length_cons, List.length_nil, List.length_append, List.length_set, List.length_replicate, iotaI_len]; done) | (simp only [List.length_map, List.length_cons, List.length_nil, List.length_append, List.length_set, List.length_replicate, iotaI_len]; omega))) ?_
    | refine EqL.mk _ (dt eI) ?_
    | refine EqL.mk [] rfl ?_
    | refine EqL.mk [_] rfl ?_
    | refine EqL.mk _ rfl ?_
    | refine ArgF.is (c_impl_setSearch_extend ..) ?_
    | refine ArgQ.is (fun hG => c_impl_setSearch_extend ..) rfl rfl ?_
    | refine CallF.mk (CallW.is [] true rfl ?_)
    | refine CallG.mk ?_
    | (refine CondF.mk (fun hb => ?_) (fun hb => ?_) <;> try simp only [forall_const, eq_self, not_true_eq_false, not_false_eq_true, or_false, false_or, or_self, or_true, true_or, and_true, true_and, and_false, false_and, decide_true, decide_false, Bool.not_true, Bool.not_false, decide_eq_true_eq, decide_eq_false_iff_not, ite_and_p, ite_or_p, Bool.decide_eq_true, Bool.and_eq_true, Bool.or_eq_true, Bool.not_eq_true', Bool.not_eq_false', Bool.and_eq_false_imp, Bool.or_eq_false_iff, bne_iff_ne, beq_iff_eq, bne_eq_false_iff_eq, beq_eq_false_iff_ne, gt_iff_lt, ge_iff_le, Int.not_lt, Int.not_le, ne_eq, Bool.true_eq_false, Bool.false_eq_true, reduceCtorEq, eta_Airway, eta_Fan, eta_Mine] at hb)
    | apply BackF.auto4
    | refine BackB.mk ?_ ?_
    | refine RetF.auto (And.intro rfl ?_)
    | exact Is.mk rfl rfl
    | refine Is.mk ?_ rfl
    | refine Is.mk rfl ?_
    | refine Is.mk ?_ ?_
  all_goals try dsimp only
  all_goals first
    | omega
    | exact ⟨by omega, by omega, by omega, by omega, rfl, by unfold fstSet; rfl⟩
    | exact fst_e h5 h0 (by omega)
    | exact fst_t h5 h0 (by omega) e1 e4 (by assumption)
    | exact fst_f h5 h0 (by omega) e1 e2 (by assumption) (by omega)
    | (have q := e5 (by assumption); exact ⟨by omega, by omega, by omega, by omega, q.1, fst_n h5 h0 (by omega) e1 e2 (by assumption) (by omega)⟩)
    | skip
end Go.Proofs.Ytfcnlpghdpfjkaa
