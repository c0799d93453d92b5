/- Contracts of functions of the program, and what they compute. Conditions: those that each theorem states. -/
import Derived.Test.YtjgllpildemkpaaProg
import Derived.Test.YtjgllpildemkpaaN7
import Derived.Test.YtjgllpildemkpaaN8
set_option linter.unusedVariables false
set_option linter.unusedSimpArgs false
namespace Go.Proofs.Ytjgllpildemkpaa
open Go.Av
attribute [local irreducible] Go.IntKind.wrap leastI rdZ rd rootI sumT selI lostE deadE cutE parI joinsE atE okMine stepE runE rmS sdS enS okE binI condI condS resB redM
set_option maxRecDepth 20000
set_option maxHeartbeats 40000000

/-! The law of reductions. -/
section
unseal okE
theorem stepE_ok {t : Int → Bool} {J : Int} {es L : List GEdge} {f : Bool} (hJ : 0 ≤ J) (ho : okE J es) (h : stepE t J es = some (f, L)) : L.length + 1 = es.length ∧ (f = false → okE J L) := by
  unfold stepE at h
  by_cases h1 : oneI t es ≤ es.length - 1
  · rw [if_pos h1] at h
    have e := Option.some.inj h
    injection e with e1 e2
    rw [← e2]
    exact ⟨cutE_len (one_b h1) (by omega), fun _ => okE_cut ho (one_b h1) (by omega)⟩
  · rw [if_neg h1] at h
    by_cases h2 : sideI es ≤ es.length - 1
    · rw [if_pos h2] at h
      have e := Option.some.inj h
      injection e with e1 e2
      rw [← e2]
      exact ⟨(sideS_ok ho h2).1, fun _ => (sideS_ok ho h2).2⟩
    · rw [if_neg h2] at h
      by_cases h3 : endI t es J ≤ J - 1
      · rw [if_pos h3] at h
        have e := Option.some.inj h
        injection e with e1 e2
        have b := end_b hJ h3
        have q := endS_ok ho b.1 b.2
        rw [← e2, ← e1]
        exact q
      · rw [if_neg h3] at h; cases h
theorem runE_ok {t : Int → Bool} {J x y : Int} (hJ : 0 ≤ J) : ∀ (n : Nat) (es : List GEdge) (k : Int), okE J es → (runE t J x y n es k).2.2 = 0 → (1 ≤ (runE t J x y n es k).1 ∧ (runE t J x y n es k).1 ≤ 1000000) ∧ (runE t J x y n es k).2.1 + 1 = k + es.length ∧ k ≤ (runE t J x y n es k).2.1
  | 0, es, k, _, h => by rw [runE] at h; cases h
  | n + 1, es, k, ho, h => by
    rw [runE] at h ⊢
    cases hs : stepE t J es with
    | none =>
      rw [hs] at h; dsimp only at h ⊢
      by_cases hc : es.length = 1 ∧ joinsE (gE es 0) x y = true
      · rw [if_pos hc]
        have a := okE_at ho (i := 0) (by omega) (by omega)
        exact ⟨a.2.2, by dsimp only; omega, by dsimp only; omega⟩
      · rw [if_neg hc] at h; cases h
    | some p =>
      obtain ⟨f, L⟩ := p
      have q := stepE_ok hJ ho hs
      rw [hs] at h; dsimp only at h ⊢
      by_cases hf : f = true
      · rw [if_pos hf] at h; cases h
      · rw [if_neg hf] at h ⊢
        have := runE_ok hJ n L (k + 1) (q.2 (by simpa using hf)) h
        omega
theorem redOk_sym {m : GMine} {rs : List Int} {x y : Int} : redOk m rs x y = redOk m rs y x := by
  unfold redOk
  rw [show decide (x = y) = decide (y = x) by rw [Bool.eq_iff_iff]; simp [eq_comm]]
  cases inJ m.junctions x <;> cases inJ m.junctions y <;> simp
theorem redM_sym {m : GMine} {rs : List Int} {x y : Int} : redM m rs y x = redM m rs x y := by
  unfold redM
  rw [redOk_sym (x := y) (y := x), runE_sym]
theorem redM_ok {m : GMine} {rs : List Int} {x y : Int} (h : (redM m rs x y).2.2 = 0) : (1 ≤ (redM m rs x y).1 ∧ (redM m rs x y).1 ≤ 1000000) ∧ (redM m rs x y).2.1 < m.airways.length ∧ 0 ≤ (redM m rs x y).2.1 := by
  by_cases h1 : okMine m = false
  · rw [redM_1 h1] at h; cases h
  · rw [Bool.not_eq_false] at h1
    by_cases h2 : redOk m rs x y = false
    · rw [redM_2 h1 h2] at h; cases h
    · rw [Bool.not_eq_false] at h2
      rw [redM_0 h1 h2] at h ⊢
      have := runE_ok (by have := (okMine_p h1).1; omega) _ _ _ (edgesM_ok h1 h2) h
      rw [edgesM_len] at this
      omega
end
theorem resB_1 {x : Int} (h : 1 ≤ x ∧ x ≤ 1000000) : resB [x] = true := by unfold resB; simp [inR_iff.2 h]
theorem resB_2 {x y : Int} (h : 1 ≤ x ∧ x ≤ 1000000) (h2 : 1 ≤ y ∧ y ≤ 1000000) : resB [x, y] = true := by unfold resB; simp [inR_iff.2 h, inR_iff.2 h2]
theorem parOk (xs : List Int) (h : resB xs = true) : FnSem Try.prog 27 [Lx (LI xs)] [] (Is [In (parI xs), In 0] []) := by
  have := c_impl_ParallelResistance xs
  rw [if_pos h, if_pos h] at this
  exact this
inductive ParR (xs : List Int) (rs : List AV) (ho : List OB) : Prop
  | mk (x c : Int) (h1 : rs = [In x, In c]) (h2 : ho = []) (h3 : c = 0 → resB xs = true ∧ x = parI xs)
theorem parR (xs : List Int) : FnSem Try.prog 27 [Lx (LI xs)] [] (ParR xs) :=
  (c_impl_ParallelResistance xs).mono fun rs ho h => by
    obtain ⟨rfl, rfl⟩ := h
    refine .mk _ _ rfl rfl fun e => ?_
    by_cases h : resB xs = true
    · exact ⟨h, by rw [if_pos h]⟩
    · rw [if_neg h] at e; cases e
inductive RedMR (m : GMine) (ys : List Int) (x y : Int) (rs : List AV) (ho : List OB) : Prop
  | mk (r s c : Int) (h1 : rs = [In r, In s, In c]) (h2 : ho = []) (h3 : r = (redM m ys x y).1 ∧ s = (redM m ys x y).2.1 ∧ c = (redM m ys x y).2.2)
theorem redMR (m : GMine) (ys : List Int) (x y : Int) : FnSem Try.prog 31 [.p .any (.agg m.cells), Lx (LI ys), In x, In y] [] (RedMR m ys x y) :=
  (c_impl_ReduceMine m ys x y).mono fun rs ho h => by
    obtain ⟨rfl, rfl⟩ := h
    exact .mk _ _ _ rfl rfl ⟨rfl, rfl, rfl⟩
theorem red_law {m : GMine} {ys : List Int} {x y r s c r' s' c' : Int} (h : r = (redM m ys x y).1 ∧ s = (redM m ys x y).2.1 ∧ c = (redM m ys x y).2.2) (h' : r' = (redM m ys y x).1 ∧ s' = (redM m ys y x).2.1 ∧ c' = (redM m ys y x).2.2) : c' = c ∧ r' = r ∧ s' = s ∧ (c = 0 → (1 ≤ r ∧ r ≤ 1000000) ∧ s < m.airways.length ∧ 0 ≤ s) := by
  rw [redM_sym] at h'
  refine ⟨by rw [h'.2.2, h.2.2], by rw [h'.1, h.1], by rw [h'.2.1, h.2.1], fun e => ?_⟩
  rw [h.1, h.2.1]
  exact redM_ok (by rw [← h.2.2]; exact e)
theorem fin_bool {r s c : Int} {n : Nat} (hQ : c = 0 → (1 ≤ r ∧ r ≤ 1000000) ∧ s < (n : Int) ∧ 0 ≤ s) : (if (if (if (c == c) = true then r == r else false) = true then s == s else false) = true then (if (c != 0) = true then true else if (if (if decide (r ≥ 1) = true then decide (r ≤ 1000000) else false) = true then decide (s < (n : Int)) else false) = true then decide (s ≥ 0) else false) else false) = true := by
  simp only [beq_self_eq_true, if_true]
  by_cases hc : c = 0
  · have q := hQ hc
    rw [hc, decide_eq_true (show r ≥ 1 by omega), decide_eq_true (show r ≤ 1000000 by omega), decide_eq_true q.2.1, decide_eq_true (show s ≥ 0 by omega)]
    rfl
  · rw [if_pos (by simpa using hc)]
theorem c_laws_FnReduction (c1 c2 : List Int) : FnSem Try.prog 4 [Lx (LY c1), Lx (LY c2)] [] (Is [Bo true] []) := by
  refine FnSem.walk (zs := zeroPV Try.prog) (by kernel_rfl) Try.func4 rfl Try.results4 (by kernel_rfl) (by kernel_rfl) (by kernel_rfl) fun hw hh => ?_
  obtain ⟨w0, w1, _⟩ := hw
  first | replace w0 := wf_LY w0 | skip
  first | replace w1 := wf_LY w1 | skip
  repeat' first
    | refine And.intro rfl ?_
    | refine GdF.mk (fun h => h) ?_
    | refine And.intro (Nat.succ_ne_zero _) ?_
    | refine And.intro (Nat.le_of_ble_eq_true rfl) ?_
    | refine SeqF.run ?_
    | refine EqL.mk _ (tk GAirway.cells rfl) ?_
    | (refine ArgF.ret (c_spec_DrawParallelResistance _) ?_; rintro ⟨k, xs⟩ hv; dsimp only at hv ⊢; obtain ⟨rfl, hv⟩ := hv)
    | (refine ArgF.mk _ (parR xs) (fun rs ho hR _ => ?_); obtain ⟨v, cp, rfl, rfl, hp⟩ := hR)
    | refine ArgF.is (parOk [xs.getD i.toNat 0] (resB_1 ((resOk_of (hp (by assumption)).1).1 _ (by omega)))) ?_
    | refine ArgQ.is (fun hG => parOk [xs.getD i.toNat 0] (resB_1 ((resOk_of (hp (by assumption)).1).1 _ (by omega)))) rfl rfl ?_
    | refine LoopF.at 7 rfl (LoopF.fix [0, 1, 5, 6] (Int) (fun i => 0 ≤ i ∧ i ≤ xs.length) (fun i => [(8, In i)]) (fun i => []) (fun i => ((xs.length - i).toNat)) (0) ?_)
    | (refine LoopB.of (T := Int) ?_ ?_; rotate_left; rintro i ⟨h0, h1⟩; rotate_left)
    | (refine ArgF.ret (c_spec_DrawOtherResistance _) ?_; rintro ⟨a, b⟩ _; dsimp only)
    | (refine ArgF.mk _ (c_impl_OtherResistance a b) (fun rs ho hR _ => ?_); obtain ⟨x, co, rfl, rfl, hO⟩ := hR)
    | refine ArgF.is (parOk [a, x] (resB_2 (hO (by assumption)).1 (hO (by assumption)).2.1)) ?_
    | refine ArgQ.is (fun hG => parOk [a, x] (resB_2 (hO (by assumption)).1 (hO (by assumption)).2.1)) rfl rfl ?_
    | refine ArgF.is (parOk [a, x - 1] (resB_2 (hO (by assumption)).1 (by have := (hO (by assumption)).2.1; omega))) ?_
    | refine ArgQ.is (fun hG => parOk [a, x - 1] (resB_2 (hO (by assumption)).1 (by have := (hO (by assumption)).2.1; omega))) rfl rfl ?_
    | refine EqI.mk _ (fun _ => by have := (hO (by assumption)).2.1; exact wrapI (by omega) (by omega)) ?_
    | (refine ArgF.mk _ (c_spec_DrawReduceMine _) (fun rs ho hR _ => ?_); obtain ⟨j, n, aws, k2, ys, y, z, rfl, rfl, e1, e2, hn⟩ := hR; subst e1; subst e2)
    | (refine ArgF.mk _ (redMR ⟨j, aws⟩ ys y z) (fun rs ho hR _ => ?_); obtain ⟨r, s, cr, rfl, rfl, hr⟩ := hR)
    | (refine ArgF.mk _ (redMR ⟨j, aws⟩ ys z y) (fun rs ho hR _ => ?_); obtain ⟨r', s', cr', rfl, rfl, hr'⟩ := hR; obtain ⟨rfl, rfl, rfl, hQ⟩ := red_law hr hr')
    | refine GhF.go ?_
    | refine GdS.keep ?_
    | refine MkF.row ?_
    | refine EqP.mk _ (gm eY 0 rfl) ?_
    | refine EqP.mk _ (gm GAirway.cells default rfl) ?_
    | refine EqP.mk _ (gm eI 0 rfl) ?_
    | refine BndF.mk (fun _ => by omega) ?_
    | refine BndF.mk (fun _ => by simp only [List.length_map, List.length_cons, List.length_nil, List.length_append, List.length_set, List.length_replicate, iotaI_len]; omega) ?_
    | refine BndF.mk (fun hG => by simp only [forall_const, eq_self, not_true_eq_false, not_false_eq_true, or_false, false_or, or_self, or_true, true_or, and_true, true_and, and_false, false_and, decide_true, decide_false, Bool.not_true, Bool.not_false, decide_eq_true_eq, decide_eq_false_iff_not, ite_and_p, ite_or_p, Bool.decide_eq_true, Bool.and_eq_true, Bool.or_eq_true, Bool.not_eq_true', Bool.not_eq_false', Bool.and_eq_false_imp, Bool.or_eq_false_iff, bne_iff_ne, beq_iff_eq, bne_eq_false_iff_eq, beq_eq_false_iff_ne, gt_iff_lt, ge_iff_le, Int.not_lt, Int.not_le, ne_eq, Bool.true_eq_false, Bool.false_eq_true, reduceCtorEq, eta_Airway, eta_Door, eta_Fan, eta_Mine, bytes_nil] at hG; (try simp only [List.length_map]); omega) ?_
    | refine EqI.mk _ (fun _ => wrapI (by omega) (by omega)) ?_
    | refine EqI.mk _ (fun _ => rfl) ?_
    | refine EqN.mk _ (ln eY) ?_
    | refine EqN.mk _ (ln GAirway.cells) ?_
    | refine EqN.mk _ (ln eI) ?_
    | refine EqN.mk _ (Nat.zero_add _) ?_
    | refine EqN.mk _ (Int.toNat_natCast _) ?_
    | refine EqN.mk _ rfl ?_
    | refine EqL.mk _ (tk eY (by first | rfl | assumption | omega | (simp only [List.length_map, List.length_cons, List.length_nil, List.length_append, List.length_set, List.length_replicate, iotaI_len]; done) | (simp only [List.length_map, List.length_cons, List.length_nil, List.length_append, List.length_set, List.length_replicate, iotaI_len]; omega))) ?_
    | refine EqL.mk _ (st eY) ?_
    | refine EqL.mk _ (tk GAirway.cells (by first | rfl | assumption | omega | (simp only [List.length_map, List.length_cons, List.length_nil, List.length_append, List.length_set, List.length_replicate, iotaI_len]; done) | (simp only [List.length_map, List.length_cons, List.length_nil, List.length_append, List.length_set, List.length_replicate, iotaI_len]; omega))) ?_
    | refine EqL.mk _ (st GAirway.cells) ?_
    | refine EqL.mk _ (tk eI (by first | rfl | assumption | omega | (simp only [List.length_map, List.length_cons, List.length_nil, List.length_append, List.length_set, List.length_replicate, iotaI_len]; done) | (simp only [List.length_map, List.length_cons, List.length_nil, List.length_append, List.length_set, List.length_replicate, iotaI_len]; omega))) ?_
    | refine EqL.mk _ (st eI) ?_
    | refine EqL.mk (List.map eI [_, _]) rfl ?_
    | refine EqL.mk [] rfl ?_
    | refine EqL.mk [_] rfl ?_
    | refine EqL.mk _ rfl ?_
    | refine ArgF.is (c_laws_b10Long ..) ?_
    | refine ArgQ.is (fun hG => c_laws_b10Long ..) rfl rfl ?_
    | refine ArgF.is (c_spec_DrawParallelResistance ..) ?_
    | refine ArgQ.is (fun hG => c_spec_DrawParallelResistance ..) rfl rfl ?_
    | refine ArgF.is (c_impl_ParallelResistance ..) ?_
    | refine ArgQ.is (fun hG => c_impl_ParallelResistance ..) rfl rfl ?_
    | refine ArgF.is (c_spec_DrawOtherResistance ..) ?_
    | refine ArgQ.is (fun hG => c_spec_DrawOtherResistance ..) rfl rfl ?_
    | refine ArgF.is (c_impl_OtherResistance ..) ?_
    | refine ArgQ.is (fun hG => c_impl_OtherResistance ..) rfl rfl ?_
    | refine ArgF.is (c_spec_DrawReduceMine ..) ?_
    | refine ArgQ.is (fun hG => c_spec_DrawReduceMine ..) rfl rfl ?_
    | refine ArgF.is (c_impl_ReduceMine ⟨_, _⟩ _ _ _) ?_
    | refine ArgQ.is (fun hG => c_impl_ReduceMine ⟨_, _⟩ _ _ _) rfl rfl ?_
    | refine CallF.mk (CallW.is [] true rfl ?_)
    | refine CallG.mk ?_
    | (refine CondF.mk (fun hb => ?_) (fun hb => ?_) <;> try simp only [forall_const, eq_self, not_true_eq_false, not_false_eq_true, or_false, false_or, or_self, or_true, true_or, and_true, true_and, and_false, false_and, decide_true, decide_false, Bool.not_true, Bool.not_false, decide_eq_true_eq, decide_eq_false_iff_not, ite_and_p, ite_or_p, Bool.decide_eq_true, Bool.and_eq_true, Bool.or_eq_true, Bool.not_eq_true', Bool.not_eq_false', Bool.and_eq_false_imp, Bool.or_eq_false_iff, bne_iff_ne, beq_iff_eq, bne_eq_false_iff_eq, beq_eq_false_iff_ne, gt_iff_lt, ge_iff_le, Int.not_lt, Int.not_le, ne_eq, Bool.true_eq_false, Bool.false_eq_true, reduceCtorEq, eta_Airway, eta_Door, eta_Fan, eta_Mine] at hb)
    | apply BackF.auto
    | refine BackB.mk ?_ ?_
    | refine RetF.auto (And.intro rfl ?_)
    | exact Is.mk rfl rfl
    | refine Is.mk ?_ rfl
    | refine Is.mk rfl ?_
    | refine Is.mk ?_ ?_
  all_goals try dsimp only
  all_goals first
    | omega
    | (exfalso; have q := parI_le1 (resOk_of (hp (by assumption)).1).1 (j := i.toNat) (by omega); have q2 := (hp (by assumption)).2; omega)
    | (exfalso; have := hO (by assumption); omega)
    | (rw [fin_bool hQ]; exact rfl)
    | skip
end Go.Proofs.Ytjgllpildemkpaa
