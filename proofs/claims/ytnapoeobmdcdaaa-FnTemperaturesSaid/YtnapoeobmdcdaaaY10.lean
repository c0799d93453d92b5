/- Contracts of functions of the program, and what they compute. Conditions: those that each theorem states. -/
import Derived.Test.YtnapoeobmdcdaaaProg
import Derived.Test.YtnapoeobmdcdaaaY9
import Derived.Test.YtnapoeobmdcdaaaY8b
set_option linter.unusedVariables false
set_option linter.unusedSimpArgs false
namespace Go.Proofs.Ytnapoeobmdcdaaa
open Go.Av
attribute [local irreducible] Go.IntKind.wrap leastI rdZ rd rootI rawA okMine cmI htC temI cooV rises
set_option maxRecDepth 20000
set_option maxHeartbeats 100000000

/-! The law of temperatures. -/
section
variable {j : Int} {xs : List GAirway} {fs ks ps ss ls ys : List Int} {t rate cl lim bu c c2 h : Int} {q q2 n : Nat}
theorem lawF (hc : htC ⟨j, xs⟩ fs ks ps ss t rate = 0) (u3 : q = ls.length) (u5 : ls = temI ⟨j, xs⟩ fs ks ps ss t rate) : ((q : Int) = j ∧ 1 ≤ j ∧ j ≤ 16) ∧ rises ss q = true ∧ (∀ i : Nat, (i : Int) < ss.length → 0 ≤ ss.getD i 0 ∧ ss.getD i 0 < j) ∧ (∀ i : Nat, i < ss.length → ls.getD (ss.getD i 0).toNat 0 = t) ∧ ∀ k : Nat, k < ls.length → ls.getD k 0 = -1000 ∨ (-100 ≤ ls.getD k 0 ∧ ls.getD k 0 ≤ 600) := by
  have e := htC_p hc
  have p := temI_p (ss := ss) e.1 e.2.2.2
  have m := (okMine_p e.1.mine).1
  have l := p.ln
  dsimp only at m l
  rw [← u5] at p l
  have hq : (q : Int) = j := by omega
  exact ⟨⟨hq, m⟩, rises_ss e.2.2.1.1 e.2.2.1.2 hq, e.2.2.1.2, by rw [u5]; exact temI_ss e.1 e.2.2.2 e.2.2.1.2, p.at_⟩
theorem take0 (h1 : q2 ≤ ys.length) (h2 : ys.take q2 = []) : q2 = 0 := by
  have := congrArg List.length h2
  rw [List.length_take] at this
  simp only [List.length_nil] at this
  omega
theorem fin1 (hc : ¬c = 0) (u3 : q = ls.length) (u4 : c = htC ⟨j, xs⟩ fs ks ps ss t rate) (u6 : c ≠ 0 → ls = []) (o3 : q2 ≤ ys.length) (o4 : cooV ⟨j, xs⟩ fs ks ps ss t rate cl lim bu = (ys.take q2, c2)) : (if (if (c2 == c) = true then ((q : Int) == 0) else false) = true then ((q2 : Int) == 0) else false) = true := by
  have e := cooV_h o4 (by rw [← u4]; exact hc)
  have e2 := take0 o3 e.2
  have e3 : q = 0 := by rw [u3, u6 hc]; rfl
  rw [e.1, ← u4, e2, e3]
  simp
theorem fin9 (hc : ¬c2 = 0) (o3 : q2 ≤ ys.length) (o4 : cooV ⟨j, xs⟩ fs ks ps ss t rate cl lim bu = (ys.take q2, c2)) : ((q2 : Int) == 0) = true := by
  rw [take0 o3 (cooV_n o4 hc)]; rfl
theorem finA {jj : Int} (hc : c2 = 0) (v4 : n = xs.length) (u5 : ls = temI ⟨j, xs⟩ fs ks ps ss t rate) (hj : (ls.length : Int) ≤ jj) (hh : htM ls jj h) (o3 : q2 ≤ ys.length) (o4 : cooV ⟨j, xs⟩ fs ks ps ss t rate cl lim bu = (ys.take q2, c2)) : (if rises (ys.take q2) n = true then (((q2 : Int) == 0) == decide (h ≤ lim)) else false) = true := by
  rw [hc] at o4
  have P := cooV_p o4
  rw [← u5] at P
  have e := all_ht P.2.1 hj hh
  subst v4
  rw [if_pos P.1, beq_iff_eq, Bool.eq_iff_iff, beq_iff_eq, ← e, ← P.2.2]
  constructor
  · intro h; rw [show q2 = 0 by omega]; rfl
  · intro h; rw [take0 o3 h]; rfl
end
theorem c_laws_FnTemperatures (c1 : List Int) : FnSem Try.prog 9 [Lx (LY c1)] [] (Is [Bo true] []) := by
  refine FnSem.walk (zs := zeroPV Try.prog) (by kernel_rfl) Try.func9 rfl Try.results9 (by kernel_rfl) (by kernel_rfl) (by kernel_rfl) fun hw hh => ?_
  obtain ⟨w0, _⟩ := hw
  first | replace w0 := wf_LY w0 | skip
  have hc1 : bytes c1 := w0.2
  repeat' first
    | refine And.intro rfl ?_
    | refine GdF.mk (fun h => h) ?_
    | refine And.intro (Nat.succ_ne_zero _) ?_
    | refine And.intro (Nat.le_of_ble_eq_true rfl) ?_
    | refine SeqF.run ?_
    | (refine ArgF.mk _ (c_spec_DrawFewestCoolers _) (fun rs ho hR _ => ?_); rcases hR with ⟨j, n, xs, k, fs, l, ks, r, ps, w, ss, t, rate, cl, lim, bu, rfl, rfl, v3⟩; obtain ⟨v4, v5, v6, v7, v8, v9⟩ := v3)
    | refine EqL.mk _ (tk GAirway.cells v4) ?_
    | refine EqL.mk _ (tkW v5) ?_
    | refine EqL.mk _ (tkW v6) ?_
    | refine EqL.mk _ (tkW v7) ?_
    | refine EqL.mk _ (tkW v8) ?_
    | (refine ArgF.mk _ (c_impl_TemperaturesAt ⟨j, xs⟩ fs ks ps ss t rate) (fun rs ho hR _ => ?_); rcases hR with ⟨q, c, ls, rfl, rfl, u3, u4, u5, u6⟩)
    | (refine ArgF.mk _ (c_impl_FewestCoolers ⟨j, xs⟩ fs ks ps ss t rate cl lim bu) (fun rs ho hR _ => ?_); rcases hR with ⟨q2, ys, c2, rfl, rfl, o3, o4⟩)
    | refine EqL.mk _ (tkW u3) ?_
    | refine EqL.mk ((ys.take q2).map eI) (by simp) ?_
    | refine ArgF.is (c_laws_b10Rises ss q) ?_
    | refine ArgQ.is (fun hG => c_laws_b10Rises ss q) rfl rfl ?_
    | (refine ArgF.mk _ (c_impl_HottestJunction ls (by have e := htC_p (show htC ⟨j, xs⟩ fs ks ps ss t rate = 0 by omega); have e2 := temI_p (ss := ss) e.1 e.2.2.2; have e3 := okMine_p e.1.mine; rw [u5 (by omega), e2.ln]; dsimp only at e3 ⊢; omega) (by have e := htC_p (show htC ⟨j, xs⟩ fs ks ps ss t rate = 0 by omega); have e2 := temI_p (ss := ss) e.1 e.2.2.2; rw [u5 (by omega)]; exact e2.at_)) (fun rs ho hR _ => ?_); rcases hR with ⟨hk, hv, hc, rfl, rfl, hH⟩)
    | refine BndF.mk (fun _ => by have F := lawF (show htC ⟨j, xs⟩ fs ks ps ss t rate = 0 by omega) u3 (u5 (by omega)); have e := F.2.2.1 i.toNat (by omega); first | omega | (simp only [List.length_map]; omega)) ?_
    | refine EqI.mk _ (fun _ => by have F := lawF (show htC ⟨j, xs⟩ fs ks ps ss t rate = 0 by omega) u3 (u5 (by omega)); exact wrapI (by omega) (by omega)) ?_
    | refine LoopF.at 11 rfl (LoopF.fix [3, 7, 8, 11, 13, 15, 16] (Int) (fun i => 0 ≤ i ∧ i ≤ ss.length) (fun i => [(17, In i)]) (fun i => []) (fun i => ((ss.length - i).toNat)) (0) ?_)
    | (refine LoopB.of (T := Int) ?_ ?_; rotate_left; rintro i ⟨i0, i1⟩; rotate_left)
    | refine LoopF.at 17 rfl (LoopF.fix [3, 11, 13, 15, 16] (Int × Int) (fun (j', h) => 0 ≤ j' ∧ j' ≤ ls.length ∧ htM ls j' h) (fun (j', h) => [(19, In j'), (18, In h)]) (fun (j', h) => []) (fun (j', h) => ((ls.length - j').toNat)) ((0, -1000)) ?_)
    | (refine LoopB.of (T := Int × Int) ?_ ?_; rotate_left; rintro ⟨j', h⟩ ⟨j0, j1, j2⟩; rotate_left)
    | refine GhF.go ?_
    | refine GdS.keep ?_
    | refine EqP.mk _ (gm eY 0 rfl) ?_
    | refine EqP.mk _ (gm GAirway.cells default rfl) ?_
    | refine EqP.mk _ (gm eI 0 rfl) ?_
    | refine BndF.mk (fun _ => by omega) ?_
    | refine BndF.mk (fun _ => by simp only [List.length_map, List.length_cons, List.length_nil, List.length_append, List.length_set, List.length_replicate, iotaI_len]; omega) ?_
    | refine BndF.mk (fun hG => by simp only [forall_const, eq_self, not_true_eq_false, not_false_eq_true, or_false, false_or, or_self, or_true, true_or, and_true, true_and, and_false, false_and, decide_true, decide_false, Bool.not_true, Bool.not_false, decide_eq_true_eq, decide_eq_false_iff_not, ite_and_p, ite_or_p, Bool.decide_eq_true, Bool.and_eq_true, Bool.or_eq_true, Bool.not_eq_true', Bool.not_eq_false', Bool.and_eq_false_imp, Bool.or_eq_false_iff, bne_iff_ne, beq_iff_eq, bne_eq_false_iff_eq, beq_eq_false_iff_ne, gt_iff_lt, ge_iff_le, Int.not_lt, Int.not_le, ne_eq, Bool.true_eq_false, Bool.false_eq_true, reduceCtorEq, eta_Airway, eta_Fan, eta_Mine, bytes_nil] at hG; (try simp only [List.length_map]); omega) ?_
    | refine EqI.mk _ (fun _ => wrapI (by omega) (by omega)) ?_
    | refine EqI.mk _ (fun _ => rfl) ?_
    | refine EqN.mk _ (ln eY) ?_
    | refine EqN.mk _ (ln GAirway.cells) ?_
    | refine EqN.mk _ (ln eI) ?_
    | refine EqN.mk _ (Nat.zero_add _) ?_
    | refine EqN.mk _ (Int.toNat_natCast _) ?_
    | refine EqN.mk _ rfl ?_
    | refine EqL.mk _ (tk eY (by first | rfl | assumption | omega | (simp only [List.length_map, List.length_cons, List.length_nil, List.length_append, List.length_set, List.length_replicate, iotaI_len]; done) | (simp only [List.length_map, List.length_cons, List.length_nil, List.length_append, List.length_set, List.length_replicate, iotaI_len]; omega))) ?_
    | refine EqL.mk _ (st eY) ?_
    | refine EqL.mk _ (tk GAirway.cells (by first | rfl | assumption | omega | (simp only [List.length_map, List.length_cons, List.length_nil, List.length_append, List.length_set, List.length_replicate, iotaI_len]; done) | (simp only [List.length_map, List.length_cons, List.length_nil, List.length_append, List.length_set, List.length_replicate, iotaI_len]; omega))) ?_
    | refine EqL.mk _ (st GAirway.cells) ?_
    | refine EqL.mk _ (tk eI (by first | rfl | assumption | omega | (simp only [List.length_map, List.length_cons, List.length_nil, List.length_append, List.length_set, List.length_replicate, iotaI_len]; done) | (simp only [List.length_map, List.length_cons, List.length_nil, List.length_append, List.length_set, List.length_replicate, iotaI_len]; omega))) ?_
    | refine EqL.mk _ (st eI) ?_
    | refine EqL.mk [] rfl ?_
    | refine EqL.mk [_] rfl ?_
    | refine EqL.mk _ rfl ?_
    | refine ArgF.is (c_laws_b10Long ..) ?_
    | refine ArgQ.is (fun hG => c_laws_b10Long ..) rfl rfl ?_
    | refine ArgF.is (c_spec_DrawFewestCoolers ..) ?_
    | refine ArgQ.is (fun hG => c_spec_DrawFewestCoolers ..) rfl rfl ?_
    | refine ArgF.is (c_impl_TemperaturesAt ⟨_, _⟩ _ _ _ _ _ _) ?_
    | refine ArgQ.is (fun hG => c_impl_TemperaturesAt ⟨_, _⟩ _ _ _ _ _ _) rfl rfl ?_
    | refine ArgF.is (c_impl_FewestCoolers ⟨_, _⟩ _ _ _ _ _ _ _ _ _) ?_
    | refine ArgQ.is (fun hG => c_impl_FewestCoolers ⟨_, _⟩ _ _ _ _ _ _ _ _ _) rfl rfl ?_
    | refine ArgF.is (c_laws_b10Rises ..) ?_
    | refine ArgQ.is (fun hG => c_laws_b10Rises ..) rfl rfl ?_
    | refine ArgF.is (c_impl_HottestJunction _ (by first | assumption | omega) (by first | assumption | omega)) ?_
    | refine ArgQ.is (fun hG => c_impl_HottestJunction _ (by first | assumption | omega) (by first | assumption | omega)) rfl rfl ?_
    | refine ArgQ.is (fun hG => c_impl_HottestJunction _ (by simp only [forall_const, eq_self, not_true_eq_false, not_false_eq_true, or_false, false_or, or_self, or_true, true_or, and_true, true_and, and_false, false_and, decide_true, decide_false, Bool.not_true, Bool.not_false, decide_eq_true_eq, decide_eq_false_iff_not, ite_and_p, ite_or_p, Bool.decide_eq_true, Bool.and_eq_true, Bool.or_eq_true, Bool.not_eq_true', Bool.not_eq_false', Bool.and_eq_false_imp, Bool.or_eq_false_iff, bne_iff_ne, beq_iff_eq, bne_eq_false_iff_eq, beq_eq_false_iff_ne, gt_iff_lt, ge_iff_le, Int.not_lt, Int.not_le, ne_eq, Bool.true_eq_false, Bool.false_eq_true, reduceCtorEq, eta_Airway, eta_Fan, eta_Mine, bytes_nil] at hG; omega) (by simp only [forall_const, eq_self, not_true_eq_false, not_false_eq_true, or_false, false_or, or_self, or_true, true_or, and_true, true_and, and_false, false_and, decide_true, decide_false, Bool.not_true, Bool.not_false, decide_eq_true_eq, decide_eq_false_iff_not, ite_and_p, ite_or_p, Bool.decide_eq_true, Bool.and_eq_true, Bool.or_eq_true, Bool.not_eq_true', Bool.not_eq_false', Bool.and_eq_false_imp, Bool.or_eq_false_iff, bne_iff_ne, beq_iff_eq, bne_eq_false_iff_eq, beq_eq_false_iff_ne, gt_iff_lt, ge_iff_le, Int.not_lt, Int.not_le, ne_eq, Bool.true_eq_false, Bool.false_eq_true, reduceCtorEq, eta_Airway, eta_Fan, eta_Mine, bytes_nil] at hG; omega)) rfl rfl ?_
    | refine CallF.mk (CallW.is [] true rfl ?_)
    | refine CallG.mk ?_
    | (refine CondF.mk (fun hb => ?_) (fun hb => ?_) <;> try simp only [forall_const, eq_self, not_true_eq_false, not_false_eq_true, or_false, false_or, or_self, or_true, true_or, and_true, true_and, and_false, false_and, decide_true, decide_false, Bool.not_true, Bool.not_false, decide_eq_true_eq, decide_eq_false_iff_not, ite_and_p, ite_or_p, Bool.decide_eq_true, Bool.and_eq_true, Bool.or_eq_true, Bool.not_eq_true', Bool.not_eq_false', Bool.and_eq_false_imp, Bool.or_eq_false_iff, bne_iff_ne, beq_iff_eq, bne_eq_false_iff_eq, beq_eq_false_iff_ne, gt_iff_lt, ge_iff_le, Int.not_lt, Int.not_le, ne_eq, Bool.true_eq_false, Bool.false_eq_true, reduceCtorEq, eta_Airway, eta_Fan, eta_Mine] at hb)
    | apply BackF.auto2
    | apply BackF.auto
    | refine BackB.mk ?_ ?_
    | refine RetF.auto (And.intro rfl ?_)
    | exact Is.mk rfl rfl
    | refine Is.mk ?_ rfl
    | refine Is.mk rfl ?_
    | refine Is.mk ?_ ?_
  all_goals try dsimp only
  all_goals first
    | omega
    | exact congrArg (fun b => [Bo b]) (fin1 hb u3 u4 u6 o3 o4)
    | exact congrArg (fun b => [Bo b]) (fin9 hb o3 o4)
    | exact congrArg (fun b => [Bo b]) (finA hb v4 (u5 (by omega)) (by omega) j2 o3 o4)
    | exact ⟨by omega, by omega, htM_0⟩
    | exact ⟨by omega, by omega, htM_s j0 (by omega) j2⟩
    | exact ⟨by omega, by omega⟩
    | (exfalso
       have F := lawF (show htC ⟨j, xs⟩ fs ks ps ss t rate = 0 by omega) u3 (u5 (by omega))
       first
       | (rcases hb with hb | hb
          · exact hb F.1.1
          · rw [F.2.1] at hb; cases hb)
       | exact hb (F.2.2.2.1 i.toNat (by omega))
       | (have := F.2.2.2.2 j'.toNat (by omega); omega)
       | (have E := htM_e (k := 0) F.2.2.2.2 (by omega) j2 hH
          rcases hb with hb | hb
          · refine hb ?_
            rw [Bool.eq_iff_iff, beq_iff_eq, decide_eq_true_iff]
            exact E.1
          · exact hb.2 (E.2 hb.1)))
    | skip
end Go.Proofs.Ytnapoeobmdcdaaa
