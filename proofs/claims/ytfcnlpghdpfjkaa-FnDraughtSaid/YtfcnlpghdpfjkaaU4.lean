/- Contracts of functions of the program, and what they compute. Conditions: those that each theorem states. -/
import Derived.Test.YtfcnlpghdpfjkaaProg
import Derived.Test.YtfcnlpghdpfjkaaU3
import Derived.Test.YtfcnlpghdpfjkaaJ1b
import Derived.Test.YtfcnlpghdpfjkaaR2
set_option linter.unusedVariables false
set_option linter.unusedSimpArgs false
namespace Go.Proofs.Ytfcnlpghdpfjkaa
open Go.Av
attribute [local irreducible] Go.IntKind.wrap leastI rdZ rd rootI rawA okMine treeC mshC cdI wdI drF colV
set_option maxRecDepth 20000
set_option maxHeartbeats 40000000

/-! The law of draughts. -/
theorem rep_lo {m : GMine} {ts : List Int} {t : Int} (ht : -300 ≤ t ∧ t ≤ 600) (hl : ts.length = m.airways.length) (h : ∀ k : Nat, (k : Int) < ts.length → ts.getD k 0 = t) : lsO m ts (-300) 600 = true := lsO_t hl fun k hk => by rw [h k (by omega)]; exact ht
theorem drF_e {m : GMine} {lv ts : List Int} {t : Int} (hl : ts.length = m.airways.length) (h : ∀ k : Nat, (k : Int) < ts.length → ts.getD k 0 = t) : ∀ k : Nat, k < m.airways.length → drF m lv ts k = cdI (lv.getD (m.airways.getD k default).to.toNat 0 - lv.getD (m.airways.getD k default).from_.toNat 0) t := fun k hk => by
  unfold drF; rw [h k (by omega)]
/-- a mesh and its way back -/
theorem msh_dr {m : GMine} {lv ts : List Int} {t : Int} (hm : okMine m = true) (hl : ts.length = m.airways.length) (h : ∀ k : Nat, (k : Int) < ts.length → ts.getD k 0 = t) {j : Nat} (hj : j < (mshC m).length) :
    isW m ((mshC m).getD j []) ∧ isW m (rvW ((mshC m).getD j [])) ∧ smL (drF m lv ts) (rvW ((mshC m).getD j [])) = -(smL (drF m lv ts) ((mshC m).getD j [])) ∧ absI (smL (drF m lv ts) ((mshC m).getD j [])) ≤ ((mshC m).getD j []).length ∧ ((mshC m).getD j []).length ≤ 17 := by
  have hG := mshC_G hm hj
  have h1 := (wlk_isW ((mshC m).getD j []) _ (by rw [hG.p.wk]; exact hG.st)).1
  exact ⟨h1, isW_rv h1, smL_rv _ fun k hk => (hG.ix k hk).1, sm_msh (drF_e hl h) hG, hG.p.ln.2⟩
theorem rv_s {w : List Int} {q : Int} (h0 : 0 ≤ q) (hq : q < w.length) : rvW (w.drop q.toNat) = rvW (w.drop (q + 1).toNat) ++ [0 - w.getD q.toNat 0] := by
  have hq2 : q.toNat < w.length := by omega
  rw [List.drop_eq_getElem_cons hq2, show (q + 1).toNat = q.toNat + 1 by omega, List.getD_eq_getElem?_getD, List.getElem?_eq_getElem hq2, Option.getD_some]
  unfold rvW
  rw [List.map_cons, List.reverse_cons]
theorem colV_b (r t : Int) : (colV r t).2 = 0 ∨ (colV r t).2 = 2 := by unfold colV; split <;> (try split) <;> simp
theorem colV_1 {r t : Int} (hr : -6000 ≤ r ∧ r ≤ 6000) (ht : -300 ≤ t ∧ t ≤ 600) : colV r t = (cdI r t, 0) := by
  unfold colV; rw [if_pos (inR_iff.2 hr), if_pos (inR_iff.2 ht)]
theorem colV_2 {r t : Int} (h : ¬(-300 ≤ t ∧ t ≤ 600)) : (colV r t).2 = 2 := by
  unfold colV
  split
  · rw [if_neg (fun e => h (inR_iff.1 e))]
  · rfl
theorem c_laws_FnDraught (c1 c2 : List Int) : FnSem Try.prog 4 [Lx (LY c1), Lx (LY c2)] [] (Is [Bo true] []) := by
  refine FnSem.walk (zs := zeroPV Try.prog) (by kernel_rfl) Try.func4 rfl Try.results4 (by kernel_rfl) (by kernel_rfl) (by kernel_rfl) fun hw hh => ?_
  obtain ⟨w0, w1, _⟩ := hw
  first | replace w0 := wf_LY w0 | skip
  first | replace w1 := wf_LY w1 | skip
  repeat' first
    | refine And.intro rfl ?_
    | refine GdF.mk (fun h => h) ?_
    | refine And.intro (Nat.succ_ne_zero _) ?_
    | refine And.intro (Nat.le_of_ble_eq_true rfl) ?_
    | refine SeqF.run ?_
    | refine GdS.tt (by rfl) ?_
    | refine GdS.ff (by rfl) ?_
    | refine EqL.mk _ (tk GAirway.cells rfl) ?_
    | (refine ArgF.ret (r8Mine c1) ?_; rintro ⟨j, n0, xs⟩ ⟨v1, v2, v3, v4, hm⟩; dsimp only at v1 v2 v3 v4 hm; subst v3)
    | (refine ArgF.ret (c_spec_R8Levels c2 ⟨j, xs⟩ hm) ?_; intro lv hlv)
    | refine EqL.mk _ (tkT (take_all rfl)) ?_
    | refine ArgF.is (c_laws_r8Wide c2 0 901 (by omega) (by omega)) ?_
    | refine ArgQ.is (fun hG => c_laws_r8Wide c2 0 901 (by omega) (by omega)) rfl rfl ?_
    | refine EqI.mk _ (fun _ => by have q := r8W_b c2 0 (n := 901) (by omega); exact wrapI (by omega) (by omega)) ?_
    | refine LoopF.at 8 rfl (LoopF.fix [1, 5, 6, 7] (Int × Nat × List Int) (fun (k, n, ts) => 0 ≤ k ∧ k ≤ xs.length ∧ n = ts.length ∧ (n : Int) = k ∧ ∀ i : Nat, (i : Int) < ts.length → ts.getD i 0 = r8W c2 0 901 - 300) (fun (k, n, ts) => [(9, In k), (8, .osl 3 0 n)]) (fun (k, n, ts) => [(3, .row true .flat (eI 0) (ts.map eI))]) (fun (k, n, ts) => ((xs.length - k).toNat)) ((0, 0, [])) ?_)
    | (refine LoopB.of (T := Int × Nat × List Int) ?_ ?_; rotate_left; rintro ⟨k, n, ts⟩ ⟨k0, k1, k2, k3, k4⟩; rotate_left)
    | (refine ArgF.ret (c_impl_DraughtsOf ⟨j, xs⟩ lv ts hm hlv (rep_lo (t := r8W c2 0 901 - 300) (by have q := r8W_b c2 0 (n := 901) (by omega); omega) (by dsimp only; omega) k4)) ?_; intro dr hdr)
    | refine EqL.mk _ (tkT (take_all k2)) ?_
    | (refine ArgF.ret (c_impl_DepthsOf ⟨j, xs⟩ lv hm hlv) ?_; rintro ⟨M, dp⟩ ⟨d1, d2⟩; dsimp only at d1 d2)
    | refine ArgF.is (c_spec_MeshesOf ⟨j, xs⟩ hm) ?_
    | refine ArgQ.is (fun hG => c_spec_MeshesOf ⟨j, xs⟩ hm) rfl rfl ?_
    | refine EqI.mk _ (fun _ => by have q := (msh_dr (lv := lv) hm (by dsimp only; omega) k4 (j := i.toNat) (by omega)).2.2.2.2; exact wrapI (by omega) (by omega)) ?_
    | refine LoopF.at 17 rfl (LoopF.fix [1, 5, 6, 8, 12, 14] (Int × Unit) (fun (i, _) => 0 ≤ i ∧ i ≤ (mshC ⟨j, xs⟩).length) (fun (i, _) => [(16, In i)]) (fun (i, _) => []) (fun (i, _) => (((mshC ⟨j, xs⟩).length - i).toNat)) ((0, ())) ?_)
    | (refine LoopB.of (T := Int × Unit) ?_ ?_; rotate_left; rintro ⟨i, _⟩ ⟨i0, i1⟩; rotate_left)
    | refine ArgF.is (c_impl_WalkDraught ⟨j, xs⟩ lv ts ((mshC ⟨j, xs⟩).getD i.toNat []) hm hlv (rep_lo (t := r8W c2 0 901 - 300) (by have q := r8W_b c2 0 (n := 901) (by omega); omega) (by dsimp only; omega) k4) (msh_dr (lv := lv) hm (by dsimp only; omega) k4 (j := i.toNat) (by omega)).1 (by have := (msh_dr (lv := lv) hm (by dsimp only; omega) k4 (j := i.toNat) (by omega)).2.2.2.2; omega)) ?_
    | refine ArgQ.is (fun hG => c_impl_WalkDraught ⟨j, xs⟩ lv ts ((mshC ⟨j, xs⟩).getD i.toNat []) hm hlv (rep_lo (t := r8W c2 0 901 - 300) (by have q := r8W_b c2 0 (n := 901) (by omega); omega) (by dsimp only; omega) k4) (msh_dr (lv := lv) hm (by dsimp only; omega) k4 (j := i.toNat) (by omega)).1 (by have := (msh_dr (lv := lv) hm (by dsimp only; omega) k4 (j := i.toNat) (by omega)).2.2.2.2; omega)) rfl rfl ?_
    | refine LoopF.at 22 rfl (LoopF.fix [1, 5, 6, 8, 12, 14, 16, 17, 18] (Int × Nat × List Int × Unit) (fun (q, n2, bk, _) => -1 ≤ q ∧ q < ((mshC ⟨j, xs⟩).getD i.toNat []).length ∧ n2 = bk.length ∧ bk = rvW (((mshC ⟨j, xs⟩).getD i.toNat []).drop (q + 1).toNat) ∧ (n2 : Int) + q + 1 = ((mshC ⟨j, xs⟩).getD i.toNat []).length) (fun (q, n2, bk, _) => [(20, In q), (19, .osl 5 0 n2)]) (fun (q, n2, bk, _) => [(5, .row true .flat (eI 0) (bk.map eI))]) (fun (q, n2, bk, _) => ((q + 1).toNat)) ((((mshC ⟨j, xs⟩).getD i.toNat []).length - 1, 0, [], ())) ?_)
    | (refine LoopB.of (T := Int × Nat × List Int × Unit) ?_ ?_; rotate_left; rintro ⟨q, n2, bk, _⟩ ⟨q0, q1, q2, q3, q7⟩; rotate_left)
    | refine BndF.mk (fun _ => by have q := (msh_dr (lv := lv) hm (by dsimp only; omega) k4 (j := i.toNat) (by omega)).2.2.2.2; omega) ?_
    | refine EqI.mk _ (fun _ => by have q := hlv.ln; dsimp only at q; exact wrapI (by omega) (by omega)) ?_
    | (have hbk : bk = rvW ((mshC ⟨j, xs⟩).getD i.toNat []) := (by rw [q3, show (q + 1).toNat = 0 by omega, List.drop_zero]); refine ArgF.is (c_impl_WalkDraught ⟨j, xs⟩ lv ts bk hm hlv (rep_lo (t := r8W c2 0 901 - 300) (by have q := r8W_b c2 0 (n := 901) (by omega); omega) (by dsimp only; omega) k4) (by rw [hbk]; exact (msh_dr (lv := lv) hm (by dsimp only; omega) k4 (j := i.toNat) (by omega)).2.1) (by rw [hbk, rvW_len]; have := (msh_dr (lv := lv) hm (by dsimp only; omega) k4 (j := i.toNat) (by omega)).2.2.2.2; omega)) ?_)
    | refine EqL.mk _ (tkT (take_all q2)) ?_
    | refine EqI.mk _ (fun _ => by have q4 := (mshC_G hm (j := i.toNat) (by omega)).ix q.toNat (by omega); have q5 := absI_bd q4.2; dsimp only at q5; exact wrapI (by omega) (by omega)) ?_
    | refine EqI.mk _ (fun _ => by have q4 := (msh_dr (lv := lv) hm (by dsimp only; omega) k4 (j := i.toNat) (by omega)); have q5 := absI_bd q4.2.2.2.1; exact wrapI (by omega) (by omega)) ?_
    | refine ArgF.is (c_laws_r8Abs (smL (drF ⟨j, xs⟩ lv ts) ((mshC ⟨j, xs⟩).getD i.toNat [])) (by have q4 := (msh_dr (lv := lv) hm (by dsimp only; omega) k4 (j := i.toNat) (by omega)); have q5 := absI_bd q4.2.2.2.1; omega)) ?_
    | refine ArgQ.is (fun hG => c_laws_r8Abs (smL (drF ⟨j, xs⟩ lv ts) ((mshC ⟨j, xs⟩).getD i.toNat [])) (by have q4 := (msh_dr (lv := lv) hm (by dsimp only; omega) k4 (j := i.toNat) (by omega)); have q5 := absI_bd q4.2.2.2.1; omega)) rfl rfl ?_
    | refine EqI.mk _ (fun _ => by have q4 := mshC_len hm; exact wrapI (by omega) (by omega)) ?_
    | refine LoopF.at 29 rfl (LoopF.fix [1, 6, 12] (Int × Unit × Unit) (fun (i3, _, _) => 0 ≤ i3 ∧ i3 ≤ lv.length) (fun (i3, _, _) => [(23, In i3)]) (fun (i3, _, _) => []) (fun (i3, _, _) => ((lv.length - i3).toNat)) ((0, (), ())) ?_)
    | (refine LoopB.of (T := Int × Unit × Unit) ?_ ?_; rotate_left; rintro ⟨i3, _, _⟩ ⟨l0, l1⟩; rotate_left)
    | refine EqI.mk _ (fun _ => by have q := d2 i3.toNat (by omega); have q5 := d2 0 (by omega); exact wrapI (by omega) (by omega)) ?_
    | refine ArgF.is (c_laws_r8Wide c2 2 3000 (by omega) (by omega)) ?_
    | refine ArgQ.is (fun hG => c_laws_r8Wide c2 2 3000 (by omega) (by omega)) rfl rfl ?_
    | refine ArgF.is (c_laws_r8Wide c2 4 2000 (by omega) (by omega)) ?_
    | refine ArgQ.is (fun hG => c_laws_r8Wide c2 4 2000 (by omega) (by omega)) rfl rfl ?_
    | refine EqI.mk _ (fun _ => by have q := r8W_b c2 2 (n := 3000) (by omega); have q5 := r8W_b c2 4 (n := 2000) (by omega); exact wrapI (by omega) (by omega)) ?_
    | (refine ArgF.mk _ (c_impl_TemperatureFor (1 + r8W c2 2 3000) (r8W c2 4 2000 - 1000) (by have q := r8W_b c2 2 (n := 3000) (by omega); omega) (by have q := r8W_b c2 4 (n := 2000) (by omega); omega)) (fun rs ho hR _ => ?_); obtain ⟨x, c, rfl, rfl, h3, h4⟩ := hR)
    | refine EqI.mk _ (fun _ => by have q := h3 (by omega); exact wrapI (by omega) (by omega)) ?_
    | refine GhF.go ?_
    | refine GdS.keep ?_
    | refine DrawG.old (DrawF.lex (by decide +kernel) ?_)
    | refine MkF.row ?_
    | refine EqP.mk _ (gm eI 0 rfl) ?_
    | refine EqP.mk _ (gm GAirway.cells default rfl) ?_
    | refine EqP.mk _ (gm eY 0 rfl) ?_
    | refine EqP.mk _ (gmb eLI [] (by omega)) ?_
    | refine BndF.mk (fun _ => by omega) ?_
    | refine BndF.mk (fun _ => by simp only [List.length_map, List.length_cons, List.length_nil, List.length_append, List.length_set, List.length_replicate, iotaI_len]; omega) ?_
    | refine BndF.mk (fun hG => by simp only [forall_const, eq_self, not_true_eq_false, not_false_eq_true, or_false, false_or, or_self, or_true, true_or, and_true, true_and, and_false, false_and, decide_true, decide_false, Bool.not_true, Bool.not_false, decide_eq_true_eq, decide_eq_false_iff_not, ite_and_p, ite_or_p, Bool.decide_eq_true, Bool.and_eq_true, Bool.or_eq_true, Bool.not_eq_true', Bool.not_eq_false', Bool.and_eq_false_imp, Bool.or_eq_false_iff, bne_iff_ne, beq_iff_eq, bne_eq_false_iff_eq, beq_eq_false_iff_ne, gt_iff_lt, ge_iff_le, Int.not_lt, Int.not_le, ne_eq, Bool.true_eq_false, Bool.false_eq_true, reduceCtorEq, eta_Airway, eta_Fan, eta_Mine, bytes_nil] at hG; (try simp only [List.length_map]); omega) ?_
    | refine EqI.mk _ (fun _ => wrapI (by omega) (by omega)) ?_
    | refine EqI.mk _ (fun _ => rfl) ?_
    | refine FlF.keep ?_
    | refine EqN.mk _ (ln eI) ?_
    | refine EqN.mk _ (ln GAirway.cells) ?_
    | refine EqN.mk _ (ln eY) ?_
    | refine EqN.mk _ (ln eLI) ?_
    | refine EqN.mk _ (Nat.zero_add _) ?_
    | refine EqN.mk (_ + 1) rfl ?_
    | refine EqN.mk _ (Int.toNat_natCast _) ?_
    | refine EqN.mk _ rfl ?_
    | refine EqL.mk _ (sn0 eI) ?_
    | refine EqL.mk _ (sn eI (by first | rfl | assumption | omega | (simp only [List.length_map, List.length_cons, List.length_nil, List.length_append, List.length_set, List.length_replicate, iotaI_len]; done) | (simp only [List.length_map, List.length_cons, List.length_nil, List.length_append, List.length_set, List.length_replicate, iotaI_len]; omega))) ?_
    | refine EqL.mk _ (ap0 eI) ?_
    | refine EqL.mk _ (ap eI (by first | rfl | assumption | omega | (simp only [List.length_map, List.length_cons, List.length_nil, List.length_append, List.length_set, List.length_replicate, iotaI_len]; done) | (simp only [List.length_map, List.length_cons, List.length_nil, List.length_append, List.length_set, List.length_replicate, iotaI_len]; omega))) ?_
    | refine EqL.mk _ (tk eI (by first | rfl | assumption | omega | (simp only [List.length_map, List.length_cons, List.length_nil, List.length_append, List.length_set, List.length_replicate, iotaI_len]; done) | (simp only [List.length_map, List.length_cons, List.length_nil, List.length_append, List.length_set, List.length_replicate, iotaI_len]; omega))) ?_
    | refine EqL.mk _ (st eI) ?_
    | refine EqL.mk _ (sn0 GAirway.cells) ?_
    | refine EqL.mk _ (sn GAirway.cells (by first | rfl | assumption | omega | (simp only [List.length_map, List.length_cons, List.length_nil, List.length_append, List.length_set, List.length_replicate, iotaI_len]; done) | (simp only [List.length_map, List.length_cons, List.length_nil, List.length_append, List.length_set, List.length_replicate, iotaI_len]; omega))) ?_
    | refine EqL.mk _ (ap0 GAirway.cells) ?_
    | refine EqL.mk _ (ap GAirway.cells (by first | rfl | assumption | omega | (simp only [List.length_map, List.length_cons, List.length_nil, List.length_append, List.length_set, List.length_replicate, iotaI_len]; done) | (simp only [List.length_map, List.length_cons, List.length_nil, List.length_append, List.length_set, List.length_replicate, iotaI_len]; omega))) ?_
    | refine EqL.mk _ (tk GAirway.cells (by first | rfl | assumption | omega | (simp only [List.length_map, List.length_cons, List.length_nil, List.length_append, List.length_set, List.length_replicate, iotaI_len]; done) | (simp only [List.length_map, List.length_cons, List.length_nil, List.length_append, List.length_set, List.length_replicate, iotaI_len]; omega))) ?_
    | refine EqL.mk _ (st GAirway.cells) ?_
    | refine EqL.mk _ (sn0 eY) ?_
    | refine EqL.mk _ (sn eY (by first | rfl | assumption | omega | (simp only [List.length_map, List.length_cons, List.length_nil, List.length_append, List.length_set, List.length_replicate, iotaI_len]; done) | (simp only [List.length_map, List.length_cons, List.length_nil, List.length_append, List.length_set, List.length_replicate, iotaI_len]; omega))) ?_
    | refine EqL.mk _ (ap0 eY) ?_
    | refine EqL.mk _ (ap eY (by first | rfl | assumption | omega | (simp only [List.length_map, List.length_cons, List.length_nil, List.length_append, List.length_set, List.length_replicate, iotaI_len]; done) | (simp only [List.length_map, List.length_cons, List.length_nil, List.length_append, List.length_set, List.length_replicate, iotaI_len]; omega))) ?_
    | refine EqL.mk _ (tk eY (by first | rfl | assumption | omega | (simp only [List.length_map, List.length_cons, List.length_nil, List.length_append, List.length_set, List.length_replicate, iotaI_len]; done) | (simp only [List.length_map, List.length_cons, List.length_nil, List.length_append, List.length_set, List.length_replicate, iotaI_len]; omega))) ?_
    | refine EqL.mk _ (st eY) ?_
    | refine EqL.mk _ (sn0 eLI) ?_
    | refine EqL.mk _ (sn eLI (by first | rfl | assumption | omega | (simp only [List.length_map, List.length_cons, List.length_nil, List.length_append, List.length_set, List.length_replicate, iotaI_len]; done) | (simp only [List.length_map, List.length_cons, List.length_nil, List.length_append, List.length_set, List.length_replicate, iotaI_len]; omega))) ?_
    | refine EqL.mk _ (ap0 eLI) ?_
    | refine EqL.mk _ (ap eLI (by first | rfl | assumption | omega | (simp only [List.length_map, List.length_cons, List.length_nil, List.length_append, List.length_set, List.length_replicate, iotaI_len]; done) | (simp only [List.length_map, List.length_cons, List.length_nil, List.length_append, List.length_set, List.length_replicate, iotaI_len]; omega))) ?_
    | refine EqL.mk _ (tk eLI (by first | rfl | assumption | omega | (simp only [List.length_map, List.length_cons, List.length_nil, List.length_append, List.length_set, List.length_replicate, iotaI_len]; done) | (simp only [List.length_map, List.length_cons, List.length_nil, List.length_append, List.length_set, List.length_replicate, iotaI_len]; omega))) ?_
    | refine EqL.mk _ (st eLI) ?_
    | refine EqL.mk [] rfl ?_
    | refine EqL.mk [_] rfl ?_
    | refine EqL.mk _ rfl ?_
    | refine ArgF.is (c_laws_r8Long ..) ?_
    | refine ArgQ.is (fun hG => c_laws_r8Long ..) rfl rfl ?_
    | refine ArgF.is (c_spec_R8Mine ..) ?_
    | refine ArgQ.is (fun hG => c_spec_R8Mine ..) rfl rfl ?_
    | refine ArgF.is (c_spec_R8Levels _ ⟨_, _⟩ (by first | assumption | omega)) ?_
    | refine ArgQ.is (fun hG => c_spec_R8Levels _ ⟨_, _⟩ (by first | assumption | omega)) rfl rfl ?_
    | refine ArgQ.is (fun hG => c_spec_R8Levels _ ⟨_, _⟩ (by simp only [forall_const, eq_self, not_true_eq_false, not_false_eq_true, or_false, false_or, or_self, or_true, true_or, and_true, true_and, and_false, false_and, decide_true, decide_false, Bool.not_true, Bool.not_false, decide_eq_true_eq, decide_eq_false_iff_not, ite_and_p, ite_or_p, Bool.decide_eq_true, Bool.and_eq_true, Bool.or_eq_true, Bool.not_eq_true', Bool.not_eq_false', Bool.and_eq_false_imp, Bool.or_eq_false_iff, bne_iff_ne, beq_iff_eq, bne_eq_false_iff_eq, beq_eq_false_iff_ne, gt_iff_lt, ge_iff_le, Int.not_lt, Int.not_le, ne_eq, Bool.true_eq_false, Bool.false_eq_true, reduceCtorEq, eta_Airway, eta_Fan, eta_Mine, bytes_nil] at hG; omega)) rfl rfl ?_
    | refine ArgF.is (c_laws_r8Wide _ _ _ (by first | assumption | omega) (by first | assumption | omega)) ?_
    | refine ArgQ.is (fun hG => c_laws_r8Wide _ _ _ (by first | assumption | omega) (by first | assumption | omega)) rfl rfl ?_
    | refine ArgQ.is (fun hG => c_laws_r8Wide _ _ _ (by simp only [forall_const, eq_self, not_true_eq_false, not_false_eq_true, or_false, false_or, or_self, or_true, true_or, and_true, true_and, and_false, false_and, decide_true, decide_false, Bool.not_true, Bool.not_false, decide_eq_true_eq, decide_eq_false_iff_not, ite_and_p, ite_or_p, Bool.decide_eq_true, Bool.and_eq_true, Bool.or_eq_true, Bool.not_eq_true', Bool.not_eq_false', Bool.and_eq_false_imp, Bool.or_eq_false_iff, bne_iff_ne, beq_iff_eq, bne_eq_false_iff_eq, beq_eq_false_iff_ne, gt_iff_lt, ge_iff_le, Int.not_lt, Int.not_le, ne_eq, Bool.true_eq_false, Bool.false_eq_true, reduceCtorEq, eta_Airway, eta_Fan, eta_Mine, bytes_nil] at hG; omega) (by simp only [forall_const, eq_self, not_true_eq_false, not_false_eq_true, or_false, false_or, or_self, or_true, true_or, and_true, true_and, and_false, false_and, decide_true, decide_false, Bool.not_true, Bool.not_false, decide_eq_true_eq, decide_eq_false_iff_not, ite_and_p, ite_or_p, Bool.decide_eq_true, Bool.and_eq_true, Bool.or_eq_true, Bool.not_eq_true', Bool.not_eq_false', Bool.and_eq_false_imp, Bool.or_eq_false_iff, bne_iff_ne, beq_iff_eq, bne_eq_false_iff_eq, beq_eq_false_iff_ne, gt_iff_lt, ge_iff_le, Int.not_lt, Int.not_le, ne_eq, Bool.true_eq_false, Bool.false_eq_true, reduceCtorEq, eta_Airway, eta_Fan, eta_Mine, bytes_nil] at hG; omega)) rfl rfl ?_
    | refine ArgF.is (c_impl_DraughtsOf ⟨_, _⟩ _ _ (by first | assumption | omega) (by first | assumption | omega) (by first | assumption | omega)) ?_
    | refine ArgQ.is (fun hG => c_impl_DraughtsOf ⟨_, _⟩ _ _ (by first | assumption | omega) (by first | assumption | omega) (by first | assumption | omega)) rfl rfl ?_
    | refine ArgQ.is (fun hG => c_impl_DraughtsOf ⟨_, _⟩ _ _ (by simp only [forall_const, eq_self, not_true_eq_false, not_false_eq_true, or_false, false_or, or_self, or_true, true_or, and_true, true_and, and_false, false_and, decide_true, decide_false, Bool.not_true, Bool.not_false, decide_eq_true_eq, decide_eq_false_iff_not, ite_and_p, ite_or_p, Bool.decide_eq_true, Bool.and_eq_true, Bool.or_eq_true, Bool.not_eq_true', Bool.not_eq_false', Bool.and_eq_false_imp, Bool.or_eq_false_iff, bne_iff_ne, beq_iff_eq, bne_eq_false_iff_eq, beq_eq_false_iff_ne, gt_iff_lt, ge_iff_le, Int.not_lt, Int.not_le, ne_eq, Bool.true_eq_false, Bool.false_eq_true, reduceCtorEq, eta_Airway, eta_Fan, eta_Mine, bytes_nil] at hG; omega) (by simp only [forall_const, eq_self, not_true_eq_false, not_false_eq_true, or_false, false_or, or_self, or_true, true_or, and_true, true_and, and_false, false_and, decide_true, decide_false, Bool.not_true, Bool.not_false, decide_eq_true_eq, decide_eq_false_iff_not, ite_and_p, ite_or_p, Bool.decide_eq_true, Bool.and_eq_true, Bool.or_eq_true, Bool.not_eq_true', Bool.not_eq_false', Bool.and_eq_false_imp, Bool.or_eq_false_iff, bne_iff_ne, beq_iff_eq, bne_eq_false_iff_eq, beq_eq_false_iff_ne, gt_iff_lt, ge_iff_le, Int.not_lt, Int.not_le, ne_eq, Bool.true_eq_false, Bool.false_eq_true, reduceCtorEq, eta_Airway, eta_Fan, eta_Mine, bytes_nil] at hG; omega) (by simp only [forall_const, eq_self, not_true_eq_false, not_false_eq_true, or_false, false_or, or_self, or_true, true_or, and_true, true_and, and_false, false_and, decide_true, decide_false, Bool.not_true, Bool.not_false, decide_eq_true_eq, decide_eq_false_iff_not, ite_and_p, ite_or_p, Bool.decide_eq_true, Bool.and_eq_true, Bool.or_eq_true, Bool.not_eq_true', Bool.not_eq_false', Bool.and_eq_false_imp, Bool.or_eq_false_iff, bne_iff_ne, beq_iff_eq, bne_eq_false_iff_eq, beq_eq_false_iff_ne, gt_iff_lt, ge_iff_le, Int.not_lt, Int.not_le, ne_eq, Bool.true_eq_false, Bool.false_eq_true, reduceCtorEq, eta_Airway, eta_Fan, eta_Mine, bytes_nil] at hG; omega)) rfl rfl ?_
    | refine ArgF.is (c_impl_DepthsOf ⟨_, _⟩ _ (by first | assumption | omega) (by first | assumption | omega)) ?_
    | refine ArgQ.is (fun hG => c_impl_DepthsOf ⟨_, _⟩ _ (by first | assumption | omega) (by first | assumption | omega)) rfl rfl ?_
    | refine ArgQ.is (fun hG => c_impl_DepthsOf ⟨_, _⟩ _ (by simp only [forall_const, eq_self, not_true_eq_false, not_false_eq_true, or_false, false_or, or_self, or_true, true_or, and_true, true_and, and_false, false_and, decide_true, decide_false, Bool.not_true, Bool.not_false, decide_eq_true_eq, decide_eq_false_iff_not, ite_and_p, ite_or_p, Bool.decide_eq_true, Bool.and_eq_true, Bool.or_eq_true, Bool.not_eq_true', Bool.not_eq_false', Bool.and_eq_false_imp, Bool.or_eq_false_iff, bne_iff_ne, beq_iff_eq, bne_eq_false_iff_eq, beq_eq_false_iff_ne, gt_iff_lt, ge_iff_le, Int.not_lt, Int.not_le, ne_eq, Bool.true_eq_false, Bool.false_eq_true, reduceCtorEq, eta_Airway, eta_Fan, eta_Mine, bytes_nil] at hG; omega) (by simp only [forall_const, eq_self, not_true_eq_false, not_false_eq_true, or_false, false_or, or_self, or_true, true_or, and_true, true_and, and_false, false_and, decide_true, decide_false, Bool.not_true, Bool.not_false, decide_eq_true_eq, decide_eq_false_iff_not, ite_and_p, ite_or_p, Bool.decide_eq_true, Bool.and_eq_true, Bool.or_eq_true, Bool.not_eq_true', Bool.not_eq_false', Bool.and_eq_false_imp, Bool.or_eq_false_iff, bne_iff_ne, beq_iff_eq, bne_eq_false_iff_eq, beq_eq_false_iff_ne, gt_iff_lt, ge_iff_le, Int.not_lt, Int.not_le, ne_eq, Bool.true_eq_false, Bool.false_eq_true, reduceCtorEq, eta_Airway, eta_Fan, eta_Mine, bytes_nil] at hG; omega)) rfl rfl ?_
    | refine ArgF.is (c_spec_MeshesOf ⟨_, _⟩ (by first | assumption | omega)) ?_
    | refine ArgQ.is (fun hG => c_spec_MeshesOf ⟨_, _⟩ (by first | assumption | omega)) rfl rfl ?_
    | refine ArgQ.is (fun hG => c_spec_MeshesOf ⟨_, _⟩ (by simp only [forall_const, eq_self, not_true_eq_false, not_false_eq_true, or_false, false_or, or_self, or_true, true_or, and_true, true_and, and_false, false_and, decide_true, decide_false, Bool.not_true, Bool.not_false, decide_eq_true_eq, decide_eq_false_iff_not, ite_and_p, ite_or_p, Bool.decide_eq_true, Bool.and_eq_true, Bool.or_eq_true, Bool.not_eq_true', Bool.not_eq_false', Bool.and_eq_false_imp, Bool.or_eq_false_iff, bne_iff_ne, beq_iff_eq, bne_eq_false_iff_eq, beq_eq_false_iff_ne, gt_iff_lt, ge_iff_le, Int.not_lt, Int.not_le, ne_eq, Bool.true_eq_false, Bool.false_eq_true, reduceCtorEq, eta_Airway, eta_Fan, eta_Mine, bytes_nil] at hG; omega)) rfl rfl ?_
    | refine ArgF.is (c_impl_WalkDraught ⟨_, _⟩ _ _ _ (by first | assumption | omega) (by first | assumption | omega) (by first | assumption | omega) (by first | assumption | omega) (by first | assumption | omega)) ?_
    | refine ArgQ.is (fun hG => c_impl_WalkDraught ⟨_, _⟩ _ _ _ (by first | assumption | omega) (by first | assumption | omega) (by first | assumption | omega) (by first | assumption | omega) (by first | assumption | omega)) rfl rfl ?_
    | refine ArgQ.is (fun hG => c_impl_WalkDraught ⟨_, _⟩ _ _ _ (by simp only [forall_const, eq_self, not_true_eq_false, not_false_eq_true, or_false, false_or, or_self, or_true, true_or, and_true, true_and, and_false, false_and, decide_true, decide_false, Bool.not_true, Bool.not_false, decide_eq_true_eq, decide_eq_false_iff_not, ite_and_p, ite_or_p, Bool.decide_eq_true, Bool.and_eq_true, Bool.or_eq_true, Bool.not_eq_true', Bool.not_eq_false', Bool.and_eq_false_imp, Bool.or_eq_false_iff, bne_iff_ne, beq_iff_eq, bne_eq_false_iff_eq, beq_eq_false_iff_ne, gt_iff_lt, ge_iff_le, Int.not_lt, Int.not_le, ne_eq, Bool.true_eq_false, Bool.false_eq_true, reduceCtorEq, eta_Airway, eta_Fan, eta_Mine, bytes_nil] at hG; omega) (by simp only [forall_const, eq_self, not_true_eq_false, not_false_eq_true, or_false, false_or, or_self, or_true, true_or, and_true, true_and, and_false, false_and, decide_true, decide_false, Bool.not_true, Bool.not_false, decide_eq_true_eq, decide_eq_false_iff_not, ite_and_p, ite_or_p, Bool.decide_eq_true, Bool.and_eq_true, Bool.or_eq_true, Bool.not_eq_true', Bool.not_eq_false', Bool.and_eq_false_imp, Bool.or_eq_false_iff, bne_iff_ne, beq_iff_eq, bne_eq_false_iff_eq, beq_eq_false_iff_ne, gt_iff_lt, ge_iff_le, Int.not_lt, Int.not_le, ne_eq, Bool.true_eq_false, Bool.false_eq_true, reduceCtorEq, eta_Airway, eta_Fan, eta_Mine, bytes_nil] at hG; omega) (by simp only [forall_const, eq_self, not_true_eq_false, not_false_eq_true, or_false, false_or, or_self, or_true, true_or, and_true, true_and, and_false, false_and, decide_true, decide_false, Bool.not_true, Bool.not_false, decide_eq_true_eq, decide_eq_false_iff_not, ite_and_p, ite_or_p, Bool.decide_eq_true, Bool.and_eq_true, Bool.or_eq_true, Bool.not_eq_true', Bool.not_eq_false', Bool.and_eq_false_imp, Bool.or_eq_false_iff, bne_iff_ne, beq_iff_eq, bne_eq_false_iff_eq, beq_eq_false_iff_ne, gt_iff_lt, ge_iff_le, Int.not_lt, Int.not_le, ne_eq, Bool.true_eq_false, Bool.false_eq_true, reduceCtorEq, eta_Airway, eta_Fan, eta_Mine, bytes_nil] at hG; omega) (by simp only [forall_const, eq_self, not_true_eq_false, not_false_eq_true, or_false, false_or, or_self, or_true, true_or, and_true, true_and, and_false, false_and, decide_true, decide_false, Bool.not_true, Bool.not_false, decide_eq_true_eq, decide_eq_false_iff_not, ite_and_p, ite_or_p, Bool.decide_eq_true, Bool.and_eq_true, Bool.or_eq_true, Bool.not_eq_true', Bool.not_eq_false', Bool.and_eq_false_imp, Bool.or_eq_false_iff, bne_iff_ne, beq_iff_eq, bne_eq_false_iff_eq, beq_eq_false_iff_ne, gt_iff_lt, ge_iff_le, Int.not_lt, Int.not_le, ne_eq, Bool.true_eq_false, Bool.false_eq_true, reduceCtorEq, eta_Airway, eta_Fan, eta_Mine, bytes_nil] at hG; omega) (by simp only [forall_const, eq_self, not_true_eq_false, not_false_eq_true, or_false, false_or, or_self, or_true, true_or, and_true, true_and, and_false, false_and, decide_true, decide_false, Bool.not_true, Bool.not_false, decide_eq_true_eq, decide_eq_false_iff_not, ite_and_p, ite_or_p, Bool.decide_eq_true, Bool.and_eq_true, Bool.or_eq_true, Bool.not_eq_true', Bool.not_eq_false', Bool.and_eq_false_imp, Bool.or_eq_false_iff, bne_iff_ne, beq_iff_eq, bne_eq_false_iff_eq, beq_eq_false_iff_ne, gt_iff_lt, ge_iff_le, Int.not_lt, Int.not_le, ne_eq, Bool.true_eq_false, Bool.false_eq_true, reduceCtorEq, eta_Airway, eta_Fan, eta_Mine, bytes_nil] at hG; omega)) rfl rfl ?_
    | refine ArgF.is (c_laws_r8Abs _ (by first | assumption | omega)) ?_
    | refine ArgQ.is (fun hG => c_laws_r8Abs _ (by first | assumption | omega)) rfl rfl ?_
    | refine ArgQ.is (fun hG => c_laws_r8Abs _ (by simp only [forall_const, eq_self, not_true_eq_false, not_false_eq_true, or_false, false_or, or_self, or_true, true_or, and_true, true_and, and_false, false_and, decide_true, decide_false, Bool.not_true, Bool.not_false, decide_eq_true_eq, decide_eq_false_iff_not, ite_and_p, ite_or_p, Bool.decide_eq_true, Bool.and_eq_true, Bool.or_eq_true, Bool.not_eq_true', Bool.not_eq_false', Bool.and_eq_false_imp, Bool.or_eq_false_iff, bne_iff_ne, beq_iff_eq, bne_eq_false_iff_eq, beq_eq_false_iff_ne, gt_iff_lt, ge_iff_le, Int.not_lt, Int.not_le, ne_eq, Bool.true_eq_false, Bool.false_eq_true, reduceCtorEq, eta_Airway, eta_Fan, eta_Mine, bytes_nil] at hG; omega)) rfl rfl ?_
    | refine ArgF.is (c_impl_TemperatureFor _ _ (by first | assumption | omega) (by first | assumption | omega)) ?_
    | refine ArgQ.is (fun hG => c_impl_TemperatureFor _ _ (by first | assumption | omega) (by first | assumption | omega)) rfl rfl ?_
    | refine ArgQ.is (fun hG => c_impl_TemperatureFor _ _ (by simp only [forall_const, eq_self, not_true_eq_false, not_false_eq_true, or_false, false_or, or_self, or_true, true_or, and_true, true_and, and_false, false_and, decide_true, decide_false, Bool.not_true, Bool.not_false, decide_eq_true_eq, decide_eq_false_iff_not, ite_and_p, ite_or_p, Bool.decide_eq_true, Bool.and_eq_true, Bool.or_eq_true, Bool.not_eq_true', Bool.not_eq_false', Bool.and_eq_false_imp, Bool.or_eq_false_iff, bne_iff_ne, beq_iff_eq, bne_eq_false_iff_eq, beq_eq_false_iff_ne, gt_iff_lt, ge_iff_le, Int.not_lt, Int.not_le, ne_eq, Bool.true_eq_false, Bool.false_eq_true, reduceCtorEq, eta_Airway, eta_Fan, eta_Mine, bytes_nil] at hG; omega) (by simp only [forall_const, eq_self, not_true_eq_false, not_false_eq_true, or_false, false_or, or_self, or_true, true_or, and_true, true_and, and_false, false_and, decide_true, decide_false, Bool.not_true, Bool.not_false, decide_eq_true_eq, decide_eq_false_iff_not, ite_and_p, ite_or_p, Bool.decide_eq_true, Bool.and_eq_true, Bool.or_eq_true, Bool.not_eq_true', Bool.not_eq_false', Bool.and_eq_false_imp, Bool.or_eq_false_iff, bne_iff_ne, beq_iff_eq, bne_eq_false_iff_eq, beq_eq_false_iff_ne, gt_iff_lt, ge_iff_le, Int.not_lt, Int.not_le, ne_eq, Bool.true_eq_false, Bool.false_eq_true, reduceCtorEq, eta_Airway, eta_Fan, eta_Mine, bytes_nil] at hG; omega)) rfl rfl ?_
    | refine ArgF.is (c_impl_ColumnDraught ..) ?_
    | refine ArgQ.is (fun hG => c_impl_ColumnDraught ..) rfl rfl ?_
    | refine CallF.mk (CallW.is [] true rfl ?_)
    | refine CallG.mk ?_
    | (refine CondF.mk (fun hb => ?_) (fun hb => ?_) <;> try simp only [forall_const, eq_self, not_true_eq_false, not_false_eq_true, or_false, false_or, or_self, or_true, true_or, and_true, true_and, and_false, false_and, decide_true, decide_false, Bool.not_true, Bool.not_false, decide_eq_true_eq, decide_eq_false_iff_not, ite_and_p, ite_or_p, Bool.decide_eq_true, Bool.and_eq_true, Bool.or_eq_true, Bool.not_eq_true', Bool.not_eq_false', Bool.and_eq_false_imp, Bool.or_eq_false_iff, bne_iff_ne, beq_iff_eq, bne_eq_false_iff_eq, beq_eq_false_iff_ne, gt_iff_lt, ge_iff_le, Int.not_lt, Int.not_le, ne_eq, Bool.true_eq_false, Bool.false_eq_true, reduceCtorEq, eta_Airway, eta_Fan, eta_Mine] at hb)
    | apply BackF.auto4
    | apply BackF.auto3
    | apply BackF.auto2
    | refine BackB.mk ?_ ?_
    | refine RetF.auto (And.intro rfl ?_)
    | exact Is.mk rfl rfl
    | refine Is.mk ?_ rfl
    | refine Is.mk rfl ?_
    | refine Is.mk ?_ ?_
  all_goals try dsimp only
  all_goals first
    | omega
    | exact ⟨by omega, by omega, rfl, by omega, fun i hi => absurd hi (by simp)⟩
    | exact ⟨by omega, by omega, rfl, by rw [show (((((mshC { junctions := j, airways := xs }).getD i.toNat []).length : Nat) : Int) - 1 + 1).toNat = ((mshC { junctions := j, airways := xs }).getD i.toNat []).length by omega, List.drop_length]; rfl, by omega⟩
    | (refine ⟨by omega, by omega, by simp [q2], ?_, by omega⟩
       rw [q3, ← rv_s (by omega) (by omega), show q - 1 + 1 = q by omega])
    | (exfalso
       have q := d2 i3.toNat (by omega)
       have q5 := d2 (Int.toNat 0) (by omega)
       have e1 : dp.getD i3.toNat 0 + lv.getD i3.toNat 0 = M := by omega
       have e2 : dp.getD (Int.toNat 0) 0 + lv.getD (Int.toNat 0) 0 = M := by omega
       rcases hb with hb | hb
       · omega
       · exact hb (by rw [e1, e2]))
    | (exfalso
       have q := (msh_dr (lv := lv) hm (by dsimp only; omega) k4 (j := i.toNat) (by omega))
       have q5 := absI_bd q.2.2.2.1
       have hln := congrArg List.length hbk
       rw [rvW_len] at hln
       rw [hbk, q.2.2.1] at hb
       have q8 := q.2.2.2.1
       rcases hb with hb | hb
       · exact hb (by omega)
       · omega)
    | (rw [h4 (by omega)]; rfl)
    | (have q := h3 (by omega)
       have r1 := r8W_b c2 2 (n := 3000) (by omega)
       rw [colV_1 (by omega) q.1]
       by_cases e : -300 ≤ x - 1
       · rw [colV_1 (by omega) (by omega)]
         have q2 := q.2.2 (x - 1) e (by omega)
         have e1 : decide (cdI (1 + r8W c2 2 3000) x ≥ r8W c2 4 2000 - 1000) = true := decide_eq_true q.2.1
         have e2 : decide (cdI (1 + r8W c2 2 3000) (x - 1) < r8W c2 4 2000 - 1000) = true := decide_eq_true q2
         dsimp only
         rw [e1, e2]; rfl
       · have e1 : decide (cdI (1 + r8W c2 2 3000) x ≥ r8W c2 4 2000 - 1000) = true := decide_eq_true q.2.1
         dsimp only
         rw [e1, colV_2 (by omega)]; rfl)
    | exact ⟨by omega, by omega, by simp [k2], by omega, app_P (P := fun x => x = r8W c2 0 901 - 300) k4 rfl⟩
    | skip
end Go.Proofs.Ytfcnlpghdpfjkaa
