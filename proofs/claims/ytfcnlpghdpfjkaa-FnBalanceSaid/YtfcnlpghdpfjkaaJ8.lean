/- Contracts of functions of the program, and what they compute. Conditions: those that each theorem states. -/
import Derived.Test.YtfcnlpghdpfjkaaProg
import Derived.Test.YtfcnlpghdpfjkaaJ7
import Derived.Test.YtfcnlpghdpfjkaaJ1b
import Derived.Test.YtfcnlpghdpfjkaaR2
set_option linter.unusedVariables false
set_option linter.unusedSimpArgs false
namespace Go.Proofs.Ytfcnlpghdpfjkaa
open Go.Av
attribute [local irreducible] Go.IntKind.wrap leastI rdZ rd rootI rawA okMine treeC mshC dropI
set_option maxRecDepth 20000
set_option maxHeartbeats 40000000

/-! The law of balance. -/
theorem c_laws_r8Has (xs : List Int) (x : Int) : FnSem Try.prog 38 [Lx (LI xs), In x] [] (Is [Bo (decide (x ∈ xs))] []) := by
  refine FnSem.walk (zs := zeroPV Try.prog) (by kernel_rfl) Try.func38 rfl Try.results38 (by kernel_rfl) (by kernel_rfl) (by kernel_rfl) fun hw hh => ?_
  obtain ⟨w0, w1, _⟩ := hw
  first | replace w0 := wf_LI w0 | skip
  first | replace w1 := wf_I w1 | skip
  repeat' first
    | refine And.intro rfl ?_
    | refine GdF.mk (fun h => h) ?_
    | refine And.intro (Nat.succ_ne_zero _) ?_
    | refine And.intro (Nat.le_of_ble_eq_true rfl) ?_
    | refine SeqF.run ?_
    | refine LoopF.at 2 rfl (LoopF.fix [0, 1] (Int) (fun i => 0 ≤ i ∧ i ≤ xs.length ∧ ∀ j : Nat, (j : Int) < i → ¬xs.getD j 0 = x) (fun i => [(5, In i)]) (fun i => []) (fun i => ((xs.length - i).toNat)) (0) ?_)
    | (refine LoopB.of (T := Int) ?_ ?_; rotate_left; rintro i ⟨h0, h1, h2⟩; rotate_left)
    | refine GhF.go ?_
    | refine EqP.mk _ (gm eI 0 rfl) ?_
    | refine BndF.mk (fun _ => by omega) ?_
    | refine BndF.mk (fun _ => by simp only [List.length_map, List.length_cons, List.length_nil, List.length_append, List.length_set, List.length_replicate, iotaI_len]; omega) ?_
    | refine EqI.mk _ (fun _ => wrapI (by omega) (by omega)) ?_
    | refine EqI.mk _ (fun _ => rfl) ?_
    | refine EqN.mk _ (ln eI) ?_
    | refine EqN.mk _ (Nat.zero_add _) ?_
    | refine EqN.mk _ (Int.toNat_natCast _) ?_
    | refine EqN.mk _ rfl ?_
    | (refine CondF.mk (fun hb => ?_) (fun hb => ?_) <;> try simp only [forall_const, eq_self, not_true_eq_false, not_false_eq_true, or_false, false_or, or_self, or_true, true_or, and_true, true_and, and_false, false_and, decide_true, decide_false, Bool.not_true, Bool.not_false, decide_eq_true_eq, decide_eq_false_iff_not, ite_and_p, ite_or_p, Bool.decide_eq_true, Bool.and_eq_true, Bool.or_eq_true, Bool.not_eq_true', Bool.not_eq_false', Bool.and_eq_false_imp, Bool.or_eq_false_iff, bne_iff_ne, beq_iff_eq, bne_eq_false_iff_eq, beq_eq_false_iff_ne, gt_iff_lt, ge_iff_le, Int.not_lt, Int.not_le, ne_eq, Bool.true_eq_false, Bool.false_eq_true, reduceCtorEq, eta_Airway, eta_Fan, eta_Mine] at hb)
    | apply BackF.auto
    | refine BackB.mk ?_ ?_
    | refine RetF.auto (And.intro rfl ?_)
    | exact Is.mk rfl rfl
    | refine Is.mk ?_ rfl
    | refine Is.mk rfl ?_
    | refine Is.mk ?_ ?_
  all_goals try dsimp only
  all_goals try simp only [Bo, I, OB.row.injEq, AV.osl.injEq, eI_same,  List.cons.injEq, AV.p.injEq, PV.c.injEq, Value.int.injEq, Value.bool.injEq, and_true, true_and, ite_and_p, ite_or_p, Bool.decide_eq_true, eta_Airway, eta_Fan, eta_Mine]
  · exact ⟨by omega, by omega, all_0⟩
  · rw [← hb]; exact (decide_eq_true (getD_mem (by omega))).symm
  · exact ⟨by omega, by omega, all_s h0 h2 hb⟩
  · omega
  · refine (decide_eq_false fun hm => ?_).symm
    obtain ⟨j, hj, e⟩ := List.getElem_of_mem hm
    exact h2 j (by omega) (by rw [List.getD_eq_getElem?_getD, List.getElem?_eq_getElem hj]; exact e)
theorem ask_of {m : GMine} {r p fl : List Int} (hm : okMine m = true) (h : blF m fl 60000) (hr : r.length = m.airways.length ∧ ∀ k : Nat, k < r.length → 2000 ≤ r.getD k 0 ∧ r.getD k 0 ≤ 52000) (hp : p.length = m.airways.length ∧ ∀ k : Nat, k < p.length → -20 ≤ p.getD k 0 ∧ p.getD k 0 ≤ 400) : askM m r p fl :=
  ⟨hm, blF_le h (by omega), lsO_t hr.1 fun k hk => by have := hr.2 k hk; omega, lsO_t hp.1 fun k hk => by have := hp.2 k hk; omega⟩
theorem c_laws_FnBalance (c1 c2 : List Int) : FnSem Try.prog 5 [Lx (LY c1), Lx (LY c2)] [] (Is [Bo true] []) := by
  refine FnSem.walk (zs := zeroPV Try.prog) (by kernel_rfl) Try.func5 rfl Try.results5 (by kernel_rfl) (by kernel_rfl) (by kernel_rfl) fun hw hh => ?_
  obtain ⟨w0, w1, _⟩ := hw
  first | replace w0 := wf_LY w0 | skip
  first | replace w1 := wf_LY w1 | skip
  repeat' first
    | refine And.intro rfl ?_
    | refine GdF.mk (fun h => h) ?_
    | refine And.intro (Nat.succ_ne_zero _) ?_
    | refine And.intro (Nat.le_of_ble_eq_true rfl) ?_
    | refine SeqF.run ?_
    | refine GdS.tt (by rfl) ?_
    | refine GdS.ff (by rfl) ?_
    | refine OpH.heap ?_
    | refine GhF.held 36 rfl [(8, [0, 1, 2, 3, 4])] ?_
    | refine EqL.mk _ (tk GAirway.cells rfl) ?_
    | (refine ArgF.ret (r8Mine c1) ?_; rintro ⟨j, n0, xs⟩ ⟨v1, v2, v3, v4, hm⟩; dsimp only at v1 v2 v3 v4 hm; subst v3)
    | refine ArgF.is (c_spec_MeshesOf ⟨j, xs⟩ hm) ?_
    | refine ArgQ.is (fun hG => c_spec_MeshesOf ⟨j, xs⟩ hm) rfl rfl ?_
    | refine LoopF.at 7 rfl (LoopF.fix [0, 1, 5, 6] (Int × Nat × List Int) (fun (k, n, am) => 0 ≤ k ∧ k ≤ (mshC ⟨j, xs⟩).length ∧ n = am.length ∧ (n : Int) = k ∧ ∀ i : Nat, (i : Int) < am.length → -2500 ≤ am.getD i 0 ∧ am.getD i 0 ≤ 2500) (fun (k, n, am) => [(9, In k), (8, .osl 2 0 n)]) (fun (k, n, am) => [(2, .row true .flat (eI 0) (am.map eI))]) (fun (k, n, am) => (((mshC ⟨j, xs⟩).length - k).toNat)) ((0, 0, [])) ?_)
    | (refine LoopB.of (T := Int × Nat × List Int) ?_ ?_; rotate_left; rintro ⟨k, n, am⟩ ⟨k0, k1, k2, k3, k4⟩; rotate_left)
    | refine ArgF.is (c_laws_r8Wide c2 (2 * k) 4000 (by have := mshC_len hm; omega) (by omega)) ?_
    | refine ArgQ.is (fun hG => c_laws_r8Wide c2 (2 * k) 4000 (by have := mshC_len hm; omega) (by omega)) rfl rfl ?_
    | (refine ArgF.ret (flowsOf ⟨j, xs⟩ am hm (by omega) k4) ?_; intro fl hfl)
    | refine BndF.mk (fun _ => by have := hfl.ln; simp only [List.length_map]; dsimp only at this; omega) ?_
    | refine EqL.mk _ (tkT (take_all hfl.ln.symm)) ?_
    | refine EqI.mk _ (fun _ => by have := mshC_len hm; exact wrapI (by omega) (by omega)) ?_
    | refine BndF.mk (fun _ => by have := mshC_len hm; omega) ?_
    | refine ArgF.is (isBalT ⟨j, xs⟩ fl hm (blF_le hfl (by omega))) ?_
    | refine ArgQ.is (fun hG => isBalT ⟨j, xs⟩ fl hm (blF_le hfl (by omega))) rfl rfl ?_
    | (refine ArgF.ret (c_spec_R8Flows c2 ⟨j, xs⟩ hm) ?_; intro ow how)
    | refine BndF.mk (fun _ => by have := how.ln; simp only [List.length_map]; dsimp only at this; omega) ?_
    | refine EqL.mk _ (tkT (take_all how.ln.symm)) ?_
    | refine EqI.mk _ (fun _ => by have q := r8W_b c2 (2 * k) (n := 4000) (by omega); exact wrapI (by omega) (by omega)) ?_
    | refine LoopF.at 16 rfl (LoopF.fix [0, 1, 5, 6, 12] (Int × Int) (fun (i, s) => 0 ≤ i ∧ i ≤ j ∧ s = 0) (fun (i, s) => [(14, In i), (13, In s)]) (fun (i, s) => []) (fun (i, s) => ((j - i).toNat)) ((0, 0)) ?_)
    | (refine LoopB.of (T := Int × Int) ?_ ?_; rotate_left; rintro ⟨i, s⟩ ⟨i0, i1, i2⟩; rotate_left)
    | refine ArgF.is (c_impl_ImbalanceAt ⟨j, xs⟩ ow i hm (blF_le how (by omega)) ⟨i0, by assumption⟩) ?_
    | refine ArgQ.is (fun hG => c_impl_ImbalanceAt ⟨j, xs⟩ ow i hm (blF_le how (by omega)) ⟨i0, by assumption⟩) rfl rfl ?_
    | (refine ArgF.ret (c_spec_R8Resistances c2 ⟨j, xs⟩ hm) ?_; intro r hr)
    | (refine ArgF.ret (c_spec_R8Draught c1 ⟨j, xs⟩ hm) ?_; intro p hp)
    | refine BndF.mk (fun _ => by have := hr.1; simp only [List.length_map]; dsimp only at this; omega) ?_
    | refine EqL.mk _ (tkT (take_all hr.1.symm)) ?_
    | refine BndF.mk (fun _ => by have := hp.1; simp only [List.length_map]; dsimp only at this; omega) ?_
    | refine EqL.mk _ (tkT (take_all hp.1.symm)) ?_
    | (refine ArgF.ret (c_impl_MeshErrors ⟨j, xs⟩ r p ow (ask_of hm how hr hp)) ?_; rintro ⟨ne, es⟩ ⟨e1, e2⟩; dsimp only at e1 e2)
    | (refine ArgF.ret (c_impl_LossPower ⟨j, xs⟩ r p ow (ask_of hm how hr hp)) ?_; intro pw hpw)
    | (refine ArgF.ret (c_impl_StillAirways ⟨j, xs⟩ ow 1 hm (blF_le how (by omega)) (by omega)) ?_; rintro ⟨ns, st⟩ ⟨s1, s2, s3⟩; dsimp only at s1 s2 s3)
    | refine EqL.mk _ (tkT (take_all s1)) ?_
    | refine LoopF.at 30 rfl (LoopF.fix [1, 5, 6, 12, 17, 18, 23] (Int × Unit) (fun (i, _) => 0 ≤ i ∧ i ≤ ow.length) (fun (i, _) => [(25, In i)]) (fun (i, _) => []) (fun (i, _) => ((ow.length - i).toNat)) ((0, ())) ?_)
    | (refine LoopB.of (T := Int × Unit) ?_ ?_; rotate_left; rintro ⟨i, _⟩ ⟨l0, l1⟩; rotate_left)
    | (refine ArgF.mk _ (c_impl_CorrectMesh ⟨j, xs⟩ r p ow (r8A c2 20 (mshC ⟨j, xs⟩).length) (ask_of hm how hr hp) (by have q := r8A_b c2 20 (n := (mshC ⟨j, xs⟩).length) (by omega); omega)) (fun rs ho hR _ => ?_); rcases hR with ⟨rfl, rfl⟩ | ⟨nx, rfl, rfl, hnx⟩)
    | refine ArgF.is (isBalT ⟨j, xs⟩ nx hm hnx) ?_
    | refine ArgQ.is (fun hG => isBalT ⟨j, xs⟩ nx hm hnx) rfl rfl ?_
    | refine BndF.mk (fun _ => by have := hnx.ln; simp only [List.length_map]; dsimp only at this; omega) ?_
    | refine EqL.mk _ (tkT (take_all hnx.ln.symm)) ?_
    | refine HdF.at 13 rfl 0 [8, 9, 10, 11, 12, 13] (And.intro (by decide +kernel) (And.intro rfl ?_))
    | refine HdF.at 12 rfl 1 [] (And.intro (by decide +kernel) (And.intro rfl ?_))
    | refine HdF.at 11 rfl 2 [] (And.intro (by decide +kernel) (And.intro rfl ?_))
    | refine HdF.at 10 rfl 3 [] (And.intro (by decide +kernel) (And.intro rfl ?_))
    | refine HdF.at 9 rfl 4 [] (And.intro (by decide +kernel) (And.intro rfl ?_))
    | refine HdF.at 8 rfl 5 [] (And.intro (by decide +kernel) (And.intro rfl ?_))
    | refine HdF.at 7 rfl 6 [] (And.intro (by decide +kernel) (And.intro rfl ?_))
    | refine HdF.goAt 6 rfl ?_
    | refine OrdL.ord ?_
    | refine OrdF.take 9 (by decide +kernel) (And.intro rfl ?_)
    | refine OrdF.take 10 (by decide +kernel) (And.intro rfl ?_)
    | refine OrdF.take 11 (by decide +kernel) (And.intro rfl ?_)
    | refine OrdF.take 12 (by decide +kernel) (And.intro rfl ?_)
    | refine OrdF.take 13 (by decide +kernel) (And.intro rfl ?_)
    | refine OrdF.all [8] (by decide +kernel) ?_
    | refine OrdF.all [7] (by decide +kernel) ?_
    | refine OrdF.fin (by decide +kernel) ?_
    | refine AllF.one _ ?_
    | refine AllF.cons _ _ ?_ ?_
    | refine OpH.quiet rfl ?_
    | refine OpH.heap ?_
    | refine GhF.go ?_
    | refine GdS.keep ?_
    | refine DrawG.old (DrawF.lex (by decide +kernel) ?_)
    | refine MkF.row ?_
    | refine EqP.mk _ (gm eI 0 rfl) ?_
    | refine EqP.mk _ (gm eY 0 rfl) ?_
    | refine EqP.mk _ (gmb eLI [] (by omega)) ?_
    | refine BndF.mk (fun _ => by omega) ?_
    | refine BndF.mk (fun _ => by simp only [List.length_map, List.length_cons, List.length_nil, List.length_append, List.length_set, List.length_replicate, iotaI_len]; omega) ?_
    | refine BndF.mk (fun hG => by simp only [forall_const, eq_self, not_true_eq_false, not_false_eq_true, or_false, false_or, or_self, or_true, true_or, and_true, true_and, and_false, false_and, decide_true, decide_false, Bool.not_true, Bool.not_false, decide_eq_true_eq, decide_eq_false_iff_not, ite_and_p, ite_or_p, Bool.decide_eq_true, Bool.and_eq_true, Bool.or_eq_true, Bool.not_eq_true', Bool.not_eq_false', Bool.and_eq_false_imp, Bool.or_eq_false_iff, bne_iff_ne, beq_iff_eq, bne_eq_false_iff_eq, beq_eq_false_iff_ne, gt_iff_lt, ge_iff_le, Int.not_lt, Int.not_le, ne_eq, Bool.true_eq_false, Bool.false_eq_true, reduceCtorEq, eta_Airway, eta_Fan, eta_Mine, bytes_nil] at hG; (try simp only [List.length_map]); omega) ?_
    | refine EqI.mk _ (fun _ => wrapI (by omega) (by omega)) ?_
    | refine EqI.mk _ (fun _ => rfl) ?_
    | refine FlF.keep ?_
    | refine EqN.mk _ (ln eI) ?_
    | refine EqN.mk _ (ln eY) ?_
    | refine EqN.mk _ (ln eLI) ?_
    | refine EqN.mk _ (Nat.zero_add _) ?_
    | refine EqN.mk (_ + 1) rfl ?_
    | refine EqN.mk _ (Int.toNat_natCast _) ?_
    | refine EqN.mk _ rfl ?_
    | refine EqL.mk _ (sn0 eI) ?_
    | refine EqL.mk _ (sn eI (by first | rfl | assumption | omega | (simp only [List.length_map, List.length_cons, List.length_nil, List.length_append, List.length_set, List.length_replicate, iotaI_len]; done) | (simp only [List.length_map, List.length_cons, List.length_nil, List.length_append, List.length_set, List.length_replicate, iotaI_len]; omega))) ?_
    | refine EqL.mk _ (ap0 eI) ?_
    | refine EqL.mk _ (ap eI (by first | rfl | assumption | omega | (simp only [List.length_map, List.length_cons, List.length_nil, List.length_append, List.length_set, List.length_replicate, iotaI_len]; done) | (simp only [List.length_map, List.length_cons, List.length_nil, List.length_append, List.length_set, List.length_replicate, iotaI_len]; omega))) ?_
    | refine EqL.mk _ (tk eI (by first | rfl | assumption | omega | (simp only [List.length_map, List.length_cons, List.length_nil, List.length_append, List.length_set, List.length_replicate, iotaI_len]; done) | (simp only [List.length_map, List.length_cons, List.length_nil, List.length_append, List.length_set, List.length_replicate, iotaI_len]; omega))) ?_
    | refine EqL.mk _ (st eI) ?_
    | refine EqL.mk _ (sn0 eY) ?_
    | refine EqL.mk _ (sn eY (by first | rfl | assumption | omega | (simp only [List.length_map, List.length_cons, List.length_nil, List.length_append, List.length_set, List.length_replicate, iotaI_len]; done) | (simp only [List.length_map, List.length_cons, List.length_nil, List.length_append, List.length_set, List.length_replicate, iotaI_len]; omega))) ?_
    | refine EqL.mk _ (ap0 eY) ?_
    | refine EqL.mk _ (ap eY (by first | rfl | assumption | omega | (simp only [List.length_map, List.length_cons, List.length_nil, List.length_append, List.length_set, List.length_replicate, iotaI_len]; done) | (simp only [List.length_map, List.length_cons, List.length_nil, List.length_append, List.length_set, List.length_replicate, iotaI_len]; omega))) ?_
    | refine EqL.mk _ (tk eY (by first | rfl | assumption | omega | (simp only [List.length_map, List.length_cons, List.length_nil, List.length_append, List.length_set, List.length_replicate, iotaI_len]; done) | (simp only [List.length_map, List.length_cons, List.length_nil, List.length_append, List.length_set, List.length_replicate, iotaI_len]; omega))) ?_
    | refine EqL.mk _ (st eY) ?_
    | refine EqL.mk _ (sn0 eLI) ?_
    | refine EqL.mk _ (sn eLI (by first | rfl | assumption | omega | (simp only [List.length_map, List.length_cons, List.length_nil, List.length_append, List.length_set, List.length_replicate, iotaI_len]; done) | (simp only [List.length_map, List.length_cons, List.length_nil, List.length_append, List.length_set, List.length_replicate, iotaI_len]; omega))) ?_
    | refine EqL.mk _ (ap0 eLI) ?_
    | refine EqL.mk _ (ap eLI (by first | rfl | assumption | omega | (simp only [List.length_map, List.length_cons, List.length_nil, List.length_append, List.length_set, List.length_replicate, iotaI_len]; done) | (simp only [List.length_map, List.length_cons, List.length_nil, List.length_append, List.length_set, List.length_replicate, iotaI_len]; omega))) ?_
    | refine EqL.mk _ (tk eLI (by first | rfl | assumption | omega | (simp only [List.length_map, List.length_cons, List.length_nil, List.length_append, List.length_set, List.length_replicate, iotaI_len]; done) | (simp only [List.length_map, List.length_cons, List.length_nil, List.length_append, List.length_set, List.length_replicate, iotaI_len]; omega))) ?_
    | refine EqL.mk _ (st eLI) ?_
    | refine EqL.mk [] rfl ?_
    | refine EqL.mk [_] rfl ?_
    | refine EqL.mk _ rfl ?_
    | refine ArgF.is (c_laws_r8Long ..) ?_
    | refine ArgQ.is (fun hG => c_laws_r8Long ..) rfl rfl ?_
    | refine ArgF.is (c_spec_R8Mine ..) ?_
    | refine ArgQ.is (fun hG => c_spec_R8Mine ..) rfl rfl ?_
    | refine ArgF.is (c_spec_MeshesOf ⟨_, _⟩ (by first | assumption | omega)) ?_
    | refine ArgQ.is (fun hG => c_spec_MeshesOf ⟨_, _⟩ (by first | assumption | omega)) rfl rfl ?_
    | refine ArgQ.is (fun hG => c_spec_MeshesOf ⟨_, _⟩ (by simp only [forall_const, eq_self, not_true_eq_false, not_false_eq_true, or_false, false_or, or_self, or_true, true_or, and_true, true_and, and_false, false_and, decide_true, decide_false, Bool.not_true, Bool.not_false, decide_eq_true_eq, decide_eq_false_iff_not, ite_and_p, ite_or_p, Bool.decide_eq_true, Bool.and_eq_true, Bool.or_eq_true, Bool.not_eq_true', Bool.not_eq_false', Bool.and_eq_false_imp, Bool.or_eq_false_iff, bne_iff_ne, beq_iff_eq, bne_eq_false_iff_eq, beq_eq_false_iff_ne, gt_iff_lt, ge_iff_le, Int.not_lt, Int.not_le, ne_eq, Bool.true_eq_false, Bool.false_eq_true, reduceCtorEq, eta_Airway, eta_Fan, eta_Mine, bytes_nil] at hG; omega)) rfl rfl ?_
    | refine ArgF.is (c_laws_r8Wide _ _ _ (by first | assumption | omega) (by first | assumption | omega)) ?_
    | refine ArgQ.is (fun hG => c_laws_r8Wide _ _ _ (by first | assumption | omega) (by first | assumption | omega)) rfl rfl ?_
    | refine ArgQ.is (fun hG => c_laws_r8Wide _ _ _ (by simp only [forall_const, eq_self, not_true_eq_false, not_false_eq_true, or_false, false_or, or_self, or_true, true_or, and_true, true_and, and_false, false_and, decide_true, decide_false, Bool.not_true, Bool.not_false, decide_eq_true_eq, decide_eq_false_iff_not, ite_and_p, ite_or_p, Bool.decide_eq_true, Bool.and_eq_true, Bool.or_eq_true, Bool.not_eq_true', Bool.not_eq_false', Bool.and_eq_false_imp, Bool.or_eq_false_iff, bne_iff_ne, beq_iff_eq, bne_eq_false_iff_eq, beq_eq_false_iff_ne, gt_iff_lt, ge_iff_le, Int.not_lt, Int.not_le, ne_eq, Bool.true_eq_false, Bool.false_eq_true, reduceCtorEq, eta_Airway, eta_Fan, eta_Mine, bytes_nil] at hG; omega) (by simp only [forall_const, eq_self, not_true_eq_false, not_false_eq_true, or_false, false_or, or_self, or_true, true_or, and_true, true_and, and_false, false_and, decide_true, decide_false, Bool.not_true, Bool.not_false, decide_eq_true_eq, decide_eq_false_iff_not, ite_and_p, ite_or_p, Bool.decide_eq_true, Bool.and_eq_true, Bool.or_eq_true, Bool.not_eq_true', Bool.not_eq_false', Bool.and_eq_false_imp, Bool.or_eq_false_iff, bne_iff_ne, beq_iff_eq, bne_eq_false_iff_eq, beq_eq_false_iff_ne, gt_iff_lt, ge_iff_le, Int.not_lt, Int.not_le, ne_eq, Bool.true_eq_false, Bool.false_eq_true, reduceCtorEq, eta_Airway, eta_Fan, eta_Mine, bytes_nil] at hG; omega)) rfl rfl ?_
    | refine ArgF.is (c_impl_FlowsOfMeshes ..) ?_
    | refine ArgQ.is (fun hG => c_impl_FlowsOfMeshes ..) rfl rfl ?_
    | refine ArgF.is (c_impl_IsBalanced ..) ?_
    | refine ArgQ.is (fun hG => c_impl_IsBalanced ..) rfl rfl ?_
    | refine ArgF.is (c_spec_R8Flows _ ⟨_, _⟩ (by first | assumption | omega)) ?_
    | refine ArgQ.is (fun hG => c_spec_R8Flows _ ⟨_, _⟩ (by first | assumption | omega)) rfl rfl ?_
    | refine ArgQ.is (fun hG => c_spec_R8Flows _ ⟨_, _⟩ (by simp only [forall_const, eq_self, not_true_eq_false, not_false_eq_true, or_false, false_or, or_self, or_true, true_or, and_true, true_and, and_false, false_and, decide_true, decide_false, Bool.not_true, Bool.not_false, decide_eq_true_eq, decide_eq_false_iff_not, ite_and_p, ite_or_p, Bool.decide_eq_true, Bool.and_eq_true, Bool.or_eq_true, Bool.not_eq_true', Bool.not_eq_false', Bool.and_eq_false_imp, Bool.or_eq_false_iff, bne_iff_ne, beq_iff_eq, bne_eq_false_iff_eq, beq_eq_false_iff_ne, gt_iff_lt, ge_iff_le, Int.not_lt, Int.not_le, ne_eq, Bool.true_eq_false, Bool.false_eq_true, reduceCtorEq, eta_Airway, eta_Fan, eta_Mine, bytes_nil] at hG; omega)) rfl rfl ?_
    | refine ArgF.is (c_impl_ImbalanceAt ⟨_, _⟩ _ _ (by first | assumption | omega) (by first | assumption | omega) (by first | assumption | omega)) ?_
    | refine ArgQ.is (fun hG => c_impl_ImbalanceAt ⟨_, _⟩ _ _ (by first | assumption | omega) (by first | assumption | omega) (by first | assumption | omega)) rfl rfl ?_
    | refine ArgQ.is (fun hG => c_impl_ImbalanceAt ⟨_, _⟩ _ _ (by simp only [forall_const, eq_self, not_true_eq_false, not_false_eq_true, or_false, false_or, or_self, or_true, true_or, and_true, true_and, and_false, false_and, decide_true, decide_false, Bool.not_true, Bool.not_false, decide_eq_true_eq, decide_eq_false_iff_not, ite_and_p, ite_or_p, Bool.decide_eq_true, Bool.and_eq_true, Bool.or_eq_true, Bool.not_eq_true', Bool.not_eq_false', Bool.and_eq_false_imp, Bool.or_eq_false_iff, bne_iff_ne, beq_iff_eq, bne_eq_false_iff_eq, beq_eq_false_iff_ne, gt_iff_lt, ge_iff_le, Int.not_lt, Int.not_le, ne_eq, Bool.true_eq_false, Bool.false_eq_true, reduceCtorEq, eta_Airway, eta_Fan, eta_Mine, bytes_nil] at hG; omega) (by simp only [forall_const, eq_self, not_true_eq_false, not_false_eq_true, or_false, false_or, or_self, or_true, true_or, and_true, true_and, and_false, false_and, decide_true, decide_false, Bool.not_true, Bool.not_false, decide_eq_true_eq, decide_eq_false_iff_not, ite_and_p, ite_or_p, Bool.decide_eq_true, Bool.and_eq_true, Bool.or_eq_true, Bool.not_eq_true', Bool.not_eq_false', Bool.and_eq_false_imp, Bool.or_eq_false_iff, bne_iff_ne, beq_iff_eq, bne_eq_false_iff_eq, beq_eq_false_iff_ne, gt_iff_lt, ge_iff_le, Int.not_lt, Int.not_le, ne_eq, Bool.true_eq_false, Bool.false_eq_true, reduceCtorEq, eta_Airway, eta_Fan, eta_Mine, bytes_nil] at hG; omega) (by simp only [forall_const, eq_self, not_true_eq_false, not_false_eq_true, or_false, false_or, or_self, or_true, true_or, and_true, true_and, and_false, false_and, decide_true, decide_false, Bool.not_true, Bool.not_false, decide_eq_true_eq, decide_eq_false_iff_not, ite_and_p, ite_or_p, Bool.decide_eq_true, Bool.and_eq_true, Bool.or_eq_true, Bool.not_eq_true', Bool.not_eq_false', Bool.and_eq_false_imp, Bool.or_eq_false_iff, bne_iff_ne, beq_iff_eq, bne_eq_false_iff_eq, beq_eq_false_iff_ne, gt_iff_lt, ge_iff_le, Int.not_lt, Int.not_le, ne_eq, Bool.true_eq_false, Bool.false_eq_true, reduceCtorEq, eta_Airway, eta_Fan, eta_Mine, bytes_nil] at hG; omega)) rfl rfl ?_
    | refine ArgF.is (c_spec_R8Resistances _ ⟨_, _⟩ (by first | assumption | omega)) ?_
    | refine ArgQ.is (fun hG => c_spec_R8Resistances _ ⟨_, _⟩ (by first | assumption | omega)) rfl rfl ?_
    | refine ArgQ.is (fun hG => c_spec_R8Resistances _ ⟨_, _⟩ (by simp only [forall_const, eq_self, not_true_eq_false, not_false_eq_true, or_false, false_or, or_self, or_true, true_or, and_true, true_and, and_false, false_and, decide_true, decide_false, Bool.not_true, Bool.not_false, decide_eq_true_eq, decide_eq_false_iff_not, ite_and_p, ite_or_p, Bool.decide_eq_true, Bool.and_eq_true, Bool.or_eq_true, Bool.not_eq_true', Bool.not_eq_false', Bool.and_eq_false_imp, Bool.or_eq_false_iff, bne_iff_ne, beq_iff_eq, bne_eq_false_iff_eq, beq_eq_false_iff_ne, gt_iff_lt, ge_iff_le, Int.not_lt, Int.not_le, ne_eq, Bool.true_eq_false, Bool.false_eq_true, reduceCtorEq, eta_Airway, eta_Fan, eta_Mine, bytes_nil] at hG; omega)) rfl rfl ?_
    | refine ArgF.is (c_spec_R8Draught _ ⟨_, _⟩ (by first | assumption | omega)) ?_
    | refine ArgQ.is (fun hG => c_spec_R8Draught _ ⟨_, _⟩ (by first | assumption | omega)) rfl rfl ?_
    | refine ArgQ.is (fun hG => c_spec_R8Draught _ ⟨_, _⟩ (by simp only [forall_const, eq_self, not_true_eq_false, not_false_eq_true, or_false, false_or, or_self, or_true, true_or, and_true, true_and, and_false, false_and, decide_true, decide_false, Bool.not_true, Bool.not_false, decide_eq_true_eq, decide_eq_false_iff_not, ite_and_p, ite_or_p, Bool.decide_eq_true, Bool.and_eq_true, Bool.or_eq_true, Bool.not_eq_true', Bool.not_eq_false', Bool.and_eq_false_imp, Bool.or_eq_false_iff, bne_iff_ne, beq_iff_eq, bne_eq_false_iff_eq, beq_eq_false_iff_ne, gt_iff_lt, ge_iff_le, Int.not_lt, Int.not_le, ne_eq, Bool.true_eq_false, Bool.false_eq_true, reduceCtorEq, eta_Airway, eta_Fan, eta_Mine, bytes_nil] at hG; omega)) rfl rfl ?_
    | refine ArgF.is (c_impl_MeshErrors ⟨_, _⟩ _ _ _ (by first | assumption | omega)) ?_
    | refine ArgQ.is (fun hG => c_impl_MeshErrors ⟨_, _⟩ _ _ _ (by first | assumption | omega)) rfl rfl ?_
    | refine ArgQ.is (fun hG => c_impl_MeshErrors ⟨_, _⟩ _ _ _ (by simp only [forall_const, eq_self, not_true_eq_false, not_false_eq_true, or_false, false_or, or_self, or_true, true_or, and_true, true_and, and_false, false_and, decide_true, decide_false, Bool.not_true, Bool.not_false, decide_eq_true_eq, decide_eq_false_iff_not, ite_and_p, ite_or_p, Bool.decide_eq_true, Bool.and_eq_true, Bool.or_eq_true, Bool.not_eq_true', Bool.not_eq_false', Bool.and_eq_false_imp, Bool.or_eq_false_iff, bne_iff_ne, beq_iff_eq, bne_eq_false_iff_eq, beq_eq_false_iff_ne, gt_iff_lt, ge_iff_le, Int.not_lt, Int.not_le, ne_eq, Bool.true_eq_false, Bool.false_eq_true, reduceCtorEq, eta_Airway, eta_Fan, eta_Mine, bytes_nil] at hG; omega)) rfl rfl ?_
    | refine ArgF.is (c_impl_LossPower ⟨_, _⟩ _ _ _ (by first | assumption | omega)) ?_
    | refine ArgQ.is (fun hG => c_impl_LossPower ⟨_, _⟩ _ _ _ (by first | assumption | omega)) rfl rfl ?_
    | refine ArgQ.is (fun hG => c_impl_LossPower ⟨_, _⟩ _ _ _ (by simp only [forall_const, eq_self, not_true_eq_false, not_false_eq_true, or_false, false_or, or_self, or_true, true_or, and_true, true_and, and_false, false_and, decide_true, decide_false, Bool.not_true, Bool.not_false, decide_eq_true_eq, decide_eq_false_iff_not, ite_and_p, ite_or_p, Bool.decide_eq_true, Bool.and_eq_true, Bool.or_eq_true, Bool.not_eq_true', Bool.not_eq_false', Bool.and_eq_false_imp, Bool.or_eq_false_iff, bne_iff_ne, beq_iff_eq, bne_eq_false_iff_eq, beq_eq_false_iff_ne, gt_iff_lt, ge_iff_le, Int.not_lt, Int.not_le, ne_eq, Bool.true_eq_false, Bool.false_eq_true, reduceCtorEq, eta_Airway, eta_Fan, eta_Mine, bytes_nil] at hG; omega)) rfl rfl ?_
    | refine ArgF.is (c_impl_StillAirways ⟨_, _⟩ _ _ (by first | assumption | omega) (by first | assumption | omega) (by first | assumption | omega)) ?_
    | refine ArgQ.is (fun hG => c_impl_StillAirways ⟨_, _⟩ _ _ (by first | assumption | omega) (by first | assumption | omega) (by first | assumption | omega)) rfl rfl ?_
    | refine ArgQ.is (fun hG => c_impl_StillAirways ⟨_, _⟩ _ _ (by simp only [forall_const, eq_self, not_true_eq_false, not_false_eq_true, or_false, false_or, or_self, or_true, true_or, and_true, true_and, and_false, false_and, decide_true, decide_false, Bool.not_true, Bool.not_false, decide_eq_true_eq, decide_eq_false_iff_not, ite_and_p, ite_or_p, Bool.decide_eq_true, Bool.and_eq_true, Bool.or_eq_true, Bool.not_eq_true', Bool.not_eq_false', Bool.and_eq_false_imp, Bool.or_eq_false_iff, bne_iff_ne, beq_iff_eq, bne_eq_false_iff_eq, beq_eq_false_iff_ne, gt_iff_lt, ge_iff_le, Int.not_lt, Int.not_le, ne_eq, Bool.true_eq_false, Bool.false_eq_true, reduceCtorEq, eta_Airway, eta_Fan, eta_Mine, bytes_nil] at hG; omega) (by simp only [forall_const, eq_self, not_true_eq_false, not_false_eq_true, or_false, false_or, or_self, or_true, true_or, and_true, true_and, and_false, false_and, decide_true, decide_false, Bool.not_true, Bool.not_false, decide_eq_true_eq, decide_eq_false_iff_not, ite_and_p, ite_or_p, Bool.decide_eq_true, Bool.and_eq_true, Bool.or_eq_true, Bool.not_eq_true', Bool.not_eq_false', Bool.and_eq_false_imp, Bool.or_eq_false_iff, bne_iff_ne, beq_iff_eq, bne_eq_false_iff_eq, beq_eq_false_iff_ne, gt_iff_lt, ge_iff_le, Int.not_lt, Int.not_le, ne_eq, Bool.true_eq_false, Bool.false_eq_true, reduceCtorEq, eta_Airway, eta_Fan, eta_Mine, bytes_nil] at hG; omega) (by simp only [forall_const, eq_self, not_true_eq_false, not_false_eq_true, or_false, false_or, or_self, or_true, true_or, and_true, true_and, and_false, false_and, decide_true, decide_false, Bool.not_true, Bool.not_false, decide_eq_true_eq, decide_eq_false_iff_not, ite_and_p, ite_or_p, Bool.decide_eq_true, Bool.and_eq_true, Bool.or_eq_true, Bool.not_eq_true', Bool.not_eq_false', Bool.and_eq_false_imp, Bool.or_eq_false_iff, bne_iff_ne, beq_iff_eq, bne_eq_false_iff_eq, beq_eq_false_iff_ne, gt_iff_lt, ge_iff_le, Int.not_lt, Int.not_le, ne_eq, Bool.true_eq_false, Bool.false_eq_true, reduceCtorEq, eta_Airway, eta_Fan, eta_Mine, bytes_nil] at hG; omega)) rfl rfl ?_
    | refine ArgF.is (c_laws_r8Has ..) ?_
    | refine ArgQ.is (fun hG => c_laws_r8Has ..) rfl rfl ?_
    | refine ArgF.is (c_laws_r8At _ _ _ (by first | assumption | omega)) ?_
    | refine ArgQ.is (fun hG => c_laws_r8At _ _ _ (by first | assumption | omega)) rfl rfl ?_
    | refine ArgQ.is (fun hG => c_laws_r8At _ _ _ (by simp only [forall_const, eq_self, not_true_eq_false, not_false_eq_true, or_false, false_or, or_self, or_true, true_or, and_true, true_and, and_false, false_and, decide_true, decide_false, Bool.not_true, Bool.not_false, decide_eq_true_eq, decide_eq_false_iff_not, ite_and_p, ite_or_p, Bool.decide_eq_true, Bool.and_eq_true, Bool.or_eq_true, Bool.not_eq_true', Bool.not_eq_false', Bool.and_eq_false_imp, Bool.or_eq_false_iff, bne_iff_ne, beq_iff_eq, bne_eq_false_iff_eq, beq_eq_false_iff_ne, gt_iff_lt, ge_iff_le, Int.not_lt, Int.not_le, ne_eq, Bool.true_eq_false, Bool.false_eq_true, reduceCtorEq, eta_Airway, eta_Fan, eta_Mine, bytes_nil] at hG; omega)) rfl rfl ?_
    | refine ArgF.is (c_impl_CorrectMesh ⟨_, _⟩ _ _ _ _ (by first | assumption | omega) (by first | assumption | omega)) ?_
    | refine ArgQ.is (fun hG => c_impl_CorrectMesh ⟨_, _⟩ _ _ _ _ (by first | assumption | omega) (by first | assumption | omega)) rfl rfl ?_
    | refine ArgQ.is (fun hG => c_impl_CorrectMesh ⟨_, _⟩ _ _ _ _ (by simp only [forall_const, eq_self, not_true_eq_false, not_false_eq_true, or_false, false_or, or_self, or_true, true_or, and_true, true_and, and_false, false_and, decide_true, decide_false, Bool.not_true, Bool.not_false, decide_eq_true_eq, decide_eq_false_iff_not, ite_and_p, ite_or_p, Bool.decide_eq_true, Bool.and_eq_true, Bool.or_eq_true, Bool.not_eq_true', Bool.not_eq_false', Bool.and_eq_false_imp, Bool.or_eq_false_iff, bne_iff_ne, beq_iff_eq, bne_eq_false_iff_eq, beq_eq_false_iff_ne, gt_iff_lt, ge_iff_le, Int.not_lt, Int.not_le, ne_eq, Bool.true_eq_false, Bool.false_eq_true, reduceCtorEq, eta_Airway, eta_Fan, eta_Mine, bytes_nil] at hG; omega) (by simp only [forall_const, eq_self, not_true_eq_false, not_false_eq_true, or_false, false_or, or_self, or_true, true_or, and_true, true_and, and_false, false_and, decide_true, decide_false, Bool.not_true, Bool.not_false, decide_eq_true_eq, decide_eq_false_iff_not, ite_and_p, ite_or_p, Bool.decide_eq_true, Bool.and_eq_true, Bool.or_eq_true, Bool.not_eq_true', Bool.not_eq_false', Bool.and_eq_false_imp, Bool.or_eq_false_iff, bne_iff_ne, beq_iff_eq, bne_eq_false_iff_eq, beq_eq_false_iff_ne, gt_iff_lt, ge_iff_le, Int.not_lt, Int.not_le, ne_eq, Bool.true_eq_false, Bool.false_eq_true, reduceCtorEq, eta_Airway, eta_Fan, eta_Mine, bytes_nil] at hG; omega)) rfl rfl ?_
    | refine CallF.mk (CallW.is [] true rfl ?_)
    | refine CallG.mk ?_
    | (refine CondF.mk (fun hb => ?_) (fun hb => ?_) <;> try simp only [forall_const, eq_self, not_true_eq_false, not_false_eq_true, or_false, false_or, or_self, or_true, true_or, and_true, true_and, and_false, false_and, decide_true, decide_false, Bool.not_true, Bool.not_false, decide_eq_true_eq, decide_eq_false_iff_not, ite_and_p, ite_or_p, Bool.decide_eq_true, Bool.and_eq_true, Bool.or_eq_true, Bool.not_eq_true', Bool.not_eq_false', Bool.and_eq_false_imp, Bool.or_eq_false_iff, bne_iff_ne, beq_iff_eq, bne_eq_false_iff_eq, beq_eq_false_iff_ne, gt_iff_lt, ge_iff_le, Int.not_lt, Int.not_le, ne_eq, Bool.true_eq_false, Bool.false_eq_true, reduceCtorEq, eta_Airway, eta_Fan, eta_Mine] at hb)
    | apply BackF.auto3
    | apply BackF.auto2
    | refine BackB.mk ?_ ?_
    | refine RetF.auto (And.intro rfl ?_)
    | exact Is.mk rfl rfl
    | refine Is.mk ?_ rfl
    | refine Is.mk rfl ?_
    | refine Is.mk ?_ ?_
  all_goals try dsimp only
  all_goals first
    | omega
    | exact ⟨by omega, by omega, rfl, by simp, fun i hi => absurd hi (by simp)⟩
    | exact ⟨by omega, by omega, by simp [k2], by omega, app_P (P := fun x => -2500 ≤ x ∧ x ≤ 2500) k4 (by have q := r8W_b c2 (2 * k) (n := 4000) (by omega); omega)⟩
    | exact ⟨by omega, by omega, by omega⟩
    | exact ⟨by omega, by omega⟩
    | (have q := how.ln; dsimp only at q; omega)
    | (have q := how.ln; dsimp only at q; exact ⟨by omega, by omega⟩)
    | (exfalso
       have q := how.ln
       dsimp only at q
       have q2 := s3 i.toNat (by omega)
       rw [show ((i.toNat : Nat) : Int) = i by omega] at q2
       refine hb ?_
       rw [Bool.eq_iff_iff, decide_eq_true_eq, q2]
       simp only [beq_iff_eq, decide_eq_true_eq]
       unfold absI; omega)
    | skip
end Go.Proofs.Ytfcnlpghdpfjkaa
