/- Contracts of functions of the program, and what they compute. Conditions: those that each theorem states. -/
import Derived.Test.YtdhkpmaanegjkaaGreatDoorProg
import Derived.Test.YtdhkpmaanegjkaaGreatDoorI14
set_option linter.unusedVariables false
set_option linter.unusedSimpArgs false
namespace Go.Proofs.YtdhkpmaanegjkaaGreatDoor
open Go.Av
attribute [local irreducible] Go.IntKind.wrap leastI binI rdZ rd rootI rawA prI okFanB
set_option maxRecDepth 20000
set_option maxHeartbeats 16000000
inductive CkR (f : GFan) (rs : List AV) (ho : List OB) : Prop
  | full (h1 : rs = [.p .flat (.agg GFan.z), In 5]) (h2 : ho = [])
  | state (h1 : rs = [.p .flat (.agg GFan.z), In 6]) (h2 : ho = [])
  | ok (h1 : rs = [.p .any (.agg f.cells), In 0]) (h2 : ho = []) (h : okFan f)
--@fn impl.checkedFan
theorem ckT (f : GFan) : FnSem Tryz.prog 72 [.p .any (.agg f.cells)] [] (CkR f) := by
  refine FnSem.walk (zs := zeroPV Tryz.prog) (by kernel_rfl) Tryz.func72 rfl Tryz.results72 (by kernel_rfl) (by kernel_rfl) (by kernel_rfl) fun hw hh => ?_
  obtain ⟨w0, _⟩ := hw
  first | replace w0 := wf_Fan w0 | skip
  repeat' first
    | refine And.intro rfl ?_
    | refine GdF.mk (fun h => h) ?_
    | refine And.intro (Nat.succ_ne_zero _) ?_
    | refine And.intro (Nat.le_of_ble_eq_true rfl) ?_
    | refine SeqF.run ?_
    | refine ArgF.is (vFanX f) ?_
    | refine ArgQ.is (fun hG => vFanX f) rfl rfl ?_
    | exact CkR.full rfl rfl
    | exact CkR.state rfl rfl
    | exact CkR.ok rfl rfl (okFanB_p (by assumption))
    | refine GhF.go ?_
    | refine BndF.mk (fun _ => by omega) ?_
    | refine BndF.mk (fun _ => by simp only [lnS]; omega) ?_
    | refine EqN.mk _ (ln eLI) ?_
    | refine EqL.mk _ (tk eLI (by first | rfl | assumption | omega | (simp only [lnS] <;> omega))) ?_
    | refine EqL.mk _ (st eLI) ?_
    | refine EqL.mk [] rfl ?_
    | refine EqL.mk [_] rfl ?_
    | refine EqL.mk _ rfl ?_
    | refine ArgF.is (c_impl_ValidFan ..) ?_
    | refine ArgQ.is (fun hG => c_impl_ValidFan ..) rfl rfl ?_
    | refine CallF.mk (CallW.is [] true rfl ?_)
    | refine CallG.mk ?_
    | (refine CondF.mk (fun hb => ?_) (fun hb => ?_) <;> try simp only [forall_const, eq_self, not_true_eq_false, not_false_eq_true, or_false, false_or, or_self, or_true, true_or, and_true, true_and, and_false, false_and, decide_true, decide_false, Bool.not_true, Bool.not_false, decide_eq_true_eq, decide_eq_false_iff_not, ite_and_p, ite_or_p, Bool.decide_eq_true, Bool.and_eq_true, Bool.or_eq_true, Bool.not_eq_true', Bool.not_eq_false', Bool.and_eq_false_imp, Bool.or_eq_false_iff, bne_iff_ne, beq_iff_eq, bne_eq_false_iff_eq, beq_eq_false_iff_ne, gt_iff_lt, ge_iff_le, Int.not_lt, Int.not_le, ne_eq, Bool.true_eq_false, Bool.false_eq_true, reduceCtorEq, eta_Airway, eta_Fan, eta_Mine] at hb)
    | refine RetF.auto (And.intro rfl ?_)
    | exact Is.mk rfl rfl
    | refine Is.mk ?_ rfl
    | refine Is.mk rfl ?_
    | refine Is.mk ?_ ?_
  all_goals skip
def serR (a b : GFan) (xs : List Int) : List (List Int) := xs.map fun x => [x, prI a x + prI b x]
inductive FsR (a b : GFan) (rs : List AV) (ho : List OB) : Prop
  | inv (h1 : rs = [.p .flat (.agg GFan.z), In 1]) (h2 : ho = [])
  | full (h1 : rs = [.p .flat (.agg GFan.z), In 5]) (h2 : ho = [])
  | state (h1 : rs = [.p .flat (.agg GFan.z), In 6]) (h2 : ho = [])
  | ok (f : GFan) (h1 : rs = [.p .any (.agg f.cells), In 0]) (h2 : ho = []) (ha : okFan a) (hb : okFan b) (hf : okFan f) (h : ∀ k : Nat, k < f.curve.length → (f.curve.getD k []).getD 1 0 = prI a ((f.curve.getD k []).getD 0 0) + prI b ((f.curve.getD k []).getD 0 0))
theorem serR_s {a b : GFan} {xs : List Int} {i : Int} (h0 : 0 ≤ i) (h1 : i < xs.length) : serR a b (xs.take i.toNat) ++ [[xs.getD i.toNat 0, prI a (xs.getD i.toNat 0) + prI b (xs.getD i.toNat 0)]] = serR a b (xs.take (i + 1).toNat) := by
  rw [take_snoc h0 h1 0]; unfold serR; rw [List.map_append]; rfl
theorem serR_k {a b : GFan} {xs : List Int} {k : Nat} (h : k < (serR a b xs).length) : ((serR a b xs).getD k []).getD 1 0 = prI a (((serR a b xs).getD k []).getD 0 0) + prI b (((serR a b xs).getD k []).getD 0 0) := by
  have h2 : k < xs.length := by unfold serR at h; simpa using h
  have e : (serR a b xs).getD k [] = [xs.getD k 0, prI a (xs.getD k 0) + prI b (xs.getD k 0)] := by
    unfold serR
    simp [List.getD_eq_getElem?_getD, h2]
  rw [e]; rfl
--@fn impl.FansInSeries
theorem fsT (a b : GFan) : FnSem Tryz.prog 28 [.p .any (.agg a.cells), .p .any (.agg b.cells)] [] (FsR a b) := by
  refine FnSem.walk (zs := zeroPV Tryz.prog) (by kernel_rfl) Tryz.func28 rfl Tryz.results28 (by kernel_rfl) (by kernel_rfl) (by kernel_rfl) fun hw hh => ?_
  obtain ⟨w0, w1, _⟩ := hw
  first | replace w0 := wf_Fan w0 | skip
  first | replace w1 := wf_Fan w1 | skip
  repeat' first
    | refine And.intro rfl ?_
    | refine GdF.mk (fun h => h) ?_
    | refine And.intro (Nat.succ_ne_zero _) ?_
    | refine And.intro (Nat.le_of_ble_eq_true rfl) ?_
    | refine SeqF.run ?_
    | refine GhF.at 4 rfl [.nilr 3 2 (eI 0)] ?_
    | refine GhF.at 9 rfl [.fzc 4 3 2] ?_
    | refine MkF.rows ?_
    | refine ArgF.is (vFanX a) ?_
    | refine ArgQ.is (fun hG => vFanX a) rfl rfl ?_
    | refine ArgF.is (vFanX b) ?_
    | refine ArgQ.is (fun hG => vFanX b) rfl rfl ?_
    | (have hab : okFanB a = true ∧ okFanB b = true := (by simp_all); have oa := okFanB_p hab.1; have ob := okFanB_p hab.2; refine ArgF.ret (curT a b oa ob) ?_; rintro ⟨n0, xs⟩ ⟨q1, q2, q3⟩; dsimp only at q1 q2 q3)
    | refine ArgF.is (c_impl_Fan_pressure a (xs.getD i.toNat 0) oa (by have := q3 i.toNat (by omega); omega)) ?_
    | refine ArgQ.is (fun hG => c_impl_Fan_pressure a (xs.getD i.toNat 0) oa (by have := q3 i.toNat (by omega); omega)) rfl rfl ?_
    | refine ArgF.is (c_impl_Fan_pressure b (xs.getD i.toNat 0) ob (by have := q3 i.toNat (by omega); omega)) ?_
    | refine ArgQ.is (fun hG => c_impl_Fan_pressure b (xs.getD i.toNat 0) ob (by have := q3 i.toNat (by omega); omega)) rfl rfl ?_
    | refine CallF.mk (f := 72) (CallW.is [] false rfl ?_)
    | (refine ArgF.mk _ (ckT ⟨a.id, a.airway, ss⟩) (fun rs ho hR _ => ?_); rcases hR with ⟨rfl, rfl⟩ | ⟨rfl, rfl⟩ | ⟨rfl, rfl, hf⟩)
    | refine EqI.mk _ (fun _ => by have g1 := prI_b oa (xs.getD i.toNat 0); have g2 := prI_b ob (xs.getD i.toNat 0); exact wrapI (by omega) (by omega)) ?_
    | refine EqR.mk [] rfl ?_
    | refine EqR.mk _ apR ?_
    | refine EqL.mk (List.map eI [xs.getD i.toNat 0, prI a (xs.getD i.toNat 0) + prI b (xs.getD i.toNat 0)]) rfl ?_
    | refine EqR.mk (List.map eR [[xs.getD i.toNat 0, prI a (xs.getD i.toNat 0) + prI b (xs.getD i.toNat 0)]]) rfl ?_
    | refine EqR.mk (List.map eR [[xs.getD i.toNat 0, prI a (xs.getD i.toNat 0) + prI b (xs.getD i.toNat 0)]]) (by simp) ?_
    | refine BndF.mk (fun hG => by first | omega | (simp only [List.length_map]; omega)) ?_
    | refine EqL.mk (ss.map eLI) (tkRows i2) ?_
    | exact FsR.inv rfl rfl
    | exact FsR.full rfl rfl
    | exact FsR.state rfl rfl
    | refine FsR.ok ⟨a.id, a.airway, ss⟩ rfl rfl oa ob hf ?_
    | refine LoopF.at 5 rfl (LoopF.fix [2, 3, 4, 6, 25, 26] (Int × Nat × List (List Int)) (fun (i, n, ss) => 0 ≤ i ∧ i ≤ n0 ∧ n = ss.length ∧ (n : Int) = i ∧ ss = serR a b (xs.take i.toNat)) (fun (i, n, ss) => [(27, In i)]) (fun (i, n, ss) => [(3, .fix [Str a.id, In a.airway, .osl 4 0 n]), (4, .rows true .flat (eI 0) (ss.map eR) none)]) (fun (i, n, ss) => (((n0 : Int) - i).toNat)) ((0, 0, [])) ?_)
    | (refine LoopB.of (T := Int × Nat × List (List Int)) ?_ ?_; rotate_left; rintro ⟨i, n, ss⟩ ⟨i0, i1, i2, i3, i4⟩; rotate_left)
    | refine GhF.go ?_
    | refine GdS.keep ?_
    | refine DrawG.old (DrawF.lex (by decide +kernel) ?_)
    | refine DrawG.old (DrawF.any ?_)
    | refine OrdF.take 0 (by decide +kernel) ?_
    | refine OrdF.take 2 (by decide +kernel) ?_
    | refine OrdF.take 4 (by decide +kernel) ?_
    | refine OrdF.take 7 (by decide +kernel) ?_
    | refine OrdF.take 9 (by decide +kernel) ?_
    | refine OrdF.take 13 (by decide +kernel) ?_
    | refine OrdF.all [14] (by decide +kernel) ?_
    | refine OrdF.all [12] (by decide +kernel) ?_
    | refine OrdF.all [1] (by decide +kernel) ?_
    | refine OrdF.all [11] (by decide +kernel) ?_
    | refine OrdF.all [1, 11] (by decide +kernel) ?_
    | refine OrdF.all [10] (by decide +kernel) ?_
    | refine OrdF.all [1, 10] (by decide +kernel) ?_
    | refine OrdF.all [8] (by decide +kernel) ?_
    | refine OrdF.all [1, 8] (by decide +kernel) ?_
    | refine OrdF.all [5] (by decide +kernel) ?_
    | refine OrdF.all [1, 5] (by decide +kernel) ?_
    | refine OrdF.all [3] (by decide +kernel) ?_
    | refine OrdF.all [1, 3] (by decide +kernel) ?_
    | refine OrdF.all [6] (by decide +kernel) ?_
    | refine OrdF.all [1, 6] (by decide +kernel) ?_
    | refine OrdF.all [5, 6] (by decide +kernel) ?_
    | refine OrdF.all [1, 5, 6] (by decide +kernel) ?_
    | refine OrdF.all [3, 6] (by decide +kernel) ?_
    | refine OrdF.all [1, 3, 6] (by decide +kernel) ?_
    | refine OrdF.fin (by decide +kernel) ?_
    | refine AllF.one _ ?_
    | refine AllF.cons _ _ ?_ ?_
    | refine BndF.mk (fun _ => ⟨rfl, by first | rfl | omega | (simp only [List.length_map, List.length_cons, List.length_nil, List.length_append, List.length_set, List.length_replicate]; first | done | omega)⟩) ?_
    | refine MkF.row ?_
    | refine EqP.mk _ (gm eI 0 rfl) ?_
    | refine EqP.mk _ (gmb eLI [] (by omega)) ?_
    | refine BndF.mk (fun _ => by omega) ?_
    | refine BndF.mk (fun _ => by simp only [lnS]; omega) ?_
    | refine BndF.mk (fun hG => by simp only [forall_const, eq_self, not_true_eq_false, not_false_eq_true, or_false, false_or, or_self, or_true, true_or, and_true, true_and, and_false, false_and, decide_true, decide_false, Bool.not_true, Bool.not_false, decide_eq_true_eq, decide_eq_false_iff_not, ite_and_p, ite_or_p, Bool.decide_eq_true, Bool.and_eq_true, Bool.or_eq_true, Bool.not_eq_true', Bool.not_eq_false', Bool.and_eq_false_imp, Bool.or_eq_false_iff, bne_iff_ne, beq_iff_eq, bne_eq_false_iff_eq, beq_eq_false_iff_ne, gt_iff_lt, ge_iff_le, Int.not_lt, Int.not_le, ne_eq, Bool.true_eq_false, Bool.false_eq_true, reduceCtorEq, eta_Airway, eta_Fan, eta_Mine, bytes_nil] at hG; (try simp only [List.length_map]); omega) ?_
    | refine EqI.mk _ (fun _ => wrapI (by omega) (by omega)) ?_
    | refine EqI.mk _ (fun _ => rfl) ?_
    | refine FlF.keep ?_
    | refine EqN.mk _ (ln eI) ?_
    | refine EqN.mk _ (ln eLI) ?_
    | refine EqN.mk _ (Nat.zero_add _) ?_
    | refine EqN.mk (_ + 1) rfl ?_
    | refine EqN.mk _ (Int.toNat_natCast _) ?_
    | refine EqN.mk _ rfl ?_
    | refine EqL.mk _ (sn0 eI) ?_
    | refine EqL.mk _ (sn eI (by first | rfl | assumption | omega | (simp only [lnS] <;> omega))) ?_
    | refine EqL.mk _ (ap0 eI) ?_
    | refine EqL.mk _ (ap eI (by first | rfl | assumption | omega | (simp only [lnS] <;> omega))) ?_
    | refine EqL.mk _ (tk eI (by first | rfl | assumption | omega | (simp only [lnS] <;> omega))) ?_
    | refine EqL.mk _ (st eI) ?_
    | refine EqL.mk _ (sn0 eLI) ?_
    | refine EqL.mk _ (sn eLI (by first | rfl | assumption | omega | (simp only [lnS] <;> omega))) ?_
    | refine EqL.mk _ (ap0 eLI) ?_
    | refine EqL.mk _ (ap eLI (by first | rfl | assumption | omega | (simp only [lnS] <;> omega))) ?_
    | refine EqL.mk _ (tk eLI (by first | rfl | assumption | omega | (simp only [lnS] <;> omega))) ?_
    | refine EqL.mk _ (st eLI) ?_
    | refine EqL.mk (List.map eI [_, _]) rfl ?_
    | refine EqL.mk [] rfl ?_
    | refine EqL.mk [_] rfl ?_
    | refine EqL.mk _ rfl ?_
    | refine ArgF.is (c_impl_ValidFan ..) ?_
    | refine ArgQ.is (fun hG => c_impl_ValidFan ..) rfl rfl ?_
    | refine ArgF.is (c_impl_curveNumbers ..) ?_
    | refine ArgQ.is (fun hG => c_impl_curveNumbers ..) rfl rfl ?_
    | refine ArgF.is (c_impl_Fan_pressure ⟨_, _, _⟩ _ (by first | assumption | omega) (by first | assumption | omega)) ?_
    | refine ArgQ.is (fun hG => c_impl_Fan_pressure ⟨_, _, _⟩ _ (by first | assumption | omega) (by first | assumption | omega)) rfl rfl ?_
    | refine ArgQ.is (fun hG => c_impl_Fan_pressure ⟨_, _, _⟩ _ (by simp only [forall_const, eq_self, not_true_eq_false, not_false_eq_true, or_false, false_or, or_self, or_true, true_or, and_true, true_and, and_false, false_and, decide_true, decide_false, Bool.not_true, Bool.not_false, decide_eq_true_eq, decide_eq_false_iff_not, ite_and_p, ite_or_p, Bool.decide_eq_true, Bool.and_eq_true, Bool.or_eq_true, Bool.not_eq_true', Bool.not_eq_false', Bool.and_eq_false_imp, Bool.or_eq_false_iff, bne_iff_ne, beq_iff_eq, bne_eq_false_iff_eq, beq_eq_false_iff_ne, gt_iff_lt, ge_iff_le, Int.not_lt, Int.not_le, ne_eq, Bool.true_eq_false, Bool.false_eq_true, reduceCtorEq, eta_Airway, eta_Fan, eta_Mine, bytes_nil] at hG; omega) (by simp only [forall_const, eq_self, not_true_eq_false, not_false_eq_true, or_false, false_or, or_self, or_true, true_or, and_true, true_and, and_false, false_and, decide_true, decide_false, Bool.not_true, Bool.not_false, decide_eq_true_eq, decide_eq_false_iff_not, ite_and_p, ite_or_p, Bool.decide_eq_true, Bool.and_eq_true, Bool.or_eq_true, Bool.not_eq_true', Bool.not_eq_false', Bool.and_eq_false_imp, Bool.or_eq_false_iff, bne_iff_ne, beq_iff_eq, bne_eq_false_iff_eq, beq_eq_false_iff_ne, gt_iff_lt, ge_iff_le, Int.not_lt, Int.not_le, ne_eq, Bool.true_eq_false, Bool.false_eq_true, reduceCtorEq, eta_Airway, eta_Fan, eta_Mine, bytes_nil] at hG; omega)) rfl rfl ?_
    | refine ArgF.is (c_impl_checkedFan ..) ?_
    | refine ArgQ.is (fun hG => c_impl_checkedFan ..) rfl rfl ?_
    | refine CallF.mk (CallW.is [] true rfl ?_)
    | refine CallG.mk ?_
    | (refine CondF.mk (fun hb => ?_) (fun hb => ?_) <;> try simp only [forall_const, eq_self, not_true_eq_false, not_false_eq_true, or_false, false_or, or_self, or_true, true_or, and_true, true_and, and_false, false_and, decide_true, decide_false, Bool.not_true, Bool.not_false, decide_eq_true_eq, decide_eq_false_iff_not, ite_and_p, ite_or_p, Bool.decide_eq_true, Bool.and_eq_true, Bool.or_eq_true, Bool.not_eq_true', Bool.not_eq_false', Bool.and_eq_false_imp, Bool.or_eq_false_iff, bne_iff_ne, beq_iff_eq, bne_eq_false_iff_eq, beq_eq_false_iff_ne, gt_iff_lt, ge_iff_le, Int.not_lt, Int.not_le, ne_eq, Bool.true_eq_false, Bool.false_eq_true, reduceCtorEq, eta_Airway, eta_Fan, eta_Mine] at hb)
    | apply BackF.auto3
    | refine BackB.mk ?_ ?_
    | refine RetF.auto (And.intro rfl ?_)
    | exact Is.mk rfl rfl
    | refine Is.mk ?_ rfl
    | refine Is.mk rfl ?_
    | refine Is.mk ?_ ?_
  all_goals try dsimp only
  all_goals first
    | omega
    | exact ⟨by omega, by omega, rfl, by omega, by rfl⟩
    | exact ⟨by omega, by omega, by simp [i2], by omega, by rw [i4]; exact serR_s i0 (by omega)⟩
    | (rw [i4]; exact fun k hk => serR_k hk)
    | skip
end Go.Proofs.YtdhkpmaanegjkaaGreatDoor
