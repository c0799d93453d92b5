/- Contracts of functions of the program, and what they compute. Conditions: those that each theorem states. -/
import Derived.Test.YtdhkpmaanegjkaaGreatDoorProg
import Derived.Test.YtdhkpmaanegjkaaGreatDoorI9
import Derived.Test.YtdhkpmaanegjkaaGreatDoorK25
import Derived.Test.YtdhkpmaanegjkaaGreatDoorI5
set_option linter.unusedVariables false
set_option linter.unusedSimpArgs false
namespace Go.Proofs.YtdhkpmaanegjkaaGreatDoor
open Go.Av
attribute [local irreducible] Go.IntKind.wrap leastI binI rdZ rd rootI rawA prI okFanB
set_option maxRecDepth 20000
set_option maxHeartbeats 16000000
theorem frzT_fan {f : GFan} {n : Nat} {cs : List (List Int)} (hn : n = cs.length) (hc : cs = f.curve) : frzT 0 (fun vs ho => Is [.p .fresh (.agg f.cells), In 0] [] (aggL vs) ho) [.aagg [Str f.id, In f.airway, .osl 0 0 n], In 0] [.rows true .flat (eI 0) (cs.map eR) none] := by
  subst hc
  exact ⟨0, _, by simp, rfl, Nat.le_refl _, rfl, rfl, fun _ => by simp only [List.length_map]; omega, _, tkRows hn, Is.mk rfl rfl⟩
theorem dv7 {x : Int} (h : 0 ≤ x ∧ x ≤ 100000) : Go.IntKind.i64.wrap ((x * 7).tdiv 7) = x := by
  rw [Int.mul_tdiv_cancel _ (by decide)]
  exact wrapI (by omega) (by omega)
theorem dv49 {x : Int} (h : 0 ≤ x ∧ x ≤ 100000) : Go.IntKind.i64.wrap ((x * 7 * 7).tdiv 49) = x := by
  rw [show x * 7 * 7 = x * 49 by omega, Int.mul_tdiv_cancel _ (by decide)]
  exact wrapI (by omega) (by omega)
theorem takeS {cs : List (List Int)} {i : Int} {x y : Int} (h0 : 0 ≤ i) (hi : i < cs.length) (he : [x, y] = cs.getD i.toNat []) : cs.take i.toNat ++ [[x, y]] = cs.take (i + 1).toNat := by
  have hi2 : i.toNat < cs.length := by omega
  rw [show (i + 1).toNat = i.toNat + 1 by omega, List.take_succ_eq_append_getElem hi2, he, List.getD_eq_getElem?_getD, List.getElem?_eq_getElem hi2]; rfl
theorem twoE {xs : List Int} (h : xs.length = 2) : [xs.getD 0 0, xs.getD 1 0] = xs := by
  match xs, h with
  | [a, b], _ => rfl
--@fn impl.SpeedFan
theorem speedT (f : GFan) (h : okFan f) : FnSem Tryz.prog 23 [.p .any (.agg f.cells), In 7, In 7] [] (Is [.p .fresh (.agg f.cells), In 0] []) := by
  have hl := h.cu.ln
  have hp := fun k : Int => h.cu.pt k.toNat
  refine semAgg (semFrzT ?_)
  refine FnSem.walk (zs := zeroPV Tryz.prog) (by kernel_rfl) Tryz.func23 rfl Tryz.results23 (by kernel_rfl) (by kernel_rfl) (by kernel_rfl) fun hw hh => ?_
  obtain ⟨w0, w1, w2, _⟩ := hw
  first | replace w0 := wf_Fan w0 | skip
  first | replace w1 := wf_I w1 | skip
  first | replace w2 := wf_I w2 | skip
  repeat' first
    | refine And.intro rfl ?_
    | refine GdF.mk (fun h => h) ?_
    | refine And.intro (Nat.succ_ne_zero _) ?_
    | refine And.intro (Nat.le_of_ble_eq_true rfl) ?_
    | refine SeqF.run ?_
    | refine GhF.at 6 rfl [.nilr 2 2 (eI 0)] ?_
    | refine MkF.rows ?_
    | refine ArgF.is (vFanT f h) ?_
    | refine ArgQ.is (fun hG => vFanT f h) rfl rfl ?_
    | refine ArgF.is (wiF 7 1 100 (by omega)) ?_
    | refine ArgQ.is (fun hG => wiF 7 1 100 (by omega)) rfl rfl ?_
    | refine EqI.mk ((f.curve.getD i.toNat []).getD 0 0 * 7) (fun _ => by have q1 := hp i (by omega); exact wrapI (n := (f.curve.getD i.toNat []).getD 0 0 * 7) (by omega) (by omega)) ?_
    | refine EqI.mk ((f.curve.getD i.toNat []).getD 1 0 * 7) (fun _ => by have q1 := hp i (by omega); exact wrapI (n := (f.curve.getD i.toNat []).getD 1 0 * 7) (by omega) (by omega)) ?_
    | refine EqI.mk ((f.curve.getD i.toNat []).getD 1 0 * 7 * 7) (fun _ => by have q1 := hp i (by omega); exact wrapI (n := (f.curve.getD i.toNat []).getD 1 0 * 7 * 7) (by omega) (by omega)) ?_
    | refine EqI.mk ((f.curve.getD i.toNat []).getD 0 0) (fun _ => by have q1 := hp i (by omega); exact dv7 (x := (f.curve.getD i.toNat []).getD 0 0) (by omega)) ?_
    | refine EqI.mk ((f.curve.getD i.toNat []).getD 1 0) (fun _ => by have q1 := hp i (by omega); exact dv49 (x := (f.curve.getD i.toNat []).getD 1 0) (by omega)) ?_
    | refine BndF.mk (fun _ => ⟨rfl, by rw [List.length_map, List.length_take]; omega⟩) ?_
    | refine EqR.mk [] rfl ?_
    | refine EqR.mk (List.map eR (f.curve.take (i + 1).toNat)) (apR.trans (congrArg (List.map eR) (takeS i0 (by omega) (twoE (hp i (by omega)).1)))) ?_
    | refine EqL.mk (List.map eI [(f.curve.getD i.toNat []).getD 0 0, (f.curve.getD i.toNat []).getD 1 0]) rfl ?_
    | refine EqR.mk (List.map eR [[(f.curve.getD i.toNat []).getD 0 0, (f.curve.getD i.toNat []).getD 1 0]]) rfl ?_
    | refine EqR.mk (List.map eR [[(f.curve.getD i.toNat []).getD 0 0, (f.curve.getD i.toNat []).getD 1 0]]) (by simp) ?_
    | refine BndF.mk (fun hG => by have q1 := hp i (by omega); first | omega | (simp only [List.length_map]; omega)) ?_
    | refine BndF.mk (fun _ => by simp only [List.length_map, List.length_take]; omega) ?_
    | refine EqL.mk (f.curve.map eLI) (by rw [List.take_of_length_le (show f.curve.length ≤ i.toNat by omega)]; exact tkRows (by omega)) ?_
    | refine Or.inr (frzT_fan (f := f) (by rw [List.length_take]; omega) (List.take_of_length_le (by omega)))
    | refine LoopF.at 7 rfl (LoopF.fix [1, 2, 6, 8, 32, 33] (Int × Nat) (fun (i, n) => 0 ≤ i ∧ i ≤ f.curve.length ∧ (n : Int) = i) (fun (i, n) => [(34, In i)]) (fun (i, n) => [(1, .fix [Str f.id, In f.airway, .osl 2 0 n]), (2, .rows true .flat (eI 0) ((f.curve.take i.toNat).map eR) none)]) (fun (i, n) => ((f.curve.length - i).toNat)) ((0, 0)) ?_)
    | (refine LoopB.of (T := Int × Nat) ?_ ?_; rotate_left; rintro ⟨i, n⟩ ⟨i0, i1, i2⟩; rotate_left)
    | refine GhF.go ?_
    | refine GdS.keep ?_
    | refine DrawG.old (DrawF.lex (by decide +kernel) ?_)
    | refine DrawG.old (DrawF.any ?_)
    | refine OrdF.take 0 (by decide +kernel) ?_
    | refine OrdF.take 2 (by decide +kernel) ?_
    | refine OrdF.take 3 (by decide +kernel) ?_
    | refine OrdF.take 5 (by decide +kernel) ?_
    | refine OrdF.take 7 (by decide +kernel) ?_
    | refine OrdF.take 9 (by decide +kernel) ?_
    | refine OrdF.take 10 (by decide +kernel) ?_
    | refine OrdF.take 12 (by decide +kernel) ?_
    | refine OrdF.take 14 (by decide +kernel) ?_
    | refine OrdF.take 16 (by decide +kernel) ?_
    | refine OrdF.take 17 (by decide +kernel) ?_
    | refine OrdF.take 18 (by decide +kernel) ?_
    | refine OrdF.take 13 (by decide +kernel) ?_
    | refine OrdF.take 15 (by decide +kernel) ?_
    | refine OrdF.take 19 (by decide +kernel) ?_
    | refine OrdF.take 6 (by decide +kernel) ?_
    | refine OrdF.take 8 (by decide +kernel) ?_
    | refine OrdF.take 23 (by decide +kernel) ?_
    | refine OrdF.all [24] (by decide +kernel) ?_
    | refine OrdF.all [22] (by decide +kernel) ?_
    | refine OrdF.all [1] (by decide +kernel) ?_
    | refine OrdF.all [21] (by decide +kernel) ?_
    | refine OrdF.all [1, 21] (by decide +kernel) ?_
    | refine OrdF.all [20] (by decide +kernel) ?_
    | refine OrdF.all [1, 20] (by decide +kernel) ?_
    | refine OrdF.all [4] (by decide +kernel) ?_
    | refine OrdF.all [1, 4] (by decide +kernel) ?_
    | refine OrdF.all [11] (by decide +kernel) ?_
    | refine OrdF.all [1, 11] (by decide +kernel) ?_
    | refine OrdF.all [4, 11] (by decide +kernel) ?_
    | refine OrdF.all [1, 4, 11] (by decide +kernel) ?_
    | refine OrdF.fin (by decide +kernel) ?_
    | refine AllF.one _ ?_
    | refine AllF.cons _ _ ?_ ?_
    | refine BndF.mk (fun _ => ⟨rfl, by first | rfl | omega | (simp only [List.length_map, List.length_cons, List.length_nil, List.length_append, List.length_set, List.length_replicate]; first | done | omega)⟩) ?_
    | refine MkF.row ?_
    | refine EqP.mk _ (gm eI 0 rfl) ?_
    | refine EqP.mk _ (gmb eLI [] (by omega)) ?_
    | refine BndF.mk (fun _ => by omega) ?_
    | refine BndF.mk (fun _ => by simp only [lnS]; omega) ?_
    | refine BndF.mk (fun hG => by simp only [forall_const, eq_self, not_true_eq_false, not_false_eq_true, or_false, false_or, or_self, or_true, true_or, and_true, true_and, and_false, false_and, decide_true, decide_false, Bool.not_true, Bool.not_false, decide_eq_true_eq, decide_eq_false_iff_not, ite_and_p, ite_or_p, Bool.decide_eq_true, Bool.and_eq_true, Bool.or_eq_true, Bool.not_eq_true', Bool.not_eq_false', Bool.and_eq_false_imp, Bool.or_eq_false_iff, bne_iff_ne, beq_iff_eq, bne_eq_false_iff_eq, beq_eq_false_iff_ne, gt_iff_lt, ge_iff_le, Int.not_lt, Int.not_le, ne_eq, Bool.true_eq_false, Bool.false_eq_true, reduceCtorEq, eta_Airway, eta_Fan, eta_Mine, bytes_nil] at hG; (try simp only [List.length_map]); omega) ?_
    | refine EqI.mk _ (fun _ => wrapI (by omega) (by omega)) ?_
    | refine EqI.mk _ (fun _ => wrapD (by omega) (by omega) (by omega)) ?_
    | refine EqI.mk _ (fun _ => rfl) ?_
    | refine FlF.keep ?_
    | refine EqN.mk _ (ln eI) ?_
    | refine EqN.mk _ (ln eLI) ?_
    | refine EqN.mk _ (Nat.zero_add _) ?_
    | refine EqN.mk (_ + 1) rfl ?_
    | refine EqN.mk _ (Int.toNat_natCast _) ?_
    | refine EqN.mk _ rfl ?_
    | refine EqL.mk _ (sn0 eI) ?_
    | refine EqL.mk _ (sn eI (by first | rfl | assumption | omega | (simp only [lnS] <;> omega))) ?_
    | refine EqL.mk _ (ap0 eI) ?_
    | refine EqL.mk _ (ap eI (by first | rfl | assumption | omega | (simp only [lnS] <;> omega))) ?_
    | refine EqL.mk _ (tk eI (by first | rfl | assumption | omega | (simp only [lnS] <;> omega))) ?_
    | refine EqL.mk _ (st eI) ?_
    | refine EqL.mk _ (sn0 eLI) ?_
    | refine EqL.mk _ (sn eLI (by first | rfl | assumption | omega | (simp only [lnS] <;> omega))) ?_
    | refine EqL.mk _ (ap0 eLI) ?_
    | refine EqL.mk _ (ap eLI (by first | rfl | assumption | omega | (simp only [lnS] <;> omega))) ?_
    | refine EqL.mk _ (tk eLI (by first | rfl | assumption | omega | (simp only [lnS] <;> omega))) ?_
    | refine EqL.mk _ (st eLI) ?_
    | refine EqL.mk (List.map eI [_, _]) rfl ?_
    | refine EqL.mk [] rfl ?_
    | refine EqL.mk [_] rfl ?_
    | refine EqL.mk _ rfl ?_
    | refine ArgF.is (c_impl_ValidFan ..) ?_
    | refine ArgQ.is (fun hG => c_impl_ValidFan ..) rfl rfl ?_
    | refine ArgF.is (c_impl_within ..) ?_
    | refine ArgQ.is (fun hG => c_impl_within ..) rfl rfl ?_
    | refine CallF.mk (CallW.is [] true rfl ?_)
    | refine CallG.mk ?_
    | (refine CondF.mk (fun hb => ?_) (fun hb => ?_) <;> try simp only [forall_const, eq_self, not_true_eq_false, not_false_eq_true, or_false, false_or, or_self, or_true, true_or, and_true, true_and, and_false, false_and, decide_true, decide_false, Bool.not_true, Bool.not_false, decide_eq_true_eq, decide_eq_false_iff_not, ite_and_p, ite_or_p, Bool.decide_eq_true, Bool.and_eq_true, Bool.or_eq_true, Bool.not_eq_true', Bool.not_eq_false', Bool.and_eq_false_imp, Bool.or_eq_false_iff, bne_iff_ne, beq_iff_eq, bne_eq_false_iff_eq, beq_eq_false_iff_ne, gt_iff_lt, ge_iff_le, Int.not_lt, Int.not_le, ne_eq, Bool.true_eq_false, Bool.false_eq_true, reduceCtorEq, eta_Airway, eta_Fan, eta_Mine] at hb)
    | apply BackF.auto2
    | refine BackB.mk ?_ ?_
    | refine RetF.auto (And.intro rfl ?_)
    | exact Is.mk rfl rfl
    | refine Is.mk ?_ rfl
    | refine Is.mk rfl ?_
    | refine Is.mk ?_ ?_
  all_goals try dsimp only
  all_goals first
    | omega
    | exact ⟨by omega, by omega, rfl⟩
    | exact ⟨by omega, by omega, by omega⟩
    | skip
end Go.Proofs.YtdhkpmaanegjkaaGreatDoor
