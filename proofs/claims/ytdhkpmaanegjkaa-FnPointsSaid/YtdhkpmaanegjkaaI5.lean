/- Contracts of functions of the program, and what they compute. Conditions: those that each theorem states. -/
import Derived.Test.YtdhkpmaanegjkaaProg
import Derived.Test.YtdhkpmaanegjkaaI4
set_option linter.unusedVariables false
set_option linter.unusedSimpArgs false
namespace Go.Proofs.Ytdhkpmaanegjkaa
open Go.Av
attribute [local irreducible] Go.IntKind.wrap leastI rdZ rd rootI rawA
set_option maxRecDepth 20000
set_option maxHeartbeats 16000000

/-! A fan that is drawn and bent. -/
structure DrwF where
  id : ByteArray
  airway : Int
  n : Nat
  rows : List (List Int)
structure okDrw (v : DrwF) : Prop where
  le : v.n ≤ v.rows.length ∧ v.n ≤ 9
  tw : two v.rows
--@fn spec.l06Draw
theorem drawN (c : List Int) (p s : Int) (hc : bytes c) (hp : 0 ≤ p ∧ p ≤ 40000000) : FnSem Try.prog 13 [.own 0 0] [srcO c p s] (SrcX (fun v : DrwF => [.aagg [Str v.id, In v.airway, .osl 1 0 v.n]]) (fun v => [.rows true .flat (eI 0) (v.rows.map eR) none]) okDrw c 130 p) := by
  refine FnSem.walk (zs := zeroPV Try.prog) (by kernel_rfl) Try.func13 rfl Try.results13 (by kernel_rfl) (by kernel_rfl) (by kernel_rfl) fun hw hh => ?_
  obtain ⟨w0, _⟩ := hw
  first | replace w0 := wfr_L00Src w0 | skip
  repeat' first
    | refine And.intro rfl ?_
    | refine GdF.mk (fun h => h) ?_
    | refine And.intro (Nat.succ_ne_zero _) ?_
    | refine And.intro (Nat.le_of_ble_eq_true rfl) ?_
    | refine SeqF.run ?_
    | refine CallF.ownN (f := 34) [0] false ?_
    | refine CallF.ownN (f := 33) [0, 1] false ?_
    | (refine ArgF.srw (c_spec_l00Src_text c p s _ _ hc (by omega) (by omega) rfl) ?_; intro nm p1 s1 hnm hp1)
    | (refine ArgF.srx (drFanU c _ _ _ _ hc (by omega)) ?_; intro v2 p2 s2 hv2 hp2)
    | (refine ArgF.srx (bendF c _ _ _ _ _ _ hc (by omega) hv2.1 (by omega) hv2.2.2.2) ?_; intro v3 p3 s3 hv3 hp3)
    | refine SrcX.mk (α := DrwF) ⟨_, v3.airway, v3.n, v3.rows⟩ _ _ rfl rfl ?_ ?_
    | refine GhF.go ?_
    | refine MkF.row ?_
    | refine BndF.mk (fun _ => by omega) ?_
    | refine BndF.mk (fun _ => by simp only [List.length_map, List.length_cons, List.length_nil, List.length_append, List.length_set, List.length_replicate, iotaI_len]; omega) ?_
    | refine EqL.mk _ (tk eS (by first | rfl | assumption | omega | (simp only [List.length_map, List.length_cons, List.length_nil, List.length_append, List.length_set, List.length_replicate, iotaI_len]; done) | (simp only [List.length_map, List.length_cons, List.length_nil, List.length_append, List.length_set, List.length_replicate, iotaI_len]; omega))) ?_
    | refine EqL.mk _ (st eS) ?_
    | refine EqL.mk (List.map eS [_, _]) rfl ?_
    | refine EqL.mk [] rfl ?_
    | refine EqL.mk [_] rfl ?_
    | refine EqL.mk _ rfl ?_
    | (refine ArgF.srw (c_spec_l00Src_text _ _ _ _ _ (by first | assumption | omega | rfl | (simp only [List.length_cons, List.length_nil]; omega)) (by first | assumption | omega | rfl | (simp only [List.length_cons, List.length_nil]; omega)) (by first | assumption | omega | rfl | (simp only [List.length_cons, List.length_nil]; omega)) (by first | assumption | omega | rfl | (simp only [List.length_cons, List.length_nil]; omega))) ?_; intro _ _ _ _ _)
    | (refine ArgF.src (c_spec_l00Src_pick _ _ _ _ (by first | assumption | omega | rfl | (simp only [List.length_cons, List.length_nil]; omega)) (by first | assumption | omega | rfl | (simp only [List.length_cons, List.length_nil]; omega)) (by first | assumption | omega | rfl | (simp only [List.length_cons, List.length_nil]; omega))) ?_; intro _ _ _ _ _)
    | refine ArgF.is (c_spec_l06DrawOk ..) ?_
    | refine ArgQ.is (fun hG => c_spec_l06DrawOk ..) rfl rfl ?_
    | refine ArgF.is (c_spec_l06Bend ..) ?_
    | refine ArgQ.is (fun hG => c_spec_l06Bend ..) rfl rfl ?_
    | refine CallF.own (f := 27) [0] false ?_
    | refine CallF.own (f := 35) [0, 1] false ?_
    | refine CallF.mk (CallW.is [] true rfl ?_)
    | refine CallG.mk ?_
    | (refine CondF.mk (fun hb => ?_) (fun hb => ?_) <;> try simp only [forall_const, eq_self, not_true_eq_false, not_false_eq_true, or_false, false_or, or_self, or_true, true_or, and_true, true_and, and_false, false_and, decide_true, decide_false, Bool.not_true, Bool.not_false, decide_eq_true_eq, decide_eq_false_iff_not, ite_and_p, ite_or_p, Bool.decide_eq_true, Bool.and_eq_true, Bool.or_eq_true, Bool.not_eq_true', Bool.not_eq_false', Bool.and_eq_false_imp, Bool.or_eq_false_iff, bne_iff_ne, beq_iff_eq, bne_eq_false_iff_eq, beq_eq_false_iff_ne, gt_iff_lt, ge_iff_le, Int.not_lt, Int.not_le, ne_eq, Bool.true_eq_false, Bool.false_eq_true, reduceCtorEq, eta_Fan] at hb)
    | refine RetF.auto (And.intro rfl ?_)
    | exact Is.mk rfl rfl
    | refine Is.mk ?_ rfl
    | refine Is.mk rfl ?_
    | refine Is.mk ?_ ?_
  all_goals try dsimp only
  all_goals first
    | omega
    | exact ⟨hv3.le, hv3.tw⟩
    | skip
theorem frzEq {cs : List (List Int)} {n : Nat} (h : n ≤ cs.length) : ((((cs.map eR).drop 0).take n).map fun e => [PV.lst [.c (.int .i64 0)] e]) = (cs.take n).map eLI := by
  rw [List.drop_zero, ← List.map_take, List.map_map]
  rfl
/-- the same, frozen -/
theorem c_spec_l06Draw (c : List Int) (p s : Int) (hc : bytes c) (hp : 0 ≤ p ∧ p ≤ 40000000) : FnSem Try.prog 13 [.own 0 0] [srcO c p s] (SrcV (fun f : GFan => [.p .fresh (.agg f.cells)]) (fun f => f.curve.length ≤ 9 ∧ two f.curve) c 130 p) := by
  refine FnSem.frz ((drawN c p s hc hp).mono ?_)
  rintro rs ho ⟨v, p', s', rfl, rfl, hv, hp'⟩
  refine ⟨_, 1, _, rfl, rfl, Nat.le_refl _, rfl, rfl, ?_⟩
  refine ⟨fun _ => by have := hv.le; simp only [List.length_map]; omega, _, frzEq hv.le.1, ?_⟩
  refine SrcV.mk (α := GFan) ⟨v.id, v.airway, v.rows.take v.n⟩ p' s' rfl rfl ⟨?_, ?_⟩ hp'
  · have := hv.le; simp only [List.length_take]; omega
  · intro k hk
    simp only [List.length_take] at hk
    rw [List.getD_eq_getElem?_getD, List.getElem?_take, if_pos (by omega), ← List.getD_eq_getElem?_getD]
    exact hv.tw k (by omega)
end Go.Proofs.Ytdhkpmaanegjkaa
