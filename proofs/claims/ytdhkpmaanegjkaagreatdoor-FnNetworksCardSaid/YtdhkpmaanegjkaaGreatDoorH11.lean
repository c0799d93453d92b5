/- Contracts of functions of the program, and what they compute. Conditions: those that each theorem states. -/
import Derived.Test.YtdhkpmaanegjkaaGreatDoorProg
import Derived.Test.YtdhkpmaanegjkaaGreatDoorH10
import Derived.Test.YtdhkpmaanegjkaaGreatDoorH11j
set_option linter.unusedVariables false
set_option linter.unusedSimpArgs false
namespace Go.Proofs.YtdhkpmaanegjkaaGreatDoor
open Go.Av
attribute [local irreducible] Go.IntKind.wrap okMine treeC mshC isName okAirway
set_option maxRecDepth 20000
set_option maxHeartbeats 16000000
def zMine : List PV := [.c (.int .i64 0), .c (.slice none 0 0)]
inductive AdR (m : GMine) (a : GAirway) (rs : List AV) (ho : List OB) : Prop
  | inv (h1 : rs = [.p .flat (.agg zMine), In 1]) (h2 : ho = [])
  | has (h1 : rs = [.p .flat (.agg zMine), In 4]) (h2 : ho = [])
  | rng (h1 : rs = [.p .flat (.agg zMine), In 2]) (h2 : ho = [])
  | ful (h1 : rs = [.p .flat (.agg zMine), In 5]) (h2 : ho = [])
  | ok (k : Int) (h1 : rs = [.p .fresh (.agg (GMine.cells (addM m a k))), In 0]) (h2 : ho = []) (h : fitA m a k)
theorem frzT_ad {m : GMine} {a : GAirway} {k : Int} {n : Nat} {xs : List GAirway} (hn : n = xs.length) (hx : xs = insA m.airways k.toNat a) (h : fitA m a k) : frzT 0 (fun vs ho => AdR m a (aggL vs) ho) [.aagg [In m.junctions, .osl 0 0 n], In 0] [.row true .flat (GAirway.cells default) (xs.map GAirway.cells)] := by
  subst hx
  exact ⟨0, _, by simp, rfl, Nat.le_refl _, rfl, rfl, by simp [hn], _, tk GAirway.cells hn, AdR.ok k rfl rfl h⟩
--@fn impl.AddAirway
theorem adT (m : GMine) (a : GAirway) (hl : m.airways.length ≤ 25) : FnSem Tryz.prog 14 [.p .any (.agg m.cells), .p .any (.agg a.cells)] [] (AdR m a) := by
  refine semAgg (semFrzT ?_)
  refine FnSem.walk (zs := zeroPV Tryz.prog) (by kernel_rfl) Tryz.func14 rfl Tryz.results14 (by kernel_rfl) (by kernel_rfl) (by kernel_rfl) fun hw hh => ?_
  obtain ⟨w0, w1, _⟩ := hw
  first | replace w0 := wf_Mine w0 | skip
  first | replace w1 := wf_Airway w1 | skip
  repeat' first
    | refine And.intro rfl ?_
    | refine GdF.mk (fun h => h) ?_
    | refine And.intro (Nat.succ_ne_zero _) ?_
    | refine And.intro (Nat.le_of_ble_eq_true rfl) ?_
    | refine SeqF.run ?_
    | refine ArgF.is (c_impl_ValidMine m) ?_
    | refine ArgQ.is (fun hG => c_impl_ValidMine m) rfl rfl ?_
    | refine ArgF.is (c_impl_ValidAirway a) ?_
    | refine ArgQ.is (fun hG => c_impl_ValidAirway a) rfl rfl ?_
    | (refine ArgF.ret (bsfT m.airways a (by omega)) ?_; rintro ⟨k, b⟩ hbs; dsimp only at hbs)
    | (have hm0 : okMine m = true := (by simp_all); have hmp0 := okMine_p hm0; refine ArgF.is (c_impl_Mine_hasEnds m a (by omega)) ?_)
    | refine ArgF.is (cloA m.airways (by omega)) ?_
    | refine ArgQ.is (fun hG => cloA m.airways (by omega)) rfl rfl ?_
    | refine CallF.ownN (f := 52) [0, 2] false ?_
    | (have hm : okMine m = true := (by simp_all); have hf : fitA m a k := fitA_of hm (by unfold okAw; simp_all) (by assumption) (by simp_all); refine ArgF.is (insT m.airways k a hf.rg (by omega)) ?_)
    | refine Or.inl (AdR.inv rfl rfl)
    | refine Or.inl (AdR.has rfl rfl)
    | refine Or.inl (AdR.rng rfl rfl)
    | refine Or.inl (AdR.ful rfl rfl)
    | refine Or.inr (frzT_ad (ins_len (by have := hf.rg; omega)).symm rfl hf)
    | refine GhF.go ?_
    | refine GdS.keep ?_
    | refine DrawG.old (DrawF.lex (by decide +kernel) ?_)
    | refine DrawG.old (DrawF.any ?_)
    | refine OrdF.take 0 (by decide +kernel) ?_
    | refine OrdF.take 2 (by decide +kernel) ?_
    | refine OrdF.take 5 (by decide +kernel) ?_
    | refine OrdF.take 9 (by decide +kernel) ?_
    | refine OrdF.take 11 (by decide +kernel) ?_
    | refine OrdF.all [10] (by decide +kernel) ?_
    | refine OrdF.all [1] (by decide +kernel) ?_
    | refine OrdF.all [8] (by decide +kernel) ?_
    | refine OrdF.all [1, 8] (by decide +kernel) ?_
    | refine OrdF.all [4] (by decide +kernel) ?_
    | refine OrdF.all [1, 4] (by decide +kernel) ?_
    | refine OrdF.all [3] (by decide +kernel) ?_
    | refine OrdF.all [1, 3] (by decide +kernel) ?_
    | refine OrdF.all [7] (by decide +kernel) ?_
    | refine OrdF.all [1, 7] (by decide +kernel) ?_
    | refine OrdF.all [4, 7] (by decide +kernel) ?_
    | refine OrdF.all [1, 4, 7] (by decide +kernel) ?_
    | refine OrdF.all [3, 7] (by decide +kernel) ?_
    | refine OrdF.all [1, 3, 7] (by decide +kernel) ?_
    | refine OrdF.all [6] (by decide +kernel) ?_
    | refine OrdF.all [1, 6] (by decide +kernel) ?_
    | refine OrdF.all [4, 6] (by decide +kernel) ?_
    | refine OrdF.all [1, 4, 6] (by decide +kernel) ?_
    | refine OrdF.all [3, 6] (by decide +kernel) ?_
    | refine OrdF.all [1, 3, 6] (by decide +kernel) ?_
    | refine OrdF.fin (by decide +kernel) ?_
    | refine AllF.one _ ?_
    | refine AllF.cons _ _ ?_ ?_
    | refine MkF.row ?_
    | refine BndF.mk (fun _ => by omega) ?_
    | refine BndF.mk (fun _ => by simp only [lnS]; omega) ?_
    | refine BndF.mk (fun hG => by simp only [forall_const, eq_self, not_true_eq_false, not_false_eq_true, or_false, false_or, or_self, or_true, true_or, and_true, true_and, and_false, false_and, decide_true, decide_false, Bool.not_true, Bool.not_false, decide_eq_true_eq, decide_eq_false_iff_not, ite_and_p, ite_or_p, Bool.decide_eq_true, Bool.and_eq_true, Bool.or_eq_true, Bool.not_eq_true', Bool.not_eq_false', Bool.and_eq_false_imp, Bool.or_eq_false_iff, bne_iff_ne, beq_iff_eq, bne_eq_false_iff_eq, beq_eq_false_iff_ne, gt_iff_lt, ge_iff_le, Int.not_lt, Int.not_le, ne_eq, Bool.true_eq_false, Bool.false_eq_true, reduceCtorEq, eta_Airway, eta_Fan, eta_Mine, bytes_nil] at hG; (try simp only [List.length_map]); omega) ?_
    | refine EqN.mk _ (ln GAirway.cells) ?_
    | refine EqL.mk _ (tk GAirway.cells (by first | rfl | assumption | omega | (simp only [lnS] <;> omega))) ?_
    | refine EqL.mk _ (st GAirway.cells) ?_
    | refine EqL.mk [] rfl ?_
    | refine EqL.mk [_] rfl ?_
    | refine EqL.mk _ rfl ?_
    | refine ArgF.is (c_impl_ValidMine ⟨_, _⟩) ?_
    | refine ArgQ.is (fun hG => c_impl_ValidMine ⟨_, _⟩) rfl rfl ?_
    | refine ArgF.is (c_impl_ValidAirway ⟨_, _, _, _, _, _, _⟩) ?_
    | refine ArgQ.is (fun hG => c_impl_ValidAirway ⟨_, _, _, _, _, _, _⟩) rfl rfl ?_
    | refine ArgF.is (c_slices_BinarySearchFunc_impl_Airway_impl_Airway_impl_Airway ..) ?_
    | refine ArgQ.is (fun hG => c_slices_BinarySearchFunc_impl_Airway_impl_Airway_impl_Airway ..) rfl rfl ?_
    | refine ArgF.is (c_impl_Mine_hasEnds ⟨_, _⟩ ⟨_, _, _, _, _, _, _⟩ (by first | assumption | omega)) ?_
    | refine ArgQ.is (fun hG => c_impl_Mine_hasEnds ⟨_, _⟩ ⟨_, _, _, _, _, _, _⟩ (by first | assumption | omega)) rfl rfl ?_
    | refine ArgQ.is (fun hG => c_impl_Mine_hasEnds ⟨_, _⟩ ⟨_, _, _, _, _, _, _⟩ (by simp only [forall_const, eq_self, not_true_eq_false, not_false_eq_true, or_false, false_or, or_self, or_true, true_or, and_true, true_and, and_false, false_and, decide_true, decide_false, Bool.not_true, Bool.not_false, decide_eq_true_eq, decide_eq_false_iff_not, ite_and_p, ite_or_p, Bool.decide_eq_true, Bool.and_eq_true, Bool.or_eq_true, Bool.not_eq_true', Bool.not_eq_false', Bool.and_eq_false_imp, Bool.or_eq_false_iff, bne_iff_ne, beq_iff_eq, bne_eq_false_iff_eq, beq_eq_false_iff_ne, gt_iff_lt, ge_iff_le, Int.not_lt, Int.not_le, ne_eq, Bool.true_eq_false, Bool.false_eq_true, reduceCtorEq, eta_Airway, eta_Fan, eta_Mine, bytes_nil] at hG; omega)) rfl rfl ?_
    | refine ArgF.is (c_slices_Clone_impl_Airway_impl_Airway ..) ?_
    | refine ArgQ.is (fun hG => c_slices_Clone_impl_Airway_impl_Airway ..) rfl rfl ?_
    | refine ArgF.is (c_slices_Insert_impl_Airway_impl_Airway ..) ?_
    | refine ArgQ.is (fun hG => c_slices_Insert_impl_Airway_impl_Airway ..) rfl rfl ?_
    | refine CallF.mk (CallW.is [] true rfl ?_)
    | refine CallG.mk ?_
    | (refine CondF.mk (fun hb => ?_) (fun hb => ?_) <;> try simp only [forall_const, eq_self, not_true_eq_false, not_false_eq_true, or_false, false_or, or_self, or_true, true_or, and_true, true_and, and_false, false_and, decide_true, decide_false, Bool.not_true, Bool.not_false, decide_eq_true_eq, decide_eq_false_iff_not, ite_and_p, ite_or_p, Bool.decide_eq_true, Bool.and_eq_true, Bool.or_eq_true, Bool.not_eq_true', Bool.not_eq_false', Bool.and_eq_false_imp, Bool.or_eq_false_iff, bne_iff_ne, beq_iff_eq, bne_eq_false_iff_eq, beq_eq_false_iff_ne, gt_iff_lt, ge_iff_le, Int.not_lt, Int.not_le, ne_eq, Bool.true_eq_false, Bool.false_eq_true, reduceCtorEq, eta_Airway, eta_Fan, eta_Mine] at hb)
    | refine RetF.auto (And.intro rfl ?_)
    | exact Is.mk rfl rfl
    | refine Is.mk ?_ rfl
    | refine Is.mk rfl ?_
    | refine Is.mk ?_ ?_
  all_goals try dsimp only
  all_goals first
    | omega
    | skip
end Go.Proofs.YtdhkpmaanegjkaaGreatDoor
