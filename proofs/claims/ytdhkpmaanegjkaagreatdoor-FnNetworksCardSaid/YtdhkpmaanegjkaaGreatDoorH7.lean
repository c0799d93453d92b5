/- Contracts of functions of the program, and what they compute. Conditions: those that each theorem states. -/
import Derived.Test.YtdhkpmaanegjkaaGreatDoorProg
import Derived.Test.YtdhkpmaanegjkaaGreatDoorH6
set_option linter.unusedVariables false
set_option linter.unusedSimpArgs false
namespace Go.Proofs.YtdhkpmaanegjkaaGreatDoor
open Go.Av
attribute [local irreducible] Go.IntKind.wrap okMine treeC mshC
set_option maxRecDepth 20000
set_option maxHeartbeats 16000000
theorem oth_rg {L : Nat} {i : Int} : ∀ x ∈ (iotaI 0 L).filter (fun x => !decide (x = i)), 0 ≤ x ∧ x < (L : Int) := fun x hx => iota_r x (List.mem_filter.1 hx).1
theorem oth_in {L : Nat} {i x : Int} (h0 : 0 ≤ x) (h1 : x < i) (hi : i < L) : x ∈ (iotaI 0 L).filter (fun x => !decide (x = i)) := by
  refine List.mem_filter.2 ⟨?_, by rw [decide_eq_false (by omega)]; rfl⟩
  unfold iotaI
  exact List.mem_map.2 ⟨x.toNat, List.mem_range.2 (by omega), by omega⟩
--@fn impl.BridgesOf
theorem brdT (m : GMine) : FnSem Tryz.prog 10 [.p .any (.agg m.cells)] [] (LsR (okMine m) fun xs => xs.length ≤ 24 ∧ ∀ x ∈ xs, x ∈ treeC m m.airways.length) := by
  refine FnSem.old ?_
  refine FnSem.walk (zs := zeroPV Tryz.prog) (by kernel_rfl) Tryz.func10 rfl Tryz.results10 (by kernel_rfl) (by kernel_rfl) (by kernel_rfl) fun hw hh => ?_
  obtain ⟨w0, _⟩ := hw
  first | replace w0 := wf_Mine w0 | skip
  repeat' first
    | refine And.intro rfl ?_
    | refine GdF.mk (fun h => h) ?_
    | refine And.intro (Nat.succ_ne_zero _) ?_
    | refine And.intro (Nat.le_of_ble_eq_true rfl) ?_
    | refine SeqF.run ?_
    | refine BndF.mk (fun _ => by have := (okMine_p (by assumption)).2.1; omega) ?_
    | refine EqI.mk (i + 1) (fun _ => by have := (okMine_p (by assumption)).2.1; exact wrapI (by omega) (by omega)) ?_
    | refine OpH.heap ?_
    | refine GhF.held 8 rfl [(4, [4]), (7, [])] ?_
    | refine ArgF.is (c_impl_ValidMine m) ?_
    | refine ArgQ.is (fun hG => c_impl_ValidMine m) rfl rfl ?_
    | refine ArgF.is (c_impl_Mine_all m (by have := (okMine_p (by assumption)).2.1; omega)) ?_
    | refine ArgQ.is (fun hG => c_impl_Mine_all m (by have := (okMine_p (by assumption)).2.1; omega)) rfl rfl ?_
    | refine CallF.own (f := 39) [0] true ?_
    | (refine ArgF.ret (del1 (iotaI 0 m.airways.length) m.airways.length 40 [.c (.int .i64 i)] (fun x => decide (x = i)) iotaI_len.symm (by rw [iotaI_len]; have := (okMine_p (by assumption)).2.1; omega) (fun x _ => brg1 i x)) ?_; rintro ⟨k9, zs⟩ ⟨d1, d2⟩; dsimp only at d1 d2)
    | refine EqL.mk _ (tkT d2) ?_
    | (refine ArgF.ret (c_impl_Mine_reached m (m.airways.getD i.toNat default).from_ ((iotaI 0 m.airways.length).filter fun x => !decide (x = i)) (by assumption) ((okMine_p (by assumption)).2.2 i.toNat (by omega)).2.1 oth_rg (by have := (okMine_p (by assumption)).2.1; have h9 := List.length_filter_le (fun x => !decide (x = i)) (iotaI 0 m.airways.length); rw [iotaI_len] at h9; omega)) ?_; rintro ⟨k, rs⟩ ⟨q1, q2, q3⟩; dsimp only at q1 q2 q3)
    | refine EqL.mk _ (tkT (take_all q1)) ?_
    | refine ArgF.is (c_slices_Contains_int64_int64 rs (m.airways.getD i.toNat default).to) ?_
    | refine ArgQ.is (fun hG => c_slices_Contains_int64_int64 rs (m.airways.getD i.toNat default).to) rfl rfl ?_
    | refine EqL.mk _ (tkT (take_all i2)) ?_
    | refine EqL.mk _ (snT (take_all i2)) ?_
    | exact LsR.no rfl rfl (by assumption)
    | refine LsR.ok _ ys rfl rfl ?_ (by assumption) ?_
    | refine LoopF.at 5 rfl (LoopF.fix [1, 12, 13] (Int × Nat × List Int) (fun (i, n, ys) => 0 ≤ i ∧ i ≤ m.airways.length ∧ n = ys.length ∧ (n : Int) ≤ i ∧ (∀ x ∈ ys, x ∈ treeC m m.airways.length)) (fun (i, n, ys) => [(14, In i), (4, .osl 1 0 n)]) (fun (i, n, ys) => [(1, .row true .flat (eI 0) (ys.map eI))]) (fun (i, n, ys) => ((m.airways.length - i).toNat)) ((0, 0, [])) ?_)
    | (refine LoopB.of (T := Int × Nat × List Int) ?_ ?_; rotate_left; rintro ⟨i, n, ys⟩ ⟨i0, i1, i2, i3, i4⟩; rotate_left)
    | refine HdF.at 8 rfl 0 [4, 7, 8] (And.intro (by decide +kernel) (And.intro rfl ?_))
    | refine HdF.at 7 rfl 1 [] (And.intro (by decide +kernel) (And.intro rfl ?_))
    | refine HdF.at 6 rfl 2 [4, 7, 8] (And.intro (by decide +kernel) (And.intro rfl ?_))
    | refine HdF.at 5 rfl 3 [] (And.intro (by decide +kernel) (And.intro rfl ?_))
    | refine HdF.at 4 rfl 5 [] (And.intro (by decide +kernel) (And.intro rfl ?_))
    | refine HdF.at 3 rfl 6 [7, 8] (And.intro (by decide +kernel) (And.intro rfl ?_))
    | refine HdF.goAt 2 rfl ?_
    | refine OrdL.ord ?_
    | refine OrdF.take 8 (by decide +kernel) (And.intro rfl ?_)
    | refine OrdF.all [7] (by decide +kernel) ?_
    | refine OrdF.all [4] (by decide +kernel) ?_
    | refine OrdF.fin (by decide +kernel) ?_
    | refine AllF.one _ ?_
    | refine AllF.cons _ _ ?_ ?_
    | refine OpH.quiet rfl ?_
    | refine OpH.heap ?_
    | refine GhF.go ?_
    | refine DrawG.old (DrawF.lex (by decide +kernel) ?_)
    | refine MkF.row ?_
    | refine EqP.mk _ (gm GAirway.cells default rfl) ?_
    | refine EqP.mk _ (gm eI 0 rfl) ?_
    | refine BndF.mk (fun _ => by omega) ?_
    | refine BndF.mk (fun _ => by simp only [lnS]; omega) ?_
    | refine EqI.mk _ (fun _ => wrapI (by omega) (by omega)) ?_
    | refine EqI.mk _ (fun _ => rfl) ?_
    | refine FlF.keep ?_
    | refine EqN.mk _ (ln GAirway.cells) ?_
    | refine EqN.mk _ (ln eI) ?_
    | refine EqN.mk _ (Nat.zero_add _) ?_
    | refine EqN.mk (_ + 1) rfl ?_
    | refine EqN.mk _ (Int.toNat_natCast _) ?_
    | refine EqN.mk _ rfl ?_
    | refine EqL.mk _ (sn0 GAirway.cells) ?_
    | refine EqL.mk _ (sn GAirway.cells (by first | rfl | assumption | omega | (simp only [lnS] <;> omega))) ?_
    | refine EqL.mk _ (ap0 GAirway.cells) ?_
    | refine EqL.mk _ (ap GAirway.cells (by first | rfl | assumption | omega | (simp only [lnS] <;> omega))) ?_
    | refine EqL.mk _ (tk GAirway.cells (by first | rfl | assumption | omega | (simp only [lnS] <;> omega))) ?_
    | refine EqL.mk _ (st GAirway.cells) ?_
    | refine EqL.mk _ (dt GAirway.cells) ?_
    | refine EqL.mk _ (sn0 eI) ?_
    | refine EqL.mk _ (sn eI (by first | rfl | assumption | omega | (simp only [lnS] <;> omega))) ?_
    | refine EqL.mk _ (ap0 eI) ?_
    | refine EqL.mk _ (ap eI (by first | rfl | assumption | omega | (simp only [lnS] <;> omega))) ?_
    | refine EqL.mk _ (tk eI (by first | rfl | assumption | omega | (simp only [lnS] <;> omega))) ?_
    | refine EqL.mk _ (st eI) ?_
    | refine EqL.mk _ (dt eI) ?_
    | refine EqL.mk [] rfl ?_
    | refine EqL.mk [_] rfl ?_
    | refine EqL.mk _ rfl ?_
    | refine ArgF.is (c_impl_ValidMine ⟨_, _⟩) ?_
    | refine ArgQ.is (fun hG => c_impl_ValidMine ⟨_, _⟩) rfl rfl ?_
    | refine ArgF.is (c_impl_Mine_all ⟨_, _⟩ (by first | assumption | omega)) ?_
    | refine ArgQ.is (fun hG => c_impl_Mine_all ⟨_, _⟩ (by first | assumption | omega)) rfl rfl ?_
    | refine ArgF.is (c_slices_DeleteFunc_int64_int64 ..) ?_
    | refine ArgQ.is (fun hG => c_slices_DeleteFunc_int64_int64 ..) rfl rfl ?_
    | refine ArgF.is (c_impl_Mine_reached ⟨_, _⟩ _ _ (by first | assumption | omega) (by first | assumption | omega) (by first | assumption | omega) (by first | assumption | omega)) ?_
    | refine ArgQ.is (fun hG => c_impl_Mine_reached ⟨_, _⟩ _ _ (by first | assumption | omega) (by first | assumption | omega) (by first | assumption | omega) (by first | assumption | omega)) rfl rfl ?_
    | refine ArgF.is (c_slices_Contains_int64_int64 ..) ?_
    | refine ArgQ.is (fun hG => c_slices_Contains_int64_int64 ..) rfl rfl ?_
    | refine CallF.mk (CallW.is [] true rfl ?_)
    | refine CallG.mk ?_
    | (refine CondF.mk (fun hb => ?_) (fun hb => ?_) <;> try simp only [forall_const, eq_self, not_true_eq_false, not_false_eq_true, or_false, false_or, or_self, or_true, true_or, and_true, true_and, and_false, false_and, decide_true, decide_false, Bool.not_true, Bool.not_false, decide_eq_true_eq, decide_eq_false_iff_not, ite_and_p, ite_or_p, Bool.decide_eq_true, Bool.and_eq_true, Bool.or_eq_true, Bool.not_eq_true', Bool.not_eq_false', Bool.and_eq_false_imp, Bool.or_eq_false_iff, bne_iff_ne, beq_iff_eq, bne_eq_false_iff_eq, beq_eq_false_iff_ne, gt_iff_lt, ge_iff_le, Int.not_lt, Int.not_le, ne_eq, Bool.true_eq_false, Bool.false_eq_true, reduceCtorEq, eta_Airway, eta_Fan, eta_Mine] at hb)
    | apply BackF.auto3
    | refine BackB.mk ?_ ?_
    | refine RetF.auto (And.intro rfl ?_)
    | exact Is.mk rfl rfl
    | refine Is.mk ?_ rfl
    | refine Is.mk rfl ?_
    | refine Is.mk ?_ ?_
  all_goals try dsimp only
  all_goals first
    | omega
    | exact ⟨by omega, by omega, rfl, by omega, fun x hx => absurd hx (List.not_mem_nil)⟩
    | exact ⟨by omega, by omega, i2, by omega, i4⟩
    | (refine ⟨by omega, by omega, by simp [i2], by omega, fun x hx => ?_⟩
       rcases List.mem_append.1 hx with hx | hx
       · exact i4 x hx
       · obtain rfl := List.mem_singleton.1 hx
         exact bridge_in (by assumption) ⟨i0, by omega⟩ (fun x a b => oth_in a b (by omega)) (fun c => hb ((q3 _).2 c)))
    | exact i2
    | exact i4
    | exact ⟨by have := (okMine_p (by assumption)).2.1; omega, i4⟩
    | skip
end Go.Proofs.YtdhkpmaanegjkaaGreatDoor
