/- Contracts of functions of the program, and what they compute. Conditions: those that each theorem states. -/
import Derived.Test.YtdhkpmaanegjkaaGreatDoorProg
import Derived.Test.YtdhkpmaanegjkaaGreatDoorH8
import Derived.Test.YtdhkpmaanegjkaaGreatDoorJ0
import Derived.Test.YtdhkpmaanegjkaaGreatDoorD4
set_option linter.unusedVariables false
set_option linter.unusedSimpArgs false
namespace Go.Proofs.YtdhkpmaanegjkaaGreatDoor
open Go.Av
attribute [local irreducible] Go.IntKind.wrap okMine treeC mshC isName okAirway
set_option maxRecDepth 20000
set_option maxHeartbeats 16000000
abbrev LA (xs : List GAirway) : AV := Lx (.lst (GAirway.cells default) (xs.map GAirway.cells))
abbrev RA (nw : Bool) (xs : List GAirway) : OB := .row nw .flat (GAirway.cells default) (xs.map GAirway.cells)
--@fn slices.Clone[[]impl.Airway,impl.Airway]
theorem cloA (xs : List GAirway) (hl : xs.length ≤ 1000) : FnSem Tryz.prog 53 [LA xs] [] (Is [.osl 0 0 xs.length] [RA true xs]) := by
  refine FnSem.walk (zs := zeroPV Tryz.prog) (by kernel_rfl) Tryz.func53 rfl Tryz.results53 (by kernel_rfl) (by kernel_rfl) (by kernel_rfl) fun hw hh => ?_
  obtain ⟨w0, _⟩ := hw
  first | replace w0 := wf_LAirway w0 | skip
  repeat' first
    | refine And.intro rfl ?_
    | refine GdF.mk (fun h => h) ?_
    | refine And.intro (Nat.succ_ne_zero _) ?_
    | refine And.intro (Nat.le_of_ble_eq_true rfl) ?_
    | refine SeqF.run ?_
    | refine FlF.flat (by simp only [List.mem_map, forall_exists_index, and_imp, forall_apply_eq_imp_iff₂]; intro a _ p hp; simp only [GAirway.cells, List.mem_cons, List.not_mem_nil, or_false] at hp; rcases hp with h | h | h | h | h | h | h <;> exact ⟨_, h⟩) ?_
    | refine GhF.go ?_
    | refine NilE.mk fun nb hnb => ?_
    | refine MkF.row ?_
    | refine BndF.mk (fun _ => by omega) ?_
    | refine BndF.mk (fun _ => by simp only [lnS]; omega) ?_
    | refine FlF.keep ?_
    | refine EqN.mk _ (Nat.zero_add _) ?_
    | refine EqN.mk (_ + 1) rfl ?_
    | refine EqN.mk _ (Int.toNat_natCast _) ?_
    | refine EqN.mk _ rfl ?_
    | refine EqL.mk _ (sn0 GAirway.cells) ?_
    | refine EqL.mk _ (sn GAirway.cells (by first | rfl | assumption | omega | (simp only [lnS] <;> omega))) ?_
    | refine EqL.mk _ (ap0 GAirway.cells) ?_
    | refine EqL.mk _ (ap GAirway.cells (by first | rfl | assumption | omega | (simp only [lnS] <;> omega))) ?_
    | refine EqL.mk _ (tk GAirway.cells (by first | rfl | assumption | omega | (simp only [lnS] <;> omega))) ?_
    | refine EqL.mk _ (dt GAirway.cells) ?_
    | refine EqL.mk [] rfl ?_
    | refine EqL.mk [_] rfl ?_
    | refine EqL.mk _ rfl ?_
    | (refine CondF.mk (fun hb => ?_) (fun hb => ?_) <;> try simp only [forall_const, eq_self, not_true_eq_false, not_false_eq_true, or_false, false_or, or_self, or_true, true_or, and_true, true_and, and_false, false_and, decide_true, decide_false, Bool.not_true, Bool.not_false, decide_eq_true_eq, decide_eq_false_iff_not, ite_and_p, ite_or_p, Bool.decide_eq_true, Bool.and_eq_true, Bool.or_eq_true, Bool.not_eq_true', Bool.not_eq_false', Bool.and_eq_false_imp, Bool.or_eq_false_iff, bne_iff_ne, beq_iff_eq, bne_eq_false_iff_eq, beq_eq_false_iff_ne, gt_iff_lt, ge_iff_le, Int.not_lt, Int.not_le, ne_eq, Bool.true_eq_false, Bool.false_eq_true, reduceCtorEq, eta_Airway, eta_Fan, eta_Mine] at hb)
    | refine RetF.auto (And.intro rfl ?_)
    | exact Is.mk rfl rfl
    | refine Is.mk ?_ rfl
    | refine Is.mk rfl ?_
    | refine Is.mk ?_ ?_
  all_goals try dsimp only
  all_goals try simp only [Bo, I, OB.row.injEq, AV.osl.injEq, eI_same,  List.cons.injEq, AV.p.injEq, PV.c.injEq, Value.int.injEq, Value.bool.injEq, and_true, true_and, ite_and_p, ite_or_p, Bool.decide_eq_true, eta_Airway, eta_Fan, eta_Mine]
  · have := congrArg List.length (hnb hb); simpa using this.symm
  · exact ⟨rfl, (hnb hb).symm⟩
  · simp
def cutA (es : List GAirway) (i : Int) : List GAirway := es.take i.toNat ++ es.drop (i.toNat + 1)
def delA (ys : List GAirway) (n : Nat) (i : Int) : List GAirway := ys.take i.toNat ++ (ys.drop (i + 1).toNat).take (n - (i + 1).toNat) ++ ys.drop (n - 1)
theorem dlA_len {ys : List GAirway} {n : Nat} {i : Int} (h0 : 0 ≤ i) (h1 : i < n) (h2 : n ≤ ys.length) : (delA ys n i).length = ys.length := by
  unfold delA
  simp only [List.length_append, List.length_take, List.length_drop]; omega
theorem dlA_take {ys : List GAirway} {n : Nat} {i : Int} (h0 : 0 ≤ i) (h1 : i < n) (h2 : n ≤ ys.length) : (delA ys n i).take (n - 1) = cutA (ys.take n) i := by
  unfold delA cutA
  rw [List.take_append_of_le_length (by simp only [List.length_append, List.length_take, List.length_drop]; omega), List.take_of_length_le (by simp only [List.length_append, List.length_take, List.length_drop]; omega), List.take_take, List.drop_take, show (i + 1).toNat = i.toNat + 1 by omega, show min i.toNat n = i.toNat by omega]
theorem dlA_map {ys : List GAirway} {n : Nat} {i : Int} (h0 : 0 ≤ i) (h1 : i < n) (h2 : n ≤ ys.length) : List.take (0 + (i.toNat - 0)) (ys.map GAirway.cells) ++ (List.take (n - (i + 1).toNat) (List.drop (i + 1).toNat ys)).map GAirway.cells ++ List.drop (0 + (i.toNat - 0) + ((List.take (n - (i + 1).toNat) (List.drop (i + 1).toNat ys)).map GAirway.cells).length) (ys.map GAirway.cells) = (delA ys n i).map GAirway.cells := by
  unfold delA
  rw [List.length_map, List.length_take, List.length_drop, show 0 + (i.toNat - 0) + min (n - (i + 1).toNat) (ys.length - (i + 1).toNat) = n - 1 by omega, show 0 + (i.toNat - 0) = i.toNat by omega, List.map_append, List.map_append, List.map_take, List.map_drop, List.map_take, List.map_drop]
theorem c_slices_Delete_impl_Airway_impl_Airway (n : Nat) (i : Int) (ys : List GAirway) (h0 : 0 ≤ i) (h1 : i < n) (h2 : n ≤ ys.length) (h3 : n ≤ 1000) : FnSem Tryz.prog 55 [.osl 0 0 n, In i, In (i + 1)] [.row false .flat (GAirway.cells default) (ys.map GAirway.cells)] (RetV (fun _ : List GAirway => [.osl 0 0 (n - 1)]) (fun zs => [.row false .flat (GAirway.cells default) (zs.map GAirway.cells)]) (fun zs => zs.length = ys.length ∧ zs.take (n - 1) = cutA (ys.take n) i)) := by
  refine FnSem.walk (zs := zeroPV Tryz.prog) (by kernel_rfl) Tryz.func55 rfl Tryz.results55 (by kernel_rfl) (by kernel_rfl) (by kernel_rfl) fun hw hh => ?_
  obtain ⟨w0, w1, w2, _⟩ := hw
  first | replace w0 := wf_LAirway w0 | skip
  first | replace w1 := wf_I w1 | skip
  first | replace w2 := wf_I w2 | skip
  repeat' first
    | refine And.intro rfl ?_
    | refine GdF.mk (fun h => h) ?_
    | refine And.intro (Nat.succ_ne_zero _) ?_
    | refine And.intro (Nat.le_of_ble_eq_true rfl) ?_
    | refine SeqF.run ?_
    | (exfalso; omega)
    | refine BndF.mk (fun _ => by show i.toNat ≤ (i + 1).toNat ∧ (i + 1).toNat ≤ n ∧ n ≤ _; omega) ?_
    | refine BndF.mk (fun _ => by show 0 ≤ i.toNat ∧ i.toNat ≤ _; omega) ?_
    | refine BndF.mk (fun _ => by show (i + 1).toNat ≤ n ∧ n ≤ _; omega) ?_
    | refine BndF.mk (fun _ => by show 0 + (i.toNat - 0) ≤ _; rw [List.length_map]; omega) ?_
    | refine BndF.mk (fun _ => by show (i + 1).toNat + (n - (i + 1).toNat) ≤ _; rw [List.length_map]; omega) ?_
    | refine BndF.mk (fun _ => by simp only [List.length_map, List.length_take, List.length_drop]; show 0 + (i.toNat - 0 + min (n - (i + 1).toNat) (ys.length - (i + 1).toNat)) ≤ ys.length; omega) ?_
    | refine EqL.mk ((delA ys n i).map GAirway.cells) (dlA_map h0 h1 h2) ?_
    | refine BndF.mk (fun _ => by simp only [List.length_map, List.length_take, List.length_drop]; show i.toNat - 0 + min (n - (i + 1).toNat) (ys.length - (i + 1).toNat) ≤ n ∧ n ≤ max _ ((delA ys n i).length - 0); rw [dlA_len h0 h1 h2]; omega) ?_
    | refine EqN.mk (n - 1) (by simp only [List.length_map, List.length_take, List.length_drop]; show 0 + (i.toNat - 0 + min (n - (i + 1).toNat) (ys.length - (i + 1).toNat)) = n - 1; omega) ?_
    | refine EqN.mk 1 (by simp only [List.length_map, List.length_take, List.length_drop]; show n - (i.toNat - 0 + min (n - (i + 1).toNat) (ys.length - (i + 1).toNat)) = 1; omega) ?_
    | refine BndF.mk (fun _ => by rw [List.length_map, dlA_len h0 h1 h2]; omega) ?_
    | refine EqL.mk (((delA ys n i).take (n - 1) ++ [default] ++ (delA ys n i).drop (n - 1 + 1)).map GAirway.cells) (by rw [List.map_append, List.map_append, List.map_take, List.map_drop]; rfl) ?_
    | refine RetV.mk (α := List GAirway) _ (congrArg (fun k => [AV.osl 0 0 k]) (by simp only [List.length_map, List.length_take, List.length_drop]; show i.toNat - 0 + min (n - (i + 1).toNat) (ys.length - (i + 1).toNat) = n - 1; omega)) rfl ?_
    | refine GhF.go ?_
    | refine DrawG.old (DrawF.lex (by decide +kernel) ?_)
    | refine MkF.row ?_
    | refine BndF.mk (fun _ => by omega) ?_
    | refine BndF.mk (fun _ => by simp only [lnS]; omega) ?_
    | refine FlF.keep ?_
    | refine EqN.mk _ (ln GAirway.cells) ?_
    | refine EqN.mk _ (Nat.zero_add _) ?_
    | refine EqN.mk (_ + 1) rfl ?_
    | refine EqN.mk _ (Int.toNat_natCast _) ?_
    | refine EqN.mk _ rfl ?_
    | refine EqL.mk _ (sn0 GAirway.cells) ?_
    | refine EqL.mk _ (sn GAirway.cells (by first | rfl | assumption | omega | (simp only [lnS] <;> omega))) ?_
    | refine EqL.mk _ (ap0 GAirway.cells) ?_
    | refine EqL.mk _ (ap GAirway.cells (by first | rfl | assumption | omega | (simp only [lnS] <;> omega))) ?_
    | refine EqL.mk _ (tk GAirway.cells (by first | rfl | assumption | omega | (simp only [lnS] <;> omega))) ?_
    | refine EqL.mk _ (dt GAirway.cells) ?_
    | refine EqL.mk [] rfl ?_
    | refine EqL.mk [_] rfl ?_
    | refine EqL.mk _ rfl ?_
    | (refine CondF.mk (fun hb => ?_) (fun hb => ?_) <;> try simp only [forall_const, eq_self, not_true_eq_false, not_false_eq_true, or_false, false_or, or_self, or_true, true_or, and_true, true_and, and_false, false_and, decide_true, decide_false, Bool.not_true, Bool.not_false, decide_eq_true_eq, decide_eq_false_iff_not, ite_and_p, ite_or_p, Bool.decide_eq_true, Bool.and_eq_true, Bool.or_eq_true, Bool.not_eq_true', Bool.not_eq_false', Bool.and_eq_false_imp, Bool.or_eq_false_iff, bne_iff_ne, beq_iff_eq, bne_eq_false_iff_eq, beq_eq_false_iff_ne, gt_iff_lt, ge_iff_le, Int.not_lt, Int.not_le, ne_eq, Bool.true_eq_false, Bool.false_eq_true, reduceCtorEq, eta_Airway, eta_Fan, eta_Mine] at hb)
    | refine RetF.auto (And.intro rfl ?_)
    | exact Is.mk rfl rfl
    | refine Is.mk ?_ rfl
    | refine Is.mk rfl ?_
    | refine Is.mk ?_ ?_
  · have e := dlA_len h0 h1 h2
    refine ⟨by simp only [List.length_append, List.length_take, List.length_drop, List.length_cons, List.length_nil]; omega, ?_⟩
    rw [← dlA_take h0 h1 h2, List.append_assoc, List.take_append_of_le_length (by simp only [List.length_take]; omega), List.take_take, show min (n - 1) (n - 1) = n - 1 by omega]
--@fn slices.IndexFunc[[]impl.Airway,impl.Airway]
theorem idxFnA1 (xs : List GAirway) (f : Nat) (c1 : List PV) (p : GAirway → Bool) (hf : ∀ x, FnSem Tryz.prog f [.p .any (.agg x.cells), .p .any (.ref c1)] [] (Is [Bo (p x)] [])) : FnSem Tryz.prog 89 [LA xs, .p .any (.fn f [.ref c1])] [] (Is [In (idxG p xs)] []) := by
  refine FnSem.walk (zs := zeroPV Tryz.prog) (by kernel_rfl) Tryz.func89 rfl Tryz.results89 (by kernel_rfl) (by kernel_rfl) (by kernel_rfl) fun hw hh => ?_
  obtain ⟨w0, w1, _⟩ := hw
  first | replace w0 := wf_LAirway w0 | skip
  repeat' first
    | refine And.intro rfl ?_
    | refine GdF.mk (fun h => h) ?_
    | refine And.intro (Nat.succ_ne_zero _) ?_
    | refine And.intro (Nat.le_of_ble_eq_true rfl) ?_
    | refine SeqF.run ?_
    | refine ArgF.is (hf (xs.getD i.toNat default)) ?_
    | refine ArgQ.is (fun hG => hf (xs.getD i.toNat default)) rfl rfl ?_
    | refine LoopF.at 2 rfl (LoopF.fix [0, 1, 7] (Int) (fun i => 0 ≤ i ∧ i ≤ xs.length ∧ ∀ j : Nat, (j : Int) < i → p (xs.getD j default) = false) (fun i => [(8, In i)]) (fun i => []) (fun i => ((xs.length - i).toNat)) (0) ?_)
    | (refine LoopB.of (T := Int) ?_ ?_; rotate_left; rintro i ⟨h0, h1, h2⟩; rotate_left)
    | refine GhF.go ?_
    | refine EqP.mk _ (gm GAirway.cells default rfl) ?_
    | refine BndF.mk (fun _ => by omega) ?_
    | refine BndF.mk (fun _ => by simp only [lnS]; omega) ?_
    | refine EqI.mk _ (fun _ => wrapI (by omega) (by omega)) ?_
    | refine EqI.mk _ (fun _ => rfl) ?_
    | refine EqN.mk _ (ln GAirway.cells) ?_
    | refine EqN.mk _ (Nat.zero_add _) ?_
    | refine EqN.mk _ (Int.toNat_natCast _) ?_
    | refine EqN.mk _ rfl ?_
    | refine CallF.mk (CallW.is [] true rfl ?_)
    | refine CallG.mk ?_
    | (refine CondF.mk (fun hb => ?_) (fun hb => ?_) <;> try simp only [forall_const, eq_self, not_true_eq_false, not_false_eq_true, or_false, false_or, or_self, or_true, true_or, and_true, true_and, and_false, false_and, decide_true, decide_false, Bool.not_true, Bool.not_false, decide_eq_true_eq, decide_eq_false_iff_not, ite_and_p, ite_or_p, Bool.decide_eq_true, Bool.and_eq_true, Bool.or_eq_true, Bool.not_eq_true', Bool.not_eq_false', Bool.and_eq_false_imp, Bool.or_eq_false_iff, bne_iff_ne, beq_iff_eq, bne_eq_false_iff_eq, beq_eq_false_iff_ne, gt_iff_lt, ge_iff_le, Int.not_lt, Int.not_le, ne_eq, Bool.true_eq_false, Bool.false_eq_true, reduceCtorEq, eta_Airway, eta_Fan, eta_Mine] at hb)
    | apply BackF.auto
    | refine BackB.mk ?_ ?_
    | refine RetF.auto (And.intro rfl ?_)
    | exact Is.mk rfl rfl
    | refine Is.mk ?_ rfl
    | refine Is.mk rfl ?_
    | refine Is.mk ?_ ?_
  all_goals try dsimp only
  all_goals try simp only [Bo, I, OB.row.injEq, AV.osl.injEq, eI_same,  List.cons.injEq, AV.p.injEq, PV.c.injEq, Value.int.injEq, Value.bool.injEq, and_true, true_and, ite_and_p, ite_or_p, Bool.decide_eq_true, eta_Airway, eta_Fan, eta_Mine]
  all_goals first
    | omega
    | exact ⟨by omega, by omega, all_0⟩
    | exact ⟨by omega, by omega, all_s (P := fun j => p (xs.getD j default) = false) h0 h2 (by simpa using hb)⟩
    | exact idxG_at (d := default) h0 (by omega) hb h2
    | exact idxG_none (d := default) (by omega) h2
--@fn (impl.Mine).airwayNamed$1
theorem nam1 (x : GAirway) (id : ByteArray) : FnSem Tryz.prog 90 [.p .any (.agg x.cells), .p .any (.ref [.c (.string id)])] [] (Is [Bo (decide (x.id = id))] []) := by
  refine FnSem.walk (zs := zeroPV Tryz.prog) (by kernel_rfl) Tryz.func90 rfl Tryz.results90 (by kernel_rfl) (by kernel_rfl) (by kernel_rfl) fun hw hh => ?_
  obtain ⟨w0, w1, _⟩ := hw
  first | replace w0 := wf_Airway w0 | skip
  first | replace w1 := wf_I w1 | replace w1 := wf_Y w1 | replace w1 := wf_S w1 | replace w1 := wf_LI w1 | replace w1 := wf_LY w1 | replace w1 := wf_LLI w1 | replace w1 := wf_Ls w1 | skip
  repeat' first
    | refine And.intro rfl ?_
    | refine GdF.mk (fun h => h) ?_
    | refine And.intro (Nat.succ_ne_zero _) ?_
    | refine And.intro (Nat.le_of_ble_eq_true rfl) ?_
    | refine SeqF.run ?_
    | refine GhF.go ?_
    | (refine CondF.mk (fun hb => ?_) (fun hb => ?_) <;> try simp only [forall_const, eq_self, not_true_eq_false, not_false_eq_true, or_false, false_or, or_self, or_true, true_or, and_true, true_and, and_false, false_and, decide_true, decide_false, Bool.not_true, Bool.not_false, decide_eq_true_eq, decide_eq_false_iff_not, ite_and_p, ite_or_p, Bool.decide_eq_true, Bool.and_eq_true, Bool.or_eq_true, Bool.not_eq_true', Bool.not_eq_false', Bool.and_eq_false_imp, Bool.or_eq_false_iff, bne_iff_ne, beq_iff_eq, bne_eq_false_iff_eq, beq_eq_false_iff_ne, gt_iff_lt, ge_iff_le, Int.not_lt, Int.not_le, ne_eq, Bool.true_eq_false, Bool.false_eq_true, reduceCtorEq, eta_Airway, eta_Fan, eta_Mine] at hb)
    | refine RetF.auto (And.intro rfl ?_)
    | exact Is.mk rfl rfl
    | refine Is.mk ?_ rfl
    | refine Is.mk rfl ?_
    | refine Is.mk ?_ ?_
  all_goals try dsimp only
  all_goals try simp only [Bo, I, OB.row.injEq, AV.osl.injEq, eI_same,  List.cons.injEq, AV.p.injEq, PV.c.injEq, Value.int.injEq, Value.bool.injEq, and_true, true_and, ite_and_p, ite_or_p, Bool.decide_eq_true, eta_Airway, eta_Fan, eta_Mine]
def namI (m : GMine) (id : ByteArray) : Int := idxG (fun x => decide (x.id = id)) m.airways
--@fn (impl.Mine).airwayNamed
theorem nam2 (m : GMine) (id : ByteArray) : FnSem Tryz.prog 54 [.p .any (.agg m.cells), Str id] [] (Is [In (namI m id)] []) := by
  refine FnSem.walk (zs := zeroPV Tryz.prog) (by kernel_rfl) Tryz.func54 rfl Tryz.results54 (by kernel_rfl) (by kernel_rfl) (by kernel_rfl) fun hw hh => ?_
  obtain ⟨w0, w1, _⟩ := hw
  first | replace w0 := wf_Mine w0 | skip
  first | replace w1 := wf_S w1 | skip
  repeat' first
    | refine And.intro rfl ?_
    | refine GdF.mk (fun h => h) ?_
    | refine And.intro (Nat.succ_ne_zero _) ?_
    | refine And.intro (Nat.le_of_ble_eq_true rfl) ?_
    | refine SeqF.run ?_
    | refine ArgF.is (idxFnA1 m.airways 90 [.c (.string id)] (fun x => decide (x.id = id)) (fun x => nam1 x id)) ?_
    | refine ArgQ.is (fun hG => idxFnA1 m.airways 90 [.c (.string id)] (fun x => decide (x.id = id)) (fun x => nam1 x id)) rfl rfl ?_
    | refine GhF.go ?_
    | refine BndF.mk (fun _ => by omega) ?_
    | refine BndF.mk (fun _ => by simp only [lnS]; omega) ?_
    | refine EqL.mk _ (tk GAirway.cells (by first | rfl | assumption | omega | (simp only [lnS] <;> omega))) ?_
    | refine EqL.mk [] rfl ?_
    | refine EqL.mk [_] rfl ?_
    | refine EqL.mk _ rfl ?_
    | refine ArgF.is (c_slices_IndexFunc_impl_Airway_impl_Airway ..) ?_
    | refine ArgQ.is (fun hG => c_slices_IndexFunc_impl_Airway_impl_Airway ..) rfl rfl ?_
    | refine CallF.mk (CallW.is [] true rfl ?_)
    | refine CallG.mk ?_
    | (refine CondF.mk (fun hb => ?_) (fun hb => ?_) <;> try simp only [forall_const, eq_self, not_true_eq_false, not_false_eq_true, or_false, false_or, or_self, or_true, true_or, and_true, true_and, and_false, false_and, decide_true, decide_false, Bool.not_true, Bool.not_false, decide_eq_true_eq, decide_eq_false_iff_not, ite_and_p, ite_or_p, Bool.decide_eq_true, Bool.and_eq_true, Bool.or_eq_true, Bool.not_eq_true', Bool.not_eq_false', Bool.and_eq_false_imp, Bool.or_eq_false_iff, bne_iff_ne, beq_iff_eq, bne_eq_false_iff_eq, beq_eq_false_iff_ne, gt_iff_lt, ge_iff_le, Int.not_lt, Int.not_le, ne_eq, Bool.true_eq_false, Bool.false_eq_true, reduceCtorEq, eta_Airway, eta_Fan, eta_Mine] at hb)
    | refine RetF.auto (And.intro rfl ?_)
    | exact Is.mk rfl rfl
    | refine Is.mk ?_ rfl
    | refine Is.mk rfl ?_
    | refine Is.mk ?_ ?_
  all_goals skip
--@fn impl.orNotFound
theorem onfT (n : Int) : FnSem Tryz.prog 56 [In n, Bo true] [] (Is [In n, In 0] []) := by
  refine FnSem.walk (zs := zeroPV Tryz.prog) (by kernel_rfl) Tryz.func56 rfl Tryz.results56 (by kernel_rfl) (by kernel_rfl) (by kernel_rfl) fun hw hh => ?_
  obtain ⟨w0, w1, _⟩ := hw
  first | replace w0 := wf_I w0 | skip
  repeat' first
    | refine And.intro rfl ?_
    | refine GdF.mk (fun h => h) ?_
    | refine And.intro (Nat.succ_ne_zero _) ?_
    | refine And.intro (Nat.le_of_ble_eq_true rfl) ?_
    | refine SeqF.run ?_
    | refine GhF.go ?_
    | (refine CondF.mk (fun hb => ?_) (fun hb => ?_) <;> try simp only [forall_const, eq_self, not_true_eq_false, not_false_eq_true, or_false, false_or, or_self, or_true, true_or, and_true, true_and, and_false, false_and, decide_true, decide_false, Bool.not_true, Bool.not_false, decide_eq_true_eq, decide_eq_false_iff_not, ite_and_p, ite_or_p, Bool.decide_eq_true, Bool.and_eq_true, Bool.or_eq_true, Bool.not_eq_true', Bool.not_eq_false', Bool.and_eq_false_imp, Bool.or_eq_false_iff, bne_iff_ne, beq_iff_eq, bne_eq_false_iff_eq, beq_eq_false_iff_ne, gt_iff_lt, ge_iff_le, Int.not_lt, Int.not_le, ne_eq, Bool.true_eq_false, Bool.false_eq_true, reduceCtorEq, eta_Airway, eta_Fan, eta_Mine] at hb)
    | refine RetF.auto (And.intro rfl ?_)
    | exact Is.mk rfl rfl
    | refine Is.mk ?_ rfl
    | refine Is.mk rfl ?_
    | refine Is.mk ?_ ?_
--@fn impl.AirwayNamed
theorem namT (m : GMine) (id : ByteArray) (h : okMine m = true) (hk : 0 ≤ namI m id) : FnSem Tryz.prog 16 [.p .any (.agg m.cells), Str id] [] (Is [In (namI m id), In 0] []) := by
  have hv := c_impl_ValidMine m
  rw [h] at hv
  have ho := onfT (namI m id)
  rw [← decide_eq_true (show namI m id ≥ 0 by omega)] at ho
  refine FnSem.walk (zs := zeroPV Tryz.prog) (by kernel_rfl) Tryz.func16 rfl Tryz.results16 (by kernel_rfl) (by kernel_rfl) (by kernel_rfl) fun hw hh => ?_
  obtain ⟨w0, w1, _⟩ := hw
  first | replace w0 := wf_Mine w0 | skip
  first | replace w1 := wf_S w1 | skip
  repeat' first
    | refine And.intro rfl ?_
    | refine GdF.mk (fun h => h) ?_
    | refine And.intro (Nat.succ_ne_zero _) ?_
    | refine And.intro (Nat.le_of_ble_eq_true rfl) ?_
    | refine SeqF.run ?_
    | refine ArgF.is (hv) ?_
    | refine ArgQ.is (fun hG => hv) rfl rfl ?_
    | refine ArgF.is (nam2 m id) ?_
    | refine ArgQ.is (fun hG => nam2 m id) rfl rfl ?_
    | refine ArgF.is (ho) ?_
    | refine ArgQ.is (fun hG => ho) rfl rfl ?_
    | refine GhF.go ?_
    | refine BndF.mk (fun _ => by omega) ?_
    | refine BndF.mk (fun _ => by simp only [lnS]; omega) ?_
    | refine EqL.mk [] rfl ?_
    | refine EqL.mk [_] rfl ?_
    | refine EqL.mk _ rfl ?_
    | refine ArgF.is (c_impl_ValidMine ⟨_, _⟩) ?_
    | refine ArgQ.is (fun hG => c_impl_ValidMine ⟨_, _⟩) rfl rfl ?_
    | refine ArgF.is (c_impl_Mine_airwayNamed ..) ?_
    | refine ArgQ.is (fun hG => c_impl_Mine_airwayNamed ..) rfl rfl ?_
    | refine ArgF.is (c_impl_orNotFound ..) ?_
    | refine ArgQ.is (fun hG => c_impl_orNotFound ..) rfl rfl ?_
    | refine CallF.mk (CallW.is [] true rfl ?_)
    | refine CallG.mk ?_
    | (refine CondF.mk (fun hb => ?_) (fun hb => ?_) <;> try simp only [forall_const, eq_self, not_true_eq_false, not_false_eq_true, or_false, false_or, or_self, or_true, true_or, and_true, true_and, and_false, false_and, decide_true, decide_false, Bool.not_true, Bool.not_false, decide_eq_true_eq, decide_eq_false_iff_not, ite_and_p, ite_or_p, Bool.decide_eq_true, Bool.and_eq_true, Bool.or_eq_true, Bool.not_eq_true', Bool.not_eq_false', Bool.and_eq_false_imp, Bool.or_eq_false_iff, bne_iff_ne, beq_iff_eq, bne_eq_false_iff_eq, beq_eq_false_iff_ne, gt_iff_lt, ge_iff_le, Int.not_lt, Int.not_le, ne_eq, Bool.true_eq_false, Bool.false_eq_true, reduceCtorEq, eta_Airway, eta_Fan, eta_Mine] at hb)
    | refine RetF.auto (And.intro rfl ?_)
    | exact Is.mk rfl rfl
    | refine Is.mk ?_ rfl
    | refine Is.mk rfl ?_
    | refine Is.mk ?_ ?_
  all_goals skip
def cmpS (x y : ByteArray) : Int := if sLt x y = true then Int.negSucc 0 else if x = y then 0 else 1
--@fn cmp.isNaN[string]
theorem nanT (x : ByteArray) : FnSem Tryz.prog 85 [Str x] [] (Is [Bo false] []) := by
  refine FnSem.walk (zs := zeroPV Tryz.prog) (by kernel_rfl) Tryz.func85 rfl Tryz.results85 (by kernel_rfl) (by kernel_rfl) (by kernel_rfl) fun hw hh => ?_
  obtain ⟨w0, _⟩ := hw
  first | replace w0 := wf_S w0 | skip
  repeat' first
    | refine And.intro rfl ?_
    | refine GdF.mk (fun h => h) ?_
    | refine And.intro (Nat.succ_ne_zero _) ?_
    | refine And.intro (Nat.le_of_ble_eq_true rfl) ?_
    | refine SeqF.run ?_
    | refine GhF.go ?_
    | (refine CondF.mk (fun hb => ?_) (fun hb => ?_) <;> try simp only [forall_const, eq_self, not_true_eq_false, not_false_eq_true, or_false, false_or, or_self, or_true, true_or, and_true, true_and, and_false, false_and, decide_true, decide_false, Bool.not_true, Bool.not_false, decide_eq_true_eq, decide_eq_false_iff_not, ite_and_p, ite_or_p, Bool.decide_eq_true, Bool.and_eq_true, Bool.or_eq_true, Bool.not_eq_true', Bool.not_eq_false', Bool.and_eq_false_imp, Bool.or_eq_false_iff, bne_iff_ne, beq_iff_eq, bne_eq_false_iff_eq, beq_eq_false_iff_ne, gt_iff_lt, ge_iff_le, Int.not_lt, Int.not_le, ne_eq, Bool.true_eq_false, Bool.false_eq_true, reduceCtorEq, eta_Airway, eta_Fan, eta_Mine] at hb)
    | refine RetF.auto (And.intro rfl ?_)
    | exact Is.mk rfl rfl
    | refine Is.mk ?_ rfl
    | refine Is.mk rfl ?_
    | refine Is.mk ?_ ?_
  all_goals try dsimp only
  all_goals try simp only [Bo, I, OB.row.injEq, AV.osl.injEq, eI_same,  List.cons.injEq, AV.p.injEq, PV.c.injEq, Value.int.injEq, Value.bool.injEq, and_true, true_and, ite_and_p, ite_or_p, Bool.decide_eq_true, eta_Airway, eta_Fan, eta_Mine]
  all_goals first
    | simp
    | skip
--@fn cmp.Compare[string]
theorem cmpT (x y : ByteArray) : FnSem Tryz.prog 50 [Str x, Str y] [] (Is [In (cmpS x y)] []) := by
  refine FnSem.walk (zs := zeroPV Tryz.prog) (by kernel_rfl) Tryz.func50 rfl Tryz.results50 (by kernel_rfl) (by kernel_rfl) (by kernel_rfl) fun hw hh => ?_
  obtain ⟨w0, w1, _⟩ := hw
  first | replace w0 := wf_S w0 | skip
  first | replace w1 := wf_S w1 | skip
  repeat' first
    | refine And.intro rfl ?_
    | refine GdF.mk (fun h => h) ?_
    | refine And.intro (Nat.succ_ne_zero _) ?_
    | refine And.intro (Nat.le_of_ble_eq_true rfl) ?_
    | refine SeqF.run ?_
    | refine ArgF.is (nanT x) ?_
    | refine ArgQ.is (fun hG => nanT x) rfl rfl ?_
    | refine ArgF.is (nanT y) ?_
    | refine ArgQ.is (fun hG => nanT y) rfl rfl ?_
    | refine GhF.go ?_
    | refine BndF.mk (fun _ => by omega) ?_
    | refine BndF.mk (fun _ => by simp only [lnS]; omega) ?_
    | refine EqL.mk [] rfl ?_
    | refine EqL.mk [_] rfl ?_
    | refine EqL.mk _ rfl ?_
    | refine ArgF.is (c_cmp_isNaN_string ..) ?_
    | refine ArgQ.is (fun hG => c_cmp_isNaN_string ..) rfl rfl ?_
    | refine CallF.mk (CallW.is [] true rfl ?_)
    | refine CallG.mk ?_
    | (refine CondF.mk (fun hb => ?_) (fun hb => ?_) <;> try simp only [forall_const, eq_self, not_true_eq_false, not_false_eq_true, or_false, false_or, or_self, or_true, true_or, and_true, true_and, and_false, false_and, decide_true, decide_false, Bool.not_true, Bool.not_false, decide_eq_true_eq, decide_eq_false_iff_not, ite_and_p, ite_or_p, Bool.decide_eq_true, Bool.and_eq_true, Bool.or_eq_true, Bool.not_eq_true', Bool.not_eq_false', Bool.and_eq_false_imp, Bool.or_eq_false_iff, bne_iff_ne, beq_iff_eq, bne_eq_false_iff_eq, beq_eq_false_iff_ne, gt_iff_lt, ge_iff_le, Int.not_lt, Int.not_le, ne_eq, Bool.true_eq_false, Bool.false_eq_true, reduceCtorEq, eta_Airway, eta_Fan, eta_Mine] at hb)
    | refine RetF.auto (And.intro rfl ?_)
    | exact Is.mk rfl rfl
    | refine Is.mk ?_ rfl
    | refine Is.mk rfl ?_
    | refine Is.mk ?_ ?_
  all_goals try dsimp only
  all_goals try simp only [Bo, I, OB.row.injEq, AV.osl.injEq, eI_same,  List.cons.injEq, AV.p.injEq, PV.c.injEq, Value.int.injEq, Value.bool.injEq, and_true, true_and, ite_and_p, ite_or_p, Bool.decide_eq_true, eta_Airway, eta_Fan, eta_Mine, cmpS]
  all_goals first
    | (rw [if_pos (by assumption)]; rfl)
    | (rw [if_neg (by rw [hb.1]; decide), if_neg hb.2])
    | (rename_i h9
       rw [if_neg (by rw [h9]; decide), if_pos (by rcases hb with hb | hb; · rw [h9] at hb; cases hb
                                                   · exact hb)])
    | skip
--@fn impl.AddAirway$1
theorem add1 (x y : GAirway) : FnSem Tryz.prog 49 [.p .any (.agg x.cells), .p .any (.agg y.cells)] [] (Is [In (cmpS x.id y.id)] []) := by
  refine FnSem.walk (zs := zeroPV Tryz.prog) (by kernel_rfl) Tryz.func49 rfl Tryz.results49 (by kernel_rfl) (by kernel_rfl) (by kernel_rfl) fun hw hh => ?_
  obtain ⟨w0, w1, _⟩ := hw
  first | replace w0 := wf_Airway w0 | skip
  first | replace w1 := wf_Airway w1 | skip
  repeat' first
    | refine And.intro rfl ?_
    | refine GdF.mk (fun h => h) ?_
    | refine And.intro (Nat.succ_ne_zero _) ?_
    | refine And.intro (Nat.le_of_ble_eq_true rfl) ?_
    | refine SeqF.run ?_
    | refine ArgF.is (cmpT x.id y.id) ?_
    | refine ArgQ.is (fun hG => cmpT x.id y.id) rfl rfl ?_
    | refine GhF.go ?_
    | refine BndF.mk (fun _ => by omega) ?_
    | refine BndF.mk (fun _ => by simp only [lnS]; omega) ?_
    | refine EqL.mk [] rfl ?_
    | refine EqL.mk [_] rfl ?_
    | refine EqL.mk _ rfl ?_
    | refine ArgF.is (c_cmp_Compare_string ..) ?_
    | refine ArgQ.is (fun hG => c_cmp_Compare_string ..) rfl rfl ?_
    | refine CallF.mk (CallW.is [] true rfl ?_)
    | refine CallG.mk ?_
    | (refine CondF.mk (fun hb => ?_) (fun hb => ?_) <;> try simp only [forall_const, eq_self, not_true_eq_false, not_false_eq_true, or_false, false_or, or_self, or_true, true_or, and_true, true_and, and_false, false_and, decide_true, decide_false, Bool.not_true, Bool.not_false, decide_eq_true_eq, decide_eq_false_iff_not, ite_and_p, ite_or_p, Bool.decide_eq_true, Bool.and_eq_true, Bool.or_eq_true, Bool.not_eq_true', Bool.not_eq_false', Bool.and_eq_false_imp, Bool.or_eq_false_iff, bne_iff_ne, beq_iff_eq, bne_eq_false_iff_eq, beq_eq_false_iff_ne, gt_iff_lt, ge_iff_le, Int.not_lt, Int.not_le, ne_eq, Bool.true_eq_false, Bool.false_eq_true, reduceCtorEq, eta_Airway, eta_Fan, eta_Mine] at hb)
    | refine RetF.auto (And.intro rfl ?_)
    | exact Is.mk rfl rfl
    | refine Is.mk ?_ rfl
    | refine Is.mk rfl ?_
    | refine Is.mk ?_ ?_
  all_goals skip
structure bsP (xs : List GAirway) (a : GAirway) (k : Int) (b : Bool) : Prop where
  rg : 0 ≤ k ∧ k ≤ xs.length
  lo : 0 < k → cmpS (xs.getD (k - 1).toNat default).id a.id < 0
  hi : k < xs.length → 0 ≤ cmpS (xs.getD k.toNat default).id a.id
  eq : b = (decide (k < xs.length) && (cmpS (xs.getD k.toNat default).id a.id == 0))
--@fn slices.BinarySearchFunc[[]impl.Airway,impl.Airway,impl.Airway]
theorem bsfT (xs : List GAirway) (a : GAirway) (hl : xs.length ≤ 1000) : FnSem Tryz.prog 48 [LA xs, .p .any (.agg a.cells), .p .any (.fn 49 [])] [] (RetV (fun v : Int × Bool => [In v.1, Bo v.2]) (fun _ => []) (fun v => bsP xs a v.1 v.2)) := by
  refine FnSem.walk (zs := zeroPV Tryz.prog) (by kernel_rfl) Tryz.func48 rfl Tryz.results48 (by kernel_rfl) (by kernel_rfl) (by kernel_rfl) fun hw hh => ?_
  obtain ⟨w0, w1, w2, _⟩ := hw
  first | replace w0 := wf_LAirway w0 | skip
  first | replace w1 := wf_Airway w1 | skip
  repeat' first
    | refine And.intro rfl ?_
    | refine GdF.mk (fun h => h) ?_
    | refine And.intro (Nat.succ_ne_zero _) ?_
    | refine And.intro (Nat.le_of_ble_eq_true rfl) ?_
    | refine SeqF.run ?_
    | refine EqI.mk _ (fun _ => wrapU (by omega) (by omega)) ?_
    | refine EqI.mk _ (fun _ => shr1) ?_
    | refine ArgF.is (add1 (xs.getD ((i + j) / 2).toNat default) a) ?_
    | refine ArgQ.is (fun hG => add1 (xs.getD ((i + j) / 2).toNat default) a) rfl rfl ?_
    | refine ArgF.is (add1 (xs.getD i.toNat default) a) ?_
    | refine ArgQ.is (fun hG => add1 (xs.getD i.toNat default) a) rfl rfl ?_
    | refine RetV.mk (α := Int × Bool) (i, _) rfl rfl ?_
    | refine LoopF.at 3 rfl (LoopF.fix [0, 2, 4, 8] (Int × Int) (fun (i, j) => 0 ≤ i ∧ i ≤ j ∧ j ≤ xs.length ∧ (0 < i → cmpS (xs.getD (i - 1).toNat default).id a.id < 0) ∧ (j < xs.length → 0 ≤ cmpS (xs.getD j.toNat default).id a.id)) (fun (i, j) => [(9, In i), (10, In j)]) (fun (i, j) => []) (fun (i, j) => ((j - i).toNat)) ((0, xs.length)) ?_)
    | (refine LoopB.of (T := Int × Int) ?_ ?_; rotate_left; rintro ⟨i, j⟩ ⟨h0, h1, h2, h3, h4⟩; rotate_left)
    | refine GhF.go ?_
    | refine GdS.keep ?_
    | refine DrawG.old (DrawF.lex (by decide +kernel) ?_)
    | refine EqP.mk _ (gm GAirway.cells default rfl) ?_
    | refine BndF.mk (fun _ => by omega) ?_
    | refine BndF.mk (fun _ => by simp only [lnS]; omega) ?_
    | refine BndF.mk (fun hG => by simp only [forall_const, eq_self, not_true_eq_false, not_false_eq_true, or_false, false_or, or_self, or_true, true_or, and_true, true_and, and_false, false_and, decide_true, decide_false, Bool.not_true, Bool.not_false, decide_eq_true_eq, decide_eq_false_iff_not, ite_and_p, ite_or_p, Bool.decide_eq_true, Bool.and_eq_true, Bool.or_eq_true, Bool.not_eq_true', Bool.not_eq_false', Bool.and_eq_false_imp, Bool.or_eq_false_iff, bne_iff_ne, beq_iff_eq, bne_eq_false_iff_eq, beq_eq_false_iff_ne, gt_iff_lt, ge_iff_le, Int.not_lt, Int.not_le, ne_eq, Bool.true_eq_false, Bool.false_eq_true, reduceCtorEq, eta_Airway, eta_Fan, eta_Mine, bytes_nil] at hG; (try simp only [List.length_map]); omega) ?_
    | refine EqI.mk _ (fun _ => wrapI (by omega) (by omega)) ?_
    | refine EqI.mk _ (fun _ => rfl) ?_
    | refine EqN.mk _ (ln GAirway.cells) ?_
    | refine EqN.mk _ (Nat.zero_add _) ?_
    | refine EqN.mk _ (Int.toNat_natCast _) ?_
    | refine EqN.mk _ rfl ?_
    | refine CallF.mk (CallW.is [] true rfl ?_)
    | refine CallG.mk ?_
    | (refine CondF.mk (fun hb => ?_) (fun hb => ?_) <;> try simp only [forall_const, eq_self, not_true_eq_false, not_false_eq_true, or_false, false_or, or_self, or_true, true_or, and_true, true_and, and_false, false_and, decide_true, decide_false, Bool.not_true, Bool.not_false, decide_eq_true_eq, decide_eq_false_iff_not, ite_and_p, ite_or_p, Bool.decide_eq_true, Bool.and_eq_true, Bool.or_eq_true, Bool.not_eq_true', Bool.not_eq_false', Bool.and_eq_false_imp, Bool.or_eq_false_iff, bne_iff_ne, beq_iff_eq, bne_eq_false_iff_eq, beq_eq_false_iff_ne, gt_iff_lt, ge_iff_le, Int.not_lt, Int.not_le, ne_eq, Bool.true_eq_false, Bool.false_eq_true, reduceCtorEq, eta_Airway, eta_Fan, eta_Mine] at hb)
    | apply BackF.auto2
    | refine BackB.mk ?_ ?_
    | refine RetF.auto (And.intro rfl ?_)
    | exact Is.mk rfl rfl
    | refine Is.mk ?_ rfl
    | refine Is.mk rfl ?_
    | refine Is.mk ?_ ?_
  all_goals try dsimp only
  all_goals first
    | omega
    | exact ⟨by omega, by omega, by omega, fun h => by omega, fun h => by omega⟩
    | exact ⟨by omega, by omega, by omega, fun _ => by rw [show (i + j) / 2 + 1 - 1 = (i + j) / 2 by omega]; exact hb, h4⟩
    | exact ⟨by omega, by omega, by omega, h3, fun _ => by omega⟩
    | (obtain rfl : i = j := by omega
       refine ⟨⟨h0, by omega⟩, h3, h4, ?_⟩
       show (if decide (i < (xs.length : Int)) = true then _ else false) = _
       cases decide (i < (xs.length : Int)) <;> rfl)
    | skip
end Go.Proofs.YtdhkpmaanegjkaaGreatDoor
