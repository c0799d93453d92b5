/- Contracts of functions of the program, and what they compute. Conditions: those that each theorem states. -/
import Derived.Test.YtdhkpmaanegjkaaGreatDoorProg
import Derived.Test.YtdhkpmaanegjkaaGreatDoorK15
import Derived.Test.YtdhkpmaanegjkaaGreatDoorJ0
import Derived.Test.YtdhkpmaanegjkaaGreatDoorL2
set_option linter.unusedVariables false
set_option linter.unusedSimpArgs false
namespace Go.Proofs.YtdhkpmaanegjkaaGreatDoor
open Go.Av
attribute [local irreducible] Go.IntKind.wrap leastI rdZ rd rootI rawA
set_option maxRecDepth 20000
set_option maxHeartbeats 8000000
def inJ (j n : Int) : Bool := inR n 0 (j - 1)
def endsA (j : Int) (a : GAirway) : Bool := inJ j a.from_ && inJ j a.to
def okAw (j : Int) (a : GAirway) : Bool := okAirway a && endsA j a
def okMine (m : GMine) : Bool := inR m.junctions 1 16 && decide (m.airways.length ≤ 24) && okAll (okAw m.junctions) (fun a b => sLt a.id b.id) default m.airways
theorem okMine_p {m : GMine} (h : okMine m = true) : (1 ≤ m.junctions ∧ m.junctions ≤ 16) ∧ m.airways.length ≤ 24 ∧ ∀ j : Nat, (j : Int) < m.airways.length → okAirway (m.airways.getD j default) = true ∧ (0 ≤ (m.airways.getD j default).from_ ∧ (m.airways.getD j default).from_ < m.junctions) ∧ 0 ≤ (m.airways.getD j default).to ∧ (m.airways.getD j default).to < m.junctions := by
  simp only [okMine, Bool.and_eq_true, inR_iff, decide_eq_true_eq] at h
  refine ⟨h.1.1, h.1.2, fun j hj => ?_⟩
  have h2 := h.2
  unfold okAll at h2
  rw [Bool.and_eq_true] at h2
  have h3 := List.all_eq_true.1 h2.1 _ (getD_mem (d := default) (xs := m.airways) (j := j) (by omega))
  simp only [okAw, endsA, inJ, Bool.and_eq_true, inR_iff] at h3
  exact ⟨h3.1, by omega, by omega⟩
theorem c_impl_Mine_hasJunction (m : GMine) (n : Int) (hj : 0 ≤ m.junctions ∧ m.junctions ≤ 1000) : FnSem Tryz.prog 86 [.p .any (.agg m.cells), In n] [] (Is [Bo (inJ m.junctions n)] []) := by
  refine FnSem.walk (zs := zeroPV Tryz.prog) (by kernel_rfl) Tryz.func86 rfl Tryz.results86 (by kernel_rfl) (by kernel_rfl) (by kernel_rfl) fun hw hh => ?_
  obtain ⟨w0, w1, _⟩ := hw
  first | replace w0 := wf_Mine w0 | skip
  first | replace w1 := wf_I w1 | skip
  repeat' first
    | refine And.intro rfl ?_
    | refine GdF.mk (fun h => h) ?_
    | refine And.intro (Nat.succ_ne_zero _) ?_
    | refine And.intro (Nat.le_of_ble_eq_true rfl) ?_
    | refine SeqF.run ?_
    | refine GhF.go ?_
    | refine BndF.mk (fun _ => by omega) ?_
    | refine BndF.mk (fun _ => by simp only [lnS]; omega) ?_
    | refine EqI.mk _ (fun _ => wrapI (by omega) (by omega)) ?_
    | refine EqI.mk _ (fun _ => rfl) ?_
    | refine EqL.mk [] rfl ?_
    | refine EqL.mk [_] rfl ?_
    | refine EqL.mk _ rfl ?_
    | refine ArgF.is (c_impl_within ..) ?_
    | refine ArgQ.is (fun hG => c_impl_within ..) rfl rfl ?_
    | refine CallF.mk (CallW.is [] true rfl ?_)
    | refine CallG.mk ?_
    | (refine CondF.mk (fun hb => ?_) (fun hb => ?_) <;> try simp only [forall_const, eq_self, not_true_eq_false, not_false_eq_true, or_false, false_or, or_self, or_true, true_or, and_true, true_and, and_false, false_and, decide_true, decide_false, Bool.not_true, Bool.not_false, decide_eq_true_eq, decide_eq_false_iff_not, ite_and_p, ite_or_p, Bool.decide_eq_true, Bool.and_eq_true, Bool.or_eq_true, Bool.not_eq_true', Bool.not_eq_false', Bool.and_eq_false_imp, Bool.or_eq_false_iff, bne_iff_ne, beq_iff_eq, bne_eq_false_iff_eq, beq_eq_false_iff_ne, gt_iff_lt, ge_iff_le, Int.not_lt, Int.not_le, ne_eq, Bool.true_eq_false, Bool.false_eq_true, reduceCtorEq, eta_Airway, eta_Fan, eta_Mine] at hb)
    | refine RetF.auto (And.intro rfl ?_)
    | exact Is.mk rfl rfl
    | refine Is.mk ?_ rfl
    | refine Is.mk rfl ?_
    | refine Is.mk ?_ ?_
  all_goals try dsimp only
  all_goals try simp only [Bo, I, OB.row.injEq, AV.osl.injEq, eI_same,  List.cons.injEq, AV.p.injEq, PV.c.injEq, Value.int.injEq, Value.bool.injEq, and_true, true_and, ite_and_p, ite_or_p, Bool.decide_eq_true, eta_Airway, eta_Fan, eta_Mine, inJ]
theorem c_impl_Mine_hasEnds (m : GMine) (a : GAirway) (hj : 0 ≤ m.junctions ∧ m.junctions ≤ 1000) : FnSem Tryz.prog 51 [.p .any (.agg m.cells), .p .any (.agg a.cells)] [] (Is [Bo (endsA m.junctions a)] []) := by
  refine FnSem.walk (zs := zeroPV Tryz.prog) (by kernel_rfl) Tryz.func51 rfl Tryz.results51 (by kernel_rfl) (by kernel_rfl) (by kernel_rfl) fun hw hh => ?_
  obtain ⟨w0, w1, _⟩ := hw
  first | replace w0 := wf_Mine w0 | skip
  first | replace w1 := wf_Airway w1 | skip
  repeat' first
    | refine And.intro rfl ?_
    | refine GdF.mk (fun h => h) ?_
    | refine And.intro (Nat.succ_ne_zero _) ?_
    | refine And.intro (Nat.le_of_ble_eq_true rfl) ?_
    | refine SeqF.run ?_
    | refine ArgF.is (c_impl_Mine_hasJunction m _ (by assumption)) ?_
    | refine ArgQ.is (fun hG => c_impl_Mine_hasJunction m _ (by assumption)) rfl rfl ?_
    | refine GhF.go ?_
    | refine GdS.keep ?_
    | refine BndF.mk (fun _ => by omega) ?_
    | refine BndF.mk (fun _ => by simp only [lnS]; omega) ?_
    | refine BndF.mk (fun hG => by simp only [forall_const, eq_self, not_true_eq_false, not_false_eq_true, or_false, false_or, or_self, or_true, true_or, and_true, true_and, and_false, false_and, decide_true, decide_false, Bool.not_true, Bool.not_false, decide_eq_true_eq, decide_eq_false_iff_not, ite_and_p, ite_or_p, Bool.decide_eq_true, Bool.and_eq_true, Bool.or_eq_true, Bool.not_eq_true', Bool.not_eq_false', Bool.and_eq_false_imp, Bool.or_eq_false_iff, bne_iff_ne, beq_iff_eq, bne_eq_false_iff_eq, beq_eq_false_iff_ne, gt_iff_lt, ge_iff_le, Int.not_lt, Int.not_le, ne_eq, Bool.true_eq_false, Bool.false_eq_true, reduceCtorEq, eta_Airway, eta_Fan, eta_Mine, bytes_nil] at hG; (try simp only [List.length_map]); omega) ?_
    | refine EqL.mk [] rfl ?_
    | refine EqL.mk [_] rfl ?_
    | refine EqL.mk _ rfl ?_
    | refine ArgF.is (c_impl_Mine_hasJunction ⟨_, _⟩ _ (by first | assumption | omega)) ?_
    | refine ArgQ.is (fun hG => c_impl_Mine_hasJunction ⟨_, _⟩ _ (by first | assumption | omega)) rfl rfl ?_
    | refine ArgQ.is (fun hG => c_impl_Mine_hasJunction ⟨_, _⟩ _ (by simp only [forall_const, eq_self, not_true_eq_false, not_false_eq_true, or_false, false_or, or_self, or_true, true_or, and_true, true_and, and_false, false_and, decide_true, decide_false, Bool.not_true, Bool.not_false, decide_eq_true_eq, decide_eq_false_iff_not, ite_and_p, ite_or_p, Bool.decide_eq_true, Bool.and_eq_true, Bool.or_eq_true, Bool.not_eq_true', Bool.not_eq_false', Bool.and_eq_false_imp, Bool.or_eq_false_iff, bne_iff_ne, beq_iff_eq, bne_eq_false_iff_eq, beq_eq_false_iff_ne, gt_iff_lt, ge_iff_le, Int.not_lt, Int.not_le, ne_eq, Bool.true_eq_false, Bool.false_eq_true, reduceCtorEq, eta_Airway, eta_Fan, eta_Mine, bytes_nil] at hG; omega)) rfl rfl ?_
    | refine CallF.mk (CallW.is [] true rfl ?_)
    | refine CallG.mk ?_
    | (refine CondF.mk (fun hb => ?_) (fun hb => ?_) <;> try simp only [forall_const, eq_self, not_true_eq_false, not_false_eq_true, or_false, false_or, or_self, or_true, true_or, and_true, true_and, and_false, false_and, decide_true, decide_false, Bool.not_true, Bool.not_false, decide_eq_true_eq, decide_eq_false_iff_not, ite_and_p, ite_or_p, Bool.decide_eq_true, Bool.and_eq_true, Bool.or_eq_true, Bool.not_eq_true', Bool.not_eq_false', Bool.and_eq_false_imp, Bool.or_eq_false_iff, bne_iff_ne, beq_iff_eq, bne_eq_false_iff_eq, beq_eq_false_iff_ne, gt_iff_lt, ge_iff_le, Int.not_lt, Int.not_le, ne_eq, Bool.true_eq_false, Bool.false_eq_true, reduceCtorEq, eta_Airway, eta_Fan, eta_Mine] at hb)
    | refine RetF.auto (And.intro rfl ?_)
    | exact Is.mk rfl rfl
    | refine Is.mk ?_ rfl
    | refine Is.mk rfl ?_
    | refine Is.mk ?_ ?_
  all_goals try dsimp only
  all_goals try simp only [Bo, I, OB.row.injEq, AV.osl.injEq, eI_same,  List.cons.injEq, AV.p.injEq, PV.c.injEq, Value.int.injEq, Value.bool.injEq, and_true, true_and, ite_and_p, ite_or_p, Bool.decide_eq_true, eta_Airway, eta_Fan, eta_Mine, endsA]
theorem c_impl_ValidMine (m : GMine) : FnSem Tryz.prog 33 [.p .any (.agg m.cells)] [] (Is [Bo (okMine m)] []) := by
  refine FnSem.walk (zs := zeroPV Tryz.prog) (by kernel_rfl) Tryz.func33 rfl Tryz.results33 (by kernel_rfl) (by kernel_rfl) (by kernel_rfl) fun hw hh => ?_
  obtain ⟨w0, _⟩ := hw
  first | replace w0 := wf_Mine w0 | skip
  repeat' first
    | refine And.intro rfl ?_
    | refine GdF.mk (fun h => h) ?_
    | refine And.intro (Nat.succ_ne_zero _) ?_
    | refine And.intro (Nat.le_of_ble_eq_true rfl) ?_
    | refine SeqF.run ?_
    | refine ArgF.is (c_impl_Mine_hasEnds m _ (by assumption)) ?_
    | refine ArgQ.is (fun hG => c_impl_Mine_hasEnds m _ (by assumption)) rfl rfl ?_
    | refine ArgF.is (c_impl_ValidAirway (m.airways.getD i.toNat default)) ?_
    | refine ArgQ.is (fun hG => c_impl_ValidAirway (m.airways.getD i.toNat default)) rfl rfl ?_
    | refine LoopF.at 4 rfl (LoopF.fix [1, 16, 17] (Int) (fun i => 0 ≤ i ∧ i ≤ m.airways.length ∧ m.airways.length ≤ 24 ∧ (0 ≤ m.junctions ∧ m.junctions ≤ 1000) ∧ inR m.junctions 1 16 = true ∧ okTo (okAw m.junctions) (fun a b => sLt a.id b.id) default m.airways i) (fun i => [(18, In i)]) (fun i => []) (fun i => ((m.airways.length - i).toNat)) (0) ?_)
    | (refine LoopB.of (T := Int) ?_ ?_; rotate_left; rintro i ⟨h0, h1, h2, h3, h4, h5⟩; rotate_left)
    | refine GhF.go ?_
    | refine GdS.keep ?_
    | refine DrawG.old (DrawF.lex (by decide +kernel) ?_)
    | refine EqP.mk _ (gm GAirway.cells default rfl) ?_
    | refine BndF.mk (fun _ => by omega) ?_
    | refine BndF.mk (fun _ => by simp only [lnS]; omega) ?_
    | refine BndF.mk (fun hG => by simp only [forall_const, eq_self, not_true_eq_false, not_false_eq_true, or_false, false_or, or_self, or_true, true_or, and_true, true_and, and_false, false_and, decide_true, decide_false, Bool.not_true, Bool.not_false, decide_eq_true_eq, decide_eq_false_iff_not, ite_and_p, ite_or_p, Bool.decide_eq_true, Bool.and_eq_true, Bool.or_eq_true, Bool.not_eq_true', Bool.not_eq_false', Bool.and_eq_false_imp, Bool.or_eq_false_iff, bne_iff_ne, beq_iff_eq, bne_eq_false_iff_eq, beq_eq_false_iff_ne, gt_iff_lt, ge_iff_le, Int.not_lt, Int.not_le, ne_eq, Bool.true_eq_false, Bool.false_eq_true, reduceCtorEq, eta_Airway, eta_Fan, eta_Mine, bytes_nil] at hG; (try simp only [List.length_map]); omega) ?_
    | refine EqI.mk _ (fun _ => wrapI (by omega) (by omega)) ?_
    | refine EqI.mk _ (fun _ => rfl) ?_
    | refine EqN.mk _ (ln GAirway.cells) ?_
    | refine EqN.mk _ (Nat.zero_add _) ?_
    | refine EqN.mk _ (Int.toNat_natCast _) ?_
    | refine EqN.mk _ rfl ?_
    | refine EqL.mk _ (tk GAirway.cells (by first | rfl | assumption | omega | (simp only [lnS] <;> omega))) ?_
    | refine EqL.mk _ (st GAirway.cells) ?_
    | refine EqL.mk [] rfl ?_
    | refine EqL.mk [_] rfl ?_
    | refine EqL.mk _ rfl ?_
    | refine ArgF.is (c_impl_within ..) ?_
    | refine ArgQ.is (fun hG => c_impl_within ..) rfl rfl ?_
    | refine ArgF.is (c_impl_ValidAirway ⟨_, _, _, _, _, _, _⟩) ?_
    | refine ArgQ.is (fun hG => c_impl_ValidAirway ⟨_, _, _, _, _, _, _⟩) rfl rfl ?_
    | refine ArgF.is (c_impl_Mine_hasEnds ⟨_, _⟩ ⟨_, _, _, _, _, _, _⟩ (by first | assumption | omega)) ?_
    | refine ArgQ.is (fun hG => c_impl_Mine_hasEnds ⟨_, _⟩ ⟨_, _, _, _, _, _, _⟩ (by first | assumption | omega)) rfl rfl ?_
    | refine ArgQ.is (fun hG => c_impl_Mine_hasEnds ⟨_, _⟩ ⟨_, _, _, _, _, _, _⟩ (by simp only [forall_const, eq_self, not_true_eq_false, not_false_eq_true, or_false, false_or, or_self, or_true, true_or, and_true, true_and, and_false, false_and, decide_true, decide_false, Bool.not_true, Bool.not_false, decide_eq_true_eq, decide_eq_false_iff_not, ite_and_p, ite_or_p, Bool.decide_eq_true, Bool.and_eq_true, Bool.or_eq_true, Bool.not_eq_true', Bool.not_eq_false', Bool.and_eq_false_imp, Bool.or_eq_false_iff, bne_iff_ne, beq_iff_eq, bne_eq_false_iff_eq, beq_eq_false_iff_ne, gt_iff_lt, ge_iff_le, Int.not_lt, Int.not_le, ne_eq, Bool.true_eq_false, Bool.false_eq_true, reduceCtorEq, eta_Airway, eta_Fan, eta_Mine, bytes_nil] at hG; omega)) rfl rfl ?_
    | refine CallF.mk (CallW.is [] true rfl ?_)
    | refine CallG.mk ?_
    | (refine CondF.mk (fun hb => ?_) (fun hb => ?_) <;> try simp only [forall_const, eq_self, not_true_eq_false, not_false_eq_true, or_false, false_or, or_self, or_true, true_or, and_true, true_and, and_false, false_and, decide_true, decide_false, Bool.not_true, Bool.not_false, decide_eq_true_eq, decide_eq_false_iff_not, ite_and_p, ite_or_p, Bool.decide_eq_true, Bool.and_eq_true, Bool.or_eq_true, Bool.not_eq_true', Bool.not_eq_false', Bool.and_eq_false_imp, Bool.or_eq_false_iff, bne_iff_ne, beq_iff_eq, bne_eq_false_iff_eq, beq_eq_false_iff_ne, gt_iff_lt, ge_iff_le, Int.not_lt, Int.not_le, ne_eq, Bool.true_eq_false, Bool.false_eq_true, reduceCtorEq, eta_Airway, eta_Fan, eta_Mine] at hb)
    | apply BackF.auto
    | refine BackB.mk ?_ ?_
    | refine RetF.auto (And.intro rfl ?_)
    | exact Is.mk rfl rfl
    | refine Is.mk ?_ rfl
    | refine Is.mk rfl ?_
    | refine Is.mk ?_ ?_
  all_goals try dsimp only
  all_goals try simp only [Bo, I, OB.row.injEq, AV.osl.injEq, eI_same,  List.cons.injEq, AV.p.injEq, PV.c.injEq, Value.int.injEq, Value.bool.injEq, and_true, true_and, ite_and_p, ite_or_p, Bool.decide_eq_true, eta_Airway, eta_Fan, eta_Mine]
  · unfold okMine; grind
  · exact ⟨by omega, by omega, by omega, by have h := inR_iff.1 (by simpa using hb.1 : inR m.junctions 1 16 = true); omega, by simpa using hb.1, okTo_0⟩
  · unfold okMine
    rw [okAll_f h0 (by omega) (by rw [sLt_f]; simp only [okAw]; grind), Bool.and_false]
  · exact ⟨by omega, by omega, h2, h3, h4, okTo_s h0 h5 (by simp only [okAw]; grind) (fun h => sLt_t.2 (hb.2 h))⟩
  · omega
  · unfold okMine
    rw [okAll_t hb h5, h4, decide_eq_true h2]; rfl
end Go.Proofs.YtdhkpmaanegjkaaGreatDoor

set_option linter.unusedVariables false
set_option linter.unusedSimpArgs false
namespace Go.Proofs.YtdhkpmaanegjkaaGreatDoor
open Go.Av
attribute [local irreducible] Go.IntKind.wrap leastI rdZ rd rootI rawA okMine
set_option maxRecDepth 20000
set_option maxHeartbeats 8000000
section
variable (m : GMine) (g : List Int) (rg : List Bool)
def awI (i : Nat) : GAirway := m.airways.getD i default
def okL (at_ : Int) (i : Nat) : Bool := decide ((awI m i).from_ = at_) || (decide ((awI m i).to = at_) && !rg.getD i false)
def nxL (at_ : Int) (i : Nat) : Int := if (awI m i).from_ = at_ then (awI m i).to else (awI m i).from_
def gnL (at_ : Int) (i : Nat) : Int := if (awI m i).to = at_ then -g.getD i 0 else g.getD i 0
def spL (at_ : Int) (i : Nat) : Int := if (awI m i).from_ = at_ then (i : Int) + 1 else -(i : Int) - 1
def okW : Int → List Nat → Prop
  | _, [] => True
  | a, i :: es => i < m.airways.length ∧ okL m rg a i = true ∧ okW (nxL m a i) es
def enW : Int → List Nat → Int
  | a, [] => a
  | a, i :: es => enW (nxL m a i) es
def suW : Int → List Nat → Int
  | _, [] => 0
  | a, i :: es => gnL m g a i + suW (nxL m a i) es
def viW : Int → List Nat → List Int
  | _, [] => []
  | a, i :: es => a :: viW (nxL m a i) es
def spW : Int → List Nat → List Int
  | _, [] => []
  | a, i :: es => spL m a i :: spW (nxL m a i) es
def inV (v : Int) : Prop := 0 ≤ v ∧ v < m.junctions
end
section
variable {m : GMine} {g : List Int} {rg : List Bool}
theorem okW_app : ∀ (a : Int) (xs ys : List Nat), okW m rg a (xs ++ ys) ↔ okW m rg a xs ∧ okW m rg (enW m a xs) ys
  | a, [], ys => by simp [okW, enW]
  | a, i :: xs, ys => by simp only [List.cons_append, okW, enW, okW_app _ xs ys, and_assoc]
theorem enW_app : ∀ (a : Int) (xs ys : List Nat), enW m a (xs ++ ys) = enW m (enW m a xs) ys
  | a, [], ys => rfl
  | a, i :: xs, ys => by simp only [List.cons_append, enW, enW_app _ xs ys]
theorem suW_app : ∀ (a : Int) (xs ys : List Nat), suW m g a (xs ++ ys) = suW m g a xs + suW m g (enW m a xs) ys
  | a, [], ys => by simp [suW, enW]
  | a, i :: xs, ys => by simp only [List.cons_append, suW, enW, suW_app _ xs ys]; omega
theorem viW_app : ∀ (a : Int) (xs ys : List Nat), viW m a (xs ++ ys) = viW m a xs ++ viW m (enW m a xs) ys
  | a, [], ys => rfl
  | a, i :: xs, ys => by simp only [List.cons_append, viW, enW, viW_app _ xs ys]
theorem viW_len : ∀ (a : Int) (xs : List Nat), (viW m a xs).length = xs.length
  | a, [] => rfl
  | a, i :: xs => by simp only [viW, List.length_cons, viW_len _ xs]
theorem spW_len : ∀ (a : Int) (xs : List Nat), (spW m a xs).length = xs.length
  | a, [] => rfl
  | a, i :: xs => by simp only [spW, List.length_cons, spW_len _ xs]
theorem nxV (hm : okMine m = true) {a : Int} {i : Nat} (hi : i < m.airways.length) : inV m (nxL m a i) := by
  have q := (okMine_p hm).2.2 i (by omega)
  unfold nxL inV awI
  split
  · exact q.2.2
  · exact q.2.1
theorem enV (hm : okMine m = true) : ∀ (a : Int) (es : List Nat), inV m a → okW m rg a es → inV m (enW m a es)
  | a, [], h, _ => h
  | a, i :: es, h, ho => enV hm _ es (nxV hm ho.1) ho.2.2
theorem viV (hm : okMine m = true) : ∀ (a : Int) (es : List Nat), inV m a → okW m rg a es → ∀ v ∈ viW m a es, inV m v
  | a, [], h, _, v, hv => by simp [viW] at hv
  | a, i :: es, h, ho, v, hv => by
    simp only [viW, List.mem_cons] at hv
    rcases hv with rfl | hv
    · exact h
    · exact viV hm _ es (nxV hm ho.1) ho.2.2 v hv
theorem memW : ∀ (a : Int) (es : List Nat) (v : Int), v ∈ viW m a es → ∃ us ws, es = us ++ ws ∧ ws ≠ [] ∧ enW m a us = v
  | a, [], v, h => by simp [viW] at h
  | a, i :: es, v, h => by
    simp only [viW, List.mem_cons] at h
    rcases h with rfl | h
    · exact ⟨[], i :: es, rfl, by simp, rfl⟩
    · obtain ⟨us, ws, e1, e2, e3⟩ := memW _ es v h
      exact ⟨i :: us, ws, by rw [e1]; rfl, e2, e3⟩
theorem dupW : ∀ (a : Int) (es : List Nat), ¬(viW m a es).Nodup → ∃ xs ys zs, es = xs ++ ys ++ zs ∧ ys ≠ [] ∧ zs ≠ [] ∧ enW m (enW m a xs) ys = enW m a xs
  | a, [], h => by simp [viW] at h
  | a, i :: es, h => by
    simp only [viW, List.nodup_cons] at h
    by_cases h1 : a ∈ viW m (nxL m a i) es
    · obtain ⟨us, ws, e1, e2, e3⟩ := memW _ es a h1
      exact ⟨[], i :: us, ws, by rw [e1]; rfl, by simp, e2, e3⟩
    · obtain ⟨xs, ys, zs, e1, e2, e3, e4⟩ := dupW _ es (fun h2 => h ⟨h1, h2⟩)
      exact ⟨i :: xs, ys, zs, by rw [e1]; rfl, e2, e3, e4⟩
theorem pigW : ∀ (n : Nat) (l : List Int), l.Nodup → (∀ x ∈ l, 0 ≤ x ∧ x < (n : Int)) → l.length ≤ n
  | 0, l, _, h => by
    cases l with
    | nil => simp
    | cons x l => have := h x (by simp); omega
  | n + 1, l, hn, h => by
    have ih := pigW n (l.erase (n : Int)) (hn.erase _) (fun x hx => by
      rw [hn.mem_erase_iff] at hx
      have := h x hx.2
      have := hx.1
      omega)
    rw [List.length_erase] at ih
    split at ih <;> omega
theorem dupE (hm : okMine m = true) (a : Int) (es : List Nat) (ha : inV m a) (ho : okW m rg a es) (hl : m.junctions ≤ es.length) : ∃ xs ys zs, es = xs ++ ys ++ zs ∧ ys ≠ [] ∧ enW m (enW m a xs) ys = enW m a xs := by
  by_cases h : (viW m a es).Nodup
  · by_cases h2 : enW m a es ∈ viW m a es
    · obtain ⟨us, ws, e1, e2, e3⟩ := memW _ es _ h2
      refine ⟨us, ws, [], by rw [e1]; simp, e2, ?_⟩
      rw [← enW_app, ← e1, e3]
    · exfalso
      have h3 : (enW m a es :: viW m a es).Nodup := List.nodup_cons.2 ⟨h2, h⟩
      have hJ := (okMine_p hm).1
      have := pigW m.junctions.toNat _ h3 (fun x hx => by
        rw [List.mem_cons] at hx
        have hx2 : inV m x := by
          rcases hx with rfl | hx
          · exact enV hm a es ha ho
          · exact viV hm a es ha ho x hx
        unfold inV at hx2; omega)
      rw [List.length_cons, viW_len] at this
      omega
  · obtain ⟨xs, ys, zs, e1, e2, _, e4⟩ := dupW a es h
    exact ⟨xs, ys, zs, e1, e2, e4⟩
theorem ed0 (hm : okMine m = true) {i : Nat} (hi : i < m.airways.length) : okL m rg (m.airways.getD i default).from_ i = true ∧ nxL m (m.airways.getD i default).from_ i = (m.airways.getD i default).to ∧ gnL m g (m.airways.getD i default).from_ i = g.getD i 0 := by
  have q := okAirway_b ((okMine_p hm).2.2 i (by omega)).1
  unfold okL nxL gnL awI
  rw [if_pos rfl, if_neg (by omega), decide_eq_true rfl]
  exact ⟨by simp, rfl, rfl⟩
theorem ed1 (hm : okMine m = true) {i : Nat} (hi : i < m.airways.length) (hr : rg.getD i false = false) : okL m rg (m.airways.getD i default).to i = true ∧ nxL m (m.airways.getD i default).to i = (m.airways.getD i default).from_ ∧ gnL m g (m.airways.getD i default).to i = -g.getD i 0 := by
  have q := okAirway_b ((okMine_p hm).2.2 i (by omega)).1
  unfold okL nxL gnL awI
  rw [if_pos rfl, if_neg (by omega), decide_eq_true rfl, hr]
  exact ⟨by simp, rfl, rfl⟩
theorem edV (hm : okMine m = true) {i : Nat} (hi : i < m.airways.length) : inV m (m.airways.getD i default).from_ ∧ inV m (m.airways.getD i default).to := ((okMine_p hm).2.2 i (by omega)).2
end
end Go.Proofs.YtdhkpmaanegjkaaGreatDoor

set_option linter.unusedVariables false
set_option linter.unusedSimpArgs false
namespace Go.Proofs.YtdhkpmaanegjkaaGreatDoor
open Go.Av
attribute [local irreducible] Go.IntKind.wrap
set_option maxRecDepth 20000
set_option maxHeartbeats 4000000
def alStep (x : GSensor) (v u : Int) (s : Int × Int × List (List Int)) : Int × Int × List (List Int) :=
  (if x.limit < v then s.1 + 1 else 0,
   if (if 0 ≤ s.2.1 ∧ ¬v = -1 ∧ v ≤ x.release then -1 else s.2.1) < 0 ∧ x.delay ≤ (if x.limit < v then s.1 + 1 else 0) then u else if 0 ≤ s.2.1 ∧ ¬v = -1 ∧ v ≤ x.release then -1 else s.2.1,
   if 0 ≤ s.2.1 ∧ ¬v = -1 ∧ v ≤ x.release then s.2.2 ++ [[s.2.1, u]] else s.2.2)
def alS (x : GSensor) (xs : List Int) : Nat → Int × Int × List (List Int)
  | 0 => (0, -1, [])
  | k + 1 => alStep x (xs.getD k 0) k (alS x xs k)
def alW (f L : Int) (ss : List (List Int)) : List (List Int) := if 0 ≤ f then ss ++ [[f, L]] else ss
def alR (x : GSensor) (xs : List Int) : List (List Int) := alW (alS x xs xs.length).2.1 xs.length (alS x xs xs.length).2.2
theorem alS_b {x : GSensor} {xs : List Int} : ∀ k : Nat, (0 ≤ (alS x xs k).1 ∧ (alS x xs k).1 ≤ k) ∧ (-1 ≤ (alS x xs k).2.1 ∧ (alS x xs k).2.1 < k) ∧ (alS x xs k).2.2.length ≤ k ∧ ∀ r ∈ (alS x xs k).2.2, ∃ a b : Int, r = [a, b] ∧ 0 ≤ a ∧ a ≤ b ∧ b ≤ k
  | 0 => by refine ⟨⟨by simp [alS], by simp [alS]⟩, ⟨by simp [alS], by simp [alS]⟩, by simp [alS], fun r hr => by simp [alS] at hr⟩
  | k + 1 => by
    obtain ⟨⟨a1, a2⟩, ⟨b1, b2⟩, c, d⟩ := alS_b (x := x) (xs := xs) k
    have e : alS x xs (k + 1) = alStep x (xs.getD k 0) k (alS x xs k) := rfl
    rw [e]; unfold alStep
    dsimp only
    refine ⟨by split <;> omega, by split <;> (try split) <;> omega, by split <;> (try simp only [List.length_append, List.length_cons, List.length_nil]) <;> omega, ?_⟩
    split
    · intro r hr
      rcases List.mem_append.1 hr with hr | hr
      · obtain ⟨a, b, h1, h2, h3, h4⟩ := d r hr
        exact ⟨a, b, h1, h2, h3, by omega⟩
      · rw [List.mem_singleton.1 hr]
        exact ⟨_, _, rfl, by omega, by omega, by omega⟩
    · intro r hr
      obtain ⟨a, b, h1, h2, h3, h4⟩ := d r hr
      exact ⟨a, b, h1, h2, h3, by omega⟩
theorem alR_b {x : GSensor} {xs : List Int} : (alR x xs).length ≤ xs.length + 1 ∧ ∀ r ∈ alR x xs, ∃ a b : Int, r = [a, b] ∧ 0 ≤ a ∧ a ≤ b ∧ b ≤ xs.length := by
  obtain ⟨_, ⟨b1, b2⟩, c, d⟩ := alS_b (x := x) (xs := xs) xs.length
  unfold alR alW
  split
  · refine ⟨by simp; omega, fun r hr => ?_⟩
    rcases List.mem_append.1 hr with hr | hr
    · exact d r hr
    · rw [List.mem_singleton.1 hr]
      exact ⟨_, _, rfl, by omega, by omega, by omega⟩
  · exact ⟨by omega, d⟩
attribute [local irreducible] alS alStep alR
theorem alS_0 {x : GSensor} {xs : List Int} : alS x xs 0 = (0, -1, []) := by unfold alS; rfl
theorem alS_s {x : GSensor} {xs : List Int} {i : Int} (h0 : 0 ≤ i) : alS x xs (i + 1).toNat = alStep x (xs.getD i.toNat 0) i (alS x xs i.toNat) := by
  rw [show (i + 1).toNat = i.toNat + 1 by omega]
  conv => lhs; unfold alS
  rw [show ((i.toNat : Nat) : Int) = i by omega]
theorem alR_e {x : GSensor} {xs : List Int} {i r f : Int} {ss : List (List Int)} (h : (r, f, ss) = alS x xs i.toNat) (h0 : ¬i < xs.length) (h1 : i ≤ xs.length) : alR x xs = alW f xs.length ss := by
  rw [show i.toNat = xs.length by omega] at h
  unfold alR; rw [← h]
theorem alW_p {f L : Int} {ss : List (List Int)} (h : 0 ≤ f) : alW f L ss = ss ++ [[f, L]] := if_pos h
theorem alW_n {f L : Int} {ss : List (List Int)} (h : ¬0 ≤ f) : alW f L ss = ss := if_neg h
theorem al_last {x : GSensor} {xs : List Int} {i r : Int} {b : Bool} {n : Nat} {rs : List (List Int)} (h : ∃ f ss, (r, f, ss) = alS x xs i.toNat ∧ b = decide (0 ≤ f) ∧ rs = alW f xs.length ss) (hb : b = true) (hn : n = rs.length) : 0 < n ∧ ∃ f : Int, rs.getD ((n : Int) - 1).toNat [] = [f, (xs.length : Int)] := by
  obtain ⟨f, ss, h1, h2, h3⟩ := h
  have hf : 0 ≤ f := by rw [hb] at h2; exact of_decide_eq_true h2.symm
  rw [alW_p hf] at h3
  subst h3; subst hn
  refine ⟨by simp, f, ?_⟩
  rw [show (((ss ++ [[f, (xs.length : Int)]]).length : Int) - 1).toNat = ss.length by simp]
  simp [List.getD_eq_getElem?_getD]
theorem al_set {f L u : Int} {n : Nat} {rs ss : List (List Int)} (hf : 0 ≤ f) (h : rs = alW f L ss) (hn : n = rs.length) : rs.set ((n : Int) - 1).toNat ((rs.getD ((n : Int) - 1).toNat []).set (Int.toNat 1) u) = alW (-1) L (ss ++ [[f, u]]) := by
  rw [alW_p hf] at h; rw [alW_n (by omega)]
  subst h; subst hn
  rw [show (((ss ++ [[f, L]]).length : Int) - 1).toNat = ss.length by simp]
  simp [List.getD_eq_getElem?_getD]
theorem okSensor_b {x : GSensor} (h : okSensor x = true) : 1 ≤ x.delay ∧ x.release ≤ x.limit := by
  unfold okSensor at h
  simp only [Bool.and_eq_true, inR_iff] at h
  omega
end Go.Proofs.YtdhkpmaanegjkaaGreatDoor

set_option linter.unusedVariables false
set_option linter.unusedSimpArgs false
namespace Go.Proofs.YtdhkpmaanegjkaaGreatDoor
open Go.Av
attribute [local irreducible] Go.IntKind.wrap alS alStep alR okSensor okSeries
set_option maxRecDepth 20000
set_option maxHeartbeats 4000000
def idxG {α : Type} (p : α → Bool) (xs : List α) : Int := match xs.findIdx? p with
  | some i => (i : Int)
  | none => -1
theorem idxG_at {α : Type} {d : α} {p : α → Bool} {xs : List α} {i : Int} (h0 : 0 ≤ i) (h1 : i < xs.length) (h2 : p (xs.getD i.toNat d) = true) (h3 : ∀ j : Nat, (j : Int) < i → p (xs.getD j d) = false) : i = idxG p xs := by
  have hi : i.toNat < xs.length := by omega
  have e : xs.findIdx? p = some i.toNat := by
    rw [List.findIdx?_eq_some_iff_getElem]
    refine ⟨hi, ?_, fun j hj => ?_⟩
    · rwa [List.getD_eq_getElem?_getD, List.getElem?_eq_getElem hi] at h2
    · have h4 := h3 j (by omega)
      have hj' : j < xs.length := by omega
      rw [List.getD_eq_getElem?_getD, List.getElem?_eq_getElem hj'] at h4
      simpa using h4
  simp only [idxG, e]; omega
theorem idxG_none {α : Type} {d : α} {p : α → Bool} {xs : List α} {i : Int} (h1 : xs.length ≤ i) (h3 : ∀ j : Nat, (j : Int) < i → p (xs.getD j d) = false) : -1 = idxG p xs := by
  have e : xs.findIdx? p = none := by
    rw [List.findIdx?_eq_none_iff]
    intro x hx
    obtain ⟨j, hj, rfl⟩ := List.getElem_of_mem hx
    have h4 := h3 j (by omega)
    rwa [List.getD_eq_getElem?_getD, List.getElem?_eq_getElem hj] at h4
  simp only [idxG, e]
theorem idxG_any {α : Type} {p : α → Bool} {xs : List α} : decide (idxG p xs ≥ 0) = xs.any p := by
  unfold idxG
  cases h : xs.findIdx? p with
  | none =>
    rw [List.findIdx?_eq_none_iff] at h
    have : xs.any p = false := by rw [List.any_eq_false]; intro x hx; simp [h x hx]
    rw [this]; rfl
  | some i =>
    rw [List.findIdx?_eq_some_iff_getElem] at h
    obtain ⟨hi, hp, _⟩ := h
    have : xs.any p = true := List.any_eq_true.2 ⟨_, List.getElem_mem hi, hp⟩
    rw [this]; simp
end Go.Proofs.YtdhkpmaanegjkaaGreatDoor
