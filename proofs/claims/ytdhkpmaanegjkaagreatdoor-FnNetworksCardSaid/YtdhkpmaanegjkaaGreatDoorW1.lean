/- Contracts of functions of the program, and what they compute. Conditions: those that each theorem states. -/
import Derived.Test.YtdhkpmaanegjkaaGreatDoorProg
import Derived.Test.YtdhkpmaanegjkaaGreatDoorD4
import Derived.Test.YtdhkpmaanegjkaaGreatDoorL3
set_option linter.unusedVariables false
set_option linter.unusedSimpArgs false
namespace Go.Proofs.YtdhkpmaanegjkaaGreatDoor
open Go.Av
attribute [local irreducible] Go.IntKind.wrap okMine
set_option maxRecDepth 20000
set_option maxHeartbeats 8000000
section
variable (m : GMine) (g : List Int) (rg : List Bool)
def awI (i : Nat) : GAirway := m.airways.getD i default
def okL (at_ : Int) (i : Nat) : Bool := decide ((awI m i).from_ = at_) || (decide ((awI m i).to = at_) && !rg.getD i false)
def nxL (at_ : Int) (i : Nat) : Int := if (awI m i).from_ = at_ then (awI m i).to else (awI m i).from_
def gnL (at_ : Int) (i : Nat) : Int := if (awI m i).to = at_ then -g.getD i 0 else g.getD i 0
def spL (at_ : Int) (i : Nat) : Int := if (awI m i).from_ = at_ then (i : Int) + 1 else -(i : Int) - 1
def okW : Int → List Nat → Prop
  | _, [] => True
  | a, i :: es => i < m.airways.length ∧ okL m rg a i = true ∧ okW (nxL m a i) es
def enW : Int → List Nat → Int
  | a, [] => a
  | a, i :: es => enW (nxL m a i) es
def spW : Int → List Nat → List Int
  | _, [] => []
  | a, i :: es => spL m a i :: spW (nxL m a i) es
def inV (v : Int) : Prop := 0 ≤ v ∧ v < m.junctions
end
section
variable {m : GMine} {g : List Int} {rg : List Bool}
theorem okW_app : ∀ (a : Int) (xs ys : List Nat), okW m rg a (xs ++ ys) ↔ okW m rg a xs ∧ okW m rg (enW m a xs) ys
  | a, [], ys => by simp [okW, enW]
  | a, i :: xs, ys => by simp only [List.cons_append, okW, enW, okW_app _ xs ys, and_assoc]
theorem enW_app : ∀ (a : Int) (xs ys : List Nat), enW m a (xs ++ ys) = enW m (enW m a xs) ys
  | a, [], ys => rfl
  | a, i :: xs, ys => by simp only [List.cons_append, enW, enW_app _ xs ys]
theorem pigW : ∀ (n : Nat) (l : List Int), l.Nodup → (∀ x ∈ l, 0 ≤ x ∧ x < (n : Int)) → l.length ≤ n
  | 0, l, _, h => by
    cases l with
    | nil => simp
    | cons x l => have := h x (by simp); omega
  | n + 1, l, hn, h => by
    have ih := pigW n (l.erase (n : Int)) (hn.erase _) (fun x hx => by
      rw [hn.mem_erase_iff] at hx
      have := h x hx.2
      have := hx.1
      omega)
    rw [List.length_erase] at ih
    split at ih <;> omega
theorem edV (hm : okMine m = true) {i : Nat} (hi : i < m.airways.length) : inV m (m.airways.getD i default).from_ ∧ inV m (m.airways.getD i default).to := ((okMine_p hm).2.2 i (by omega)).2
end
end Go.Proofs.YtdhkpmaanegjkaaGreatDoor

set_option linter.unusedVariables false
set_option linter.unusedSimpArgs false
namespace Go.Proofs.YtdhkpmaanegjkaaGreatDoor
open Go.Av
attribute [local irreducible] Go.IntKind.wrap
set_option maxRecDepth 20000
set_option maxHeartbeats 4000000
abbrev eR (xs : List Int) : List (List PV) := xs.map eI
theorem tkRows {xs : List (List Int)} {n : Nat} (h : n = xs.length) : ((((xs.map eR).drop 0).take n).map fun e => [PV.lst [.c (.int .i64 0)] e]) = xs.map eLI := by
  subst h
  rw [List.drop_zero, List.take_of_length_le (by simp), List.map_map]; rfl
theorem apR {xs ys : List (List Int)} : List.map eR xs ++ List.map eR ys = List.map eR (xs ++ ys) := by simp
end Go.Proofs.YtdhkpmaanegjkaaGreatDoor

set_option linter.unusedVariables false
set_option linter.unusedSimpArgs false
namespace Go.Proofs.YtdhkpmaanegjkaaGreatDoor
open Go.Av
attribute [local irreducible] Go.IntKind.wrap
set_option maxRecDepth 20000
set_option maxHeartbeats 4000000
end Go.Proofs.YtdhkpmaanegjkaaGreatDoor

set_option linter.unusedVariables false
set_option linter.unusedSimpArgs false
namespace Go.Proofs.YtdhkpmaanegjkaaGreatDoor
open Go.Av
attribute [local irreducible] Go.IntKind.wrap
set_option maxRecDepth 20000
set_option maxHeartbeats 4000000
def idxG {α : Type} (p : α → Bool) (xs : List α) : Int := match xs.findIdx? p with
  | some i => (i : Int)
  | none => -1
theorem idxG_at {α : Type} {d : α} {p : α → Bool} {xs : List α} {i : Int} (h0 : 0 ≤ i) (h1 : i < xs.length) (h2 : p (xs.getD i.toNat d) = true) (h3 : ∀ j : Nat, (j : Int) < i → p (xs.getD j d) = false) : i = idxG p xs := by
  have hi : i.toNat < xs.length := by omega
  have e : xs.findIdx? p = some i.toNat := by
    rw [List.findIdx?_eq_some_iff_getElem]
    refine ⟨hi, ?_, fun j hj => ?_⟩
    · rwa [List.getD_eq_getElem?_getD, List.getElem?_eq_getElem hi] at h2
    · have h4 := h3 j (by omega)
      have hj' : j < xs.length := by omega
      rw [List.getD_eq_getElem?_getD, List.getElem?_eq_getElem hj'] at h4
      simpa using h4
  simp only [idxG, e]; omega
theorem idxG_none {α : Type} {d : α} {p : α → Bool} {xs : List α} {i : Int} (h1 : xs.length ≤ i) (h3 : ∀ j : Nat, (j : Int) < i → p (xs.getD j d) = false) : -1 = idxG p xs := by
  have e : xs.findIdx? p = none := by
    rw [List.findIdx?_eq_none_iff]
    intro x hx
    obtain ⟨j, hj, rfl⟩ := List.getElem_of_mem hx
    have h4 := h3 j (by omega)
    rwa [List.getD_eq_getElem?_getD, List.getElem?_eq_getElem hj] at h4
  simp only [idxG, e]
theorem idxG_any {α : Type} {p : α → Bool} {xs : List α} : decide (idxG p xs ≥ 0) = xs.any p := by
  unfold idxG
  cases h : xs.findIdx? p with
  | none =>
    rw [List.findIdx?_eq_none_iff] at h
    have : xs.any p = false := by rw [List.any_eq_false]; intro x hx; simp [h x hx]
    rw [this]; rfl
  | some i =>
    rw [List.findIdx?_eq_some_iff_getElem] at h
    obtain ⟨hi, hp, _⟩ := h
    have : xs.any p = true := List.any_eq_true.2 ⟨_, List.getElem_mem hi, hp⟩
    rw [this]; simp
end Go.Proofs.YtdhkpmaanegjkaaGreatDoor

set_option linter.unusedVariables false
set_option linter.unusedSimpArgs false
namespace Go.Proofs.YtdhkpmaanegjkaaGreatDoor
open Go.Av
attribute [local irreducible] Go.IntKind.wrap okMine okL
set_option maxRecDepth 20000
set_option maxHeartbeats 40000000
def otherA (a : GAirway) (j : Int) : Int × Bool := if j = a.from_ then (a.to, true) else if j = a.to then (a.from_, true) else (0, false)
theorem c_impl_Airway_other (a : GAirway) (j : Int) : FnSem Tryz.prog 79 [.p .any (.agg a.cells), In j] [] (Is [In (otherA a j).1, Bo (otherA a j).2] []) := by
  refine FnSem.walk (zs := zeroPV Tryz.prog) (by kernel_rfl) Tryz.func79 rfl Tryz.results79 (by kernel_rfl) (by kernel_rfl) (by kernel_rfl) fun hw hh => ?_
  obtain ⟨w0, w1, _⟩ := hw
  first | replace w0 := wf_Airway w0 | skip
  first | replace w1 := wf_I w1 | skip
  repeat' first
    | refine And.intro rfl ?_
    | refine GdF.mk (fun h => h) ?_
    | refine And.intro (Nat.succ_ne_zero _) ?_
    | refine And.intro (Nat.le_of_ble_eq_true rfl) ?_
    | refine SeqF.run ?_
    | refine GhF.go ?_
    | (refine CondF.mk (fun hb => ?_) (fun hb => ?_) <;> try simp only [forall_const, eq_self, not_true_eq_false, not_false_eq_true, or_false, false_or, or_self, or_true, true_or, and_true, true_and, and_false, false_and, decide_true, decide_false, Bool.not_true, Bool.not_false, decide_eq_true_eq, decide_eq_false_iff_not, ite_and_p, ite_or_p, Bool.decide_eq_true, Bool.and_eq_true, Bool.or_eq_true, Bool.not_eq_true', Bool.not_eq_false', Bool.and_eq_false_imp, Bool.or_eq_false_iff, bne_iff_ne, beq_iff_eq, bne_eq_false_iff_eq, beq_eq_false_iff_ne, gt_iff_lt, ge_iff_le, Int.not_lt, Int.not_le, ne_eq, Bool.true_eq_false, Bool.false_eq_true, reduceCtorEq, eta_Airway, eta_Fan, eta_Mine] at hb)
    | refine RetF.auto (And.intro rfl ?_)
    | exact Is.mk rfl rfl
    | refine Is.mk ?_ rfl
    | refine Is.mk rfl ?_
    | refine Is.mk ?_ ?_
  all_goals try dsimp only
  all_goals try simp only [Bo, I, OB.row.injEq, AV.osl.injEq, eI_same,  List.cons.injEq, AV.p.injEq, PV.c.injEq, Value.int.injEq, Value.bool.injEq, and_true, true_and, ite_and_p, ite_or_p, Bool.decide_eq_true, eta_Airway, eta_Fan, eta_Mine]
  all_goals unfold otherA
  · rw [if_pos hb]; exact ⟨rfl, rfl⟩
  · rename_i hc; rw [if_neg hc, if_pos hb]; exact ⟨rfl, rfl⟩
  · rename_i hc; rw [if_neg hc, if_neg hb]; exact ⟨rfl, rfl⟩
theorem c_impl_Mine_step (m : GMine) (i j : Int) (h : 0 ≤ i ∧ i < m.airways.length) (hm : m.airways.length ≤ 1000) : FnSem Tryz.prog 111 [.p .any (.agg m.cells), In i, In j] [] (Is [In (spL m j i.toNat)] []) := by
  refine FnSem.walk (zs := zeroPV Tryz.prog) (by kernel_rfl) Tryz.func111 rfl Tryz.results111 (by kernel_rfl) (by kernel_rfl) (by kernel_rfl) fun hw hh => ?_
  obtain ⟨w0, w1, w2, _⟩ := hw
  first | replace w0 := wf_Mine w0 | skip
  first | replace w1 := wf_I w1 | skip
  first | replace w2 := wf_I w2 | skip
  repeat' first
    | refine And.intro rfl ?_
    | refine GdF.mk (fun h => h) ?_
    | refine And.intro (Nat.succ_ne_zero _) ?_
    | refine And.intro (Nat.le_of_ble_eq_true rfl) ?_
    | refine SeqF.run ?_
    | refine GhF.go ?_
    | refine EqP.mk _ (gm GAirway.cells default rfl) ?_
    | refine BndF.mk (fun _ => by omega) ?_
    | refine BndF.mk (fun _ => by simp only [lnS]; omega) ?_
    | refine EqI.mk _ (fun _ => wrapI (by omega) (by omega)) ?_
    | refine EqI.mk _ (fun _ => rfl) ?_
    | refine EqN.mk _ (Nat.zero_add _) ?_
    | refine EqN.mk _ (Int.toNat_natCast _) ?_
    | refine EqN.mk _ rfl ?_
    | (refine CondF.mk (fun hb => ?_) (fun hb => ?_) <;> try simp only [forall_const, eq_self, not_true_eq_false, not_false_eq_true, or_false, false_or, or_self, or_true, true_or, and_true, true_and, and_false, false_and, decide_true, decide_false, Bool.not_true, Bool.not_false, decide_eq_true_eq, decide_eq_false_iff_not, ite_and_p, ite_or_p, Bool.decide_eq_true, Bool.and_eq_true, Bool.or_eq_true, Bool.not_eq_true', Bool.not_eq_false', Bool.and_eq_false_imp, Bool.or_eq_false_iff, bne_iff_ne, beq_iff_eq, bne_eq_false_iff_eq, beq_eq_false_iff_ne, gt_iff_lt, ge_iff_le, Int.not_lt, Int.not_le, ne_eq, Bool.true_eq_false, Bool.false_eq_true, reduceCtorEq, eta_Airway, eta_Fan, eta_Mine] at hb)
    | refine RetF.auto (And.intro rfl ?_)
    | exact Is.mk rfl rfl
    | refine Is.mk ?_ rfl
    | refine Is.mk rfl ?_
    | refine Is.mk ?_ ?_
  all_goals try dsimp only
  all_goals try simp only [Bo, I, OB.row.injEq, AV.osl.injEq, eI_same,  List.cons.injEq, AV.p.injEq, PV.c.injEq, Value.int.injEq, Value.bool.injEq, and_true, true_and, ite_and_p, ite_or_p, Bool.decide_eq_true, eta_Airway, eta_Fan, eta_Mine]
  all_goals (unfold spL awI; first | (rw [if_pos hb]; omega) | (rw [if_neg hb]; omega))
theorem c_slices_Index_int64_int64 (xs : List Int) (x : Int) : FnSem Tryz.prog 81 [Lx (LI xs), In x] [] (Is [In (idxG (fun y => decide (x = y)) xs)] []) := by
  refine FnSem.walk (zs := zeroPV Tryz.prog) (by kernel_rfl) Tryz.func81 rfl Tryz.results81 (by kernel_rfl) (by kernel_rfl) (by kernel_rfl) fun hw hh => ?_
  obtain ⟨w0, w1, _⟩ := hw
  first | replace w0 := wf_LI w0 | skip
  first | replace w1 := wf_I w1 | skip
  repeat' first
    | refine And.intro rfl ?_
    | refine GdF.mk (fun h => h) ?_
    | refine And.intro (Nat.succ_ne_zero _) ?_
    | refine And.intro (Nat.le_of_ble_eq_true rfl) ?_
    | refine SeqF.run ?_
    | refine LoopF.at 2 rfl (LoopF.fix [0, 1, 7] (Int) (fun i => 0 ≤ i ∧ i ≤ xs.length ∧ ∀ j : Nat, (j : Int) < i → decide (x = xs.getD j 0) = false) (fun i => [(8, In i)]) (fun i => []) (fun i => ((xs.length - i).toNat)) (0) ?_)
    | (refine LoopB.of (T := Int) ?_ ?_; rotate_left; rintro i ⟨h0, h1, h2⟩; rotate_left)
    | refine GhF.go ?_
    | refine EqP.mk _ (gm eI 0 rfl) ?_
    | refine BndF.mk (fun _ => by omega) ?_
    | refine BndF.mk (fun _ => by simp only [lnS]; omega) ?_
    | refine EqI.mk _ (fun _ => wrapI (by omega) (by omega)) ?_
    | refine EqI.mk _ (fun _ => rfl) ?_
    | refine EqN.mk _ (ln eI) ?_
    | refine EqN.mk _ (Nat.zero_add _) ?_
    | refine EqN.mk _ (Int.toNat_natCast _) ?_
    | refine EqN.mk _ rfl ?_
    | (refine CondF.mk (fun hb => ?_) (fun hb => ?_) <;> try simp only [forall_const, eq_self, not_true_eq_false, not_false_eq_true, or_false, false_or, or_self, or_true, true_or, and_true, true_and, and_false, false_and, decide_true, decide_false, Bool.not_true, Bool.not_false, decide_eq_true_eq, decide_eq_false_iff_not, ite_and_p, ite_or_p, Bool.decide_eq_true, Bool.and_eq_true, Bool.or_eq_true, Bool.not_eq_true', Bool.not_eq_false', Bool.and_eq_false_imp, Bool.or_eq_false_iff, bne_iff_ne, beq_iff_eq, bne_eq_false_iff_eq, beq_eq_false_iff_ne, gt_iff_lt, ge_iff_le, Int.not_lt, Int.not_le, ne_eq, Bool.true_eq_false, Bool.false_eq_true, reduceCtorEq, eta_Airway, eta_Fan, eta_Mine] at hb)
    | apply BackF.auto
    | refine BackB.mk ?_ ?_
    | refine RetF.auto (And.intro rfl ?_)
    | exact Is.mk rfl rfl
    | refine Is.mk ?_ rfl
    | refine Is.mk rfl ?_
    | refine Is.mk ?_ ?_
  all_goals try dsimp only
  all_goals try simp only [Bo, I, OB.row.injEq, AV.osl.injEq, eI_same,  List.cons.injEq, AV.p.injEq, PV.c.injEq, Value.int.injEq, Value.bool.injEq, and_true, true_and, ite_and_p, ite_or_p, Bool.decide_eq_true, eta_Airway, eta_Fan, eta_Mine]
  all_goals first
    | omega
    | exact ⟨by omega, by omega, all_0⟩
    | exact ⟨by omega, by omega, all_s (P := fun j => decide (x = xs.getD j 0) = false) h0 h2 (by simpa using hb)⟩
    | exact idxG_at (d := 0) h0 (by omega) (by simpa using hb) h2
    | exact idxG_none (d := 0) (by omega) h2
    | skip
theorem c_slices_Contains_int64_int64 (xs : List Int) (x : Int) : FnSem Tryz.prog 41 [Lx (LI xs), In x] [] (Is [Bo (decide (x ∈ xs))] []) := by
  refine FnSem.walk (zs := zeroPV Tryz.prog) (by kernel_rfl) Tryz.func41 rfl Tryz.results41 (by kernel_rfl) (by kernel_rfl) (by kernel_rfl) fun hw hh => ?_
  obtain ⟨w0, w1, _⟩ := hw
  first | replace w0 := wf_LI w0 | skip
  first | replace w1 := wf_I w1 | skip
  repeat' first
    | refine And.intro rfl ?_
    | refine GdF.mk (fun h => h) ?_
    | refine And.intro (Nat.succ_ne_zero _) ?_
    | refine And.intro (Nat.le_of_ble_eq_true rfl) ?_
    | refine SeqF.run ?_
    | refine ArgF.is (c_slices_Index_int64_int64 xs x) ?_
    | refine ArgQ.is (fun hG => c_slices_Index_int64_int64 xs x) rfl rfl ?_
    | refine GhF.go ?_
    | refine BndF.mk (fun _ => by omega) ?_
    | refine BndF.mk (fun _ => by simp only [lnS]; omega) ?_
    | refine EqL.mk _ (tk eI (by first | rfl | assumption | omega | (simp only [lnS] <;> omega))) ?_
    | refine EqL.mk [] rfl ?_
    | refine EqL.mk [_] rfl ?_
    | refine EqL.mk _ rfl ?_
    | refine ArgF.is (c_slices_Index_int64_int64 ..) ?_
    | refine ArgQ.is (fun hG => c_slices_Index_int64_int64 ..) rfl rfl ?_
    | refine CallF.mk (CallW.is [] true rfl ?_)
    | refine CallG.mk ?_
    | (refine CondF.mk (fun hb => ?_) (fun hb => ?_) <;> try simp only [forall_const, eq_self, not_true_eq_false, not_false_eq_true, or_false, false_or, or_self, or_true, true_or, and_true, true_and, and_false, false_and, decide_true, decide_false, Bool.not_true, Bool.not_false, decide_eq_true_eq, decide_eq_false_iff_not, ite_and_p, ite_or_p, Bool.decide_eq_true, Bool.and_eq_true, Bool.or_eq_true, Bool.not_eq_true', Bool.not_eq_false', Bool.and_eq_false_imp, Bool.or_eq_false_iff, bne_iff_ne, beq_iff_eq, bne_eq_false_iff_eq, beq_eq_false_iff_ne, gt_iff_lt, ge_iff_le, Int.not_lt, Int.not_le, ne_eq, Bool.true_eq_false, Bool.false_eq_true, reduceCtorEq, eta_Airway, eta_Fan, eta_Mine] at hb)
    | refine RetF.auto (And.intro rfl ?_)
    | exact Is.mk rfl rfl
    | refine Is.mk ?_ rfl
    | refine Is.mk rfl ?_
    | refine Is.mk ?_ ?_
  all_goals try dsimp only
  all_goals try simp only [Bo, I, OB.row.injEq, AV.osl.injEq, eI_same,  List.cons.injEq, AV.p.injEq, PV.c.injEq, Value.int.injEq, Value.bool.injEq, and_true, true_and, ite_and_p, ite_or_p, Bool.decide_eq_true, eta_Airway, eta_Fan, eta_Mine]
  · rw [show decide (x ∈ xs) = xs.any (fun y => decide (x = y)) by
      rw [Bool.eq_iff_iff, List.any_eq_true, decide_eq_true_eq]
      exact ⟨fun h => ⟨x, h, decide_eq_true rfl⟩, fun ⟨y, h, e⟩ => by rw [of_decide_eq_true e]; exact h⟩]
    exact idxG_any
theorem tkT {ys s : List Int} {n : Nat} (h : ys.take n = s) : ((ys.map eI).drop 0).take n = s.map eI := by rw [← h]; simp
theorem snT {ys s : List Int} {n : Nat} {v : Int} (h : ys.take n = s) : ((ys.map eI).drop 0).take n ++ [eI v] = (s ++ [v]).map eI := by rw [← h]; simp
end Go.Proofs.YtdhkpmaanegjkaaGreatDoor
