/- Contracts of functions of the program, and what they compute. Conditions: those that each theorem states. -/
import Derived.Test.YtdhkpmaanegjkaaGreatDoorProg
import Derived.Test.YtdhkpmaanegjkaaGreatDoorH0
set_option linter.unusedVariables false
set_option linter.unusedSimpArgs false
namespace Go.Proofs.YtdhkpmaanegjkaaGreatDoor
open Go.Av
attribute [local irreducible] Go.IntKind.wrap okMine treeC mshC
set_option maxRecDepth 20000
set_option maxHeartbeats 16000000
--@fn slices.IndexFunc[[]int64,int64]
theorem idx1 (xs : List Int) (f : Nat) (c1 : List PV) (p : Int → Bool) (hf : ∀ x ∈ xs, FnSem Tryz.prog f [In x, .p .any (.ref c1)] [] (Is [Bo (p x)] [])) : FnSem Tryz.prog 80 [Lx (LI xs), .p .any (.fn f [.ref c1])] [] (Is [In (idxI p xs)] []) := by
  refine FnSem.walk (zs := zeroPV Tryz.prog) (by kernel_rfl) Tryz.func80 rfl Tryz.results80 (by kernel_rfl) (by kernel_rfl) (by kernel_rfl) fun hw hh => ?_
  obtain ⟨w0, w1, _⟩ := hw
  first | replace w0 := wf_LI w0 | skip
  repeat' first
    | refine And.intro rfl ?_
    | refine GdF.mk (fun h => h) ?_
    | refine And.intro (Nat.succ_ne_zero _) ?_
    | refine And.intro (Nat.le_of_ble_eq_true rfl) ?_
    | refine SeqF.run ?_
    | refine ArgF.is (hf _ (getD_mem (by omega))) ?_
    | refine ArgQ.is (fun hG => hf _ (getD_mem (by omega))) rfl rfl ?_
    | refine LoopF.at 2 rfl (LoopF.fix [0, 1, 7] (Int) (fun i => 0 ≤ i ∧ i ≤ xs.length ∧ ∀ j : Nat, (j : Int) < i → p (xs.getD j 0) = false) (fun i => [(8, In i)]) (fun i => []) (fun i => ((xs.length - i).toNat)) (0) ?_)
    | (refine LoopB.of (T := Int) ?_ ?_; rotate_left; rintro i ⟨h0, h1, h2⟩; rotate_left)
    | refine GhF.go ?_
    | refine EqP.mk _ (gm eI 0 rfl) ?_
    | refine BndF.mk (fun _ => by omega) ?_
    | refine BndF.mk (fun _ => by simp only [lnS]; omega) ?_
    | refine EqI.mk _ (fun _ => wrapI (by omega) (by omega)) ?_
    | refine EqI.mk _ (fun _ => rfl) ?_
    | refine EqN.mk _ (ln eI) ?_
    | refine EqN.mk _ (Nat.zero_add _) ?_
    | refine EqN.mk _ (Int.toNat_natCast _) ?_
    | refine EqN.mk _ rfl ?_
    | refine CallF.mk (CallW.is [] true rfl ?_)
    | refine CallG.mk ?_
    | (refine CondF.mk (fun hb => ?_) (fun hb => ?_) <;> try simp only [forall_const, eq_self, not_true_eq_false, not_false_eq_true, or_false, false_or, or_self, or_true, true_or, and_true, true_and, and_false, false_and, decide_true, decide_false, Bool.not_true, Bool.not_false, decide_eq_true_eq, decide_eq_false_iff_not, ite_and_p, ite_or_p, Bool.decide_eq_true, Bool.and_eq_true, Bool.or_eq_true, Bool.not_eq_true', Bool.not_eq_false', Bool.and_eq_false_imp, Bool.or_eq_false_iff, bne_iff_ne, beq_iff_eq, bne_eq_false_iff_eq, beq_eq_false_iff_ne, gt_iff_lt, ge_iff_le, Int.not_lt, Int.not_le, ne_eq, Bool.true_eq_false, Bool.false_eq_true, reduceCtorEq, eta_Airway, eta_Fan, eta_Mine] at hb)
    | apply BackF.auto
    | refine BackB.mk ?_ ?_
    | refine RetF.auto (And.intro rfl ?_)
    | exact Is.mk rfl rfl
    | refine Is.mk ?_ rfl
    | refine Is.mk rfl ?_
    | refine Is.mk ?_ ?_
  all_goals try dsimp only
  all_goals try simp only [Bo, I, OB.row.injEq, AV.osl.injEq, eI_same,  List.cons.injEq, AV.p.injEq, PV.c.injEq, Value.int.injEq, Value.bool.injEq, and_true, true_and, ite_and_p, ite_or_p, Bool.decide_eq_true, eta_Airway, eta_Fan, eta_Mine]
  all_goals try (first | omega | (set_option maxHeartbeats 60000 in grind))
  · exact idxI_at h0 (by omega) hb h2
  · exact idxI_none hb h2
theorem idxI_pos {p : Int → Bool} {xs : List Int} (h : ¬idxI p xs = -1) : 0 ≤ idxI p xs ∧ idxI p xs < xs.length ∧ p (xs.getD (idxI p xs).toNat 0) = true ∧ ∀ j : Nat, (j : Int) < idxI p xs → p (xs.getD j 0) = false := by
  unfold idxI at h ⊢
  cases hf : xs.findIdx? p with
  | none => rw [hf] at h; exact absurd rfl h
  | some k =>
    rw [List.findIdx?_eq_some_iff_getElem] at hf
    obtain ⟨hk, hp, hlt⟩ := hf
    dsimp only
    refine ⟨by omega, by omega, by rw [Int.toNat_natCast, List.getD_eq_getElem?_getD, List.getElem?_eq_getElem hk]; exact hp, fun j hj => ?_⟩
    have := hlt j (by omega)
    rw [List.getD_eq_getElem?_getD, List.getElem?_eq_getElem (by omega)]
    simpa using this
theorem idxI_neg {p : Int → Bool} {xs : List Int} (h : idxI p xs = -1) : xs.filter (fun x => !p x) = xs := by
  unfold idxI at h
  cases hf : xs.findIdx? p with
  | none =>
    rw [List.findIdx?_eq_none_iff] at hf
    rw [List.filter_eq_self]
    intro x hx
    rw [hf x hx]; rfl
  | some k => rw [hf] at h; dsimp only at h; omega
theorem pre_keep {p : Int → Bool} {xs : List Int} : ∀ {n : Nat}, n ≤ xs.length → (∀ j : Nat, j < n → p (xs.getD j 0) = false) → (xs.take n).filter (fun x => !p x) = xs.take n := fun {n} hn h => by
  rw [List.filter_eq_self]
  intro x hx
  obtain ⟨j, hj, rfl⟩ := List.getElem_of_mem hx
  rw [List.length_take] at hj
  have := h j (by omega)
  rw [List.getD_eq_getElem?_getD, List.getElem?_eq_getElem (by omega)] at this
  rw [List.getElem_take]
  simpa using this
theorem filt_s {p : Int → Bool} {xs : List Int} {j : Int} (h0 : 0 ≤ j) (h1 : j < xs.length) : (xs.take (j + 1).toNat).filter (fun x => !p x) = (xs.take j.toNat).filter (fun x => !p x) ++ (if p (xs.getD j.toNat 0) = true then [] else [xs.getD j.toNat 0]) := by
  rw [take_snoc h0 h1 0, List.filter_append]
  congr 1
  generalize xs.getD j.toNat 0 = v
  cases e : p v <;> simp [e]
theorem take_set {ys : List Int} {k : Int} {v : Int} (h0 : 0 ≤ k) (h1 : k < ys.length) : (ys.set k.toNat v).take (k + 1).toNat = ys.take k.toNat ++ [v] := by
  rw [take_snoc h0 (by rw [List.length_set]; exact h1) 0, getD_set, if_pos ⟨rfl, by omega⟩, List.take_set_of_le (by omega)]
--@fn slices.DeleteFunc[[]int64,int64]
theorem del1 (xs : List Int) (m : Nat) (f : Nat) (c1 : List PV) (p : Int → Bool) (hm : m = xs.length) (hl : xs.length ≤ 1000) (hf : ∀ x ∈ xs, FnSem Tryz.prog f [In x, .p .any (.ref c1)] [] (Is [Bo (p x)] [])) : FnSem Tryz.prog 39 [.osl 0 0 m, .p .any (.fn f [.ref c1])] [.row false .flat (eI 0) (xs.map eI)] (RetV (fun v : Nat × List Int => [.osl 0 0 v.1]) (fun v => [.row false .flat (eI 0) (v.2.map eI)]) (fun v => v.1 ≤ v.2.length ∧ v.2.take v.1 = xs.filter (fun x => !p x))) := by
  subst hm
  refine FnSem.walk (zs := zeroPV Tryz.prog) (by kernel_rfl) Tryz.func39 rfl Tryz.results39 (by kernel_rfl) (by kernel_rfl) (by kernel_rfl) fun hw hh => ?_
  obtain ⟨w0, w1, _⟩ := hw
  first | replace w0 := wf_LI w0 | skip
  repeat' first
    | refine And.intro rfl ?_
    | refine GdF.mk (fun h => h) ?_
    | refine And.intro (Nat.succ_ne_zero _) ?_
    | refine And.intro (Nat.le_of_ble_eq_true rfl) ?_
    | refine SeqF.run ?_
    | refine ArgF.is (idx1 xs f c1 p hf) ?_
    | refine ArgQ.is (fun hG => idx1 xs f c1 p hf) rfl rfl ?_
    | (have hi := idxI_pos hb; refine EqI.mk (idxI p xs + 1) (fun _ => wrapI (by omega) (by omega)) ?_)
    | refine ArgF.is (hf (ys.getD j.toNat 0) (by rw [k5 j.toNat (by omega)]; exact getD_mem (by omega))) ?_
    | refine ArgQ.is (fun hG => hf (ys.getD j.toNat 0) (by rw [k5 j.toNat (by omega)]; exact getD_mem (by omega))) rfl rfl ?_
    | refine BndF.mk (fun _ => by show k.toNat ≤ xs.length ∧ xs.length ≤ _; simp only [List.length_map]; omega) ?_
    | refine BndF.mk (fun _ => by show 0 ≤ k.toNat ∧ k.toNat ≤ _; simp only [List.length_map]; omega) ?_
    | refine BndF.mk (fun _ => by show k.toNat + (xs.length - k.toNat) ≤ _; rw [List.length_map]; omega) ?_
    | refine EqL.mk ((ys.take k.toNat ++ List.replicate (xs.length - k.toNat) 0 ++ ys.drop (k.toNat + (xs.length - k.toNat))).map eI) (by rw [List.map_append, List.map_append, List.map_take, List.map_drop, List.map_replicate]; rfl) ?_
    | refine RetV.mk (α := Nat × List Int) (xs.length, xs) rfl rfl ?_
    | refine RetV.mk (α := Nat × List Int) (_, _) rfl rfl ?_
    | refine LoopF.at 5 rfl (LoopF.fix [0, 1] (Int × Int × List Int) (fun (k, j, ys) => 0 ≤ k ∧ k < j ∧ j ≤ xs.length ∧ ys.length = xs.length ∧ ys.take k.toNat = (xs.take j.toNat).filter (fun x => !p x) ∧ (∀ i : Nat, j ≤ (i : Int) → ys.getD i 0 = xs.getD i 0)) (fun (k, j, ys) => [(5, In k), (6, In j)]) (fun (k, j, ys) => [(0, .row false .flat (eI 0) (ys.map eI))]) (fun (k, j, ys) => ((xs.length - j).toNat)) ((idxI p xs, idxI p xs + 1, xs)) ?_)
    | (refine LoopB.of (T := Int × Int × List Int) ?_ ?_; rotate_left; rintro ⟨k, j, ys⟩ ⟨k0, k1, k2, k3, k4, k5⟩; rotate_left)
    | refine GhF.go ?_
    | refine MkF.row ?_
    | refine EqP.mk _ (gm eI 0 rfl) ?_
    | refine BndF.mk (fun _ => by omega) ?_
    | refine BndF.mk (fun _ => by simp only [lnS]; omega) ?_
    | refine EqI.mk _ (fun _ => wrapI (by omega) (by omega)) ?_
    | refine EqI.mk _ (fun _ => rfl) ?_
    | refine EqN.mk _ (ln eI) ?_
    | refine EqN.mk _ (Nat.zero_add _) ?_
    | refine EqN.mk _ (Int.toNat_natCast _) ?_
    | refine EqN.mk _ rfl ?_
    | refine EqL.mk _ (tk eI (by first | rfl | assumption | omega | (simp only [lnS] <;> omega))) ?_
    | refine EqL.mk _ (st eI) ?_
    | refine EqL.mk _ (dt eI) ?_
    | refine EqL.mk [] rfl ?_
    | refine EqL.mk [_] rfl ?_
    | refine EqL.mk _ rfl ?_
    | refine ArgF.is (c_slices_IndexFunc_int64_int64 _ _ _ _ _ (by first | assumption | omega)) ?_
    | refine ArgQ.is (fun hG => c_slices_IndexFunc_int64_int64 _ _ _ _ _ (by first | assumption | omega)) rfl rfl ?_
    | refine CallF.mk (CallW.is [] true rfl ?_)
    | refine CallG.mk ?_
    | (refine CondF.mk (fun hb => ?_) (fun hb => ?_) <;> try simp only [forall_const, eq_self, not_true_eq_false, not_false_eq_true, or_false, false_or, or_self, or_true, true_or, and_true, true_and, and_false, false_and, decide_true, decide_false, Bool.not_true, Bool.not_false, decide_eq_true_eq, decide_eq_false_iff_not, ite_and_p, ite_or_p, Bool.decide_eq_true, Bool.and_eq_true, Bool.or_eq_true, Bool.not_eq_true', Bool.not_eq_false', Bool.and_eq_false_imp, Bool.or_eq_false_iff, bne_iff_ne, beq_iff_eq, bne_eq_false_iff_eq, beq_eq_false_iff_ne, gt_iff_lt, ge_iff_le, Int.not_lt, Int.not_le, ne_eq, Bool.true_eq_false, Bool.false_eq_true, reduceCtorEq, eta_Airway, eta_Fan, eta_Mine] at hb)
    | apply BackF.auto3
    | refine BackB.mk ?_ ?_
    | refine RetF.auto (And.intro rfl ?_)
    | exact Is.mk rfl rfl
    | refine Is.mk ?_ rfl
    | refine Is.mk rfl ?_
    | refine Is.mk ?_ ?_
  all_goals try dsimp only
  all_goals first
    | omega
    | exact ⟨Nat.le_refl _, by rw [List.take_of_length_le (Nat.le_refl _), idxI_neg hb]⟩
    | (have hi := idxI_pos hb
       refine ⟨by omega, by omega, by omega, rfl, ?_, fun _ _ => rfl⟩
       rw [filt_s hi.1 hi.2.1, if_pos hi.2.2.1, List.append_nil, pre_keep (by omega) (fun j hj => hi.2.2.2 j (by omega))])
    | (have e5 := k5 j.toNat (by omega)
       refine ⟨by omega, by omega, by omega, by rw [List.length_set]; exact k3, ?_, fun i hi => ?_⟩
       · rw [take_set k0 (by omega), k4, filt_s (by omega) (by omega), if_neg (by rw [← e5]; simpa using hb), e5]
       · rw [getD_set, if_neg (by omega)]; exact k5 i (by omega))
    | (have e5 := k5 j.toNat (by omega)
       refine ⟨by omega, by omega, by omega, k3, ?_, fun i hi => k5 i (by omega)⟩
       rw [k4, filt_s (by omega) (by omega), if_pos (by rw [← e5]; simpa using hb), List.append_nil])
    | (show k.toNat - 0 ≤ _ ∧ List.take (k.toNat - 0) _ = _
       rw [Nat.sub_zero, List.append_assoc]
       refine ⟨by simp only [List.length_append, List.length_take]; omega, ?_⟩
       rw [List.take_append_of_le_length (by rw [List.length_take]; omega), List.take_take, Nat.min_self, k4, List.take_of_length_le (by omega)])
    | skip
inductive LsR (ok : Bool) (F : List Int → Prop) (rs : List AV) (ho : List OB) : Prop
  | no (h1 : rs = [.osl 0 0 0, In 1]) (h2 : ho = [.row false .flat (eI 0) []]) (h : ok = false)
  | ok (n : Nat) (xs : List Int) (h1 : rs = [.osl 0 0 n, In 0]) (h2 : ho = [.row false .flat (eI 0) (xs.map eI)]) (hn : n = xs.length) (h : ok = true) (hx : F xs)
--@fn impl.TreeOf
theorem treT (m : GMine) : FnSem Tryz.prog 7 [.p .any (.agg m.cells)] [] (LsR (okMine m) fun xs => xs = treeC m m.airways.length) := by
  refine FnSem.old ?_
  refine FnSem.walk (zs := zeroPV Tryz.prog) (by kernel_rfl) Tryz.func7 rfl Tryz.results7 (by kernel_rfl) (by kernel_rfl) (by kernel_rfl) fun hw hh => ?_
  obtain ⟨w0, _⟩ := hw
  first | replace w0 := wf_Mine w0 | skip
  repeat' first
    | refine And.intro rfl ?_
    | refine GdF.mk (fun h => h) ?_
    | refine And.intro (Nat.succ_ne_zero _) ?_
    | refine And.intro (Nat.le_of_ble_eq_true rfl) ?_
    | refine SeqF.run ?_
    | refine ArgF.is (c_impl_ValidMine m) ?_
    | refine ArgQ.is (fun hG => c_impl_ValidMine m) rfl rfl ?_
    | (refine ArgF.ret (treeX m (by assumption)) ?_; rintro ⟨n, T⟩ ⟨t1, t2⟩; dsimp only at t1 t2)
    | exact LsR.no rfl rfl (by assumption)
    | exact LsR.ok n T rfl rfl t1 (by assumption) t2
    | refine GhF.go ?_
    | refine MkF.row ?_
    | refine BndF.mk (fun _ => by omega) ?_
    | refine BndF.mk (fun _ => by simp only [lnS]; omega) ?_
    | refine EqN.mk _ (Nat.zero_add _) ?_
    | refine EqN.mk _ (Int.toNat_natCast _) ?_
    | refine EqN.mk _ rfl ?_
    | refine EqL.mk [] rfl ?_
    | refine EqL.mk [_] rfl ?_
    | refine EqL.mk _ rfl ?_
    | refine ArgF.is (c_impl_ValidMine ⟨_, _⟩) ?_
    | refine ArgQ.is (fun hG => c_impl_ValidMine ⟨_, _⟩) rfl rfl ?_
    | refine ArgF.is (c_impl_Mine_tree ⟨_, _⟩ (by first | assumption | omega)) ?_
    | refine ArgQ.is (fun hG => c_impl_Mine_tree ⟨_, _⟩ (by first | assumption | omega)) rfl rfl ?_
    | refine CallF.mk (CallW.is [] true rfl ?_)
    | refine CallG.mk ?_
    | (refine CondF.mk (fun hb => ?_) (fun hb => ?_) <;> try simp only [forall_const, eq_self, not_true_eq_false, not_false_eq_true, or_false, false_or, or_self, or_true, true_or, and_true, true_and, and_false, false_and, decide_true, decide_false, Bool.not_true, Bool.not_false, decide_eq_true_eq, decide_eq_false_iff_not, ite_and_p, ite_or_p, Bool.decide_eq_true, Bool.and_eq_true, Bool.or_eq_true, Bool.not_eq_true', Bool.not_eq_false', Bool.and_eq_false_imp, Bool.or_eq_false_iff, bne_iff_ne, beq_iff_eq, bne_eq_false_iff_eq, beq_eq_false_iff_ne, gt_iff_lt, ge_iff_le, Int.not_lt, Int.not_le, ne_eq, Bool.true_eq_false, Bool.false_eq_true, reduceCtorEq, eta_Airway, eta_Fan, eta_Mine] at hb)
    | refine RetF.auto (And.intro rfl ?_)
    | exact Is.mk rfl rfl
    | refine Is.mk ?_ rfl
    | refine Is.mk rfl ?_
    | refine Is.mk ?_ ?_
  all_goals skip
structure prtP (m : GMine) (ps : List Int) (k : Int) : Prop where
  ln : (ps.length : Int) = m.junctions
  at_ : ∀ j : Nat, (j : Int) < k → cnA m (iotaI 0 m.airways.length) j (ps.getD j 0) ∧ ∀ u, cnA m (iotaI 0 m.airways.length) j u → ps.getD j 0 ≤ u
theorem prtP_0 {m : GMine} (hm : okMine m = true) : prtP m (List.replicate m.junctions.toNat 0) 0 := by
  have q := (okMine_p hm).1
  exact ⟨by rw [List.length_replicate]; omega, fun j hj => by omega⟩
theorem prtP_s {m : GMine} {ps zs : List Int} {j v : Int} {i9 : Nat} (h : prtP m ps j) (h0 : 0 ≤ j) (hj : j < m.junctions) (q3 : ∀ u : Int, u ∈ zs ↔ cnA m (iotaI 0 m.airways.length) j u) (v1 : i9 < zs.length) (v2 : v = zs.getD i9 0) (v3 : ∀ j : Nat, (j : Int) < zs.length → v ≤ zs.getD j 0) : prtP m (ps.set j.toNat v) (j + 1) := by
  have hl := h.ln
  refine ⟨by rw [List.length_set]; exact hl, fun i hi => ?_⟩
  rw [getD_set]
  by_cases e : (i : Int) = j
  · rw [if_pos ⟨by omega, by omega⟩, e]
    refine ⟨(q3 v).1 (by rw [v2]; exact getD_mem v1), fun u hu => ?_⟩
    obtain ⟨k, hk, ek⟩ := List.getElem_of_mem ((q3 u).2 hu)
    have := v3 k (by omega)
    rw [List.getD_eq_getElem?_getD, List.getElem?_eq_getElem hk, Option.getD_some, ek] at this
    exact this
  · rw [if_neg (by omega)]
    exact h.at_ i (by omega)
--@fn impl.PartsOf
theorem parT5 (m : GMine) : FnSem Tryz.prog 9 [.p .any (.agg m.cells)] [] (LsR (okMine m) fun xs => prtP m xs m.junctions) := by
  refine FnSem.old ?_
  refine FnSem.walk (zs := zeroPV Tryz.prog) (by kernel_rfl) Tryz.func9 rfl Tryz.results9 (by kernel_rfl) (by kernel_rfl) (by kernel_rfl) fun hw hh => ?_
  obtain ⟨w0, _⟩ := hw
  first | replace w0 := wf_Mine w0 | skip
  repeat' first
    | refine EqN.mk m.junctions.toNat rfl ?_
    | refine And.intro rfl ?_
    | refine GdF.mk (fun h => h) ?_
    | refine And.intro (Nat.succ_ne_zero _) ?_
    | refine And.intro (Nat.le_of_ble_eq_true rfl) ?_
    | refine SeqF.run ?_
    | refine EqI.mk (j + 1) (fun _ => by have q := (okMine_p (by assumption)).1; exact wrapI (by omega) (by omega)) ?_
    | refine BndF.mk (fun _ => by have q := (okMine_p (by assumption)).1; omega) ?_
    | refine ArgF.is (c_impl_ValidMine m) ?_
    | refine ArgQ.is (fun hG => c_impl_ValidMine m) rfl rfl ?_
    | refine ArgF.is (c_impl_Mine_all m (by have := (okMine_p (by assumption)).2.1; omega)) ?_
    | refine ArgQ.is (fun hG => c_impl_Mine_all m (by have := (okMine_p (by assumption)).2.1; omega)) rfl rfl ?_
    | (refine ArgF.ret (c_impl_Mine_reached m j (iotaI 0 m.airways.length) (by assumption) (by unfold inV; omega) iota_r (by rw [iotaI_len]; have := (okMine_p (by assumption)).2.1; omega)) ?_; rintro ⟨k, zs⟩ ⟨q1, q2, q3⟩; dsimp only at q1 q2 q3)
    | (refine ArgF.ret (c_slices_Min_int64_int64 zs (by have := (q3 j).2 cnA_refl; cases zs with | nil => cases this | cons a r => simp)) ?_; rintro v ⟨⟨i9, v1, v2⟩, v3⟩)
    | exact LsR.no rfl rfl (by assumption)
    | refine LsR.ok _ ps rfl rfl ?_ (by assumption) ?_
    | refine EqL.mk _ (tkT (take_all q1)) ?_
    | refine EqL.mk _ (stI (by kernel_rfl)) ?_
    | refine BndF.mk (fun _ => by have := j2.ln; simp only [List.length_map]; omega) ?_
    | refine LoopF.at 5 rfl (LoopF.fix [1, 4, 13] (Int × List Int) (fun (j, ps) => 0 ≤ j ∧ j ≤ m.junctions ∧ prtP m ps j) (fun (j, ps) => [(14, In j)]) (fun (j, ps) => [(1, Rw .flat (eI 0) (ps.map eI))]) (fun (j, ps) => ((m.junctions - j).toNat)) ((0, List.replicate m.junctions.toNat 0)) ?_)
    | (refine LoopB.of (T := Int × List Int) ?_ ?_; rotate_left; rintro ⟨j, ps⟩ ⟨j0, j1, j2⟩; rotate_left)
    | refine GhF.go ?_
    | refine DrawG.old (DrawF.lex (by decide +kernel) ?_)
    | refine DrawG.old (DrawF.any ?_)
    | refine OrdF.take 0 (by decide +kernel) ?_
    | refine OrdF.take 1 (by decide +kernel) ?_
    | refine OrdF.take 3 (by decide +kernel) ?_
    | refine OrdF.take 8 (by decide +kernel) ?_
    | refine OrdF.all [9] (by decide +kernel) ?_
    | refine OrdF.all [7] (by decide +kernel) ?_
    | refine OrdF.all [6] (by decide +kernel) ?_
    | refine OrdF.all [2] (by decide +kernel) ?_
    | refine OrdF.all [5] (by decide +kernel) ?_
    | refine OrdF.all [2, 5] (by decide +kernel) ?_
    | refine OrdF.all [4] (by decide +kernel) ?_
    | refine OrdF.all [2, 4] (by decide +kernel) ?_
    | refine OrdF.fin (by decide +kernel) ?_
    | refine AllF.one _ ?_
    | refine AllF.cons _ _ ?_ ?_
    | refine MkF.row ?_
    | refine EqP.mk _ (gm eI 0 rfl) ?_
    | refine BndF.mk (fun _ => by omega) ?_
    | refine BndF.mk (fun _ => by simp only [lnS]; omega) ?_
    | refine EqI.mk _ (fun _ => wrapI (by omega) (by omega)) ?_
    | refine EqI.mk _ (fun _ => rfl) ?_
    | refine EqN.mk _ (ln eI) ?_
    | refine EqN.mk _ (Nat.zero_add _) ?_
    | refine EqN.mk _ (Int.toNat_natCast _) ?_
    | refine EqN.mk _ rfl ?_
    | refine EqL.mk _ (tk eI (by first | rfl | assumption | omega | (simp only [lnS] <;> omega))) ?_
    | refine EqL.mk _ (st eI) ?_
    | refine EqL.mk _ (rp eI 0) ?_
    | refine EqL.mk _ (dt eI) ?_
    | refine EqL.mk [] rfl ?_
    | refine EqL.mk [_] rfl ?_
    | refine EqL.mk _ rfl ?_
    | refine ArgF.is (c_impl_ValidMine ⟨_, _⟩) ?_
    | refine ArgQ.is (fun hG => c_impl_ValidMine ⟨_, _⟩) rfl rfl ?_
    | refine ArgF.is (c_impl_Mine_all ⟨_, _⟩ (by first | assumption | omega)) ?_
    | refine ArgQ.is (fun hG => c_impl_Mine_all ⟨_, _⟩ (by first | assumption | omega)) rfl rfl ?_
    | refine ArgF.is (c_impl_Mine_reached ⟨_, _⟩ _ _ (by first | assumption | omega) (by first | assumption | omega) (by first | assumption | omega) (by first | assumption | omega)) ?_
    | refine ArgQ.is (fun hG => c_impl_Mine_reached ⟨_, _⟩ _ _ (by first | assumption | omega) (by first | assumption | omega) (by first | assumption | omega) (by first | assumption | omega)) rfl rfl ?_
    | refine ArgF.is (c_slices_Min_int64_int64 _ (by first | assumption | omega)) ?_
    | refine ArgQ.is (fun hG => c_slices_Min_int64_int64 _ (by first | assumption | omega)) rfl rfl ?_
    | refine CallF.mk (CallW.is [] true rfl ?_)
    | refine CallG.mk ?_
    | (refine CondF.mk (fun hb => ?_) (fun hb => ?_) <;> try simp only [forall_const, eq_self, not_true_eq_false, not_false_eq_true, or_false, false_or, or_self, or_true, true_or, and_true, true_and, and_false, false_and, decide_true, decide_false, Bool.not_true, Bool.not_false, decide_eq_true_eq, decide_eq_false_iff_not, ite_and_p, ite_or_p, Bool.decide_eq_true, Bool.and_eq_true, Bool.or_eq_true, Bool.not_eq_true', Bool.not_eq_false', Bool.and_eq_false_imp, Bool.or_eq_false_iff, bne_iff_ne, beq_iff_eq, bne_eq_false_iff_eq, beq_eq_false_iff_ne, gt_iff_lt, ge_iff_le, Int.not_lt, Int.not_le, ne_eq, Bool.true_eq_false, Bool.false_eq_true, reduceCtorEq, eta_Airway, eta_Fan, eta_Mine] at hb)
    | apply BackF.auto2
    | refine BackB.mk ?_ ?_
    | refine RetF.auto (And.intro rfl ?_)
    | exact Is.mk rfl rfl
    | refine Is.mk ?_ rfl
    | refine Is.mk rfl ?_
    | refine Is.mk ?_ ?_
  all_goals try dsimp only
  all_goals first
    | omega
    | (have q := (okMine_p (by assumption)).1; exact ⟨by omega, by omega, prtP_0 (by assumption)⟩)
    | exact ⟨by omega, by omega, prtP_s j2 j0 (by omega) q3 v1 v2 v3⟩
    | (have := j2.ln; omega)
    | (rw [show m.junctions = j by omega]; exact j2)
    | skip
--@fn impl.BridgesOf$1
theorem brg1 (i x : Int) : FnSem Tryz.prog 40 [In x, .p .any (.ref [.c (.int .i64 i)])] [] (Is [Bo (decide (x = i))] []) := by
  refine FnSem.walk (zs := zeroPV Tryz.prog) (by kernel_rfl) Tryz.func40 rfl Tryz.results40 (by kernel_rfl) (by kernel_rfl) (by kernel_rfl) fun hw hh => ?_
  obtain ⟨w0, w1, _⟩ := hw
  first | replace w0 := wf_I w0 | skip
  first | replace w1 := wf_I w1 | replace w1 := wf_Y w1 | replace w1 := wf_S w1 | replace w1 := wf_LI w1 | replace w1 := wf_LY w1 | replace w1 := wf_LLI w1 | replace w1 := wf_Ls w1 | skip
  repeat' first
    | refine And.intro rfl ?_
    | refine GdF.mk (fun h => h) ?_
    | refine And.intro (Nat.succ_ne_zero _) ?_
    | refine And.intro (Nat.le_of_ble_eq_true rfl) ?_
    | refine SeqF.run ?_
    | refine GhF.go ?_
    | (refine CondF.mk (fun hb => ?_) (fun hb => ?_) <;> try simp only [forall_const, eq_self, not_true_eq_false, not_false_eq_true, or_false, false_or, or_self, or_true, true_or, and_true, true_and, and_false, false_and, decide_true, decide_false, Bool.not_true, Bool.not_false, decide_eq_true_eq, decide_eq_false_iff_not, ite_and_p, ite_or_p, Bool.decide_eq_true, Bool.and_eq_true, Bool.or_eq_true, Bool.not_eq_true', Bool.not_eq_false', Bool.and_eq_false_imp, Bool.or_eq_false_iff, bne_iff_ne, beq_iff_eq, bne_eq_false_iff_eq, beq_eq_false_iff_ne, gt_iff_lt, ge_iff_le, Int.not_lt, Int.not_le, ne_eq, Bool.true_eq_false, Bool.false_eq_true, reduceCtorEq, eta_Airway, eta_Fan, eta_Mine] at hb)
    | refine RetF.auto (And.intro rfl ?_)
    | exact Is.mk rfl rfl
    | refine Is.mk ?_ rfl
    | refine Is.mk rfl ?_
    | refine Is.mk ?_ ?_
  all_goals try dsimp only
  all_goals try simp only [Bo, I, OB.row.injEq, AV.osl.injEq, eI_same,  List.cons.injEq, AV.p.injEq, PV.c.injEq, Value.int.injEq, Value.bool.injEq, and_true, true_and, ite_and_p, ite_or_p, Bool.decide_eq_true, eta_Airway, eta_Fan, eta_Mine]
--@fn laws.b10Has
theorem hasT (xs : List Int) (x : Int) (h : x ∈ xs) : FnSem Tryz.prog 12 [Lx (LI xs), In x] [] (Is [Bo true] []) := by
  obtain ⟨k, hk, e⟩ := List.getElem_of_mem h
  refine FnSem.walk (zs := zeroPV Tryz.prog) (by kernel_rfl) Tryz.func12 rfl Tryz.results12 (by kernel_rfl) (by kernel_rfl) (by kernel_rfl) fun hw hh => ?_
  obtain ⟨w0, w1, _⟩ := hw
  first | replace w0 := wf_LI w0 | skip
  first | replace w1 := wf_I w1 | skip
  repeat' first
    | refine And.intro rfl ?_
    | refine GdF.mk (fun h => h) ?_
    | refine And.intro (Nat.succ_ne_zero _) ?_
    | refine And.intro (Nat.le_of_ble_eq_true rfl) ?_
    | refine SeqF.run ?_
    | refine LoopF.at 2 rfl (LoopF.fix [0, 1] (Int) (fun i => 0 ≤ i ∧ i ≤ xs.length ∧ i ≤ k) (fun i => [(5, In i)]) (fun i => []) (fun i => (((xs.length : Int) - i).toNat)) (0) ?_)
    | (refine LoopB.of (T := Int) ?_ ?_; rotate_left; rintro i ⟨h0, h1, h2⟩; rotate_left)
    | refine GhF.go ?_
    | refine EqP.mk _ (gm eI 0 rfl) ?_
    | refine BndF.mk (fun _ => by omega) ?_
    | refine BndF.mk (fun _ => by simp only [lnS]; omega) ?_
    | refine EqI.mk _ (fun _ => wrapI (by omega) (by omega)) ?_
    | refine EqI.mk _ (fun _ => rfl) ?_
    | refine EqN.mk _ (ln eI) ?_
    | refine EqN.mk _ (Nat.zero_add _) ?_
    | refine EqN.mk _ (Int.toNat_natCast _) ?_
    | refine EqN.mk _ rfl ?_
    | (refine CondF.mk (fun hb => ?_) (fun hb => ?_) <;> try simp only [forall_const, eq_self, not_true_eq_false, not_false_eq_true, or_false, false_or, or_self, or_true, true_or, and_true, true_and, and_false, false_and, decide_true, decide_false, Bool.not_true, Bool.not_false, decide_eq_true_eq, decide_eq_false_iff_not, ite_and_p, ite_or_p, Bool.decide_eq_true, Bool.and_eq_true, Bool.or_eq_true, Bool.not_eq_true', Bool.not_eq_false', Bool.and_eq_false_imp, Bool.or_eq_false_iff, bne_iff_ne, beq_iff_eq, bne_eq_false_iff_eq, beq_eq_false_iff_ne, gt_iff_lt, ge_iff_le, Int.not_lt, Int.not_le, ne_eq, Bool.true_eq_false, Bool.false_eq_true, reduceCtorEq, eta_Airway, eta_Fan, eta_Mine] at hb)
    | apply BackF.auto
    | refine BackB.mk ?_ ?_
    | refine RetF.auto (And.intro rfl ?_)
    | exact Is.mk rfl rfl
    | refine Is.mk ?_ rfl
    | refine Is.mk rfl ?_
    | refine Is.mk ?_ ?_
  all_goals try dsimp only
  all_goals first
    | omega
    | exact ⟨by omega, by omega, by omega⟩
    | (refine ⟨by omega, by omega, ?_⟩
       have hne : ¬i = k := fun e2 => hb (by rw [e2, Int.toNat_natCast, List.getD_eq_getElem?_getD, List.getElem?_eq_getElem hk]; exact e)
       omega)
    | skip
--@fn laws.b10Rises
theorem risT (xs : List Int) (n : Int) (h1 : ∀ x ∈ xs, 0 ≤ x ∧ x < n) (h2 : xs.Pairwise (· < ·)) : FnSem Tryz.prog 11 [Lx (LI xs), In n] [] (Is [Bo true] []) := by
  have g1 : ∀ i : Int, 0 ≤ i → i < xs.length → 0 ≤ xs.getD i.toNat 0 ∧ xs.getD i.toNat 0 < n := fun i a b => h1 _ (getD_mem (by omega))
  have g2 : ∀ i : Int, 0 < i → i < xs.length → xs.getD (i - 1).toNat 0 < xs.getD i.toNat 0 := fun i a b => by
    have := List.pairwise_iff_getElem.1 h2 (i - 1).toNat i.toNat (by omega) (by omega) (by omega)
    rw [List.getD_eq_getElem?_getD, List.getD_eq_getElem?_getD, List.getElem?_eq_getElem (by omega), List.getElem?_eq_getElem (by omega)]
    exact this
  refine FnSem.walk (zs := zeroPV Tryz.prog) (by kernel_rfl) Tryz.func11 rfl Tryz.results11 (by kernel_rfl) (by kernel_rfl) (by kernel_rfl) fun hw hh => ?_
  obtain ⟨w0, w1, _⟩ := hw
  first | replace w0 := wf_LI w0 | skip
  first | replace w1 := wf_I w1 | skip
  repeat' first
    | refine And.intro rfl ?_
    | refine GdF.mk (fun h => h) ?_
    | refine And.intro (Nat.succ_ne_zero _) ?_
    | refine And.intro (Nat.le_of_ble_eq_true rfl) ?_
    | refine SeqF.run ?_
    | refine LoopF.at 2 rfl (LoopF.fix [0, 1] (Int) (fun i => 0 ≤ i ∧ i ≤ xs.length) (fun i => [(5, In i)]) (fun i => []) (fun i => (((xs.length : Int) - i).toNat)) (0) ?_)
    | (refine LoopB.of (T := Int) ?_ ?_; rotate_left; rintro i ⟨i0, i1⟩; rotate_left)
    | refine GhF.go ?_
    | refine GdS.keep ?_
    | refine DrawG.old (DrawF.lex (by decide +kernel) ?_)
    | refine EqP.mk _ (gm eI 0 rfl) ?_
    | refine BndF.mk (fun _ => by omega) ?_
    | refine BndF.mk (fun _ => by simp only [lnS]; omega) ?_
    | refine BndF.mk (fun hG => by simp only [forall_const, eq_self, not_true_eq_false, not_false_eq_true, or_false, false_or, or_self, or_true, true_or, and_true, true_and, and_false, false_and, decide_true, decide_false, Bool.not_true, Bool.not_false, decide_eq_true_eq, decide_eq_false_iff_not, ite_and_p, ite_or_p, Bool.decide_eq_true, Bool.and_eq_true, Bool.or_eq_true, Bool.not_eq_true', Bool.not_eq_false', Bool.and_eq_false_imp, Bool.or_eq_false_iff, bne_iff_ne, beq_iff_eq, bne_eq_false_iff_eq, beq_eq_false_iff_ne, gt_iff_lt, ge_iff_le, Int.not_lt, Int.not_le, ne_eq, Bool.true_eq_false, Bool.false_eq_true, reduceCtorEq, eta_Airway, eta_Fan, eta_Mine, bytes_nil] at hG; (try simp only [List.length_map]); omega) ?_
    | refine EqI.mk _ (fun _ => wrapI (by omega) (by omega)) ?_
    | refine EqI.mk _ (fun _ => rfl) ?_
    | refine EqN.mk _ (ln eI) ?_
    | refine EqN.mk _ (Nat.zero_add _) ?_
    | refine EqN.mk _ (Int.toNat_natCast _) ?_
    | refine EqN.mk _ rfl ?_
    | (refine CondF.mk (fun hb => ?_) (fun hb => ?_) <;> try simp only [forall_const, eq_self, not_true_eq_false, not_false_eq_true, or_false, false_or, or_self, or_true, true_or, and_true, true_and, and_false, false_and, decide_true, decide_false, Bool.not_true, Bool.not_false, decide_eq_true_eq, decide_eq_false_iff_not, ite_and_p, ite_or_p, Bool.decide_eq_true, Bool.and_eq_true, Bool.or_eq_true, Bool.not_eq_true', Bool.not_eq_false', Bool.and_eq_false_imp, Bool.or_eq_false_iff, bne_iff_ne, beq_iff_eq, bne_eq_false_iff_eq, beq_eq_false_iff_ne, gt_iff_lt, ge_iff_le, Int.not_lt, Int.not_le, ne_eq, Bool.true_eq_false, Bool.false_eq_true, reduceCtorEq, eta_Airway, eta_Fan, eta_Mine] at hb)
    | apply BackF.auto
    | refine BackB.mk ?_ ?_
    | refine RetF.auto (And.intro rfl ?_)
    | exact Is.mk rfl rfl
    | refine Is.mk ?_ rfl
    | refine Is.mk rfl ?_
    | refine Is.mk ?_ ?_
  all_goals try dsimp only
  all_goals first
    | omega
    | exact ⟨by omega, by omega⟩
    | (exfalso
       have a := g1 i (by omega) (by omega)
       rcases hb with (hb | hb) | ⟨hb, hc⟩
       · omega
       · omega
       · have b := g2 i (by omega) (by omega)
         omega)
    | skip
end Go.Proofs.YtdhkpmaanegjkaaGreatDoor
