/- Contracts of functions of the program, and what they compute. Conditions: those that each theorem states. -/
import Derived.Test.YtdhkpmaanegjkaaGreatDoorProg
import Derived.Test.YtdhkpmaanegjkaaGreatDoorI9
import Derived.Test.YtdhkpmaanegjkaaGreatDoorI14l
set_option linter.unusedVariables false
set_option linter.unusedSimpArgs false
namespace Go.Proofs.YtdhkpmaanegjkaaGreatDoor
open Go.Av
attribute [local irreducible] Go.IntKind.wrap leastI binI rdZ rd rootI rawA prI okFanB
set_option maxRecDepth 20000
set_option maxHeartbeats 16000000
theorem flat_take {cs : List (List (List Int))} {i : Int} (h0 : 0 ≤ i) (h1 : i < cs.length) : (cs.take (i + 1).toNat).flatten = (cs.take i.toNat).flatten ++ cs.getD i.toNat [] := by
  have h2 : i.toNat < cs.length := by omega
  rw [show (i + 1).toNat = i.toNat + 1 by omega, List.take_succ_eq_append_getElem h2, List.flatten_append, List.getD_eq_getElem?_getD, List.getElem?_eq_getElem h2]
  simp
theorem gLL {cs : List (List (List Int))} {k : Nat} {z : List PV} (h : k < cs.length) : (cs.map fun c => [LLI c]).getD k z = [LLI (cs.getD k [])] := by
  simp [List.getD_eq_getElem?_getD, h]
--@fn slices.Sort[[]int64,int64]
theorem sortT (nw : Bool) (ys : List Int) (n : Nat) (hn : n ≤ ys.length) (hN : ys.length ≤ 1000000) : FnSem Tryz.prog 105 [.osl 0 0 n] [.row nw .flat (eI 0) (ys.map eI)] (Is [] [.row nw .flat (eI 0) ((sortI (ys.take n) ++ ys.drop n).map eI)]) :=
  FnSem.leafSort (by kernel_rfl) rfl hn hN Tryz.sortI_none Tryz.sortI_some
open Go.Shelf Go.RowKit Go.Lib in
--@fn slices.Grow[[][]int64,[]int64]
theorem growT (n : Int) (h : 1 ≤ n ∧ n ≤ 1000) : FnSem Tryz.prog 129 [cV (.slice none 0 0), In n] [] (Is [.osl 0 0 0] [.row true .any zL []]) :=
  FnSem.leafGrow (by kernel_rfl) rfl fun w => by
    obtain ⟨k, rfl⟩ : ∃ k : Nat, n = k := ⟨n.toNat, by omega⟩
    obtain ⟨i, hi, hz, hs⟩ := zNil_spec (P := Tryz.prog) (e := 28) (by kernel_rfl)
    have h1 : Tryz.prog.cellsOf 28 = 1 := by kernel_rfl
    have h2 : (Tryz.prog.info? 28).map (·.bytes) = some 24 := by kernel_rfl
    rw [hi] at h2
    have h3 : i.bytes = 24 := by simpa using h2
    have hge := grownCap_ge w k 0 28
    have hle := grownCap_le_maxLen w k 0 28 (by unfold maxLen; omega)
    refine (Tryz.growL i (.slice none 0 0) hi hz (by omega) k w (by omega) (by rw [h3]; omega) (by omega)).mono fun e w' ⟨e1, e2⟩ => ⟨_, _, _, hle, ?_, e1, e2⟩
    simp [size_zeroCells, Value.cells]
    omega
--@fn slices.Concat[[][]int64,[]int64]
theorem concT (cs : List (List (List Int))) (hc : 1 ≤ cs.length ∧ cs.length ≤ 2) (h : ∀ c ∈ cs, 1 ≤ c.length ∧ c.length ≤ 100) : FnSem Tryz.prog 104 [.osl 0 0 cs.length] [.row false .any zL (cs.map fun c => [LLI c])] (Is [.osl 1 0 cs.flatten.length] [.row false .any zL (cs.map fun c => [LLI c]), .row true .any zL (cs.flatten.map eLI)]) := by
  have hcl : ∀ i : Int, 0 ≤ i → i < cs.length → 1 ≤ (cs.getD i.toNat []).length ∧ (cs.getD i.toNat []).length ≤ 100 := fun i h0 h1 => by
    apply h
    rw [List.getD_eq_getElem?_getD, List.getElem?_eq_getElem (by omega), Option.getD_some]
    exact List.getElem_mem _
  refine FnSem.walk (zs := zeroPV Tryz.prog) (by kernel_rfl) Tryz.func104 rfl Tryz.results104 (by kernel_rfl) (by kernel_rfl) (by kernel_rfl) fun hw hh => ?_
  obtain ⟨w0, _⟩ := hw
  first | replace w0 := wf_I w0 | replace w0 := wf_Y w0 | replace w0 := wf_S w0 | replace w0 := wf_LI w0 | replace w0 := wf_LY w0 | replace w0 := wf_LLI w0 | replace w0 := wf_Ls w0 | skip
  repeat' first
    | refine And.intro rfl ?_
    | refine GdF.mk (fun h => h) ?_
    | refine And.intro (Nat.succ_ne_zero _) ?_
    | refine And.intro (Nat.le_of_ble_eq_true rfl) ?_
    | refine SeqF.run ?_
    | refine EqP.mk _ (gLL (by first | omega | (simp only [List.length_map] at hb; omega))) ?_
    | refine CallF.mk (f := 129) (CallW.is [] false rfl ?_)
    | refine ArgF.is (growT s (by first | omega | (simp only [List.length_map] at hb; omega))) ?_
    | refine ArgQ.is (fun hG => growT s (by first | omega | (simp only [List.length_map] at hb; omega))) rfl rfl ?_
    | refine EqI.mk (s + (cs.getD i.toNat []).length) (fun _ => by have q := hcl i (by omega) (by omega); exact wrapI (by omega) (by omega)) ?_
    | refine BndF.mk (fun _ => by have q := hcl i (by omega) (by omega); simp only [List.length_map]; omega) ?_
    | refine LoopF.at 3 rfl (LoopF.fix [0, 9, 10] (Int × Int) (fun (i, s) => 0 ≤ i ∧ i ≤ cs.length ∧ (0 ≤ s ∧ s ≤ 100 * i ∧ i ≤ s)) (fun (i, s) => [(11, In i), (3, In s)]) (fun (i, s) => []) (fun (i, s) => (((cs.length : Int) - i).toNat)) ((0, 0)) ?_)
    | (refine LoopB.of (T := Int × Int) ?_ ?_; rotate_left; rintro ⟨i, s⟩ ⟨i0, i1, i2⟩; rotate_left)
    | refine LoopF.at 11 rfl (LoopF.fix [25, 26] (Int × Nat × List (List Int)) (fun (i, n, ys) => 0 ≤ i ∧ i ≤ cs.length ∧ n = ys.length ∧ ys = (cs.take i.toNat).flatten ∧ (n : Int) ≤ 100 * i) (fun (i, n, ys) => [(27, In i), (6, .osl 1 0 n)]) (fun (i, n, ys) => [(1, .row true .any zL (ys.map eLI))]) (fun (i, n, ys) => (((cs.length : Int) - i).toNat)) ((0, 0, [])) ?_)
    | (refine LoopB.of (T := Int × Nat × List (List Int)) ?_ ?_; rotate_left; rintro ⟨i, n, ys⟩ ⟨i0, i1, i2, i3, i4⟩; rotate_left)
    | refine GhF.go ?_
    | refine MkF.row ?_
    | refine EqP.mk _ (gmb eLI [] (by omega)) ?_
    | refine BndF.mk (fun _ => by omega) ?_
    | refine BndF.mk (fun _ => by simp only [lnS]; omega) ?_
    | refine EqI.mk _ (fun _ => wrapI (by omega) (by omega)) ?_
    | refine EqI.mk _ (fun _ => rfl) ?_
    | refine FlF.keep ?_
    | refine EqN.mk _ (ln eLI) ?_
    | refine EqN.mk _ (Nat.zero_add _) ?_
    | refine EqN.mk (_ + 1) rfl ?_
    | refine EqN.mk _ (Int.toNat_natCast _) ?_
    | refine EqN.mk _ rfl ?_
    | refine EqL.mk _ (sn0 eLI) ?_
    | refine EqL.mk _ (sn eLI (by first | rfl | assumption | omega | (simp only [lnS] <;> omega))) ?_
    | refine EqL.mk _ (ap0 eLI) ?_
    | refine EqL.mk _ (ap eLI (by first | rfl | assumption | omega | (simp only [lnS] <;> omega))) ?_
    | refine EqL.mk _ (tk eLI (by first | rfl | assumption | omega | (simp only [lnS] <;> omega))) ?_
    | refine EqL.mk _ (dt eLI) ?_
    | refine EqL.mk [] rfl ?_
    | refine EqL.mk [_] rfl ?_
    | refine EqL.mk _ rfl ?_
    | refine ArgF.is (c_slices_Grow_int64_int64 ..) ?_
    | refine ArgQ.is (fun hG => c_slices_Grow_int64_int64 ..) rfl rfl ?_
    | refine CallF.mk (CallW.is [] true rfl ?_)
    | refine CallG.mk ?_
    | (refine CondF.mk (fun hb => ?_) (fun hb => ?_) <;> try simp only [forall_const, eq_self, not_true_eq_false, not_false_eq_true, or_false, false_or, or_self, or_true, true_or, and_true, true_and, and_false, false_and, decide_true, decide_false, Bool.not_true, Bool.not_false, decide_eq_true_eq, decide_eq_false_iff_not, ite_and_p, ite_or_p, Bool.decide_eq_true, Bool.and_eq_true, Bool.or_eq_true, Bool.not_eq_true', Bool.not_eq_false', Bool.and_eq_false_imp, Bool.or_eq_false_iff, bne_iff_ne, beq_iff_eq, bne_eq_false_iff_eq, beq_eq_false_iff_ne, gt_iff_lt, ge_iff_le, Int.not_lt, Int.not_le, ne_eq, Bool.true_eq_false, Bool.false_eq_true, reduceCtorEq, eta_Airway, eta_Fan, eta_Mine] at hb)
    | apply BackF.auto3
    | apply BackF.auto2
    | refine BackB.mk ?_ ?_
    | refine RetF.auto (And.intro rfl ?_)
    | exact Is.mk rfl rfl
    | refine Is.mk ?_ rfl
    | refine Is.mk rfl ?_
    | refine Is.mk ?_ ?_
  all_goals try dsimp only
  all_goals try simp only [Bo, I, OB.row.injEq, AV.osl.injEq, eI_same,  List.cons.injEq, AV.p.injEq, PV.c.injEq, Value.int.injEq, Value.bool.injEq, and_true, true_and, ite_and_p, ite_or_p, Bool.decide_eq_true, eta_Airway, eta_Fan, eta_Mine]
  all_goals try dsimp only
  all_goals first
    | omega
    | exact ⟨by omega, by omega, by omega⟩
    | (have q := hcl i (by omega) (by omega); exact ⟨by omega, by omega, by omega⟩)
    | exact ⟨by omega, by omega, rfl, by simp, by omega⟩
    | (have q := hcl i (by omega) (by omega)
       refine ⟨by omega, by omega, by rw [List.length_map, List.length_append, i2], by rw [i3, flat_take (by omega) (by omega)], by rw [List.length_map]; omega⟩)
    | (have e : ys = cs.flatten := by rw [i3, List.take_of_length_le (by omega)]
       rw [e]
       exact ⟨rfl, rfl, rfl⟩)
    | (have e : ys = cs.flatten := by rw [i3, List.take_of_length_le (by omega)]
       rw [i2, e]
       exact ⟨rfl, rfl, rfl⟩)
    | (have e : ys = cs.flatten := by rw [i3, List.take_of_length_le (by omega)]
       rw [i2, e])
    | skip
theorem all_w {ys : List Int} {n : Nat} {x : Int} {k : Int} (h : ∀ j : Nat, j < n → 0 ≤ ys.getD j 0 ∧ ys.getD j 0 ≤ 100000) (hx : 0 ≤ x ∧ x ≤ 100000) : ∀ j : Nat, j < n → 0 ≤ (ys.set k.toNat x).getD j 0 ∧ (ys.set k.toNat x).getD j 0 ≤ 100000 := fun j hj => by
  rw [getD_set]
  split
  · exact hx
  · exact h j hj
--@fn slices.Compact[[]int64,int64]
theorem compT (n : Nat) (ys : List Int) (hn : n ≤ ys.length) (hN : ys.length ≤ 1000) (h : ∀ j : Nat, j < n → 0 ≤ ys.getD j 0 ∧ ys.getD j 0 ≤ 100000) : FnSem Tryz.prog 106 [.osl 0 0 n] [.row false .flat (eI 0) (ys.map eI)] (RetV (fun v : Nat × List Int => [.osl 0 0 v.1]) (fun v => [.row false .flat (eI 0) (v.2.map eI)]) (fun v => v.1 ≤ v.2.length ∧ v.2.length ≤ 1000 ∧ ∀ j : Nat, j < v.1 → 0 ≤ v.2.getD j 0 ∧ v.2.getD j 0 ≤ 100000)) := by
  refine FnSem.walk (zs := zeroPV Tryz.prog) (by kernel_rfl) Tryz.func106 rfl Tryz.results106 (by kernel_rfl) (by kernel_rfl) (by kernel_rfl) fun hw hh => ?_
  obtain ⟨w0, _⟩ := hw
  first | replace w0 := wf_LI w0 | skip
  repeat' first
    | refine EqN.mk k.toNat rfl ?_
    | refine EqN.mk k2.toNat rfl ?_
    | refine EqN.mk k.toNat (Nat.zero_add _) ?_
    | refine EqN.mk k2.toNat (Nat.zero_add _) ?_
    | refine EqN.mk (n - k.toNat) rfl ?_
    | refine EqN.mk (n - k2.toNat) rfl ?_
    | refine EqN.mk k2.toNat (Nat.sub_zero _) ?_
    | refine And.intro rfl ?_
    | refine GdF.mk (fun h => h) ?_
    | refine And.intro (Nat.succ_ne_zero _) ?_
    | refine And.intro (Nat.le_of_ble_eq_true rfl) ?_
    | refine SeqF.run ?_
    | refine EqL.mk _ (stI (by kernel_rfl)) ?_
    | refine BndF.mk (fun _ => by first | omega | (simp only [List.length_map]; omega)) ?_
    | refine BndF.mk (fun _ => by show k.toNat ≤ n ∧ n ≤ _; simp only [List.length_map]; omega) ?_
    | refine BndF.mk (fun _ => by show k2.toNat ≤ n ∧ n ≤ _; simp only [List.length_map]; omega) ?_
    | refine BndF.mk (fun _ => by show 0 ≤ k2.toNat ∧ k2.toNat ≤ _; simp only [List.length_map]; omega) ?_
    | refine EqL.mk ((zs.take k2.toNat ++ List.replicate (n - k2.toNat) 0 ++ zs.drop (k2.toNat + (n - k2.toNat))).map eI) (by rw [List.map_append, List.map_append, List.map_take, List.map_drop, List.map_replicate]; rfl) ?_
    | refine RetV.mk (α := Nat × List Int) (n, ys) rfl rfl ?_
    | refine RetV.mk (α := Nat × List Int) (k2.toNat, _) rfl rfl ?_
    | refine LoopF.at 4 rfl (LoopF.fix [0] (Int) (fun k => 1 ≤ k ∧ k ≤ n) (fun k => [(3, In k)]) (fun k => []) (fun k => (((n : Int) - k).toNat)) (1) ?_)
    | (refine LoopB.of (T := Int) ?_ ?_; rotate_left; rintro k ⟨k0, k1⟩; rotate_left)
    | refine LoopF.at 9 rfl (LoopF.fix [0, 4] (Int × Int × List Int) (fun (k2, j, zs) => k ≤ k2 ∧ 1 ≤ j ∧ k + j ≤ n ∧ k2 + 1 ≤ k + j ∧ zs.length = ys.length ∧ (∀ i : Nat, i < n → 0 ≤ zs.getD i 0 ∧ zs.getD i 0 ≤ 100000)) (fun (k2, j, zs) => [(3, In k2), (5, In j)]) (fun (k2, j, zs) => [(0, .row false .flat (eI 0) (zs.map eI))]) (fun (k2, j, zs) => (((n : Int) - k - j).toNat)) ((k, 1, ys)) ?_)
    | (refine LoopB.of (T := Int × Int × List Int) ?_ ?_; rotate_left; rintro ⟨k2, j, zs⟩ ⟨j0, j1, j2, j3, j4, j5⟩; rotate_left)
    | refine GhF.go ?_
    | refine DrawG.old (DrawF.lex (by decide +kernel) ?_)
    | refine MkF.row ?_
    | refine EqP.mk _ (gm eI 0 rfl) ?_
    | refine BndF.mk (fun _ => by omega) ?_
    | refine BndF.mk (fun _ => by simp only [lnS]; omega) ?_
    | refine EqI.mk _ (fun _ => wrapI (by omega) (by omega)) ?_
    | refine EqI.mk _ (fun _ => rfl) ?_
    | refine EqN.mk _ (ln eI) ?_
    | refine EqN.mk _ (Nat.zero_add _) ?_
    | refine EqN.mk _ (Int.toNat_natCast _) ?_
    | refine EqN.mk _ rfl ?_
    | refine EqL.mk _ (st eI) ?_
    | refine EqL.mk _ (dt eI) ?_
    | refine EqL.mk [] rfl ?_
    | refine EqL.mk [_] rfl ?_
    | refine EqL.mk _ rfl ?_
    | (refine CondF.mk (fun hb => ?_) (fun hb => ?_) <;> try simp only [forall_const, eq_self, not_true_eq_false, not_false_eq_true, or_false, false_or, or_self, or_true, true_or, and_true, true_and, and_false, false_and, decide_true, decide_false, Bool.not_true, Bool.not_false, decide_eq_true_eq, decide_eq_false_iff_not, ite_and_p, ite_or_p, Bool.decide_eq_true, Bool.and_eq_true, Bool.or_eq_true, Bool.not_eq_true', Bool.not_eq_false', Bool.and_eq_false_imp, Bool.or_eq_false_iff, bne_iff_ne, beq_iff_eq, bne_eq_false_iff_eq, beq_eq_false_iff_ne, gt_iff_lt, ge_iff_le, Int.not_lt, Int.not_le, ne_eq, Bool.true_eq_false, Bool.false_eq_true, reduceCtorEq, eta_Airway, eta_Fan, eta_Mine] at hb)
    | apply BackF.auto3
    | apply BackF.auto
    | refine BackB.mk ?_ ?_
    | refine RetF.auto (And.intro rfl ?_)
    | exact Is.mk rfl rfl
    | refine Is.mk ?_ rfl
    | refine Is.mk rfl ?_
    | refine Is.mk ?_ ?_
  all_goals try dsimp only
  all_goals first
    | omega
    | exact ⟨hn, hN, h⟩
    | exact ⟨by omega, by omega⟩
    | exact ⟨by omega, by omega, by omega, by omega, rfl, h⟩
    | exact ⟨by omega, by omega, by omega, by omega, j4, j5⟩
    | exact ⟨by omega, by omega, by omega, by omega, by rw [List.length_set]; exact j4, all_w j5 (j5 _ (by omega))⟩
    | (refine ⟨by simp only [List.length_append, List.length_take, List.length_replicate, List.length_drop]; omega, by simp only [List.length_append, List.length_take, List.length_replicate, List.length_drop]; omega, fun j hj => ?_⟩
       have q := j5 j (by omega)
       rw [List.getD_eq_getElem?_getD, List.append_assoc, List.getElem?_append_left (by rw [List.length_take]; omega), List.getElem?_take, if_pos (by omega), ← List.getD_eq_getElem?_getD]
       exact q)
    | skip
theorem rng_cat {a b : GFan} (ha : okFan a) (hb : okFan b) {j : Nat} (hj : j < (a.curve ++ b.curve).length) : ((a.curve ++ b.curve).getD j []).length = 2 ∧ 0 ≤ ((a.curve ++ b.curve).getD j []).getD 0 0 ∧ ((a.curve ++ b.curve).getD j []).getD 0 0 ≤ 100000 := by
  rw [List.length_append] at hj
  rw [List.getD_eq_getElem?_getD (l := a.curve ++ b.curve)]
  by_cases e : j < a.curve.length
  · rw [List.getElem?_append_left e, ← List.getD_eq_getElem?_getD]
    have := ha.cu.pt j e; omega
  · rw [List.getElem?_append_right (by omega), ← List.getD_eq_getElem?_getD]
    have := hb.cu.pt (j - a.curve.length) (by omega); omega
theorem sort_rng {ys : List Int} {n : Nat} (hn : n = ys.length) (h : ∀ j : Nat, j < n → 0 ≤ ys.getD j 0 ∧ ys.getD j 0 ≤ 100000) : ∀ j : Nat, j < n → 0 ≤ (sortI (ys.take n) ++ ys.drop n).getD j 0 ∧ (sortI (ys.take n) ++ ys.drop n).getD j 0 ≤ 100000 := fun j hj => by
  subst hn
  rw [List.drop_length, List.append_nil, List.take_length]
  have hm : (sortI ys).getD j 0 ∈ sortI ys := getD_mem (by rw [sortI_len]; exact hj)
  rw [sortI_mem] at hm
  obtain ⟨i, hi, e⟩ := List.getElem_of_mem hm
  have := h i hi
  rw [List.getD_eq_getElem?_getD, List.getElem?_eq_getElem hi, Option.getD_some, e] at this
  exact this
theorem sort_len {ys : List Int} {n : Nat} (hn : n ≤ ys.length) : (sortI (ys.take n) ++ ys.drop n).length = ys.length := by
  rw [List.length_append, sortI_len, List.length_take, List.length_drop]; omega
--@fn impl.curveNumbers
theorem curT (a b : GFan) (ha : okFan a) (hb : okFan b) : FnSem Tryz.prog 71 [.p .any (.agg a.cells), .p .any (.agg b.cells), In 0] [] (RetV (fun v : Nat × List Int => [.osl 0 0 v.1]) (fun v => [.row false .flat (eI 0) (v.2.map eI)]) (fun v => v.1 ≤ v.2.length ∧ v.2.length ≤ 1000 ∧ ∀ j : Nat, j < v.1 → 0 ≤ v.2.getD j 0 ∧ v.2.getD j 0 ≤ 100000)) := by
  have hla := ha.cu.ln
  have hlb := hb.cu.ln
  have hlf : (([a.curve, b.curve] : List (List (List Int))).flatten) = a.curve ++ b.curve := by simp
  have hr := fun j => rng_cat ha hb (j := j)
  have hll : (a.curve ++ b.curve).length = a.curve.length + b.curve.length := List.length_append
  have hcc := concT [a.curve, b.curve] ⟨by simp, by simp⟩ (fun c hc => by simp only [List.mem_cons, List.not_mem_nil, or_false] at hc; rcases hc with rfl | rfl <;> omega)
  rw [hlf] at hcc
  generalize a.curve ++ b.curve = cs at hcc hr hll
  refine FnSem.old ?_
  refine FnSem.walk (zs := zeroPV Tryz.prog) (by kernel_rfl) Tryz.func71 rfl Tryz.results71 (by kernel_rfl) (by kernel_rfl) (by kernel_rfl) fun hw hh => ?_
  obtain ⟨w0, w1, w2, _⟩ := hw
  first | replace w0 := wf_Fan w0 | skip
  first | replace w1 := wf_Fan w1 | skip
  first | replace w2 := wf_I w2 | skip
  repeat' first
    | refine And.intro rfl ?_
    | refine GdF.mk (fun h => h) ?_
    | refine And.intro (Nat.succ_ne_zero _) ?_
    | refine And.intro (Nat.le_of_ble_eq_true rfl) ?_
    | refine SeqF.run ?_
    | refine CallF.own (f := 104) [0] false ?_
    | refine ArgF.is (hcc) ?_
    | refine ArgQ.is (fun hG => hcc) rfl rfl ?_
    | refine BndF.mk (fun _ => by have q := hr i.toNat (by omega); first | omega | (simp only [List.length_map]; omega)) ?_
    | refine CallF.own (f := 105) [0] false ?_
    | refine CallF.own (f := 106) [0] false ?_
    | refine ArgF.is (sortT false ys n (by omega) (by omega)) ?_
    | refine ArgQ.is (fun hG => sortT false ys n (by omega) (by omega)) rfl rfl ?_
    | (refine ArgF.ret (compT n _ (by rw [sort_len (by omega)]; omega) (by rw [sort_len (by omega)]; omega) (sort_rng i2 i4)) ?_; rintro ⟨m, zs⟩ ⟨q1, q2, q3⟩; dsimp only at q1 q2 q3)
    | refine EqL.mk _ (tkT (take_all i2)) ?_
    | refine EqL.mk _ (snT (take_all i2)) ?_
    | refine RetV.mk (α := Nat × List Int) (m, zs) rfl rfl ?_
    | refine LoopF.at 3 rfl (LoopF.fix [2, 15, 16] (Int × Nat × List Int) (fun (i, n, ys) => 0 ≤ i ∧ i ≤ cs.length ∧ n = ys.length ∧ (n : Int) = i ∧ (∀ j : Nat, j < n → 0 ≤ ys.getD j 0 ∧ ys.getD j 0 ≤ 100000)) (fun (i, n, ys) => [(17, In i), (7, .osl 1 0 n)]) (fun (i, n, ys) => [(1, Rw .flat (eI 0) (ys.map eI))]) (fun (i, n, ys) => (((cs.length : Int) - i).toNat)) ((0, 0, [])) ?_)
    | (refine LoopB.of (T := Int × Nat × List Int) ?_ ?_; rotate_left; rintro ⟨i, n, ys⟩ ⟨i0, i1, i2, i3, i4⟩; rotate_left)
    | refine GhF.go ?_
    | refine MkF.row ?_
    | refine EqP.mk _ (gm eI 0 rfl) ?_
    | refine EqP.mk _ (gmb eLI [] (by omega)) ?_
    | refine BndF.mk (fun _ => by omega) ?_
    | refine BndF.mk (fun _ => by simp only [lnS]; omega) ?_
    | refine EqI.mk _ (fun _ => wrapI (by omega) (by omega)) ?_
    | refine EqI.mk _ (fun _ => rfl) ?_
    | refine FlF.keep ?_
    | refine EqN.mk _ (ln eI) ?_
    | refine EqN.mk _ (ln eLI) ?_
    | refine EqN.mk _ (Nat.zero_add _) ?_
    | refine EqN.mk (_ + 1) rfl ?_
    | refine EqN.mk _ (Int.toNat_natCast _) ?_
    | refine EqN.mk _ rfl ?_
    | refine EqL.mk _ (sn0 eI) ?_
    | refine EqL.mk _ (sn eI (by first | rfl | assumption | omega | (simp only [lnS] <;> omega))) ?_
    | refine EqL.mk _ (ap0 eI) ?_
    | refine EqL.mk _ (ap eI (by first | rfl | assumption | omega | (simp only [lnS] <;> omega))) ?_
    | refine EqL.mk _ (tk eI (by first | rfl | assumption | omega | (simp only [lnS] <;> omega))) ?_
    | refine EqL.mk _ (dt eI) ?_
    | refine EqL.mk _ (sn0 eLI) ?_
    | refine EqL.mk _ (sn eLI (by first | rfl | assumption | omega | (simp only [lnS] <;> omega))) ?_
    | refine EqL.mk _ (ap0 eLI) ?_
    | refine EqL.mk _ (ap eLI (by first | rfl | assumption | omega | (simp only [lnS] <;> omega))) ?_
    | refine EqL.mk _ (tk eLI (by first | rfl | assumption | omega | (simp only [lnS] <;> omega))) ?_
    | refine EqL.mk _ (dt eLI) ?_
    | refine EqL.mk [] rfl ?_
    | refine EqL.mk [_] rfl ?_
    | refine EqL.mk _ rfl ?_
    | refine ArgF.is (c_slices_Concat_int64_int64 ..) ?_
    | refine ArgQ.is (fun hG => c_slices_Concat_int64_int64 ..) rfl rfl ?_
    | refine ArgF.is (c_slices_Sort_int64_int64 ..) ?_
    | refine ArgQ.is (fun hG => c_slices_Sort_int64_int64 ..) rfl rfl ?_
    | refine ArgF.is (c_slices_Compact_int64_int64 ..) ?_
    | refine ArgQ.is (fun hG => c_slices_Compact_int64_int64 ..) rfl rfl ?_
    | refine CallF.mk (CallW.is [] true rfl ?_)
    | refine CallG.mk ?_
    | (refine CondF.mk (fun hb => ?_) (fun hb => ?_) <;> try simp only [forall_const, eq_self, not_true_eq_false, not_false_eq_true, or_false, false_or, or_self, or_true, true_or, and_true, true_and, and_false, false_and, decide_true, decide_false, Bool.not_true, Bool.not_false, decide_eq_true_eq, decide_eq_false_iff_not, ite_and_p, ite_or_p, Bool.decide_eq_true, Bool.and_eq_true, Bool.or_eq_true, Bool.not_eq_true', Bool.not_eq_false', Bool.and_eq_false_imp, Bool.or_eq_false_iff, bne_iff_ne, beq_iff_eq, bne_eq_false_iff_eq, beq_eq_false_iff_ne, gt_iff_lt, ge_iff_le, Int.not_lt, Int.not_le, ne_eq, Bool.true_eq_false, Bool.false_eq_true, reduceCtorEq, eta_Airway, eta_Fan, eta_Mine] at hb)
    | apply BackF.auto3
    | refine BackB.mk ?_ ?_
    | refine RetF.auto (And.intro rfl ?_)
    | exact Is.mk rfl rfl
    | refine Is.mk ?_ rfl
    | refine Is.mk rfl ?_
    | refine Is.mk ?_ ?_
  all_goals try dsimp only
  all_goals first
    | omega
    | exact ⟨q1, q2, q3⟩
    | exact ⟨by omega, by omega, rfl, by omega, fun j hj => absurd hj (Nat.not_lt_zero j)⟩
    | (have q := hr i.toNat (by omega)
       refine ⟨by omega, by omega, by simp [i2], by omega, fun j hj => ?_⟩
       by_cases e : j < ys.length
       · rw [getD_app e]; exact i4 j (by omega)
       · obtain rfl : j = ys.length := by omega
         simp only [List.getD_eq_getElem?_getD, List.getElem?_concat_length, Option.getD_some]
         rw [← List.getD_eq_getElem?_getD, ← List.getD_eq_getElem?_getD]
         exact q.2)
    | skip
end Go.Proofs.YtdhkpmaanegjkaaGreatDoor
