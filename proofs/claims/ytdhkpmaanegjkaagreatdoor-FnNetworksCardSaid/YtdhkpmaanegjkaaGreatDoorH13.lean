/- Contracts of functions of the program, and what they compute. Conditions: those that each theorem states. -/
import Derived.Test.YtdhkpmaanegjkaaGreatDoorProg
import Derived.Test.YtdhkpmaanegjkaaGreatDoorH11
import Derived.Test.YtdhkpmaanegjkaaGreatDoorH12
import Derived.Test.YtdhkpmaanegjkaaGreatDoorJ2
set_option linter.unusedVariables false
set_option linter.unusedSimpArgs false
namespace Go.Proofs.YtdhkpmaanegjkaaGreatDoor
open Go.Av
attribute [local irreducible] Go.IntKind.wrap okMine treeC mshC isName okAirway minS namI
set_option maxRecDepth 20000
set_option maxHeartbeats 16000000
--@fn impl.TreeOf
theorem treF (m : GMine) (h : okMine m = false) : FnSem Tryz.prog 7 [.p .any (.agg m.cells)] [] (Is [.osl 0 0 0, In 1] [.row false .flat (eI 0) []]) := by
  refine (treT m).mono fun rs ho hR => ?_
  rcases hR with ⟨rfl, rfl, _⟩ | ⟨_, _, _, _, _, hm, _⟩
  · exact Is.mk rfl rfl
  · rw [h] at hm; cases hm
--@fn impl.PartsOf
theorem parF5 (m : GMine) (h : okMine m = false) : FnSem Tryz.prog 9 [.p .any (.agg m.cells)] [] (Is [.osl 0 0 0, In 1] [.row false .flat (eI 0) []]) := by
  refine (parT5 m).mono fun rs ho hR => ?_
  rcases hR with ⟨rfl, rfl, _⟩ | ⟨_, _, _, _, _, hm, _⟩
  · exact Is.mk rfl rfl
  · rw [h] at hm; cases hm
--@fn impl.BridgesOf
theorem brdF (m : GMine) (h : okMine m = false) : FnSem Tryz.prog 10 [.p .any (.agg m.cells)] [] (Is [.osl 0 0 0, In 1] [.row false .flat (eI 0) []]) := by
  refine (brdT m).mono fun rs ho hR => ?_
  rcases hR with ⟨rfl, rfl, _⟩ | ⟨_, _, _, _, _, hm, _⟩
  · exact Is.mk rfl rfl
  · rw [h] at hm; cases hm
abbrev RvL (F : List Int → Prop) : List AV → List OB → Prop := RetV (fun v : Nat × List Int => [.osl 0 0 v.1, In 0]) (fun v => [.row false .flat (eI 0) (v.2.map eI)]) (fun v => v.1 = v.2.length ∧ F v.2)
theorem lsR_t {ok : Bool} {F : List Int → Prop} (h : ok = true) {rs : List AV} {ho : List OB} (hR : LsR ok F rs ho) : RvL F rs ho := by
  rcases hR with ⟨_, _, hm⟩ | ⟨n, xs, rfl, rfl, hn, _, hx⟩
  · rw [h] at hm; cases hm
  · exact RetV.mk (α := Nat × List Int) (n, xs) rfl rfl ⟨hn, hx⟩
--@fn impl.TreeOf
theorem treG (m : GMine) (h : okMine m = true) : FnSem Tryz.prog 7 [.p .any (.agg m.cells)] [] (RvL fun xs => xs = treeC m m.airways.length) := (treT m).mono fun _ _ hR => lsR_t h hR
--@fn impl.PartsOf
theorem parG5 (m : GMine) (h : okMine m = true) : FnSem Tryz.prog 9 [.p .any (.agg m.cells)] [] (RvL fun xs => prtP m xs m.junctions) := (parT5 m).mono fun _ _ hR => lsR_t h hR
--@fn impl.BridgesOf
theorem brdG (m : GMine) (h : okMine m = true) : FnSem Tryz.prog 10 [.p .any (.agg m.cells)] [] (RvL fun xs => xs.length ≤ 24 ∧ ∀ x ∈ xs, x ∈ treeC m m.airways.length) := (brdT m).mono fun _ _ hR => lsR_t h hR
--@fn impl.MeshesOf
theorem mshG5 (m : GMine) (h : okMine m = true) : FnSem Tryz.prog 8 [.p .any (.agg m.cells)] [] (Is [.p .fresh (LLI (mshC m)), In 0] []) := by
  have hv := c_impl_ValidMine m
  rw [h] at hv
  refine FnSem.walk (zs := zeroPV Tryz.prog) (by kernel_rfl) Tryz.func8 rfl Tryz.results8 (by kernel_rfl) (by kernel_rfl) (by kernel_rfl) fun hw hh => ?_
  obtain ⟨w0, _⟩ := hw
  first | replace w0 := wf_Mine w0 | skip
  repeat' first
    | refine And.intro rfl ?_
    | refine GdF.mk (fun h => h) ?_
    | refine And.intro (Nat.succ_ne_zero _) ?_
    | refine And.intro (Nat.le_of_ble_eq_true rfl) ?_
    | refine SeqF.run ?_
    | refine ArgF.is (hv) ?_
    | refine ArgQ.is (fun hG => hv) rfl rfl ?_
    | refine ArgF.is (meshX m h) ?_
    | refine ArgQ.is (fun hG => meshX m h) rfl rfl ?_
    | refine GhF.go ?_
    | refine MkF.row ?_
    | refine BndF.mk (fun _ => by omega) ?_
    | refine BndF.mk (fun _ => by simp only [lnS]; omega) ?_
    | refine EqN.mk _ (Nat.zero_add _) ?_
    | refine EqN.mk _ (Int.toNat_natCast _) ?_
    | refine EqN.mk _ rfl ?_
    | refine EqL.mk [] rfl ?_
    | refine EqL.mk [_] rfl ?_
    | refine EqL.mk _ rfl ?_
    | refine ArgF.is (c_impl_ValidMine ⟨_, _⟩) ?_
    | refine ArgQ.is (fun hG => c_impl_ValidMine ⟨_, _⟩) rfl rfl ?_
    | refine ArgF.is (c_impl_Mine_meshes ⟨_, _⟩ (by first | assumption | omega)) ?_
    | refine ArgQ.is (fun hG => c_impl_Mine_meshes ⟨_, _⟩ (by first | assumption | omega)) rfl rfl ?_
    | refine CallF.mk (CallW.is [] true rfl ?_)
    | refine CallG.mk ?_
    | (refine CondF.mk (fun hb => ?_) (fun hb => ?_) <;> try simp only [forall_const, eq_self, not_true_eq_false, not_false_eq_true, or_false, false_or, or_self, or_true, true_or, and_true, true_and, and_false, false_and, decide_true, decide_false, Bool.not_true, Bool.not_false, decide_eq_true_eq, decide_eq_false_iff_not, ite_and_p, ite_or_p, Bool.decide_eq_true, Bool.and_eq_true, Bool.or_eq_true, Bool.not_eq_true', Bool.not_eq_false', Bool.and_eq_false_imp, Bool.or_eq_false_iff, bne_iff_ne, beq_iff_eq, bne_eq_false_iff_eq, beq_eq_false_iff_ne, gt_iff_lt, ge_iff_le, Int.not_lt, Int.not_le, ne_eq, Bool.true_eq_false, Bool.false_eq_true, reduceCtorEq, eta_Airway, eta_Fan, eta_Mine] at hb)
    | refine RetF.auto (And.intro rfl ?_)
    | exact Is.mk rfl rfl
    | refine Is.mk ?_ rfl
    | refine Is.mk rfl ?_
    | refine Is.mk ?_ ?_
  all_goals skip
--@fn impl.MeshesOf
theorem mshF5 (m : GMine) (h : okMine m = false) : FnSem Tryz.prog 8 [.p .any (.agg m.cells)] [] (Is [.osl 0 0 0, In 1] [.rows false .flat (eI 0) [] none]) := by
  have hv := c_impl_ValidMine m
  rw [h] at hv
  refine FnSem.old ?_
  refine FnSem.walk (zs := zeroPV Tryz.prog) (by kernel_rfl) Tryz.func8 rfl Tryz.results8 (by kernel_rfl) (by kernel_rfl) (by kernel_rfl) fun hw hh => ?_
  obtain ⟨w0, _⟩ := hw
  first | replace w0 := wf_Mine w0 | skip
  repeat' first
    | refine And.intro rfl ?_
    | refine GdF.mk (fun h => h) ?_
    | refine And.intro (Nat.succ_ne_zero _) ?_
    | refine And.intro (Nat.le_of_ble_eq_true rfl) ?_
    | refine SeqF.run ?_
    | refine ArgF.is (hv) ?_
    | refine ArgQ.is (fun hG => hv) rfl rfl ?_
    | refine MkF.rows ?_
    | refine GhF.go ?_
    | refine BndF.mk (fun _ => ⟨rfl, by first | rfl | omega | (simp only [List.length_map, List.length_cons, List.length_nil, List.length_append, List.length_set, List.length_replicate]; first | done | omega)⟩) ?_
    | refine MkF.row ?_
    | refine BndF.mk (fun _ => by omega) ?_
    | refine BndF.mk (fun _ => by simp only [lnS]; omega) ?_
    | refine EqN.mk _ (Nat.zero_add _) ?_
    | refine EqN.mk _ (Int.toNat_natCast _) ?_
    | refine EqN.mk _ rfl ?_
    | refine EqL.mk [] rfl ?_
    | refine EqL.mk [_] rfl ?_
    | refine EqL.mk _ rfl ?_
    | refine ArgF.is (c_impl_ValidMine ⟨_, _⟩) ?_
    | refine ArgQ.is (fun hG => c_impl_ValidMine ⟨_, _⟩) rfl rfl ?_
    | refine ArgF.is (c_impl_Mine_meshes ⟨_, _⟩ (by first | assumption | omega)) ?_
    | refine ArgQ.is (fun hG => c_impl_Mine_meshes ⟨_, _⟩ (by first | assumption | omega)) rfl rfl ?_
    | refine CallF.mk (CallW.is [] true rfl ?_)
    | refine CallG.mk ?_
    | (refine CondF.mk (fun hb => ?_) (fun hb => ?_) <;> try simp only [forall_const, eq_self, not_true_eq_false, not_false_eq_true, or_false, false_or, or_self, or_true, true_or, and_true, true_and, and_false, false_and, decide_true, decide_false, Bool.not_true, Bool.not_false, decide_eq_true_eq, decide_eq_false_iff_not, ite_and_p, ite_or_p, Bool.decide_eq_true, Bool.and_eq_true, Bool.or_eq_true, Bool.not_eq_true', Bool.not_eq_false', Bool.and_eq_false_imp, Bool.or_eq_false_iff, bne_iff_ne, beq_iff_eq, bne_eq_false_iff_eq, beq_eq_false_iff_ne, gt_iff_lt, ge_iff_le, Int.not_lt, Int.not_le, ne_eq, Bool.true_eq_false, Bool.false_eq_true, reduceCtorEq, eta_Airway, eta_Fan, eta_Mine] at hb)
    | refine RetF.auto (And.intro rfl ?_)
    | exact Is.mk rfl rfl
    | refine Is.mk ?_ rfl
    | refine Is.mk rfl ?_
    | refine Is.mk ?_ ?_
  all_goals skip
noncomputable def rtI (m : GMine) (j : Nat) : Nat := (List.range j).countP fun (i : Nat) => lstB m (iotaI 0 m.airways.length) (i : Int)
section
variable {m : GMine} {ps : List Int} {j r : Int}
theorem prt_iff (h : prtP m ps m.junctions) (h0 : 0 ≤ j) (hj : j < m.junctions) : ps.getD j.toNat 0 = j ↔ lstP m (iotaI 0 m.airways.length) j := by
  have q := h.at_ j.toNat (by omega)
  rw [show ((j.toNat : Nat) : Int) = j by omega] at q
  constructor
  · intro e u hu
    have := q.2 u hu
    omega
  · intro e
    have a := e _ q.1
    have b := q.2 j cnA_refl
    omega
theorem rtI_y (h : prtP m ps m.junctions) (h0 : 0 ≤ j) (hj : j < m.junctions) (e : ps.getD j.toNat 0 = j) : rtI m (j + 1).toNat = rtI m j.toNat + 1 := by
  unfold rtI
  rw [show (j + 1).toNat = j.toNat + 1 by omega, List.range_succ, List.countP_append, List.countP_singleton, show ((j.toNat : Nat) : Int) = j by omega, lstB_t.2 ((prt_iff h h0 hj).1 e)]
  rfl
theorem rtI_n (h : prtP m ps m.junctions) (h0 : 0 ≤ j) (hj : j < m.junctions) (e : ¬ps.getD j.toNat 0 = j) : rtI m (j + 1).toNat = rtI m j.toNat := by
  have e2 : lstB m (iotaI 0 m.airways.length) j = false := Bool.eq_false_iff.2 fun c => e ((prt_iff h h0 hj).2 (lstB_t.1 c))
  unfold rtI
  rw [show (j + 1).toNat = j.toNat + 1 by omega, List.range_succ, List.countP_append, List.countP_singleton, show ((j.toNat : Nat) : Int) = j by omega, e2]
  simp
theorem rtI_le : ∀ k : Nat, rtI m k ≤ k := fun k => by
  unfold rtI
  have := List.countP_le_length (p := fun (i : Nat) => lstB m (iotaI 0 m.airways.length) (i : Int)) (l := List.range k)
  rwa [List.length_range] at this
theorem rtI_end (hm : okMine m = true) : (treeC m m.airways.length).length + rtI m m.junctions.toNat = m.junctions.toNat := by
  have h := tree_cnt hm m.airways.length (Nat.le_refl _)
  have e : rtI m m.junctions.toNat = lstN m (treeC m m.airways.length) := by
    unfold rtI lstN
    apply List.countP_congr
    intro x _
    rw [lstB_t, lstB_t, tree_roots hm]
  rw [e]; exact h
theorem msh_b (hm : okMine m = true) {n : Nat} {T : List Int} (hn : n = T.length) (hT : T = treeC m m.airways.length) : (((n : Int) + ((mshC m).map eLI).length) != (m.airways.length : Int)) = false := by
  have h := msh_tree hm (mshC_R hm)
  rw [List.length_map, hn, hT, bne_eq_false_iff_eq]
  omega
theorem prt_b5 {n : Nat} (hn : n = ps.length) (h : prtP m ps m.junctions) : ((n : Int) != m.junctions) = false := by
  rw [hn, bne_eq_false_iff_eq]; exact h.ln
theorem rts_b (hm : okMine m = true) {n : Nat} {T : List Int} (hn : n = T.length) (hT : T = treeC m m.airways.length) (hj : m.junctions ≤ j) (hj2 : j ≤ m.junctions) (hr : r = rtI m j.toNat) : (((n : Int) + r) != m.junctions) = false := by
  have h := rtI_end hm
  have hp := okMine_p hm
  rw [hr, hn, hT, bne_eq_false_iff_eq, show j = m.junctions by omega]
  omega
theorem tree_rises (hm : okMine m = true) {T : List Int} (hT : T = treeC m m.airways.length) : (∀ x ∈ T, 0 ≤ x ∧ x < (m.airways.length : Int)) ∧ T.Pairwise (· < ·) := by
  have t := treeC_I (m := m) m.airways.length
  rw [hT]; exact ⟨t.rg, t.so⟩
end
section
variable {m : GMine} {a : GAirway} {k : Int}
--@fn impl.DropAirway
theorem drpL (h : fitA m a k) : FnSem Tryz.prog 15 [.p .any (.agg (GMine.cells (addM m a k))), Str a.id] [] (Is [.p .fresh (.agg m.cells), In 0] []) := by
  have hr := h.rg
  have hl := ins_len (a := a) (xs := m.airways) (k := k.toNat) (by omega)
  have d := drpT (addM m a k) a.id h.ok2 (by rw [h.nam]; exact hr.1) (by rw [h.nam]; show k < ((insA m.airways k.toNat a).length : Int); omega)
  rw [h.nam, h.cut] at d
  exact d
--@fn impl.AirwayNamed
theorem namL (h : fitA m a k) : FnSem Tryz.prog 16 [.p .any (.agg (GMine.cells (addM m a k))), Str a.id] [] (Is [In k, In 0] []) := by
  have d := namT (addM m a k) a.id h.ok2 (by rw [h.nam]; exact h.rg.1)
  rw [h.nam] at d
  exact d
theorem fitA.at_ (h : fitA m a k) {z : List PV} : ((insA m.airways k.toNat a).map GAirway.cells).getD k.toNat z = a.cells := by
  have hr := h.rg
  have hl := ins_len (a := a) (xs := m.airways) (k := k.toNat) (by omega)
  rw [gmb GAirway.cells default (by omega), ins_at (by omega)]
theorem fitA.b0 (h : fitA m a k) : decide (k ≥ 0) = true := decide_eq_true (by have := h.rg; omega)
theorem fitA.b1 (h : fitA m a k) : decide (k < (((insA m.airways k.toNat a).map GAirway.cells).length : Int)) = true := decide_eq_true (by
  have hr := h.rg
  have hl := ins_len (a := a) (xs := m.airways) (k := k.toNat) (by omega)
  rw [List.length_map]; omega)
end
theorem fitA.b2 {m : GMine} {a : GAirway} {k : Int} (h : fitA m a k) : decide (k < ((insA m.airways k.toNat a).length : Int)) = true := decide_eq_true (by
  have hr := h.rg
  have hl := ins_len (a := a) (xs := m.airways) (k := k.toNat) (by omega)
  omega)
theorem iteF13 {b : Bool} : (if (false = true) then true else b) = b := rfl
theorem iteT13 {b : Bool} : (if (true = true) then b else false) = b := rfl
theorem ne013 : ((0 : Int) != 0) = false := rfl
theorem eq013 : ((0 : Int) == 0) = true := rfl
theorem c_laws_FnNetworks (c1 c2 : List Int) : FnSem Tryz.prog 3 [Lx (LY c1), Lx (LY c2)] [] (Is [Bo true] []) := by
  refine FnSem.walk (zs := zeroPV Tryz.prog) (by kernel_rfl) Tryz.func3 rfl Tryz.results3 (by kernel_rfl) (by kernel_rfl) (by kernel_rfl) fun hw hh => ?_
  obtain ⟨w0, w1, _⟩ := hw
  first | replace w0 := wf_LY w0 | skip
  first | replace w1 := wf_LY w1 | skip
  have hc1 : bytes c1 := w0.2
  have hc2 : bytes c2 := w1.2
  repeat' first
    | exact True.intro
    | rw [iteF13]
    | rw [iteT13]
    | rw [ne013]
    | rw [eq013]
    | rw [msh_b hm n1 n2]
    | rw [prt_b5 p1 p2]
    | rw [rts_b hm n1 n2 (by assumption) j1 j2]
    | rw [hf.b0]
    | rw [hf.b1]
    | rw [hf.b2]
    | refine And.intro rfl ?_
    | refine GdF.mk (fun h => h) ?_
    | refine And.intro (Nat.succ_ne_zero _) ?_
    | refine And.intro (Nat.le_of_ble_eq_true rfl) ?_
    | (refine SeqF.cutfix (a := codeF _ _ _ (.seq _ (.cond (.tmp 126) _ _))) [1, 6, 12] [1, 3] (Unit × Unit) (fun _ => True) (fun _ => []) (fun _ => [.row false .flat (eI 0) (T.map eI), .row false .flat (eI 0) (bs.map eI)]) ?_ ?_; rotate_left; rintro ⟨⟨⟩, ⟨⟩⟩ _; rotate_left)
    | apply FitF.auto2 () ()
    | refine SeqF.run ?_
    | (refine ArgF.ret (drT5 c1) ?_; intro m hml; dsimp only at hml ⊢; cases hm : okMine m)
    | refine ArgF.is (treF m hm) ?_
    | refine ArgQ.is (fun hG => treF m hm) rfl rfl ?_
    | refine ArgF.is (mshF5 m hm) ?_
    | refine ArgQ.is (fun hG => mshF5 m hm) rfl rfl ?_
    | refine ArgF.is (parF5 m hm) ?_
    | refine ArgQ.is (fun hG => parF5 m hm) rfl rfl ?_
    | refine ArgF.is (brdF m hm) ?_
    | refine ArgQ.is (fun hG => brdF m hm) rfl rfl ?_
    | (refine ArgF.ret (treG m hm) ?_; rintro ⟨n, T⟩ ⟨n1, n2⟩; dsimp only at n1 n2 ⊢)
    | refine ArgF.is (mshG5 m hm) ?_
    | refine ArgQ.is (fun hG => mshG5 m hm) rfl rfl ?_
    | (refine ArgF.ret (parG5 m hm) ?_; rintro ⟨kp, ps⟩ ⟨p1, p2⟩; dsimp only at p1 p2 ⊢)
    | (refine ArgF.ret (brdG m hm) ?_; rintro ⟨kb, bs⟩ ⟨b1, b3, b2⟩; dsimp only at b1 b2 b3 ⊢)
    | refine ArgF.is (risT T m.airways.length (tree_rises hm n2).1 (tree_rises hm n2).2) ?_
    | refine ArgQ.is (fun hG => risT T m.airways.length (tree_rises hm n2).1 (tree_rises hm n2).2) rfl rfl ?_
    | refine ArgF.is (hasT T (bs.getD i.toNat 0) (by rw [n2]; exact b2 _ (getD_mem (by omega)))) ?_
    | refine ArgQ.is (fun hG => hasT T (bs.getD i.toNat 0) (by rw [n2]; exact b2 _ (getD_mem (by omega)))) rfl rfl ?_
    | refine EqI.mk _ (fun _ => by have q1 := msh_tree hm (mshC_R hm); have q2 := (okMine_p hm).2.1; rw [List.length_map]; rw [n1, n2]; exact wrapI (by omega) (by omega)) ?_
    | refine EqI.mk _ (fun _ => by have q1 := rtI_le (m := m) j.toNat; have q2 := okMine_p hm; exact wrapI (by omega) (by omega)) ?_
    | refine EqI.mk _ (fun _ => by have q1 := rtI_le (m := m) j.toNat; have q2 := okMine_p hm; have q3 := msh_tree hm (mshC_R hm); have q4 : n = (treeC m m.airways.length).length := (by rw [n1, n2]); exact wrapI (by omega) (by omega)) ?_
    | refine BndF.mk (fun _ => by have := p2.ln; first | omega | (simp only [List.length_map]; omega)) ?_
    | (refine ArgF.ret (drA5 c2) ?_; rintro ⟨nm, a⟩ hnl; dsimp only at hnl ⊢)
    | (refine ArgF.mk _ (adT nm a hnl) (fun rs ho hR _ => ?_); rcases hR with ⟨rfl, rfl⟩ | ⟨rfl, rfl⟩ | ⟨rfl, rfl⟩ | ⟨rfl, rfl⟩ | ⟨k, rfl, rfl, hf⟩)
    | refine ArgF.is (drpL hf) ?_
    | refine ArgQ.is (fun hG => drpL hf) rfl rfl ?_
    | refine ArgF.is (namL hf) ?_
    | refine ArgQ.is (fun hG => namL hf) rfl rfl ?_
    | refine ArgF.is (mnTx (addM nm a k) hf.ok2) ?_
    | refine ArgQ.is (fun hG => mnTx (addM nm a k) hf.ok2) rfl rfl ?_
    | refine ArgF.is (rdMn (addM nm a k) hf.ok2) ?_
    | refine ArgQ.is (fun hG => rdMn (addM nm a k) hf.ok2) rfl rfl ?_
    | refine ArgF.is (smMn nm (by omega)) ?_
    | refine ArgQ.is (fun hG => smMn nm (by omega)) rfl rfl ?_
    | refine ArgF.is (smMn (addM nm a k) (by have := (okMine_p hf.ok2).2.1; omega)) ?_
    | refine ArgQ.is (fun hG => smMn (addM nm a k) (by have := (okMine_p hf.ok2).2.1; omega)) rfl rfl ?_
    | refine EqP.mk a.cells hf.at_ ?_
    | refine BndF.mk (fun _ => by have hr := hf.rg; have hl := ins_len (a := a) (xs := nm.airways) (k := k.toNat) (by omega); simp only [List.length_map]; omega) ?_
    | refine EqI.mk (i + 1) (fun _ => wrapI (by omega) (by omega)) ?_
    | refine EqL.mk _ (tkT (take_all n1)) ?_
    | refine EqL.mk _ (tkT (take_all b1)) ?_
    | refine LoopF.at 14 rfl (LoopF.fix [1, 5, 6, 10, 12] (Int × Int) (fun (r, j) => 0 ≤ j ∧ j ≤ m.junctions ∧ r = rtI m j.toNat) (fun (r, j) => [(14, In r), (15, In j)]) (fun (r, j) => []) (fun (r, j) => ((m.junctions - j).toNat)) ((0, 0)) ?_)
    | (refine LoopB.of (T := Int × Int) ?_ ?_; rotate_left; rintro ⟨r, j⟩ ⟨j0, j1, j2⟩; rotate_left)
    | refine LoopF.at 21 rfl (LoopF.fix [1, 6, 12] (Int) (fun i => 0 ≤ i ∧ i ≤ bs.length) (fun i => [(16, In i)]) (fun i => []) (fun i => (((bs.length : Int) - i).toNat)) (0) ?_)
    | (refine LoopB.of (T := Int) ?_ ?_; rotate_left; rintro i ⟨i0, i1⟩; rotate_left)
    | refine GhF.go ?_
    | refine GdS.keep ?_
    | refine DrawG.old (DrawF.lex (by decide +kernel) ?_)
    | refine AggN.mk true (by kernel_rfl) (iff_of_true rfl rfl) ?_
    | refine AggE.mk true (by kernel_rfl) (iff_of_true rfl rfl) ?_
    | refine EqP.mk _ (gm eY 0 rfl) ?_
    | refine EqP.mk _ (gm GAirway.cells default rfl) ?_
    | refine EqP.mk _ (gm eI 0 rfl) ?_
    | refine EqP.mk _ (gmb eLI [] (by omega)) ?_
    | refine BndF.mk (fun _ => by omega) ?_
    | refine BndF.mk (fun _ => by simp only [lnS]; omega) ?_
    | refine BndF.mk (fun hG => by simp only [forall_const, eq_self, not_true_eq_false, not_false_eq_true, or_false, false_or, or_self, or_true, true_or, and_true, true_and, and_false, false_and, decide_true, decide_false, Bool.not_true, Bool.not_false, decide_eq_true_eq, decide_eq_false_iff_not, ite_and_p, ite_or_p, Bool.decide_eq_true, Bool.and_eq_true, Bool.or_eq_true, Bool.not_eq_true', Bool.not_eq_false', Bool.and_eq_false_imp, Bool.or_eq_false_iff, bne_iff_ne, beq_iff_eq, bne_eq_false_iff_eq, beq_eq_false_iff_ne, gt_iff_lt, ge_iff_le, Int.not_lt, Int.not_le, ne_eq, Bool.true_eq_false, Bool.false_eq_true, reduceCtorEq, eta_Airway, eta_Fan, eta_Mine, bytes_nil] at hG; (try simp only [List.length_map]); omega) ?_
    | refine EqI.mk _ (fun _ => wrapI (by omega) (by omega)) ?_
    | refine EqI.mk _ (fun _ => rfl) ?_
    | refine EqN.mk _ (ln eY) ?_
    | refine EqN.mk _ (ln GAirway.cells) ?_
    | refine EqN.mk _ (ln eI) ?_
    | refine EqN.mk _ (ln eLI) ?_
    | refine EqN.mk _ (Nat.zero_add _) ?_
    | refine EqN.mk _ (Int.toNat_natCast _) ?_
    | refine EqN.mk _ rfl ?_
    | refine EqL.mk _ (tk eY (by first | rfl | assumption | omega | (simp only [lnS] <;> omega))) ?_
    | refine EqL.mk _ (st eY) ?_
    | refine EqL.mk _ (tk GAirway.cells (by first | rfl | assumption | omega | (simp only [lnS] <;> omega))) ?_
    | refine EqL.mk _ (st GAirway.cells) ?_
    | refine EqL.mk _ (tk eI (by first | rfl | assumption | omega | (simp only [lnS] <;> omega))) ?_
    | refine EqL.mk _ (st eI) ?_
    | refine EqL.mk _ (tk eLI (by first | rfl | assumption | omega | (simp only [lnS] <;> omega))) ?_
    | refine EqL.mk _ (st eLI) ?_
    | refine EqL.mk [] rfl ?_
    | refine EqL.mk [_] rfl ?_
    | refine EqL.mk _ rfl ?_
    | refine ArgF.is (c_laws_b10Long ..) ?_
    | refine ArgQ.is (fun hG => c_laws_b10Long ..) rfl rfl ?_
    | refine ArgF.is (c_spec_DrawTreeOf ..) ?_
    | refine ArgQ.is (fun hG => c_spec_DrawTreeOf ..) rfl rfl ?_
    | refine ArgF.is (c_impl_TreeOf ..) ?_
    | refine ArgQ.is (fun hG => c_impl_TreeOf ..) rfl rfl ?_
    | refine ArgF.is (c_impl_MeshesOf ⟨_, _⟩) ?_
    | refine ArgQ.is (fun hG => c_impl_MeshesOf ⟨_, _⟩) rfl rfl ?_
    | refine ArgF.is (c_impl_PartsOf ..) ?_
    | refine ArgQ.is (fun hG => c_impl_PartsOf ..) rfl rfl ?_
    | refine ArgF.is (c_impl_BridgesOf ..) ?_
    | refine ArgQ.is (fun hG => c_impl_BridgesOf ..) rfl rfl ?_
    | refine ArgF.is (c_laws_b10Rises ..) ?_
    | refine ArgQ.is (fun hG => c_laws_b10Rises ..) rfl rfl ?_
    | refine ArgF.is (c_laws_b10Has ..) ?_
    | refine ArgQ.is (fun hG => c_laws_b10Has ..) rfl rfl ?_
    | refine ArgF.is (c_spec_DrawAddAirway ..) ?_
    | refine ArgQ.is (fun hG => c_spec_DrawAddAirway ..) rfl rfl ?_
    | refine ArgF.is (c_impl_AddAirway ..) ?_
    | refine ArgQ.is (fun hG => c_impl_AddAirway ..) rfl rfl ?_
    | refine ArgF.is (c_impl_DropAirway ..) ?_
    | refine ArgQ.is (fun hG => c_impl_DropAirway ..) rfl rfl ?_
    | refine ArgF.is (c_impl_AirwayNamed ..) ?_
    | refine ArgQ.is (fun hG => c_impl_AirwayNamed ..) rfl rfl ?_
    | refine ArgF.is (c_impl_MineText ..) ?_
    | refine ArgQ.is (fun hG => c_impl_MineText ..) rfl rfl ?_
    | refine ArgF.is (c_impl_ReadMine ..) ?_
    | refine ArgQ.is (fun hG => c_impl_ReadMine ..) rfl rfl ?_
    | refine ArgF.is (c_spec_SameMine ..) ?_
    | refine ArgQ.is (fun hG => c_spec_SameMine ..) rfl rfl ?_
    | refine CallF.mk (CallW.is [] true rfl ?_)
    | refine CallG.mk ?_
    | (refine CondF.mk (fun hb => ?_) (fun hb => ?_) <;> try simp only [forall_const, eq_self, not_true_eq_false, not_false_eq_true, or_false, false_or, or_self, or_true, true_or, and_true, true_and, and_false, false_and, decide_true, decide_false, Bool.not_true, Bool.not_false, decide_eq_true_eq, decide_eq_false_iff_not, ite_and_p, ite_or_p, Bool.decide_eq_true, Bool.and_eq_true, Bool.or_eq_true, Bool.not_eq_true', Bool.not_eq_false', Bool.and_eq_false_imp, Bool.or_eq_false_iff, bne_iff_ne, beq_iff_eq, bne_eq_false_iff_eq, beq_eq_false_iff_ne, gt_iff_lt, ge_iff_le, Int.not_lt, Int.not_le, ne_eq, Bool.true_eq_false, Bool.false_eq_true, reduceCtorEq, eta_Airway, eta_Fan, eta_Mine] at hb)
    | apply BackF.auto2
    | apply BackF.auto
    | refine BackB.mk ?_ ?_
    | refine RetF.auto (And.intro rfl ?_)
    | exact Is.mk rfl rfl
    | refine Is.mk ?_ rfl
    | refine Is.mk rfl ?_
    | refine Is.mk ?_ ?_
  all_goals try dsimp only
  all_goals first
    | omega
    | exact ⟨by omega, by omega⟩
    | exact ⟨by omega, by omega, rfl⟩
    | (have q := okMine_p hm; exact ⟨by omega, by omega, rfl⟩)
    | exact ⟨by omega, by omega, by rw [rtI_y p2 j0 (by assumption) (by assumption), j2]; rfl⟩
    | exact ⟨by omega, by omega, by rw [rtI_n p2 j0 (by assumption) (by assumption), j2]⟩
    | assumption
    | rfl
    | (exfalso
       refine hb ?_
       have q1 := msh_tree hm (mshC_R hm)
       have q2 := (okMine_p hm).2.1
       have q4 : n = (treeC m m.airways.length).length := by rw [n1, n2]
       rw [wrapI (by omega) (by omega)]
       omega)
    | (exfalso
       refine hb ?_
       have q1 := rtI_end hm
       have q2 := okMine_p hm
       have q4 : n = (treeC m m.airways.length).length := by rw [n1, n2]
       rw [show j = m.junctions by omega] at j2
       omega)
    | skip
end Go.Proofs.YtdhkpmaanegjkaaGreatDoor
