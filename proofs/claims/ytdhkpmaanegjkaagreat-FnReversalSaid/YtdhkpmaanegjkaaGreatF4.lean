/- Contracts of functions of the program, and what they compute. Conditions: those that each theorem states. -/
import Derived.Test.YtdhkpmaanegjkaaGreatProg
import Derived.Test.YtdhkpmaanegjkaaGreatJ4
import Derived.Test.YtdhkpmaanegjkaaGreatB2
import Derived.Test.YtdhkpmaanegjkaaGreatL1
set_option linter.unusedVariables false
set_option linter.unusedSimpArgs false
namespace Go.Proofs.YtdhkpmaanegjkaaGreat
open Go.Av
attribute [local irreducible] Go.IntKind.wrap leastI rdZ rd rootI okMine treeC mshC dropI
set_option maxRecDepth 20000
set_option maxHeartbeats 16000000
theorem inc_t {x : GAirway} {f j : Int} (h : j = x.to) : incA x f j = f := by unfold incA; rw [if_pos h]
theorem inc_f {x : GAirway} {f j : Int} (h : ¬j = x.to) (h2 : j = x.from_) : incA x f j = -f := by unfold incA; rw [if_neg h, if_pos h2]
theorem inc_n {x : GAirway} {f j : Int} (h : ¬j = x.to) (h2 : ¬j = x.from_) : incA x f j = 0 := by unfold incA; rw [if_neg h, if_neg h2]
theorem c_impl_Mine_imbalance (m : GMine) (fl : List Int) (j : Int) (hl : fl.length = m.airways.length) (hL : m.airways.length ≤ 24) (hf : ∀ k : Nat, -100000 ≤ fl.getD k 0 ∧ fl.getD k 0 ≤ 100000) : FnSem Tryz.prog 72 [.p .any (.agg m.cells), Lx (LI fl), In j] [] (Is [In (imbA m fl j)] []) := by
  have hB := fun i : Int => imbI_b (m := m) (j := j) (B := 100000) (by omega) hf i.toNat
  refine FnSem.walk (zs := zeroPV Tryz.prog) (by kernel_rfl) Tryz.func72 rfl Tryz.results72 (by kernel_rfl) (by kernel_rfl) (by kernel_rfl) fun hw hh => ?_
  obtain ⟨w0, w1, w2, _⟩ := hw
  first | replace w0 := wf_Mine w0 | skip
  first | replace w1 := wf_LI w1 | skip
  first | replace w2 := wf_I w2 | skip
  have hwl := w0.2.1
  repeat' first
    | refine And.intro rfl ?_
    | refine GdF.mk (fun h => h) ?_
    | refine And.intro (Nat.succ_ne_zero _) ?_
    | refine And.intro (Nat.le_of_ble_eq_true rfl) ?_
    | refine SeqF.run ?_
    | refine LoopF.at 3 rfl (LoopF.fix [1, 2, 11, 12] (Int × Int) (fun (i, s) => 0 ≤ i ∧ i ≤ m.airways.length ∧ s = imbI m fl j i.toNat) (fun (i, s) => [(13, In i), (7, In s)]) (fun (i, s) => []) (fun (i, s) => ((m.airways.length - i).toNat)) ((0, 0)) ?_)
    | (refine LoopB.of (T := Int × Int) ?_ ?_; rotate_left; rintro ⟨i, s⟩ ⟨i0, i1, i2⟩; rotate_left)
    | refine EqI.mk _ (fun _ => by have q := hB i; have q2 := hf i.toNat; exact wrapI (by omega) (by omega)) ?_
    | refine GhF.go ?_
    | refine EqP.mk _ (gm GAirway.cells default rfl) ?_
    | refine EqP.mk _ (gm eI 0 rfl) ?_
    | refine BndF.mk (fun _ => by omega) ?_
    | refine BndF.mk (fun _ => by simp only [lnS]; omega) ?_
    | refine EqI.mk _ (fun _ => wrapI (by omega) (by omega)) ?_
    | refine EqI.mk _ (fun _ => rfl) ?_
    | refine EqN.mk _ (ln GAirway.cells) ?_
    | refine EqN.mk _ (ln eI) ?_
    | refine EqN.mk _ (Nat.zero_add _) ?_
    | refine EqN.mk _ (Int.toNat_natCast _) ?_
    | refine EqN.mk _ rfl ?_
    | refine EqL.mk _ (st GAirway.cells) ?_
    | refine EqL.mk _ (st eI) ?_
    | refine EqL.mk [] rfl ?_
    | refine EqL.mk [_] rfl ?_
    | refine EqL.mk _ rfl ?_
    | (refine CondF.mk (fun hb => ?_) (fun hb => ?_) <;> try simp only [forall_const, eq_self, not_true_eq_false, not_false_eq_true, or_false, false_or, or_self, or_true, true_or, and_true, true_and, and_false, false_and, decide_true, decide_false, Bool.not_true, Bool.not_false, decide_eq_true_eq, decide_eq_false_iff_not, ite_and_p, ite_or_p, Bool.decide_eq_true, Bool.and_eq_true, Bool.or_eq_true, Bool.not_eq_true', Bool.not_eq_false', Bool.and_eq_false_imp, Bool.or_eq_false_iff, bne_iff_ne, beq_iff_eq, bne_eq_false_iff_eq, beq_eq_false_iff_ne, gt_iff_lt, ge_iff_le, Int.not_lt, Int.not_le, ne_eq, Bool.true_eq_false, Bool.false_eq_true, reduceCtorEq, eta_Airway, eta_Fan, eta_Mine] at hb)
    | apply BackF.auto2
    | refine BackB.mk ?_ ?_
    | refine RetF.auto (And.intro rfl ?_)
    | exact Is.mk rfl rfl
    | refine Is.mk ?_ rfl
    | refine Is.mk rfl ?_
    | refine Is.mk ?_ ?_
  all_goals try dsimp only
  all_goals try simp only [Bo, I, OB.row.injEq, AV.osl.injEq, eI_same,  List.cons.injEq, AV.p.injEq, PV.c.injEq, Value.int.injEq, Value.bool.injEq, and_true, true_and, ite_and_p, ite_or_p, Bool.decide_eq_true, eta_Airway, eta_Fan, eta_Mine]
  all_goals try dsimp only
  all_goals first
    | omega
    | exact ⟨by omega, by omega, rfl⟩
    | (refine ⟨by omega, by omega, ?_⟩; rw [imbI_s i0, i2, inc_t (by assumption)])
    | (refine ⟨by omega, by omega, ?_⟩; rw [imbI_s i0, i2, inc_f (by assumption) (by assumption)]; omega)
    | (refine ⟨by omega, by omega, ?_⟩; rw [imbI_s i0, i2, inc_n (by assumption) (by assumption)]; omega)
    | (rw [i2, show i.toNat = m.airways.length by omega])
    | skip
def balM (m : GMine) (fl : List Int) : Bool := decide (∀ k : Nat, k < m.junctions.toNat → imbA m fl k = 0)
theorem c_impl_Mine_balanced (m : GMine) (fl : List Int) (hm : okMine m = true) (hl : fl.length = m.airways.length) (hf : ∀ k : Nat, -100000 ≤ fl.getD k 0 ∧ fl.getD k 0 ≤ 100000) : FnSem Tryz.prog 46 [.p .any (.agg m.cells), Lx (LI fl)] [] (Is [Bo (balM m fl)] []) := by
  have hmp := okMine_p hm
  refine FnSem.walk (zs := zeroPV Tryz.prog) (by kernel_rfl) Tryz.func46 rfl Tryz.results46 (by kernel_rfl) (by kernel_rfl) (by kernel_rfl) fun hw hh => ?_
  obtain ⟨w0, w1, _⟩ := hw
  first | replace w0 := wf_Mine w0 | skip
  first | replace w1 := wf_LI w1 | skip
  repeat' first
    | refine And.intro rfl ?_
    | refine GdF.mk (fun h => h) ?_
    | refine And.intro (Nat.succ_ne_zero _) ?_
    | refine And.intro (Nat.le_of_ble_eq_true rfl) ?_
    | refine SeqF.run ?_
    | refine ArgF.is (c_impl_Mine_imbalance m fl j hl (by omega) hf) ?_
    | refine ArgQ.is (fun hG => c_impl_Mine_imbalance m fl j hl (by omega) hf) rfl rfl ?_
    | refine LoopF.at 2 rfl (LoopF.fix [1, 2, 7] (Int) (fun j => 0 ≤ j ∧ j ≤ m.junctions ∧ ∀ k : Nat, (k : Int) < j → imbA m fl k = 0) (fun j => [(8, In j)]) (fun j => []) (fun j => ((m.junctions - j).toNat)) (0) ?_)
    | (refine LoopB.of (T := Int) ?_ ?_; rotate_left; rintro j ⟨j0, j1, j2⟩; rotate_left)
    | refine GhF.go ?_
    | refine BndF.mk (fun _ => by omega) ?_
    | refine BndF.mk (fun _ => by simp only [lnS]; omega) ?_
    | refine EqI.mk _ (fun _ => wrapI (by omega) (by omega)) ?_
    | refine EqI.mk _ (fun _ => rfl) ?_
    | refine EqL.mk _ (tk eI (by first | rfl | assumption | omega | (simp only [lnS] <;> omega))) ?_
    | refine EqL.mk [] rfl ?_
    | refine EqL.mk [_] rfl ?_
    | refine EqL.mk _ rfl ?_
    | refine ArgF.is (c_impl_Mine_imbalance ⟨_, _⟩ _ _ (by first | assumption | omega) (by first | assumption | omega) (by first | assumption | omega)) ?_
    | refine ArgQ.is (fun hG => c_impl_Mine_imbalance ⟨_, _⟩ _ _ (by first | assumption | omega) (by first | assumption | omega) (by first | assumption | omega)) rfl rfl ?_
    | refine CallF.mk (CallW.is [] true rfl ?_)
    | refine CallG.mk ?_
    | (refine CondF.mk (fun hb => ?_) (fun hb => ?_) <;> try simp only [forall_const, eq_self, not_true_eq_false, not_false_eq_true, or_false, false_or, or_self, or_true, true_or, and_true, true_and, and_false, false_and, decide_true, decide_false, Bool.not_true, Bool.not_false, decide_eq_true_eq, decide_eq_false_iff_not, ite_and_p, ite_or_p, Bool.decide_eq_true, Bool.and_eq_true, Bool.or_eq_true, Bool.not_eq_true', Bool.not_eq_false', Bool.and_eq_false_imp, Bool.or_eq_false_iff, bne_iff_ne, beq_iff_eq, bne_eq_false_iff_eq, beq_eq_false_iff_ne, gt_iff_lt, ge_iff_le, Int.not_lt, Int.not_le, ne_eq, Bool.true_eq_false, Bool.false_eq_true, reduceCtorEq, eta_Airway, eta_Fan, eta_Mine] at hb)
    | apply BackF.auto
    | refine BackB.mk ?_ ?_
    | refine RetF.auto (And.intro rfl ?_)
    | exact Is.mk rfl rfl
    | refine Is.mk ?_ rfl
    | refine Is.mk rfl ?_
    | refine Is.mk ?_ ?_
  all_goals try dsimp only
  all_goals try simp only [Bo, I, OB.row.injEq, AV.osl.injEq, eI_same,  List.cons.injEq, AV.p.injEq, PV.c.injEq, Value.int.injEq, Value.bool.injEq, and_true, true_and, ite_and_p, ite_or_p, Bool.decide_eq_true, eta_Airway, eta_Fan, eta_Mine]
  all_goals try dsimp only
  all_goals first
    | omega
    | exact ⟨by omega, by omega, all_0⟩
    | (refine (decide_eq_false fun h => ?_).symm
       have := h j.toNat (by omega)
       rw [show ((j.toNat : Nat) : Int) = j by omega] at this
       exact hb this)
    | exact ⟨by omega, by omega, all_s j0 j2 (by rw [show ((j.toNat : Nat) : Int) = j by omega]; exact hb)⟩
    | exact (decide_eq_true fun k hk => j2 k (by omega)).symm
    | skip
--@fn (impl.Mine).hasFlows
--@fn (impl.Mine).hasList
--@fn (impl.Mine).hasJunction
--@fn (impl.Mine).balanced
structure sysO (m : GMine) (r p fl : List Int) : Prop where
  r : r.length = m.airways.length ∧ ∀ k : Nat, k < m.airways.length → 1 ≤ r.getD k 0 ∧ r.getD k 0 ≤ 1000000
  p : p.length = m.airways.length ∧ ∀ k : Nat, k < m.airways.length → -2000000 ≤ p.getD k 0 ∧ p.getD k 0 ≤ 2000000
  f : fl.length = m.airways.length ∧ ∀ k : Nat, k < m.airways.length → -100000 ≤ fl.getD k 0 ∧ fl.getD k 0 ≤ 100000
def errI (r p fl w : List Int) : Nat → Int
  | 0 => 0
  | k + 1 => errI r p fl w k + sgW (w.getD k 0) * (dropI (r.getD (absI (w.getD k 0) - 1).toNat 0) (fl.getD (absI (w.getD k 0) - 1).toNat 0) - p.getD (absI (w.getD k 0) - 1).toNat 0)
abbrev errW (r p fl w : List Int) : Int := errI r p fl w w.length
theorem errI_s {r p fl w : List Int} {i : Int} (h : 0 ≤ i) : errI r p fl w (i + 1).toNat = errI r p fl w i.toNat + sgW (w.getD i.toNat 0) * (dropI (r.getD (absI (w.getD i.toNat 0) - 1).toNat 0) (fl.getD (absI (w.getD i.toNat 0) - 1).toNat 0) - p.getD (absI (w.getD i.toNat 0) - 1).toNat 0) := by
  rw [show (i + 1).toNat = i.toNat + 1 by omega]; rfl
section
variable {m : GMine} {r p fl w : List Int}
theorem sys_i (h : sysO m r p fl) (hw : okWk m.airways.length w) {k : Nat} (hk : k < w.length) : (1 ≤ r.getD (absI (w.getD k 0) - 1).toNat 0 ∧ r.getD (absI (w.getD k 0) - 1).toNat 0 ≤ 1000000) ∧ (-2000000 ≤ p.getD (absI (w.getD k 0) - 1).toNat 0 ∧ p.getD (absI (w.getD k 0) - 1).toNat 0 ≤ 2000000) ∧ (-100000 ≤ fl.getD (absI (w.getD k 0) - 1).toNat 0 ∧ fl.getD (absI (w.getD k 0) - 1).toNat 0 ≤ 100000) := by
  have q := hw.2 k hk
  exact ⟨h.r.2 _ (by omega), h.p.2 _ (by omega), h.f.2 _ (by omega)⟩
theorem err_1 (h : sysO m r p fl) (hw : okWk m.airways.length w) {k : Nat} (hk : k < w.length) : (-1000000 ≤ dropI (r.getD (absI (w.getD k 0) - 1).toNat 0) (fl.getD (absI (w.getD k 0) - 1).toNat 0) ∧ dropI (r.getD (absI (w.getD k 0) - 1).toNat 0) (fl.getD (absI (w.getD k 0) - 1).toNat 0) ≤ 1000000) ∧ -3000000 ≤ sgW (w.getD k 0) * (dropI (r.getD (absI (w.getD k 0) - 1).toNat 0) (fl.getD (absI (w.getD k 0) - 1).toNat 0) - p.getD (absI (w.getD k 0) - 1).toNat 0) ∧ sgW (w.getD k 0) * (dropI (r.getD (absI (w.getD k 0) - 1).toNat 0) (fl.getD (absI (w.getD k 0) - 1).toNat 0) - p.getD (absI (w.getD k 0) - 1).toNat 0) ≤ 3000000 := by
  obtain ⟨a, b, c⟩ := sys_i h hw hk
  have d := (dropI_b a c).2.2
  exact ⟨d, sg_b (by omega)⟩
theorem errI_b (h : sysO m r p fl) (hw : okWk m.airways.length w) : ∀ k : Nat, k ≤ w.length → -(k * 3000000) ≤ errI r p fl w k ∧ errI r p fl w k ≤ k * 3000000
  | 0, _ => by simp [errI]
  | k + 1, hk => by
    have a := errI_b h hw k (by omega)
    have b := (err_1 h hw (k := k) (by omega)).2
    rw [errI]; omega
end
theorem c_impl_walkError (m : GMine) (w r p fl : List Int) (h : sysO m r p fl) (hw : okWk m.airways.length w) (hL : m.airways.length ≤ 24) : FnSem Tryz.prog 76 [Lx (LI w), Lx (LI r), Lx (LI p), Lx (LI fl)] [] (Is [In (errW r p fl w)] []) := by
  have hr := h.r.1
  have hp := h.p.1
  have hf := h.f.1
  have h64 := hw.1
  refine FnSem.walk (zs := zeroPV Tryz.prog) (by kernel_rfl) Tryz.func76 rfl Tryz.results76 (by kernel_rfl) (by kernel_rfl) (by kernel_rfl) fun hw hh => ?_
  obtain ⟨w0, w1, w2, w3, _⟩ := hw
  first | replace w0 := wf_LI w0 | skip
  first | replace w1 := wf_LI w1 | skip
  first | replace w2 := wf_LI w2 | skip
  first | replace w3 := wf_LI w3 | skip
  repeat' first
    | refine And.intro rfl ?_
    | refine GdF.mk (fun h => h) ?_
    | refine And.intro (Nat.succ_ne_zero _) ?_
    | refine And.intro (Nat.le_of_ble_eq_true rfl) ?_
    | refine SeqF.run ?_
    | refine LoopF.at 3 rfl (LoopF.fix [1, 2, 3, 14, 15] (Int × Int) (fun (i, s) => 0 ≤ i ∧ i ≤ w.length ∧ s = errI r p fl w i.toNat) (fun (i, s) => [(16, In i), (9, In s)]) (fun (i, s) => []) (fun (i, s) => ((w.length - i).toNat)) ((0, 0)) ?_)
    | (refine LoopB.of (T := Int × Int) ?_ ?_; rotate_left; rintro ⟨i, s⟩ ⟨i0, i1, i2⟩; rotate_left)
    | refine ArgF.is (c_impl_airwayOf (w.getD i.toNat 0) (by have q := okWk_i hw i0 (by assumption); omega)) ?_
    | refine ArgQ.is (fun hG => c_impl_airwayOf (w.getD i.toNat 0) (by have q := okWk_i hw i0 (by assumption); omega)) rfl rfl ?_
    | refine ArgF.is (c_impl_dropOf _ _ (sys_i h hw (k := i.toNat) (by omega)).1 (sys_i h hw (k := i.toNat) (by omega)).2.2) ?_
    | refine ArgQ.is (fun hG => c_impl_dropOf _ _ (sys_i h hw (k := i.toNat) (by omega)).1 (sys_i h hw (k := i.toNat) (by omega)).2.2) rfl rfl ?_
    | refine BndF.mk (fun _ => by have q := okWk_i hw i0 (by assumption); first | omega | (simp only [List.length_map]; omega)) ?_
    | refine EqI.mk _ (fun _ => by have q := err_1 h hw (k := i.toNat) (by omega); have q2 := errI_b h hw i.toNat (by omega); have q3 := (sys_i h hw (k := i.toNat) (by omega)).2.1; exact wrapI (by omega) (by omega)) ?_
    | refine GhF.go ?_
    | refine DrawG.old (DrawF.lex (by decide +kernel) ?_)
    | refine EqP.mk _ (gm eI 0 rfl) ?_
    | refine BndF.mk (fun _ => by omega) ?_
    | refine BndF.mk (fun _ => by simp only [lnS]; omega) ?_
    | refine EqI.mk _ (fun _ => wrapI (by omega) (by omega)) ?_
    | refine EqI.mk _ (fun _ => rfl) ?_
    | refine EqN.mk _ (ln eI) ?_
    | refine EqN.mk _ (Nat.zero_add _) ?_
    | refine EqN.mk _ (Int.toNat_natCast _) ?_
    | refine EqN.mk _ rfl ?_
    | refine EqL.mk _ (tk eI (by first | rfl | assumption | omega | (simp only [lnS] <;> omega))) ?_
    | refine EqL.mk [] rfl ?_
    | refine EqL.mk [_] rfl ?_
    | refine EqL.mk _ rfl ?_
    | refine ArgF.is (c_impl_airwayOf _ (by first | assumption | omega)) ?_
    | refine ArgQ.is (fun hG => c_impl_airwayOf _ (by first | assumption | omega)) rfl rfl ?_
    | refine ArgF.is (c_impl_dropOf _ _ (by first | assumption | omega) (by first | assumption | omega)) ?_
    | refine ArgQ.is (fun hG => c_impl_dropOf _ _ (by first | assumption | omega) (by first | assumption | omega)) rfl rfl ?_
    | refine CallF.mk (CallW.is [] true rfl ?_)
    | refine CallG.mk ?_
    | (refine CondF.mk (fun hb => ?_) (fun hb => ?_) <;> try simp only [forall_const, eq_self, not_true_eq_false, not_false_eq_true, or_false, false_or, or_self, or_true, true_or, and_true, true_and, and_false, false_and, decide_true, decide_false, Bool.not_true, Bool.not_false, decide_eq_true_eq, decide_eq_false_iff_not, ite_and_p, ite_or_p, Bool.decide_eq_true, Bool.and_eq_true, Bool.or_eq_true, Bool.not_eq_true', Bool.not_eq_false', Bool.and_eq_false_imp, Bool.or_eq_false_iff, bne_iff_ne, beq_iff_eq, bne_eq_false_iff_eq, beq_eq_false_iff_ne, gt_iff_lt, ge_iff_le, Int.not_lt, Int.not_le, ne_eq, Bool.true_eq_false, Bool.false_eq_true, reduceCtorEq, eta_Airway, eta_Fan, eta_Mine] at hb)
    | apply BackF.auto2
    | refine BackB.mk ?_ ?_
    | refine RetF.auto (And.intro rfl ?_)
    | exact Is.mk rfl rfl
    | refine Is.mk ?_ rfl
    | refine Is.mk rfl ?_
    | refine Is.mk ?_ ?_
  all_goals try dsimp only
  all_goals try simp only [Bo, I, OB.row.injEq, AV.osl.injEq, eI_same,  List.cons.injEq, AV.p.injEq, PV.c.injEq, Value.int.injEq, Value.bool.injEq, and_true, true_and, ite_and_p, ite_or_p, Bool.decide_eq_true, eta_Airway, eta_Fan, eta_Mine]
  all_goals try dsimp only
  all_goals first
    | omega
    | exact ⟨by omega, by omega, rfl⟩
    | exact ⟨by omega, by omega, by rw [errI_s i0, i2]⟩
    | (rw [i2, show i.toNat = w.length by omega])
    | skip
theorem c_impl_meshErrors (m : GMine) (ss : List (List Int)) (r p fl : List Int) (h : sysO m r p fl) (hs : ss.length ≤ 24) (hw : ∀ k : Nat, k < ss.length → okWk m.airways.length (ss.getD k [])) (hL : m.airways.length ≤ 24) : FnSem Tryz.prog 48 [.p .any (LLI ss), Lx (LI r), Lx (LI p), Lx (LI fl)] [] (RetV (fun v : Nat × List Int => [.osl 0 0 v.1]) (fun v => [.row false .flat (eI 0) (v.2.map eI)]) (fun v => v.1 = ss.length ∧ v.2 = ss.map (errW r p fl))) := by
  refine FnSem.old ?_
  refine FnSem.walk (zs := zeroPV Tryz.prog) (by kernel_rfl) Tryz.func48 rfl Tryz.results48 (by kernel_rfl) (by kernel_rfl) (by kernel_rfl) fun hw hh => ?_
  obtain ⟨w0, w1, w2, w3, _⟩ := hw
  first | replace w0 := wf_LLI w0 | skip
  first | replace w1 := wf_LI w1 | skip
  first | replace w2 := wf_LI w2 | skip
  first | replace w3 := wf_LI w3 | skip
  repeat' first
    | refine And.intro rfl ?_
    | refine GdF.mk (fun h => h) ?_
    | refine And.intro (Nat.succ_ne_zero _) ?_
    | refine And.intro (Nat.le_of_ble_eq_true rfl) ?_
    | refine SeqF.run ?_
    | refine LoopF.at 3 rfl (LoopF.fix [1, 2, 3, 12, 13] (Int × Nat × List Int) (fun (i, n, es) => 0 ≤ i ∧ i ≤ ss.length ∧ n = es.length ∧ es = (ss.take i.toNat).map (errW r p fl) ∧ (n : Int) = i) (fun (i, n, es) => [(14, In i), (9, .osl 0 0 n)]) (fun (i, n, es) => [(0, .row true .flat (eI 0) (es.map eI))]) (fun (i, n, es) => ((ss.length - i).toNat)) ((0, 0, [])) ?_)
    | (refine LoopB.of (T := Int × Nat × List Int) ?_ ?_; rotate_left; rintro ⟨i, n, es⟩ ⟨i0, i1, i2, i3, i4⟩; rotate_left)
    | refine ArgF.is (c_impl_walkError m (ss.getD i.toNat []) r p fl h (hw i.toNat (by omega)) hL) ?_
    | refine ArgQ.is (fun hG => c_impl_walkError m (ss.getD i.toNat []) r p fl h (hw i.toNat (by omega)) hL) rfl rfl ?_
    | refine RetV.mk (α := Nat × List Int) (_, es) rfl rfl ?_
    | refine GhF.go ?_
    | refine MkF.row ?_
    | refine EqP.mk _ (gm eI 0 rfl) ?_
    | refine EqP.mk _ (gmb eLI [] (by omega)) ?_
    | refine BndF.mk (fun _ => by omega) ?_
    | refine BndF.mk (fun _ => by simp only [lnS]; omega) ?_
    | refine EqI.mk _ (fun _ => wrapI (by omega) (by omega)) ?_
    | refine EqI.mk _ (fun _ => rfl) ?_
    | refine FlF.keep ?_
    | refine EqN.mk _ (ln eI) ?_
    | refine EqN.mk _ (ln eLI) ?_
    | refine EqN.mk _ (Nat.zero_add _) ?_
    | refine EqN.mk (_ + 1) rfl ?_
    | refine EqN.mk _ (Int.toNat_natCast _) ?_
    | refine EqN.mk _ rfl ?_
    | refine EqL.mk _ (sn0 eI) ?_
    | refine EqL.mk _ (sn eI (by first | rfl | assumption | omega | (simp only [lnS] <;> omega))) ?_
    | refine EqL.mk _ (ap0 eI) ?_
    | refine EqL.mk _ (ap eI (by first | rfl | assumption | omega | (simp only [lnS] <;> omega))) ?_
    | refine EqL.mk _ (tk eI (by first | rfl | assumption | omega | (simp only [lnS] <;> omega))) ?_
    | refine EqL.mk _ (dt eI) ?_
    | refine EqL.mk _ (sn0 eLI) ?_
    | refine EqL.mk _ (sn eLI (by first | rfl | assumption | omega | (simp only [lnS] <;> omega))) ?_
    | refine EqL.mk _ (ap0 eLI) ?_
    | refine EqL.mk _ (ap eLI (by first | rfl | assumption | omega | (simp only [lnS] <;> omega))) ?_
    | refine EqL.mk _ (tk eLI (by first | rfl | assumption | omega | (simp only [lnS] <;> omega))) ?_
    | refine EqL.mk _ (dt eLI) ?_
    | refine EqL.mk [] rfl ?_
    | refine EqL.mk [_] rfl ?_
    | refine EqL.mk _ rfl ?_
    | refine ArgF.is (c_impl_walkError ⟨_, _⟩ _ _ _ _ (by first | assumption | omega) (by first | assumption | omega) (by first | assumption | omega)) ?_
    | refine ArgQ.is (fun hG => c_impl_walkError ⟨_, _⟩ _ _ _ _ (by first | assumption | omega) (by first | assumption | omega) (by first | assumption | omega)) rfl rfl ?_
    | refine CallF.mk (CallW.is [] true rfl ?_)
    | refine CallG.mk ?_
    | (refine CondF.mk (fun hb => ?_) (fun hb => ?_) <;> try simp only [forall_const, eq_self, not_true_eq_false, not_false_eq_true, or_false, false_or, or_self, or_true, true_or, and_true, true_and, and_false, false_and, decide_true, decide_false, Bool.not_true, Bool.not_false, decide_eq_true_eq, decide_eq_false_iff_not, ite_and_p, ite_or_p, Bool.decide_eq_true, Bool.and_eq_true, Bool.or_eq_true, Bool.not_eq_true', Bool.not_eq_false', Bool.and_eq_false_imp, Bool.or_eq_false_iff, bne_iff_ne, beq_iff_eq, bne_eq_false_iff_eq, beq_eq_false_iff_ne, gt_iff_lt, ge_iff_le, Int.not_lt, Int.not_le, ne_eq, Bool.true_eq_false, Bool.false_eq_true, reduceCtorEq, eta_Airway, eta_Fan, eta_Mine] at hb)
    | apply BackF.auto3
    | refine BackB.mk ?_ ?_
    | refine RetF.auto (And.intro rfl ?_)
    | exact Is.mk rfl rfl
    | refine Is.mk ?_ rfl
    | refine Is.mk rfl ?_
    | refine Is.mk ?_ ?_
  all_goals try dsimp only
  all_goals first
    | omega
    | exact ⟨by omega, by omega, rfl, rfl, rfl⟩
    | (have hi2 : i.toNat < ss.length := by omega
       refine ⟨by omega, by omega, by simp [i2], ?_, by omega⟩
       rw [i3, show (i + 1).toNat = i.toNat + 1 by omega, List.take_succ_eq_append_getElem hi2, List.map_append, List.getD_eq_getElem?_getD, List.getElem?_eq_getElem hi2]; rfl)
    | (refine ⟨by omega, ?_⟩; rw [i3, show i.toNat = ss.length by omega, List.take_length])
    | skip
end Go.Proofs.YtdhkpmaanegjkaaGreat
/- Contracts of functions of the program, and what they compute. Conditions: those that each theorem states. -/
set_option linter.unusedVariables false
set_option linter.unusedSimpArgs false
namespace Go.Proofs.YtdhkpmaanegjkaaGreat
open Go.Av
attribute [local irreducible] Go.IntKind.wrap leastI rdZ rd rootI okMine treeC mshC dropI
set_option maxRecDepth 20000
set_option maxHeartbeats 16000000
--@fn (impl.Mine).hasSystem
theorem msh_ok {m : GMine} (hm : okMine m = true) : ∀ k : Nat, k < (mshC m).length → okWk m.airways.length ((mshC m).getD k []) := fun k hk => (mshC_G hm hk).ok
--@fn impl.within
--@fn impl.abs
theorem absT (q : Int) (h : -1000000000000000 ≤ q ∧ q ≤ 1000000000000000) : FnSem Tryz.prog 50 [In q] [] (Is [In (absI q)] []) := by
  have ha := c_impl_abs q
  rwa [show max q (IntKind.i64.wrap (0 - q)) = absI q by rw [wrapI (by omega) (by omega)]; rfl] at ha
end Go.Proofs.YtdhkpmaanegjkaaGreat
/- Contracts of functions of the program, and what they compute. Conditions: those that each theorem states. -/
set_option linter.unusedVariables false
set_option linter.unusedSimpArgs false
namespace Go.Proofs.YtdhkpmaanegjkaaGreat
open Go.Av
attribute [local irreducible] Go.IntKind.wrap leastI rdZ rd rootI okMine treeC mshC dropI prI
set_option maxRecDepth 20000
set_option maxHeartbeats 16000000
def psL (fl : List Int) : List GFan → List Int → List Int
  | [], ps => ps
  | f :: fs, ps => psL fl fs (ps.set f.airway.toNat (ps.getD f.airway.toNat 0 + prI f (fl.getD f.airway.toNat 0)))
theorem psL_len {fl : List Int} : ∀ (fs : List GFan) (ps : List Int), (psL fl fs ps).length = ps.length
  | [], ps => rfl
  | f :: fs, ps => by rw [psL, psL_len fs, List.length_set]
theorem psL_app {fl : List Int} : ∀ (us vs : List GFan) (ps : List Int), psL fl (us ++ vs) ps = psL fl vs (psL fl us ps)
  | [], vs, ps => rfl
  | f :: us, vs, ps => by rw [List.cons_append, psL, psL, psL_app us vs]
theorem psL_s {fl ps : List Int} {fs : List GFan} {i : Int} (h0 : 0 ≤ i) (hi : i < fs.length) : psL fl (fs.take (i + 1).toNat) ps = (psL fl (fs.take i.toNat) ps).set (fs.getD i.toNat default).airway.toNat ((psL fl (fs.take i.toNat) ps).getD (fs.getD i.toNat default).airway.toNat 0 + prI (fs.getD i.toNat default) (fl.getD (fs.getD i.toNat default).airway.toNat 0)) := by
  have hi2 : i.toNat < fs.length := by omega
  rw [show (i + 1).toNat = i.toNat + 1 by omega, List.take_succ_eq_append_getElem hi2, psL_app, List.getD_eq_getElem?_getD (l := fs), List.getElem?_eq_getElem hi2, Option.getD_some]
  rfl
theorem psL_b {fl : List Int} : ∀ (fs : List GFan) (ps : List Int) (B : Int), (∀ k : Nat, k < fs.length → okFan (fs.getD k default)) → (∀ k : Nat, -B ≤ ps.getD k 0 ∧ ps.getD k 0 ≤ B) → ∀ k : Nat, -(B + 10000 * fs.length) ≤ (psL fl fs ps).getD k 0 ∧ (psL fl fs ps).getD k 0 ≤ B + 10000 * fs.length
  | [], ps, B, _, h, k => by have := h k; simpa [psL] using this
  | f :: fs, ps, B, hf, h, k => by
    have h0 := hf 0 (by simp)
    rw [List.getD_cons_zero] at h0
    have := psL_b (fl := fl) fs (ps.set f.airway.toNat (ps.getD f.airway.toNat 0 + prI f (fl.getD f.airway.toNat 0))) (B + 10000) (fun k hk => by simpa using hf (k + 1) (by simpa using hk)) (fun j => by
      rw [getD_sI]
      have h1 := h f.airway.toNat
      have h2 := h j
      have h3 := prI_b h0 (fl.getD f.airway.toNat 0)
      split <;> omega) k
    rw [psL, List.length_cons]
    omega
abbrev psF (fs : List GFan) (dr fl : List Int) : List Int := psL fl fs dr
end Go.Proofs.YtdhkpmaanegjkaaGreat
/- Contracts of functions of the program, and what they compute. Conditions: those that each theorem states. -/
set_option linter.unusedVariables false
set_option linter.unusedSimpArgs false
namespace Go.Proofs.YtdhkpmaanegjkaaGreat
open Go.Av
attribute [local irreducible] Go.IntKind.wrap leastI rdZ rd rootI okMine treeC mshC dropI
set_option maxRecDepth 20000
set_option maxHeartbeats 16000000
theorem rootI_up (n : Int) : 0 ≤ rootI n ∧ rootI n ≤ 3037000499 := by
  unfold rootI
  split
  · omega
  · have := leastI_r (p := rootP n) (lo := 0) (hi := 3037000498) (by omega)
    omega
theorem quo_b {x y B : Int} (hx : -B ≤ x ∧ x ≤ B) (hy : 1 ≤ y) : -B ≤ x.tdiv y ∧ x.tdiv y ≤ B := by
  have h := Int.natAbs_tdiv_le_natAbs x y
  omega
end Go.Proofs.YtdhkpmaanegjkaaGreat
/- Contracts of functions of the program, and what they compute. Conditions: those that each theorem states. -/
set_option linter.unusedVariables false
set_option linter.unusedSimpArgs false
namespace Go.Proofs.YtdhkpmaanegjkaaGreat
open Go.Av
attribute [local irreducible] Go.IntKind.wrap leastI rdZ rd rootI okMine treeC mshC dropI prI
set_option maxRecDepth 20000
set_option maxHeartbeats 40000000
theorem c_impl_indexValid_impl_Airway (xs : List GAirway) (k : Int) : FnSem Tryz.prog 21 [Lx (.lst (GAirway.cells default) (xs.map GAirway.cells)), In k] [] (Is [Bo (inR k 0 (xs.length - 1))] []) := by
  refine FnSem.walk (zs := zeroPV Tryz.prog) (by kernel_rfl) Tryz.func21 rfl Tryz.results21 (by kernel_rfl) (by kernel_rfl) (by kernel_rfl) fun hw hh => ?_
  obtain ⟨w0, w1, _⟩ := hw
  first | replace w0 := wf_LAirway w0 | skip
  first | replace w1 := wf_I w1 | skip
  repeat' first
    | refine And.intro rfl ?_
    | refine GdF.mk (fun h => h) ?_
    | refine And.intro (Nat.succ_ne_zero _) ?_
    | refine And.intro (Nat.le_of_ble_eq_true rfl) ?_
    | refine SeqF.run ?_
    | refine GhF.go ?_
    | refine BndF.mk (fun _ => by omega) ?_
    | refine BndF.mk (fun _ => by simp only [lnS]; omega) ?_
    | refine EqI.mk _ (fun _ => wrapI (by omega) (by omega)) ?_
    | refine EqI.mk _ (fun _ => rfl) ?_
    | refine EqN.mk _ (ln GAirway.cells) ?_
    | refine EqL.mk _ (tk GAirway.cells (by first | rfl | assumption | omega | (simp only [lnS] <;> omega))) ?_
    | refine EqL.mk [] rfl ?_
    | refine EqL.mk [_] rfl ?_
    | refine EqL.mk _ rfl ?_
    | refine ArgF.is (c_impl_within ..) ?_
    | refine ArgQ.is (fun hG => c_impl_within ..) rfl rfl ?_
    | refine CallF.mk (CallW.is [] true rfl ?_)
    | refine CallG.mk ?_
    | (refine CondF.mk (fun hb => ?_) (fun hb => ?_) <;> try simp only [forall_const, eq_self, not_true_eq_false, not_false_eq_true, or_false, false_or, or_self, or_true, true_or, and_true, true_and, and_false, false_and, decide_true, decide_false, Bool.not_true, Bool.not_false, decide_eq_true_eq, decide_eq_false_iff_not, ite_and_p, ite_or_p, Bool.decide_eq_true, Bool.and_eq_true, Bool.or_eq_true, Bool.not_eq_true', Bool.not_eq_false', Bool.and_eq_false_imp, Bool.or_eq_false_iff, bne_iff_ne, beq_iff_eq, bne_eq_false_iff_eq, beq_eq_false_iff_ne, gt_iff_lt, ge_iff_le, Int.not_lt, Int.not_le, ne_eq, Bool.true_eq_false, Bool.false_eq_true, reduceCtorEq, eta_Airway, eta_Fan, eta_Mine] at hb)
    | refine RetF.auto (And.intro rfl ?_)
    | exact Is.mk rfl rfl
    | refine Is.mk ?_ rfl
    | refine Is.mk rfl ?_
    | refine Is.mk ?_ ?_
  all_goals try dsimp only
  all_goals try simp only [Bo, I, OB.row.injEq, AV.osl.injEq, eI_same,  List.cons.injEq, AV.p.injEq, PV.c.injEq, Value.int.injEq, Value.bool.injEq, and_true, true_and, ite_and_p, ite_or_p, Bool.decide_eq_true, eta_Airway, eta_Fan, eta_Mine, inR]
--@fn slices.IndexFunc[[]impl.Fan,impl.Fan]
--@fn slices.ContainsFunc[[]impl.Fan,impl.Fan]
theorem c_impl_Mine_hasFans_1 (m : GMine) (f : GFan) : FnSem Tryz.prog 71 [.p .any (.agg f.cells), .p .any (.ref m.cells)] [] (Is [Bo (!inR f.airway 0 (m.airways.length - 1))] []) := by
  refine FnSem.walk (zs := zeroPV Tryz.prog) (by kernel_rfl) Tryz.func71 rfl Tryz.results71 (by kernel_rfl) (by kernel_rfl) (by kernel_rfl) fun hw hh => ?_
  obtain ⟨w0, w1, _⟩ := hw
  first | replace w0 := wf_Fan w0 | skip
  first | replace w1 := wf_I w1 | replace w1 := wf_Y w1 | replace w1 := wf_S w1 | replace w1 := wf_LI w1 | replace w1 := wf_LY w1 | replace w1 := wf_LLI w1 | replace w1 := wf_Ls w1 | skip
  repeat' first
    | refine And.intro rfl ?_
    | refine GdF.mk (fun h => h) ?_
    | refine And.intro (Nat.succ_ne_zero _) ?_
    | refine And.intro (Nat.le_of_ble_eq_true rfl) ?_
    | refine SeqF.run ?_
    | refine ArgF.is (c_impl_indexValid_impl_Airway m.airways f.airway) ?_
    | refine ArgQ.is (fun hG => c_impl_indexValid_impl_Airway m.airways f.airway) rfl rfl ?_
    | refine GhF.go ?_
    | refine BndF.mk (fun _ => by omega) ?_
    | refine BndF.mk (fun _ => by simp only [lnS]; omega) ?_
    | refine EqL.mk _ (tk GAirway.cells (by first | rfl | assumption | omega | (simp only [lnS] <;> omega))) ?_
    | refine EqL.mk [] rfl ?_
    | refine EqL.mk [_] rfl ?_
    | refine EqL.mk _ rfl ?_
    | refine ArgF.is (c_impl_indexValid_impl_Airway ..) ?_
    | refine ArgQ.is (fun hG => c_impl_indexValid_impl_Airway ..) rfl rfl ?_
    | refine CallF.mk (CallW.is [] true rfl ?_)
    | refine CallG.mk ?_
    | (refine CondF.mk (fun hb => ?_) (fun hb => ?_) <;> try simp only [forall_const, eq_self, not_true_eq_false, not_false_eq_true, or_false, false_or, or_self, or_true, true_or, and_true, true_and, and_false, false_and, decide_true, decide_false, Bool.not_true, Bool.not_false, decide_eq_true_eq, decide_eq_false_iff_not, ite_and_p, ite_or_p, Bool.decide_eq_true, Bool.and_eq_true, Bool.or_eq_true, Bool.not_eq_true', Bool.not_eq_false', Bool.and_eq_false_imp, Bool.or_eq_false_iff, bne_iff_ne, beq_iff_eq, bne_eq_false_iff_eq, beq_eq_false_iff_ne, gt_iff_lt, ge_iff_le, Int.not_lt, Int.not_le, ne_eq, Bool.true_eq_false, Bool.false_eq_true, reduceCtorEq, eta_Airway, eta_Fan, eta_Mine] at hb)
    | refine RetF.auto (And.intro rfl ?_)
    | exact Is.mk rfl rfl
    | refine Is.mk ?_ rfl
    | refine Is.mk rfl ?_
    | refine Is.mk ?_ ?_
  all_goals skip
--@fn (impl.Mine).hasFans
def wsL (es : List Int) : Nat → Int
  | 0 => 0
  | k + 1 => max (wsL es k) (absI (es.getD k 0))
theorem wsL_s {es : List Int} {i : Int} (h : 0 ≤ i) : wsL es (i + 1).toNat = max (wsL es i.toNat) (absI (es.getD i.toNat 0)) := by
  rw [show (i + 1).toNat = i.toNat + 1 by omega]; rfl
noncomputable def esF (m : GMine) (r : List Int) (fs : List GFan) (dr fl : List Int) : List Int := (mshC m).map (errW r (psF fs dr fl) fl)
noncomputable def wsF (m : GMine) (r : List Int) (fs : List GFan) (dr fl : List Int) : Int := wsL (esF m r fs dr fl) (mshC m).length
end Go.Proofs.YtdhkpmaanegjkaaGreat
/- Contracts of functions of the program, and what they compute. Conditions: those that each theorem states. -/
set_option linter.unusedVariables false
set_option linter.unusedSimpArgs false
namespace Go.Proofs.YtdhkpmaanegjkaaGreat
open Go.Av
attribute [local irreducible] Go.IntKind.wrap leastI rdZ rd rootI okMine okFanB
set_option maxRecDepth 20000
set_option maxHeartbeats 16000000
noncomputable def okFsB (fs : List GFan) : Bool := okAll okFanB (fun a b => sLt a.id b.id) default fs && decide (fs.length ≤ 8)
--@fn impl.ValidFans
theorem vFansX (fs : List GFan) : FnSem Tryz.prog 18 [Lx (.lst GFan.z (fs.map GFan.cells))] [] (Is [Bo (okFsB fs)] []) := by
  refine FnSem.walk (zs := zeroPV Tryz.prog) (by kernel_rfl) Tryz.func18 rfl Tryz.results18 (by kernel_rfl) (by kernel_rfl) (by kernel_rfl) fun hw hh => ?_
  obtain ⟨w0, _⟩ := hw
  first | replace w0 := wf_LFan w0 | skip
  repeat' first
    | refine And.intro rfl ?_
    | refine GdF.mk (fun h => h) ?_
    | refine And.intro (Nat.succ_ne_zero _) ?_
    | refine And.intro (Nat.le_of_ble_eq_true rfl) ?_
    | refine SeqF.run ?_
    | refine ArgF.is (vFanX (fs.getD i.toNat default)) ?_
    | refine ArgQ.is (fun hG => vFanX (fs.getD i.toNat default)) rfl rfl ?_
    | refine LoopF.at 4 rfl (LoopF.fix [0, 8, 9] (Int) (fun i => 0 ≤ i ∧ i ≤ fs.length ∧ fs.length ≤ 8 ∧ okTo okFanB (fun a b => sLt a.id b.id) default fs i) (fun i => [(10, In i)]) (fun i => []) (fun i => ((fs.length - i).toNat)) (0) ?_)
    | (refine LoopB.of (T := Int) ?_ ?_; rotate_left; rintro i ⟨h0, h1, h2, h3⟩; rotate_left)
    | refine GhF.go ?_
    | refine GdS.keep ?_
    | refine DrawG.old (DrawF.lex (by decide +kernel) ?_)
    | refine EqP.mk _ (gmb GFan.cells default (by omega)) ?_
    | refine BndF.mk (fun _ => by omega) ?_
    | refine BndF.mk (fun _ => by simp only [lnS]; omega) ?_
    | refine BndF.mk (fun hG => by simp only [forall_const, eq_self, not_true_eq_false, not_false_eq_true, or_false, false_or, or_self, or_true, true_or, and_true, true_and, and_false, false_and, decide_true, decide_false, Bool.not_true, Bool.not_false, decide_eq_true_eq, decide_eq_false_iff_not, ite_and_p, ite_or_p, Bool.decide_eq_true, Bool.and_eq_true, Bool.or_eq_true, Bool.not_eq_true', Bool.not_eq_false', Bool.and_eq_false_imp, Bool.or_eq_false_iff, bne_iff_ne, beq_iff_eq, bne_eq_false_iff_eq, beq_eq_false_iff_ne, gt_iff_lt, ge_iff_le, Int.not_lt, Int.not_le, ne_eq, Bool.true_eq_false, Bool.false_eq_true, reduceCtorEq, eta_Airway, eta_Fan, eta_Mine, bytes_nil] at hG; (try simp only [List.length_map]); omega) ?_
    | refine EqI.mk _ (fun _ => wrapI (by omega) (by omega)) ?_
    | refine EqI.mk _ (fun _ => rfl) ?_
    | refine EqN.mk _ (ln GFan.cells) ?_
    | refine EqN.mk _ (Nat.zero_add _) ?_
    | refine EqN.mk _ (Int.toNat_natCast _) ?_
    | refine EqN.mk _ rfl ?_
    | refine EqL.mk _ (tk GFan.cells (by first | rfl | assumption | omega | (simp only [lnS] <;> omega))) ?_
    | refine EqL.mk _ (st GFan.cells) ?_
    | refine EqL.mk [] rfl ?_
    | refine EqL.mk [_] rfl ?_
    | refine EqL.mk _ rfl ?_
    | refine ArgF.is (c_impl_ValidFan ..) ?_
    | refine ArgQ.is (fun hG => c_impl_ValidFan ..) rfl rfl ?_
    | refine CallF.mk (CallW.is [] true rfl ?_)
    | refine CallG.mk ?_
    | (refine CondF.mk (fun hb => ?_) (fun hb => ?_) <;> try simp only [forall_const, eq_self, not_true_eq_false, not_false_eq_true, or_false, false_or, or_self, or_true, true_or, and_true, true_and, and_false, false_and, decide_true, decide_false, Bool.not_true, Bool.not_false, decide_eq_true_eq, decide_eq_false_iff_not, ite_and_p, ite_or_p, Bool.decide_eq_true, Bool.and_eq_true, Bool.or_eq_true, Bool.not_eq_true', Bool.not_eq_false', Bool.and_eq_false_imp, Bool.or_eq_false_iff, bne_iff_ne, beq_iff_eq, bne_eq_false_iff_eq, beq_eq_false_iff_ne, gt_iff_lt, ge_iff_le, Int.not_lt, Int.not_le, ne_eq, Bool.true_eq_false, Bool.false_eq_true, reduceCtorEq, eta_Airway, eta_Fan, eta_Mine] at hb)
    | apply BackF.auto
    | refine BackB.mk ?_ ?_
    | refine RetF.auto (And.intro rfl ?_)
    | exact Is.mk rfl rfl
    | refine Is.mk ?_ rfl
    | refine Is.mk rfl ?_
    | refine Is.mk ?_ ?_
  all_goals try dsimp only
  all_goals try simp only [Bo, I, OB.row.injEq, AV.osl.injEq, eI_same,  List.cons.injEq, AV.p.injEq, PV.c.injEq, Value.int.injEq, Value.bool.injEq, and_true, true_and, ite_and_p, ite_or_p, Bool.decide_eq_true, eta_Airway, eta_Fan, eta_Mine]
  · unfold okFsB; rw [decide_eq_false (by omega), Bool.and_false]
  · exact ⟨by omega, by omega, by omega, okTo_0⟩
  · unfold okFsB; rw [okAll_f h0 (by omega) (by rw [sLt_f]; grind)]; rfl
  · exact ⟨by omega, by omega, by omega, okTo_s h0 h3 (by grind) (fun h => sLt_t.2 (hb.2 h))⟩
  · omega
  · unfold okFsB; rw [okAll_t hb h3, decide_eq_true (by omega)]; rfl
theorem okFsB_p {fs : List GFan} (h : okFsB fs = true) : fs.length ≤ 8 ∧ ∀ k : Nat, k < fs.length → okFan (fs.getD k default) := by
  unfold okFsB at h
  simp only [Bool.and_eq_true, decide_eq_true_eq] at h
  refine ⟨h.2, fun k hk => okFanB_p ?_⟩
  have h2 := h.1
  unfold okAll at h2
  rw [Bool.and_eq_true] at h2
  have := List.all_eq_true.1 h2.1 fs[k] (List.getElem_mem hk)
  rwa [List.getD_eq_getElem?_getD, List.getElem?_eq_getElem hk]
--@fn slices.IndexFunc[[]impl.Fan,impl.Fan]
theorem idxFnFx (xs : List GFan) (f : Nat) (c1 : List PV) (p : GFan → Bool) (hf : ∀ x, FnSem Tryz.prog f [.p .any (.agg x.cells), .p .any (.ref c1)] [] (Is [Bo (p x)] [])) : FnSem Tryz.prog 90 [Lx (.lst GFan.z (xs.map GFan.cells)), .p .any (.fn f [.ref c1])] [] (RetV (fun v : Int => [In v]) (fun _ => []) (fun v => (v = -1 ∧ xs.any p = false) ∨ (0 ≤ v ∧ xs.any p = true))) := by
  refine FnSem.walk (zs := zeroPV Tryz.prog) (by kernel_rfl) Tryz.func90 rfl Tryz.results90 (by kernel_rfl) (by kernel_rfl) (by kernel_rfl) fun hw hh => ?_
  obtain ⟨w0, w1, _⟩ := hw
  first | replace w0 := wf_LFan w0 | skip
  repeat' first
    | refine And.intro rfl ?_
    | refine GdF.mk (fun h => h) ?_
    | refine And.intro (Nat.succ_ne_zero _) ?_
    | refine And.intro (Nat.le_of_ble_eq_true rfl) ?_
    | refine SeqF.run ?_
    | refine ArgF.is (hf (xs.getD i.toNat default)) ?_
    | refine ArgQ.is (fun hG => hf (xs.getD i.toNat default)) rfl rfl ?_
    | refine LoopF.at 2 rfl (LoopF.fix [0, 1, 7] (Int) (fun i => 0 ≤ i ∧ i ≤ xs.length ∧ ∀ j : Nat, (j : Int) < i → p (xs.getD j default) = false) (fun i => [(8, In i)]) (fun i => []) (fun i => ((xs.length - i).toNat)) (0) ?_)
    | (refine LoopB.of (T := Int) ?_ ?_; rotate_left; rintro i ⟨h0, h1, h2⟩; rotate_left)
    | refine RetV.mk (α := Int) _ rfl rfl ?_
    | refine GhF.go ?_
    | refine EqP.mk _ (gmb GFan.cells default (by omega)) ?_
    | refine BndF.mk (fun _ => by omega) ?_
    | refine BndF.mk (fun _ => by simp only [lnS]; omega) ?_
    | refine EqI.mk _ (fun _ => wrapI (by omega) (by omega)) ?_
    | refine EqI.mk _ (fun _ => rfl) ?_
    | refine EqN.mk _ (ln GFan.cells) ?_
    | refine EqN.mk _ (Nat.zero_add _) ?_
    | refine EqN.mk _ (Int.toNat_natCast _) ?_
    | refine EqN.mk _ rfl ?_
    | refine CallF.mk (CallW.is [] true rfl ?_)
    | refine CallG.mk ?_
    | (refine CondF.mk (fun hb => ?_) (fun hb => ?_) <;> try simp only [forall_const, eq_self, not_true_eq_false, not_false_eq_true, or_false, false_or, or_self, or_true, true_or, and_true, true_and, and_false, false_and, decide_true, decide_false, Bool.not_true, Bool.not_false, decide_eq_true_eq, decide_eq_false_iff_not, ite_and_p, ite_or_p, Bool.decide_eq_true, Bool.and_eq_true, Bool.or_eq_true, Bool.not_eq_true', Bool.not_eq_false', Bool.and_eq_false_imp, Bool.or_eq_false_iff, bne_iff_ne, beq_iff_eq, bne_eq_false_iff_eq, beq_eq_false_iff_ne, gt_iff_lt, ge_iff_le, Int.not_lt, Int.not_le, ne_eq, Bool.true_eq_false, Bool.false_eq_true, reduceCtorEq, eta_Airway, eta_Fan, eta_Mine] at hb)
    | apply BackF.auto
    | refine BackB.mk ?_ ?_
    | refine RetF.auto (And.intro rfl ?_)
    | exact Is.mk rfl rfl
    | refine Is.mk ?_ rfl
    | refine Is.mk rfl ?_
    | refine Is.mk ?_ ?_
  all_goals try dsimp only
  all_goals first
    | omega
    | exact ⟨by omega, by omega, all_0⟩
    | exact ⟨by omega, by omega, all_s (P := fun j => p (xs.getD j default) = false) h0 h2 (by simpa using hb)⟩
    | (refine .inr ⟨h0, List.any_eq_true.2 ⟨xs.getD i.toNat default, ?_, hb⟩⟩
       exact getD_mem (by omega))
    | (refine .inl ⟨rfl, Bool.eq_false_iff.2 fun hh => ?_⟩
       obtain ⟨x, hx, hp⟩ := List.any_eq_true.1 hh
       obtain ⟨j, hj, rfl⟩ := List.getElem_of_mem hx
       have := h2 j (by omega)
       rw [List.getD_eq_getElem?_getD, List.getElem?_eq_getElem hj] at this
       rw [show p xs[j] = false from this] at hp
       cases hp)
    | skip
--@fn slices.ContainsFunc[[]impl.Fan,impl.Fan]
theorem contFnFx (xs : List GFan) (f : Nat) (c1 : List PV) (p : GFan → Bool) (hf : ∀ x, FnSem Tryz.prog f [.p .any (.agg x.cells), .p .any (.ref c1)] [] (Is [Bo (p x)] [])) : FnSem Tryz.prog 70 [Lx (.lst GFan.z (xs.map GFan.cells)), .p .any (.fn f [.ref c1])] [] (Is [Bo (xs.any p)] []) := by
  refine FnSem.walk (zs := zeroPV Tryz.prog) (by kernel_rfl) Tryz.func70 rfl Tryz.results70 (by kernel_rfl) (by kernel_rfl) (by kernel_rfl) fun hw hh => ?_
  obtain ⟨w0, w1, _⟩ := hw
  first | replace w0 := wf_LFan w0 | skip
  repeat' first
    | refine And.intro rfl ?_
    | refine GdF.mk (fun h => h) ?_
    | refine And.intro (Nat.succ_ne_zero _) ?_
    | refine And.intro (Nat.le_of_ble_eq_true rfl) ?_
    | refine SeqF.run ?_
    | (refine ArgF.ret (idxFnFx xs f c1 p hf) ?_; intro v hv)
    | refine GhF.go ?_
    | refine BndF.mk (fun _ => by omega) ?_
    | refine BndF.mk (fun _ => by simp only [lnS]; omega) ?_
    | refine EqL.mk _ (tk GFan.cells (by first | rfl | assumption | omega | (simp only [lnS] <;> omega))) ?_
    | refine EqL.mk [] rfl ?_
    | refine EqL.mk [_] rfl ?_
    | refine EqL.mk _ rfl ?_
    | refine ArgF.is (c_slices_IndexFunc_impl_Fan_impl_Fan ..) ?_
    | refine ArgQ.is (fun hG => c_slices_IndexFunc_impl_Fan_impl_Fan ..) rfl rfl ?_
    | refine CallF.mk (CallW.is [] true rfl ?_)
    | refine CallG.mk ?_
    | (refine CondF.mk (fun hb => ?_) (fun hb => ?_) <;> try simp only [forall_const, eq_self, not_true_eq_false, not_false_eq_true, or_false, false_or, or_self, or_true, true_or, and_true, true_and, and_false, false_and, decide_true, decide_false, Bool.not_true, Bool.not_false, decide_eq_true_eq, decide_eq_false_iff_not, ite_and_p, ite_or_p, Bool.decide_eq_true, Bool.and_eq_true, Bool.or_eq_true, Bool.not_eq_true', Bool.not_eq_false', Bool.and_eq_false_imp, Bool.or_eq_false_iff, bne_iff_ne, beq_iff_eq, bne_eq_false_iff_eq, beq_eq_false_iff_ne, gt_iff_lt, ge_iff_le, Int.not_lt, Int.not_le, ne_eq, Bool.true_eq_false, Bool.false_eq_true, reduceCtorEq, eta_Airway, eta_Fan, eta_Mine] at hb)
    | refine RetF.auto (And.intro rfl ?_)
    | exact Is.mk rfl rfl
    | refine Is.mk ?_ rfl
    | refine Is.mk rfl ?_
    | refine Is.mk ?_ ?_
  all_goals try dsimp only
  all_goals try simp only [Bo, I, OB.row.injEq, AV.osl.injEq, eI_same,  List.cons.injEq, AV.p.injEq, PV.c.injEq, Value.int.injEq, Value.bool.injEq, and_true, true_and, ite_and_p, ite_or_p, Bool.decide_eq_true, eta_Airway, eta_Fan, eta_Mine]
  all_goals try dsimp only
  all_goals first
    | (rcases hv with ⟨rfl, h⟩ | ⟨h0, h⟩
       · rw [h]; rfl
       · rw [h]; exact decide_eq_true h0)
    | skip
def hsB (m : GMine) (fs : List GFan) : Bool := !fs.any (fun f => !inR f.airway 0 (m.airways.length - 1))
theorem hsB_p {m : GMine} {fs : List GFan} (h : hsB m fs = true) : ∀ k : Nat, k < fs.length → 0 ≤ (fs.getD k default).airway ∧ (fs.getD k default).airway < m.airways.length := fun k hk => by
  unfold hsB at h
  simp only [Bool.not_eq_true', List.any_eq_false, Bool.not_eq_true, Bool.not_eq_false'] at h
  have := h fs[k] (List.getElem_mem hk)
  rw [List.getD_eq_getElem?_getD, List.getElem?_eq_getElem hk, Option.getD_some]
  have := inR_iff.1 (by simpa using this)
  omega
--@fn (impl.Mine).hasFans
theorem hsFX (m : GMine) (fs : List GFan) : FnSem Tryz.prog 45 [.p .any (.agg m.cells), Lx (.lst GFan.z (fs.map GFan.cells))] [] (Is [Bo (hsB m fs)] []) := by
  refine FnSem.walk (zs := zeroPV Tryz.prog) (by kernel_rfl) Tryz.func45 rfl Tryz.results45 (by kernel_rfl) (by kernel_rfl) (by kernel_rfl) fun hw hh => ?_
  obtain ⟨w0, w1, _⟩ := hw
  first | replace w0 := wf_Mine w0 | skip
  first | replace w1 := wf_LFan w1 | skip
  repeat' first
    | refine And.intro rfl ?_
    | refine GdF.mk (fun h => h) ?_
    | refine And.intro (Nat.succ_ne_zero _) ?_
    | refine And.intro (Nat.le_of_ble_eq_true rfl) ?_
    | refine SeqF.run ?_
    | refine ArgF.is (contFnFx fs _ m.cells (fun f => !inR f.airway 0 (m.airways.length - 1)) (fun f => c_impl_Mine_hasFans_1 m f)) ?_
    | refine ArgQ.is (fun hG => contFnFx fs _ m.cells (fun f => !inR f.airway 0 (m.airways.length - 1)) (fun f => c_impl_Mine_hasFans_1 m f)) rfl rfl ?_
    | refine GhF.go ?_
    | refine BndF.mk (fun _ => by omega) ?_
    | refine BndF.mk (fun _ => by simp only [lnS]; omega) ?_
    | refine EqL.mk _ (tk GFan.cells (by first | rfl | assumption | omega | (simp only [lnS] <;> omega))) ?_
    | refine EqL.mk [] rfl ?_
    | refine EqL.mk [_] rfl ?_
    | refine EqL.mk _ rfl ?_
    | refine ArgF.is (c_slices_ContainsFunc_impl_Fan_impl_Fan ..) ?_
    | refine ArgQ.is (fun hG => c_slices_ContainsFunc_impl_Fan_impl_Fan ..) rfl rfl ?_
    | refine CallF.mk (CallW.is [] true rfl ?_)
    | refine CallG.mk ?_
    | (refine CondF.mk (fun hb => ?_) (fun hb => ?_) <;> try simp only [forall_const, eq_self, not_true_eq_false, not_false_eq_true, or_false, false_or, or_self, or_true, true_or, and_true, true_and, and_false, false_and, decide_true, decide_false, Bool.not_true, Bool.not_false, decide_eq_true_eq, decide_eq_false_iff_not, ite_and_p, ite_or_p, Bool.decide_eq_true, Bool.and_eq_true, Bool.or_eq_true, Bool.not_eq_true', Bool.not_eq_false', Bool.and_eq_false_imp, Bool.or_eq_false_iff, bne_iff_ne, beq_iff_eq, bne_eq_false_iff_eq, beq_eq_false_iff_ne, gt_iff_lt, ge_iff_le, Int.not_lt, Int.not_le, ne_eq, Bool.true_eq_false, Bool.false_eq_true, reduceCtorEq, eta_Airway, eta_Fan, eta_Mine] at hb)
    | refine RetF.auto (And.intro rfl ?_)
    | exact Is.mk rfl rfl
    | refine Is.mk ?_ rfl
    | refine Is.mk rfl ?_
    | refine Is.mk ?_ ?_
  all_goals skip
def sysB (m : GMine) (r p fl : List Int) : Bool := lsO m r 1 1000000 && lsO m p (-100000) 100000 && lsO m fl (-100000) 100000
--@fn (impl.Mine).hasSystem
theorem hsysX (m : GMine) (r p fl : List Int) : FnSem Tryz.prog 44 [.p .any (.agg m.cells), Lx (LI r), Lx (LI p), Lx (LI fl)] [] (Is [Bo (sysB m r p fl)] []) := by
  refine FnSem.walk (zs := zeroPV Tryz.prog) (by kernel_rfl) Tryz.func44 rfl Tryz.results44 (by kernel_rfl) (by kernel_rfl) (by kernel_rfl) fun hw hh => ?_
  obtain ⟨w0, w1, w2, w3, _⟩ := hw
  first | replace w0 := wf_Mine w0 | skip
  first | replace w1 := wf_LI w1 | skip
  first | replace w2 := wf_LI w2 | skip
  first | replace w3 := wf_LI w3 | skip
  repeat' first
    | refine And.intro rfl ?_
    | refine GdF.mk (fun h => h) ?_
    | refine And.intro (Nat.succ_ne_zero _) ?_
    | refine And.intro (Nat.le_of_ble_eq_true rfl) ?_
    | refine SeqF.run ?_
    | refine ArgF.is (hasL m r 1 1000000) ?_
    | refine ArgQ.is (fun hG => hasL m r 1 1000000) rfl rfl ?_
    | refine ArgF.is (hasL m p (-100000) 100000) ?_
    | refine ArgQ.is (fun hG => hasL m p (-100000) 100000) rfl rfl ?_
    | refine ArgF.is (hasF m fl) ?_
    | refine ArgQ.is (fun hG => hasF m fl) rfl rfl ?_
    | refine GhF.go ?_
    | refine GdS.keep ?_
    | refine BndF.mk (fun _ => by omega) ?_
    | refine BndF.mk (fun _ => by simp only [lnS]; omega) ?_
    | refine BndF.mk (fun hG => by simp only [forall_const, eq_self, not_true_eq_false, not_false_eq_true, or_false, false_or, or_self, or_true, true_or, and_true, true_and, and_false, false_and, decide_true, decide_false, Bool.not_true, Bool.not_false, decide_eq_true_eq, decide_eq_false_iff_not, ite_and_p, ite_or_p, Bool.decide_eq_true, Bool.and_eq_true, Bool.or_eq_true, Bool.not_eq_true', Bool.not_eq_false', Bool.and_eq_false_imp, Bool.or_eq_false_iff, bne_iff_ne, beq_iff_eq, bne_eq_false_iff_eq, beq_eq_false_iff_ne, gt_iff_lt, ge_iff_le, Int.not_lt, Int.not_le, ne_eq, Bool.true_eq_false, Bool.false_eq_true, reduceCtorEq, eta_Airway, eta_Fan, eta_Mine, bytes_nil] at hG; (try simp only [List.length_map]); omega) ?_
    | refine EqL.mk _ (tk eI (by first | rfl | assumption | omega | (simp only [lnS] <;> omega))) ?_
    | refine EqL.mk [] rfl ?_
    | refine EqL.mk [_] rfl ?_
    | refine EqL.mk _ rfl ?_
    | refine ArgF.is (c_impl_Mine_hasList ⟨_, _⟩ _ _ _) ?_
    | refine ArgQ.is (fun hG => c_impl_Mine_hasList ⟨_, _⟩ _ _ _) rfl rfl ?_
    | refine ArgF.is (c_impl_Mine_hasFlows ⟨_, _⟩ _) ?_
    | refine ArgQ.is (fun hG => c_impl_Mine_hasFlows ⟨_, _⟩ _) rfl rfl ?_
    | refine CallF.mk (CallW.is [] true rfl ?_)
    | refine CallG.mk ?_
    | (refine CondF.mk (fun hb => ?_) (fun hb => ?_) <;> try simp only [forall_const, eq_self, not_true_eq_false, not_false_eq_true, or_false, false_or, or_self, or_true, true_or, and_true, true_and, and_false, false_and, decide_true, decide_false, Bool.not_true, Bool.not_false, decide_eq_true_eq, decide_eq_false_iff_not, ite_and_p, ite_or_p, Bool.decide_eq_true, Bool.and_eq_true, Bool.or_eq_true, Bool.not_eq_true', Bool.not_eq_false', Bool.and_eq_false_imp, Bool.or_eq_false_iff, bne_iff_ne, beq_iff_eq, bne_eq_false_iff_eq, beq_eq_false_iff_ne, gt_iff_lt, ge_iff_le, Int.not_lt, Int.not_le, ne_eq, Bool.true_eq_false, Bool.false_eq_true, reduceCtorEq, eta_Airway, eta_Fan, eta_Mine] at hb)
    | refine RetF.auto (And.intro rfl ?_)
    | exact Is.mk rfl rfl
    | refine Is.mk ?_ rfl
    | refine Is.mk rfl ?_
    | refine Is.mk ?_ ?_
  all_goals try dsimp only
  all_goals try simp only [Bo, I, OB.row.injEq, AV.osl.injEq, eI_same,  List.cons.injEq, AV.p.injEq, PV.c.injEq, Value.int.injEq, Value.bool.injEq, and_true, true_and, ite_and_p, ite_or_p, Bool.decide_eq_true, eta_Airway, eta_Fan, eta_Mine]
  all_goals try dsimp only
  all_goals
    unfold sysB
    cases lsO m r 1 1000000 <;> cases lsO m p (-100000) 100000 <;> rfl
end Go.Proofs.YtdhkpmaanegjkaaGreat
