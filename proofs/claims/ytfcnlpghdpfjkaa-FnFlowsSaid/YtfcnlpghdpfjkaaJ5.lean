/- Contracts of functions of the program, and what they compute. Conditions: those that each theorem states. -/
import Derived.Test.YtfcnlpghdpfjkaaProg
import Derived.Test.YtfcnlpghdpfjkaaJ4
set_option linter.unusedVariables false
set_option linter.unusedSimpArgs false
namespace Go.Proofs.Ytfcnlpghdpfjkaa
open Go.Av
attribute [local irreducible] Go.IntKind.wrap leastI rdZ rd rootI okMine treeC mshC dropI
set_option maxRecDepth 20000
set_option maxHeartbeats 16000000

/-! What comes to junctions; errors of meshes: the program. -/
theorem inc_t {x : GAirway} {f j : Int} (h : j = x.to) : incA x f j = f := by unfold incA; rw [if_pos h]
theorem inc_f {x : GAirway} {f j : Int} (h : ¬j = x.to) (h2 : j = x.from_) : incA x f j = -f := by unfold incA; rw [if_neg h, if_pos h2]
theorem inc_n {x : GAirway} {f j : Int} (h : ¬j = x.to) (h2 : ¬j = x.from_) : incA x f j = 0 := by unfold incA; rw [if_neg h, if_neg h2]
theorem c_impl_Mine_imbalance (m : GMine) (fl : List Int) (j : Int) (hl : fl.length = m.airways.length) (hL : m.airways.length ≤ 24) (hf : ∀ k : Nat, -100000 ≤ fl.getD k 0 ∧ fl.getD k 0 ≤ 100000) : FnSem Try.prog 98 [.p .any (.agg m.cells), Lx (LI fl), In j] [] (Is [In (imbA m fl j)] []) := by
  have hB := fun i : Int => imbI_b (m := m) (j := j) (B := 100000) (by omega) hf i.toNat
  refine FnSem.walk (zs := zeroPV Try.prog) (by kernel_rfl) Try.func98 rfl Try.results98 (by kernel_rfl) (by kernel_rfl) (by kernel_rfl) fun hw hh => ?_
  obtain ⟨w0, w1, w2, _⟩ := hw
  first | replace w0 := wf_Mine w0 | skip
  first | replace w1 := wf_LI w1 | skip
  first | replace w2 := wf_I w2 | skip
  have hwl := w0.2.1
  repeat' first
    | refine And.intro rfl ?_
    | refine GdF.mk (fun h => h) ?_
    | refine And.intro (Nat.succ_ne_zero _) ?_
    | refine And.intro (Nat.le_of_ble_eq_true rfl) ?_
    | refine SeqF.run ?_
    | refine LoopF.at 3 rfl (LoopF.fix [1, 2, 11, 12] (Int × Int) (fun (i, s) => 0 ≤ i ∧ i ≤ m.airways.length ∧ s = imbI m fl j i.toNat) (fun (i, s) => [(13, In i), (7, In s)]) (fun (i, s) => []) (fun (i, s) => ((m.airways.length - i).toNat)) ((0, 0)) ?_)
    | (refine LoopB.of (T := Int × Int) ?_ ?_; rotate_left; rintro ⟨i, s⟩ ⟨i0, i1, i2⟩; rotate_left)
    | refine EqI.mk _ (fun _ => by have q := hB i; have q2 := hf i.toNat; exact wrapI (by omega) (by omega)) ?_
    | refine GhF.go ?_
    | refine EqP.mk _ (gm eI 0 rfl) ?_
    | refine EqP.mk _ (gm GAirway.cells default rfl) ?_
    | refine BndF.mk (fun _ => by omega) ?_
    | refine BndF.mk (fun _ => by simp only [List.length_map, List.length_cons, List.length_nil, List.length_append, List.length_set, List.length_replicate, iotaI_len]; omega) ?_
    | refine EqI.mk _ (fun _ => wrapI (by omega) (by omega)) ?_
    | refine EqI.mk _ (fun _ => rfl) ?_
    | refine EqN.mk _ (ln eI) ?_
    | refine EqN.mk _ (ln GAirway.cells) ?_
    | refine EqN.mk _ (Nat.zero_add _) ?_
    | refine EqN.mk _ (Int.toNat_natCast _) ?_
    | refine EqN.mk _ rfl ?_
    | refine EqL.mk _ (st eI) ?_
    | refine EqL.mk _ (st GAirway.cells) ?_
    | refine EqL.mk [] rfl ?_
    | refine EqL.mk [_] rfl ?_
    | refine EqL.mk _ rfl ?_
    | (refine CondF.mk (fun hb => ?_) (fun hb => ?_) <;> try simp only [forall_const, eq_self, not_true_eq_false, not_false_eq_true, or_false, false_or, or_self, or_true, true_or, and_true, true_and, and_false, false_and, decide_true, decide_false, Bool.not_true, Bool.not_false, decide_eq_true_eq, decide_eq_false_iff_not, ite_and_p, ite_or_p, Bool.decide_eq_true, Bool.and_eq_true, Bool.or_eq_true, Bool.not_eq_true', Bool.not_eq_false', Bool.and_eq_false_imp, Bool.or_eq_false_iff, bne_iff_ne, beq_iff_eq, bne_eq_false_iff_eq, beq_eq_false_iff_ne, gt_iff_lt, ge_iff_le, Int.not_lt, Int.not_le, ne_eq, Bool.true_eq_false, Bool.false_eq_true, reduceCtorEq, eta_Airway, eta_Fan, eta_Mine] at hb)
    | apply BackF.auto2
    | refine BackB.mk ?_ ?_
    | refine RetF.auto (And.intro rfl ?_)
    | exact Is.mk rfl rfl
    | refine Is.mk ?_ rfl
    | refine Is.mk rfl ?_
    | refine Is.mk ?_ ?_
  all_goals try dsimp only
  all_goals try simp only [Bo, I, OB.row.injEq, AV.osl.injEq, eI_same,  List.cons.injEq, AV.p.injEq, PV.c.injEq, Value.int.injEq, Value.bool.injEq, and_true, true_and, ite_and_p, ite_or_p, Bool.decide_eq_true, eta_Airway, eta_Fan, eta_Mine]
  all_goals try dsimp only
  all_goals first
    | omega
    | exact ⟨by omega, by omega, rfl⟩
    | (refine ⟨by omega, by omega, ?_⟩; rw [imbI_s i0, i2, inc_t (by assumption)])
    | (refine ⟨by omega, by omega, ?_⟩; rw [imbI_s i0, i2, inc_f (by assumption) (by assumption)]; omega)
    | (refine ⟨by omega, by omega, ?_⟩; rw [imbI_s i0, i2, inc_n (by assumption) (by assumption)]; omega)
    | (rw [i2, show i.toNat = m.airways.length by omega])
    | skip
def balM (m : GMine) (fl : List Int) : Bool := decide (∀ k : Nat, k < m.junctions.toNat → imbA m fl k = 0)
theorem balM_0 {m : GMine} {fl : List Int} (h : ∀ j : Int, imbA m fl j = 0) : balM m fl = true := decide_eq_true fun k _ => h k
theorem c_impl_Mine_balanced (m : GMine) (fl : List Int) (hm : okMine m = true) (hl : fl.length = m.airways.length) (hf : ∀ k : Nat, -100000 ≤ fl.getD k 0 ∧ fl.getD k 0 ≤ 100000) : FnSem Try.prog 95 [.p .any (.agg m.cells), Lx (LI fl)] [] (Is [Bo (balM m fl)] []) := by
  have hmp := okMine_p hm
  refine FnSem.walk (zs := zeroPV Try.prog) (by kernel_rfl) Try.func95 rfl Try.results95 (by kernel_rfl) (by kernel_rfl) (by kernel_rfl) fun hw hh => ?_
  obtain ⟨w0, w1, _⟩ := hw
  first | replace w0 := wf_Mine w0 | skip
  first | replace w1 := wf_LI w1 | skip
  repeat' first
    | refine And.intro rfl ?_
    | refine GdF.mk (fun h => h) ?_
    | refine And.intro (Nat.succ_ne_zero _) ?_
    | refine And.intro (Nat.le_of_ble_eq_true rfl) ?_
    | refine SeqF.run ?_
    | refine ArgF.is (c_impl_Mine_imbalance m fl j hl (by omega) hf) ?_
    | refine ArgQ.is (fun hG => c_impl_Mine_imbalance m fl j hl (by omega) hf) rfl rfl ?_
    | refine LoopF.at 2 rfl (LoopF.fix [1, 2, 7] (Int) (fun j => 0 ≤ j ∧ j ≤ m.junctions ∧ ∀ k : Nat, (k : Int) < j → imbA m fl k = 0) (fun j => [(8, In j)]) (fun j => []) (fun j => ((m.junctions - j).toNat)) (0) ?_)
    | (refine LoopB.of (T := Int) ?_ ?_; rotate_left; rintro j ⟨j0, j1, j2⟩; rotate_left)
    | refine GhF.go ?_
    | refine BndF.mk (fun _ => by omega) ?_
    | refine BndF.mk (fun _ => by simp only [List.length_map, List.length_cons, List.length_nil, List.length_append, List.length_set, List.length_replicate, iotaI_len]; omega) ?_
    | refine EqI.mk _ (fun _ => wrapI (by omega) (by omega)) ?_
    | refine EqI.mk _ (fun _ => rfl) ?_
    | refine EqL.mk _ (tk eI (by first | rfl | assumption | omega | (simp only [List.length_map, List.length_cons, List.length_nil, List.length_append, List.length_set, List.length_replicate, iotaI_len]; done) | (simp only [List.length_map, List.length_cons, List.length_nil, List.length_append, List.length_set, List.length_replicate, iotaI_len]; omega))) ?_
    | refine EqL.mk [] rfl ?_
    | refine EqL.mk [_] rfl ?_
    | refine EqL.mk _ rfl ?_
    | refine ArgF.is (c_impl_Mine_imbalance ⟨_, _⟩ _ _ (by first | assumption | omega) (by first | assumption | omega) (by first | assumption | omega)) ?_
    | refine ArgQ.is (fun hG => c_impl_Mine_imbalance ⟨_, _⟩ _ _ (by first | assumption | omega) (by first | assumption | omega) (by first | assumption | omega)) rfl rfl ?_
    | refine CallF.mk (CallW.is [] true rfl ?_)
    | refine CallG.mk ?_
    | (refine CondF.mk (fun hb => ?_) (fun hb => ?_) <;> try simp only [forall_const, eq_self, not_true_eq_false, not_false_eq_true, or_false, false_or, or_self, or_true, true_or, and_true, true_and, and_false, false_and, decide_true, decide_false, Bool.not_true, Bool.not_false, decide_eq_true_eq, decide_eq_false_iff_not, ite_and_p, ite_or_p, Bool.decide_eq_true, Bool.and_eq_true, Bool.or_eq_true, Bool.not_eq_true', Bool.not_eq_false', Bool.and_eq_false_imp, Bool.or_eq_false_iff, bne_iff_ne, beq_iff_eq, bne_eq_false_iff_eq, beq_eq_false_iff_ne, gt_iff_lt, ge_iff_le, Int.not_lt, Int.not_le, ne_eq, Bool.true_eq_false, Bool.false_eq_true, reduceCtorEq, eta_Airway, eta_Fan, eta_Mine] at hb)
    | apply BackF.auto
    | refine BackB.mk ?_ ?_
    | refine RetF.auto (And.intro rfl ?_)
    | exact Is.mk rfl rfl
    | refine Is.mk ?_ rfl
    | refine Is.mk rfl ?_
    | refine Is.mk ?_ ?_
  all_goals try dsimp only
  all_goals try simp only [Bo, I, OB.row.injEq, AV.osl.injEq, eI_same,  List.cons.injEq, AV.p.injEq, PV.c.injEq, Value.int.injEq, Value.bool.injEq, and_true, true_and, ite_and_p, ite_or_p, Bool.decide_eq_true, eta_Airway, eta_Fan, eta_Mine]
  all_goals try dsimp only
  all_goals first
    | omega
    | exact ⟨by omega, by omega, all_0⟩
    | (refine (decide_eq_false fun h => ?_).symm
       have := h j.toNat (by omega)
       rw [show ((j.toNat : Nat) : Int) = j by omega] at this
       exact hb this)
    | exact ⟨by omega, by omega, all_s j0 j2 (by rw [show ((j.toNat : Nat) : Int) = j by omega]; exact hb)⟩
    | exact (decide_eq_true fun k hk => j2 k (by omega)).symm
    | skip
--@fn (impl.Mine).hasFlows
theorem hfT (m : GMine) (fl : List Int) (h : lsO m fl (-100000) 100000 = true) : FnSem Try.prog 94 [.p .any (.agg m.cells), Lx (LI fl)] [] (Is [Bo true] []) := by
  have := hasF m fl
  rwa [h] at this
--@fn (impl.Mine).hasList
theorem hlT (m : GMine) (xs : List Int) (a b : Int) (h : lsO m xs a b = true) : FnSem Try.prog 102 [.p .any (.agg m.cells), Lx (LI xs), In a, In b] [] (Is [Bo true] []) := by
  have := hasL m xs a b
  rwa [h] at this
--@fn (impl.Mine).hasJunction
--@fn (impl.Mine).balanced
theorem baT (m : GMine) (fl : List Int) (hm : okMine m = true) (h : blF m fl 100000) : FnSem Try.prog 95 [.p .any (.agg m.cells), Lx (LI fl)] [] (Is [Bo true] []) := by
  have := c_impl_Mine_balanced m fl hm h.ln h.bd
  rwa [balM_0 h.im] at this
--@fn impl.IsBalanced
/-- a system: resistances, pressures, flows -/
structure sysO (m : GMine) (r p fl : List Int) : Prop where
  r : r.length = m.airways.length ∧ ∀ k : Nat, k < m.airways.length → 1 ≤ r.getD k 0 ∧ r.getD k 0 ≤ 1000000
  p : p.length = m.airways.length ∧ ∀ k : Nat, k < m.airways.length → -2000000 ≤ p.getD k 0 ∧ p.getD k 0 ≤ 2000000
  f : fl.length = m.airways.length ∧ ∀ k : Nat, k < m.airways.length → -100000 ≤ fl.getD k 0 ∧ fl.getD k 0 ≤ 100000
/-- the error of a walk, so far -/
def errI (r p fl w : List Int) : Nat → Int
  | 0 => 0
  | k + 1 => errI r p fl w k + sgW (w.getD k 0) * (dropI (r.getD (absI (w.getD k 0) - 1).toNat 0) (fl.getD (absI (w.getD k 0) - 1).toNat 0) - p.getD (absI (w.getD k 0) - 1).toNat 0)
abbrev errW (r p fl w : List Int) : Int := errI r p fl w w.length
theorem errI_s {r p fl w : List Int} {i : Int} (h : 0 ≤ i) : errI r p fl w (i + 1).toNat = errI r p fl w i.toNat + sgW (w.getD i.toNat 0) * (dropI (r.getD (absI (w.getD i.toNat 0) - 1).toNat 0) (fl.getD (absI (w.getD i.toNat 0) - 1).toNat 0) - p.getD (absI (w.getD i.toNat 0) - 1).toNat 0) := by
  rw [show (i + 1).toNat = i.toNat + 1 by omega]; rfl
section
variable {m : GMine} {r p fl w : List Int}
theorem sys_i (h : sysO m r p fl) (hw : okWk m.airways.length w) {k : Nat} (hk : k < w.length) : (1 ≤ r.getD (absI (w.getD k 0) - 1).toNat 0 ∧ r.getD (absI (w.getD k 0) - 1).toNat 0 ≤ 1000000) ∧ (-2000000 ≤ p.getD (absI (w.getD k 0) - 1).toNat 0 ∧ p.getD (absI (w.getD k 0) - 1).toNat 0 ≤ 2000000) ∧ (-100000 ≤ fl.getD (absI (w.getD k 0) - 1).toNat 0 ∧ fl.getD (absI (w.getD k 0) - 1).toNat 0 ≤ 100000) := by
  have q := hw.2 k hk
  exact ⟨h.r.2 _ (by omega), h.p.2 _ (by omega), h.f.2 _ (by omega)⟩
theorem err_1 (h : sysO m r p fl) (hw : okWk m.airways.length w) {k : Nat} (hk : k < w.length) : (-1000000 ≤ dropI (r.getD (absI (w.getD k 0) - 1).toNat 0) (fl.getD (absI (w.getD k 0) - 1).toNat 0) ∧ dropI (r.getD (absI (w.getD k 0) - 1).toNat 0) (fl.getD (absI (w.getD k 0) - 1).toNat 0) ≤ 1000000) ∧ -3000000 ≤ sgW (w.getD k 0) * (dropI (r.getD (absI (w.getD k 0) - 1).toNat 0) (fl.getD (absI (w.getD k 0) - 1).toNat 0) - p.getD (absI (w.getD k 0) - 1).toNat 0) ∧ sgW (w.getD k 0) * (dropI (r.getD (absI (w.getD k 0) - 1).toNat 0) (fl.getD (absI (w.getD k 0) - 1).toNat 0) - p.getD (absI (w.getD k 0) - 1).toNat 0) ≤ 3000000 := by
  obtain ⟨a, b, c⟩ := sys_i h hw hk
  have d := (dropI_b a c).2.2
  exact ⟨d, sg_b (by omega)⟩
theorem errI_b (h : sysO m r p fl) (hw : okWk m.airways.length w) : ∀ k : Nat, k ≤ w.length → -(k * 3000000) ≤ errI r p fl w k ∧ errI r p fl w k ≤ k * 3000000
  | 0, _ => by simp [errI]
  | k + 1, hk => by
    have a := errI_b h hw k (by omega)
    have b := (err_1 h hw (k := k) (by omega)).2
    rw [errI]; omega
end
theorem c_impl_walkError (m : GMine) (w r p fl : List Int) (h : sysO m r p fl) (hw : okWk m.airways.length w) (hL : m.airways.length ≤ 24) : FnSem Try.prog 161 [Lx (LI w), Lx (LI r), Lx (LI p), Lx (LI fl)] [] (Is [In (errW r p fl w)] []) := by
  have hr := h.r.1
  have hp := h.p.1
  have hf := h.f.1
  have h64 := hw.1
  refine FnSem.walk (zs := zeroPV Try.prog) (by kernel_rfl) Try.func161 rfl Try.results161 (by kernel_rfl) (by kernel_rfl) (by kernel_rfl) fun hw hh => ?_
  obtain ⟨w0, w1, w2, w3, _⟩ := hw
  first | replace w0 := wf_LI w0 | skip
  first | replace w1 := wf_LI w1 | skip
  first | replace w2 := wf_LI w2 | skip
  first | replace w3 := wf_LI w3 | skip
  repeat' first
    | refine And.intro rfl ?_
    | refine GdF.mk (fun h => h) ?_
    | refine And.intro (Nat.succ_ne_zero _) ?_
    | refine And.intro (Nat.le_of_ble_eq_true rfl) ?_
    | refine SeqF.run ?_
    | refine LoopF.at 3 rfl (LoopF.fix [1, 2, 3, 14, 15] (Int × Int) (fun (i, s) => 0 ≤ i ∧ i ≤ w.length ∧ s = errI r p fl w i.toNat) (fun (i, s) => [(16, In i), (9, In s)]) (fun (i, s) => []) (fun (i, s) => ((w.length - i).toNat)) ((0, 0)) ?_)
    | (refine LoopB.of (T := Int × Int) ?_ ?_; rotate_left; rintro ⟨i, s⟩ ⟨i0, i1, i2⟩; rotate_left)
    | refine ArgF.is (c_impl_airwayOf (w.getD i.toNat 0) (by have q := okWk_i hw i0 (by assumption); omega)) ?_
    | refine ArgQ.is (fun hG => c_impl_airwayOf (w.getD i.toNat 0) (by have q := okWk_i hw i0 (by assumption); omega)) rfl rfl ?_
    | refine ArgF.is (c_impl_dropOf _ _ (sys_i h hw (k := i.toNat) (by omega)).1 (sys_i h hw (k := i.toNat) (by omega)).2.2) ?_
    | refine ArgQ.is (fun hG => c_impl_dropOf _ _ (sys_i h hw (k := i.toNat) (by omega)).1 (sys_i h hw (k := i.toNat) (by omega)).2.2) rfl rfl ?_
    | refine BndF.mk (fun _ => by have q := okWk_i hw i0 (by assumption); first | omega | (simp only [List.length_map]; omega)) ?_
    | refine EqI.mk _ (fun _ => by have q := err_1 h hw (k := i.toNat) (by omega); have q2 := errI_b h hw i.toNat (by omega); have q3 := (sys_i h hw (k := i.toNat) (by omega)).2.1; exact wrapI (by omega) (by omega)) ?_
    | refine GhF.go ?_
    | refine DrawG.old (DrawF.lex (by decide +kernel) ?_)
    | refine EqP.mk _ (gm eI 0 rfl) ?_
    | refine BndF.mk (fun _ => by omega) ?_
    | refine BndF.mk (fun _ => by simp only [List.length_map, List.length_cons, List.length_nil, List.length_append, List.length_set, List.length_replicate, iotaI_len]; omega) ?_
    | refine EqI.mk _ (fun _ => wrapI (by omega) (by omega)) ?_
    | refine EqI.mk _ (fun _ => rfl) ?_
    | refine EqN.mk _ (ln eI) ?_
    | refine EqN.mk _ (Nat.zero_add _) ?_
    | refine EqN.mk _ (Int.toNat_natCast _) ?_
    | refine EqN.mk _ rfl ?_
    | refine EqL.mk _ (tk eI (by first | rfl | assumption | omega | (simp only [List.length_map, List.length_cons, List.length_nil, List.length_append, List.length_set, List.length_replicate, iotaI_len]; done) | (simp only [List.length_map, List.length_cons, List.length_nil, List.length_append, List.length_set, List.length_replicate, iotaI_len]; omega))) ?_
    | refine EqL.mk [] rfl ?_
    | refine EqL.mk [_] rfl ?_
    | refine EqL.mk _ rfl ?_
    | refine ArgF.is (c_impl_airwayOf _ (by first | assumption | omega)) ?_
    | refine ArgQ.is (fun hG => c_impl_airwayOf _ (by first | assumption | omega)) rfl rfl ?_
    | refine ArgF.is (c_impl_dropOf _ _ (by first | assumption | omega) (by first | assumption | omega)) ?_
    | refine ArgQ.is (fun hG => c_impl_dropOf _ _ (by first | assumption | omega) (by first | assumption | omega)) rfl rfl ?_
    | refine CallF.mk (CallW.is [] true rfl ?_)
    | refine CallG.mk ?_
    | (refine CondF.mk (fun hb => ?_) (fun hb => ?_) <;> try simp only [forall_const, eq_self, not_true_eq_false, not_false_eq_true, or_false, false_or, or_self, or_true, true_or, and_true, true_and, and_false, false_and, decide_true, decide_false, Bool.not_true, Bool.not_false, decide_eq_true_eq, decide_eq_false_iff_not, ite_and_p, ite_or_p, Bool.decide_eq_true, Bool.and_eq_true, Bool.or_eq_true, Bool.not_eq_true', Bool.not_eq_false', Bool.and_eq_false_imp, Bool.or_eq_false_iff, bne_iff_ne, beq_iff_eq, bne_eq_false_iff_eq, beq_eq_false_iff_ne, gt_iff_lt, ge_iff_le, Int.not_lt, Int.not_le, ne_eq, Bool.true_eq_false, Bool.false_eq_true, reduceCtorEq, eta_Airway, eta_Fan, eta_Mine] at hb)
    | apply BackF.auto2
    | refine BackB.mk ?_ ?_
    | refine RetF.auto (And.intro rfl ?_)
    | exact Is.mk rfl rfl
    | refine Is.mk ?_ rfl
    | refine Is.mk rfl ?_
    | refine Is.mk ?_ ?_
  all_goals try dsimp only
  all_goals try simp only [Bo, I, OB.row.injEq, AV.osl.injEq, eI_same,  List.cons.injEq, AV.p.injEq, PV.c.injEq, Value.int.injEq, Value.bool.injEq, and_true, true_and, ite_and_p, ite_or_p, Bool.decide_eq_true, eta_Airway, eta_Fan, eta_Mine]
  all_goals try dsimp only
  all_goals first
    | omega
    | exact ⟨by omega, by omega, rfl⟩
    | exact ⟨by omega, by omega, by rw [errI_s i0, i2]⟩
    | (rw [i2, show i.toNat = w.length by omega])
    | skip
theorem c_impl_meshErrors (m : GMine) (ss : List (List Int)) (r p fl : List Int) (h : sysO m r p fl) (hs : ss.length ≤ 24) (hw : ∀ k : Nat, k < ss.length → okWk m.airways.length (ss.getD k [])) (hL : m.airways.length ≤ 24) : FnSem Try.prog 101 [.p .any (LLI ss), Lx (LI r), Lx (LI p), Lx (LI fl)] [] (RetV (fun v : Nat × List Int => [.osl 0 0 v.1]) (fun v => [.row false .flat (eI 0) (v.2.map eI)]) (fun v => v.1 = ss.length ∧ v.2 = ss.map (errW r p fl))) := by
  refine FnSem.old ?_
  refine FnSem.walk (zs := zeroPV Try.prog) (by kernel_rfl) Try.func101 rfl Try.results101 (by kernel_rfl) (by kernel_rfl) (by kernel_rfl) fun hw hh => ?_
  obtain ⟨w0, w1, w2, w3, _⟩ := hw
  first | replace w0 := wf_LLI w0 | skip
  first | replace w1 := wf_LI w1 | skip
  first | replace w2 := wf_LI w2 | skip
  first | replace w3 := wf_LI w3 | skip
  repeat' first
    | refine And.intro rfl ?_
    | refine GdF.mk (fun h => h) ?_
    | refine And.intro (Nat.succ_ne_zero _) ?_
    | refine And.intro (Nat.le_of_ble_eq_true rfl) ?_
    | refine SeqF.run ?_
    | refine LoopF.at 3 rfl (LoopF.fix [1, 2, 3, 12, 13] (Int × Nat × List Int) (fun (i, n, es) => 0 ≤ i ∧ i ≤ ss.length ∧ n = es.length ∧ es = (ss.take i.toNat).map (errW r p fl) ∧ (n : Int) = i) (fun (i, n, es) => [(14, In i), (9, .osl 0 0 n)]) (fun (i, n, es) => [(0, .row true .flat (eI 0) (es.map eI))]) (fun (i, n, es) => ((ss.length - i).toNat)) ((0, 0, [])) ?_)
    | (refine LoopB.of (T := Int × Nat × List Int) ?_ ?_; rotate_left; rintro ⟨i, n, es⟩ ⟨i0, i1, i2, i3, i4⟩; rotate_left)
    | refine ArgF.is (c_impl_walkError m (ss.getD i.toNat []) r p fl h (hw i.toNat (by omega)) hL) ?_
    | refine ArgQ.is (fun hG => c_impl_walkError m (ss.getD i.toNat []) r p fl h (hw i.toNat (by omega)) hL) rfl rfl ?_
    | refine RetV.mk (α := Nat × List Int) (_, es) rfl rfl ?_
    | refine GhF.go ?_
    | refine MkF.row ?_
    | refine EqP.mk _ (gm eI 0 rfl) ?_
    | refine EqP.mk _ (gmb eLI [] (by omega)) ?_
    | refine BndF.mk (fun _ => by omega) ?_
    | refine BndF.mk (fun _ => by simp only [List.length_map, List.length_cons, List.length_nil, List.length_append, List.length_set, List.length_replicate, iotaI_len]; omega) ?_
    | refine EqI.mk _ (fun _ => wrapI (by omega) (by omega)) ?_
    | refine EqI.mk _ (fun _ => rfl) ?_
    | refine FlF.keep ?_
    | refine EqN.mk _ (ln eI) ?_
    | refine EqN.mk _ (ln eLI) ?_
    | refine EqN.mk _ (Nat.zero_add _) ?_
    | refine EqN.mk (_ + 1) rfl ?_
    | refine EqN.mk _ (Int.toNat_natCast _) ?_
    | refine EqN.mk _ rfl ?_
    | refine EqL.mk _ (sn0 eI) ?_
    | refine EqL.mk _ (sn eI (by first | rfl | assumption | omega | (simp only [List.length_map, List.length_cons, List.length_nil, List.length_append, List.length_set, List.length_replicate, iotaI_len]; done) | (simp only [List.length_map, List.length_cons, List.length_nil, List.length_append, List.length_set, List.length_replicate, iotaI_len]; omega))) ?_
    | refine EqL.mk _ (ap0 eI) ?_
    | refine EqL.mk _ (ap eI (by first | rfl | assumption | omega | (simp only [List.length_map, List.length_cons, List.length_nil, List.length_append, List.length_set, List.length_replicate, iotaI_len]; done) | (simp only [List.length_map, List.length_cons, List.length_nil, List.length_append, List.length_set, List.length_replicate, iotaI_len]; omega))) ?_
    | refine EqL.mk _ (tk eI (by first | rfl | assumption | omega | (simp only [List.length_map, List.length_cons, List.length_nil, List.length_append, List.length_set, List.length_replicate, iotaI_len]; done) | (simp only [List.length_map, List.length_cons, List.length_nil, List.length_append, List.length_set, List.length_replicate, iotaI_len]; omega))) ?_
    | refine EqL.mk _ (dt eI) ?_
    | refine EqL.mk _ (sn0 eLI) ?_
    | refine EqL.mk _ (sn eLI (by first | rfl | assumption | omega | (simp only [List.length_map, List.length_cons, List.length_nil, List.length_append, List.length_set, List.length_replicate, iotaI_len]; done) | (simp only [List.length_map, List.length_cons, List.length_nil, List.length_append, List.length_set, List.length_replicate, iotaI_len]; omega))) ?_
    | refine EqL.mk _ (ap0 eLI) ?_
    | refine EqL.mk _ (ap eLI (by first | rfl | assumption | omega | (simp only [List.length_map, List.length_cons, List.length_nil, List.length_append, List.length_set, List.length_replicate, iotaI_len]; done) | (simp only [List.length_map, List.length_cons, List.length_nil, List.length_append, List.length_set, List.length_replicate, iotaI_len]; omega))) ?_
    | refine EqL.mk _ (tk eLI (by first | rfl | assumption | omega | (simp only [List.length_map, List.length_cons, List.length_nil, List.length_append, List.length_set, List.length_replicate, iotaI_len]; done) | (simp only [List.length_map, List.length_cons, List.length_nil, List.length_append, List.length_set, List.length_replicate, iotaI_len]; omega))) ?_
    | refine EqL.mk _ (dt eLI) ?_
    | refine EqL.mk [] rfl ?_
    | refine EqL.mk [_] rfl ?_
    | refine EqL.mk _ rfl ?_
    | refine ArgF.is (c_impl_walkError ⟨_, _⟩ _ _ _ _ (by first | assumption | omega) (by first | assumption | omega) (by first | assumption | omega)) ?_
    | refine ArgQ.is (fun hG => c_impl_walkError ⟨_, _⟩ _ _ _ _ (by first | assumption | omega) (by first | assumption | omega) (by first | assumption | omega)) rfl rfl ?_
    | refine CallF.mk (CallW.is [] true rfl ?_)
    | refine CallG.mk ?_
    | (refine CondF.mk (fun hb => ?_) (fun hb => ?_) <;> try simp only [forall_const, eq_self, not_true_eq_false, not_false_eq_true, or_false, false_or, or_self, or_true, true_or, and_true, true_and, and_false, false_and, decide_true, decide_false, Bool.not_true, Bool.not_false, decide_eq_true_eq, decide_eq_false_iff_not, ite_and_p, ite_or_p, Bool.decide_eq_true, Bool.and_eq_true, Bool.or_eq_true, Bool.not_eq_true', Bool.not_eq_false', Bool.and_eq_false_imp, Bool.or_eq_false_iff, bne_iff_ne, beq_iff_eq, bne_eq_false_iff_eq, beq_eq_false_iff_ne, gt_iff_lt, ge_iff_le, Int.not_lt, Int.not_le, ne_eq, Bool.true_eq_false, Bool.false_eq_true, reduceCtorEq, eta_Airway, eta_Fan, eta_Mine] at hb)
    | apply BackF.auto3
    | refine BackB.mk ?_ ?_
    | refine RetF.auto (And.intro rfl ?_)
    | exact Is.mk rfl rfl
    | refine Is.mk ?_ rfl
    | refine Is.mk rfl ?_
    | refine Is.mk ?_ ?_
  all_goals try dsimp only
  all_goals first
    | omega
    | exact ⟨by omega, by omega, rfl, rfl, rfl⟩
    | (have hi2 : i.toNat < ss.length := by omega
       refine ⟨by omega, by omega, by simp [i2], ?_, by omega⟩
       rw [i3, show (i + 1).toNat = i.toNat + 1 by omega, List.take_succ_eq_append_getElem hi2, List.map_append, List.getD_eq_getElem?_getD, List.getElem?_eq_getElem hi2]; rfl)
    | (refine ⟨by omega, ?_⟩; rw [i3, show i.toNat = ss.length by omega, List.take_length])
    | skip
end Go.Proofs.Ytfcnlpghdpfjkaa

