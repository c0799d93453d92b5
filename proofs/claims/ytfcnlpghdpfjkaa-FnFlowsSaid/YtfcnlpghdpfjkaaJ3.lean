/- Contracts of functions of the program, and what they compute. Conditions: those that each theorem states. -/
import Derived.Test.YtfcnlpghdpfjkaaProg
import Derived.Test.YtfcnlpghdpfjkaaJ2
import Derived.Test.YtfcnlpghdpfjkaaH0
import Derived.Test.YtfcnlpghdpfjkaaK20
set_option linter.unusedVariables false
set_option linter.unusedSimpArgs false
namespace Go.Proofs.Ytfcnlpghdpfjkaa
open Go.Av
attribute [local irreducible] Go.IntKind.wrap leastI rdZ rd rootI okMine treeC mshC
set_option maxRecDepth 20000
set_option maxHeartbeats 16000000

/-! Flows along walks: the program. -/
def lsO (m : GMine) (xs : List Int) (a b : Int) : Bool := decide (xs.length = m.airways.length) && xs.all (inR · a b)
theorem lsO_t {m : GMine} {xs : List Int} {a b : Int} (hl : xs.length = m.airways.length) (h : ∀ k : Nat, k < xs.length → a ≤ xs.getD k 0 ∧ xs.getD k 0 ≤ b) : lsO m xs a b = true := by
  unfold lsO
  rw [decide_eq_true hl, Bool.true_and, List.all_eq_true]
  intro x hx
  obtain ⟨k, hk, rfl⟩ := List.getElem_of_mem hx
  have := h k hk
  rw [List.getD_eq_getElem?_getD, List.getElem?_eq_getElem hk] at this
  exact inR_iff.2 this
theorem lsO_p {m : GMine} {xs : List Int} {a b : Int} (h : lsO m xs a b = true) : xs.length = m.airways.length ∧ ∀ k : Nat, k < xs.length → a ≤ xs.getD k 0 ∧ xs.getD k 0 ≤ b := by
  unfold lsO at h
  rw [Bool.and_eq_true, decide_eq_true_eq, List.all_eq_true] at h
  exact ⟨h.1, fun k hk => inR_iff.1 (h.2 _ (getD_mem hk))⟩
--@fn (impl.Mine).hasList
theorem hasL (m : GMine) (xs : List Int) (a b : Int) : FnSem Try.prog 102 [.p .any (.agg m.cells), Lx (LI xs), In a, In b] [] (Is [Bo (lsO m xs a b)] []) := by
  refine FnSem.walk (zs := zeroPV Try.prog) (by kernel_rfl) Try.func102 rfl Try.results102 (by kernel_rfl) (by kernel_rfl) (by kernel_rfl) fun hw hh => ?_
  obtain ⟨w0, w1, w2, w3, _⟩ := hw
  first | replace w0 := wf_Mine w0 | skip
  first | replace w1 := wf_LI w1 | skip
  first | replace w2 := wf_I w2 | skip
  first | replace w3 := wf_I w3 | skip
  repeat' first
    | refine And.intro rfl ?_
    | refine GdF.mk (fun h => h) ?_
    | refine And.intro (Nat.succ_ne_zero _) ?_
    | refine And.intro (Nat.le_of_ble_eq_true rfl) ?_
    | refine SeqF.run ?_
    | refine GhF.go ?_
    | refine GdS.keep ?_
    | refine BndF.mk (fun _ => by omega) ?_
    | refine BndF.mk (fun _ => by simp only [List.length_map, List.length_cons, List.length_nil, List.length_append, List.length_set, List.length_replicate, iotaI_len]; omega) ?_
    | refine BndF.mk (fun hG => by simp only [forall_const, eq_self, not_true_eq_false, not_false_eq_true, or_false, false_or, or_self, or_true, true_or, and_true, true_and, and_false, false_and, decide_true, decide_false, Bool.not_true, Bool.not_false, decide_eq_true_eq, decide_eq_false_iff_not, ite_and_p, ite_or_p, Bool.decide_eq_true, Bool.and_eq_true, Bool.or_eq_true, Bool.not_eq_true', Bool.not_eq_false', Bool.and_eq_false_imp, Bool.or_eq_false_iff, bne_iff_ne, beq_iff_eq, bne_eq_false_iff_eq, beq_eq_false_iff_ne, gt_iff_lt, ge_iff_le, Int.not_lt, Int.not_le, ne_eq, Bool.true_eq_false, Bool.false_eq_true, reduceCtorEq, eta_Airway, eta_Fan, eta_Mine, bytes_nil] at hG; (try simp only [List.length_map]); omega) ?_
    | refine EqN.mk _ (ln eI) ?_
    | refine EqN.mk _ (ln GAirway.cells) ?_
    | refine EqL.mk _ (tk eI (by first | rfl | assumption | omega | (simp only [List.length_map, List.length_cons, List.length_nil, List.length_append, List.length_set, List.length_replicate, iotaI_len]; done) | (simp only [List.length_map, List.length_cons, List.length_nil, List.length_append, List.length_set, List.length_replicate, iotaI_len]; omega))) ?_
    | refine EqL.mk _ (tk GAirway.cells (by first | rfl | assumption | omega | (simp only [List.length_map, List.length_cons, List.length_nil, List.length_append, List.length_set, List.length_replicate, iotaI_len]; done) | (simp only [List.length_map, List.length_cons, List.length_nil, List.length_append, List.length_set, List.length_replicate, iotaI_len]; omega))) ?_
    | refine EqL.mk [] rfl ?_
    | refine EqL.mk [_] rfl ?_
    | refine EqL.mk _ rfl ?_
    | refine ArgF.is (c_impl_allWithin ..) ?_
    | refine ArgQ.is (fun hG => c_impl_allWithin ..) rfl rfl ?_
    | refine CallF.mk (CallW.is [] true rfl ?_)
    | refine CallG.mk ?_
    | (refine CondF.mk (fun hb => ?_) (fun hb => ?_) <;> try simp only [forall_const, eq_self, not_true_eq_false, not_false_eq_true, or_false, false_or, or_self, or_true, true_or, and_true, true_and, and_false, false_and, decide_true, decide_false, Bool.not_true, Bool.not_false, decide_eq_true_eq, decide_eq_false_iff_not, ite_and_p, ite_or_p, Bool.decide_eq_true, Bool.and_eq_true, Bool.or_eq_true, Bool.not_eq_true', Bool.not_eq_false', Bool.and_eq_false_imp, Bool.or_eq_false_iff, bne_iff_ne, beq_iff_eq, bne_eq_false_iff_eq, beq_eq_false_iff_ne, gt_iff_lt, ge_iff_le, Int.not_lt, Int.not_le, ne_eq, Bool.true_eq_false, Bool.false_eq_true, reduceCtorEq, eta_Airway, eta_Fan, eta_Mine] at hb)
    | refine RetF.auto (And.intro rfl ?_)
    | exact Is.mk rfl rfl
    | refine Is.mk ?_ rfl
    | refine Is.mk rfl ?_
    | refine Is.mk ?_ ?_
  all_goals try dsimp only
  all_goals try simp only [Bo, I, OB.row.injEq, AV.osl.injEq, eI_same,  List.cons.injEq, AV.p.injEq, PV.c.injEq, Value.int.injEq, Value.bool.injEq, and_true, true_and, ite_and_p, ite_or_p, Bool.decide_eq_true, eta_Airway, eta_Fan, eta_Mine, lsO]
  · congr 1; rw [Bool.eq_iff_iff]; simp; omega
--@fn (impl.Mine).hasFlows
theorem hasF (m : GMine) (xs : List Int) : FnSem Try.prog 94 [.p .any (.agg m.cells), Lx (LI xs)] [] (Is [Bo (lsO m xs (-100000) 100000)] []) := by
  refine FnSem.walk (zs := zeroPV Try.prog) (by kernel_rfl) Try.func94 rfl Try.results94 (by kernel_rfl) (by kernel_rfl) (by kernel_rfl) fun hw hh => ?_
  obtain ⟨w0, w1, _⟩ := hw
  first | replace w0 := wf_Mine w0 | skip
  first | replace w1 := wf_LI w1 | skip
  repeat' first
    | refine And.intro rfl ?_
    | refine GdF.mk (fun h => h) ?_
    | refine And.intro (Nat.succ_ne_zero _) ?_
    | refine And.intro (Nat.le_of_ble_eq_true rfl) ?_
    | refine SeqF.run ?_
    | refine ArgF.is (hasL m xs (-100000) 100000) ?_
    | refine ArgQ.is (fun hG => hasL m xs (-100000) 100000) rfl rfl ?_
    | refine GhF.go ?_
    | refine BndF.mk (fun _ => by omega) ?_
    | refine BndF.mk (fun _ => by simp only [List.length_map, List.length_cons, List.length_nil, List.length_append, List.length_set, List.length_replicate, iotaI_len]; omega) ?_
    | refine EqL.mk _ (tk eI (by first | rfl | assumption | omega | (simp only [List.length_map, List.length_cons, List.length_nil, List.length_append, List.length_set, List.length_replicate, iotaI_len]; done) | (simp only [List.length_map, List.length_cons, List.length_nil, List.length_append, List.length_set, List.length_replicate, iotaI_len]; omega))) ?_
    | refine EqL.mk [] rfl ?_
    | refine EqL.mk [_] rfl ?_
    | refine EqL.mk _ rfl ?_
    | refine ArgF.is (c_impl_Mine_hasList ⟨_, _⟩ _ _ _) ?_
    | refine ArgQ.is (fun hG => c_impl_Mine_hasList ⟨_, _⟩ _ _ _) rfl rfl ?_
    | refine CallF.mk (CallW.is [] true rfl ?_)
    | refine CallG.mk ?_
    | (refine CondF.mk (fun hb => ?_) (fun hb => ?_) <;> try simp only [forall_const, eq_self, not_true_eq_false, not_false_eq_true, or_false, false_or, or_self, or_true, true_or, and_true, true_and, and_false, false_and, decide_true, decide_false, Bool.not_true, Bool.not_false, decide_eq_true_eq, decide_eq_false_iff_not, ite_and_p, ite_or_p, Bool.decide_eq_true, Bool.and_eq_true, Bool.or_eq_true, Bool.not_eq_true', Bool.not_eq_false', Bool.and_eq_false_imp, Bool.or_eq_false_iff, bne_iff_ne, beq_iff_eq, bne_eq_false_iff_eq, beq_eq_false_iff_ne, gt_iff_lt, ge_iff_le, Int.not_lt, Int.not_le, ne_eq, Bool.true_eq_false, Bool.false_eq_true, reduceCtorEq, eta_Airway, eta_Fan, eta_Mine] at hb)
    | refine RetF.auto (And.intro rfl ?_)
    | exact Is.mk rfl rfl
    | refine Is.mk ?_ rfl
    | refine Is.mk rfl ?_
    | refine Is.mk ?_ ?_
  all_goals try dsimp only
  all_goals try simp only [Bo, I, OB.row.injEq, AV.osl.injEq, eI_same,  List.cons.injEq, AV.p.injEq, PV.c.injEq, Value.int.injEq, Value.bool.injEq, and_true, true_and, ite_and_p, ite_or_p, Bool.decide_eq_true, eta_Airway, eta_Fan, eta_Mine, lsO]
  all_goals skip
theorem c_impl_airwayOf (n : Int) (h : -1000000 ≤ n ∧ n ≤ 1000000) : FnSem Try.prog 153 [In n] [] (Is [In (absI n - 1), In (sgW n)] []) := by
  refine FnSem.walk (zs := zeroPV Try.prog) (by kernel_rfl) Try.func153 rfl Try.results153 (by kernel_rfl) (by kernel_rfl) (by kernel_rfl) fun hw hh => ?_
  obtain ⟨w0, _⟩ := hw
  first | replace w0 := wf_I w0 | skip
  repeat' first
    | refine And.intro rfl ?_
    | refine GdF.mk (fun h => h) ?_
    | refine And.intro (Nat.succ_ne_zero _) ?_
    | refine And.intro (Nat.le_of_ble_eq_true rfl) ?_
    | refine SeqF.run ?_
    | refine GhF.go ?_
    | refine EqI.mk _ (fun _ => wrapI (by omega) (by omega)) ?_
    | refine EqI.mk _ (fun _ => rfl) ?_
    | (refine CondF.mk (fun hb => ?_) (fun hb => ?_) <;> try simp only [forall_const, eq_self, not_true_eq_false, not_false_eq_true, or_false, false_or, or_self, or_true, true_or, and_true, true_and, and_false, false_and, decide_true, decide_false, Bool.not_true, Bool.not_false, decide_eq_true_eq, decide_eq_false_iff_not, ite_and_p, ite_or_p, Bool.decide_eq_true, Bool.and_eq_true, Bool.or_eq_true, Bool.not_eq_true', Bool.not_eq_false', Bool.and_eq_false_imp, Bool.or_eq_false_iff, bne_iff_ne, beq_iff_eq, bne_eq_false_iff_eq, beq_eq_false_iff_ne, gt_iff_lt, ge_iff_le, Int.not_lt, Int.not_le, ne_eq, Bool.true_eq_false, Bool.false_eq_true, reduceCtorEq, eta_Airway, eta_Fan, eta_Mine] at hb)
    | refine RetF.auto (And.intro rfl ?_)
    | exact Is.mk rfl rfl
    | refine Is.mk ?_ rfl
    | refine Is.mk rfl ?_
    | refine Is.mk ?_ ?_
  all_goals try dsimp only
  · rw [show absI n - 1 = n - 1 by unfold absI; omega, show sgW n = 1 from if_pos (by omega)]
  · rw [show absI n - 1 = 0 - n - 1 by unfold absI; omega, show sgW n = -1 from if_neg (by omega)]
theorem sg_b {n a A : Int} (h : -A ≤ a ∧ a ≤ A) : -A ≤ sgW n * a ∧ sgW n * a ≤ A := by
  unfold sgW; split <;> omega
/-- a walk whose airways are there -/
def okWk (L : Nat) (w : List Int) : Prop := w.length ≤ 64 ∧ ∀ k : Nat, k < w.length → 1 ≤ absI (w.getD k 0) ∧ absI (w.getD k 0) ≤ L
theorem absI_bd {x B : Int} (h : absI x ≤ B) : -B ≤ x ∧ x ≤ B := by unfold absI at h; omega
theorem okWk_i {L : Nat} {w : List Int} {i : Int} (h : okWk L w) (h0 : 0 ≤ i) (hi : i < w.length) : (1 ≤ absI (w.getD i.toNat 0) ∧ absI (w.getD i.toNat 0) ≤ L) ∧ -(L : Int) ≤ w.getD i.toNat 0 ∧ w.getD i.toNat 0 ≤ L := by
  have := h.2 i.toNat (by omega)
  exact ⟨this, absI_bd this.2⟩
theorem addW_bi {a B A : Int} {i : Int} {w fl : List Int} (hA : -A ≤ a ∧ a ≤ A) (hA0 : 0 ≤ A) (hw : w.length ≤ 64) (hf : ∀ k : Nat, -B ≤ fl.getD k 0 ∧ fl.getD k 0 ≤ B) (k : Nat) : -(B + 64 * A) ≤ (addW fl (w.take i.toNat) a).getD k 0 ∧ (addW fl (w.take i.toNat) a).getD k 0 ≤ B + 64 * A := by
  have h1 := addW_b hA (w.take i.toNat) fl hf k
  have h2 : ((w.take i.toNat).length : Int) * A ≤ 64 * A := Int.mul_le_mul_of_nonneg_right (by rw [List.length_take]; omega) hA0
  omega
theorem c_impl_addAlong (n : Nat) (fl w : List Int) (a : Int) (hn : n = fl.length) (hl : fl.length ≤ 1000) (hw : okWk fl.length w) (hf : ∀ k : Nat, -100000000 ≤ fl.getD k 0 ∧ fl.getD k 0 ≤ 100000000) (ha : -1000000 ≤ a ∧ a ≤ 1000000) : FnSem Try.prog 93 [.osl 0 0 n, Lx (LI w), In a] [.row false .flat (eI 0) (fl.map eI)] (Is [] [.row false .flat (eI 0) ((addW fl w a).map eI)]) := by
  have hB := fun (i : Int) (g : List Int) (h : g = addW fl (w.take i.toNat) a) (k : Nat) => h ▸ addW_bi (i := i) ha (by omega) hw.1 hf k
  refine FnSem.walk (zs := zeroPV Try.prog) (by kernel_rfl) Try.func93 rfl Try.results93 (by kernel_rfl) (by kernel_rfl) (by kernel_rfl) fun hw hh => ?_
  obtain ⟨w0, w1, w2, _⟩ := hw
  first | replace w0 := wf_LI w0 | skip
  first | replace w1 := wf_LI w1 | skip
  first | replace w2 := wf_I w2 | skip
  repeat' first
    | refine And.intro rfl ?_
    | refine GdF.mk (fun h => h) ?_
    | refine And.intro (Nat.succ_ne_zero _) ?_
    | refine And.intro (Nat.le_of_ble_eq_true rfl) ?_
    | refine SeqF.run ?_
    | refine LoopF.at 1 rfl (LoopF.fix [0, 2, 10, 11] (Int × List Int) (fun (i, g) => 0 ≤ i ∧ i ≤ w.length ∧ g = addW fl (w.take i.toNat) a ∧ g.length = fl.length) (fun (i, g) => [(12, In i)]) (fun (i, g) => [(0, .row false .flat (eI 0) (g.map eI))]) (fun (i, g) => ((w.length - i).toNat)) ((0, fl)) ?_)
    | (refine LoopB.of (T := Int × List Int) ?_ ?_; rotate_left; rintro ⟨i, g⟩ ⟨i0, i1, i2, i3⟩; rotate_left)
    | refine ArgF.is (c_impl_airwayOf (w.getD i.toNat 0) (by have q := okWk_i hw i0 (by assumption); omega)) ?_
    | refine ArgQ.is (fun hG => c_impl_airwayOf (w.getD i.toNat 0) (by have q := okWk_i hw i0 (by assumption); omega)) rfl rfl ?_
    | refine BndF.mk (fun _ => by have q := okWk_i hw i0 (by assumption); first | omega | (simp only [List.length_map]; omega)) ?_
    | refine EqI.mk _ (fun _ => by have q := sg_b (n := w.getD i.toNat 0) ha; have q2 := hB i g i2 (absI (w.getD i.toNat 0) - 1).toNat; exact wrapI (by omega) (by omega)) ?_
    | refine GhF.go ?_
    | refine EqP.mk _ (gm eI 0 rfl) ?_
    | refine BndF.mk (fun _ => by omega) ?_
    | refine BndF.mk (fun _ => by simp only [List.length_map, List.length_cons, List.length_nil, List.length_append, List.length_set, List.length_replicate, iotaI_len]; omega) ?_
    | refine EqI.mk _ (fun _ => wrapI (by omega) (by omega)) ?_
    | refine EqI.mk _ (fun _ => rfl) ?_
    | refine EqN.mk _ (ln eI) ?_
    | refine EqN.mk _ (Nat.zero_add _) ?_
    | refine EqN.mk _ (Int.toNat_natCast _) ?_
    | refine EqN.mk _ rfl ?_
    | refine EqL.mk _ (tk eI (by first | rfl | assumption | omega | (simp only [List.length_map, List.length_cons, List.length_nil, List.length_append, List.length_set, List.length_replicate, iotaI_len]; done) | (simp only [List.length_map, List.length_cons, List.length_nil, List.length_append, List.length_set, List.length_replicate, iotaI_len]; omega))) ?_
    | refine EqL.mk _ (st eI) ?_
    | refine EqL.mk [] rfl ?_
    | refine EqL.mk [_] rfl ?_
    | refine EqL.mk _ rfl ?_
    | refine ArgF.is (c_impl_airwayOf _ (by first | assumption | omega)) ?_
    | refine ArgQ.is (fun hG => c_impl_airwayOf _ (by first | assumption | omega)) rfl rfl ?_
    | refine CallF.mk (CallW.is [] true rfl ?_)
    | refine CallG.mk ?_
    | (refine CondF.mk (fun hb => ?_) (fun hb => ?_) <;> try simp only [forall_const, eq_self, not_true_eq_false, not_false_eq_true, or_false, false_or, or_self, or_true, true_or, and_true, true_and, and_false, false_and, decide_true, decide_false, Bool.not_true, Bool.not_false, decide_eq_true_eq, decide_eq_false_iff_not, ite_and_p, ite_or_p, Bool.decide_eq_true, Bool.and_eq_true, Bool.or_eq_true, Bool.not_eq_true', Bool.not_eq_false', Bool.and_eq_false_imp, Bool.or_eq_false_iff, bne_iff_ne, beq_iff_eq, bne_eq_false_iff_eq, beq_eq_false_iff_ne, gt_iff_lt, ge_iff_le, Int.not_lt, Int.not_le, ne_eq, Bool.true_eq_false, Bool.false_eq_true, reduceCtorEq, eta_Airway, eta_Fan, eta_Mine] at hb)
    | apply BackF.auto2
    | refine BackB.mk ?_ ?_
    | refine RetF.auto (And.intro rfl ?_)
    | exact Is.mk rfl rfl
    | refine Is.mk ?_ rfl
    | refine Is.mk rfl ?_
    | refine Is.mk ?_ ?_
  all_goals try dsimp only
  all_goals first
    | omega
    | exact ⟨by omega, by omega, rfl, rfl⟩
    | exact ⟨by omega, by omega, by rw [i2]; exact (addW_s i0 (by assumption)).symm, by rw [List.length_set]; exact i3⟩
    | (rw [i2, show i.toNat = w.length by omega, List.take_length]; rfl)
    | skip
end Go.Proofs.Ytfcnlpghdpfjkaa

