/- Contracts of functions of the program, and what they compute. Conditions: those that each theorem states. -/
import Derived.Test.YtfcnlpghdpfjkaaProg
import Derived.Test.YtfcnlpghdpfjkaaB9
import Derived.Test.YtfcnlpghdpfjkaaJ3
set_option linter.unusedVariables false
set_option linter.unusedSimpArgs false
namespace Go.Proofs.Ytfcnlpghdpfjkaa
open Go.Av
attribute [local irreducible] Go.IntKind.wrap leastI rdZ rd rootI okMine treeC mshC okAw
set_option maxRecDepth 20000
set_option maxHeartbeats 16000000

/-! The reference's meshes; what is drawn for a mine. -/
theorem c_spec_l04Junction (m : GMine) (n : Int) (hj : 0 ≤ m.junctions ∧ m.junctions ≤ 1000) : FnSem Try.prog 148 [.p .any (.ref m.cells), In n] [] (Is [Bo (inJ m.junctions n)] []) := by
  refine FnSem.walk (zs := zeroPV Try.prog) (by kernel_rfl) Try.func148 rfl Try.results148 (by kernel_rfl) (by kernel_rfl) (by kernel_rfl) fun hw hh => ?_
  obtain ⟨w0, w1, _⟩ := hw
  first | replace w0 := wfr_Mine w0 | skip
  first | replace w1 := wf_I w1 | skip
  repeat' first
    | refine And.intro rfl ?_
    | refine GdF.mk (fun h => h) ?_
    | refine And.intro (Nat.succ_ne_zero _) ?_
    | refine And.intro (Nat.le_of_ble_eq_true rfl) ?_
    | refine SeqF.run ?_
    | refine GhF.go ?_
    | refine BndF.mk (fun _ => by omega) ?_
    | refine BndF.mk (fun _ => by simp only [List.length_map, List.length_cons, List.length_nil, List.length_append, List.length_set, List.length_replicate, iotaI_len]; omega) ?_
    | refine EqI.mk _ (fun _ => wrapI (by omega) (by omega)) ?_
    | refine EqI.mk _ (fun _ => rfl) ?_
    | refine EqL.mk [] rfl ?_
    | refine EqL.mk [_] rfl ?_
    | refine EqL.mk _ rfl ?_
    | refine ArgF.is (c_spec_l00In ..) ?_
    | refine ArgQ.is (fun hG => c_spec_l00In ..) rfl rfl ?_
    | refine CallF.mk (CallW.is [] true rfl ?_)
    | refine CallG.mk ?_
    | (refine CondF.mk (fun hb => ?_) (fun hb => ?_) <;> try simp only [forall_const, eq_self, not_true_eq_false, not_false_eq_true, or_false, false_or, or_self, or_true, true_or, and_true, true_and, and_false, false_and, decide_true, decide_false, Bool.not_true, Bool.not_false, decide_eq_true_eq, decide_eq_false_iff_not, ite_and_p, ite_or_p, Bool.decide_eq_true, Bool.and_eq_true, Bool.or_eq_true, Bool.not_eq_true', Bool.not_eq_false', Bool.and_eq_false_imp, Bool.or_eq_false_iff, bne_iff_ne, beq_iff_eq, bne_eq_false_iff_eq, beq_eq_false_iff_ne, gt_iff_lt, ge_iff_le, Int.not_lt, Int.not_le, ne_eq, Bool.true_eq_false, Bool.false_eq_true, reduceCtorEq, eta_Airway, eta_Fan, eta_Mine] at hb)
    | refine RetF.auto (And.intro rfl ?_)
    | exact Is.mk rfl rfl
    | refine Is.mk ?_ rfl
    | refine Is.mk rfl ?_
    | refine Is.mk ?_ ?_
  all_goals try dsimp only
  all_goals try simp only [Bo, I, OB.row.injEq, AV.osl.injEq, eI_same,  List.cons.injEq, AV.p.injEq, PV.c.injEq, Value.int.injEq, Value.bool.injEq, and_true, true_and, ite_and_p, ite_or_p, Bool.decide_eq_true, eta_Airway, eta_Fan, eta_Mine, inJ]
theorem c_spec_l04Ok (m : GMine) : FnSem Try.prog 81 [.p .any (.ref m.cells)] [] (Is [Bo (okMine m)] []) := by
  refine FnSem.walk (zs := zeroPV Try.prog) (by kernel_rfl) Try.func81 rfl Try.results81 (by kernel_rfl) (by kernel_rfl) (by kernel_rfl) fun hw hh => ?_
  obtain ⟨w0, _⟩ := hw
  first | replace w0 := wfr_Mine w0 | skip
  have hwl := w0.2.1
  repeat' first
    | refine And.intro rfl ?_
    | refine GdF.mk (fun h => h) ?_
    | refine And.intro (Nat.succ_ne_zero _) ?_
    | refine And.intro (Nat.le_of_ble_eq_true rfl) ?_
    | refine SeqF.run ?_
    | refine ArgF.is (c_spec_l04Junction m _ (by assumption)) ?_
    | refine ArgQ.is (fun hG => c_spec_l04Junction m _ (by assumption)) rfl rfl ?_
    | refine ArgF.is (c_spec_l03Ok (m.airways.getD i.toNat default)) ?_
    | refine ArgQ.is (fun hG => c_spec_l03Ok (m.airways.getD i.toNat default)) rfl rfl ?_
    | refine LoopF.at 4 rfl (LoopF.fix [0] (Int) (fun i => 0 ≤ i ∧ i ≤ m.airways.length ∧ (0 ≤ m.junctions ∧ m.junctions ≤ 1000) ∧ inR m.junctions 1 16 = true ∧ okTo (okAw m.junctions) (fun a b => sLt a.id b.id) default m.airways i) (fun i => [(3, In i)]) (fun i => []) (fun i => ((m.airways.length - i).toNat)) (0) ?_)
    | (refine LoopB.of (T := Int) ?_ ?_; rotate_left; rintro i ⟨h0, h1, h3, h4, h5⟩; rotate_left)
    | refine GhF.go ?_
    | refine GdS.keep ?_
    | refine DrawG.old (DrawF.lex (by decide +kernel) ?_)
    | refine EqP.mk _ (gm GAirway.cells default rfl) ?_
    | refine BndF.mk (fun _ => by omega) ?_
    | refine BndF.mk (fun _ => by simp only [List.length_map, List.length_cons, List.length_nil, List.length_append, List.length_set, List.length_replicate, iotaI_len]; omega) ?_
    | refine BndF.mk (fun hG => by simp only [forall_const, eq_self, not_true_eq_false, not_false_eq_true, or_false, false_or, or_self, or_true, true_or, and_true, true_and, and_false, false_and, decide_true, decide_false, Bool.not_true, Bool.not_false, decide_eq_true_eq, decide_eq_false_iff_not, ite_and_p, ite_or_p, Bool.decide_eq_true, Bool.and_eq_true, Bool.or_eq_true, Bool.not_eq_true', Bool.not_eq_false', Bool.and_eq_false_imp, Bool.or_eq_false_iff, bne_iff_ne, beq_iff_eq, bne_eq_false_iff_eq, beq_eq_false_iff_ne, gt_iff_lt, ge_iff_le, Int.not_lt, Int.not_le, ne_eq, Bool.true_eq_false, Bool.false_eq_true, reduceCtorEq, eta_Airway, eta_Fan, eta_Mine, bytes_nil] at hG; (try simp only [List.length_map]); omega) ?_
    | refine EqI.mk _ (fun _ => wrapI (by omega) (by omega)) ?_
    | refine EqI.mk _ (fun _ => rfl) ?_
    | refine EqN.mk _ (ln GAirway.cells) ?_
    | refine EqN.mk _ (Nat.zero_add _) ?_
    | refine EqN.mk _ (Int.toNat_natCast _) ?_
    | refine EqN.mk _ rfl ?_
    | refine EqL.mk _ (tk GAirway.cells (by first | rfl | assumption | omega | (simp only [List.length_map, List.length_cons, List.length_nil, List.length_append, List.length_set, List.length_replicate, iotaI_len]; done) | (simp only [List.length_map, List.length_cons, List.length_nil, List.length_append, List.length_set, List.length_replicate, iotaI_len]; omega))) ?_
    | refine EqL.mk [] rfl ?_
    | refine EqL.mk [_] rfl ?_
    | refine EqL.mk _ rfl ?_
    | refine ArgF.is (c_spec_l00In ..) ?_
    | refine ArgQ.is (fun hG => c_spec_l00In ..) rfl rfl ?_
    | refine ArgF.is (c_spec_l03Ok ⟨_, _, _, _, _, _, _⟩) ?_
    | refine ArgQ.is (fun hG => c_spec_l03Ok ⟨_, _, _, _, _, _, _⟩) rfl rfl ?_
    | refine ArgF.is (c_spec_l04Junction ⟨_, _⟩ _ (by first | assumption | omega)) ?_
    | refine ArgQ.is (fun hG => c_spec_l04Junction ⟨_, _⟩ _ (by first | assumption | omega)) rfl rfl ?_
    | refine ArgQ.is (fun hG => c_spec_l04Junction ⟨_, _⟩ _ (by simp only [forall_const, eq_self, not_true_eq_false, not_false_eq_true, or_false, false_or, or_self, or_true, true_or, and_true, true_and, and_false, false_and, decide_true, decide_false, Bool.not_true, Bool.not_false, decide_eq_true_eq, decide_eq_false_iff_not, ite_and_p, ite_or_p, Bool.decide_eq_true, Bool.and_eq_true, Bool.or_eq_true, Bool.not_eq_true', Bool.not_eq_false', Bool.and_eq_false_imp, Bool.or_eq_false_iff, bne_iff_ne, beq_iff_eq, bne_eq_false_iff_eq, beq_eq_false_iff_ne, gt_iff_lt, ge_iff_le, Int.not_lt, Int.not_le, ne_eq, Bool.true_eq_false, Bool.false_eq_true, reduceCtorEq, eta_Airway, eta_Fan, eta_Mine, bytes_nil] at hG; omega)) rfl rfl ?_
    | refine CallF.mk (CallW.is [] true rfl ?_)
    | refine CallG.mk ?_
    | (refine CondF.mk (fun hb => ?_) (fun hb => ?_) <;> try simp only [forall_const, eq_self, not_true_eq_false, not_false_eq_true, or_false, false_or, or_self, or_true, true_or, and_true, true_and, and_false, false_and, decide_true, decide_false, Bool.not_true, Bool.not_false, decide_eq_true_eq, decide_eq_false_iff_not, ite_and_p, ite_or_p, Bool.decide_eq_true, Bool.and_eq_true, Bool.or_eq_true, Bool.not_eq_true', Bool.not_eq_false', Bool.and_eq_false_imp, Bool.or_eq_false_iff, bne_iff_ne, beq_iff_eq, bne_eq_false_iff_eq, beq_eq_false_iff_ne, gt_iff_lt, ge_iff_le, Int.not_lt, Int.not_le, ne_eq, Bool.true_eq_false, Bool.false_eq_true, reduceCtorEq, eta_Airway, eta_Fan, eta_Mine] at hb)
    | apply BackF.auto
    | refine BackB.mk ?_ ?_
    | refine RetF.auto (And.intro rfl ?_)
    | exact Is.mk rfl rfl
    | refine Is.mk ?_ rfl
    | refine Is.mk rfl ?_
    | refine Is.mk ?_ ?_
  all_goals try dsimp only
  all_goals try simp only [Bo, I, OB.row.injEq, AV.osl.injEq, eI_same,  List.cons.injEq, AV.p.injEq, PV.c.injEq, Value.int.injEq, Value.bool.injEq, and_true, true_and, ite_and_p, ite_or_p, Bool.decide_eq_true, eta_Airway, eta_Fan, eta_Mine]
  · unfold okMine; rw [hb]; rfl
  · have := inR_iff.1 hb; exact ⟨by omega, by omega, by omega, hb, okTo_0⟩
  · unfold okMine
    rw [okAll_f h0 (by omega) (d := default), Bool.and_false]
    rcases hb with hb | hb
    · left; unfold okAw endsA; rcases hb with (hb | hb) | hb <;> rw [hb] <;> simp
    · right; exact hb
  · refine ⟨by omega, by omega, h3, h4, okTo_s h0 h5 ?_ (fun h => hb.2 h)⟩
    have h6 := hb.1
    simp only [not_or, Bool.not_eq_false] at h6
    unfold okAw endsA
    rw [h6.1.1, h6.1.2, h6.2]; rfl
  · omega
  · unfold okMine
    rw [okAll_t (by omega) h5, h4]
    rw [Bool.true_and, Bool.and_true]; congr 1; rw [eq_iff_iff]; omega
--@fn spec.l04Ok
theorem okT (m : GMine) (hm : okMine m = true) : FnSem Try.prog 81 [.p .any (.ref m.cells)] [] (Is [Bo true] []) := by
  have := c_spec_l04Ok m
  rwa [hm] at this
--@fn impl.ValidMine
theorem vmT (m : GMine) (hm : okMine m = true) : FnSem Try.prog 79 [.p .any (.agg m.cells)] [] (Is [Bo true] []) := by
  have := c_impl_ValidMine m
  rwa [hm] at this
/-- flows that are balanced -/
structure blF (m : GMine) (fl : List Int) (B : Int) : Prop where
  ln : fl.length = m.airways.length
  bd : ∀ k : Nat, -B ≤ fl.getD k 0 ∧ fl.getD k 0 ≤ B
  im : ∀ j : Int, imbA m fl j = 0
theorem blF_0 {m : GMine} : blF m (List.replicate m.airways.length 0) 0 := by
  have h : ∀ k : Nat, -0 ≤ (List.replicate m.airways.length (0 : Int)).getD k 0 ∧ (List.replicate m.airways.length (0 : Int)).getD k 0 ≤ 0 := fun k => by
    rw [List.getD_eq_getElem?_getD, List.getElem?_replicate]
    split <;> simp
  refine ⟨by simp, h, fun j => ?_⟩
  have := imbI_b (m := m) (j := j) (Int.le_refl 0) h m.airways.length
  unfold imbA
  omega
theorem blF_a {m : GMine} (hm : okMine m = true) {fl w : List Int} {B A a : Int} (h : blF m fl B) (hw : mshG m w) (ha : -A ≤ a ∧ a ≤ A) : blF m (addW fl w a) (B + A) := by
  refine ⟨by rw [addW_len]; exact h.ln, fun k => ?_, fun j => by rw [imb_msh hm h.ln hw]; exact h.im j⟩
  have h1 := addW_1 ha w fl k (fun x hx => by
    obtain ⟨q, hq, rfl⟩ := List.getElem_of_mem hx
    have := (hw.ix q hq).1
    rwa [List.getD_eq_getElem?_getD, List.getElem?_eq_getElem hq] at this) hw.nd
  have h2 := h.bd k
  omega
theorem blF_le {m : GMine} {fl : List Int} {B C : Int} (h : blF m fl B) (hc : B ≤ C) : blF m fl C := ⟨h.ln, fun k => by have := h.bd k; omega, h.im⟩
theorem mshG.ok {m : GMine} {w : List Int} (h : mshG m w) : okWk m.airways.length w := ⟨by have := h.p.ln; omega, h.ix⟩
theorem blF.lo {m : GMine} {fl : List Int} (h : blF m fl 100000) : lsO m fl (-100000) 100000 = true := lsO_t h.ln fun k _ => h.bd k
theorem c_spec_l07Add (n : Nat) (fl w : List Int) (a : Int) (hn : n = fl.length) (hl : fl.length ≤ 1000) (hw : okWk fl.length w) (hf : ∀ k : Nat, -100000000 ≤ fl.getD k 0 ∧ fl.getD k 0 ≤ 100000000) (ha : -1000000 ≤ a ∧ a ≤ 1000000) : FnSem Try.prog 96 [.osl 0 0 n, Lx (LI w), In a] [.row false .flat (eI 0) (fl.map eI)] (Is [] [.row false .flat (eI 0) ((addW fl w a).map eI)]) := by
  have hB := fun (i : Int) (g : List Int) (h : g = addW fl (w.take i.toNat) a) (k : Nat) => h ▸ addW_bi (i := i) ha (by omega) hw.1 hf k
  refine FnSem.walk (zs := zeroPV Try.prog) (by kernel_rfl) Try.func96 rfl Try.results96 (by kernel_rfl) (by kernel_rfl) (by kernel_rfl) fun hw hh => ?_
  obtain ⟨w0, w1, w2, _⟩ := hw
  first | replace w0 := wf_LI w0 | skip
  first | replace w1 := wf_LI w1 | skip
  first | replace w2 := wf_I w2 | skip
  repeat' first
    | refine And.intro rfl ?_
    | refine GdF.mk (fun h => h) ?_
    | refine And.intro (Nat.succ_ne_zero _) ?_
    | refine And.intro (Nat.le_of_ble_eq_true rfl) ?_
    | refine SeqF.run ?_
    | refine LoopF.at 1 rfl (LoopF.fix [0, 1, 2] (Int × List Int) (fun (i, g) => 0 ≤ i ∧ i ≤ w.length ∧ g = addW fl (w.take i.toNat) a ∧ g.length = fl.length) (fun (i, g) => [(6, In i)]) (fun (i, g) => [(0, .row false .flat (eI 0) (g.map eI))]) (fun (i, g) => ((w.length - i).toNat)) ((0, fl)) ?_)
    | (refine LoopB.of (T := Int × List Int) ?_ ?_; rotate_left; rintro ⟨i, g⟩ ⟨i0, i1, i2, i3⟩; rotate_left)
    | refine BndF.mk (fun _ => by have q := okWk_i hw i0 (by assumption); have e : absI (w.getD i.toNat 0) = max (w.getD i.toNat 0) (0 - w.getD i.toNat 0) := rfl; first | omega | (simp only [List.length_map]; omega)) ?_
    | refine EqI.mk _ (fun _ => by have q := okWk_i hw i0 (by assumption); exact wrapI (by omega) (by omega)) ?_
    | refine EqI.mk _ (fun _ => by have q := okWk_i hw i0 (by assumption); have q2 := hB i g i2 (w.getD i.toNat 0 - 1).toNat; have q3 := hB i g i2 (0 - w.getD i.toNat 0 - 1).toNat; exact wrapI (by omega) (by omega)) ?_
    | refine GhF.go ?_
    | refine EqP.mk _ (gm eI 0 rfl) ?_
    | refine BndF.mk (fun _ => by omega) ?_
    | refine BndF.mk (fun _ => by simp only [List.length_map, List.length_cons, List.length_nil, List.length_append, List.length_set, List.length_replicate, iotaI_len]; omega) ?_
    | refine EqI.mk _ (fun _ => wrapI (by omega) (by omega)) ?_
    | refine EqI.mk _ (fun _ => rfl) ?_
    | refine EqN.mk _ (ln eI) ?_
    | refine EqN.mk _ (Nat.zero_add _) ?_
    | refine EqN.mk _ (Int.toNat_natCast _) ?_
    | refine EqN.mk _ rfl ?_
    | refine EqL.mk _ (st eI) ?_
    | refine EqL.mk [] rfl ?_
    | refine EqL.mk [_] rfl ?_
    | refine EqL.mk _ rfl ?_
    | (refine CondF.mk (fun hb => ?_) (fun hb => ?_) <;> try simp only [forall_const, eq_self, not_true_eq_false, not_false_eq_true, or_false, false_or, or_self, or_true, true_or, and_true, true_and, and_false, false_and, decide_true, decide_false, Bool.not_true, Bool.not_false, decide_eq_true_eq, decide_eq_false_iff_not, ite_and_p, ite_or_p, Bool.decide_eq_true, Bool.and_eq_true, Bool.or_eq_true, Bool.not_eq_true', Bool.not_eq_false', Bool.and_eq_false_imp, Bool.or_eq_false_iff, bne_iff_ne, beq_iff_eq, bne_eq_false_iff_eq, beq_eq_false_iff_ne, gt_iff_lt, ge_iff_le, Int.not_lt, Int.not_le, ne_eq, Bool.true_eq_false, Bool.false_eq_true, reduceCtorEq, eta_Airway, eta_Fan, eta_Mine] at hb)
    | apply BackF.auto2
    | refine BackB.mk ?_ ?_
    | refine RetF.auto (And.intro rfl ?_)
    | exact Is.mk rfl rfl
    | refine Is.mk ?_ rfl
    | refine Is.mk rfl ?_
    | refine Is.mk ?_ ?_
  all_goals try dsimp only
  all_goals first
    | omega
    | exact ⟨by omega, by omega, rfl, rfl⟩
    | (refine ⟨by omega, by omega, ?_, by rw [List.length_set]; exact i3⟩
       rw [i2, addW_s i0 (by assumption), show ixW (w.getD i.toNat 0) = (w.getD i.toNat 0 - 1).toNat by unfold ixW absI; omega, sgW, if_pos (by omega), Int.one_mul])
    | (refine ⟨by omega, by omega, ?_, by rw [List.length_set]; exact i3⟩
       have q := okWk_i hw i0 (by assumption)
       have e : absI (w.getD i.toNat 0) = max (w.getD i.toNat 0) (0 - w.getD i.toNat 0) := rfl
       rw [i2, addW_s i0 (by assumption), show ixW (w.getD i.toNat 0) = (0 - w.getD i.toNat 0 - 1).toNat by unfold ixW absI; omega, sgW, if_neg (by omega), Int.neg_one_mul]; rfl)
    | (rw [i2, show i.toNat = w.length by omega, List.take_length]; rfl)
    | skip
/-- flows that are drawn -/
theorem c_spec_R8Flows (c : List Int) (m : GMine) (hm : okMine m = true) : FnSem Try.prog 31 [Lx (LY c), .p .any (.agg m.cells)] [] (RetV (fun _ : List Int => [.osl 0 0 m.airways.length]) (fun fl => [.row false .flat (eI 0) (fl.map eI)]) (fun fl => blF m fl 60000)) := by
  have hmp := okMine_p hm
  have hG := fun j => mshC_G (j := j) hm
  have hM := mshC_len hm
  refine FnSem.old ?_
  refine FnSem.walk (zs := zeroPV Try.prog) (by kernel_rfl) Try.func31 rfl Try.results31 (by kernel_rfl) (by kernel_rfl) (by kernel_rfl) fun hw hh => ?_
  obtain ⟨w0, w1, _⟩ := hw
  first | replace w0 := wf_LY w0 | skip
  first | replace w1 := wf_Mine w1 | skip
  have hc : bytes c := w0.2
  have hwl := w1.2.1
  repeat' first
    | refine And.intro rfl ?_
    | refine GdF.mk (fun h => h) ?_
    | refine And.intro (Nat.succ_ne_zero _) ?_
    | refine And.intro (Nat.le_of_ble_eq_true rfl) ?_
    | refine SeqF.run ?_
    | refine OpH.heap ?_
    | refine GhF.held 7 rfl [(6, [0]), (8, [1])] ?_
    | refine ArgF.is (c_spec_l04Meshes m hm) ?_
    | refine ArgQ.is (fun hG => c_spec_l04Meshes m hm) rfl rfl ?_
    | refine RetV.mk (α := List Int) fl rfl rfl ?_
    | refine ArgF.is (c_spec_l07Add _ fl ((mshC m).getD i.toNat []) _ (by have := i2.ln; omega) (by have := i2.ln; omega) (by rw [i2.ln]; exact (hG i.toNat (by omega)).ok) (fun k => by have := i2.bd k; omega) (by omega)) ?_
    | refine LoopF.at 5 rfl (LoopF.fix [5, 6] (Fl × Int × List Int × Int × Int) (fun (gf, i, fl, q, t) => 0 ≤ i ∧ i ≤ (mshC m).length ∧ blF m fl (2500 * i) ∧ (0 ≤ q ∧ q ≤ 2 * i) ∧ (gf = .fresh ∨ gf = .any)) (fun (gf, i, fl, q, t) => [(8, In i), (7, .p gf (LLI (mshC m)))]) (fun (gf, i, fl, q, t) => [(0, srcO c q t), (1, .row true .flat (eI 0) (fl.map eI))]) (fun (gf, i, fl, q, t) => (((mshC m).length - i).toNat)) ((.fresh, 0, List.replicate m.airways.length 0, 0, 0)) ?_)
    | (refine LoopB.of (T := Fl × Int × List Int × Int × Int) ?_ ?_; rotate_left; rintro ⟨gf, i, fl, q, t⟩ ⟨i0, i1, i2, i3, i4⟩; rotate_left)
    | (rcases i4 with rfl | rfl)
    | refine HdF.at 8 rfl 0 [] (And.intro (by decide +kernel) (And.intro rfl ?_))
    | refine HdF.at 7 rfl 1 [] (And.intro (by decide +kernel) (And.intro rfl ?_))
    | refine HdF.at 6 rfl 2 [] (And.intro (by decide +kernel) (And.intro rfl ?_))
    | refine HdF.at 5 rfl 3 [] (And.intro (by decide +kernel) (And.intro rfl ?_))
    | refine HdF.at 4 rfl 4 [8] (And.intro (by decide +kernel) (And.intro rfl ?_))
    | refine HdF.at 3 rfl 5 [] (And.intro (by decide +kernel) (And.intro rfl ?_))
    | refine HdF.goAt 2 rfl ?_
    | refine OrdL.ord ?_
    | refine OrdF.take 7 (by decide +kernel) (And.intro rfl ?_)
    | refine OrdF.all [8] (by decide +kernel) ?_
    | refine OrdF.all [6] (by decide +kernel) ?_
    | refine OrdF.fin (by decide +kernel) ?_
    | refine AllF.one _ ?_
    | refine AllF.cons _ _ ?_ ?_
    | refine OpH.quiet rfl ?_
    | refine OpH.heap ?_
    | refine GhF.go ?_
    | refine DrawG.old (DrawF.lex (by decide +kernel) ?_)
    | refine MkF.row ?_
    | refine EqP.mk _ (gm eI 0 rfl) ?_
    | refine EqP.mk _ (gm GAirway.cells default rfl) ?_
    | refine EqP.mk _ (gm eY 0 rfl) ?_
    | refine EqP.mk _ (gmb eLI [] (by omega)) ?_
    | refine BndF.mk (fun _ => by omega) ?_
    | refine BndF.mk (fun _ => by simp only [List.length_map, List.length_cons, List.length_nil, List.length_append, List.length_set, List.length_replicate, iotaI_len]; omega) ?_
    | refine EqI.mk _ (fun _ => wrapI (by omega) (by omega)) ?_
    | refine EqI.mk _ (fun _ => rfl) ?_
    | refine EqN.mk _ (ln eI) ?_
    | refine EqN.mk _ (ln GAirway.cells) ?_
    | refine EqN.mk _ (ln eY) ?_
    | refine EqN.mk _ (ln eLI) ?_
    | refine EqN.mk _ (Nat.zero_add _) ?_
    | refine EqN.mk _ (Int.toNat_natCast _) ?_
    | refine EqN.mk _ rfl ?_
    | refine EqL.mk _ (tk eI (by first | rfl | assumption | omega | (simp only [List.length_map, List.length_cons, List.length_nil, List.length_append, List.length_set, List.length_replicate, iotaI_len]; done) | (simp only [List.length_map, List.length_cons, List.length_nil, List.length_append, List.length_set, List.length_replicate, iotaI_len]; omega))) ?_
    | refine EqL.mk _ (rp eI 0) ?_
    | refine EqL.mk _ (dt eI) ?_
    | refine EqL.mk _ (tk GAirway.cells (by first | rfl | assumption | omega | (simp only [List.length_map, List.length_cons, List.length_nil, List.length_append, List.length_set, List.length_replicate, iotaI_len]; done) | (simp only [List.length_map, List.length_cons, List.length_nil, List.length_append, List.length_set, List.length_replicate, iotaI_len]; omega))) ?_
    | refine EqL.mk _ (rp GAirway.cells default) ?_
    | refine EqL.mk _ (dt GAirway.cells) ?_
    | refine EqL.mk _ (tk eY (by first | rfl | assumption | omega | (simp only [List.length_map, List.length_cons, List.length_nil, List.length_append, List.length_set, List.length_replicate, iotaI_len]; done) | (simp only [List.length_map, List.length_cons, List.length_nil, List.length_append, List.length_set, List.length_replicate, iotaI_len]; omega))) ?_
    | refine EqL.mk _ (rp eY 0) ?_
    | refine EqL.mk _ (dt eY) ?_
    | refine EqL.mk _ (tk eLI (by first | rfl | assumption | omega | (simp only [List.length_map, List.length_cons, List.length_nil, List.length_append, List.length_set, List.length_replicate, iotaI_len]; done) | (simp only [List.length_map, List.length_cons, List.length_nil, List.length_append, List.length_set, List.length_replicate, iotaI_len]; omega))) ?_
    | refine EqL.mk _ (rp eLI []) ?_
    | refine EqL.mk _ (dt eLI) ?_
    | refine EqL.mk [] rfl ?_
    | refine EqL.mk [_] rfl ?_
    | refine EqL.mk _ rfl ?_
    | refine ArgF.is (c_spec_l00From ..) ?_
    | refine ArgQ.is (fun hG => c_spec_l00From ..) rfl rfl ?_
    | refine ArgF.is (c_spec_l04Meshes ⟨_, _⟩ (by first | assumption | omega)) ?_
    | refine ArgQ.is (fun hG => c_spec_l04Meshes ⟨_, _⟩ (by first | assumption | omega)) rfl rfl ?_
    | (refine ArgF.src (c_spec_l00Src_pick _ _ _ _ (by first | assumption | omega | rfl | (simp only [List.length_cons, List.length_nil]; omega)) (by first | assumption | omega | rfl | (simp only [List.length_cons, List.length_nil]; omega)) (by first | assumption | omega | rfl | (simp only [List.length_cons, List.length_nil]; omega))) ?_; intro _ _ _ _ _)
    | refine ArgF.is (c_spec_l07Add _ _ _ _ (by first | assumption | omega) (by first | assumption | omega) (by first | assumption | omega) (by first | assumption | omega) (by first | assumption | omega)) ?_
    | refine ArgQ.is (fun hG => c_spec_l07Add _ _ _ _ (by first | assumption | omega) (by first | assumption | omega) (by first | assumption | omega) (by first | assumption | omega) (by first | assumption | omega)) rfl rfl ?_
    | refine CallF.own (f := 76) [0] false ?_
    | refine CallF.own (f := 96) [0] true ?_
    | refine CallF.mk (f := 74) (CallW.is [] false rfl ?_)
    | refine CallF.mk (CallW.is [] true rfl ?_)
    | refine CallG.mk ?_
    | (refine CondF.mk (fun hb => ?_) (fun hb => ?_) <;> try simp only [forall_const, eq_self, not_true_eq_false, not_false_eq_true, or_false, false_or, or_self, or_true, true_or, and_true, true_and, and_false, false_and, decide_true, decide_false, Bool.not_true, Bool.not_false, decide_eq_true_eq, decide_eq_false_iff_not, ite_and_p, ite_or_p, Bool.decide_eq_true, Bool.and_eq_true, Bool.or_eq_true, Bool.not_eq_true', Bool.not_eq_false', Bool.and_eq_false_imp, Bool.or_eq_false_iff, bne_iff_ne, beq_iff_eq, bne_eq_false_iff_eq, beq_eq_false_iff_ne, gt_iff_lt, ge_iff_le, Int.not_lt, Int.not_le, ne_eq, Bool.true_eq_false, Bool.false_eq_true, reduceCtorEq, eta_Airway, eta_Fan, eta_Mine] at hb)
    | apply BackF.auto5
    | refine BackB.mk ?_ ?_
    | refine RetF.auto (And.intro rfl ?_)
    | exact Is.mk rfl rfl
    | refine Is.mk ?_ rfl
    | refine Is.mk rfl ?_
    | refine Is.mk ?_ ?_
  all_goals try dsimp only
  all_goals first
    | omega
    | exact ⟨by omega, by omega, blF_0, by omega, .inl rfl⟩
    | exact ⟨by omega, by omega, blF_le (blF_a hm (A := 2500) i2 (hG i.toNat (by omega)) (by omega)) (by omega), by omega, .inr rfl⟩
    | exact blF_le i2 (by omega)
    | skip
theorem app_P {P : Int → Prop} {r : List Int} {v : Int} (h : ∀ j : Nat, (j : Int) < r.length → P (r.getD j 0)) (hv : P v) : ∀ j : Nat, (j : Int) < (r ++ [v]).length → P ((r ++ [v]).getD j 0) := fun j hj => by
  rw [List.length_append, List.length_singleton] at hj
  by_cases e : j < r.length
  · rw [List.getD_eq_getElem?_getD, List.getElem?_append_left e, ← List.getD_eq_getElem?_getD]; exact h j (by omega)
  · rw [show j = r.length by omega]; simpa [List.getD_eq_getElem?_getD] using hv
/-- numbers that are drawn for each airway -/
theorem c_spec_R8Resistances (c : List Int) (m : GMine) (hm : okMine m = true) : FnSem Try.prog 33 [Lx (LY c), .p .any (.agg m.cells)] [] (RetV (fun _ : List Int => [.osl 0 0 m.airways.length]) (fun r => [.row false .flat (eI 0) (r.map eI)]) (fun r => r.length = m.airways.length ∧ ∀ k : Nat, k < r.length → 2000 ≤ r.getD k 0 ∧ r.getD k 0 ≤ 52000)) := by
  have hmp := okMine_p hm
  refine FnSem.old ?_
  refine FnSem.walk (zs := zeroPV Try.prog) (by kernel_rfl) Try.func33 rfl Try.results33 (by kernel_rfl) (by kernel_rfl) (by kernel_rfl) fun hw hh => ?_
  obtain ⟨w0, w1, _⟩ := hw
  first | replace w0 := wf_LY w0 | skip
  first | replace w1 := wf_Mine w1 | skip
  have hc : bytes c := w0.2
  have hwl := w1.2.1
  repeat' first
    | refine And.intro rfl ?_
    | refine GdF.mk (fun h => h) ?_
    | refine And.intro (Nat.succ_ne_zero _) ?_
    | refine And.intro (Nat.le_of_ble_eq_true rfl) ?_
    | refine SeqF.run ?_
    | refine RetV.mk (α := List Int) r (by rw [show n = m.airways.length by omega]) rfl ?_
    | refine LoopF.at 4 rfl (LoopF.fix [5] (Int × Nat × List Int × Int × Int) (fun (k, n, r, q, t) => 0 ≤ k ∧ k ≤ m.airways.length ∧ n = r.length ∧ (r.length : Int) = m.airways.length - k ∧ (∀ j : Nat, (j : Int) < r.length → 2000 ≤ r.getD j 0 ∧ r.getD j 0 ≤ 52000) ∧ (0 ≤ q ∧ q ≤ 2 * (m.airways.length - k))) (fun (k, n, r, q, t) => [(7, In k), (6, .osl 1 0 n)]) (fun (k, n, r, q, t) => [(0, srcO c q t), (1, .row true .flat (eI 0) (r.map eI))]) (fun (k, n, r, q, t) => (k.toNat)) ((m.airways.length, 0, [], 0, 0)) ?_)
    | (refine LoopB.of (T := Int × Nat × List Int × Int × Int) ?_ ?_; rotate_left; rintro ⟨k, n, r, q, t⟩ ⟨k0, k1, kn, k2, k3, k4⟩; rotate_left)
    | refine GhF.go ?_
    | refine MkF.row ?_
    | refine BndF.mk (fun _ => by omega) ?_
    | refine BndF.mk (fun _ => by simp only [List.length_map, List.length_cons, List.length_nil, List.length_append, List.length_set, List.length_replicate, iotaI_len]; omega) ?_
    | refine EqI.mk _ (fun _ => wrapI (by omega) (by omega)) ?_
    | refine EqI.mk _ (fun _ => rfl) ?_
    | refine FlF.keep ?_
    | refine EqN.mk _ (ln eI) ?_
    | refine EqN.mk _ (ln GAirway.cells) ?_
    | refine EqN.mk _ (ln eY) ?_
    | refine EqN.mk _ (Nat.zero_add _) ?_
    | refine EqN.mk (_ + 1) rfl ?_
    | refine EqN.mk _ (Int.toNat_natCast _) ?_
    | refine EqN.mk _ rfl ?_
    | refine EqL.mk _ (sn0 eI) ?_
    | refine EqL.mk _ (sn eI (by first | rfl | assumption | omega | (simp only [List.length_map, List.length_cons, List.length_nil, List.length_append, List.length_set, List.length_replicate, iotaI_len]; done) | (simp only [List.length_map, List.length_cons, List.length_nil, List.length_append, List.length_set, List.length_replicate, iotaI_len]; omega))) ?_
    | refine EqL.mk _ (ap0 eI) ?_
    | refine EqL.mk _ (ap eI (by first | rfl | assumption | omega | (simp only [List.length_map, List.length_cons, List.length_nil, List.length_append, List.length_set, List.length_replicate, iotaI_len]; done) | (simp only [List.length_map, List.length_cons, List.length_nil, List.length_append, List.length_set, List.length_replicate, iotaI_len]; omega))) ?_
    | refine EqL.mk _ (tk eI (by first | rfl | assumption | omega | (simp only [List.length_map, List.length_cons, List.length_nil, List.length_append, List.length_set, List.length_replicate, iotaI_len]; done) | (simp only [List.length_map, List.length_cons, List.length_nil, List.length_append, List.length_set, List.length_replicate, iotaI_len]; omega))) ?_
    | refine EqL.mk _ (dt eI) ?_
    | refine EqL.mk _ (sn0 GAirway.cells) ?_
    | refine EqL.mk _ (sn GAirway.cells (by first | rfl | assumption | omega | (simp only [List.length_map, List.length_cons, List.length_nil, List.length_append, List.length_set, List.length_replicate, iotaI_len]; done) | (simp only [List.length_map, List.length_cons, List.length_nil, List.length_append, List.length_set, List.length_replicate, iotaI_len]; omega))) ?_
    | refine EqL.mk _ (ap0 GAirway.cells) ?_
    | refine EqL.mk _ (ap GAirway.cells (by first | rfl | assumption | omega | (simp only [List.length_map, List.length_cons, List.length_nil, List.length_append, List.length_set, List.length_replicate, iotaI_len]; done) | (simp only [List.length_map, List.length_cons, List.length_nil, List.length_append, List.length_set, List.length_replicate, iotaI_len]; omega))) ?_
    | refine EqL.mk _ (tk GAirway.cells (by first | rfl | assumption | omega | (simp only [List.length_map, List.length_cons, List.length_nil, List.length_append, List.length_set, List.length_replicate, iotaI_len]; done) | (simp only [List.length_map, List.length_cons, List.length_nil, List.length_append, List.length_set, List.length_replicate, iotaI_len]; omega))) ?_
    | refine EqL.mk _ (dt GAirway.cells) ?_
    | refine EqL.mk _ (sn0 eY) ?_
    | refine EqL.mk _ (sn eY (by first | rfl | assumption | omega | (simp only [List.length_map, List.length_cons, List.length_nil, List.length_append, List.length_set, List.length_replicate, iotaI_len]; done) | (simp only [List.length_map, List.length_cons, List.length_nil, List.length_append, List.length_set, List.length_replicate, iotaI_len]; omega))) ?_
    | refine EqL.mk _ (ap0 eY) ?_
    | refine EqL.mk _ (ap eY (by first | rfl | assumption | omega | (simp only [List.length_map, List.length_cons, List.length_nil, List.length_append, List.length_set, List.length_replicate, iotaI_len]; done) | (simp only [List.length_map, List.length_cons, List.length_nil, List.length_append, List.length_set, List.length_replicate, iotaI_len]; omega))) ?_
    | refine EqL.mk _ (tk eY (by first | rfl | assumption | omega | (simp only [List.length_map, List.length_cons, List.length_nil, List.length_append, List.length_set, List.length_replicate, iotaI_len]; done) | (simp only [List.length_map, List.length_cons, List.length_nil, List.length_append, List.length_set, List.length_replicate, iotaI_len]; omega))) ?_
    | refine EqL.mk _ (dt eY) ?_
    | refine EqL.mk [] rfl ?_
    | refine EqL.mk [_] rfl ?_
    | refine EqL.mk _ rfl ?_
    | refine ArgF.is (c_spec_l00From ..) ?_
    | refine ArgQ.is (fun hG => c_spec_l00From ..) rfl rfl ?_
    | (refine ArgF.src (c_spec_l00Src_pick _ _ _ _ (by first | assumption | omega | rfl | (simp only [List.length_cons, List.length_nil]; omega)) (by first | assumption | omega | rfl | (simp only [List.length_cons, List.length_nil]; omega)) (by first | assumption | omega | rfl | (simp only [List.length_cons, List.length_nil]; omega))) ?_; intro _ _ _ _ _)
    | refine CallF.own (f := 76) [0] false ?_
    | refine CallF.mk (f := 74) (CallW.is [] false rfl ?_)
    | refine CallF.mk (CallW.is [] true rfl ?_)
    | refine CallG.mk ?_
    | (refine CondF.mk (fun hb => ?_) (fun hb => ?_) <;> try simp only [forall_const, eq_self, not_true_eq_false, not_false_eq_true, or_false, false_or, or_self, or_true, true_or, and_true, true_and, and_false, false_and, decide_true, decide_false, Bool.not_true, Bool.not_false, decide_eq_true_eq, decide_eq_false_iff_not, ite_and_p, ite_or_p, Bool.decide_eq_true, Bool.and_eq_true, Bool.or_eq_true, Bool.not_eq_true', Bool.not_eq_false', Bool.and_eq_false_imp, Bool.or_eq_false_iff, bne_iff_ne, beq_iff_eq, bne_eq_false_iff_eq, beq_eq_false_iff_ne, gt_iff_lt, ge_iff_le, Int.not_lt, Int.not_le, ne_eq, Bool.true_eq_false, Bool.false_eq_true, reduceCtorEq, eta_Airway, eta_Fan, eta_Mine] at hb)
    | apply BackF.auto5
    | refine BackB.mk ?_ ?_
    | refine RetF.auto (And.intro rfl ?_)
    | exact Is.mk rfl rfl
    | refine Is.mk ?_ rfl
    | refine Is.mk rfl ?_
    | refine Is.mk ?_ ?_
  all_goals try dsimp only
  all_goals first
    | omega
    | exact ⟨by omega, by omega, rfl, by simp, fun j hj => absurd hj (by simp), by omega⟩
    | exact ⟨by omega, by omega, by simp [kn], by rw [List.length_append, List.length_singleton]; omega, app_P (P := fun x => 2000 ≤ x ∧ x ≤ 52000) k3 (by omega), by omega⟩
    | exact ⟨by omega, fun k hk => k3 k (by omega)⟩
    | skip
theorem c_spec_R8Draught (c : List Int) (m : GMine) (hm : okMine m = true) : FnSem Try.prog 34 [Lx (LY c), .p .any (.agg m.cells)] [] (RetV (fun _ : List Int => [.osl 0 0 m.airways.length]) (fun r => [.row false .flat (eI 0) (r.map eI)]) (fun r => r.length = m.airways.length ∧ ∀ k : Nat, k < r.length → -20 ≤ r.getD k 0 ∧ r.getD k 0 ≤ 400)) := by
  have hmp := okMine_p hm
  refine FnSem.old ?_
  refine FnSem.walk (zs := zeroPV Try.prog) (by kernel_rfl) Try.func34 rfl Try.results34 (by kernel_rfl) (by kernel_rfl) (by kernel_rfl) fun hw hh => ?_
  obtain ⟨w0, w1, _⟩ := hw
  first | replace w0 := wf_LY w0 | skip
  first | replace w1 := wf_Mine w1 | skip
  have hc : bytes c := w0.2
  have hwl := w1.2.1
  repeat' first
    | refine And.intro rfl ?_
    | refine GdF.mk (fun h => h) ?_
    | refine And.intro (Nat.succ_ne_zero _) ?_
    | refine And.intro (Nat.le_of_ble_eq_true rfl) ?_
    | refine SeqF.run ?_
    | refine RetV.mk (α := List Int) r (by rw [show n = m.airways.length by omega]) rfl ?_
    | refine LoopF.at 4 rfl (LoopF.fix [5] (Int × Nat × List Int × Int × Int) (fun (k, n, r, q, t) => 0 ≤ k ∧ k ≤ m.airways.length ∧ n = r.length ∧ (r.length : Int) = m.airways.length - k ∧ (∀ j : Nat, (j : Int) < r.length → -20 ≤ r.getD j 0 ∧ r.getD j 0 ≤ 400) ∧ (0 ≤ q ∧ q ≤ 2 * (m.airways.length - k))) (fun (k, n, r, q, t) => [(7, In k), (6, .osl 1 0 n)]) (fun (k, n, r, q, t) => [(0, srcO c q t), (1, .row true .flat (eI 0) (r.map eI))]) (fun (k, n, r, q, t) => (k.toNat)) ((m.airways.length, 0, [], 0, 0)) ?_)
    | (refine LoopB.of (T := Int × Nat × List Int × Int × Int) ?_ ?_; rotate_left; rintro ⟨k, n, r, q, t⟩ ⟨k0, k1, kn, k2, k3, k4⟩; rotate_left)
    | refine GhF.go ?_
    | refine MkF.row ?_
    | refine BndF.mk (fun _ => by omega) ?_
    | refine BndF.mk (fun _ => by simp only [List.length_map, List.length_cons, List.length_nil, List.length_append, List.length_set, List.length_replicate, iotaI_len]; omega) ?_
    | refine EqI.mk _ (fun _ => wrapI (by omega) (by omega)) ?_
    | refine EqI.mk _ (fun _ => rfl) ?_
    | refine FlF.keep ?_
    | refine EqN.mk _ (ln eI) ?_
    | refine EqN.mk _ (ln GAirway.cells) ?_
    | refine EqN.mk _ (ln eY) ?_
    | refine EqN.mk _ (Nat.zero_add _) ?_
    | refine EqN.mk (_ + 1) rfl ?_
    | refine EqN.mk _ (Int.toNat_natCast _) ?_
    | refine EqN.mk _ rfl ?_
    | refine EqL.mk _ (sn0 eI) ?_
    | refine EqL.mk _ (sn eI (by first | rfl | assumption | omega | (simp only [List.length_map, List.length_cons, List.length_nil, List.length_append, List.length_set, List.length_replicate, iotaI_len]; done) | (simp only [List.length_map, List.length_cons, List.length_nil, List.length_append, List.length_set, List.length_replicate, iotaI_len]; omega))) ?_
    | refine EqL.mk _ (ap0 eI) ?_
    | refine EqL.mk _ (ap eI (by first | rfl | assumption | omega | (simp only [List.length_map, List.length_cons, List.length_nil, List.length_append, List.length_set, List.length_replicate, iotaI_len]; done) | (simp only [List.length_map, List.length_cons, List.length_nil, List.length_append, List.length_set, List.length_replicate, iotaI_len]; omega))) ?_
    | refine EqL.mk _ (tk eI (by first | rfl | assumption | omega | (simp only [List.length_map, List.length_cons, List.length_nil, List.length_append, List.length_set, List.length_replicate, iotaI_len]; done) | (simp only [List.length_map, List.length_cons, List.length_nil, List.length_append, List.length_set, List.length_replicate, iotaI_len]; omega))) ?_
    | refine EqL.mk _ (dt eI) ?_
    | refine EqL.mk _ (sn0 GAirway.cells) ?_
    | refine EqL.mk _ (sn GAirway.cells (by first | rfl | assumption | omega | (simp only [List.length_map, List.length_cons, List.length_nil, List.length_append, List.length_set, List.length_replicate, iotaI_len]; done) | (simp only [List.length_map, List.length_cons, List.length_nil, List.length_append, List.length_set, List.length_replicate, iotaI_len]; omega))) ?_
    | refine EqL.mk _ (ap0 GAirway.cells) ?_
    | refine EqL.mk _ (ap GAirway.cells (by first | rfl | assumption | omega | (simp only [List.length_map, List.length_cons, List.length_nil, List.length_append, List.length_set, List.length_replicate, iotaI_len]; done) | (simp only [List.length_map, List.length_cons, List.length_nil, List.length_append, List.length_set, List.length_replicate, iotaI_len]; omega))) ?_
    | refine EqL.mk _ (tk GAirway.cells (by first | rfl | assumption | omega | (simp only [List.length_map, List.length_cons, List.length_nil, List.length_append, List.length_set, List.length_replicate, iotaI_len]; done) | (simp only [List.length_map, List.length_cons, List.length_nil, List.length_append, List.length_set, List.length_replicate, iotaI_len]; omega))) ?_
    | refine EqL.mk _ (dt GAirway.cells) ?_
    | refine EqL.mk _ (sn0 eY) ?_
    | refine EqL.mk _ (sn eY (by first | rfl | assumption | omega | (simp only [List.length_map, List.length_cons, List.length_nil, List.length_append, List.length_set, List.length_replicate, iotaI_len]; done) | (simp only [List.length_map, List.length_cons, List.length_nil, List.length_append, List.length_set, List.length_replicate, iotaI_len]; omega))) ?_
    | refine EqL.mk _ (ap0 eY) ?_
    | refine EqL.mk _ (ap eY (by first | rfl | assumption | omega | (simp only [List.length_map, List.length_cons, List.length_nil, List.length_append, List.length_set, List.length_replicate, iotaI_len]; done) | (simp only [List.length_map, List.length_cons, List.length_nil, List.length_append, List.length_set, List.length_replicate, iotaI_len]; omega))) ?_
    | refine EqL.mk _ (tk eY (by first | rfl | assumption | omega | (simp only [List.length_map, List.length_cons, List.length_nil, List.length_append, List.length_set, List.length_replicate, iotaI_len]; done) | (simp only [List.length_map, List.length_cons, List.length_nil, List.length_append, List.length_set, List.length_replicate, iotaI_len]; omega))) ?_
    | refine EqL.mk _ (dt eY) ?_
    | refine EqL.mk (List.map eI [_, _, _, _, _]) rfl ?_
    | refine EqL.mk [] rfl ?_
    | refine EqL.mk [_] rfl ?_
    | refine EqL.mk _ rfl ?_
    | refine ArgF.is (c_spec_l00From ..) ?_
    | refine ArgQ.is (fun hG => c_spec_l00From ..) rfl rfl ?_
    | (refine ArgF.srw (c_spec_l00Src_among _ _ _ _ _ (by first | assumption | omega | rfl | (simp only [List.length_cons, List.length_nil]; omega)) (by first | assumption | omega | rfl | (simp only [List.length_cons, List.length_nil]; omega)) (by first | assumption | omega | rfl | (simp only [List.length_cons, List.length_nil]; omega)) (by first | assumption | omega | rfl | (simp only [List.length_cons, List.length_nil]; omega))) ?_; intro _ _ _ _ _)
    | refine CallF.own (f := 99) [0, 1] false ?_
    | refine CallF.mk (f := 74) (CallW.is [] false rfl ?_)
    | refine CallF.mk (CallW.is [] true rfl ?_)
    | refine CallG.mk ?_
    | (refine CondF.mk (fun hb => ?_) (fun hb => ?_) <;> try simp only [forall_const, eq_self, not_true_eq_false, not_false_eq_true, or_false, false_or, or_self, or_true, true_or, and_true, true_and, and_false, false_and, decide_true, decide_false, Bool.not_true, Bool.not_false, decide_eq_true_eq, decide_eq_false_iff_not, ite_and_p, ite_or_p, Bool.decide_eq_true, Bool.and_eq_true, Bool.or_eq_true, Bool.not_eq_true', Bool.not_eq_false', Bool.and_eq_false_imp, Bool.or_eq_false_iff, bne_iff_ne, beq_iff_eq, bne_eq_false_iff_eq, beq_eq_false_iff_ne, gt_iff_lt, ge_iff_le, Int.not_lt, Int.not_le, ne_eq, Bool.true_eq_false, Bool.false_eq_true, reduceCtorEq, eta_Airway, eta_Fan, eta_Mine] at hb)
    | apply BackF.auto5
    | refine BackB.mk ?_ ?_
    | refine RetF.auto (And.intro rfl ?_)
    | exact Is.mk rfl rfl
    | refine Is.mk ?_ rfl
    | refine Is.mk rfl ?_
    | refine Is.mk ?_ ?_
  all_goals try dsimp only
  all_goals first
    | omega
    | exact ⟨by omega, by omega, rfl, by simp, fun j hj => absurd hj (by simp), by omega⟩
    | (refine ⟨by omega, by omega, by simp [kn], by rw [List.length_append, List.length_singleton]; omega, app_P (P := fun x => -20 ≤ x ∧ x ≤ 400) k3 ?_, by omega⟩
       simp only [List.mem_cons, List.not_mem_nil, or_false] at *; omega)
    | exact ⟨by omega, fun k hk => k3 k (by omega)⟩
    | skip
end Go.Proofs.Ytfcnlpghdpfjkaa

