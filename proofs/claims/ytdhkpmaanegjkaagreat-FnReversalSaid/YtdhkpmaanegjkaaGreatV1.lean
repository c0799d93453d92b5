/- Contracts of functions of the program, and what they compute. Conditions: those that each theorem states. -/
import Derived.Test.YtdhkpmaanegjkaaGreatProg
import Derived.Test.YtdhkpmaanegjkaaGreatG1
import Derived.Test.YtdhkpmaanegjkaaGreatL1
set_option linter.unusedVariables false
set_option linter.unusedSimpArgs false
namespace Go.Proofs.YtdhkpmaanegjkaaGreat
open Go.Av
attribute [local irreducible] Go.IntKind.wrap leastI rdZ rd rootI
set_option maxRecDepth 20000
set_option maxHeartbeats 4000000
def okAirway (x : GAirway) : Bool := isName x.id && inR x.from_ 0 15 && inR x.to 0 15 && (x.from_ != x.to) && inR x.length 1 10000 && inR x.section_ 50 5000 && inR x.friction 1 1000 && inR x.shock 0 1000
theorem okAirway_b {x : GAirway} (h : okAirway x = true) : (0 ≤ x.from_ ∧ x.from_ ≤ 15) ∧ (0 ≤ x.to ∧ x.to ≤ 15) ∧ ¬x.from_ = x.to ∧ (1 ≤ x.length ∧ x.length ≤ 10000) ∧ (50 ≤ x.section_ ∧ x.section_ ≤ 5000) ∧ (1 ≤ x.friction ∧ x.friction ≤ 1000) ∧ 0 ≤ x.shock ∧ x.shock ≤ 1000 := by
  simp only [okAirway, Bool.and_eq_true, inR_iff, bne_iff_ne, ne_eq] at h; omega
theorem c_impl_ValidAirway (x : GAirway) : FnSem Tryz.prog 41 [.p .any (.agg x.cells)] [] (Is [Bo (okAirway x)] []) := by
  refine FnSem.walk (zs := zeroPV Tryz.prog) (by kernel_rfl) Tryz.func41 rfl Tryz.results41 (by kernel_rfl) (by kernel_rfl) (by kernel_rfl) fun hw hh => ?_
  obtain ⟨w0, _⟩ := hw
  first | replace w0 := wf_Airway w0 | skip
  repeat' first
    | refine And.intro rfl ?_
    | refine GdF.mk (fun h => h) ?_
    | refine And.intro (Nat.succ_ne_zero _) ?_
    | refine And.intro (Nat.le_of_ble_eq_true rfl) ?_
    | refine SeqF.run ?_
    | refine GhF.go ?_
    | refine GdS.keep ?_
    | refine BndF.mk (fun _ => by omega) ?_
    | refine BndF.mk (fun _ => by simp only [lnS]; omega) ?_
    | refine BndF.mk (fun hG => by simp only [forall_const, eq_self, not_true_eq_false, not_false_eq_true, or_false, false_or, or_self, or_true, true_or, and_true, true_and, and_false, false_and, decide_true, decide_false, Bool.not_true, Bool.not_false, decide_eq_true_eq, decide_eq_false_iff_not, ite_and_p, ite_or_p, Bool.decide_eq_true, Bool.and_eq_true, Bool.or_eq_true, Bool.not_eq_true', Bool.not_eq_false', Bool.and_eq_false_imp, Bool.or_eq_false_iff, bne_iff_ne, beq_iff_eq, bne_eq_false_iff_eq, beq_eq_false_iff_ne, gt_iff_lt, ge_iff_le, Int.not_lt, Int.not_le, ne_eq, Bool.true_eq_false, Bool.false_eq_true, reduceCtorEq, eta_Airway, eta_Fan, eta_Mine, bytes_nil] at hG; (try simp only [List.length_map]); omega) ?_
    | refine EqL.mk [] rfl ?_
    | refine EqL.mk [_] rfl ?_
    | refine EqL.mk _ rfl ?_
    | refine ArgF.is (c_impl_IsName ..) ?_
    | refine ArgQ.is (fun hG => c_impl_IsName ..) rfl rfl ?_
    | refine ArgF.is (c_impl_junctionOk ..) ?_
    | refine ArgQ.is (fun hG => c_impl_junctionOk ..) rfl rfl ?_
    | refine ArgF.is (c_impl_within ..) ?_
    | refine ArgQ.is (fun hG => c_impl_within ..) rfl rfl ?_
    | refine CallF.mk (CallW.is [] true rfl ?_)
    | refine CallG.mk ?_
    | (refine CondF.mk (fun hb => ?_) (fun hb => ?_) <;> try simp only [forall_const, eq_self, not_true_eq_false, not_false_eq_true, or_false, false_or, or_self, or_true, true_or, and_true, true_and, and_false, false_and, decide_true, decide_false, Bool.not_true, Bool.not_false, decide_eq_true_eq, decide_eq_false_iff_not, ite_and_p, ite_or_p, Bool.decide_eq_true, Bool.and_eq_true, Bool.or_eq_true, Bool.not_eq_true', Bool.not_eq_false', Bool.and_eq_false_imp, Bool.or_eq_false_iff, bne_iff_ne, beq_iff_eq, bne_eq_false_iff_eq, beq_eq_false_iff_ne, gt_iff_lt, ge_iff_le, Int.not_lt, Int.not_le, ne_eq, Bool.true_eq_false, Bool.false_eq_true, reduceCtorEq, eta_Airway, eta_Fan, eta_Mine] at hb)
    | refine RetF.auto (And.intro rfl ?_)
    | exact Is.mk rfl rfl
    | refine Is.mk ?_ rfl
    | refine Is.mk rfl ?_
    | refine Is.mk ?_ ?_
  all_goals try dsimp only
  all_goals try simp only [Bo, I, OB.row.injEq, AV.osl.injEq, eI_same,  List.cons.injEq, AV.p.injEq, PV.c.injEq, Value.int.injEq, Value.bool.injEq, and_true, true_and, ite_and_p, ite_or_p, Bool.decide_eq_true, eta_Airway, eta_Fan, eta_Mine, okAirway]
theorem c_spec_l03Ok (x : GAirway) : FnSem Tryz.prog 57 [.p .any (.ref x.cells)] [] (Is [Bo (okAirway x)] []) := by
  refine FnSem.walk (zs := zeroPV Tryz.prog) (by kernel_rfl) Tryz.func57 rfl Tryz.results57 (by kernel_rfl) (by kernel_rfl) (by kernel_rfl) fun hw hh => ?_
  obtain ⟨w0, _⟩ := hw
  first | replace w0 := wfr_Airway w0 | skip
  repeat' first
    | refine And.intro rfl ?_
    | refine GdF.mk (fun h => h) ?_
    | refine And.intro (Nat.succ_ne_zero _) ?_
    | refine And.intro (Nat.le_of_ble_eq_true rfl) ?_
    | refine SeqF.run ?_
    | refine GhF.go ?_
    | refine GdS.keep ?_
    | refine DrawG.old (DrawF.lex (by decide +kernel) ?_)
    | refine BndF.mk (fun _ => by omega) ?_
    | refine BndF.mk (fun _ => by simp only [lnS]; omega) ?_
    | refine BndF.mk (fun hG => by simp only [forall_const, eq_self, not_true_eq_false, not_false_eq_true, or_false, false_or, or_self, or_true, true_or, and_true, true_and, and_false, false_and, decide_true, decide_false, Bool.not_true, Bool.not_false, decide_eq_true_eq, decide_eq_false_iff_not, ite_and_p, ite_or_p, Bool.decide_eq_true, Bool.and_eq_true, Bool.or_eq_true, Bool.not_eq_true', Bool.not_eq_false', Bool.and_eq_false_imp, Bool.or_eq_false_iff, bne_iff_ne, beq_iff_eq, bne_eq_false_iff_eq, beq_eq_false_iff_ne, gt_iff_lt, ge_iff_le, Int.not_lt, Int.not_le, ne_eq, Bool.true_eq_false, Bool.false_eq_true, reduceCtorEq, eta_Airway, eta_Fan, eta_Mine, bytes_nil] at hG; (try simp only [List.length_map]); omega) ?_
    | refine EqL.mk [] rfl ?_
    | refine EqL.mk [_] rfl ?_
    | refine EqL.mk _ rfl ?_
    | refine ArgF.is (c_spec_l01Name ..) ?_
    | refine ArgQ.is (fun hG => c_spec_l01Name ..) rfl rfl ?_
    | refine ArgF.is (c_spec_l00In ..) ?_
    | refine ArgQ.is (fun hG => c_spec_l00In ..) rfl rfl ?_
    | refine CallF.mk (CallW.is [] true rfl ?_)
    | refine CallG.mk ?_
    | (refine CondF.mk (fun hb => ?_) (fun hb => ?_) <;> try simp only [forall_const, eq_self, not_true_eq_false, not_false_eq_true, or_false, false_or, or_self, or_true, true_or, and_true, true_and, and_false, false_and, decide_true, decide_false, Bool.not_true, Bool.not_false, decide_eq_true_eq, decide_eq_false_iff_not, ite_and_p, ite_or_p, Bool.decide_eq_true, Bool.and_eq_true, Bool.or_eq_true, Bool.not_eq_true', Bool.not_eq_false', Bool.and_eq_false_imp, Bool.or_eq_false_iff, bne_iff_ne, beq_iff_eq, bne_eq_false_iff_eq, beq_eq_false_iff_ne, gt_iff_lt, ge_iff_le, Int.not_lt, Int.not_le, ne_eq, Bool.true_eq_false, Bool.false_eq_true, reduceCtorEq, eta_Airway, eta_Fan, eta_Mine] at hb)
    | refine RetF.auto (And.intro rfl ?_)
    | exact Is.mk rfl rfl
    | refine Is.mk ?_ rfl
    | refine Is.mk rfl ?_
    | refine Is.mk ?_ ?_
  all_goals try dsimp only
  all_goals try simp only [Bo, I, OB.row.injEq, AV.osl.injEq, eI_same,  List.cons.injEq, AV.p.injEq, PV.c.injEq, Value.int.injEq, Value.bool.injEq, and_true, true_and, ite_and_p, ite_or_p, Bool.decide_eq_true, eta_Airway, eta_Fan, eta_Mine, okAirway]
  all_goals grind
end Go.Proofs.YtdhkpmaanegjkaaGreat
/- Contracts of functions of the program, and what they compute. Conditions: those that each theorem states. -/
set_option linter.unusedVariables false
set_option linter.unusedSimpArgs false
namespace Go.Proofs.YtdhkpmaanegjkaaGreat
open Go.Av
attribute [local irreducible] Go.IntKind.wrap leastI rdZ rd rootI
set_option maxRecDepth 20000
set_option maxHeartbeats 8000000
def inJ (j n : Int) : Bool := inR n 0 (j - 1)
def endsA (j : Int) (a : GAirway) : Bool := inJ j a.from_ && inJ j a.to
def okAw (j : Int) (a : GAirway) : Bool := okAirway a && endsA j a
def okMine (m : GMine) : Bool := inR m.junctions 1 16 && decide (m.airways.length ≤ 24) && okAll (okAw m.junctions) (fun a b => sLt a.id b.id) default m.airways
theorem okMine_p {m : GMine} (h : okMine m = true) : (1 ≤ m.junctions ∧ m.junctions ≤ 16) ∧ m.airways.length ≤ 24 ∧ ∀ j : Nat, (j : Int) < m.airways.length → okAirway (m.airways.getD j default) = true ∧ (0 ≤ (m.airways.getD j default).from_ ∧ (m.airways.getD j default).from_ < m.junctions) ∧ 0 ≤ (m.airways.getD j default).to ∧ (m.airways.getD j default).to < m.junctions := by
  simp only [okMine, Bool.and_eq_true, inR_iff, decide_eq_true_eq] at h
  refine ⟨h.1.1, h.1.2, fun j hj => ?_⟩
  have h2 := h.2
  unfold okAll at h2
  rw [Bool.and_eq_true] at h2
  have h3 := List.all_eq_true.1 h2.1 _ (getD_mem (d := default) (xs := m.airways) (j := j) (by omega))
  simp only [okAw, endsA, inJ, Bool.and_eq_true, inR_iff] at h3
  exact ⟨h3.1, by omega, by omega⟩
theorem c_impl_Mine_hasJunction (m : GMine) (n : Int) (hj : 0 ≤ m.junctions ∧ m.junctions ≤ 1000) : FnSem Tryz.prog 69 [.p .any (.agg m.cells), In n] [] (Is [Bo (inJ m.junctions n)] []) := by
  refine FnSem.walk (zs := zeroPV Tryz.prog) (by kernel_rfl) Tryz.func69 rfl Tryz.results69 (by kernel_rfl) (by kernel_rfl) (by kernel_rfl) fun hw hh => ?_
  obtain ⟨w0, w1, _⟩ := hw
  first | replace w0 := wf_Mine w0 | skip
  first | replace w1 := wf_I w1 | skip
  repeat' first
    | refine And.intro rfl ?_
    | refine GdF.mk (fun h => h) ?_
    | refine And.intro (Nat.succ_ne_zero _) ?_
    | refine And.intro (Nat.le_of_ble_eq_true rfl) ?_
    | refine SeqF.run ?_
    | refine GhF.go ?_
    | refine BndF.mk (fun _ => by omega) ?_
    | refine BndF.mk (fun _ => by simp only [lnS]; omega) ?_
    | refine EqI.mk _ (fun _ => wrapI (by omega) (by omega)) ?_
    | refine EqI.mk _ (fun _ => rfl) ?_
    | refine EqL.mk [] rfl ?_
    | refine EqL.mk [_] rfl ?_
    | refine EqL.mk _ rfl ?_
    | refine ArgF.is (c_impl_within ..) ?_
    | refine ArgQ.is (fun hG => c_impl_within ..) rfl rfl ?_
    | refine CallF.mk (CallW.is [] true rfl ?_)
    | refine CallG.mk ?_
    | (refine CondF.mk (fun hb => ?_) (fun hb => ?_) <;> try simp only [forall_const, eq_self, not_true_eq_false, not_false_eq_true, or_false, false_or, or_self, or_true, true_or, and_true, true_and, and_false, false_and, decide_true, decide_false, Bool.not_true, Bool.not_false, decide_eq_true_eq, decide_eq_false_iff_not, ite_and_p, ite_or_p, Bool.decide_eq_true, Bool.and_eq_true, Bool.or_eq_true, Bool.not_eq_true', Bool.not_eq_false', Bool.and_eq_false_imp, Bool.or_eq_false_iff, bne_iff_ne, beq_iff_eq, bne_eq_false_iff_eq, beq_eq_false_iff_ne, gt_iff_lt, ge_iff_le, Int.not_lt, Int.not_le, ne_eq, Bool.true_eq_false, Bool.false_eq_true, reduceCtorEq, eta_Airway, eta_Fan, eta_Mine] at hb)
    | refine RetF.auto (And.intro rfl ?_)
    | exact Is.mk rfl rfl
    | refine Is.mk ?_ rfl
    | refine Is.mk rfl ?_
    | refine Is.mk ?_ ?_
  all_goals try dsimp only
  all_goals try simp only [Bo, I, OB.row.injEq, AV.osl.injEq, eI_same,  List.cons.injEq, AV.p.injEq, PV.c.injEq, Value.int.injEq, Value.bool.injEq, and_true, true_and, ite_and_p, ite_or_p, Bool.decide_eq_true, eta_Airway, eta_Fan, eta_Mine, inJ]
theorem c_impl_Mine_hasEnds (m : GMine) (a : GAirway) (hj : 0 ≤ m.junctions ∧ m.junctions ≤ 1000) : FnSem Tryz.prog 42 [.p .any (.agg m.cells), .p .any (.agg a.cells)] [] (Is [Bo (endsA m.junctions a)] []) := by
  refine FnSem.walk (zs := zeroPV Tryz.prog) (by kernel_rfl) Tryz.func42 rfl Tryz.results42 (by kernel_rfl) (by kernel_rfl) (by kernel_rfl) fun hw hh => ?_
  obtain ⟨w0, w1, _⟩ := hw
  first | replace w0 := wf_Mine w0 | skip
  first | replace w1 := wf_Airway w1 | skip
  repeat' first
    | refine And.intro rfl ?_
    | refine GdF.mk (fun h => h) ?_
    | refine And.intro (Nat.succ_ne_zero _) ?_
    | refine And.intro (Nat.le_of_ble_eq_true rfl) ?_
    | refine SeqF.run ?_
    | refine ArgF.is (c_impl_Mine_hasJunction m _ (by assumption)) ?_
    | refine ArgQ.is (fun hG => c_impl_Mine_hasJunction m _ (by assumption)) rfl rfl ?_
    | refine GhF.go ?_
    | refine GdS.keep ?_
    | refine BndF.mk (fun _ => by omega) ?_
    | refine BndF.mk (fun _ => by simp only [lnS]; omega) ?_
    | refine BndF.mk (fun hG => by simp only [forall_const, eq_self, not_true_eq_false, not_false_eq_true, or_false, false_or, or_self, or_true, true_or, and_true, true_and, and_false, false_and, decide_true, decide_false, Bool.not_true, Bool.not_false, decide_eq_true_eq, decide_eq_false_iff_not, ite_and_p, ite_or_p, Bool.decide_eq_true, Bool.and_eq_true, Bool.or_eq_true, Bool.not_eq_true', Bool.not_eq_false', Bool.and_eq_false_imp, Bool.or_eq_false_iff, bne_iff_ne, beq_iff_eq, bne_eq_false_iff_eq, beq_eq_false_iff_ne, gt_iff_lt, ge_iff_le, Int.not_lt, Int.not_le, ne_eq, Bool.true_eq_false, Bool.false_eq_true, reduceCtorEq, eta_Airway, eta_Fan, eta_Mine, bytes_nil] at hG; (try simp only [List.length_map]); omega) ?_
    | refine EqL.mk [] rfl ?_
    | refine EqL.mk [_] rfl ?_
    | refine EqL.mk _ rfl ?_
    | refine ArgF.is (c_impl_Mine_hasJunction ⟨_, _⟩ _ (by first | assumption | omega)) ?_
    | refine ArgQ.is (fun hG => c_impl_Mine_hasJunction ⟨_, _⟩ _ (by first | assumption | omega)) rfl rfl ?_
    | refine ArgQ.is (fun hG => c_impl_Mine_hasJunction ⟨_, _⟩ _ (by simp only [forall_const, eq_self, not_true_eq_false, not_false_eq_true, or_false, false_or, or_self, or_true, true_or, and_true, true_and, and_false, false_and, decide_true, decide_false, Bool.not_true, Bool.not_false, decide_eq_true_eq, decide_eq_false_iff_not, ite_and_p, ite_or_p, Bool.decide_eq_true, Bool.and_eq_true, Bool.or_eq_true, Bool.not_eq_true', Bool.not_eq_false', Bool.and_eq_false_imp, Bool.or_eq_false_iff, bne_iff_ne, beq_iff_eq, bne_eq_false_iff_eq, beq_eq_false_iff_ne, gt_iff_lt, ge_iff_le, Int.not_lt, Int.not_le, ne_eq, Bool.true_eq_false, Bool.false_eq_true, reduceCtorEq, eta_Airway, eta_Fan, eta_Mine, bytes_nil] at hG; omega)) rfl rfl ?_
    | refine CallF.mk (CallW.is [] true rfl ?_)
    | refine CallG.mk ?_
    | (refine CondF.mk (fun hb => ?_) (fun hb => ?_) <;> try simp only [forall_const, eq_self, not_true_eq_false, not_false_eq_true, or_false, false_or, or_self, or_true, true_or, and_true, true_and, and_false, false_and, decide_true, decide_false, Bool.not_true, Bool.not_false, decide_eq_true_eq, decide_eq_false_iff_not, ite_and_p, ite_or_p, Bool.decide_eq_true, Bool.and_eq_true, Bool.or_eq_true, Bool.not_eq_true', Bool.not_eq_false', Bool.and_eq_false_imp, Bool.or_eq_false_iff, bne_iff_ne, beq_iff_eq, bne_eq_false_iff_eq, beq_eq_false_iff_ne, gt_iff_lt, ge_iff_le, Int.not_lt, Int.not_le, ne_eq, Bool.true_eq_false, Bool.false_eq_true, reduceCtorEq, eta_Airway, eta_Fan, eta_Mine] at hb)
    | refine RetF.auto (And.intro rfl ?_)
    | exact Is.mk rfl rfl
    | refine Is.mk ?_ rfl
    | refine Is.mk rfl ?_
    | refine Is.mk ?_ ?_
  all_goals try dsimp only
  all_goals try simp only [Bo, I, OB.row.injEq, AV.osl.injEq, eI_same,  List.cons.injEq, AV.p.injEq, PV.c.injEq, Value.int.injEq, Value.bool.injEq, and_true, true_and, ite_and_p, ite_or_p, Bool.decide_eq_true, eta_Airway, eta_Fan, eta_Mine, endsA]
theorem c_impl_ValidMine (m : GMine) : FnSem Tryz.prog 17 [.p .any (.agg m.cells)] [] (Is [Bo (okMine m)] []) := by
  refine FnSem.walk (zs := zeroPV Tryz.prog) (by kernel_rfl) Tryz.func17 rfl Tryz.results17 (by kernel_rfl) (by kernel_rfl) (by kernel_rfl) fun hw hh => ?_
  obtain ⟨w0, _⟩ := hw
  first | replace w0 := wf_Mine w0 | skip
  repeat' first
    | refine And.intro rfl ?_
    | refine GdF.mk (fun h => h) ?_
    | refine And.intro (Nat.succ_ne_zero _) ?_
    | refine And.intro (Nat.le_of_ble_eq_true rfl) ?_
    | refine SeqF.run ?_
    | refine ArgF.is (c_impl_Mine_hasEnds m _ (by assumption)) ?_
    | refine ArgQ.is (fun hG => c_impl_Mine_hasEnds m _ (by assumption)) rfl rfl ?_
    | refine ArgF.is (c_impl_ValidAirway (m.airways.getD i.toNat default)) ?_
    | refine ArgQ.is (fun hG => c_impl_ValidAirway (m.airways.getD i.toNat default)) rfl rfl ?_
    | refine LoopF.at 4 rfl (LoopF.fix [1, 16, 17] (Int) (fun i => 0 ≤ i ∧ i ≤ m.airways.length ∧ m.airways.length ≤ 24 ∧ (0 ≤ m.junctions ∧ m.junctions ≤ 1000) ∧ inR m.junctions 1 16 = true ∧ okTo (okAw m.junctions) (fun a b => sLt a.id b.id) default m.airways i) (fun i => [(18, In i)]) (fun i => []) (fun i => ((m.airways.length - i).toNat)) (0) ?_)
    | (refine LoopB.of (T := Int) ?_ ?_; rotate_left; rintro i ⟨h0, h1, h2, h3, h4, h5⟩; rotate_left)
    | refine GhF.go ?_
    | refine GdS.keep ?_
    | refine DrawG.old (DrawF.lex (by decide +kernel) ?_)
    | refine EqP.mk _ (gm GAirway.cells default rfl) ?_
    | refine BndF.mk (fun _ => by omega) ?_
    | refine BndF.mk (fun _ => by simp only [lnS]; omega) ?_
    | refine BndF.mk (fun hG => by simp only [forall_const, eq_self, not_true_eq_false, not_false_eq_true, or_false, false_or, or_self, or_true, true_or, and_true, true_and, and_false, false_and, decide_true, decide_false, Bool.not_true, Bool.not_false, decide_eq_true_eq, decide_eq_false_iff_not, ite_and_p, ite_or_p, Bool.decide_eq_true, Bool.and_eq_true, Bool.or_eq_true, Bool.not_eq_true', Bool.not_eq_false', Bool.and_eq_false_imp, Bool.or_eq_false_iff, bne_iff_ne, beq_iff_eq, bne_eq_false_iff_eq, beq_eq_false_iff_ne, gt_iff_lt, ge_iff_le, Int.not_lt, Int.not_le, ne_eq, Bool.true_eq_false, Bool.false_eq_true, reduceCtorEq, eta_Airway, eta_Fan, eta_Mine, bytes_nil] at hG; (try simp only [List.length_map]); omega) ?_
    | refine EqI.mk _ (fun _ => wrapI (by omega) (by omega)) ?_
    | refine EqI.mk _ (fun _ => rfl) ?_
    | refine EqN.mk _ (ln GAirway.cells) ?_
    | refine EqN.mk _ (Nat.zero_add _) ?_
    | refine EqN.mk _ (Int.toNat_natCast _) ?_
    | refine EqN.mk _ rfl ?_
    | refine EqL.mk _ (tk GAirway.cells (by first | rfl | assumption | omega | (simp only [lnS] <;> omega))) ?_
    | refine EqL.mk _ (st GAirway.cells) ?_
    | refine EqL.mk [] rfl ?_
    | refine EqL.mk [_] rfl ?_
    | refine EqL.mk _ rfl ?_
    | refine ArgF.is (c_impl_within ..) ?_
    | refine ArgQ.is (fun hG => c_impl_within ..) rfl rfl ?_
    | refine ArgF.is (c_impl_ValidAirway ⟨_, _, _, _, _, _, _⟩) ?_
    | refine ArgQ.is (fun hG => c_impl_ValidAirway ⟨_, _, _, _, _, _, _⟩) rfl rfl ?_
    | refine ArgF.is (c_impl_Mine_hasEnds ⟨_, _⟩ ⟨_, _, _, _, _, _, _⟩ (by first | assumption | omega)) ?_
    | refine ArgQ.is (fun hG => c_impl_Mine_hasEnds ⟨_, _⟩ ⟨_, _, _, _, _, _, _⟩ (by first | assumption | omega)) rfl rfl ?_
    | refine ArgQ.is (fun hG => c_impl_Mine_hasEnds ⟨_, _⟩ ⟨_, _, _, _, _, _, _⟩ (by simp only [forall_const, eq_self, not_true_eq_false, not_false_eq_true, or_false, false_or, or_self, or_true, true_or, and_true, true_and, and_false, false_and, decide_true, decide_false, Bool.not_true, Bool.not_false, decide_eq_true_eq, decide_eq_false_iff_not, ite_and_p, ite_or_p, Bool.decide_eq_true, Bool.and_eq_true, Bool.or_eq_true, Bool.not_eq_true', Bool.not_eq_false', Bool.and_eq_false_imp, Bool.or_eq_false_iff, bne_iff_ne, beq_iff_eq, bne_eq_false_iff_eq, beq_eq_false_iff_ne, gt_iff_lt, ge_iff_le, Int.not_lt, Int.not_le, ne_eq, Bool.true_eq_false, Bool.false_eq_true, reduceCtorEq, eta_Airway, eta_Fan, eta_Mine, bytes_nil] at hG; omega)) rfl rfl ?_
    | refine CallF.mk (CallW.is [] true rfl ?_)
    | refine CallG.mk ?_
    | (refine CondF.mk (fun hb => ?_) (fun hb => ?_) <;> try simp only [forall_const, eq_self, not_true_eq_false, not_false_eq_true, or_false, false_or, or_self, or_true, true_or, and_true, true_and, and_false, false_and, decide_true, decide_false, Bool.not_true, Bool.not_false, decide_eq_true_eq, decide_eq_false_iff_not, ite_and_p, ite_or_p, Bool.decide_eq_true, Bool.and_eq_true, Bool.or_eq_true, Bool.not_eq_true', Bool.not_eq_false', Bool.and_eq_false_imp, Bool.or_eq_false_iff, bne_iff_ne, beq_iff_eq, bne_eq_false_iff_eq, beq_eq_false_iff_ne, gt_iff_lt, ge_iff_le, Int.not_lt, Int.not_le, ne_eq, Bool.true_eq_false, Bool.false_eq_true, reduceCtorEq, eta_Airway, eta_Fan, eta_Mine] at hb)
    | apply BackF.auto
    | refine BackB.mk ?_ ?_
    | refine RetF.auto (And.intro rfl ?_)
    | exact Is.mk rfl rfl
    | refine Is.mk ?_ rfl
    | refine Is.mk rfl ?_
    | refine Is.mk ?_ ?_
  all_goals try dsimp only
  all_goals try simp only [Bo, I, OB.row.injEq, AV.osl.injEq, eI_same,  List.cons.injEq, AV.p.injEq, PV.c.injEq, Value.int.injEq, Value.bool.injEq, and_true, true_and, ite_and_p, ite_or_p, Bool.decide_eq_true, eta_Airway, eta_Fan, eta_Mine]
  · unfold okMine; grind
  · exact ⟨by omega, by omega, by omega, by have h := inR_iff.1 (by simpa using hb.1 : inR m.junctions 1 16 = true); omega, by simpa using hb.1, okTo_0⟩
  · unfold okMine
    rw [okAll_f h0 (by omega) (by rw [sLt_f]; simp only [okAw]; grind), Bool.and_false]
  · exact ⟨by omega, by omega, h2, h3, h4, okTo_s h0 h5 (by simp only [okAw]; grind) (fun h => sLt_t.2 (hb.2 h))⟩
  · omega
  · unfold okMine
    rw [okAll_t hb h5, h4, decide_eq_true h2]; rfl
end Go.Proofs.YtdhkpmaanegjkaaGreat
/- Contracts of functions of the program, and what they compute. Conditions: those that each theorem states. -/
set_option linter.unusedVariables false
set_option linter.unusedSimpArgs false
namespace Go.Proofs.YtdhkpmaanegjkaaGreat
open Go.Av
attribute [local irreducible] Go.IntKind.wrap leastI rdZ rd rootI okMine
set_option maxRecDepth 20000
set_option maxHeartbeats 8000000
section
variable (m : GMine) (g : List Int) (rg : List Bool)
def awI (i : Nat) : GAirway := m.airways.getD i default
def okL (at_ : Int) (i : Nat) : Bool := decide ((awI m i).from_ = at_) || (decide ((awI m i).to = at_) && !rg.getD i false)
def nxL (at_ : Int) (i : Nat) : Int := if (awI m i).from_ = at_ then (awI m i).to else (awI m i).from_
def gnL (at_ : Int) (i : Nat) : Int := if (awI m i).to = at_ then -g.getD i 0 else g.getD i 0
def spL (at_ : Int) (i : Nat) : Int := if (awI m i).from_ = at_ then (i : Int) + 1 else -(i : Int) - 1
def okW : Int → List Nat → Prop
  | _, [] => True
  | a, i :: es => i < m.airways.length ∧ okL m rg a i = true ∧ okW (nxL m a i) es
def enW : Int → List Nat → Int
  | a, [] => a
  | a, i :: es => enW (nxL m a i) es
def spW : Int → List Nat → List Int
  | _, [] => []
  | a, i :: es => spL m a i :: spW (nxL m a i) es
def inV (v : Int) : Prop := 0 ≤ v ∧ v < m.junctions
end
section
variable {m : GMine} {g : List Int} {rg : List Bool}
theorem nxV (hm : okMine m = true) {a : Int} {i : Nat} (hi : i < m.airways.length) : inV m (nxL m a i) := by
  have q := (okMine_p hm).2.2 i (by omega)
  unfold nxL inV awI
  split
  · exact q.2.2
  · exact q.2.1
theorem pigW : ∀ (n : Nat) (l : List Int), l.Nodup → (∀ x ∈ l, 0 ≤ x ∧ x < (n : Int)) → l.length ≤ n
  | 0, l, _, h => by
    cases l with
    | nil => simp
    | cons x l => have := h x (by simp); omega
  | n + 1, l, hn, h => by
    have ih := pigW n (l.erase (n : Int)) (hn.erase _) (fun x hx => by
      rw [hn.mem_erase_iff] at hx
      have := h x hx.2
      have := hx.1
      omega)
    rw [List.length_erase] at ih
    split at ih <;> omega
theorem edV (hm : okMine m = true) {i : Nat} (hi : i < m.airways.length) : inV m (m.airways.getD i default).from_ ∧ inV m (m.airways.getD i default).to := ((okMine_p hm).2.2 i (by omega)).2
end
end Go.Proofs.YtdhkpmaanegjkaaGreat
/- Contracts of functions of the program, and what they compute. Conditions: those that each theorem states. -/
set_option linter.unusedVariables false
set_option linter.unusedSimpArgs false
namespace Go.Proofs.YtdhkpmaanegjkaaGreat
open Go.Av
attribute [local irreducible] Go.IntKind.wrap
set_option maxRecDepth 20000
set_option maxHeartbeats 4000000
def idxG {α : Type} (p : α → Bool) (xs : List α) : Int := match xs.findIdx? p with
  | some i => (i : Int)
  | none => -1
theorem idxG_at {α : Type} {d : α} {p : α → Bool} {xs : List α} {i : Int} (h0 : 0 ≤ i) (h1 : i < xs.length) (h2 : p (xs.getD i.toNat d) = true) (h3 : ∀ j : Nat, (j : Int) < i → p (xs.getD j d) = false) : i = idxG p xs := by
  have hi : i.toNat < xs.length := by omega
  have e : xs.findIdx? p = some i.toNat := by
    rw [List.findIdx?_eq_some_iff_getElem]
    refine ⟨hi, ?_, fun j hj => ?_⟩
    · rwa [List.getD_eq_getElem?_getD, List.getElem?_eq_getElem hi] at h2
    · have h4 := h3 j (by omega)
      have hj' : j < xs.length := by omega
      rw [List.getD_eq_getElem?_getD, List.getElem?_eq_getElem hj'] at h4
      simpa using h4
  simp only [idxG, e]; omega
theorem idxG_none {α : Type} {d : α} {p : α → Bool} {xs : List α} {i : Int} (h1 : xs.length ≤ i) (h3 : ∀ j : Nat, (j : Int) < i → p (xs.getD j d) = false) : -1 = idxG p xs := by
  have e : xs.findIdx? p = none := by
    rw [List.findIdx?_eq_none_iff]
    intro x hx
    obtain ⟨j, hj, rfl⟩ := List.getElem_of_mem hx
    have h4 := h3 j (by omega)
    rwa [List.getD_eq_getElem?_getD, List.getElem?_eq_getElem hj] at h4
  simp only [idxG, e]
theorem idxG_any {α : Type} {p : α → Bool} {xs : List α} : decide (idxG p xs ≥ 0) = xs.any p := by
  unfold idxG
  cases h : xs.findIdx? p with
  | none =>
    rw [List.findIdx?_eq_none_iff] at h
    have : xs.any p = false := by rw [List.any_eq_false]; intro x hx; simp [h x hx]
    rw [this]; rfl
  | some i =>
    rw [List.findIdx?_eq_some_iff_getElem] at h
    obtain ⟨hi, hp, _⟩ := h
    have : xs.any p = true := List.any_eq_true.2 ⟨_, List.getElem_mem hi, hp⟩
    rw [this]; simp
end Go.Proofs.YtdhkpmaanegjkaaGreat
/- Contracts of functions of the program, and what they compute. Conditions: those that each theorem states. -/
set_option linter.unusedVariables false
set_option linter.unusedSimpArgs false
namespace Go.Proofs.YtdhkpmaanegjkaaGreat
open Go.Av
attribute [local irreducible] Go.IntKind.wrap leastI rdZ rd rootI okMine okL
set_option maxRecDepth 20000
set_option maxHeartbeats 40000000
def otherA (a : GAirway) (j : Int) : Int × Bool := if j = a.from_ then (a.to, true) else if j = a.to then (a.from_, true) else (0, false)
theorem c_impl_Airway_other (a : GAirway) (j : Int) : FnSem Tryz.prog 93 [.p .any (.agg a.cells), In j] [] (Is [In (otherA a j).1, Bo (otherA a j).2] []) := by
  refine FnSem.walk (zs := zeroPV Tryz.prog) (by kernel_rfl) Tryz.func93 rfl Tryz.results93 (by kernel_rfl) (by kernel_rfl) (by kernel_rfl) fun hw hh => ?_
  obtain ⟨w0, w1, _⟩ := hw
  first | replace w0 := wf_Airway w0 | skip
  first | replace w1 := wf_I w1 | skip
  repeat' first
    | refine And.intro rfl ?_
    | refine GdF.mk (fun h => h) ?_
    | refine And.intro (Nat.succ_ne_zero _) ?_
    | refine And.intro (Nat.le_of_ble_eq_true rfl) ?_
    | refine SeqF.run ?_
    | refine GhF.go ?_
    | (refine CondF.mk (fun hb => ?_) (fun hb => ?_) <;> try simp only [forall_const, eq_self, not_true_eq_false, not_false_eq_true, or_false, false_or, or_self, or_true, true_or, and_true, true_and, and_false, false_and, decide_true, decide_false, Bool.not_true, Bool.not_false, decide_eq_true_eq, decide_eq_false_iff_not, ite_and_p, ite_or_p, Bool.decide_eq_true, Bool.and_eq_true, Bool.or_eq_true, Bool.not_eq_true', Bool.not_eq_false', Bool.and_eq_false_imp, Bool.or_eq_false_iff, bne_iff_ne, beq_iff_eq, bne_eq_false_iff_eq, beq_eq_false_iff_ne, gt_iff_lt, ge_iff_le, Int.not_lt, Int.not_le, ne_eq, Bool.true_eq_false, Bool.false_eq_true, reduceCtorEq, eta_Airway, eta_Fan, eta_Mine] at hb)
    | refine RetF.auto (And.intro rfl ?_)
    | exact Is.mk rfl rfl
    | refine Is.mk ?_ rfl
    | refine Is.mk rfl ?_
    | refine Is.mk ?_ ?_
  all_goals try dsimp only
  all_goals try simp only [Bo, I, OB.row.injEq, AV.osl.injEq, eI_same,  List.cons.injEq, AV.p.injEq, PV.c.injEq, Value.int.injEq, Value.bool.injEq, and_true, true_and, ite_and_p, ite_or_p, Bool.decide_eq_true, eta_Airway, eta_Fan, eta_Mine]
  all_goals unfold otherA
  · rw [if_pos hb]; exact ⟨rfl, rfl⟩
  · rename_i hc; rw [if_neg hc, if_pos hb]; exact ⟨rfl, rfl⟩
  · rename_i hc; rw [if_neg hc, if_neg hb]; exact ⟨rfl, rfl⟩
theorem c_impl_Mine_step (m : GMine) (i j : Int) (h : 0 ≤ i ∧ i < m.airways.length) (hm : m.airways.length ≤ 1000) : FnSem Tryz.prog 94 [.p .any (.agg m.cells), In i, In j] [] (Is [In (spL m j i.toNat)] []) := by
  refine FnSem.walk (zs := zeroPV Tryz.prog) (by kernel_rfl) Tryz.func94 rfl Tryz.results94 (by kernel_rfl) (by kernel_rfl) (by kernel_rfl) fun hw hh => ?_
  obtain ⟨w0, w1, w2, _⟩ := hw
  first | replace w0 := wf_Mine w0 | skip
  first | replace w1 := wf_I w1 | skip
  first | replace w2 := wf_I w2 | skip
  repeat' first
    | refine And.intro rfl ?_
    | refine GdF.mk (fun h => h) ?_
    | refine And.intro (Nat.succ_ne_zero _) ?_
    | refine And.intro (Nat.le_of_ble_eq_true rfl) ?_
    | refine SeqF.run ?_
    | refine GhF.go ?_
    | refine EqP.mk _ (gm GAirway.cells default rfl) ?_
    | refine BndF.mk (fun _ => by omega) ?_
    | refine BndF.mk (fun _ => by simp only [lnS]; omega) ?_
    | refine EqI.mk _ (fun _ => wrapI (by omega) (by omega)) ?_
    | refine EqI.mk _ (fun _ => rfl) ?_
    | refine EqN.mk _ (Nat.zero_add _) ?_
    | refine EqN.mk _ (Int.toNat_natCast _) ?_
    | refine EqN.mk _ rfl ?_
    | (refine CondF.mk (fun hb => ?_) (fun hb => ?_) <;> try simp only [forall_const, eq_self, not_true_eq_false, not_false_eq_true, or_false, false_or, or_self, or_true, true_or, and_true, true_and, and_false, false_and, decide_true, decide_false, Bool.not_true, Bool.not_false, decide_eq_true_eq, decide_eq_false_iff_not, ite_and_p, ite_or_p, Bool.decide_eq_true, Bool.and_eq_true, Bool.or_eq_true, Bool.not_eq_true', Bool.not_eq_false', Bool.and_eq_false_imp, Bool.or_eq_false_iff, bne_iff_ne, beq_iff_eq, bne_eq_false_iff_eq, beq_eq_false_iff_ne, gt_iff_lt, ge_iff_le, Int.not_lt, Int.not_le, ne_eq, Bool.true_eq_false, Bool.false_eq_true, reduceCtorEq, eta_Airway, eta_Fan, eta_Mine] at hb)
    | refine RetF.auto (And.intro rfl ?_)
    | exact Is.mk rfl rfl
    | refine Is.mk ?_ rfl
    | refine Is.mk rfl ?_
    | refine Is.mk ?_ ?_
  all_goals try dsimp only
  all_goals try simp only [Bo, I, OB.row.injEq, AV.osl.injEq, eI_same,  List.cons.injEq, AV.p.injEq, PV.c.injEq, Value.int.injEq, Value.bool.injEq, and_true, true_and, ite_and_p, ite_or_p, Bool.decide_eq_true, eta_Airway, eta_Fan, eta_Mine]
  all_goals (unfold spL awI; first | (rw [if_pos hb]; omega) | (rw [if_neg hb]; omega))
theorem c_slices_Index_int64_int64 (xs : List Int) (x : Int) : FnSem Tryz.prog 92 [Lx (LI xs), In x] [] (Is [In (idxG (fun y => decide (x = y)) xs)] []) := by
  refine FnSem.walk (zs := zeroPV Tryz.prog) (by kernel_rfl) Tryz.func92 rfl Tryz.results92 (by kernel_rfl) (by kernel_rfl) (by kernel_rfl) fun hw hh => ?_
  obtain ⟨w0, w1, _⟩ := hw
  first | replace w0 := wf_LI w0 | skip
  first | replace w1 := wf_I w1 | skip
  repeat' first
    | refine And.intro rfl ?_
    | refine GdF.mk (fun h => h) ?_
    | refine And.intro (Nat.succ_ne_zero _) ?_
    | refine And.intro (Nat.le_of_ble_eq_true rfl) ?_
    | refine SeqF.run ?_
    | refine LoopF.at 2 rfl (LoopF.fix [0, 1, 7] (Int) (fun i => 0 ≤ i ∧ i ≤ xs.length ∧ ∀ j : Nat, (j : Int) < i → decide (x = xs.getD j 0) = false) (fun i => [(8, In i)]) (fun i => []) (fun i => ((xs.length - i).toNat)) (0) ?_)
    | (refine LoopB.of (T := Int) ?_ ?_; rotate_left; rintro i ⟨h0, h1, h2⟩; rotate_left)
    | refine GhF.go ?_
    | refine EqP.mk _ (gm eI 0 rfl) ?_
    | refine BndF.mk (fun _ => by omega) ?_
    | refine BndF.mk (fun _ => by simp only [lnS]; omega) ?_
    | refine EqI.mk _ (fun _ => wrapI (by omega) (by omega)) ?_
    | refine EqI.mk _ (fun _ => rfl) ?_
    | refine EqN.mk _ (ln eI) ?_
    | refine EqN.mk _ (Nat.zero_add _) ?_
    | refine EqN.mk _ (Int.toNat_natCast _) ?_
    | refine EqN.mk _ rfl ?_
    | (refine CondF.mk (fun hb => ?_) (fun hb => ?_) <;> try simp only [forall_const, eq_self, not_true_eq_false, not_false_eq_true, or_false, false_or, or_self, or_true, true_or, and_true, true_and, and_false, false_and, decide_true, decide_false, Bool.not_true, Bool.not_false, decide_eq_true_eq, decide_eq_false_iff_not, ite_and_p, ite_or_p, Bool.decide_eq_true, Bool.and_eq_true, Bool.or_eq_true, Bool.not_eq_true', Bool.not_eq_false', Bool.and_eq_false_imp, Bool.or_eq_false_iff, bne_iff_ne, beq_iff_eq, bne_eq_false_iff_eq, beq_eq_false_iff_ne, gt_iff_lt, ge_iff_le, Int.not_lt, Int.not_le, ne_eq, Bool.true_eq_false, Bool.false_eq_true, reduceCtorEq, eta_Airway, eta_Fan, eta_Mine] at hb)
    | apply BackF.auto
    | refine BackB.mk ?_ ?_
    | refine RetF.auto (And.intro rfl ?_)
    | exact Is.mk rfl rfl
    | refine Is.mk ?_ rfl
    | refine Is.mk rfl ?_
    | refine Is.mk ?_ ?_
  all_goals try dsimp only
  all_goals try simp only [Bo, I, OB.row.injEq, AV.osl.injEq, eI_same,  List.cons.injEq, AV.p.injEq, PV.c.injEq, Value.int.injEq, Value.bool.injEq, and_true, true_and, ite_and_p, ite_or_p, Bool.decide_eq_true, eta_Airway, eta_Fan, eta_Mine]
  all_goals first
    | omega
    | exact ⟨by omega, by omega, all_0⟩
    | exact ⟨by omega, by omega, all_s (P := fun j => decide (x = xs.getD j 0) = false) h0 h2 (by simpa using hb)⟩
    | exact idxG_at (d := 0) h0 (by omega) (by simpa using hb) h2
    | exact idxG_none (d := 0) (by omega) h2
    | skip
theorem c_slices_Contains_int64_int64 (xs : List Int) (x : Int) : FnSem Tryz.prog 74 [Lx (LI xs), In x] [] (Is [Bo (decide (x ∈ xs))] []) := by
  refine FnSem.walk (zs := zeroPV Tryz.prog) (by kernel_rfl) Tryz.func74 rfl Tryz.results74 (by kernel_rfl) (by kernel_rfl) (by kernel_rfl) fun hw hh => ?_
  obtain ⟨w0, w1, _⟩ := hw
  first | replace w0 := wf_LI w0 | skip
  first | replace w1 := wf_I w1 | skip
  repeat' first
    | refine And.intro rfl ?_
    | refine GdF.mk (fun h => h) ?_
    | refine And.intro (Nat.succ_ne_zero _) ?_
    | refine And.intro (Nat.le_of_ble_eq_true rfl) ?_
    | refine SeqF.run ?_
    | refine ArgF.is (c_slices_Index_int64_int64 xs x) ?_
    | refine ArgQ.is (fun hG => c_slices_Index_int64_int64 xs x) rfl rfl ?_
    | refine GhF.go ?_
    | refine BndF.mk (fun _ => by omega) ?_
    | refine BndF.mk (fun _ => by simp only [lnS]; omega) ?_
    | refine EqL.mk _ (tk eI (by first | rfl | assumption | omega | (simp only [lnS] <;> omega))) ?_
    | refine EqL.mk [] rfl ?_
    | refine EqL.mk [_] rfl ?_
    | refine EqL.mk _ rfl ?_
    | refine ArgF.is (c_slices_Index_int64_int64 ..) ?_
    | refine ArgQ.is (fun hG => c_slices_Index_int64_int64 ..) rfl rfl ?_
    | refine CallF.mk (CallW.is [] true rfl ?_)
    | refine CallG.mk ?_
    | (refine CondF.mk (fun hb => ?_) (fun hb => ?_) <;> try simp only [forall_const, eq_self, not_true_eq_false, not_false_eq_true, or_false, false_or, or_self, or_true, true_or, and_true, true_and, and_false, false_and, decide_true, decide_false, Bool.not_true, Bool.not_false, decide_eq_true_eq, decide_eq_false_iff_not, ite_and_p, ite_or_p, Bool.decide_eq_true, Bool.and_eq_true, Bool.or_eq_true, Bool.not_eq_true', Bool.not_eq_false', Bool.and_eq_false_imp, Bool.or_eq_false_iff, bne_iff_ne, beq_iff_eq, bne_eq_false_iff_eq, beq_eq_false_iff_ne, gt_iff_lt, ge_iff_le, Int.not_lt, Int.not_le, ne_eq, Bool.true_eq_false, Bool.false_eq_true, reduceCtorEq, eta_Airway, eta_Fan, eta_Mine] at hb)
    | refine RetF.auto (And.intro rfl ?_)
    | exact Is.mk rfl rfl
    | refine Is.mk ?_ rfl
    | refine Is.mk rfl ?_
    | refine Is.mk ?_ ?_
  all_goals try dsimp only
  all_goals try simp only [Bo, I, OB.row.injEq, AV.osl.injEq, eI_same,  List.cons.injEq, AV.p.injEq, PV.c.injEq, Value.int.injEq, Value.bool.injEq, and_true, true_and, ite_and_p, ite_or_p, Bool.decide_eq_true, eta_Airway, eta_Fan, eta_Mine]
  · rw [show decide (x ∈ xs) = xs.any (fun y => decide (x = y)) by
      rw [Bool.eq_iff_iff, List.any_eq_true, decide_eq_true_eq]
      exact ⟨fun h => ⟨x, h, decide_eq_true rfl⟩, fun ⟨y, h, e⟩ => by rw [of_decide_eq_true e]; exact h⟩]
    exact idxG_any
theorem tkT {ys s : List Int} {n : Nat} (h : ys.take n = s) : ((ys.map eI).drop 0).take n = s.map eI := by rw [← h]; simp
theorem snT {ys s : List Int} {n : Nat} {v : Int} (h : ys.take n = s) : ((ys.map eI).drop 0).take n ++ [eI v] = (s ++ [v]).map eI := by rw [← h]; simp
end Go.Proofs.YtdhkpmaanegjkaaGreat
/- Contracts of functions of the program, and what they compute. Conditions: those that each theorem states. -/
set_option linter.unusedVariables false
set_option linter.unusedSimpArgs false
namespace Go.Proofs.YtdhkpmaanegjkaaGreat
open Go.Av
attribute [local irreducible] Go.IntKind.wrap leastI rdZ rd rootI okMine
set_option maxRecDepth 20000
set_option maxHeartbeats 8000000
section
variable (m : GMine) (ls : List Int)
def stA (u v : Int) : Prop := ∃ i ∈ ls, (0 ≤ i ∧ i < m.airways.length) ∧ otherA (m.airways.getD i.toNat default) u = (v, true)
def wkA : Nat → Int → Int → Prop
  | 0, u, v => u = v
  | n + 1, u, v => ∃ x, stA m ls u x ∧ wkA n x v
def cnA (u v : Int) : Prop := ∃ n, wkA m ls n u v
def dsA (n : Nat) (u v : Int) : Prop := wkA m ls n u v ∧ ∀ k, wkA m ls k u v → n ≤ k
end
section
variable {m : GMine} {ls : List Int}
theorem oth_p (hm : okMine m = true) {i : Int} (hi : 0 ≤ i ∧ i < m.airways.length) {u v : Int} (h : otherA (m.airways.getD i.toNat default) u = (v, true)) : (u = (m.airways.getD i.toNat default).from_ ∧ v = (m.airways.getD i.toNat default).to) ∨ (u = (m.airways.getD i.toNat default).to ∧ v = (m.airways.getD i.toNat default).from_) := by
  unfold otherA at h
  split at h
  · rename_i e
    exact .inl ⟨e, by simpa using (congrArg Prod.fst h).symm⟩
  · split at h
    · rename_i e
      exact .inr ⟨e, by simpa using (congrArg Prod.fst h).symm⟩
    · simp at h
theorem oth_f (hm : okMine m = true) {i : Int} (hi : 0 ≤ i ∧ i < m.airways.length) : otherA (m.airways.getD i.toNat default) (m.airways.getD i.toNat default).from_ = ((m.airways.getD i.toNat default).to, true) ∧ otherA (m.airways.getD i.toNat default) (m.airways.getD i.toNat default).to = ((m.airways.getD i.toNat default).from_, true) := by
  have q := okAirway_b ((okMine_p hm).2.2 i.toNat (by omega)).1
  unfold otherA
  rw [if_pos rfl, if_neg (by omega), if_pos rfl]
  exact ⟨rfl, rfl⟩
theorem stA_sym (hm : okMine m = true) {u v : Int} (h : stA m ls u v) : stA m ls v u := by
  obtain ⟨i, h1, h2, h3⟩ := h
  have q := oth_f hm h2
  rcases oth_p hm h2 h3 with ⟨rfl, rfl⟩ | ⟨rfl, rfl⟩
  · exact ⟨i, h1, h2, q.2⟩
  · exact ⟨i, h1, h2, q.1⟩
theorem stA_V (hm : okMine m = true) {u v : Int} (h : stA m ls u v) : inV m u ∧ inV m v := by
  obtain ⟨i, h1, h2, h3⟩ := h
  have q := edV hm (i := i.toNat) (by omega)
  rcases oth_p hm h2 h3 with ⟨rfl, rfl⟩ | ⟨rfl, rfl⟩
  · exact q
  · exact q.symm
theorem wkA_add : ∀ (n k : Nat) (u x v : Int), wkA m ls n u x → wkA m ls k x v → wkA m ls (n + k) u v
  | 0, k, u, x, v, h1, h2 => by rw [show u = x from h1, Nat.zero_add]; exact h2
  | n + 1, k, u, x, v, h1, h2 => by
    obtain ⟨y, h3, h4⟩ := h1
    rw [show n + 1 + k = (n + k) + 1 by omega]
    exact ⟨y, h3, wkA_add n k y x v h4 h2⟩
theorem wkA_one {u v : Int} (h : stA m ls u v) : wkA m ls 1 u v := ⟨v, h, rfl⟩
theorem wkA_sym (hm : okMine m = true) : ∀ (n : Nat) (u v : Int), wkA m ls n u v → wkA m ls n v u
  | 0, u, v, h => Eq.symm h
  | n + 1, u, v, h => by
    obtain ⟨x, h1, h2⟩ := h
    exact wkA_add n 1 v x u (wkA_sym hm n x v h2) (wkA_one (stA_sym hm h1))
theorem stA_mono {bs : List Int} (h : ∀ i ∈ ls, i ∈ bs) {u v : Int} (hs : stA m ls u v) : stA m bs u v := by
  obtain ⟨i, h1, h2⟩ := hs
  exact ⟨i, h i h1, h2⟩
theorem wkA_mono {bs : List Int} (h : ∀ i ∈ ls, i ∈ bs) : ∀ (n : Nat) (u v : Int), wkA m ls n u v → wkA m bs n u v
  | 0, _, _, e => e
  | n + 1, u, v, ⟨x, h1, h2⟩ => ⟨x, stA_mono h h1, wkA_mono h n x v h2⟩
theorem dsA_fun {n k : Nat} {u v : Int} (h : dsA m ls n u v) (h2 : dsA m ls k u v) : n = k := Nat.le_antisymm (h.2 k h2.1) (h2.2 n h.1)
structure rcI (m : GMine) (ls : List Int) (from_ : Int) (A : List Int) (k : Nat) : Prop where
  nd : A.Nodup
  rg : ∀ v ∈ A, inV m v
  fr : from_ ∈ A
  wk : ∀ v ∈ A, cnA m ls from_ v
  q3 : ∀ i, i < k → i < A.length → ∀ u, stA m ls (A.getD i 0) u → u ∈ A
theorem rcI_0 {f : Int} (hf : inV m f) : rcI m ls f [f] 0 :=
  ⟨by simp, by simpa using hf, by simp, fun v hv => by rw [List.mem_singleton.1 hv]; exact ⟨0, rfl⟩, fun i hi => absurd hi (by omega)⟩
theorem getD_app {A : List Int} {x : Int} {i : Nat} (h : i < A.length) : (A ++ [x]).getD i 0 = A.getD i 0 := by
  rw [List.getD_eq_getElem?_getD, List.getD_eq_getElem?_getD, List.getElem?_append_left h]
theorem rcI_add (hm : okMine m = true) {f x : Int} {A : List Int} {k : Nat} (h : rcI m ls f A k) (hk : k < A.length) (hx : stA m ls (A.getD k 0) x) (hn : x ∉ A) : rcI m ls f (A ++ [x]) k := by
  have hkm : A.getD k 0 ∈ A := getD_mem hk
  refine ⟨?_, ?_, List.mem_append_left _ h.fr, ?_, ?_⟩
  · rw [List.nodup_append]
    exact ⟨h.nd, by simp, fun a ha b hb => by rw [List.mem_singleton.1 hb]; rintro rfl; exact hn ha⟩
  · intro v hv
    rcases List.mem_append.1 hv with hv | hv
    · exact h.rg v hv
    · rw [List.mem_singleton.1 hv]; exact (stA_V hm hx).2
  · intro v hv
    rcases List.mem_append.1 hv with hv | hv
    · exact h.wk v hv
    · rw [List.mem_singleton.1 hv]
      obtain ⟨n, hn⟩ := h.wk _ hkm
      exact ⟨n + 1, wkA_add n 1 _ _ _ hn (wkA_one hx)⟩
  · intro i hi _ u hu
    rw [getD_app (by omega)] at hu
    exact List.mem_append_left _ (h.q3 i hi (by omega) u hu)
theorem rcI_s {f : Int} {A : List Int} {k : Nat} (h : rcI m ls f A k) (hq : ∀ u, stA m ls (A.getD k 0) u → u ∈ A) : rcI m ls f A (k + 1) :=
  ⟨h.nd, h.rg, h.fr, h.wk, fun i hi hl u hu => by
    by_cases e : i = k
    · subst e; exact hq u hu
    · exact h.q3 i (by omega) hl u hu⟩
theorem rcI_end {f : Int} {A : List Int} {k : Nat} (h : rcI m ls f A k) (hk : A.length ≤ k) (v : Int) : v ∈ A ↔ cnA m ls f v := by
  refine ⟨h.wk v, ?_⟩
  rintro ⟨n, hn⟩
  have key : ∀ (n : Nat) (u v : Int), u ∈ A → wkA m ls n u v → v ∈ A := by
    intro n
    induction n with
    | zero => intro u v hu e; rw [← show u = v from e]; exact hu
    | succ n ih =>
      rintro u v hu ⟨x, h1, h2⟩
      obtain ⟨i, hi, rfl⟩ := List.getElem_of_mem hu
      refine ih x v (h.q3 i (by omega) hi x ?_) h2
      rw [List.getD_eq_getElem?_getD, List.getElem?_eq_getElem hi]; exact h1
  exact key n f v h.fr hn
theorem rcI_len (hm : okMine m = true) {f : Int} {A : List Int} {k : Nat} (h : rcI m ls f A k) : (A.length : Int) ≤ m.junctions := by
  have hJ := (okMine_p hm).1
  have := pigW m.junctions.toNat A h.nd (fun v hv => by have := h.rg v hv; unfold inV at this; omega)
  omega
def fv (F : Int → Option Int) (v : Int) : Int := (F v).getD 0
structure bfI (m : GMine) (ls : List Int) (to : Int) (A : List Int) (k : Nat) (F : Int → Option Int) : Prop where
  nd : A.Nodup
  rg : ∀ v ∈ A, inV m v
  dm : ∀ v, (F v).isSome = true ↔ v ∈ A
  p1 : F to = some 0
  p2 : ∀ v ∈ A, (v = to ∧ fv F v = 0) ∨ ∃ u ∈ A, stA m ls v u ∧ fv F v = fv F u + 1
  nn : ∀ v ∈ A, 0 ≤ fv F v ∧ fv F v ≤ A.length
  so : ∀ i j : Nat, i ≤ j → j < A.length → fv F (A.getD i 0) ≤ fv F (A.getD j 0)
  q2 : k < A.length → ∀ v ∈ A, fv F v ≤ fv F (A.getD k 0) + 1
  q3 : ∀ i, i < k → i < A.length → ∀ u, stA m ls (A.getD i 0) u → u ∈ A ∧ fv F u ≤ fv F (A.getD i 0) + 1
def F0 (to : Int) : Int → Option Int := fun v => if v = to then some 0 else none
theorem bfI_0 {to : Int} (ht : inV m to) : bfI m ls to [to] 0 (F0 to) := by
  have e : fv (F0 to) to = 0 := by unfold fv F0; rw [if_pos rfl]; rfl
  refine ⟨by simp, by simpa using ht, fun v => ?_, by unfold F0; rw [if_pos rfl], fun v hv => ?_, fun v hv => ?_, fun i j hij hj => ?_, fun _ v hv => ?_, fun i hi => absurd hi (by omega)⟩
  · unfold F0; by_cases h : v = to <;> simp [h]
  · rw [List.mem_singleton.1 hv]; exact .inl ⟨rfl, e⟩
  · rw [List.mem_singleton.1 hv, e]; simp
  · simp only [List.length_cons, List.length_nil] at hj
    rw [show i = 0 by omega, show j = 0 by omega]; exact Int.le_refl _
  · rw [List.mem_singleton.1 hv]
    show _ ≤ fv _ to + 1
    omega
def updF (F : Int → Option Int) (x d : Int) : Int → Option Int := fun v => if v = x then some d else F v
theorem bfI_add (hm : okMine m = true) {to x : Int} {A : List Int} {k : Nat} {F : Int → Option Int} (h : bfI m ls to A k F) (hk : k < A.length) (hx : stA m ls (A.getD k 0) x) (hn : (F x).isSome = false) : bfI m ls to (A ++ [x]) k (updF F x (fv F (A.getD k 0) + 1)) := by
  have hkm : A.getD k 0 ∈ A := getD_mem hk
  have hxA : x ∉ A := fun e => by rw [(h.dm x).2 e] at hn; cases hn
  have eo : ∀ v ∈ A, fv (updF F x (fv F (A.getD k 0) + 1)) v = fv F v := fun v hv => by
    unfold fv updF
    rw [if_neg (show ¬v = x from fun e => hxA (by rw [← e]; exact hv))]
  have ex : fv (updF F x (fv F (A.getD k 0) + 1)) x = fv F (A.getD k 0) + 1 := by
    show Option.getD (if x = x then _ else _) 0 = _
    rw [if_pos rfl]; rfl
  have eg : ∀ i, i < A.length → fv (updF F x (fv F (A.getD k 0) + 1)) ((A ++ [x]).getD i 0) = fv F (A.getD i 0) := fun i hi => by
    rw [getD_app hi]; exact eo _ (getD_mem hi)
  have ee : (A ++ [x]).getD A.length 0 = x := by simp [List.getD_eq_getElem?_getD]
  refine ⟨?_, ?_, fun v => ?_, ?_, ?_, ?_, ?_, ?_, ?_⟩
  · rw [List.nodup_append]
    exact ⟨h.nd, by simp, fun a ha b hb => by rw [List.mem_singleton.1 hb]; rintro rfl; exact hxA ha⟩
  · intro v hv
    rcases List.mem_append.1 hv with hv | hv
    · exact h.rg v hv
    · rw [List.mem_singleton.1 hv]; exact (stA_V hm hx).2
  · rw [List.mem_append, List.mem_singleton]
    unfold updF
    by_cases e : v = x
    · simp [e]
    · rw [if_neg e, h.dm v]; simp [e]
  · unfold updF
    rw [if_neg, h.p1]
    intro e
    have : to ∈ A := (h.dm to).1 (by rw [h.p1]; rfl)
    exact hxA (e ▸ this)
  · intro v hv
    rcases List.mem_append.1 hv with hv | hv
    · rcases h.p2 v hv with h1 | ⟨u, h1, h2, h3⟩
      · exact .inl ⟨h1.1, by rw [eo v hv]; exact h1.2⟩
      · exact .inr ⟨u, List.mem_append_left _ h1, h2, by rw [eo v hv, eo u h1]; exact h3⟩
    · rw [List.mem_singleton.1 hv]
      exact .inr ⟨_, List.mem_append_left _ hkm, stA_sym hm hx, by rw [ex, eo _ hkm]⟩
  · intro v hv
    rw [List.length_append, List.length_singleton]
    rcases List.mem_append.1 hv with hv | hv
    · rw [eo v hv]; have := h.nn v hv; omega
    · rw [List.mem_singleton.1 hv, ex]; have := h.nn _ hkm; omega
  · intro i j hij hj
    rw [List.length_append, List.length_singleton] at hj
    by_cases e : j < A.length
    · rw [eg i (by omega), eg j e]; exact h.so i j hij e
    · have e2 : j = A.length := by omega
      subst e2
      rw [ee, ex]
      by_cases e3 : i < A.length
      · rw [eg i e3]; exact h.q2 hk _ (getD_mem e3)
      · rw [show i = A.length by omega, ee, ex]; exact Int.le_refl _
  · intro _ v hv
    rw [eg k hk]
    rcases List.mem_append.1 hv with hv | hv
    · rw [eo v hv]; exact h.q2 hk v hv
    · rw [List.mem_singleton.1 hv, ex]; exact Int.le_refl _
  · intro i hi _ u hu
    rw [getD_app (by omega)] at hu
    obtain ⟨h1, h2⟩ := h.q3 i hi (by omega) u hu
    exact ⟨List.mem_append_left _ h1, by rw [eg i (by omega), eo u h1]; exact h2⟩
theorem bfI_s {to : Int} {A : List Int} {k : Nat} {F : Int → Option Int} (h : bfI m ls to A k F) (hk : k < A.length) (hq : ∀ u, stA m ls (A.getD k 0) u → u ∈ A) : bfI m ls to A (k + 1) F where
  nd := h.nd
  rg := h.rg
  dm := h.dm
  p1 := h.p1
  p2 := h.p2
  nn := h.nn
  so := h.so
  q2 := fun hk2 v hv => by
    have a := h.q2 hk v hv
    have b := h.so k (k + 1) (by omega) hk2
    omega
  q3 := fun i hi hl u hu => by
    by_cases e : i = k
    · subst e
      exact ⟨hq u hu, h.q2 hk u (hq u hu)⟩
    · exact h.q3 i (by omega) hl u hu
theorem bfI_len (hm : okMine m = true) {to : Int} {A : List Int} {k : Nat} {F : Int → Option Int} (h : bfI m ls to A k F) : (A.length : Int) ≤ m.junctions := by
  have hJ := (okMine_p hm).1
  have := pigW m.junctions.toNat A h.nd (fun v hv => by have := h.rg v hv; unfold inV at this; omega)
  omega
structure farI (m : GMine) (ls : List Int) (to : Int) (F : Int → Option Int) : Prop where
  p1 : F to = some 0
  p2 : ∀ v d, F v = some d → (v = to ∧ d = 0) ∨ ∃ u, stA m ls v u ∧ F u = some (d - 1)
  nn : ∀ v d, F v = some d → 0 ≤ d ∧ d ≤ m.junctions
  p3 : ∀ v d u, F v = some d → stA m ls v u → ∃ e, F u = some e ∧ e ≤ d + 1
theorem fv_some {F : Int → Option Int} {v d : Int} (h : F v = some d) : fv F v = d := by unfold fv; rw [h]; rfl
theorem some_fv {F : Int → Option Int} {v : Int} (h : (F v).isSome = true) : F v = some (fv F v) := by
  obtain ⟨d, hd⟩ := Option.isSome_iff_exists.1 h
  rw [fv_some hd]; exact hd
theorem bfI_end (hm : okMine m = true) {to : Int} {A : List Int} {k : Nat} {F : Int → Option Int} (h : bfI m ls to A k F) (hk : A.length ≤ k) : farI m ls to F where
  p1 := h.p1
  p2 := fun v d hd => by
    have hv : v ∈ A := (h.dm v).1 (by rw [hd]; rfl)
    have e := fv_some hd
    rcases h.p2 v hv with h1 | ⟨u, h1, h2, h3⟩
    · exact .inl ⟨h1.1, by rw [← e]; exact h1.2⟩
    · exact .inr ⟨u, h2, by rw [some_fv ((h.dm u).2 h1)]; congr 1; omega⟩
  nn := fun v d hd => by
    have hv : v ∈ A := (h.dm v).1 (by rw [hd]; rfl)
    have := h.nn v hv
    have := bfI_len hm h
    rw [fv_some hd] at *
    omega
  p3 := fun v d u hd hs => by
    have hv : v ∈ A := (h.dm v).1 (by rw [hd]; rfl)
    obtain ⟨i, hi, rfl⟩ := List.getElem_of_mem hv
    have hg : A.getD i 0 = A[i] := by rw [List.getD_eq_getElem?_getD, List.getElem?_eq_getElem hi]; rfl
    obtain ⟨h1, h2⟩ := h.q3 i (by omega) hi u (by rw [hg]; exact hs)
    rw [hg, fv_some hd] at h2
    exact ⟨_, some_fv ((h.dm u).2 h1), h2⟩
theorem farI.le (hm : okMine m = true) {to : Int} {F : Int → Option Int} (h : farI m ls to F) : ∀ (n : Nat) (v : Int), wkA m ls n v to → ∃ d, F v = some d ∧ d ≤ n
  | 0, v, e => ⟨0, by rw [show v = to from e]; exact h.p1, Int.le_refl _⟩
  | n + 1, v, ⟨x, h1, h2⟩ => by
    obtain ⟨d, e1, e2⟩ := h.le hm n x h2
    obtain ⟨e, e3, e4⟩ := h.p3 x d v e1 (stA_sym hm h1)
    exact ⟨e, e3, by omega⟩
theorem farI.wk {to : Int} {F : Int → Option Int} (h : farI m ls to F) : ∀ (n : Nat) (v : Int), F v = some (n : Int) → wkA m ls n v to
  | 0, v, e => by
    rcases h.p2 v 0 e with h1 | ⟨u, _, h2⟩
    · exact h1.1
    · have := h.nn u _ h2; omega
  | n + 1, v, e => by
    rcases h.p2 v _ e with h1 | ⟨u, h1, h2⟩
    · have := h1.2; omega
    · exact ⟨u, h1, h.wk n u (by rw [h2]; congr 1; omega)⟩
theorem farI.ds (hm : okMine m = true) {to : Int} {F : Int → Option Int} (h : farI m ls to F) {v d : Int} (e : F v = some d) : dsA m ls d.toNat v to := by
  have := h.nn v d e
  refine ⟨h.wk d.toNat v (by rw [e]; congr 1; omega), fun k hk => ?_⟩
  obtain ⟨d', e1, e2⟩ := h.le hm k v hk
  rw [e] at e1; cases e1; omega
theorem farI.no (hm : okMine m = true) {to : Int} {F : Int → Option Int} (h : farI m ls to F) {v : Int} (e : F v = none) : ¬cnA m ls v to := by
  rintro ⟨n, hn⟩
  obtain ⟨d, e1, _⟩ := h.le hm n v hn
  rw [e] at e1; cases e1
end
end Go.Proofs.YtdhkpmaanegjkaaGreat
