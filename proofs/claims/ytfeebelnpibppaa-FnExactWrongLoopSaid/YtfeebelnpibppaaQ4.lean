/- Contracts of functions of the program, and what they compute. Conditions: those that each theorem states. -/
import Derived.Test.YtfeebelnpibppaaProg
import Derived.Test.YtfeebelnpibppaaQ3
import Derived.Test.YtfeebelnpibppaaR0b
set_option linter.unusedVariables false
set_option linter.unusedSimpArgs false
namespace Go.Proofs.Ytfeebelnpibppaa
open Go.Av
attribute [local irreducible] Go.IntKind.wrap leastI rdZ rd rootI rawA okMine gainsI stepB roundB potN potI binI askB
set_option maxRecDepth 20000
set_option maxHeartbeats 8000000

/-! Potentials, and pushes that are enough. -/
def potC (m : GMine) (ds ps : List Int) (rg : List Bool) : Int := if askB m ds ps rg = 0 then (if (potI m (gainsI ps ds) rg).isSome = true then 0 else 3) else askB m ds ps rg
inductive PotsR (m : GMine) (ds ps : List Int) (rg : List Bool) (rs : List AV) (ho : List OB) : Prop
  | mk (c : Int) (p : List Int) (h1 : rs = [.osl 0 0 p.length, In c]) (h2 : ho = [Rw .flat (eI 0) (p.map eI)]) (h : c = potC m ds ps rg) (h3 : c = 0 → potI m (gainsI ps ds) rg = some p)
theorem okB_of {m : GMine} {ds ps : List Int} {rg : List Bool} (h : askB m ds ps rg = 0) : okB m (gainsI ps ds) rg := by
  have q := askB_l h
  exact ⟨q.1, by rw [gainsI_len]; exact q.2.2.2.1, q.2.2.2.2.1, bdL_mono (gainsI_bd q.2.2.2.2.2.1 q.2.2.2.2.2.2) (by omega)⟩
theorem c_impl_PotentialsOf (m : GMine) (ds ps : List Int) (rg : List Bool) : FnSem Try.prog 24 [.p .any (.agg m.cells), Lx (LI ds), Lx (LI ps), Lx (LB rg)] [] (PotsR m ds ps rg) := by
  refine FnSem.walk (zs := zeroPV Try.prog) (by kernel_rfl) Try.func24 rfl Try.results24 (by kernel_rfl) (by kernel_rfl) (by kernel_rfl) fun hw hh => ?_
  obtain ⟨w0, w1, w2, w3, _⟩ := hw
  first | replace w0 := wf_Mine w0 | skip
  first | replace w1 := wf_LI w1 | skip
  first | replace w2 := wf_LI w2 | skip
  first | replace w3 := wf_I w3 | replace w3 := wf_Y w3 | replace w3 := wf_S w3 | replace w3 := wf_LI w3 | replace w3 := wf_LY w3 | replace w3 := wf_LLI w3 | replace w3 := wf_Ls w3 | skip
  repeat' first
    | refine And.intro rfl ?_
    | refine GdF.mk (fun h => h) ?_
    | refine And.intro (Nat.succ_ne_zero _) ?_
    | refine And.intro (Nat.le_of_ble_eq_true rfl) ?_
    | refine SeqF.run ?_
    | refine CallF.mk (f := 115) (CallW.is [] false rfl ?_)
    | (refine ArgF.mk _ (c_impl_boostersOf m ds ps rg) (fun rs ho hR _ => ?_); rcases hR with ⟨hs, rfl, rfl⟩ | ⟨hs, rfl, rfl⟩)
    | exact absurd hb hs
    | (refine ArgF.mk _ (c_impl_booster_potentials m (gainsI ps ds) rg (okB_of hs)) (fun rs ho hR _ => ?_); rcases hR with ⟨p, hp, rfl, rfl⟩ | ⟨hp, rfl, rfl⟩)
    | refine PotsR.mk _ [] rfl rfl ?_ ?_
    | refine PotsR.mk _ _ rfl rfl ?_ ?_
    | refine GhF.go ?_
    | refine MkF.row ?_
    | refine BndF.mk (fun _ => by omega) ?_
    | refine BndF.mk (fun _ => by simp only [List.length_map, List.length_cons, List.length_nil, List.length_append, List.length_set, List.length_replicate, iotaI_len]; omega) ?_
    | refine EqN.mk _ (Nat.zero_add _) ?_
    | refine EqN.mk _ (Int.toNat_natCast _) ?_
    | refine EqN.mk _ rfl ?_
    | refine EqL.mk _ (tk eI (by first | rfl | assumption | omega | (simp only [List.length_map, List.length_cons, List.length_nil, List.length_append, List.length_set, List.length_replicate, iotaI_len]; done) | (simp only [List.length_map, List.length_cons, List.length_nil, List.length_append, List.length_set, List.length_replicate, iotaI_len]; omega))) ?_
    | refine EqL.mk _ (st eI) ?_
    | refine EqL.mk _ (dt eI) ?_
    | refine EqL.mk _ (tk eB (by first | rfl | assumption | omega | (simp only [List.length_map, List.length_cons, List.length_nil, List.length_append, List.length_set, List.length_replicate, iotaI_len]; done) | (simp only [List.length_map, List.length_cons, List.length_nil, List.length_append, List.length_set, List.length_replicate, iotaI_len]; omega))) ?_
    | refine EqL.mk _ (st eB) ?_
    | refine EqL.mk _ (dt eB) ?_
    | refine EqL.mk [] rfl ?_
    | refine EqL.mk [_] rfl ?_
    | refine EqL.mk _ rfl ?_
    | refine ArgF.is (c_impl_boostersOf ⟨_, _⟩ _ _ _) ?_
    | refine ArgQ.is (fun hG => c_impl_boostersOf ⟨_, _⟩ _ _ _) rfl rfl ?_
    | refine ArgF.is (c_impl_booster_potentials ⟨_, _⟩ _ _ (by first | assumption | omega)) ?_
    | refine ArgQ.is (fun hG => c_impl_booster_potentials ⟨_, _⟩ _ _ (by first | assumption | omega)) rfl rfl ?_
    | refine CallF.mk (CallW.is [] true rfl ?_)
    | refine CallG.mk ?_
    | (refine CondF.mk (fun hb => ?_) (fun hb => ?_) <;> try simp only [forall_const, eq_self, not_true_eq_false, not_false_eq_true, or_false, false_or, or_self, or_true, true_or, and_true, true_and, and_false, false_and, decide_true, decide_false, Bool.not_true, Bool.not_false, decide_eq_true_eq, decide_eq_false_iff_not, ite_and_p, ite_or_p, Bool.decide_eq_true, Bool.and_eq_true, Bool.or_eq_true, Bool.not_eq_true', Bool.not_eq_false', Bool.and_eq_false_imp, Bool.or_eq_false_iff, bne_iff_ne, beq_iff_eq, bne_eq_false_iff_eq, beq_eq_false_iff_ne, gt_iff_lt, ge_iff_le, Int.not_lt, Int.not_le, ne_eq, Bool.true_eq_false, Bool.false_eq_true, reduceCtorEq, eta_Airway, eta_Fan, eta_Mine] at hb)
    | refine RetF.auto (And.intro rfl ?_)
    | exact Is.mk rfl rfl
    | refine Is.mk ?_ rfl
    | refine Is.mk rfl ?_
    | refine Is.mk ?_ ?_
  all_goals try dsimp only
  all_goals first
    | (unfold potC; rw [if_neg hs])
    | exact fun e => absurd e hs
    | (unfold potC; rw [if_pos hs, hp]; rfl)
    | exact fun _ => hp
    | (intro e; cases e)
    | skip
def addG (g : List Int) (xs : List Int) (d : Int) (i : Int) : List Int := foldT (fun g x => g.set x.toNat (g.getD x.toNat 0 + d)) g xs i
theorem addG_p {g xs : List Int} {d : Int} (hg : bdL 1020000 g) (hd : 0 ≤ d ∧ d ≤ 20000) : ∀ i : Nat, i ≤ xs.length → (addG g xs d i).length = g.length ∧ bdL (1020000 + 20000 * i) (addG g xs d i)
  | 0, _ => by unfold addG; rw [show ((0 : Nat) : Int) = 0 from rfl, foldT_0]; exact ⟨rfl, bdL_mono hg (by omega)⟩
  | i + 1, hi => by
    obtain ⟨h1, h2⟩ := addG_p (xs := xs) hg hd i (by omega)
    have e : addG g xs d ((i + 1 : Nat) : Int) = (addG g xs d i).set (xs.getD i 0).toNat ((addG g xs d i).getD (xs.getD i 0).toNat 0 + d) := by
      unfold addG
      rw [show ((i + 1 : Nat) : Int) = (i : Int) + 1 by omega, foldT_s (xs := xs) (i := (i : Int)) (by omega) (by omega) 0]; rfl
    rw [e]
    refine ⟨by rw [List.length_set, h1], bdL_set (bdL_mono h2 (by omega)) ?_⟩
    have := h2 (xs.getD i 0).toNat
    omega
def fitsB (m : GMine) (g : List Int) (rg : List Bool) (xs : List Int) (d : Int) : Bool := (potI m (addG g xs d xs.length) rg).isSome
theorem addG_s {g xs : List Int} {d i : Int} (h0 : 0 ≤ i) (h : i < xs.length) : addG g xs d (i + 1) = (addG g xs d i).set (xs.getD i.toNat 0).toNat ((addG g xs d i).getD (xs.getD i.toNat 0).toNat 0 + d) := by
  unfold addG; rw [foldT_s h0 h 0]
theorem addG_b {g xs q : List Int} {d i : Int} (hg : bdL 1020000 g) (hd : 0 ≤ d ∧ d ≤ 20000) (hl : xs.length ≤ 24) (h0 : 0 ≤ i) (h1 : i ≤ xs.length) (h2 : q = addG g xs d i) : ∀ j : Nat, -1500000 ≤ q.getD j 0 ∧ q.getD j 0 ≤ 1500000 := by
  intro j
  have a1 := (addG_p (xs := xs) hg hd i.toNat (by omega)).2 j
  rw [show ((i.toNat : Nat) : Int) = i by omega, ← h2] at a1
  omega
attribute [local irreducible] addG
theorem c_impl_booster_fits (m : GMine) (g : List Int) (rg : List Bool) (xs : List Int) (d : Int) (hm : okMine m = true) (hgl : g.length = m.airways.length) (hrl : rg.length = m.airways.length) (hg : bdL 1020000 g) (hx : ∀ j : Nat, (j : Int) < xs.length → 0 ≤ xs.getD j 0 ∧ xs.getD j 0 < m.airways.length) (hl : xs.length ≤ 24) (hd : 0 ≤ d ∧ d ≤ 20000) : FnSem Try.prog 142 [.p .any (.agg (boostC m g rg)), Lx (LI xs), In d] [] (Is [Bo (fitsB m g rg xs d)] []) := by
  have hl24 := (okMine_p hm).2.1
  have hP := fun (i : Int) (h0 : 0 ≤ i) (h1 : i ≤ xs.length) => addG_p (xs := xs) hg hd i.toNat (by omega)
  refine FnSem.walk (zs := zeroPV Try.prog) (by kernel_rfl) Try.func142 rfl Try.results142 (by kernel_rfl) (by kernel_rfl) (by kernel_rfl) fun hw hh => ?_
  obtain ⟨w0, w1, w2, _⟩ := hw
  first | replace w0 := wf_Booster w0 | skip
  first | replace w1 := wf_LI w1 | skip
  first | replace w2 := wf_I w2 | skip
  repeat' first
    | refine And.intro rfl ?_
    | refine GdF.mk (fun h => h) ?_
    | refine And.intro (Nat.succ_ne_zero _) ?_
    | refine And.intro (Nat.le_of_ble_eq_true rfl) ?_
    | refine SeqF.run ?_
    | refine LoopF.at 3 rfl (LoopF.fix [2, 3, 15, 16] (Int × List Int) (fun (i, q) => 0 ≤ i ∧ i ≤ xs.length ∧ q = addG g xs d i ∧ q.length = g.length) (fun (i, q) => [(17, In i)]) (fun (i, q) => [(1, Rw .flat (eI 0) (q.map eI))]) (fun (i, q) => ((xs.length - i).toNat)) ((0, g)) ?_)
    | (refine LoopB.of (T := Int × List Int) ?_ ?_; rotate_left; rintro ⟨i, q⟩ ⟨h0, h1, h2, h3⟩; rotate_left)
    | refine BndF.mk (fun _ => by have a1 := hx i.toNat (by omega); first | omega | (simp only [List.length_map, List.length_set]; omega)) ?_
    | refine EqI.mk _ (fun _ => by have a1 := addG_b hg hd hl h0 h1 h2 (xs.getD i.toNat 0).toNat; exact wrapI (by omega) (by omega)) ?_
    | refine EqL.mk _ (stI (by kernel_rfl)) ?_
    | (refine ArgF.mk _ (c_impl_booster_potentials m q rg ⟨hm, by omega, hrl, by have a1 := (hP i h0 h1).2; rw [show ((i.toNat : Nat) : Int) = i by omega, ← h2] at a1; exact bdL_mono a1 (by omega)⟩) (fun rs ho hR _ => ?_); rcases hR with ⟨p, hp, rfl, rfl⟩ | ⟨hp, rfl, rfl⟩)
    | refine GhF.go ?_
    | refine EqP.mk _ (gm eI 0 rfl) ?_
    | refine BndF.mk (fun _ => by omega) ?_
    | refine BndF.mk (fun _ => by simp only [List.length_map, List.length_cons, List.length_nil, List.length_append, List.length_set, List.length_replicate, iotaI_len]; omega) ?_
    | refine EqI.mk _ (fun _ => wrapI (by omega) (by omega)) ?_
    | refine EqI.mk _ (fun _ => rfl) ?_
    | refine EqN.mk _ (ln eI) ?_
    | refine EqN.mk _ (Nat.zero_add _) ?_
    | refine EqN.mk _ (Int.toNat_natCast _) ?_
    | refine EqN.mk _ rfl ?_
    | refine EqL.mk _ (tk eI (by first | rfl | assumption | omega | (simp only [List.length_map, List.length_cons, List.length_nil, List.length_append, List.length_set, List.length_replicate, iotaI_len]; done) | (simp only [List.length_map, List.length_cons, List.length_nil, List.length_append, List.length_set, List.length_replicate, iotaI_len]; omega))) ?_
    | refine EqL.mk _ (st eI) ?_
    | refine EqL.mk [] rfl ?_
    | refine EqL.mk [_] rfl ?_
    | refine EqL.mk _ rfl ?_
    | refine ArgF.is (c_slices_Clone_int64_int64 _ (by first | assumption | omega)) ?_
    | refine ArgQ.is (fun hG => c_slices_Clone_int64_int64 _ (by first | assumption | omega)) rfl rfl ?_
    | refine ArgF.is (c_impl_booster_potentials ⟨_, _⟩ _ _ (by first | assumption | omega)) ?_
    | refine ArgQ.is (fun hG => c_impl_booster_potentials ⟨_, _⟩ _ _ (by first | assumption | omega)) rfl rfl ?_
    | refine CallF.mk (CallW.is [] true rfl ?_)
    | refine CallG.mk ?_
    | (refine CondF.mk (fun hb => ?_) (fun hb => ?_) <;> try simp only [forall_const, eq_self, not_true_eq_false, not_false_eq_true, or_false, false_or, or_self, or_true, true_or, and_true, true_and, and_false, false_and, decide_true, decide_false, Bool.not_true, Bool.not_false, decide_eq_true_eq, decide_eq_false_iff_not, ite_and_p, ite_or_p, Bool.decide_eq_true, Bool.and_eq_true, Bool.or_eq_true, Bool.not_eq_true', Bool.not_eq_false', Bool.and_eq_false_imp, Bool.or_eq_false_iff, bne_iff_ne, beq_iff_eq, bne_eq_false_iff_eq, beq_eq_false_iff_ne, gt_iff_lt, ge_iff_le, Int.not_lt, Int.not_le, ne_eq, Bool.true_eq_false, Bool.false_eq_true, reduceCtorEq, eta_Airway, eta_Fan, eta_Mine] at hb)
    | apply BackF.auto2
    | refine BackB.mk ?_ ?_
    | refine RetF.auto (And.intro rfl ?_)
    | exact Is.mk rfl rfl
    | refine Is.mk ?_ rfl
    | refine Is.mk rfl ?_
    | refine Is.mk ?_ ?_
  all_goals try dsimp only
  all_goals try omega
  · exact ⟨by omega, by omega, by unfold addG; rw [foldT_0], rfl⟩
  · exact ⟨by omega, by omega, by rw [addG_s h0 (by assumption), ← h2], by rw [List.length_set]; exact h3⟩
  all_goals try (have e : q = addG g xs d xs.length := by rw [h2, show i = xs.length by omega])
  all_goals try (unfold fitsB; rw [← e, hp]; rfl)
  all_goals skip
end Go.Proofs.Ytfeebelnpibppaa
