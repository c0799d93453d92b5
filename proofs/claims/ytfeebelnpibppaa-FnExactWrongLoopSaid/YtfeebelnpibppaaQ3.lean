/- Contracts of functions of the program, and what they compute. Conditions: those that each theorem states. -/
import Derived.Test.YtfeebelnpibppaaProg
import Derived.Test.YtfeebelnpibppaaQ2
set_option linter.unusedVariables false
set_option linter.unusedSimpArgs false
namespace Go.Proofs.Ytfeebelnpibppaa
open Go.Av
attribute [local irreducible] Go.IntKind.wrap leastI rdZ rd rootI rawA okMine gainsI stepB roundB potN
set_option maxRecDepth 20000
set_option maxHeartbeats 8000000

/-- a mine, gains and regulators that fit one another -/
structure okB (m : GMine) (g : List Int) (rg : List Bool) : Prop where
  mine : okMine m = true
  gl : g.length = m.airways.length
  rl : rg.length = m.airways.length
  bd : bdL 1500000 g
theorem okB.air {m : GMine} {g : List Int} {rg : List Bool} (h : okB m g rg) : (1 ≤ m.junctions ∧ m.junctions ≤ 16) ∧ m.airways.length ≤ 24 ∧ ∀ i : Int, 0 ≤ i → i < m.airways.length → (0 ≤ (m.airways.getD i.toNat default).from_ ∧ (m.airways.getD i.toNat default).from_ < m.junctions) ∧ (0 ≤ (m.airways.getD i.toNat default).to ∧ (m.airways.getD i.toNat default).to < m.junctions) ∧ -1500000 ≤ g.getD i.toNat 0 ∧ g.getD i.toNat 0 ≤ 1500000 := by
  have q := okMine_p h.mine
  refine ⟨q.1, q.2.1, fun i h0 h1 => ?_⟩
  have q1 := q.2.2 i.toNat (by omega)
  exact ⟨q1.2.1, q1.2.2, h.bd i.toNat⟩
/-- what potentials hands back -/
inductive PotR (r : Option (List Int)) (rs : List AV) (ho : List OB) : Prop
  | some (p : List Int) (h : r = some p) (h1 : rs = [.osl 0 0 p.length, Bo true]) (h2 : ho = [Rw .flat (eI 0) (p.map eI)])
  | none (h : r = none) (h1 : rs = [.osl 0 0 0, Bo false]) (h2 : ho = [Rw .flat (eI 0) []])
theorem stepB_p {m : GMine} {g : List Int} {rg : List Bool} {i : Nat} {s : List Int × Bool} {B : Int} (h : okB m g rg) (hb : bdL B s.1) (hB : 0 ≤ B) : bdL (B + 3000000) (stepB m g rg i s).1 := by
  have := stepB_bd (m := m) (rg := rg) (i := i) h.bd hb hB
  exact bdL_mono this (by omega)
theorem setB {m : GMine} {g q : List Int} {i B : Int} (h : -1500000 ≤ g.getD i.toNat 0 ∧ g.getD i.toNat 0 ≤ 1500000) (k3 : bdL B q) (a c : Nat) : bdL (B + 1500000) (q.set a (q.getD c 0 + g.getD i.toNat 0)) :=
  bdL_set (bdL_mono k3 (by omega)) (by have := k3 c; omega)
section
variable {m : GMine} {g : List Int} {rg : List Bool} {p q : List Int} {b : Bool} {i k : Int}
theorem stepR (h : okB m g rg) (k0 : 0 ≤ i) (hb : i < m.airways.length) (h0 : 0 ≤ k) (k2 : q.length = m.junctions.toNat) (k3 : bdL (100000000 * k + 3000000 * i) q) (k4 : roundB m g rg i.toNat p = (q, b)) {q' : List Int} {b' : Bool} (e : stepB m g rg i.toNat (q, b) = (q', b')) : 0 ≤ i + 1 ∧ i + 1 ≤ m.airways.length ∧ q'.length = m.junctions.toNat ∧ bdL (100000000 * k + 3000000 * (i + 1)) q' ∧ roundB m g rg (i + 1).toNat p = (q', b') := by
  have e1 : stepB m g rg i.toNat (q, b) = roundB m g rg (i + 1).toNat p := by
    rw [show (i + 1).toNat = i.toNat + 1 by omega]; conv => rhs; unfold roundB
    rw [k4]
  have l := stepB_len (m := m) (g := g) (rg := rg) (i := i.toNat) (s := (q, b))
  have d := stepB_p (i := i.toNat) (s := (q, b)) h k3 (by omega)
  rw [e] at l d
  exact ⟨by omega, by omega, by rw [← k2]; exact l, bdL_mono d (by omega), by rw [← e1, e]⟩
theorem step_t2 (h1 : q.getD (m.airways.getD i.toNat default).from_.toNat 0 + g.getD i.toNat 0 < q.getD (m.airways.getD i.toNat default).to.toNat 0) (h2 : rg.getD i.toNat false = false ∧ (q.set (m.airways.getD i.toNat default).to.toNat (q.getD (m.airways.getD i.toNat default).from_.toNat 0 + g.getD i.toNat 0)).getD (m.airways.getD i.toNat default).to.toNat 0 - g.getD i.toNat 0 < (q.set (m.airways.getD i.toNat default).to.toNat (q.getD (m.airways.getD i.toNat default).from_.toNat 0 + g.getD i.toNat 0)).getD (m.airways.getD i.toNat default).from_.toNat 0) : stepB m g rg i.toNat (q, b) = ((q.set (m.airways.getD i.toNat default).to.toNat (q.getD (m.airways.getD i.toNat default).from_.toNat 0 + g.getD i.toNat 0)).set (m.airways.getD i.toNat default).from_.toNat ((q.set (m.airways.getD i.toNat default).to.toNat (q.getD (m.airways.getD i.toNat default).from_.toNat 0 + g.getD i.toNat 0)).getD (m.airways.getD i.toNat default).to.toNat 0 - g.getD i.toNat 0), true) := by
  unfold stepB; dsimp only; rw [if_pos h1, if_pos h2]
theorem step_t1 (h1 : q.getD (m.airways.getD i.toNat default).from_.toNat 0 + g.getD i.toNat 0 < q.getD (m.airways.getD i.toNat default).to.toNat 0) (h2 : ¬(rg.getD i.toNat false = false ∧ (q.set (m.airways.getD i.toNat default).to.toNat (q.getD (m.airways.getD i.toNat default).from_.toNat 0 + g.getD i.toNat 0)).getD (m.airways.getD i.toNat default).to.toNat 0 - g.getD i.toNat 0 < (q.set (m.airways.getD i.toNat default).to.toNat (q.getD (m.airways.getD i.toNat default).from_.toNat 0 + g.getD i.toNat 0)).getD (m.airways.getD i.toNat default).from_.toNat 0)) : stepB m g rg i.toNat (q, b) = (q.set (m.airways.getD i.toNat default).to.toNat (q.getD (m.airways.getD i.toNat default).from_.toNat 0 + g.getD i.toNat 0), true) := by
  unfold stepB; dsimp only; rw [if_pos h1, if_neg h2]
theorem step_f2 (h1 : ¬q.getD (m.airways.getD i.toNat default).from_.toNat 0 + g.getD i.toNat 0 < q.getD (m.airways.getD i.toNat default).to.toNat 0) (h2 : rg.getD i.toNat false = false ∧ q.getD (m.airways.getD i.toNat default).to.toNat 0 - g.getD i.toNat 0 < q.getD (m.airways.getD i.toNat default).from_.toNat 0) : stepB m g rg i.toNat (q, b) = (q.set (m.airways.getD i.toNat default).from_.toNat (q.getD (m.airways.getD i.toNat default).to.toNat 0 - g.getD i.toNat 0), true) := by
  unfold stepB; dsimp only; rw [if_neg h1, if_pos h2]
theorem step_f1 (h1 : ¬q.getD (m.airways.getD i.toNat default).from_.toNat 0 + g.getD i.toNat 0 < q.getD (m.airways.getD i.toNat default).to.toNat 0) (h2 : ¬(rg.getD i.toNat false = false ∧ q.getD (m.airways.getD i.toNat default).to.toNat 0 - g.getD i.toNat 0 < q.getD (m.airways.getD i.toNat default).from_.toNat 0)) : stepB m g rg i.toNat (q, b) = (q, b) := by
  unfold stepB; dsimp only; rw [if_neg h1, if_neg h2]
theorem round_e (hb : m.airways.length ≤ i) (k1 : i ≤ m.airways.length) (k4 : roundB m g rg i.toNat p = (q, b)) : roundB m g rg m.airways.length p = (q, b) := by rw [← k4]; congr 1; omega
theorem pot_t (hk : k < m.junctions + 1) (h4 : potN m g rg (m.junctions + 1 - k).toNat p = potI m g rg) (e : roundB m g rg m.airways.length p = (q, false)) : potI m g rg = some q := by
  rw [← h4, show (m.junctions + 1 - k).toNat = (m.junctions + 1 - (k + 1)).toNat + 1 by omega]; conv => lhs; unfold potN
  rw [e]; rfl
theorem pot_s (hk : k < m.junctions + 1) (h4 : potN m g rg (m.junctions + 1 - k).toNat p = potI m g rg) (e : roundB m g rg m.airways.length p = (q, true)) : potN m g rg (m.junctions + 1 - (k + 1)).toNat q = potI m g rg := by
  rw [← h4, show (m.junctions + 1 - k).toNat = (m.junctions + 1 - (k + 1)).toNat + 1 by omega]; conv => rhs; unfold potN
  rw [e]; rfl
theorem pot_e (hk : m.junctions + 1 ≤ k) (h4 : potN m g rg (m.junctions + 1 - k).toNat p = potI m g rg) : potI m g rg = none := by
  rw [← h4, show (m.junctions + 1 - k).toNat = 0 by omega]; unfold potN; rfl
end
theorem c_impl_booster_potentials (m : GMine) (g : List Int) (rg : List Bool) (h : okB m g rg) : FnSem Try.prog 116 [.p .any (.agg (boostC m g rg))] [] (PotR (potI m g rg)) := by
  have hA := h.air
  have hgl := h.gl
  have hrl := h.rl
  refine FnSem.walk (zs := zeroPV Try.prog) (by kernel_rfl) Try.func116 rfl Try.results116 (by kernel_rfl) (by kernel_rfl) (by kernel_rfl) fun hw hh => ?_
  obtain ⟨w0, _⟩ := hw
  first | replace w0 := wf_Booster w0 | skip
  repeat' first
    | refine And.intro rfl ?_
    | refine GdF.mk (fun h => h) ?_
    | refine And.intro (Nat.succ_ne_zero _) ?_
    | refine And.intro (Nat.le_of_ble_eq_true rfl) ?_
    | refine SeqF.run ?_
    | refine BndF.mk (fun _ => by have a1 := hA.2.2 i k0 (by assumption); first | omega | (simp only [List.length_map, List.length_set]; omega) | (show _ ∧ _ < ((m.junctions.toNat : Nat) : Int); omega)) ?_
    | refine EqI.mk _ (fun _ => by have a1 := hA.2.2 i k0 (by assumption); have a2 := k3 (m.airways.getD i.toNat default).from_.toNat; have a3 := k3 (m.airways.getD i.toNat default).to.toNat; have a4 := setB (m := m) a1.2.2 k3 (m.airways.getD i.toNat default).to.toNat (m.airways.getD i.toNat default).from_.toNat (m.airways.getD i.toNat default).to.toNat; exact wrapI (by omega) (by omega)) ?_
    | refine GdS.tt (by first | rfl | assumption) ?_
    | refine GdS.ff (by first | rfl | assumption) ?_
    | refine GdS.split (fun hg => ?_) (fun hg => ?_)
    | refine GdF.mk (fun h => by first | exact h | rfl | (rw [hg] at h; exact h)) ?_
    | refine PotR.some q (pot_t (by assumption) h4 (by rw [round_e (by assumption) k1 k4, hb])) (by rw [k2]; rfl) rfl
    | refine PotR.none ?_ rfl rfl
    | refine EqL.mk _ (stI (by kernel_rfl)) ?_
    | refine LoopF.at 3 rfl (LoopF.fix [1, 4, 17] (Int × List Int) (fun (k, p) => 0 ≤ k ∧ k ≤ m.junctions + 1 ∧ p.length = m.junctions.toNat ∧ bdL (100000000 * k) p ∧ potN m g rg (m.junctions + 1 - k).toNat p = potI m g rg) (fun (k, p) => [(18, In k)]) (fun (k, p) => [(1, Rw .flat (eI 0) (p.map eI))]) (fun (k, p) => ((m.junctions + 1 - k).toNat)) ((0, List.replicate m.junctions.toNat 0)) ?_)
    | (refine LoopB.of (T := Int × List Int) ?_ ?_; rotate_left; rintro ⟨k, p⟩ ⟨h0, h1, h2, h3, h4⟩; rotate_left)
    | refine LoopF.at 6 rfl (LoopF.fix [1, 4, 17, 18, 22, 23] (Int × List Int × Bool) (fun (i, q, b) => 0 ≤ i ∧ i ≤ m.airways.length ∧ q.length = m.junctions.toNat ∧ bdL (100000000 * k + 3000000 * i) q ∧ roundB m g rg i.toNat p = (q, b)) (fun (i, q, b) => [(24, In i), (5, Bo b)]) (fun (i, q, b) => [(1, Rw .flat (eI 0) (q.map eI))]) (fun (i, q, b) => ((m.airways.length - i).toNat)) ((0, p, false)) ?_)
    | (refine LoopB.of (T := Int × List Int × Bool) ?_ ?_; rotate_left; rintro ⟨i, q, b⟩ ⟨k0, k1, k2, k3, k4⟩; rotate_left)
    | refine GhF.go ?_
    | refine GdS.keep ?_
    | refine DrawG.old (DrawF.lex (by decide +kernel) ?_)
    | refine MkF.row ?_
    | refine EqP.mk _ (gm GAirway.cells default rfl) ?_
    | refine EqP.mk _ (gm eI 0 rfl) ?_
    | refine EqP.mk _ (gm eB false rfl) ?_
    | refine BndF.mk (fun _ => by omega) ?_
    | refine BndF.mk (fun _ => by simp only [List.length_map, List.length_cons, List.length_nil, List.length_append, List.length_set, List.length_replicate, iotaI_len]; omega) ?_
    | refine BndF.mk (fun hG => by simp only [forall_const, eq_self, not_true_eq_false, not_false_eq_true, or_false, false_or, or_self, or_true, true_or, and_true, true_and, and_false, false_and, decide_true, decide_false, Bool.not_true, Bool.not_false, decide_eq_true_eq, decide_eq_false_iff_not, ite_and_p, ite_or_p, Bool.decide_eq_true, Bool.and_eq_true, Bool.or_eq_true, Bool.not_eq_true', Bool.not_eq_false', Bool.and_eq_false_imp, Bool.or_eq_false_iff, bne_iff_ne, beq_iff_eq, bne_eq_false_iff_eq, beq_eq_false_iff_ne, gt_iff_lt, ge_iff_le, Int.not_lt, Int.not_le, ne_eq, Bool.true_eq_false, Bool.false_eq_true, reduceCtorEq, eta_Airway, eta_Fan, eta_Mine, bytes_nil] at hG; (try simp only [List.length_map]); omega) ?_
    | refine EqI.mk _ (fun _ => wrapI (by omega) (by omega)) ?_
    | refine EqI.mk _ (fun _ => rfl) ?_
    | refine EqN.mk _ (ln GAirway.cells) ?_
    | refine EqN.mk _ (ln eI) ?_
    | refine EqN.mk _ (ln eB) ?_
    | refine EqN.mk _ (Nat.zero_add _) ?_
    | refine EqN.mk _ (Int.toNat_natCast _) ?_
    | refine EqN.mk _ rfl ?_
    | refine EqL.mk _ (st GAirway.cells) ?_
    | refine EqL.mk _ (rp GAirway.cells default) ?_
    | refine EqL.mk _ (dt GAirway.cells) ?_
    | refine EqL.mk _ (st eI) ?_
    | refine EqL.mk _ (rp eI 0) ?_
    | refine EqL.mk _ (dt eI) ?_
    | refine EqL.mk _ (st eB) ?_
    | refine EqL.mk _ (rp eB false) ?_
    | refine EqL.mk _ (dt eB) ?_
    | refine EqL.mk [] rfl ?_
    | refine EqL.mk [_] rfl ?_
    | refine EqL.mk _ rfl ?_
    | (refine CondF.mk (fun hb => ?_) (fun hb => ?_) <;> try simp only [forall_const, eq_self, not_true_eq_false, not_false_eq_true, or_false, false_or, or_self, or_true, true_or, and_true, true_and, and_false, false_and, decide_true, decide_false, Bool.not_true, Bool.not_false, decide_eq_true_eq, decide_eq_false_iff_not, ite_and_p, ite_or_p, Bool.decide_eq_true, Bool.and_eq_true, Bool.or_eq_true, Bool.not_eq_true', Bool.not_eq_false', Bool.and_eq_false_imp, Bool.or_eq_false_iff, bne_iff_ne, beq_iff_eq, bne_eq_false_iff_eq, beq_eq_false_iff_ne, gt_iff_lt, ge_iff_le, Int.not_lt, Int.not_le, ne_eq, Bool.true_eq_false, Bool.false_eq_true, reduceCtorEq, eta_Airway, eta_Fan, eta_Mine] at hb)
    | apply BackF.auto3
    | apply BackF.auto2
    | refine BackB.mk ?_ ?_
    | refine RetF.auto (And.intro rfl ?_)
    | exact Is.mk rfl rfl
    | refine Is.mk ?_ rfl
    | refine Is.mk rfl ?_
    | refine Is.mk ?_ ?_
  all_goals try dsimp only
  all_goals try omega
  · exact ⟨by omega, by omega, by simp, bdL_rep (by omega), by rw [show m.junctions + 1 - 0 = m.junctions + 1 by omega]; rfl⟩
  all_goals first
    | exact ⟨by omega, by omega, h2, bdL_mono h3 (by omega), by unfold roundB; rfl⟩
    | exact stepR h k0 (by assumption) h0 k2 k3 k4 (step_t2 (by assumption) hb)
    | exact stepR h k0 (by assumption) h0 k2 k3 k4 (step_t1 (by assumption) (fun ⟨x, y⟩ => by first | (have := hb x; omega) | (rw [x] at hg; cases hg)))
    | exact stepR h k0 (by assumption) h0 k2 k3 k4 (step_f2 (by omega) hb)
    | exact stepR h k0 (by assumption) h0 k2 k3 k4 (step_f1 (by omega) (fun ⟨x, y⟩ => by first | (have := hb x; omega) | (rw [x] at hg; cases hg)))
    | exact ⟨by omega, by omega, k2, bdL_mono k3 (by omega), pot_s (by assumption) h4 (by rw [round_e (by assumption) k1 k4, hb])⟩
    | exact pot_e hb h4
    | skip
end Go.Proofs.Ytfeebelnpibppaa
