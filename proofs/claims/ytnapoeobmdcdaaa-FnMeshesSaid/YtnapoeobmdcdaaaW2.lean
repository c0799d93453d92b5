/- Contracts of functions of the program, and what they compute. Conditions: those that each theorem states. -/
import Derived.Test.YtnapoeobmdcdaaaProg
import Derived.Test.YtnapoeobmdcdaaaW1
import Derived.Test.YtnapoeobmdcdaaaF1
set_option linter.unusedVariables false
set_option linter.unusedSimpArgs false
namespace Go.Proofs.Ytnapoeobmdcdaaa
open Go.Av
attribute [local irreducible] Go.IntKind.wrap leastI rdZ rd rootI rawA okMine
set_option maxRecDepth 20000
set_option maxHeartbeats 8000000

/-! Where a walk leads. -/
/-- bounded from both sides -/
def bdL (B : Int) (xs : List Int) : Prop := ∀ j : Nat, -B ≤ xs.getD j 0 ∧ xs.getD j 0 ≤ B
/-- where a walk comes to, or -1 -/
def wlk (m : GMine) : List Int → Int → Int
  | [], a => a
  | x :: w, a => if x = 0 ∨ (m.airways.length : Int) < absI x then -1 else if 0 < x ∧ (m.airways.getD (absI x - 1).toNat default).from_ = a then wlk m w (m.airways.getD (absI x - 1).toNat default).to else if x < 0 ∧ (m.airways.getD (absI x - 1).toNat default).to = a then wlk m w (m.airways.getD (absI x - 1).toNat default).from_ else -1
theorem wlk_s {m : GMine} {w : List Int} {a i : Int} (h0 : 0 ≤ i) (hi : i < w.length) : wlk m (w.drop i.toNat) a = if w.getD i.toNat 0 = 0 ∨ (m.airways.length : Int) < absI (w.getD i.toNat 0) then -1 else if 0 < w.getD i.toNat 0 ∧ (m.airways.getD (absI (w.getD i.toNat 0) - 1).toNat default).from_ = a then wlk m (w.drop (i + 1).toNat) (m.airways.getD (absI (w.getD i.toNat 0) - 1).toNat default).to else if w.getD i.toNat 0 < 0 ∧ (m.airways.getD (absI (w.getD i.toNat 0) - 1).toNat default).to = a then wlk m (w.drop (i + 1).toNat) (m.airways.getD (absI (w.getD i.toNat 0) - 1).toNat default).from_ else -1 := by
  have hi2 : i.toNat < w.length := by omega
  rw [List.drop_eq_getElem_cons hi2, show (i + 1).toNat = i.toNat + 1 by omega, List.getD_eq_getElem?_getD, List.getElem?_eq_getElem hi2, Option.getD_some]
  rfl
theorem absI_n {x : Int} (h : x < 0) : absI x = 0 - x := by unfold absI; omega
theorem absI_p {x : Int} (h : ¬x < 0) : absI x = x := by unfold absI; omega
theorem wlk_n {m : GMine} {w : List Int} {a : Int} : wlk m (w.drop (w.length : Int).toNat) a = a := by
  rw [show (w.length : Int).toNat = w.length by omega, List.drop_length]; rfl
theorem c_laws_b10Walk (m : GMine) (w : List Int) (a : Int) (hw : bdL 1000000000 w) : FnSem Try.prog 15 [.p .any (.ref m.cells), Lx (LI w), In a] [] (Is [In (wlk m w a)] []) := by
  refine FnSem.walk (zs := zeroPV Try.prog) (by kernel_rfl) Try.func15 rfl Try.results15 (by kernel_rfl) (by kernel_rfl) (by kernel_rfl) fun hw hh => ?_
  obtain ⟨w0, w1, w2, _⟩ := hw
  first | replace w0 := wfr_Mine w0 | skip
  first | replace w1 := wf_LI w1 | skip
  first | replace w2 := wf_I w2 | skip
  have hwl := w0.2.1
  repeat' first
    | refine And.intro rfl ?_
    | refine GdF.mk (fun h => h) ?_
    | refine And.intro (Nat.succ_ne_zero _) ?_
    | refine And.intro (Nat.le_of_ble_eq_true rfl) ?_
    | refine SeqF.run ?_
    | refine LoopF.at 3 rfl (LoopF.fix [0, 1] (Int × Int) (fun (i, t) => 0 ≤ i ∧ i ≤ w.length ∧ wlk m w a = wlk m (w.drop i.toNat) t) (fun (i, t) => [(8, In i), (7, In t)]) (fun (i, t) => []) (fun (i, t) => ((w.length - i).toNat)) ((0, a)) ?_)
    | (refine LoopB.of (T := Int × Int) ?_ ?_; rotate_left; rintro ⟨i, t⟩ ⟨k0, k1, k2⟩; rotate_left)
    | refine EqI.mk _ (fun _ => by have b := hw i.toNat; exact wrapI (by omega) (by omega)) ?_
    | refine GhF.go ?_
    | refine GdS.keep ?_
    | refine EqP.mk _ (gm GAirway.cells default rfl) ?_
    | refine EqP.mk _ (gm eI 0 rfl) ?_
    | refine BndF.mk (fun _ => by omega) ?_
    | refine BndF.mk (fun _ => by simp only [List.length_map, List.length_cons, List.length_nil, List.length_append, List.length_set, List.length_replicate, iotaI_len]; omega) ?_
    | refine BndF.mk (fun hG => by simp only [forall_const, eq_self, not_true_eq_false, not_false_eq_true, or_false, false_or, or_self, or_true, true_or, and_true, true_and, and_false, false_and, decide_true, decide_false, Bool.not_true, Bool.not_false, decide_eq_true_eq, decide_eq_false_iff_not, ite_and_p, ite_or_p, Bool.decide_eq_true, Bool.and_eq_true, Bool.or_eq_true, Bool.not_eq_true', Bool.not_eq_false', Bool.and_eq_false_imp, Bool.or_eq_false_iff, bne_iff_ne, beq_iff_eq, bne_eq_false_iff_eq, beq_eq_false_iff_ne, gt_iff_lt, ge_iff_le, Int.not_lt, Int.not_le, ne_eq, Bool.true_eq_false, Bool.false_eq_true, reduceCtorEq, eta_Airway, eta_Fan, eta_Mine, bytes_nil] at hG; (try simp only [List.length_map]); omega) ?_
    | refine EqI.mk _ (fun _ => wrapI (by omega) (by omega)) ?_
    | refine EqI.mk _ (fun _ => rfl) ?_
    | refine EqN.mk _ (ln GAirway.cells) ?_
    | refine EqN.mk _ (ln eI) ?_
    | refine EqN.mk _ (Nat.zero_add _) ?_
    | refine EqN.mk _ (Int.toNat_natCast _) ?_
    | refine EqN.mk _ rfl ?_
    | refine EqL.mk _ (st GAirway.cells) ?_
    | refine EqL.mk _ (st eI) ?_
    | refine EqL.mk [] rfl ?_
    | refine EqL.mk [_] rfl ?_
    | refine EqL.mk _ rfl ?_
    | (refine CondF.mk (fun hb => ?_) (fun hb => ?_) <;> try simp only [forall_const, eq_self, not_true_eq_false, not_false_eq_true, or_false, false_or, or_self, or_true, true_or, and_true, true_and, and_false, false_and, decide_true, decide_false, Bool.not_true, Bool.not_false, decide_eq_true_eq, decide_eq_false_iff_not, ite_and_p, ite_or_p, Bool.decide_eq_true, Bool.and_eq_true, Bool.or_eq_true, Bool.not_eq_true', Bool.not_eq_false', Bool.and_eq_false_imp, Bool.or_eq_false_iff, bne_iff_ne, beq_iff_eq, bne_eq_false_iff_eq, beq_eq_false_iff_ne, gt_iff_lt, ge_iff_le, Int.not_lt, Int.not_le, ne_eq, Bool.true_eq_false, Bool.false_eq_true, reduceCtorEq, eta_Airway, eta_Fan, eta_Mine] at hb)
    | apply BackF.auto2
    | refine BackB.mk ?_ ?_
    | refine RetF.auto (And.intro rfl ?_)
    | exact Is.mk rfl rfl
    | refine Is.mk ?_ rfl
    | refine Is.mk rfl ?_
    | refine Is.mk ?_ ?_
  all_goals try dsimp only
  all_goals try simp only [Bo, I, OB.row.injEq, AV.osl.injEq, eI_same,  List.cons.injEq, AV.p.injEq, PV.c.injEq, Value.int.injEq, Value.bool.injEq, and_true, true_and, ite_and_p, ite_or_p, Bool.decide_eq_true, eta_Airway, eta_Fan, eta_Mine]
  all_goals first
    | omega
    | exact ⟨by omega, by omega, rfl⟩
    | (rw [k2, show i.toNat = (w.length : Int).toNat by omega]; exact wlk_n.symm)
    | (rw [k2, wlk_s k0 (by omega)]
       have hn := absI_n (show w.getD i.toNat 0 < 0 by assumption)
       first
       | (rw [if_pos (by omega)])
       | (rw [if_neg (by omega), if_neg (fun h => by omega), if_pos (by refine ⟨by assumption, ?_⟩; rw [hn]; first | assumption | (apply Eq.symm; assumption) | omega), hn]; exact ⟨by omega, by omega, rfl⟩)
       | (rw [if_neg (by omega), if_neg (fun h => by omega), if_neg (fun h => by rw [hn] at h; omega)]))
    | (rw [k2, wlk_s k0 (by omega)]
       have hn := absI_p (show ¬w.getD i.toNat 0 < 0 by omega)
       first
       | (rw [if_pos (by omega)])
       | (rw [if_neg (by omega), if_pos (by rw [hn]; exact hb), hn]; exact ⟨by omega, by omega, rfl⟩)
       | (have h9 : 0 < w.getD i.toNat 0 → ¬(m.airways.getD (w.getD i.toNat 0 - 1).toNat default).from_ = t := by assumption
          rw [if_neg (by omega), if_neg (fun h => by rw [hn] at h; exact h9 h.1 h.2), if_neg (fun h => by omega)]))
    | skip
section
variable {m : GMine} {g : List Int} {rg : List Bool}
theorem spL_c (hm : okMine m = true) {a : Int} {i : Nat} (hi : i < m.airways.length) (hk : okL m rg a i = true) : (spL m a i = (i : Int) + 1 ∧ (m.airways.getD i default).from_ = a ∧ nxL m a i = (m.airways.getD i default).to ∧ gnL m g a i = g.getD i 0) ∨ (spL m a i = -(i : Int) - 1 ∧ (m.airways.getD i default).to = a ∧ nxL m a i = (m.airways.getD i default).from_ ∧ rg.getD i false = false ∧ gnL m g a i = -g.getD i 0) := by
  have q := okAirway_b ((okMine_p hm).2.2 i (by omega)).1
  unfold okL at hk
  simp only [Bool.or_eq_true, Bool.and_eq_true, decide_eq_true_eq, Bool.not_eq_true'] at hk
  unfold spL nxL gnL
  unfold awI at *
  rcases hk with hk | ⟨hk, hr⟩
  · left; rw [if_pos hk, if_pos hk, if_neg (by omega)]; exact ⟨rfl, hk, rfl, rfl⟩
  · right; rw [if_neg (by omega), if_neg (by omega), if_pos hk]; exact ⟨rfl, hk, rfl, hr, rfl⟩
theorem wlk_c {x : Int} {w : List Int} {a : Int} : wlk m (x :: w) a = if x = 0 ∨ (m.airways.length : Int) < absI x then -1 else if 0 < x ∧ (m.airways.getD (absI x - 1).toNat default).from_ = a then wlk m w (m.airways.getD (absI x - 1).toNat default).to else if x < 0 ∧ (m.airways.getD (absI x - 1).toNat default).to = a then wlk m w (m.airways.getD (absI x - 1).toNat default).from_ else -1 := by
  conv => lhs; unfold wlk
theorem wlk_sp (hm : okMine m = true) : ∀ (es : List Nat) (a : Int), okW m rg a es → wlk m (spW m a es) a = enW m a es
  | [], a, _ => by unfold spW; unfold wlk; rfl
  | i :: es, a, ho => by
    have ih := wlk_sp hm es _ ho.2.2
    have hi := ho.1
    rw [spW, wlk_c]
    rcases spL_c (g := []) hm ho.1 ho.2.1 with ⟨e1, e2, e3, _⟩ | ⟨e1, e2, e3, _, _⟩
    · have ea : absI (spL m a i) = (i : Int) + 1 := by rw [e1]; unfold absI; omega
      rw [ea, if_neg (by omega), if_pos ⟨by omega, by rw [show ((i : Int) + 1 - 1).toNat = i by omega]; exact e2⟩, show ((i : Int) + 1 - 1).toNat = i by omega, ← e3, ih]; rfl
    · have ea : absI (spL m a i) = (i : Int) + 1 := by rw [e1]; unfold absI; omega
      rw [ea, if_neg (by omega), if_neg (fun h => by omega), if_pos ⟨by omega, by rw [show ((i : Int) + 1 - 1).toNat = i by omega]; exact e2⟩, show ((i : Int) + 1 - 1).toNat = i by omega, ← e3, ih]; rfl
end
end Go.Proofs.Ytnapoeobmdcdaaa
