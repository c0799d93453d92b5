/- Contracts of functions of the program, and what they compute. Conditions: those that each theorem states. -/
import Derived.Test.YtdhkpmaanegjkaaGreatDoorProg
import Derived.Test.YtdhkpmaanegjkaaGreatDoorL2
import Derived.Test.YtdhkpmaanegjkaaGreatDoorL1
import Derived.Test.YtdhkpmaanegjkaaGreatDoorV1
set_option linter.unusedVariables false
set_option linter.unusedSimpArgs false
namespace Go.Proofs.YtdhkpmaanegjkaaGreatDoor
open Go.Av
attribute [local irreducible] Go.IntKind.wrap
set_option maxRecDepth 20000
set_option maxHeartbeats 4000000
def absW (x : Int) : Int := max x (IntKind.i64.wrap (0 - x))
def isJump (xs : List Int) (step t : Int) : Bool := decide (1 ≤ t) && (decide (xs.getD t.toNat 0 ≠ -1) && decide (xs.getD (t - 1).toNat 0 ≠ -1) && decide (absW (IntKind.i64.wrap (xs.getD t.toNat 0 - xs.getD (t - 1).toNat 0)) > step))
def jumps (xs : List Int) (step : Int) : List Int × Int := if okSeries xs && inR step 0 1000000 then (selI (isJump xs step) xs.length, 0) else ([], 2)
theorem jumps_no {xs : List Int} {step : Int} (h : okSeries xs = false ∨ inR step 0 1000000 = false) : jumps xs step = ([], 2) := by
  unfold jumps; rw [if_neg]; rcases h with h | h <;> simp [h]
theorem jumps_yes {xs : List Int} {step : Int} (h : ¬okSeries xs = false ∧ inR step 0 1000000 = true) : jumps xs step = (selI (isJump xs step) xs.length, 0) := by
  unfold jumps; rw [if_pos]; rw [h.2]; cases h2 : okSeries xs <;> simp_all
theorem okSeries_len {xs : List Int} (h : ¬okSeries xs = false) : xs.length ≤ 200 := by
  unfold okSeries at h; simp at h; exact h.2
theorem isJump_iff {xs : List Int} {step t : Int} : isJump xs step t = true ↔ 1 ≤ t ∧ (¬xs.getD t.toNat 0 = -1 ∧ ¬xs.getD (t - 1).toNat 0 = -1) ∧ step < max (IntKind.i64.wrap (xs.getD t.toNat 0 - xs.getD (t - 1).toNat 0)) (IntKind.i64.wrap (0 - IntKind.i64.wrap (xs.getD t.toNat 0 - xs.getD (t - 1).toNat 0))) := by
  simp only [isJump, absW, Bool.and_eq_true, decide_eq_true_eq, ne_eq, gt_iff_lt, and_assoc]
theorem jump_s {xs : List Int} {step i : Int} {ys : List Int} (h0 : 1 ≤ i) (h : ys = selI (isJump xs step) i.toNat) (hb : (¬xs.getD i.toNat 0 = -1 ∧ ¬xs.getD (i - 1).toNat 0 = -1) ∧ step < max (IntKind.i64.wrap (xs.getD i.toNat 0 - xs.getD (i - 1).toNat 0)) (IntKind.i64.wrap (0 - IntKind.i64.wrap (xs.getD i.toNat 0 - xs.getD (i - 1).toNat 0)))) : ys ++ [i] = selI (isJump xs step) (i + 1).toNat := by
  rw [selI_s (by omega) (isJump_iff.2 ⟨h0, hb⟩), h]
theorem jump_n {xs : List Int} {step i : Int} {ys : List Int} (h0 : 1 ≤ i) (h : ys = selI (isJump xs step) i.toNat) (hb : ¬xs.getD i.toNat 0 = -1 ∧ ¬xs.getD (i - 1).toNat 0 = -1 → max (IntKind.i64.wrap (xs.getD i.toNat 0 - xs.getD (i - 1).toNat 0)) (IntKind.i64.wrap (0 - IntKind.i64.wrap (xs.getD i.toNat 0 - xs.getD (i - 1).toNat 0))) ≤ step) : ys = selI (isJump xs step) (i + 1).toNat := by
  rw [selI_n (by omega) (Bool.eq_false_iff.2 fun hj => ?_), h]
  obtain ⟨_, h1, h2⟩ := isJump_iff.1 hj
  have := hb h1
  exact absurd h2 (Int.not_lt.2 this)
theorem jump_end {xs : List Int} {step i : Int} {ys : List Int} (h0 : 1 ≤ i) (h1 : i ≤ xs.length ∨ i = 1) (h : ys = selI (isJump xs step) i.toNat) (hb : xs.length ≤ i) : ys = selI (isJump xs step) xs.length := by
  by_cases e : i = xs.length
  · rw [h, e]; rfl
  · have h1 : i = 1 := by omega
    have h2 : xs.length = 0 := by omega
    rw [h, h1, h2]; rfl
theorem jump_0 {xs : List Int} {step : Int} : [] = selI (isJump xs step) (Int.toNat 1) := by
  rw [show Int.toNat 1 = 0 + 1 from rfl, selI_succ, if_neg]
  · rfl
  · simp [isJump]
end Go.Proofs.YtdhkpmaanegjkaaGreatDoor

set_option linter.unusedVariables false
set_option linter.unusedSimpArgs false
namespace Go.Proofs.YtdhkpmaanegjkaaGreatDoor
open Go.Av
attribute [local irreducible] Go.IntKind.wrap
set_option maxRecDepth 20000
set_option maxHeartbeats 4000000
inductive SrcX {α : Type} (f : α → List AV) (g : α → List OB) (φ : α → Prop) (c : List Int) (k p : Int) (rs : List AV) (ho : List OB) : Prop
  | mk (v : α) (p' s' : Int) (h1 : rs = f v) (h2 : ho = srcO c p' s' :: g v) (h3 : φ v) (h4 : p ≤ p' ∧ p' ≤ p + k)
theorem ArgF.srx {α : Type} {f : α → List AV} {g : α → List OB} {φ : α → Prop} {c : List Int} {k p : Int} {n : Nat} {P : Program} [Kn P] {fn : FuncId} {args : List AV} {hin : List OB} {K : List AV → List OB → Prop} (h : FnSem P fn args hin (SrcX f g φ c k p)) (hk : ∀ v p' s', φ v → p ≤ p' ∧ p' ≤ p + k → K (f v) (srcO c p' s' :: g v)) : ArgF n P fn args hin K :=
  ⟨_, h, fun rs ho hR _ => by obtain ⟨v, p', s', rfl, rfl, h3, h4⟩ := hR; exact hk v p' s' h3 h4⟩
def absI (n : Int) : Int := max n (0 - n)
theorem c_laws_b10Has (xs : List Int) (x : Int) : FnSem Tryz.prog 12 [Lx (LI xs), In x] [] (Is [Bo (decide (x ∈ xs))] []) := by
  refine FnSem.walk (zs := zeroPV Tryz.prog) (by kernel_rfl) Tryz.func12 rfl Tryz.results12 (by kernel_rfl) (by kernel_rfl) (by kernel_rfl) fun hw hh => ?_
  obtain ⟨w0, w1, _⟩ := hw
  first | replace w0 := wf_LI w0 | skip
  first | replace w1 := wf_I w1 | skip
  repeat' first
    | refine And.intro rfl ?_
    | refine GdF.mk (fun h => h) ?_
    | refine And.intro (Nat.succ_ne_zero _) ?_
    | refine And.intro (Nat.le_of_ble_eq_true rfl) ?_
    | refine SeqF.run ?_
    | refine LoopF.at 2 rfl (LoopF.fix [0, 1] (Int) (fun i => 0 ≤ i ∧ i ≤ xs.length ∧ ∀ j : Nat, (j : Int) < i → ¬xs.getD j 0 = x) (fun i => [(5, In i)]) (fun i => []) (fun i => ((xs.length - i).toNat)) (0) ?_)
    | (refine LoopB.of (T := Int) ?_ ?_; rotate_left; rintro i ⟨h0, h1, h2⟩; rotate_left)
    | refine GhF.go ?_
    | refine EqP.mk _ (gm eI 0 rfl) ?_
    | refine BndF.mk (fun _ => by omega) ?_
    | refine BndF.mk (fun _ => by simp only [lnS]; omega) ?_
    | refine EqI.mk _ (fun _ => wrapI (by omega) (by omega)) ?_
    | refine EqI.mk _ (fun _ => rfl) ?_
    | refine EqN.mk _ (ln eI) ?_
    | refine EqN.mk _ (Nat.zero_add _) ?_
    | refine EqN.mk _ (Int.toNat_natCast _) ?_
    | refine EqN.mk _ rfl ?_
    | (refine CondF.mk (fun hb => ?_) (fun hb => ?_) <;> try simp only [forall_const, eq_self, not_true_eq_false, not_false_eq_true, or_false, false_or, or_self, or_true, true_or, and_true, true_and, and_false, false_and, decide_true, decide_false, Bool.not_true, Bool.not_false, decide_eq_true_eq, decide_eq_false_iff_not, ite_and_p, ite_or_p, Bool.decide_eq_true, Bool.and_eq_true, Bool.or_eq_true, Bool.not_eq_true', Bool.not_eq_false', Bool.and_eq_false_imp, Bool.or_eq_false_iff, bne_iff_ne, beq_iff_eq, bne_eq_false_iff_eq, beq_eq_false_iff_ne, gt_iff_lt, ge_iff_le, Int.not_lt, Int.not_le, ne_eq, Bool.true_eq_false, Bool.false_eq_true, reduceCtorEq, eta_Airway, eta_Fan, eta_Mine] at hb)
    | apply BackF.auto
    | refine BackB.mk ?_ ?_
    | refine RetF.auto (And.intro rfl ?_)
    | exact Is.mk rfl rfl
    | refine Is.mk ?_ rfl
    | refine Is.mk rfl ?_
    | refine Is.mk ?_ ?_
  all_goals try dsimp only
  all_goals try simp only [Bo, I, OB.row.injEq, AV.osl.injEq, eI_same,  List.cons.injEq, AV.p.injEq, PV.c.injEq, Value.int.injEq, Value.bool.injEq, and_true, true_and, ite_and_p, ite_or_p, Bool.decide_eq_true, eta_Airway, eta_Fan, eta_Mine]
  · exact ⟨by omega, by omega, all_0⟩
  · rw [← hb]; exact (decide_eq_true (getD_mem (by omega))).symm
  · exact ⟨by omega, by omega, all_s h0 h2 hb⟩
  · omega
  · refine (decide_eq_false fun hm => ?_).symm
    obtain ⟨j, hj, e⟩ := List.getElem_of_mem hm
    exact h2 j (by omega) (by rw [List.getD_eq_getElem?_getD, List.getElem?_eq_getElem hj]; exact e)
def rises (xs : List Int) (n : Int) : Bool := (List.range xs.length).all fun j => decide (0 ≤ xs.getD j 0 ∧ xs.getD j 0 < n ∧ (j = 0 ∨ xs.getD (j - 1) 0 < xs.getD j 0))
theorem c_laws_b10Rises (xs : List Int) (n : Int) : FnSem Tryz.prog 11 [Lx (LI xs), In n] [] (Is [Bo (rises xs n)] []) := by
  refine FnSem.walk (zs := zeroPV Tryz.prog) (by kernel_rfl) Tryz.func11 rfl Tryz.results11 (by kernel_rfl) (by kernel_rfl) (by kernel_rfl) fun hw hh => ?_
  obtain ⟨w0, w1, _⟩ := hw
  first | replace w0 := wf_LI w0 | skip
  first | replace w1 := wf_I w1 | skip
  repeat' first
    | refine And.intro rfl ?_
    | refine GdF.mk (fun h => h) ?_
    | refine And.intro (Nat.succ_ne_zero _) ?_
    | refine And.intro (Nat.le_of_ble_eq_true rfl) ?_
    | refine SeqF.run ?_
    | refine LoopF.at 2 rfl (LoopF.fix [0, 1] (Int) (fun i => 0 ≤ i ∧ i ≤ xs.length ∧ ∀ j : Nat, (j : Int) < i → 0 ≤ xs.getD j 0 ∧ xs.getD j 0 < n ∧ (j = 0 ∨ xs.getD (j - 1) 0 < xs.getD j 0)) (fun i => [(5, In i)]) (fun i => []) (fun i => ((xs.length - i).toNat)) (0) ?_)
    | (refine LoopB.of (T := Int) ?_ ?_; rotate_left; rintro i ⟨h0, h1, h2⟩; rotate_left)
    | refine GhF.go ?_
    | refine GdS.keep ?_
    | refine DrawG.old (DrawF.lex (by decide +kernel) ?_)
    | refine EqP.mk _ (gm eI 0 rfl) ?_
    | refine BndF.mk (fun _ => by omega) ?_
    | refine BndF.mk (fun _ => by simp only [lnS]; omega) ?_
    | refine BndF.mk (fun hG => by simp only [forall_const, eq_self, not_true_eq_false, not_false_eq_true, or_false, false_or, or_self, or_true, true_or, and_true, true_and, and_false, false_and, decide_true, decide_false, Bool.not_true, Bool.not_false, decide_eq_true_eq, decide_eq_false_iff_not, ite_and_p, ite_or_p, Bool.decide_eq_true, Bool.and_eq_true, Bool.or_eq_true, Bool.not_eq_true', Bool.not_eq_false', Bool.and_eq_false_imp, Bool.or_eq_false_iff, bne_iff_ne, beq_iff_eq, bne_eq_false_iff_eq, beq_eq_false_iff_ne, gt_iff_lt, ge_iff_le, Int.not_lt, Int.not_le, ne_eq, Bool.true_eq_false, Bool.false_eq_true, reduceCtorEq, eta_Airway, eta_Fan, eta_Mine, bytes_nil] at hG; (try simp only [List.length_map]); omega) ?_
    | refine EqI.mk _ (fun _ => wrapI (by omega) (by omega)) ?_
    | refine EqI.mk _ (fun _ => rfl) ?_
    | refine EqN.mk _ (ln eI) ?_
    | refine EqN.mk _ (Nat.zero_add _) ?_
    | refine EqN.mk _ (Int.toNat_natCast _) ?_
    | refine EqN.mk _ rfl ?_
    | (refine CondF.mk (fun hb => ?_) (fun hb => ?_) <;> try simp only [forall_const, eq_self, not_true_eq_false, not_false_eq_true, or_false, false_or, or_self, or_true, true_or, and_true, true_and, and_false, false_and, decide_true, decide_false, Bool.not_true, Bool.not_false, decide_eq_true_eq, decide_eq_false_iff_not, ite_and_p, ite_or_p, Bool.decide_eq_true, Bool.and_eq_true, Bool.or_eq_true, Bool.not_eq_true', Bool.not_eq_false', Bool.and_eq_false_imp, Bool.or_eq_false_iff, bne_iff_ne, beq_iff_eq, bne_eq_false_iff_eq, beq_eq_false_iff_ne, gt_iff_lt, ge_iff_le, Int.not_lt, Int.not_le, ne_eq, Bool.true_eq_false, Bool.false_eq_true, reduceCtorEq, eta_Airway, eta_Fan, eta_Mine] at hb)
    | apply BackF.auto
    | refine BackB.mk ?_ ?_
    | refine RetF.auto (And.intro rfl ?_)
    | exact Is.mk rfl rfl
    | refine Is.mk ?_ rfl
    | refine Is.mk rfl ?_
    | refine Is.mk ?_ ?_
  all_goals try dsimp only
  all_goals try simp only [Bo, I, OB.row.injEq, AV.osl.injEq, eI_same,  List.cons.injEq, AV.p.injEq, PV.c.injEq, Value.int.injEq, Value.bool.injEq, and_true, true_and, ite_and_p, ite_or_p, Bool.decide_eq_true, eta_Airway, eta_Fan, eta_Mine]
  · exact ⟨by omega, by omega, all_0⟩
  · refine (Bool.eq_false_iff.2 fun hh => ?_).symm
    have := of_decide_eq_true (List.all_eq_true.1 hh i.toNat (List.mem_range.2 (by omega)))
    rw [show i.toNat - 1 = (i - 1).toNat by omega] at this
    omega
  · refine ⟨by omega, by omega, all_s (P := fun j => 0 ≤ xs.getD j 0 ∧ xs.getD j 0 < n ∧ (j = 0 ∨ xs.getD (j - 1) 0 < xs.getD j 0)) h0 h2 ?_⟩
    rw [show i.toNat - 1 = (i - 1).toNat by omega]
    by_cases e : 0 < i
    · have := hb.2 e; omega
    · omega
  · omega
  · exact (List.all_eq_true.2 fun j hj => decide_eq_true (h2 j (by have := List.mem_range.1 hj; omega))).symm
end Go.Proofs.YtdhkpmaanegjkaaGreatDoor

set_option linter.unusedVariables false
set_option linter.unusedSimpArgs false
namespace Go.Proofs.YtdhkpmaanegjkaaGreatDoor
open Go.Av
attribute [local irreducible] Go.IntKind.wrap leastI rdZ rd rootI rawA okMine
set_option maxRecDepth 20000
set_option maxHeartbeats 8000000
def bdL (B : Int) (xs : List Int) : Prop := ∀ j : Nat, -B ≤ xs.getD j 0 ∧ xs.getD j 0 ≤ B
def wlk (m : GMine) : List Int → Int → Int
  | [], a => a
  | x :: w, a => if x = 0 ∨ (m.airways.length : Int) < absI x then -1 else if 0 < x ∧ (m.airways.getD (absI x - 1).toNat default).from_ = a then wlk m w (m.airways.getD (absI x - 1).toNat default).to else if x < 0 ∧ (m.airways.getD (absI x - 1).toNat default).to = a then wlk m w (m.airways.getD (absI x - 1).toNat default).from_ else -1
theorem wlk_s {m : GMine} {w : List Int} {a i : Int} (h0 : 0 ≤ i) (hi : i < w.length) : wlk m (w.drop i.toNat) a = if w.getD i.toNat 0 = 0 ∨ (m.airways.length : Int) < absI (w.getD i.toNat 0) then -1 else if 0 < w.getD i.toNat 0 ∧ (m.airways.getD (absI (w.getD i.toNat 0) - 1).toNat default).from_ = a then wlk m (w.drop (i + 1).toNat) (m.airways.getD (absI (w.getD i.toNat 0) - 1).toNat default).to else if w.getD i.toNat 0 < 0 ∧ (m.airways.getD (absI (w.getD i.toNat 0) - 1).toNat default).to = a then wlk m (w.drop (i + 1).toNat) (m.airways.getD (absI (w.getD i.toNat 0) - 1).toNat default).from_ else -1 := by
  have hi2 : i.toNat < w.length := by omega
  rw [List.drop_eq_getElem_cons hi2, show (i + 1).toNat = i.toNat + 1 by omega, List.getD_eq_getElem?_getD, List.getElem?_eq_getElem hi2, Option.getD_some]
  rfl
theorem absI_n {x : Int} (h : x < 0) : absI x = 0 - x := by unfold absI; omega
theorem absI_p {x : Int} (h : ¬x < 0) : absI x = x := by unfold absI; omega
theorem wlk_n {m : GMine} {w : List Int} {a : Int} : wlk m (w.drop (w.length : Int).toNat) a = a := by
  rw [show (w.length : Int).toNat = w.length by omega, List.drop_length]; rfl
section
variable {m : GMine} {g : List Int} {rg : List Bool}
theorem spL_c (hm : okMine m = true) {a : Int} {i : Nat} (hi : i < m.airways.length) (hk : okL m rg a i = true) : (spL m a i = (i : Int) + 1 ∧ (m.airways.getD i default).from_ = a ∧ nxL m a i = (m.airways.getD i default).to ∧ gnL m g a i = g.getD i 0) ∨ (spL m a i = -(i : Int) - 1 ∧ (m.airways.getD i default).to = a ∧ nxL m a i = (m.airways.getD i default).from_ ∧ rg.getD i false = false ∧ gnL m g a i = -g.getD i 0) := by
  have q := okAirway_b ((okMine_p hm).2.2 i (by omega)).1
  unfold okL at hk
  simp only [Bool.or_eq_true, Bool.and_eq_true, decide_eq_true_eq, Bool.not_eq_true'] at hk
  unfold spL nxL gnL
  unfold awI at *
  rcases hk with hk | ⟨hk, hr⟩
  · left; rw [if_pos hk, if_pos hk, if_neg (by omega)]; exact ⟨rfl, hk, rfl, rfl⟩
  · right; rw [if_neg (by omega), if_neg (by omega), if_pos hk]; exact ⟨rfl, hk, rfl, hr, rfl⟩
theorem wlk_c {x : Int} {w : List Int} {a : Int} : wlk m (x :: w) a = if x = 0 ∨ (m.airways.length : Int) < absI x then -1 else if 0 < x ∧ (m.airways.getD (absI x - 1).toNat default).from_ = a then wlk m w (m.airways.getD (absI x - 1).toNat default).to else if x < 0 ∧ (m.airways.getD (absI x - 1).toNat default).to = a then wlk m w (m.airways.getD (absI x - 1).toNat default).from_ else -1 := by
  conv => lhs; unfold wlk
theorem wlk_sp (hm : okMine m = true) : ∀ (es : List Nat) (a : Int), okW m rg a es → wlk m (spW m a es) a = enW m a es
  | [], a, _ => by unfold spW; unfold wlk; rfl
  | i :: es, a, ho => by
    have ih := wlk_sp hm es _ ho.2.2
    have hi := ho.1
    rw [spW, wlk_c]
    rcases spL_c (g := []) hm ho.1 ho.2.1 with ⟨e1, e2, e3, _⟩ | ⟨e1, e2, e3, _, _⟩
    · have ea : absI (spL m a i) = (i : Int) + 1 := by rw [e1]; unfold absI; omega
      rw [ea, if_neg (by omega), if_pos ⟨by omega, by rw [show ((i : Int) + 1 - 1).toNat = i by omega]; exact e2⟩, show ((i : Int) + 1 - 1).toNat = i by omega, ← e3, ih]; rfl
    · have ea : absI (spL m a i) = (i : Int) + 1 := by rw [e1]; unfold absI; omega
      rw [ea, if_neg (by omega), if_neg (fun h => by omega), if_pos ⟨by omega, by rw [show ((i : Int) + 1 - 1).toNat = i by omega]; exact e2⟩, show ((i : Int) + 1 - 1).toNat = i by omega, ← e3, ih]; rfl
end
end Go.Proofs.YtdhkpmaanegjkaaGreatDoor
