/- Contracts of functions of the program, and what they compute. Conditions: those that each theorem states. -/
import Derived.Test.YtdhkpmaanegjkaaGreatDoorProg
import Derived.Test.YtdhkpmaanegjkaaGreatDoorL3
import Derived.Test.YtdhkpmaanegjkaaGreatDoorL1
import Derived.Test.YtdhkpmaanegjkaaGreatDoorW1
import Derived.Test.YtdhkpmaanegjkaaGreatDoorV3
set_option linter.unusedVariables false
set_option linter.unusedSimpArgs false
namespace Go.Proofs.YtdhkpmaanegjkaaGreatDoor
open Go.Av
attribute [local irreducible] Go.IntKind.wrap
set_option maxRecDepth 20000
set_option maxHeartbeats 4000000
end Go.Proofs.YtdhkpmaanegjkaaGreatDoor

set_option linter.unusedVariables false
set_option linter.unusedSimpArgs false
namespace Go.Proofs.YtdhkpmaanegjkaaGreatDoor
open Go.Av
attribute [local irreducible] Go.IntKind.wrap
set_option maxRecDepth 20000
set_option maxHeartbeats 4000000
inductive SrcX {α : Type} (f : α → List AV) (g : α → List OB) (φ : α → Prop) (c : List Int) (k p : Int) (rs : List AV) (ho : List OB) : Prop
  | mk (v : α) (p' s' : Int) (h1 : rs = f v) (h2 : ho = srcO c p' s' :: g v) (h3 : φ v) (h4 : p ≤ p' ∧ p' ≤ p + k)
theorem ArgF.srx {α : Type} {f : α → List AV} {g : α → List OB} {φ : α → Prop} {c : List Int} {k p : Int} {n : Nat} {P : Program} [Kn P] {fn : FuncId} {args : List AV} {hin : List OB} {K : List AV → List OB → Prop} (h : FnSem P fn args hin (SrcX f g φ c k p)) (hk : ∀ v p' s', φ v → p ≤ p' ∧ p' ≤ p + k → K (f v) (srcO c p' s' :: g v)) : ArgF n P fn args hin K :=
  ⟨_, h, fun rs ho hR _ => by obtain ⟨v, p', s', rfl, rfl, h3, h4⟩ := hR; exact hk v p' s' h3 h4⟩
def absI (n : Int) : Int := max n (0 - n)
theorem c_laws_b10Has (xs : List Int) (x : Int) : FnSem Tryz.prog 12 [Lx (LI xs), In x] [] (Is [Bo (decide (x ∈ xs))] []) := by
  refine FnSem.walk (zs := zeroPV Tryz.prog) (by kernel_rfl) Tryz.func12 rfl Tryz.results12 (by kernel_rfl) (by kernel_rfl) (by kernel_rfl) fun hw hh => ?_
  obtain ⟨w0, w1, _⟩ := hw
  first | replace w0 := wf_LI w0 | skip
  first | replace w1 := wf_I w1 | skip
  repeat' first
    | refine And.intro rfl ?_
    | refine GdF.mk (fun h => h) ?_
    | refine And.intro (Nat.succ_ne_zero _) ?_
    | refine And.intro (Nat.le_of_ble_eq_true rfl) ?_
    | refine SeqF.run ?_
    | refine LoopF.at 2 rfl (LoopF.fix [0, 1] (Int) (fun i => 0 ≤ i ∧ i ≤ xs.length ∧ ∀ j : Nat, (j : Int) < i → ¬xs.getD j 0 = x) (fun i => [(5, In i)]) (fun i => []) (fun i => ((xs.length - i).toNat)) (0) ?_)
    | (refine LoopB.of (T := Int) ?_ ?_; rotate_left; rintro i ⟨h0, h1, h2⟩; rotate_left)
    | refine GhF.go ?_
    | refine EqP.mk _ (gm eI 0 rfl) ?_
    | refine BndF.mk (fun _ => by omega) ?_
    | refine BndF.mk (fun _ => by simp only [lnS]; omega) ?_
    | refine EqI.mk _ (fun _ => wrapI (by omega) (by omega)) ?_
    | refine EqI.mk _ (fun _ => rfl) ?_
    | refine EqN.mk _ (ln eI) ?_
    | refine EqN.mk _ (Nat.zero_add _) ?_
    | refine EqN.mk _ (Int.toNat_natCast _) ?_
    | refine EqN.mk _ rfl ?_
    | (refine CondF.mk (fun hb => ?_) (fun hb => ?_) <;> try simp only [forall_const, eq_self, not_true_eq_false, not_false_eq_true, or_false, false_or, or_self, or_true, true_or, and_true, true_and, and_false, false_and, decide_true, decide_false, Bool.not_true, Bool.not_false, decide_eq_true_eq, decide_eq_false_iff_not, ite_and_p, ite_or_p, Bool.decide_eq_true, Bool.and_eq_true, Bool.or_eq_true, Bool.not_eq_true', Bool.not_eq_false', Bool.and_eq_false_imp, Bool.or_eq_false_iff, bne_iff_ne, beq_iff_eq, bne_eq_false_iff_eq, beq_eq_false_iff_ne, gt_iff_lt, ge_iff_le, Int.not_lt, Int.not_le, ne_eq, Bool.true_eq_false, Bool.false_eq_true, reduceCtorEq, eta_Airway, eta_Fan, eta_Mine] at hb)
    | apply BackF.auto
    | refine BackB.mk ?_ ?_
    | refine RetF.auto (And.intro rfl ?_)
    | exact Is.mk rfl rfl
    | refine Is.mk ?_ rfl
    | refine Is.mk rfl ?_
    | refine Is.mk ?_ ?_
  all_goals try dsimp only
  all_goals try simp only [Bo, I, OB.row.injEq, AV.osl.injEq, eI_same,  List.cons.injEq, AV.p.injEq, PV.c.injEq, Value.int.injEq, Value.bool.injEq, and_true, true_and, ite_and_p, ite_or_p, Bool.decide_eq_true, eta_Airway, eta_Fan, eta_Mine]
  · exact ⟨by omega, by omega, all_0⟩
  · rw [← hb]; exact (decide_eq_true (getD_mem (by omega))).symm
  · exact ⟨by omega, by omega, all_s h0 h2 hb⟩
  · omega
  · refine (decide_eq_false fun hm => ?_).symm
    obtain ⟨j, hj, e⟩ := List.getElem_of_mem hm
    exact h2 j (by omega) (by rw [List.getD_eq_getElem?_getD, List.getElem?_eq_getElem hj]; exact e)
def rises (xs : List Int) (n : Int) : Bool := (List.range xs.length).all fun j => decide (0 ≤ xs.getD j 0 ∧ xs.getD j 0 < n ∧ (j = 0 ∨ xs.getD (j - 1) 0 < xs.getD j 0))
theorem c_laws_b10Rises (xs : List Int) (n : Int) : FnSem Tryz.prog 11 [Lx (LI xs), In n] [] (Is [Bo (rises xs n)] []) := by
  refine FnSem.walk (zs := zeroPV Tryz.prog) (by kernel_rfl) Tryz.func11 rfl Tryz.results11 (by kernel_rfl) (by kernel_rfl) (by kernel_rfl) fun hw hh => ?_
  obtain ⟨w0, w1, _⟩ := hw
  first | replace w0 := wf_LI w0 | skip
  first | replace w1 := wf_I w1 | skip
  repeat' first
    | refine And.intro rfl ?_
    | refine GdF.mk (fun h => h) ?_
    | refine And.intro (Nat.succ_ne_zero _) ?_
    | refine And.intro (Nat.le_of_ble_eq_true rfl) ?_
    | refine SeqF.run ?_
    | refine LoopF.at 2 rfl (LoopF.fix [0, 1] (Int) (fun i => 0 ≤ i ∧ i ≤ xs.length ∧ ∀ j : Nat, (j : Int) < i → 0 ≤ xs.getD j 0 ∧ xs.getD j 0 < n ∧ (j = 0 ∨ xs.getD (j - 1) 0 < xs.getD j 0)) (fun i => [(5, In i)]) (fun i => []) (fun i => ((xs.length - i).toNat)) (0) ?_)
    | (refine LoopB.of (T := Int) ?_ ?_; rotate_left; rintro i ⟨h0, h1, h2⟩; rotate_left)
    | refine GhF.go ?_
    | refine GdS.keep ?_
    | refine DrawG.old (DrawF.lex (by decide +kernel) ?_)
    | refine EqP.mk _ (gm eI 0 rfl) ?_
    | refine BndF.mk (fun _ => by omega) ?_
    | refine BndF.mk (fun _ => by simp only [lnS]; omega) ?_
    | refine BndF.mk (fun hG => by simp only [forall_const, eq_self, not_true_eq_false, not_false_eq_true, or_false, false_or, or_self, or_true, true_or, and_true, true_and, and_false, false_and, decide_true, decide_false, Bool.not_true, Bool.not_false, decide_eq_true_eq, decide_eq_false_iff_not, ite_and_p, ite_or_p, Bool.decide_eq_true, Bool.and_eq_true, Bool.or_eq_true, Bool.not_eq_true', Bool.not_eq_false', Bool.and_eq_false_imp, Bool.or_eq_false_iff, bne_iff_ne, beq_iff_eq, bne_eq_false_iff_eq, beq_eq_false_iff_ne, gt_iff_lt, ge_iff_le, Int.not_lt, Int.not_le, ne_eq, Bool.true_eq_false, Bool.false_eq_true, reduceCtorEq, eta_Airway, eta_Fan, eta_Mine, bytes_nil] at hG; (try simp only [List.length_map]); omega) ?_
    | refine EqI.mk _ (fun _ => wrapI (by omega) (by omega)) ?_
    | refine EqI.mk _ (fun _ => rfl) ?_
    | refine EqN.mk _ (ln eI) ?_
    | refine EqN.mk _ (Nat.zero_add _) ?_
    | refine EqN.mk _ (Int.toNat_natCast _) ?_
    | refine EqN.mk _ rfl ?_
    | (refine CondF.mk (fun hb => ?_) (fun hb => ?_) <;> try simp only [forall_const, eq_self, not_true_eq_false, not_false_eq_true, or_false, false_or, or_self, or_true, true_or, and_true, true_and, and_false, false_and, decide_true, decide_false, Bool.not_true, Bool.not_false, decide_eq_true_eq, decide_eq_false_iff_not, ite_and_p, ite_or_p, Bool.decide_eq_true, Bool.and_eq_true, Bool.or_eq_true, Bool.not_eq_true', Bool.not_eq_false', Bool.and_eq_false_imp, Bool.or_eq_false_iff, bne_iff_ne, beq_iff_eq, bne_eq_false_iff_eq, beq_eq_false_iff_ne, gt_iff_lt, ge_iff_le, Int.not_lt, Int.not_le, ne_eq, Bool.true_eq_false, Bool.false_eq_true, reduceCtorEq, eta_Airway, eta_Fan, eta_Mine] at hb)
    | apply BackF.auto
    | refine BackB.mk ?_ ?_
    | refine RetF.auto (And.intro rfl ?_)
    | exact Is.mk rfl rfl
    | refine Is.mk ?_ rfl
    | refine Is.mk rfl ?_
    | refine Is.mk ?_ ?_
  all_goals try dsimp only
  all_goals try simp only [Bo, I, OB.row.injEq, AV.osl.injEq, eI_same,  List.cons.injEq, AV.p.injEq, PV.c.injEq, Value.int.injEq, Value.bool.injEq, and_true, true_and, ite_and_p, ite_or_p, Bool.decide_eq_true, eta_Airway, eta_Fan, eta_Mine]
  · exact ⟨by omega, by omega, all_0⟩
  · refine (Bool.eq_false_iff.2 fun hh => ?_).symm
    have := of_decide_eq_true (List.all_eq_true.1 hh i.toNat (List.mem_range.2 (by omega)))
    rw [show i.toNat - 1 = (i - 1).toNat by omega] at this
    omega
  · refine ⟨by omega, by omega, all_s (P := fun j => 0 ≤ xs.getD j 0 ∧ xs.getD j 0 < n ∧ (j = 0 ∨ xs.getD (j - 1) 0 < xs.getD j 0)) h0 h2 ?_⟩
    rw [show i.toNat - 1 = (i - 1).toNat by omega]
    by_cases e : 0 < i
    · have := hb.2 e; omega
    · omega
  · omega
  · exact (List.all_eq_true.2 fun j hj => decide_eq_true (h2 j (by have := List.mem_range.1 hj; omega))).symm
end Go.Proofs.YtdhkpmaanegjkaaGreatDoor

set_option linter.unusedVariables false
set_option linter.unusedSimpArgs false
namespace Go.Proofs.YtdhkpmaanegjkaaGreatDoor
open Go.Av
attribute [local irreducible] Go.IntKind.wrap okMine
set_option maxRecDepth 20000
set_option maxHeartbeats 8000000
def bdL (B : Int) (xs : List Int) : Prop := ∀ j : Nat, -B ≤ xs.getD j 0 ∧ xs.getD j 0 ≤ B
def wlk (m : GMine) : List Int → Int → Int
  | [], a => a
  | x :: w, a => if x = 0 ∨ (m.airways.length : Int) < absI x then -1 else if 0 < x ∧ (m.airways.getD (absI x - 1).toNat default).from_ = a then wlk m w (m.airways.getD (absI x - 1).toNat default).to else if x < 0 ∧ (m.airways.getD (absI x - 1).toNat default).to = a then wlk m w (m.airways.getD (absI x - 1).toNat default).from_ else -1
theorem absI_p {x : Int} (h : ¬x < 0) : absI x = x := by unfold absI; omega
section
variable {m : GMine} {g : List Int} {rg : List Bool}
theorem spL_c (hm : okMine m = true) {a : Int} {i : Nat} (hi : i < m.airways.length) (hk : okL m rg a i = true) : (spL m a i = (i : Int) + 1 ∧ (m.airways.getD i default).from_ = a ∧ nxL m a i = (m.airways.getD i default).to ∧ gnL m g a i = g.getD i 0) ∨ (spL m a i = -(i : Int) - 1 ∧ (m.airways.getD i default).to = a ∧ nxL m a i = (m.airways.getD i default).from_ ∧ rg.getD i false = false ∧ gnL m g a i = -g.getD i 0) := by
  have q := okAirway_b ((okMine_p hm).2.2 i (by omega)).1
  unfold okL at hk
  simp only [Bool.or_eq_true, Bool.and_eq_true, decide_eq_true_eq, Bool.not_eq_true'] at hk
  unfold spL nxL gnL
  unfold awI at *
  rcases hk with hk | ⟨hk, hr⟩
  · left; rw [if_pos hk, if_pos hk, if_neg (by omega)]; exact ⟨rfl, hk, rfl, rfl⟩
  · right; rw [if_neg (by omega), if_neg (by omega), if_pos hk]; exact ⟨rfl, hk, rfl, hr, rfl⟩
theorem wlk_c {x : Int} {w : List Int} {a : Int} : wlk m (x :: w) a = if x = 0 ∨ (m.airways.length : Int) < absI x then -1 else if 0 < x ∧ (m.airways.getD (absI x - 1).toNat default).from_ = a then wlk m w (m.airways.getD (absI x - 1).toNat default).to else if x < 0 ∧ (m.airways.getD (absI x - 1).toNat default).to = a then wlk m w (m.airways.getD (absI x - 1).toNat default).from_ else -1 := by
  conv => lhs; unfold wlk
theorem wlk_sp (hm : okMine m = true) : ∀ (es : List Nat) (a : Int), okW m rg a es → wlk m (spW m a es) a = enW m a es
  | [], a, _ => by unfold spW; unfold wlk; rfl
  | i :: es, a, ho => by
    have ih := wlk_sp hm es _ ho.2.2
    have hi := ho.1
    rw [spW, wlk_c]
    rcases spL_c (g := []) hm ho.1 ho.2.1 with ⟨e1, e2, e3, _⟩ | ⟨e1, e2, e3, _, _⟩
    · have ea : absI (spL m a i) = (i : Int) + 1 := by rw [e1]; unfold absI; omega
      rw [ea, if_neg (by omega), if_pos ⟨by omega, by rw [show ((i : Int) + 1 - 1).toNat = i by omega]; exact e2⟩, show ((i : Int) + 1 - 1).toNat = i by omega, ← e3, ih]; rfl
    · have ea : absI (spL m a i) = (i : Int) + 1 := by rw [e1]; unfold absI; omega
      rw [ea, if_neg (by omega), if_neg (fun h => by omega), if_pos ⟨by omega, by rw [show ((i : Int) + 1 - 1).toNat = i by omega]; exact e2⟩, show ((i : Int) + 1 - 1).toNat = i by omega, ← e3, ih]; rfl
end
end Go.Proofs.YtdhkpmaanegjkaaGreatDoor

set_option linter.unusedVariables false
set_option linter.unusedSimpArgs false
namespace Go.Proofs.YtdhkpmaanegjkaaGreatDoor
open Go.Av
attribute [local irreducible] Go.IntKind.wrap okMine wlk
set_option maxRecDepth 20000
set_option maxHeartbeats 40000000
section
variable {m : GMine} {T : List Int}
theorem cnA_sym (hm : okMine m = true) {u v : Int} (h : cnA m T u v) : cnA m T v u := by
  obtain ⟨n, hn⟩ := h
  exact ⟨n, wkA_sym hm n u v hn⟩
structure mshP (m : GMine) (w : List Int) : Prop where
  ln : 2 ≤ w.length ∧ w.length ≤ 17
  hd : 1 ≤ w.getD 0 0 ∧ w.getD 0 0 ≤ m.airways.length
  wk : wlk m w (m.airways.getD (w.getD 0 0 - 1).toNat default).from_ = (m.airways.getD (w.getD 0 0 - 1).toNat default).from_
  bd : bdL 24 w
structure mshI (m : GMine) (ss : List (List Int)) (i : Int) : Prop where
  at_ : ∀ j : Nat, j < ss.length → mshP m (ss.getD j [])
  inc : ∀ j : Nat, 0 < j → j < ss.length → (ss.getD (j - 1) []).getD 0 0 < (ss.getD j []).getD 0 0
  le : ∀ j : Nat, j < ss.length → (ss.getD j []).getD 0 0 ≤ i
  ln : (ss.length : Int) ≤ i
theorem mshI_0 : mshI m [] 0 := ⟨fun j h => by simp at h, fun j _ h => by simp at h, fun j h => by simp at h, by simp⟩
theorem mshI_k {ss : List (List Int)} {i : Int} (h : mshI m ss i) : mshI m ss (i + 1) := ⟨h.at_, h.inc, fun j hj => by have := h.le j hj; omega, by have := h.ln; omega⟩
theorem getS {ss : List (List Int)} {w : List Int} {j : Nat} (h : j < ss.length) : (ss ++ [w]).getD j [] = ss.getD j [] := by
  rw [List.getD_eq_getElem?_getD, List.getD_eq_getElem?_getD, List.getElem?_append_left h]
theorem getE {ss : List (List Int)} {w : List Int} : (ss ++ [w]).getD ss.length [] = w := by simp [List.getD_eq_getElem?_getD]
theorem mshI_a {ss : List (List Int)} {i : Int} {w : List Int} (h : mshI m ss i) (hw : mshP m w) (h0 : w.getD 0 0 = i + 1) : mshI m (ss ++ [w]) (i + 1) := by
  refine ⟨fun j hj => ?_, fun j hj0 hj => ?_, fun j hj => ?_, by have := h.ln; simp; omega⟩
  all_goals rw [List.length_append, List.length_singleton] at hj
  · by_cases e : j < ss.length
    · rw [getS e]; exact h.at_ j e
    · rw [show j = ss.length by omega, getE]; exact hw
  · by_cases e : j < ss.length
    · rw [getS e, getS (by omega)]; exact h.inc j hj0 e
    · rw [show j = ss.length by omega, getE, getS (by omega)]
      have := h.le (ss.length - 1) (by omega)
      omega
  · by_cases e : j < ss.length
    · rw [getS e]; have := h.le j e; omega
    · rw [show j = ss.length by omega, getE]; omega
theorem spL_b {a : Int} {i : Nat} (hi : i < m.airways.length) (hl : m.airways.length ≤ 24) : -24 ≤ spL m a i ∧ spL m a i ≤ 24 := by
  unfold spL; split <;> omega
theorem spW_b (hl : m.airways.length ≤ 24) : ∀ (es : List Nat) (a : Int), okW m [] a es → bdL 24 (spW m a es)
  | [], a, _ => fun j => by simp [spW]
  | i :: es, a, ho => fun j => by
    have ih := spW_b hl es _ ho.2.2
    cases j with
    | zero => simpa [spW] using spL_b ho.1 hl
    | succ j => simpa [spW] using ih j
theorem bd_c {x : Int} {w : List Int} (h : bdL 24 w) (hx : -24 ≤ x ∧ x ≤ 24) : bdL 24 (x :: w) := fun j => by
  cases j with
  | zero => simpa using hx
  | succ j => simpa using h j
theorem msh_of (hm : okMine m = true) {i : Int} (h0 : 0 ≤ i) (hi : i < m.airways.length) {es : List Nat} {ws : List Int} {n : Nat} (hw : wayI m T (m.airways.getD i.toNat default).to (m.airways.getD i.toNat default).from_ es ws) (h3 : n = ws.length) (h4 : n = es.length) (h5 : dsA m T n (m.airways.getD i.toNat default).to (m.airways.getD i.toNat default).from_) (h6 : n ≤ 16) : mshP m ((i + 1) :: ws) := by
  have q := okMine_p hm
  have qa := okAirway_b (q.2.2 i.toNat (by omega)).1
  have hn : 0 < n := by
    cases n with
    | zero => have := h5.1; exact absurd (show (m.airways.getD i.toNat default).to = (m.airways.getD i.toNat default).from_ from this) (by omega)
    | succ n => omega
  refine ⟨by simp; omega, by simp; omega, ?_, bd_c ?_ (by omega)⟩
  · rw [List.getD_cons_zero, show i + 1 - 1 = i by omega, wlk_c]
    have ea : absI (i + 1) = i + 1 := absI_p (by omega)
    rw [ea, if_neg (by omega), show i + 1 - 1 = i by omega, if_pos ⟨by omega, rfl⟩, hw.sp, wlk_sp hm es _ hw.ok, hw.en]
  · rw [hw.sp]; exact spW_b q.2.1 es _ hw.ok
end
theorem capT {x : Int} {ws : List Int} {n : Nat} (h : ws.length + 1 ≤ n) : ((List.map eI (x :: ws)).drop 0).take n = List.map eI (x :: ws) := by
  rw [List.drop_zero, List.take_of_length_le (by simp; omega)]
theorem c_impl_Mine_meshes (m : GMine) (hm : okMine m = true) : FnSem Tryz.prog 35 [.p .any (.agg m.cells)] [] (RetV (fun v : List (List Int) => [.p .fresh (LLI v)]) (fun _ => []) (fun v => mshI m v m.airways.length)) := by
  have hmp := okMine_p hm
  refine FnSem.walk (zs := zeroPV Tryz.prog) (by kernel_rfl) Tryz.func35 rfl Tryz.results35 (by kernel_rfl) (by kernel_rfl) (by kernel_rfl) fun hw hh => ?_
  obtain ⟨w0, _⟩ := hw
  first | replace w0 := wf_Mine w0 | skip
  have hwl := w0.2.1
  repeat' first
    | refine And.intro rfl ?_
    | refine GdF.mk (fun h => h) ?_
    | refine And.intro (Nat.succ_ne_zero _) ?_
    | refine And.intro (Nat.le_of_ble_eq_true rfl) ?_
    | refine SeqF.run ?_
    | refine GhF.at 10 rfl [.fz 2 4] ?_
    | (refine ArgF.ret (c_impl_Mine_tree m hm) ?_; rintro ⟨t, T⟩ ⟨t1, t2⟩; dsimp only at t1 t2)
    | refine EqL.mk _ (tkT (take_all t1)) ?_
    | (refine ArgF.mk _ (c_impl_Mine_path m (m.airways.getD i.toNat default).to (m.airways.getD i.toNat default).from_ T hm (hmp.2.2 i.toNat (by omega)).2.2 (hmp.2.2 i.toNat (by omega)).2.1 t2.rg (by have := trI_len t2 (by omega); omega)) (fun rs ho hR _ => ?_); rcases hR with ⟨rfl, rfl, hno⟩ | ⟨k, ws, es, rfl, rfl, p3, p4, p5, p6, p7⟩)
    | (exfalso; exact hno (cnA_sym hm (t2.cn i i0 (by assumption) (by assumption))))
    | refine MkF.rows ?_
    | refine EqL.mk (List.map eI ((i + 1) :: ws)) rfl ?_
    | refine EqL.mk (List.map eI ((i + 1) :: ws)) (capT (by simp; omega)) ?_
    | refine BndF.mk (fun _ => by simp; omega) ?_
    | refine BndF.mk (fun _ => by have := i3.ln; omega) ?_
    | refine EqR.mk (List.map eR [(i + 1) :: ws]) rfl ?_
    | refine EqR.mk [] rfl ?_
    | refine EqR.mk _ apR ?_
    | refine EqR.mk (List.map eR [(i + 1) :: ws]) (by simp) ?_
    | refine EqL.mk (ss.map eLI) (tkRows i2) ?_
    | refine LoopF.at 4 rfl (LoopF.fix [1, 3, 12, 13] (Int × Nat × List (List Int)) (fun (i, n, ss) => 0 ≤ i ∧ i ≤ m.airways.length ∧ n = ss.length ∧ mshI m ss i) (fun (i, n, ss) => [(14, In i), (4, .osl 2 0 n)]) (fun (i, n, ss) => [(2, .rows true .flat (eI 0) (ss.map eR) none)]) (fun (i, n, ss) => ((m.airways.length - i).toNat)) ((0, 0, [])) ?_)
    | (refine LoopB.of (T := Int × Nat × List (List Int)) ?_ ?_; rotate_left; rintro ⟨i, n, ss⟩ ⟨i0, i1, i2, i3⟩; rotate_left)
    | refine RetV.mk (α := List (List Int)) ss rfl rfl ?_
    | refine GhF.go ?_
    | refine BndF.mk (fun _ => ⟨rfl, by first | rfl | omega | (simp only [List.length_map, List.length_cons, List.length_nil, List.length_append, List.length_set, List.length_replicate]; first | done | omega)⟩) ?_
    | refine MkF.row ?_
    | refine EqP.mk _ (gm GAirway.cells default rfl) ?_
    | refine EqP.mk _ (gm eI 0 rfl) ?_
    | refine EqP.mk _ (gmb eLI [] (by omega)) ?_
    | refine BndF.mk (fun _ => by omega) ?_
    | refine BndF.mk (fun _ => by simp only [lnS]; omega) ?_
    | refine EqI.mk _ (fun _ => wrapI (by omega) (by omega)) ?_
    | refine EqI.mk _ (fun _ => rfl) ?_
    | refine FlF.keep ?_
    | refine EqN.mk _ (ln GAirway.cells) ?_
    | refine EqN.mk _ (ln eI) ?_
    | refine EqN.mk _ (ln eLI) ?_
    | refine EqN.mk _ (Nat.zero_add _) ?_
    | refine EqN.mk (_ + 1) rfl ?_
    | refine EqN.mk _ (Int.toNat_natCast _) ?_
    | refine EqN.mk _ rfl ?_
    | refine EqL.mk _ (sn0 GAirway.cells) ?_
    | refine EqL.mk _ (sn GAirway.cells (by first | rfl | assumption | omega | (simp only [lnS] <;> omega))) ?_
    | refine EqL.mk _ (ap0 GAirway.cells) ?_
    | refine EqL.mk _ (ap GAirway.cells (by first | rfl | assumption | omega | (simp only [lnS] <;> omega))) ?_
    | refine EqL.mk _ (tk GAirway.cells (by first | rfl | assumption | omega | (simp only [lnS] <;> omega))) ?_
    | refine EqL.mk _ (st GAirway.cells) ?_
    | refine EqL.mk _ (dt GAirway.cells) ?_
    | refine EqL.mk _ (sn0 eI) ?_
    | refine EqL.mk _ (sn eI (by first | rfl | assumption | omega | (simp only [lnS] <;> omega))) ?_
    | refine EqL.mk _ (ap0 eI) ?_
    | refine EqL.mk _ (ap eI (by first | rfl | assumption | omega | (simp only [lnS] <;> omega))) ?_
    | refine EqL.mk _ (tk eI (by first | rfl | assumption | omega | (simp only [lnS] <;> omega))) ?_
    | refine EqL.mk _ (st eI) ?_
    | refine EqL.mk _ (dt eI) ?_
    | refine EqL.mk _ (sn0 eLI) ?_
    | refine EqL.mk _ (sn eLI (by first | rfl | assumption | omega | (simp only [lnS] <;> omega))) ?_
    | refine EqL.mk _ (ap0 eLI) ?_
    | refine EqL.mk _ (ap eLI (by first | rfl | assumption | omega | (simp only [lnS] <;> omega))) ?_
    | refine EqL.mk _ (tk eLI (by first | rfl | assumption | omega | (simp only [lnS] <;> omega))) ?_
    | refine EqL.mk _ (st eLI) ?_
    | refine EqL.mk _ (dt eLI) ?_
    | refine EqL.mk [] rfl ?_
    | refine EqL.mk [_] rfl ?_
    | refine EqL.mk _ rfl ?_
    | refine ArgF.is (c_impl_Mine_tree ⟨_, _⟩ (by first | assumption | omega)) ?_
    | refine ArgQ.is (fun hG => c_impl_Mine_tree ⟨_, _⟩ (by first | assumption | omega)) rfl rfl ?_
    | refine ArgF.is (c_slices_Contains_int64_int64 ..) ?_
    | refine ArgQ.is (fun hG => c_slices_Contains_int64_int64 ..) rfl rfl ?_
    | refine ArgF.is (c_impl_Mine_path ⟨_, _⟩ _ _ _ (by first | assumption | omega) (by first | assumption | omega) (by first | assumption | omega) (by first | assumption | omega) (by first | assumption | omega)) ?_
    | refine ArgQ.is (fun hG => c_impl_Mine_path ⟨_, _⟩ _ _ _ (by first | assumption | omega) (by first | assumption | omega) (by first | assumption | omega) (by first | assumption | omega) (by first | assumption | omega)) rfl rfl ?_
    | refine CallF.mk (CallW.is [] true rfl ?_)
    | refine CallG.mk ?_
    | (refine CondF.mk (fun hb => ?_) (fun hb => ?_) <;> try simp only [forall_const, eq_self, not_true_eq_false, not_false_eq_true, or_false, false_or, or_self, or_true, true_or, and_true, true_and, and_false, false_and, decide_true, decide_false, Bool.not_true, Bool.not_false, decide_eq_true_eq, decide_eq_false_iff_not, ite_and_p, ite_or_p, Bool.decide_eq_true, Bool.and_eq_true, Bool.or_eq_true, Bool.not_eq_true', Bool.not_eq_false', Bool.and_eq_false_imp, Bool.or_eq_false_iff, bne_iff_ne, beq_iff_eq, bne_eq_false_iff_eq, beq_eq_false_iff_ne, gt_iff_lt, ge_iff_le, Int.not_lt, Int.not_le, ne_eq, Bool.true_eq_false, Bool.false_eq_true, reduceCtorEq, eta_Airway, eta_Fan, eta_Mine] at hb)
    | apply BackF.auto3
    | refine BackB.mk ?_ ?_
    | refine RetF.auto (And.intro rfl ?_)
    | exact Is.mk rfl rfl
    | refine Is.mk ?_ rfl
    | refine Is.mk rfl ?_
    | refine Is.mk ?_ ?_
  all_goals try dsimp only
  all_goals first
    | omega
    | exact ⟨by omega, by omega, rfl, mshI_0⟩
    | exact ⟨by omega, by omega, i2, mshI_k i3⟩
    | exact ⟨by omega, by omega, by simp [i2], mshI_a i3 (msh_of hm i0 (by assumption) p5 p3 p4 p6 p7) rfl⟩
    | (rw [show (m.airways.length : Int) = i by omega]; exact i3)
    | exact ⟨i2, by rw [show (m.airways.length : Int) = i by omega]; exact i3⟩
    | skip
inductive MsR (m : GMine) (rs : List AV) (ho : List OB) : Prop
  | no (h1 : rs = [.osl 0 0 0, In 1]) (h2 : ho = [.rows false .flat (eI 0) [] none])
  | ok (ss : List (List Int)) (h1 : rs = [.p .fresh (LLI ss), In 0]) (h2 : ho = []) (h : okMine m = true) (h3 : mshI m ss m.airways.length)
theorem c_impl_MeshesOf (m : GMine) : FnSem Tryz.prog 8 [.p .any (.agg m.cells)] [] (MsR m) := by
  refine FnSem.old ?_
  refine FnSem.walk (zs := zeroPV Tryz.prog) (by kernel_rfl) Tryz.func8 rfl Tryz.results8 (by kernel_rfl) (by kernel_rfl) (by kernel_rfl) fun hw hh => ?_
  obtain ⟨w0, _⟩ := hw
  first | replace w0 := wf_Mine w0 | skip
  repeat' first
    | refine And.intro rfl ?_
    | refine GdF.mk (fun h => h) ?_
    | refine And.intro (Nat.succ_ne_zero _) ?_
    | refine And.intro (Nat.le_of_ble_eq_true rfl) ?_
    | refine SeqF.run ?_
    | refine ArgF.is (c_impl_ValidMine m) ?_
    | refine ArgQ.is (fun hG => c_impl_ValidMine m) rfl rfl ?_
    | (refine ArgF.ret (c_impl_Mine_meshes m (by assumption)) ?_; rintro ss q2; try dsimp only at q2)
    | refine MkF.rows ?_
    | exact MsR.no rfl rfl
    | exact MsR.ok ss rfl rfl (by assumption) q2
    | refine GhF.go ?_
    | refine BndF.mk (fun _ => ⟨rfl, by first | rfl | omega | (simp only [List.length_map, List.length_cons, List.length_nil, List.length_append, List.length_set, List.length_replicate]; first | done | omega)⟩) ?_
    | refine MkF.row ?_
    | refine BndF.mk (fun _ => by omega) ?_
    | refine BndF.mk (fun _ => by simp only [lnS]; omega) ?_
    | refine EqN.mk _ (Nat.zero_add _) ?_
    | refine EqN.mk _ (Int.toNat_natCast _) ?_
    | refine EqN.mk _ rfl ?_
    | refine EqL.mk [] rfl ?_
    | refine EqL.mk [_] rfl ?_
    | refine EqL.mk _ rfl ?_
    | refine ArgF.is (c_impl_ValidMine ⟨_, _⟩) ?_
    | refine ArgQ.is (fun hG => c_impl_ValidMine ⟨_, _⟩) rfl rfl ?_
    | refine ArgF.is (c_impl_Mine_meshes ⟨_, _⟩ (by first | assumption | omega)) ?_
    | refine ArgQ.is (fun hG => c_impl_Mine_meshes ⟨_, _⟩ (by first | assumption | omega)) rfl rfl ?_
    | refine CallF.mk (CallW.is [] true rfl ?_)
    | refine CallG.mk ?_
    | (refine CondF.mk (fun hb => ?_) (fun hb => ?_) <;> try simp only [forall_const, eq_self, not_true_eq_false, not_false_eq_true, or_false, false_or, or_self, or_true, true_or, and_true, true_and, and_false, false_and, decide_true, decide_false, Bool.not_true, Bool.not_false, decide_eq_true_eq, decide_eq_false_iff_not, ite_and_p, ite_or_p, Bool.decide_eq_true, Bool.and_eq_true, Bool.or_eq_true, Bool.not_eq_true', Bool.not_eq_false', Bool.and_eq_false_imp, Bool.or_eq_false_iff, bne_iff_ne, beq_iff_eq, bne_eq_false_iff_eq, beq_eq_false_iff_ne, gt_iff_lt, ge_iff_le, Int.not_lt, Int.not_le, ne_eq, Bool.true_eq_false, Bool.false_eq_true, reduceCtorEq, eta_Airway, eta_Fan, eta_Mine] at hb)
    | refine RetF.auto (And.intro rfl ?_)
    | exact Is.mk rfl rfl
    | refine Is.mk ?_ rfl
    | refine Is.mk rfl ?_
    | refine Is.mk ?_ ?_
  all_goals skip
theorem iota_r {L : Nat} : ∀ i ∈ iotaI 0 L, 0 ≤ i ∧ i < (L : Int) := by
  intro i hi
  unfold iotaI at hi
  obtain ⟨j, h1, rfl⟩ := List.mem_map.1 hi
  have := List.mem_range.1 h1
  omega
end Go.Proofs.YtdhkpmaanegjkaaGreatDoor
