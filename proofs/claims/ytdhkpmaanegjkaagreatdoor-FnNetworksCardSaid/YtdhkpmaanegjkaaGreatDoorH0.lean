/- Contracts of functions of the program, and what they compute. Conditions: those that each theorem states. -/
import Derived.Test.YtdhkpmaanegjkaaGreatDoorProg
import Derived.Test.YtdhkpmaanegjkaaGreatDoorB8
import Derived.Test.YtdhkpmaanegjkaaGreatDoorD4
set_option linter.unusedVariables false
set_option linter.unusedSimpArgs false
namespace Go.Proofs.YtdhkpmaanegjkaaGreatDoor
open Go.Av
attribute [local irreducible] Go.IntKind.wrap okMine treeC
set_option maxRecDepth 20000
set_option maxHeartbeats 4000000
theorem cnt_rm (f : Nat → Bool) (h : Nat) : ∀ n, h < n → f h = true → (List.range n).countP (fun j => f j && !decide (j = h)) + 1 = (List.range n).countP f
  | 0, hn, _ => absurd hn (by omega)
  | n + 1, hn, hf => by
    rw [List.range_succ, List.countP_append, List.countP_append, List.countP_singleton, List.countP_singleton]
    by_cases e : h = n
    · subst e
      have e1 : (List.range h).countP (fun j => f j && !decide (j = h)) = (List.range h).countP f := List.countP_congr fun x hx => by
        have := List.mem_range.1 hx
        rw [decide_eq_false (show ¬x = h by omega)]; simp
      rw [e1, hf, decide_eq_true rfl]; simp
    · have ih := cnt_rm f h n (by omega) hf
      rw [decide_eq_false (show ¬n = h by omega)]
      simp only [Bool.not_false, Bool.and_true]
      omega
def lstP (m : GMine) (T : List Int) (j : Int) : Prop := ∀ u, cnA m T j u → j ≤ u
noncomputable def lstB (m : GMine) (T : List Int) (j : Int) : Bool := @decide (lstP m T j) (Classical.propDecidable _)
theorem lstB_t {m : GMine} {T : List Int} {j : Int} : lstB m T j = true ↔ lstP m T j := ⟨fun h => @of_decide_eq_true _ (Classical.propDecidable _) h, fun h => @decide_eq_true _ (Classical.propDecidable _) h⟩
noncomputable def lstN (m : GMine) (T : List Int) : Nat := (List.range m.junctions.toNat).countP fun (j : Nat) => lstB m T (j : Int)
section
variable {m : GMine} {T : List Int}
theorem cnA_V (hm : okMine m = true) {u v : Int} (hu : inV m u) (h : cnA m T u v) : inV m v := by
  obtain ⟨n, hn⟩ := h
  exact wkA_V hm n u v hu hn
theorem least_ex (hm : okMine m = true) : ∀ (n : Nat) (a : Int), inV m a → a.toNat ≤ n → ∃ p, inV m p ∧ cnA m T a p ∧ lstP m T p
  | n, a, ha, hn => by
    by_cases h : ∃ u, cnA m T a u ∧ u < a
    · obtain ⟨u, h1, h2⟩ := h
      have hu := cnA_V hm ha h1
      have hu2 : 0 ≤ u ∧ u < m.junctions := hu
      cases n with
      | zero => omega
      | succ n =>
        obtain ⟨p, p1, p2, p3⟩ := least_ex hm n u hu (by omega)
        exact ⟨p, p1, cnA_tr h1 p2, p3⟩
    · refine ⟨a, ha, cnA_refl, fun u hu => ?_⟩
      apply Int.not_lt.1
      intro hlt
      exact h ⟨u, hu, hlt⟩
theorem lst_un (hm : okMine m = true) {p q : Int} (hp : lstP m T p) (hq : lstP m T q) (h : cnA m T p q) : p = q := by
  have a := hp _ h
  have b := hq _ (cnA_sym hm h)
  omega
theorem lstN_0 : lstN m [] = m.junctions.toNat := by
  unfold lstN
  rw [List.countP_eq_length.2, List.length_range]
  intro j _
  exact lstB_t.2 fun u hu => by rw [cnA_nil hu]; exact Int.le_refl _
theorem lstN_add (hm : okMine m = true) {i : Int} (hi : 0 ≤ i ∧ i < m.airways.length) (hn : ¬cnA m T (m.airways.getD i.toNat default).from_ (m.airways.getD i.toNat default).to) : lstN m (T ++ [i]) + 1 = lstN m T := by
  have q := (okMine_p hm).2.2 i.toNat (by omega)
  have hF : inV m (m.airways.getD i.toNat default).from_ := q.2.1
  have hT : inV m (m.airways.getD i.toNat default).to := q.2.2
  have hs := fun u v => cnA_snoc (ls := T) hm hi (u := u) (v := v)
  generalize (m.airways.getD i.toNat default).from_ = a at *
  generalize (m.airways.getD i.toNat default).to = b at *
  obtain ⟨p, p1, p2, p3⟩ := least_ex (T := T) hm a.toNat a hF (Nat.le_refl _)
  obtain ⟨r, r1, r2, r3⟩ := least_ex (T := T) hm b.toNat b hT (Nat.le_refl _)
  have hpr : p ≠ r := by
    rintro rfl
    exact hn (cnA_tr p2 (cnA_sym hm r2))
  have hpj : 0 ≤ p ∧ p < m.junctions := p1
  have hrj : 0 ≤ r ∧ r < m.junctions := r1
  have pa : ∀ u, cnA m T u a → p ≤ u := fun u hu => p3 u (cnA_tr (cnA_sym hm p2) (cnA_sym hm hu))
  have rb : ∀ u, cnA m T u b → r ≤ u := fun u hu => r3 u (cnA_tr (cnA_sym hm r2) (cnA_sym hm hu))
  have key : ∀ j : Int, lstP m (T ++ [i]) j ↔ lstP m T j ∧ j ≠ max p r := fun j => by
    constructor
    · intro h
      refine ⟨fun u hu => h u ((hs j u).2 (.inl hu)), ?_⟩
      intro e
      have h1 : cnA m (T ++ [i]) p r := (hs p r).2 (.inr ⟨.inl (cnA_sym hm p2), .inr (cnA_sym hm r2)⟩)
      by_cases c : p ≤ r
      · have e2 : j = r := by omega
        rw [e2] at h
        have := h p ((hs r p).2 (.inr ⟨.inr (cnA_sym hm r2), .inl (cnA_sym hm p2)⟩))
        omega
      · have e2 : j = p := by omega
        rw [e2] at h
        have := h r h1
        omega
    · rintro ⟨h, hne⟩ u hu
      rcases (hs j u).1 hu with c | ⟨c, d⟩
      · exact h u c
      · have hu2 : p ≤ u ∨ r ≤ u := d.elim (fun d => .inl (pa u d)) (fun d => .inr (rb u d))
        have hj : j = p ∨ j = r := c.elim (fun c => .inl (lst_un hm h p3 (cnA_tr c p2))) (fun c => .inr (lst_un hm h r3 (cnA_tr c r2)))
        omega
  have hmx : lstP m T (max p r) := by
    by_cases c : p ≤ r
    · rw [show max p r = r by omega]; exact r3
    · rw [show max p r = p by omega]; exact p3
  unfold lstN
  have h1 := cnt_rm (fun (j : Nat) => lstB m T (j : Int)) (max p r).toNat m.junctions.toNat (by omega) (by
    show lstB m T (((max p r).toNat : Nat) : Int) = true
    rw [show (((max p r).toNat : Nat) : Int) = max p r by omega]
    exact lstB_t.2 hmx)
  rw [← h1]
  congr 1
  apply List.countP_congr
  intro x _
  rw [lstB_t, key, Bool.and_eq_true, lstB_t, Bool.not_eq_true', decide_eq_false_iff_not]
  constructor
  · rintro ⟨x1, x2⟩; exact ⟨x1, by omega⟩
  · rintro ⟨x1, x2⟩; exact ⟨x1, by omega⟩
theorem tree_cnt (hm : okMine m = true) : ∀ k : Nat, k ≤ m.airways.length → (treeC m k).length + lstN m (treeC m k) = m.junctions.toNat
  | 0, _ => by
    have e : treeC m 0 = [] := by rw [treeC]
    rw [e, lstN_0]; simp
  | k + 1, hk => by
    have ih := tree_cnt hm k (by omega)
    have e0 : ((k : Int) + 1).toNat = k + 1 := by omega
    have e1 : ((k : Int)).toNat = k := by omega
    by_cases c : cnA m (treeC m k) (m.airways.getD k default).from_ (m.airways.getD k default).to
    · have e := treeC_k (m := m) (i := k) (by omega) c
      rw [e0, e1] at e
      rw [e]; exact ih
    · have e := treeC_a (m := m) (i := k) (by omega) c
      rw [e0, e1] at e
      have h := lstN_add (T := treeC m k) (i := k) hm (by omega) c
      rw [e, List.length_append, List.length_singleton]
      omega
theorem cnA_of (hm : okMine m = true) {bs : List Int} (h : ∀ i ∈ bs, 0 ≤ i → i < m.airways.length → cnA m T (m.airways.getD i.toNat default).from_ (m.airways.getD i.toNat default).to) {u v : Int} (hc : cnA m bs u v) : cnA m T u v := by
  obtain ⟨n, hn⟩ := hc
  induction n generalizing u with
  | zero => rw [show u = v from hn]; exact cnA_refl
  | succ n ih =>
    obtain ⟨x, ⟨i, h1, h2, h3⟩, h4⟩ := hn
    refine cnA_tr ?_ (ih h4)
    have c := h i h1 h2.1 h2.2
    rcases oth_p hm h2 h3 with ⟨rfl, rfl⟩ | ⟨rfl, rfl⟩
    · exact c
    · exact cnA_sym hm c
theorem cnA_st (hm : okMine m = true) {i : Int} (hi : i ∈ T) (h : 0 ≤ i ∧ i < m.airways.length) : cnA m T (m.airways.getD i.toNat default).from_ (m.airways.getD i.toNat default).to :=
  ⟨1, wkA_one ⟨i, hi, h, (oth_f hm h).1⟩⟩
theorem tree_all (hm : okMine m = true) {u v : Int} : cnA m (iotaI 0 m.airways.length) u v ↔ cnA m (treeC m m.airways.length) u v := by
  have t := treeC_I (m := m) m.airways.length
  constructor
  · refine cnA_of hm fun i _ h0 h1 => ?_
    by_cases c : i ∈ treeC m m.airways.length
    · exact cnA_st hm c ⟨h0, h1⟩
    · exact t.cn i h0 h1 c
  · refine cnA_mono fun i hi => ?_
    have r := t.rg i hi
    unfold iotaI
    exact List.mem_map.2 ⟨i.toNat, List.mem_range.2 (by omega), by omega⟩
theorem tree_roots (hm : okMine m = true) {j : Int} : lstP m (iotaI 0 m.airways.length) j ↔ lstP m (treeC m m.airways.length) j :=
  ⟨fun h u hu => h u ((tree_all hm).2 hu), fun h u hu => h u ((tree_all hm).1 hu)⟩
theorem tree_mono {i j : Nat} (h : i ≤ j) : ∀ x ∈ treeC m i, x ∈ treeC m j := by
  induction h with
  | refl => exact fun x hx => hx
  | step h ih =>
    rename_i k
    intro x hx
    have hx := ih x hx
    rw [treeC]
    split
    · exact hx
    · exact List.mem_append_left _ hx
theorem bridge_in (hm : okMine m = true) {i : Int} (hi : 0 ≤ i ∧ i < m.airways.length) {bs : List Int} (hb : ∀ x, 0 ≤ x → x < i → x ∈ bs) (h : ¬cnA m bs (m.airways.getD i.toNat default).from_ (m.airways.getD i.toNat default).to) : i ∈ treeC m m.airways.length := by
  have t := treeC_I (m := m) i.toNat
  have c : ¬cnA m (treeC m i.toNat) (m.airways.getD i.toNat default).from_ (m.airways.getD i.toNat default).to := fun c => h (cnA_mono (fun x hx => by have := t.rg x hx; exact hb x this.1 (by omega)) c)
  have e := treeC_a (m := m) hi.1 c
  refine tree_mono (i := (i + 1).toNat) (by omega) i ?_
  rw [e]
  simp
theorem msh_cnt (hnd : T.Pairwise (· < ·)) {i : Nat} {ss : List (List Int)} (h : MshR m T i ss) : ss.length + T.countP (fun x => decide (0 ≤ x ∧ x < (i : Int))) = i := by
  have hone : ∀ (i : Nat), T.countP (fun x => decide (0 ≤ x ∧ x < ((i + 1 : Nat) : Int))) = T.countP (fun x => decide (0 ≤ x ∧ x < (i : Int))) + if (i : Int) ∈ T then 1 else 0 := by
    intro i
    clear h
    induction T with
    | nil => simp
    | cons a r ih =>
      have hp := List.pairwise_cons.1 hnd
      have ih := ih hp.2
      rw [List.countP_cons, List.countP_cons, ih]
      by_cases e : (i : Int) = a
      · have h1 : (i : Int) ∉ r := fun hm => by have := hp.1 _ hm; omega
        have d1 : decide (0 ≤ a ∧ a < ((i + 1 : Nat) : Int)) = true := decide_eq_true (by omega)
        have d2 : decide (0 ≤ a ∧ a < (i : Int)) = false := decide_eq_false (by omega)
        have d3 : (i : Int) ∈ a :: r := by rw [e]; exact List.mem_cons_self
        simp only [d1, d2, d3, h1, if_true, if_false, Bool.false_eq_true]
      · have h1 : ((i : Int) ∈ a :: r) = ((i : Int) ∈ r) := by simp [e]
        have h2 : decide (0 ≤ a ∧ a < ((i + 1 : Nat) : Int)) = decide (0 ≤ a ∧ a < (i : Int)) := decide_eq_decide.2 (by omega)
        rw [h2]
        simp only [h1] <;> omega
  induction h with
  | nil =>
    have e0 : T.countP (fun x => decide (0 ≤ x ∧ x < ((0 : Nat) : Int))) = 0 := by
      rw [List.countP_eq_zero]
      intro a _
      rw [decide_eq_true_eq]
      omega
    rw [e0]; rfl
  | tree h hi ih =>
    rw [hone, if_pos hi]; omega
  | mesh h hi hw ih =>
    rw [hone, if_neg hi, List.length_append, List.length_singleton]; omega
theorem msh_tree (hm : okMine m = true) (h : MshR m (treeC m m.airways.length) m.airways.length (mshC m)) : (treeC m m.airways.length).length + (mshC m).length = m.airways.length := by
  have t := treeC_I (m := m) m.airways.length
  have h1 := msh_cnt t.so h
  have h2 : (treeC m m.airways.length).countP (fun x => decide (0 ≤ x ∧ x < (m.airways.length : Int))) = (treeC m m.airways.length).length := List.countP_eq_length.2 fun x hx => decide_eq_true (t.rg x hx)
  omega
end
end Go.Proofs.YtdhkpmaanegjkaaGreatDoor

set_option linter.unusedVariables false
set_option linter.unusedSimpArgs false
namespace Go.Proofs.YtdhkpmaanegjkaaGreatDoor
open Go.Av
attribute [local irreducible] Go.IntKind.wrap
set_option maxRecDepth 20000
set_option maxHeartbeats 4000000
theorem c_slices_Min_int64_int64 (xs : List Int) (hl : 1 ≤ xs.length) : FnSem Tryz.prog 36 [Lx (LI xs)] [] (RetV (fun v : Int => [In v]) (fun _ => []) (fun v => (∃ j : Nat, j < xs.length ∧ v = xs.getD j 0) ∧ ∀ j : Nat, (j : Int) < xs.length → v ≤ xs.getD j 0)) := by
  refine FnSem.walk (zs := zeroPV Tryz.prog) (by kernel_rfl) Tryz.func36 rfl Tryz.results36 (by kernel_rfl) (by kernel_rfl) (by kernel_rfl) fun hw hh => ?_
  obtain ⟨w0, _⟩ := hw
  first | replace w0 := wf_LI w0 | skip
  repeat' first
    | refine And.intro rfl ?_
    | refine GdF.mk (fun h => h) ?_
    | refine And.intro (Nat.succ_ne_zero _) ?_
    | refine And.intro (Nat.le_of_ble_eq_true rfl) ?_
    | refine SeqF.run ?_
    | exact absurd hb (by omega)
    | refine LoopF.at 5 rfl (LoopF.fix [0] (Int × Int) (fun (v, i) => 1 ≤ i ∧ i ≤ xs.length ∧ (∃ j : Nat, j < xs.length ∧ v = xs.getD j 0) ∧ (∀ j : Nat, (j : Int) < i → v ≤ xs.getD j 0)) (fun (v, i) => [(3, In v), (4, In i)]) (fun (v, i) => []) (fun (v, i) => ((xs.length - i).toNat)) ((xs.getD 0 0, 1)) ?_)
    | (refine LoopB.of (T := Int × Int) ?_ ?_; rotate_left; rintro ⟨v, i⟩ ⟨h0, h1, h2, h3⟩; rotate_left)
    | refine RetV.mk (α := Int) _ rfl rfl ?_
    | refine GhF.go ?_
    | refine EqP.mk _ (gm eI 0 rfl) ?_
    | refine BndF.mk (fun _ => by omega) ?_
    | refine BndF.mk (fun _ => by simp only [lnS]; omega) ?_
    | refine EqI.mk _ (fun _ => wrapI (by omega) (by omega)) ?_
    | refine EqI.mk _ (fun _ => rfl) ?_
    | refine EqN.mk _ (ln eI) ?_
    | refine EqN.mk _ (Nat.zero_add _) ?_
    | refine EqN.mk _ (Int.toNat_natCast _) ?_
    | refine EqN.mk _ rfl ?_
    | (refine CondF.mk (fun hb => ?_) (fun hb => ?_) <;> try simp only [forall_const, eq_self, not_true_eq_false, not_false_eq_true, or_false, false_or, or_self, or_true, true_or, and_true, true_and, and_false, false_and, decide_true, decide_false, Bool.not_true, Bool.not_false, decide_eq_true_eq, decide_eq_false_iff_not, ite_and_p, ite_or_p, Bool.decide_eq_true, Bool.and_eq_true, Bool.or_eq_true, Bool.not_eq_true', Bool.not_eq_false', Bool.and_eq_false_imp, Bool.or_eq_false_iff, bne_iff_ne, beq_iff_eq, bne_eq_false_iff_eq, beq_eq_false_iff_ne, gt_iff_lt, ge_iff_le, Int.not_lt, Int.not_le, ne_eq, Bool.true_eq_false, Bool.false_eq_true, reduceCtorEq, eta_Airway, eta_Fan, eta_Mine] at hb)
    | apply BackF.auto2
    | refine BackB.mk ?_ ?_
    | refine RetF.auto (And.intro rfl ?_)
    | exact Is.mk rfl rfl
    | refine Is.mk ?_ rfl
    | refine Is.mk rfl ?_
    | refine Is.mk ?_ ?_
  all_goals try dsimp only
  all_goals try omega
  · exact ⟨by omega, by omega, ⟨0, by omega, rfl⟩, fun j hj => by rw [show j = 0 by omega]; exact Int.le_refl _⟩
  · refine ⟨by omega, by omega, ?_, all_s (P := fun j => min v (xs.getD i.toNat 0) ≤ xs.getD j 0) (by omega) (fun j hj => by have := h3 j hj; omega) (by omega)⟩
    obtain ⟨j, hj, e⟩ := h2
    rcases Int.le_total v (xs.getD i.toNat 0) with h | h
    · exact ⟨j, hj, by omega⟩
    · exact ⟨i.toNat, by omega, by omega⟩
  · exact ⟨h2, fun j hj => h3 j (by omega)⟩
end Go.Proofs.YtdhkpmaanegjkaaGreatDoor
