/- Contracts of functions of the program, and what they compute. Conditions: those that each theorem states. -/
import Derived.Test.YtnmfbdkiehickaaProg
import Derived.Test.YtnmfbdkiehickaaE1
import Derived.Test.YtnmfbdkiehickaaE2
set_option linter.unusedVariables false
set_option linter.unusedSimpArgs false
namespace Go.Proofs.Ytnmfbdkiehickaa
open Go.Av
attribute [local irreducible] Go.IntKind.wrap dTo okDusts okStays okDust okStay dS dAt expo fstSet ext
set_option maxRecDepth 20000
set_option maxHeartbeats 8000000

/-! The fewest masks. -/
def sumI (xs : List Int) : Nat → Int
  | 0 => 0
  | k + 1 => sumI xs k + xs.getD k 0
theorem sumI_b {xs : List Int} {A : Int} (h : ∀ x ∈ xs, 0 ≤ x ∧ x ≤ A) : ∀ k : Nat, k ≤ xs.length → 0 ≤ sumI xs k ∧ sumI xs k ≤ A * k
  | 0, _ => by simp [sumI]
  | k + 1, hk => by
    have ih := sumI_b h k (by omega)
    have := h _ (getD_mem (d := 0) (show k < xs.length by omega))
    simp only [sumI]
    have e : A * ((k + 1 : Nat) : Int) = A * k + A := by rw [show ((k + 1 : Nat) : Int) = (k : Int) + 1 by omega, Int.mul_add, Int.mul_one]
    omega
theorem sumI_s {xs : List Int} {i : Int} (h : 0 ≤ i) : sumI xs (i + 1).toNat = sumI xs i.toNat + xs.getD i.toNat 0 := by
  rw [show (i + 1).toNat = i.toNat + 1 by omega]; rfl
/-- so much less with masks at some stays -/
def lessI (ps ms xs : List Int) : Nat → Int
  | 0 => 0
  | k + 1 => lessI ps ms xs k + (ms.getD (xs.getD k 0).toNat 0 - ps.getD (xs.getD k 0).toNat 0)
theorem lessI_s {ps ms xs : List Int} {i : Int} (h : 0 ≤ i) : lessI ps ms xs (i + 1).toNat = lessI ps ms xs i.toNat + (ms.getD (xs.getD i.toNat 0).toNat 0 - ps.getD (xs.getD i.toNat 0).toNat 0) := by
  rw [show (i + 1).toNat = i.toNat + 1 by omega]; rfl
def masked (ps ms : List Int) (limit : Int) (xs : List Int) : Bool := decide (sumI ps ps.length + lessI ps ms xs xs.length ≤ limit)
def inE (xs : List Int) : Prop := ∀ x ∈ xs, 0 ≤ x ∧ x ≤ 17280000000
theorem inE_at {xs : List Int} (h : inE xs) (j : Nat) : 0 ≤ xs.getD j 0 ∧ xs.getD j 0 ≤ 17280000000 := by
  rw [List.getD_eq_getElem?_getD]
  cases hx : xs[j]? with
  | none => simp
  | some x => exact h x (List.mem_of_getElem? hx)
theorem lessI_b {ps ms xs : List Int} (h1 : inE ps) (h2 : inE ms) : ∀ k : Nat, -17280000000 * k ≤ lessI ps ms xs k ∧ lessI ps ms xs k ≤ 17280000000 * k
  | 0 => by simp [lessI]
  | k + 1 => by
    have ih := lessI_b (xs := xs) h1 h2 k
    have := inE_at h1 (xs.getD k 0).toNat
    have := inE_at h2 (xs.getD k 0).toNat
    simp only [lessI]; omega
attribute [local irreducible] sumI lessI
theorem sumI_b' {xs : List Int} (h : inE xs) (hl : xs.length ≤ 12) (i : Int) (h1 : i ≤ xs.length) : 0 ≤ sumI xs i.toNat ∧ sumI xs i.toNat ≤ 207360000000 := by
  have := sumI_b h i.toNat (by omega)
  omega
theorem c_impl_sumOf (xs : List Int) (h : inE xs) (hl : xs.length ≤ 12) : FnSem Try.prog 144 [Lx (LI xs)] [] (Is [In (sumI xs xs.length)] []) := by
  have hS := sumI_b' h hl
  have hx := inE_at h
  refine FnSem.walk (zs := zeroPV Try.prog) (by kernel_rfl) Try.func144 rfl Try.results144 (by kernel_rfl) (by kernel_rfl) (by kernel_rfl) fun hw hh => ?_
  obtain ⟨w0, _⟩ := hw
  first | replace w0 := wf_I w0 | replace w0 := wf_Y w0 | replace w0 := wf_S w0 | replace w0 := wf_LI w0 | replace w0 := wf_LY w0 | replace w0 := wf_LLI w0 | replace w0 := wf_Ls w0 | skip
  repeat' first
    | refine And.intro rfl ?_
    | refine GdF.mk (fun h => h) ?_
    | refine And.intro (Nat.succ_ne_zero _) ?_
    | refine And.intro (Nat.le_of_ble_eq_true rfl) ?_
    | refine SeqF.run ?_
    | refine EqI.mk _ (fun _ => wrapI (by have := hS i (by omega); have := hx i.toNat; omega) (by have := hS i (by omega); have := hx i.toNat; omega)) ?_
    | refine LoopF.at 3 rfl (LoopF.fix [6, 7] (Int × Int) (fun (s, i) => 0 ≤ i ∧ i ≤ xs.length ∧ s = sumI xs i.toNat) (fun (s, i) => [(3, In s), (8, In i)]) (fun (s, i) => []) (fun (s, i) => ((xs.length - i).toNat)) ((0, 0)) ?_)
    | (refine LoopB.of (T := Int × Int) ?_ ?_; rotate_left; rintro ⟨s, i⟩ ⟨h0, h1, h2⟩; rotate_left)
    | refine GhF.go ?_
    | refine EqP.mk _ (gm eI 0 rfl) ?_
    | refine BndF.mk (fun _ => by omega) ?_
    | refine BndF.mk (fun _ => by simp only [List.length_map, List.length_cons, List.length_nil, List.length_append, List.length_set, List.length_replicate, iotaI_len]; omega) ?_
    | refine EqI.mk _ (fun _ => wrapI (by omega) (by omega)) ?_
    | refine EqI.mk _ (fun _ => rfl) ?_
    | refine EqN.mk _ (ln eI) ?_
    | refine EqN.mk _ (Nat.zero_add _) ?_
    | refine EqN.mk _ (Int.toNat_natCast _) ?_
    | refine EqN.mk _ rfl ?_
    | (refine CondF.mk (fun hb => ?_) (fun hb => ?_) <;> try simp only [forall_const, eq_self, not_true_eq_false, not_false_eq_true, or_false, false_or, or_self, or_true, true_or, and_true, true_and, and_false, false_and, decide_true, decide_false, Bool.not_true, Bool.not_false, decide_eq_true_eq, decide_eq_false_iff_not, ite_and_p, ite_or_p, Bool.decide_eq_true, Bool.and_eq_true, Bool.or_eq_true, Bool.not_eq_true', Bool.not_eq_false', Bool.and_eq_false_imp, Bool.or_eq_false_iff, bne_iff_ne, beq_iff_eq, bne_eq_false_iff_eq, beq_eq_false_iff_ne, gt_iff_lt, ge_iff_le, Int.not_lt, Int.not_le, ne_eq, Bool.true_eq_false, Bool.false_eq_true, reduceCtorEq, eta_Airway, eta_Door, eta_Dusting, eta_Fan, eta_Mine, eta_Mode] at hb)
    | apply BackF.auto2
    | refine BackB.mk ?_ ?_
    | refine RetF.auto (And.intro rfl ?_)
    | exact Is.mk rfl rfl
    | refine Is.mk ?_ rfl
    | refine Is.mk rfl ?_
    | refine Is.mk ?_ ?_
  all_goals try dsimp only
  all_goals try simp only [Bo, I, OB.row.injEq, AV.osl.injEq, eI_same,  List.cons.injEq, AV.p.injEq, PV.c.injEq, Value.int.injEq, Value.bool.injEq, and_true, true_and, ite_and_p, ite_or_p, Bool.decide_eq_true, eta_Airway, eta_Door, eta_Dusting, eta_Fan, eta_Mine, eta_Mode]
  all_goals try omega
  · exact ⟨by omega, by omega, by unfold sumI; rfl⟩
  · exact ⟨by omega, by omega, by rw [sumI_s h0, h2]⟩
  · rw [h2, show i.toNat = xs.length by omega]
theorem c_impl_FewestMasks_1 (xs ps ms : List Int) (limit : Int) (h1 : inE ps) (h2 : inE ms) (hl : ps.length ≤ 12) (hm : ms.length = ps.length) (hx : ∀ j : Nat, j < xs.length → 0 ≤ xs.getD j 0 ∧ xs.getD j 0 < ps.length) (hx2 : xs.length ≤ 12) : FnSem Try.prog 143 [Lx (LI xs), .p .any (.ref [LI ps]), .p .any (.ref [LI ms]), .p .any (.ref [.c (.int .i64 limit)])] [] (Is [Bo (masked ps ms limit xs)] []) := by
  have hS := sumI_b' h1 hl ps.length (by omega)
  have g1 := fun j => inE_at h1 j
  have g2 := fun j => inE_at h2 j
  have g3 := fun k => lessI_b (xs := xs) h1 h2 k
  refine FnSem.walk (zs := zeroPV Try.prog) (by kernel_rfl) Try.func143 rfl Try.results143 (by kernel_rfl) (by kernel_rfl) (by kernel_rfl) fun hw hh => ?_
  obtain ⟨w0, w1, w2, w3, _⟩ := hw
  first | replace w0 := wf_I w0 | replace w0 := wf_Y w0 | replace w0 := wf_S w0 | replace w0 := wf_LI w0 | replace w0 := wf_LY w0 | replace w0 := wf_LLI w0 | replace w0 := wf_Ls w0 | skip
  first | replace w1 := wf_I w1 | replace w1 := wf_Y w1 | replace w1 := wf_S w1 | replace w1 := wf_LI w1 | replace w1 := wf_LY w1 | replace w1 := wf_LLI w1 | replace w1 := wf_Ls w1 | skip
  first | replace w2 := wf_I w2 | replace w2 := wf_Y w2 | replace w2 := wf_S w2 | replace w2 := wf_LI w2 | replace w2 := wf_LY w2 | replace w2 := wf_LLI w2 | replace w2 := wf_Ls w2 | skip
  first | replace w3 := wf_I w3 | replace w3 := wf_Y w3 | replace w3 := wf_S w3 | replace w3 := wf_LI w3 | replace w3 := wf_LY w3 | replace w3 := wf_LLI w3 | replace w3 := wf_Ls w3 | skip
  repeat' first
    | refine And.intro rfl ?_
    | refine GdF.mk (fun h => h) ?_
    | refine And.intro (Nat.succ_ne_zero _) ?_
    | refine And.intro (Nat.le_of_ble_eq_true rfl) ?_
    | refine SeqF.run ?_
    | refine ArgF.is (c_impl_sumOf ps h1 hl) ?_
    | refine ArgQ.is (fun hG => c_impl_sumOf ps h1 hl) rfl rfl ?_
    | refine BndF.mk (fun _ => by have := hx i.toNat (by omega); simp only [List.length_map]; omega) ?_
    | refine EqI.mk _ (fun _ => wrapI (by have := g1 (xs.getD i.toNat 0).toNat; have := g2 (xs.getD i.toNat 0).toNat; have := g3 i.toNat; omega) (by have := g1 (xs.getD i.toNat 0).toNat; have := g2 (xs.getD i.toNat 0).toNat; have := g3 i.toNat; omega)) ?_
    | refine LoopF.at 3 rfl (LoopF.fix [1, 2, 3, 11, 12] (Int × Int) (fun (s, i) => 0 ≤ i ∧ i ≤ xs.length ∧ s = sumI ps ps.length + lessI ps ms xs i.toNat) (fun (s, i) => [(6, In s), (13, In i)]) (fun (s, i) => []) (fun (s, i) => ((xs.length - i).toNat)) ((sumI ps ps.length, 0)) ?_)
    | (refine LoopB.of (T := Int × Int) ?_ ?_; rotate_left; rintro ⟨s, i⟩ ⟨h0, h1, h2⟩; rotate_left)
    | refine GhF.go ?_
    | refine DrawG.old (DrawF.lex (by decide +kernel) ?_)
    | refine EqP.mk _ (gm eI 0 rfl) ?_
    | refine BndF.mk (fun _ => by omega) ?_
    | refine BndF.mk (fun _ => by simp only [List.length_map, List.length_cons, List.length_nil, List.length_append, List.length_set, List.length_replicate, iotaI_len]; omega) ?_
    | refine EqI.mk _ (fun _ => wrapI (by omega) (by omega)) ?_
    | refine EqI.mk _ (fun _ => rfl) ?_
    | refine EqN.mk _ (ln eI) ?_
    | refine EqN.mk _ (Nat.zero_add _) ?_
    | refine EqN.mk _ (Int.toNat_natCast _) ?_
    | refine EqN.mk _ rfl ?_
    | refine EqL.mk _ (tk eI (by first | rfl | assumption | omega | (simp only [List.length_map, List.length_cons, List.length_nil, List.length_append, List.length_set, List.length_replicate, iotaI_len]; done) | (simp only [List.length_map, List.length_cons, List.length_nil, List.length_append, List.length_set, List.length_replicate, iotaI_len]; omega))) ?_
    | refine EqL.mk [] rfl ?_
    | refine EqL.mk [_] rfl ?_
    | refine EqL.mk _ rfl ?_
    | refine ArgF.is (c_impl_sumOf _ (by first | assumption | omega) (by first | assumption | omega)) ?_
    | refine ArgQ.is (fun hG => c_impl_sumOf _ (by first | assumption | omega) (by first | assumption | omega)) rfl rfl ?_
    | refine ArgQ.is (fun hG => c_impl_sumOf _ (by simp only [forall_const, eq_self, not_true_eq_false, not_false_eq_true, or_false, false_or, or_self, or_true, true_or, and_true, true_and, and_false, false_and, decide_true, decide_false, Bool.not_true, Bool.not_false, decide_eq_true_eq, decide_eq_false_iff_not, ite_and_p, ite_or_p, Bool.decide_eq_true, Bool.and_eq_true, Bool.or_eq_true, Bool.not_eq_true', Bool.not_eq_false', Bool.and_eq_false_imp, Bool.or_eq_false_iff, bne_iff_ne, beq_iff_eq, bne_eq_false_iff_eq, beq_eq_false_iff_ne, gt_iff_lt, ge_iff_le, Int.not_lt, Int.not_le, ne_eq, Bool.true_eq_false, Bool.false_eq_true, reduceCtorEq, eta_Airway, eta_Door, eta_Dusting, eta_Fan, eta_Mine, eta_Mode, bytes_nil] at hG; omega) (by simp only [forall_const, eq_self, not_true_eq_false, not_false_eq_true, or_false, false_or, or_self, or_true, true_or, and_true, true_and, and_false, false_and, decide_true, decide_false, Bool.not_true, Bool.not_false, decide_eq_true_eq, decide_eq_false_iff_not, ite_and_p, ite_or_p, Bool.decide_eq_true, Bool.and_eq_true, Bool.or_eq_true, Bool.not_eq_true', Bool.not_eq_false', Bool.and_eq_false_imp, Bool.or_eq_false_iff, bne_iff_ne, beq_iff_eq, bne_eq_false_iff_eq, beq_eq_false_iff_ne, gt_iff_lt, ge_iff_le, Int.not_lt, Int.not_le, ne_eq, Bool.true_eq_false, Bool.false_eq_true, reduceCtorEq, eta_Airway, eta_Door, eta_Dusting, eta_Fan, eta_Mine, eta_Mode, bytes_nil] at hG; omega)) rfl rfl ?_
    | refine CallF.mk (CallW.is [] true rfl ?_)
    | refine CallG.mk ?_
    | (refine CondF.mk (fun hb => ?_) (fun hb => ?_) <;> try simp only [forall_const, eq_self, not_true_eq_false, not_false_eq_true, or_false, false_or, or_self, or_true, true_or, and_true, true_and, and_false, false_and, decide_true, decide_false, Bool.not_true, Bool.not_false, decide_eq_true_eq, decide_eq_false_iff_not, ite_and_p, ite_or_p, Bool.decide_eq_true, Bool.and_eq_true, Bool.or_eq_true, Bool.not_eq_true', Bool.not_eq_false', Bool.and_eq_false_imp, Bool.or_eq_false_iff, bne_iff_ne, beq_iff_eq, bne_eq_false_iff_eq, beq_eq_false_iff_ne, gt_iff_lt, ge_iff_le, Int.not_lt, Int.not_le, ne_eq, Bool.true_eq_false, Bool.false_eq_true, reduceCtorEq, eta_Airway, eta_Door, eta_Dusting, eta_Fan, eta_Mine, eta_Mode] at hb)
    | apply BackF.auto2
    | refine BackB.mk ?_ ?_
    | refine RetF.auto (And.intro rfl ?_)
    | exact Is.mk rfl rfl
    | refine Is.mk ?_ rfl
    | refine Is.mk rfl ?_
    | refine Is.mk ?_ ?_
  all_goals try dsimp only
  all_goals try simp only [Bo, I, OB.row.injEq, AV.osl.injEq, eI_same,  List.cons.injEq, AV.p.injEq, PV.c.injEq, Value.int.injEq, Value.bool.injEq, and_true, true_and, ite_and_p, ite_or_p, Bool.decide_eq_true, eta_Airway, eta_Door, eta_Dusting, eta_Fan, eta_Mine, eta_Mode, masked]
  · exact ⟨by omega, by omega, by rw [Int.toNat_zero]; unfold lessI; omega⟩
  · have q1 := g1 (xs.getD i.toNat 0).toNat; have q2 := g2 (xs.getD i.toNat 0).toNat; have q3 := g3 i.toNat
    rw [show ((ps.length : Int)).toNat = ps.length by omega] at hS
    exact ⟨by omega, by omega, by rw [lessI_s h0, wrapI (by omega) (by omega)]; omega⟩
  · omega
  · rw [h2, show i.toNat = xs.length by omega]
/-- the exposures of stays -/
def expos (ds : List GDusting) (f : Int) (ss : List (List Int)) : List Int := ss.map (expo ds f)
def okMasks (ds : List GDusting) (ss : List (List Int)) (f limit budget : Int) : Int := if okDusts ds = true then (if (okStays ss = true ∧ inR f 1 1000 = true) ∧ 0 ≤ limit ∧ inR budget 1 20000 = true then 0 else 2) else 1
def masks (ds : List GDusting) (ss : List (List Int)) (f limit budget : Int) : List Int × Int := if okMasks ds ss f limit budget = 0 then fstSet (iotaI 0 ss.length) (masked (expos ds 1 ss) (expos ds f ss) limit) budget else ([], okMasks ds ss f limit budget)
theorem c_impl_budgetValid (x : Int) : FnSem Try.prog 141 [In x] [] (Is [Bo (inR x 1 20000)] []) := by
  refine FnSem.walk (zs := zeroPV Try.prog) (by kernel_rfl) Try.func141 rfl Try.results141 (by kernel_rfl) (by kernel_rfl) (by kernel_rfl) fun hw hh => ?_
  obtain ⟨w0, _⟩ := hw
  first | replace w0 := wf_I w0 | replace w0 := wf_Y w0 | replace w0 := wf_S w0 | replace w0 := wf_LI w0 | replace w0 := wf_LY w0 | replace w0 := wf_LLI w0 | replace w0 := wf_Ls w0 | skip
  repeat' first
    | refine And.intro rfl ?_
    | refine GdF.mk (fun h => h) ?_
    | refine And.intro (Nat.succ_ne_zero _) ?_
    | refine And.intro (Nat.le_of_ble_eq_true rfl) ?_
    | refine SeqF.run ?_
    | refine GhF.go ?_
    | refine BndF.mk (fun _ => by omega) ?_
    | refine BndF.mk (fun _ => by simp only [List.length_map, List.length_cons, List.length_nil, List.length_append, List.length_set, List.length_replicate, iotaI_len]; omega) ?_
    | refine EqL.mk [] rfl ?_
    | refine EqL.mk [_] rfl ?_
    | refine EqL.mk _ rfl ?_
    | refine ArgF.is (c_impl_within ..) ?_
    | refine ArgQ.is (fun hG => c_impl_within ..) rfl rfl ?_
    | refine CallF.mk (CallW.is [] true rfl ?_)
    | refine CallG.mk ?_
    | (refine CondF.mk (fun hb => ?_) (fun hb => ?_) <;> try simp only [forall_const, eq_self, not_true_eq_false, not_false_eq_true, or_false, false_or, or_self, or_true, true_or, and_true, true_and, and_false, false_and, decide_true, decide_false, Bool.not_true, Bool.not_false, decide_eq_true_eq, decide_eq_false_iff_not, ite_and_p, ite_or_p, Bool.decide_eq_true, Bool.and_eq_true, Bool.or_eq_true, Bool.not_eq_true', Bool.not_eq_false', Bool.and_eq_false_imp, Bool.or_eq_false_iff, bne_iff_ne, beq_iff_eq, bne_eq_false_iff_eq, beq_eq_false_iff_ne, gt_iff_lt, ge_iff_le, Int.not_lt, Int.not_le, ne_eq, Bool.true_eq_false, Bool.false_eq_true, reduceCtorEq, eta_Airway, eta_Door, eta_Dusting, eta_Fan, eta_Mine, eta_Mode] at hb)
    | refine RetF.auto (And.intro rfl ?_)
    | exact Is.mk rfl rfl
    | refine Is.mk ?_ rfl
    | refine Is.mk rfl ?_
    | refine Is.mk ?_ ?_
theorem expos_in {ds : List GDusting} {f : Int} {ss : List (List Int)} (h : okDusts ds = true) (hf : 1 ≤ f) (hs : okStays ss = true) : inE (expos ds f ss) := by
  intro x hx
  obtain ⟨s, h1, rfl⟩ := List.mem_map.1 hx
  exact expo_b h hf ((okStays_b hs).2 s h1)
theorem expos_s {ds : List GDusting} {f : Int} {ss : List (List Int)} {i : Int} (h0 : 0 ≤ i) (h : i < ss.length) : (expos ds f ss).take (i + 1).toNat = (expos ds f ss).take i.toNat ++ [expo ds f (ss.getD i.toNat [])] := by
  rw [take_snoc h0 (by simp [expos]; omega) 0]
  simp only [expos, List.getD_eq_getElem?_getD, List.getElem?_map, List.getElem?_eq_getElem (show i.toNat < ss.length by omega)]
  rfl
attribute [local irreducible] masked expos
theorem mk_ok {ds : List GDusting} {ss : List (List Int)} {f limit budget : Int} (h : okMasks ds ss f limit budget = 0) : okDusts ds = true ∧ okStays ss = true ∧ (1 ≤ f ∧ f ≤ 1000) ∧ 0 ≤ limit ∧ 1 ≤ budget ∧ budget ≤ 20000 := by
  unfold okMasks at h
  split at h
  · rename_i h1
    split at h
    · rename_i h2
      simp only [inR_iff] at h2
      exact ⟨h1, h2.1.1, h2.1.2, h2.2⟩
    · cases h
  · cases h
theorem masks_c {ds : List GDusting} {ss : List (List Int)} {f limit budget c : Int} (h : okMasks ds ss f limit budget = c) (hc : c ≠ 0) : masks ds ss f limit budget = ([], c) := by
  unfold masks; rw [h, if_neg hc]
theorem masks_0 {ds : List GDusting} {ss : List (List Int)} {f limit budget : Int} (h : okMasks ds ss f limit budget = 0) : masks ds ss f limit budget = fstSet (iotaI 0 ss.length) (masked (expos ds 1 ss) (expos ds f ss) limit) budget := by
  unfold masks; rw [if_pos h]
theorem mk_2 {ds : List GDusting} {ss : List (List Int)} {f limit budget : Int} (h : okDusts ds = true) (h2 : ((okStays ss = false ∨ inR f 1 1000 = false) ∨ limit < 0) ∨ inR budget 1 20000 = false) : okMasks ds ss f limit budget = 2 := by
  unfold okMasks; rw [if_pos h, if_neg]
  rintro ⟨⟨q1, q2⟩, q3, q4⟩
  rcases h2 with ((h2 | h2) | h2) | h2
  · rw [q1] at h2; cases h2
  · rw [q2] at h2; cases h2
  · omega
  · rw [q4] at h2; cases h2
theorem mk_0 {ds : List GDusting} {ss : List (List Int)} {f limit budget : Int} (h : okDusts ds = true) (h2 : ¬((okStays ss = false ∨ inR f 1 1000 = false) ∨ limit < 0) ∧ inR budget 1 20000 = true) : okMasks ds ss f limit budget = 0 := by
  unfold okMasks; rw [if_pos h, if_pos]
  obtain ⟨q, q4⟩ := h2
  simp only [not_or, Bool.not_eq_false, Int.not_lt] at q
  exact ⟨q.1, q.2, q4⟩
theorem expos_e {ds : List GDusting} {f i : Int} {ss : List (List Int)} (h : ss.length ≤ i) : (expos ds f ss).take i.toNat = expos ds f ss := by
  unfold expos; rw [List.take_of_length_le (by simp; omega)]
theorem masks_e {ds : List GDusting} {ss : List (List Int)} {f limit budget i : Int} {xs ys zs : List Int} (h2 : okMasks ds ss f limit budget = 0) (hb : ss.length ≤ i) (h1 : i ≤ ss.length) (h9 : xs = (expos ds 1 ss).take i.toNat) (ha : ys = (expos ds f ss).take i.toNat) (hc : zs = iotaI 0 i.toNat) : masks ds ss f limit budget = fstSet zs (masked xs ys limit) budget := by
  rw [masks_0 h2, h9, ha, hc, expos_e hb, expos_e hb, show i.toNat = ss.length by omega]
theorem expos_l {ds : List GDusting} {f : Int} {ss : List (List Int)} : (expos ds f ss).length = ss.length := by unfold expos; simp
theorem iota_at {n : Nat} {xs : List Int} (h : ∀ x ∈ xs, x ∈ iotaI 0 n) (j : Nat) (hj : j < xs.length) : 0 ≤ xs.getD j 0 ∧ xs.getD j 0 < n := by
  have := h _ (getD_mem (d := 0) hj)
  unfold iotaI at this
  obtain ⟨k, h1, h2⟩ := List.mem_map.1 this
  have := List.mem_range.1 h1
  omega
theorem iota_s {i : Int} (h : 0 ≤ i) : iotaI 0 (i + 1).toNat = iotaI 0 i.toNat ++ [i] := by
  rw [show (i + 1).toNat = i.toNat + 1 by omega, iotaI_succ]; congr 2; omega
theorem c_impl_FewestMasks (ds : List GDusting) (ss : List (List Int)) (f limit budget : Int) : FnSem Try.prog 52 [LD ds, Lx (LLI ss), In f, In limit, In budget] [] (RetV (fun v : Nat × List Int × Int => [.osl 0 0 v.1, In v.2.2]) (fun v => [.row false .flat (eI 0) (v.2.1.map eI)]) (fun v => v.1 ≤ v.2.1.length ∧ masks ds ss f limit budget = (v.2.1.take v.1, v.2.2))) := by
  refine FnSem.old ?_
  refine FnSem.walk (zs := zeroPV Try.prog) (by kernel_rfl) Try.func52 rfl Try.results52 (by kernel_rfl) (by kernel_rfl) (by kernel_rfl) fun hw hh => ?_
  obtain ⟨w0, w1, w2, w3, w4, _⟩ := hw
  first | replace w0 := wf_LDusting w0 | skip
  first | replace w1 := wf_I w1 | replace w1 := wf_Y w1 | replace w1 := wf_S w1 | replace w1 := wf_LI w1 | replace w1 := wf_LY w1 | replace w1 := wf_LLI w1 | replace w1 := wf_Ls w1 | skip
  first | replace w2 := wf_I w2 | replace w2 := wf_Y w2 | replace w2 := wf_S w2 | replace w2 := wf_LI w2 | replace w2 := wf_LY w2 | replace w2 := wf_LLI w2 | replace w2 := wf_Ls w2 | skip
  first | replace w3 := wf_I w3 | replace w3 := wf_Y w3 | replace w3 := wf_S w3 | replace w3 := wf_LI w3 | replace w3 := wf_LY w3 | replace w3 := wf_LLI w3 | replace w3 := wf_Ls w3 | skip
  first | replace w4 := wf_I w4 | replace w4 := wf_Y w4 | replace w4 := wf_S w4 | replace w4 := wf_LI w4 | replace w4 := wf_LY w4 | replace w4 := wf_LLI w4 | replace w4 := wf_Ls w4 | skip
  repeat' first
    | refine And.intro rfl ?_
    | refine GdF.mk (fun h => h) ?_
    | refine And.intro (Nat.succ_ne_zero _) ?_
    | refine And.intro (Nat.le_of_ble_eq_true rfl) ?_
    | refine SeqF.run ?_
    | refine GhF.at 6 rfl [.nils 2 0 (eI 0), .nils 3 0 (eI 0), .old 4, .old 5, .old 6] ?_
    | refine GhF.at 14 rfl [.nils 6 3 (eI 0)] ?_
    | refine GhF.held 9 rfl [(5, [2]), (12, [4]), (13, [1]), (14, [3])] ?_
    | refine ArgF.is (c_impl_exposureOf ds (ss.getD i.toNat []) _ (mk_ok h2).1 ((okStays_b (mk_ok h2).2.1).2 _ (getD_mem (by omega))) (by have := mk_ok h2; omega)) ?_
    | refine ArgQ.is (fun hG => c_impl_exposureOf ds (ss.getD i.toNat []) _ (mk_ok h2).1 ((okStays_b (mk_ok h2).2.1).2 _ (getD_mem (by omega))) (by have := mk_ok h2; omega)) rfl rfl ?_
    | refine LoopF.at 7 rfl (LoopF.fix [0, 2, 4, 8, 12, 13, 40, 41] (Nat × Int × Nat × Nat × List Int × List Int × List Int) (fun (n, i, p, m, xs, ys, zs) => 0 ≤ i ∧ i ≤ ss.length ∧ okMasks ds ss f limit budget = 0 ∧ n = zs.length ∧ p = xs.length ∧ m = ys.length ∧ (n : Int) = i ∧ (p : Int) = i ∧ (m : Int) = i ∧ xs = (expos ds 1 ss).take i.toNat ∧ ys = (expos ds f ss).take i.toNat ∧ zs = iotaI 0 i.toNat ∧ ss.length ≤ 12) (fun (n, i, p, m, xs, ys, zs) => [(14, .osl 5 0 n), (42, In i)]) (fun (n, i, p, m, xs, ys, zs) => [(1, .fix [.osl 2 0 p]), (2, .row false .flat (eI 0) (xs.map eI)), (3, .fix [.osl 4 0 m]), (4, .row false .flat (eI 0) (ys.map eI)), (5, .row false .flat (eI 0) (zs.map eI))]) (fun (n, i, p, m, xs, ys, zs) => ((ss.length - i).toNat)) ((0, 0, 0, 0, [], [], [])) ?_)
    | (refine LoopB.of (T := Nat × Int × Nat × Nat × List Int × List Int × List Int) ?_ ?_; rotate_left; rintro ⟨n, i, p, m, xs, ys, zs⟩ ⟨h0, h1, h2, h3, h4, h5, h6, h7, h8, h9, ha, hc, hd⟩; rotate_left)
    | refine CallF.mk (f := 145) (CallW.is [6, 7] true rfl ?_)
    | (refine ArgF.fst (fstC zs (masked xs ys limit) _ _ _ _ budget (by omega) (by have := mk_ok h2; omega) (fun zs' q1 q2 => c_impl_FewestMasks_1 zs' xs ys limit (by rw [h9, expos_e hb]; exact expos_in (mk_ok h2).1 (by omega) (mk_ok h2).2.1) (by rw [ha, expos_e hb]; exact expos_in (mk_ok h2).1 (mk_ok h2).2.2.1.1 (mk_ok h2).2.1) (by omega) (by omega) (fun j hj => by have := iota_at (hc ▸ q2) j hj; omega) (by omega))) (fun n2 ys2 l2 e1 e2 => ?_) (fun c2 n2 ys2 l2 e1 e2 => ?_))
    | refine RetV.mk (α := Nat × List Int × Int) (0, [], _) rfl rfl ?_
    | refine RetV.mk (α := Nat × List Int × Int) (_, _, _) rfl rfl ?_
    | refine HdF.at 14 rfl 0 [5, 10, 11, 12, 13, 14] (And.intro (by decide +kernel) (And.intro rfl ?_))
    | refine HdF.at 13 rfl 1 [] (And.intro (by decide +kernel) (And.intro rfl ?_))
    | refine HdF.at 12 rfl 2 [] (And.intro (by decide +kernel) (And.intro rfl ?_))
    | refine HdF.at 11 rfl 6 [12, 13, 14] (And.intro (by decide +kernel) (And.intro rfl ?_))
    | refine HdF.at 10 rfl 7 [] (And.intro (by decide +kernel) (And.intro rfl ?_))
    | refine HdF.at 9 rfl 8 [] (And.intro (by decide +kernel) (And.intro rfl ?_))
    | refine HdF.at 8 rfl 9 [] (And.intro (by decide +kernel) (And.intro rfl ?_))
    | refine HdF.goAt 7 rfl ?_
    | refine OrdL.ord ?_
    | refine OrdF.all [14] (by decide +kernel) ?_
    | refine OrdF.all [13] (by decide +kernel) ?_
    | refine OrdF.all [12] (by decide +kernel) ?_
    | refine OrdF.all [11] (by decide +kernel) ?_
    | refine OrdF.all [10] (by decide +kernel) ?_
    | refine OrdF.all [5] (by decide +kernel) ?_
    | refine OrdF.all [4] (by decide +kernel) ?_
    | refine OrdF.all [3] (by decide +kernel) ?_
    | refine OrdF.fin (by decide +kernel) ?_
    | refine AllF.one _ ?_
    | refine AllF.cons _ _ ?_ ?_
    | refine OpH.quiet rfl ?_
    | refine OpH.heap ?_
    | refine GhF.go ?_
    | refine GdS.keep ?_
    | refine DrawG.old (DrawF.lex (by decide +kernel) ?_)
    | refine DrawG.old (DrawF.any ?_)
    | refine OrdF.take 1 (by decide +kernel) ?_
    | refine OrdF.take 2 (by decide +kernel) ?_
    | refine OrdF.take 7 (by decide +kernel) ?_
    | refine OrdF.take 8 (by decide +kernel) ?_
    | refine OrdF.take 9 (by decide +kernel) ?_
    | refine OrdF.all [14] (by decide +kernel) ?_
    | refine OrdF.all [13] (by decide +kernel) ?_
    | refine OrdF.all [12] (by decide +kernel) ?_
    | refine OrdF.all [11] (by decide +kernel) ?_
    | refine OrdF.all [10] (by decide +kernel) ?_
    | refine OrdF.all [5] (by decide +kernel) ?_
    | refine OrdF.all [0] (by decide +kernel) ?_
    | refine OrdF.all [4] (by decide +kernel) ?_
    | refine OrdF.all [0, 4] (by decide +kernel) ?_
    | refine OrdF.all [3] (by decide +kernel) ?_
    | refine OrdF.all [0, 3] (by decide +kernel) ?_
    | refine OrdF.all [6] (by decide +kernel) ?_
    | refine OrdF.all [6, 11] (by decide +kernel) ?_
    | refine OrdF.all [6, 10] (by decide +kernel) ?_
    | refine OrdF.all [5, 6] (by decide +kernel) ?_
    | refine OrdF.all [0, 6] (by decide +kernel) ?_
    | refine OrdF.all [4, 6] (by decide +kernel) ?_
    | refine OrdF.all [0, 4, 6] (by decide +kernel) ?_
    | refine OrdF.all [3, 6] (by decide +kernel) ?_
    | refine OrdF.all [0, 3, 6] (by decide +kernel) ?_
    | refine OrdF.fin (by decide +kernel) ?_
    | refine AllF.one _ ?_
    | refine AllF.cons _ _ ?_ ?_
    | refine MkF.row ?_
    | refine EqP.mk _ (gm eI 0 rfl) ?_
    | refine EqP.mk _ (gmb eLI [] (by omega)) ?_
    | refine EqP.mk _ (gm GDusting.cells default rfl) ?_
    | refine BndF.mk (fun _ => by omega) ?_
    | refine BndF.mk (fun _ => by simp only [List.length_map, List.length_cons, List.length_nil, List.length_append, List.length_set, List.length_replicate, iotaI_len]; omega) ?_
    | refine BndF.mk (fun hG => by simp only [forall_const, eq_self, not_true_eq_false, not_false_eq_true, or_false, false_or, or_self, or_true, true_or, and_true, true_and, and_false, false_and, decide_true, decide_false, Bool.not_true, Bool.not_false, decide_eq_true_eq, decide_eq_false_iff_not, ite_and_p, ite_or_p, Bool.decide_eq_true, Bool.and_eq_true, Bool.or_eq_true, Bool.not_eq_true', Bool.not_eq_false', Bool.and_eq_false_imp, Bool.or_eq_false_iff, bne_iff_ne, beq_iff_eq, bne_eq_false_iff_eq, beq_eq_false_iff_ne, gt_iff_lt, ge_iff_le, Int.not_lt, Int.not_le, ne_eq, Bool.true_eq_false, Bool.false_eq_true, reduceCtorEq, eta_Airway, eta_Door, eta_Dusting, eta_Fan, eta_Mine, eta_Mode, bytes_nil] at hG; (try simp only [List.length_map]); omega) ?_
    | refine EqI.mk _ (fun _ => wrapI (by omega) (by omega)) ?_
    | refine EqI.mk _ (fun _ => rfl) ?_
    | refine FlF.keep ?_
    | refine EqN.mk _ (ln eI) ?_
    | refine EqN.mk _ (ln eLI) ?_
    | refine EqN.mk _ (ln GDusting.cells) ?_
    | refine EqN.mk _ (Nat.zero_add _) ?_
    | refine EqN.mk (_ + 1) rfl ?_
    | refine EqN.mk _ (Int.toNat_natCast _) ?_
    | refine EqN.mk _ rfl ?_
    | refine EqL.mk _ (sn0 eI) ?_
    | refine EqL.mk _ (sn eI (by first | rfl | assumption | omega | (simp only [List.length_map, List.length_cons, List.length_nil, List.length_append, List.length_set, List.length_replicate, iotaI_len]; done) | (simp only [List.length_map, List.length_cons, List.length_nil, List.length_append, List.length_set, List.length_replicate, iotaI_len]; omega))) ?_
    | refine EqL.mk _ (ap0 eI) ?_
    | refine EqL.mk _ (ap eI (by first | rfl | assumption | omega | (simp only [List.length_map, List.length_cons, List.length_nil, List.length_append, List.length_set, List.length_replicate, iotaI_len]; done) | (simp only [List.length_map, List.length_cons, List.length_nil, List.length_append, List.length_set, List.length_replicate, iotaI_len]; omega))) ?_
    | refine EqL.mk _ (tk eI (by first | rfl | assumption | omega | (simp only [List.length_map, List.length_cons, List.length_nil, List.length_append, List.length_set, List.length_replicate, iotaI_len]; done) | (simp only [List.length_map, List.length_cons, List.length_nil, List.length_append, List.length_set, List.length_replicate, iotaI_len]; omega))) ?_
    | refine EqL.mk _ (st eI) ?_
    | refine EqL.mk _ (dt eI) ?_
    | refine EqL.mk _ (sn0 eLI) ?_
    | refine EqL.mk _ (sn eLI (by first | rfl | assumption | omega | (simp only [List.length_map, List.length_cons, List.length_nil, List.length_append, List.length_set, List.length_replicate, iotaI_len]; done) | (simp only [List.length_map, List.length_cons, List.length_nil, List.length_append, List.length_set, List.length_replicate, iotaI_len]; omega))) ?_
    | refine EqL.mk _ (ap0 eLI) ?_
    | refine EqL.mk _ (ap eLI (by first | rfl | assumption | omega | (simp only [List.length_map, List.length_cons, List.length_nil, List.length_append, List.length_set, List.length_replicate, iotaI_len]; done) | (simp only [List.length_map, List.length_cons, List.length_nil, List.length_append, List.length_set, List.length_replicate, iotaI_len]; omega))) ?_
    | refine EqL.mk _ (tk eLI (by first | rfl | assumption | omega | (simp only [List.length_map, List.length_cons, List.length_nil, List.length_append, List.length_set, List.length_replicate, iotaI_len]; done) | (simp only [List.length_map, List.length_cons, List.length_nil, List.length_append, List.length_set, List.length_replicate, iotaI_len]; omega))) ?_
    | refine EqL.mk _ (st eLI) ?_
    | refine EqL.mk _ (dt eLI) ?_
    | refine EqL.mk _ (sn0 GDusting.cells) ?_
    | refine EqL.mk _ (sn GDusting.cells (by first | rfl | assumption | omega | (simp only [List.length_map, List.length_cons, List.length_nil, List.length_append, List.length_set, List.length_replicate, iotaI_len]; done) | (simp only [List.length_map, List.length_cons, List.length_nil, List.length_append, List.length_set, List.length_replicate, iotaI_len]; omega))) ?_
    | refine EqL.mk _ (ap0 GDusting.cells) ?_
    | refine EqL.mk _ (ap GDusting.cells (by first | rfl | assumption | omega | (simp only [List.length_map, List.length_cons, List.length_nil, List.length_append, List.length_set, List.length_replicate, iotaI_len]; done) | (simp only [List.length_map, List.length_cons, List.length_nil, List.length_append, List.length_set, List.length_replicate, iotaI_len]; omega))) ?_
    | refine EqL.mk _ (tk GDusting.cells (by first | rfl | assumption | omega | (simp only [List.length_map, List.length_cons, List.length_nil, List.length_append, List.length_set, List.length_replicate, iotaI_len]; done) | (simp only [List.length_map, List.length_cons, List.length_nil, List.length_append, List.length_set, List.length_replicate, iotaI_len]; omega))) ?_
    | refine EqL.mk _ (st GDusting.cells) ?_
    | refine EqL.mk _ (dt GDusting.cells) ?_
    | refine EqL.mk [] rfl ?_
    | refine EqL.mk [_] rfl ?_
    | refine EqL.mk _ rfl ?_
    | refine ArgF.is (c_impl_ValidDustings ..) ?_
    | refine ArgQ.is (fun hG => c_impl_ValidDustings ..) rfl rfl ?_
    | refine ArgF.is (c_impl_staysOk ..) ?_
    | refine ArgQ.is (fun hG => c_impl_staysOk ..) rfl rfl ?_
    | refine ArgF.is (c_impl_within ..) ?_
    | refine ArgQ.is (fun hG => c_impl_within ..) rfl rfl ?_
    | refine ArgF.is (c_impl_budgetValid ..) ?_
    | refine ArgQ.is (fun hG => c_impl_budgetValid ..) rfl rfl ?_
    | refine ArgF.is (c_impl_exposureOf _ _ _ (by first | assumption | omega) (by first | assumption | omega) (by first | assumption | omega)) ?_
    | refine ArgQ.is (fun hG => c_impl_exposureOf _ _ _ (by first | assumption | omega) (by first | assumption | omega) (by first | assumption | omega)) rfl rfl ?_
    | refine ArgQ.is (fun hG => c_impl_exposureOf _ _ _ (by simp only [forall_const, eq_self, not_true_eq_false, not_false_eq_true, or_false, false_or, or_self, or_true, true_or, and_true, true_and, and_false, false_and, decide_true, decide_false, Bool.not_true, Bool.not_false, decide_eq_true_eq, decide_eq_false_iff_not, ite_and_p, ite_or_p, Bool.decide_eq_true, Bool.and_eq_true, Bool.or_eq_true, Bool.not_eq_true', Bool.not_eq_false', Bool.and_eq_false_imp, Bool.or_eq_false_iff, bne_iff_ne, beq_iff_eq, bne_eq_false_iff_eq, beq_eq_false_iff_ne, gt_iff_lt, ge_iff_le, Int.not_lt, Int.not_le, ne_eq, Bool.true_eq_false, Bool.false_eq_true, reduceCtorEq, eta_Airway, eta_Door, eta_Dusting, eta_Fan, eta_Mine, eta_Mode, bytes_nil] at hG; omega) (by simp only [forall_const, eq_self, not_true_eq_false, not_false_eq_true, or_false, false_or, or_self, or_true, true_or, and_true, true_and, and_false, false_and, decide_true, decide_false, Bool.not_true, Bool.not_false, decide_eq_true_eq, decide_eq_false_iff_not, ite_and_p, ite_or_p, Bool.decide_eq_true, Bool.and_eq_true, Bool.or_eq_true, Bool.not_eq_true', Bool.not_eq_false', Bool.and_eq_false_imp, Bool.or_eq_false_iff, bne_iff_ne, beq_iff_eq, bne_eq_false_iff_eq, beq_eq_false_iff_ne, gt_iff_lt, ge_iff_le, Int.not_lt, Int.not_le, ne_eq, Bool.true_eq_false, Bool.false_eq_true, reduceCtorEq, eta_Airway, eta_Door, eta_Dusting, eta_Fan, eta_Mine, eta_Mode, bytes_nil] at hG; omega) (by simp only [forall_const, eq_self, not_true_eq_false, not_false_eq_true, or_false, false_or, or_self, or_true, true_or, and_true, true_and, and_false, false_and, decide_true, decide_false, Bool.not_true, Bool.not_false, decide_eq_true_eq, decide_eq_false_iff_not, ite_and_p, ite_or_p, Bool.decide_eq_true, Bool.and_eq_true, Bool.or_eq_true, Bool.not_eq_true', Bool.not_eq_false', Bool.and_eq_false_imp, Bool.or_eq_false_iff, bne_iff_ne, beq_iff_eq, bne_eq_false_iff_eq, beq_eq_false_iff_ne, gt_iff_lt, ge_iff_le, Int.not_lt, Int.not_le, ne_eq, Bool.true_eq_false, Bool.false_eq_true, reduceCtorEq, eta_Airway, eta_Door, eta_Dusting, eta_Fan, eta_Mine, eta_Mode, bytes_nil] at hG; omega)) rfl rfl ?_
    | refine ArgF.is (c_impl_setSearch_first ..) ?_
    | refine ArgQ.is (fun hG => c_impl_setSearch_first ..) rfl rfl ?_
    | refine CallF.mk (CallW.is [] true rfl ?_)
    | refine CallG.mk ?_
    | (refine CondF.mk (fun hb => ?_) (fun hb => ?_) <;> try simp only [forall_const, eq_self, not_true_eq_false, not_false_eq_true, or_false, false_or, or_self, or_true, true_or, and_true, true_and, and_false, false_and, decide_true, decide_false, Bool.not_true, Bool.not_false, decide_eq_true_eq, decide_eq_false_iff_not, ite_and_p, ite_or_p, Bool.decide_eq_true, Bool.and_eq_true, Bool.or_eq_true, Bool.not_eq_true', Bool.not_eq_false', Bool.and_eq_false_imp, Bool.or_eq_false_iff, bne_iff_ne, beq_iff_eq, bne_eq_false_iff_eq, beq_eq_false_iff_ne, gt_iff_lt, ge_iff_le, Int.not_lt, Int.not_le, ne_eq, Bool.true_eq_false, Bool.false_eq_true, reduceCtorEq, eta_Airway, eta_Door, eta_Dusting, eta_Fan, eta_Mine, eta_Mode] at hb)
    | apply BackF.auto7
    | refine BackB.mk ?_ ?_
    | refine RetF.auto (And.intro rfl ?_)
    | exact Is.mk rfl rfl
    | refine Is.mk ?_ rfl
    | refine Is.mk rfl ?_
    | refine Is.mk ?_ ?_
  all_goals try dsimp only
  all_goals first
    | omega
    | exact masks_c (show okMasks ds ss f limit budget = 1 from by unfold okMasks; rw [if_neg (by rw [hb]; decide)]) (by decide)
    | exact masks_c (mk_2 (by assumption) hb) (by decide)
    | exact ⟨by omega, by omega, mk_0 (by assumption) hb, rfl, rfl, rfl, rfl, rfl, rfl, rfl, rfl, rfl, (okStays_b (mk_ok (mk_0 (by assumption) hb)).2.1).1⟩
    | exact ⟨by omega, by omega, h2, by simp [h3], by simp [h4], by simp [h5], by omega, by omega, by omega, by rw [expos_s h0 hb, ← h9], by rw [expos_s h0 hb, ← ha], by rw [iota_s h0, ← hc], hd⟩
    | exact ⟨e1, (masks_e h2 hb h1 h9 ha hc).trans e2⟩
    | exact (masks_e h2 hb h1 h9 ha hc).trans e1
    | skip
end Go.Proofs.Ytnmfbdkiehickaa
