/- Contracts of functions of the program, and what they compute. Conditions: those that each theorem states. -/
import Derived.Test.YtfcnlpghdpfjkaaProg
import Derived.Test.YtfcnlpghdpfjkaaY4
import Derived.Test.YtfcnlpghdpfjkaaE2c9
import Derived.Test.YtfcnlpghdpfjkaaV2
set_option linter.unusedVariables false
set_option linter.unusedSimpArgs false
namespace Go.Proofs.Ytfcnlpghdpfjkaa
open Go.Av
attribute [local irreducible] Go.IntKind.wrap leastI rdZ rd rootI rawA okMine mixT heatF heatY warmN clampW cmI temI ext extL fstL fstSet htC
set_option maxRecDepth 20000
set_option maxHeartbeats 8000000

/-! The fewest coolers; the hottest junction. -/
--@fn impl.budgetValid
theorem budgetY (x : Int) : FnSem Try.prog 65 [In x] [] (Is [Bo (inR x 1 20000)] []) := by
  refine FnSem.walk (zs := zeroPV Try.prog) (by kernel_rfl) Try.func65 rfl Try.results65 (by kernel_rfl) (by kernel_rfl) (by kernel_rfl) fun hw hh => ?_
  obtain ⟨w0, _⟩ := hw
  first | replace w0 := wf_I w0 | skip
  repeat' first
    | refine And.intro rfl ?_
    | refine GdF.mk (fun h => h) ?_
    | refine And.intro (Nat.succ_ne_zero _) ?_
    | refine And.intro (Nat.le_of_ble_eq_true rfl) ?_
    | refine SeqF.run ?_
    | refine GhF.go ?_
    | refine BndF.mk (fun _ => by omega) ?_
    | refine BndF.mk (fun _ => by simp only [List.length_map, List.length_cons, List.length_nil, List.length_append, List.length_set, List.length_replicate, iotaI_len]; omega) ?_
    | refine EqL.mk [] rfl ?_
    | refine EqL.mk [_] rfl ?_
    | refine EqL.mk _ rfl ?_
    | refine ArgF.is (c_impl_within ..) ?_
    | refine ArgQ.is (fun hG => c_impl_within ..) rfl rfl ?_
    | refine CallF.mk (CallW.is [] true rfl ?_)
    | refine CallG.mk ?_
    | (refine CondF.mk (fun hb => ?_) (fun hb => ?_) <;> try simp only [forall_const, eq_self, not_true_eq_false, not_false_eq_true, or_false, false_or, or_self, or_true, true_or, and_true, true_and, and_false, false_and, decide_true, decide_false, Bool.not_true, Bool.not_false, decide_eq_true_eq, decide_eq_false_iff_not, ite_and_p, ite_or_p, Bool.decide_eq_true, Bool.and_eq_true, Bool.or_eq_true, Bool.not_eq_true', Bool.not_eq_false', Bool.and_eq_false_imp, Bool.or_eq_false_iff, bne_iff_ne, beq_iff_eq, bne_eq_false_iff_eq, beq_eq_false_iff_ne, gt_iff_lt, ge_iff_le, Int.not_lt, Int.not_le, ne_eq, Bool.true_eq_false, Bool.false_eq_true, reduceCtorEq, eta_Airway, eta_Fan, eta_Mine] at hb)
    | refine RetF.auto (And.intro rfl ?_)
    | exact Is.mk rfl rfl
    | refine Is.mk ?_ rfl
    | refine Is.mk rfl ?_
    | refine Is.mk ?_ ?_
/-- powers with coolers -/
def colI (ps xs : List Int) (c : Int) : Nat → List Int
  | 0 => ps
  | n + 1 => (colI ps xs c n).set (xs.getD n 0).toNat ((colI ps xs c n).getD (xs.getD n 0).toNat 0 - c)
section
variable {ps xs : List Int} {c : Int}
theorem colI_p (hp : ∀ i : Nat, -10000000 ≤ ps.getD i 0 ∧ ps.getD i 0 ≤ 10000000) (hc : 1 ≤ c ∧ c ≤ 10000000) : ∀ n : Nat, (colI ps xs c n).length = ps.length ∧ ∀ i : Nat, -10000000 - 10000000 * (n : Int) ≤ (colI ps xs c n).getD i 0 ∧ (colI ps xs c n).getD i 0 ≤ 10000000
  | 0 => ⟨rfl, fun i => by have := hp i; simp only [colI]; omega⟩
  | n + 1 => by
    have ih := colI_p hp hc n
    refine ⟨by rw [colI, List.length_set]; exact ih.1, fun i => ?_⟩
    have h1 := ih.2 i
    have h2 := ih.2 (xs.getD n 0).toNat
    rw [colI, gdSetY]
    split <;> omega
theorem colI_s {i : Int} (h : 0 ≤ i) : colI ps xs c (i + 1).toNat = (colI ps xs c i.toNat).set (xs.getD i.toNat 0).toNat ((colI ps xs c i.toNat).getD (xs.getD i.toNat 0).toNat 0 - c) := by
  rw [show (i + 1).toNat = i.toNat + 1 by omega]; rfl
end
/-- with coolers at some airways no junction is too hot -/
def colR (m : GMine) (fs rs ps ss : List Int) (t rate c lim : Int) (xs : List Int) : Bool := (temI m fs rs (colI ps xs c xs.length) ss t rate).all fun v => decide (v ≤ lim)
theorem htP_col {m : GMine} {fs rs ps xs : List Int} {rate c : Int} (h : htP m fs rs ps rate) (hp : ∀ i : Nat, -10000000 ≤ ps.getD i 0 ∧ ps.getD i 0 ≤ 10000000) (hc : 1 ≤ c ∧ c ≤ 10000000) (hl : xs.length ≤ 24) : htP m fs rs (colI ps xs c xs.length) rate := by
  have q := colI_p (xs := xs) hp hc xs.length
  refine ⟨h.mine, ⟨h.fl.1, h.fl.2.1, by rw [q.1]; exact h.fl.2.2⟩, h.fs, h.rs, fun i => ?_, h.rt⟩
  have := q.2 i; omega
theorem max_all {ys : List Int} {v lim : Int} (h1 : ∃ j : Nat, j < ys.length ∧ v = ys.getD j 0) (h2 : ∀ j : Nat, (j : Int) < ys.length → ys.getD j 0 ≤ v) : decide (v ≤ lim) = ys.all fun v => decide (v ≤ lim) := by
  rw [Bool.eq_iff_iff, decide_eq_true_iff, List.all_eq_true]
  constructor
  · intro h x hx
    obtain ⟨i, hi, rfl⟩ := List.getElem_of_mem hx
    have := h2 i (by omega)
    rw [List.getD_eq_getElem?_getD, List.getElem?_eq_getElem hi, Option.getD_some] at this
    exact decide_eq_true (by omega)
  · intro h
    obtain ⟨j, hj, rfl⟩ := h1
    exact of_decide_eq_true (h _ (getD_mem hj))
--@fn slices.Max[[]int64,int64]
theorem maxY (xs : List Int) (hl : 1 ≤ xs.length) : FnSem Try.prog 70 [Lx (LI xs)] [] (RetV (fun v : Int => [In v]) (fun _ => []) (fun v => (∃ j : Nat, j < xs.length ∧ v = xs.getD j 0) ∧ ∀ j : Nat, (j : Int) < xs.length → xs.getD j 0 ≤ v)) := by
  refine FnSem.walk (zs := zeroPV Try.prog) (by kernel_rfl) Try.func70 rfl Try.results70 (by kernel_rfl) (by kernel_rfl) (by kernel_rfl) fun hw hh => ?_
  obtain ⟨w0, _⟩ := hw
  first | replace w0 := wf_LI w0 | skip
  repeat' first
    | refine And.intro rfl ?_
    | refine GdF.mk (fun h => h) ?_
    | refine And.intro (Nat.succ_ne_zero _) ?_
    | refine And.intro (Nat.le_of_ble_eq_true rfl) ?_
    | refine SeqF.run ?_
    | exact absurd hb (by omega)
    | refine LoopF.at 5 rfl (LoopF.fix [0] (Int × Int) (fun (v, i) => 1 ≤ i ∧ i ≤ xs.length ∧ (∃ j : Nat, j < xs.length ∧ v = xs.getD j 0) ∧ (∀ j : Nat, (j : Int) < i → xs.getD j 0 ≤ v)) (fun (v, i) => [(3, In v), (4, In i)]) (fun (v, i) => []) (fun (v, i) => ((xs.length - i).toNat)) ((xs.getD 0 0, 1)) ?_)
    | (refine LoopB.of (T := Int × Int) ?_ ?_; rotate_left; rintro ⟨v, i⟩ ⟨h0, h1, h2, h3⟩; rotate_left)
    | refine RetV.mk (α := Int) _ rfl rfl ?_
    | refine GhF.go ?_
    | refine EqP.mk _ (gm eI 0 rfl) ?_
    | refine BndF.mk (fun _ => by omega) ?_
    | refine BndF.mk (fun _ => by simp only [List.length_map, List.length_cons, List.length_nil, List.length_append, List.length_set, List.length_replicate, iotaI_len]; omega) ?_
    | refine EqI.mk _ (fun _ => wrapI (by omega) (by omega)) ?_
    | refine EqI.mk _ (fun _ => rfl) ?_
    | refine EqN.mk _ (ln eI) ?_
    | refine EqN.mk _ (Nat.zero_add _) ?_
    | refine EqN.mk _ (Int.toNat_natCast _) ?_
    | refine EqN.mk _ rfl ?_
    | (refine CondF.mk (fun hb => ?_) (fun hb => ?_) <;> try simp only [forall_const, eq_self, not_true_eq_false, not_false_eq_true, or_false, false_or, or_self, or_true, true_or, and_true, true_and, and_false, false_and, decide_true, decide_false, Bool.not_true, Bool.not_false, decide_eq_true_eq, decide_eq_false_iff_not, ite_and_p, ite_or_p, Bool.decide_eq_true, Bool.and_eq_true, Bool.or_eq_true, Bool.not_eq_true', Bool.not_eq_false', Bool.and_eq_false_imp, Bool.or_eq_false_iff, bne_iff_ne, beq_iff_eq, bne_eq_false_iff_eq, beq_eq_false_iff_ne, gt_iff_lt, ge_iff_le, Int.not_lt, Int.not_le, ne_eq, Bool.true_eq_false, Bool.false_eq_true, reduceCtorEq, eta_Airway, eta_Fan, eta_Mine] at hb)
    | apply BackF.auto2
    | refine BackB.mk ?_ ?_
    | refine RetF.auto (And.intro rfl ?_)
    | exact Is.mk rfl rfl
    | refine Is.mk ?_ rfl
    | refine Is.mk rfl ?_
    | refine Is.mk ?_ ?_
  all_goals try dsimp only
  all_goals try omega
  · exact ⟨by omega, by omega, ⟨0, by omega, rfl⟩, fun j hj => by rw [show j = 0 by omega]; exact Int.le_refl _⟩
  · refine ⟨by omega, by omega, ?_, all_s (P := fun j => xs.getD j 0 ≤ max v (xs.getD i.toNat 0)) (by omega) (fun j hj => by have := h3 j hj; omega) (by omega)⟩
    obtain ⟨j, hj, e⟩ := h2
    rcases Int.le_total v (xs.getD i.toNat 0) with h | h
    · exact ⟨i.toNat, by omega, by omega⟩
    · exact ⟨j, hj, by omega⟩
  · exact ⟨h2, fun j hj => h3 j (by omega)⟩
def mxI : List Int → Int
  | [] => 0
  | [x] => x
  | x :: y :: r => max x (mxI (y :: r))
theorem mxI_p : ∀ xs : List Int, 1 ≤ xs.length → (∃ j : Nat, j < xs.length ∧ mxI xs = xs.getD j 0) ∧ ∀ j : Nat, (j : Int) < xs.length → xs.getD j 0 ≤ mxI xs
  | [], h => by simp at h
  | [x], _ => ⟨⟨0, by simp, rfl⟩, fun j hj => by
    have : j = 0 := by simp at hj; omega
    subst this; exact Int.le_refl _⟩
  | x :: y :: r, _ => by
    obtain ⟨⟨j, hj, e⟩, h2⟩ := mxI_p (y :: r) (by simp)
    refine ⟨?_, fun k hk => ?_⟩
    · rcases Int.le_total x (mxI (y :: r)) with h | h
      · exact ⟨j + 1, by simp at hj ⊢; omega, by rw [mxI, List.getD_cons_succ, ← e]; omega⟩
      · exact ⟨0, by simp, by rw [mxI, List.getD_cons_zero]; omega⟩
    · cases k with
      | zero => rw [mxI, List.getD_cons_zero]; omega
      | succ k =>
        have := h2 k (by simp at hk ⊢; omega)
        rw [mxI, List.getD_cons_succ]; omega
--@fn slices.Max[[]int64,int64]
theorem maxE (xs : List Int) (hl : 1 ≤ xs.length) : FnSem Try.prog 70 [Lx (LI xs)] [] (Is [In (mxI xs)] []) :=
  (maxY xs hl).mono fun rs ho h => by
    obtain ⟨v, rfl, rfl, ⟨j, hj, e⟩, h2⟩ := h
    obtain ⟨⟨k, hk, e2⟩, h3⟩ := mxI_p xs hl
    have a := h2 k (by omega)
    have b := h3 j (by omega)
    have : v = mxI xs := by omega
    subst this
    exact Is.mk rfl rfl
theorem c_impl_FewestCoolers_1 (m : GMine) (fs rs ps ss xs : List Int) (t rate c lim : Int) (h : htC m fs rs ps ss t rate = 0) (hc : 1 ≤ c ∧ c ≤ 10000000) (hx : ∀ j : Nat, (j : Int) < xs.length → 0 ≤ xs.getD j 0 ∧ xs.getD j 0 < m.airways.length) (hl : xs.length ≤ 24) :
    FnSem Try.prog 67 [Lx (LI xs), .p .any (.ref [LI ps]), .p .any (.ref [.c (.int .i64 c)]), .p .any (.ref m.cells), .p .any (.ref [LI fs]), .p .any (.ref [LI rs]), .p .any (.ref [LI ss]), .p .any (.ref [.c (.int .i64 t)]), .p .any (.ref [.c (.int .i64 rate)]), .p .any (.ref [.c (.int .i64 lim)])] [] (Is [Bo (colR m fs rs ps ss t rate c lim xs)] []) := by
  have q := htC_p h
  have hps := q.1.fl.2.2
  have hmp := okMine_p q.1.mine
  have hC := colI_p (xs := xs) q.2.1 hc
  have hY : ∀ (i : Int), 0 ≤ i → i ≤ xs.length → (xs.length : Int) ≤ i → ∀ ys : List Int, ys = colI ps xs c i.toNat → m.junctions.toNat = (temI m fs rs ys ss t rate).length := fun i h0 h1 h2 ys hy => by
    rw [hy, show i.toNat = xs.length by omega]
    exact (temI_p (htP_col q.1 q.2.1 hc hl) q.2.2.2).ln.symm
  have hT := temI_p (ss := ss) (t := t) (htP_col (xs := xs) q.1 q.2.1 hc hl) q.2.2.2
  refine FnSem.walk (zs := zeroPV Try.prog) (by kernel_rfl) Try.func67 rfl Try.results67 (by kernel_rfl) (by kernel_rfl) (by kernel_rfl) fun hw hh => ?_
  obtain ⟨w0, w1, w2, w3, w4, w5, w6, w7, w8, w9, _⟩ := hw
  first | replace w0 := wf_LI w0 | skip
  first | replace w1 := wf_I w1 | replace w1 := wf_Y w1 | replace w1 := wf_S w1 | replace w1 := wf_LI w1 | replace w1 := wf_LY w1 | replace w1 := wf_LLI w1 | replace w1 := wf_Ls w1 | skip
  first | replace w2 := wf_I w2 | replace w2 := wf_Y w2 | replace w2 := wf_S w2 | replace w2 := wf_LI w2 | replace w2 := wf_LY w2 | replace w2 := wf_LLI w2 | replace w2 := wf_Ls w2 | skip
  first | replace w3 := wf_I w3 | replace w3 := wf_Y w3 | replace w3 := wf_S w3 | replace w3 := wf_LI w3 | replace w3 := wf_LY w3 | replace w3 := wf_LLI w3 | replace w3 := wf_Ls w3 | skip
  first | replace w4 := wf_I w4 | replace w4 := wf_Y w4 | replace w4 := wf_S w4 | replace w4 := wf_LI w4 | replace w4 := wf_LY w4 | replace w4 := wf_LLI w4 | replace w4 := wf_Ls w4 | skip
  first | replace w5 := wf_I w5 | replace w5 := wf_Y w5 | replace w5 := wf_S w5 | replace w5 := wf_LI w5 | replace w5 := wf_LY w5 | replace w5 := wf_LLI w5 | replace w5 := wf_Ls w5 | skip
  first | replace w6 := wf_I w6 | replace w6 := wf_Y w6 | replace w6 := wf_S w6 | replace w6 := wf_LI w6 | replace w6 := wf_LY w6 | replace w6 := wf_LLI w6 | replace w6 := wf_Ls w6 | skip
  first | replace w7 := wf_I w7 | replace w7 := wf_Y w7 | replace w7 := wf_S w7 | replace w7 := wf_LI w7 | replace w7 := wf_LY w7 | replace w7 := wf_LLI w7 | replace w7 := wf_Ls w7 | skip
  first | replace w8 := wf_I w8 | replace w8 := wf_Y w8 | replace w8 := wf_S w8 | replace w8 := wf_LI w8 | replace w8 := wf_LY w8 | replace w8 := wf_LLI w8 | replace w8 := wf_Ls w8 | skip
  first | replace w9 := wf_I w9 | replace w9 := wf_Y w9 | replace w9 := wf_S w9 | replace w9 := wf_LI w9 | replace w9 := wf_LY w9 | replace w9 := wf_LLI w9 | replace w9 := wf_Ls w9 | skip
  repeat' first
    | refine And.intro rfl ?_
    | refine GdF.mk (fun h => h) ?_
    | refine And.intro (Nat.succ_ne_zero _) ?_
    | refine And.intro (Nat.le_of_ble_eq_true rfl) ?_
    | refine SeqF.run ?_
    | refine ArgF.is (c_slices_Clone_int64_int64 ps (by omega)) ?_
    | refine ArgQ.is (fun hG => c_slices_Clone_int64_int64 ps (by omega)) rfl rfl ?_
    | refine BndF.mk (fun _ => by have e := hx i.toNat (by omega); first | omega | (simp only [List.length_map]; omega)) ?_
    | refine EqI.mk _ (fun _ => by have e := (hC i.toNat).2 (xs.getD i.toNat 0).toNat; rw [← h2] at e; exact wrapI (by omega) (by omega)) ?_
    | refine EqL.mk _ (stI (by kernel_rfl)) ?_
    | refine EqL.mk (ys.map eI) (tkW (by omega)) ?_
    | refine ArgF.is (c_impl_Mine_temperatures m fs rs ys ss t rate (by rw [h2, show i.toNat = xs.length by omega]; exact htP_col q.1 q.2.1 hc hl) q.2.2.1.2 q.2.2.2) ?_
    | refine ArgQ.is (fun hG => c_impl_Mine_temperatures m fs rs ys ss t rate (by rw [h2, show i.toNat = xs.length by omega]; exact htP_col q.1 q.2.1 hc hl) q.2.2.1.2 q.2.2.2) rfl rfl ?_
    | refine BndF.mk (fun _ => by have e := hY i h0 (by omega) (by omega) ys h2; simp only [List.length_map]; omega) ?_
    | refine EqL.mk _ (tkW (hY i h0 (by omega) (by omega) ys h2)) ?_
    | refine ArgF.is (maxE (temI m fs rs ys ss t rate) (by have := hY i h0 (by omega) (by omega) ys h2; omega)) ?_
    | refine ArgQ.is (fun hG => maxE (temI m fs rs ys ss t rate) (by have := hY i h0 (by omega) (by omega) ys h2; omega)) rfl rfl ?_
    | refine LoopF.at 3 rfl (LoopF.fix [2, 3, 4, 5, 6, 7, 8, 9, 12, 18, 19] (Int × List Int) (fun (i, ys) => 0 ≤ i ∧ i ≤ xs.length ∧ ys = colI ps xs c i.toNat ∧ ys.length = ps.length) (fun (i, ys) => [(20, In i)]) (fun (i, ys) => [(0, Rw .flat (eI 0) (ys.map eI))]) (fun (i, ys) => ((xs.length - i).toNat)) ((0, ps)) ?_)
    | (refine LoopB.of (T := Int × List Int) ?_ ?_; rotate_left; rintro ⟨i, ys⟩ ⟨h0, h1, h2, h3⟩; rotate_left)
    | refine GhF.go ?_
    | refine DrawG.old (DrawF.lex (by decide +kernel) ?_)
    | refine EqP.mk _ (gm eI 0 rfl) ?_
    | refine BndF.mk (fun _ => by omega) ?_
    | refine BndF.mk (fun _ => by simp only [List.length_map, List.length_cons, List.length_nil, List.length_append, List.length_set, List.length_replicate, iotaI_len]; omega) ?_
    | refine EqI.mk _ (fun _ => wrapI (by omega) (by omega)) ?_
    | refine EqI.mk _ (fun _ => rfl) ?_
    | refine EqN.mk _ (ln eI) ?_
    | refine EqN.mk _ (Nat.zero_add _) ?_
    | refine EqN.mk _ (Int.toNat_natCast _) ?_
    | refine EqN.mk _ rfl ?_
    | refine EqL.mk _ (tk eI (by first | rfl | assumption | omega | (simp only [List.length_map, List.length_cons, List.length_nil, List.length_append, List.length_set, List.length_replicate, iotaI_len]; done) | (simp only [List.length_map, List.length_cons, List.length_nil, List.length_append, List.length_set, List.length_replicate, iotaI_len]; omega))) ?_
    | refine EqL.mk _ (st eI) ?_
    | refine EqL.mk [] rfl ?_
    | refine EqL.mk [_] rfl ?_
    | refine EqL.mk _ rfl ?_
    | refine ArgF.is (c_slices_Clone_int64_int64 _ (by first | assumption | omega)) ?_
    | refine ArgQ.is (fun hG => c_slices_Clone_int64_int64 _ (by first | assumption | omega)) rfl rfl ?_
    | refine ArgF.is (c_impl_Mine_temperatures ⟨_, _⟩ _ _ _ _ _ _ (by first | assumption | omega) (by first | assumption | omega) (by first | assumption | omega)) ?_
    | refine ArgQ.is (fun hG => c_impl_Mine_temperatures ⟨_, _⟩ _ _ _ _ _ _ (by first | assumption | omega) (by first | assumption | omega) (by first | assumption | omega)) rfl rfl ?_
    | refine ArgF.is (c_slices_Max_int64_int64 _ (by first | assumption | omega)) ?_
    | refine ArgQ.is (fun hG => c_slices_Max_int64_int64 _ (by first | assumption | omega)) rfl rfl ?_
    | refine CallF.mk (CallW.is [] true rfl ?_)
    | refine CallG.mk ?_
    | (refine CondF.mk (fun hb => ?_) (fun hb => ?_) <;> try simp only [forall_const, eq_self, not_true_eq_false, not_false_eq_true, or_false, false_or, or_self, or_true, true_or, and_true, true_and, and_false, false_and, decide_true, decide_false, Bool.not_true, Bool.not_false, decide_eq_true_eq, decide_eq_false_iff_not, ite_and_p, ite_or_p, Bool.decide_eq_true, Bool.and_eq_true, Bool.or_eq_true, Bool.not_eq_true', Bool.not_eq_false', Bool.and_eq_false_imp, Bool.or_eq_false_iff, bne_iff_ne, beq_iff_eq, bne_eq_false_iff_eq, beq_eq_false_iff_ne, gt_iff_lt, ge_iff_le, Int.not_lt, Int.not_le, ne_eq, Bool.true_eq_false, Bool.false_eq_true, reduceCtorEq, eta_Airway, eta_Fan, eta_Mine] at hb)
    | apply BackF.auto2
    | refine BackB.mk ?_ ?_
    | refine RetF.auto (And.intro rfl ?_)
    | exact Is.mk rfl rfl
    | refine Is.mk ?_ rfl
    | refine Is.mk rfl ?_
    | refine Is.mk ?_ ?_
  all_goals try dsimp only
  all_goals first
    | omega
    | exact ⟨by omega, by omega, rfl, rfl⟩
    | (have e := (hC i.toNat).2 (xs.getD i.toNat 0).toNat
       rw [← h2] at e
       have e2 : Go.IntKind.i64.wrap (ys.getD (xs.getD i.toNat 0).toNat 0 - c) = ys.getD (xs.getD i.toNat 0).toNat 0 - c := wrapI (by omega) (by omega)
       exact ⟨by omega, by omega, by rw [colI_s h0, ← h2, e2], by rw [List.length_set]; exact h3⟩)
    | (have hM := mxI_p (temI m fs rs ys ss t rate) (by have := hY i h0 (by omega) (by omega) ys h2; omega)
       rw [max_all hM.1 hM.2, h2, show i.toNat = xs.length by omega]; rfl)
    | skip
end Go.Proofs.Ytfcnlpghdpfjkaa
