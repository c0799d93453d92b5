/- Contracts of functions of the program, and what they compute. Conditions: those that each theorem states. -/
import Derived.Test.YtdhkpmaanegjkaaGreatDoorProg
import Derived.Test.YtdhkpmaanegjkaaGreatDoorR0
set_option linter.unusedVariables false
set_option linter.unusedSimpArgs false
namespace Go.Proofs.YtdhkpmaanegjkaaGreatDoor
open Go.Av
attribute [local irreducible] Go.IntKind.wrap
set_option maxRecDepth 20000
set_option maxHeartbeats 2000000
def binN (p : Int → Bool) : Nat → Int → Int → Int
  | 0, i, _ => i
  | n + 1, i, j => if i < j then (if p ((i + j) / 2) = true then binN p n i ((i + j) / 2) else binN p n ((i + j) / 2 + 1) j) else i
theorem binN_t {p : Int → Bool} {n : Nat} {i j : Int} (h : i < j) (hn : j - i ≤ n) (hp : p ((i + j) / 2) = true) : binN p n i j = binN p (n - 1) i ((i + j) / 2) := by
  obtain ⟨n, rfl⟩ : ∃ k, n = k + 1 := ⟨n - 1, by omega⟩
  rw [binN, if_pos h, if_pos hp]; rfl
theorem binN_f {p : Int → Bool} {n : Nat} {i j : Int} (h : i < j) (hn : j - i ≤ n) (hp : p ((i + j) / 2) = false) : binN p n i j = binN p (n - 1) ((i + j) / 2 + 1) j := by
  obtain ⟨n, rfl⟩ : ∃ k, n = k + 1 := ⟨n - 1, by omega⟩
  rw [binN, if_pos h, if_neg (by rw [hp]; decide)]; rfl
theorem binN_e {p : Int → Bool} {n : Nat} {i j : Int} (h : ¬i < j) : binN p n i j = i := by
  cases n with
  | zero => rfl
  | succ n => rw [binN, if_neg h]
theorem binN_p {p : Int → Bool} : ∀ (n : Nat) (i j : Int), i ≤ j → j - i ≤ n → i ≤ binN p n i j ∧ binN p n i j ≤ j ∧ (binN p n i j < j → p (binN p n i j) = true) ∧ (i < binN p n i j → p (binN p n i j - 1) = false)
  | 0, i, j, h0, h1 => by rw [binN]; exact ⟨by omega, by omega, fun h => by omega, fun h => by omega⟩
  | n + 1, i, j, h0, h1 => by
    rw [binN]
    by_cases h : i < j
    · rw [if_pos h]
      by_cases hp : p ((i + j) / 2) = true
      · rw [if_pos hp]
        obtain ⟨a, b, c, d⟩ := binN_p (p := p) n i ((i + j) / 2) (by omega) (by omega)
        refine ⟨a, by omega, fun _ => ?_, d⟩
        by_cases e : binN p n i ((i + j) / 2) < (i + j) / 2
        · exact c e
        · rw [show binN p n i ((i + j) / 2) = (i + j) / 2 by omega]; exact hp
      · rw [if_neg hp]
        obtain ⟨a, b, c, d⟩ := binN_p (p := p) n ((i + j) / 2 + 1) j (by omega) (by omega)
        refine ⟨by omega, b, c, fun _ => ?_⟩
        by_cases e : (i + j) / 2 + 1 < binN p n ((i + j) / 2 + 1) j
        · exact d e
        · rw [show binN p n ((i + j) / 2 + 1) j - 1 = (i + j) / 2 by omega]; simpa using hp
    · rw [if_neg h]; exact ⟨by omega, by omega, fun h => by omega, fun h => by omega⟩
theorem binN_c {p q : Int → Bool} : ∀ (n : Nat) (i j : Int), (∀ k, i ≤ k → k < j → p k = q k) → binN p n i j = binN q n i j
  | 0, i, j, _ => rfl
  | n + 1, i, j, h => by
    rw [binN, binN]
    by_cases e : i < j
    · rw [if_pos e, if_pos e, h ((i + j) / 2) (by omega) (by omega), binN_c n i ((i + j) / 2) (fun k a b => h k a (by omega)), binN_c n ((i + j) / 2 + 1) j (fun k a b => h k (by omega) b)]
    · rw [if_neg e, if_neg e]
def binI (p : Int → Bool) (lo hi : Int) : Int := lo + binN (fun k => p (lo + k)) (hi - lo + 1).toNat 0 (hi - lo + 1)
theorem binI_p {p : Int → Bool} {lo hi : Int} (h : lo ≤ hi + 1) : lo ≤ binI p lo hi ∧ binI p lo hi ≤ hi + 1 ∧ (binI p lo hi ≤ hi → p (binI p lo hi) = true) ∧ (lo < binI p lo hi → p (binI p lo hi - 1) = false) := by
  obtain ⟨a, b, c, d⟩ := binN_p (p := fun k => p (lo + k)) (hi - lo + 1).toNat 0 (hi - lo + 1) (by omega) (by omega)
  unfold binI
  refine ⟨by omega, by omega, fun h => c (by omega), fun h => ?_⟩
  have := d (by omega)
  rw [show lo + binN (fun k => p (lo + k)) (hi - lo + 1).toNat 0 (hi - lo + 1) - 1 = lo + (binN (fun k => p (lo + k)) (hi - lo + 1).toNat 0 (hi - lo + 1) - 1) by omega]
  exact this
attribute [local irreducible] binN
--@fn sort.Search
theorem searchB1 (n : Int) (f : Nat) (c1 : List PV) (p : Int → Bool) (hf : ∀ x, 0 ≤ x → x < n → FnSem Tryz.prog f [In x, .p .any (.ref c1)] [] (Is [Bo (p x)] [])) (hn : 0 ≤ n ∧ n ≤ 4611686018427387904) : FnSem Tryz.prog 125 [In n, .p .any (.fn f [.ref c1])] [] (Is [In (binN p n.toNat 0 n)] []) := by
  refine FnSem.walk (zs := zeroPV Tryz.prog) (by kernel_rfl) Tryz.func125 rfl Tryz.results125 (by kernel_rfl) (by kernel_rfl) (by kernel_rfl) fun hw hh => ?_
  obtain ⟨w0, w1, _⟩ := hw
  first | replace w0 := wf_I w0 | skip
  repeat' first
    | refine And.intro rfl ?_
    | refine GdF.mk (fun h => h) ?_
    | refine And.intro (Nat.succ_ne_zero _) ?_
    | refine And.intro (Nat.le_of_ble_eq_true rfl) ?_
    | refine SeqF.run ?_
    | refine EqI.mk _ (fun _ => wrapU (by omega) (by omega)) ?_
    | refine EqI.mk _ (fun _ => shr1) ?_
    | refine ArgF.is (hf _ (by omega) (by omega)) ?_
    | refine ArgQ.is (fun hG => hf _ (by omega) (by omega)) rfl rfl ?_
    | refine LoopF.at 2 rfl (LoopF.fix [1] (Int × Int) (fun (i, j) => 0 ≤ i ∧ i ≤ j ∧ j ≤ n ∧ (∃ m : Nat, j - i ≤ m ∧ binN p m i j = binN p n.toNat 0 n)) (fun (i, j) => [(5, In i), (6, In j)]) (fun (i, j) => []) (fun (i, j) => ((j - i).toNat)) ((0, n)) ?_)
    | (refine LoopB.of (T := Int × Int) ?_ ?_; rotate_left; rintro ⟨i, j⟩ ⟨h0, h1, h2, h3⟩; rotate_left)
    | refine GhF.go ?_
    | refine BndF.mk (fun _ => by omega) ?_
    | refine BndF.mk (fun _ => by simp only [lnS]; omega) ?_
    | refine EqI.mk _ (fun _ => wrapI (by omega) (by omega)) ?_
    | refine EqI.mk _ (fun _ => rfl) ?_
    | refine CallF.mk (CallW.is [] true rfl ?_)
    | refine CallG.mk ?_
    | (refine CondF.mk (fun hb => ?_) (fun hb => ?_) <;> try simp only [forall_const, eq_self, not_true_eq_false, not_false_eq_true, or_false, false_or, or_self, or_true, true_or, and_true, true_and, and_false, false_and, decide_true, decide_false, Bool.not_true, Bool.not_false, decide_eq_true_eq, decide_eq_false_iff_not, ite_and_p, ite_or_p, Bool.decide_eq_true, Bool.and_eq_true, Bool.or_eq_true, Bool.not_eq_true', Bool.not_eq_false', Bool.and_eq_false_imp, Bool.or_eq_false_iff, bne_iff_ne, beq_iff_eq, bne_eq_false_iff_eq, beq_eq_false_iff_ne, gt_iff_lt, ge_iff_le, Int.not_lt, Int.not_le, ne_eq, Bool.true_eq_false, Bool.false_eq_true, reduceCtorEq, eta_Airway, eta_Fan, eta_Mine] at hb)
    | apply BackF.auto2
    | refine BackB.mk ?_ ?_
    | refine RetF.auto (And.intro rfl ?_)
    | exact Is.mk rfl rfl
    | refine Is.mk ?_ rfl
    | refine Is.mk rfl ?_
    | refine Is.mk ?_ ?_
  all_goals try dsimp only
  all_goals try simp only [Bo, I, OB.row.injEq, AV.osl.injEq, eI_same,  List.cons.injEq, AV.p.injEq, PV.c.injEq, Value.int.injEq, Value.bool.injEq, and_true, true_and, ite_and_p, ite_or_p, Bool.decide_eq_true, eta_Airway, eta_Fan, eta_Mine]
  · exact ⟨by omega, by omega, by omega, n.toNat, by omega, rfl⟩
  · obtain ⟨m, h3, h4⟩ := h3
    exact ⟨by omega, by omega, h2, m - 1, by omega, by rw [← h4]; exact (binN_f (by omega) h3 hb).symm⟩
  · omega
  · obtain ⟨m, h3, h4⟩ := h3
    exact ⟨h0, by omega, by omega, m - 1, by omega, by rw [← h4]; exact (binN_t (by omega) h3 hb).symm⟩
  · omega
  · obtain ⟨m, h3, h4⟩ := h3
    rw [← h4, binN_e (by omega)]
--@fn sort.Search
theorem searchB2 (n : Int) (f : Nat) (c1 c2 : List PV) (p : Int → Bool) (hf : ∀ x, 0 ≤ x → x < n → FnSem Tryz.prog f [In x, .p .any (.ref c1), .p .any (.ref c2)] [] (Is [Bo (p x)] [])) (hn : 0 ≤ n ∧ n ≤ 4611686018427387904) : FnSem Tryz.prog 125 [In n, .p .any (.fn f [.ref c1, .ref c2])] [] (Is [In (binN p n.toNat 0 n)] []) := by
  refine FnSem.walk (zs := zeroPV Tryz.prog) (by kernel_rfl) Tryz.func125 rfl Tryz.results125 (by kernel_rfl) (by kernel_rfl) (by kernel_rfl) fun hw hh => ?_
  obtain ⟨w0, w1, _⟩ := hw
  first | replace w0 := wf_I w0 | skip
  repeat' first
    | refine And.intro rfl ?_
    | refine GdF.mk (fun h => h) ?_
    | refine And.intro (Nat.succ_ne_zero _) ?_
    | refine And.intro (Nat.le_of_ble_eq_true rfl) ?_
    | refine SeqF.run ?_
    | refine EqI.mk _ (fun _ => wrapU (by omega) (by omega)) ?_
    | refine EqI.mk _ (fun _ => shr1) ?_
    | refine ArgF.is (hf _ (by omega) (by omega)) ?_
    | refine ArgQ.is (fun hG => hf _ (by omega) (by omega)) rfl rfl ?_
    | refine LoopF.at 2 rfl (LoopF.fix [1] (Int × Int) (fun (i, j) => 0 ≤ i ∧ i ≤ j ∧ j ≤ n ∧ (∃ m : Nat, j - i ≤ m ∧ binN p m i j = binN p n.toNat 0 n)) (fun (i, j) => [(5, In i), (6, In j)]) (fun (i, j) => []) (fun (i, j) => ((j - i).toNat)) ((0, n)) ?_)
    | (refine LoopB.of (T := Int × Int) ?_ ?_; rotate_left; rintro ⟨i, j⟩ ⟨h0, h1, h2, h3⟩; rotate_left)
    | refine GhF.go ?_
    | refine BndF.mk (fun _ => by omega) ?_
    | refine BndF.mk (fun _ => by simp only [lnS]; omega) ?_
    | refine EqI.mk _ (fun _ => wrapI (by omega) (by omega)) ?_
    | refine EqI.mk _ (fun _ => rfl) ?_
    | refine CallF.mk (CallW.is [] true rfl ?_)
    | refine CallG.mk ?_
    | (refine CondF.mk (fun hb => ?_) (fun hb => ?_) <;> try simp only [forall_const, eq_self, not_true_eq_false, not_false_eq_true, or_false, false_or, or_self, or_true, true_or, and_true, true_and, and_false, false_and, decide_true, decide_false, Bool.not_true, Bool.not_false, decide_eq_true_eq, decide_eq_false_iff_not, ite_and_p, ite_or_p, Bool.decide_eq_true, Bool.and_eq_true, Bool.or_eq_true, Bool.not_eq_true', Bool.not_eq_false', Bool.and_eq_false_imp, Bool.or_eq_false_iff, bne_iff_ne, beq_iff_eq, bne_eq_false_iff_eq, beq_eq_false_iff_ne, gt_iff_lt, ge_iff_le, Int.not_lt, Int.not_le, ne_eq, Bool.true_eq_false, Bool.false_eq_true, reduceCtorEq, eta_Airway, eta_Fan, eta_Mine] at hb)
    | apply BackF.auto2
    | refine BackB.mk ?_ ?_
    | refine RetF.auto (And.intro rfl ?_)
    | exact Is.mk rfl rfl
    | refine Is.mk ?_ rfl
    | refine Is.mk rfl ?_
    | refine Is.mk ?_ ?_
  all_goals try dsimp only
  all_goals try simp only [Bo, I, OB.row.injEq, AV.osl.injEq, eI_same,  List.cons.injEq, AV.p.injEq, PV.c.injEq, Value.int.injEq, Value.bool.injEq, and_true, true_and, ite_and_p, ite_or_p, Bool.decide_eq_true, eta_Airway, eta_Fan, eta_Mine]
  · exact ⟨by omega, by omega, by omega, n.toNat, by omega, rfl⟩
  · obtain ⟨m, h3, h4⟩ := h3
    exact ⟨by omega, by omega, h2, m - 1, by omega, by rw [← h4]; exact (binN_f (by omega) h3 hb).symm⟩
  · omega
  · obtain ⟨m, h3, h4⟩ := h3
    exact ⟨h0, by omega, by omega, m - 1, by omega, by rw [← h4]; exact (binN_t (by omega) h3 hb).symm⟩
  · omega
  · obtain ⟨m, h3, h4⟩ := h3
    rw [← h4, binN_e (by omega)]
--@fn impl.firstIn$1
theorem firstB1_1 (k low : Int) (f : Nat) (c1 : List PV) (p : Int → Bool) (hf : FnSem Tryz.prog f [In (low + k), .p .any (.ref c1)] [] (Is [Bo (p (low + k))] [])) (hk : -4611686018427387904 ≤ low + k ∧ low + k ≤ 4611686018427387904) : FnSem Tryz.prog 126 [In k, .p .any (.ref [.fn f [.ref c1]]), .p .any (.ref [.c (.int .i64 low)])] [] (Is [Bo (p (low + k))] []) := by
  refine FnSem.walk (zs := zeroPV Tryz.prog) (by kernel_rfl) Tryz.func126 rfl Tryz.results126 (by kernel_rfl) (by kernel_rfl) (by kernel_rfl) fun hw hh => ?_
  obtain ⟨w0, w1, w2, _⟩ := hw
  first | replace w0 := wf_I w0 | skip
  first | replace w1 := wf_I w1 | replace w1 := wf_Y w1 | replace w1 := wf_S w1 | replace w1 := wf_LI w1 | replace w1 := wf_LY w1 | replace w1 := wf_LLI w1 | replace w1 := wf_Ls w1 | skip
  first | replace w2 := wf_I w2 | replace w2 := wf_Y w2 | replace w2 := wf_S w2 | replace w2 := wf_LI w2 | replace w2 := wf_LY w2 | replace w2 := wf_LLI w2 | replace w2 := wf_Ls w2 | skip
  repeat' first
    | refine And.intro rfl ?_
    | refine GdF.mk (fun h => h) ?_
    | refine And.intro (Nat.succ_ne_zero _) ?_
    | refine And.intro (Nat.le_of_ble_eq_true rfl) ?_
    | refine SeqF.run ?_
    | refine ArgF.is (hf) ?_
    | refine ArgQ.is (fun hG => hf) rfl rfl ?_
    | refine GhF.go ?_
    | refine EqI.mk _ (fun _ => wrapI (by omega) (by omega)) ?_
    | refine EqI.mk _ (fun _ => rfl) ?_
    | refine CallF.mk (CallW.is [] true rfl ?_)
    | refine CallG.mk ?_
    | (refine CondF.mk (fun hb => ?_) (fun hb => ?_) <;> try simp only [forall_const, eq_self, not_true_eq_false, not_false_eq_true, or_false, false_or, or_self, or_true, true_or, and_true, true_and, and_false, false_and, decide_true, decide_false, Bool.not_true, Bool.not_false, decide_eq_true_eq, decide_eq_false_iff_not, ite_and_p, ite_or_p, Bool.decide_eq_true, Bool.and_eq_true, Bool.or_eq_true, Bool.not_eq_true', Bool.not_eq_false', Bool.and_eq_false_imp, Bool.or_eq_false_iff, bne_iff_ne, beq_iff_eq, bne_eq_false_iff_eq, beq_eq_false_iff_ne, gt_iff_lt, ge_iff_le, Int.not_lt, Int.not_le, ne_eq, Bool.true_eq_false, Bool.false_eq_true, reduceCtorEq, eta_Airway, eta_Fan, eta_Mine] at hb)
    | refine RetF.auto (And.intro rfl ?_)
    | exact Is.mk rfl rfl
    | refine Is.mk ?_ rfl
    | refine Is.mk rfl ?_
    | refine Is.mk ?_ ?_
--@fn impl.firstIn
theorem firstB1 (low high : Int) (f : Nat) (c1 : List PV) (p : Int → Bool) (hf : ∀ x, low ≤ x → x ≤ high → FnSem Tryz.prog f [In x, .p .any (.ref c1)] [] (Is [Bo (p x)] [])) (hn : -1152921504606846976 ≤ low ∧ low ≤ high + 1 ∧ high ≤ 1152921504606846976) : FnSem Tryz.prog 100 [In low, In high, .p .any (.fn f [.ref c1])] [] (Is [In (binI p low high), Bo (decide (binI p low high ≤ high))] []) := by
  have hs := (binN_p (p := fun k => p (low + k)) (high - low + 1).toNat 0 (high - low + 1) (by omega) (by omega))
  refine FnSem.walk (zs := zeroPV Tryz.prog) (by kernel_rfl) Tryz.func100 rfl Tryz.results100 (by kernel_rfl) (by kernel_rfl) (by kernel_rfl) fun hw hh => ?_
  obtain ⟨w0, w1, w2, _⟩ := hw
  first | replace w0 := wf_I w0 | skip
  first | replace w1 := wf_I w1 | skip
  repeat' first
    | refine And.intro rfl ?_
    | refine GdF.mk (fun h => h) ?_
    | refine And.intro (Nat.succ_ne_zero _) ?_
    | refine And.intro (Nat.le_of_ble_eq_true rfl) ?_
    | refine SeqF.run ?_
    | refine ArgF.is (searchB2 _ _ _ _ (fun k => p (low + k)) (fun k h0 h1 => firstB1_1 k low f c1 p (hf _ (by omega) (by omega)) (by omega)) (by omega)) ?_
    | refine ArgQ.is (fun hG => searchB2 _ _ _ _ (fun k => p (low + k)) (fun k h0 h1 => firstB1_1 k low f c1 p (hf _ (by omega) (by omega)) (by omega)) (by omega)) rfl rfl ?_
    | refine GhF.go ?_
    | refine BndF.mk (fun _ => by omega) ?_
    | refine BndF.mk (fun _ => by simp only [lnS]; omega) ?_
    | refine EqI.mk _ (fun _ => wrapI (by omega) (by omega)) ?_
    | refine EqI.mk _ (fun _ => rfl) ?_
    | refine EqL.mk [] rfl ?_
    | refine EqL.mk [_] rfl ?_
    | refine EqL.mk _ rfl ?_
    | refine ArgF.is (c_sort_Search _ _ _ _ _ (by first | assumption | omega) (by first | assumption | omega) (by first | assumption | omega)) ?_
    | refine ArgQ.is (fun hG => c_sort_Search _ _ _ _ _ (by first | assumption | omega) (by first | assumption | omega) (by first | assumption | omega)) rfl rfl ?_
    | refine CallF.mk (CallW.is [] true rfl ?_)
    | refine CallG.mk ?_
    | (refine CondF.mk (fun hb => ?_) (fun hb => ?_) <;> try simp only [forall_const, eq_self, not_true_eq_false, not_false_eq_true, or_false, false_or, or_self, or_true, true_or, and_true, true_and, and_false, false_and, decide_true, decide_false, Bool.not_true, Bool.not_false, decide_eq_true_eq, decide_eq_false_iff_not, ite_and_p, ite_or_p, Bool.decide_eq_true, Bool.and_eq_true, Bool.or_eq_true, Bool.not_eq_true', Bool.not_eq_false', Bool.and_eq_false_imp, Bool.or_eq_false_iff, bne_iff_ne, beq_iff_eq, bne_eq_false_iff_eq, beq_eq_false_iff_ne, gt_iff_lt, ge_iff_le, Int.not_lt, Int.not_le, ne_eq, Bool.true_eq_false, Bool.false_eq_true, reduceCtorEq, eta_Airway, eta_Fan, eta_Mine] at hb)
    | refine RetF.auto (And.intro rfl ?_)
    | exact Is.mk rfl rfl
    | refine Is.mk ?_ rfl
    | refine Is.mk rfl ?_
    | refine Is.mk ?_ ?_
  all_goals try dsimp only
  all_goals try simp only [Bo, I, OB.row.injEq, AV.osl.injEq, eI_same,  List.cons.injEq, AV.p.injEq, PV.c.injEq, Value.int.injEq, Value.bool.injEq, and_true, true_and, ite_and_p, ite_or_p, Bool.decide_eq_true, eta_Airway, eta_Fan, eta_Mine]
  · refine ⟨rfl, ?_⟩; rw [decide_eq_decide]; unfold binI; omega
--@fn impl.firstIn$1
theorem firstB2_1 (k low : Int) (f : Nat) (c1 c2 : List PV) (p : Int → Bool) (hf : FnSem Tryz.prog f [In (low + k), .p .any (.ref c1), .p .any (.ref c2)] [] (Is [Bo (p (low + k))] [])) (hk : -4611686018427387904 ≤ low + k ∧ low + k ≤ 4611686018427387904) : FnSem Tryz.prog 126 [In k, .p .any (.ref [.fn f [.ref c1, .ref c2]]), .p .any (.ref [.c (.int .i64 low)])] [] (Is [Bo (p (low + k))] []) := by
  refine FnSem.walk (zs := zeroPV Tryz.prog) (by kernel_rfl) Tryz.func126 rfl Tryz.results126 (by kernel_rfl) (by kernel_rfl) (by kernel_rfl) fun hw hh => ?_
  obtain ⟨w0, w1, w2, _⟩ := hw
  first | replace w0 := wf_I w0 | skip
  first | replace w1 := wf_I w1 | replace w1 := wf_Y w1 | replace w1 := wf_S w1 | replace w1 := wf_LI w1 | replace w1 := wf_LY w1 | replace w1 := wf_LLI w1 | replace w1 := wf_Ls w1 | skip
  first | replace w2 := wf_I w2 | replace w2 := wf_Y w2 | replace w2 := wf_S w2 | replace w2 := wf_LI w2 | replace w2 := wf_LY w2 | replace w2 := wf_LLI w2 | replace w2 := wf_Ls w2 | skip
  repeat' first
    | refine And.intro rfl ?_
    | refine GdF.mk (fun h => h) ?_
    | refine And.intro (Nat.succ_ne_zero _) ?_
    | refine And.intro (Nat.le_of_ble_eq_true rfl) ?_
    | refine SeqF.run ?_
    | refine ArgF.is (hf) ?_
    | refine ArgQ.is (fun hG => hf) rfl rfl ?_
    | refine GhF.go ?_
    | refine EqI.mk _ (fun _ => wrapI (by omega) (by omega)) ?_
    | refine EqI.mk _ (fun _ => rfl) ?_
    | refine CallF.mk (CallW.is [] true rfl ?_)
    | refine CallG.mk ?_
    | (refine CondF.mk (fun hb => ?_) (fun hb => ?_) <;> try simp only [forall_const, eq_self, not_true_eq_false, not_false_eq_true, or_false, false_or, or_self, or_true, true_or, and_true, true_and, and_false, false_and, decide_true, decide_false, Bool.not_true, Bool.not_false, decide_eq_true_eq, decide_eq_false_iff_not, ite_and_p, ite_or_p, Bool.decide_eq_true, Bool.and_eq_true, Bool.or_eq_true, Bool.not_eq_true', Bool.not_eq_false', Bool.and_eq_false_imp, Bool.or_eq_false_iff, bne_iff_ne, beq_iff_eq, bne_eq_false_iff_eq, beq_eq_false_iff_ne, gt_iff_lt, ge_iff_le, Int.not_lt, Int.not_le, ne_eq, Bool.true_eq_false, Bool.false_eq_true, reduceCtorEq, eta_Airway, eta_Fan, eta_Mine] at hb)
    | refine RetF.auto (And.intro rfl ?_)
    | exact Is.mk rfl rfl
    | refine Is.mk ?_ rfl
    | refine Is.mk rfl ?_
    | refine Is.mk ?_ ?_
--@fn impl.firstIn
theorem firstB2 (low high : Int) (f : Nat) (c1 c2 : List PV) (p : Int → Bool) (hf : ∀ x, low ≤ x → x ≤ high → FnSem Tryz.prog f [In x, .p .any (.ref c1), .p .any (.ref c2)] [] (Is [Bo (p x)] [])) (hn : -1152921504606846976 ≤ low ∧ low ≤ high + 1 ∧ high ≤ 1152921504606846976) : FnSem Tryz.prog 100 [In low, In high, .p .any (.fn f [.ref c1, .ref c2])] [] (Is [In (binI p low high), Bo (decide (binI p low high ≤ high))] []) := by
  have hs := (binN_p (p := fun k => p (low + k)) (high - low + 1).toNat 0 (high - low + 1) (by omega) (by omega))
  refine FnSem.walk (zs := zeroPV Tryz.prog) (by kernel_rfl) Tryz.func100 rfl Tryz.results100 (by kernel_rfl) (by kernel_rfl) (by kernel_rfl) fun hw hh => ?_
  obtain ⟨w0, w1, w2, _⟩ := hw
  first | replace w0 := wf_I w0 | skip
  first | replace w1 := wf_I w1 | skip
  repeat' first
    | refine And.intro rfl ?_
    | refine GdF.mk (fun h => h) ?_
    | refine And.intro (Nat.succ_ne_zero _) ?_
    | refine And.intro (Nat.le_of_ble_eq_true rfl) ?_
    | refine SeqF.run ?_
    | refine ArgF.is (searchB2 _ _ _ _ (fun k => p (low + k)) (fun k h0 h1 => firstB2_1 k low f c1 c2 p (hf _ (by omega) (by omega)) (by omega)) (by omega)) ?_
    | refine ArgQ.is (fun hG => searchB2 _ _ _ _ (fun k => p (low + k)) (fun k h0 h1 => firstB2_1 k low f c1 c2 p (hf _ (by omega) (by omega)) (by omega)) (by omega)) rfl rfl ?_
    | refine GhF.go ?_
    | refine BndF.mk (fun _ => by omega) ?_
    | refine BndF.mk (fun _ => by simp only [lnS]; omega) ?_
    | refine EqI.mk _ (fun _ => wrapI (by omega) (by omega)) ?_
    | refine EqI.mk _ (fun _ => rfl) ?_
    | refine EqL.mk [] rfl ?_
    | refine EqL.mk [_] rfl ?_
    | refine EqL.mk _ rfl ?_
    | refine ArgF.is (c_sort_Search _ _ _ _ _ (by first | assumption | omega) (by first | assumption | omega) (by first | assumption | omega)) ?_
    | refine ArgQ.is (fun hG => c_sort_Search _ _ _ _ _ (by first | assumption | omega) (by first | assumption | omega) (by first | assumption | omega)) rfl rfl ?_
    | refine CallF.mk (CallW.is [] true rfl ?_)
    | refine CallG.mk ?_
    | (refine CondF.mk (fun hb => ?_) (fun hb => ?_) <;> try simp only [forall_const, eq_self, not_true_eq_false, not_false_eq_true, or_false, false_or, or_self, or_true, true_or, and_true, true_and, and_false, false_and, decide_true, decide_false, Bool.not_true, Bool.not_false, decide_eq_true_eq, decide_eq_false_iff_not, ite_and_p, ite_or_p, Bool.decide_eq_true, Bool.and_eq_true, Bool.or_eq_true, Bool.not_eq_true', Bool.not_eq_false', Bool.and_eq_false_imp, Bool.or_eq_false_iff, bne_iff_ne, beq_iff_eq, bne_eq_false_iff_eq, beq_eq_false_iff_ne, gt_iff_lt, ge_iff_le, Int.not_lt, Int.not_le, ne_eq, Bool.true_eq_false, Bool.false_eq_true, reduceCtorEq, eta_Airway, eta_Fan, eta_Mine] at hb)
    | refine RetF.auto (And.intro rfl ?_)
    | exact Is.mk rfl rfl
    | refine Is.mk ?_ rfl
    | refine Is.mk rfl ?_
    | refine Is.mk ?_ ?_
  all_goals try dsimp only
  all_goals try simp only [Bo, I, OB.row.injEq, AV.osl.injEq, eI_same,  List.cons.injEq, AV.p.injEq, PV.c.injEq, Value.int.injEq, Value.bool.injEq, and_true, true_and, ite_and_p, ite_or_p, Bool.decide_eq_true, eta_Airway, eta_Fan, eta_Mine]
  · refine ⟨rfl, ?_⟩; rw [decide_eq_decide]; unfold binI; omega
--@fn impl.firstIn$1
theorem firstB3_1 (k low : Int) (f : Nat) (c1 c2 c3 : List PV) (p : Int → Bool) (hf : FnSem Tryz.prog f [In (low + k), .p .any (.ref c1), .p .any (.ref c2), .p .any (.ref c3)] [] (Is [Bo (p (low + k))] [])) (hk : -4611686018427387904 ≤ low + k ∧ low + k ≤ 4611686018427387904) : FnSem Tryz.prog 126 [In k, .p .any (.ref [.fn f [.ref c1, .ref c2, .ref c3]]), .p .any (.ref [.c (.int .i64 low)])] [] (Is [Bo (p (low + k))] []) := by
  refine FnSem.walk (zs := zeroPV Tryz.prog) (by kernel_rfl) Tryz.func126 rfl Tryz.results126 (by kernel_rfl) (by kernel_rfl) (by kernel_rfl) fun hw hh => ?_
  obtain ⟨w0, w1, w2, _⟩ := hw
  first | replace w0 := wf_I w0 | skip
  first | replace w1 := wf_I w1 | replace w1 := wf_Y w1 | replace w1 := wf_S w1 | replace w1 := wf_LI w1 | replace w1 := wf_LY w1 | replace w1 := wf_LLI w1 | replace w1 := wf_Ls w1 | skip
  first | replace w2 := wf_I w2 | replace w2 := wf_Y w2 | replace w2 := wf_S w2 | replace w2 := wf_LI w2 | replace w2 := wf_LY w2 | replace w2 := wf_LLI w2 | replace w2 := wf_Ls w2 | skip
  repeat' first
    | refine And.intro rfl ?_
    | refine GdF.mk (fun h => h) ?_
    | refine And.intro (Nat.succ_ne_zero _) ?_
    | refine And.intro (Nat.le_of_ble_eq_true rfl) ?_
    | refine SeqF.run ?_
    | refine ArgF.is (hf) ?_
    | refine ArgQ.is (fun hG => hf) rfl rfl ?_
    | refine GhF.go ?_
    | refine EqI.mk _ (fun _ => wrapI (by omega) (by omega)) ?_
    | refine EqI.mk _ (fun _ => rfl) ?_
    | refine CallF.mk (CallW.is [] true rfl ?_)
    | refine CallG.mk ?_
    | (refine CondF.mk (fun hb => ?_) (fun hb => ?_) <;> try simp only [forall_const, eq_self, not_true_eq_false, not_false_eq_true, or_false, false_or, or_self, or_true, true_or, and_true, true_and, and_false, false_and, decide_true, decide_false, Bool.not_true, Bool.not_false, decide_eq_true_eq, decide_eq_false_iff_not, ite_and_p, ite_or_p, Bool.decide_eq_true, Bool.and_eq_true, Bool.or_eq_true, Bool.not_eq_true', Bool.not_eq_false', Bool.and_eq_false_imp, Bool.or_eq_false_iff, bne_iff_ne, beq_iff_eq, bne_eq_false_iff_eq, beq_eq_false_iff_ne, gt_iff_lt, ge_iff_le, Int.not_lt, Int.not_le, ne_eq, Bool.true_eq_false, Bool.false_eq_true, reduceCtorEq, eta_Airway, eta_Fan, eta_Mine] at hb)
    | refine RetF.auto (And.intro rfl ?_)
    | exact Is.mk rfl rfl
    | refine Is.mk ?_ rfl
    | refine Is.mk rfl ?_
    | refine Is.mk ?_ ?_
--@fn impl.firstIn
theorem firstB3 (low high : Int) (f : Nat) (c1 c2 c3 : List PV) (p : Int → Bool) (hf : ∀ x, low ≤ x → x ≤ high → FnSem Tryz.prog f [In x, .p .any (.ref c1), .p .any (.ref c2), .p .any (.ref c3)] [] (Is [Bo (p x)] [])) (hn : -1152921504606846976 ≤ low ∧ low ≤ high + 1 ∧ high ≤ 1152921504606846976) : FnSem Tryz.prog 100 [In low, In high, .p .any (.fn f [.ref c1, .ref c2, .ref c3])] [] (Is [In (binI p low high), Bo (decide (binI p low high ≤ high))] []) := by
  have hs := (binN_p (p := fun k => p (low + k)) (high - low + 1).toNat 0 (high - low + 1) (by omega) (by omega))
  refine FnSem.walk (zs := zeroPV Tryz.prog) (by kernel_rfl) Tryz.func100 rfl Tryz.results100 (by kernel_rfl) (by kernel_rfl) (by kernel_rfl) fun hw hh => ?_
  obtain ⟨w0, w1, w2, _⟩ := hw
  first | replace w0 := wf_I w0 | skip
  first | replace w1 := wf_I w1 | skip
  repeat' first
    | refine And.intro rfl ?_
    | refine GdF.mk (fun h => h) ?_
    | refine And.intro (Nat.succ_ne_zero _) ?_
    | refine And.intro (Nat.le_of_ble_eq_true rfl) ?_
    | refine SeqF.run ?_
    | refine ArgF.is (searchB2 _ _ _ _ (fun k => p (low + k)) (fun k h0 h1 => firstB3_1 k low f c1 c2 c3 p (hf _ (by omega) (by omega)) (by omega)) (by omega)) ?_
    | refine ArgQ.is (fun hG => searchB2 _ _ _ _ (fun k => p (low + k)) (fun k h0 h1 => firstB3_1 k low f c1 c2 c3 p (hf _ (by omega) (by omega)) (by omega)) (by omega)) rfl rfl ?_
    | refine GhF.go ?_
    | refine BndF.mk (fun _ => by omega) ?_
    | refine BndF.mk (fun _ => by simp only [lnS]; omega) ?_
    | refine EqI.mk _ (fun _ => wrapI (by omega) (by omega)) ?_
    | refine EqI.mk _ (fun _ => rfl) ?_
    | refine EqL.mk [] rfl ?_
    | refine EqL.mk [_] rfl ?_
    | refine EqL.mk _ rfl ?_
    | refine ArgF.is (c_sort_Search _ _ _ _ _ (by first | assumption | omega) (by first | assumption | omega) (by first | assumption | omega)) ?_
    | refine ArgQ.is (fun hG => c_sort_Search _ _ _ _ _ (by first | assumption | omega) (by first | assumption | omega) (by first | assumption | omega)) rfl rfl ?_
    | refine CallF.mk (CallW.is [] true rfl ?_)
    | refine CallG.mk ?_
    | (refine CondF.mk (fun hb => ?_) (fun hb => ?_) <;> try simp only [forall_const, eq_self, not_true_eq_false, not_false_eq_true, or_false, false_or, or_self, or_true, true_or, and_true, true_and, and_false, false_and, decide_true, decide_false, Bool.not_true, Bool.not_false, decide_eq_true_eq, decide_eq_false_iff_not, ite_and_p, ite_or_p, Bool.decide_eq_true, Bool.and_eq_true, Bool.or_eq_true, Bool.not_eq_true', Bool.not_eq_false', Bool.and_eq_false_imp, Bool.or_eq_false_iff, bne_iff_ne, beq_iff_eq, bne_eq_false_iff_eq, beq_eq_false_iff_ne, gt_iff_lt, ge_iff_le, Int.not_lt, Int.not_le, ne_eq, Bool.true_eq_false, Bool.false_eq_true, reduceCtorEq, eta_Airway, eta_Fan, eta_Mine] at hb)
    | refine RetF.auto (And.intro rfl ?_)
    | exact Is.mk rfl rfl
    | refine Is.mk ?_ rfl
    | refine Is.mk rfl ?_
    | refine Is.mk ?_ ?_
  all_goals try dsimp only
  all_goals try simp only [Bo, I, OB.row.injEq, AV.osl.injEq, eI_same,  List.cons.injEq, AV.p.injEq, PV.c.injEq, Value.int.injEq, Value.bool.injEq, and_true, true_and, ite_and_p, ite_or_p, Bool.decide_eq_true, eta_Airway, eta_Fan, eta_Mine]
  · refine ⟨rfl, ?_⟩; rw [decide_eq_decide]; unfold binI; omega
--@fn impl.firstIn$1
theorem firstB4_1 (k low : Int) (f : Nat) (c1 c2 c3 c4 : List PV) (p : Int → Bool) (hf : FnSem Tryz.prog f [In (low + k), .p .any (.ref c1), .p .any (.ref c2), .p .any (.ref c3), .p .any (.ref c4)] [] (Is [Bo (p (low + k))] [])) (hk : -4611686018427387904 ≤ low + k ∧ low + k ≤ 4611686018427387904) : FnSem Tryz.prog 126 [In k, .p .any (.ref [.fn f [.ref c1, .ref c2, .ref c3, .ref c4]]), .p .any (.ref [.c (.int .i64 low)])] [] (Is [Bo (p (low + k))] []) := by
  refine FnSem.walk (zs := zeroPV Tryz.prog) (by kernel_rfl) Tryz.func126 rfl Tryz.results126 (by kernel_rfl) (by kernel_rfl) (by kernel_rfl) fun hw hh => ?_
  obtain ⟨w0, w1, w2, _⟩ := hw
  first | replace w0 := wf_I w0 | skip
  first | replace w1 := wf_I w1 | replace w1 := wf_Y w1 | replace w1 := wf_S w1 | replace w1 := wf_LI w1 | replace w1 := wf_LY w1 | replace w1 := wf_LLI w1 | replace w1 := wf_Ls w1 | skip
  first | replace w2 := wf_I w2 | replace w2 := wf_Y w2 | replace w2 := wf_S w2 | replace w2 := wf_LI w2 | replace w2 := wf_LY w2 | replace w2 := wf_LLI w2 | replace w2 := wf_Ls w2 | skip
  repeat' first
    | refine And.intro rfl ?_
    | refine GdF.mk (fun h => h) ?_
    | refine And.intro (Nat.succ_ne_zero _) ?_
    | refine And.intro (Nat.le_of_ble_eq_true rfl) ?_
    | refine SeqF.run ?_
    | refine ArgF.is (hf) ?_
    | refine ArgQ.is (fun hG => hf) rfl rfl ?_
    | refine GhF.go ?_
    | refine EqI.mk _ (fun _ => wrapI (by omega) (by omega)) ?_
    | refine EqI.mk _ (fun _ => rfl) ?_
    | refine CallF.mk (CallW.is [] true rfl ?_)
    | refine CallG.mk ?_
    | (refine CondF.mk (fun hb => ?_) (fun hb => ?_) <;> try simp only [forall_const, eq_self, not_true_eq_false, not_false_eq_true, or_false, false_or, or_self, or_true, true_or, and_true, true_and, and_false, false_and, decide_true, decide_false, Bool.not_true, Bool.not_false, decide_eq_true_eq, decide_eq_false_iff_not, ite_and_p, ite_or_p, Bool.decide_eq_true, Bool.and_eq_true, Bool.or_eq_true, Bool.not_eq_true', Bool.not_eq_false', Bool.and_eq_false_imp, Bool.or_eq_false_iff, bne_iff_ne, beq_iff_eq, bne_eq_false_iff_eq, beq_eq_false_iff_ne, gt_iff_lt, ge_iff_le, Int.not_lt, Int.not_le, ne_eq, Bool.true_eq_false, Bool.false_eq_true, reduceCtorEq, eta_Airway, eta_Fan, eta_Mine] at hb)
    | refine RetF.auto (And.intro rfl ?_)
    | exact Is.mk rfl rfl
    | refine Is.mk ?_ rfl
    | refine Is.mk rfl ?_
    | refine Is.mk ?_ ?_
--@fn impl.firstIn
theorem firstB4 (low high : Int) (f : Nat) (c1 c2 c3 c4 : List PV) (p : Int → Bool) (hf : ∀ x, low ≤ x → x ≤ high → FnSem Tryz.prog f [In x, .p .any (.ref c1), .p .any (.ref c2), .p .any (.ref c3), .p .any (.ref c4)] [] (Is [Bo (p x)] [])) (hn : -1152921504606846976 ≤ low ∧ low ≤ high + 1 ∧ high ≤ 1152921504606846976) : FnSem Tryz.prog 100 [In low, In high, .p .any (.fn f [.ref c1, .ref c2, .ref c3, .ref c4])] [] (Is [In (binI p low high), Bo (decide (binI p low high ≤ high))] []) := by
  have hs := (binN_p (p := fun k => p (low + k)) (high - low + 1).toNat 0 (high - low + 1) (by omega) (by omega))
  refine FnSem.walk (zs := zeroPV Tryz.prog) (by kernel_rfl) Tryz.func100 rfl Tryz.results100 (by kernel_rfl) (by kernel_rfl) (by kernel_rfl) fun hw hh => ?_
  obtain ⟨w0, w1, w2, _⟩ := hw
  first | replace w0 := wf_I w0 | skip
  first | replace w1 := wf_I w1 | skip
  repeat' first
    | refine And.intro rfl ?_
    | refine GdF.mk (fun h => h) ?_
    | refine And.intro (Nat.succ_ne_zero _) ?_
    | refine And.intro (Nat.le_of_ble_eq_true rfl) ?_
    | refine SeqF.run ?_
    | refine ArgF.is (searchB2 _ _ _ _ (fun k => p (low + k)) (fun k h0 h1 => firstB4_1 k low f c1 c2 c3 c4 p (hf _ (by omega) (by omega)) (by omega)) (by omega)) ?_
    | refine ArgQ.is (fun hG => searchB2 _ _ _ _ (fun k => p (low + k)) (fun k h0 h1 => firstB4_1 k low f c1 c2 c3 c4 p (hf _ (by omega) (by omega)) (by omega)) (by omega)) rfl rfl ?_
    | refine GhF.go ?_
    | refine BndF.mk (fun _ => by omega) ?_
    | refine BndF.mk (fun _ => by simp only [lnS]; omega) ?_
    | refine EqI.mk _ (fun _ => wrapI (by omega) (by omega)) ?_
    | refine EqI.mk _ (fun _ => rfl) ?_
    | refine EqL.mk [] rfl ?_
    | refine EqL.mk [_] rfl ?_
    | refine EqL.mk _ rfl ?_
    | refine ArgF.is (c_sort_Search _ _ _ _ _ (by first | assumption | omega) (by first | assumption | omega) (by first | assumption | omega)) ?_
    | refine ArgQ.is (fun hG => c_sort_Search _ _ _ _ _ (by first | assumption | omega) (by first | assumption | omega) (by first | assumption | omega)) rfl rfl ?_
    | refine CallF.mk (CallW.is [] true rfl ?_)
    | refine CallG.mk ?_
    | (refine CondF.mk (fun hb => ?_) (fun hb => ?_) <;> try simp only [forall_const, eq_self, not_true_eq_false, not_false_eq_true, or_false, false_or, or_self, or_true, true_or, and_true, true_and, and_false, false_and, decide_true, decide_false, Bool.not_true, Bool.not_false, decide_eq_true_eq, decide_eq_false_iff_not, ite_and_p, ite_or_p, Bool.decide_eq_true, Bool.and_eq_true, Bool.or_eq_true, Bool.not_eq_true', Bool.not_eq_false', Bool.and_eq_false_imp, Bool.or_eq_false_iff, bne_iff_ne, beq_iff_eq, bne_eq_false_iff_eq, beq_eq_false_iff_ne, gt_iff_lt, ge_iff_le, Int.not_lt, Int.not_le, ne_eq, Bool.true_eq_false, Bool.false_eq_true, reduceCtorEq, eta_Airway, eta_Fan, eta_Mine] at hb)
    | refine RetF.auto (And.intro rfl ?_)
    | exact Is.mk rfl rfl
    | refine Is.mk ?_ rfl
    | refine Is.mk rfl ?_
    | refine Is.mk ?_ ?_
  all_goals try dsimp only
  all_goals try simp only [Bo, I, OB.row.injEq, AV.osl.injEq, eI_same,  List.cons.injEq, AV.p.injEq, PV.c.injEq, Value.int.injEq, Value.bool.injEq, and_true, true_and, ite_and_p, ite_or_p, Bool.decide_eq_true, eta_Airway, eta_Fan, eta_Mine]
  · refine ⟨rfl, ?_⟩; rw [decide_eq_decide]; unfold binI; omega
--@fn impl.firstIn$1
theorem firstB5_1 (k low : Int) (f : Nat) (c1 c2 c3 c4 c5 : List PV) (p : Int → Bool) (hf : FnSem Tryz.prog f [In (low + k), .p .any (.ref c1), .p .any (.ref c2), .p .any (.ref c3), .p .any (.ref c4), .p .any (.ref c5)] [] (Is [Bo (p (low + k))] [])) (hk : -4611686018427387904 ≤ low + k ∧ low + k ≤ 4611686018427387904) : FnSem Tryz.prog 126 [In k, .p .any (.ref [.fn f [.ref c1, .ref c2, .ref c3, .ref c4, .ref c5]]), .p .any (.ref [.c (.int .i64 low)])] [] (Is [Bo (p (low + k))] []) := by
  refine FnSem.walk (zs := zeroPV Tryz.prog) (by kernel_rfl) Tryz.func126 rfl Tryz.results126 (by kernel_rfl) (by kernel_rfl) (by kernel_rfl) fun hw hh => ?_
  obtain ⟨w0, w1, w2, _⟩ := hw
  first | replace w0 := wf_I w0 | skip
  first | replace w1 := wf_I w1 | replace w1 := wf_Y w1 | replace w1 := wf_S w1 | replace w1 := wf_LI w1 | replace w1 := wf_LY w1 | replace w1 := wf_LLI w1 | replace w1 := wf_Ls w1 | skip
  first | replace w2 := wf_I w2 | replace w2 := wf_Y w2 | replace w2 := wf_S w2 | replace w2 := wf_LI w2 | replace w2 := wf_LY w2 | replace w2 := wf_LLI w2 | replace w2 := wf_Ls w2 | skip
  repeat' first
    | refine And.intro rfl ?_
    | refine GdF.mk (fun h => h) ?_
    | refine And.intro (Nat.succ_ne_zero _) ?_
    | refine And.intro (Nat.le_of_ble_eq_true rfl) ?_
    | refine SeqF.run ?_
    | refine ArgF.is (hf) ?_
    | refine ArgQ.is (fun hG => hf) rfl rfl ?_
    | refine GhF.go ?_
    | refine EqI.mk _ (fun _ => wrapI (by omega) (by omega)) ?_
    | refine EqI.mk _ (fun _ => rfl) ?_
    | refine CallF.mk (CallW.is [] true rfl ?_)
    | refine CallG.mk ?_
    | (refine CondF.mk (fun hb => ?_) (fun hb => ?_) <;> try simp only [forall_const, eq_self, not_true_eq_false, not_false_eq_true, or_false, false_or, or_self, or_true, true_or, and_true, true_and, and_false, false_and, decide_true, decide_false, Bool.not_true, Bool.not_false, decide_eq_true_eq, decide_eq_false_iff_not, ite_and_p, ite_or_p, Bool.decide_eq_true, Bool.and_eq_true, Bool.or_eq_true, Bool.not_eq_true', Bool.not_eq_false', Bool.and_eq_false_imp, Bool.or_eq_false_iff, bne_iff_ne, beq_iff_eq, bne_eq_false_iff_eq, beq_eq_false_iff_ne, gt_iff_lt, ge_iff_le, Int.not_lt, Int.not_le, ne_eq, Bool.true_eq_false, Bool.false_eq_true, reduceCtorEq, eta_Airway, eta_Fan, eta_Mine] at hb)
    | refine RetF.auto (And.intro rfl ?_)
    | exact Is.mk rfl rfl
    | refine Is.mk ?_ rfl
    | refine Is.mk rfl ?_
    | refine Is.mk ?_ ?_
--@fn impl.firstIn
theorem firstB5 (low high : Int) (f : Nat) (c1 c2 c3 c4 c5 : List PV) (p : Int → Bool) (hf : ∀ x, low ≤ x → x ≤ high → FnSem Tryz.prog f [In x, .p .any (.ref c1), .p .any (.ref c2), .p .any (.ref c3), .p .any (.ref c4), .p .any (.ref c5)] [] (Is [Bo (p x)] [])) (hn : -1152921504606846976 ≤ low ∧ low ≤ high + 1 ∧ high ≤ 1152921504606846976) : FnSem Tryz.prog 100 [In low, In high, .p .any (.fn f [.ref c1, .ref c2, .ref c3, .ref c4, .ref c5])] [] (Is [In (binI p low high), Bo (decide (binI p low high ≤ high))] []) := by
  have hs := (binN_p (p := fun k => p (low + k)) (high - low + 1).toNat 0 (high - low + 1) (by omega) (by omega))
  refine FnSem.walk (zs := zeroPV Tryz.prog) (by kernel_rfl) Tryz.func100 rfl Tryz.results100 (by kernel_rfl) (by kernel_rfl) (by kernel_rfl) fun hw hh => ?_
  obtain ⟨w0, w1, w2, _⟩ := hw
  first | replace w0 := wf_I w0 | skip
  first | replace w1 := wf_I w1 | skip
  repeat' first
    | refine And.intro rfl ?_
    | refine GdF.mk (fun h => h) ?_
    | refine And.intro (Nat.succ_ne_zero _) ?_
    | refine And.intro (Nat.le_of_ble_eq_true rfl) ?_
    | refine SeqF.run ?_
    | refine ArgF.is (searchB2 _ _ _ _ (fun k => p (low + k)) (fun k h0 h1 => firstB5_1 k low f c1 c2 c3 c4 c5 p (hf _ (by omega) (by omega)) (by omega)) (by omega)) ?_
    | refine ArgQ.is (fun hG => searchB2 _ _ _ _ (fun k => p (low + k)) (fun k h0 h1 => firstB5_1 k low f c1 c2 c3 c4 c5 p (hf _ (by omega) (by omega)) (by omega)) (by omega)) rfl rfl ?_
    | refine GhF.go ?_
    | refine BndF.mk (fun _ => by omega) ?_
    | refine BndF.mk (fun _ => by simp only [lnS]; omega) ?_
    | refine EqI.mk _ (fun _ => wrapI (by omega) (by omega)) ?_
    | refine EqI.mk _ (fun _ => rfl) ?_
    | refine EqL.mk [] rfl ?_
    | refine EqL.mk [_] rfl ?_
    | refine EqL.mk _ rfl ?_
    | refine ArgF.is (c_sort_Search _ _ _ _ _ (by first | assumption | omega) (by first | assumption | omega) (by first | assumption | omega)) ?_
    | refine ArgQ.is (fun hG => c_sort_Search _ _ _ _ _ (by first | assumption | omega) (by first | assumption | omega) (by first | assumption | omega)) rfl rfl ?_
    | refine CallF.mk (CallW.is [] true rfl ?_)
    | refine CallG.mk ?_
    | (refine CondF.mk (fun hb => ?_) (fun hb => ?_) <;> try simp only [forall_const, eq_self, not_true_eq_false, not_false_eq_true, or_false, false_or, or_self, or_true, true_or, and_true, true_and, and_false, false_and, decide_true, decide_false, Bool.not_true, Bool.not_false, decide_eq_true_eq, decide_eq_false_iff_not, ite_and_p, ite_or_p, Bool.decide_eq_true, Bool.and_eq_true, Bool.or_eq_true, Bool.not_eq_true', Bool.not_eq_false', Bool.and_eq_false_imp, Bool.or_eq_false_iff, bne_iff_ne, beq_iff_eq, bne_eq_false_iff_eq, beq_eq_false_iff_ne, gt_iff_lt, ge_iff_le, Int.not_lt, Int.not_le, ne_eq, Bool.true_eq_false, Bool.false_eq_true, reduceCtorEq, eta_Airway, eta_Fan, eta_Mine] at hb)
    | refine RetF.auto (And.intro rfl ?_)
    | exact Is.mk rfl rfl
    | refine Is.mk ?_ rfl
    | refine Is.mk rfl ?_
    | refine Is.mk ?_ ?_
  all_goals try dsimp only
  all_goals try simp only [Bo, I, OB.row.injEq, AV.osl.injEq, eI_same,  List.cons.injEq, AV.p.injEq, PV.c.injEq, Value.int.injEq, Value.bool.injEq, and_true, true_and, ite_and_p, ite_or_p, Bool.decide_eq_true, eta_Airway, eta_Fan, eta_Mine]
  · refine ⟨rfl, ?_⟩; rw [decide_eq_decide]; unfold binI; omega
end Go.Proofs.YtdhkpmaanegjkaaGreatDoor
