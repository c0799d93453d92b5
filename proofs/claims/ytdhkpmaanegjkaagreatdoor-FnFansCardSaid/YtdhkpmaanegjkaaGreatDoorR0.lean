/- Contracts of functions of the program, and what they compute. Conditions: those that each theorem states. -/
import Derived.Test.YtdhkpmaanegjkaaGreatDoorProg
import Derived.Test.YtdhkpmaanegjkaaGreatDoorJ0
set_option linter.unusedVariables false
set_option linter.unusedSimpArgs false
namespace Go.Proofs.YtdhkpmaanegjkaaGreatDoor
open Go.Av
attribute [local irreducible] Go.IntKind.wrap
set_option maxRecDepth 20000
set_option maxHeartbeats 2000000
theorem wrapU {n : Int} (h1 : 0 ≤ n) (h2 : n ≤ 18446744073709551615) : IntKind.u64.wrap n = n := (wrap_eq_iff .u64 n).2 ⟨h1, h2⟩
theorem shr1 {k : IntKind} {x : Int} : x.fdiv (2 ^ (min (Int.toNat 1) k.bits)) = x / 2 := by
  have : min (Int.toNat 1) k.bits = 1 := by cases k <;> rfl
  rw [this, Int.fdiv_eq_ediv_of_nonneg _ (by omega)]; rfl
def leastI (p : Int → Bool) (lo hi : Int) : Int := match (List.range (hi - lo + 1).toNat).find? fun (k : Nat) => p (lo + (k : Int)) with
  | some k => lo + (k : Int)
  | none => hi + 1
theorem leastI_at {p : Int → Bool} {lo hi n : Int} (h0 : lo ≤ n) (h1 : n ≤ hi) (h2 : p n = true) (h3 : ∀ m, lo ≤ m → m < n → p m = false) : leastI p lo hi = n := by
  have e : (List.range (hi - lo + 1).toNat).find? (fun (k : Nat) => p (lo + (k : Int))) = some (n - lo).toNat := by
    rw [List.find?_range_eq_some]
    refine ⟨by rw [show lo + ((n - lo).toNat : Int) = n by omega]; exact h2, by simp; omega, fun j hj => ?_⟩
    rw [h3 (lo + j) (by omega) (by omega)]; rfl
  unfold leastI; rw [e]; simp; omega
theorem leastI_no {p : Int → Bool} {lo hi : Int} (h3 : ∀ m, lo ≤ m → m ≤ hi → p m = false) : leastI p lo hi = hi + 1 := by
  have e : (List.range (hi - lo + 1).toNat).find? (fun (k : Nat) => p (lo + (k : Int))) = none := by
    rw [List.find?_range_eq_none]
    intro j hj
    rw [h3 (lo + j) (by omega) (by omega)]; rfl
  unfold leastI; rw [e]
theorem leastI_hit {p : Int → Bool} {lo hi : Int} (h : leastI p lo hi ≤ hi) (h0 : lo ≤ hi + 1) : lo ≤ leastI p lo hi ∧ p (leastI p lo hi) = true ∧ ∀ m, lo ≤ m → m < leastI p lo hi → p m = false := by
  unfold leastI at *
  split at h
  · rename_i k hk
    rw [List.find?_range_eq_some] at hk
    refine ⟨by omega, hk.1, fun m h1 h2 => ?_⟩
    have := hk.2.2 (m - lo).toNat (by omega)
    rw [show lo + ((m - lo).toNat : Int) = m by omega] at this
    simpa using this
  · omega
theorem leastI_r {p : Int → Bool} {lo hi : Int} (h0 : lo ≤ hi + 1) : lo ≤ leastI p lo hi ∧ leastI p lo hi ≤ hi + 1 := by
  unfold leastI; split
  · rename_i k hk; have := List.mem_of_find?_eq_some hk; simp at this; omega
  · omega
theorem leastI_none {p : Int → Bool} {lo hi : Int} (h : ¬leastI p lo hi ≤ hi) : ∀ m, lo ≤ m → m ≤ hi → p m = false := by
  intro m a b
  unfold leastI at h
  split at h
  · rename_i j hj; have := List.mem_of_find?_eq_some hj; simp at this; omega
  · rename_i hj
    have := (List.find?_range_eq_none.1 hj) (m - lo).toNat (by omega)
    rw [show lo + ((m - lo).toNat : Int) = m by omega] at this
    simpa using this
theorem leastI_shift {p : Int → Bool} {lo hi : Int} (h : lo ≤ hi) : lo + leastI (fun k => p (lo + k)) 0 (hi - lo + 1 - 1) = leastI p lo hi := by
  unfold leastI
  rw [show hi - lo + 1 - 1 - 0 + 1 = hi - lo + 1 by omega]
  simp only [Int.zero_add]
  split <;> omega
attribute [local irreducible] leastI
theorem c_sort_Search (n : Int) (f : Nat) (c1 c2 : List PV) (p : Int → Bool) (hf : ∀ x, 0 ≤ x → x < n → FnSem Tryz.prog f [In x, .p .any (.ref c1), .p .any (.ref c2)] [] (Is [Bo (p x)] [])) (hn : 0 ≤ n ∧ n ≤ 4611686018427387904) (hm : ∀ a b, 0 ≤ a → a ≤ b → b < n → p a = true → p b = true) : FnSem Tryz.prog 125 [In n, .p .any (.fn f [.ref c1, .ref c2])] [] (Is [In (leastI p 0 (n - 1))] []) := by
  refine FnSem.walk (zs := zeroPV Tryz.prog) (by kernel_rfl) Tryz.func125 rfl Tryz.results125 (by kernel_rfl) (by kernel_rfl) (by kernel_rfl) fun hw hh => ?_
  obtain ⟨w0, w1, _⟩ := hw
  first | replace w0 := wf_I w0 | skip
  repeat' first
    | refine And.intro rfl ?_
    | refine GdF.mk (fun h => h) ?_
    | refine And.intro (Nat.succ_ne_zero _) ?_
    | refine And.intro (Nat.le_of_ble_eq_true rfl) ?_
    | refine SeqF.run ?_
    | refine EqI.mk _ (fun _ => wrapU (by omega) (by omega)) ?_
    | refine EqI.mk _ (fun _ => shr1) ?_
    | refine ArgF.is (hf _ (by omega) (by omega)) ?_
    | refine ArgQ.is (fun hG => hf _ (by omega) (by omega)) rfl rfl ?_
    | refine LoopF.at 2 rfl (LoopF.fix [1] (Int × Int) (fun (i, j) => 0 ≤ i ∧ i ≤ j ∧ j ≤ n ∧ (∀ m, 0 ≤ m → m < i → p m = false) ∧ (j < n → p j = true)) (fun (i, j) => [(5, In i), (6, In j)]) (fun (i, j) => []) (fun (i, j) => ((j - i).toNat)) ((0, n)) ?_)
    | (refine LoopB.of (T := Int × Int) ?_ ?_; rotate_left; rintro ⟨i, j⟩ ⟨h0, h1, h2, h3, h4⟩; rotate_left)
    | refine GhF.go ?_
    | refine BndF.mk (fun _ => by omega) ?_
    | refine BndF.mk (fun _ => by simp only [lnS]; omega) ?_
    | refine EqI.mk _ (fun _ => wrapI (by omega) (by omega)) ?_
    | refine EqI.mk _ (fun _ => rfl) ?_
    | refine CallF.mk (CallW.is [] true rfl ?_)
    | refine CallG.mk ?_
    | (refine CondF.mk (fun hb => ?_) (fun hb => ?_) <;> try simp only [forall_const, eq_self, not_true_eq_false, not_false_eq_true, or_false, false_or, or_self, or_true, true_or, and_true, true_and, and_false, false_and, decide_true, decide_false, Bool.not_true, Bool.not_false, decide_eq_true_eq, decide_eq_false_iff_not, ite_and_p, ite_or_p, Bool.decide_eq_true, Bool.and_eq_true, Bool.or_eq_true, Bool.not_eq_true', Bool.not_eq_false', Bool.and_eq_false_imp, Bool.or_eq_false_iff, bne_iff_ne, beq_iff_eq, bne_eq_false_iff_eq, beq_eq_false_iff_ne, gt_iff_lt, ge_iff_le, Int.not_lt, Int.not_le, ne_eq, Bool.true_eq_false, Bool.false_eq_true, reduceCtorEq, eta_Airway, eta_Fan, eta_Mine] at hb)
    | apply BackF.auto2
    | refine BackB.mk ?_ ?_
    | refine RetF.auto (And.intro rfl ?_)
    | exact Is.mk rfl rfl
    | refine Is.mk ?_ rfl
    | refine Is.mk rfl ?_
    | refine Is.mk ?_ ?_
  all_goals try dsimp only
  all_goals try simp only [Bo, I, OB.row.injEq, AV.osl.injEq, eI_same,  List.cons.injEq, AV.p.injEq, PV.c.injEq, Value.int.injEq, Value.bool.injEq, and_true, true_and, ite_and_p, ite_or_p, Bool.decide_eq_true, eta_Airway, eta_Fan, eta_Mine]
  · exact ⟨by omega, by omega, by omega, fun m h1 h2 => by omega, fun h => by omega⟩
  · refine ⟨by omega, by omega, h2, fun m a b => ?_, h4⟩
    cases e : p m with
    | false => rfl
    | true => rw [hm m ((i + j) / 2) a (by omega) (by omega) e] at hb; cases hb
  · omega
  · exact ⟨h0, by omega, by omega, h3, fun _ => hb⟩
  · omega
  · by_cases e : j < n
    · exact (leastI_at (by omega) (by omega) (by rw [show i = j by omega]; exact h4 e) fun m a b => h3 m a b).symm
    · rw [leastI_no fun m a b => h3 m a (by omega)]; omega
--@fn sort.Search
theorem search1 (n : Int) (f : Nat) (c1 : List PV) (p : Int → Bool) (hf : ∀ x, 0 ≤ x → x < n → FnSem Tryz.prog f [In x, .p .any (.ref c1)] [] (Is [Bo (p x)] [])) (hn : 0 ≤ n ∧ n ≤ 4611686018427387904) (hm : ∀ a b, 0 ≤ a → a ≤ b → b < n → p a = true → p b = true) : FnSem Tryz.prog 125 [In n, .p .any (.fn f [.ref c1])] [] (Is [In (leastI p 0 (n - 1))] []) := by
  refine FnSem.walk (zs := zeroPV Tryz.prog) (by kernel_rfl) Tryz.func125 rfl Tryz.results125 (by kernel_rfl) (by kernel_rfl) (by kernel_rfl) fun hw hh => ?_
  obtain ⟨w0, w1, _⟩ := hw
  first | replace w0 := wf_I w0 | skip
  repeat' first
    | refine And.intro rfl ?_
    | refine GdF.mk (fun h => h) ?_
    | refine And.intro (Nat.succ_ne_zero _) ?_
    | refine And.intro (Nat.le_of_ble_eq_true rfl) ?_
    | refine SeqF.run ?_
    | refine EqI.mk _ (fun _ => wrapU (by omega) (by omega)) ?_
    | refine EqI.mk _ (fun _ => shr1) ?_
    | refine ArgF.is (hf _ (by omega) (by omega)) ?_
    | refine ArgQ.is (fun hG => hf _ (by omega) (by omega)) rfl rfl ?_
    | refine LoopF.at 2 rfl (LoopF.fix [1] (Int × Int) (fun (i, j) => 0 ≤ i ∧ i ≤ j ∧ j ≤ n ∧ (∀ m, 0 ≤ m → m < i → p m = false) ∧ (j < n → p j = true)) (fun (i, j) => [(5, In i), (6, In j)]) (fun (i, j) => []) (fun (i, j) => ((j - i).toNat)) ((0, n)) ?_)
    | (refine LoopB.of (T := Int × Int) ?_ ?_; rotate_left; rintro ⟨i, j⟩ ⟨h0, h1, h2, h3, h4⟩; rotate_left)
    | refine GhF.go ?_
    | refine BndF.mk (fun _ => by omega) ?_
    | refine BndF.mk (fun _ => by simp only [lnS]; omega) ?_
    | refine EqI.mk _ (fun _ => wrapI (by omega) (by omega)) ?_
    | refine EqI.mk _ (fun _ => rfl) ?_
    | refine CallF.mk (CallW.is [] true rfl ?_)
    | refine CallG.mk ?_
    | (refine CondF.mk (fun hb => ?_) (fun hb => ?_) <;> try simp only [forall_const, eq_self, not_true_eq_false, not_false_eq_true, or_false, false_or, or_self, or_true, true_or, and_true, true_and, and_false, false_and, decide_true, decide_false, Bool.not_true, Bool.not_false, decide_eq_true_eq, decide_eq_false_iff_not, ite_and_p, ite_or_p, Bool.decide_eq_true, Bool.and_eq_true, Bool.or_eq_true, Bool.not_eq_true', Bool.not_eq_false', Bool.and_eq_false_imp, Bool.or_eq_false_iff, bne_iff_ne, beq_iff_eq, bne_eq_false_iff_eq, beq_eq_false_iff_ne, gt_iff_lt, ge_iff_le, Int.not_lt, Int.not_le, ne_eq, Bool.true_eq_false, Bool.false_eq_true, reduceCtorEq, eta_Airway, eta_Fan, eta_Mine] at hb)
    | apply BackF.auto2
    | refine BackB.mk ?_ ?_
    | refine RetF.auto (And.intro rfl ?_)
    | exact Is.mk rfl rfl
    | refine Is.mk ?_ rfl
    | refine Is.mk rfl ?_
    | refine Is.mk ?_ ?_
  all_goals try dsimp only
  all_goals try simp only [Bo, I, OB.row.injEq, AV.osl.injEq, eI_same,  List.cons.injEq, AV.p.injEq, PV.c.injEq, Value.int.injEq, Value.bool.injEq, and_true, true_and, ite_and_p, ite_or_p, Bool.decide_eq_true, eta_Airway, eta_Fan, eta_Mine]
  · exact ⟨by omega, by omega, by omega, fun m h1 h2 => by omega, fun h => by omega⟩
  · refine ⟨by omega, by omega, h2, fun m a b => ?_, h4⟩
    cases e : p m with
    | false => rfl
    | true => rw [hm m ((i + j) / 2) a (by omega) (by omega) e] at hb; cases hb
  · omega
  · exact ⟨h0, by omega, by omega, h3, fun _ => hb⟩
  · omega
  · by_cases e : j < n
    · exact (leastI_at (by omega) (by omega) (by rw [show i = j by omega]; exact h4 e) fun m a b => h3 m a b).symm
    · rw [leastI_no fun m a b => h3 m a (by omega)]; omega
--@fn impl.firstIn$1
theorem firstIn1_1 (k low : Int) (f : Nat) (c1 : List PV) (p : Int → Bool) (hf : FnSem Tryz.prog f [In (low + k), .p .any (.ref c1)] [] (Is [Bo (p (low + k))] [])) (hk : -4611686018427387904 ≤ low + k ∧ low + k ≤ 4611686018427387904) : FnSem Tryz.prog 126 [In k, .p .any (.ref [.fn f [.ref c1]]), .p .any (.ref [.c (.int .i64 low)])] [] (Is [Bo (p (low + k))] []) := by
  refine FnSem.walk (zs := zeroPV Tryz.prog) (by kernel_rfl) Tryz.func126 rfl Tryz.results126 (by kernel_rfl) (by kernel_rfl) (by kernel_rfl) fun hw hh => ?_
  obtain ⟨w0, w1, w2, _⟩ := hw
  first | replace w0 := wf_I w0 | skip
  first | replace w1 := wf_I w1 | replace w1 := wf_Y w1 | replace w1 := wf_S w1 | replace w1 := wf_LI w1 | replace w1 := wf_LY w1 | replace w1 := wf_LLI w1 | replace w1 := wf_Ls w1 | skip
  first | replace w2 := wf_I w2 | replace w2 := wf_Y w2 | replace w2 := wf_S w2 | replace w2 := wf_LI w2 | replace w2 := wf_LY w2 | replace w2 := wf_LLI w2 | replace w2 := wf_Ls w2 | skip
  repeat' first
    | refine And.intro rfl ?_
    | refine GdF.mk (fun h => h) ?_
    | refine And.intro (Nat.succ_ne_zero _) ?_
    | refine And.intro (Nat.le_of_ble_eq_true rfl) ?_
    | refine SeqF.run ?_
    | refine ArgF.is (hf) ?_
    | refine ArgQ.is (fun hG => hf) rfl rfl ?_
    | refine GhF.go ?_
    | refine EqI.mk _ (fun _ => wrapI (by omega) (by omega)) ?_
    | refine EqI.mk _ (fun _ => rfl) ?_
    | refine CallF.mk (CallW.is [] true rfl ?_)
    | refine CallG.mk ?_
    | (refine CondF.mk (fun hb => ?_) (fun hb => ?_) <;> try simp only [forall_const, eq_self, not_true_eq_false, not_false_eq_true, or_false, false_or, or_self, or_true, true_or, and_true, true_and, and_false, false_and, decide_true, decide_false, Bool.not_true, Bool.not_false, decide_eq_true_eq, decide_eq_false_iff_not, ite_and_p, ite_or_p, Bool.decide_eq_true, Bool.and_eq_true, Bool.or_eq_true, Bool.not_eq_true', Bool.not_eq_false', Bool.and_eq_false_imp, Bool.or_eq_false_iff, bne_iff_ne, beq_iff_eq, bne_eq_false_iff_eq, beq_eq_false_iff_ne, gt_iff_lt, ge_iff_le, Int.not_lt, Int.not_le, ne_eq, Bool.true_eq_false, Bool.false_eq_true, reduceCtorEq, eta_Airway, eta_Fan, eta_Mine] at hb)
    | refine RetF.auto (And.intro rfl ?_)
    | exact Is.mk rfl rfl
    | refine Is.mk ?_ rfl
    | refine Is.mk rfl ?_
    | refine Is.mk ?_ ?_
--@fn impl.firstIn
theorem firstIn1 (low high : Int) (f : Nat) (c1 : List PV) (p : Int → Bool) (hf : ∀ x, low ≤ x → x ≤ high → FnSem Tryz.prog f [In x, .p .any (.ref c1)] [] (Is [Bo (p x)] [])) (hn : -1152921504606846976 ≤ low ∧ low ≤ high ∧ high ≤ 1152921504606846976) (hm : ∀ a b, low ≤ a → a ≤ b → b ≤ high → p a = true → p b = true) : FnSem Tryz.prog 100 [In low, In high, .p .any (.fn f [.ref c1])] [] (Is [In (leastI p low high), Bo (decide (leastI p low high ≤ high))] []) := by
  have hr := leastI_r (p := fun k => p (low + k)) (lo := 0) (hi := high - low + 1 - 1) (by omega)
  have hs := leastI_shift (p := p) hn.2.1
  refine FnSem.walk (zs := zeroPV Tryz.prog) (by kernel_rfl) Tryz.func100 rfl Tryz.results100 (by kernel_rfl) (by kernel_rfl) (by kernel_rfl) fun hw hh => ?_
  obtain ⟨w0, w1, w2, _⟩ := hw
  first | replace w0 := wf_I w0 | skip
  first | replace w1 := wf_I w1 | skip
  repeat' first
    | refine And.intro rfl ?_
    | refine GdF.mk (fun h => h) ?_
    | refine And.intro (Nat.succ_ne_zero _) ?_
    | refine And.intro (Nat.le_of_ble_eq_true rfl) ?_
    | refine SeqF.run ?_
    | refine ArgF.is (c_sort_Search _ _ _ _ (fun k => p (low + k)) (fun k h0 h1 => firstIn1_1 k low f c1 p (hf _ (by omega) (by omega)) (by omega)) (by omega) (fun a b h0 h1 h2 h => hm _ _ (by omega) (by omega) (by omega) h)) ?_
    | refine ArgQ.is (fun hG => c_sort_Search _ _ _ _ (fun k => p (low + k)) (fun k h0 h1 => firstIn1_1 k low f c1 p (hf _ (by omega) (by omega)) (by omega)) (by omega) (fun a b h0 h1 h2 h => hm _ _ (by omega) (by omega) (by omega) h)) rfl rfl ?_
    | refine GhF.go ?_
    | refine BndF.mk (fun _ => by omega) ?_
    | refine BndF.mk (fun _ => by simp only [lnS]; omega) ?_
    | refine EqI.mk _ (fun _ => wrapI (by omega) (by omega)) ?_
    | refine EqI.mk _ (fun _ => rfl) ?_
    | refine EqL.mk [] rfl ?_
    | refine EqL.mk [_] rfl ?_
    | refine EqL.mk _ rfl ?_
    | refine ArgF.is (c_sort_Search _ _ _ _ _ (by first | assumption | omega) (by first | assumption | omega) (by first | assumption | omega)) ?_
    | refine ArgQ.is (fun hG => c_sort_Search _ _ _ _ _ (by first | assumption | omega) (by first | assumption | omega) (by first | assumption | omega)) rfl rfl ?_
    | refine CallF.mk (CallW.is [] true rfl ?_)
    | refine CallG.mk ?_
    | (refine CondF.mk (fun hb => ?_) (fun hb => ?_) <;> try simp only [forall_const, eq_self, not_true_eq_false, not_false_eq_true, or_false, false_or, or_self, or_true, true_or, and_true, true_and, and_false, false_and, decide_true, decide_false, Bool.not_true, Bool.not_false, decide_eq_true_eq, decide_eq_false_iff_not, ite_and_p, ite_or_p, Bool.decide_eq_true, Bool.and_eq_true, Bool.or_eq_true, Bool.not_eq_true', Bool.not_eq_false', Bool.and_eq_false_imp, Bool.or_eq_false_iff, bne_iff_ne, beq_iff_eq, bne_eq_false_iff_eq, beq_eq_false_iff_ne, gt_iff_lt, ge_iff_le, Int.not_lt, Int.not_le, ne_eq, Bool.true_eq_false, Bool.false_eq_true, reduceCtorEq, eta_Airway, eta_Fan, eta_Mine] at hb)
    | refine RetF.auto (And.intro rfl ?_)
    | exact Is.mk rfl rfl
    | refine Is.mk ?_ rfl
    | refine Is.mk rfl ?_
    | refine Is.mk ?_ ?_
  all_goals try dsimp only
  all_goals try simp only [Bo, I, OB.row.injEq, AV.osl.injEq, eI_same,  List.cons.injEq, AV.p.injEq, PV.c.injEq, Value.int.injEq, Value.bool.injEq, and_true, true_and, ite_and_p, ite_or_p, Bool.decide_eq_true, eta_Airway, eta_Fan, eta_Mine]
  · rw [← hs]; refine ⟨rfl, ?_⟩; rw [decide_eq_decide]; omega
--@fn impl.firstIn$1
theorem firstIn2_1 (k low : Int) (f : Nat) (c1 c2 : List PV) (p : Int → Bool) (hf : FnSem Tryz.prog f [In (low + k), .p .any (.ref c1), .p .any (.ref c2)] [] (Is [Bo (p (low + k))] [])) (hk : -4611686018427387904 ≤ low + k ∧ low + k ≤ 4611686018427387904) : FnSem Tryz.prog 126 [In k, .p .any (.ref [.fn f [.ref c1, .ref c2]]), .p .any (.ref [.c (.int .i64 low)])] [] (Is [Bo (p (low + k))] []) := by
  refine FnSem.walk (zs := zeroPV Tryz.prog) (by kernel_rfl) Tryz.func126 rfl Tryz.results126 (by kernel_rfl) (by kernel_rfl) (by kernel_rfl) fun hw hh => ?_
  obtain ⟨w0, w1, w2, _⟩ := hw
  first | replace w0 := wf_I w0 | skip
  first | replace w1 := wf_I w1 | replace w1 := wf_Y w1 | replace w1 := wf_S w1 | replace w1 := wf_LI w1 | replace w1 := wf_LY w1 | replace w1 := wf_LLI w1 | replace w1 := wf_Ls w1 | skip
  first | replace w2 := wf_I w2 | replace w2 := wf_Y w2 | replace w2 := wf_S w2 | replace w2 := wf_LI w2 | replace w2 := wf_LY w2 | replace w2 := wf_LLI w2 | replace w2 := wf_Ls w2 | skip
  repeat' first
    | refine And.intro rfl ?_
    | refine GdF.mk (fun h => h) ?_
    | refine And.intro (Nat.succ_ne_zero _) ?_
    | refine And.intro (Nat.le_of_ble_eq_true rfl) ?_
    | refine SeqF.run ?_
    | refine ArgF.is (hf) ?_
    | refine ArgQ.is (fun hG => hf) rfl rfl ?_
    | refine GhF.go ?_
    | refine EqI.mk _ (fun _ => wrapI (by omega) (by omega)) ?_
    | refine EqI.mk _ (fun _ => rfl) ?_
    | refine CallF.mk (CallW.is [] true rfl ?_)
    | refine CallG.mk ?_
    | (refine CondF.mk (fun hb => ?_) (fun hb => ?_) <;> try simp only [forall_const, eq_self, not_true_eq_false, not_false_eq_true, or_false, false_or, or_self, or_true, true_or, and_true, true_and, and_false, false_and, decide_true, decide_false, Bool.not_true, Bool.not_false, decide_eq_true_eq, decide_eq_false_iff_not, ite_and_p, ite_or_p, Bool.decide_eq_true, Bool.and_eq_true, Bool.or_eq_true, Bool.not_eq_true', Bool.not_eq_false', Bool.and_eq_false_imp, Bool.or_eq_false_iff, bne_iff_ne, beq_iff_eq, bne_eq_false_iff_eq, beq_eq_false_iff_ne, gt_iff_lt, ge_iff_le, Int.not_lt, Int.not_le, ne_eq, Bool.true_eq_false, Bool.false_eq_true, reduceCtorEq, eta_Airway, eta_Fan, eta_Mine] at hb)
    | refine RetF.auto (And.intro rfl ?_)
    | exact Is.mk rfl rfl
    | refine Is.mk ?_ rfl
    | refine Is.mk rfl ?_
    | refine Is.mk ?_ ?_
--@fn impl.firstIn
theorem firstIn2 (low high : Int) (f : Nat) (c1 c2 : List PV) (p : Int → Bool) (hf : ∀ x, low ≤ x → x ≤ high → FnSem Tryz.prog f [In x, .p .any (.ref c1), .p .any (.ref c2)] [] (Is [Bo (p x)] [])) (hn : -1152921504606846976 ≤ low ∧ low ≤ high ∧ high ≤ 1152921504606846976) (hm : ∀ a b, low ≤ a → a ≤ b → b ≤ high → p a = true → p b = true) : FnSem Tryz.prog 100 [In low, In high, .p .any (.fn f [.ref c1, .ref c2])] [] (Is [In (leastI p low high), Bo (decide (leastI p low high ≤ high))] []) := by
  have hr := leastI_r (p := fun k => p (low + k)) (lo := 0) (hi := high - low + 1 - 1) (by omega)
  have hs := leastI_shift (p := p) hn.2.1
  refine FnSem.walk (zs := zeroPV Tryz.prog) (by kernel_rfl) Tryz.func100 rfl Tryz.results100 (by kernel_rfl) (by kernel_rfl) (by kernel_rfl) fun hw hh => ?_
  obtain ⟨w0, w1, w2, _⟩ := hw
  first | replace w0 := wf_I w0 | skip
  first | replace w1 := wf_I w1 | skip
  repeat' first
    | refine And.intro rfl ?_
    | refine GdF.mk (fun h => h) ?_
    | refine And.intro (Nat.succ_ne_zero _) ?_
    | refine And.intro (Nat.le_of_ble_eq_true rfl) ?_
    | refine SeqF.run ?_
    | refine ArgF.is (c_sort_Search _ _ _ _ (fun k => p (low + k)) (fun k h0 h1 => firstIn2_1 k low f c1 c2 p (hf _ (by omega) (by omega)) (by omega)) (by omega) (fun a b h0 h1 h2 h => hm _ _ (by omega) (by omega) (by omega) h)) ?_
    | refine ArgQ.is (fun hG => c_sort_Search _ _ _ _ (fun k => p (low + k)) (fun k h0 h1 => firstIn2_1 k low f c1 c2 p (hf _ (by omega) (by omega)) (by omega)) (by omega) (fun a b h0 h1 h2 h => hm _ _ (by omega) (by omega) (by omega) h)) rfl rfl ?_
    | refine GhF.go ?_
    | refine BndF.mk (fun _ => by omega) ?_
    | refine BndF.mk (fun _ => by simp only [lnS]; omega) ?_
    | refine EqI.mk _ (fun _ => wrapI (by omega) (by omega)) ?_
    | refine EqI.mk _ (fun _ => rfl) ?_
    | refine EqL.mk [] rfl ?_
    | refine EqL.mk [_] rfl ?_
    | refine EqL.mk _ rfl ?_
    | refine ArgF.is (c_sort_Search _ _ _ _ _ (by first | assumption | omega) (by first | assumption | omega) (by first | assumption | omega)) ?_
    | refine ArgQ.is (fun hG => c_sort_Search _ _ _ _ _ (by first | assumption | omega) (by first | assumption | omega) (by first | assumption | omega)) rfl rfl ?_
    | refine CallF.mk (CallW.is [] true rfl ?_)
    | refine CallG.mk ?_
    | (refine CondF.mk (fun hb => ?_) (fun hb => ?_) <;> try simp only [forall_const, eq_self, not_true_eq_false, not_false_eq_true, or_false, false_or, or_self, or_true, true_or, and_true, true_and, and_false, false_and, decide_true, decide_false, Bool.not_true, Bool.not_false, decide_eq_true_eq, decide_eq_false_iff_not, ite_and_p, ite_or_p, Bool.decide_eq_true, Bool.and_eq_true, Bool.or_eq_true, Bool.not_eq_true', Bool.not_eq_false', Bool.and_eq_false_imp, Bool.or_eq_false_iff, bne_iff_ne, beq_iff_eq, bne_eq_false_iff_eq, beq_eq_false_iff_ne, gt_iff_lt, ge_iff_le, Int.not_lt, Int.not_le, ne_eq, Bool.true_eq_false, Bool.false_eq_true, reduceCtorEq, eta_Airway, eta_Fan, eta_Mine] at hb)
    | refine RetF.auto (And.intro rfl ?_)
    | exact Is.mk rfl rfl
    | refine Is.mk ?_ rfl
    | refine Is.mk rfl ?_
    | refine Is.mk ?_ ?_
  all_goals try dsimp only
  all_goals try simp only [Bo, I, OB.row.injEq, AV.osl.injEq, eI_same,  List.cons.injEq, AV.p.injEq, PV.c.injEq, Value.int.injEq, Value.bool.injEq, and_true, true_and, ite_and_p, ite_or_p, Bool.decide_eq_true, eta_Airway, eta_Fan, eta_Mine]
  · rw [← hs]; refine ⟨rfl, ?_⟩; rw [decide_eq_decide]; omega
--@fn impl.firstIn$1
theorem firstIn3_1 (k low : Int) (f : Nat) (c1 c2 c3 : List PV) (p : Int → Bool) (hf : FnSem Tryz.prog f [In (low + k), .p .any (.ref c1), .p .any (.ref c2), .p .any (.ref c3)] [] (Is [Bo (p (low + k))] [])) (hk : -4611686018427387904 ≤ low + k ∧ low + k ≤ 4611686018427387904) : FnSem Tryz.prog 126 [In k, .p .any (.ref [.fn f [.ref c1, .ref c2, .ref c3]]), .p .any (.ref [.c (.int .i64 low)])] [] (Is [Bo (p (low + k))] []) := by
  refine FnSem.walk (zs := zeroPV Tryz.prog) (by kernel_rfl) Tryz.func126 rfl Tryz.results126 (by kernel_rfl) (by kernel_rfl) (by kernel_rfl) fun hw hh => ?_
  obtain ⟨w0, w1, w2, _⟩ := hw
  first | replace w0 := wf_I w0 | skip
  first | replace w1 := wf_I w1 | replace w1 := wf_Y w1 | replace w1 := wf_S w1 | replace w1 := wf_LI w1 | replace w1 := wf_LY w1 | replace w1 := wf_LLI w1 | replace w1 := wf_Ls w1 | skip
  first | replace w2 := wf_I w2 | replace w2 := wf_Y w2 | replace w2 := wf_S w2 | replace w2 := wf_LI w2 | replace w2 := wf_LY w2 | replace w2 := wf_LLI w2 | replace w2 := wf_Ls w2 | skip
  repeat' first
    | refine And.intro rfl ?_
    | refine GdF.mk (fun h => h) ?_
    | refine And.intro (Nat.succ_ne_zero _) ?_
    | refine And.intro (Nat.le_of_ble_eq_true rfl) ?_
    | refine SeqF.run ?_
    | refine ArgF.is (hf) ?_
    | refine ArgQ.is (fun hG => hf) rfl rfl ?_
    | refine GhF.go ?_
    | refine EqI.mk _ (fun _ => wrapI (by omega) (by omega)) ?_
    | refine EqI.mk _ (fun _ => rfl) ?_
    | refine CallF.mk (CallW.is [] true rfl ?_)
    | refine CallG.mk ?_
    | (refine CondF.mk (fun hb => ?_) (fun hb => ?_) <;> try simp only [forall_const, eq_self, not_true_eq_false, not_false_eq_true, or_false, false_or, or_self, or_true, true_or, and_true, true_and, and_false, false_and, decide_true, decide_false, Bool.not_true, Bool.not_false, decide_eq_true_eq, decide_eq_false_iff_not, ite_and_p, ite_or_p, Bool.decide_eq_true, Bool.and_eq_true, Bool.or_eq_true, Bool.not_eq_true', Bool.not_eq_false', Bool.and_eq_false_imp, Bool.or_eq_false_iff, bne_iff_ne, beq_iff_eq, bne_eq_false_iff_eq, beq_eq_false_iff_ne, gt_iff_lt, ge_iff_le, Int.not_lt, Int.not_le, ne_eq, Bool.true_eq_false, Bool.false_eq_true, reduceCtorEq, eta_Airway, eta_Fan, eta_Mine] at hb)
    | refine RetF.auto (And.intro rfl ?_)
    | exact Is.mk rfl rfl
    | refine Is.mk ?_ rfl
    | refine Is.mk rfl ?_
    | refine Is.mk ?_ ?_
--@fn impl.firstIn
theorem firstIn3 (low high : Int) (f : Nat) (c1 c2 c3 : List PV) (p : Int → Bool) (hf : ∀ x, low ≤ x → x ≤ high → FnSem Tryz.prog f [In x, .p .any (.ref c1), .p .any (.ref c2), .p .any (.ref c3)] [] (Is [Bo (p x)] [])) (hn : -1152921504606846976 ≤ low ∧ low ≤ high ∧ high ≤ 1152921504606846976) (hm : ∀ a b, low ≤ a → a ≤ b → b ≤ high → p a = true → p b = true) : FnSem Tryz.prog 100 [In low, In high, .p .any (.fn f [.ref c1, .ref c2, .ref c3])] [] (Is [In (leastI p low high), Bo (decide (leastI p low high ≤ high))] []) := by
  have hr := leastI_r (p := fun k => p (low + k)) (lo := 0) (hi := high - low + 1 - 1) (by omega)
  have hs := leastI_shift (p := p) hn.2.1
  refine FnSem.walk (zs := zeroPV Tryz.prog) (by kernel_rfl) Tryz.func100 rfl Tryz.results100 (by kernel_rfl) (by kernel_rfl) (by kernel_rfl) fun hw hh => ?_
  obtain ⟨w0, w1, w2, _⟩ := hw
  first | replace w0 := wf_I w0 | skip
  first | replace w1 := wf_I w1 | skip
  repeat' first
    | refine And.intro rfl ?_
    | refine GdF.mk (fun h => h) ?_
    | refine And.intro (Nat.succ_ne_zero _) ?_
    | refine And.intro (Nat.le_of_ble_eq_true rfl) ?_
    | refine SeqF.run ?_
    | refine ArgF.is (c_sort_Search _ _ _ _ (fun k => p (low + k)) (fun k h0 h1 => firstIn3_1 k low f c1 c2 c3 p (hf _ (by omega) (by omega)) (by omega)) (by omega) (fun a b h0 h1 h2 h => hm _ _ (by omega) (by omega) (by omega) h)) ?_
    | refine ArgQ.is (fun hG => c_sort_Search _ _ _ _ (fun k => p (low + k)) (fun k h0 h1 => firstIn3_1 k low f c1 c2 c3 p (hf _ (by omega) (by omega)) (by omega)) (by omega) (fun a b h0 h1 h2 h => hm _ _ (by omega) (by omega) (by omega) h)) rfl rfl ?_
    | refine GhF.go ?_
    | refine BndF.mk (fun _ => by omega) ?_
    | refine BndF.mk (fun _ => by simp only [lnS]; omega) ?_
    | refine EqI.mk _ (fun _ => wrapI (by omega) (by omega)) ?_
    | refine EqI.mk _ (fun _ => rfl) ?_
    | refine EqL.mk [] rfl ?_
    | refine EqL.mk [_] rfl ?_
    | refine EqL.mk _ rfl ?_
    | refine ArgF.is (c_sort_Search _ _ _ _ _ (by first | assumption | omega) (by first | assumption | omega) (by first | assumption | omega)) ?_
    | refine ArgQ.is (fun hG => c_sort_Search _ _ _ _ _ (by first | assumption | omega) (by first | assumption | omega) (by first | assumption | omega)) rfl rfl ?_
    | refine CallF.mk (CallW.is [] true rfl ?_)
    | refine CallG.mk ?_
    | (refine CondF.mk (fun hb => ?_) (fun hb => ?_) <;> try simp only [forall_const, eq_self, not_true_eq_false, not_false_eq_true, or_false, false_or, or_self, or_true, true_or, and_true, true_and, and_false, false_and, decide_true, decide_false, Bool.not_true, Bool.not_false, decide_eq_true_eq, decide_eq_false_iff_not, ite_and_p, ite_or_p, Bool.decide_eq_true, Bool.and_eq_true, Bool.or_eq_true, Bool.not_eq_true', Bool.not_eq_false', Bool.and_eq_false_imp, Bool.or_eq_false_iff, bne_iff_ne, beq_iff_eq, bne_eq_false_iff_eq, beq_eq_false_iff_ne, gt_iff_lt, ge_iff_le, Int.not_lt, Int.not_le, ne_eq, Bool.true_eq_false, Bool.false_eq_true, reduceCtorEq, eta_Airway, eta_Fan, eta_Mine] at hb)
    | refine RetF.auto (And.intro rfl ?_)
    | exact Is.mk rfl rfl
    | refine Is.mk ?_ rfl
    | refine Is.mk rfl ?_
    | refine Is.mk ?_ ?_
  all_goals try dsimp only
  all_goals try simp only [Bo, I, OB.row.injEq, AV.osl.injEq, eI_same,  List.cons.injEq, AV.p.injEq, PV.c.injEq, Value.int.injEq, Value.bool.injEq, and_true, true_and, ite_and_p, ite_or_p, Bool.decide_eq_true, eta_Airway, eta_Fan, eta_Mine]
  · rw [← hs]; refine ⟨rfl, ?_⟩; rw [decide_eq_decide]; omega
--@fn impl.firstIn$1
theorem firstIn4_1 (k low : Int) (f : Nat) (c1 c2 c3 c4 : List PV) (p : Int → Bool) (hf : FnSem Tryz.prog f [In (low + k), .p .any (.ref c1), .p .any (.ref c2), .p .any (.ref c3), .p .any (.ref c4)] [] (Is [Bo (p (low + k))] [])) (hk : -4611686018427387904 ≤ low + k ∧ low + k ≤ 4611686018427387904) : FnSem Tryz.prog 126 [In k, .p .any (.ref [.fn f [.ref c1, .ref c2, .ref c3, .ref c4]]), .p .any (.ref [.c (.int .i64 low)])] [] (Is [Bo (p (low + k))] []) := by
  refine FnSem.walk (zs := zeroPV Tryz.prog) (by kernel_rfl) Tryz.func126 rfl Tryz.results126 (by kernel_rfl) (by kernel_rfl) (by kernel_rfl) fun hw hh => ?_
  obtain ⟨w0, w1, w2, _⟩ := hw
  first | replace w0 := wf_I w0 | skip
  first | replace w1 := wf_I w1 | replace w1 := wf_Y w1 | replace w1 := wf_S w1 | replace w1 := wf_LI w1 | replace w1 := wf_LY w1 | replace w1 := wf_LLI w1 | replace w1 := wf_Ls w1 | skip
  first | replace w2 := wf_I w2 | replace w2 := wf_Y w2 | replace w2 := wf_S w2 | replace w2 := wf_LI w2 | replace w2 := wf_LY w2 | replace w2 := wf_LLI w2 | replace w2 := wf_Ls w2 | skip
  repeat' first
    | refine And.intro rfl ?_
    | refine GdF.mk (fun h => h) ?_
    | refine And.intro (Nat.succ_ne_zero _) ?_
    | refine And.intro (Nat.le_of_ble_eq_true rfl) ?_
    | refine SeqF.run ?_
    | refine ArgF.is (hf) ?_
    | refine ArgQ.is (fun hG => hf) rfl rfl ?_
    | refine GhF.go ?_
    | refine EqI.mk _ (fun _ => wrapI (by omega) (by omega)) ?_
    | refine EqI.mk _ (fun _ => rfl) ?_
    | refine CallF.mk (CallW.is [] true rfl ?_)
    | refine CallG.mk ?_
    | (refine CondF.mk (fun hb => ?_) (fun hb => ?_) <;> try simp only [forall_const, eq_self, not_true_eq_false, not_false_eq_true, or_false, false_or, or_self, or_true, true_or, and_true, true_and, and_false, false_and, decide_true, decide_false, Bool.not_true, Bool.not_false, decide_eq_true_eq, decide_eq_false_iff_not, ite_and_p, ite_or_p, Bool.decide_eq_true, Bool.and_eq_true, Bool.or_eq_true, Bool.not_eq_true', Bool.not_eq_false', Bool.and_eq_false_imp, Bool.or_eq_false_iff, bne_iff_ne, beq_iff_eq, bne_eq_false_iff_eq, beq_eq_false_iff_ne, gt_iff_lt, ge_iff_le, Int.not_lt, Int.not_le, ne_eq, Bool.true_eq_false, Bool.false_eq_true, reduceCtorEq, eta_Airway, eta_Fan, eta_Mine] at hb)
    | refine RetF.auto (And.intro rfl ?_)
    | exact Is.mk rfl rfl
    | refine Is.mk ?_ rfl
    | refine Is.mk rfl ?_
    | refine Is.mk ?_ ?_
--@fn impl.firstIn
theorem firstIn4 (low high : Int) (f : Nat) (c1 c2 c3 c4 : List PV) (p : Int → Bool) (hf : ∀ x, low ≤ x → x ≤ high → FnSem Tryz.prog f [In x, .p .any (.ref c1), .p .any (.ref c2), .p .any (.ref c3), .p .any (.ref c4)] [] (Is [Bo (p x)] [])) (hn : -1152921504606846976 ≤ low ∧ low ≤ high ∧ high ≤ 1152921504606846976) (hm : ∀ a b, low ≤ a → a ≤ b → b ≤ high → p a = true → p b = true) : FnSem Tryz.prog 100 [In low, In high, .p .any (.fn f [.ref c1, .ref c2, .ref c3, .ref c4])] [] (Is [In (leastI p low high), Bo (decide (leastI p low high ≤ high))] []) := by
  have hr := leastI_r (p := fun k => p (low + k)) (lo := 0) (hi := high - low + 1 - 1) (by omega)
  have hs := leastI_shift (p := p) hn.2.1
  refine FnSem.walk (zs := zeroPV Tryz.prog) (by kernel_rfl) Tryz.func100 rfl Tryz.results100 (by kernel_rfl) (by kernel_rfl) (by kernel_rfl) fun hw hh => ?_
  obtain ⟨w0, w1, w2, _⟩ := hw
  first | replace w0 := wf_I w0 | skip
  first | replace w1 := wf_I w1 | skip
  repeat' first
    | refine And.intro rfl ?_
    | refine GdF.mk (fun h => h) ?_
    | refine And.intro (Nat.succ_ne_zero _) ?_
    | refine And.intro (Nat.le_of_ble_eq_true rfl) ?_
    | refine SeqF.run ?_
    | refine ArgF.is (c_sort_Search _ _ _ _ (fun k => p (low + k)) (fun k h0 h1 => firstIn4_1 k low f c1 c2 c3 c4 p (hf _ (by omega) (by omega)) (by omega)) (by omega) (fun a b h0 h1 h2 h => hm _ _ (by omega) (by omega) (by omega) h)) ?_
    | refine ArgQ.is (fun hG => c_sort_Search _ _ _ _ (fun k => p (low + k)) (fun k h0 h1 => firstIn4_1 k low f c1 c2 c3 c4 p (hf _ (by omega) (by omega)) (by omega)) (by omega) (fun a b h0 h1 h2 h => hm _ _ (by omega) (by omega) (by omega) h)) rfl rfl ?_
    | refine GhF.go ?_
    | refine BndF.mk (fun _ => by omega) ?_
    | refine BndF.mk (fun _ => by simp only [lnS]; omega) ?_
    | refine EqI.mk _ (fun _ => wrapI (by omega) (by omega)) ?_
    | refine EqI.mk _ (fun _ => rfl) ?_
    | refine EqL.mk [] rfl ?_
    | refine EqL.mk [_] rfl ?_
    | refine EqL.mk _ rfl ?_
    | refine ArgF.is (c_sort_Search _ _ _ _ _ (by first | assumption | omega) (by first | assumption | omega) (by first | assumption | omega)) ?_
    | refine ArgQ.is (fun hG => c_sort_Search _ _ _ _ _ (by first | assumption | omega) (by first | assumption | omega) (by first | assumption | omega)) rfl rfl ?_
    | refine CallF.mk (CallW.is [] true rfl ?_)
    | refine CallG.mk ?_
    | (refine CondF.mk (fun hb => ?_) (fun hb => ?_) <;> try simp only [forall_const, eq_self, not_true_eq_false, not_false_eq_true, or_false, false_or, or_self, or_true, true_or, and_true, true_and, and_false, false_and, decide_true, decide_false, Bool.not_true, Bool.not_false, decide_eq_true_eq, decide_eq_false_iff_not, ite_and_p, ite_or_p, Bool.decide_eq_true, Bool.and_eq_true, Bool.or_eq_true, Bool.not_eq_true', Bool.not_eq_false', Bool.and_eq_false_imp, Bool.or_eq_false_iff, bne_iff_ne, beq_iff_eq, bne_eq_false_iff_eq, beq_eq_false_iff_ne, gt_iff_lt, ge_iff_le, Int.not_lt, Int.not_le, ne_eq, Bool.true_eq_false, Bool.false_eq_true, reduceCtorEq, eta_Airway, eta_Fan, eta_Mine] at hb)
    | refine RetF.auto (And.intro rfl ?_)
    | exact Is.mk rfl rfl
    | refine Is.mk ?_ rfl
    | refine Is.mk rfl ?_
    | refine Is.mk ?_ ?_
  all_goals try dsimp only
  all_goals try simp only [Bo, I, OB.row.injEq, AV.osl.injEq, eI_same,  List.cons.injEq, AV.p.injEq, PV.c.injEq, Value.int.injEq, Value.bool.injEq, and_true, true_and, ite_and_p, ite_or_p, Bool.decide_eq_true, eta_Airway, eta_Fan, eta_Mine]
  · rw [← hs]; refine ⟨rfl, ?_⟩; rw [decide_eq_decide]; omega
--@fn impl.firstIn$1
theorem firstIn5_1 (k low : Int) (f : Nat) (c1 c2 c3 c4 c5 : List PV) (p : Int → Bool) (hf : FnSem Tryz.prog f [In (low + k), .p .any (.ref c1), .p .any (.ref c2), .p .any (.ref c3), .p .any (.ref c4), .p .any (.ref c5)] [] (Is [Bo (p (low + k))] [])) (hk : -4611686018427387904 ≤ low + k ∧ low + k ≤ 4611686018427387904) : FnSem Tryz.prog 126 [In k, .p .any (.ref [.fn f [.ref c1, .ref c2, .ref c3, .ref c4, .ref c5]]), .p .any (.ref [.c (.int .i64 low)])] [] (Is [Bo (p (low + k))] []) := by
  refine FnSem.walk (zs := zeroPV Tryz.prog) (by kernel_rfl) Tryz.func126 rfl Tryz.results126 (by kernel_rfl) (by kernel_rfl) (by kernel_rfl) fun hw hh => ?_
  obtain ⟨w0, w1, w2, _⟩ := hw
  first | replace w0 := wf_I w0 | skip
  first | replace w1 := wf_I w1 | replace w1 := wf_Y w1 | replace w1 := wf_S w1 | replace w1 := wf_LI w1 | replace w1 := wf_LY w1 | replace w1 := wf_LLI w1 | replace w1 := wf_Ls w1 | skip
  first | replace w2 := wf_I w2 | replace w2 := wf_Y w2 | replace w2 := wf_S w2 | replace w2 := wf_LI w2 | replace w2 := wf_LY w2 | replace w2 := wf_LLI w2 | replace w2 := wf_Ls w2 | skip
  repeat' first
    | refine And.intro rfl ?_
    | refine GdF.mk (fun h => h) ?_
    | refine And.intro (Nat.succ_ne_zero _) ?_
    | refine And.intro (Nat.le_of_ble_eq_true rfl) ?_
    | refine SeqF.run ?_
    | refine ArgF.is (hf) ?_
    | refine ArgQ.is (fun hG => hf) rfl rfl ?_
    | refine GhF.go ?_
    | refine EqI.mk _ (fun _ => wrapI (by omega) (by omega)) ?_
    | refine EqI.mk _ (fun _ => rfl) ?_
    | refine CallF.mk (CallW.is [] true rfl ?_)
    | refine CallG.mk ?_
    | (refine CondF.mk (fun hb => ?_) (fun hb => ?_) <;> try simp only [forall_const, eq_self, not_true_eq_false, not_false_eq_true, or_false, false_or, or_self, or_true, true_or, and_true, true_and, and_false, false_and, decide_true, decide_false, Bool.not_true, Bool.not_false, decide_eq_true_eq, decide_eq_false_iff_not, ite_and_p, ite_or_p, Bool.decide_eq_true, Bool.and_eq_true, Bool.or_eq_true, Bool.not_eq_true', Bool.not_eq_false', Bool.and_eq_false_imp, Bool.or_eq_false_iff, bne_iff_ne, beq_iff_eq, bne_eq_false_iff_eq, beq_eq_false_iff_ne, gt_iff_lt, ge_iff_le, Int.not_lt, Int.not_le, ne_eq, Bool.true_eq_false, Bool.false_eq_true, reduceCtorEq, eta_Airway, eta_Fan, eta_Mine] at hb)
    | refine RetF.auto (And.intro rfl ?_)
    | exact Is.mk rfl rfl
    | refine Is.mk ?_ rfl
    | refine Is.mk rfl ?_
    | refine Is.mk ?_ ?_
--@fn impl.firstIn
theorem firstIn5 (low high : Int) (f : Nat) (c1 c2 c3 c4 c5 : List PV) (p : Int → Bool) (hf : ∀ x, low ≤ x → x ≤ high → FnSem Tryz.prog f [In x, .p .any (.ref c1), .p .any (.ref c2), .p .any (.ref c3), .p .any (.ref c4), .p .any (.ref c5)] [] (Is [Bo (p x)] [])) (hn : -1152921504606846976 ≤ low ∧ low ≤ high ∧ high ≤ 1152921504606846976) (hm : ∀ a b, low ≤ a → a ≤ b → b ≤ high → p a = true → p b = true) : FnSem Tryz.prog 100 [In low, In high, .p .any (.fn f [.ref c1, .ref c2, .ref c3, .ref c4, .ref c5])] [] (Is [In (leastI p low high), Bo (decide (leastI p low high ≤ high))] []) := by
  have hr := leastI_r (p := fun k => p (low + k)) (lo := 0) (hi := high - low + 1 - 1) (by omega)
  have hs := leastI_shift (p := p) hn.2.1
  refine FnSem.walk (zs := zeroPV Tryz.prog) (by kernel_rfl) Tryz.func100 rfl Tryz.results100 (by kernel_rfl) (by kernel_rfl) (by kernel_rfl) fun hw hh => ?_
  obtain ⟨w0, w1, w2, _⟩ := hw
  first | replace w0 := wf_I w0 | skip
  first | replace w1 := wf_I w1 | skip
  repeat' first
    | refine And.intro rfl ?_
    | refine GdF.mk (fun h => h) ?_
    | refine And.intro (Nat.succ_ne_zero _) ?_
    | refine And.intro (Nat.le_of_ble_eq_true rfl) ?_
    | refine SeqF.run ?_
    | refine ArgF.is (c_sort_Search _ _ _ _ (fun k => p (low + k)) (fun k h0 h1 => firstIn5_1 k low f c1 c2 c3 c4 c5 p (hf _ (by omega) (by omega)) (by omega)) (by omega) (fun a b h0 h1 h2 h => hm _ _ (by omega) (by omega) (by omega) h)) ?_
    | refine ArgQ.is (fun hG => c_sort_Search _ _ _ _ (fun k => p (low + k)) (fun k h0 h1 => firstIn5_1 k low f c1 c2 c3 c4 c5 p (hf _ (by omega) (by omega)) (by omega)) (by omega) (fun a b h0 h1 h2 h => hm _ _ (by omega) (by omega) (by omega) h)) rfl rfl ?_
    | refine GhF.go ?_
    | refine BndF.mk (fun _ => by omega) ?_
    | refine BndF.mk (fun _ => by simp only [lnS]; omega) ?_
    | refine EqI.mk _ (fun _ => wrapI (by omega) (by omega)) ?_
    | refine EqI.mk _ (fun _ => rfl) ?_
    | refine EqL.mk [] rfl ?_
    | refine EqL.mk [_] rfl ?_
    | refine EqL.mk _ rfl ?_
    | refine ArgF.is (c_sort_Search _ _ _ _ _ (by first | assumption | omega) (by first | assumption | omega) (by first | assumption | omega)) ?_
    | refine ArgQ.is (fun hG => c_sort_Search _ _ _ _ _ (by first | assumption | omega) (by first | assumption | omega) (by first | assumption | omega)) rfl rfl ?_
    | refine CallF.mk (CallW.is [] true rfl ?_)
    | refine CallG.mk ?_
    | (refine CondF.mk (fun hb => ?_) (fun hb => ?_) <;> try simp only [forall_const, eq_self, not_true_eq_false, not_false_eq_true, or_false, false_or, or_self, or_true, true_or, and_true, true_and, and_false, false_and, decide_true, decide_false, Bool.not_true, Bool.not_false, decide_eq_true_eq, decide_eq_false_iff_not, ite_and_p, ite_or_p, Bool.decide_eq_true, Bool.and_eq_true, Bool.or_eq_true, Bool.not_eq_true', Bool.not_eq_false', Bool.and_eq_false_imp, Bool.or_eq_false_iff, bne_iff_ne, beq_iff_eq, bne_eq_false_iff_eq, beq_eq_false_iff_ne, gt_iff_lt, ge_iff_le, Int.not_lt, Int.not_le, ne_eq, Bool.true_eq_false, Bool.false_eq_true, reduceCtorEq, eta_Airway, eta_Fan, eta_Mine] at hb)
    | refine RetF.auto (And.intro rfl ?_)
    | exact Is.mk rfl rfl
    | refine Is.mk ?_ rfl
    | refine Is.mk rfl ?_
    | refine Is.mk ?_ ?_
  all_goals try dsimp only
  all_goals try simp only [Bo, I, OB.row.injEq, AV.osl.injEq, eI_same,  List.cons.injEq, AV.p.injEq, PV.c.injEq, Value.int.injEq, Value.bool.injEq, and_true, true_and, ite_and_p, ite_or_p, Bool.decide_eq_true, eta_Airway, eta_Fan, eta_Mine]
  · rw [← hs]; refine ⟨rfl, ?_⟩; rw [decide_eq_decide]; omega
end Go.Proofs.YtdhkpmaanegjkaaGreatDoor
