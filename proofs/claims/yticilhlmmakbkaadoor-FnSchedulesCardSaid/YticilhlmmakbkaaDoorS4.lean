/- Contracts of functions of the program, and what they compute. Conditions: those that each theorem states. -/
import Derived.Test.YticilhlmmakbkaaDoorProg
import Derived.Test.YticilhlmmakbkaaDoorS2
import Derived.Test.YticilhlmmakbkaaDoorL1
import Derived.DeepKeys4
import Derived.Maps.Keyed
set_option linter.unusedVariables false
set_option linter.unusedSimpArgs false
namespace Go.Proofs.YticilhlmmakbkaaDoor
open Go.Av
attribute [local irreducible] Go.IntKind.wrap okModes okMode bestT argT costM stepW leastV memoOk leftS fitH updM
set_option maxRecDepth 20000
set_option maxHeartbeats 40000000

/-! The least cost of a day's rest, kept in a map. -/
theorem stLaid : laidOutB Tryd.prog = true := by kernel_rfl
theorem stRow : (70 : TypeId) < Tryd.prog.types.size := of_decide_eq_true (by kernel_rfl)
theorem stWide : (match Tryd.prog.underlying 70 with | some (.array _ _) | some (.struct _) => true | _ => false) = true := by kernel_rfl
theorem stKt : Tryd.prog.keyType 70 = true := by kernel_rfl
theorem stKt2 : Tryd.prog.keyTypeAt 3 70 = true := by kernel_rfl
theorem stLaw : Go.Maps.Keyed Tryd.prog 70 := Go.Maps.Keyed.of_law (deep_law_laid stLaid (m := 3) (by omega) stRow stKt2 stWide)
theorem stKey (h m s : Int) (h1 : -1000 ≤ h ∧ h ≤ 1000) (h2 : -1000 ≤ m ∧ m ≤ 1000) (h3 : -1000 ≤ s ∧ s ≤ 1000) : isKey Tryd.prog 70 (stU h m s) := by
  have e1 : IntKind.i64.wrap h = h := wrapI (by omega) (by omega)
  have e2 : IntKind.i64.wrap m = m := wrapI (by omega) (by omega)
  have e3 : IntKind.i64.wrap s = s := wrapI (by omega) (by omega)
  have hc : Tryd.prog.cellsOf 70 = 3 := by kernel_rfl
  have hi2 : Tryd.prog.underlying 2 = some (.int .i64) := by kernel_rfl
  have hi3 : Tryd.prog.underlying 3 = some (.int .i64) := by kernel_rfl
  have hc2 : Tryd.prog.cellsOf 2 = 1 := by kernel_rfl
  have hc3 : Tryd.prog.cellsOf 3 = 1 := by kernel_rfl
  have stKt : Tryd.prog.keyType 70 = true := by kernel_rfl
  have hsz : ∃ n, Tryd.prog.types.size = n + 1 := ⟨Tryd.prog.types.size - 1, by kernel_rfl⟩
  obtain ⟨n, hn⟩ := hsz
  unfold isKey keyOf
  rw [Tryd.underlying70]
  simp only [stKt, Value.formed, Tryd.underlying70, hc, hn]
  unfold Program.keyLits
  rw [Tryd.underlying70]
  simp [hc, Value.cells]
  unfold Program.keyLits
  simp [hi2, hi3, hc2, hc3, Lit.wf, e1, e2, e3]
  have cm : IntKind.i64.min = -9223372036854775808 := by rfl
  rw [cm, if_pos ⟨by omega, by omega⟩, if_pos ⟨by omega, by omega⟩, if_pos ⟨by omega, by omega⟩]
  exact ⟨_, rfl⟩
abbrev stIs : Value → Prop := isKey Tryd.prog 70
/-- what the plan's function hands back: the least cost, and what is kept is still right -/
abbrev MemoR (ms : List GMode) (needs prices : List Int) (peak : Int) (k : Nat) (m s : Int) : List AV → List OB → Prop := RetV (fun _ : Value → Option Int => [In (leastV ms needs prices peak k m s)]) (fun f => [.mp false stIs f]) (memoOk ms needs prices peak)
abbrev planA (ms : List GMode) (needs prices : List Int) (peak : Int) : AV := .aagg [.p .any (.lst (GMode.cells default) (ms.map GMode.cells)), .p .any (LI needs), .p .any (LI prices), In peak, .amap 0]
theorem leastV_at {ms : List GMode} {needs prices : List Int} {peak : Int} {k : Nat} {h m s : Int} (hk : 0 < k) (hh : h = 24 - k) : leastV ms needs prices peak k m s = bestT (stepW ms needs prices peak (leastV ms needs prices peak (k - 1)) h m s) ms.length := by
  obtain ⟨j, rfl⟩ : ∃ j, k = j + 1 := ⟨k - 1, by omega⟩
  rw [leastV_s, Nat.add_sub_cancel, show (23 : Int) - j = h by omega]
theorem memo_at {ms : List GMode} {needs prices : List Int} {peak : Int} {f : Value → Option Int} {k : Nat} {h m s : Int} (hf : memoOk ms needs prices peak f) (hk : k ≤ 24) (hh : h = 24 - k) (hs : (f (stU h m s)).isSome = true) : (f (stU h m s)).getD 0 = leastV ms needs prices peak k m s := by
  unfold memoOk at hf
  obtain ⟨n, hn⟩ := Option.isSome_iff_exists.1 hs
  rw [hn]
  exact hf k m s n hk (by rw [← hh]; exact hn)
--@fn (impl.dayPlan).least
theorem least1 (ms : List GMode) (needs prices : List Int) (peak : Int) (ho : okModes ms = true) (hn : needs.length = 24) (hp : okHours prices 1000 = true) (hpk : -1 ≤ peak ∧ peak ≤ 10000000) (k : Nat)
    (ih : ∀ k' : Nat, k' < k → k' ≤ 24 → ∀ (h m s : Int) (f : Value → Option Int), h = 24 - k' → -1 ≤ m → m < ms.length → 0 ≤ s → s ≤ 24 → memoOk ms needs prices peak f → FnSem Tryd.prog 43 [planA ms needs prices peak, .p .any (stV h m s)] [.mp false stIs f] (MemoR ms needs prices peak k' m s))
    (hk : k ≤ 24) (h m s : Int) (f : Value → Option Int) (hx : h = 24 - k) (hm0 : -1 ≤ m) (hm1 : m < ms.length) (hs0 : 0 ≤ s) (hs1 : s ≤ 24) (hf : memoOk ms needs prices peak f) :
    FnSem Tryd.prog 43 [planA ms needs prices peak, .p .any (stV h m s)] [.mp false stIs f] (MemoR ms needs prices peak k m s) := by
  have hl8 := (okModes_p ho).1
  have hpl := (okHours_iff.1 hp).1
  have hB := fun (k' : Nat) (hk' : k' ≤ 24) (m s : Int) => leastV_b (needs := needs) (peak := peak) ho hp k' hk' m s
  refine FnSem.walk (zs := zeroPV Tryd.prog) (by kernel_rfl) Tryd.func43 rfl Tryd.results43 (by kernel_rfl) (by kernel_rfl) (by kernel_rfl) fun hw hh => ?_
  obtain ⟨w0, w1, _⟩ := hw
  first | replace w0 := wf_DayPlan w0 | skip
  first | replace w1 := wf_DayState w1 | skip
  repeat' first
    | refine And.intro rfl ?_
    | refine GdF.mk (fun h => h) ?_
    | refine And.intro (Nat.succ_ne_zero _) ?_
    | refine And.intro (Nat.le_of_ble_eq_true rfl) ?_
    | refine SeqF.run ?_
    | refine KeyF.mk stLaw rfl (fun _ => stKey h m s (by omega) (by omega) (by omega)) ?_
    | refine EqO.mk _ rfl ?_
    | refine EqM.mk _ rfl ?_
    | refine LoopF.at 8 rfl (LoopF.fix [2, 3, 27, 28] (Int × Int × (Value → Option Int)) (fun (i, best, f2) => 0 ≤ i ∧ i ≤ ms.length ∧ best = bestT (stepW ms needs prices peak (leastV ms needs prices peak (k - 1)) h m s) i.toNat ∧ memoOk ms needs prices peak f2 ∧ 0 < k) (fun (i, best, f2) => [(29, In i), (7, In best)]) (fun (i, best, f2) => [(0, .mp false stIs f2)]) (fun (i, best, f2) => ((ms.length - i).toNat)) ((0, -1, f)) ?_)
    | (refine LoopB.of (T := Int × Int × (Value → Option Int)) ?_ ?_; rotate_left; rintro ⟨i, best, f2⟩ ⟨g0, g1, g2, g3, g4⟩; rotate_left)
    | refine ArgF.is (c_impl_dayPlan_next ms needs prices peak h m s i hn (by omega) (by omega) (by omega)) ?_
    | refine ArgQ.is (fun hG => c_impl_dayPlan_next ms needs prices peak h m s i hn (by omega) (by omega) (by omega)) rfl rfl ?_
    | refine EqP.mk _ (gmb GMode.cells default (by omega)) ?_
    | refine ArgF.is (c_impl_Mode_cost (ms.getD i.toNat default) _ (mode_b ho (by omega)) (price_b hp (by omega) (by omega))) ?_
    | refine ArgQ.is (fun hG => c_impl_Mode_cost (ms.getD i.toNat default) _ (mode_b ho (by omega)) (price_b hp (by omega) (by omega))) rfl rfl ?_
    | refine CallF.mk (f := 43) (CallW.is [0] true rfl ?_)
    | (refine ArgF.ret (ih (k - 1) (by omega) (by omega) (h + 1) i (leftS m s i) f2 (by omega) (by omega) (by omega) hb.1 (by have := left_le (m := m) (s := s) (j := i); omega) g3) ?_; intro f3 hf3)
    | refine RetV.mk (α := Value → Option Int) _ ?_ rfl ?_
    | refine GhF.go ?_
    | refine GdS.keep ?_
    | refine DrawG.old (DrawF.lex (by decide +kernel) ?_)
    | refine EqP.mk _ (gm eI 0 rfl) ?_
    | refine EqP.mk _ (gm GMode.cells default rfl) ?_
    | refine BndF.mk (fun _ => by omega) ?_
    | refine BndF.mk (fun _ => by simp only [List.length_map, List.length_cons, List.length_nil, List.length_append, List.length_set, List.length_replicate, iotaI_len]; omega) ?_
    | refine BndF.mk (fun hG => by simp only [forall_const, eq_self, not_true_eq_false, not_false_eq_true, or_false, false_or, or_self, or_true, true_or, and_true, true_and, and_false, false_and, decide_true, decide_false, Bool.not_true, Bool.not_false, decide_eq_true_eq, decide_eq_false_iff_not, ite_and_p, ite_or_p, Bool.decide_eq_true, Bool.and_eq_true, Bool.or_eq_true, Bool.not_eq_true', Bool.not_eq_false', Bool.and_eq_false_imp, Bool.or_eq_false_iff, bne_iff_ne, beq_iff_eq, bne_eq_false_iff_eq, beq_eq_false_iff_ne, gt_iff_lt, ge_iff_le, Int.not_lt, Int.not_le, ne_eq, Bool.true_eq_false, Bool.false_eq_true, reduceCtorEq, eta_Mode, bytes_nil] at hG; (try simp only [List.length_map]); omega) ?_
    | refine EqI.mk _ (fun _ => wrapI (by omega) (by omega)) ?_
    | refine EqI.mk _ (fun _ => rfl) ?_
    | refine EqN.mk _ (ln eI) ?_
    | refine EqN.mk _ (ln GMode.cells) ?_
    | refine EqN.mk _ (Nat.zero_add _) ?_
    | refine EqN.mk _ (Int.toNat_natCast _) ?_
    | refine EqN.mk _ rfl ?_
    | refine EqL.mk _ (tk eI (by first | rfl | assumption | omega | (simp only [List.length_map, List.length_cons, List.length_nil, List.length_append, List.length_set, List.length_replicate, iotaI_len]; done) | (simp only [List.length_map, List.length_cons, List.length_nil, List.length_append, List.length_set, List.length_replicate, iotaI_len]; omega))) ?_
    | refine EqL.mk _ (st eI) ?_
    | refine EqL.mk _ (tk GMode.cells (by first | rfl | assumption | omega | (simp only [List.length_map, List.length_cons, List.length_nil, List.length_append, List.length_set, List.length_replicate, iotaI_len]; done) | (simp only [List.length_map, List.length_cons, List.length_nil, List.length_append, List.length_set, List.length_replicate, iotaI_len]; omega))) ?_
    | refine EqL.mk _ (st GMode.cells) ?_
    | refine EqL.mk [] rfl ?_
    | refine EqL.mk [_] rfl ?_
    | refine EqL.mk _ rfl ?_
    | refine ArgF.is (c_impl_dayPlan_next _ _ _ _ (by first | assumption | omega) _ _ _ (by first | assumption | omega) (by first | assumption | omega) (by first | assumption | omega) (by first | assumption | omega)) ?_
    | refine ArgQ.is (fun hG => c_impl_dayPlan_next _ _ _ _ (by first | assumption | omega) _ _ _ (by first | assumption | omega) (by first | assumption | omega) (by first | assumption | omega) (by first | assumption | omega)) rfl rfl ?_
    | refine ArgQ.is (fun hG => c_impl_dayPlan_next _ _ _ _ (by simp only [forall_const, eq_self, not_true_eq_false, not_false_eq_true, or_false, false_or, or_self, or_true, true_or, and_true, true_and, and_false, false_and, decide_true, decide_false, Bool.not_true, Bool.not_false, decide_eq_true_eq, decide_eq_false_iff_not, ite_and_p, ite_or_p, Bool.decide_eq_true, Bool.and_eq_true, Bool.or_eq_true, Bool.not_eq_true', Bool.not_eq_false', Bool.and_eq_false_imp, Bool.or_eq_false_iff, bne_iff_ne, beq_iff_eq, bne_eq_false_iff_eq, beq_eq_false_iff_ne, gt_iff_lt, ge_iff_le, Int.not_lt, Int.not_le, ne_eq, Bool.true_eq_false, Bool.false_eq_true, reduceCtorEq, eta_Mode, bytes_nil] at hG; omega) _ _ _ (by simp only [forall_const, eq_self, not_true_eq_false, not_false_eq_true, or_false, false_or, or_self, or_true, true_or, and_true, true_and, and_false, false_and, decide_true, decide_false, Bool.not_true, Bool.not_false, decide_eq_true_eq, decide_eq_false_iff_not, ite_and_p, ite_or_p, Bool.decide_eq_true, Bool.and_eq_true, Bool.or_eq_true, Bool.not_eq_true', Bool.not_eq_false', Bool.and_eq_false_imp, Bool.or_eq_false_iff, bne_iff_ne, beq_iff_eq, bne_eq_false_iff_eq, beq_eq_false_iff_ne, gt_iff_lt, ge_iff_le, Int.not_lt, Int.not_le, ne_eq, Bool.true_eq_false, Bool.false_eq_true, reduceCtorEq, eta_Mode, bytes_nil] at hG; omega) (by simp only [forall_const, eq_self, not_true_eq_false, not_false_eq_true, or_false, false_or, or_self, or_true, true_or, and_true, true_and, and_false, false_and, decide_true, decide_false, Bool.not_true, Bool.not_false, decide_eq_true_eq, decide_eq_false_iff_not, ite_and_p, ite_or_p, Bool.decide_eq_true, Bool.and_eq_true, Bool.or_eq_true, Bool.not_eq_true', Bool.not_eq_false', Bool.and_eq_false_imp, Bool.or_eq_false_iff, bne_iff_ne, beq_iff_eq, bne_eq_false_iff_eq, beq_eq_false_iff_ne, gt_iff_lt, ge_iff_le, Int.not_lt, Int.not_le, ne_eq, Bool.true_eq_false, Bool.false_eq_true, reduceCtorEq, eta_Mode, bytes_nil] at hG; omega) (by simp only [forall_const, eq_self, not_true_eq_false, not_false_eq_true, or_false, false_or, or_self, or_true, true_or, and_true, true_and, and_false, false_and, decide_true, decide_false, Bool.not_true, Bool.not_false, decide_eq_true_eq, decide_eq_false_iff_not, ite_and_p, ite_or_p, Bool.decide_eq_true, Bool.and_eq_true, Bool.or_eq_true, Bool.not_eq_true', Bool.not_eq_false', Bool.and_eq_false_imp, Bool.or_eq_false_iff, bne_iff_ne, beq_iff_eq, bne_eq_false_iff_eq, beq_eq_false_iff_ne, gt_iff_lt, ge_iff_le, Int.not_lt, Int.not_le, ne_eq, Bool.true_eq_false, Bool.false_eq_true, reduceCtorEq, eta_Mode, bytes_nil] at hG; omega) (by simp only [forall_const, eq_self, not_true_eq_false, not_false_eq_true, or_false, false_or, or_self, or_true, true_or, and_true, true_and, and_false, false_and, decide_true, decide_false, Bool.not_true, Bool.not_false, decide_eq_true_eq, decide_eq_false_iff_not, ite_and_p, ite_or_p, Bool.decide_eq_true, Bool.and_eq_true, Bool.or_eq_true, Bool.not_eq_true', Bool.not_eq_false', Bool.and_eq_false_imp, Bool.or_eq_false_iff, bne_iff_ne, beq_iff_eq, bne_eq_false_iff_eq, beq_eq_false_iff_ne, gt_iff_lt, ge_iff_le, Int.not_lt, Int.not_le, ne_eq, Bool.true_eq_false, Bool.false_eq_true, reduceCtorEq, eta_Mode, bytes_nil] at hG; omega)) rfl rfl ?_
    | refine ArgF.is (c_impl_dayPlan_least ..) ?_
    | refine ArgQ.is (fun hG => c_impl_dayPlan_least ..) rfl rfl ?_
    | refine ArgF.is (c_impl_Mode_cost ⟨_, _, _⟩ _ (by first | assumption | omega) (by first | assumption | omega)) ?_
    | refine ArgQ.is (fun hG => c_impl_Mode_cost ⟨_, _, _⟩ _ (by first | assumption | omega) (by first | assumption | omega)) rfl rfl ?_
    | refine ArgQ.is (fun hG => c_impl_Mode_cost ⟨_, _, _⟩ _ (by simp only [forall_const, eq_self, not_true_eq_false, not_false_eq_true, or_false, false_or, or_self, or_true, true_or, and_true, true_and, and_false, false_and, decide_true, decide_false, Bool.not_true, Bool.not_false, decide_eq_true_eq, decide_eq_false_iff_not, ite_and_p, ite_or_p, Bool.decide_eq_true, Bool.and_eq_true, Bool.or_eq_true, Bool.not_eq_true', Bool.not_eq_false', Bool.and_eq_false_imp, Bool.or_eq_false_iff, bne_iff_ne, beq_iff_eq, bne_eq_false_iff_eq, beq_eq_false_iff_ne, gt_iff_lt, ge_iff_le, Int.not_lt, Int.not_le, ne_eq, Bool.true_eq_false, Bool.false_eq_true, reduceCtorEq, eta_Mode, bytes_nil] at hG; omega) (by simp only [forall_const, eq_self, not_true_eq_false, not_false_eq_true, or_false, false_or, or_self, or_true, true_or, and_true, true_and, and_false, false_and, decide_true, decide_false, Bool.not_true, Bool.not_false, decide_eq_true_eq, decide_eq_false_iff_not, ite_and_p, ite_or_p, Bool.decide_eq_true, Bool.and_eq_true, Bool.or_eq_true, Bool.not_eq_true', Bool.not_eq_false', Bool.and_eq_false_imp, Bool.or_eq_false_iff, bne_iff_ne, beq_iff_eq, bne_eq_false_iff_eq, beq_eq_false_iff_ne, gt_iff_lt, ge_iff_le, Int.not_lt, Int.not_le, ne_eq, Bool.true_eq_false, Bool.false_eq_true, reduceCtorEq, eta_Mode, bytes_nil] at hG; omega)) rfl rfl ?_
    | refine CallF.mk (CallW.is [] true rfl ?_)
    | refine CallG.mk ?_
    | (refine CondF.mk (fun hb => ?_) (fun hb => ?_) <;> try simp only [forall_const, eq_self, not_true_eq_false, not_false_eq_true, or_false, false_or, or_self, or_true, true_or, and_true, true_and, and_false, false_and, decide_true, decide_false, Bool.not_true, Bool.not_false, decide_eq_true_eq, decide_eq_false_iff_not, ite_and_p, ite_or_p, Bool.decide_eq_true, Bool.and_eq_true, Bool.or_eq_true, Bool.not_eq_true', Bool.not_eq_false', Bool.and_eq_false_imp, Bool.or_eq_false_iff, bne_iff_ne, beq_iff_eq, bne_eq_false_iff_eq, beq_eq_false_iff_ne, gt_iff_lt, ge_iff_le, Int.not_lt, Int.not_le, ne_eq, Bool.true_eq_false, Bool.false_eq_true, reduceCtorEq, eta_Mode] at hb)
    | apply BackF.auto3
    | refine BackB.mk ?_ ?_
    | refine RetF.auto (And.intro rfl ?_)
    | exact Is.mk rfl rfl
    | refine Is.mk ?_ rfl
    | refine Is.mk rfl ?_
    | refine Is.mk ?_ ?_
  all_goals try dsimp only
  all_goals first
    | omega
    | (rw [show k = 0 by omega]; unfold leastV; rfl)
    | exact congrArg (fun x => [In x]) (memo_at hf hk hx hb)
    | exact hf
    | exact ⟨by omega, by omega, by unfold bestT; rfl, hf, by omega⟩
    | exact ⟨by omega, by omega, best_skip g0 g2 (stepI_f g0 (.inl fun h => by rw [hb h.1] at h; cases h.2)), g3, g4⟩
    | (have q := costM_b (mode_b ho (j := i.toNat) (by omega)) (price_b hp (h := h) (by omega) (by omega))
       have q2 := hB (k - 1) (by omega) i (leftS m s i)
       by_cases hr : leastV ms needs prices peak (k - 1) i (leftS m s i) < 0
       · first
         | exact ⟨by omega, by omega, best_skip g0 g2 (stepI_f g0 (.inr hr)), hf3, g4⟩
         | (exfalso; omega)
       · have e := stepI_t (needs := needs) (prices := prices) (peak := peak) (L := leastV ms needs prices peak (k - 1)) g0 (by assumption) (by omega)
         rw [wrapI (by omega) (by omega)] at *
         first
         | exact ⟨by omega, by omega, best_take g0 g2 e (by omega) (by omega), hf3, g4⟩
         | exact ⟨by omega, by omega, best_keep g0 g2 e (by omega), hf3, g4⟩)
    | (rw [leastV_at g4 hx, g2, show i.toNat = ms.length by omega])
    | exact memo_s g3 hx hk (by rw [leastV_at g4 hx, g2, show i.toNat = ms.length by omega])
    | skip
theorem leastC (ms : List GMode) (needs prices : List Int) (peak : Int) (ho : okModes ms = true) (hn : needs.length = 24) (hp : okHours prices 1000 = true) (hpk : -1 ≤ peak ∧ peak ≤ 10000000) (k : Nat) : k ≤ 24 → ∀ (h m s : Int) (f : Value → Option Int), h = 24 - k → -1 ≤ m → m < ms.length → 0 ≤ s → s ≤ 24 → memoOk ms needs prices peak f →
    FnSem Tryd.prog 43 [planA ms needs prices peak, .p .any (stV h m s)] [.mp false stIs f] (MemoR ms needs prices peak k m s) := by
  induction k using Nat.strongRecOn with
  | _ k ih => exact fun hk h m s f => least1 ms needs prices peak ho hn hp hpk k (fun k' hk' => ih k' hk') hk h m s f
end Go.Proofs.YticilhlmmakbkaaDoor
