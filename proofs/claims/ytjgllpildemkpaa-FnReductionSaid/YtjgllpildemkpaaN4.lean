/- Contracts of functions of the program, and what they compute. Conditions: those that each theorem states. -/
import Derived.Test.YtjgllpildemkpaaProg
import Derived.Test.YtjgllpildemkpaaN3
set_option linter.unusedVariables false
set_option linter.unusedSimpArgs false
namespace Go.Proofs.Ytjgllpildemkpaa
open Go.Av
attribute [local irreducible] Go.IntKind.wrap leastI rdZ rd rootI sumT selI lostE deadE cutE parI joinsE
set_option maxRecDepth 20000
set_option maxHeartbeats 8000000

/-! The reduction of a mine: airways side by side, airways end to end. -/
theorem gE_take {ys : List GEdge} {n : Nat} {i : Int} (h0 : 0 ≤ i) (h1 : i < n) : gE (ys.take n) i = ys.getD i.toNat default := by
  unfold gE
  rw [List.getD_eq_getElem?_getD, List.getD_eq_getElem?_getD, List.getElem?_take, if_pos (by omega)]
theorem okE_at {J : Int} {es : List GEdge} (h : okE J es) {i : Int} (h0 : 0 ≤ i) (h1 : i < es.length) : (0 ≤ (gE es i).a ∧ (gE es i).a < J) ∧ (0 ≤ (gE es i).b ∧ (gE es i).b < J) ∧ 1 ≤ (gE es i).resistance ∧ (gE es i).resistance ≤ 1000000 :=
  h.2 _ (by unfold gE; exact getD_mem (by omega))
def sdS (f : Bool) (es : List GEdge) : Bool × Bool × List GEdge := if sideI es ≤ es.length - 1 then (true, f, sideS es) else (false, f, es)
theorem side_k {es : List GEdge} {i k : Int} (h0 : 0 ≤ i) (h1 : i + 1 ≤ k) (h2 : k < es.length) (h3 : joinsE (gE es k) (gE es i).a (gE es i).b = true) (h4 : ∀ m, i + 1 ≤ m → m < k → joinsE (gE es m) (gE es i).a (gE es i).b = false) : sideK es i = k := by
  unfold sideK; exact leastI_at h1 (by omega) h3 h4
theorem side_n {es : List GEdge} {i : Int} (h0 : 0 ≤ i) (h4 : ∀ m, i + 1 ≤ m → m < es.length → joinsE (gE es m) (gE es i).a (gE es i).b = false) : ¬sideK es i ≤ es.length - 1 := by
  unfold sideK; rw [leastI_no fun m a b => h4 m a (by omega)]; omega
theorem sdS_t {f : Bool} {es : List GEdge} {i k : Int} (h0 : 0 ≤ i) (h1 : i + 1 ≤ k) (h2 : k < es.length) (h3 : joinsE (gE es k) (gE es i).a (gE es i).b = true) (h4 : ∀ m, i + 1 ≤ m → m < k → joinsE (gE es m) (gE es i).a (gE es i).b = false) (h5 : ∀ j, 0 ≤ j → j < i → ¬sideK es j ≤ es.length - 1) :
    sdS f es = (true, f, cutE (es.set i.toNat ⟨(gE es i).a, (gE es i).b, parI [(gE es i).resistance, (gE es k).resistance]⟩) k) := by
  have e1 := side_k h0 h1 h2 h3 h4
  have e2 : sideI es = i := by
    unfold sideI
    exact leastI_at h0 (by omega) (by rw [e1]; exact decide_eq_true (by omega)) (fun m a b => decide_eq_false (h5 m a b))
  unfold sdS sideS
  rw [e2, e1, if_pos (by omega)]
theorem sdS_f {f : Bool} {es : List GEdge} (h5 : ∀ j : Int, 0 ≤ j → j < es.length → ¬sideK es j ≤ es.length - 1) : sdS f es = (false, f, es) := by
  have e2 : ¬sideI es ≤ es.length - 1 := by
    unfold sideI
    rw [leastI_no (fun m a b => decide_eq_false (h5 m a (by omega)))]; omega
  unfold sdS; rw [if_neg e2]
theorem c_impl_reduction_joinSides (x y J : Int) (n : Nat) (ys : List GEdge) (f : Bool) (hn : n ≤ ys.length ∧ ys.length ≤ 24) (ho : okE J (ys.take n)) : FnSem Try.prog 126 [.own 0 0] [redO x y 1 n f, RwE ys] (StepR x y ys.length (sdS f (ys.take n))) := by
  have hl : (ys.take n).length = n := by rw [List.length_take]; omega
  have hg := fun (i : Int) (a : 0 ≤ i) (b : i < n) => gE_take (ys := ys) a b
  have hq := fun (i : Int) (a : 0 ≤ i) (b : i < n) => okE_at ho a (by rw [hl]; exact b)
  refine FnSem.walk (zs := zeroPV Try.prog) (by kernel_rfl) Try.func126 rfl Try.results126 (by kernel_rfl) (by kernel_rfl) (by kernel_rfl) fun hw hh => ?_
  obtain ⟨w0, _⟩ := hw
  first | replace w0 := wfr_Reduction w0 | skip
  repeat' first
    | refine And.intro rfl ?_
    | refine GdF.mk (fun h => h) ?_
    | refine And.intro (Nat.succ_ne_zero _) ?_
    | refine And.intro (Nat.le_of_ble_eq_true rfl) ?_
    | refine SeqF.run ?_
    | refine OpH.heap ?_
    | refine GhF.held 9 rfl [(9, []), (10, []), (13, [1])] ?_
    | refine EqL.mk _ (st GEdge.cells (v := ⟨(ys.getD i.toNat default).a, (ys.getD i.toNat default).b, parI [(ys.getD i.toNat default).resistance, (ys.getD k.toNat default).resistance]⟩)) ?_
    | refine ArgF.is (c_impl_parallel [(ys.getD i.toNat default).resistance, (ys.getD k.toNat default).resistance] (by have a1 := hq i (by omega) (by omega); have a2 := hq k (by omega) (by omega); rw [hg i (by omega) (by omega)] at a1; rw [hg k (by omega) (by omega)] at a2; exact resOk_2 a1.2.2 a2.2.2) (by simp)) ?_
    | refine ArgQ.is (fun hG => c_impl_parallel [(ys.getD i.toNat default).resistance, (ys.getD k.toNat default).resistance] (by have a1 := hq i (by omega) (by omega); have a2 := hq k (by omega) (by omega); rw [hg i (by omega) (by omega)] at a1; rw [hg k (by omega) (by omega)] at a2; exact resOk_2 a1.2.2 a2.2.2) (by simp)) rfl rfl ?_
    | refine ArgF.is (c_impl_edge_joins (ys.getD k.toNat default) _ _) ?_
    | refine ArgQ.is (fun hG => c_impl_edge_joins (ys.getD k.toNat default) _ _) rfl rfl ?_
    | refine CallF.own (f := 221) [0] false ?_
    | (refine ArgF.ret (c_slices_Delete_impl_edge_impl_edge n k (ys.set i.toNat ⟨(ys.getD i.toNat default).a, (ys.getD i.toNat default).b, parI [(ys.getD i.toNat default).resistance, (ys.getD k.toNat default).resistance]⟩) (by omega) (by omega) (by rw [List.length_set]; omega) (by omega)) ?_; rintro zs ⟨e1, e2⟩; rw [List.length_set] at e1)
    | refine LoopF.at 2 rfl (LoopF.fix [0, 10, 11] (Int) (fun i => 0 ≤ i ∧ i ≤ n ∧ ∀ j, 0 ≤ j → j < i → ¬sideK (ys.take n) j ≤ (ys.take n).length - 1) (fun i => [(12, In i)]) (fun i => []) (fun i => ((n - i).toNat)) (0) ?_)
    | (refine LoopB.of (T := Int) ?_ ?_; rotate_left; rintro i ⟨h0, h1, h2⟩; rotate_left)
    | refine LoopF.at 5 rfl (LoopF.fix [0, 3, 4, 10, 11, 12] (Int × Unit) (fun (k, u) => i + 1 ≤ k ∧ k ≤ n ∧ ∀ m, i + 1 ≤ m → m < k → joinsE (gE (ys.take n) m) (gE (ys.take n) i).a (gE (ys.take n) i).b = false) (fun (k, u) => [(5, In k)]) (fun (k, u) => []) (fun (k, u) => ((n - k).toNat)) ((i + 1, ())) ?_)
    | (refine LoopB.of (T := Int × Unit) ?_ ?_; rotate_left; rintro ⟨k, u⟩ ⟨k0, k1, k2⟩; rotate_left)
    | refine StepR.mk _ _ _ _ rfl rfl ?_ ?_
    | refine HdF.at 13 rfl 0 [] (And.intro (by decide +kernel) (And.intro rfl ?_))
    | refine HdF.at 12 rfl 1 [] (And.intro (by decide +kernel) (And.intro rfl ?_))
    | refine HdF.at 11 rfl 2 [] (And.intro (by decide +kernel) (And.intro rfl ?_))
    | refine HdF.at 10 rfl 3 [11, 12, 13] (And.intro (by decide +kernel) (And.intro rfl ?_))
    | refine HdF.at 9 rfl 4 [] (And.intro (by decide +kernel) (And.intro rfl ?_))
    | refine HdF.at 8 rfl 5 [] (And.intro (by decide +kernel) (And.intro rfl ?_))
    | refine HdF.at 7 rfl 6 [9, 10, 11, 12, 13] (And.intro (by decide +kernel) (And.intro rfl ?_))
    | refine HdF.at 6 rfl 7 [] (And.intro (by decide +kernel) (And.intro rfl ?_))
    | refine HdF.at 5 rfl 8 [9, 10, 11, 12, 13] (And.intro (by decide +kernel) (And.intro rfl ?_))
    | refine HdF.goAt 4 rfl ?_
    | refine OrdL.ord ?_
    | refine OrdF.take 11 (by decide +kernel) (And.intro rfl ?_)
    | refine OrdF.take 12 (by decide +kernel) (And.intro rfl ?_)
    | refine OrdF.all [13] (by decide +kernel) ?_
    | refine OrdF.all [10] (by decide +kernel) ?_
    | refine OrdF.all [9] (by decide +kernel) ?_
    | refine OrdF.fin (by decide +kernel) ?_
    | refine AllF.one _ ?_
    | refine AllF.cons _ _ ?_ ?_
    | refine OpH.quiet rfl ?_
    | refine OpH.heap ?_
    | refine GhF.go ?_
    | refine DrawG.old (DrawF.lex (by decide +kernel) ?_)
    | refine DrawG.old (DrawF.any ?_)
    | refine OrdF.take 0 (by decide +kernel) ?_
    | refine OrdF.take 1 (by decide +kernel) ?_
    | refine OrdF.take 2 (by decide +kernel) ?_
    | refine OrdF.take 4 (by decide +kernel) ?_
    | refine OrdF.take 5 (by decide +kernel) ?_
    | refine OrdF.take 7 (by decide +kernel) ?_
    | refine OrdF.take 11 (by decide +kernel) ?_
    | refine OrdF.take 12 (by decide +kernel) ?_
    | refine OrdF.all [13] (by decide +kernel) ?_
    | refine OrdF.all [3] (by decide +kernel) ?_
    | refine OrdF.all [10] (by decide +kernel) ?_
    | refine OrdF.all [3, 10] (by decide +kernel) ?_
    | refine OrdF.all [9] (by decide +kernel) ?_
    | refine OrdF.all [3, 9] (by decide +kernel) ?_
    | refine OrdF.all [6] (by decide +kernel) ?_
    | refine OrdF.all [3, 6] (by decide +kernel) ?_
    | refine OrdF.all [8] (by decide +kernel) ?_
    | refine OrdF.all [3, 8] (by decide +kernel) ?_
    | refine OrdF.all [6, 8] (by decide +kernel) ?_
    | refine OrdF.all [3, 6, 8] (by decide +kernel) ?_
    | refine OrdF.fin (by decide +kernel) ?_
    | refine AllF.one _ ?_
    | refine AllF.cons _ _ ?_ ?_
    | refine MkF.row ?_
    | refine EqP.mk _ (gm eI 0 rfl) ?_
    | refine EqP.mk _ (gm GEdge.cells default rfl) ?_
    | refine BndF.mk (fun _ => by omega) ?_
    | refine BndF.mk (fun _ => by simp only [List.length_map, List.length_cons, List.length_nil, List.length_append, List.length_set, List.length_replicate, iotaI_len]; omega) ?_
    | refine EqI.mk _ (fun _ => wrapI (by omega) (by omega)) ?_
    | refine EqI.mk _ (fun _ => rfl) ?_
    | refine EqN.mk _ (ln eI) ?_
    | refine EqN.mk _ (ln GEdge.cells) ?_
    | refine EqN.mk _ (Nat.zero_add _) ?_
    | refine EqN.mk _ (Int.toNat_natCast _) ?_
    | refine EqN.mk _ rfl ?_
    | refine EqL.mk _ (tk eI (by first | rfl | assumption | omega | (simp only [List.length_map, List.length_cons, List.length_nil, List.length_append, List.length_set, List.length_replicate, iotaI_len]; done) | (simp only [List.length_map, List.length_cons, List.length_nil, List.length_append, List.length_set, List.length_replicate, iotaI_len]; omega))) ?_
    | refine EqL.mk _ (st eI) ?_
    | refine EqL.mk _ (tk GEdge.cells (by first | rfl | assumption | omega | (simp only [List.length_map, List.length_cons, List.length_nil, List.length_append, List.length_set, List.length_replicate, iotaI_len]; done) | (simp only [List.length_map, List.length_cons, List.length_nil, List.length_append, List.length_set, List.length_replicate, iotaI_len]; omega))) ?_
    | refine EqL.mk _ (st GEdge.cells) ?_
    | refine EqL.mk (List.map eI [_, _]) rfl ?_
    | refine EqL.mk [] rfl ?_
    | refine EqL.mk [_] rfl ?_
    | refine EqL.mk _ rfl ?_
    | refine ArgF.is (c_impl_edge_joins ⟨_, _, _⟩ _ _) ?_
    | refine ArgQ.is (fun hG => c_impl_edge_joins ⟨_, _, _⟩ _ _) rfl rfl ?_
    | refine ArgF.is (c_impl_parallel _ (by first | assumption | omega) (by first | assumption | omega)) ?_
    | refine ArgQ.is (fun hG => c_impl_parallel _ (by first | assumption | omega) (by first | assumption | omega)) rfl rfl ?_
    | refine ArgF.is (c_slices_Delete_impl_edge_impl_edge _ _ _ (by first | assumption | omega) (by first | assumption | omega) (by first | assumption | omega) (by first | assumption | omega)) ?_
    | refine ArgQ.is (fun hG => c_slices_Delete_impl_edge_impl_edge _ _ _ (by first | assumption | omega) (by first | assumption | omega) (by first | assumption | omega) (by first | assumption | omega)) rfl rfl ?_
    | refine CallF.own (f := 221) [0] true ?_
    | refine CallF.mk (CallW.is [] true rfl ?_)
    | refine CallG.mk ?_
    | (refine CondF.mk (fun hb => ?_) (fun hb => ?_) <;> try simp only [forall_const, eq_self, not_true_eq_false, not_false_eq_true, or_false, false_or, or_self, or_true, true_or, and_true, true_and, and_false, false_and, decide_true, decide_false, Bool.not_true, Bool.not_false, decide_eq_true_eq, decide_eq_false_iff_not, ite_and_p, ite_or_p, Bool.decide_eq_true, Bool.and_eq_true, Bool.or_eq_true, Bool.not_eq_true', Bool.not_eq_false', Bool.and_eq_false_imp, Bool.or_eq_false_iff, bne_iff_ne, beq_iff_eq, bne_eq_false_iff_eq, beq_eq_false_iff_ne, gt_iff_lt, ge_iff_le, Int.not_lt, Int.not_le, ne_eq, Bool.true_eq_false, Bool.false_eq_true, reduceCtorEq, eta_Airway, eta_Door, eta_Fan, eta_Mine] at hb)
    | apply BackF.auto2
    | apply BackF.auto
    | refine BackB.mk ?_ ?_
    | refine RetF.auto (And.intro rfl ?_)
    | exact Is.mk rfl rfl
    | refine Is.mk ?_ rfl
    | refine Is.mk rfl ?_
    | refine Is.mk ?_ ?_
  all_goals try exact ()
  all_goals try dsimp only
  all_goals first
    | omega
    | exact ⟨by omega, by omega, fun j a b => absurd b (by omega)⟩
    | exact ⟨by omega, by omega, fun m a b => absurd b (by omega)⟩
    | (have e := sdS_t (f := f) (es := ys.take n) h0 k0 (by omega) (by rw [hg k (by omega) (by omega), hg i (by omega) (by omega)]; exact hb) k2 h2
       rw [e, e2, List.take_set, hg k (by omega) (by omega), hg i (by omega) (by omega)])
    | (refine ⟨by omega, by omega, fun m a b => ?_⟩
       by_cases e : m = k
       · subst e; rw [hg m (by omega) (by omega), hg i (by omega) (by omega)]; exact hb
       · exact k2 m a (by omega))
    | (refine ⟨by omega, by omega, fun j a b => ?_⟩
       by_cases e : j = i
       · subst e; exact side_n h0 (fun m c d => k2 m c (by omega))
       · exact h2 j a (by omega))
    | (rw [sdS_f (fun j a b => h2 j a (by omega))])
    | skip
end Go.Proofs.Ytjgllpildemkpaa
