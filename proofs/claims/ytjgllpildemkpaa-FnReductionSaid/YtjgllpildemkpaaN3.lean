/- Contracts of functions of the program, and what they compute. Conditions: those that each theorem states. -/
import Derived.Test.YtjgllpildemkpaaProg
import Derived.Test.YtjgllpildemkpaaN2
set_option linter.unusedVariables false
set_option linter.unusedSimpArgs false
namespace Go.Proofs.Ytjgllpildemkpaa
open Go.Av
attribute [local irreducible] Go.IntKind.wrap leastI rdZ rd rootI sumT selI lostE deadE cutE parI joinsE
set_option maxRecDepth 20000
set_option maxHeartbeats 8000000

/-! The reduction of a mine: its steps. -/
abbrev redO (x y : Int) (k n : Nat) (f : Bool) : OB := .fix [In x, In y, .osl k 0 n, Bo f]
abbrev RwE (ys : List GEdge) : OB := .row false .flat (GEdge.cells default) (ys.map GEdge.cells)
/-- what a step hands back: whether there was one; whether a sum was too great; the edges -/
inductive StepR (x y : Int) (L : Nat) (r : Bool × Bool × List GEdge) (rs : List AV) (ho : List OB) : Prop
  | mk (b f : Bool) (n : Nat) (ys : List GEdge) (h1 : rs = [Bo b]) (h2 : ho = [redO x y 1 n f, RwE ys]) (h3 : n ≤ ys.length ∧ ys.length = L) (h4 : (b, f, ys.take n) = r)
theorem ArgF.step {x y : Int} {L : Nat} {r : Bool × Bool × List GEdge} {k : Nat} {Pr : Program} [Kn Pr] {f : FuncId} {args : List AV} {hin : List OB} {K : List AV → List OB → Prop} (h : FnSem Pr f args hin (StepR x y L r))
    (hk : ∀ (b f : Bool) (n : Nat) (ys : List GEdge), (n ≤ ys.length ∧ ys.length = L) → (b, f, ys.take n) = r → K [Bo b] [redO x y 1 n f, RwE ys]) : ArgF k Pr f args hin K :=
  ⟨_, h, fun rs ho hR _ => by obtain ⟨b, f, n, ys, rfl, rfl, h3, h4⟩ := hR; exact hk b f n ys h3 h4⟩
theorem idxG_b {α : Type} {p : α → Bool} {xs : List α} : -1 ≤ idxG p xs ∧ idxG p xs < xs.length := by
  unfold idxG
  cases h : xs.findIdx? p with
  | none => dsimp only; omega
  | some i => rw [List.findIdx?_eq_some_iff_getElem] at h; obtain ⟨hi, _⟩ := h; dsimp only; omega
theorem idxG_l {p : GEdge → Bool} {es : List GEdge} : (idxG p es < 0 ∧ ¬leastI (fun i => p (gE es i)) 0 (es.length - 1) ≤ es.length - 1) ∨ (0 ≤ idxG p es ∧ leastI (fun i => p (gE es i)) 0 (es.length - 1) = idxG p es) := by
  unfold idxG
  cases h : es.findIdx? p with
  | none =>
    left
    rw [List.findIdx?_eq_none_iff] at h
    refine ⟨by decide, ?_⟩
    rw [leastI_no fun m h0 h1 => ?_]
    · omega
    · have hm : m.toNat < es.length := by omega
      unfold gE
      rw [List.getD_eq_getElem?_getD, List.getElem?_eq_getElem hm]
      exact h _ (List.getElem_mem hm)
  | some i =>
    right
    rw [List.findIdx?_eq_some_iff_getElem] at h
    obtain ⟨hi, hp, hlt⟩ := h
    dsimp only
    refine ⟨by omega, leastI_at (by omega) (by omega) ?_ fun m h0 h1 => ?_⟩
    · unfold gE
      rw [List.getD_eq_getElem?_getD, Int.toNat_natCast, List.getElem?_eq_getElem hi]
      exact hp
    · have hm : m.toNat < i := by omega
      unfold gE
      rw [List.getD_eq_getElem?_getD, List.getElem?_eq_getElem (by omega)]
      have := hlt m.toNat hm
      simpa using this
/-- the first edge that carries nothing is taken away -/
def rmS (t : Int → Bool) (f : Bool) (es : List GEdge) : Bool × Bool × List GEdge := if oneI t es ≤ es.length - 1 then (true, f, cutE es (oneI t es)) else (false, f, es)
theorem rmS_t {t : Int → Bool} {f : Bool} {es : List GEdge} (h : 0 ≤ idxG (lostE t es) es) : rmS t f es = (true, f, cutE es (idxG (lostE t es) es)) := by
  have e : oneI t es = idxG (lostE t es) es := by
    unfold oneI
    rcases idxG_l (p := lostE t es) (es := es) with q | q
    · omega
    · exact q.2
  have := (idxG_b (p := lostE t es) (xs := es)).2
  unfold rmS; rw [e, if_pos (by omega)]
theorem rmS_f {t : Int → Bool} {f : Bool} {es : List GEdge} (h : idxG (lostE t es) es < 0) : rmS t f es = (false, f, es) := by
  have e : ¬oneI t es ≤ es.length - 1 := by
    unfold oneI
    rcases idxG_l (p := lostE t es) (es := es) with q | q
    · exact q.2
    · omega
  unfold rmS; rw [if_neg e]
theorem c_impl_reduction_removeOne (x y : Int) (n : Nat) (ys : List GEdge) (f : Bool) (hn : n ≤ ys.length ∧ ys.length ≤ 24) : FnSem Try.prog 125 [.own 0 0] [redO x y 1 n f, RwE ys] (StepR x y ys.length (rmS (termT x y) f (ys.take n))) := by
  have hl : (ys.take n).length = n := by rw [List.length_take]; omega
  have hi := idxG_b (p := lostE (termT x y) (ys.take n)) (xs := ys.take n)
  rw [hl] at hi
  refine FnSem.walk (zs := zeroPV Try.prog) (by kernel_rfl) Try.func125 rfl Try.results125 (by kernel_rfl) (by kernel_rfl) (by kernel_rfl) fun hw hh => ?_
  obtain ⟨w0, _⟩ := hw
  first | replace w0 := wfr_Reduction w0 | skip
  repeat' first
    | refine And.intro rfl ?_
    | refine GdF.mk (fun h => h) ?_
    | refine And.intro (Nat.succ_ne_zero _) ?_
    | refine And.intro (Nat.le_of_ble_eq_true rfl) ?_
    | refine SeqF.run ?_
    | refine OpH.heap ?_
    | refine GhF.held 4 rfl [(8, [1]), (11, [0])] ?_
    | refine EqL.mk ((ys.take n).map GEdge.cells) (by rw [List.map_take]; rfl) ?_
    | refine ArgF.is (idxFnE (ys.take n) _ _ (lostE (termT x y) (ys.take n)) (fun e => c_impl_reduction_removeOne_1 x y (ys.take n) f e (by omega))) ?_
    | refine ArgQ.is (fun hG => idxFnE (ys.take n) _ _ (lostE (termT x y) (ys.take n)) (fun e => c_impl_reduction_removeOne_1 x y (ys.take n) f e (by omega))) rfl rfl ?_
    | refine CallF.own (f := 221) [0] false ?_
    | (refine ArgF.ret (c_slices_Delete_impl_edge_impl_edge n (idxG (lostE (termT x y) (ys.take n)) (ys.take n)) ys (by omega) (by omega) (by omega) (by omega)) ?_; rintro zs ⟨e1, e2⟩)
    | refine StepR.mk _ _ _ _ rfl rfl ?_ ?_
    | refine HdF.at 11 rfl 0 [9, 10, 11] (And.intro (by decide +kernel) (And.intro rfl ?_))
    | refine HdF.at 10 rfl 1 [2, 3, 4, 8, 9, 10, 11] (And.intro (by decide +kernel) (And.intro rfl ?_))
    | refine HdF.at 9 rfl 2 [] (And.intro (by decide +kernel) (And.intro rfl ?_))
    | refine HdF.at 8 rfl 3 [] (And.intro (by decide +kernel) (And.intro rfl ?_))
    | refine HdF.at 7 rfl 4 [8, 9, 10, 11] (And.intro (by decide +kernel) (And.intro rfl ?_))
    | refine HdF.at 6 rfl 5 [] (And.intro (by decide +kernel) (And.intro rfl ?_))
    | refine HdF.at 5 rfl 6 [] (And.intro (by decide +kernel) (And.intro rfl ?_))
    | refine HdF.at 4 rfl 7 [] (And.intro (by decide +kernel) (And.intro rfl ?_))
    | refine HdF.goAt 3 rfl ?_
    | refine OrdL.ord ?_
    | refine OrdF.take 9 (by decide +kernel) (And.intro rfl ?_)
    | refine OrdF.take 10 (by decide +kernel) (And.intro rfl ?_)
    | refine OrdF.all [11] (by decide +kernel) ?_
    | refine OrdF.all [8] (by decide +kernel) ?_
    | refine OrdF.fin (by decide +kernel) ?_
    | refine AllF.one _ ?_
    | refine AllF.cons _ _ ?_ ?_
    | refine OpH.quiet rfl ?_
    | refine OpH.heap ?_
    | refine GhF.go ?_
    | refine DrawG.old (DrawF.lex (by decide +kernel) ?_)
    | refine DrawG.old (DrawF.any ?_)
    | refine OrdF.take 5 (by decide +kernel) ?_
    | refine OrdF.take 6 (by decide +kernel) ?_
    | refine OrdF.take 7 (by decide +kernel) ?_
    | refine OrdF.take 2 (by decide +kernel) ?_
    | refine OrdF.take 3 (by decide +kernel) ?_
    | refine OrdF.take 9 (by decide +kernel) ?_
    | refine OrdF.take 10 (by decide +kernel) ?_
    | refine OrdF.all [11] (by decide +kernel) ?_
    | refine OrdF.all [0] (by decide +kernel) ?_
    | refine OrdF.all [8] (by decide +kernel) ?_
    | refine OrdF.all [0, 8] (by decide +kernel) ?_
    | refine OrdF.all [4] (by decide +kernel) ?_
    | refine OrdF.all [0, 4] (by decide +kernel) ?_
    | refine OrdF.all [1] (by decide +kernel) ?_
    | refine OrdF.all [0, 1] (by decide +kernel) ?_
    | refine OrdF.fin (by decide +kernel) ?_
    | refine AllF.one _ ?_
    | refine AllF.cons _ _ ?_ ?_
    | refine BndF.mk (fun _ => by omega) ?_
    | refine BndF.mk (fun _ => by simp only [List.length_map, List.length_cons, List.length_nil, List.length_append, List.length_set, List.length_replicate, iotaI_len]; omega) ?_
    | refine EqI.mk _ (fun _ => wrapI (by omega) (by omega)) ?_
    | refine EqI.mk _ (fun _ => rfl) ?_
    | refine EqL.mk _ (tk GEdge.cells (by first | rfl | assumption | omega | (simp only [List.length_map, List.length_cons, List.length_nil, List.length_append, List.length_set, List.length_replicate, iotaI_len]; done) | (simp only [List.length_map, List.length_cons, List.length_nil, List.length_append, List.length_set, List.length_replicate, iotaI_len]; omega))) ?_
    | refine EqL.mk _ (st GEdge.cells) ?_
    | refine EqL.mk [] rfl ?_
    | refine EqL.mk [_] rfl ?_
    | refine EqL.mk _ rfl ?_
    | refine ArgF.is (c_slices_IndexFunc_impl_edge_impl_edge ..) ?_
    | refine ArgQ.is (fun hG => c_slices_IndexFunc_impl_edge_impl_edge ..) rfl rfl ?_
    | refine ArgF.is (c_slices_Delete_impl_edge_impl_edge _ _ _ (by first | assumption | omega) (by first | assumption | omega) (by first | assumption | omega) (by first | assumption | omega)) ?_
    | refine ArgQ.is (fun hG => c_slices_Delete_impl_edge_impl_edge _ _ _ (by first | assumption | omega) (by first | assumption | omega) (by first | assumption | omega) (by first | assumption | omega)) rfl rfl ?_
    | refine CallF.own (f := 221) [0] true ?_
    | refine CallF.mk (CallW.is [] true rfl ?_)
    | refine CallG.mk ?_
    | (refine CondF.mk (fun hb => ?_) (fun hb => ?_) <;> try simp only [forall_const, eq_self, not_true_eq_false, not_false_eq_true, or_false, false_or, or_self, or_true, true_or, and_true, true_and, and_false, false_and, decide_true, decide_false, Bool.not_true, Bool.not_false, decide_eq_true_eq, decide_eq_false_iff_not, ite_and_p, ite_or_p, Bool.decide_eq_true, Bool.and_eq_true, Bool.or_eq_true, Bool.not_eq_true', Bool.not_eq_false', Bool.and_eq_false_imp, Bool.or_eq_false_iff, bne_iff_ne, beq_iff_eq, bne_eq_false_iff_eq, beq_eq_false_iff_ne, gt_iff_lt, ge_iff_le, Int.not_lt, Int.not_le, ne_eq, Bool.true_eq_false, Bool.false_eq_true, reduceCtorEq, eta_Airway, eta_Door, eta_Fan, eta_Mine] at hb)
    | refine RetF.auto (And.intro rfl ?_)
    | exact Is.mk rfl rfl
    | refine Is.mk ?_ rfl
    | refine Is.mk rfl ?_
    | refine Is.mk ?_ ?_
  all_goals try dsimp only
  all_goals first
    | omega
    | (rw [rmS_f (by assumption)])
    | (rw [rmS_t (by omega), e2])
    | skip
end Go.Proofs.Ytjgllpildemkpaa
