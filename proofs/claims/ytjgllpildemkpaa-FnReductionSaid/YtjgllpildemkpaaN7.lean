/- Contracts of functions of the program, and what they compute. Conditions: those that each theorem states. -/
import Derived.Test.YtjgllpildemkpaaProg
import Derived.Test.YtjgllpildemkpaaN5
import Derived.Test.YtjgllpildemkpaaN5p
import Derived.Test.YtjgllpildemkpaaD6
set_option linter.unusedVariables false
set_option linter.unusedSimpArgs false
namespace Go.Proofs.Ytjgllpildemkpaa
open Go.Av
attribute [local irreducible] Go.IntKind.wrap leastI rdZ rd rootI sumT selI lostE deadE cutE parI joinsE atE okMine stepE runE rmS sdS enS okE
set_option maxRecDepth 20000
set_option maxHeartbeats 16000000

/-! The reduction of a mine: the whole. -/
theorem runE_s {t : Int → Bool} {J x y k : Int} {n : Nat} {es L : List GEdge} (h : stepE t J es = some (false, L)) : runE t J x y (n + 1) es k = runE t J x y n L (k + 1) := by
  rw [runE, h]; rfl
theorem runE_f {t : Int → Bool} {J x y k : Int} {n : Nat} {es L : List GEdge} (h : stepE t J es = some (true, L)) : runE t J x y (n + 1) es k = (0, 0, 5) := by
  rw [runE, h]; rfl
theorem runE_n {t : Int → Bool} {J x y k : Int} {n : Nat} {es : List GEdge} (h : stepE t J es = none) : runE t J x y (n + 1) es k = if es.length = 1 ∧ joinsE (gE es 0) x y = true then ((gE es 0).resistance, k, 0) else (0, 0, 6) := by
  rw [runE, h]
def redOk (m : GMine) (rs : List Int) (x y : Int) : Bool := (decide (rs.length = m.airways.length) && rs.all (inR · 1 1000000)) && inJ m.junctions x && inJ m.junctions y && !decide (x = y)
def redM (m : GMine) (rs : List Int) (x y : Int) : Int × Int × Int := if okMine m = false then (0, 0, 1) else if redOk m rs x y = false then (0, 0, 2) else runE (termT x y) m.junctions x y (m.airways.length + 1) (edgesM m rs) 0
theorem edgesM_len {m : GMine} {rs : List Int} : (edgesM m rs).length = m.airways.length := by unfold edgesM; simp
theorem edgesM_get {m : GMine} {rs : List Int} {i : Nat} (h : i < m.airways.length) : (edgesM m rs).getD i default = ⟨(m.airways.getD i default).from_, (m.airways.getD i default).to, rs.getD i 0⟩ := by
  unfold edgesM
  rw [List.getD_eq_getElem?_getD, List.getElem?_map, List.getElem?_range h]; rfl
theorem edgesM_s {m : GMine} {rs : List Int} {i : Int} (h0 : 0 ≤ i) (h : i < m.airways.length) : (edgesM m rs).take (i + 1).toNat = (edgesM m rs).take i.toNat ++ [⟨(m.airways.getD i.toNat default).from_, (m.airways.getD i.toNat default).to, rs.getD i.toNat 0⟩] := by
  have hl := edgesM_len (m := m) (rs := rs)
  rw [show (i + 1).toNat = i.toNat + 1 by omega, List.take_succ_eq_append_getElem (by omega), ← edgesM_get (by omega)]
  rw [List.getD_eq_getElem?_getD, List.getElem?_eq_getElem (by omega)]; rfl
theorem edgesM_ok {m : GMine} {rs : List Int} {x y : Int} (h : okMine m = true) (h2 : redOk m rs x y = true) : okE m.junctions (edgesM m rs) := by
  have q := okMine_p h
  simp only [redOk, Bool.and_eq_true, decide_eq_true_eq] at h2
  have h3 := (all_iff (d := 0)).1 h2.1.1.1.2
  unfold okE
  refine ⟨by rw [edgesM_len]; exact q.2.1, fun e he => ?_⟩
  obtain ⟨i, hi, rfl⟩ := List.getElem_of_mem he
  rw [edgesM_len] at hi
  have e1 := edgesM_get (rs := rs) hi
  rw [List.getD_eq_getElem?_getD, List.getElem?_eq_getElem (by rw [edgesM_len]; exact hi)] at e1
  change (edgesM m rs)[i] = _ at e1
  rw [e1]
  have q2 := q.2.2 i (by omega)
  have q3 := inR_iff.1 (h3 i (by have := h2.1.1.1.1; omega))
  exact ⟨q2.2.1, q2.2.2, q3⟩
theorem step_ok1 {t : Int → Bool} {J : Int} {es L : List GEdge} {b f : Bool} (h : (b, f, L) = rmS t false es) (hb : b = false) (ho : okE J es) : okE J L := by
  subst hb; rw [(step_1f h).2.2]; exact ho
theorem step_ok2 {J : Int} {es L : List GEdge} {b f f0 : Bool} (h0 : f0 = false) (h : (b, f, L) = sdS f0 es) (hb : b = false) (ho : okE J es) : okE J L := by
  subst hb; subst h0; rw [(step_2f h).2.2]; exact ho
theorem rm_f {t : Int → Bool} {es L : List GEdge} {b f f0 : Bool} (h : (b, f, L) = rmS t f0 es) : f = f0 := by
  unfold rmS at h
  split at h <;> (injection h with _ h; injection h with h _)
theorem sd_f {es L : List GEdge} {b f f0 : Bool} (h : (b, f, L) = sdS f0 es) : f = f0 := by
  unfold sdS at h
  split at h <;> (injection h with _ h; injection h with h _)
theorem red_1 {t : Int → Bool} {J x y k : Int} {n n1 : Nat} {ys ys1 : List GEdge} {R : Int × Int × Int} (hs : stepE t J (ys.take n) = some (false, ys1.take n1)) (hl : (ys1.take n1).length + 1 = (ys.take n).length) (hn : n ≤ ys.length) (hn1 : n1 ≤ ys1.length) (h : runE t J x y (n + 1) (ys.take n) k = R) : n = n1 + 1 ∧ runE t J x y (n1 + 1) (ys1.take n1) (k + 1) = R := by
  rw [List.length_take, List.length_take] at hl
  obtain rfl : n = n1 + 1 := by omega
  rw [runE_s hs] at h
  exact ⟨rfl, h⟩
theorem red_2 {t : Int → Bool} {J : Int} {es L1 L2 : List GEdge} {f : Bool} (q1 : (false, false, L1) = rmS t false es) (q2 : (true, f, L2) = sdS false L1) : stepE t J es = some (f, L2) ∧ f = false ∧ ∀ J', okE J' es → okE J' L2 ∧ L2.length + 1 = es.length := by
  obtain ⟨a, _, c⟩ := step_1f q1
  subst c
  exact step_2 a q2
theorem red_3 {t : Int → Bool} {J : Int} {es L1 L2 L3 : List GEdge} {f : Bool} (hJ : 0 ≤ J) (ho : okE J es) (q1 : (false, false, L1) = rmS t false es) (q2 : (false, false, L2) = sdS false L1) (q3 : (true, f, L3) = enS t J false L2) : stepE t J es = some (f, L3) ∧ L3.length + 1 = es.length ∧ (f = false → okE J L3) := by
  obtain ⟨a, _, c⟩ := step_1f q1
  obtain ⟨a2, _, c2⟩ := step_2f q2
  subst c; subst c2
  exact step_3 hJ ho a a2 q3
theorem red_0 {t : Int → Bool} {J : Int} {es L1 L2 L3 : List GEdge} {f : Bool} (q1 : (false, false, L1) = rmS t false es) (q2 : (false, false, L2) = sdS false L1) (q3 : (false, f, L3) = enS t J false L2) : stepE t J es = none ∧ L3 = es := by
  obtain ⟨a, _, c⟩ := step_1f q1
  obtain ⟨a2, _, c2⟩ := step_2f q2
  subst c; subst c2
  have := step_3f a a2 q3
  exact ⟨this.1, this.2.2⟩
theorem redM_1 {m : GMine} {rs : List Int} {x y : Int} (h : okMine m = false) : redM m rs x y = (0, 0, 1) := by unfold redM; rw [if_pos h]
theorem redM_2 {m : GMine} {rs : List Int} {x y : Int} (h : okMine m = true) (h2 : redOk m rs x y = false) : redM m rs x y = (0, 0, 2) := by unfold redM; rw [if_neg (by rw [h]; decide), if_pos h2]
theorem redM_0 {m : GMine} {rs : List Int} {x y : Int} (h : okMine m = true) (h2 : redOk m rs x y = true) : redM m rs x y = runE (termT x y) m.junctions x y (m.airways.length + 1) (edgesM m rs) 0 := by unfold redM; rw [if_neg (by rw [h]; decide), if_neg (by rw [h2]; decide)]
theorem redOk_f {m : GMine} {rs : List Int} {x y : Int} (h : (((rs.length = m.airways.length → (rs.all fun x => inR x 1 1000000) = false) ∨ inJ m.junctions x = false) ∨ inJ m.junctions y = false) ∨ x = y) : redOk m rs x y = false := by
  unfold redOk
  rcases h with ((h | h) | h) | h
  · by_cases e : rs.length = m.airways.length
    · rw [h e]; simp
    · rw [decide_eq_false e]; simp
  · rw [h]; simp
  · rw [h]; simp
  · rw [decide_eq_true h]; simp
theorem redOk_t {m : GMine} {rs : List Int} {x y : Int} (h : ¬(((rs.length = m.airways.length → (rs.all fun x => inR x 1 1000000) = false) ∨ inJ m.junctions x = false) ∨ inJ m.junctions y = false) ∧ ¬x = y) : redOk m rs x y = true := by
  simp only [not_or] at h
  obtain ⟨⟨⟨h1, h2⟩, h3⟩, h4⟩ := h
  have h5 := Classical.not_imp.1 h1
  unfold redOk
  rw [decide_eq_true h5.1, decide_eq_false h4, show (rs.all fun x => inR x 1 1000000) = true by simpa using h5.2, show inJ m.junctions x = true by simpa using h2, show inJ m.junctions y = true by simpa using h3]; rfl
theorem red_end {t : Int → Bool} {J x y k : Int} {n n3 : Nat} {ys ys3 : List GEdge} {R : Int × Int × Int} (hs : stepE t J (ys.take n) = none ∧ ys3.take n3 = ys.take n) (hn : n ≤ ys.length) (hn3 : n3 ≤ ys3.length) (h : runE t J x y (n + 1) (ys.take n) k = R) : n3 = n ∧ R = if n3 = 1 ∧ joinsE (gE (ys3.take n3) 0) x y = true then ((gE (ys3.take n3) 0).resistance, k, 0) else (0, 0, 6) := by
  rw [runE_n hs.1] at h
  have e := congrArg List.length hs.2
  rw [List.length_take, List.length_take] at e
  rw [← h, hs.2, List.length_take, show min n ys.length = n by omega, show n3 = n by omega]
  exact ⟨rfl, rfl⟩
theorem gE_0 {ys : List GEdge} {n : Nat} (h : n = 1) (hn : n ≤ ys.length) : gE (ys.take n) 0 = ys.getD 0 default := by
  subst h
  unfold gE
  rw [show Int.toNat 0 = 0 by rfl, List.getD_eq_getElem?_getD, List.getD_eq_getElem?_getD, List.getElem?_take, if_pos (by omega)]
theorem c_impl_ReduceMine (m : GMine) (rs : List Int) (x y : Int) : FnSem Try.prog 31 [.p .any (.agg m.cells), Lx (LI rs), In x, In y] [] (Is [In (redM m rs x y).1, In (redM m rs x y).2.1, In (redM m rs x y).2.2] []) := by
  refine FnSem.walk (zs := zeroPV Try.prog) (by kernel_rfl) Try.func31 rfl Try.results31 (by kernel_rfl) (by kernel_rfl) (by kernel_rfl) fun hw hh => ?_
  obtain ⟨w0, w1, w2, w3, _⟩ := hw
  first | replace w0 := wf_Mine w0 | skip
  first | replace w1 := wf_LI w1 | skip
  first | replace w2 := wf_I w2 | skip
  first | replace w3 := wf_I w3 | skip
  repeat' first
    | refine And.intro rfl ?_
    | refine GdF.mk (fun h => h) ?_
    | refine And.intro (Nat.succ_ne_zero _) ?_
    | refine And.intro (Nat.le_of_ble_eq_true rfl) ?_
    | refine SeqF.run ?_
    | refine GhF.at 6 rfl [.nils 1 2 (GEdge.cells default), .old 2] ?_
    | refine OpH.heap ?_
    | refine GhF.held 9 rfl [(11, []), (12, [2]), (14, [1])] ?_
    | refine ArgF.is (c_impl_ValidMine m) ?_
    | refine ArgQ.is (fun hG => c_impl_ValidMine m) rfl rfl ?_
    | refine ArgF.is (c_impl_Mine_hasJunction m _ (by have := okMine_p (m := m) (by assumption); omega)) ?_
    | refine ArgQ.is (fun hG => c_impl_Mine_hasJunction m _ (by have := okMine_p (m := m) (by assumption); omega)) rfl rfl ?_
    | refine ArgF.is (c_impl_edge_joins (ys3.getD 0 default) _ _) ?_
    | refine ArgQ.is (fun hG => c_impl_edge_joins (ys3.getD 0 default) _ _) rfl rfl ?_
    | (exfalso; have e1 : ¬(n3 : Int) = 1 := (by simpa using hg); exact hb e1)
    | refine GdS.tt (by first | rfl | assumption) ?_
    | refine GdS.ff (by first | rfl | assumption) ?_
    | refine GdS.split (G := !((n3 : Int) != 1)) (fun hg => ?_) (fun hg => ?_)
    | refine GdF.mk (fun h => by first | exact h | rfl | (rw [hg] at h; exact h)) ?_
    | refine EqL.mk _ (sn GEdge.cells (v := ⟨(m.airways.getD i.toNat default).from_, (m.airways.getD i.toNat default).to, rs.getD i.toNat 0⟩) (by first | rfl | assumption | omega)) ?_
    | refine BndF.mk (fun _ => by have := (okMine_p h2).2.1; omega) ?_
    | refine BndF.mk (fun _ => by (try simp only [List.length_map]); have e3 : (n3 : Int) = 1 := (by first | (simpa using hg; done) | exact hb); omega) ?_
    | refine LoopF.at 7 rfl (LoopF.fix [1, 2, 3, 4, 11, 45, 46] (Int × Nat × List GEdge) (fun (i, n, es) => 0 ≤ i ∧ i ≤ m.airways.length ∧ okMine m = true ∧ redOk m rs x y = true ∧ n = es.length ∧ (n : Int) = i ∧ es = (edgesM m rs).take i.toNat) (fun (i, n, es) => [(47, In i)]) (fun (i, n, es) => [(1, .fix [In x, In y, .osl 2 0 n, Bo false]), (2, RwE es)]) (fun (i, n, es) => ((m.airways.length - i).toNat)) ((0, 0, [])) ?_)
    | (refine LoopB.of (T := Int × Nat × List GEdge) ?_ ?_; rotate_left; rintro ⟨i, n, es⟩ ⟨h0, h1, h2, h3, h4, h5, h6⟩; rotate_left)
    | refine LoopF.at 12 rfl (LoopF.fix [2, 3, 4, 11] (Int × Nat × List GEdge × Bool) (fun (k, n, ys, f) => 0 ≤ k ∧ f = false ∧ n ≤ ys.length ∧ ys.length = m.airways.length ∧ okE m.junctions (ys.take n) ∧ k + n = m.airways.length ∧ runE (termT x y) m.junctions x y (n + 1) (ys.take n) k = redM m rs x y ∧ m.airways.length ≤ 24 ∧ (0 ≤ m.junctions ∧ m.junctions ≤ 1000)) (fun (k, n, ys, f) => [(14, In k)]) (fun (k, n, ys, f) => [(1, .fix [In x, In y, .osl 2 0 n, Bo f]), (2, RwE ys)]) (fun (k, n, ys, f) => (n)) ((0, n, es, false)) ?_)
    | (refine LoopB.of (T := Int × Nat × List GEdge × Bool) ?_ ?_; rotate_left; rintro ⟨k, n, ys, f⟩ ⟨k0, k1, k2, k3, k4, k5, k6, k7, k8⟩; rotate_left)
    | refine CallF.own (f := 125) [0] false ?_
    | (refine ArgF.step (c_impl_reduction_removeOne x y n ys f (by omega)) ?_; intro b1 f1 n1 ys1 p1 q1; rw [k1] at q1; obtain rfl := rm_f q1; cases b1)
    | refine CallF.own (f := 126) [0] false ?_
    | (refine ArgF.step (c_impl_reduction_joinSides x y m.junctions n1 ys1 false (by omega) (step_ok1 q1 rfl k4)) ?_; intro b2 f2 n2 ys2 p2 q2; obtain rfl := sd_f q2; cases b2)
    | refine CallF.own (f := 127) [0] false ?_
    | (refine ArgF.step (c_impl_reduction_joinEnds x y m.junctions n2 ys2 false (by omega) k8 (step_ok2 rfl q2 rfl (step_ok1 q1 rfl k4))) ?_; intro b3 f3 n3 ys3 p3 q3; cases b3)
    | refine HdF.at 14 rfl 0 [] (And.intro (by decide +kernel) (And.intro rfl ?_))
    | refine HdF.at 13 rfl 1 [12, 13, 14] (And.intro (by decide +kernel) (And.intro rfl ?_))
    | refine HdF.at 12 rfl 2 [] (And.intro (by decide +kernel) (And.intro rfl ?_))
    | refine HdF.at 11 rfl 3 [10, 11, 12, 13, 14] (And.intro (by decide +kernel) (And.intro rfl ?_))
    | refine HdF.at 10 rfl 4 [] (And.intro (by decide +kernel) (And.intro rfl ?_))
    | refine HdF.at 9 rfl 5 [10, 11, 12, 13, 14] (And.intro (by decide +kernel) (And.intro rfl ?_))
    | refine HdF.at 8 rfl 6 [] (And.intro (by decide +kernel) (And.intro rfl ?_))
    | refine HdF.at 7 rfl 7 [] (And.intro (by decide +kernel) (And.intro rfl ?_))
    | refine HdF.at 6 rfl 8 [] (And.intro (by decide +kernel) (And.intro rfl ?_))
    | refine HdF.at 5 rfl 9 [10, 11, 12, 13, 14] (And.intro (by decide +kernel) (And.intro rfl ?_))
    | refine HdF.at 4 rfl 10 [] (And.intro (by decide +kernel) (And.intro rfl ?_))
    | refine HdF.goAt 3 rfl ?_
    | refine OrdL.ord ?_
    | refine OrdF.take 13 (by decide +kernel) (And.intro rfl ?_)
    | refine OrdF.all [14] (by decide +kernel) ?_
    | refine OrdF.all [12] (by decide +kernel) ?_
    | refine OrdF.all [11] (by decide +kernel) ?_
    | refine OrdF.fin (by decide +kernel) ?_
    | refine AllF.one _ ?_
    | refine AllF.cons _ _ ?_ ?_
    | refine OpH.quiet rfl ?_
    | refine OpH.heap ?_
    | refine GhF.go ?_
    | refine GdS.keep ?_
    | refine DrawG.old (DrawF.lex (by decide +kernel) ?_)
    | refine DrawG.old (DrawF.any ?_)
    | refine OrdF.take 0 (by decide +kernel) ?_
    | refine OrdF.take 2 (by decide +kernel) ?_
    | refine OrdF.take 4 (by decide +kernel) ?_
    | refine OrdF.take 6 (by decide +kernel) ?_
    | refine OrdF.take 7 (by decide +kernel) ?_
    | refine OrdF.take 8 (by decide +kernel) ?_
    | refine OrdF.take 10 (by decide +kernel) ?_
    | refine OrdF.take 13 (by decide +kernel) ?_
    | refine OrdF.all [14] (by decide +kernel) ?_
    | refine OrdF.all [12] (by decide +kernel) ?_
    | refine OrdF.all [1] (by decide +kernel) ?_
    | refine OrdF.all [11] (by decide +kernel) ?_
    | refine OrdF.all [1, 11] (by decide +kernel) ?_
    | refine OrdF.all [3] (by decide +kernel) ?_
    | refine OrdF.all [1, 3] (by decide +kernel) ?_
    | refine OrdF.all [5] (by decide +kernel) ?_
    | refine OrdF.all [1, 5] (by decide +kernel) ?_
    | refine OrdF.all [3, 5] (by decide +kernel) ?_
    | refine OrdF.all [1, 3, 5] (by decide +kernel) ?_
    | refine OrdF.all [9] (by decide +kernel) ?_
    | refine OrdF.all [1, 9] (by decide +kernel) ?_
    | refine OrdF.all [3, 9] (by decide +kernel) ?_
    | refine OrdF.all [1, 3, 9] (by decide +kernel) ?_
    | refine OrdF.all [5, 9] (by decide +kernel) ?_
    | refine OrdF.all [1, 5, 9] (by decide +kernel) ?_
    | refine OrdF.all [3, 5, 9] (by decide +kernel) ?_
    | refine OrdF.all [1, 3, 5, 9] (by decide +kernel) ?_
    | refine OrdF.fin (by decide +kernel) ?_
    | refine AllF.one _ ?_
    | refine AllF.cons _ _ ?_ ?_
    | refine MkF.row ?_
    | refine EqP.mk _ (gm GAirway.cells default rfl) ?_
    | refine EqP.mk _ (gm eI 0 rfl) ?_
    | refine EqP.mk _ (gm GEdge.cells default rfl) ?_
    | refine BndF.mk (fun _ => by omega) ?_
    | refine BndF.mk (fun _ => by simp only [List.length_map, List.length_cons, List.length_nil, List.length_append, List.length_set, List.length_replicate, iotaI_len]; omega) ?_
    | refine BndF.mk (fun hG => by simp only [forall_const, eq_self, not_true_eq_false, not_false_eq_true, or_false, false_or, or_self, or_true, true_or, and_true, true_and, and_false, false_and, decide_true, decide_false, Bool.not_true, Bool.not_false, decide_eq_true_eq, decide_eq_false_iff_not, ite_and_p, ite_or_p, Bool.decide_eq_true, Bool.and_eq_true, Bool.or_eq_true, Bool.not_eq_true', Bool.not_eq_false', Bool.and_eq_false_imp, Bool.or_eq_false_iff, bne_iff_ne, beq_iff_eq, bne_eq_false_iff_eq, beq_eq_false_iff_ne, gt_iff_lt, ge_iff_le, Int.not_lt, Int.not_le, ne_eq, Bool.true_eq_false, Bool.false_eq_true, reduceCtorEq, eta_Airway, eta_Door, eta_Fan, eta_Mine, bytes_nil] at hG; (try simp only [List.length_map]); omega) ?_
    | refine EqI.mk _ (fun _ => wrapI (by omega) (by omega)) ?_
    | refine EqI.mk _ (fun _ => rfl) ?_
    | refine FlF.keep ?_
    | refine EqN.mk _ (ln GAirway.cells) ?_
    | refine EqN.mk _ (ln eI) ?_
    | refine EqN.mk _ (ln GEdge.cells) ?_
    | refine EqN.mk _ (Nat.zero_add _) ?_
    | refine EqN.mk (_ + 1) rfl ?_
    | refine EqN.mk _ (Int.toNat_natCast _) ?_
    | refine EqN.mk _ rfl ?_
    | refine EqL.mk _ (sn0 GAirway.cells) ?_
    | refine EqL.mk _ (sn GAirway.cells (by first | rfl | assumption | omega | (simp only [List.length_map, List.length_cons, List.length_nil, List.length_append, List.length_set, List.length_replicate, iotaI_len]; done) | (simp only [List.length_map, List.length_cons, List.length_nil, List.length_append, List.length_set, List.length_replicate, iotaI_len]; omega))) ?_
    | refine EqL.mk _ (ap0 GAirway.cells) ?_
    | refine EqL.mk _ (ap GAirway.cells (by first | rfl | assumption | omega | (simp only [List.length_map, List.length_cons, List.length_nil, List.length_append, List.length_set, List.length_replicate, iotaI_len]; done) | (simp only [List.length_map, List.length_cons, List.length_nil, List.length_append, List.length_set, List.length_replicate, iotaI_len]; omega))) ?_
    | refine EqL.mk _ (tk GAirway.cells (by first | rfl | assumption | omega | (simp only [List.length_map, List.length_cons, List.length_nil, List.length_append, List.length_set, List.length_replicate, iotaI_len]; done) | (simp only [List.length_map, List.length_cons, List.length_nil, List.length_append, List.length_set, List.length_replicate, iotaI_len]; omega))) ?_
    | refine EqL.mk _ (st GAirway.cells) ?_
    | refine EqL.mk _ (sn0 eI) ?_
    | refine EqL.mk _ (sn eI (by first | rfl | assumption | omega | (simp only [List.length_map, List.length_cons, List.length_nil, List.length_append, List.length_set, List.length_replicate, iotaI_len]; done) | (simp only [List.length_map, List.length_cons, List.length_nil, List.length_append, List.length_set, List.length_replicate, iotaI_len]; omega))) ?_
    | refine EqL.mk _ (ap0 eI) ?_
    | refine EqL.mk _ (ap eI (by first | rfl | assumption | omega | (simp only [List.length_map, List.length_cons, List.length_nil, List.length_append, List.length_set, List.length_replicate, iotaI_len]; done) | (simp only [List.length_map, List.length_cons, List.length_nil, List.length_append, List.length_set, List.length_replicate, iotaI_len]; omega))) ?_
    | refine EqL.mk _ (tk eI (by first | rfl | assumption | omega | (simp only [List.length_map, List.length_cons, List.length_nil, List.length_append, List.length_set, List.length_replicate, iotaI_len]; done) | (simp only [List.length_map, List.length_cons, List.length_nil, List.length_append, List.length_set, List.length_replicate, iotaI_len]; omega))) ?_
    | refine EqL.mk _ (st eI) ?_
    | refine EqL.mk _ (sn0 GEdge.cells) ?_
    | refine EqL.mk _ (sn GEdge.cells (by first | rfl | assumption | omega | (simp only [List.length_map, List.length_cons, List.length_nil, List.length_append, List.length_set, List.length_replicate, iotaI_len]; done) | (simp only [List.length_map, List.length_cons, List.length_nil, List.length_append, List.length_set, List.length_replicate, iotaI_len]; omega))) ?_
    | refine EqL.mk _ (ap0 GEdge.cells) ?_
    | refine EqL.mk _ (ap GEdge.cells (by first | rfl | assumption | omega | (simp only [List.length_map, List.length_cons, List.length_nil, List.length_append, List.length_set, List.length_replicate, iotaI_len]; done) | (simp only [List.length_map, List.length_cons, List.length_nil, List.length_append, List.length_set, List.length_replicate, iotaI_len]; omega))) ?_
    | refine EqL.mk _ (tk GEdge.cells (by first | rfl | assumption | omega | (simp only [List.length_map, List.length_cons, List.length_nil, List.length_append, List.length_set, List.length_replicate, iotaI_len]; done) | (simp only [List.length_map, List.length_cons, List.length_nil, List.length_append, List.length_set, List.length_replicate, iotaI_len]; omega))) ?_
    | refine EqL.mk _ (st GEdge.cells) ?_
    | refine EqL.mk [] rfl ?_
    | refine EqL.mk [_] rfl ?_
    | refine EqL.mk _ rfl ?_
    | refine ArgF.is (c_impl_ValidMine ⟨_, _⟩) ?_
    | refine ArgQ.is (fun hG => c_impl_ValidMine ⟨_, _⟩) rfl rfl ?_
    | refine ArgF.is (c_impl_Mine_hasList ⟨_, _⟩ _ _ _) ?_
    | refine ArgQ.is (fun hG => c_impl_Mine_hasList ⟨_, _⟩ _ _ _) rfl rfl ?_
    | refine ArgF.is (c_impl_Mine_hasJunction ⟨_, _⟩ _ (by first | assumption | omega)) ?_
    | refine ArgQ.is (fun hG => c_impl_Mine_hasJunction ⟨_, _⟩ _ (by first | assumption | omega)) rfl rfl ?_
    | refine ArgQ.is (fun hG => c_impl_Mine_hasJunction ⟨_, _⟩ _ (by simp only [forall_const, eq_self, not_true_eq_false, not_false_eq_true, or_false, false_or, or_self, or_true, true_or, and_true, true_and, and_false, false_and, decide_true, decide_false, Bool.not_true, Bool.not_false, decide_eq_true_eq, decide_eq_false_iff_not, ite_and_p, ite_or_p, Bool.decide_eq_true, Bool.and_eq_true, Bool.or_eq_true, Bool.not_eq_true', Bool.not_eq_false', Bool.and_eq_false_imp, Bool.or_eq_false_iff, bne_iff_ne, beq_iff_eq, bne_eq_false_iff_eq, beq_eq_false_iff_ne, gt_iff_lt, ge_iff_le, Int.not_lt, Int.not_le, ne_eq, Bool.true_eq_false, Bool.false_eq_true, reduceCtorEq, eta_Airway, eta_Door, eta_Fan, eta_Mine, bytes_nil] at hG; omega)) rfl rfl ?_
    | refine ArgF.is (c_impl_reduction_removeOne _ _ _ _ _ (by first | assumption | omega)) ?_
    | refine ArgQ.is (fun hG => c_impl_reduction_removeOne _ _ _ _ _ (by first | assumption | omega)) rfl rfl ?_
    | refine ArgQ.is (fun hG => c_impl_reduction_removeOne _ _ _ _ _ (by simp only [forall_const, eq_self, not_true_eq_false, not_false_eq_true, or_false, false_or, or_self, or_true, true_or, and_true, true_and, and_false, false_and, decide_true, decide_false, Bool.not_true, Bool.not_false, decide_eq_true_eq, decide_eq_false_iff_not, ite_and_p, ite_or_p, Bool.decide_eq_true, Bool.and_eq_true, Bool.or_eq_true, Bool.not_eq_true', Bool.not_eq_false', Bool.and_eq_false_imp, Bool.or_eq_false_iff, bne_iff_ne, beq_iff_eq, bne_eq_false_iff_eq, beq_eq_false_iff_ne, gt_iff_lt, ge_iff_le, Int.not_lt, Int.not_le, ne_eq, Bool.true_eq_false, Bool.false_eq_true, reduceCtorEq, eta_Airway, eta_Door, eta_Fan, eta_Mine, bytes_nil] at hG; omega)) rfl rfl ?_
    | refine ArgF.is (c_impl_reduction_joinSides _ _ _ _ _ _ (by first | assumption | omega) (by first | assumption | omega)) ?_
    | refine ArgQ.is (fun hG => c_impl_reduction_joinSides _ _ _ _ _ _ (by first | assumption | omega) (by first | assumption | omega)) rfl rfl ?_
    | refine ArgQ.is (fun hG => c_impl_reduction_joinSides _ _ _ _ _ _ (by simp only [forall_const, eq_self, not_true_eq_false, not_false_eq_true, or_false, false_or, or_self, or_true, true_or, and_true, true_and, and_false, false_and, decide_true, decide_false, Bool.not_true, Bool.not_false, decide_eq_true_eq, decide_eq_false_iff_not, ite_and_p, ite_or_p, Bool.decide_eq_true, Bool.and_eq_true, Bool.or_eq_true, Bool.not_eq_true', Bool.not_eq_false', Bool.and_eq_false_imp, Bool.or_eq_false_iff, bne_iff_ne, beq_iff_eq, bne_eq_false_iff_eq, beq_eq_false_iff_ne, gt_iff_lt, ge_iff_le, Int.not_lt, Int.not_le, ne_eq, Bool.true_eq_false, Bool.false_eq_true, reduceCtorEq, eta_Airway, eta_Door, eta_Fan, eta_Mine, bytes_nil] at hG; omega) (by simp only [forall_const, eq_self, not_true_eq_false, not_false_eq_true, or_false, false_or, or_self, or_true, true_or, and_true, true_and, and_false, false_and, decide_true, decide_false, Bool.not_true, Bool.not_false, decide_eq_true_eq, decide_eq_false_iff_not, ite_and_p, ite_or_p, Bool.decide_eq_true, Bool.and_eq_true, Bool.or_eq_true, Bool.not_eq_true', Bool.not_eq_false', Bool.and_eq_false_imp, Bool.or_eq_false_iff, bne_iff_ne, beq_iff_eq, bne_eq_false_iff_eq, beq_eq_false_iff_ne, gt_iff_lt, ge_iff_le, Int.not_lt, Int.not_le, ne_eq, Bool.true_eq_false, Bool.false_eq_true, reduceCtorEq, eta_Airway, eta_Door, eta_Fan, eta_Mine, bytes_nil] at hG; omega)) rfl rfl ?_
    | refine ArgF.is (c_impl_reduction_joinEnds _ _ _ _ _ _ (by first | assumption | omega) (by first | assumption | omega) (by first | assumption | omega)) ?_
    | refine ArgQ.is (fun hG => c_impl_reduction_joinEnds _ _ _ _ _ _ (by first | assumption | omega) (by first | assumption | omega) (by first | assumption | omega)) rfl rfl ?_
    | refine ArgQ.is (fun hG => c_impl_reduction_joinEnds _ _ _ _ _ _ (by simp only [forall_const, eq_self, not_true_eq_false, not_false_eq_true, or_false, false_or, or_self, or_true, true_or, and_true, true_and, and_false, false_and, decide_true, decide_false, Bool.not_true, Bool.not_false, decide_eq_true_eq, decide_eq_false_iff_not, ite_and_p, ite_or_p, Bool.decide_eq_true, Bool.and_eq_true, Bool.or_eq_true, Bool.not_eq_true', Bool.not_eq_false', Bool.and_eq_false_imp, Bool.or_eq_false_iff, bne_iff_ne, beq_iff_eq, bne_eq_false_iff_eq, beq_eq_false_iff_ne, gt_iff_lt, ge_iff_le, Int.not_lt, Int.not_le, ne_eq, Bool.true_eq_false, Bool.false_eq_true, reduceCtorEq, eta_Airway, eta_Door, eta_Fan, eta_Mine, bytes_nil] at hG; omega) (by simp only [forall_const, eq_self, not_true_eq_false, not_false_eq_true, or_false, false_or, or_self, or_true, true_or, and_true, true_and, and_false, false_and, decide_true, decide_false, Bool.not_true, Bool.not_false, decide_eq_true_eq, decide_eq_false_iff_not, ite_and_p, ite_or_p, Bool.decide_eq_true, Bool.and_eq_true, Bool.or_eq_true, Bool.not_eq_true', Bool.not_eq_false', Bool.and_eq_false_imp, Bool.or_eq_false_iff, bne_iff_ne, beq_iff_eq, bne_eq_false_iff_eq, beq_eq_false_iff_ne, gt_iff_lt, ge_iff_le, Int.not_lt, Int.not_le, ne_eq, Bool.true_eq_false, Bool.false_eq_true, reduceCtorEq, eta_Airway, eta_Door, eta_Fan, eta_Mine, bytes_nil] at hG; omega) (by simp only [forall_const, eq_self, not_true_eq_false, not_false_eq_true, or_false, false_or, or_self, or_true, true_or, and_true, true_and, and_false, false_and, decide_true, decide_false, Bool.not_true, Bool.not_false, decide_eq_true_eq, decide_eq_false_iff_not, ite_and_p, ite_or_p, Bool.decide_eq_true, Bool.and_eq_true, Bool.or_eq_true, Bool.not_eq_true', Bool.not_eq_false', Bool.and_eq_false_imp, Bool.or_eq_false_iff, bne_iff_ne, beq_iff_eq, bne_eq_false_iff_eq, beq_eq_false_iff_ne, gt_iff_lt, ge_iff_le, Int.not_lt, Int.not_le, ne_eq, Bool.true_eq_false, Bool.false_eq_true, reduceCtorEq, eta_Airway, eta_Door, eta_Fan, eta_Mine, bytes_nil] at hG; omega)) rfl rfl ?_
    | refine ArgF.is (c_impl_edge_joins ⟨_, _, _⟩ _ _) ?_
    | refine ArgQ.is (fun hG => c_impl_edge_joins ⟨_, _, _⟩ _ _) rfl rfl ?_
    | refine CallF.own (f := 125) [0] true ?_
    | refine CallF.own (f := 126) [0] true ?_
    | refine CallF.own (f := 127) [0] true ?_
    | refine CallF.mk (CallW.is [] true rfl ?_)
    | refine CallG.mk ?_
    | (refine CondF.mk (fun hb => ?_) (fun hb => ?_) <;> try simp only [forall_const, eq_self, not_true_eq_false, not_false_eq_true, or_false, false_or, or_self, or_true, true_or, and_true, true_and, and_false, false_and, decide_true, decide_false, Bool.not_true, Bool.not_false, decide_eq_true_eq, decide_eq_false_iff_not, ite_and_p, ite_or_p, Bool.decide_eq_true, Bool.and_eq_true, Bool.or_eq_true, Bool.not_eq_true', Bool.not_eq_false', Bool.and_eq_false_imp, Bool.or_eq_false_iff, bne_iff_ne, beq_iff_eq, bne_eq_false_iff_eq, beq_eq_false_iff_ne, gt_iff_lt, ge_iff_le, Int.not_lt, Int.not_le, ne_eq, Bool.true_eq_false, Bool.false_eq_true, reduceCtorEq, eta_Airway, eta_Door, eta_Fan, eta_Mine] at hb)
    | apply BackF.auto4
    | apply BackF.auto3
    | refine BackB.mk ?_ ?_
    | refine RetF.auto (And.intro rfl ?_)
    | exact Is.mk rfl rfl
    | refine Is.mk ?_ rfl
    | refine Is.mk rfl ?_
    | refine Is.mk ?_ ?_
  all_goals try dsimp only
  all_goals try simp only [Bo, I, OB.row.injEq, AV.osl.injEq, eI_same,  List.cons.injEq, AV.p.injEq, PV.c.injEq, Value.int.injEq, Value.bool.injEq, and_true, true_and, ite_and_p, ite_or_p, Bool.decide_eq_true, eta_Airway, eta_Door, eta_Fan, eta_Mine]
  all_goals try dsimp only
  all_goals first
    | omega
    | (rw [redM_1 (by assumption)]; exact ⟨rfl, rfl, rfl⟩)
    | (rw [redM_2 (by assumption) (redOk_f (by assumption))]; exact ⟨rfl, rfl, rfl⟩)
    | exact ⟨by omega, by omega, by assumption, redOk_t (by assumption), rfl, rfl, by simp⟩
    | exact ⟨by omega, by omega, h2, h3, by simp [h4], by omega, by rw [edgesM_s h0 hb, ← h6]⟩
    | (have e : es = edgesM m rs := by rw [h6]; exact List.take_of_length_le (by rw [edgesM_len]; omega)
       have el := edgesM_len (m := m) (rs := rs)
       have eo := okMine_p h2
       subst e
       refine ⟨by omega, by omega, by omega, ?_, by omega, ?_, eo.2.1, by omega, by omega⟩
       · rw [List.take_of_length_le (by omega)]; exact edgesM_ok h2 h3
       · rw [List.take_of_length_le (by omega), show n + 1 = m.airways.length + 1 by omega]; exact (redM_0 h2 h3).symm)
    | (have q := red_3 (J := m.junctions) k8.1 k4 q1 q2 q3
       rw [runE_f (by rw [q.1, (show f3 = true by assumption)])] at k6
       rw [← k6]; exact ⟨rfl, rfl, rfl⟩)
    | (have q := step_1 (J := m.junctions) q1
       have q' := q.2.2 _ k4
       have r := red_1 q.1 q'.2 k2 p1.1 k6
       first | omega | exact ⟨by omega, p1.1, by omega, q'.1, by omega, r.2, k7, k8⟩)
    | (have q := red_2 (J := m.junctions) q1 q2
       have q' := q.2.2 _ k4
       have r := red_1 q.1 q'.2 k2 p2.1 k6
       first | omega | exact ⟨by omega, p2.1, by omega, q'.1, by omega, r.2, k7, k8⟩)
    | (have q := red_3 (J := m.junctions) k8.1 k4 q1 q2 q3
       have ef : f3 = false := by simpa using hb
       subst ef
       have r := red_1 q.1 q.2.1 k2 p3.1 k6
       first | omega | exact ⟨by omega, rfl, p3.1, by omega, q.2.2 rfl, by omega, r.2, k7, k8⟩)
    | (have r := red_end (red_0 q1 q2 q3) k2 p3.1 k6
       rw [r.2, if_neg (fun e => by omega)]; exact ⟨rfl, rfl, rfl⟩)
    | (have r := red_end (red_0 q1 q2 q3) k2 p3.1 k6
       rw [r.2, if_neg (fun e => by
         have e2 := e.2
         rw [gE_0 e.1 p3.1] at e2
         rcases hb with h | h
         · omega
         · rw [h] at e2; cases e2)]
       exact ⟨rfl, rfl, rfl⟩)
    | (have r := red_end (red_0 q1 q2 q3) k2 p3.1 k6
       have e1 : (n3 : Int) = 1 := by omega
       rw [r.2, gE_0 (by omega) p3.1, if_pos ⟨by omega, hb.2⟩]; exact ⟨rfl, rfl, rfl⟩)
    | skip
end Go.Proofs.Ytjgllpildemkpaa
