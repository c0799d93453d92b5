/- Contracts of functions of the program, and what they compute. Conditions: those that each theorem states. -/
import Derived.Test.YtjgllpildemkpaaProg
import Derived.Test.YtjgllpildemkpaaH2
import Derived.Test.YtjgllpildemkpaaK20
set_option linter.unusedVariables false
set_option linter.unusedSimpArgs false
namespace Go.Proofs.Ytjgllpildemkpaa
open Go.Av
attribute [local irreducible] Go.IntKind.wrap leastI rdZ rd rootI sumT
set_option maxRecDepth 20000
set_option maxHeartbeats 4000000

/-! Airways side by side: no more resistance than each of them. -/
theorem rd_anti' {x y y' : Int} (hx : 0 ≤ x) (hy : 0 < y) (h : y ≤ y') : rd x y' ≤ rd x y := by
  obtain ⟨k, rfl⟩ : ∃ k : Nat, y' = y + k := ⟨(y' - y).toNat, by omega⟩
  induction k with
  | zero => exact Int.le_of_eq (by rw [show y + ((0 : Nat) : Int) = y by omega])
  | succ k ih =>
    have h1 := rd_anti (x := x) (y := y + k) hx (by omega)
    rw [show y + (k : Int) + 1 = y + ((k + 1 : Nat) : Int) by omega] at h1
    exact Int.le_trans h1 (ih (by omega))
theorem rootI_lo {n b : Int} (h : b * b ≤ n) (h0 : 0 ≤ b) (h1 : b ≤ 3037000498) (hn : 0 ≤ n) : b ≤ rootI n := by
  unfold rootI
  rw [if_neg (by omega)]
  have h3 := leastI_r (p := rootP n) (lo := 0) (hi := 3037000498) (by omega)
  rcases Int.lt_or_le (leastI (rootP n) 0 3037000498) b with e | e
  · have h4 := (leastI_hit (p := rootP n) (lo := 0) (hi := 3037000498) (by omega) (by omega)).2.1
    have h5 := of_decide_eq_true h4
    have h6 := sq_le (a := leastI (rootP n) 0 3037000498 + 1) (b := b) (by omega) (by omega)
    omega
  · exact e
theorem condI_lo {x : Int} (h : 1 ≤ x ∧ x ≤ 1000000) : 100000 ≤ condI x := by
  have h2 : 10000000000 ≤ 10000000000000000 / x := (Int.le_ediv_iff_mul_le (by omega)).2 (by omega)
  exact rootI_lo (by omega) (by omega) (by omega) (by omega)
theorem condS_le1 {xs : List Int} (hx : resOk xs) {j : Nat} (hj : j < xs.length) : condI (xs.getD j 0) ≤ condS xs xs.length := by
  have h1 := condS_mono hx (j + 1) xs.length (by omega) (Nat.le_refl _)
  have h2 := condS_s (xs := xs) (i := j) (by omega) (by omega) hx
  have h3 := condS_b hx j (by omega)
  rw [show ((j + 1 : Nat) : Int) = (j : Int) + 1 by omega, h2, show Int.toNat j = j by omega] at h1
  omega
theorem condS_1 {x : Int} (h : 1 ≤ x ∧ x ≤ 1000000) : condS [x] 1 = condI x := by
  have hx : resOk [x] := fun j hj => by simp at hj; rw [show j = 0 by omega]; exact h
  have h2 := condS_s (xs := [x]) (i := 0) (by omega) (by simp) hx
  rw [show (0 : Int) + 1 = 1 by omega, condS_0] at h2
  rw [h2]; simp
theorem parI_1 {x : Int} (h : 1 ≤ x ∧ x ≤ 1000000) : parI [x] = max (rd 10000000000000000 (condI x * condI x)) 1 := by
  unfold parI
  rw [show (([x] : List Int).length : Int) = 1 by rfl, condS_1 h]
theorem parI_le1 {xs : List Int} (hx : resOk xs) {j : Nat} (hj : j < xs.length) : parI xs ≤ parI [xs.getD j 0] := by
  have hb := hx j (by omega)
  have h1 := condS_le1 hx hj
  have h2 := condI_lo hb
  rw [parI_1 hb]
  unfold parI
  have h3 := sq_le (a := condI (xs.getD j 0)) (b := condS xs xs.length) (by omega) h1
  have h4 := sq_le (a := 1) (b := condI (xs.getD j 0)) (by omega) (by omega)
  have h5 := rd_anti' (x := 10000000000000000) (by omega) (show 0 < condI (xs.getD j 0) * condI (xs.getD j 0) by omega) h3
  omega
theorem parI_b {xs : List Int} (hx : resOk xs) (hl : 1 ≤ xs.length) : 1 ≤ parI xs ∧ parI xs ≤ 1000000 := by
  have hb := hx 0 (by omega)
  have h1 := condS_le1 hx (j := 0) (by omega)
  have h2 := condI_lo hb
  have h3 := sq_le (a := 100000) (b := condS xs xs.length) (by omega) (by omega)
  have h4 := rd_hi (b := 1000000) (x := 10000000000000000) (y := condS xs xs.length * condS xs xs.length) (by omega) (by omega) (by omega)
  unfold parI
  omega
theorem resOk_2 {x y : Int} (hx : 1 ≤ x ∧ x ≤ 1000000) (hy : 1 ≤ y ∧ y ≤ 1000000) : resOk [x, y] := fun j hj => by
  simp at hj
  rcases (show j = 0 ∨ j = 1 by omega) with rfl | rfl
  · exact hx
  · exact hy

/-! The reduction of a mine. -/
def touch (j : Int) (e : GEdge) : Bool := decide (e.a = j) || decide (e.b = j)
def joinsE (e : GEdge) (a b : Int) : Bool := decide (e.a = a ∧ e.b = b) || decide (e.a = b ∧ e.b = a)
theorem joinsE_sym {e : GEdge} {a b : Int} : joinsE e a b = joinsE e b a := by unfold joinsE; rw [Bool.or_comm]
def gE (es : List GEdge) (i : Int) : GEdge := es.getD i.toNat default
def atE (es : List GEdge) (j : Int) : List Int := selI (fun i => touch j (gE es i)) es.length
def termT (x y j : Int) : Bool := decide (j = x) || decide (j = y)
theorem termT_sym {x y : Int} : termT x y = termT y x := by funext j; unfold termT; rw [Bool.or_comm]
def deadE (t : Int → Bool) (es : List GEdge) (j : Int) : Bool := !t j && decide ((atE es j).length = 1)
def lostE (t : Int → Bool) (es : List GEdge) (e : GEdge) : Bool := decide (e.a = e.b) || deadE t es e.a || deadE t es e.b
def cutE (es : List GEdge) (i : Int) : List GEdge := es.take i.toNat ++ es.drop (i.toNat + 1)
/-- the first edge that carries nothing; none: the length -/
def oneI (t : Int → Bool) (es : List GEdge) : Int := leastI (fun i => lostE t es (gE es i)) 0 (es.length - 1)
def sideK (es : List GEdge) (i : Int) : Int := leastI (fun k => joinsE (gE es k) (gE es i).a (gE es i).b) (i + 1) (es.length - 1)
def sideI (es : List GEdge) : Int := leastI (fun i => decide (sideK es i ≤ es.length - 1)) 0 (es.length - 1)
def sideS (es : List GEdge) : List GEdge := cutE (es.set (sideI es).toNat ⟨(gE es (sideI es)).a, (gE es (sideI es)).b, parI [(gE es (sideI es)).resistance, (gE es (sideK es (sideI es))).resistance]⟩) (sideK es (sideI es))
def endP (t : Int → Bool) (es : List GEdge) (j : Int) : Bool := !t j && decide ((atE es j).length = 2)
def endI (t : Int → Bool) (es : List GEdge) (J : Int) : Int := leastI (endP t es) 0 (J - 1)
def endX (es : List GEdge) (j : Int) : GEdge := gE es ((atE es j).getD 0 0)
def endY (es : List GEdge) (j : Int) : GEdge := gE es ((atE es j).getD 1 0)
def endS (es : List GEdge) (j : Int) : List GEdge := cutE (es.set ((atE es j).getD 0 0).toNat ⟨(endX es j).a + (endX es j).b - j, (endY es j).a + (endY es j).b - j, (endX es j).resistance + (endY es j).resistance⟩) ((atE es j).getD 1 0)
def endF (es : List GEdge) (j : Int) : Bool := decide ((endX es j).resistance + (endY es j).resistance > 1000000)
/-- one step: the network that is left, and whether a sum was too great -/
def stepE (t : Int → Bool) (J : Int) (es : List GEdge) : Option (Bool × List GEdge) :=
  if oneI t es ≤ es.length - 1 then some (false, cutE es (oneI t es))
  else if sideI es ≤ es.length - 1 then some (false, sideS es)
  else if endI t es J ≤ J - 1 then some (endF es (endI t es J), endS es (endI t es J))
  else none
def runE (t : Int → Bool) (J x y : Int) : Nat → List GEdge → Int → Int × Int × Int
  | 0, _, _ => (0, 0, 6)
  | n + 1, es, k => match stepE t J es with
    | none => if es.length = 1 ∧ joinsE (gE es 0) x y = true then ((gE es 0).resistance, k, 0) else (0, 0, 6)
    | some (full, es') => if full = true then (0, 0, 5) else runE t J x y n es' (k + 1)
def edgesM (m : GMine) (rs : List Int) : List GEdge := (List.range m.airways.length).map fun i => ⟨(m.airways.getD i default).from_, (m.airways.getD i default).to, rs.getD i 0⟩
def okE (J : Int) (es : List GEdge) : Prop := es.length ≤ 24 ∧ ∀ e ∈ es, (0 ≤ e.a ∧ e.a < J) ∧ (0 ≤ e.b ∧ e.b < J) ∧ 1 ≤ e.resistance ∧ e.resistance ≤ 1000000
theorem runE_sym {x y J : Int} : ∀ (n : Nat) (es : List GEdge) (k : Int), runE (termT x y) J x y n es k = runE (termT y x) J y x n es k
  | 0, _, _ => rfl
  | n + 1, es, k => by
    rw [runE, runE, termT_sym (x := x) (y := y), joinsE_sym (a := x) (b := y)]
    cases stepE (termT y x) J es with
    | none => rfl
    | some p =>
      obtain ⟨full, es'⟩ := p
      dsimp only
      have := runE_sym (x := x) (y := y) (J := J) n es' (k + 1)
      rw [termT_sym (x := x) (y := y)] at this
      rw [this]
end Go.Proofs.Ytjgllpildemkpaa
namespace Go.Proofs.Ytjgllpildemkpaa
open Go.Av
attribute [local irreducible] Go.IntKind.wrap leastI rdZ rd rootI sumT selI
set_option maxRecDepth 20000
set_option maxHeartbeats 8000000

/-! The reduction of a mine: its parts. -/
abbrev redC (x y : Int) (es : List GEdge) (full : Bool) : List PV := [.c (.int .i64 x), .c (.int .i64 y), .lst (GEdge.cells default) (es.map GEdge.cells), .c (.bool full)]
theorem c_impl_edge_joins (e : GEdge) (a b : Int) : FnSem Try.prog 128 [.p .any (.agg e.cells), In a, In b] [] (Is [Bo (joinsE e a b)] []) := by
  refine FnSem.walk (zs := zeroPV Try.prog) (by kernel_rfl) Try.func128 rfl Try.results128 (by kernel_rfl) (by kernel_rfl) (by kernel_rfl) fun hw hh => ?_
  obtain ⟨w0, w1, w2, _⟩ := hw
  first | replace w0 := wf_Edge w0 | skip
  first | replace w1 := wf_I w1 | skip
  first | replace w2 := wf_I w2 | skip
  repeat' first
    | refine And.intro rfl ?_
    | refine GdF.mk (fun h => h) ?_
    | refine And.intro (Nat.succ_ne_zero _) ?_
    | refine And.intro (Nat.le_of_ble_eq_true rfl) ?_
    | refine SeqF.run ?_
    | refine GhF.go ?_
    | refine GdS.keep ?_
    | (refine CondF.mk (fun hb => ?_) (fun hb => ?_) <;> try simp only [forall_const, eq_self, not_true_eq_false, not_false_eq_true, or_false, false_or, or_self, or_true, true_or, and_true, true_and, and_false, false_and, decide_true, decide_false, Bool.not_true, Bool.not_false, decide_eq_true_eq, decide_eq_false_iff_not, ite_and_p, ite_or_p, Bool.decide_eq_true, Bool.and_eq_true, Bool.or_eq_true, Bool.not_eq_true', Bool.not_eq_false', Bool.and_eq_false_imp, Bool.or_eq_false_iff, bne_iff_ne, beq_iff_eq, bne_eq_false_iff_eq, beq_eq_false_iff_ne, gt_iff_lt, ge_iff_le, Int.not_lt, Int.not_le, ne_eq, Bool.true_eq_false, Bool.false_eq_true, reduceCtorEq, eta_Airway, eta_Door, eta_Fan, eta_Mine] at hb)
    | refine RetF.auto (And.intro rfl ?_)
    | exact Is.mk rfl rfl
    | refine Is.mk ?_ rfl
    | refine Is.mk rfl ?_
    | refine Is.mk ?_ ?_
  all_goals try dsimp only
  all_goals try simp only [Bo, I, OB.row.injEq, AV.osl.injEq, eI_same,  List.cons.injEq, AV.p.injEq, PV.c.injEq, Value.int.injEq, Value.bool.injEq, and_true, true_and, ite_and_p, ite_or_p, Bool.decide_eq_true, eta_Airway, eta_Door, eta_Fan, eta_Mine]
  · unfold joinsE; rw [Bool.eq_iff_iff]; simp
theorem touch_t {es : List GEdge} {i j : Int} (h : (es.getD i.toNat default).a = j ∨ (es.getD i.toNat default).b = j) : touch j (gE es i) = true := by
  unfold touch gE; rw [Bool.or_eq_true, decide_eq_true_eq, decide_eq_true_eq]; exact h
theorem touch_f {es : List GEdge} {i j : Int} (h : ¬(es.getD i.toNat default).a = j ∧ ¬(es.getD i.toNat default).b = j) : touch j (gE es i) = false := by
  unfold touch gE; rw [decide_eq_false h.1, decide_eq_false h.2]; rfl
theorem c_impl_reduction_at (x y j : Int) (es : List GEdge) (f : Bool) (hl : es.length ≤ 1000) : FnSem Try.prog 222 [.p .any (.ref (redC x y es f)), In j] [] (Is [.osl 0 0 (atE es j).length] [Rw .flat (eI 0) ((atE es j).map eI)]) := by
  refine FnSem.walk (zs := zeroPV Try.prog) (by kernel_rfl) Try.func222 rfl Try.results222 (by kernel_rfl) (by kernel_rfl) (by kernel_rfl) fun hw hh => ?_
  obtain ⟨w0, w1, _⟩ := hw
  first | replace w0 := wfr_Reduction w0 | skip
  first | replace w1 := wf_I w1 | skip
  repeat' first
    | refine And.intro rfl ?_
    | refine GdF.mk (fun h => h) ?_
    | refine And.intro (Nat.succ_ne_zero _) ?_
    | refine And.intro (Nat.le_of_ble_eq_true rfl) ?_
    | refine SeqF.run ?_
    | refine LoopF.at 3 rfl (LoopF.fix [1, 11, 12] (Int × Nat × List Int) (fun (i, n, xs) => 0 ≤ i ∧ i ≤ es.length ∧ n = xs.length ∧ n ≤ i ∧ xs = selI (fun i => touch j (gE es i)) i.toNat) (fun (i, n, xs) => [(5, .osl 0 0 n), (13, In i)]) (fun (i, n, xs) => [(0, Rw .flat (eI 0) (xs.map eI))]) (fun (i, n, xs) => ((es.length - i).toNat)) ((0, 0, [])) ?_)
    | (refine LoopB.of (T := Int × Nat × List Int) ?_ ?_; rotate_left; rintro ⟨i, n, xs⟩ ⟨h0, h1, h2, h4, h3⟩; rotate_left)
    | refine GhF.go ?_
    | refine GdS.keep ?_
    | refine MkF.row ?_
    | refine EqP.mk _ (gm GEdge.cells default rfl) ?_
    | refine EqP.mk _ (gm eI 0 rfl) ?_
    | refine BndF.mk (fun _ => by omega) ?_
    | refine BndF.mk (fun _ => by simp only [List.length_map, List.length_cons, List.length_nil, List.length_append, List.length_set, List.length_replicate, iotaI_len]; omega) ?_
    | refine BndF.mk (fun hG => by simp only [forall_const, eq_self, not_true_eq_false, not_false_eq_true, or_false, false_or, or_self, or_true, true_or, and_true, true_and, and_false, false_and, decide_true, decide_false, Bool.not_true, Bool.not_false, decide_eq_true_eq, decide_eq_false_iff_not, ite_and_p, ite_or_p, Bool.decide_eq_true, Bool.and_eq_true, Bool.or_eq_true, Bool.not_eq_true', Bool.not_eq_false', Bool.and_eq_false_imp, Bool.or_eq_false_iff, bne_iff_ne, beq_iff_eq, bne_eq_false_iff_eq, beq_eq_false_iff_ne, gt_iff_lt, ge_iff_le, Int.not_lt, Int.not_le, ne_eq, Bool.true_eq_false, Bool.false_eq_true, reduceCtorEq, eta_Airway, eta_Door, eta_Fan, eta_Mine, bytes_nil] at hG; (try simp only [List.length_map]); omega) ?_
    | refine EqI.mk _ (fun _ => wrapI (by omega) (by omega)) ?_
    | refine EqI.mk _ (fun _ => rfl) ?_
    | refine FlF.keep ?_
    | refine EqN.mk _ (ln GEdge.cells) ?_
    | refine EqN.mk _ (ln eI) ?_
    | refine EqN.mk _ (Nat.zero_add _) ?_
    | refine EqN.mk (_ + 1) rfl ?_
    | refine EqN.mk _ (Int.toNat_natCast _) ?_
    | refine EqN.mk _ rfl ?_
    | refine EqL.mk _ (sn0 GEdge.cells) ?_
    | refine EqL.mk _ (sn GEdge.cells (by first | rfl | assumption | omega | (simp only [List.length_map, List.length_cons, List.length_nil, List.length_append, List.length_set, List.length_replicate, iotaI_len]; done) | (simp only [List.length_map, List.length_cons, List.length_nil, List.length_append, List.length_set, List.length_replicate, iotaI_len]; omega))) ?_
    | refine EqL.mk _ (ap0 GEdge.cells) ?_
    | refine EqL.mk _ (ap GEdge.cells (by first | rfl | assumption | omega | (simp only [List.length_map, List.length_cons, List.length_nil, List.length_append, List.length_set, List.length_replicate, iotaI_len]; done) | (simp only [List.length_map, List.length_cons, List.length_nil, List.length_append, List.length_set, List.length_replicate, iotaI_len]; omega))) ?_
    | refine EqL.mk _ (tk GEdge.cells (by first | rfl | assumption | omega | (simp only [List.length_map, List.length_cons, List.length_nil, List.length_append, List.length_set, List.length_replicate, iotaI_len]; done) | (simp only [List.length_map, List.length_cons, List.length_nil, List.length_append, List.length_set, List.length_replicate, iotaI_len]; omega))) ?_
    | refine EqL.mk _ (st GEdge.cells) ?_
    | refine EqL.mk _ (dt GEdge.cells) ?_
    | refine EqL.mk _ (sn0 eI) ?_
    | refine EqL.mk _ (sn eI (by first | rfl | assumption | omega | (simp only [List.length_map, List.length_cons, List.length_nil, List.length_append, List.length_set, List.length_replicate, iotaI_len]; done) | (simp only [List.length_map, List.length_cons, List.length_nil, List.length_append, List.length_set, List.length_replicate, iotaI_len]; omega))) ?_
    | refine EqL.mk _ (ap0 eI) ?_
    | refine EqL.mk _ (ap eI (by first | rfl | assumption | omega | (simp only [List.length_map, List.length_cons, List.length_nil, List.length_append, List.length_set, List.length_replicate, iotaI_len]; done) | (simp only [List.length_map, List.length_cons, List.length_nil, List.length_append, List.length_set, List.length_replicate, iotaI_len]; omega))) ?_
    | refine EqL.mk _ (tk eI (by first | rfl | assumption | omega | (simp only [List.length_map, List.length_cons, List.length_nil, List.length_append, List.length_set, List.length_replicate, iotaI_len]; done) | (simp only [List.length_map, List.length_cons, List.length_nil, List.length_append, List.length_set, List.length_replicate, iotaI_len]; omega))) ?_
    | refine EqL.mk _ (st eI) ?_
    | refine EqL.mk _ (dt eI) ?_
    | refine EqL.mk [] rfl ?_
    | refine EqL.mk [_] rfl ?_
    | refine EqL.mk _ rfl ?_
    | (refine CondF.mk (fun hb => ?_) (fun hb => ?_) <;> try simp only [forall_const, eq_self, not_true_eq_false, not_false_eq_true, or_false, false_or, or_self, or_true, true_or, and_true, true_and, and_false, false_and, decide_true, decide_false, Bool.not_true, Bool.not_false, decide_eq_true_eq, decide_eq_false_iff_not, ite_and_p, ite_or_p, Bool.decide_eq_true, Bool.and_eq_true, Bool.or_eq_true, Bool.not_eq_true', Bool.not_eq_false', Bool.and_eq_false_imp, Bool.or_eq_false_iff, bne_iff_ne, beq_iff_eq, bne_eq_false_iff_eq, beq_eq_false_iff_ne, gt_iff_lt, ge_iff_le, Int.not_lt, Int.not_le, ne_eq, Bool.true_eq_false, Bool.false_eq_true, reduceCtorEq, eta_Airway, eta_Door, eta_Fan, eta_Mine] at hb)
    | apply BackF.auto3
    | refine BackB.mk ?_ ?_
    | refine RetF.auto (And.intro rfl ?_)
    | exact Is.mk rfl rfl
    | refine Is.mk ?_ rfl
    | refine Is.mk rfl ?_
    | refine Is.mk ?_ ?_
  all_goals try dsimp only
  all_goals try simp only [Bo, I, OB.row.injEq, AV.osl.injEq, eI_same,  List.cons.injEq, AV.p.injEq, PV.c.injEq, Value.int.injEq, Value.bool.injEq, and_true, true_and, ite_and_p, ite_or_p, Bool.decide_eq_true, eta_Airway, eta_Door, eta_Fan, eta_Mine]
  all_goals first
    | omega
    | exact ⟨by omega, by omega, rfl, by omega, selI_0.symm⟩
    | exact ⟨by omega, by omega, by simp; omega, by omega, by rw [selI_s h0 (touch_t (by simpa using hb)), ← h3]⟩
    | exact ⟨by omega, by omega, h2, by omega, by rw [selI_n h0 (touch_f (by simpa using hb)), ← h3]⟩
    | (unfold atE; rw [h2, h3, show i.toNat = es.length by omega])
    | (unfold atE; rw [h3, show i.toNat = es.length by omega])
theorem c_impl_reduction_isDead (x y j : Int) (es : List GEdge) (f : Bool) (hl : es.length ≤ 1000) : FnSem Try.prog 220 [.p .any (.ref (redC x y es f)), In j] [] (Is [Bo (deadE (termT x y) es j)] []) := by
  refine FnSem.walk (zs := zeroPV Try.prog) (by kernel_rfl) Try.func220 rfl Try.results220 (by kernel_rfl) (by kernel_rfl) (by kernel_rfl) fun hw hh => ?_
  obtain ⟨w0, w1, _⟩ := hw
  first | replace w0 := wfr_Reduction w0 | skip
  first | replace w1 := wf_I w1 | skip
  repeat' first
    | refine And.intro rfl ?_
    | refine GdF.mk (fun h => h) ?_
    | refine And.intro (Nat.succ_ne_zero _) ?_
    | refine And.intro (Nat.le_of_ble_eq_true rfl) ?_
    | refine SeqF.run ?_
    | refine GdS.tt (by first | rfl | assumption) ?_
    | refine GdS.ff (by first | rfl | assumption) ?_
    | refine GdS.split (fun hg => ?_) (fun hg => ?_)
    | refine GdF.mk (fun h => by first | exact h | rfl | (rw [hg] at h; exact h)) ?_
    | refine ArgF.is (c_impl_reduction_at x y j es f hl) ?_
    | refine ArgQ.is (fun hG => c_impl_reduction_at x y j es f hl) rfl rfl ?_
    | refine GhF.go ?_
    | refine GdS.keep ?_
    | refine BndF.mk (fun _ => by omega) ?_
    | refine BndF.mk (fun _ => by simp only [List.length_map, List.length_cons, List.length_nil, List.length_append, List.length_set, List.length_replicate, iotaI_len]; omega) ?_
    | refine BndF.mk (fun hG => by simp only [forall_const, eq_self, not_true_eq_false, not_false_eq_true, or_false, false_or, or_self, or_true, true_or, and_true, true_and, and_false, false_and, decide_true, decide_false, Bool.not_true, Bool.not_false, decide_eq_true_eq, decide_eq_false_iff_not, ite_and_p, ite_or_p, Bool.decide_eq_true, Bool.and_eq_true, Bool.or_eq_true, Bool.not_eq_true', Bool.not_eq_false', Bool.and_eq_false_imp, Bool.or_eq_false_iff, bne_iff_ne, beq_iff_eq, bne_eq_false_iff_eq, beq_eq_false_iff_ne, gt_iff_lt, ge_iff_le, Int.not_lt, Int.not_le, ne_eq, Bool.true_eq_false, Bool.false_eq_true, reduceCtorEq, eta_Airway, eta_Door, eta_Fan, eta_Mine, bytes_nil] at hG; (try simp only [List.length_map]); omega) ?_
    | refine EqN.mk _ (ln eI) ?_
    | refine EqL.mk _ (tk eI (by first | rfl | assumption | omega | (simp only [List.length_map, List.length_cons, List.length_nil, List.length_append, List.length_set, List.length_replicate, iotaI_len]; done) | (simp only [List.length_map, List.length_cons, List.length_nil, List.length_append, List.length_set, List.length_replicate, iotaI_len]; omega))) ?_
    | refine EqL.mk [] rfl ?_
    | refine EqL.mk [_] rfl ?_
    | refine EqL.mk _ rfl ?_
    | refine ArgF.is (c_impl_reduction_at _ _ _ _ _ (by first | assumption | omega)) ?_
    | refine ArgQ.is (fun hG => c_impl_reduction_at _ _ _ _ _ (by first | assumption | omega)) rfl rfl ?_
    | refine ArgQ.is (fun hG => c_impl_reduction_at _ _ _ _ _ (by simp only [forall_const, eq_self, not_true_eq_false, not_false_eq_true, or_false, false_or, or_self, or_true, true_or, and_true, true_and, and_false, false_and, decide_true, decide_false, Bool.not_true, Bool.not_false, decide_eq_true_eq, decide_eq_false_iff_not, ite_and_p, ite_or_p, Bool.decide_eq_true, Bool.and_eq_true, Bool.or_eq_true, Bool.not_eq_true', Bool.not_eq_false', Bool.and_eq_false_imp, Bool.or_eq_false_iff, bne_iff_ne, beq_iff_eq, bne_eq_false_iff_eq, beq_eq_false_iff_ne, gt_iff_lt, ge_iff_le, Int.not_lt, Int.not_le, ne_eq, Bool.true_eq_false, Bool.false_eq_true, reduceCtorEq, eta_Airway, eta_Door, eta_Fan, eta_Mine, bytes_nil] at hG; omega)) rfl rfl ?_
    | refine CallF.mk (CallW.is [] true rfl ?_)
    | refine CallG.mk ?_
    | (refine CondF.mk (fun hb => ?_) (fun hb => ?_) <;> try simp only [forall_const, eq_self, not_true_eq_false, not_false_eq_true, or_false, false_or, or_self, or_true, true_or, and_true, true_and, and_false, false_and, decide_true, decide_false, Bool.not_true, Bool.not_false, decide_eq_true_eq, decide_eq_false_iff_not, ite_and_p, ite_or_p, Bool.decide_eq_true, Bool.and_eq_true, Bool.or_eq_true, Bool.not_eq_true', Bool.not_eq_false', Bool.and_eq_false_imp, Bool.or_eq_false_iff, bne_iff_ne, beq_iff_eq, bne_eq_false_iff_eq, beq_eq_false_iff_ne, gt_iff_lt, ge_iff_le, Int.not_lt, Int.not_le, ne_eq, Bool.true_eq_false, Bool.false_eq_true, reduceCtorEq, eta_Airway, eta_Door, eta_Fan, eta_Mine] at hb)
    | refine RetF.auto (And.intro rfl ?_)
    | exact Is.mk rfl rfl
    | refine Is.mk ?_ rfl
    | refine Is.mk rfl ?_
    | refine Is.mk ?_ ?_
  all_goals try dsimp only
  all_goals try simp only [Bo, I, OB.row.injEq, AV.osl.injEq, eI_same,  List.cons.injEq, AV.p.injEq, PV.c.injEq, Value.int.injEq, Value.bool.injEq, and_true, true_and, ite_and_p, ite_or_p, Bool.decide_eq_true, eta_Airway, eta_Door, eta_Fan, eta_Mine]
  all_goals (unfold deadE termT; by_cases e1 : j = x <;> by_cases e2 : j = y <;> simp_all <;> (rw [Bool.eq_iff_iff]; simp; omega))
theorem c_impl_reduction_removeOne_1 (x y : Int) (es : List GEdge) (f : Bool) (e : GEdge) (hl : es.length ≤ 1000) : FnSem Try.prog 219 [.p .any (.agg e.cells), .p .any (.ref [.ref (redC x y es f)])] [] (Is [Bo (lostE (termT x y) es e)] []) := by
  refine FnSem.walk (zs := zeroPV Try.prog) (by kernel_rfl) Try.func219 rfl Try.results219 (by kernel_rfl) (by kernel_rfl) (by kernel_rfl) fun hw hh => ?_
  obtain ⟨w0, w1, _⟩ := hw
  first | replace w0 := wf_Edge w0 | skip
  first | replace w1 := wf_I w1 | replace w1 := wf_Y w1 | replace w1 := wf_S w1 | replace w1 := wf_LI w1 | replace w1 := wf_LY w1 | replace w1 := wf_LLI w1 | replace w1 := wf_Ls w1 | skip
  repeat' first
    | refine And.intro rfl ?_
    | refine GdF.mk (fun h => h) ?_
    | refine And.intro (Nat.succ_ne_zero _) ?_
    | refine And.intro (Nat.le_of_ble_eq_true rfl) ?_
    | refine SeqF.run ?_
    | refine ArgF.is (c_impl_reduction_isDead x y _ es f hl) ?_
    | refine ArgQ.is (fun hG => c_impl_reduction_isDead x y _ es f hl) rfl rfl ?_
    | refine GhF.go ?_
    | refine GdS.keep ?_
    | refine BndF.mk (fun _ => by omega) ?_
    | refine BndF.mk (fun _ => by simp only [List.length_map, List.length_cons, List.length_nil, List.length_append, List.length_set, List.length_replicate, iotaI_len]; omega) ?_
    | refine BndF.mk (fun hG => by simp only [forall_const, eq_self, not_true_eq_false, not_false_eq_true, or_false, false_or, or_self, or_true, true_or, and_true, true_and, and_false, false_and, decide_true, decide_false, Bool.not_true, Bool.not_false, decide_eq_true_eq, decide_eq_false_iff_not, ite_and_p, ite_or_p, Bool.decide_eq_true, Bool.and_eq_true, Bool.or_eq_true, Bool.not_eq_true', Bool.not_eq_false', Bool.and_eq_false_imp, Bool.or_eq_false_iff, bne_iff_ne, beq_iff_eq, bne_eq_false_iff_eq, beq_eq_false_iff_ne, gt_iff_lt, ge_iff_le, Int.not_lt, Int.not_le, ne_eq, Bool.true_eq_false, Bool.false_eq_true, reduceCtorEq, eta_Airway, eta_Door, eta_Fan, eta_Mine, bytes_nil] at hG; (try simp only [List.length_map]); omega) ?_
    | refine EqL.mk [] rfl ?_
    | refine EqL.mk [_] rfl ?_
    | refine EqL.mk _ rfl ?_
    | refine ArgF.is (c_impl_reduction_isDead _ _ _ _ _ (by first | assumption | omega)) ?_
    | refine ArgQ.is (fun hG => c_impl_reduction_isDead _ _ _ _ _ (by first | assumption | omega)) rfl rfl ?_
    | refine ArgQ.is (fun hG => c_impl_reduction_isDead _ _ _ _ _ (by simp only [forall_const, eq_self, not_true_eq_false, not_false_eq_true, or_false, false_or, or_self, or_true, true_or, and_true, true_and, and_false, false_and, decide_true, decide_false, Bool.not_true, Bool.not_false, decide_eq_true_eq, decide_eq_false_iff_not, ite_and_p, ite_or_p, Bool.decide_eq_true, Bool.and_eq_true, Bool.or_eq_true, Bool.not_eq_true', Bool.not_eq_false', Bool.and_eq_false_imp, Bool.or_eq_false_iff, bne_iff_ne, beq_iff_eq, bne_eq_false_iff_eq, beq_eq_false_iff_ne, gt_iff_lt, ge_iff_le, Int.not_lt, Int.not_le, ne_eq, Bool.true_eq_false, Bool.false_eq_true, reduceCtorEq, eta_Airway, eta_Door, eta_Fan, eta_Mine, bytes_nil] at hG; omega)) rfl rfl ?_
    | refine CallF.mk (CallW.is [] true rfl ?_)
    | refine CallG.mk ?_
    | (refine CondF.mk (fun hb => ?_) (fun hb => ?_) <;> try simp only [forall_const, eq_self, not_true_eq_false, not_false_eq_true, or_false, false_or, or_self, or_true, true_or, and_true, true_and, and_false, false_and, decide_true, decide_false, Bool.not_true, Bool.not_false, decide_eq_true_eq, decide_eq_false_iff_not, ite_and_p, ite_or_p, Bool.decide_eq_true, Bool.and_eq_true, Bool.or_eq_true, Bool.not_eq_true', Bool.not_eq_false', Bool.and_eq_false_imp, Bool.or_eq_false_iff, bne_iff_ne, beq_iff_eq, bne_eq_false_iff_eq, beq_eq_false_iff_ne, gt_iff_lt, ge_iff_le, Int.not_lt, Int.not_le, ne_eq, Bool.true_eq_false, Bool.false_eq_true, reduceCtorEq, eta_Airway, eta_Door, eta_Fan, eta_Mine] at hb)
    | refine RetF.auto (And.intro rfl ?_)
    | exact Is.mk rfl rfl
    | refine Is.mk ?_ rfl
    | refine Is.mk rfl ?_
    | refine Is.mk ?_ ?_
  all_goals try dsimp only
  all_goals try simp only [Bo, I, OB.row.injEq, AV.osl.injEq, eI_same,  List.cons.injEq, AV.p.injEq, PV.c.injEq, Value.int.injEq, Value.bool.injEq, and_true, true_and, ite_and_p, ite_or_p, Bool.decide_eq_true, eta_Airway, eta_Door, eta_Fan, eta_Mine]
  · unfold lostE; rfl
--@fn slices.IndexFunc[[]impl.edge,impl.edge]
theorem idxFnE (xs : List GEdge) (f : Nat) (c1 : List PV) (p : GEdge → Bool) (hf : ∀ x, FnSem Try.prog f [.p .any (.agg x.cells), .p .any (.ref c1)] [] (Is [Bo (p x)] [])) : FnSem Try.prog 218 [Lx (.lst (GEdge.cells default) (xs.map GEdge.cells)), .p .any (.fn f [.ref c1])] [] (Is [In (idxG p xs)] []) := by
  refine FnSem.walk (zs := zeroPV Try.prog) (by kernel_rfl) Try.func218 rfl Try.results218 (by kernel_rfl) (by kernel_rfl) (by kernel_rfl) fun hw hh => ?_
  obtain ⟨w0, w1, _⟩ := hw
  first | replace w0 := wf_LEdge w0 | skip
  repeat' first
    | refine And.intro rfl ?_
    | refine GdF.mk (fun h => h) ?_
    | refine And.intro (Nat.succ_ne_zero _) ?_
    | refine And.intro (Nat.le_of_ble_eq_true rfl) ?_
    | refine SeqF.run ?_
    | refine ArgF.is (hf (xs.getD i.toNat default)) ?_
    | refine ArgQ.is (fun hG => hf (xs.getD i.toNat default)) rfl rfl ?_
    | refine LoopF.at 2 rfl (LoopF.fix [0, 1, 7] (Int) (fun i => 0 ≤ i ∧ i ≤ xs.length ∧ ∀ j : Nat, (j : Int) < i → p (xs.getD j default) = false) (fun i => [(8, In i)]) (fun i => []) (fun i => ((xs.length - i).toNat)) (0) ?_)
    | (refine LoopB.of (T := Int) ?_ ?_; rotate_left; rintro i ⟨h0, h1, h2⟩; rotate_left)
    | refine GhF.go ?_
    | refine EqP.mk _ (gm GEdge.cells default rfl) ?_
    | refine BndF.mk (fun _ => by omega) ?_
    | refine BndF.mk (fun _ => by simp only [List.length_map, List.length_cons, List.length_nil, List.length_append, List.length_set, List.length_replicate, iotaI_len]; omega) ?_
    | refine EqI.mk _ (fun _ => wrapI (by omega) (by omega)) ?_
    | refine EqI.mk _ (fun _ => rfl) ?_
    | refine EqN.mk _ (ln GEdge.cells) ?_
    | refine EqN.mk _ (Nat.zero_add _) ?_
    | refine EqN.mk _ (Int.toNat_natCast _) ?_
    | refine EqN.mk _ rfl ?_
    | refine CallF.mk (CallW.is [] true rfl ?_)
    | refine CallG.mk ?_
    | (refine CondF.mk (fun hb => ?_) (fun hb => ?_) <;> try simp only [forall_const, eq_self, not_true_eq_false, not_false_eq_true, or_false, false_or, or_self, or_true, true_or, and_true, true_and, and_false, false_and, decide_true, decide_false, Bool.not_true, Bool.not_false, decide_eq_true_eq, decide_eq_false_iff_not, ite_and_p, ite_or_p, Bool.decide_eq_true, Bool.and_eq_true, Bool.or_eq_true, Bool.not_eq_true', Bool.not_eq_false', Bool.and_eq_false_imp, Bool.or_eq_false_iff, bne_iff_ne, beq_iff_eq, bne_eq_false_iff_eq, beq_eq_false_iff_ne, gt_iff_lt, ge_iff_le, Int.not_lt, Int.not_le, ne_eq, Bool.true_eq_false, Bool.false_eq_true, reduceCtorEq, eta_Airway, eta_Door, eta_Fan, eta_Mine] at hb)
    | apply BackF.auto
    | refine BackB.mk ?_ ?_
    | refine RetF.auto (And.intro rfl ?_)
    | exact Is.mk rfl rfl
    | refine Is.mk ?_ rfl
    | refine Is.mk rfl ?_
    | refine Is.mk ?_ ?_
  all_goals try dsimp only
  all_goals try simp only [Bo, I, OB.row.injEq, AV.osl.injEq, eI_same,  List.cons.injEq, AV.p.injEq, PV.c.injEq, Value.int.injEq, Value.bool.injEq, and_true, true_and, ite_and_p, ite_or_p, Bool.decide_eq_true, eta_Airway, eta_Door, eta_Fan, eta_Mine]
  all_goals first
    | omega
    | exact ⟨by omega, by omega, all_0⟩
    | exact ⟨by omega, by omega, all_s (P := fun j => p (xs.getD j default) = false) h0 h2 (by simpa using hb)⟩
    | exact idxG_at (d := default) h0 (by omega) hb h2
    | exact idxG_none (d := default) (by omega) h2
/-- a row with one element cut out in place -/
def delE (ys : List GEdge) (n : Nat) (i : Int) : List GEdge := ys.take i.toNat ++ (ys.drop (i + 1).toNat).take (n - (i + 1).toNat) ++ ys.drop (n - 1)
theorem del_len {ys : List GEdge} {n : Nat} {i : Int} (h0 : 0 ≤ i) (h1 : i < n) (h2 : n ≤ ys.length) : (delE ys n i).length = ys.length := by
  unfold delE
  simp only [List.length_append, List.length_take, List.length_drop]; omega
theorem del_take {ys : List GEdge} {n : Nat} {i : Int} (h0 : 0 ≤ i) (h1 : i < n) (h2 : n ≤ ys.length) : (delE ys n i).take (n - 1) = cutE (ys.take n) i := by
  unfold delE cutE
  rw [List.take_append_of_le_length (by simp only [List.length_append, List.length_take, List.length_drop]; omega), List.take_of_length_le (by simp only [List.length_append, List.length_take, List.length_drop]; omega), List.take_take, List.drop_take, show (i + 1).toNat = i.toNat + 1 by omega, show min i.toNat n = i.toNat by omega]
theorem del_map {ys : List GEdge} {n : Nat} {i : Int} (h0 : 0 ≤ i) (h1 : i < n) (h2 : n ≤ ys.length) : List.take (0 + (i.toNat - 0)) (ys.map GEdge.cells) ++ (List.take (n - (i + 1).toNat) (List.drop (i + 1).toNat ys)).map GEdge.cells ++ List.drop (0 + (i.toNat - 0) + ((List.take (n - (i + 1).toNat) (List.drop (i + 1).toNat ys)).map GEdge.cells).length) (ys.map GEdge.cells) = (delE ys n i).map GEdge.cells := by
  unfold delE
  rw [List.length_map, List.length_take, List.length_drop, show 0 + (i.toNat - 0) + min (n - (i + 1).toNat) (ys.length - (i + 1).toNat) = n - 1 by omega, show 0 + (i.toNat - 0) = i.toNat by omega, List.map_append, List.map_append, List.map_take, List.map_drop, List.map_take, List.map_drop]
theorem c_slices_Delete_impl_edge_impl_edge (n : Nat) (i : Int) (ys : List GEdge) (h0 : 0 ≤ i) (h1 : i < n) (h2 : n ≤ ys.length) (h3 : n ≤ 1000) : FnSem Try.prog 221 [.osl 0 0 n, In i, In (i + 1)] [.row false .flat (GEdge.cells default) (ys.map GEdge.cells)] (RetV (fun _ : List GEdge => [.osl 0 0 (n - 1)]) (fun zs => [.row false .flat (GEdge.cells default) (zs.map GEdge.cells)]) (fun zs => zs.length = ys.length ∧ zs.take (n - 1) = cutE (ys.take n) i)) := by
  refine FnSem.walk (zs := zeroPV Try.prog) (by kernel_rfl) Try.func221 rfl Try.results221 (by kernel_rfl) (by kernel_rfl) (by kernel_rfl) fun hw hh => ?_
  obtain ⟨w0, w1, w2, _⟩ := hw
  first | replace w0 := wf_LEdge w0 | skip
  first | replace w1 := wf_I w1 | skip
  first | replace w2 := wf_I w2 | skip
  repeat' first
    | refine And.intro rfl ?_
    | refine GdF.mk (fun h => h) ?_
    | refine And.intro (Nat.succ_ne_zero _) ?_
    | refine And.intro (Nat.le_of_ble_eq_true rfl) ?_
    | refine SeqF.run ?_
    | (exfalso; omega)
    | refine BndF.mk (fun _ => by show i.toNat ≤ (i + 1).toNat ∧ (i + 1).toNat ≤ n ∧ n ≤ _; omega) ?_
    | refine BndF.mk (fun _ => by show 0 ≤ i.toNat ∧ i.toNat ≤ _; omega) ?_
    | refine BndF.mk (fun _ => by show (i + 1).toNat ≤ n ∧ n ≤ _; omega) ?_
    | refine BndF.mk (fun _ => by show 0 + (i.toNat - 0) ≤ _; rw [List.length_map]; omega) ?_
    | refine BndF.mk (fun _ => by show (i + 1).toNat + (n - (i + 1).toNat) ≤ _; rw [List.length_map]; omega) ?_
    | refine BndF.mk (fun _ => by simp only [List.length_map, List.length_take, List.length_drop]; show 0 + (i.toNat - 0 + min (n - (i + 1).toNat) (ys.length - (i + 1).toNat)) ≤ ys.length; omega) ?_
    | refine EqL.mk ((delE ys n i).map GEdge.cells) (del_map h0 h1 h2) ?_
    | refine BndF.mk (fun _ => by simp only [List.length_map, List.length_take, List.length_drop]; show i.toNat - 0 + min (n - (i + 1).toNat) (ys.length - (i + 1).toNat) ≤ n ∧ n ≤ max _ ((delE ys n i).length - 0); rw [del_len h0 h1 h2]; omega) ?_
    | refine EqN.mk (n - 1) (by simp only [List.length_map, List.length_take, List.length_drop]; show 0 + (i.toNat - 0 + min (n - (i + 1).toNat) (ys.length - (i + 1).toNat)) = n - 1; omega) ?_
    | refine EqN.mk 1 (by simp only [List.length_map, List.length_take, List.length_drop]; show n - (i.toNat - 0 + min (n - (i + 1).toNat) (ys.length - (i + 1).toNat)) = 1; omega) ?_
    | refine BndF.mk (fun _ => by rw [List.length_map, del_len h0 h1 h2]; omega) ?_
    | refine EqL.mk (((delE ys n i).take (n - 1) ++ [default] ++ (delE ys n i).drop (n - 1 + 1)).map GEdge.cells) (by rw [List.map_append, List.map_append, List.map_take, List.map_drop]; rfl) ?_
    | refine RetV.mk (α := List GEdge) _ (congrArg (fun k => [AV.osl 0 0 k]) (by simp only [List.length_map, List.length_take, List.length_drop]; show i.toNat - 0 + min (n - (i + 1).toNat) (ys.length - (i + 1).toNat) = n - 1; omega)) rfl ?_
    | refine GhF.go ?_
    | refine DrawG.old (DrawF.lex (by decide +kernel) ?_)
    | refine MkF.row ?_
    | refine BndF.mk (fun _ => by omega) ?_
    | refine BndF.mk (fun _ => by simp only [List.length_map, List.length_cons, List.length_nil, List.length_append, List.length_set, List.length_replicate, iotaI_len]; omega) ?_
    | refine FlF.keep ?_
    | refine EqN.mk _ (ln GEdge.cells) ?_
    | refine EqN.mk _ (Nat.zero_add _) ?_
    | refine EqN.mk (_ + 1) rfl ?_
    | refine EqN.mk _ (Int.toNat_natCast _) ?_
    | refine EqN.mk _ rfl ?_
    | refine EqL.mk _ (sn0 GEdge.cells) ?_
    | refine EqL.mk _ (sn GEdge.cells (by first | rfl | assumption | omega | (simp only [List.length_map, List.length_cons, List.length_nil, List.length_append, List.length_set, List.length_replicate, iotaI_len]; done) | (simp only [List.length_map, List.length_cons, List.length_nil, List.length_append, List.length_set, List.length_replicate, iotaI_len]; omega))) ?_
    | refine EqL.mk _ (ap0 GEdge.cells) ?_
    | refine EqL.mk _ (ap GEdge.cells (by first | rfl | assumption | omega | (simp only [List.length_map, List.length_cons, List.length_nil, List.length_append, List.length_set, List.length_replicate, iotaI_len]; done) | (simp only [List.length_map, List.length_cons, List.length_nil, List.length_append, List.length_set, List.length_replicate, iotaI_len]; omega))) ?_
    | refine EqL.mk _ (tk GEdge.cells (by first | rfl | assumption | omega | (simp only [List.length_map, List.length_cons, List.length_nil, List.length_append, List.length_set, List.length_replicate, iotaI_len]; done) | (simp only [List.length_map, List.length_cons, List.length_nil, List.length_append, List.length_set, List.length_replicate, iotaI_len]; omega))) ?_
    | refine EqL.mk _ (dt GEdge.cells) ?_
    | refine EqL.mk [] rfl ?_
    | refine EqL.mk [_] rfl ?_
    | refine EqL.mk _ rfl ?_
    | (refine CondF.mk (fun hb => ?_) (fun hb => ?_) <;> try simp only [forall_const, eq_self, not_true_eq_false, not_false_eq_true, or_false, false_or, or_self, or_true, true_or, and_true, true_and, and_false, false_and, decide_true, decide_false, Bool.not_true, Bool.not_false, decide_eq_true_eq, decide_eq_false_iff_not, ite_and_p, ite_or_p, Bool.decide_eq_true, Bool.and_eq_true, Bool.or_eq_true, Bool.not_eq_true', Bool.not_eq_false', Bool.and_eq_false_imp, Bool.or_eq_false_iff, bne_iff_ne, beq_iff_eq, bne_eq_false_iff_eq, beq_eq_false_iff_ne, gt_iff_lt, ge_iff_le, Int.not_lt, Int.not_le, ne_eq, Bool.true_eq_false, Bool.false_eq_true, reduceCtorEq, eta_Airway, eta_Door, eta_Fan, eta_Mine] at hb)
    | refine RetF.auto (And.intro rfl ?_)
    | exact Is.mk rfl rfl
    | refine Is.mk ?_ rfl
    | refine Is.mk rfl ?_
    | refine Is.mk ?_ ?_
  · have e := del_len h0 h1 h2
    refine ⟨by simp only [List.length_append, List.length_take, List.length_drop, List.length_cons, List.length_nil]; omega, ?_⟩
    rw [← del_take h0 h1 h2, List.append_assoc, List.take_append_of_le_length (by simp only [List.length_take]; omega), List.take_take, show min (n - 1) (n - 1) = n - 1 by omega]
end Go.Proofs.Ytjgllpildemkpaa
