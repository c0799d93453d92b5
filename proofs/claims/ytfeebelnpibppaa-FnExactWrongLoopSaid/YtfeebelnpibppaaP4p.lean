/- Contracts of functions of the program, and what they compute. Conditions: those that each theorem states. -/
import Derived.Test.YtfeebelnpibppaaProg
import Derived.Test.YtfeebelnpibppaaP2p
set_option linter.unusedVariables false
set_option linter.unusedSimpArgs false
namespace Go.Proofs.Ytfeebelnpibppaa
open Go.Av
attribute [local irreducible] Go.IntKind.wrap leastI rdZ rd rootI rawA okMine loopN loopS goB goS okL askB gainsI potI
set_option maxRecDepth 20000
set_option maxHeartbeats 40000000

/-! Loops whose sum is less than 0: the reference's search, its parts. -/
theorem c_spec_l00Has (xs : List Int) (x : Int) : FnSem Try.prog 245 [Lx (LI xs), In x] [] (Is [Bo (decide (x ∈ xs))] []) := by
  refine FnSem.walk (zs := zeroPV Try.prog) (by kernel_rfl) Try.func245 rfl Try.results245 (by kernel_rfl) (by kernel_rfl) (by kernel_rfl) fun hw hh => ?_
  obtain ⟨w0, w1, _⟩ := hw
  first | replace w0 := wf_LI w0 | skip
  first | replace w1 := wf_I w1 | skip
  repeat' first
    | refine And.intro rfl ?_
    | refine GdF.mk (fun h => h) ?_
    | refine And.intro (Nat.succ_ne_zero _) ?_
    | refine And.intro (Nat.le_of_ble_eq_true rfl) ?_
    | refine SeqF.run ?_
    | refine LoopF.at 2 rfl (LoopF.fix [0, 1] (Int) (fun i => 0 ≤ i ∧ i ≤ xs.length ∧ ∀ j : Nat, (j : Int) < i → ¬xs.getD j 0 = x) (fun i => [(5, In i)]) (fun i => []) (fun i => ((xs.length - i).toNat)) (0) ?_)
    | (refine LoopB.of (T := Int) ?_ ?_; rotate_left; rintro i ⟨h0, h1, h2⟩; rotate_left)
    | refine GhF.go ?_
    | refine EqP.mk _ (gm eI 0 rfl) ?_
    | refine BndF.mk (fun _ => by omega) ?_
    | refine BndF.mk (fun _ => by simp only [List.length_map, List.length_cons, List.length_nil, List.length_append, List.length_set, List.length_replicate, iotaI_len]; omega) ?_
    | refine EqI.mk _ (fun _ => wrapI (by omega) (by omega)) ?_
    | refine EqI.mk _ (fun _ => rfl) ?_
    | refine EqN.mk _ (ln eI) ?_
    | refine EqN.mk _ (Nat.zero_add _) ?_
    | refine EqN.mk _ (Int.toNat_natCast _) ?_
    | refine EqN.mk _ rfl ?_
    | (refine CondF.mk (fun hb => ?_) (fun hb => ?_) <;> try simp only [forall_const, eq_self, not_true_eq_false, not_false_eq_true, or_false, false_or, or_self, or_true, true_or, and_true, true_and, and_false, false_and, decide_true, decide_false, Bool.not_true, Bool.not_false, decide_eq_true_eq, decide_eq_false_iff_not, ite_and_p, ite_or_p, Bool.decide_eq_true, Bool.and_eq_true, Bool.or_eq_true, Bool.not_eq_true', Bool.not_eq_false', Bool.and_eq_false_imp, Bool.or_eq_false_iff, bne_iff_ne, beq_iff_eq, bne_eq_false_iff_eq, beq_eq_false_iff_ne, gt_iff_lt, ge_iff_le, Int.not_lt, Int.not_le, ne_eq, Bool.true_eq_false, Bool.false_eq_true, reduceCtorEq, eta_Airway, eta_Fan, eta_Mine] at hb)
    | apply BackF.auto
    | refine BackB.mk ?_ ?_
    | refine RetF.auto (And.intro rfl ?_)
    | exact Is.mk rfl rfl
    | refine Is.mk ?_ rfl
    | refine Is.mk rfl ?_
    | refine Is.mk ?_ ?_
  all_goals try dsimp only
  all_goals try simp only [Bo, I, OB.row.injEq, AV.osl.injEq, eI_same,  List.cons.injEq, AV.p.injEq, PV.c.injEq, Value.int.injEq, Value.bool.injEq, and_true, true_and, ite_and_p, ite_or_p, Bool.decide_eq_true, eta_Airway, eta_Fan, eta_Mine]
  · exact ⟨by omega, by omega, all_0⟩
  · rw [← hb]; exact (decide_eq_true (getD_mem (by omega))).symm
  · exact ⟨by omega, by omega, all_s h0 h2 hb⟩
  · omega
  · refine (decide_eq_false fun hm => ?_).symm
    obtain ⟨j, hj, e⟩ := List.getElem_of_mem hm
    exact h2 j (by omega) (by rw [List.getD_eq_getElem?_getD, List.getElem?_eq_getElem hj]; exact e)
abbrev lsC (ds ps : List Int) (rg : List Bool) (start len : Int) (q p k n : Nat) : OB := .fix [.own 1 0, Lx (LI ds), Lx (LI ps), Lx (LB rg), In len, In start, .osl q 0 p, .osl k 0 n]
abbrev mnC (m : GMine) : OB := .fix [In m.junctions, Lx (.lst (GAirway.cells default) (m.airways.map GAirway.cells))]
inductive LopS (m : GMine) (ds ps : List Int) (rg : List Bool) (start len : Int) (r : Option (List Int × Int)) (walk seen : List Int) (rs : List AV) (ho : List OB) : Prop
  | mk (n p : Nat) (ys zs : List Int) (b : Bool) (s : Int) (h1 : rs = [In s, Bo b]) (h2 : ho = [lsC ds ps rg start len 4 p 5 n, mnC m, .dead, .dead, .row false .flat (eI 0) (zs.map eI), .row false .flat (eI 0) (ys.map eI)])
    (h3 : b = r.isSome) (h4 : n ≤ ys.length ∧ p ≤ zs.length) (h5 : ∀ x, r = some x → ys.take n = x.1 ∧ s = x.2) (h6 : r = none → ys.take n = walk ∧ zs.take p = seen)
theorem ArgF.lopS {m : GMine} {ds ps : List Int} {rg : List Bool} {start len : Int} {r : Option (List Int × Int)} {walk seen : List Int} {k : Nat} {Pr : Program} [Kn Pr] {f : FuncId} {args : List AV} {hin : List OB} {K : List AV → List OB → Prop} (h : FnSem Pr f args hin (LopS m ds ps rg start len r walk seen))
    (hk : ∀ (n p : Nat) (ys zs : List Int) (b : Bool) (s : Int), b = r.isSome → (n ≤ ys.length ∧ p ≤ zs.length) → (∀ x, r = some x → ys.take n = x.1 ∧ s = x.2) → (r = none → ys.take n = walk ∧ zs.take p = seen) →
      K [In s, Bo b] [lsC ds ps rg start len 4 p 5 n, mnC m, .dead, .dead, .row false .flat (eI 0) (zs.map eI), .row false .flat (eI 0) (ys.map eI)]) : ArgF k Pr f args hin K :=
  ⟨_, h, fun rs ho hR _ => by obtain ⟨n, p, ys, zs, b, s, rfl, rfl, h3, h4, h5, h6⟩ := hR; exact hk n p ys zs b s h3 h4 h5 h6⟩
abbrev stepS (m : GMine) (g : List Int) (rg : List Bool) (start : Int) (r : Nat) (at_ sum : Int) (walk seen : List Int) (i : Nat) : Option (List Int × Int) := if goS m rg start at_ r seen i = true then loopS m g rg start r (nxL m at_ i) (sum + gnL m g at_ i) (walk ++ [spL m at_ i]) (if nxL m at_ i = start then seen else seen ++ [nxL m at_ i]) else none
section
variable {m : GMine} {g : List Int} {rg : List Bool} {start at_ sum len : Int} {r r' : Nat} {walk seen : List Int} {i : Int}
theorem way0 (hm : okMine m = true) (h0 : 0 ≤ i) (hi : i < m.airways.length) (hf : (m.airways.getD i.toNat default).from_ = at_) : okL m rg at_ i.toNat = true ∧ nxL m at_ i.toNat = (m.airways.getD i.toNat default).to ∧ gnL m g at_ i.toNat = g.getD i.toNat 0 ∧ spL m at_ i.toNat = i + 1 := by
  have q := okAirway_b ((okMine_p hm).2.2 i.toNat (by omega)).1
  unfold okL nxL gnL spL awI
  rw [if_pos hf, if_pos hf, if_neg (by omega), decide_eq_true hf]
  exact ⟨by simp, rfl, rfl, by omega⟩
theorem way1 (hm : okMine m = true) (h0 : 0 ≤ i) (hi : i < m.airways.length) (ht : (m.airways.getD i.toNat default).to = at_) : okL m rg at_ i.toNat = !rg.getD i.toNat false ∧ nxL m at_ i.toNat = (m.airways.getD i.toNat default).from_ ∧ gnL m g at_ i.toNat = 0 - g.getD i.toNat 0 ∧ spL m at_ i.toNat = 0 - (i + 1) := by
  have q := okAirway_b ((okMine_p hm).2.2 i.toNat (by omega)).1
  unfold okL nxL gnL spL awI
  have hf : ¬(m.airways.getD i.toNat default).from_ = at_ := by omega
  rw [if_neg hf, if_neg hf, if_pos ht, decide_eq_true ht, decide_eq_false hf]
  exact ⟨by simp, rfl, by omega, by omega⟩
theorem wayN (hf : ¬(m.airways.getD i.toNat default).from_ = at_) (ht : ¬(m.airways.getD i.toNat default).to = at_) : okL m rg at_ i.toNat = false := by
  unfold okL awI
  rw [decide_eq_false hf, decide_eq_false ht]; simp
theorem goS_t {x : Int} {k : Nat} (hk : okL m rg at_ k = true) (hx : nxL m at_ k = x) (h1 : start ≤ x) (h2 : ¬x ∈ seen) (h3 : x = start → r = 0) : goS m rg start at_ r seen k = true := by
  unfold goS
  rw [hk, hx, decide_eq_true h1, decide_eq_false h2]
  by_cases e : x = start
  · rw [decide_eq_true (h3 e)]; simp
  · rw [decide_eq_true e]; simp
theorem goS_f {x : Int} {k : Nat} (hx : nxL m at_ k = x) (h : okL m rg at_ k = false ∨ x < start ∨ x ∈ seen ∨ (x = start ∧ ¬r = 0)) : goS m rg start at_ r seen k = false := by
  unfold goS
  rw [hx]
  rcases h with h | h | h | h
  · rw [h]; simp
  · rw [decide_eq_false (Int.not_le.2 h)]; simp
  · rw [decide_eq_true h]; simp
  · rw [decide_eq_false (Classical.not_not.2 h.1), decide_eq_false h.2]; simp
theorem sS_eq {x v s : Int} {k : Nat} (hgo : goS m rg start at_ r seen k = true) (hx : nxL m at_ k = x) (hv : gnL m g at_ k = v) (hs : spL m at_ k = s) : stepS m g rg start r at_ sum walk seen k = loopS m g rg start r x (sum + v) (walk ++ [s]) (if x = start then seen else seen ++ [x]) := by
  show (if _ then _ else _) = _
  rw [if_pos hgo, hx, hv, hs]
theorem sS_no {k : Nat} (hgo : goS m rg start at_ r seen k = false) : stepS m g rg start r at_ sum walk seen k = none := by
  show (if _ then _ else _) = _
  rw [if_neg (by rw [hgo]; decide)]
theorem ls_0 (h : r' = 0) : loopS m g rg start r' at_ sum walk seen = if at_ = start ∧ sum < 0 then some (walk, sum) else none := by
  subst h; rw [loopS]
theorem ls_s (h : 0 < r') : loopS m g rg start r' at_ sum walk seen = loopT (stepS m g rg start (r' - 1) at_ sum walk seen) m.airways.length 0 := by
  obtain ⟨k, rfl⟩ : ∃ k, r' = k + 1 := ⟨r' - 1, by omega⟩
  rw [loopS]; rfl
theorem lT_n {α : Type} {f : Nat → Option α} {L : Nat} (h0 : 0 ≤ i) (hi : i < L) (h : f i.toNat = none) : loopT f (L - i.toNat) i.toNat = loopT f (L - (i + 1).toNat) (i + 1).toNat := by
  rw [loopT_n (by omega) h, show L - i.toNat - 1 = L - (i + 1).toNat by omega, show i.toNat + 1 = (i + 1).toNat by omega]
theorem lT_t {α : Type} {f : Nat → Option α} {L : Nat} {x : α} (h0 : 0 ≤ i) (hi : i < L) (h : f i.toNat = some x) : loopT f (L - i.toNat) i.toNat = some x := loopT_t (by omega) h
end
section
variable {m : GMine} {g ds ps : List Int} {rg : List Bool} {start at_ sum len : Int} {r' : Nat} {walk seen : List Int} {i w : Int} {n' : Nat}
theorem sk0 (hm : okMine m = true) (h0 : 0 ≤ i) (hi : i < m.airways.length) (hn : n' = walk.length) (hN : len = walk.length + r') (hr : 0 < r')
    (h : (((¬(m.airways.getD i.toNat default).from_ = at_ ∨ w = 1 ∧ rg.getD i.toNat false = true) ∨ (m.airways.getD i.toNat default).to < start) ∨ (m.airways.getD i.toNat default).to ∈ seen) ∨ (m.airways.getD i.toNat default).to = start ∧ ¬(n' : Int) + 1 = len) (hw : ¬w = 1)
    (hf : (m.airways.getD i.toNat default).from_ = at_) : stepS m g rg start (r' - 1) at_ sum walk seen i.toNat = none := by
  have q := way0 (g := g) (rg := rg) hm h0 hi hf
  refine sS_no (goS_f q.2.1 ?_)
  rcases h with ((h | h) | h) | h
  · rcases h with h | h
    · exact absurd hf h
    · exact absurd h.1 hw
  · exact .inr (.inl h)
  · exact .inr (.inr (.inl h))
  · exact .inr (.inr (.inr ⟨h.1, by omega⟩))
theorem sk1 (hm : okMine m = true) (h0 : 0 ≤ i) (hi : i < m.airways.length) (hn : n' = walk.length) (hN : len = walk.length + r') (hr : 0 < r')
    (h : (((¬(m.airways.getD i.toNat default).to = at_ ∨ w = 1 ∧ rg.getD i.toNat false = true) ∨ (m.airways.getD i.toNat default).from_ < start) ∨ (m.airways.getD i.toNat default).from_ ∈ seen) ∨ (m.airways.getD i.toNat default).from_ = start ∧ ¬(n' : Int) + 1 = len) (hw : w = 1)
    (k7 : 1 ≤ w → (m.airways.getD i.toNat default).from_ = at_ → stepS m g rg start (r' - 1) at_ sum walk seen i.toNat = none) : stepS m g rg start (r' - 1) at_ sum walk seen i.toNat = none := by
  by_cases hf : (m.airways.getD i.toNat default).from_ = at_
  · exact k7 (by omega) hf
  · by_cases ht : (m.airways.getD i.toNat default).to = at_
    · have q := way1 (g := g) (rg := rg) hm h0 hi ht
      refine sS_no (goS_f q.2.1 ?_)
      rcases h with ((h | h) | h) | h
      · rcases h with h | h
        · exact absurd ht h
        · exact .inl (by rw [q.1, h.2]; rfl)
      · exact .inr (.inl h)
      · exact .inr (.inr (.inl h))
      · exact .inr (.inr (.inr ⟨h.1, by omega⟩))
    · have q := wayN (rg := rg) hf ht
      exact sS_no (by unfold goS; rw [q]; simp)
theorem gd_e (ha : askB m ds ps rg = 0) (h0 : 0 ≤ i) (hi : i < m.airways.length) : (gainsI ps ds).getD i.toNat 0 = ps.getD i.toNat 0 - ds.getD i.toNat 0 := gainsI_get (by have := askB_l ha; omega)
theorem sg0 (ha : askB m ds ps rg = 0) (h0 : 0 ≤ i) (hi : i < m.airways.length) (hn : n' = walk.length) (hN : len = walk.length + r') (hr : 0 < r')
    (h : ¬(((¬(m.airways.getD i.toNat default).from_ = at_ ∨ w = 1 ∧ rg.getD i.toNat false = true) ∨ (m.airways.getD i.toNat default).to < start) ∨ (m.airways.getD i.toNat default).to ∈ seen) ∧ ((m.airways.getD i.toNat default).to = start → (n' : Int) + 1 = len)) :
    stepS m (gainsI ps ds) rg start (r' - 1) at_ sum walk seen i.toNat = loopS m (gainsI ps ds) rg start (r' - 1) (m.airways.getD i.toNat default).to (sum + (ps.getD i.toNat 0 - ds.getD i.toNat 0)) (walk ++ [i + 1]) (if (m.airways.getD i.toNat default).to = start then seen else seen ++ [(m.airways.getD i.toNat default).to]) := by
  obtain ⟨h1, h2⟩ := h
  simp only [not_or, Classical.not_not, Int.not_lt] at h1
  have q := way0 (g := gainsI ps ds) (rg := rg) (askB_l ha).1 h0 hi h1.1.1.1
  exact sS_eq (goS_t q.1 q.2.1 h1.1.2 h1.2 (fun e => by have := h2 e; omega)) q.2.1 (by rw [q.2.2.1, gd_e ha h0 hi]) q.2.2.2
theorem sg1 (ha : askB m ds ps rg = 0) (h0 : 0 ≤ i) (hi : i < m.airways.length) (hn : n' = walk.length) (hN : len = walk.length + r') (hr : 0 < r')
    (h : ¬(((¬(m.airways.getD i.toNat default).to = at_ ∨ w = 1 ∧ rg.getD i.toNat false = true) ∨ (m.airways.getD i.toNat default).from_ < start) ∨ (m.airways.getD i.toNat default).from_ ∈ seen) ∧ ((m.airways.getD i.toNat default).from_ = start → (n' : Int) + 1 = len)) (hw : w = 1) :
    stepS m (gainsI ps ds) rg start (r' - 1) at_ sum walk seen i.toNat = loopS m (gainsI ps ds) rg start (r' - 1) (m.airways.getD i.toNat default).from_ (sum + (0 - (ps.getD i.toNat 0 - ds.getD i.toNat 0))) (walk ++ [0 - (i + 1)]) (if (m.airways.getD i.toNat default).from_ = start then seen else seen ++ [(m.airways.getD i.toNat default).from_]) := by
  obtain ⟨h1, h2⟩ := h
  simp only [not_or, Classical.not_not, Int.not_lt, not_and] at h1
  have q := way1 (g := gainsI ps ds) (rg := rg) (askB_l ha).1 h0 hi h1.1.1.1
  have hr2 : rg.getD i.toNat false = false := by simpa using h1.1.1.2 hw
  exact sS_eq (goS_t (by rw [q.1, hr2]; rfl) q.2.1 h1.1.2 h1.2 (fun e => by have := h2 e; omega)) q.2.1 (by rw [q.2.2.1, gd_e ha h0 hi]) q.2.2.2
/-- one way through an airway -/
def wayD (m : GMine) (ds ps : List Int) (i w fr tt sp ad : Int) : Prop :=
  (w = 0 ∧ fr = (m.airways.getD i.toNat default).from_ ∧ tt = (m.airways.getD i.toNat default).to ∧ sp = i + 1 ∧ ad = ps.getD i.toNat 0 - ds.getD i.toNat 0) ∨
  (w = 1 ∧ fr = (m.airways.getD i.toNat default).to ∧ tt = (m.airways.getD i.toNat default).from_ ∧ sp = 0 - (i + 1) ∧ ad = 0 - (ps.getD i.toNat 0 - ds.getD i.toNat 0))
def seenN (start : Int) (seen : List Int) (tt : Int) : List Int := if tt = start then seen else seen ++ [tt]
variable {fr tt sp ad : Int}
theorem wd_b (ha : askB m ds ps rg = 0) (h0 : 0 ≤ i) (hi : i < m.airways.length) (h : wayD m ds ps i w fr tt sp ad) : (0 ≤ tt ∧ tt < m.junctions) ∧ -1020000 ≤ ad ∧ ad ≤ 1020000 := by
  have q := askB_l ha
  have b1 := q.2.2.2.2.2.1 i.toNat
  have b2 := q.2.2.2.2.2.2 i.toNat
  have b3 := (okMine_p q.1).2.2 i.toNat (by omega)
  rcases h with ⟨_, _, rfl, _, rfl⟩ | ⟨_, _, rfl, _, rfl⟩
  · exact ⟨b3.2.2, by omega⟩
  · exact ⟨b3.2.1, by omega⟩
theorem wd_sk (ha : askB m ds ps rg = 0) (h0 : 0 ≤ i) (hi : i < m.airways.length) (hn : n' = walk.length) (hN : len = walk.length + r') (hr : 0 < r') (g0 : wayD m ds ps i w fr tt sp ad)
    (h : (((¬fr = at_ ∨ w = 1 ∧ rg.getD i.toNat false = true) ∨ tt < start) ∨ tt ∈ seen) ∨ tt = start ∧ ¬(n' : Int) + 1 = len)
    (k7 : 1 ≤ w → (m.airways.getD i.toNat default).from_ = at_ → stepS m (gainsI ps ds) rg start (r' - 1) at_ sum walk seen i.toNat = none) :
    (1 ≤ w + 1 → (m.airways.getD i.toNat default).from_ = at_ → stepS m (gainsI ps ds) rg start (r' - 1) at_ sum walk seen i.toNat = none) ∧ (2 ≤ w + 1 → stepS m (gainsI ps ds) rg start (r' - 1) at_ sum walk seen i.toNat = none) := by
  have hm := (askB_l ha).1
  rcases g0 with ⟨e1, rfl, rfl, _⟩ | ⟨e1, rfl, rfl, _⟩
  · exact ⟨fun _ => sk0 hm h0 hi hn hN hr h (by omega), fun h => by omega⟩
  · exact ⟨fun _ => k7 (by omega), fun _ => sk1 hm h0 hi hn hN hr h e1 k7⟩
theorem wd_sg (ha : askB m ds ps rg = 0) (h0 : 0 ≤ i) (hi : i < m.airways.length) (hn : n' = walk.length) (hN : len = walk.length + r') (hr : 0 < r') (g0 : wayD m ds ps i w fr tt sp ad)
    (h : ¬(((¬fr = at_ ∨ w = 1 ∧ rg.getD i.toNat false = true) ∨ tt < start) ∨ tt ∈ seen) ∧ (tt = start → (n' : Int) + 1 = len)) :
    stepS m (gainsI ps ds) rg start (r' - 1) at_ sum walk seen i.toNat = loopS m (gainsI ps ds) rg start (r' - 1) tt (sum + ad) (walk ++ [sp]) (seenN start seen tt) := by
  unfold seenN
  rcases g0 with ⟨e1, rfl, rfl, rfl, rfl⟩ | ⟨e1, rfl, rfl, rfl, rfl⟩
  · exact sg0 ha h0 hi hn hN hr h
  · exact sg1 ha h0 hi hn hN hr h e1
theorem sn_len : (seenN start seen tt).length ≤ seen.length + 1 := by unfold seenN; split <;> simp
theorem sn_t (h : tt = start) : seenN start seen tt = seen := if_pos h
theorem sn_f (h : ¬tt = start) : seenN start seen tt = seen ++ [tt] := if_neg h
variable {X R : Option (List Int × Int)} {b2 : Bool} {n2 p2 : Nat} {ys2 zs2 W Z : List Int} {s2 : Int} {f : Nat → Option (List Int × Int)} {L : Nat}
theorem cl_t {P : Prop} (j7 : R = loopT f (L - i.toNat) i.toNat) (h0 : 0 ≤ i) (hi : i < L) (hst : f i.toNat = X) (e1 : b2 = X.isSome) (e3 : ∀ x, X = some x → ys2.take n2 = x.1 ∧ s2 = x.2) (hb : b2 = true) : true = R.isSome ∧ (∀ x, R = some x → ys2.take n2 = x.1 ∧ s2 = x.2) ∧ (R = none → P) := by
  obtain ⟨x, hx⟩ := Option.isSome_iff_exists.1 (e1.symm.trans hb)
  have e := j7.trans (lT_t h0 hi (hst.trans hx))
  rw [e]
  exact ⟨rfl, fun y hy => by cases hy; exact e3 x hx, fun h => by cases h⟩
theorem cl_n {v : Int} (hst : f i.toNat = X) (e1 : b2 = X.isSome) (e2 : n2 ≤ ys2.length ∧ p2 ≤ zs2.length) (e4 : X = none → ys2.take n2 = W ++ [v] ∧ zs2.take p2 = Z) (hb : b2 = false) : f i.toNat = none ∧ (n2 - 1 - 0 ≤ ys2.length ∧ ys2.take (n2 - 1 - 0) = W ∧ n2 - 1 - 0 = W.length) ∧ (p2 ≤ zs2.length ∧ zs2.take p2 = Z ∧ p2 = Z.length) := by
  obtain ⟨a1, ⟨a2, a3⟩, a4, a5⟩ := n2_len hb e1 e2 e4
  simp only [List.length_append, List.length_cons, List.length_nil] at a4
  exact ⟨hst.trans a1, ⟨by omega, take_pred a2 (by omega), by omega⟩, by omega, a3, a5⟩
theorem cl_p {z : Int} (h : p2 ≤ zs2.length ∧ zs2.take p2 = Z ++ [z] ∧ p2 = (Z ++ [z]).length) : p2 - 1 - 0 ≤ zs2.length ∧ zs2.take (p2 - 1 - 0) = Z ∧ p2 - 1 - 0 = Z.length := by
  obtain ⟨h1, h2, h3⟩ := h
  simp only [List.length_append, List.length_cons, List.length_nil] at h3
  exact ⟨by omega, take_pred h2 (by omega), by omega⟩
theorem cl_0 {P : Prop} {ys : List Int} {n : Nat} (h : r' = 0) (hw : ys.take n = walk) (hP : P) : (if (at_ == start) = true then decide (sum < 0) else false) = (loopS m g rg start r' at_ sum walk seen).isSome ∧ (∀ x, loopS m g rg start r' at_ sum walk seen = some x → ys.take n = x.1 ∧ sum = x.2) ∧ (loopS m g rg start r' at_ sum walk seen = none → P) := by
  rw [ls_0 h]
  by_cases e1 : at_ = start
  · by_cases e2 : sum < 0
    · rw [if_pos (by simpa using e1), if_pos ⟨e1, e2⟩, decide_eq_true e2]
      exact ⟨rfl, fun x hx => by cases hx; exact ⟨hw, rfl⟩, fun _ => hP⟩
    · rw [if_pos (by simpa using e1), if_neg (fun e => e2 e.2), decide_eq_false e2]
      exact ⟨rfl, (fun x hx => by cases hx), fun _ => hP⟩
  · rw [if_neg (by simpa using e1), if_neg (fun e => e1 e.1)]
    exact ⟨rfl, (fun x hx => by cases hx), fun _ => hP⟩
theorem cl_e {P : Prop} (j7 : R = loopT f (L - i.toNat) i.toNat) (hi : L ≤ i) (hP : P) : false = R.isSome ∧ (∀ x, R = some x → ys2.take n2 = x.1 ∧ 0 = x.2) ∧ (R = none → P) := by
  rw [j7, show L - i.toNat = 0 by omega, loopT]
  exact ⟨rfl, (fun x hx => by cases hx), fun _ => hP⟩
end
end Go.Proofs.Ytfeebelnpibppaa
