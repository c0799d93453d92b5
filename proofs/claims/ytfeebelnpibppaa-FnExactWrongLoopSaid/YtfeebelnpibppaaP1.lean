/- Contracts of functions of the program, and what they compute. Conditions: those that each theorem states. -/
import Derived.Test.YtfeebelnpibppaaProg
import Derived.Test.YtfeebelnpibppaaQ4
set_option linter.unusedVariables false
set_option linter.unusedSimpArgs false
namespace Go.Proofs.Ytfeebelnpibppaa
open Go.Av
attribute [local irreducible] Go.IntKind.wrap leastI rdZ rd rootI rawA okMine
set_option maxRecDepth 20000
set_option maxHeartbeats 8000000

/-! Loops whose sum is less than 0: the search, plain. -/
section
variable (m : GMine) (g : List Int) (rg : List Bool)
def awI (i : Nat) : GAirway := m.airways.getD i default
def okL (at_ : Int) (i : Nat) : Bool := decide ((awI m i).from_ = at_) || (decide ((awI m i).to = at_) && !rg.getD i false)
def nxL (at_ : Int) (i : Nat) : Int := if (awI m i).from_ = at_ then (awI m i).to else (awI m i).from_
def gnL (at_ : Int) (i : Nat) : Int := if (awI m i).to = at_ then -g.getD i 0 else g.getD i 0
def spL (at_ : Int) (i : Nat) : Int := if (awI m i).from_ = at_ then (i : Int) + 1 else -(i : Int) - 1
def goB (start at_ : Int) (r : Nat) (passed : List Int) (i : Nat) : Bool := okL m rg at_ i && (decide (r = 0) == decide (nxL m at_ i = start)) && (decide (r = 0) || (decide (start ≤ nxL m at_ i) && !decide (nxL m at_ i ∈ passed)))
def goS (start at_ : Int) (r : Nat) (seen : List Int) (i : Nat) : Bool := okL m rg at_ i && decide (start ≤ nxL m at_ i) && !decide (nxL m at_ i ∈ seen) && (decide (¬nxL m at_ i = start) || decide (r = 0))
/-- the first number from i on, of k, at which f gives something -/
def loopT {α : Type} (f : Nat → Option α) : Nat → Nat → Option α
  | 0, _ => none
  | k + 1, i => match f i with
    | some x => some x
    | none => loopT f k (i + 1)
theorem loopT_c {α : Type} {f h : Nat → Option α} : ∀ (k i : Nat), (∀ j, i ≤ j → j < i + k → f j = h j) → loopT f k i = loopT h k i
  | 0, _, _ => rfl
  | k + 1, i, e => by
    rw [loopT, loopT, e i (by omega) (by omega), loopT_c k (i + 1) (fun j a b => e j (by omega) (by omega))]
theorem loopT_none {α : Type} {f : Nat → Option α} : ∀ (k i : Nat), (∀ j, i ≤ j → j < i + k → f j = none) → loopT f k i = none
  | 0, _, _ => rfl
  | k + 1, i, e => by
    rw [loopT, e i (by omega) (by omega)]
    exact loopT_none k (i + 1) (fun j a b => e j (by omega) (by omega))
/-- the program's search: so many airways are still to come -/
def loopN (start : Int) : Nat → Int → Int → List Int → List Int → Option (List Int × Int)
  | 0, at_, sum, walk, _ => if at_ = start ∧ sum < 0 then some (walk, sum) else none
  | r + 1, at_, sum, walk, passed => loopT (fun i => if goB m rg start at_ r (passed ++ [at_]) i = true then loopN start r (nxL m at_ i) (sum + gnL m g at_ i) (walk ++ [spL m at_ i]) (passed ++ [at_]) else none) m.airways.length 0
/-- the reference's search -/
def loopS (start : Int) : Nat → Int → Int → List Int → List Int → Option (List Int × Int)
  | 0, at_, sum, walk, _ => if at_ = start ∧ sum < 0 then some (walk, sum) else none
  | r + 1, at_, sum, walk, seen => loopT (fun i => if goS m rg start at_ r seen i = true then loopS start r (nxL m at_ i) (sum + gnL m g at_ i) (walk ++ [spL m at_ i]) (if nxL m at_ i = start then seen else seen ++ [nxL m at_ i]) else none) m.airways.length 0
end
section
variable {m : GMine} {g : List Int} {rg : List Bool}
theorem loop_eq {start : Int} : ∀ (r : Nat) (at_ sum : Int) (walk passed seen : List Int), (∀ x, x ∈ passed ++ [at_] ↔ x = start ∨ x ∈ seen) → start ∉ seen → loopN m g rg start r at_ sum walk passed = loopS m g rg start r at_ sum walk seen
  | 0, at_, sum, walk, passed, seen, _, _ => rfl
  | r + 1, at_, sum, walk, passed, seen, h, h0 => by
    rw [loopN, loopS]
    refine loopT_c _ _ fun i _ _ => ?_
    unfold goB goS
    cases hk : okL m rg at_ i with
    | false => simp
    | true =>
      simp only [Bool.true_and]
      have hx := h (nxL m at_ i)
      by_cases hs : nxL m at_ i = start
      · rw [hs]
        by_cases hr : r = 0
        · subst hr
          simp only [decide_true, beq_self_eq_true, Bool.true_and, Bool.true_or, if_true, Int.le_refl, h0, decide_false, Bool.not_false, Bool.or_true, loopN, loopS]
        · simp [hr]
      · by_cases hr : r = 0
        · subst hr
          simp only [hs, decide_true, decide_false, show (true == false) = false from rfl, Bool.false_and, Bool.false_eq_true, if_false]
          split
          · rw [loopS, if_neg (fun e => hs e.1)]
          · rfl
        · have e1 : (decide (nxL m at_ i ∈ passed ++ [at_])) = decide (nxL m at_ i ∈ seen) := by
            rw [Bool.eq_iff_iff, decide_eq_true_eq, decide_eq_true_eq, hx]
            simp [hs]
          simp only [hs, hr, decide_false, beq_self_eq_true, Bool.true_and, Bool.false_or, not_false_eq_true, decide_true, Bool.true_or, Bool.and_true, e1, if_false]
          by_cases hc : (decide (start ≤ nxL m at_ i) && !decide (nxL m at_ i ∈ seen)) = true
          · rw [if_pos hc, if_pos hc]
            refine loop_eq r _ _ _ _ _ (fun x => ?_) (fun e => ?_)
            · rw [List.mem_append, h x, List.mem_append, List.mem_singleton, or_assoc]
            · rcases List.mem_append.1 e with e | e
              · exact h0 e
              · exact hs (List.mem_singleton.1 e).symm
          · rw [if_neg hc, if_neg hc]
/-- potentials that fit: no step goes up -/
def fitP (m : GMine) (g : List Int) (rg : List Bool) (p : List Int) : Prop := ∀ (i : Nat) (at_ : Int), i < m.airways.length → okL m rg at_ i = true → p.getD (nxL m at_ i).toNat 0 ≤ p.getD at_.toNat 0 + gnL m g at_ i
theorem loopN_fit {p : List Int} (hf : fitP m g rg p) {start : Int} : ∀ (r : Nat) (at_ sum : Int) (walk passed : List Int), p.getD at_.toNat 0 - p.getD start.toNat 0 ≤ sum → loopN m g rg start r at_ sum walk passed = none
  | 0, at_, sum, walk, passed, h => by
    rw [loopN, if_neg]
    rintro ⟨rfl, h2⟩
    omega
  | r + 1, at_, sum, walk, passed, h => by
    rw [loopN]
    refine loopT_none _ _ fun i _ hi => ?_
    split
    · rename_i hc
      unfold goB at hc
      simp only [Bool.and_eq_true] at hc
      have := hf i at_ (by omega) hc.1.1
      exact loopN_fit hf r _ _ _ _ (by omega)
    · rfl
theorem loopN_1 (hm : okMine m = true) {start sum : Int} {walk passed : List Int} : loopN m g rg start 1 start sum walk passed = none := by
  rw [loopN]
  refine loopT_none _ _ fun i _ hi => ?_
  rw [if_neg]
  intro hc
  unfold goB at hc
  simp only [Bool.and_eq_true, decide_true] at hc
  have h1 : nxL m start i = start := by simpa using hc.1.2
  have h2 := okAirway_b ((okMine_p hm).2.2 i (by omega)).1
  have h3 := hc.1.1
  unfold nxL at h1
  unfold okL at h3
  simp only [Bool.or_eq_true, Bool.and_eq_true, decide_eq_true_eq] at h3
  unfold awI at *
  split at h1 <;> omega
/-- a round that changes nothing: all airways fit -/
theorem stepB_same {i : Nat} {s : List Int × Bool} (h : (stepB m g rg i s).2 = false) : stepB m g rg i s = s ∧ s.2 = false ∧ s.1.getD (m.airways.getD i default).to.toNat 0 ≤ s.1.getD (m.airways.getD i default).from_.toNat 0 + g.getD i 0 ∧ (rg.getD i false = false → s.1.getD (m.airways.getD i default).from_.toNat 0 ≤ s.1.getD (m.airways.getD i default).to.toNat 0 - g.getD i 0) := by
  unfold stepB at h ⊢
  dsimp only at h ⊢
  by_cases h1 : s.1.getD (m.airways.getD i default).from_.toNat 0 + g.getD i 0 < s.1.getD (m.airways.getD i default).to.toNat 0
  · rw [if_pos h1] at h
    dsimp only at h
    split at h <;> simp at h
  · rw [if_neg h1] at h ⊢
    by_cases h2 : rg.getD i false = false ∧ s.1.getD (m.airways.getD i default).to.toNat 0 - g.getD i 0 < s.1.getD (m.airways.getD i default).from_.toNat 0
    · rw [if_pos h2] at h; simp at h
    · rw [if_neg h2] at h ⊢
      refine ⟨rfl, h, by omega, fun e => ?_⟩
      exact Int.not_lt.1 fun h3 => h2 ⟨e, h3⟩
theorem roundB_same {p : List Int} : ∀ n : Nat, (roundB m g rg n p).2 = false → roundB m g rg n p = (p, false) ∧ ∀ i : Nat, i < n → p.getD (m.airways.getD i default).to.toNat 0 ≤ p.getD (m.airways.getD i default).from_.toNat 0 + g.getD i 0 ∧ (rg.getD i false = false → p.getD (m.airways.getD i default).from_.toNat 0 ≤ p.getD (m.airways.getD i default).to.toNat 0 - g.getD i 0)
  | 0, _ => ⟨rfl, fun i h => absurd h (by omega)⟩
  | n + 1, h => by
    rw [roundB] at h ⊢
    have q := stepB_same h
    have ih := roundB_same n q.2.1
    rw [ih.1] at q
    refine ⟨by rw [ih.1]; exact q.1, fun i hi => ?_⟩
    by_cases e : i = n
    · subst e; exact q.2.2
    · exact ih.2 i (by omega)
theorem fitP_of {p : List Int} (hm : okMine m = true) (h : ∀ i : Nat, i < m.airways.length → p.getD (m.airways.getD i default).to.toNat 0 ≤ p.getD (m.airways.getD i default).from_.toNat 0 + g.getD i 0 ∧ (rg.getD i false = false → p.getD (m.airways.getD i default).from_.toNat 0 ≤ p.getD (m.airways.getD i default).to.toNat 0 - g.getD i 0)) : fitP m g rg p := by
  intro i at_ hi hk
  have q := h i hi
  have q2 := okAirway_b ((okMine_p hm).2.2 i (by omega)).1
  unfold okL at hk
  simp only [Bool.or_eq_true, Bool.and_eq_true, decide_eq_true_eq, Bool.not_eq_true'] at hk
  unfold nxL gnL
  unfold awI at *
  rcases hk with hk | ⟨hk, hr⟩
  · rw [if_pos hk, if_neg (by omega), ← hk]; exact q.1
  · rw [if_neg (by omega), if_pos hk, ← hk]
    have := q.2 hr
    omega
theorem potN_fit (hm : okMine m = true) : ∀ (k : Nat) (p q : List Int), potN m g rg k p = some q → fitP m g rg q
  | 0, p, q, h => by rw [potN] at h; cases h
  | k + 1, p, q, h => by
    rw [potN] at h
    by_cases hc : (roundB m g rg m.airways.length p).2 = false
    · rw [if_pos hc] at h
      have r := roundB_same _ hc
      rw [r.1] at h
      have e := Option.some.inj h
      dsimp only at e
      subst e
      exact fitP_of hm r.2
    · rw [if_neg hc] at h
      exact potN_fit hm k _ q h
/-- potentials fit: no loop is wrong -/
theorem loopN_pot (hm : okMine m = true) (h : (potI m g rg).isSome = true) (start sum : Int) (r : Nat) (hs : 0 ≤ sum) (walk passed : List Int) : loopN m g rg start r start sum walk passed = none := by
  obtain ⟨p, hp⟩ := Option.isSome_iff_exists.1 h
  unfold potI at hp
  exact loopN_fit (potN_fit hm _ _ _ hp) r _ _ _ _ (by omega)
end
/-- all loops of a length; of all lengths -/
def wrongL (m : GMine) (g : List Int) (rg : List Bool) (l : Nat) : Option (List Int × Int) := loopT (fun s => loopN m g rg s l s 0 [] []) m.junctions.toNat 0
def wrongP (m : GMine) (g : List Int) (rg : List Bool) : Option (List Int × Int) := loopT (wrongL m g rg) m.junctions.toNat 1
def wrongV (m : GMine) (ds ps : List Int) (rg : List Bool) : List Int × Int × Int := if askB m ds ps rg = 0 then (match wrongP m (gainsI ps ds) rg with | some x => (x.1, x.2, 0) | none => ([], 0, 3)) else ([], 0, askB m ds ps rg)
theorem loopT_n {α : Type} {f : Nat → Option α} {k i : Nat} (hk : 0 < k) (h : f i = none) : loopT f k i = loopT f (k - 1) (i + 1) := by
  obtain ⟨k, rfl⟩ : ∃ j, k = j + 1 := ⟨k - 1, by omega⟩
  rw [loopT, h]; rfl
theorem loopT_t {α : Type} {f : Nat → Option α} {k i : Nat} {x : α} (hk : 0 < k) (h : f i = some x) : loopT f k i = some x := by
  obtain ⟨k, rfl⟩ : ∃ j, k = j + 1 := ⟨k - 1, by omega⟩
  rw [loopT, h]
theorem loopT_z {α : Type} {f : Nat → Option α} {k i : Nat} (hk : k = 0) : loopT f k i = none := by subst hk; rfl
end Go.Proofs.Ytfeebelnpibppaa
