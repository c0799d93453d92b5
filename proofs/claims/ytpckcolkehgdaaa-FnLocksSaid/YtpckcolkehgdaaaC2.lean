/- Contracts of functions of the program, and what they compute. Conditions: those that each theorem states. -/
import Derived.Test.YtpckcolkehgdaaaProg
import Derived.Test.YtpckcolkehgdaaaC1
import Derived.Test.YtpckcolkehgdaaaK1
import Derived.Test.YtpckcolkehgdaaaK16
set_option linter.unusedVariables false
set_option linter.unusedSimpArgs false
namespace Go.Proofs.Ytpckcolkehgdaaa
open Go.Av
attribute [local irreducible] Go.IntKind.wrap
set_option maxRecDepth 20000
set_option maxHeartbeats 4000000

/-! Sets of doors: bits of numbers, states as bits, valid locks. -/
theorem ofI (x : Nat) : BitVec.ofInt 64 (x : Int) = BitVec.ofNat 64 x := BitVec.ofInt_natCast 64 x
theorem bx_and1 (x : Nat) (h : x < 1024) : bitI .and .i64 (x : Int) 1 = ((x % 2 : Nat) : Int) := by
  have e1 : BitVec.ofInt 64 (1 : Int) = BitVec.ofNat 64 1 := ofI 1
  show IntKind.i64.wrap (((BitVec.ofInt 64 (x : Int) &&& BitVec.ofInt 64 (1 : Int)).toNat : Nat) : Int) = _
  rw [ofI, e1, BitVec.toNat_and, BitVec.toNat_ofNat, BitVec.toNat_ofNat, Nat.mod_eq_of_lt (show x < 2 ^ 64 by omega), Nat.mod_eq_of_lt (show 1 < 2 ^ 64 by omega), Nat.and_one_is_mod]
  exact wrapI (by omega) (by omega)
theorem xor_lt {x y : Nat} (hx : x < 1024) (hy : y < 1024) : x ^^^ y < 1024 := Nat.xor_lt_two_pow (n := 10) hx hy
theorem or_lt {x y : Nat} (hx : x < 1024) (hy : y < 1024) : x ||| y < 1024 := Nat.or_lt_two_pow (n := 10) hx hy
theorem bx_xor (x y : Nat) (hx : x < 1024) (hy : y < 1024) : bitI .xor .i64 (x : Int) (y : Int) = ((x ^^^ y : Nat) : Int) := by
  show IntKind.i64.wrap (((BitVec.ofInt 64 (x : Int) ^^^ BitVec.ofInt 64 (y : Int)).toNat : Nat) : Int) = _
  have := xor_lt hx hy
  rw [ofI, ofI, BitVec.toNat_xor, BitVec.toNat_ofNat, BitVec.toNat_ofNat, Nat.mod_eq_of_lt (show x < 2 ^ 64 by omega), Nat.mod_eq_of_lt (show y < 2 ^ 64 by omega)]
  exact wrapI (by omega) (by omega)
theorem bx_or (x y : Nat) (hx : x < 1024) (hy : y < 1024) : bitI .or .i64 (x : Int) (y : Int) = ((x ||| y : Nat) : Int) := by
  show IntKind.i64.wrap (((BitVec.ofInt 64 (x : Int) ||| BitVec.ofInt 64 (y : Int)).toNat : Nat) : Int) = _
  have := or_lt hx hy
  rw [ofI, ofI, BitVec.toNat_or, BitVec.toNat_ofNat, BitVec.toNat_ofNat, Nat.mod_eq_of_lt (show x < 2 ^ 64 by omega), Nat.mod_eq_of_lt (show y < 2 ^ 64 by omega)]
  exact wrapI (by omega) (by omega)
theorem p2_lt {i : Nat} (h : i < 10) : 2 ^ i < 1024 := Nat.pow_lt_pow_right (a := 2) (by omega) h
/-- one door's bit -/
theorem shl1 {i : Int} (h : 0 ≤ i ∧ i < 10) : IntKind.i64.wrap (1 * 2 ^ (min i.toNat IntKind.i64.bits)) = ((2 ^ i.toNat : Nat) : Int) := by
  have e : min i.toNat IntKind.i64.bits = i.toNat := Nat.min_eq_left (by show i.toNat ≤ 64; omega)
  have := p2_lt (i := i.toNat) (by omega)
  have e2 : ((2 : Int) ^ i.toNat) = ((2 ^ i.toNat : Nat) : Int) := by rw [Int.natCast_pow]; rfl
  rw [e, Int.one_mul, e2]
  generalize 2 ^ i.toNat = q at this
  exact wrapI (by omega) (by omega)
theorem shrD {x : Nat} {i : Int} (h : 0 ≤ i ∧ i < 10) : (x : Int).fdiv (2 ^ (min i.toNat IntKind.i64.bits)) = ((x / 2 ^ i.toNat : Nat) : Int) := by
  have e : min i.toNat IntKind.i64.bits = i.toNat := Nat.min_eq_left (by show i.toNat ≤ 64; omega)
  have e2 : ((2 : Int) ^ i.toNat) = ((2 ^ i.toNat : Nat) : Int) := by rw [Int.natCast_pow]; rfl
  rw [e, e2, Int.fdiv_eq_ediv_of_nonneg _ (Int.natCast_nonneg _)]; rfl
theorem bit_t {x i : Nat} (h : x < 1024) : (bitI .and .i64 ((x / 2 ^ i : Nat) : Int) 1 == 1) = x.testBit i := by
  have h1 : x / 2 ^ i ≤ x := Nat.div_le_self _ _
  rw [bx_and1 _ (by omega), Nat.testBit_eq_decide_div_mod_eq]
  by_cases e : x / 2 ^ i % 2 = 1
  · rw [e]; rfl
  · rw [show x / 2 ^ i % 2 = 0 by omega]; rfl
/-- states as a number -/
def bitsN (bs : List Bool) : Nat → Nat
  | 0 => 0
  | n + 1 => if bs.getD n false = true then bitsN bs n ||| 2 ^ n else bitsN bs n
theorem bitsN_lt (bs : List Bool) : ∀ n, bitsN bs n < 2 ^ n
  | 0 => by simp [bitsN]
  | n + 1 => by
    have h := bitsN_lt bs n
    have h2 : 2 ^ n < 2 ^ (n + 1) := Nat.pow_lt_pow_right (by omega) (by omega)
    rw [bitsN]; split
    · exact Nat.or_lt_two_pow (by omega) h2
    · omega
theorem bitsN_at (bs : List Bool) (j : Nat) : ∀ n, (bitsN bs n).testBit j = (decide (j < n) && bs.getD j false)
  | 0 => by simp [bitsN]
  | n + 1 => by
    rw [bitsN]
    by_cases e : j = n
    · subst e
      have h0 : (bitsN bs j).testBit j = false := Nat.testBit_lt_two_pow (bitsN_lt bs j)
      split
      · rename_i h; rw [Nat.testBit_or, h0, Nat.testBit_two_pow, h]; simp
      · rename_i h; rw [h0, Bool.eq_false_iff.2 h]; simp
    · have e2 : decide (j < n + 1) = decide (j < n) := by rw [decide_eq_decide]; omega
      rw [e2, ← bitsN_at bs j n]
      split
      · rw [Nat.testBit_or, Nat.testBit_two_pow, decide_eq_false (Ne.symm e), Bool.or_false]
      · rfl
theorem bitsN_s {bs : List Bool} {i : Int} (h : 0 ≤ i) : bitsN bs (i + 1).toNat = if bs.getD i.toNat false = true then bitsN bs i.toNat ||| 2 ^ i.toNat else bitsN bs i.toNat := by
  rw [show (i + 1).toNat = i.toNat + 1 by omega]; rfl
theorem pow_le8 {n : Nat} (h : n ≤ 8) : 2 ^ n ≤ 256 := Nat.pow_le_pow_right (n := 2) (by omega) h
theorem bitsN_8 {bs : List Bool} {n : Nat} (h : n ≤ 8) : bitsN bs n < 256 := Nat.lt_of_lt_of_le (bitsN_lt bs n) (pow_le8 h)
/-- two lists compared -/
def cmpI : List Int → List Int → Int
  | [], [] => 0
  | [], _ :: _ => -1
  | _ :: _, [] => 1
  | a :: x, b :: y => if a < b then -1 else if a > b then 1 else cmpI x y
/-- is the i-th lock one? -/
def lkE (d : Int) (ls : List (List Int)) (i : Nat) : Bool :=
  (decide (((ls.getD i []).length : Int) = 2) && inR ((ls.getD i []).getD 1 0) 0 (d - 1) && inR ((ls.getD i []).getD 0 0) 0 ((ls.getD i []).getD 1 0 - 1)) &&
  (decide (i = 0) || decide ((ls.getD (i - 1) []).getD 0 0 < (ls.getD i []).getD 0 0 ∨ ((ls.getD (i - 1) []).getD 0 0 = (ls.getD i []).getD 0 0 ∧ (ls.getD (i - 1) []).getD 1 0 < (ls.getD i []).getD 1 0)))
def okLk (d : Int) (ls : List (List Int)) : Bool := (inR d 0 8 && decide ((ls.length : Int) ≤ 12)) && (List.range ls.length).all (lkE d ls)
theorem okLk_p {d : Int} {ls : List (List Int)} (h : okLk d ls = true) : (0 ≤ d ∧ d ≤ 8) ∧ ls.length ≤ 12 ∧ ∀ i : Nat, i < ls.length → (ls.getD i []).length = 2 ∧ (0 ≤ (ls.getD i []).getD 1 0 ∧ (ls.getD i []).getD 1 0 < d) ∧ 0 ≤ (ls.getD i []).getD 0 0 ∧ (ls.getD i []).getD 0 0 < (ls.getD i []).getD 1 0 := by
  unfold okLk at h
  simp only [Bool.and_eq_true, inR_iff, decide_eq_true_eq, List.all_eq_true] at h
  refine ⟨h.1.1, by omega, fun i hi => ?_⟩
  have := h.2 i (List.mem_range.2 hi)
  unfold lkE at this
  simp only [Bool.and_eq_true, inR_iff, decide_eq_true_eq] at this
  omega
theorem okLk_t {d : Int} {ls : List (List Int)} {i : Int} (h1 : 0 ≤ d ∧ d ≤ 8) (h2 : (ls.length : Int) ≤ 12) (h3 : (ls.length : Int) ≤ i) (h : ∀ j : Nat, (j : Int) < i → lkE d ls j = true) : okLk d ls = true := by
  unfold okLk
  rw [inR_iff.2 h1, decide_eq_true h2, Bool.and_self, Bool.true_and, List.all_eq_true]
  exact fun j hj => h j (by have := List.mem_range.1 hj; omega)
theorem okLk_f {d : Int} {ls : List (List Int)} {i : Int} (h0 : 0 ≤ i) (h1 : i < ls.length) (h : lkE d ls i.toNat = false) : okLk d ls = false := by
  cases e : okLk d ls with
  | false => rfl
  | true =>
    unfold okLk at e
    simp only [Bool.and_eq_true, List.all_eq_true] at e
    rw [e.2 i.toNat (List.mem_range.2 (by omega))] at h; cases h
theorem okLk_n {d : Int} {ls : List (List Int)} (h : inR d 0 8 = false ∨ (12 : Int) < ls.length) : okLk d ls = false := by
  unfold okLk
  rcases h with h | h
  · rw [h]; rfl
  · rw [decide_eq_false (show ¬(ls.length : Int) ≤ 12 by omega)]; simp
theorem list2 {l : List Int} (h : l.length = 2) : l = [l.getD 0 0, l.getD 1 0] := by
  match l, h with
  | [a, b], _ => rfl
theorem cmp2 {x y : List Int} (hx : x.length = 2) (hy : y.length = 2) : cmpI x y < 0 ↔ (x.getD 0 0 < y.getD 0 0 ∨ (x.getD 0 0 = y.getD 0 0 ∧ x.getD 1 0 < y.getD 1 0)) := by
  have e : cmpI x y = if x.getD 0 0 < y.getD 0 0 then -1 else if x.getD 0 0 > y.getD 0 0 then 1 else if x.getD 1 0 < y.getD 1 0 then -1 else if x.getD 1 0 > y.getD 1 0 then 1 else 0 := by
    conv => lhs; rw [list2 hx, list2 hy]
    rfl
  rw [e]
  repeat' split
  all_goals omega
/-- the locks that a set of doors keeps, asked of a list of states -/
theorem kpN_bits {ls : List (List Int)} {bs : List Bool} {n : Nat} : kpN ls (bitsN bs n) = ls.all fun l => !((decide ((l.getD 0 0).toNat < n) && bs.getD (l.getD 0 0).toNat false) && (decide ((l.getD 1 0).toNat < n) && bs.getD (l.getD 1 0).toNat false)) := by
  unfold kpN
  simp only [bitsN_at]
theorem kpN_f {ls : List (List Int)} {s : Nat} {i : Int} (h0 : 0 ≤ i) (h1 : i < ls.length) (h : ((s.testBit ((ls.getD i.toNat []).getD 0 0).toNat) && (s.testBit ((ls.getD i.toNat []).getD 1 0).toNat)) = true) : kpN ls s = false := by
  unfold kpN
  rw [List.all_eq_false]
  exact ⟨_, getD_mem (d := []) (show i.toNat < ls.length by omega), by rw [h]; decide⟩
theorem kpN_t {ls : List (List Int)} {s : Nat} {i : Int} (h1 : (ls.length : Int) ≤ i) (h : ∀ j : Nat, (j : Int) < i → ((s.testBit ((ls.getD j []).getD 0 0).toNat) && (s.testBit ((ls.getD j []).getD 1 0).toNat)) = false) : kpN ls s = true := by
  unfold kpN
  exact (all_iff (d := [])).2 fun j hj => by rw [h j (by omega)]; rfl
theorem lk_iff {d : Int} {ls : List (List Int)} {i : Nat} : lkE d ls i = true ↔ (((ls.getD i []).length = 2 ∧ (0 ≤ (ls.getD i []).getD 1 0 ∧ (ls.getD i []).getD 1 0 ≤ d - 1)) ∧ 0 ≤ (ls.getD i []).getD 0 0 ∧ (ls.getD i []).getD 0 0 ≤ (ls.getD i []).getD 1 0 - 1) ∧ (i = 0 ∨ ((ls.getD (i - 1) []).getD 0 0 < (ls.getD i []).getD 0 0 ∨ ((ls.getD (i - 1) []).getD 0 0 = (ls.getD i []).getD 0 0 ∧ (ls.getD (i - 1) []).getD 1 0 < (ls.getD i []).getD 1 0))) := by
  unfold lkE
  simp only [Bool.and_eq_true, Bool.or_eq_true, inR_iff, decide_eq_true_eq]
  constructor
  · rintro ⟨⟨⟨a, b⟩, c⟩, e⟩; exact ⟨⟨⟨by omega, b⟩, c⟩, e⟩
  · rintro ⟨⟨⟨a, b⟩, c⟩, e⟩; exact ⟨⟨⟨by omega, b⟩, c⟩, e⟩
section
variable {d i : Int} {ls : List (List Int)} {C : Prop}
theorem lk_bad (hd : 0 ≤ d ∧ d ≤ 8) (h0 : 0 ≤ i) (h4 : ∀ j : Nat, (j : Int) < i → lkE d ls j = true) (hC : 0 < i → C → (ls.getD (i - 1).toNat []).length = 2 → (ls.getD i.toNat []).length = 2 → ¬((ls.getD (i - 1).toNat []).getD 0 0 < (ls.getD i.toNat []).getD 0 0 ∨ ((ls.getD (i - 1).toNat []).getD 0 0 = (ls.getD i.toNat []).getD 0 0 ∧ (ls.getD (i - 1).toNat []).getD 1 0 < (ls.getD i.toNat []).getD 1 0)))
    (hb : ((¬(((ls.getD i.toNat []).length : Nat) : Int) = 2 ∨ inR ((ls.getD i.toNat []).getD (Int.toNat 1) 0) 0 (d - 1) = false) ∨ inR ((ls.getD i.toNat []).getD (Int.toNat 0) 0) 0 (IntKind.i64.wrap ((ls.getD i.toNat []).getD (Int.toNat 1) 0 - 1)) = false) ∨ 0 < i ∧ C) : lkE d ls i.toNat = false := by
  cases e : lkE d ls i.toNat with
  | false => rfl
  | true =>
    exfalso
    have q := lk_iff.1 e
    have hw : IntKind.i64.wrap ((ls.getD i.toNat []).getD (Int.toNat 1) 0 - 1) = (ls.getD i.toNat []).getD 1 0 - 1 := wrapI (by have := q.1.1.2; show _ ≤ (ls.getD i.toNat []).getD 1 0 - 1; omega) (by have := q.1.1.2; show (ls.getD i.toNat []).getD 1 0 - 1 ≤ _; omega)
    rw [hw] at hb
    rcases hb with ((hb | hb) | hb) | hb
    · exact hb (by rw [q.1.1.1]; rfl)
    · rw [inR_iff.2 (show 0 ≤ (ls.getD i.toNat []).getD (Int.toNat 1) 0 ∧ (ls.getD i.toNat []).getD (Int.toNat 1) 0 ≤ d - 1 from q.1.1.2)] at hb; cases hb
    · rw [inR_iff.2 (show 0 ≤ (ls.getD i.toNat []).getD (Int.toNat 0) 0 ∧ (ls.getD i.toNat []).getD (Int.toNat 0) 0 ≤ (ls.getD i.toNat []).getD 1 0 - 1 from q.1.2)] at hb; cases hb
    · have q2 := lk_iff.1 (h4 (i - 1).toNat (by omega))
      have := hC hb.1 hb.2 q2.1.1.1 q.1.1.1
      rcases q.2 with q3 | q3
      · omega
      · rw [show i.toNat - 1 = (i - 1).toNat by omega] at q3; exact this q3
theorem lk_ok (hd : 0 ≤ d ∧ d ≤ 8) (h0 : 0 ≤ i) (h4 : ∀ j : Nat, (j : Int) < i → lkE d ls j = true) (hC : 0 < i → C → (ls.getD (i - 1).toNat []).length = 2 → (ls.getD i.toNat []).length = 2 → ((ls.getD (i - 1).toNat []).getD 0 0 < (ls.getD i.toNat []).getD 0 0 ∨ ((ls.getD (i - 1).toNat []).getD 0 0 = (ls.getD i.toNat []).getD 0 0 ∧ (ls.getD (i - 1).toNat []).getD 1 0 < (ls.getD i.toNat []).getD 1 0)))
    (hb : ¬((¬(((ls.getD i.toNat []).length : Nat) : Int) = 2 ∨ inR ((ls.getD i.toNat []).getD (Int.toNat 1) 0) 0 (d - 1) = false) ∨ inR ((ls.getD i.toNat []).getD (Int.toNat 0) 0) 0 (IntKind.i64.wrap ((ls.getD i.toNat []).getD (Int.toNat 1) 0 - 1)) = false)) (hc : 0 < i → C) : ∀ j : Nat, (j : Int) < i + 1 → lkE d ls j = true := by
  simp only [not_or, Decidable.not_not, Bool.not_eq_false, inR_iff] at hb
  obtain ⟨⟨a, b⟩, c⟩ := hb
  have b : 0 ≤ (ls.getD i.toNat []).getD 1 0 ∧ (ls.getD i.toNat []).getD 1 0 ≤ d - 1 := b
  have hw : IntKind.i64.wrap ((ls.getD i.toNat []).getD (Int.toNat 1) 0 - 1) = (ls.getD i.toNat []).getD 1 0 - 1 := wrapI (by show _ ≤ (ls.getD i.toNat []).getD 1 0 - 1; omega) (by show (ls.getD i.toNat []).getD 1 0 - 1 ≤ _; omega)
  rw [hw] at c
  refine all_s (P := fun j => lkE d ls j = true) h0 h4 (lk_iff.2 ⟨⟨⟨by omega, b⟩, c⟩, ?_⟩)
  by_cases e : 0 < i
  · right
    have q2 := lk_iff.1 (h4 (i - 1).toNat (by omega))
    rw [show i.toNat - 1 = (i - 1).toNat by omega]
    exact hC e (hc e) q2.1.1.1 (by omega)
  · left; omega
end
theorem cp_bad {d i : Int} {ls : List (List Int)} (_h : 0 < i) (hc : 0 ≤ cmpI (ls.getD (i - 1).toNat []) (ls.getD i.toNat [])) (h1 : (ls.getD (i - 1).toNat []).length = 2) (h2 : (ls.getD i.toNat []).length = 2) : ¬((ls.getD (i - 1).toNat []).getD 0 0 < (ls.getD i.toNat []).getD 0 0 ∨ ((ls.getD (i - 1).toNat []).getD 0 0 = (ls.getD i.toNat []).getD 0 0 ∧ (ls.getD (i - 1).toNat []).getD 1 0 < (ls.getD i.toNat []).getD 1 0)) := fun e => by
  have := (cmp2 h1 h2).2 e; omega
theorem lk_pl {d i : Int} {ls : List (List Int)} (h0 : 0 ≤ i) (h4 : ∀ j : Nat, (j : Int) < i → lkE d ls j = true) (hc : (((ls.getD i.toNat []).length : Nat) : Int) = 2) : (ls.getD (i - 1).toNat []).length = 2 := by
  by_cases e : 0 < i
  · exact (lk_iff.1 (h4 (i - 1).toNat (by omega))).1.1.1
  · rw [show (i - 1).toNat = i.toNat by omega]; omega
theorem lk_cl {A B C : Prop} (h : ¬(¬A ∨ B) ∧ C) : A := by
  refine Classical.byContradiction fun hn => h.1 (.inl hn)
theorem lx_bad {d i : Int} {ls : List (List Int)} (_h : 0 < i) (hc : (ls.getD i.toNat []).getD (Int.toNat 0) 0 < (ls.getD (i - 1).toNat []).getD (Int.toNat 0) 0 ∨ ((ls.getD (i - 1).toNat []).getD (Int.toNat 0) 0 = (ls.getD i.toNat []).getD (Int.toNat 0) 0 ∧ (ls.getD i.toNat []).getD (Int.toNat 1) 0 ≤ (ls.getD (i - 1).toNat []).getD (Int.toNat 1) 0)) (_h1 : (ls.getD (i - 1).toNat []).length = 2) (_h2 : (ls.getD i.toNat []).length = 2) : ¬((ls.getD (i - 1).toNat []).getD 0 0 < (ls.getD i.toNat []).getD 0 0 ∨ ((ls.getD (i - 1).toNat []).getD 0 0 = (ls.getD i.toNat []).getD 0 0 ∧ (ls.getD (i - 1).toNat []).getD 1 0 < (ls.getD i.toNat []).getD 1 0)) := fun e => by
  have hc : (ls.getD i.toNat []).getD 0 0 < (ls.getD (i - 1).toNat []).getD 0 0 ∨ ((ls.getD (i - 1).toNat []).getD 0 0 = (ls.getD i.toNat []).getD 0 0 ∧ (ls.getD i.toNat []).getD 1 0 ≤ (ls.getD (i - 1).toNat []).getD 1 0) := hc
  omega
theorem lk_or {P : Prop} {b : Bool} (h : ¬P ∧ b = true) : ¬(P ∨ b = false) := fun e => e.elim h.1 fun e => by rw [h.2] at e; cases e
/-- the locks that states keep -/
def kpS (st : List Bool) (ls : List (List Int)) : Bool := ls.all fun l => !(st.getD (l.getD 0 0).toNat false && st.getD (l.getD 1 0).toNat false)
theorem kpS_f {st : List Bool} {ls : List (List Int)} {i : Int} (h0 : 0 ≤ i) (h1 : i < ls.length) (h : st.getD ((ls.getD i.toNat []).getD (Int.toNat 0) 0).toNat false = true ∧ st.getD ((ls.getD i.toNat []).getD (Int.toNat 1) 0).toNat false = true) : kpS st ls = false := by
  have h : st.getD ((ls.getD i.toNat []).getD 0 0).toNat false = true ∧ st.getD ((ls.getD i.toNat []).getD 1 0).toNat false = true := h
  unfold kpS
  rw [List.all_eq_false]
  exact ⟨_, getD_mem (d := []) (show i.toNat < ls.length by omega), by rw [h.1, h.2]; decide⟩
theorem kpS_t {st : List Bool} {ls : List (List Int)} {i : Int} (h1 : (ls.length : Int) ≤ i) (h : ∀ j : Nat, (j : Int) < i → (st.getD ((ls.getD j []).getD 0 0).toNat false && st.getD ((ls.getD j []).getD 1 0).toNat false) = false) : kpS st ls = true := by
  unfold kpS
  exact (all_iff (d := [])).2 fun j hj => by rw [h j (by omega)]; rfl
theorem kpS_bits {ls : List (List Int)} {bs : List Bool} (h : okLk bs.length ls = true) : kpS bs ls = kpN ls (bitsN bs bs.length) := by
  rw [kpN_bits]
  unfold kpS
  rw [Bool.eq_iff_iff, List.all_eq_true, List.all_eq_true]
  have q := okLk_p h
  have e : ∀ l ∈ ls, decide ((l.getD 0 0).toNat < bs.length) = true ∧ decide ((l.getD 1 0).toNat < bs.length) = true := fun l hl => by
    obtain ⟨i, hi, rfl⟩ := List.getElem_of_mem hl
    have := q.2.2 i hi
    have e0 : ls.getD i [] = ls[i] := by rw [List.getD_eq_getElem?_getD, List.getElem?_eq_getElem hi]; rfl
    rw [e0] at this
    exact ⟨decide_eq_true (by omega), decide_eq_true (by omega)⟩
  constructor
  · intro a l hl; have := a l hl; rw [(e l hl).1, (e l hl).2, Bool.true_and, Bool.true_and]; exact this
  · intro a l hl; have := a l hl; rw [(e l hl).1, (e l hl).2, Bool.true_and, Bool.true_and] at this; exact this
/-- a number's bits as states -/
def stsN (n s : Nat) : List Bool := (List.range n).map s.testBit
theorem stsN_len {n s : Nat} : (stsN n s).length = n := by unfold stsN; simp
theorem stsN_at {n s j : Nat} (h : j < n) : (stsN n s).getD j false = s.testBit j := by
  unfold stsN
  rw [List.getD_eq_getElem?_getD, List.getElem?_map, List.getElem?_range h]; rfl
theorem kpS_sts {ls : List (List Int)} {n s : Nat} (h : okLk n ls = true) : kpS (stsN n s) ls = kpN ls s := by
  unfold kpS kpN
  rw [Bool.eq_iff_iff, List.all_eq_true, List.all_eq_true]
  have q := okLk_p h
  have e : ∀ l ∈ ls, (stsN n s).getD (l.getD 0 0).toNat false = s.testBit (l.getD 0 0).toNat ∧ (stsN n s).getD (l.getD 1 0).toNat false = s.testBit (l.getD 1 0).toNat := fun l hl => by
    obtain ⟨i, hi, rfl⟩ := List.getElem_of_mem hl
    have := q.2.2 i hi
    have e0 : ls.getD i [] = ls[i] := by rw [List.getD_eq_getElem?_getD, List.getElem?_eq_getElem hi]; rfl
    rw [e0] at this
    exact ⟨stsN_at (by omega), stsN_at (by omega)⟩
  constructor
  · intro a l hl; have := a l hl; rwa [(e l hl).1, (e l hl).2] at this
  · intro a l hl; have := a l hl; rwa [(e l hl).1, (e l hl).2]
theorem stsN_s {s : Nat} {i : Int} (h : 0 ≤ i) : stsN (i + 1).toNat s = stsN i.toNat s ++ [s.testBit i.toNat] := by
  rw [show (i + 1).toNat = i.toNat + 1 by omega]; unfold stsN; rw [List.range_succ, List.map_append]; rfl
/-- are these states ones that keep all locks? -/
def arL (bs : List Bool) (ls : List (List Int)) : Bool := okLk bs.length ls && kpN ls (bitsN bs bs.length)
end Go.Proofs.Ytpckcolkehgdaaa
