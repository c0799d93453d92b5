/- Contracts of functions of the program, and what they compute. Conditions: those that each theorem states. -/
import Derived.Test.YtmifcbekaniiiaaGreatDoorProg
import Derived.Test.YtmifcbekaniiiaaGreatDoorT1
import Derived.Lib.ItoaMem
import Derived.Lib.AtoiAll
import Derived.Lib.Split
import Derived.Lib.Join
import Derived.Lib.IndexMore
import Derived.Lib.IndexBytes
set_option linter.unusedVariables false
set_option linter.unusedSimpArgs false
namespace Go.Proofs.YtmifcbekaniiiaaGreatDoor
open Go.Av
attribute [local irreducible] Go.IntKind.wrap
set_option maxRecDepth 20000
set_option maxHeartbeats 8000000

/-! Numerals: read back. -/
theorem parse_app (l r : List UInt8) : ∀ acc v : Nat, Lib.parseUint10 acc l = .ok v → Lib.parseUint10 acc (l ++ r) = Lib.parseUint10 v r := by
  induction l with
  | nil => intro acc v h; cases h; rfl
  | cons c l ih =>
    intro acc v h
    simp only [List.cons_append, Lib.parseUint10] at h ⊢
    split at h
    · rename_i h1
      rw [if_pos h1]
      split at h
      · cases h
      · rename_i h2
        rw [if_neg h2]
        split at h
        · cases h
        · rename_i h3
          rw [if_neg h3]
          exact ih _ _ h
    · cases h
theorem dig_nat {d : Nat} (h : d < 10) : (UInt8.ofNat (48 + d)).toNat = 48 + d := by
  rw [UInt8.toNat_ofNat']; omega
theorem parse_dig : ∀ u : Nat, u < 18446744073709551616 → Lib.parseUint10 0 (Lib.decDigits u) = .ok u := by
  intro u
  induction u using Nat.strongRecOn with
  | _ u ih =>
    intro hu
    by_cases h : u < 10
    · rw [Lib.decDigits, dif_pos h]
      simp only [Lib.parseUint10]
      rw [dig_nat h, if_pos (by omega), if_neg (by omega), if_neg (by omega)]
      congr 1; omega
    · rw [Lib.decDigits, dif_neg h, parse_app _ _ _ _ (ih (u / 10) (by omega) (by omega))]
      simp only [Lib.parseUint10]
      rw [dig_nat (Nat.mod_lt _ (by omega)), if_pos (by omega), if_neg (by omega), if_neg (by omega)]
      congr 1; omega
theorem dig_all : ∀ u : Nat, ∀ c ∈ Lib.decDigits u, 48 ≤ c.toNat ∧ c.toNat ≤ 57 := by
  intro u
  induction u using Nat.strongRecOn with
  | _ u ih =>
    intro c hc
    by_cases h : u < 10
    · rw [Lib.decDigits, dif_pos h] at hc
      simp only [List.mem_singleton] at hc
      rw [hc, dig_nat h]; omega
    · rw [Lib.decDigits, dif_neg h] at hc
      rcases List.mem_append.1 hc with hc | hc
      · exact ih (u / 10) (by omega) c hc
      · simp only [List.mem_singleton] at hc
        rw [hc, dig_nat (Nat.mod_lt _ (by omega))]; omega
theorem dig_ne (u : Nat) : Lib.decDigits u ≠ [] := by
  rw [Lib.decDigits]; split <;> simp
theorem dig_len : ∀ (k u : Nat), u < 10 ^ (k + 1) → (Lib.decDigits u).length ≤ k + 1
  | 0, u, h => by rw [Lib.decDigits, dif_pos (by simpa using h)]; simp
  | k + 1, u, h => by
    by_cases hu : u < 10
    · rw [Lib.decDigits, dif_pos hu]; simp
    · rw [Lib.decDigits, dif_neg hu, List.length_append]
      have := dig_len k (u / 10) (by rw [Nat.pow_succ] at h; omega)
      simp; omega
theorem atoi_itoa {n : Int} (h : -9223372036854775808 ≤ n ∧ n ≤ 9223372036854775807) : Lib.atoiAll (Lib.itoa n) = .ok n := by
  unfold Lib.itoa
  by_cases hn : n < 0
  · rw [if_pos hn]
    unfold Lib.atoiAll
    dsimp only
    rw [if_pos (by decide)]
    unfold Lib.parseMag
    rw [if_neg (dig_ne _), parse_dig _ (by omega)]
    dsimp only
    rw [if_neg (by simp), if_neg (by omega), if_pos (by decide)]
    congr 1; omega
  · rw [if_neg hn]
    cases hd : Lib.decDigits n.toNat with
    | nil => exact absurd hd (dig_ne _)
    | cons c r =>
      have hc := dig_all n.toNat c (by rw [hd]; simp)
      unfold Lib.atoiAll
      dsimp only
      rw [if_neg (by omega), ← hd]
      unfold Lib.parseMag
      rw [if_neg (dig_ne _), parse_dig _ (by omega)]
      dsimp only
      rw [if_neg (by omega), if_neg (by omega), if_neg (by omega)]
      congr 1; omega
/-- the decimal form of a number -/
def decS (n : Int) : ByteArray := ⟨(Lib.itoa n).toArray⟩
theorem decS_list {n : Int} : (decS n).data.toList = Lib.itoa n := by unfold decS; simp
theorem itoa_ch {n : Int} : ∀ c ∈ Lib.itoa n, c.toNat = 45 ∨ 48 ≤ c.toNat ∧ c.toNat ≤ 57 := by
  intro c hc
  unfold Lib.itoa at hc
  split at hc
  · rcases List.mem_cons.1 hc with h | h
    · left; rw [h]; rfl
    · exact .inr (dig_all _ c h)
  · exact .inr (dig_all _ c hc)
theorem itoa_len {n : Int} (h : -1000000000000000000 < n ∧ n < 1000000000000000000) : (Lib.trimPrefix (Lib.itoa n) [45]).length ≤ 18 := by
  unfold Lib.itoa
  by_cases hn : n < 0
  · rw [if_pos hn]
    have := dig_len 17 n.natAbs (by omega)
    unfold Lib.trimPrefix
    split
    · simpa using this
    · rename_i hp
      exact absurd (by rfl) hp
  · rw [if_neg hn]
    have := dig_len 17 n.toNat (by omega)
    unfold Lib.trimPrefix
    split
    · simp; omega
    · exact this
theorem itoa_len21 {n : Int} (h : -9223372036854775808 ≤ n ∧ n ≤ 9223372036854775807) : (Lib.itoa n).length ≤ 20 := by
  unfold Lib.itoa
  by_cases hn : n < 0
  · rw [if_pos hn]; have := dig_len 18 n.natAbs (by omega); simpa using this
  · rw [if_neg hn]; have := dig_len 18 n.toNat (by omega); omega
theorem itoa_inj {n m : Int} (hn : -9223372036854775808 ≤ n ∧ n ≤ 9223372036854775807) (hm : -9223372036854775808 ≤ m ∧ m ≤ 9223372036854775807) (h : Lib.itoa n = Lib.itoa m) : n = m := by
  have a := atoi_itoa hn
  rw [h, atoi_itoa hm] at a
  injection a with a
  exact a.symm
/-! Texts in parts: put together and taken apart. -/
theorem idx_free {l : List UInt8} {c : UInt8} (h : c ∉ l) : Lib.indexByte l c = -1 := by
  induction l with
  | nil => rfl
  | cons b l ih =>
    have h1 : ¬ (b == c) = true := fun e => h (by rw [beq_iff_eq.1 e]; simp)
    rw [Lib.indexByte, if_neg h1, ih (fun e => h (List.mem_cons_of_mem _ e))]; rfl
theorem idx_at {l r : List UInt8} {c : UInt8} (h : c ∉ l) : Lib.indexByte (l ++ c :: r) c = l.length := by
  induction l with
  | nil => simp [Lib.indexByte]
  | cons b l ih =>
    have h1 : ¬ (b == c) = true := fun e => h (by rw [beq_iff_eq.1 e]; simp)
    have h2 := ih (fun e => h (List.mem_cons_of_mem _ e))
    rw [List.cons_append, Lib.indexByte, if_neg h1, h2, if_neg (by simp only [beq_iff_eq]; omega)]
    simp
theorem indexB_l {s : ByteArray} {c : UInt8} : Lib.indexB s ⟨#[c]⟩ = Lib.indexByte s.data.toList c := by
  show Lib.index _ [c] = _
  exact Lib.index_one _ _
/-- parts, each without the mark, joined by it and split again -/
def joinS (c : UInt8) (xs : List ByteArray) : ByteArray := ⟨(Lib.join (xs.map (·.data.toList)) [c]).toArray⟩
theorem joinS_list {c : UInt8} {xs : List ByteArray} : (joinS c xs).data.toList = Lib.join (xs.map (·.data.toList)) [c] := by unfold joinS; simp
theorem ba_ext {a b : ByteArray} (h : a.data.toList = b.data.toList) : a = b := by
  apply ByteArray.ext
  exact Array.toList_inj.1 h
theorem join_2 {x y : List UInt8} {r : List (List UInt8)} {c : UInt8} : Lib.join (x :: y :: r) [c] = x ++ c :: Lib.join (y :: r) [c] := by
  simp [Lib.join, List.intercalate]
theorem split_join {c : UInt8} : ∀ (k : Nat) (xs : List ByteArray), xs ≠ [] → xs.length ≤ k + 1 → (∀ x ∈ xs, c ∉ x.data.toList) → Lib.splitB ⟨#[c]⟩ 0 k (joinS c xs) = xs
  | _, [], h, _, _ => absurd rfl h
  | k, [x], _, _, hx => by
    have e : joinS c [x] = x := ba_ext (by rw [joinS_list]; simp [Lib.join_one])
    rw [e, Lib.splitB_miss]
    rw [indexB_l, idx_free (hx x (by simp))]
  | 0, x :: y :: r, _, hl, _ => by simp at hl
  | k + 1, x :: y :: r, _, hl, hx => by
    have e : (joinS c (x :: y :: r)).data.toList = x.data.toList ++ c :: (joinS c (y :: r)).data.toList := by
      rw [joinS_list, joinS_list]; exact join_2
    have hi : Lib.indexB (joinS c (x :: y :: r)) ⟨#[c]⟩ = (x.data.toList.length : Nat) := by rw [indexB_l, e, idx_at (hx x (by simp))]
    rw [Lib.splitB_hit _ _ _ _ _ hi]
    have h1 : (joinS c (x :: y :: r)).extract 0 (x.data.toList.length + 0) = x := ba_ext (by
      rw [ByteArray.data_extract, Array.toList_extract, e]; simp)
    have h2 : (joinS c (x :: y :: r)).extract (x.data.toList.length + (⟨#[c]⟩ : ByteArray).size) (joinS c (x :: y :: r)).size = joinS c (y :: r) := ba_ext (by
      rw [ByteArray.data_extract, Array.toList_extract, List.extract_eq_take_drop, Lib.size_eq (joinS c (x :: y :: r)), e]
      show List.take _ (List.drop (x.data.toList.length + 1) _) = _
      have e2 : List.drop (x.data.toList.length + 1) (x.data.toList ++ c :: (joinS c (y :: r)).data.toList) = (joinS c (y :: r)).data.toList := by
        rw [List.drop_append, List.drop_eq_nil_of_le (by omega), show x.data.toList.length + 1 - x.data.toList.length = 1 by omega]; rfl
      rw [e2, List.take_of_length_le]
      rw [List.length_append, List.length_cons]
      show _ ≤ _ - (x.data.toList.length + 1)
      omega)
    rw [h1, h2, split_join k (y :: r) (by simp) (by simpa using hl) (fun z hz => hx z (List.mem_cons_of_mem _ hz))]
end Go.Proofs.YtmifcbekaniiiaaGreatDoor
