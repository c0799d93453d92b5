/- Contracts of functions of the program, and what they compute. Conditions: those that each theorem states. -/
import Derived.Test.YtnmfbdkiehickaaProg
import Derived.Test.YtnmfbdkiehickaaS3b
import Derived.Test.YtnmfbdkiehickaaS6
set_option linter.unusedVariables false
set_option linter.unusedSimpArgs false
namespace Go.Proofs.Ytnmfbdkiehickaa
open Go.Av
attribute [local irreducible] Go.IntKind.wrap okModes okMode bestT argT costM leastV leftS okHours restF freeN dayN pathM costTo
set_option maxRecDepth 20000
set_option maxHeartbeats 4000000

/-! The reference's tables: plain facts. -/
/-- the least cost from an hour on that begins with a mode, so many switches left behind it; -1 if there is none -/
def valT (ms : List GMode) (needs prices : List Int) (h : Int) (j : Nat) (s : Int) : Int :=
  if needs.getD h.toNat 0 ≤ (ms.getD j default).flow ∧ 0 ≤ leastV ms needs prices 10000000 (23 - h.toNat) j s then leastV ms needs prices 10000000 (23 - h.toNat) j s + costM (ms.getD j default) (prices.getD h.toNat 0) else -1
/-- the least of one number and of others -/
def minC (a : Int) (g : Nat → Int) (k : Nat) : Nat → Int
  | 0 => a
  | j + 1 => if ¬j = k ∧ 0 ≤ g j ∧ (minC a g k j < 0 ∨ g j < minC a g k j) then g j else minC a g k j
section
variable {a : Int} {g : Nat → Int} {k : Nat}
theorem minC_inv (ha : -1 ≤ a) : ∀ n : Nat, -1 ≤ minC a g k n ∧ (0 ≤ a → 0 ≤ minC a g k n ∧ minC a g k n ≤ a) ∧ (∀ j, j < n → ¬j = k → 0 ≤ g j → 0 ≤ minC a g k n ∧ minC a g k n ≤ g j) ∧ (0 ≤ minC a g k n → minC a g k n = a ∨ ∃ j, j < n ∧ ¬j = k ∧ g j = minC a g k n)
  | 0 => ⟨ha, fun h => ⟨h, Int.le_refl _⟩, fun j hj => absurd hj (by omega), fun _ => .inl rfl⟩
  | n + 1 => by
    obtain ⟨h1, h2, h3, h4⟩ := minC_inv ha n
    by_cases hc : ¬n = k ∧ 0 ≤ g n ∧ (minC a g k n < 0 ∨ g n < minC a g k n)
    · have e : minC a g k (n + 1) = g n := if_pos hc
      rw [e]
      refine ⟨by omega, fun h => by have := h2 h; omega, fun j hj hk h0 => ?_, fun _ => .inr ⟨n, by omega, hc.1, rfl⟩⟩
      by_cases ej : j = n
      · subst ej; omega
      · have := h3 j (by omega) hk h0; omega
    · have e : minC a g k (n + 1) = minC a g k n := if_neg hc
      rw [e]
      refine ⟨h1, h2, fun j hj hk h0 => ?_, fun h => (h4 h).imp id fun ⟨j, hj, q⟩ => ⟨j, by omega, q⟩⟩
      by_cases ej : j = n
      · subst ej
        have hq : ¬(minC a g k j < 0 ∨ g j < minC a g k j) := fun q => hc ⟨hk, h0, q⟩
        clear hc h3 h4 e
        omega
      · exact h3 j (by omega) hk h0
theorem minC_best {n : Nat} (ha : -1 ≤ a) (hk : k < n) : minC a g k n = bestT (fun j => if j = k then a else g j) n := by
  obtain ⟨h1, h2, h3, h4⟩ := minC_inv (g := g) (k := k) ha n
  symm
  apply bestT_at
  by_cases h0 : 0 ≤ minC a g k n
  · right
    refine ⟨h0, ?_, fun i hi hg => ?_⟩
    · rcases h4 h0 with e | ⟨j, hj, hjk, e⟩
      · exact ⟨k, hk, by simp [e]⟩
      · exact ⟨j, hj, by simp [hjk, e]⟩
    · by_cases e : i = k
      · simp only [e, if_true] at hg ⊢; exact (h2 hg).2
      · simp only [e, if_false] at hg ⊢; exact (h3 i hi e hg).2
  · left
    refine ⟨by omega, fun i hi => ?_⟩
    by_cases e : i = k
    · simp only [e, if_true]
      by_cases ha0 : 0 ≤ a
      · have := h2 ha0; omega
      · omega
    · simp only [e, if_false]
      by_cases hg : 0 ≤ g i
      · have := h3 i hi e hg; omega
      · omega
theorem one_best {n : Nat} (ha : -1 ≤ a) (hk : k < n) : a = bestT (fun j => if j = k then a else -1) n := by
  symm
  apply bestT_at
  by_cases h0 : 0 ≤ a
  · right
    refine ⟨h0, ⟨k, hk, by simp⟩, fun i hi hg => ?_⟩
    by_cases e : i = k
    · simp [e]
    · simp only [e, if_false] at hg; omega
  · left
    refine ⟨by omega, fun i hi => ?_⟩
    by_cases e : i = k
    · simp only [e, if_true]; omega
    · simp only [e, if_false]; omega
theorem minC_s {i c : Int} (h0 : 0 ≤ i) (hc : c = minC a g k i.toNat) (ht : ¬i = k ∧ 0 ≤ g i.toNat ∧ (c < 0 ∨ g i.toNat < c)) : g i.toNat = minC a g k (i + 1).toNat := by
  rw [show (i + 1).toNat = i.toNat + 1 by omega]
  exact (if_pos ⟨by omega, ht.2.1, by rw [← hc]; exact ht.2.2⟩).symm
theorem minC_k {i c : Int} (h0 : 0 ≤ i) (hc : c = minC a g k i.toNat) (ht : ¬(¬i = k ∧ 0 ≤ g i.toNat ∧ (c < 0 ∨ g i.toNat < c))) : c = minC a g k (i + 1).toNat := by
  rw [show (i + 1).toNat = i.toNat + 1 by omega, hc]
  exact (if_neg fun h => ht ⟨by omega, h.2.1, by rw [hc]; exact h.2.2⟩).symm
end
section
variable {ms : List GMode} {needs prices : List Int} {h s : Int} {k : Nat}
theorem valT_b (ho : okModes ms = true) (hp : okHours prices 1000 = true) (h0 : 0 ≤ h) (h1 : h < 24) (hk : k < ms.length) : -1 ≤ valT ms needs prices h k s ∧ valT ms needs prices h k s ≤ 250000000 := by
  have q := leastV_b (needs := needs) (peak := 10000000) ho hp (23 - h.toNat) (by omega) k s
  have c := (costM_b (mode_b ho hk) (price_b hp h0 h1)).2
  unfold valT
  split <;> omega
theorem step_val (ho : okModes ms = true) {m : Int} (h0 : 0 ≤ h) (hk : k < ms.length) : stepW ms needs prices 10000000 (leastV ms needs prices 10000000 (23 - h.toNat)) h m s k = if 0 ≤ leftS m s k then valT ms needs prices h k (leftS m s k) else -1 := by
  have hm := mode_b ho hk
  have hf : fitH ms needs 10000000 h k = true ↔ needs.getD h.toNat 0 ≤ (ms.getD k default).flow := by
    unfold fitH
    simp only [Int.toNat_natCast, Bool.and_eq_true, decide_eq_true_eq]
    omega
  unfold stepW valT
  by_cases h1 : 0 ≤ leftS m s k
  · rw [if_pos h1]
    simp only [h1, true_and, hf]
  · rw [if_neg h1, if_neg (fun q => h1 q.1.1)]
/-- the costs behind an hour, mode by mode -/
theorem next_val (ho : okModes ms = true) (h0 : 0 ≤ h) (h1 : h + 1 < 24) (hk : k < ms.length) : leastV ms needs prices 10000000 (23 - h.toNat) k s = bestT (fun j => if j = k then (if 0 ≤ s then valT ms needs prices (h + 1) k s else -1) else (if 0 ≤ s - 1 then valT ms needs prices (h + 1) j (s - 1) else -1)) ms.length := by
  have e : 23 - h.toNat = 24 - (h + 1).toNat := by omega
  rw [e, least_t (by omega) h1]
  refine (bestT_congr fun j hj => ?_).1
  rw [step_val ho (by omega) hj]
  unfold leftS
  by_cases ej : j = k
  · subst ej
    rw [if_neg (show ¬((0 : Int) ≤ j ∧ ¬(j : Int) = j) by omega), if_pos rfl]
  · rw [if_pos (show (0 : Int) ≤ k ∧ ¬(k : Int) = j by omega), if_neg ej]
theorem next_min (ho : okModes ms = true) (hp : okHours prices 1000 = true) (h0 : 0 ≤ h) (h1 : h + 1 < 24) (hk : k < ms.length) (hs : 0 < s) : minC (valT ms needs prices (h + 1) k s) (fun j => valT ms needs prices (h + 1) j (s - 1)) k ms.length = leastV ms needs prices 10000000 (23 - h.toNat) k s := by
  rw [minC_best (valT_b ho hp (by omega) h1 hk).1 hk, next_val ho h0 h1 hk]
  refine (bestT_congr fun j hj => ?_).1
  rw [if_pos (show 0 ≤ s by omega), if_pos (show 0 ≤ s - 1 by omega)]
theorem next_one (ho : okModes ms = true) (hp : okHours prices 1000 = true) (h0 : 0 ≤ h) (h1 : h + 1 < 24) (hk : k < ms.length) (hs : s = 0) : valT ms needs prices (h + 1) k s = leastV ms needs prices 10000000 (23 - h.toNat) k s := by
  rw [next_val ho h0 h1 hk]
  simp only [show (0 ≤ s) = True from eq_true (by omega), show (0 ≤ s - 1) = False from eq_false (by omega), if_true, if_false]
  exact one_best (valT_b ho hp (by omega) h1 hk).1 hk
end
def rowT (ms : List GMode) (needs prices : List Int) (h : Int) (k : Nat) (n : Nat) : List Int := (List.range n).map fun s : Nat => valT ms needs prices h k (s : Int)
def tblN (ms : List GMode) (needs prices : List Int) (h : Int) (n : Nat) : List (List Int) := (List.range n).map fun k => rowT ms needs prices h k 25
section
variable {ms : List GMode} {needs prices : List Int} {h : Int} {k n : Nat}
theorem rowT_len : (rowT ms needs prices h k n).length = n := by simp [rowT]
theorem tblN_len : (tblN ms needs prices h n).length = n := by simp [tblN]
theorem rowT_s {s : Int} (h0 : 0 ≤ s) : rowT ms needs prices h k (s + 1).toNat = rowT ms needs prices h k s.toNat ++ [valT ms needs prices h k s] := by
  rw [show (s + 1).toNat = s.toNat + 1 by omega]
  simp only [rowT, List.range_succ, List.map_append, List.map_cons, List.map_nil, show ((s.toNat : Nat) : Int) = s by omega]
theorem tblN_s {k : Int} (h0 : 0 ≤ k) : tblN ms needs prices h (k + 1).toNat = tblN ms needs prices h k.toNat ++ [rowT ms needs prices h k.toNat 25] := by
  rw [show (k + 1).toNat = k.toNat + 1 by omega]
  simp only [tblN, List.range_succ, List.map_append, List.map_cons, List.map_nil]
theorem rowT_get {s : Int} (h0 : 0 ≤ s) (h1 : s.toNat < n) : (rowT ms needs prices h k n).getD s.toNat 0 = valT ms needs prices h k s := by
  simp only [rowT, List.getD_eq_getElem?_getD, List.getElem?_map, List.getElem?_range h1, Option.map_some, Option.getD_some, show ((s.toNat : Nat) : Int) = s by omega]
theorem tblN_get (hk : k < n) : (tblN ms needs prices h n).getD k [] = rowT ms needs prices h k 25 := by
  simp only [tblN, List.getD_eq_getElem?_getD, List.getElem?_map, List.getElem?_range hk, Option.map_some, Option.getD_some]
theorem rowT_0 : [] = rowT ms needs prices h k 0 := rfl
theorem tblN_0 : [] = tblN ms needs prices h 0 := rfl
end
end Go.Proofs.Ytnmfbdkiehickaa
