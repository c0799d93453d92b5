/- Contracts of functions of the program, and what they compute. Conditions: those that each theorem states. -/
import Derived.Test.YtdhkpmaanegjkaaProg
import Derived.Test.YtdhkpmaanegjkaaG1
set_option linter.unusedVariables false
set_option linter.unusedSimpArgs false
namespace Go.Proofs.Ytdhkpmaanegjkaa
open Go.Av
attribute [local irreducible] Go.IntKind.wrap leastI rdZ rd rootI
set_option maxRecDepth 20000
set_option maxHeartbeats 4000000

theorem wrapU8 {n : Int} (h1 : 0 ≤ n) (h2 : n ≤ 18446744073709551615) : IntKind.u64.wrap n = n := (wrap_eq_iff .u64 n).2 ⟨h1, h2⟩
theorem and32 {x : Int} (h0 : 0 ≤ x) (h1 : x ≤ 4294967295) : bitI .and .u64 x 4294967295 = x := by
  have e : (BitVec.ofInt 64 x &&& BitVec.ofInt 64 4294967295).toNat = x.toNat := by
    rw [BitVec.toNat_and]
    have a : (BitVec.ofInt 64 x).toNat = x.toNat := by rw [BitVec.toNat_ofInt]; omega
    have b : (BitVec.ofInt 64 4294967295).toNat = 2 ^ 32 - 1 := by decide
    rw [a, b, Nat.and_two_pow_sub_one_eq_mod]
    exact Nat.mod_eq_of_lt (by omega)
  show IntKind.u64.wrap ((BitVec.ofInt 64 x &&& BitVec.ofInt 64 4294967295).toNat : Int) = x
  rw [e, wrapU8 (by omega) (by omega)]; omega
theorem shr32 {x : Int} (h0 : 0 ≤ x) (h1 : x ≤ 4294967295) : x.fdiv (2 ^ (min (Int.toNat 32) (IntKind.bits .u64))) = 0 := by
  rw [Int.fdiv_eq_ediv_of_nonneg _ (by decide)]
  show x / 4294967296 = 0
  omega
theorem rep_get {x : Int} {ys : List Int} {m c : Nat} (hc : c ≤ m) (hm : m + c ≤ ys.length) (h : ∀ j : Nat, j < m → ys.getD j 0 = x) : ∀ j : Nat, j < m + c → (ys.take m ++ (ys.take m).take c ++ ys.drop (m + c)).getD j 0 = x := by
  intro j hj
  have hl : (ys.take m).length = m := by simp; omega
  have hl2 : ((ys.take m).take c).length = c := by simp; omega
  rw [List.getD_eq_getElem?_getD, List.append_assoc]
  by_cases e : j < m
  · rw [List.getElem?_append_left (by omega), List.getElem?_take, if_pos e, ← List.getD_eq_getElem?_getD]; exact h j e
  · rw [List.getElem?_append_right (by omega), List.getElem?_append_left (by omega), List.getElem?_take, if_pos (by omega), List.getElem?_take, if_pos (by omega), ← List.getD_eq_getElem?_getD]
    exact h _ (by omega)
theorem rep_all {x : Int} {n : Nat} {ys : List Int} (hl : ys.length = n) (h : ∀ j : Nat, j < n → ys.getD j 0 = x) : ys = List.replicate n x := by
  refine ext_getD 0 (by simp [hl]) fun j hj => ?_
  rw [h j (by omega), List.getD_eq_getElem?_getD, List.getElem?_replicate, if_pos (by omega)]; rfl
theorem flI (xs : List Int) : ∀ e ∈ List.map eI xs, ∀ p ∈ e, ∃ v, p = PV.c v := by
  intro e he p hp
  obtain ⟨x, _, rfl⟩ := List.mem_map.1 he
  exact ⟨_, List.mem_singleton.1 hp⟩
theorem cp1 (x : Int) (n : Nat) : List.take 0 (List.map eI (List.replicate n 0)) ++ List.take (min 1 n) (List.map eI [x]) ++ List.drop (0 + min 1 n) (List.map eI (List.replicate n 0)) = List.map eI ([x].take (min 1 n) ++ (List.replicate n 0).drop (min 1 n)) := by
  simp [List.map_take, List.map_drop, List.map_append]
theorem cp2 (ys : List Int) (m k c : Nat) : List.take m (List.map eI ys) ++ List.take c (List.map eI (ys.take k)) ++ List.drop (m + c) (List.map eI ys) = List.map eI (ys.take m ++ (ys.take k).take c ++ ys.drop (m + c)) := by
  simp [List.map_take, List.map_drop, List.map_append]
theorem cp3 (ys : List Int) (m : Nat) : List.take m (List.drop 0 (List.map eI ys)) = List.map eI (ys.take m) := by
  simp [List.map_take]
theorem repA (x n : Int) (hn : 0 ≤ n) : 0 ≤ ((min 1 n.toNat : Nat) : Int) ∧ ((min 1 n.toNat : Nat) : Int) ≤ n ∧ (n = 0 ∨ 1 ≤ ((min 1 n.toNat : Nat) : Int)) ∧ (List.take (min 1 n.toNat) [x] ++ List.drop (min 1 n.toNat) (List.replicate n.toNat 0)).length = n.toNat ∧
    ∀ j : Nat, j < ((min 1 n.toNat : Nat) : Int).toNat → (List.take (min 1 n.toNat) [x] ++ List.drop (min 1 n.toNat) (List.replicate n.toNat 0)).getD j 0 = x := by
  refine ⟨by omega, by omega, by omega, ?_, fun j hj => ?_⟩
  · simp only [List.length_append, List.length_take, List.length_drop, List.length_replicate, List.length_cons, List.length_nil]; omega
  · have e : min 1 n.toNat = 1 := by omega
    have j0 : j = 0 := by omega
    rw [e, j0]; rfl
theorem repB (x n m : Int) (ys : List Int) (h0 : 0 ≤ m) (h1 : m ≤ n) (h2 : n = 0 ∨ 1 ≤ m) (h3 : ys.length = n.toNat) (h4 : ∀ j : Nat, j < m.toNat → ys.getD j 0 = x) (hb : m < n) (c : Nat) (hc : c = min (List.map eI (List.take m.toNat ys)).length (n.toNat - m.toNat)) :
    (0 ≤ m + (c : Int) ∧ m + (c : Int) ≤ n ∧ (n = 0 ∨ 1 ≤ m + (c : Int)) ∧ (List.take m.toNat ys ++ List.take c (List.take m.toNat ys) ++ List.drop (m.toNat + c) ys).length = n.toNat ∧
      ∀ j : Nat, j < (m + (c : Int)).toNat → (List.take m.toNat ys ++ List.take c (List.take m.toNat ys) ++ List.drop (m.toNat + c) ys).getD j 0 = x) ∧ (n - (m + (c : Int))).toNat < (n - m).toNat := by
  have hc' : c = min m.toNat (n.toNat - m.toNat) := by rw [hc, List.length_map, List.length_take, h3]; omega
  have hm : 1 ≤ m := by omega
  refine ⟨⟨by omega, by omega, by omega, ?_, fun j hj => ?_⟩, by omega⟩
  · simp only [List.length_append, List.length_take, List.length_drop]; omega
  · exact rep_get (by omega) (by omega) h4 j (by omega)
end Go.Proofs.Ytdhkpmaanegjkaa
