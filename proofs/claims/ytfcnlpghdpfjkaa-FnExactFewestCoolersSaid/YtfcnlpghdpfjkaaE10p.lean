/- Contracts of functions of the program, and what they compute. Conditions: those that each theorem states. -/
import Derived.Test.YtfcnlpghdpfjkaaProg
import Derived.Test.YtfcnlpghdpfjkaaE2p
set_option linter.unusedVariables false
set_option linter.unusedSimpArgs false
namespace Go.Proofs.Ytfcnlpghdpfjkaa
open Go.Av
attribute [local irreducible] Go.IntKind.wrap ext extL fstL fstSet
set_option maxRecDepth 20000
set_option maxHeartbeats 8000000

/-! A search for sets over any list: what its rounds say. -/
theorem extB_tl {L : List Int} {right : List Int → Bool} : ∀ (m i : Nat) (b : Int) (s : List Int), (ext L right m i b s).1 = true → (ext L right m i b s).2.2.length = s.length + m
  | 0, i, b, s, _ => by rw [ext_0 rfl]; rfl
  | m + 1, i, b, s, h => by
    rw [ext_s (by omega)] at h ⊢
    simp only [Nat.add_sub_cancel] at h ⊢
    generalize L.length - m - i = k at h ⊢
    induction k generalizing i b with
    | zero => rw [extL_0 rfl] at h; cases h
    | succ k ihk =>
      rw [extL_s (by omega)] at h ⊢
      by_cases h1 : (ext L right m (i + 1) b (s ++ [L.getD i 0])).1 = true
      · rw [if_pos h1]
        rw [extB_tl m (i + 1) b _ h1]; simp; omega
      · rw [if_neg h1] at h ⊢
        by_cases h2 : (ext L right m (i + 1) b (s ++ [L.getD i 0])).2.1 < 0
        · rw [if_pos h2] at h; cases h
        · rw [if_neg h2] at h ⊢
          exact ihk _ _ h
section
variable {L : List Int} {right : List Int → Bool} {N nd nd2 B : Int} {b2 fu2 : Bool} {n2 : Nat} {ys2 : List Int} {x : List Int × Int}
theorem fsB_t (k0 : 0 ≤ N) (hN : N ≤ L.length) (k4 : x = fstL L right (L.length + 1 - N.toNat) N.toNat (B - nd)) (e1 : b2 = (ext L right N.toNat (Int.toNat 0) (B - nd) []).1) (e5 : ys2.take n2 = (ext L right N.toNat (Int.toNat 0) (B - nd) []).2.2) (hb : b2 = true) : x = (ys2.take n2, 0) ∧ (ys2.take n2).length = N.toNat := by
  refine ⟨fst_t k4 k0 (by omega) e1 e5 hb, ?_⟩
  rw [e5, extB_tl _ _ _ _ (by rw [← e1]; exact hb)]; simp
theorem fsB_f (k0 : 0 ≤ N) (hN : N ≤ L.length) (k4 : x = fstL L right (L.length + 1 - N.toNat) N.toNat (B - nd)) (e1 : b2 = (ext L right N.toNat (Int.toNat 0) (B - nd) []).1) (e3 : fu2 = decide ((ext L right N.toNat (Int.toNat 0) (B - nd) []).2.1 < 0)) (hb : b2 = false) (hf : fu2 = true) : x = ([], 5) := by
  rw [hf] at e3
  exact fst_f k4 k0 (by omega) e1 rfl hb (of_decide_eq_true e3.symm)
theorem fsB_n (k0 : 0 ≤ N) (hN : N ≤ L.length) (hnd : 0 ≤ B - nd) (k4 : x = fstL L right (L.length + 1 - N.toNat) N.toNat (B - nd)) (e1 : b2 = (ext L right N.toNat (Int.toNat 0) (B - nd) []).1) (e2 : nd2 = B - max (ext L right N.toNat (Int.toNat 0) (B - nd) []).2.1 0) (e3 : fu2 = decide ((ext L right N.toNat (Int.toNat 0) (B - nd) []).2.1 < 0)) (e4 : n2 ≤ ys2.length) (e5 : ys2.take n2 = (ext L right N.toNat (Int.toNat 0) (B - nd) []).2.2) (hb : b2 = false) (hf : fu2 = false) :
    n2 = 0 ∧ (nd ≤ nd2 ∧ nd2 ≤ B) ∧ x = fstL L right (L.length + 1 - (N + 1).toNat) (N + 1).toNat (B - nd2) := by
  rw [Int.toNat_zero] at e1 e2 e3 e5
  rw [hf] at e3
  have e3 := of_decide_eq_false e3.symm
  have q := ext_emp hnd e1 rfl e4 e5 hb
  have e6 : B - nd2 = (ext L right N.toNat 0 (B - nd) []).2.1 := by omega
  refine ⟨q.1, by omega, ?_⟩
  rw [e6]
  exact fst_n k4 k0 (by omega) e1 rfl hb e3
theorem fsB_e (k0 : 0 ≤ N) (hN : ¬N ≤ L.length) (k4 : x = fstL L right (L.length + 1 - N.toNat) N.toNat (B - nd)) : x = ([], 3) := fst_e k4 k0 (by omega)
theorem fstL_lenB : ∀ (k n : Nat) (b : Int), (fstL L right k n b).1.length ≤ n + k
  | 0, n, b => by rw [fstL_0 rfl]; simp
  | k + 1, n, b => by
    rw [fstL_s (by omega)]
    by_cases h : (ext L right n 0 b []).1 = true
    · rw [if_pos h]
      have := extB_tl _ _ _ _ h
      dsimp only
      simp only [List.length_nil] at this
      omega
    · rw [if_neg h]
      split
      · simp
      · rw [Nat.add_sub_cancel]
        have := fstL_lenB k (n + 1) (ext L right n 0 b []).2.1
        omega
end
end Go.Proofs.Ytfcnlpghdpfjkaa
