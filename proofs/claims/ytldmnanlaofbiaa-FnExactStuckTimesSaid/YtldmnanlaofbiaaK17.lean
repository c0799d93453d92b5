/- Contracts of functions of the program, and what they compute. Conditions: those that each theorem states. -/
import Derived.Test.YtldmnanlaofbiaaProg
import Derived.Test.YtldmnanlaofbiaaK16
import Derived.Test.YtldmnanlaofbiaaK4
import Derived.Test.YtldmnanlaofbiaaR0
set_option linter.unusedVariables false
set_option linter.unusedSimpArgs false
namespace Go.Proofs.Ytldmnanlaofbiaa
open Go.Av
attribute [local irreducible] Go.IntKind.wrap leastI
set_option maxRecDepth 20000
set_option maxHeartbeats 4000000

/-- where the run of equal readings ends that begins at f -/
def runU (xs : List Int) (f : Int) : Int := leastI (fun u => decide (u = xs.length ∨ ¬xs.getD u.toNat 0 = xs.getD f.toNat 0)) (f + 1) xs.length
theorem runU_at {xs : List Int} {f u : Int} (h0 : f < u) (h1 : u ≤ xs.length) (h2 : ∀ t : Int, f < t → t < u → xs.getD t.toNat 0 = xs.getD f.toNat 0) (h3 : u = xs.length ∨ ¬xs.getD u.toNat 0 = xs.getD f.toNat 0) : runU xs f = u :=
  leastI_at (by omega) h1 (decide_eq_true h3) fun m a b => decide_eq_false fun h => h.elim (fun e => by omega) fun e => e (h2 m (by omega) b)
/-- where runs begin -/
def bndU (xs : List Int) : Nat → Int
  | 0 => 0
  | k + 1 => if bndU xs k < xs.length then runU xs (bndU xs k) else bndU xs k
def stuckN (xs : List Int) (len : Int) : Nat → List (List Int)
  | 0 => []
  | k + 1 => if bndU xs k < xs.length ∧ ¬xs.getD (bndU xs k).toNat 0 = -1 ∧ len ≤ bndU xs (k + 1) - bndU xs k then stuckN xs len k ++ [[bndU xs k, bndU xs (k + 1)]] else stuckN xs len k
theorem bndU_s {xs : List Int} {k : Nat} : bndU xs (k + 1) = if bndU xs k < xs.length then runU xs (bndU xs k) else bndU xs k := rfl
theorem stuckN_s {xs : List Int} {len : Int} {k : Nat} : stuckN xs len (k + 1) = if bndU xs k < xs.length ∧ ¬xs.getD (bndU xs k).toNat 0 = -1 ∧ len ≤ bndU xs (k + 1) - bndU xs k then stuckN xs len k ++ [[bndU xs k, bndU xs (k + 1)]] else stuckN xs len k := rfl
theorem stuck_end {xs : List Int} {len : Int} {k : Nat} (h : (xs.length : Int) ≤ bndU xs k) : ∀ m : Nat, bndU xs (k + m) = bndU xs k ∧ stuckN xs len (k + m) = stuckN xs len k
  | 0 => ⟨rfl, rfl⟩
  | m + 1 => by
    obtain ⟨a, b⟩ := stuck_end (len := len) h m
    rw [← Nat.add_assoc, bndU_s, stuckN_s, a, b]
    exact ⟨if_neg (by omega), if_neg (by omega)⟩
theorem stuck_all {xs : List Int} {len f : Int} {k : Nat} (h : (xs.length : Int) ≤ f) (e : f = bndU xs k) (hk : k ≤ xs.length) : stuckN xs len xs.length = stuckN xs len k := by
  have := (stuck_end (xs := xs) (len := len) (k := k) (by omega) (xs.length - k)).2
  rw [show k + (xs.length - k) = xs.length by omega] at this; exact this
theorem stuck_hit {xs : List Int} {len f u : Int} {k : Nat} (e : f = bndU xs k) (hf : f < xs.length) (r : runU xs f = u) (h1 : ¬xs.getD f.toNat 0 = -1) (h2 : len ≤ u - f) : u = bndU xs (k + 1) ∧ stuckN xs len k ++ [[f, u]] = stuckN xs len (k + 1) := by
  have e1 : bndU xs (k + 1) = u := by rw [bndU_s, if_pos (by omega), ← e, r]
  refine ⟨e1.symm, ?_⟩
  rw [stuckN_s, if_pos ⟨by omega, by rw [← e]; exact h1, by omega⟩, e1, ← e]
theorem stuck_not {xs : List Int} {len f u : Int} {k : Nat} (e : f = bndU xs k) (hf : f < xs.length) (r : runU xs f = u) (h1 : xs.getD f.toNat 0 = -1 ∨ u - f < len) : u = bndU xs (k + 1) ∧ stuckN xs len k = stuckN xs len (k + 1) := by
  have e1 : bndU xs (k + 1) = u := by rw [bndU_s, if_pos (by omega), ← e, r]
  refine ⟨e1.symm, ?_⟩
  rw [stuckN_s, if_neg ?_]
  rintro ⟨_, h3, h4⟩
  rw [← e] at h3 h4
  rcases h1 with h1 | h1
  · exact h3 h1
  · omega
def stuckT (xs : List Int) (len : Int) : List (List Int) × Int := if okSeries xs = true ∧ inR len 2 200 = true then (stuckN xs len xs.length, 0) else ([], 2)
theorem stuckN_b {xs : List Int} {len : Int} : ∀ k : Nat, (stuckN xs len k).length ≤ k ∧ totI (stuckN xs len k) ≤ 2 * k
  | 0 => by simp [stuckN, totI]
  | k + 1 => by
    obtain ⟨a, b⟩ := stuckN_b (xs := xs) (len := len) k
    rw [stuckN_s]
    split
    · unfold totI at *
      simp only [List.length_append, List.map_append, List.sum_append, List.length_cons, List.length_nil, List.map_cons, List.map_nil, List.sum_cons, List.sum_nil]
      omega
    · omega
theorem stuckN_0 {xs : List Int} {len : Int} : [] = stuckN xs len 0 := rfl
theorem bndU_0 {xs : List Int} : 0 = bndU xs 0 := rfl
attribute [local irreducible] stuckN bndU runU
theorem stuck_inv1 {xs : List Int} {len f u : Int} {ss : List (List Int)} (h : ∃ k : Nat, (k : Int) ≤ f ∧ f = bndU xs k ∧ ss = stuckN xs len k) (hf : f < xs.length) (g0 : f < u) (g1 : u ≤ xs.length) (g2 : ∀ t : Int, f < t → t < u → xs.getD t.toNat 0 = xs.getD f.toNat 0) (g3 : u < xs.length → ¬xs.getD u.toNat 0 = xs.getD f.toNat 0) (h1 : ¬xs.getD f.toNat 0 = -1) (h2 : len ≤ u - f) : ∃ k : Nat, (k : Int) ≤ u ∧ u = bndU xs k ∧ ss ++ [[f, u]] = stuckN xs len k := by
  obtain ⟨k, a, b, c⟩ := h
  have r := runU_at g0 g1 g2 (by by_cases e : u = xs.length; exact .inl e; exact .inr (g3 (by omega)))
  obtain ⟨e1, e2⟩ := stuck_hit (len := len) b hf r h1 h2
  exact ⟨k + 1, by omega, e1, by rw [c]; exact e2⟩
theorem stuck_inv2 {xs : List Int} {len f u : Int} {ss : List (List Int)} (h : ∃ k : Nat, (k : Int) ≤ f ∧ f = bndU xs k ∧ ss = stuckN xs len k) (hf : f < xs.length) (g0 : f < u) (g1 : u ≤ xs.length) (g2 : ∀ t : Int, f < t → t < u → xs.getD t.toNat 0 = xs.getD f.toNat 0) (g3 : u < xs.length → ¬xs.getD u.toNat 0 = xs.getD f.toNat 0) (h1 : ¬xs.getD f.toNat 0 = -1 → u - f < len) : ∃ k : Nat, (k : Int) ≤ u ∧ u = bndU xs k ∧ ss = stuckN xs len k := by
  obtain ⟨k, a, b, c⟩ := h
  have r := runU_at g0 g1 g2 (by by_cases e : u = xs.length; exact .inl e; exact .inr (g3 (by omega)))
  obtain ⟨e1, e2⟩ := stuck_not (len := len) b hf r (by by_cases e : xs.getD f.toNat 0 = -1; exact .inl e; exact .inr (h1 e))
  exact ⟨k + 1, by omega, e1, by rw [c]; exact e2⟩
theorem stuck_fin {xs : List Int} {len f : Int} {ss : List (List Int)} (h : ∃ k : Nat, (k : Int) ≤ f ∧ f = bndU xs k ∧ ss = stuckN xs len k) (hf : xs.length ≤ f) (h1 : f ≤ xs.length) : stuckN xs len xs.length = ss := by
  obtain ⟨k, a, b, c⟩ := h
  rw [c]; exact stuck_all hf b (by omega)
end Go.Proofs.Ytldmnanlaofbiaa
