/- Contracts of functions of the program, and what they compute. Conditions: those that each theorem states. -/
import Derived.Test.YtdhkpmaanegjkaaProg
import Derived.Test.YtdhkpmaanegjkaaK16
import Derived.Test.YtdhkpmaanegjkaaK3
set_option linter.unusedVariables false
set_option linter.unusedSimpArgs false
namespace Go.Proofs.Ytdhkpmaanegjkaa
open Go.Av
attribute [local irreducible] Go.IntKind.wrap
set_option maxRecDepth 20000
set_option maxHeartbeats 4000000

/-- one reading of a sensor: the run of high readings, where the alarm began (or -1), the alarms that are over -/
def alStep (x : GSensor) (v u : Int) (s : Int × Int × List (List Int)) : Int × Int × List (List Int) :=
  (if x.limit < v then s.1 + 1 else 0,
   if (if 0 ≤ s.2.1 ∧ ¬v = -1 ∧ v ≤ x.release then -1 else s.2.1) < 0 ∧ x.delay ≤ (if x.limit < v then s.1 + 1 else 0) then u else if 0 ≤ s.2.1 ∧ ¬v = -1 ∧ v ≤ x.release then -1 else s.2.1,
   if 0 ≤ s.2.1 ∧ ¬v = -1 ∧ v ≤ x.release then s.2.2 ++ [[s.2.1, u]] else s.2.2)
def alS (x : GSensor) (xs : List Int) : Nat → Int × Int × List (List Int)
  | 0 => (0, -1, [])
  | k + 1 => alStep x (xs.getD k 0) k (alS x xs k)
/-- an alarm that isn't over lasts to the end -/
def alW (f L : Int) (ss : List (List Int)) : List (List Int) := if 0 ≤ f then ss ++ [[f, L]] else ss
def alR (x : GSensor) (xs : List Int) : List (List Int) := alW (alS x xs xs.length).2.1 xs.length (alS x xs xs.length).2.2
theorem alS_b {x : GSensor} {xs : List Int} : ∀ k : Nat, (0 ≤ (alS x xs k).1 ∧ (alS x xs k).1 ≤ k) ∧ (-1 ≤ (alS x xs k).2.1 ∧ (alS x xs k).2.1 < k) ∧ (alS x xs k).2.2.length ≤ k ∧ ∀ r ∈ (alS x xs k).2.2, ∃ a b : Int, r = [a, b] ∧ 0 ≤ a ∧ a ≤ b ∧ b ≤ k
  | 0 => by refine ⟨⟨by simp [alS], by simp [alS]⟩, ⟨by simp [alS], by simp [alS]⟩, by simp [alS], fun r hr => by simp [alS] at hr⟩
  | k + 1 => by
    obtain ⟨⟨a1, a2⟩, ⟨b1, b2⟩, c, d⟩ := alS_b (x := x) (xs := xs) k
    have e : alS x xs (k + 1) = alStep x (xs.getD k 0) k (alS x xs k) := rfl
    rw [e]; unfold alStep
    dsimp only
    refine ⟨by split <;> omega, by split <;> (try split) <;> omega, by split <;> (try simp only [List.length_append, List.length_cons, List.length_nil]) <;> omega, ?_⟩
    split
    · intro r hr
      rcases List.mem_append.1 hr with hr | hr
      · obtain ⟨a, b, h1, h2, h3, h4⟩ := d r hr
        exact ⟨a, b, h1, h2, h3, by omega⟩
      · rw [List.mem_singleton.1 hr]
        exact ⟨_, _, rfl, by omega, by omega, by omega⟩
    · intro r hr
      obtain ⟨a, b, h1, h2, h3, h4⟩ := d r hr
      exact ⟨a, b, h1, h2, h3, by omega⟩
theorem alR_b {x : GSensor} {xs : List Int} : (alR x xs).length ≤ xs.length + 1 ∧ ∀ r ∈ alR x xs, ∃ a b : Int, r = [a, b] ∧ 0 ≤ a ∧ a ≤ b ∧ b ≤ xs.length := by
  obtain ⟨_, ⟨b1, b2⟩, c, d⟩ := alS_b (x := x) (xs := xs) xs.length
  unfold alR alW
  split
  · refine ⟨by simp; omega, fun r hr => ?_⟩
    rcases List.mem_append.1 hr with hr | hr
    · exact d r hr
    · rw [List.mem_singleton.1 hr]
      exact ⟨_, _, rfl, by omega, by omega, by omega⟩
  · exact ⟨by omega, d⟩
attribute [local irreducible] alS alStep alR
theorem alS_0 {x : GSensor} {xs : List Int} : alS x xs 0 = (0, -1, []) := by unfold alS; rfl
theorem alS_s {x : GSensor} {xs : List Int} {i : Int} (h0 : 0 ≤ i) : alS x xs (i + 1).toNat = alStep x (xs.getD i.toNat 0) i (alS x xs i.toNat) := by
  rw [show (i + 1).toNat = i.toNat + 1 by omega]
  conv => lhs; unfold alS
  rw [show ((i.toNat : Nat) : Int) = i by omega]
theorem alR_e {x : GSensor} {xs : List Int} {i r f : Int} {ss : List (List Int)} (h : (r, f, ss) = alS x xs i.toNat) (h0 : ¬i < xs.length) (h1 : i ≤ xs.length) : alR x xs = alW f xs.length ss := by
  rw [show i.toNat = xs.length by omega] at h
  unfold alR; rw [← h]
theorem alW_p {f L : Int} {ss : List (List Int)} (h : 0 ≤ f) : alW f L ss = ss ++ [[f, L]] := if_pos h
theorem alW_n {f L : Int} {ss : List (List Int)} (h : ¬0 ≤ f) : alW f L ss = ss := if_neg h
theorem al_last {x : GSensor} {xs : List Int} {i r : Int} {b : Bool} {n : Nat} {rs : List (List Int)} (h : ∃ f ss, (r, f, ss) = alS x xs i.toNat ∧ b = decide (0 ≤ f) ∧ rs = alW f xs.length ss) (hb : b = true) (hn : n = rs.length) : 0 < n ∧ ∃ f : Int, rs.getD ((n : Int) - 1).toNat [] = [f, (xs.length : Int)] := by
  obtain ⟨f, ss, h1, h2, h3⟩ := h
  have hf : 0 ≤ f := by rw [hb] at h2; exact of_decide_eq_true h2.symm
  rw [alW_p hf] at h3
  subst h3; subst hn
  refine ⟨by simp, f, ?_⟩
  rw [show (((ss ++ [[f, (xs.length : Int)]]).length : Int) - 1).toNat = ss.length by simp]
  simp [List.getD_eq_getElem?_getD]
theorem al_set {f L u : Int} {n : Nat} {rs ss : List (List Int)} (hf : 0 ≤ f) (h : rs = alW f L ss) (hn : n = rs.length) : rs.set ((n : Int) - 1).toNat ((rs.getD ((n : Int) - 1).toNat []).set (Int.toNat 1) u) = alW (-1) L (ss ++ [[f, u]]) := by
  rw [alW_p hf] at h; rw [alW_n (by omega)]
  subst h; subst hn
  rw [show (((ss ++ [[f, L]]).length : Int) - 1).toNat = ss.length by simp]
  simp [List.getD_eq_getElem?_getD]
theorem okSensor_b {x : GSensor} (h : okSensor x = true) : 1 ≤ x.delay ∧ x.release ≤ x.limit := by
  unfold okSensor at h
  simp only [Bool.and_eq_true, inR_iff] at h
  omega
end Go.Proofs.Ytdhkpmaanegjkaa
