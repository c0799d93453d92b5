/- Contracts of functions of the program, and what they compute. Conditions: those that each theorem states. -/
import Derived.Test.YtdhkpmaanegjkaaProg
import Derived.Test.YtdhkpmaanegjkaaD4
set_option linter.unusedVariables false
set_option linter.unusedSimpArgs false
namespace Go.Proofs.Ytdhkpmaanegjkaa
open Go.Av
attribute [local irreducible] Go.IntKind.wrap leastI rdZ rd rootI rawA okMine
set_option maxRecDepth 20000
set_option maxHeartbeats 8000000

/-! Walks in a mine, plain (the same words as in P1 and P6, for texts that do not import these). -/
section
variable (m : GMine) (g : List Int) (rg : List Bool)
def awI (i : Nat) : GAirway := m.airways.getD i default
def okL (at_ : Int) (i : Nat) : Bool := decide ((awI m i).from_ = at_) || (decide ((awI m i).to = at_) && !rg.getD i false)
def nxL (at_ : Int) (i : Nat) : Int := if (awI m i).from_ = at_ then (awI m i).to else (awI m i).from_
def gnL (at_ : Int) (i : Nat) : Int := if (awI m i).to = at_ then -g.getD i 0 else g.getD i 0
def spL (at_ : Int) (i : Nat) : Int := if (awI m i).from_ = at_ then (i : Int) + 1 else -(i : Int) - 1
def okW : Int → List Nat → Prop
  | _, [] => True
  | a, i :: es => i < m.airways.length ∧ okL m rg a i = true ∧ okW (nxL m a i) es
def enW : Int → List Nat → Int
  | a, [] => a
  | a, i :: es => enW (nxL m a i) es
def suW : Int → List Nat → Int
  | _, [] => 0
  | a, i :: es => gnL m g a i + suW (nxL m a i) es
def viW : Int → List Nat → List Int
  | _, [] => []
  | a, i :: es => a :: viW (nxL m a i) es
def spW : Int → List Nat → List Int
  | _, [] => []
  | a, i :: es => spL m a i :: spW (nxL m a i) es
def inV (v : Int) : Prop := 0 ≤ v ∧ v < m.junctions
end
section
variable {m : GMine} {g : List Int} {rg : List Bool}
theorem okW_app : ∀ (a : Int) (xs ys : List Nat), okW m rg a (xs ++ ys) ↔ okW m rg a xs ∧ okW m rg (enW m a xs) ys
  | a, [], ys => by simp [okW, enW]
  | a, i :: xs, ys => by simp only [List.cons_append, okW, enW, okW_app _ xs ys, and_assoc]
theorem enW_app : ∀ (a : Int) (xs ys : List Nat), enW m a (xs ++ ys) = enW m (enW m a xs) ys
  | a, [], ys => rfl
  | a, i :: xs, ys => by simp only [List.cons_append, enW, enW_app _ xs ys]
theorem suW_app : ∀ (a : Int) (xs ys : List Nat), suW m g a (xs ++ ys) = suW m g a xs + suW m g (enW m a xs) ys
  | a, [], ys => by simp [suW, enW]
  | a, i :: xs, ys => by simp only [List.cons_append, suW, enW, suW_app _ xs ys]; omega
theorem viW_app : ∀ (a : Int) (xs ys : List Nat), viW m a (xs ++ ys) = viW m a xs ++ viW m (enW m a xs) ys
  | a, [], ys => rfl
  | a, i :: xs, ys => by simp only [List.cons_append, viW, enW, viW_app _ xs ys]
theorem viW_len : ∀ (a : Int) (xs : List Nat), (viW m a xs).length = xs.length
  | a, [] => rfl
  | a, i :: xs => by simp only [viW, List.length_cons, viW_len _ xs]
theorem spW_len : ∀ (a : Int) (xs : List Nat), (spW m a xs).length = xs.length
  | a, [] => rfl
  | a, i :: xs => by simp only [spW, List.length_cons, spW_len _ xs]
theorem nxV (hm : okMine m = true) {a : Int} {i : Nat} (hi : i < m.airways.length) : inV m (nxL m a i) := by
  have q := (okMine_p hm).2.2 i (by omega)
  unfold nxL inV awI
  split
  · exact q.2.2
  · exact q.2.1
theorem enV (hm : okMine m = true) : ∀ (a : Int) (es : List Nat), inV m a → okW m rg a es → inV m (enW m a es)
  | a, [], h, _ => h
  | a, i :: es, h, ho => enV hm _ es (nxV hm ho.1) ho.2.2
theorem viV (hm : okMine m = true) : ∀ (a : Int) (es : List Nat), inV m a → okW m rg a es → ∀ v ∈ viW m a es, inV m v
  | a, [], h, _, v, hv => by simp [viW] at hv
  | a, i :: es, h, ho, v, hv => by
    simp only [viW, List.mem_cons] at hv
    rcases hv with rfl | hv
    · exact h
    · exact viV hm _ es (nxV hm ho.1) ho.2.2 v hv
theorem memW : ∀ (a : Int) (es : List Nat) (v : Int), v ∈ viW m a es → ∃ us ws, es = us ++ ws ∧ ws ≠ [] ∧ enW m a us = v
  | a, [], v, h => by simp [viW] at h
  | a, i :: es, v, h => by
    simp only [viW, List.mem_cons] at h
    rcases h with rfl | h
    · exact ⟨[], i :: es, rfl, by simp, rfl⟩
    · obtain ⟨us, ws, e1, e2, e3⟩ := memW _ es v h
      exact ⟨i :: us, ws, by rw [e1]; rfl, e2, e3⟩
theorem dupW : ∀ (a : Int) (es : List Nat), ¬(viW m a es).Nodup → ∃ xs ys zs, es = xs ++ ys ++ zs ∧ ys ≠ [] ∧ zs ≠ [] ∧ enW m (enW m a xs) ys = enW m a xs
  | a, [], h => by simp [viW] at h
  | a, i :: es, h => by
    simp only [viW, List.nodup_cons] at h
    by_cases h1 : a ∈ viW m (nxL m a i) es
    · obtain ⟨us, ws, e1, e2, e3⟩ := memW _ es a h1
      exact ⟨[], i :: us, ws, by rw [e1]; rfl, by simp, e2, e3⟩
    · obtain ⟨xs, ys, zs, e1, e2, e3, e4⟩ := dupW _ es (fun h2 => h ⟨h1, h2⟩)
      exact ⟨i :: xs, ys, zs, by rw [e1]; rfl, e2, e3, e4⟩
theorem pigW : ∀ (n : Nat) (l : List Int), l.Nodup → (∀ x ∈ l, 0 ≤ x ∧ x < (n : Int)) → l.length ≤ n
  | 0, l, _, h => by
    cases l with
    | nil => simp
    | cons x l => have := h x (by simp); omega
  | n + 1, l, hn, h => by
    have ih := pigW n (l.erase (n : Int)) (hn.erase _) (fun x hx => by
      rw [hn.mem_erase_iff] at hx
      have := h x hx.2
      have := hx.1
      omega)
    rw [List.length_erase] at ih
    split at ih <;> omega
theorem dupE (hm : okMine m = true) (a : Int) (es : List Nat) (ha : inV m a) (ho : okW m rg a es) (hl : m.junctions ≤ es.length) : ∃ xs ys zs, es = xs ++ ys ++ zs ∧ ys ≠ [] ∧ enW m (enW m a xs) ys = enW m a xs := by
  by_cases h : (viW m a es).Nodup
  · by_cases h2 : enW m a es ∈ viW m a es
    · obtain ⟨us, ws, e1, e2, e3⟩ := memW _ es _ h2
      refine ⟨us, ws, [], by rw [e1]; simp, e2, ?_⟩
      rw [← enW_app, ← e1, e3]
    · exfalso
      have h3 : (enW m a es :: viW m a es).Nodup := List.nodup_cons.2 ⟨h2, h⟩
      have hJ := (okMine_p hm).1
      have := pigW m.junctions.toNat _ h3 (fun x hx => by
        rw [List.mem_cons] at hx
        have hx2 : inV m x := by
          rcases hx with rfl | hx
          · exact enV hm a es ha ho
          · exact viV hm a es ha ho x hx
        unfold inV at hx2; omega)
      rw [List.length_cons, viW_len] at this
      omega
  · obtain ⟨xs, ys, zs, e1, e2, _, e4⟩ := dupW a es h
    exact ⟨xs, ys, zs, e1, e2, e4⟩
/-- both ways through an airway -/
theorem ed0 (hm : okMine m = true) {i : Nat} (hi : i < m.airways.length) : okL m rg (m.airways.getD i default).from_ i = true ∧ nxL m (m.airways.getD i default).from_ i = (m.airways.getD i default).to ∧ gnL m g (m.airways.getD i default).from_ i = g.getD i 0 := by
  have q := okAirway_b ((okMine_p hm).2.2 i (by omega)).1
  unfold okL nxL gnL awI
  rw [if_pos rfl, if_neg (by omega), decide_eq_true rfl]
  exact ⟨by simp, rfl, rfl⟩
theorem ed1 (hm : okMine m = true) {i : Nat} (hi : i < m.airways.length) (hr : rg.getD i false = false) : okL m rg (m.airways.getD i default).to i = true ∧ nxL m (m.airways.getD i default).to i = (m.airways.getD i default).from_ ∧ gnL m g (m.airways.getD i default).to i = -g.getD i 0 := by
  have q := okAirway_b ((okMine_p hm).2.2 i (by omega)).1
  unfold okL nxL gnL awI
  rw [if_pos rfl, if_neg (by omega), decide_eq_true rfl, hr]
  exact ⟨by simp, rfl, rfl⟩
theorem edV (hm : okMine m = true) {i : Nat} (hi : i < m.airways.length) : inV m (m.airways.getD i default).from_ ∧ inV m (m.airways.getD i default).to := ((okMine_p hm).2.2 i (by omega)).2
end
end Go.Proofs.Ytdhkpmaanegjkaa
