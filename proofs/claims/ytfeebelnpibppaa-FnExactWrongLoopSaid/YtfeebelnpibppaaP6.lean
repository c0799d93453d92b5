/- Contracts of functions of the program, and what they compute. Conditions: those that each theorem states. -/
import Derived.Test.YtfeebelnpibppaaProg
import Derived.Test.YtfeebelnpibppaaP1
set_option linter.unusedVariables false
set_option linter.unusedSimpArgs false
namespace Go.Proofs.Ytfeebelnpibppaa
open Go.Av
attribute [local irreducible] Go.IntKind.wrap leastI rdZ rd rootI rawA okMine
set_option maxRecDepth 20000
set_option maxHeartbeats 8000000

/-! Loops whose sum is less than 0: where no potentials fit, there is one; what is found is one. Plain. -/
section
variable (m : GMine) (g : List Int) (rg : List Bool)
def okW : Int → List Nat → Prop
  | _, [] => True
  | a, i :: es => i < m.airways.length ∧ okL m rg a i = true ∧ okW (nxL m a i) es
def enW : Int → List Nat → Int
  | a, [] => a
  | a, i :: es => enW (nxL m a i) es
def suW : Int → List Nat → Int
  | _, [] => 0
  | a, i :: es => gnL m g a i + suW (nxL m a i) es
def viW : Int → List Nat → List Int
  | _, [] => []
  | a, i :: es => a :: viW (nxL m a i) es
def spW : Int → List Nat → List Int
  | _, [] => []
  | a, i :: es => spL m a i :: spW (nxL m a i) es
def inV (v : Int) : Prop := 0 ≤ v ∧ v < m.junctions
/-- no closed walk has a sum less than 0 -/
def noNeg : Prop := ∀ (s : Int) (es : List Nat), inV m s → okW m rg s es → enW m s es = s → 0 ≤ suW m g s es
def inv1 (p : List Int) : Prop := ∀ v : Int, inV m v → ∃ (s : Int) (es : List Nat), inV m s ∧ okW m rg s es ∧ enW m s es = v ∧ suW m g s es = p.getD v.toNat 0
def inv2 (n : Nat) (p : List Int) : Prop := ∀ (s : Int) (es : List Nat), inV m s → okW m rg s es → es.length ≤ n → p.getD (enW m s es).toNat 0 ≤ suW m g s es
def invF (p : List Int) : Prop := ∀ (s : Int) (es : List Nat), inV m s → okW m rg s es → p.getD (enW m s es).toNat 0 ≤ suW m g s es
end
section
variable {m : GMine} {g : List Int} {rg : List Bool}
theorem okW_app : ∀ (a : Int) (xs ys : List Nat), okW m rg a (xs ++ ys) ↔ okW m rg a xs ∧ okW m rg (enW m a xs) ys
  | a, [], ys => by simp [okW, enW]
  | a, i :: xs, ys => by simp only [List.cons_append, okW, enW, okW_app _ xs ys, and_assoc]
theorem enW_app : ∀ (a : Int) (xs ys : List Nat), enW m a (xs ++ ys) = enW m (enW m a xs) ys
  | a, [], ys => rfl
  | a, i :: xs, ys => by simp only [List.cons_append, enW, enW_app _ xs ys]
theorem suW_app : ∀ (a : Int) (xs ys : List Nat), suW m g a (xs ++ ys) = suW m g a xs + suW m g (enW m a xs) ys
  | a, [], ys => by simp [suW, enW]
  | a, i :: xs, ys => by simp only [List.cons_append, suW, enW, suW_app _ xs ys]; omega
theorem viW_app : ∀ (a : Int) (xs ys : List Nat), viW m a (xs ++ ys) = viW m a xs ++ viW m (enW m a xs) ys
  | a, [], ys => rfl
  | a, i :: xs, ys => by simp only [List.cons_append, viW, enW, viW_app _ xs ys]
theorem viW_len : ∀ (a : Int) (xs : List Nat), (viW m a xs).length = xs.length
  | a, [] => rfl
  | a, i :: xs => by simp only [viW, List.length_cons, viW_len _ xs]
theorem spW_len : ∀ (a : Int) (xs : List Nat), (spW m a xs).length = xs.length
  | a, [] => rfl
  | a, i :: xs => by simp only [spW, List.length_cons, spW_len _ xs]
theorem nxV (hm : okMine m = true) {a : Int} {i : Nat} (hi : i < m.airways.length) : inV m (nxL m a i) := by
  have q := (okMine_p hm).2.2 i (by omega)
  unfold nxL inV awI
  split
  · exact q.2.2
  · exact q.2.1
theorem enV (hm : okMine m = true) : ∀ (a : Int) (es : List Nat), inV m a → okW m rg a es → inV m (enW m a es)
  | a, [], h, _ => h
  | a, i :: es, h, ho => enV hm _ es (nxV hm ho.1) ho.2.2
theorem viV (hm : okMine m = true) : ∀ (a : Int) (es : List Nat), inV m a → okW m rg a es → ∀ v ∈ viW m a es, inV m v
  | a, [], h, _, v, hv => by simp [viW] at hv
  | a, i :: es, h, ho, v, hv => by
    simp only [viW, List.mem_cons] at hv
    rcases hv with rfl | hv
    · exact h
    · exact viV hm _ es (nxV hm ho.1) ho.2.2 v hv
theorem memW : ∀ (a : Int) (es : List Nat) (v : Int), v ∈ viW m a es → ∃ us ws, es = us ++ ws ∧ ws ≠ [] ∧ enW m a us = v
  | a, [], v, h => by simp [viW] at h
  | a, i :: es, v, h => by
    simp only [viW, List.mem_cons] at h
    rcases h with rfl | h
    · exact ⟨[], i :: es, rfl, by simp, rfl⟩
    · obtain ⟨us, ws, e1, e2, e3⟩ := memW _ es v h
      exact ⟨i :: us, ws, by rw [e1]; rfl, e2, e3⟩
theorem dupW : ∀ (a : Int) (es : List Nat), ¬(viW m a es).Nodup → ∃ xs ys zs, es = xs ++ ys ++ zs ∧ ys ≠ [] ∧ zs ≠ [] ∧ enW m (enW m a xs) ys = enW m a xs
  | a, [], h => by simp [viW] at h
  | a, i :: es, h => by
    simp only [viW, List.nodup_cons] at h
    by_cases h1 : a ∈ viW m (nxL m a i) es
    · obtain ⟨us, ws, e1, e2, e3⟩ := memW _ es a h1
      exact ⟨[], i :: us, ws, by rw [e1]; rfl, by simp, e2, e3⟩
    · obtain ⟨xs, ys, zs, e1, e2, e3, e4⟩ := dupW _ es (fun h2 => h ⟨h1, h2⟩)
      exact ⟨i :: xs, ys, zs, by rw [e1]; rfl, e2, e3, e4⟩
theorem pigW : ∀ (n : Nat) (l : List Int), l.Nodup → (∀ x ∈ l, 0 ≤ x ∧ x < (n : Int)) → l.length ≤ n
  | 0, l, _, h => by
    cases l with
    | nil => simp
    | cons x l => have := h x (by simp); omega
  | n + 1, l, hn, h => by
    have ih := pigW n (l.erase (n : Int)) (hn.erase _) (fun x hx => by
      rw [hn.mem_erase_iff] at hx
      have := h x hx.2
      have := hx.1
      omega)
    rw [List.length_erase] at ih
    split at ih <;> omega
theorem dupE (hm : okMine m = true) (a : Int) (es : List Nat) (ha : inV m a) (ho : okW m rg a es) (hl : m.junctions ≤ es.length) : ∃ xs ys zs, es = xs ++ ys ++ zs ∧ ys ≠ [] ∧ enW m (enW m a xs) ys = enW m a xs := by
  by_cases h : (viW m a es).Nodup
  · by_cases h2 : enW m a es ∈ viW m a es
    · obtain ⟨us, ws, e1, e2, e3⟩ := memW _ es _ h2
      refine ⟨us, ws, [], by rw [e1]; simp, e2, ?_⟩
      rw [← enW_app, ← e1, e3]
    · exfalso
      have h3 : (enW m a es :: viW m a es).Nodup := List.nodup_cons.2 ⟨h2, h⟩
      have hJ := (okMine_p hm).1
      have := pigW m.junctions.toNat _ h3 (fun x hx => by
        rw [List.mem_cons] at hx
        have hx2 : inV m x := by
          rcases hx with rfl | hx
          · exact enV hm a es ha ho
          · exact viV hm a es ha ho x hx
        unfold inV at hx2; omega)
      rw [List.length_cons, viW_len] at this
      omega
  · obtain ⟨xs, ys, zs, e1, e2, _, e4⟩ := dupW a es h
    exact ⟨xs, ys, zs, e1, e2, e4⟩
theorem redW (hm : okMine m = true) (hN : noNeg m g rg) : ∀ (n : Nat) (a : Int) (es : List Nat), es.length ≤ n → inV m a → okW m rg a es → ∃ es', okW m rg a es' ∧ enW m a es' = enW m a es ∧ suW m g a es' ≤ suW m g a es ∧ es'.length < m.junctions
  | n, a, es, hn, ha, ho => by
    by_cases hl : m.junctions ≤ es.length
    · obtain ⟨xs, ys, zs, e1, e2, e3⟩ := dupE hm a es ha ho hl
      subst e1
      rw [okW_app, okW_app] at ho
      have hp : 0 < ys.length := by cases ys with | nil => exact absurd rfl e2 | cons y ys => simp
      cases n with
      | zero => simp only [List.length_append] at hn; omega
      | succ n =>
        have e5 : enW m a (xs ++ ys) = enW m a xs := by rw [enW_app]; exact e3
        obtain ⟨es', q1, q2, q3, q4⟩ := redW hm hN n a (xs ++ zs) (by simp only [List.length_append] at hn ⊢; omega) ha (by rw [okW_app]; exact ⟨ho.1.1, by rw [e5] at ho; exact ho.2⟩)
        refine ⟨es', q1, ?_, ?_, q4⟩
        · rw [q2, enW_app, enW_app, e5]
        · have := hN (enW m a xs) ys (enV hm a xs ha ho.1.1) ho.1.2 e3
          rw [suW_app] at q3
          rw [suW_app, suW_app, e5]
          omega
    · exact ⟨es, ho, rfl, Int.le_refl _, by omega⟩
theorem cycW (hm : okMine m = true) : ∀ (n : Nat) (s : Int) (es : List Nat), es.length ≤ n → inV m s → okW m rg s es → enW m s es = s → suW m g s es < 0 → ∃ s' es', inV m s' ∧ okW m rg s' es' ∧ enW m s' es' = s' ∧ suW m g s' es' < 0 ∧ (viW m s' es').Nodup
  | n, s, es, hn, hs, ho, he, hu => by
    by_cases h : (viW m s es).Nodup
    · exact ⟨s, es, hs, ho, he, hu, h⟩
    · obtain ⟨xs, ys, zs, e1, e2, e3, e4⟩ := dupW s es h
      subst e1
      have hp : 0 < ys.length := by cases ys with | nil => exact absurd rfl e2 | cons y ys => simp
      have hp2 : 0 < zs.length := by cases zs with | nil => exact absurd rfl e3 | cons y ys => simp
      have e5 : enW m s (xs ++ ys) = enW m s xs := by rw [enW_app]; exact e4
      rw [okW_app, okW_app, e5] at ho
      rw [enW_app, e5] at he
      rw [suW_app, suW_app, e5] at hu
      cases n with
      | zero => simp only [List.length_append] at hn; omega
      | succ n =>
        simp only [List.length_append] at hn
        by_cases h2 : suW m g (enW m s xs) ys < 0
        · exact cycW hm n (enW m s xs) ys (by omega) (enV hm s xs hs ho.1.1) ho.1.2 e4 h2
        · exact cycW hm n s (xs ++ zs) (by simp only [List.length_append]; omega) hs ((okW_app _ _ _).2 ⟨ho.1.1, ho.2⟩) (by rw [enW_app]; exact he) (by rw [suW_app]; omega)
theorem minW : ∀ l : List Int, l ≠ [] → ∃ v ∈ l, ∀ x ∈ l, v ≤ x
  | [], h => absurd rfl h
  | [a], _ => ⟨a, by simp, by simp⟩
  | a :: b :: l, _ => by
    obtain ⟨v, h1, h2⟩ := minW (b :: l) (by simp)
    by_cases h : a ≤ v
    · refine ⟨a, by simp, fun x hx => ?_⟩
      rcases List.mem_cons.1 hx with rfl | hx
      · exact Int.le_refl _
      · exact Int.le_trans h (h2 x hx)
    · refine ⟨v, List.mem_cons_of_mem _ h1, fun x hx => ?_⟩
      rcases List.mem_cons.1 hx with rfl | hx
      · omega
      · exact h2 x hx
theorem loopT_nn {α : Type} {f : Nat → Option α} : ∀ (k i : Nat), loopT f k i = none → ∀ j, i ≤ j → j < i + k → f j = none
  | 0, i, _, j, h1, h2 => by omega
  | k + 1, i, h, j, h1, h2 => by
    rw [loopT] at h
    cases hf : f i with
    | some x => rw [hf] at h; cases h
    | none =>
      rw [hf] at h
      by_cases e : j = i
      · rw [e]; exact hf
      · exact loopT_nn k (i + 1) h j (by omega) (by omega)
theorem loopT_sm {α : Type} {f : Nat → Option α} {x : α} : ∀ (k i : Nat), loopT f k i = some x → ∃ j, i ≤ j ∧ j < i + k ∧ f j = some x
  | 0, i, h => by rw [loopT] at h; cases h
  | k + 1, i, h => by
    rw [loopT] at h
    cases hf : f i with
    | some y => rw [hf] at h; cases h; exact ⟨i, by omega, by omega, hf⟩
    | none =>
      rw [hf] at h
      obtain ⟨j, h1, h2, h3⟩ := loopT_sm k (i + 1) h
      exact ⟨j, by omega, by omega, h3⟩
theorem loopN_c {start : Int} : ∀ (es : List Nat) (a sum : Int) (walk passed : List Int), okW m rg a es → enW m a es = start → sum + suW m g a es < 0 → (passed ++ viW m a es).Nodup → (∀ v ∈ viW m a es, start ≤ v) → start ∈ passed ++ [a] → loopN m g rg start es.length a sum walk passed ≠ none
  | [], a, sum, walk, passed, ho, he, hs, hn, hg, hst => by
    simp only [enW] at he
    simp only [suW, Int.add_zero] at hs
    rw [List.length_nil, loopN, if_pos ⟨he, hs⟩]
    simp
  | i :: es, a, sum, walk, passed, ho, he, hs, hn, hg, hst => fun h => by
    rw [List.length_cons, loopN] at h
    have h1 := loopT_nn _ _ h i (Nat.zero_le _) (by simpa using ho.1)
    have hgo : goB m rg start a es.length (passed ++ [a]) i = true := by
      unfold goB
      rw [ho.2.1]
      cases es with
      | nil =>
        have e : nxL m a i = start := he
        simp [e]
      | cons j es =>
        simp only [viW] at hn hg
        have h2 : ¬nxL m a i ∈ passed ++ [a] := by
          intro h2
          rw [show passed ++ a :: nxL m a i :: viW m (nxL m (nxL m a i) j) es = (passed ++ [a]) ++ nxL m a i :: viW m (nxL m (nxL m a i) j) es by simp, List.nodup_append] at hn
          exact hn.2.2 _ h2 _ (List.mem_cons_self ..) rfl
        have h3 : ¬nxL m a i = start := fun e => h2 (e ▸ hst)
        have h4 := hg (nxL m a i) (by simp)
        rw [List.length_cons, decide_eq_false (show ¬es.length + 1 = 0 by omega), decide_eq_false h3, decide_eq_true h4, decide_eq_false h2]
        rfl
    rw [if_pos hgo] at h1
    refine loopN_c es _ _ _ _ ho.2.2 he ?_ ?_ ?_ ?_ h1
    · simp only [suW] at hs; omega
    · simp only [viW] at hn; simpa using hn
    · exact fun v hv => hg v (by simp only [viW]; exact List.mem_cons_of_mem _ hv)
    · exact List.mem_append_left _ hst
/-- no loop is wrong: no closed walk has a sum less than 0 -/
theorem noNeg_of (hm : okMine m = true) (h : wrongP m g rg = none) : noNeg m g rg := by
  intro s es hs ho he
  refine Int.not_lt.1 fun hu => ?_
  obtain ⟨s, es, hs, ho, he, hu, hn⟩ := cycW hm es.length s es (Nat.le_refl _) hs ho he hu
  have hne : es ≠ [] := by rintro rfl; simp [suW] at hu
  have hne2 : viW m s es ≠ [] := by
    intro e
    have := viW_len (m := m) s es
    rw [e] at this
    exact hne (List.eq_nil_of_length_eq_zero (by simpa using this.symm))
  obtain ⟨v, hv, hmin⟩ := minW _ hne2
  obtain ⟨us, ws, e1, e2, e3⟩ := memW s es v hv
  subst e1
  rw [okW_app, e3] at ho
  rw [enW_app, e3] at he
  rw [suW_app, e3] at hu
  rw [viW_app, e3] at hn hmin
  have hVv : inV m v := by rw [← e3]; exact enV hm s us hs ho.1
  have hJ := (okMine_p hm).1
  have hvi : viW m v (ws ++ us) = viW m v ws ++ viW m s us := by rw [viW_app, he]
  have hnd : (viW m v (ws ++ us)).Nodup := by rw [hvi]; exact (List.perm_append_comm.nodup_iff).1 hn
  have hok : okW m rg v (ws ++ us) := by rw [okW_app, he]; exact ⟨ho.2, ho.1⟩
  have hlen := pigW m.junctions.toNat _ hnd (fun x hx => by have := viV hm v _ hVv hok x hx; unfold inV at this; omega)
  rw [viW_len] at hlen
  have hpos : 0 < (ws ++ us).length := by
    cases ws with
    | nil => exact absurd rfl e2
    | cons w ws => simp
  have hl : loopN m g rg v (ws ++ us).length v 0 [] [] = none := by
    unfold wrongP at h
    have h1 := loopT_nn _ _ h (ws ++ us).length (by omega) (by omega)
    unfold wrongL at h1
    have hv2 := hVv
    unfold inV at hv2
    have h2 := loopT_nn _ _ h1 v.toNat (Nat.zero_le _) (by omega)
    simpa [show ((v.toNat : Nat) : Int) = v by omega] using h2
  refine loopN_c (ws ++ us) v 0 [] [] hok (by rw [enW_app, he]; exact e3) ?_ (by simpa using hnd) ?_ (by simp) hl
  · rw [suW_app, he]; omega
  · intro x hx
    rw [hvi] at hx
    refine hmin x ?_
    rw [List.mem_append] at hx ⊢
    exact hx.symm
/-- both ways through an airway -/
theorem ed0 (hm : okMine m = true) {i : Nat} (hi : i < m.airways.length) : okL m rg (m.airways.getD i default).from_ i = true ∧ nxL m (m.airways.getD i default).from_ i = (m.airways.getD i default).to ∧ gnL m g (m.airways.getD i default).from_ i = g.getD i 0 := by
  have q := okAirway_b ((okMine_p hm).2.2 i (by omega)).1
  unfold okL nxL gnL awI
  rw [if_pos rfl, if_neg (by omega), decide_eq_true rfl]
  exact ⟨by simp, rfl, rfl⟩
theorem ed1 (hm : okMine m = true) {i : Nat} (hi : i < m.airways.length) (hr : rg.getD i false = false) : okL m rg (m.airways.getD i default).to i = true ∧ nxL m (m.airways.getD i default).to i = (m.airways.getD i default).from_ ∧ gnL m g (m.airways.getD i default).to i = -g.getD i 0 := by
  have q := okAirway_b ((okMine_p hm).2.2 i (by omega)).1
  unfold okL nxL gnL awI
  rw [if_pos rfl, if_neg (by omega), decide_eq_true rfl, hr]
  exact ⟨by simp, rfl, rfl⟩
theorem edV (hm : okMine m = true) {i : Nat} (hi : i < m.airways.length) : inV m (m.airways.getD i default).from_ ∧ inV m (m.airways.getD i default).to := ((okMine_p hm).2.2 i (by omega)).2
theorem stp (a : Int) (i : Nat) (h1 : i < m.airways.length) (h2 : okL m rg a i = true) {s : Int} {es : List Nat} (ho : okW m rg s es) (he : enW m s es = a) : okW m rg s (es ++ [i]) ∧ enW m s (es ++ [i]) = nxL m a i ∧ suW m g s (es ++ [i]) = suW m g s es + gnL m g a i := by
  rw [okW_app, enW_app, suW_app, he]
  exact ⟨⟨ho, h1, h2, trivial⟩, rfl, by simp [suW]⟩
theorem inv1_set {p : List Int} {v a : Int} {i : Nat} (hv : inV m v) (h : inv1 m g rg p) (h1 : i < m.airways.length) (h2 : okL m rg a i = true) (ha : inV m a) (hx : nxL m a i = v) : inv1 m g rg (p.set v.toNat (p.getD a.toNat 0 + gnL m g a i)) := by
  intro w hw
  unfold inV at hv hw
  rw [getD_set]
  split
  · rename_i e
    obtain ⟨s, es, q1, q2, q3, q4⟩ := h a ha
    have q := stp (g := g) a i h1 h2 q2 q3
    exact ⟨s, es ++ [i], q1, q.1, by rw [q.2.1, hx]; omega, by rw [q.2.2, q4]⟩
  · exact h w hw
theorem stepB_1 (hm : okMine m = true) {i : Nat} (hi : i < m.airways.length) {s : List Int × Bool} (h : inv1 m g rg s.1) : inv1 m g rg (stepB m g rg i s).1 := by
  have q0 := ed0 (g := g) (rg := rg) hm hi
  have q1 := ed1 (g := g) (rg := rg) hm hi
  have qV := edV hm hi
  unfold stepB
  dsimp only
  have h1 : inv1 m g rg (if s.1.getD (m.airways.getD i default).from_.toNat 0 + g.getD i 0 < s.1.getD (m.airways.getD i default).to.toNat 0 then (s.1.set (m.airways.getD i default).to.toNat (s.1.getD (m.airways.getD i default).from_.toNat 0 + g.getD i 0), true) else s).1 := by
    split
    · have := inv1_set qV.2 h hi q0.1 qV.1 q0.2.1
      rw [q0.2.2] at this
      exact this
    · exact h
  generalize (if s.1.getD (m.airways.getD i default).from_.toNat 0 + g.getD i 0 < s.1.getD (m.airways.getD i default).to.toNat 0 then (s.1.set (m.airways.getD i default).to.toNat (s.1.getD (m.airways.getD i default).from_.toNat 0 + g.getD i 0), true) else s) = s1 at h1 ⊢
  split
  · rename_i hc
    have q2 := q1 hc.1
    have := inv1_set qV.1 h1 hi q2.1 qV.2 q2.2.1
    rw [q2.2.2] at this
    exact this
  · exact h1
theorem setLe {p : List Int} {k j : Nat} {v : Int} (h : v < p.getD k 0) : (p.set k v).getD j 0 ≤ p.getD j 0 := by
  rw [getD_set]
  split
  · rename_i e; rw [← e.1]; omega
  · exact Int.le_refl _
theorem setAt {p : List Int} {k : Nat} {v : Int} (hk : k < p.length) : (p.set k v).getD k 0 = v := by
  rw [getD_set, if_pos ⟨rfl, hk⟩]
theorem stepB_le {i : Nat} {s : List Int × Bool} (j : Nat) : (stepB m g rg i s).1.getD j 0 ≤ s.1.getD j 0 := by
  unfold stepB
  dsimp only
  have h1 : (if s.1.getD (m.airways.getD i default).from_.toNat 0 + g.getD i 0 < s.1.getD (m.airways.getD i default).to.toNat 0 then (s.1.set (m.airways.getD i default).to.toNat (s.1.getD (m.airways.getD i default).from_.toNat 0 + g.getD i 0), true) else s).1.getD j 0 ≤ s.1.getD j 0 := by
    split
    · rename_i hd; exact setLe hd
    · exact Int.le_refl _
  generalize (if s.1.getD (m.airways.getD i default).from_.toNat 0 + g.getD i 0 < s.1.getD (m.airways.getD i default).to.toNat 0 then (s.1.set (m.airways.getD i default).to.toNat (s.1.getD (m.airways.getD i default).from_.toNat 0 + g.getD i 0), true) else s) = s1 at h1 ⊢
  split
  · rename_i hc
    exact Int.le_trans (setLe hc.2) h1
  · exact h1
theorem roundB_le {p : List Int} (j : Nat) : ∀ n : Nat, (roundB m g rg n p).1.getD j 0 ≤ p.getD j 0
  | 0 => Int.le_refl _
  | n + 1 => by rw [roundB]; exact Int.le_trans (stepB_le j) (roundB_le j n)
theorem stepB_rx (hm : okMine m = true) {i : Nat} (hi : i < m.airways.length) {s : List Int × Bool} (hl : s.1.length = m.junctions.toNat) : (stepB m g rg i s).1.getD (m.airways.getD i default).to.toNat 0 ≤ s.1.getD (m.airways.getD i default).from_.toNat 0 + g.getD i 0 ∧ (rg.getD i false = false → (stepB m g rg i s).1.getD (m.airways.getD i default).from_.toNat 0 ≤ s.1.getD (m.airways.getD i default).to.toNat 0 - g.getD i 0) := by
  have qV := edV hm hi
  unfold inV at qV
  have hne : ¬(m.airways.getD i default).from_.toNat = (m.airways.getD i default).to.toNat := by
    have q := okAirway_b ((okMine_p hm).2.2 i (by omega)).1
    omega
  unfold stepB
  dsimp only
  have h1 : (if s.1.getD (m.airways.getD i default).from_.toNat 0 + g.getD i 0 < s.1.getD (m.airways.getD i default).to.toNat 0 then (s.1.set (m.airways.getD i default).to.toNat (s.1.getD (m.airways.getD i default).from_.toNat 0 + g.getD i 0), true) else s).1.getD (m.airways.getD i default).to.toNat 0 ≤ s.1.getD (m.airways.getD i default).from_.toNat 0 + g.getD i 0 ∧ (if s.1.getD (m.airways.getD i default).from_.toNat 0 + g.getD i 0 < s.1.getD (m.airways.getD i default).to.toNat 0 then (s.1.set (m.airways.getD i default).to.toNat (s.1.getD (m.airways.getD i default).from_.toNat 0 + g.getD i 0), true) else s).1.getD (m.airways.getD i default).to.toNat 0 ≤ s.1.getD (m.airways.getD i default).to.toNat 0 ∧ (if s.1.getD (m.airways.getD i default).from_.toNat 0 + g.getD i 0 < s.1.getD (m.airways.getD i default).to.toNat 0 then (s.1.set (m.airways.getD i default).to.toNat (s.1.getD (m.airways.getD i default).from_.toNat 0 + g.getD i 0), true) else s).1.length = m.junctions.toNat := by
    split
    · rw [setAt (by omega)]; exact ⟨Int.le_refl _, by omega, by simp [hl]⟩
    · exact ⟨by omega, Int.le_refl _, hl⟩
  generalize (if s.1.getD (m.airways.getD i default).from_.toNat 0 + g.getD i 0 < s.1.getD (m.airways.getD i default).to.toNat 0 then (s.1.set (m.airways.getD i default).to.toNat (s.1.getD (m.airways.getD i default).from_.toNat 0 + g.getD i 0), true) else s) = s1 at h1 ⊢
  obtain ⟨a1, a2, a3⟩ := h1
  split
  · rename_i hc
    refine ⟨?_, fun _ => ?_⟩
    · rw [getD_set, if_neg (fun e => hne e.1)]; exact a1
    · rw [setAt (by omega)]; omega
  · rename_i hc
    refine ⟨a1, fun hr => ?_⟩
    have := Int.not_lt.1 fun h3 => hc ⟨hr, h3⟩
    omega
theorem roundB_rx (hm : okMine m = true) {p : List Int} (hl : p.length = m.junctions.toNat) : ∀ n : Nat, n ≤ m.airways.length → ∀ i : Nat, i < n → (roundB m g rg n p).1.getD (m.airways.getD i default).to.toNat 0 ≤ p.getD (m.airways.getD i default).from_.toNat 0 + g.getD i 0 ∧ (rg.getD i false = false → (roundB m g rg n p).1.getD (m.airways.getD i default).from_.toNat 0 ≤ p.getD (m.airways.getD i default).to.toNat 0 - g.getD i 0)
  | 0, _, i, hi => by omega
  | n + 1, hn, i, hi => by
    rw [roundB]
    by_cases e : i = n
    · subst e
      have q := stepB_rx (g := g) (rg := rg) (s := roundB m g rg i p) hm (by omega : i < m.airways.length) (by rw [roundB_len]; exact hl)
      have l1 := roundB_le (m := m) (g := g) (rg := rg) (p := p) (m.airways.getD i default).from_.toNat i
      have l2 := roundB_le (m := m) (g := g) (rg := rg) (p := p) (m.airways.getD i default).to.toNat i
      exact ⟨by omega, fun hr => by have := q.2 hr; omega⟩
    · have ih := roundB_rx hm hl n (by omega) i (by omega)
      have l1 := stepB_le (m := m) (g := g) (rg := rg) (i := n) (s := roundB m g rg n p) (m.airways.getD i default).from_.toNat
      have l2 := stepB_le (m := m) (g := g) (rg := rg) (i := n) (s := roundB m g rg n p) (m.airways.getD i default).to.toNat
      exact ⟨by omega, fun hr => by have := ih.2 hr; omega⟩
theorem inv1_rd (hm : okMine m = true) {p : List Int} (h : inv1 m g rg p) : ∀ n : Nat, n ≤ m.airways.length → inv1 m g rg (roundB m g rg n p).1
  | 0, _ => h
  | n + 1, hn => by rw [roundB]; exact stepB_1 hm (by omega) (inv1_rd hm h n (by omega))
theorem inv2_rd (hm : okMine m = true) {p : List Int} {n : Nat} (hl : p.length = m.junctions.toNat) (h : inv2 m g rg n p) : inv2 m g rg (n + 1) (roundB m g rg m.airways.length p).1 := by
  intro s es hs ho hn
  rcases List.eq_nil_or_concat es with rfl | ⟨es', i, rfl⟩
  · have := h s [] hs ho (Nat.zero_le _)
    exact Int.le_trans (roundB_le _ _) this
  · rw [List.concat_eq_append] at ho hn ⊢
    rw [okW_app] at ho
    rw [enW_app, suW_app]
    have h1 := h s es' hs ho.1 (by simp only [List.length_append, List.length_cons, List.length_nil] at hn; omega)
    obtain ⟨hi, hk, _⟩ := ho.2
    have q := roundB_rx (g := g) (rg := rg) hm hl m.airways.length (Nat.le_refl _) i hi
    have q2 := okAirway_b ((okMine_p hm).2.2 i (by omega)).1
    generalize enW m s es' = a at hk h1 ⊢
    simp only [enW, suW, Int.add_zero]
    unfold okL at hk
    simp only [Bool.or_eq_true, Bool.and_eq_true, decide_eq_true_eq, Bool.not_eq_true'] at hk
    unfold nxL gnL
    unfold awI at *
    rcases hk with hk | ⟨hk, hr⟩
    · rw [if_pos hk, if_neg (by omega)]
      rw [hk] at q
      omega
    · rw [if_neg (by omega), if_pos hk]
      have q3 := q.2 hr
      rw [hk] at q3
      omega
theorem no_chg (hm : okMine m = true) {p : List Int} (h1 : inv1 m g rg p) (h2 : invF m g rg p) : ∀ n : Nat, n ≤ m.airways.length → roundB m g rg n p = (p, false)
  | 0, _ => rfl
  | n + 1, hn => by
    rw [roundB, no_chg hm h1 h2 n (by omega)]
    have hi : n < m.airways.length := by omega
    have q0 := ed0 (g := g) (rg := rg) hm hi
    have q1 := ed1 (g := g) (rg := rg) hm hi
    have qV := edV hm hi
    unfold stepB
    dsimp only
    have f0 : ¬p.getD (m.airways.getD n default).from_.toNat 0 + g.getD n 0 < p.getD (m.airways.getD n default).to.toNat 0 := by
      obtain ⟨s, es, a1, a2, a3, a4⟩ := h1 _ qV.1
      have a := stp (g := g) _ n hi q0.1 a2 a3
      have b := h2 s _ a1 a.1
      rw [a.2.1, a.2.2, a4, q0.2.1, q0.2.2] at b
      omega
    rw [if_neg f0]
    rw [if_neg]
    rintro ⟨hr, hc⟩
    have q2 := q1 hr
    obtain ⟨s, es, a1, a2, a3, a4⟩ := h1 _ qV.2
    have a := stp (g := g) _ n hi q2.1 a2 a3
    have b := h2 s _ a1 a.1
    rw [a.2.1, a.2.2, a4, q2.2.1, q2.2.2] at b
    dsimp only at hc
    omega
theorem invF_of (hm : okMine m = true) (hN : noNeg m g rg) {p : List Int} {n : Nat} (h : inv2 m g rg n p) (hn : m.junctions ≤ n + 1) : invF m g rg p := by
  intro s es hs ho
  obtain ⟨es', q1, q2, q3, q4⟩ := redW hm hN es.length s es (Nat.le_refl _) hs ho
  have := h s es' hs q1 (by omega)
  rw [q2] at this
  omega
theorem potN_sm (hm : okMine m = true) (hN : noNeg m g rg) : ∀ (k n : Nat) (p : List Int), p.length = m.junctions.toNat → inv1 m g rg p → inv2 m g rg n p → m.junctions ≤ n + k → 1 ≤ k → potN m g rg k p ≠ none
  | 0, n, p, _, _, _, _, h => by omega
  | k + 1, n, p, hl, h1, h2, hk, _ => by
    rw [potN]
    split
    · simp
    · rename_i hc
      by_cases hn : m.junctions ≤ n + 1
      · rw [no_chg hm h1 (invF_of hm hN h2 hn) _ (Nat.le_refl _)] at hc
        exact absurd rfl hc
      · exact potN_sm hm hN k (n + 1) _ (by rw [roundB_len]; exact hl) (inv1_rd hm h1 _ (Nat.le_refl _)) (inv2_rd hm hl h2) (by omega) (by omega)
/-- no potentials fit: some loop is wrong -/
theorem wrong_c (hm : okMine m = true) (h : potI m g rg = none) : wrongP m g rg ≠ none := by
  intro hw
  have hJ := (okMine_p hm).1
  unfold potI at h
  have hz : ∀ v : Int, (List.replicate m.junctions.toNat (0 : Int)).getD v.toNat 0 = 0 := fun v => by
    rw [List.getD_eq_getElem?_getD, List.getElem?_replicate]; split <;> rfl
  refine potN_sm hm (noNeg_of hm hw) (m.junctions + 1).toNat 0 _ (by simp) ?_ ?_ (by omega) (by omega) h
  · intro v hv
    exact ⟨v, [], hv, trivial, rfl, by rw [hz]; rfl⟩
  · intro s es hs ho hn
    have : es = [] := List.eq_nil_of_length_eq_zero (by omega)
    subst this
    rw [hz]; exact Int.le_refl _
theorem loopN_sd {start : Int} {w : List Int} {t : Int} : ∀ (r : Nat) (a sum : Int) (walk passed : List Int), loopN m g rg start r a sum walk passed = some (w, t) → ∃ es, es.length = r ∧ okW m rg a es ∧ enW m a es = start ∧ w = walk ++ spW m a es ∧ t = sum + suW m g a es ∧ t < 0
  | 0, a, sum, walk, passed, h => by
    rw [loopN] at h
    by_cases hc : a = start ∧ sum < 0
    · rw [if_pos hc] at h
      cases h
      exact ⟨[], rfl, trivial, hc.1, by simp [spW], by simp [suW], hc.2⟩
    · rw [if_neg hc] at h; cases h
  | r + 1, a, sum, walk, passed, h => by
    rw [loopN] at h
    obtain ⟨i, _, hi, h1⟩ := loopT_sm _ _ h
    by_cases hc : goB m rg start a r (passed ++ [a]) i = true
    · rw [if_pos hc] at h1
      obtain ⟨es, e1, e2, e3, e4, e5, e6⟩ := loopN_sd r _ _ _ _ h1
      unfold goB at hc
      simp only [Bool.and_eq_true] at hc
      exact ⟨i :: es, by simp [e1], ⟨by omega, hc.1.1, e2⟩, e3, by rw [e4]; simp [spW], by rw [e5]; simp only [suW]; omega, e6⟩
    · rw [if_neg hc] at h1; cases h1
/-- what is found is a loop, of two airways or more -/
theorem wrong_s (hm : okMine m = true) {w : List Int} {t : Int} (h : wrongP m g rg = some (w, t)) : ∃ (s : Int) (es : List Nat), inV m s ∧ okW m rg s es ∧ enW m s es = s ∧ w = spW m s es ∧ t = suW m g s es ∧ t < 0 ∧ 2 ≤ es.length ∧ es.length ≤ m.junctions := by
  have hJ := (okMine_p hm).1
  unfold wrongP at h
  obtain ⟨l, h1, h2, h3⟩ := loopT_sm _ _ h
  unfold wrongL at h3
  obtain ⟨s, _, h5, h6⟩ := loopT_sm _ _ h3
  have hl : l ≠ 1 := by
    rintro rfl
    rw [loopN_1 hm] at h6; cases h6
  obtain ⟨es, e1, e2, e3, e4, e5, e6⟩ := loopN_sd _ _ _ _ _ h6
  exact ⟨s, es, by unfold inV; omega, e2, e3, by simpa using e4, by simpa using e5, e6, by omega, by omega⟩
end
end Go.Proofs.Ytfeebelnpibppaa
