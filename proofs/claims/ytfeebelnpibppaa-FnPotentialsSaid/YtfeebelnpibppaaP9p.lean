/- Contracts of functions of the program, and what they compute. Conditions: those that each theorem states. -/
import Derived.Test.YtfeebelnpibppaaProg
import Derived.Test.YtfeebelnpibppaaP7
set_option linter.unusedVariables false
set_option linter.unusedSimpArgs false
namespace Go.Proofs.Ytfeebelnpibppaa
open Go.Av
attribute [local irreducible] Go.IntKind.wrap leastI rdZ rd rootI rawA gainsI potI askB okMine wrongV wrongP potC wlk
set_option maxRecDepth 20000
set_option maxHeartbeats 100000000

/-! The law of potentials: plain. -/
section
variable {m : GMine} {g : List Int} {rg : List Bool}
theorem spW_app : ∀ (a : Int) (xs ys : List Nat), spW m a (xs ++ ys) = spW m a xs ++ spW m (enW m a xs) ys
  | a, [], ys => rfl
  | a, i :: xs, ys => by simp only [List.cons_append, spW, enW, spW_app _ xs ys]
theorem spW_get : ∀ (es : List Nat) (a : Int) (i : Nat) (h : i < es.length), (spW m a es).getD i 0 = spL m (enW m a (es.take i)) es[i]
  | j :: es, a, 0, _ => rfl
  | j :: es, a, i + 1, h => by
    have := spW_get es (nxL m a j) i (by simpa using h)
    simp only [spW, List.getD_cons_succ, List.take_succ_cons, enW, List.getElem_cons_succ]
    exact this
theorem spL_c (hm : okMine m = true) {a : Int} {i : Nat} (hi : i < m.airways.length) (hk : okL m rg a i = true) : (spL m a i = (i : Int) + 1 ∧ (m.airways.getD i default).from_ = a ∧ nxL m a i = (m.airways.getD i default).to ∧ gnL m g a i = g.getD i 0) ∨ (spL m a i = -(i : Int) - 1 ∧ (m.airways.getD i default).to = a ∧ nxL m a i = (m.airways.getD i default).from_ ∧ rg.getD i false = false ∧ gnL m g a i = -g.getD i 0) := by
  have q := okAirway_b ((okMine_p hm).2.2 i (by omega)).1
  unfold okL at hk
  simp only [Bool.or_eq_true, Bool.and_eq_true, decide_eq_true_eq, Bool.not_eq_true'] at hk
  unfold spL nxL gnL
  unfold awI at *
  rcases hk with hk | ⟨hk, hr⟩
  · left; rw [if_pos hk, if_pos hk, if_neg (by omega)]; exact ⟨rfl, hk, rfl, rfl⟩
  · right; rw [if_neg (by omega), if_neg (by omega), if_pos hk]; exact ⟨rfl, hk, rfl, hr, rfl⟩
theorem wlk_c {x : Int} {w : List Int} {a : Int} : wlk m (x :: w) a = if x = 0 ∨ (m.airways.length : Int) < absI x then -1 else if 0 < x ∧ (m.airways.getD (absI x - 1).toNat default).from_ = a then wlk m w (m.airways.getD (absI x - 1).toNat default).to else if x < 0 ∧ (m.airways.getD (absI x - 1).toNat default).to = a then wlk m w (m.airways.getD (absI x - 1).toNat default).from_ else -1 := by
  conv => lhs; unfold wlk
theorem wlk_sp (hm : okMine m = true) : ∀ (es : List Nat) (a : Int), okW m rg a es → wlk m (spW m a es) a = enW m a es
  | [], a, _ => by unfold spW; unfold wlk; rfl
  | i :: es, a, ho => by
    have ih := wlk_sp hm es _ ho.2.2
    have hi := ho.1
    rw [spW, wlk_c]
    rcases spL_c (g := []) hm ho.1 ho.2.1 with ⟨e1, e2, e3, _⟩ | ⟨e1, e2, e3, _, _⟩
    · have ea : absI (spL m a i) = (i : Int) + 1 := by rw [e1]; unfold absI; omega
      rw [ea, if_neg (by omega), if_pos ⟨by omega, by rw [show ((i : Int) + 1 - 1).toNat = i by omega]; exact e2⟩, show ((i : Int) + 1 - 1).toNat = i by omega, ← e3, ih]; rfl
    · have ea : absI (spL m a i) = (i : Int) + 1 := by rw [e1]; unfold absI; omega
      rw [ea, if_neg (by omega), if_neg (fun h => by omega), if_pos ⟨by omega, by rw [show ((i : Int) + 1 - 1).toNat = i by omega]; exact e2⟩, show ((i : Int) + 1 - 1).toNat = i by omega, ← e3, ih]; rfl
theorem suW_b (hm : okMine m = true) (hg : bdL 1020000 g) : ∀ (es : List Nat) (a : Int), -1020000 * (es.length : Int) ≤ suW m g a es ∧ suW m g a es ≤ 1020000 * es.length
  | [], a => by simp [suW]
  | i :: es, a => by
    have ih := suW_b hm hg es (nxL m a i)
    have b := hg i
    simp only [suW, List.length_cons]
    have : -1020000 ≤ gnL m g a i ∧ gnL m g a i ≤ 1020000 := by unfold gnL; split <;> omega
    omega
/-- what each number of the loop tells -/
def wrAt (m : GMine) (ds ps : List Int) (rg : List Bool) (A S : Nat → Int) (j : Nat) (y : Int) : Prop :=
  ∃ k : Nat, k < m.airways.length ∧ ((y = (k : Int) + 1 ∧ A j = (m.airways.getD k default).from_ ∧ S (j + 1) = S j + (ps.getD k 0 - ds.getD k 0)) ∨ (y = -((k : Int) + 1) ∧ A j = (m.airways.getD k default).to ∧ rg.getD k false = false ∧ S (j + 1) = S j + (ds.getD k 0 - ps.getD k 0)))
theorem askB_r {m : GMine} {ds ps : List Int} {rg : List Bool} : askB m ds ps rg = 0 ∨ askB m ds ps rg = 1 ∨ askB m ds ps rg = 2 := by
  unfold askB; split
  · exact .inr (.inl rfl)
  · split
    · exact .inl rfl
    · exact .inr (.inr rfl)
theorem potC_3 {m : GMine} {ds ps : List Int} {rg : List Bool} (h : potC m ds ps rg = 3) : askB m ds ps rg = 0 ∧ potI m (gainsI ps ds) rg = none := by
  unfold potC at h
  by_cases ha : askB m ds ps rg = 0
  · rw [if_pos ha] at h
    refine ⟨ha, ?_⟩
    cases hp : potI m (gainsI ps ds) rg with
    | none => rfl
    | some p => rw [hp] at h; simp at h
  · rw [if_neg ha] at h
    rcases askB_r (m := m) (ds := ds) (ps := ps) (rg := rg) with e | e | e <;> omega
theorem potC_0 {m : GMine} {ds ps : List Int} {rg : List Bool} (h : potC m ds ps rg = 0) : askB m ds ps rg = 0 ∧ (potI m (gainsI ps ds) rg).isSome = true := by
  unfold potC at h
  by_cases ha : askB m ds ps rg = 0
  · rw [if_pos ha] at h
    refine ⟨ha, ?_⟩
    by_cases hp : (potI m (gainsI ps ds) rg).isSome = true
    · exact hp
    · rw [if_neg hp] at h; cases h
  · rw [if_neg ha] at h; exact absurd h ha
theorem wr_ex {ds ps ys : List Int} {rg : List Bool} {s c : Int} {n : Nat} (hw : wrongV m ds ps rg = (ys.take n, s, c)) (hn : n ≤ ys.length) :
    ∃ A S : Nat → Int, potC m ds ps rg = 3 → c = 0 ∧ (2 ≤ n ∧ n ≤ 16) ∧ s < 0 ∧ A n = A 0 ∧ S 0 = 0 ∧ S n = s ∧ wlk m (ys.take n) (A 0) = A 0 ∧ (ds.length = m.airways.length ∧ ps.length = m.airways.length ∧ rg.length = m.airways.length ∧ m.airways.length ≤ 24) ∧ (∀ i : Int, 0 ≤ i → i < n → (-20000000 ≤ S i.toNat ∧ S i.toNat ≤ 20000000) ∧ wrAt m ds ps rg A S i.toNat (ys.getD i.toNat 0)) ∧ (∀ k : Nat, (-1000000 ≤ ds.getD k 0 ∧ ds.getD k 0 ≤ 1000000) ∧ -20000 ≤ ps.getD k 0 ∧ ps.getD k 0 ≤ 20000) := by
  by_cases h : potC m ds ps rg = 3
  · obtain ⟨ha, hp⟩ := potC_3 h
    have q := askB_l ha
    have hJ := (okMine_p q.1).1
    have hc := wrong_c q.1 hp
    obtain ⟨x, hx⟩ := Option.ne_none_iff_exists'.1 hc
    unfold wrongV at hw
    rw [if_pos ha, hx] at hw
    have e1 : x.1 = ys.take n := congrArg Prod.fst hw
    have e2 : x.2 = s := congrArg (fun v => v.2.1) hw
    have e3 : (0 : Int) = c := congrArg (fun v => v.2.2) hw
    obtain ⟨st, es, f1, f2, f3, f4, f5, f6, f7, f8⟩ := wrong_s q.1 (w := x.1) (t := x.2) hx
    have hl : es.length = n := by
      have := congrArg List.length (e1.symm.trans f4)
      rw [spW_len, List.length_take] at this; omega
    refine ⟨fun j => enW m st (es.take j), fun j => suW m (gainsI ps ds) st (es.take j), fun _ => ⟨e3.symm, ⟨by omega, by omega⟩, by omega, ?_, ?_, ?_, ?_, ⟨q.2.2.1, q.2.2.2.1, q.2.2.2.2.1, q.2.1⟩, fun i h0 h1 => ⟨?_, ?_⟩, fun k => ⟨q.2.2.2.2.2.1 k, q.2.2.2.2.2.2 k⟩⟩⟩
    · show enW m st (es.take n) = enW m st (es.take 0)
      rw [← hl, List.take_length, f3]; rfl
    · rfl
    · show suW m (gainsI ps ds) st (es.take n) = s
      rw [← hl, List.take_length, ← f5, e2]
    · show wlk m (ys.take n) st = st
      rw [← e1, f4, wlk_sp q.1 es st f2, f3]
    · have b := suW_b q.1 (gainsI_bd q.2.2.2.2.2.1 q.2.2.2.2.2.2) (es.take i.toNat) st
      have : (es.take i.toNat).length ≤ 16 := by rw [List.length_take]; omega
      show -20000000 ≤ suW m (gainsI ps ds) st (es.take i.toNat) ∧ suW m (gainsI ps ds) st (es.take i.toNat) ≤ 20000000
      omega
    · have hi : i.toNat < es.length := by omega
      have hs : es = es.take i.toNat ++ es[i.toNat] :: es.drop (i.toNat + 1) := by
        rw [← List.drop_eq_getElem_cons hi, List.take_append_drop]
      have ht : es.take (i.toNat + 1) = es.take i.toNat ++ [es[i.toNat]] := by
        rw [List.take_add_one, List.getElem?_eq_getElem hi]; rfl
      have ho := f2
      rw [hs, okW_app] at ho
      have hy : ys.getD i.toNat 0 = spL m (enW m st (es.take i.toNat)) es[i.toNat] := by
        have e4 : (ys.take n).getD i.toNat 0 = ys.getD i.toNat 0 := by
          rw [List.getD_eq_getElem?_getD, List.getD_eq_getElem?_getD, List.getElem?_take, if_pos (by omega)]
        rw [← e4, ← e1, f4]; exact spW_get es st i.toNat hi
      have hk := ho.2.1
      refine ⟨es[i.toNat], hk, ?_⟩
      have hsu : suW m (gainsI ps ds) st (es.take (i.toNat + 1)) = suW m (gainsI ps ds) st (es.take i.toNat) + gnL m (gainsI ps ds) (enW m st (es.take i.toNat)) es[i.toNat] := by
        rw [ht, suW_app]; simp [suW]
      have hgi : (gainsI ps ds).getD es[i.toNat] 0 = ps.getD es[i.toNat] 0 - ds.getD es[i.toNat] 0 := gainsI_get (by omega)
      rcases spL_c (g := gainsI ps ds) q.1 hk ho.2.2.1 with ⟨g1, g2, _, g4⟩ | ⟨g1, g2, _, g4, g5⟩
      · refine .inl ⟨by rw [hy, g1], g2.symm, ?_⟩
        show suW m (gainsI ps ds) st (es.take (i.toNat + 1)) = suW m (gainsI ps ds) st (es.take i.toNat) + _
        rw [hsu, g4, hgi]
      · refine .inr ⟨by rw [hy, g1]; omega, g2.symm, g4, ?_⟩
        show suW m (gainsI ps ds) st (es.take (i.toNat + 1)) = suW m (gainsI ps ds) st (es.take i.toNat) + _
        rw [hsu, g5, hgi]; omega
  · exact ⟨fun _ => 0, fun _ => 0, fun e => absurd e h⟩
theorem wr_3 {ds ps ys : List Int} {rg : List Bool} {s c : Int} {n : Nat} (hw : wrongV m ds ps rg = (ys.take n, s, c)) (h : potC m ds ps rg = 0) : c = 3 := by
  obtain ⟨ha, hp⟩ := potC_0 h
  have q := askB_l ha
  have hn : wrongP m (gainsI ps ds) rg = none := by
    unfold wrongP
    refine loopT_none _ _ fun l _ _ => ?_
    unfold wrongL
    exact loopT_none _ _ fun s _ _ => loopN_pot q.1 hp _ _ _ (Int.le_refl _) _ _
  unfold wrongV at hw
  rw [if_pos ha, hn] at hw
  exact (congrArg (fun v => v.2.2) hw).symm
theorem wr_o {ds ps ys : List Int} {rg : List Bool} {s c : Int} {n : Nat} (hw : wrongV m ds ps rg = (ys.take n, s, c)) (h0 : ¬potC m ds ps rg = 0) (h3 : ¬potC m ds ps rg = 3) : c = potC m ds ps rg := by
  have ha : ¬askB m ds ps rg = 0 := by
    intro ha
    unfold potC at h0 h3
    rw [if_pos ha] at h0 h3
    by_cases hp : (potI m (gainsI ps ds) rg).isSome = true
    · rw [if_pos hp] at h0; exact h0 rfl
    · rw [if_neg hp] at h3; exact h3 rfl
  unfold wrongV at hw
  unfold potC
  rw [if_neg ha] at hw ⊢
  exact (congrArg (fun v => v.2.2) hw).symm
/-- what the law wants of potentials -/
theorem pot_ok {ds ps p ys : List Int} {rg : List Bool} {n : Nat} (h : potC m ds ps rg = 0) (hp : potI m (gainsI ps ds) rg = some p) (h3 : n = m.airways.length ∧ ys.length = n ∧ ∃ p, potI m (gainsI ps ds) rg = some p ∧ ∀ j : Nat, j < n → ys.getD j 0 = tkD m (gainsI ps ds) p j) :
    (1 ≤ m.junctions ∧ m.junctions ≤ 16) ∧ p.length = m.junctions.toNat ∧ (n = m.airways.length ∧ ys.length = n) ∧ (ds.length = m.airways.length ∧ ps.length = m.airways.length ∧ rg.length = m.airways.length ∧ m.airways.length ≤ 24) ∧ (∀ j : Nat, p.getD j 0 ≤ 0) ∧ ∀ i : Int, 0 ≤ i → i < m.airways.length → ((0 ≤ (m.airways.getD i.toNat default).from_ ∧ (m.airways.getD i.toNat default).from_ < m.junctions) ∧ 0 ≤ (m.airways.getD i.toNat default).to ∧ (m.airways.getD i.toNat default).to < m.junctions) ∧
      ((-2000000000 ≤ p.getD (m.airways.getD i.toNat default).from_.toNat 0 ∧ p.getD (m.airways.getD i.toNat default).from_.toNat 0 ≤ 0) ∧ (-2000000000 ≤ p.getD (m.airways.getD i.toNat default).to.toNat 0 ∧ p.getD (m.airways.getD i.toNat default).to.toNat 0 ≤ 0) ∧ (-20000 ≤ ps.getD i.toNat 0 ∧ ps.getD i.toNat 0 ≤ 20000) ∧ -1000000 ≤ ds.getD i.toNat 0 ∧ ds.getD i.toNat 0 ≤ 1000000) ∧
      ys.getD i.toNat 0 = p.getD (m.airways.getD i.toNat default).from_.toNat 0 - p.getD (m.airways.getD i.toNat default).to.toNat 0 + ps.getD i.toNat 0 - ds.getD i.toNat 0 ∧ 0 ≤ ys.getD i.toNat 0 ∧ (0 < ys.getD i.toNat 0 → rg.getD i.toNat false = true) := by
  obtain ⟨ha, _⟩ := potC_0 h
  have q := askB_l ha
  obtain ⟨a1, a2, p', a3, a4⟩ := h3
  rw [hp] at a3; cases a3
  have b := potI_p (okB_of ha) hp
  refine ⟨(okMine_p q.1).1, b.1, ⟨a1, a2⟩, ⟨q.2.2.1, q.2.2.2.1, q.2.2.2.2.1, q.2.1⟩, b.2.2.1, fun i h0 h1 => ?_⟩
  have c := (okMine_p q.1).2.2 i.toNat (by omega)
  have hi : i.toNat < m.airways.length := by omega
  have hgi : (gainsI ps ds).getD i.toNat 0 = ps.getD i.toNat 0 - ds.getD i.toNat 0 := gainsI_get (by omega)
  have e := a4 i.toNat (by omega)
  unfold tkD at e
  rw [hgi] at e
  have k0 := ed0 (g := gainsI ps ds) (rg := rg) q.1 hi
  have k1 := ed1 (g := gainsI ps ds) (rg := rg) q.1 hi
  have f0 := b.2.2.2 i.toNat _ hi k0.1
  rw [k0.2.1, k0.2.2, hgi] at f0
  refine ⟨c.2, ⟨⟨(b.2.1 _).1, b.2.2.1 _⟩, ⟨(b.2.1 _).1, b.2.2.1 _⟩, q.2.2.2.2.2.2 _, q.2.2.2.2.2.1 _⟩, by omega, by omega, fun hpos => ?_⟩
  cases hr : rg.getD i.toNat false with
  | true => rfl
  | false =>
    have k2 := k1 hr
    have f1 := b.2.2.2 i.toNat _ hi k2.1
    rw [k2.2.1, k2.2.2, hgi] at f1
    omega
end
end Go.Proofs.Ytfeebelnpibppaa
