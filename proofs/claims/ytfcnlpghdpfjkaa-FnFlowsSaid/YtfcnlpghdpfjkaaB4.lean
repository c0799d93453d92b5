/- Contracts of functions of the program, and what they compute. Conditions: those that each theorem states. -/
import Derived.Test.YtfcnlpghdpfjkaaProg
import Derived.Test.YtfcnlpghdpfjkaaB3
set_option linter.unusedVariables false
set_option linter.unusedSimpArgs false
namespace Go.Proofs.Ytfcnlpghdpfjkaa
open Go.Av
attribute [local irreducible] Go.IntKind.wrap leastI rdZ rd rootI okMine treeC
set_option maxRecDepth 20000
set_option maxHeartbeats 8000000

/-! Levels; the walk, told exactly. Plain. -/
/-- levels: b is the greatest one so far, all below s are done -/
structure lvI (m : GMine) (ls : List Int) (to s b : Int) (o : List Int) : Prop where
  ln : (o.length : Int) = m.junctions
  p1 : o.getD to.toNat 0 = 0
  rg : ∀ v, inV m v → -1 ≤ o.getD v.toNat 0 ∧ o.getD v.toNat 0 ≤ b
  p2 : ∀ v, inV m v → 0 ≤ o.getD v.toNat 0 → (v = to ∧ o.getD v.toNat 0 = 0) ∨ ∃ u, stA m ls v u ∧ 0 ≤ o.getD u.toNat 0 ∧ o.getD u.toNat 0 = o.getD v.toNat 0 - 1
  p3 : ∀ v u, stA m ls v u → 0 ≤ o.getD v.toNat 0 → o.getD v.toNat 0 < s → 0 ≤ o.getD u.toNat 0 ∧ o.getD u.toNat 0 ≤ o.getD v.toNat 0 + 1
/-- the first airways are done in this round -/
def qlI (m : GMine) (ls : List Int) (s j : Int) (o : List Int) : Prop := ∀ i : Nat, (i : Int) < j → ∀ u v, otherA (m.airways.getD (ls.getD i 0).toNat default) v = (u, true) → o.getD v.toNat 0 = s → 0 ≤ o.getD u.toNat 0
section
variable {m : GMine} {ls o : List Int} {to s b j u v : Int}
theorem getD_sI {xs : List Int} {j k : Nat} {v : Int} : (xs.set j v).getD k 0 = if j = k ∧ k < xs.length then v else xs.getD k 0 := by
  rw [List.getD_eq_getElem?_getD, List.getElem?_set, List.getD_eq_getElem?_getD]
  by_cases h : j = k
  · subst h
    by_cases h2 : j < xs.length
    · rw [if_pos rfl, if_pos h2, if_pos ⟨rfl, h2⟩]; rfl
    · rw [if_pos rfl, if_neg h2, if_neg (fun e => h2 e.2), List.getElem?_eq_none (by omega)]
  · rw [if_neg h, if_neg (fun e => h e.1)]
theorem lvI_0 {ys : List Int} (ht : inV m to) (hl : (ys.length : Int) = m.junctions) (hy : ∀ k : Nat, k < ys.length → ys.getD k 0 = -1) : lvI m ls to 0 0 (ys.set to.toNat 0) := by
  have ht2 : 0 ≤ to ∧ to < m.junctions := ht
  have key : ∀ v, inV m v → (ys.set to.toNat 0).getD v.toNat 0 = if v = to then 0 else -1 := fun v hv => by
    have hv2 : 0 ≤ v ∧ v < m.junctions := hv
    rw [getD_sI]
    by_cases e : v = to
    · rw [if_pos ⟨by rw [e], by omega⟩, if_pos e]
    · rw [if_neg (fun q => e (by omega)), if_neg e, hy _ (by omega)]
  refine ⟨by rw [List.length_set]; exact hl, by rw [key to ht, if_pos rfl], fun v hv => ?_, fun v hv h => ?_, fun v u _ h h2 => by omega⟩
  · rw [key v hv]; split <;> omega
  · rw [key v hv] at h ⊢
    by_cases e : v = to
    · exact .inl ⟨e, by rw [if_pos e]⟩
    · rw [if_neg e] at h; omega
theorem qlI_0 : qlI m ls s 0 o := fun i hi => absurd hi (by omega)
theorem lvI_up (h : lvI m ls to s b o) : lvI m ls to s (b + 1) o := ⟨h.ln, h.p1, fun v hv => by have := h.rg v hv; omega, h.p2, h.p3⟩
theorem stA_2 (hm : okMine m = true) (h : stA m ls v u) : (0 ≤ v ∧ v < m.junctions) ∧ 0 ≤ u ∧ u < m.junctions := stA_V hm h
/-- one junction more -/
theorem lv_set (hm : okMine m = true) (h : lvI m ls to s (s + 1) o) (q : qlI m ls s j o) (s0 : 0 ≤ s) (hs : stA m ls v u) (e : o.getD u.toNat 0 = s) (hn : o.getD v.toNat 0 < 0) : lvI m ls to s (s + 1) (o.set v.toNat (s + 1)) ∧ qlI m ls s j (o.set v.toNat (s + 1)) := by
  have hb := stA_2 hm hs
  have hln := h.ln
  have key : ∀ x : Int, 0 ≤ x → (o.set v.toNat (s + 1)).getD x.toNat 0 = if x = v then s + 1 else o.getD x.toNat 0 := fun x hx => by
    rw [getD_sI]
    by_cases ex : x = v
    · rw [if_pos ⟨by rw [ex], by omega⟩, if_pos ex]
    · rw [if_neg (fun q => ex (by omega)), if_neg ex]
  have kN : ∀ k : Nat, k ≠ v.toNat → (o.set v.toNat (s + 1)).getD k 0 = o.getD k 0 := fun k hk => by
    rw [getD_sI, if_neg (fun q => hk q.1.symm)]
  have hvt : to.toNat ≠ v.toNat := fun e2 => by rw [← e2, h.p1] at hn; omega
  have huv : u ≠ v := fun e2 => by rw [e2] at e; omega
  refine ⟨⟨by rw [List.length_set]; exact hln, by rw [kN _ hvt]; exact h.p1, fun x hx => ?_, fun x hx hx0 => ?_, fun x y hxy h0 h1 => ?_⟩, fun i hi x y hxy he => ?_⟩
  · have := h.rg x hx
    rw [key x hx.1]; split <;> omega
  · rw [key x hx.1] at hx0 ⊢
    by_cases ex : x = v
    · rw [if_pos ex]
      right
      refine ⟨u, by rw [ex]; exact hs, ?_⟩
      rw [key u (by omega), if_neg huv]; omega
    · rw [if_neg ex] at hx0 ⊢
      rcases h.p2 x hx hx0 with a | ⟨y, a1, a2, a3⟩
      · exact .inl a
      · right
        refine ⟨y, a1, ?_⟩
        have hy := stA_2 hm a1
        rw [key y (by omega), if_neg (fun e2 => by rw [e2] at a2; omega)]
        exact ⟨a2, a3⟩
  · have hx := stA_2 hm hxy
    rw [key x (by omega)] at h0 h1 ⊢
    rw [key y (by omega)]
    by_cases ex : x = v
    · rw [if_pos ex] at h1; omega
    · rw [if_neg ex] at h0 h1 ⊢
      have a := h.p3 x y hxy h0 h1
      rw [if_neg (fun e2 => by rw [e2] at a; omega)]
      exact a
  · by_cases ey : y.toNat = v.toNat
    · rw [ey, getD_sI, if_pos ⟨rfl, by omega⟩] at he; omega
    · rw [kN _ ey] at he
      have a := q i hi x y hxy he
      rw [kN _ (fun e2 => by rw [e2] at a; omega)]
      exact a
theorem ql_s (hm : okMine m = true) (hl : ∀ i ∈ ls, 0 ≤ i ∧ i < m.airways.length) (q : qlI m ls s j o) (h0 : 0 ≤ j) (hj : j < ls.length)
    (a1 : o.getD (m.airways.getD (ls.getD j.toNat 0).toNat default).from_.toNat 0 = s → 0 ≤ o.getD (m.airways.getD (ls.getD j.toNat 0).toNat default).to.toNat 0)
    (a2 : o.getD (m.airways.getD (ls.getD j.toNat 0).toNat default).to.toNat 0 = s → 0 ≤ o.getD (m.airways.getD (ls.getD j.toNat 0).toNat default).from_.toNat 0) : qlI m ls s (j + 1) o := by
  intro i hi u v huv he
  by_cases e : (i : Int) = j
  · have e2 : j.toNat = i := by omega
    rw [e2] at a1 a2
    have hr := lsB hl h0 hj
    rw [e2] at hr
    rcases oth_p hm hr huv with ⟨rfl, rfl⟩ | ⟨rfl, rfl⟩
    · exact a1 he
    · exact a2 he
  · exact q i (by omega) u v huv he
theorem lv_s (hm : okMine m = true) (h : lvI m ls to s (s + 1) o) (q : qlI m ls s j o) (hj : ls.length ≤ j) : lvI m ls to (s + 1) (s + 1) o where
  ln := h.ln
  p1 := h.p1
  rg := h.rg
  p2 := h.p2
  p3 := fun v u hvu h0 h1 => by
    by_cases e : o.getD v.toNat 0 = s
    · obtain ⟨i, i1, i2, i3⟩ := hvu
      obtain ⟨p, hp, rfl⟩ := List.getElem_of_mem i1
      have hg : ls.getD p 0 = ls[p] := by rw [List.getD_eq_getElem?_getD, List.getElem?_eq_getElem hp]; rfl
      have a := q p (by omega) u v (by rw [hg]; exact i3) e
      have hV := stA_V hm ⟨_, i1, i2, i3⟩
      exact ⟨a, by have := h.rg u hV.2; omega⟩
    · exact h.p3 v u hvu h0 (by omega)
theorem lv_ex (hm : okMine m = true) (h : lvI m ls to s b o) : ∀ (d : Nat) (v : Int), inV m v → o.getD v.toNat 0 = d → ∃ A : List Int, A.length = d + 1 ∧ A.Nodup ∧ ∀ x ∈ A, inV m x ∧ o.getD x.toNat 0 ≤ d
  | 0, v, hv, e => ⟨[v], rfl, by simp, fun x hx => by rw [List.mem_singleton.1 hx]; exact ⟨hv, by omega⟩⟩
  | d + 1, v, hv, e => by
    rcases h.p2 v hv (by omega) with a | ⟨u, a1, a2, a3⟩
    · have := a.2; omega
    · obtain ⟨A, b1, b2, b3⟩ := lv_ex hm h d u (stA_V hm a1).2 (by omega)
      refine ⟨v :: A, by simp [b1], List.nodup_cons.2 ⟨fun hx => by have := (b3 v hx).2; omega, b2⟩, fun x hx => ?_⟩
      rcases List.mem_cons.1 hx with rfl | hx
      · exact ⟨hv, by omega⟩
      · exact ⟨(b3 x hx).1, by have := (b3 x hx).2; omega⟩
/-- the levels, as the program knows them -/
def FO (m : GMine) (o : List Int) : Int → Option Int := fun v => if (0 ≤ v ∧ v < m.junctions) ∧ 0 ≤ o.getD v.toNat 0 then some (o.getD v.toNat 0) else none
theorem FO_some {d : Int} (h : FO m o v = some d) : inV m v ∧ 0 ≤ d ∧ o.getD v.toNat 0 = d := by
  unfold FO at h
  split at h
  · rename_i c; cases h; exact ⟨c.1, c.2, rfl⟩
  · cases h
theorem FO_of (hv : inV m v) (h : 0 ≤ o.getD v.toNat 0) : FO m o v = some (o.getD v.toNat 0) := if_pos ⟨hv, h⟩
theorem lv_end (hm : okMine m = true) (ht : inV m to) (h : lvI m ls to s s o) (hs : m.junctions ≤ s) : farI m ls to (FO m o) where
  p1 := by rw [FO_of ht (by rw [h.p1]; omega), h.p1]
  p2 := fun v d hd => by
    obtain ⟨c1, c2, c3⟩ := FO_some hd
    rcases h.p2 v c1 (by omega) with a | ⟨u, a1, a2, a3⟩
    · exact .inl ⟨a.1, by omega⟩
    · exact .inr ⟨u, a1, by rw [FO_of (stA_V hm a1).2 a2]; congr 1; omega⟩
  nn := fun v d hd => by
    obtain ⟨c1, c2, c3⟩ := FO_some hd
    obtain ⟨A, b1, b2, b3⟩ := lv_ex hm h d.toNat v c1 (by omega)
    have hJ := (okMine_p hm).1
    have := pigW m.junctions.toNat A b2 (fun x hx => by have := (b3 x hx).1; unfold inV at this; omega)
    omega
  p3 := fun v d u hd hvu => by
    obtain ⟨c1, c2, c3⟩ := FO_some hd
    obtain ⟨A, b1, b2, b3⟩ := lv_ex hm h d.toNat v c1 (by omega)
    have hJ := (okMine_p hm).1
    have := pigW m.junctions.toNat A b2 (fun x hx => by have := (b3 x hx).1; unfold inV at this; omega)
    have a := h.p3 v u hvu (by omega) (by omega)
    exact ⟨_, FO_of (stA_V hm hvu).2 a.1, by omega⟩
end
/-- the walk that both find -/
inductive WlkR (m : GMine) (ls : List Int) (to : Int) : Nat → Int → List Int → Prop
  | nil : WlkR m ls to 0 to []
  | cons {n : Nat} {u v : Int} {q : Nat} {ws : List Int} (hq : q < ls.length) (ho : otherA (m.airways.getD (ls.getD q 0).toNat default) u = (v, true)) (hd : dsA m ls (n + 1) u to)
      (fst : ∀ i : Nat, i < q → (otherA (m.airways.getD (ls.getD i 0).toNat default) u).2 = true → ¬dsA m ls n (otherA (m.airways.getD (ls.getD i 0).toNat default) u).1 to) (h : WlkR m ls to n v ws) : WlkR m ls to (n + 1) u (spL m u (ls.getD q 0).toNat :: ws)
section
variable {m : GMine} {ls : List Int} {to : Int}
theorem dsA_0 {u : Int} : dsA m ls 0 u u := ⟨rfl, fun k _ => Nat.zero_le k⟩
theorem WlkR.ds {n : Nat} {u : Int} {ws : List Int} (h : WlkR m ls to n u ws) : dsA m ls n u to := by
  cases h with
  | nil => exact dsA_0
  | cons _ _ hd _ _ => exact hd
theorem WlkR.fun_ {n : Nat} {u : Int} {ws : List Int} (h : WlkR m ls to n u ws) : ∀ {ws' : List Int}, WlkR m ls to n u ws' → ws = ws' := by
  induction h with
  | nil => intro ws' h'; cases h'; rfl
  | @cons n u v q ws hq ho hd hf h ih =>
    intro ws' h'
    cases h' with
    | @cons _ _ v' q' ws2 hq' ho' hd' hf' h2 =>
      have e : q = q' := by
        rcases Nat.lt_trichotomy q q' with c | c | c
        · exact absurd (by rw [ho]; exact h.ds) (hf' q c (by rw [ho]))
        · exact c
        · exact absurd (by rw [ho']; exact h2.ds) (hf q' c (by rw [ho']))
      subst e
      rw [ho] at ho'
      obtain rfl : v = v' := congrArg Prod.fst ho'
      rw [ih h2]
theorem WlkR.way (hl : ∀ i ∈ ls, 0 ≤ i ∧ i < m.airways.length) {n : Nat} {u : Int} {ws : List Int} (h : WlkR m ls to n u ws) : ∃ es, wayI m ls u to es ws ∧ es.length = n ∧ ws.length = n := by
  induction h with
  | nil => exact ⟨[], wayI_0, rfl, rfl⟩
  | @cons n u v q ws hq ho hd hf h ih =>
    obtain ⟨es, h1, h2, h3⟩ := ih
    have hb := hl (ls.getD q 0) (getD_mem hq)
    have k := oth_ok ho
    have hm' : ((ls.getD q 0).toNat : Int) = ls.getD q 0 := by omega
    refine ⟨(ls.getD q 0).toNat :: es, ⟨⟨by omega, k.1, by rw [k.2]; exact h1.ok⟩, ?_, ?_, fun i hi => ?_⟩, by simp [h2], by simp [h3]⟩
    · show enW m (nxL m u _) es = _
      rw [k.2]; exact h1.en
    · show _ = spL m u _ :: spW m (nxL m u _) es
      rw [k.2, ← h1.sp]
    · rcases List.mem_cons.1 hi with rfl | hi
      · rw [hm']; exact getD_mem hq
      · exact h1.mem i hi
end
end Go.Proofs.Ytfcnlpghdpfjkaa

