/- Contracts of functions of the program, and what they compute. Conditions: those that each theorem states. -/
import Derived.Test.YtdhkpmaanegjkaaGreatDoorProg
import Derived.Test.YtdhkpmaanegjkaaGreatDoorH11i
set_option linter.unusedVariables false
set_option linter.unusedSimpArgs false
namespace Go.Proofs.YtdhkpmaanegjkaaGreatDoor
open Go.Av
open Go Go.RowKit
set_option maxRecDepth 20000
set_option maxHeartbeats 4000000
theorem cellsA_c (x : GAirway) : ∀ p ∈ x.cells, ∃ v, p = .c v := fun p hp => by
  simp only [GAirway.cells, List.mem_cons, List.not_mem_nil, or_false] at hp
  rcases hp with h | h | h | h | h | h | h <;> exact ⟨_, h⟩
theorem cellsA_7 (x : GAirway) : x.cells.length = 7 := rfl
theorem rowA {S : Nat → Prop} {w : World} {q : Pl0} {xs : List GAirway} (h : RowRel S w q (GAirway.cells default) (xs.map GAirway.cells)) (hx : 0 < q.cap) :
    ∃ (ty : TypeId) (arr : Array Value) (cs : List Value), w.heap[q.blk]? = some (.cells arr ty (0, 0)) ∧ q.off + q.cap * 7 ≤ arr.size ∧ cs.length = xs.length * 7 ∧ (∀ j, j < xs.length * 7 → cs[j]? = arr[q.off + j]?) ∧
      (∀ v ∈ cs, v.oneCell' = true) ∧ ∀ (r j : Nat) (p : PV), r < xs.length → (xs.getD r default).cells[j]? = some p → ∃ v, p = .c v ∧ cs[r * 7 + j]? = some v ∧ wfV v ∧ v.oneCell' = true := by
  obtain ⟨g1, g2, g3, g4, g5, g6⟩ := h
  obtain ⟨ty, arr, q1, q2, q3⟩ := g6 hx
  rw [List.length_map] at g4
  have h7 : (GAirway.cells default).length = 7 := rfl
  rw [h7] at q2 q3
  have hcl : ((arr.toList.drop q.off).take (xs.length * 7)).length = xs.length * 7 := by
    have e9 : arr.toList.length = arr.size := Array.length_toList
    rw [List.length_take, List.length_drop, e9]
    have : xs.length * 7 ≤ q.cap * 7 := Nat.mul_le_mul_right _ g4
    omega
  have hget : ∀ j, j < xs.length * 7 → ((arr.toList.drop q.off).take (xs.length * 7))[j]? = arr[q.off + j]? := fun j hj => by
    rw [List.getElem?_take, if_pos hj, List.getElem?_drop, Array.getElem?_toList]
  have key : ∀ (r j : Nat) (p : PV), r < xs.length → (xs.getD r default).cells[j]? = some p → ∃ v, p = .c v ∧ ((arr.toList.drop q.off).take (xs.length * 7))[r * 7 + j]? = some v ∧ wfV v ∧ v.oneCell' = true := fun r j p hr hp => by
    have hj : j < 7 := by
      have := (List.getElem?_eq_some_iff.1 hp).1
      rwa [cellsA_7] at this
    obtain ⟨v, rfl⟩ := cellsA_c _ p (List.mem_of_getElem? hp)
    obtain ⟨u, hu, hu1, hrel⟩ := q3 r j (xs.getD r default).cells (.c v) (by rw [List.getElem?_map, List.getD_eq_getElem?_getD, List.getElem?_eq_getElem hr]; rfl) hp
    cases hrel with
    | c hv h1 => exact ⟨v, rfl, by rw [hget _ (by omega)]; exact hu, hv, h1⟩
  refine ⟨ty, arr, (arr.toList.drop q.off).take (xs.length * 7), q1, q2, hcl, hget, fun v hv => ?_, key⟩
  obtain ⟨k, hk, rfl⟩ := List.getElem_of_mem hv
  rw [hcl] at hk
  have hr : k / 7 < xs.length := by omega
  obtain ⟨v', _, h2, _, h4⟩ := key (k / 7) (k % 7) ((xs.getD (k / 7) default).cells[k % 7]'(by rw [cellsA_7]; omega)) hr (List.getElem?_eq_getElem _)
  rw [show k / 7 * 7 + k % 7 = k by omega, List.getElem?_eq_getElem (by omega)] at h2
  rw [Option.some.inj h2]
  exact h4
--@fn slices.Insert[[]impl.Airway,impl.Airway]
theorem insT (xs : List GAirway) (i : Int) (a : GAirway) (hi : 0 ≤ i ∧ i ≤ xs.length) (hn : xs.length ≤ 1000) : FnSem Tryz.prog 52 [.osl 0 0 xs.length, In i, .osl 1 0 1] [RA false xs, RA false [a]] (Is [.osl 2 0 (xs.length + 1)] [.dead, .dead, RA false (insA xs i.toNat a)]) := by
  refine ⟨by kernel_rfl, fun w vals pl A hA hk he => ?_⟩
  have hl : vals.size = 3 := by rw [he.size]; rfl
  have e0 : vals[0]? = some (vals[0]'(by omega)) := Array.getElem?_eq_getElem (by omega)
  have e1 : vals[1]? = some (vals[1]'(by omega)) := Array.getElem?_eq_getElem (by omega)
  have e2 : vals[2]? = some (vals[2]'(by omega)) := Array.getElem?_eq_getElem (by omega)
  have r0 := he.args 0 _ _ rfl e0
  have r1 := rel_c (he.args 1 (In i) _ rfl e1)
  have r2 := he.args 2 _ _ rfl e2
  generalize h0 : vals[0]'(by omega) = v0 at r0 e0
  generalize h1 : vals[1]'(by omega) = v1 at r1 e1
  generalize h2 : vals[2]'(by omega) = v2 at r2 e2
  have hv : vals = #[v0, v1, v2] := by
    apply Array.ext (by simpa using hl)
    intro j j1 j2
    rcases (show j = 0 ∨ j = 1 ∨ j = 2 by simp at j2; omega) with rfl | rfl | rfl
    · exact h0
    · exact h1
    · exact h2
  have hrow0 : RowRel _ w (pl 0).toPl0 (GAirway.cells default) (xs.map GAirway.cells) := he.heap 0 _ rfl
  have hrow1 : RowRel _ w (pl 1).toPl0 (GAirway.cells default) ([a].map GAirway.cells) := he.heap 1 _ rfl
  cases r0 with
  | @osl _ _ _ C0 A0 hk0 hA0 hC0 hnC0 hM0 =>
  cases r2 with
  | @osl _ _ _ C1 A1 hk1 hA1 hC1 hnC1 hM1 =>
  have hcap1 : 0 < (pl 1).cap := by omega
  obtain ⟨vty, varr, vs, m1, m2, m3, m4, m5, m6⟩ := rowA hrow1 hcap1
  have hsz0 : (pl 0).sz = 7 := hrow0.1
  have hsz1 : (pl 1).sz = 7 := hrow1.1
  have hA1' := hA1 hcap1
  rw [Nat.zero_mul, Nat.add_zero] at hA1'
  have own1 : owns pl [RA false xs, RA false [a]] 1 (pl 1).blk := owns_of (ob := RA false [a]) rfl ⟨hcap1, rfl⟩
  have hb1 := he.own 1 _ own1
  have hCe : C0 = (pl 0).cap := by omega
  have hin : i = ((i.toNat : Nat) : Int) := by omega
  have hapart : (pl 1).blk ≠ (pl 0).blk ∨ C0 = 0 := by
    rcases Nat.eq_zero_or_pos C0 with h | h
    · exact .inr h
    · refine .inl fun e => ?_
      have own0 : owns pl [RA false xs, RA false [a]] 0 (pl 0).blk := owns_of (ob := RA false xs) rfl ⟨by omega, rfl⟩
      have := he.disj 0 1 _ own0 (e ▸ own1)
      omega
  -- the row that came in: its cells
  obtain ⟨ty, arr, cs, n1, n2, n3, n4, n5⟩ : ∃ (ty : TypeId) (arr : Array Value) (cs : List Value), cs.length = xs.length * 7 ∧ (0 < C0 → w.heap[(pl 0).blk]? = some (.cells arr ty (0, 0)) ∧ (pl 0).off + C0 * 7 ≤ arr.size ∧ ∀ j, j < xs.length * 7 → cs[j]? = arr[(pl 0).off + j]?) ∧
      (∀ v ∈ cs, v.oneCell' = true) ∧ (∀ (r j : Nat) (p : PV), r < xs.length → (xs.getD r default).cells[j]? = some p → ∃ v, p = .c v ∧ cs[r * 7 + j]? = some v ∧ wfV v ∧ v.oneCell' = true) ∧ True := by
    rcases Nat.eq_zero_or_pos C0 with h | h
    · have hx0 : xs.length = 0 := by omega
      exact ⟨0, #[], [], by rw [hx0]; rfl, fun h9 => by omega, fun v hv => by simp at hv, fun r j p hr => by omega, trivial⟩
    · obtain ⟨ty, arr, cs, k1, k2, k3, k4, k5, k6⟩ := rowA hrow0 (by omega)
      exact ⟨ty, arr, cs, k3, fun _ => ⟨k1, by rw [hCe]; exact k2, k4⟩, k5, k6, trivial⟩
  have hvl : vs.length = 7 := by rw [m3]; rfl
  have hcall := insO (pl 0).blk (pl 0).off xs.length C0 i.toNat (pl 1).blk (pl 1).off C1 A0 w cs vs arr varr ty vty (by omega) hnC0 (by omega) hn hapart
    (fun h => by have := hA0 (by omega); rwa [Nat.zero_mul, Nat.add_zero] at this) n2 m1 (by
      have : 1 * 7 ≤ (pl 1).cap * 7 := Nat.mul_le_mul_right _ hcap1
      omega) (fun j hj => m4 j (by simpa using hj)) n1 hvl n3 m5
  rw [hv, r1.1, hA1']
  rw [← hin] at hcall
  refine hcall.mono fun e w' ⟨g, o, C', q1, q2⟩ => ⟨_, [.osl 2 0 (xs.length + 1)], [.dead, .dead, RA false (insA xs i.toNat a)], fun k => if k = 2 then mkPl g o C' 7 else pl k, q1, Is.mk rfl rfl, ?_⟩
  obtain ⟨ty', arr', p1, p2, p3⟩ := q2.mem
  have hlen : (insA xs i.toNat a).length = xs.length + 1 := ins_len (by omega)
  have hC1' := q2.cap
  have hglt : g < w'.heap.size := by
    apply Classical.byContradiction
    intro hge
    rw [Array.getElem?_eq_none (by omega)] at p1
    cases p1
  have hown : ∀ k b, owns (fun k => if k = 2 then mkPl g o C' 7 else pl k) [OB.dead, .dead, RA false (insA xs i.toNat a)] k b → k = 2 ∧ b = g := fun k b hb => by
    obtain ⟨ob, g1, g2⟩ := owns_out hb
    match k, g1 with
    | 0, g1 => cases g1; exact g2.elim
    | 1, g1 => cases g1; exact g2.elim
    | 2, g1 => cases g1; exact ⟨rfl, g2.2.symm⟩
    | k + 3, g1 => simp at g1
  have hgs : ¬ Stab pl [RA false xs, RA false [a]] w g := by
    rcases q2.at_ with ⟨e1, e2⟩ | e1
    · intro hs
      have own0 : owns pl [RA false xs, RA false [a]] 0 (pl 0).blk := owns_of (ob := RA false xs) rfl ⟨by omega, rfl⟩
      exact hs.2 0 (by rw [e1]; exact own0)
    · intro hs
      have := hs.1
      omega
  have hfr : ∀ b, Stab pl [RA false xs, RA false [a]] w b → w'.heap[b]? = w.heap[b]? := fun b hb => by
    rcases Nat.eq_zero_or_pos C0 with h | h
    · have hgn : g = w.heap.size := by
        rcases q2.at_ with ⟨_, e2⟩ | e1
        · omega
        · exact e1
      by_cases e : b = (pl 0).blk
      · -- no cells: nothing of it is turned
        exact q2.frame0 h b hb.1
      · exact q2.frame b hb.1 e
    · refine q2.frame b hb.1 fun e => ?_
      have own0 : owns pl [RA false xs, RA false [a]] 0 (pl 0).blk := owns_of (ob := RA false xs) rfl ⟨by omega, rfl⟩
      exact hb.2 0 (by rw [e]; exact own0)
  exact { os := q2.os, tape := q2.tape, output := q2.output, size := q2.size, frame := hfr
          len := by simp
          io := fun k hk => by
            have : k < 2 := hk
            show (if k = 2 then _ else _) = _
            rw [if_neg (by omega)]
          own := fun k b hb => by
            obtain ⟨rfl, rfl⟩ := hown k b hb
            exact ⟨hglt, hgs⟩
          newb := fun k b hn hb => by
            obtain ⟨rfl, rfl⟩ := hown k b hb
            exact absurd hn (by simp [isnew])
          disj := fun k k' b hb hb' => by rw [(hown k b hb).1, (hown k' b hb').1]
          heap := fun k ob hk => by
            match k, hk with
            | 0, hk => cases hk; trivial
            | 1, hk => cases hk; trivial
            | k + 3, hk => simp at hk
            | 2, hk =>
              cases hk
              refine ⟨rfl, by decide, hC1'.2, by rw [List.length_map, hlen]; exact hC1'.1, fun r e he => ?_, fun _ => ⟨ty', arr', p1, p2, fun r j e p he hp => ?_⟩⟩
              · rw [List.getElem?_map] at he
                obtain ⟨x, _, rfl⟩ := Option.map_eq_some_iff.1 he
                rfl
              · rw [List.getElem?_map] at he
                obtain ⟨x, hx, rfl⟩ := Option.map_eq_some_iff.1 he
                have hr : r < xs.length + 1 := by rw [← hlen]; exact (List.getElem?_eq_some_iff.1 hx).1
                have hj : j < 7 := by
                  have := (List.getElem?_eq_some_iff.1 hp).1
                  rwa [cellsA_7] at this
                have hxd : (insA xs i.toNat a).getD r default = x := by rw [List.getD_eq_getElem?_getD, hx]; rfl
                have hk9 : i.toNat ≤ xs.length := by omega
                have fin : ∃ v, p = .c v ∧ (cs.take (i.toNat * 7) ++ vs ++ cs.drop (i.toNat * 7))[r * 7 + j]? = some v ∧ wfV v ∧ v.oneCell' = true := by
                  rw [splice7 n1 hvl hk9 _ (by omega)]
                  rcases Nat.lt_trichotomy r i.toNat with c | c | c
                  · rw [ins_lo c hk9] at hxd
                    rw [if_pos (by omega)]
                    exact n4 r j p (by omega) (by rw [hxd]; exact hp)
                  · rw [c, ins_at hk9] at hxd
                    subst hxd
                    rw [if_neg (by omega), if_pos (by omega), show r * 7 + j - i.toNat * 7 = 0 * 7 + j by omega]
                    exact m6 0 j p (by simp) hp
                  · rw [ins_hi c hk9] at hxd
                    rw [if_neg (by omega), if_neg (by omega), show r * 7 + j - 7 = (r - 1) * 7 + j by omega]
                    exact n4 (r - 1) j p (by omega) (by rw [hxd]; exact hp)
                obtain ⟨v, rfl, f2, f3, f4⟩ := fin
                exact ⟨v, by
                  show arr'[o + (r * 7 + j)]? = some v
                  rw [p3 _ (by omega)]; exact f2, f4, .c f3 f4⟩
          res := by
            show RelA _ _ _ _ _ (.osl 2 0 (xs.length + 1)) _
            refine .osl (by simp) (fun _ => by simp [mkPl]) (by simp [mkPl]) hC1'.1 hC1'.2 }
end Go.Proofs.YtdhkpmaanegjkaaGreatDoor
