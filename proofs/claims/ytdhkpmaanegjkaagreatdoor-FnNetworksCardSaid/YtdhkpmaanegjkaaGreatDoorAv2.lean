/- The abstract layer: values, steps, contracts, part Av2: an abstract walk of Go functions whose soundness is proved here once. No conditions. -/
import Derived.Test.YtdhkpmaanegjkaaGreatDoorAv1
set_option linter.unusedVariables false
set_option linter.unusedSimpArgs false
namespace Go.Av
open Go.RowKit
def seqW {α β : Type} (f : α → (β → Prop) → Prop) : List α → (List β → Prop) → Prop
  | [], K => K []
  | a :: r, K => f a fun p => seqW f r fun ps => K (p :: ps)
abbrev zL0 : List PV := [.c (.slice none 0 0)]
def pvW (heap : List OB) (ids : List Nat) : Nat → AV → (PV → Prop) → Prop
  | 0, _, _ => False
  | d + 1, a, K => match a with
    | .p _ v => K v
    | .own k off => ids.contains k = false ∧ (match heap[k]? with
      | some (.fix cells) => seqW (pvW heap ids d) cells fun ps => K (.ref (ps.drop off))
      | _ => False)
    | .orow k i j => ids.contains k = false ∧ (match heap[k]? with
      | some (.row _ _ z es) => BndF true (i < es.length) (EqP (es.getD i z) fun e => K (.ref (e.drop j)))
      | _ => False)
    | .osl k lo n => ids.contains k = false ∧ (match heap[k]? with
      | some (.row _ _ z es) => BndF true (lo + n ≤ es.length) (EqL ((es.drop lo).take n) fun es => K (.lst z es))
      | some (.rows _ _ z es none) => BndF true (lo + n ≤ es.length) (EqL (((es.drop lo).take n).map fun e => [.lst z e]) fun es => K (.lst zL0 es))
      | _ => False)
    | .amap k => ids.contains k = false ∧ K .junk
    | .afn f caps => seqW (pvW heap ids d) caps fun ps => K (.fn f ps)
    | .aagg cells => seqW (pvW heap ids d) cells fun ps => K (.agg ps)
    | _ => False
def convW1 (heap : List OB) (ids : List Nat) (lend : Bool) (a : AV) (K : AV → Prop) : Prop := match a with
  | .p _ (.c v) => K (.p .flat (.c v))
  | .p _ v => K (.p .any v)
  | .own k off => (match ids.idxOf? k with
    | some i => K (.own i off)
    | none => lend = true ∧ pvW heap ids 5 (.own k off) fun p => K (.p .any p))
  | .orow k i j => (match ids.idxOf? k with
    | some k' => K (.orow k' i j)
    | none => lend = true ∧ pvW heap ids 5 (.orow k i j) fun p => K (.p .any p))
  | .osl k lo n => (match ids.idxOf? k with
    | some k' => K (.osl k' lo n)
    | none => lend = true ∧ pvW heap ids 5 (.osl k lo n) fun p => K (.p .any p))
  | .amap k => (match ids.idxOf? k with
    | some k' => K (.amap k')
    | none => lend = true ∧ pvW heap ids 5 (.amap k) fun p => K (.p .any p))
  | .afn f caps => lend = true ∧ pvW heap ids 5 (.afn f caps) fun p => K (.p .any p)
  | .aagg cells => lend = true ∧ pvW heap ids 5 (.aagg cells) fun p => K (.p .any p)
  | .junk => K .junk
  | _ => False
def ownIn (ids : List Nat) : AV → Bool
  | .own k _ => ids.any (Nat.beq k)
  | .orow k _ _ => ids.any (Nat.beq k)
  | .osl k _ _ => ids.any (Nat.beq k)
  | .amap k => ids.any (Nat.beq k)
  | _ => false
def convW (heap : List OB) (ids : List Nat) (lend : Bool) (a : AV) (K : AV → Prop) : Prop := match a with
  | .afn f caps => (match caps.any (ownIn ids) with
    | true => seqW (convW1 heap ids lend) caps fun cs => K (.afn f cs)
    | false => convW1 heap ids lend (.afn f caps) K)
  | .aagg cells => (match cells.any (ownIn ids) with
    | true => seqW (convW1 heap ids lend) cells fun cs => K (.aagg cs)
    | false => convW1 heap ids lend (.aagg cells) K)
  | a => convW1 heap ids lend a K
def convOB (heap : List OB) (ids : List Nat) (lend : Bool) (ob : OB) (K : OB → Prop) : Prop := match ob with
  | .dead => False
  | .fix cells => seqW (convW heap ids lend) cells fun cs => K (.fix cs)
  | .row _ .flat z es => K (.row false .flat z es)
  | .row _ _ z es => K (.row false .any z es)
  | .mp _ ks f => K (.mp false ks f)
  | .rows _ .flat z es none => K (.rows false .flat z es none)
  | .rows _ _ z es none => K (.rows false .any z es none)
  | .rows _ _ _ _ (some _) => False
def impF (lend : Bool) : Fl → Option Fl
  | .flat => some .flat
  | .fresh => some .fresh
  | .any => if lend then none else some .any
def impG (ids : List Nat) (L : Nat) : Nat → Option Nat := fun i => match ids[i]? with
  | some k => some k
  | none => some (L + (i - ids.length))
def kind : OB → Nat
  | .dead => 0
  | .fix _ => 1
  | .row .. => 2
  | .mp .. => 3
  | .rows _ _ _ _ none => 4
  | .rows _ _ _ _ (some q) => 5 + q.1
def nwOf : OB → Bool
  | .row nw _ _ _ => nw
  | .mp nw _ _ => nw
  | .rows nw _ _ _ _ => nw
  | _ => false
def bk (old new : OB) : OB := match old, new with
  | .fix _, .fix c => .fix c
  | .row nw _ _ _, .row _ fl z es => .row nw fl z es
  | .mp nw _ _, .mp _ ks f => .mp nw ks f
  | .rows nw _ _ _ none, .rows _ fl z es none => .rows nw fl z es none
  | _, _ => .dead
def putIds (lend : Bool) (ids : List Nat) (L : Nat) (hout : List OB) : List Nat → Nat → List OB → List OB
  | [], _, heap => heap
  | k :: r, i, heap => putIds lend ids L hout r (i + 1) (heap.set k (bk (heap.getD k .dead) (renOB (impG ids L) (impF lend) (hout.getD i .dead))))
def heapBack (lend : Bool) (ids : List Nat) (heap hout : List OB) : List OB :=
  putIds lend ids heap.length hout ids 0 heap ++ (hout.drop ids.length).map (renOB (impG ids heap.length) (impF lend))
def newO : OB → OB
  | .row _ fl z es => .row true fl z es
  | .mp _ ks f => .mp true ks f
  | .rows _ fl z es h => .rows true fl z es h
  | ob => ob
def newL : List OB → List OB
  | [] => []
  | a :: r => newO a :: newL r
def newFrom : Nat → List OB → List OB
  | 0, h => newL h
  | _ + 1, [] => []
  | n + 1, a :: r => a :: newFrom n r
def nbOk (heap hb : List OB) : List Nat → Bool
  | [] => true
  | k :: r => (nwOf (heap.getD k .dead) || (Nat.beq (kind (hb.getD k .dead)) (kind (heap.getD k .dead)) && Nat.blt 0 (kind (heap.getD k .dead)))) && nbOk heap hb r
def heapBackN (nb lend : Bool) (ids : List Nat) (heap hout : List OB) : List OB :=
  bif nb && nbOk heap (heapBack lend ids heap hout) ids then newFrom heap.length (heapBack lend ids heap hout) else heapBack lend ids heap hout
def CallW (P : Program) [Kn P] (st : St) (f : FuncId) (vs : List AV) (K : AV → List OB → Prop) : Prop :=
  ∃ (ids : List Nat) (lend nb : Bool), ids.Nodup ∧ (∀ k ∈ ids, k < st.heap.length) ∧
    seqW (convW st.heap ids lend) vs fun args => seqW (convOB st.heap ids lend) (ids.map fun k => st.heap.getD k .dead) fun hin =>
      ∃ R, FnSem P f args hin R ∧ ∀ rs hout, R rs hout → ids.length ≤ hout.length →
        K (renA (impG ids st.heap.length) (impF lend) (retAV rs)) (heapBackN nb lend ids st.heap hout)
section
variable {pl : Nat → Pl} {S Fr T : Nat → Prop} {w : World} {P : Program} [Kn P] {st : St} {a : Act}
theorem seqW_sound {α β : Type} {f : α → (β → Prop) → Prop} {r : α → β → Prop} (hf : ∀ a K, f a K → ∃ b, K b ∧ r a b) : ∀ {l : List α} {K : List β → Prop}, seqW f l K →
    ∃ bs, K bs ∧ bs.length = l.length ∧ ∀ (j : Nat) (a : α) (b : β), l[j]? = some a → bs[j]? = some b → r a b
  | [], K, h => ⟨[], h, rfl, fun j a b ha => by simp at ha⟩
  | a :: l, K, h => by
    obtain ⟨b, hb, hr⟩ := hf a _ h
    obtain ⟨bs, hK, hl, hrs⟩ := seqW_sound hf hb
    refine ⟨b :: bs, hK, by simp [hl], fun j a' b' ha' hb' => ?_⟩
    cases j with
    | zero => simp at ha' hb'; subst ha' hb'; exact hr
    | succ j => simp at ha' hb'; exact hrs j a' b' ha' hb'
theorem RowRel.rel {S T : Nat → Prop} {w : World} {q : Pl0} {z : List PV} {es : List (List PV)} (h : RowRel S w q z es) (hST : ∀ b, S b → T b) (hT : 0 < q.cap → T q.blk) {A : Option Addr} (hA : 0 < q.cap → A = some ⟨q.blk, q.off, none⟩) : Rel T w (.lst z es) (.slice A es.length q.cap) := by
  obtain ⟨g1, g2, g3, g4, g5, g6⟩ := h
  by_cases hcap : 0 < q.cap
  · obtain ⟨ty, arr, q1, q2, q3⟩ := g6 hcap
    refine .lst rfl g4 g3 ⟨q.blk, q.off, none⟩ (fun h0 => hA hcap) (fun _ _ => hT hcap) g5 (fun i j => arr.getD (q.off + (i * z.length + j)) undef)
      (fun i j e p he hp => ?_) (fun i j e p he hp => ?_) (fun i j e p he hp => ?_)
    · obtain ⟨x, h2, h3, h4⟩ := q3 _ _ _ _ he hp
      rw [Addr.add_lit, cell_of_row w _ _ arr ty (0, 0) q1, Array.getD_eq_getD_getElem?, h2]; rfl
    · obtain ⟨x, h2, h3, h4⟩ := q3 _ _ _ _ he hp
      rw [Array.getD_eq_getD_getElem?, h2]; exact h3
    · obtain ⟨x, h2, h3, h4⟩ := q3 _ _ _ _ he hp
      rw [Array.getD_eq_getD_getElem?, h2]; exact h4.mono hST (fun _ _ => rfl)
  · have hn0 : es = [] := List.eq_nil_of_length_eq_zero (by omega)
    subst hn0
    exact .lst rfl g4 g3 ⟨0, 0, none⟩ (fun h0 => absurd h0 (by simp)) (fun h0 _ => absurd h0 (by simp)) (fun i e he => by simp at he) (fun _ _ => undef)
      (fun i j e p he hp => by simp at he) (fun i j e p he hp => by simp at he) (fun i j e p he hp => by simp at he)
theorem pvW_sound (hS : Seen pl S Fr w st a) (hST : ∀ b, S b → T b) (hFT : ∀ b, Fr b → T b) {ids : List Nat} (hT : ∀ k b, owns pl st.heap k b → k ∉ ids → T b) :
    ∀ (d : Nat) (v : AV) (K : PV → Prop), pvW st.heap ids d v K → ∃ p, K p ∧ ∀ u, RelA pl st.heap.length S Fr w v u → Rel T w p u
  | 0, _, _, h => h.elim
  | d + 1, v, K, h => by
    have hfl : ∀ fl b, flagS S Fr fl b → T b := by
      intro fl b hb
      cases fl
      · exact hb.elim
      · exact hFT b hb
      · exact hST b hb
    unfold pvW at h
    split at h
    case h_1 fl v => exact ⟨v, h, fun u hu => hu.pinv.mono (hfl fl) (fun _ _ => rfl)⟩
    case h_2 k off =>
      obtain ⟨hk, h⟩ := h
      have hk : k ∉ ids := by simpa using hk
      split at h
      case h_2 => exact h.elim
      rename_i cells hc
      obtain ⟨ps, hK, hl, hr⟩ := seqW_sound (r := fun v p => ∀ u, RelA pl st.heap.length S Fr w v u → Rel T w p u) (fun v K h => pvW_sound hS hST hFT hT d v K h) h
      refine ⟨_, hK, fun u hu => ?_⟩
      obtain ⟨ty, arr, g1, g2, g3⟩ := hS.heap _ _ hc
      have hlive := owns_fix (pl := pl) hc
      cases hu with
      | own hkL =>
        have hcell : ∀ (j : Nat) (p : PV), (ps.drop off)[j]? = some p → ∃ c x, cells[off + j]? = some c ∧ arr[off + j]? = some x ∧ ps[off + j]? = some p := fun j p hp => by
          rw [List.getElem?_drop] at hp
          have h1 : off + j < ps.length := (List.getElem?_eq_some_iff.1 hp).1
          have h2 : off + j < cells.length := by omega
          have h3 : off + j < arr.size := by omega
          exact ⟨_, _, List.getElem?_eq_getElem h2, Array.getElem?_eq_getElem h3, hp⟩
        refine .ref (fun _ => hT k _ hlive hk) (fun j => arr.getD (off + j) undef) (fun j p hp => ?_) (fun j p hp => ?_) (fun j p hp => ?_)
        · obtain ⟨c, x, h1, h2, h3⟩ := hcell j p hp
          rw [Addr.add_lit, cell_of_row w _ _ arr ty (0, 0) g1, Array.getD_eq_getD_getElem?, h2]; rfl
        · obtain ⟨c, x, h1, h2, h3⟩ := hcell j p hp
          rw [Array.getD_eq_getD_getElem?, h2]
          exact (g3 _ _ _ h1 h2).1
        · obtain ⟨c, x, h1, h2, h3⟩ := hcell j p hp
          rw [Array.getD_eq_getD_getElem?, h2]
          exact hr _ _ _ h1 h3 _ (g3 _ _ _ h1 h2).2
    case h_3 k i j =>
      obtain ⟨hk, h⟩ := h
      have hk : k ∉ ids := by simpa using hk
      split at h
      case h_2 => exact h.elim
      rename_i fl z es hc
      obtain ⟨hi, cs', rfl, hK⟩ := h
      have hi := hi rfl
      refine ⟨_, hK, fun u hu => ?_⟩
      obtain ⟨g1, g2, g3, g4, g5, g6⟩ := hS.heap _ _ hc
      have hlive := owns_row (pl := pl) hc (by omega)
      obtain ⟨ty, arr, q1, q2, q3⟩ := g6 (by omega)
      have he := getD_some (d := z) hi
      cases hu with
      | orow hkL =>
        have hcell : ∀ (j' : Nat) (p : PV), ((es.getD i z).drop j)[j']? = some p → ∃ x, arr[(pl k).off + (i * z.length + (j + j'))]? = some x ∧ x.oneCell' = true ∧ Rel (flagS S Fr fl) w p x := fun j' p hp => by
          rw [List.getElem?_drop] at hp
          exact q3 i (j + j') _ p he hp
        refine .ref (fun _ => hT k _ hlive hk) (fun j' => arr.getD ((pl k).off + (i * z.length + (j + j'))) undef) (fun j' p hp => ?_) (fun j' p hp => ?_) (fun j' p hp => ?_)
        · obtain ⟨x, h2, h3, h4⟩ := hcell j' p hp
          rw [Addr.add_lit, cell_of_row w _ _ arr ty (0, 0) q1, Array.getD_eq_getD_getElem?, h2, g1]
          have e1 : (pl k).off + (i * z.length + j) + j' = (pl k).off + (i * z.length + (j + j')) := by omega
          rw [e1, h2]; rfl
        · obtain ⟨x, h2, h3, h4⟩ := hcell j' p hp
          rw [Array.getD_eq_getD_getElem?, h2]; exact h3
        · obtain ⟨x, h2, h3, h4⟩ := hcell j' p hp
          rw [Array.getD_eq_getD_getElem?, h2]; exact h4.mono (hfl fl) (fun _ _ => rfl)
    case h_4 k lo n =>
      obtain ⟨hk, h⟩ := h
      have hk : k ∉ ids := by simpa using hk
      split at h
      case h_3 => exact h.elim
      case h_2 =>
        rename_i fl z es hc
        obtain ⟨hn, es', rfl, hK⟩ := h
        have hn := hn rfl
        refine ⟨_, hK, fun u hu => ?_⟩
        have hR : RowsRel pl st.heap.length S Fr w (pl k) fl z es none := hS.heap _ _ hc
        have hget : ∀ (i : Nat) (e : List PV), (((es.drop lo).take n).map fun e => [PV.lst z e])[i]? = some e → ∃ e0, es[lo + i]? = some e0 ∧ i < n ∧ e = [.lst z e0] := fun i e he => by
          rw [List.getElem?_map, List.getElem?_take] at he
          split at he
          · rename_i hlt
            rw [List.getElem?_drop] at he
            cases he0 : es[lo + i]? with
            | none => rw [he0] at he; cases he
            | some e0 => rw [he0] at he; cases he; exact ⟨e0, rfl, hlt, rfl⟩
          · cases he
        have hlen : (((es.drop lo).take n).map fun e => [PV.lst z e]).length = n := by simp; omega
        cases hu with
        | @osl _ _ _ C A hkL hA hC hn' hM =>
          by_cases hcap : 0 < (pl k).cap
          · obtain ⟨ty, arr, q1, q2, q3⟩ := hR.mem hcap
            have hin : ∀ (i : Nat) (e0 : List (List PV)), es[lo + i]? = some e0 → ∃ q, (pl k).inn[lo + i]? = some q := fun i e0 he => ⟨_, List.getElem?_eq_getElem (by rw [hR.inn]; exact (List.getElem?_eq_some_iff.1 he).1)⟩
            refine .lst hlen.symm hn' (by omega) ⟨(pl k).blk, (pl k).off + lo * (pl k).sz, none⟩ (fun h0 => hA (by omega)) (fun _ _ => hT k _ (owns_of hc (.inl ⟨hcap, rfl⟩)) hk) (fun i e he => by obtain ⟨e0, _, _, rfl⟩ := hget i e he; rfl) (fun i j => arr.getD ((pl k).off + (lo + i)) undef)
              (fun i j e p he hp => ?_) (fun i j e p he hp => ?_) (fun i j e p he hp => ?_)
            all_goals
              obtain ⟨e0, h1, h2, rfl⟩ := hget i e he
              have hj : j = 0 := by have := (List.getElem?_eq_some_iff.1 hp).1; simpa using this
              subst hj
              obtain ⟨q, hq⟩ := hin i e0 h1
              obtain ⟨A', m1, m2, m3, m4, m5⟩ := q3 _ _ _ h1 hq
            · rw [Addr.add_lit, cell_of_row w _ _ arr ty (0, 0) q1, Array.getD_eq_getD_getElem?, m1, hR.sz]
              have e1 : (pl k).off + lo * 1 + (i * 1 + 0) = (pl k).off + (lo + i) := by omega
              simp only [zL0, List.length_singleton]
              rw [e1, m1]; rfl
            · rw [Array.getD_eq_getD_getElem?, m1]; rfl
            · rw [Array.getD_eq_getD_getElem?, m1]
              simp at hp
              subst hp
              exact (hR.row _ _ _ h1 hq (by simp)).rel (hfl fl) (fun hc' => hT k _ (owns_of hc (.inr ⟨_, q, hq, by simp, hc', rfl⟩)) hk) m2
          · have hn0 : n = 0 := by have := hR.len; omega
            subst hn0
            exact .lst hlen.symm hn' (by omega) ⟨0, 0, none⟩ (fun h0 => absurd h0 (by omega)) (fun h0 _ => absurd h0 (by omega)) (fun i e he => by obtain ⟨_, _, h2, _⟩ := hget i e he; omega) (fun _ _ => undef)
              (fun i j e p he hp => by obtain ⟨_, _, h2, _⟩ := hget i e he; omega) (fun i j e p he hp => by obtain ⟨_, _, h2, _⟩ := hget i e he; omega) (fun i j e p he hp => by obtain ⟨_, _, h2, _⟩ := hget i e he; omega)
      rename_i fl z es hc
      obtain ⟨hn, es', rfl, hK⟩ := h
      have hn := hn rfl
      refine ⟨_, hK, fun u hu => ?_⟩
      obtain ⟨g1, g2, g3, g4, g5, g6⟩ := hS.heap _ _ hc
      cases hu with
      | @osl _ _ _ C A hkL hA hC hn' hM =>
        have hlen : ((es.drop lo).take n).length = n := by simp; omega
        have hget : ∀ (i : Nat) (e : List PV), ((es.drop lo).take n)[i]? = some e → es[lo + i]? = some e ∧ i < n := fun i e he => by
          rw [List.getElem?_take] at he
          split at he
          · rename_i hlt; exact ⟨by rwa [List.getElem?_drop] at he, hlt⟩
          · cases he
        by_cases hcap : 0 < (pl k).cap
        · obtain ⟨ty, arr, q1, q2, q3⟩ := g6 hcap
          have hlive := owns_row (pl := pl) hc (by omega)
          refine .lst hlen.symm hn' (by omega) ⟨(pl k).blk, (pl k).off + lo * (pl k).sz, none⟩ (fun h0 => hA (by omega)) (fun _ _ => hT k _ hlive hk) (fun i e he => g5 _ _ (hget i e he).1) (fun i j => arr.getD ((pl k).off + ((lo + i) * z.length + j)) undef)
            (fun i j e p he hp => ?_) (fun i j e p he hp => ?_) (fun i j e p he hp => ?_)
          · obtain ⟨x, h2, h3, h4⟩ := q3 _ _ _ _ (hget i e he).1 hp
            rw [Addr.add_lit, cell_of_row w _ _ arr ty (0, 0) q1, Array.getD_eq_getD_getElem?, h2, g1]
            have e1 : (pl k).off + lo * z.length + (i * z.length + j) = (pl k).off + ((lo + i) * z.length + j) := by rw [Nat.add_mul]; omega
            rw [e1, h2]; rfl
          · obtain ⟨x, h2, h3, h4⟩ := q3 _ _ _ _ (hget i e he).1 hp
            rw [Array.getD_eq_getD_getElem?, h2]; exact h3
          · obtain ⟨x, h2, h3, h4⟩ := q3 _ _ _ _ (hget i e he).1 hp
            rw [Array.getD_eq_getD_getElem?, h2]; exact h4.mono (hfl fl) (fun _ _ => rfl)
        · have hn0 : n = 0 := by omega
          subst hn0
          exact .lst hlen.symm hn' (by omega) ⟨0, 0, none⟩ (fun h0 => absurd h0 (by omega)) (fun h0 _ => absurd h0 (by omega)) (fun i e he => absurd (hget i e he).2 (by omega)) (fun _ _ => undef)
            (fun i j e p he hp => absurd (hget i e he).2 (by omega)) (fun i j e p he hp => absurd (hget i e he).2 (by omega)) (fun i j e p he hp => absurd (hget i e he).2 (by omega))
    case h_5 k =>
      refine ⟨_, h.2, fun u hu => ?_⟩
      cases hu with
      | amap hk => exact .junk rfl
    case h_6 f caps =>
      obtain ⟨ps, hK, hl, hr⟩ := seqW_sound (r := fun v p => ∀ u, RelA pl st.heap.length S Fr w v u → Rel T w p u) (fun v K h => pvW_sound hS hST hFT hT d v K h) h
      refine ⟨_, hK, fun u hu => ?_⟩
      cases hu with
      | @afn _ _ arr hs hr' =>
        refine .fn (by rw [hs, hl]) fun j p x hp hx => ?_
        have hj : j < caps.length := by rw [← hl]; exact (List.getElem?_eq_some_iff.1 hp).1
        exact hr j _ p (List.getElem?_eq_getElem hj) hp x (hr' j _ x (List.getElem?_eq_getElem hj) hx)
    case h_7 cells =>
      obtain ⟨ps, hK, hl, hr⟩ := seqW_sound (r := fun v p => ∀ u, RelA pl st.heap.length S Fr w v u → Rel T w p u) (fun v K h => pvW_sound hS hST hFT hT d v K h) h
      refine ⟨_, hK, fun u hu => ?_⟩
      cases hu with
      | @aagg _ arr hs h1 hr' =>
        refine .agg (by rw [hs, hl]) h1 fun j p x hp hx => ?_
        have hj : j < cells.length := by rw [← hl]; exact (List.getElem?_eq_some_iff.1 hp).1
        exact hr j _ p (List.getElem?_eq_getElem hj) hp x (hr' j _ x (List.getElem?_eq_getElem hj) hx)
    case h_8 => exact h.elim
end
end Go.Av
namespace Go.Av
open Go.RowKit
section
variable {lend : Bool} {ids : List Nat} {L : Nat} {hout : List OB}
theorem putIds_length : ∀ (l : List Nat) (i : Nat) (heap : List OB), (putIds lend ids L hout l i heap).length = heap.length
  | [], _, _ => rfl
  | _ :: l, i, heap => by simp only [putIds]; rw [putIds_length l]; simp
theorem putIds_other : ∀ (l : List Nat) (i : Nat) (heap : List OB) (k : Nat), k ∉ l → (putIds lend ids L hout l i heap)[k]? = heap[k]?
  | [], _, _, _, _ => rfl
  | x :: l, i, heap, k, h => by
    simp only [putIds]
    simp at h
    rw [putIds_other l _ _ k h.2, List.getElem?_set_ne (Ne.symm h.1)]
theorem putIds_at : ∀ (l : List Nat) (i : Nat) (heap : List OB) (j k : Nat), l.Nodup → l[j]? = some k → k < heap.length → (putIds lend ids L hout l i heap)[k]? = some (bk (heap.getD k .dead) (renOB (impG ids L) (impF lend) (hout.getD (i + j) .dead)))
  | [], _, _, _, _, _, h, _ => by simp at h
  | x :: l, i, heap, j, k, hn, h, hk => by
    simp only [putIds]
    rw [List.nodup_cons] at hn
    cases j with
    | zero =>
      simp at h
      subst h
      rw [putIds_other l _ _ _ hn.1, List.getElem?_set_self (by simpa using hk)]
      simp
    | succ j =>
      simp at h
      have hx : x ≠ k := fun e => hn.1 (e ▸ List.mem_of_getElem? h)
      have e1 : i + 1 + j = i + (j + 1) := by omega
      rw [putIds_at l (i + 1) _ j k hn.2 h (by simpa using hk), e1]
      simp only [List.getD_eq_getElem?_getD, List.getElem?_set_ne hx]
end
structure Hand (pl : Nat → Pl) (heap : List OB) (A : Nat → Prop) (B : Nat) (w : World) (ids : List Nat) (lend : Bool) (Sc : Nat → Prop) : Prop where
  no : lend = false → ∀ b, Sany A B pl heap w b → Sc b
  yes : lend = true → ∀ b, Stab pl heap w b → Sc b
  own : lend = true → ∀ k b, owns pl heap k b → k ∉ ids → Sc b
section
variable {A : Nat → Prop} {B : Nat} {pl : Nat → Pl} {st : St} {a : Act} {w : World} {ids : List Nat} {lend : Bool}
theorem Hand.any {Sc : Nat → Prop} (h : Hand pl st.heap A B w ids lend Sc) : ∀ b, Sany A B pl st.heap w b → Sc b := by
  intro b hb
  cases hl : lend with
  | true => exact h.yes hl b hb.1
  | false => exact h.no hl b hb
theorem convW1_sound (hSe : Seen pl (Sany A B pl st.heap w) (Fresh B pl st.heap w) w st a) {v : AV} {K : AV → Prop} (hv : convW1 st.heap ids lend v K) :
    ∃ v', K v' ∧ ∀ (L' : Nat) (Sc Frc : Nat → Prop), ids.length ≤ L' → Hand pl st.heap A B w ids lend Sc → ∀ u, RelA pl st.heap.length (Sany A B pl st.heap w) (Fresh B pl st.heap w) w v u → RelA (renPl ids pl) L' Sc Frc w v' u := by
  have hpv : ∀ {v : AV} {K : AV → Prop}, lend = true → pvW st.heap ids 5 v (fun p => K (.p .any p)) → ∃ v', K v' ∧ ∀ (L' : Nat) (Sc Frc : Nat → Prop), ids.length ≤ L' → Hand pl st.heap A B w ids lend Sc →
      ∀ u, RelA pl st.heap.length (Sany A B pl st.heap w) (Fresh B pl st.heap w) w v u → RelA (renPl ids pl) L' Sc Frc w v' u := by
    intro v K hlend hv
    obtain ⟨p, hK, hp⟩ := pvW_sound (T := fun b => (Stab pl st.heap w b ∨ ∃ k, owns pl st.heap k b ∧ k ∉ ids)) hSe (fun b hb => .inl hb.1) (fun b hb => .inl hb.2) (ids := ids) (fun k b hk hn => .inr ⟨k, hk, hn⟩) 5 v _ hv
    refine ⟨_, hK, fun L' Sc Frc _ h u hu => .p ((hp u hu).mono (fun b hb => ?_) (fun _ _ => rfl))⟩
    rcases hb with hb | ⟨k, hk, hn⟩
    · exact h.yes hlend b hb
    · exact h.own hlend k b hk hn
  unfold convW1 at hv
  split at hv
  case h_1 fl v => exact ⟨_, hv, fun L' Sc Frc _ h u hu => .p hu.pinv.scalar⟩
  case h_2 fl v _ =>
    refine ⟨_, hv, fun L' Sc Frc _ h u hu => .p (hu.pinv.mono (fun b hb => h.any b ?_) (fun _ _ => rfl))⟩
    cases fl
    · exact hb.elim
    · exact ⟨hb.2, .inr hb.1⟩
    · exact hb
  case h_3 k off =>
    split at hv
    case h_1 i hi =>
      refine ⟨_, hv, fun L' Sc Frc hL' h u hu => ?_⟩
      have hi' := idxOf_spec hi
      cases hu with
      | own hk => rw [← renPl_get (pl := pl) hi']; exact .own (Nat.lt_of_lt_of_le (List.getElem?_eq_some_iff.1 hi').1 hL')
    case h_2 => exact hpv hv.1 hv.2
  case h_4 k i j =>
    split at hv
    case h_1 k' hi =>
      refine ⟨_, hv, fun L' Sc Frc hL' h u hu => ?_⟩
      have hi' := idxOf_spec hi
      cases hu with
      | orow hk => rw [← renPl_get (pl := pl) hi']; exact .orow (Nat.lt_of_lt_of_le (List.getElem?_eq_some_iff.1 hi').1 hL')
    case h_2 => exact hpv hv.1 hv.2
  case h_5 k lo n =>
    split at hv
    case h_1 i hi =>
      refine ⟨_, hv, fun L' Sc Frc hL' h u hu => ?_⟩
      have hi' := idxOf_spec hi
      have e := renPl_get (pl := pl) hi'
      cases hu with
      | osl hk hA hC hn hM => exact .osl (Nat.lt_of_lt_of_le (List.getElem?_eq_some_iff.1 hi').1 hL') (by rw [e]; exact hA) (by rw [e]; exact hC) hn (by rw [e]; exact hM)
    case h_2 => exact hpv hv.1 hv.2
  case h_6 k =>
    split at hv
    case h_1 i hi =>
      refine ⟨_, hv, fun L' Sc Frc hL' h u hu => ?_⟩
      have hi' := idxOf_spec hi
      cases hu with
      | amap hk => rw [← renPl_get (pl := pl) hi']; exact .amap (Nat.lt_of_lt_of_le (List.getElem?_eq_some_iff.1 hi').1 hL')
    case h_2 => exact hpv hv.1 hv.2
  case h_7 f caps => exact hpv hv.1 hv.2
  case h_8 cells => exact hpv hv.1 hv.2
  case h_9 => exact ⟨_, hv, fun _ _ _ _ _ _ _ => .junk⟩
  case h_10 => exact hv.elim
theorem convW_sound (hSe : Seen pl (Sany A B pl st.heap w) (Fresh B pl st.heap w) w st a) {v : AV} {K : AV → Prop} (hv : convW st.heap ids lend v K) :
    ∃ v', K v' ∧ ∀ (L' : Nat) (Sc Frc : Nat → Prop), ids.length ≤ L' → Hand pl st.heap A B w ids lend Sc → ∀ u, RelA pl st.heap.length (Sany A B pl st.heap w) (Fresh B pl st.heap w) w v u → RelA (renPl ids pl) L' Sc Frc w v' u := by
  unfold convW at hv
  split at hv
  case h_1 f caps =>
    split at hv
    case h_1 =>
      obtain ⟨cs, hK, hl, hr⟩ := seqW_sound (r := fun v v' => ∀ (L' : Nat) (Sc Frc : Nat → Prop), ids.length ≤ L' → Hand pl st.heap A B w ids lend Sc → ∀ u, RelA pl st.heap.length (Sany A B pl st.heap w) (Fresh B pl st.heap w) w v u → RelA (renPl ids pl) L' Sc Frc w v' u) (fun v K h => convW1_sound hSe h) hv
      refine ⟨_, hK, fun L' Sc Frc hL h u hu => ?_⟩
      cases hu with
      | @afn _ _ arr hs hr' =>
        refine .afn (by rw [hs, hl]) fun j p x hp hx => ?_
        have hj : j < caps.length := by rw [← hl]; exact (List.getElem?_eq_some_iff.1 hp).1
        exact hr j _ p (List.getElem?_eq_getElem hj) hp L' Sc Frc hL h x (hr' j _ x (List.getElem?_eq_getElem hj) hx)
    case h_2 => exact convW1_sound hSe hv
  case h_2 cells =>
    split at hv
    case h_1 =>
      obtain ⟨cs, hK, hl, hr⟩ := seqW_sound (r := fun v v' => ∀ (L' : Nat) (Sc Frc : Nat → Prop), ids.length ≤ L' → Hand pl st.heap A B w ids lend Sc → ∀ u, RelA pl st.heap.length (Sany A B pl st.heap w) (Fresh B pl st.heap w) w v u → RelA (renPl ids pl) L' Sc Frc w v' u) (fun v K h => convW1_sound hSe h) hv
      refine ⟨_, hK, fun L' Sc Frc hL h u hu => ?_⟩
      cases hu with
      | @aagg _ arr hs h1 hr' =>
        refine .aagg (by rw [hs, hl]) h1 fun j p x hp hx => ?_
        have hj : j < cells.length := by rw [← hl]; exact (List.getElem?_eq_some_iff.1 hp).1
        exact hr j _ p (List.getElem?_eq_getElem hj) hp L' Sc Frc hL h x (hr' j _ x (List.getElem?_eq_getElem hj) hx)
    case h_2 => exact convW1_sound hSe hv
  case h_3 => exact convW1_sound hSe hv
theorem convOB_sound (hSe : Seen pl (Sany A B pl st.heap w) (Fresh B pl st.heap w) w st a) {ob : OB} {K : OB → Prop} (hv : convOB st.heap ids lend ob K) :
    ∃ ob', K ob' ∧ kind ob' = kind ob ∧ kind ob ≠ 0 ∧ (nwOf ob' = false) ∧ ∀ (i k : Nat), ids[i]? = some k → OBrel pl st.heap.length (Sany A B pl st.heap w) (Fresh B pl st.heap w) w k ob →
      ∀ (L' : Nat) (Sc Frc : Nat → Prop), ids.length ≤ L' → Hand pl st.heap A B w ids lend Sc → OBrel (renPl ids pl) L' Sc Frc w i ob' := by
  have hfl : ∀ (fl fl' : Fl), (fl' = .any ∨ fl = .flat ∧ fl' = .flat) → ∀ (Sc Frc : Nat → Prop), Hand pl st.heap A B w ids lend Sc → ∀ b, flagS (Sany A B pl st.heap w) (Fresh B pl st.heap w) fl b → flagS Sc Frc fl' b := by
    intro fl fl' hfl Sc Frc h b hb
    rcases hfl with rfl | ⟨rfl, rfl⟩
    · refine h.any b ?_
      cases fl
      · exact hb.elim
      · exact ⟨hb.2, .inr hb.1⟩
      · exact hb
    · exact hb.elim
  have hrow : ∀ (nw : Bool) (fl fl' : Fl) (z : List PV) (es : List (List PV)), (fl' = .any ∨ fl = .flat ∧ fl' = .flat) → ∀ (i k : Nat), ids[i]? = some k → OBrel pl st.heap.length (Sany A B pl st.heap w) (Fresh B pl st.heap w) w k (.row nw fl z es) →
      ∀ (L' : Nat) (Sc Frc : Nat → Prop), ids.length ≤ L' → Hand pl st.heap A B w ids lend Sc → OBrel (renPl ids pl) L' Sc Frc w i (.row false fl' z es) := by
    intro nw fl fl' z es hf i k hi ho L' Sc Frc hL' h
    show RowRel _ _ (renPl ids pl i).toPl0 z es
    rw [renPl_get hi]
    exact RowRel.mono (hfl fl fl' hf Sc Frc h) (fun _ _ => rfl) (fun _ => rfl) ho
  have hrows : ∀ (nw : Bool) (fl fl' : Fl) (z : List PV) (es : List (List (List PV))), (fl' = .any ∨ fl = .flat ∧ fl' = .flat) → ∀ (i k : Nat), ids[i]? = some k → OBrel pl st.heap.length (Sany A B pl st.heap w) (Fresh B pl st.heap w) w k (.rows nw fl z es none) →
      ∀ (L' : Nat) (Sc Frc : Nat → Prop), ids.length ≤ L' → Hand pl st.heap A B w ids lend Sc → OBrel (renPl ids pl) L' Sc Frc w i (.rows false fl' z es none) := by
    intro nw fl fl' z es hf i k hi ho L' Sc Frc hL' h
    show RowsRel _ _ _ _ _ (renPl ids pl i) fl' z es none
    rw [renPl_get hi]
    have ho : RowsRel pl st.heap.length (Sany A B pl st.heap w) (Fresh B pl st.heap w) w (pl k) fl z es none := ho
    exact { sz := ho.sz, cap := ho.cap, len := ho.len, inn := ho.inn, zpos := ho.zpos, apart := ho.apart, apart0 := ho.apart0, mem := ho.mem, out := fun _ _ hh => (by cases hh),
            row := fun j e q he hq hj => (ho.row j e q he hq hj).mono (hfl fl fl' hf Sc Frc h) (fun _ _ => rfl) (fun _ => rfl) }
  unfold convOB at hv
  split at hv
  case h_1 => exact hv.elim
  case h_2 cells =>
    obtain ⟨cs, hK, hl, hr⟩ := seqW_sound (r := fun v v' => ∀ (L' : Nat) (Sc Frc : Nat → Prop), ids.length ≤ L' → Hand pl st.heap A B w ids lend Sc → ∀ u, RelA pl st.heap.length (Sany A B pl st.heap w) (Fresh B pl st.heap w) w v u → RelA (renPl ids pl) L' Sc Frc w v' u)
      (fun v K h => convW_sound hSe h) hv
    refine ⟨_, hK, rfl, by simp [kind], rfl, fun i k hi ho L' Sc Frc hL' h => ?_⟩
    obtain ⟨ty, arr, g1, g2, g3⟩ := ho
    refine ⟨ty, arr, by rw [renPl_get hi]; exact g1, by rw [g2, hl], fun j c u hc hu => ?_⟩
    have hj : j < cells.length := by rw [← hl]; exact (List.getElem?_eq_some_iff.1 hc).1
    have := g3 j _ u (List.getElem?_eq_getElem hj) hu
    exact ⟨this.1, hr j _ c (List.getElem?_eq_getElem hj) hc L' Sc Frc hL' h u this.2⟩
  case h_3 nw z es => exact ⟨_, hv, rfl, by simp [kind], rfl, hrow _ _ _ _ _ (.inr ⟨rfl, rfl⟩)⟩
  case h_4 => exact ⟨_, hv, rfl, by simp [kind], rfl, hrow _ _ _ _ _ (.inl rfl)⟩
  case h_5 nw ks f =>
    refine ⟨_, hv, rfl, by simp [kind], rfl, fun i k hi ho L' Sc Frc hL' h => ?_⟩
    obtain ⟨es, clock, h1, h2⟩ := ho
    exact ⟨es, clock, by rw [renPl_get hi]; exact h1, h2⟩
  case h_6 nw z es => exact ⟨_, hv, rfl, by simp [kind], rfl, hrows _ _ _ _ _ (.inr ⟨rfl, rfl⟩)⟩
  case h_7 => exact ⟨_, hv, rfl, by simp [kind], rfl, hrows _ _ _ _ _ (.inl rfl)⟩
  case h_8 => exact hv.elim
end
def likeOB : OB → OB → Prop
  | .dead, .dead => True
  | .fix a, .fix b => a = b
  | .row _ fl z es, .row _ fl' z' es' => fl = fl' ∧ z = z' ∧ es = es'
  | .mp _ ks f, .mp _ ks' f' => ks = ks' ∧ f = f'
  | .rows _ fl z es hl, .rows _ fl' z' es' hl' => fl = fl' ∧ z = z' ∧ es = es' ∧ hl = hl'
  | _, _ => False
theorem bk_cases (old new : OB) : (likeOB (bk old new) new ∧ kind (bk old new) = kind old ∧ nwOf (bk old new) = nwOf old) ∨ bk old new = .dead := by
  cases old with
  | dead => right; cases new <;> rfl
  | fix c =>
    cases new with
    | fix c' => left; exact ⟨rfl, rfl, rfl⟩
    | _ => right; rfl
  | row nw fl z es =>
    cases new with
    | row nw' fl' z' es' => left; exact ⟨⟨rfl, rfl, rfl⟩, rfl, rfl⟩
    | _ => right; rfl
  | mp nw ks f =>
    cases new with
    | mp nw' ks' f' => left; exact ⟨⟨rfl, rfl⟩, rfl, rfl⟩
    | _ => right; rfl
  | rows nw fl z es hl =>
    cases hl with
    | some q => right; cases new <;> rfl
    | none =>
      cases new with
      | rows nw' fl' z' es' hl' =>
        cases hl' with
        | some q => right; rfl
        | none => left; exact ⟨⟨rfl, rfl, rfl, rfl⟩, rfl, rfl⟩
      | _ => right; rfl
theorem likeOB.rel {pl : Nat → Pl} {L : Nat} {S Fr : Nat → Prop} {w : World} {k : Nat} {a b : OB} (h : likeOB a b) (hb : OBrel pl L S Fr w k b) : OBrel pl L S Fr w k a := by
  cases a <;> cases b <;> simp [likeOB] at h
  · trivial
  · subst h; exact hb
  · obtain ⟨rfl, rfl, rfl⟩ := h; exact hb
  · obtain ⟨rfl, rfl⟩ := h; exact hb
  · obtain ⟨rfl, rfl, rfl, rfl⟩ := h; exact hb
theorem likeOB.kind {a b : OB} (h : likeOB a b) : Av.kind a = Av.kind b := by
  cases a with
  | rows nw fl z es hl =>
    cases b with
    | rows nw' fl' z' es' hl' =>
      simp only [likeOB] at h
      obtain ⟨_, _, _, rfl⟩ := h
      cases hl <;> rfl
    | _ => exact h.elim
  | _ => cases b <;> simp [likeOB] at h <;> rfl
theorem likeOB.refl (a : OB) : likeOB a a := by cases a <;> simp [likeOB]
theorem kind_owns {ob ob' : OB} (hk : kind ob' = kind ob) {p : Pl} {b : Nat} (h : obOwns p ob' b) : obOwns p ob b := by
  cases ob with
  | rows nw fl z es hl =>
    cases ob' with
    | rows nw' fl' z' es' hl' =>
      cases hl with
      | none =>
        cases hl' with
        | none => exact h
        | some q' => simp [kind] at hk; omega
      | some q =>
        cases hl' with
        | none => simp [kind] at hk; omega
        | some q' =>
          have hk : q'.1 = q.1 := by simpa [kind] using hk
          simp only [obOwns, Option.map_some, hk] at h ⊢
          exact h
    | _ => cases hl <;> simp [kind] at hk <;> omega
  | _ =>
    cases ob' with
    | rows nw' fl' z' es' hl' => cases hl' <;> simp [kind] at hk <;> omega
    | _ => simp [kind] at hk <;> exact h
theorem owns_kind {pl pl' : Nat → Pl} {heap heap' : List OB} {i k b : Nat} {ob ob' : OB} (h1 : heap[k]? = some ob) (h2 : heap'[i]? = some ob') (hk : kind ob' = kind ob) (hp : pl' i = pl k) : owns pl' heap' i b ↔ owns pl heap k b := by
  rw [owns_iff h1, owns_iff h2, hp]
  exact ⟨kind_owns hk, kind_owns hk.symm⟩
theorem newL_eq (h : List OB) : newL h = h.map newO := by
  induction h with
  | nil => rfl
  | cons a r ih => simp [newL, ih]
theorem newFrom_get : ∀ (L : Nat) (h : List OB) (k : Nat), (newFrom L h)[k]? = if k < L then h[k]? else (h[k]?).map newO
  | 0, h, k => by simp [newFrom, newL_eq]
  | n + 1, [], k => by simp [newFrom]
  | n + 1, a :: r, 0 => by simp [newFrom]
  | n + 1, a :: r, k + 1 => by simp only [newFrom, List.getElem?_cons_succ, newFrom_get n r k, Nat.succ_lt_succ_iff]
theorem newFrom_len : ∀ (L : Nat) (h : List OB), (newFrom L h).length = h.length
  | 0, h => by simp [newFrom, newL_eq]
  | n + 1, [] => rfl
  | n + 1, a :: r => by simp [newFrom, newFrom_len n r]
theorem owns_newFrom {pl : Nat → Pl} {L : Nat} {h : List OB} {k b : Nat} : owns pl (newFrom L h) k b ↔ owns pl h k b := by
  unfold owns
  rw [newFrom_get]
  by_cases hkL : k < L
  · rw [if_pos hkL]
  · rw [if_neg hkL]
    cases h[k]? with
    | none => exact Iff.rfl
    | some ob => cases ob <;> exact Iff.rfl
theorem stab_newFrom {pl : Nat → Pl} {L : Nat} {h : List OB} {w : World} : Stab pl (newFrom L h) w = Stab pl h w :=
  funext fun b => propext ⟨fun h => ⟨h.1, fun k hk => h.2 k (owns_newFrom.2 hk)⟩, fun h => ⟨h.1, fun k hk => h.2 k (owns_newFrom.1 hk)⟩⟩
theorem nbOk_spec {heap hb : List OB} : ∀ {ids : List Nat}, nbOk heap hb ids = true → ∀ k ∈ ids, nwOf (heap.getD k .dead) = true ∨ (kind (hb.getD k .dead) = kind (heap.getD k .dead) ∧ 0 < kind (heap.getD k .dead))
  | [], _ => fun k hk => absurd hk List.not_mem_nil
  | a :: r, h => by
    simp only [nbOk, Bool.and_eq_true, Bool.or_eq_true] at h
    intro k hk
    rcases List.mem_cons.1 hk with rfl | hk
    · rcases h.1 with h1 | ⟨h1, h2⟩
      · exact .inl h1
      · exact .inr ⟨Nat.eq_of_beq_eq_true h1, by simpa using h2⟩
    · exact nbOk_spec h.2 k hk
theorem ConcP.newFrom {N m : Nat} {F A : Nat → Prop} {w0 : World} {env : Nat → AV} {h : List OB} {pl : Nat → Pl} {a : Act} {w : World} (hC : ConcP N m F A w0 ⟨env, h⟩ pl a w) (L : Nat) (hn : ∀ k b, L ≤ k → owns pl h k b → w0.heap.size ≤ b) : ConcP N m F A w0 ⟨env, Av.newFrom L h⟩ pl a w := by
  have eS : Sany A w0.heap.size pl (Av.newFrom L h) w = Sany A w0.heap.size pl h w := by unfold Sany; rw [stab_newFrom]
  have eF : Fresh w0.heap.size pl (Av.newFrom L h) w = Fresh w0.heap.size pl h w := by unfold Fresh; rw [stab_newFrom]
  refine { defers := hC.defers, size := hC.size, os := hC.os, tape := hC.tape, output := hC.output, hsize := hC.hsize, frame := hC.frame, ownlt := fun k b hk => hC.ownlt k b (owns_newFrom.1 hk), ownF := fun k b hk => hC.ownF k b (owns_newFrom.1 hk), newb := fun k b hi hk => ?_, disj := fun k k' b h1 h2 => hC.disj k k' b (owns_newFrom.1 h1) (owns_newFrom.1 h2), heap := fun k ob hk => ?_, env := fun s => ?_ }
  · by_cases hkL : k < L
    · refine hC.newb k b ?_ (owns_newFrom.1 hk)
      unfold isnew at hi ⊢
      have e : (Av.newFrom L h)[k]? = h[k]? := by rw [newFrom_get, if_pos hkL]
      simp only [e] at hi
      exact hi
    · exact hn k b (by omega) (owns_newFrom.1 hk)
  · show OBrel pl (Av.newFrom L h).length (Sany A w0.heap.size pl (Av.newFrom L h) w) (Fresh w0.heap.size pl (Av.newFrom L h) w) w k ob
    rw [eS, eF, newFrom_len]
    have hk : (Av.newFrom L h)[k]? = some ob := hk
    rw [newFrom_get] at hk
    split at hk
    · exact hC.heap k ob hk
    · cases hg : h[k]? with
      | none => rw [hg] at hk; cases hk
      | some o =>
        rw [hg] at hk
        cases hk
        have := hC.heap k o hg
        cases o <;> exact this
  · show RelA pl (Av.newFrom L h).length (Sany A w0.heap.size pl (Av.newFrom L h) w) (Fresh w0.heap.size pl (Av.newFrom L h) w) w (env s) _
    rw [eS, eF, newFrom_len]
    exact hC.env s
set_option maxHeartbeats 1000000 in
theorem callW_sound {P : Program} [Kn P] {N m : Nat} {F A : Nat → Prop} {w0 : World} {st : St} {pl : Nat → Pl} {a : Act} {w : World} (hC : ConcP N m F A w0 st pl a w) (hF : HF P F A w0) {f : FuncId} {vs : List AV} {K : AV → List OB → Prop}
    (h : CallW P st f vs K) {us : Array Value} (hl : us.size = vs.length)
    (hus : ∀ (j : Nat) (v : AV) (u : Value), vs[j]? = some v → us[j]? = some u → RelA pl st.heap.length (Sany A w0.heap.size pl st.heap w) (Fresh w0.heap.size pl st.heap w) w v u) :
    Calls P f us w fun e w' => ∃ v rv heap' pl', e = .returned v ∧ K rv heap' ∧ (∀ k, k < st.heap.length → k < heap'.length ∧ pl' k = pl k) ∧ ConcP N m F A w0 ⟨st.env, heap'⟩ pl' a w' ∧
      RelA pl' heap'.length (Sany A w0.heap.size pl' heap' w') (Fresh w0.heap.size pl' heap' w') w' rv v := by
  obtain ⟨ids, lend, nb, hnd, hlt, h⟩ := h
  have hSe := hC.seen
  obtain ⟨args, h, hla, hra⟩ := seqW_sound (r := fun v v' => ∀ (L' : Nat) (Sc Frc : Nat → Prop), ids.length ≤ L' → Hand pl st.heap A w0.heap.size w ids lend Sc → ∀ u, RelA pl st.heap.length (Sany A w0.heap.size pl st.heap w) (Fresh w0.heap.size pl st.heap w) w v u → RelA (renPl ids pl) L' Sc Frc w v' u)
      (fun v K h => convW_sound hSe h) h
  obtain ⟨hin, ⟨R, hsem, hback⟩, hlh, hrh⟩ := seqW_sound (r := fun ob ob' => kind ob' = kind ob ∧ kind ob ≠ 0 ∧ (nwOf ob' = false) ∧ ∀ (i k : Nat), ids[i]? = some k → OBrel pl st.heap.length (Sany A w0.heap.size pl st.heap w) (Fresh w0.heap.size pl st.heap w) w k ob →
      ∀ (L' : Nat) (Sc Frc : Nat → Prop), ids.length ≤ L' → Hand pl st.heap A w0.heap.size w ids lend Sc → OBrel (renPl ids pl) L' Sc Frc w i ob')
      (fun ob K h => let ⟨ob', h1, h2, h3, h4, h5⟩ := convOB_sound hSe h; ⟨ob', h1, h2, h3, h4, h5⟩) h
  have hlin : hin.length = ids.length := by rw [hlh, List.length_map]
  have hgetin : ∀ i k, ids[i]? = some k → ∃ ob', hin[i]? = some ob' ∧ kind ob' = kind (st.heap.getD k .dead) ∧ st.heap[k]? = some (st.heap.getD k .dead) ∧ ∀ (L' : Nat) (Sc Frc : Nat → Prop), ids.length ≤ L' → Hand pl st.heap A w0.heap.size w ids lend Sc → OBrel (renPl ids pl) L' Sc Frc w i ob' := by
    intro i k hi
    have h1 : i < hin.length := by rw [hlin]; exact (List.getElem?_eq_some_iff.1 hi).1
    have hk : st.heap[k]? = some (st.heap.getD k .dead) := getD_some (hlt k (List.mem_of_getElem? hi))
    obtain ⟨g1, g2, _, g3⟩ := hrh i (st.heap.getD k .dead) hin[i] (by simp [hi]) (List.getElem?_eq_getElem h1)
    exact ⟨_, List.getElem?_eq_getElem h1, g1, hk, g3 i k hi (hC.heap k _ hk)⟩
  have hlivein : ∀ i b, owns (renPl ids pl) hin i b → ∃ k, ids[i]? = some k ∧ owns pl st.heap k b := by
    intro i b hi
    cases hk : ids[i]? with
    | none =>
      have : hin[i]? = none := List.getElem?_eq_none (by rw [hlin]; exact List.getElem?_eq_none_iff.1 hk)
      obtain ⟨ob, h1, _⟩ := owns_out hi
      rw [this] at h1; cases h1
    | some k =>
      obtain ⟨ob', g1, g2, g3, _⟩ := hgetin i k hk
      exact ⟨k, rfl, (owns_kind g3 g1 g2 (renPl_get hk)).1 hi⟩
  have hstc : ∀ b, Stab pl st.heap w b → Stab (renPl ids pl) hin w b := by
    intro b hb
    refine ⟨hb.1, fun i hi => ?_⟩
    obtain ⟨k, hk, hl⟩ := hlivein i b hi
    exact hb.2 k hl
  have hownc : ∀ k b, owns pl st.heap k b → k ∉ ids → Stab (renPl ids pl) hin w b := by
    intro k b hk hn
    refine ⟨hC.ownlt k b hk, fun i hi => ?_⟩
    obtain ⟨k', hk', hl'⟩ := hlivein i b hi
    exact hn (hC.disj k' k b hl' hk ▸ List.mem_of_getElem? hk')
  -- what the callee takes for 'any'
  let Ac : Nat → Prop := fun b => if lend = true then Stab (renPl ids pl) hin w b else Sany A w0.heap.size pl st.heap w b
  have hAc : ∀ b, Ac b → Stab (renPl ids pl) hin w b := by
    intro b hb
    cases lend with
    | true => exact hb
    | false => exact hstc b hb.1
  have hSc : ∀ b, Ac b → Sany Ac w.heap.size (renPl ids pl) hin w b := fun b hb => ⟨hAc b hb, .inl hb⟩
  have hHand : Hand pl st.heap A w0.heap.size w ids lend (Sany Ac w.heap.size (renPl ids pl) hin w) :=
    ⟨fun hl b hb => hSc b (by simp [Ac, hl]; exact hb), fun hl b hb => hSc b (by simp [Ac, hl]; exact hstc b hb), fun hl k b hk hn => hSc _ (by simp [Ac, hl]; exact hownc k b hk hn)⟩
  have hEntry : Entry w us (renPl ids pl) Ac args hin := by
    refine ⟨fun i b hi => ?_, fun i hn => ?_, fun i j b hi hj => ?_, fun i ob hi => ?_, by rw [hl, hla], fun j v' u hv' hu => ?_⟩
    · obtain ⟨k, hk, hlk⟩ := hlivein i b hi
      exact hC.ownlt k b hlk
    · cases hx : hin[i]? with
      | none => simp [isnew, hx] at hn
      | some ob =>
        have hi : i < ids.length := by rw [← hlin]; exact (List.getElem?_eq_some_iff.1 hx).1
        obtain ⟨_, _, hno, _⟩ := hrh i (st.heap.getD ids[i] .dead) ob (by simp [List.getElem?_eq_getElem hi]) hx
        unfold isnew at hn
        rw [hx] at hn
        cases ob with
        | dead => exact hn
        | fix c => have : hin.length ≤ i := hn; omega
        | row nw fl z es => have h1 : nw = true := hn; have h2 : nw = false := hno; rw [h1] at h2; cases h2
        | mp nw ks f => have h1 : nw = true := hn; have h2 : nw = false := hno; rw [h1] at h2; cases h2
        | rows nw fl z es hl => have h1 : nw = true := hn; have h2 : nw = false := hno; rw [h1] at h2; cases h2
    · obtain ⟨k, hk, hlk⟩ := hlivein i b hi
      obtain ⟨k', hk', hlk'⟩ := hlivein j b hj
      have := hC.disj k k' b hlk hlk'
      subst this
      exact nodup_get hnd hk hk'
    · have h1 : i < ids.length := by rw [← hlin]; exact (List.getElem?_eq_some_iff.1 hi).1
      obtain ⟨ob', g1, _, _, g4⟩ := hgetin i _ (List.getElem?_eq_getElem h1)
      rw [hi] at g1
      cases g1
      exact g4 _ _ _ (by omega) hHand
    · have h1 : j < vs.length := by rw [← hla]; exact (List.getElem?_eq_some_iff.1 hv').1
      exact hra j _ v' (List.getElem?_eq_getElem h1) hv' _ _ _ (by omega) hHand u (hus j _ u (List.getElem?_eq_getElem h1) hu)
  have hKn : Kn.K P w Ac := by
    refine Kn.keep hF.kn (fun b hb => ?_) (fun b hb => hC.frame b (hF.sub b hb)) hC.hsize
    have h1 : Sany A w0.heap.size pl st.heap w b := ⟨⟨Nat.lt_of_lt_of_le (hF.lt b (hF.sub b hb)) hC.hsize, fun k hk => hC.ownF k b hk (hF.sub b hb)⟩, .inl hb⟩
    show if lend = true then _ else _
    split
    · exact hstc b h1.1
    · exact h1
  refine (hsem.2 w us (renPl ids pl) Ac hAc hKn hEntry).mono ?_
  rintro e w' ⟨v, rs, hout, plc', rfl, hR, hB⟩
  have hlen : ids.length ≤ hout.length := by rw [← hlin]; exact hB.len
  let L := st.heap.length
  let plN : Nat → Pl := fun k => if k < L then pl k else plc' (ids.length + (k - L))
  have hplN1 : ∀ k, k < L → plN k = pl k := fun k hk => by simp [plN, hk]
  have hplN2 : ∀ j, plN (L + j) = plc' (ids.length + j) := fun j => by
    show (if L + j < L then pl (L + j) else plc' (ids.length + (L + j - L))) = _
    rw [if_neg (Nat.not_lt.2 (Nat.le_add_right L j)), Nat.add_sub_cancel_left]
  have hiogo : ∀ i k, ids[i]? = some k → plc' i = pl k := fun i k hi => by
    rw [hB.io i (by rw [hlin]; exact (List.getElem?_eq_some_iff.1 hi).1), renPl_get hi]
  have hlenN : (heapBack lend ids st.heap hout).length = L + (hout.length - ids.length) := by
    simp only [heapBack, List.length_append, putIds_length, List.length_map, List.length_drop]; rfl
  -- the heap behind the call
  have hget1 : ∀ k, k < L → k ∉ ids → (heapBack lend ids st.heap hout)[k]? = st.heap[k]? := fun k hk hn => by
    unfold heapBack
    rw [List.getElem?_append_left (by rw [putIds_length]; exact hk), putIds_other _ _ _ _ hn]
  have hget2 : ∀ i k, ids[i]? = some k → (heapBack lend ids st.heap hout)[k]? = some (bk (st.heap.getD k .dead) (renOB (impG ids L) (impF lend) (hout.getD i .dead))) := fun i k hi => by
    unfold heapBack
    have hk := hlt k (List.mem_of_getElem? hi)
    rw [List.getElem?_append_left (by rw [putIds_length]; exact hk), putIds_at ids 0 st.heap i k hnd hi hk]
    simp [L]
  have hget3 : ∀ j, (heapBack lend ids st.heap hout)[L + j]? = (hout[ids.length + j]?).map (renOB (impG ids L) (impF lend)) := fun j => by
    unfold heapBack
    rw [List.getElem?_append_right (by rw [putIds_length]; exact Nat.le_add_right _ _), putIds_length]
    simp [L]
  -- which block of the callee's stands at a place
  have hwhich : ∀ k ob, (heapBack lend ids st.heap hout)[k]? = some ob → (k < L ∧ k ∉ ids ∧ st.heap[k]? = some ob) ∨ ∃ i o, hout[i]? = some o ∧ (likeOB ob (renOB (impG ids L) (impF lend) o) ∨ ob = .dead) ∧ plN k = plc' i ∧ ((k < L ∧ ids[i]? = some k ∧ (ob = .dead ∨ (kind ob = kind (st.heap.getD k .dead) ∧ nwOf ob = nwOf (st.heap.getD k .dead)))) ∨ (k = L + (i - ids.length) ∧ ids.length ≤ i ∧ ob = renOB (impG ids L) (impF lend) o)) := by
    intro k ob hk
    by_cases hkL : k < L
    · by_cases hm : k ∈ ids
      · obtain ⟨i, hi⟩ := List.getElem?_of_mem hm
        right
        have hio : i < hout.length := Nat.lt_of_lt_of_le (List.getElem?_eq_some_iff.1 hi).1 hlen
        rw [hget2 i k hi] at hk
        cases hk
        rcases bk_cases (st.heap.getD k .dead) (renOB (impG ids L) (impF lend) (hout.getD i .dead)) with ⟨e1, e2, e3⟩ | e1
        · exact ⟨i, hout.getD i .dead, getD_some hio, .inl e1, by rw [hplN1 k hkL, hiogo i k hi], .inl ⟨hkL, hi, .inr ⟨e2, e3⟩⟩⟩
        · exact ⟨i, hout.getD i .dead, getD_some hio, .inr e1, by rw [hplN1 k hkL, hiogo i k hi], .inl ⟨hkL, hi, .inl e1⟩⟩
      · left; exact ⟨hkL, hm, by rw [← hget1 k hkL hm]; exact hk⟩
    · right
      obtain ⟨j, rfl⟩ : ∃ j, k = L + j := ⟨k - L, by omega⟩
      rw [hget3] at hk
      cases ho : hout[ids.length + j]? with
      | none => rw [ho] at hk; cases hk
      | some o => rw [ho] at hk; cases hk; exact ⟨ids.length + j, o, ho, .inl (likeOB.refl _), hplN2 j, .inr ⟨by omega, by omega, rfl⟩⟩
  have hliveN : ∀ k b, owns plN (heapBack lend ids st.heap hout) k b → (k < L ∧ k ∉ ids ∧ owns pl st.heap k b ∧ plN k = pl k) ∨ ∃ i, owns plc' hout i b ∧ plN k = plc' i ∧ ((k < L ∧ ids[i]? = some k ∧ owns pl st.heap k b ∧ (isnew m (heapBack lend ids st.heap hout) k → isnew m st.heap k)) ∨ (k = L + (i - ids.length) ∧ ids.length ≤ i ∧ (isnew m (heapBack lend ids st.heap hout) k → isnew ids.length hout i))) := by
    intro k b hk
    obtain ⟨ob, ho, hob⟩ := owns_out hk
    rcases hwhich k ob ho with ⟨h1, h2, h3⟩ | ⟨i, o, h1, h2, h3, h4⟩
    · left
      refine ⟨h1, h2, owns_of h3 (by rw [← hplN1 k h1]; exact hob), hplN1 k h1⟩
    · right
      have hne : ob ≠ .dead := fun e => by rw [e] at hob; exact hob
      have h2 := h2.resolve_right hne
      have hkd : kind o = kind ob := by
        rw [h2.kind]
        cases o with
        | dead => rfl
        | fix cells => rfl
        | mp nw ks f => rfl
        | row nw fl z es =>
          simp only [renOB]
          cases hf : impF lend fl with
          | none => rw [renOB, hf] at h2; exact absurd (by cases ob <;> simp [likeOB] at h2 <;> rfl) hne
          | some fl' => rfl
        | rows nw fl z es hl =>
          simp only [renOB]
          cases hl with
          | some q => exact absurd (by cases ob <;> simp [renOB, likeOB] at h2 <;> rfl) hne
          | none =>
            cases hf : impF lend fl with
            | none => simp only [renOB, hf] at h2; exact absurd (by cases ob <;> simp [likeOB] at h2 <;> rfl) hne
            | some fl' => rfl
      refine ⟨i, ?_, h3, ?_⟩
      · exact (owns_kind ho h1 hkd h3.symm).2 hk
      · rcases h4 with ⟨a1, a2, a3⟩ | ⟨a1, a2, a3⟩
        · obtain ⟨a4, a5⟩ := a3.resolve_left hne
          have hold : st.heap[k]? = some (st.heap.getD k .dead) := getD_some (hlt k (List.mem_of_getElem? a2))
          refine .inl ⟨a1, a2, (owns_kind hold ho a4 (hplN1 k a1)).1 hk, fun hn => ?_⟩
          unfold isnew at hn ⊢
          rw [ho] at hn
          rw [hold]
          cases ob with
          | dead => exact hn.elim
          | fix cells => cases hq : st.heap.getD k .dead with
            | fix c => exact hn
            | rows nw' fl' z' es' hl' => rw [hq] at a4; cases hl' <;> simp [kind] at a4 <;> omega
            | _ => rw [hq] at a4; simp [kind] at a4
          | row nw fl z es => cases hq : st.heap.getD k .dead with
            | row nw' fl' z' es' => rw [hq] at a5; exact a5.symm.trans hn
            | rows nw' fl' z' es' hl' => rw [hq] at a4; cases hl' <;> simp [kind] at a4 <;> omega
            | _ => rw [hq] at a4; simp [kind] at a4
          | mp nw ks f => cases hq : st.heap.getD k .dead with
            | mp nw' ks' f' => rw [hq] at a5; exact a5.symm.trans hn
            | rows nw' fl' z' es' hl' => rw [hq] at a4; cases hl' <;> simp [kind] at a4 <;> omega
            | _ => rw [hq] at a4; simp [kind] at a4
          | rows nw fl z es hl => cases hq : st.heap.getD k .dead with
            | rows nw' fl' z' es' hl' => rw [hq] at a5; exact a5.symm.trans hn
            | _ => rw [hq] at a4; cases hl <;> simp [kind] at a4 <;> omega
        · refine .inr ⟨a1, a2, fun hn => ?_⟩
          unfold isnew at hn ⊢
          rw [ho, a3] at hn
          rw [h1]
          cases o with
          | dead => exact hn.elim
          | fix cells => exact a2
          | mp nw ks f => exact hn
          | row nw fl z es =>
            simp only [renOB] at hn
            cases hf : impF lend fl with
            | none => rw [hf] at hn; exact hn.elim
            | some fl' => rw [hf] at hn; exact hn
          | rows nw fl z es hl =>
            simp only [renOB] at hn
            cases hl with
            | some q => exact hn.elim
            | none =>
              cases hf : impF lend fl with
              | none => simp only [hf] at hn
              | some fl' => simp only [hf] at hn; exact hn
  have hcw : ∀ b, Stab pl st.heap w b → w'.heap[b]? = w.heap[b]? := fun b hb => hB.frame b (hstc b hb)
  have hSN0 : ∀ b, Stab pl st.heap w b → Stab plN (heapBack lend ids st.heap hout) w' b := by
    intro b hb
    refine ⟨Nat.lt_of_lt_of_le hb.1 hB.size, fun k hk => ?_⟩
    rcases hliveN k b hk with ⟨_, _, h3, h4⟩ | ⟨i, h1, h2, _⟩
    · exact hb.2 k h3
    · exact (hB.own i b h1).2 (hstc b hb)
  have hSN : ∀ b, Sany A w0.heap.size pl st.heap w b → Sany A w0.heap.size plN (heapBack lend ids st.heap hout) w' b := fun b hb => ⟨hSN0 b hb.1, hb.2⟩
  have hFN : ∀ b, Fresh w0.heap.size pl st.heap w b → Fresh w0.heap.size plN (heapBack lend ids st.heap hout) w' b := fun b hb => ⟨hb.1, hSN0 b hb.2⟩
  have hnew : ∀ b, w.heap.size ≤ b → Stab plc' hout w' b → Stab plN (heapBack lend ids st.heap hout) w' b := by
    intro b hb hs
    refine ⟨hs.1, fun k hk => ?_⟩
    rcases hliveN k b hk with ⟨_, _, h3, h4⟩ | ⟨i, h1, h2, _⟩
    · have := hC.ownlt k b h3; omega
    · exact hs.2 i h1
  have hg : ∀ i k, i < hout.length → impG ids L i = some k → k < (heapBack lend ids st.heap hout).length ∧ plN k = plc' i := by
    intro i k hi hk
    unfold impG at hk
    cases hx : ids[i]? with
    | some k' =>
      rw [hx] at hk
      cases hk
      have hkL := hlt k (List.mem_of_getElem? hx)
      exact ⟨by rw [hlenN]; exact Nat.lt_of_lt_of_le hkL (Nat.le_add_right _ _), by rw [hplN1 k hkL, hiogo i k hx]⟩
    | none =>
      rw [hx] at hk
      cases hk
      have := List.getElem?_eq_none_iff.1 hx
      refine ⟨by rw [hlenN]; omega, ?_⟩
      rw [hplN2]
      congr 1
      omega
  have hfm : ∀ fl fl', impF lend fl = some fl' → ∀ b, flagS (Sany Ac w.heap.size plc' hout w') (Fresh w.heap.size plc' hout w') fl b →
      flagS (Sany A w0.heap.size plN (heapBack lend ids st.heap hout) w') (Fresh w0.heap.size plN (heapBack lend ids st.heap hout) w') fl' b ∧ w'.heap[b]? = w'.heap[b]? := by
    intro fl fl' he b hb
    refine ⟨?_, rfl⟩
    cases fl with
    | flat => exact hb.elim
    | fresh => cases he; exact ⟨Nat.le_trans hC.hsize hb.1, hnew b hb.1 hb.2⟩
    | any =>
      cases hlend : lend with
      | true => rw [hlend] at he; cases he
      | false =>
        rw [hlend] at he
        cases he
        obtain ⟨hs, h1 | h1⟩ := hb
        · have h2 : Sany A w0.heap.size pl st.heap w b := by simpa [Ac, hlend] using h1
          have := hSN b h2
          rw [hlend] at this
          exact this
        · have := hnew b h1 hs
          rw [hlend] at this
          exact ⟨this, .inr (Nat.le_trans hC.hsize h1)⟩
  have hbase : ∀ k, k < L → Pl.Base (plN k) (pl k) := fun k hk => Pl.base_eq (hplN1 k hk)
  have hmain : ConcP N m F A w0 ⟨st.env, heapBack lend ids st.heap hout⟩ plN a w' := ?_
  · have hRes := hB.res.ren hg hfm
    have hK := hback rs hout hR hlen
    have plain : K (renA (impG ids st.heap.length) (impF lend) (retAV rs)) (heapBack lend ids st.heap hout) → ∃ v' rv heap' pl', Ending.returned v = .returned v' ∧ K rv heap' ∧ (∀ k, k < st.heap.length → k < heap'.length ∧ pl' k = pl k) ∧ ConcP N m F A w0 ⟨st.env, heap'⟩ pl' a w' ∧
        RelA pl' heap'.length (Sany A w0.heap.size pl' heap' w') (Fresh w0.heap.size pl' heap' w') w' rv v' := fun hK =>
      ⟨v, _, _, plN, rfl, hK, fun k hk => ⟨by rw [hlenN]; exact Nat.lt_of_lt_of_le hk (Nat.le_add_right _ _), hplN1 k hk⟩, hmain, hRes⟩
    unfold heapBackN at hK
    cases hnb : nb && nbOk st.heap (heapBack lend ids st.heap hout) ids with
    | false => rw [hnb] at hK; exact plain hK
    | true =>
      rw [hnb] at hK
      simp only [cond_true] at hK
      have hok := nbOk_spec (by simp only [Bool.and_eq_true] at hnb; exact hnb.2)
      refine ⟨v, _, _, plN, rfl, hK, fun k hk => ⟨by rw [newFrom_len, hlenN]; exact Nat.lt_of_lt_of_le hk (Nat.le_add_right _ _), hplN1 k hk⟩, hmain.newFrom _ fun k b hkL hk => ?_, ?_⟩
      · rcases hliveN k b hk with ⟨h1, _⟩ | ⟨i, h1, h2, ⟨h3, _⟩ | ⟨h3, h4, h5⟩⟩
        · exact absurd h1 (Nat.not_lt.2 hkL)
        · exact absurd h3 (Nat.not_lt.2 hkL)
        · have hst := (hB.own i b h1).2
          apply Nat.le_of_not_lt
          intro hlt0
          refine hst ⟨Nat.lt_of_lt_of_le hlt0 hC.hsize, fun j hj => ?_⟩
          obtain ⟨k', hk', hl'⟩ := hlivein j b hj
          have hmem := List.mem_of_getElem? hk'
          have hkk := hlt k' hmem
          have hold : st.heap[k']? = some (st.heap.getD k' .dead) := getD_some hkk
          rcases hok k' hmem with h6 | ⟨h6, h7⟩
          · refine Nat.not_le.2 hlt0 (hC.newb k' b ?_ hl')
            unfold isnew
            rw [hold]
            cases hq : st.heap.getD k' .dead with
            | row nw fl z es => rw [hq] at h6; exact h6
            | mp nw ks f => rw [hq] at h6; exact h6
            | rows nw fl z es ho => rw [hq] at h6; exact h6
            | dead => rw [hq] at h6; cases h6
            | fix cells => rw [hq] at h6; cases h6
          · have hlt' : k' < (heapBack lend ids st.heap hout).length := by rw [hlenN]; exact Nat.lt_of_lt_of_le hkk (Nat.le_add_right _ _)
            have := hmain.disj k k' b hk ((owns_kind hold (getD_some hlt') h6 (hplN1 k' hkk)).2 hl')
            omega
      · have eS : Sany A w0.heap.size plN (newFrom st.heap.length (heapBack lend ids st.heap hout)) w' = Sany A w0.heap.size plN (heapBack lend ids st.heap hout) w' := by unfold Sany; rw [stab_newFrom]
        have eF : Fresh w0.heap.size plN (newFrom st.heap.length (heapBack lend ids st.heap hout)) w' = Fresh w0.heap.size plN (heapBack lend ids st.heap hout) w' := by unfold Fresh; rw [stab_newFrom]
        rw [eS, eF, newFrom_len]
        exact hRes
  refine { defers := hC.defers, size := hC.size, os := hB.os.trans hC.os, tape := hB.tape.trans hC.tape, output := hB.output.trans hC.output, hsize := Nat.le_trans hC.hsize hB.size, frame := fun b hb => ?_, ownlt := fun k b hk => ?_, ownF := fun k b hk => ?_, newb := fun k b hmk hk => ?_, disj := fun k k' b hk hk' => ?_, heap := fun k ob hk => ?_, env := fun s => (hC.env s).mono (by rw [hlenN]; exact Nat.le_add_right _ _) hbase hSN hFN (fun b hb => hcw b hb.1) (fun b hb => hcw b hb.2) }
  · refine (hcw b ⟨Nat.lt_of_lt_of_le (hF b hb) hC.hsize, fun k hk => hC.ownF k b hk hb⟩).trans (hC.frame b hb)
  · rcases hliveN k b hk with ⟨_, _, h3, h4⟩ | ⟨i, h1, h2, _⟩
    · exact Nat.lt_of_lt_of_le (hC.ownlt k b h3) hB.size
    · exact (hB.own i b h1).1
  · rcases hliveN k b hk with ⟨_, _, h3, h4⟩ | ⟨i, h1, h2, _⟩
    · exact hC.ownF k b h3
    · intro hb
      exact (hB.own i b h1).2 (hstc _ ⟨Nat.lt_of_lt_of_le (hF _ hb) hC.hsize, fun k hk => hC.ownF k b hk hb⟩)
  · rcases hliveN k b hk with ⟨h0, h0', h3, h4⟩ | ⟨i, h1, h2, ⟨h3, h4, h5, h6⟩ | ⟨h3, h4, h5⟩⟩
    · refine hC.newb k b ?_ h3
      unfold isnew at hmk ⊢
      rwa [hget1 k h0 h0'] at hmk
    · exact hC.newb k b (h6 hmk) h5
    · have := hB.newb i b (by rw [hlin]; exact h5 hmk) h1
      exact Nat.le_trans hC.hsize this
  · rcases hliveN k b hk with ⟨_, g2, g3, g4⟩ | ⟨i, g1, g2, g3⟩
    · rcases hliveN k' b hk' with ⟨_, _, q3, q4⟩ | ⟨i', q1, q2, _⟩
      · exact hC.disj k k' b g3 q3
      · exact absurd (hownc k b g3 g2) (hB.own i' b q1).2
    · rcases hliveN k' b hk' with ⟨_, q2, q3, q4⟩ | ⟨i', q1, q2, q3⟩
      · exact absurd (hownc k' b q3 q2) (hB.own i b g1).2
      · have e := hB.disj i i' b g1 q1
        subst e
        rcases g3 with ⟨a1, a2, _⟩ | ⟨a1, a2, _⟩ <;> rcases q3 with ⟨b1, b2, _⟩ | ⟨b1, b2, _⟩
        · rw [a2] at b2; exact Option.some.inj b2
        · have := (List.getElem?_eq_some_iff.1 a2).1; omega
        · have := (List.getElem?_eq_some_iff.1 b2).1; omega
        · omega
  · rcases hwhich k ob hk with ⟨h1, h2, h3⟩ | ⟨i, o, h1, h2, h3, h4⟩
    · exact (hC.heap k ob h3).mono (by rw [hlenN]; exact Nat.le_add_right _ _) hbase hSN hFN (fun b hb => hcw b hb.1) (fun b hb => hcw b hb.2) (hplN1 k h1) fun b hb => hB.frame _ (hownc k b (owns_of h3 hb) h2)
    · rcases h2 with h2 | rfl
      · exact h2.rel ((hB.heap i o h1).ren hg hfm h3 (fun _ _ => rfl))
      · trivial
end Go.Av
namespace Go.Av
open Go.RowKit
def plAt (pl : Nat → Pl) (L : Nat) (pn : Pl) : Nat → Pl := fun k => if k = L then pn else pl k
theorem plAt_lt {pl : Nat → Pl} {L : Nat} {pn : Pl} {k : Nat} (h : k < L) : plAt pl L pn k = pl k := by simp [plAt, Nat.ne_of_lt h]
theorem plAt_eq {pl : Nat → Pl} {L : Nat} {pn : Pl} : plAt pl L pn L = pn := by simp [plAt]
theorem owns_push {pl : Nat → Pl} {heap : List OB} {pn : Pl} {ob : OB} {k b : Nat} (h : owns (plAt pl heap.length pn) (heap ++ [ob]) k b) : (k < heap.length ∧ owns pl heap k b) ∨ (k = heap.length ∧ obOwns pn ob b) := by
  obtain ⟨o, h1, h2⟩ := owns_out h
  rcases Nat.lt_trichotomy k heap.length with hk | hk | hk
  · left
    rw [List.getElem?_append_left hk] at h1
    rw [plAt_lt hk] at h2
    exact ⟨hk, owns_of h1 h2⟩
  · right
    subst hk
    rw [List.getElem?_append_right (Nat.le_refl _)] at h1
    rw [plAt_eq] at h2
    simp at h1
    subst h1
    exact ⟨rfl, h2⟩
  · rw [List.getElem?_eq_none (by simp; omega)] at h1
    cases h1
section
variable {N m : Nat} {F A : Nat → Prop} {w0 : World} {st : St} {pl : Nat → Pl} {a : Act} {w : World}
structure Newer (A : Nat → Prop) (B : Nat) (pl : Nat → Pl) (heap : List OB) (w : World) (pl' : Nat → Pl) (heap' : List OB) (w' : World) : Prop where
  S : ∀ b, Sany A B pl heap w b → Sany A B pl' heap' w' b
  Fr : ∀ b, Fresh B pl heap w b → Fresh B pl' heap' w' b
  same : ∀ b, Stab pl heap w b → w'.heap[b]? = w.heap[b]?
  len : heap.length ≤ heap'.length
  pl : ∀ k, k < heap.length → Pl.Base (pl' k) (pl k)
theorem Newer.relA {B : Nat} {pl pl' : Nat → Pl} {heap heap' : List OB} {w w' : World} (h : Newer A B pl heap w pl' heap' w') {v : AV} {u : Value} (hv : RelA pl heap.length (Sany A B pl heap w) (Fresh B pl heap w) w v u) :
    RelA pl' heap'.length (Sany A B pl' heap' w') (Fresh B pl' heap' w') w' v u :=
  hv.mono h.len h.pl h.S h.Fr (fun b hb => h.same b hb.1) (fun b hb => h.same b hb.2)
theorem Newer.rel {B : Nat} {pl pl' : Nat → Pl} {heap heap' : List OB} {w w' : World} (h : Newer A B pl heap w pl' heap' w') {fl : Fl} {v : PV} {u : Value} (hv : Rel (flagS (Sany A B pl heap w) (Fresh B pl heap w) fl) w v u) :
    Rel (flagS (Sany A B pl' heap' w') (Fresh B pl' heap' w') fl) w' v u :=
  hv.mono (flagS_mono h.S h.Fr fl) (flagS_same (fun b hb => h.same b hb.1) (fun b hb => h.same b hb.2) fl)
theorem Newer.mk' {B : Nat} {pl pl' : Nat → Pl} {heap heap' : List OB} {w w' : World} (hs : ∀ b, Stab pl heap w b → Stab pl' heap' w' b ∧ w'.heap[b]? = w.heap[b]?) (hl : heap.length ≤ heap'.length) (hp : ∀ k, k < heap.length → Pl.Base (pl' k) (pl k)) : Newer A B pl heap w pl' heap' w' :=
  ⟨fun b hb => ⟨(hs b hb.1).1, hb.2⟩, fun b hb => ⟨hb.1, (hs b hb.2).1⟩, fun b hb => (hs b hb).2, hl, hp⟩
theorem ConcP.newOb (h : ConcP N m F A w0 st pl a w) (hF : ∀ b, F b → b < w0.heap.size) {w' : World} (hx : Ext w w') (pn : Pl) (ob : OB) (hpn : ∀ b, obOwns pn ob b → w.heap.size ≤ b ∧ b < w'.heap.size) :
    Newer A w0.heap.size pl st.heap w (plAt pl st.heap.length pn) (st.heap ++ [ob]) w' ∧
    (OBrel (plAt pl st.heap.length pn) (st.heap ++ [ob]).length (Sany A w0.heap.size (plAt pl st.heap.length pn) (st.heap ++ [ob]) w') (Fresh w0.heap.size (plAt pl st.heap.length pn) (st.heap ++ [ob]) w') w' st.heap.length ob →
      ConcP N m F A w0 ⟨st.env, st.heap ++ [ob]⟩ (plAt pl st.heap.length pn) a w') := by
  have hold : ∀ b, b < w.heap.size → w'.heap[b]? = w.heap[b]? := fun b hb => hx.block b hb
  have hN : Newer A w0.heap.size pl st.heap w (plAt pl st.heap.length pn) (st.heap ++ [ob]) w' := by
    refine Newer.mk' (fun b hb => ⟨⟨Nat.lt_of_lt_of_le hb.1 hx.size, fun k hk => ?_⟩, hold b hb.1⟩) (by simp) (fun k hk => Pl.base_eq (plAt_lt hk))
    rcases owns_push hk with ⟨h1, h2⟩ | ⟨h1, h2⟩
    · exact hb.2 k h2
    · have := (hpn b h2).1; have := hb.1; omega
  refine ⟨hN, fun hob => ?_⟩
  refine { defers := h.defers, size := h.size, os := hx.os.trans h.os, tape := hx.tape.trans h.tape, output := hx.output.trans h.output, hsize := Nat.le_trans h.hsize hx.size, frame := fun b hb => ?_, ownlt := fun k b hk => ?_, ownF := fun k b hk => ?_, newb := fun k b hmk hk => ?_, disj := fun k k' b hk hk' => ?_, heap := fun k ob' hk => ?_, env := fun s => hN.relA (h.env s) }
  · have h1 := hF b hb
    have h2 := h.hsize
    exact (hold b (by omega)).trans (h.frame b hb)
  · rcases owns_push hk with ⟨h1, h2⟩ | ⟨h1, h2⟩
    · exact Nat.lt_of_lt_of_le (h.ownlt k b h2) hx.size
    · exact (hpn b h2).2
  · rcases owns_push hk with ⟨h1, h2⟩ | ⟨h1, h2⟩
    · exact h.ownF k b h2
    · intro hb; have := hF _ hb; have := h.hsize; have := (hpn b h2).1; omega
  · rcases owns_push hk with ⟨h1, h2⟩ | ⟨h1, h2⟩
    · refine h.newb k b ?_ h2
      unfold isnew at hmk ⊢
      simp only at hmk
      rwa [List.getElem?_append_left h1] at hmk
    · exact Nat.le_trans h.hsize (hpn b h2).1
  · rcases owns_push hk with ⟨h1, h2⟩ | ⟨h1, h2⟩ <;> rcases owns_push hk' with ⟨h1', h2'⟩ | ⟨h1', h2'⟩
    · exact h.disj k k' b h2 h2'
    · have := h.ownlt k b h2; have := (hpn b h2').1; omega
    · have := h.ownlt k' b h2'; have := (hpn b h2).1; omega
    · omega
  · rcases Nat.lt_trichotomy k st.heap.length with hkl | hkl | hkl
    · have hk0 : st.heap[k]? = some ob' := by
        have := hk; simp only at this; rwa [List.getElem?_append_left hkl] at this
      exact (h.heap k ob' hk0).mono hN.len hN.pl hN.S hN.Fr (fun b hb => hN.same b hb.1) (fun b hb => hN.same b hb.2) (plAt_lt hkl) fun b hb => hold _ (h.ownlt k b (owns_of hk0 hb))
    · subst hkl
      have : ob' = ob := by
        have := hk; simp only at this; rw [List.getElem?_append_right (Nat.le_refl _)] at this; simpa using this.symm
      subst this
      exact hob
    · have := hk; simp only at this; rw [List.getElem?_eq_none (by simp; omega)] at this; cases this
theorem Ext.alloc (w : World) (o : Obj) : Ext w (w.alloc o) := ⟨rfl, rfl, rfl, by simp, fun b hb => Below.heap_alloc w _ b hb⟩
theorem ConcP.newObj (h : ConcP N m F A w0 st pl a w) (hF : ∀ b, F b → b < w0.heap.size) (pn : Pl) (o : Obj) (ob : OB) (hpn : ∀ b, obOwns pn ob b → b = w.heap.size) :
    Newer A w0.heap.size pl st.heap w (plAt pl st.heap.length pn) (st.heap ++ [ob]) (w.alloc o) ∧
    (OBrel (plAt pl st.heap.length pn) (st.heap ++ [ob]).length (Sany A w0.heap.size (plAt pl st.heap.length pn) (st.heap ++ [ob]) (w.alloc o)) (Fresh w0.heap.size (plAt pl st.heap.length pn) (st.heap ++ [ob]) (w.alloc o)) (w.alloc o) st.heap.length ob →
      ConcP N m F A w0 ⟨st.env, st.heap ++ [ob]⟩ (plAt pl st.heap.length pn) a (w.alloc o)) :=
  h.newOb hF (Ext.alloc w o) pn ob fun b hb => by rw [hpn b hb]; simp
theorem ConcP.newBlk (h : ConcP N m F A w0 st pl a w) (hF : ∀ b, F b → b < w0.heap.size) (pn : Pl) (arr : Array Value) (ty : TypeId) (ob : OB) (hpn : ∀ b, obOwns pn ob b → b = w.heap.size) :
    Newer A w0.heap.size pl st.heap w (plAt pl st.heap.length pn) (st.heap ++ [ob]) (w.alloc (.cells arr ty)) ∧
    (OBrel (plAt pl st.heap.length pn) (st.heap ++ [ob]).length (Sany A w0.heap.size (plAt pl st.heap.length pn) (st.heap ++ [ob]) (w.alloc (.cells arr ty))) (Fresh w0.heap.size (plAt pl st.heap.length pn) (st.heap ++ [ob]) (w.alloc (.cells arr ty))) (w.alloc (.cells arr ty)) st.heap.length ob →
      ConcP N m F A w0 ⟨st.env, st.heap ++ [ob]⟩ (plAt pl st.heap.length pn) a (w.alloc (.cells arr ty))) :=
  h.newObj hF pn (.cells arr ty) ob hpn
theorem ConcP.newNil (h : ConcP N m F A w0 st pl a w) (hF : ∀ b, F b → b < w0.heap.size) (nw : Bool) (fl : Fl) (z : List PV) (hz : 0 < z.length) :
    Newer A w0.heap.size pl st.heap w (plAt pl st.heap.length (mkPl 0 0 0 z.length)) (st.heap ++ [.row nw fl z []]) w ∧
    ConcP N m F A w0 ⟨st.env, st.heap ++ [.row nw fl z []]⟩ (plAt pl st.heap.length (mkPl 0 0 0 z.length)) a w := by
  obtain ⟨hN, hmk⟩ := h.newOb hF (Ext.refl w) (mkPl 0 0 0 z.length) (.row nw fl z []) fun b hb => absurd hb.1 (Nat.lt_irrefl 0)
  refine ⟨hN, hmk ?_⟩
  show RowRel _ _ (plAt pl st.heap.length (mkPl 0 0 0 z.length) st.heap.length).toPl0 z []
  rw [plAt_eq]
  exact ⟨rfl, hz, Nat.zero_le _, Nat.zero_le _, fun i e he => by simp at he, fun hc => absurd hc (by simp)⟩
theorem ConcP.kill (h : ConcP N m F A w0 st pl a w) (k : Nat) : Newer A w0.heap.size pl st.heap w pl (st.heap.set k .dead) w ∧ ConcP N m F A w0 ⟨st.env, st.heap.set k .dead⟩ pl a w := by
  have hl : ∀ {k' b}, owns pl (st.heap.set k .dead) k' b → k' ≠ k ∧ owns pl st.heap k' b := by
    intro k' b hk'
    obtain ⟨ob, h1, h2⟩ := owns_out hk'
    by_cases hk : k' = k
    · subst hk
      exfalso
      rcases Nat.lt_or_ge k' st.heap.length with h3 | h3
      · rw [List.getElem?_set_self h3] at h1; cases h1; exact h2
      · rw [List.getElem?_eq_none (by simpa using h3)] at h1; cases h1
    · refine ⟨hk, ?_⟩
      rw [List.getElem?_set_ne (Ne.symm hk)] at h1
      exact owns_of h1 h2
  have hN : Newer A w0.heap.size pl st.heap w pl (st.heap.set k .dead) w :=
    Newer.mk' (fun b hb => ⟨⟨hb.1, fun k' hk' => hb.2 k' (hl hk').2⟩, rfl⟩) (by simp) (fun _ _ => rfl)
  refine ⟨hN, { defers := h.defers, size := h.size, os := h.os, tape := h.tape, output := h.output, hsize := h.hsize, frame := h.frame, ownlt := fun k' b hk' => h.ownlt k' b (hl hk').2, ownF := fun k' b hk' => h.ownF k' b (hl hk').2, newb := fun k' b hm hk' => h.newb k' b (by unfold isnew at hm ⊢; simp only at hm; rwa [List.getElem?_set_ne (Ne.symm (hl hk').1)] at hm) (hl hk').2, disj := fun k1 k2 b h1 h2 => h.disj k1 k2 b (hl h1).2 (hl h2).2, heap := fun k' ob hk' => ?_, env := fun s => hN.relA (h.env s) }⟩
  by_cases hk : k' = k
  · subst hk
    have := hk'
    simp only at this
    rw [List.getElem?_set_self (by have := (List.getElem?_eq_some_iff.1 this).1; simpa using this)] at this
    cases this
    trivial
  · have h1 : st.heap[k']? = some ob := by
      have := hk'; simp only at this; rwa [List.getElem?_set_ne (Ne.symm hk)] at this
    exact (h.heap k' ob h1).mono hN.len hN.pl hN.S hN.Fr (fun b hb => hN.same b hb.1) (fun b hb => hN.same b hb.2) rfl (fun _ _ => rfl)
theorem ConcP.moveG (h : ConcP N m F A w0 st pl a w) {k : Nat} {ob ob' : OB} (hk : st.heap[k]? = some ob) (hnw : isnew m st.heap k ∨ nwOf ob' = false ∧ kind ob' ≠ 1) {w' : World} (hos : w'.os = w.os) (htp : w'.tape = w.tape) (hout : w'.output = w.output)
    (hsz : w'.heap.size = w.heap.size) (hoth : ∀ b, ¬ obOwns (pl k) ob b → w'.heap[b]? = w.heap[b]?) (pn : Pl) (hpn : ∀ b, obOwns pn ob' b → obOwns (pl k) ob b) :
    Newer A w0.heap.size pl st.heap w (plAt pl st.heap.length pn) (st.heap.set k OB.dead ++ [ob']) w' ∧
    (OBrel (plAt pl st.heap.length pn) (st.heap.set k OB.dead ++ [ob']).length (Sany A w0.heap.size (plAt pl st.heap.length pn) (st.heap.set k OB.dead ++ [ob']) w') (Fresh w0.heap.size (plAt pl st.heap.length pn) (st.heap.set k OB.dead ++ [ob']) w') w' st.heap.length ob' →
      ConcP N m F A w0 ⟨st.env, st.heap.set k .dead ++ [ob']⟩ (plAt pl st.heap.length pn) a w') := by
  have hkl := (List.getElem?_eq_some_iff.1 hk).1
  have hset : (st.heap.set k .dead).length = st.heap.length := by simp
  have hl : ∀ k' b, owns (plAt pl st.heap.length pn) (st.heap.set k OB.dead ++ [ob']) k' b → (k' < st.heap.length ∧ k' ≠ k ∧ owns pl st.heap k' b ∧ plAt pl st.heap.length pn k' = pl k') ∨ (k' = st.heap.length ∧ owns pl st.heap k b) := by
    intro k' b hk'
    obtain ⟨o, h1, h2⟩ := owns_out hk'
    rcases Nat.lt_trichotomy k' st.heap.length with hlt | heq | hgt
    · left
      rw [List.getElem?_append_left (by rw [hset]; exact hlt)] at h1
      have hne : k' ≠ k := by
        rintro rfl
        rw [List.getElem?_set_self hlt] at h1
        cases h1
        exact h2
      rw [List.getElem?_set_ne (Ne.symm hne)] at h1
      rw [plAt_lt hlt] at h2
      exact ⟨hlt, hne, owns_of h1 h2, plAt_lt hlt⟩
    · right
      subst heq
      rw [List.getElem?_append_right (by rw [hset]; exact Nat.le_refl _), hset] at h1
      simp at h1
      subst h1
      rw [plAt_eq] at h2
      exact ⟨rfl, owns_of hk (hpn b h2)⟩
    · rw [List.getElem?_eq_none (by simp; omega)] at h1
      cases h1
  have hnot : ∀ k' b, k' ≠ k → owns pl st.heap k' b → ¬ obOwns (pl k) ob b := fun k' b hne h1 h2 => hne (h.disj k' k b h1 (owns_of hk h2))
  have hN : Newer A w0.heap.size pl st.heap w (plAt pl st.heap.length pn) (st.heap.set k OB.dead ++ [ob']) w' := by
    refine Newer.mk' (fun b hb => ⟨⟨by rw [hsz]; exact hb.1, fun k' hk' => ?_⟩, hoth b (fun e => hb.2 k (owns_of hk e))⟩) (by simp) (fun k' hk' => Pl.base_eq (plAt_lt hk'))
    rcases hl k' b hk' with ⟨_, _, h3, h4⟩ | ⟨_, h4⟩
    · exact hb.2 k' h3
    · exact hb.2 k h4
  refine ⟨hN, fun hob => { defers := h.defers, size := h.size, os := hos.trans h.os, tape := htp.trans h.tape, output := hout.trans h.output, hsize := by rw [hsz]; exact h.hsize, frame := fun b hb => (hoth b (fun e => h.ownF k b (owns_of hk e) hb)).trans (h.frame b hb), ownlt := fun k' b hk' => ?_, ownF := fun k' b hk' => ?_, newb := fun k' b hn hk' => ?_, disj := fun k1 k2 b h1 h2 => ?_, heap := fun k' ob1 hk' => ?_, env := fun s => hN.relA (h.env s) }⟩
  · rw [hsz]
    rcases hl k' b hk' with ⟨_, _, h3, h4⟩ | ⟨_, h4⟩
    · exact h.ownlt k' b h3
    · exact h.ownlt k b h4
  · rcases hl k' b hk' with ⟨_, _, h3, h4⟩ | ⟨_, h4⟩
    · exact h.ownF k' b h3
    · exact h.ownF k b h4
  · rcases hl k' b hk' with ⟨h1, h2, h3, h4⟩ | ⟨h1, h4⟩
    · refine h.newb k' b ?_ h3
      unfold isnew at hn ⊢
      simp only at hn
      rwa [List.getElem?_append_left (by rw [hset]; exact h1), List.getElem?_set_ne (Ne.symm h2)] at hn
    · rcases hnw with hnw | ⟨hnw, hk1⟩
      · exact h.newb k b hnw h4
      · exfalso
        unfold isnew at hn
        simp only at hn
        rw [h1, List.getElem?_append_right (by rw [hset]; exact Nat.le_refl _), hset] at hn
        simp only [Nat.sub_self, List.getElem?_cons_zero] at hn
        cases ob' with
        | dead => exact hn
        | fix c => exact hk1 rfl
        | row nw fl z es => rw [show nw = true from hn] at hnw; cases hnw
        | mp nw ks f => rw [show nw = true from hn] at hnw; cases hnw
        | rows nw fl z es hl => rw [show nw = true from hn] at hnw; cases hnw
  · rcases hl k1 b h1 with ⟨a1, a2, a3, a4⟩ | ⟨a1, a4⟩ <;> rcases hl k2 b h2 with ⟨b1, b2, b3, b4⟩ | ⟨b1, b4⟩
    · exact h.disj k1 k2 b a3 b3
    · exact absurd (h.disj k1 k b a3 b4) a2
    · exact absurd (h.disj k2 k b b3 a4) b2
    · omega
  · rcases Nat.lt_trichotomy k' st.heap.length with hlt | heq | hgt
    · have h1 := hk'
      simp only at h1
      rw [List.getElem?_append_left (by rw [hset]; exact hlt)] at h1
      by_cases hkk : k' = k
      · subst hkk
        rw [List.getElem?_set_self hlt] at h1
        cases h1
        trivial
      · rw [List.getElem?_set_ne (Ne.symm hkk)] at h1
        exact (h.heap k' ob1 h1).mono hN.len hN.pl hN.S hN.Fr (fun b hb => hN.same b hb.1) (fun b hb => hN.same b hb.2) (plAt_lt hlt) fun b hb => hoth b (hnot k' b hkk (owns_of h1 hb))
    · subst heq
      have h1 := hk'
      simp only at h1
      rw [List.getElem?_append_right (by rw [hset]; exact Nat.le_refl _), hset] at h1
      simp at h1
      subst h1
      exact hob
    · have h1 := hk'
      simp only at h1
      rw [List.getElem?_eq_none (by simp; omega)] at h1
      cases h1
theorem ConcP.move (h : ConcP N m F A w0 st pl a w) {k : Nat} {nw : Bool} {fl fl' : Fl} {z z' : List PV} {es es' : List (List PV)} (hk : st.heap[k]? = some (.row nw fl z es)) (hcap : 0 < (pl k).cap) {w' : World} (hos : w'.os = w.os) (htp : w'.tape = w.tape) (hout : w'.output = w.output)
    (hsz : w'.heap.size = w.heap.size) (hoth : ∀ b, b ≠ (pl k).blk → w'.heap[b]? = w.heap[b]?) (pn : Pl) (hpn : pn.blk = (pl k).blk) :
    Newer A w0.heap.size pl st.heap w (plAt pl st.heap.length pn) (st.heap.set k OB.dead ++ [OB.row nw fl' z' es']) w' ∧
    (OBrel (plAt pl st.heap.length pn) (st.heap.set k OB.dead ++ [OB.row nw fl' z' es']).length (Sany A w0.heap.size (plAt pl st.heap.length pn) (st.heap.set k OB.dead ++ [OB.row nw fl' z' es']) w') (Fresh w0.heap.size (plAt pl st.heap.length pn) (st.heap.set k OB.dead ++ [OB.row nw fl' z' es']) w') w' st.heap.length (.row nw fl' z' es') →
      ConcP N m F A w0 ⟨st.env, st.heap.set k .dead ++ [OB.row nw fl' z' es']⟩ (plAt pl st.heap.length pn) a w') :=
  h.moveG hk (by
    cases nw with
    | true => left; unfold isnew; rw [hk]
    | false => right; exact ⟨rfl, by simp [kind]⟩) hos htp hout hsz (fun b hb => hoth b fun e => hb ⟨hcap, e.symm⟩) pn fun b hb => ⟨hcap, by rw [← hpn]; exact hb.2⟩
theorem ConcP.write' (h : ConcP N m F A w0 st pl a w) {k : Nat} {ob ob' : OB} (hk : st.heap[k]? = some ob) (hkind : kind ob' = kind ob) (hnw : nwOf ob' = nwOf ob) {w' : World} (hos : w'.os = w.os) (htp : w'.tape = w.tape) (hout : w'.output = w.output)
    (hsz : w'.heap.size = w.heap.size) (hoth : ∀ b, ¬ obOwns (pl k) ob b → w'.heap[b]? = w.heap[b]?) :
    Newer A w0.heap.size pl st.heap w pl (st.heap.set k ob') w' ∧
    (OBrel pl (st.heap.set k ob').length (Sany A w0.heap.size pl (st.heap.set k ob') w') (Fresh w0.heap.size pl (st.heap.set k ob') w') w' k ob' → ConcP N m F A w0 ⟨st.env, st.heap.set k ob'⟩ pl a w') := by
  have hkl := (List.getElem?_eq_some_iff.1 hk).1
  have hl : ∀ k' b, owns pl (st.heap.set k ob') k' b ↔ owns pl st.heap k' b := by
    intro k' b
    by_cases hkk : k' = k
    · subst hkk
      exact owns_kind hk (List.getElem?_set_self hkl) hkind rfl
    · unfold owns
      rw [List.getElem?_set_ne (Ne.symm hkk)]
  have hN : Newer A w0.heap.size pl st.heap w pl (st.heap.set k ob') w' :=
    Newer.mk' (fun b hb => ⟨⟨by rw [hsz]; exact hb.1, fun k' hk' => hb.2 k' ((hl k' b).1 hk')⟩, hoth b (fun e => hb.2 k (owns_of hk e))⟩) (by simp) (fun _ _ => rfl)
  have hnwm : ∀ k', isnew m (st.heap.set k ob') k' → isnew m st.heap k' := by
    intro k' hn
    by_cases hkk : k' = k
    · subst hkk
      unfold isnew at hn ⊢
      rw [List.getElem?_set_self hkl] at hn
      rw [hk]
      clear hl hN hoth
      cases ob' with
      | dead => exact hn.elim
      | fix cells => cases ob with
        | fix c => exact hn
        | rows nw fl z es ho => cases ho <;> simp [kind] at hkind <;> omega
        | _ => simp [kind] at hkind
      | row nw fl z es => cases ob with
        | row nw' fl' z' es' => exact hnw.symm.trans hn
        | rows nw fl z es ho => cases ho <;> simp [kind] at hkind <;> omega
        | _ => simp [kind] at hkind
      | mp nw ks f => cases ob with
        | mp nw' ks' f' => exact hnw.symm.trans hn
        | rows nw fl z es ho => cases ho <;> simp [kind] at hkind <;> omega
        | _ => simp [kind] at hkind
      | rows nw fl z es ho => cases ob with
        | rows nw' fl' z' es' ho' => exact hnw.symm.trans hn
        | _ => cases ho <;> simp [kind] at hkind <;> omega
    · unfold isnew at hn ⊢
      rwa [List.getElem?_set_ne (Ne.symm hkk)] at hn
  refine ⟨hN, fun hob => { defers := h.defers, size := h.size, os := hos.trans h.os, tape := htp.trans h.tape, output := hout.trans h.output, hsize := by rw [hsz]; exact h.hsize, frame := fun b hb => (hoth b (fun e => h.ownF k b (owns_of hk e) hb)).trans (h.frame b hb), ownlt := fun k' b hk' => by rw [hsz]; exact h.ownlt k' b ((hl k' b).1 hk'), ownF := fun k' b hk' => h.ownF k' b ((hl k' b).1 hk'), newb := fun k' b hm hk' => h.newb k' b (hnwm k' hm) ((hl k' b).1 hk'), disj := fun k1 k2 b h1 h2 => h.disj k1 k2 b ((hl k1 b).1 h1) ((hl k2 b).1 h2), heap := fun k' ob1 hk' => ?_, env := fun s => hN.relA (h.env s) }⟩
  by_cases hkk : k' = k
  · subst hkk
    have := hk'
    simp only at this
    rw [List.getElem?_set_self hkl] at this
    cases this
    exact hob
  · have h1 : st.heap[k']? = some ob1 := by
      have := hk'; simp only at this; rwa [List.getElem?_set_ne (Ne.symm hkk)] at this
    exact (h.heap k' ob1 h1).mono hN.len hN.pl hN.S hN.Fr (fun b hb => hN.same b hb.1) (fun b hb => hN.same b hb.2) rfl fun b hb => hoth _ fun e => hkk (h.disj k' k b (owns_of h1 hb) (owns_of hk e))
theorem ConcP.write (h : ConcP N m F A w0 st pl a w) {k : Nat} {ob ob' : OB} (hk : st.heap[k]? = some ob) (hkind : kind ob' = kind ob) (hnw : nwOf ob' = nwOf ob) (hlive : obOwns (pl k) ob (pl k).blk) {w' : World} (hos : w'.os = w.os) (htp : w'.tape = w.tape) (hout : w'.output = w.output)
    (hsz : w'.heap.size = w.heap.size) (hoth : ∀ b, b ≠ (pl k).blk → w'.heap[b]? = w.heap[b]?) :
    Newer A w0.heap.size pl st.heap w pl (st.heap.set k ob') w' ∧
    (OBrel pl (st.heap.set k ob').length (Sany A w0.heap.size pl (st.heap.set k ob') w') (Fresh w0.heap.size pl (st.heap.set k ob') w') w' k ob' → ConcP N m F A w0 ⟨st.env, st.heap.set k ob'⟩ pl a w') :=
  h.write' hk hkind hnw hos htp hout hsz fun b hb => hoth b fun e => hb (e ▸ hlive)
theorem ConcP.regroup (h : ConcP N m F A w0 st pl a w) (hF : ∀ b, F b → b < w0.heap.size) {w' : World} (hos : w'.os = w.os) (htp : w'.tape = w.tape) (hout : w'.output = w.output) (hsz : w.heap.size ≤ w'.heap.size) {pl' : Nat → Pl} {heap' : List OB}
    (hlen : st.heap.length ≤ heap'.length) (hbase : ∀ k, k < st.heap.length → Pl.Base (pl' k) (pl k))
    (hO : ∀ k b, owns pl' heap' k b → (∃ k0, owns pl st.heap k0 b) ∨ (w.heap.size ≤ b ∧ b < w'.heap.size))
    (hW : ∀ b, b < w.heap.size → (∀ k, ¬ owns pl st.heap k b) → w'.heap[b]? = w.heap[b]?) :
    Newer A w0.heap.size pl st.heap w pl' heap' w' ∧
    ((∀ k k' b, owns pl' heap' k b → owns pl' heap' k' b → k = k') → (∀ k b, isnew m heap' k → owns pl' heap' k b → w0.heap.size ≤ b) →
      (∀ k ob, heap'[k]? = some ob → (st.heap[k]? = some ob ∧ pl' k = pl k ∧ ∀ b, obOwns (pl k) ob b → w'.heap[b]? = w.heap[b]?) ∨ OBrel pl' heap'.length (Sany A w0.heap.size pl' heap' w') (Fresh w0.heap.size pl' heap' w') w' k ob) →
      ConcP N m F A w0 ⟨st.env, heap'⟩ pl' a w') := by
  have hN : Newer A w0.heap.size pl st.heap w pl' heap' w' := by
    refine Newer.mk' (fun b hb => ⟨⟨Nat.lt_of_lt_of_le hb.1 hsz, fun k hk => ?_⟩, hW b hb.1 hb.2⟩) hlen hbase
    rcases hO k b hk with ⟨k0, h0⟩ | h0
    · exact hb.2 k0 h0
    · have := hb.1; omega
  refine ⟨hN, fun hD hn hH => ?_⟩
  have hFw : ∀ b, F b → b < w.heap.size := fun b hb => Nat.lt_of_lt_of_le (hF b hb) h.hsize
  refine { defers := h.defers, size := h.size, os := hos.trans h.os, tape := htp.trans h.tape, output := hout.trans h.output, hsize := Nat.le_trans h.hsize hsz, frame := fun b hb => (hW b (hFw b hb) (fun k hk => h.ownF k b hk hb)).trans (h.frame b hb), ownlt := fun k b hk => ?_, ownF := fun k b hk hb => ?_, newb := hn, disj := hD, heap := fun k ob hk => ?_, env := fun s => hN.relA (h.env s) }
  · rcases hO k b hk with ⟨k0, h0⟩ | h0
    · exact Nat.lt_of_lt_of_le (h.ownlt k0 b h0) hsz
    · exact h0.2
  · rcases hO k b hk with ⟨k0, h0⟩ | h0
    · exact h.ownF k0 b h0 hb
    · have := hFw b hb; omega
  · rcases hH k ob hk with ⟨h1, h2, h3⟩ | h1
    · exact (h.heap k ob h1).mono hN.len hN.pl hN.S hN.Fr (fun b hb => hN.same b hb.1) (fun b hb => hN.same b hb.2) h2 h3
    · exact h1
end
end Go.Av
namespace Go.Av
open Go.RowKit
theorem Newer.refl {A : Nat → Prop} {B : Nat} {pl : Nat → Pl} {heap : List OB} {w : World} : Newer A B pl heap w pl heap w := ⟨fun _ h => h, fun _ h => h, fun _ _ => rfl, Nat.le_refl _, fun _ _ => rfl⟩
theorem Newer.trans {A : Nat → Prop} {B : Nat} {pl pl' pl'' : Nat → Pl} {heap heap' heap'' : List OB} {w : World} (h : Newer A B pl heap w pl' heap' w) (k : Newer A B pl' heap' w pl'' heap'' w) : Newer A B pl heap w pl'' heap'' w :=
  ⟨fun b hb => k.S b (h.S b hb), fun b hb => k.Fr b (h.Fr b hb), fun _ _ => rfl, Nat.le_trans h.len k.len, fun i hi => (k.pl i (Nat.lt_of_lt_of_le hi h.len)).trans (h.pl i hi)⟩
def frzLW (f : AV → List OB → (Fl → PV → List OB → Prop) → Prop) : List AV → List OB → (Fl → List PV → List OB → Prop) → Prop
  | [], h, K => K .flat [] h
  | a :: r, h, K => f a h fun fl p h1 => frzLW f r h1 fun fl' ps h2 => K (Fl.join fl fl') (p :: ps) h2
def frzW (m : Nat) : Nat → AV → List OB → (Fl → PV → List OB → Prop) → Prop
  | 0, _, _, _ => False
  | d + 1, v, h, K => match v with
    | .p fl v => K (flOf fl v) v h
    | .osl k lo n => (match h[k]? with
      | some (.row nw fl z es) => nw = true ∧ BndF true (lo + n ≤ es.length) (EqL ((es.drop lo).take n) fun es => K (Fl.join .fresh fl) (.lst z es) (h.set k .dead))
      | _ => False)
    | .own k off => (match h[k]? with
      | some (.fix cells) => Nat.ble m k = true ∧ frzLW (frzW m d) cells (h.set k .dead) fun fl ps h' => K (Fl.join .fresh fl) (.ref (ps.drop off)) h'
      | _ => False)
    | .afn f caps => frzLW (frzW m d) caps h fun fl ps h' => K fl (.fn f ps) h'
    | .aagg cells => frzLW (frzW m d) cells h fun fl ps h' => K fl (.agg ps) h'
    | _ => False
section
variable {N m : Nat} {F A : Nat → Prop} {w0 : World} {a : Act} {w : World} {pl : Nat → Pl} {env : Nat → AV}
def FrzOk (N m : Nat) (F A : Nat → Prop) (w0 : World) (env : Nat → AV) (pl : Nat → Pl) (a : Act) (w : World) (v : AV) (h : List OB) (fl : Fl) (p : PV) (h' : List OB) : Prop :=
  h'.length = h.length ∧ (ConcP N m F A w0 ⟨env, h⟩ pl a w → ConcP N m F A w0 ⟨env, h'⟩ pl a w ∧ Newer A w0.heap.size pl h w pl h' w ∧
    ∀ u, RelA pl h.length (Sany A w0.heap.size pl h w) (Fresh w0.heap.size pl h w) w v u → Rel (flagS (Sany A w0.heap.size pl h' w) (Fresh w0.heap.size pl h' w) fl) w p u)
theorem frzLW_sound {f : AV → List OB → (Fl → PV → List OB → Prop) → Prop} (hf : ∀ v h K, f v h K → ∃ fl p h', K fl p h' ∧ FrzOk N m F A w0 env pl a w v h fl p h') :
    ∀ {l : List AV} {h : List OB} {K : Fl → List PV → List OB → Prop}, frzLW f l h K → ∃ fl ps h', K fl ps h' ∧ h'.length = h.length ∧ ps.length = l.length ∧
      (ConcP N m F A w0 ⟨env, h⟩ pl a w → ConcP N m F A w0 ⟨env, h'⟩ pl a w ∧ Newer A w0.heap.size pl h w pl h' w ∧
        ∀ (j : Nat) (v : AV) (p : PV) (u : Value), l[j]? = some v → ps[j]? = some p → RelA pl h.length (Sany A w0.heap.size pl h w) (Fresh w0.heap.size pl h w) w v u → Rel (flagS (Sany A w0.heap.size pl h' w) (Fresh w0.heap.size pl h' w) fl) w p u)
  | [], h, K, hk => ⟨_, _, h, hk, rfl, rfl, fun hc => ⟨hc, .refl, fun j v p u hv => by simp at hv⟩⟩
  | x :: r, h, K, hk => by
    obtain ⟨fl, p, h1, hk1, hl1, ho1⟩ := hf x h _ hk
    obtain ⟨fl', ps, h2, hk2, hl2, hp2, ho2⟩ := frzLW_sound hf hk1
    refine ⟨_, _, h2, hk2, by rw [hl2, hl1], by simp [hp2], fun hc => ?_⟩
    obtain ⟨c1, n1, r1⟩ := ho1 hc
    obtain ⟨c2, n2, r2⟩ := ho2 c1
    have hFS : ∀ b, Fresh w0.heap.size pl h2 w b → Sany A w0.heap.size pl h2 w b := fun b hb => ⟨hb.2, .inr hb.1⟩
    refine ⟨c2, n1.trans n2, fun j v q u hv hq hu => ?_⟩
    cases j with
    | zero =>
      simp at hv hq
      subst hv hq
      exact (n2.rel (r1 u hu)).mono (flag_join_left hFS _ _) (fun _ _ => rfl)
    | succ j =>
      simp at hv hq
      exact (r2 j v q u hv hq (n1.relA hu)).mono (flag_join_right hFS _ _) (fun _ _ => rfl)
theorem fresh_join {S Fr : Nat → Prop} (hFS : ∀ b, Fr b → S b) {fl : Fl} {b : Nat} (h : Fr b) : flagS S Fr (Fl.join .fresh fl) b := by
  cases fl
  · exact h
  · exact h
  · exact hFS b h
theorem frzW_sound : ∀ (d : Nat) (v : AV) (h : List OB) (K : Fl → PV → List OB → Prop), frzW m d v h K → ∃ fl p h', K fl p h' ∧ FrzOk N m F A w0 env pl a w v h fl p h'
  | 0, _, _, _, hk => hk.elim
  | d + 1, v, h, K, hk => by
    have hFS : ∀ (h2 : List OB) b, Fresh w0.heap.size pl h2 w b → Sany A w0.heap.size pl h2 w b := fun h2 b hb => ⟨hb.2, .inr hb.1⟩
    -- the block of an own one that is given up
    have hgone : ∀ {k b : Nat}, ConcP N m F A w0 ⟨env, h⟩ pl a w → owns pl h k b → isnew m h k → Fresh w0.heap.size pl (h.set k .dead) w b := by
      intro k b hc hl hn
      refine ⟨hc.newb k b hn hl, hc.ownlt k b hl, fun k' hk' => ?_⟩
      obtain ⟨ob, h1, h2⟩ := owns_out hk'
      by_cases hne : k' = k
      · subst hne
        rcases Nat.lt_or_ge k' h.length with h3 | h3
        · rw [List.getElem?_set_self h3] at h1; cases h1; exact h2
        · rw [List.getElem?_eq_none (by simpa using h3)] at h1; cases h1
      · rw [List.getElem?_set_ne (Ne.symm hne)] at h1
        exact hne (hc.disj k' k b (owns_of h1 h2) hl)
    unfold frzW at hk
    split at hk
    case h_1 fl v => exact ⟨_, _, h, hk, rfl, fun hc => ⟨hc, .refl, fun u hu => rel_flOf hu⟩⟩
    case h_2 k lo n =>
      split at hk
      case h_2 => exact hk.elim
      rename_i nw fl z es hhk
      obtain ⟨hnw, hn, es', rfl, hK⟩ := hk
      have hn := hn rfl
      refine ⟨_, _, _, hK, by simp, fun hc => ?_⟩
      obtain ⟨hN, hc'⟩ := hc.kill k
      refine ⟨hc', hN, fun u hu => ?_⟩
      obtain ⟨g1, g2, g3, g4, g5, g6⟩ := hc.heap k _ hhk
      cases hu with
      | @osl _ _ _ C A' hkL hA hC hn' hM =>
        have hlen : ((es.drop lo).take n).length = n := by simp; omega
        have hget : ∀ (i : Nat) (e : List PV), ((es.drop lo).take n)[i]? = some e → es[lo + i]? = some e ∧ i < n := fun i e he => by
          rw [List.getElem?_take] at he
          split at he
          · rename_i hlt; exact ⟨by rwa [List.getElem?_drop] at he, hlt⟩
          · cases he
        by_cases hcap : 0 < (pl k).cap
        · obtain ⟨ty, arr, q1, q2, q3⟩ := g6 hcap
          have hlive := owns_row (pl := pl) hhk hcap
          have hblk := hgone hc hlive (by unfold isnew; rw [hhk]; exact hnw)
          have hfl : ∀ b, flagS (Sany A w0.heap.size pl h w) (Fresh w0.heap.size pl h w) fl b → flagS (Sany A w0.heap.size pl (h.set k .dead) w) (Fresh w0.heap.size pl (h.set k .dead) w) (Fl.join .fresh fl) b := fun b hb =>
            flag_join_right (hFS _) _ _ b (flagS_mono hN.S hN.Fr fl b hb)
          refine .lst hlen.symm hn' (by omega) ⟨(pl k).blk, (pl k).off + lo * (pl k).sz, none⟩ (fun h0 => hA (by omega)) (fun _ _ => fresh_join (hFS _) hblk) (fun i e he => g5 _ _ (hget i e he).1) (fun i j => arr.getD ((pl k).off + ((lo + i) * z.length + j)) undef)
            (fun i j e p he hp => ?_) (fun i j e p he hp => ?_) (fun i j e p he hp => ?_)
          · obtain ⟨x, h2, h3, h4⟩ := q3 _ _ _ _ (hget i e he).1 hp
            rw [Addr.add_lit, cell_of_row w _ _ arr ty (0, 0) q1, Array.getD_eq_getD_getElem?, h2, g1]
            have e1 : (pl k).off + lo * z.length + (i * z.length + j) = (pl k).off + ((lo + i) * z.length + j) := by rw [Nat.add_mul]; omega
            rw [e1, h2]; rfl
          · obtain ⟨x, h2, h3, h4⟩ := q3 _ _ _ _ (hget i e he).1 hp
            rw [Array.getD_eq_getD_getElem?, h2]; exact h3
          · obtain ⟨x, h2, h3, h4⟩ := q3 _ _ _ _ (hget i e he).1 hp
            rw [Array.getD_eq_getD_getElem?, h2]; exact h4.mono hfl (fun _ _ => rfl)
        · have hn0 : n = 0 := by omega
          subst hn0
          exact .lst hlen.symm hn' (by omega) ⟨0, 0, none⟩ (fun h0 => absurd h0 (by omega)) (fun h0 _ => absurd h0 (by omega)) (fun i e he => absurd (hget i e he).2 (by omega)) (fun _ _ => undef)
            (fun i j e p he hp => absurd (hget i e he).2 (by omega)) (fun i j e p he hp => absurd (hget i e he).2 (by omega)) (fun i j e p he hp => absurd (hget i e he).2 (by omega))
    case h_3 k off =>
      split at hk
      case h_2 => exact hk.elim
      rename_i cells hhk
      obtain ⟨hmk, hk⟩ := hk
      have hmk := Nat.le_of_ble_eq_true hmk
      obtain ⟨fl, ps, h', hK, hl, hp, ho⟩ := frzLW_sound (fun v h K hk => frzW_sound d v h K hk) hk
      refine ⟨_, _, _, hK, by rw [hl]; simp, fun hc => ?_⟩
      obtain ⟨hN1, hc1⟩ := hc.kill k
      obtain ⟨hc2, hN2, hr⟩ := ho hc1
      refine ⟨hc2, hN1.trans hN2, fun u hu => ?_⟩
      obtain ⟨ty, arr, g1, g2, g3⟩ := hc.heap k _ hhk
      have hlive := owns_fix (pl := pl) hhk
      have hblk := hN2.Fr _ (hgone hc hlive (by unfold isnew; rw [hhk]; exact hmk))
      cases hu with
      | own hkL =>
        have hcell : ∀ (j : Nat) (p : PV), (ps.drop off)[j]? = some p → ∃ c x, cells[off + j]? = some c ∧ arr[off + j]? = some x ∧ ps[off + j]? = some p := fun j p hp' => by
          rw [List.getElem?_drop] at hp'
          have h1 : off + j < ps.length := (List.getElem?_eq_some_iff.1 hp').1
          have h2 : off + j < cells.length := by omega
          have h3 : off + j < arr.size := by omega
          exact ⟨_, _, List.getElem?_eq_getElem h2, Array.getElem?_eq_getElem h3, hp'⟩
        refine .ref (fun _ => fresh_join (hFS _) hblk) (fun j => arr.getD (off + j) undef) (fun j p hp => ?_) (fun j p hp => ?_) (fun j p hp => ?_)
        · obtain ⟨c, x, h1, h2, h3⟩ := hcell j p hp
          rw [Addr.add_lit, cell_of_row w _ _ arr ty (0, 0) g1, Array.getD_eq_getD_getElem?, h2]; rfl
        · obtain ⟨c, x, h1, h2, h3⟩ := hcell j p hp
          rw [Array.getD_eq_getD_getElem?, h2]
          exact (g3 _ _ _ h1 h2).1
        · obtain ⟨c, x, h1, h2, h3⟩ := hcell j p hp
          rw [Array.getD_eq_getD_getElem?, h2]
          exact (hr _ c p x h1 h3 (hN1.relA (g3 _ _ _ h1 h2).2)).mono (flag_join_right (hFS _) _ _) (fun _ _ => rfl)
    case h_4 f caps =>
      obtain ⟨fl, ps, h', hK, hl, hp, ho⟩ := frzLW_sound (fun v h K hk => frzW_sound d v h K hk) hk
      refine ⟨_, _, _, hK, hl, fun hc => ?_⟩
      obtain ⟨hc2, hN2, hr⟩ := ho hc
      refine ⟨hc2, hN2, fun u hu => ?_⟩
      cases hu with
      | @afn _ _ arr hs hr' =>
        refine .fn (by rw [hs, hp]) fun j p x hp' hx => ?_
        have hj : j < caps.length := by rw [← hp]; exact (List.getElem?_eq_some_iff.1 hp').1
        exact hr j _ p x (List.getElem?_eq_getElem hj) hp' (hr' j _ x (List.getElem?_eq_getElem hj) hx)
    case h_5 cells =>
      obtain ⟨fl, ps, h', hK, hl, hp, ho⟩ := frzLW_sound (fun v h K hk => frzW_sound d v h K hk) hk
      refine ⟨_, _, _, hK, hl, fun hc => ?_⟩
      obtain ⟨hc2, hN2, hr⟩ := ho hc
      refine ⟨hc2, hN2, fun u hu => ?_⟩
      cases hu with
      | @aagg _ arr hs h1 hr' =>
        refine .agg (by rw [hs, hp]) h1 fun j p x hp' hx => ?_
        have hj : j < cells.length := by rw [← hp]; exact (List.getElem?_eq_some_iff.1 hp').1
        exact hr j _ p x (List.getElem?_eq_getElem hj) hp' (hr' j _ x (List.getElem?_eq_getElem hj) hx)
    case h_6 => exact hk.elim
end
end Go.Av
namespace Go.Av
open Go.RowKit
def pvCells (p : PV) : List PV := match p with
  | .agg ps => ps
  | p => [p]
def partsW (m : Nat) (st : St) (z : List PV) : List (Nat × Operand) → Fl → List (List PV) → List OB → (Fl → List (List PV) → List OB → Prop) → Prop
  | [], fl, es, h, K => K fl es h
  | (i, x) :: r, fl, es, h, K => withV st true x fun v => frzW m 5 v h fun fl' p h' => (pvCells p).length = z.length ∧ Nat.blt i es.length = true ∧ partsW m st z r (Fl.join fl fl') (es.set i (pvCells p)) h' K
inductive EqR (es : List (List (List PV))) (K : List (List (List PV)) → Prop) : Prop
  | mk (es' : List (List (List PV))) (h : es = es') (k : K es')
inductive MkF (A B : Prop) : Prop
  | row (k : A)
  | rows (k : B)
def zNil (P : Program) [Kn P] (t : TypeId) : Bool := match (P.info? t).bind (·.zero) with
  | some (.slice none 0 0) => true
  | _ => false
def rowsTy (P : Program) [Kn P] (e : TypeId) (K0 : Prop) (K : List PV → Prop) : Prop := match P.underlying e with
  | some (.slice e') => MkF K0 (zNil P e = true ∧ Nat.beq (P.cellsOf e) 1 = true ∧ zeroOk P e' = true ∧ Nat.beq (P.cellsOf e') 0 = false ∧ K (zeroPV P e'))
  | _ => K0
def takeRowW (h : List OB) (z : List PV) (v : AV) (K : Bool → Fl → List (List PV) → List OB → Prop) : Prop := match v with
  | .osl k lo n => (match h[k]? with
    | some (.row nw fl z' es) => z' = z ∧ BndF true (lo + n ≤ es.length) (EqL ((es.drop lo).take n) fun es => K nw fl es (h.set k .dead))
    | _ => False)
  | .p _ (.c (.slice none 0 0)) => K true .flat [] h
  | _ => False
def fAnd (a b : Bool) (K : Bool → Prop) : Prop := match a with
  | true => (match b with
    | true => K true
    | false => K false)
  | false => K false
theorem fAnd_eq {a b : Bool} {K : Bool → Prop} (h : fAnd a b K) : K (a && b) := by cases a <;> cases b <;> exact h
def partsRW (st : St) (z : List PV) : List (Nat × Operand) → Bool → Fl → List (List (List PV)) → List OB → (Bool → Fl → List (List (List PV)) → List OB → Prop) → Prop
  | [], nw, fl, es, h, K => K nw fl es h
  | (i, x) :: r, nw, fl, es, h, K => withV st true x fun v => takeRowW h z v fun nw' fl' e h' => Nat.blt i es.length = true ∧ fAnd nw nw' fun nw => partsRW st z r nw (Fl.join fl fl') (es.set i e) h' K
def storeW (m : Nat) (h : List OB) (n : Nat) (a v : AV) (K : List OB → Prop) : Prop := match a with
  | .own k off => (match h[k]? with
    | some (.fix cells) => cellsW v fun cs => cs.length = n ∧ Nat.ble (off + n) cells.length = true ∧ K (h.set k (.fix (cells.take off ++ cs ++ cells.drop (off + n))))
    | _ => False)
  | .orow k i j => (match h[k]? with
    | some (.rows nw fl z es none) => j = 0 ∧ n = 1 ∧ Nat.ble m k = true ∧ takeRowW h z v fun nw' fl' e h' => BndF true (i < es.length) (EqR (es.set i e) fun es => fAnd nw nw' fun nw => K (h'.set k (.rows nw (Fl.join fl fl') z es none)))
    | _ => frzW m 5 v h fun fl' p h' => (match h'[k]? with
      | some (.row nw fl z es) => (pvCells p).length = n ∧ Nat.ble (j + n) z.length = true ∧ BndF true (i < es.length) (EqP (es.getD i z) fun e => EqL (es.set i (e.take j ++ pvCells p ++ e.drop (j + n))) fun es => K (h'.set k (.row nw (Fl.join fl fl') z es)))
      | _ => False))
  | _ => False
inductive FlF (fl : Fl) (es : List (List PV)) (K : Fl → Prop) : Prop
  | flat (h : ∀ e ∈ es, ∀ p ∈ e, ∃ v, p = .c v) (k : K .flat)
  | keep (k : K fl)
def srcW (h : List OB) (k : Nat) (zl : Nat) (v : AV) (K : Fl → List (List PV) → Prop) : Prop := match v with
  | .p fl (.lst z es) => z.length = zl ∧ FlF fl es fun fl => K fl es
  | .osl k' lo n => (match h[k']? with
    | some (.row _ fl z es) => z.length = zl ∧ BndF true (lo + n ≤ es.length) (EqL ((es.drop lo).take n) fun es => FlF fl es fun fl => K fl es)
    | _ => False)
  | _ => False
def sameK (k : Nat) (s : AV) : Bool := match s with
  | .osl k' _ _ => Nat.beq k k'
  | _ => false
def selfW (h : List OB) (k lo n : Nat) (nw : Bool) (fl : Fl) (z : List PV) (es : List (List PV)) (s : AV) (K : AV → List OB → Prop) : Prop :=
  srcW h k z.length s fun fl' es' => EqN (n + es'.length) fun n' => BndF true (lo + n' ≤ es.length) (EqL (es.take (lo + n) ++ es' ++ es.drop (lo + n + es'.length)) fun es2 => K (.osl k lo n') (h.set k (.row nw (Fl.join fl fl') z es2)))
def appendW (P : Program) [Kn P] (h : List OB) (t : TypeId) (d s : AV) (K : AV → List OB → Prop) : Prop := match P.underlying t with
  | some (.slice e) => (match d with
    | .osl k lo n => (match h[k]? with
      | some (.row nw fl z es) => z.length = P.cellsOf e ∧ zeroOk P e = true ∧ BndF true (lo + n ≤ es.length) (match sameK k s with
        | true => selfW h k lo n nw fl z es s K
        | false => srcW h k z.length s fun fl' es' =>
          fB (P.bytesOf e) fun b => EqN (n + es'.length) fun n' => BndF true (n' * b ≤ 140737488355328 ∧ n' ≤ 9223372036854775807) (
          EqL ((es.drop lo).take n ++ es') fun es => K (.osl h.length 0 n') (h.set k .dead ++ [.row nw (Fl.join fl fl') z es])))
      | some (.rows nw fl z es none) => Nat.beq (P.cellsOf e) 1 = true ∧ zeroOk P e = true ∧ BndF true (lo = 0 ∧ n = es.length) (match s with
        | .osl k' lo' n' => (match h[k']? with
          | some (.rows nw' fl' z' es' none) => z' = z ∧ Nat.beq k k' = false ∧ BndF true (lo' = 0 ∧ n' = es'.length) (
              fB (P.bytesOf e) fun b => EqN (n + n') fun n2 => BndF true (n2 * b ≤ 140737488355328 ∧ n2 ≤ 9223372036854775807) (
              EqR (es ++ es') fun es => fAnd nw nw' fun nw => K (.osl h.length 0 n2) ((h.set k .dead).set k' .dead ++ [.rows nw (Fl.join fl fl') z es none])))
          | _ => False)
        | _ => False)
      | _ => False)
    | _ => False)
  | _ => False
def clearW (P : Program) [Kn P] (h : List OB) (t : TypeId) (d : AV) (K : List OB → Prop) : Prop := match P.underlying t with
  | some (.slice e) => (match d with
    | .osl k lo n => (match h[k]? with
      | some (.row nw fl z es) => z.length = P.cellsOf e ∧ zeroOk P e = true ∧ BndF true (lo + n ≤ es.length) (EqL (es.take lo ++ List.replicate n (zeroPV P e) ++ es.drop (lo + n)) fun es2 => K (h.set k (.row nw fl z es2)))
      | _ => False)
    | _ => False)
  | _ => False
def copyW (P : Program) [Kn P] (h : List OB) (t : TypeId) (d s : AV) (K : AV → List OB → Prop) : Prop := match P.underlying t with
  | some (.slice e) => (match d with
    | .osl k lo n => (match h[k]? with
      | some (.row nw fl z es) => z.length = P.cellsOf e ∧ BndF true (lo + n ≤ es.length) (srcW h k z.length s fun fl' es' =>
          EqN (min es'.length n) fun c => EqL (es.take lo ++ es'.take c ++ es.drop (lo + c)) fun es2 => K (.p .flat (.c (.int .i64 (c : Int)))) (h.set k (.row nw (Fl.join fl fl') z es2)))
      | _ => False)
    | _ => False)
  | _ => False
noncomputable def updM (f : Value → Option Int) (u : Value) (n : Int) : Value → Option Int := open Classical in fun x => if x = u then some n else f x
theorem updM_eq (f : Value → Option Int) (u : Value) (n : Int) : updM f u n u = some n := by simp [updM]
theorem updM_ne (f : Value → Option Int) {u x : Value} (n : Int) (h : x ≠ u) : updM f u n x = f x := by simp [updM, h]
inductive EqM (f : Value → Option Int) (K : (Value → Option Int) → Prop) : Prop
  | mk (f' : Value → Option Int) (h : f = f') (k : K f')
def updateW (P : Program) [Kn P] (h : List OB) (t : TypeId) (a b c : AV) (K : List OB → Prop) : Prop := match P.underlying t with
  | some (.map kt _) => (match a with
    | .amap k => (match h[k]? with
      | some (.mp nw ks f) => (match exactV b with
        | some u => (match c with
          | .p _ (.c (.int .i64 n)) => KeyF true P kt ks u (EqM (updM f u n) fun f' => K (h.set k (.mp nw ks f')))
          | _ => False)
        | none => False)
      | _ => False)
    | _ => False)
  | _ => False
def makeMapW (P : Program) [Kn P] (h : List OB) (t : TypeId) (K : AV → List OB → Prop) : Prop := match P.underlying t with
  | some (.map kt _) => K (.amap h.length) (h ++ [.mp true (isKey P kt) (fun _ => none)])
  | _ => False
def isNilC : Operand → Bool
  | .const (.slice none 0 0) => true
  | _ => False
def hopW (P : Program) [Kn P] (m : Nat) (st : St) (o : Oper) (K : AV → List OB → Prop) : Prop := match o.op with
  | .alloc t => zeroOk P t = true ∧ K (.own st.heap.length 0) (st.heap ++ [.fix ((zeroPV P t).map (.p .flat))])
  | .box _ x => withV st true x fun v => cellsW v fun cs => K (.own st.heap.length 0) (st.heap ++ [.fix cs])
  | .buildSlice t len parts => (match P.underlying t with
    | some (.slice e) => rowsTy P e (zeroOk P e = true ∧ P.cellsOf e ≠ 0 ∧ Nat.ble (len * P.cellsOf e) 16777216 = true ∧ partsW m st (zeroPV P e) parts.toList .flat (List.replicate len (zeroPV P e)) st.heap fun fl es h =>
        EqL es fun es => K (.osl h.length 0 len) (h ++ [.row true fl (zeroPV P e) es]))
        fun z => Nat.ble len 16777216 = true ∧ partsRW st z parts.toList true .flat (List.replicate len []) st.heap fun nw fl es h => EqR es fun es => K (.osl h.length 0 len) (h ++ [.rows nw fl z es none])
    | _ => False)
  | .makeSlice t l c => (match P.underlying t with
    | some (.slice e) => rowsTy P e (withV st true l fun vl => ixW vl fun il => withV st true c fun vc => ixW vc fun ic =>
        zeroOk P e = true ∧ P.cellsOf e ≠ 0 ∧ fB (P.bytesOf e) fun b => BndF true (0 ≤ il ∧ il ≤ ic ∧ ic ≤ 9223372036854775807 ∧ (b : Int) * ic ≤ 281474976710656) (EqN il.toNat fun n =>
        EqL (List.replicate n (zeroPV P e)) fun es => K (.osl st.heap.length 0 n) (st.heap ++ [.row true .flat (zeroPV P e) es])))
        fun z => withV st true l fun vl => ixW vl fun il => withV st true c fun vc => ixW vc fun ic =>
        zeroOk P e = true ∧ fB (P.bytesOf e) fun b => BndF true (0 ≤ il ∧ il ≤ ic ∧ ic ≤ 9223372036854775807 ∧ (b : Int) * ic ≤ 281474976710656) (EqN il.toNat fun n =>
        EqR (List.replicate n []) fun es => K (.osl st.heap.length 0 n) (st.heap ++ [.rows true .flat z es none]))
    | _ => False)
  | .store t x y => withV st true x fun a => withV st true y fun v => P.cellsOf t ≠ 0 ∧ storeW m st.heap (P.cellsOf t) a v fun h => K .junk h
  | .call { callee := .builtin .append, args, argTypes } => (match args.toList, argTypes.toList with
    | [d, s], [t, t'] => t' = t ∧ withV st true d fun vd => withV st true s fun vs => appendW P st.heap t vd vs K
    | _, _ => False)
  | .call { callee := .builtin .copy, args, argTypes } => (match args.toList, argTypes.toList with
    | [d, s], [t, _] => withV st true d fun vd => withV st true s fun vs => copyW P st.heap t vd vs K
    | _, _ => False)
  | .call { callee := .builtin .clear, args, argTypes } => (match args.toList, argTypes.toList with
    | [d], [t] => withV st true d fun vd => clearW P st.heap t vd fun h => K .junk h
    | _, _ => False)
  | .assign _ => (match P.underlying o.type with
    | some (.slice e) => rowsTy P e (zeroOk P e = true ∧ P.cellsOf e ≠ 0 ∧ K (.osl st.heap.length 0 0) (st.heap ++ [.row true .flat (zeroPV P e) []]))
        fun z => K (.osl st.heap.length 0 0) (st.heap ++ [.rows true .flat z [] none])
    | _ => False)
  | .makeMap t r => r = none ∧ makeMapW P st.heap t K
  | .mapUpdate t x k v => withV st true x fun a => withV st true k fun b => withV st true v fun c => updateW P st.heap t a b c fun h => K .junk h
  | .insert t x k v => withV st true x fun a => withV st true k fun b => withV st true v fun c => updateW P st.heap t a b c fun h => K .junk h
  | _ => False
def isHop (o : Oper) : Bool := match o.op with
  | .alloc _ | .box .. | .buildSlice .. | .makeSlice .. | .store .. | .makeMap .. | .mapUpdate .. | .insert .. => true
  | .call { callee := .builtin .append, .. } => true
  | .call { callee := .builtin .copy, .. } => true
  | .call { callee := .builtin .clear, .. } => true
  | .assign x => isNilC x
  | _ => false
section
variable {N m : Nat} {F A : Nat → Prop} {w0 : World} {st : St} {pl : Nat → Pl} {a : Act} {w : World} {P : Program} [Kn P]
theorem ConcP.lenm {env : Nat → AV} {h : List OB} : (⟨env, h⟩ : St).heap.length = h.length := rfl
def HopOk (P : Program) [Kn P] (N m : Nat) (F A : Nat → Prop) (w0 : World) (st : St) (pl : Nat → Pl) (a : Act) (w : World) (o : Oper) (v : AV) (h' : List OB) : Prop :=
  ∃ (nx : Next) (w' : World) (pl' : Nat → Pl), (execOp a.eval o).run P w = .ok nx w' ∧ (∀ k, k < st.heap.length → k < m → pl' k = pl k) ∧ st.heap.length ≤ h'.length ∧ ConcP N m F A w0 ⟨st.env, h'⟩ pl' a w' ∧
    ((nx = .skip ∧ v = .junk) ∨ ∃ u, nx = .value u ∧ RelA pl' h'.length (Sany A w0.heap.size pl' h' w') (Fresh w0.heap.size pl' h' w') w' v u)
theorem run_newVar (t : TypeId) (v : Value) (w : World) : (newVar t v).run P w = .ok ⟨w.heap.size, 0, none⟩ (w.alloc (.cells v.cells t)) := by
  have _k : Kn P := inferInstance
  unfold newVar newRow
  rw [Sem.run_bind, run_newObj]
  rfl
theorem heap_new (w : World) (o : Obj) : (w.alloc o).heap[w.heap.size]? = some o := heap_alloc_new w o
theorem hop_alloc (hC : ConcP N m F A w0 st pl a w) (hF : ∀ b, F b → b < w0.heap.size) {o : Oper} {t : TypeId} (ho : o.op = .alloc t) (hz : zeroOk P t = true) :
    HopOk P N m F A w0 st pl a w o (.own st.heap.length 0) (st.heap ++ [.fix ((zeroPV P t).map (.p .flat))]) := by
  obtain ⟨i, z, hi, hz1, hz2, hz3, hz4, hz5⟩ := zeroOk_spec hz
  obtain ⟨hN, hmk⟩ := hC.newBlk hF (mkPl w.heap.size 0 0 0) z.cells t (.fix ((zeroPV P t).map (.p .flat))) fun b hb => hb.symm
  have hrun : (execOp a.eval o).run P w = .ok (.value (.pointer (some ⟨w.heap.size, 0, none⟩))) (w.alloc (.cells z.cells t)) := by
    have h1 : (zeroValue t).run P w = .ok z w := by simp [zeroValue, typeInfo, hi, hz1]
    simp only [execOp, ho, Instr.alloc, Sem.run_bind, h1, Result.andThen_ok, run_newVar, Sem.run_pure]
  refine ⟨_, w.alloc (.cells z.cells t), plAt pl st.heap.length (mkPl w.heap.size 0 0 0), hrun, fun k hk _ => plAt_lt hk, by simp, hmk ?_, .inr ⟨_, rfl, ?_⟩⟩
  · refine ⟨t, z.cells, by rw [plAt_eq]; exact heap_new w _, by simp [hz2], fun j c u hc hu => ?_⟩
    simp only [hz2, List.getElem?_map] at hc
    have hu' : z.cells.toList[j]? = some u := by rw [Array.getElem?_toList]; exact hu
    rw [hu'] at hc
    cases hc
    have := okC1_spec (hz3 u (List.mem_of_getElem? hu'))
    exact ⟨this.2, .mkc this.1 this.2⟩
  · have : (⟨w.heap.size, 0, none⟩ : Addr) = ⟨(plAt pl st.heap.length (mkPl w.heap.size 0 0 0) st.heap.length).blk, 0, none⟩ := by rw [plAt_eq]
    rw [this]
    exact .own (by simp)
theorem hop_box (hC : ConcP N m F A w0 st pl a w) (hF : ∀ b, F b → b < w0.heap.size) {o : Oper} {t : TypeId} {x : Operand} (ho : o.op = .box t x) {K : AV → List OB → Prop}
    (h : withV st true x fun v => cellsW v fun cs => K (.own st.heap.length 0) (st.heap ++ [.fix cs])) : ∃ v h', K v h' ∧ HopOk P N m F A w0 st pl a w o v h' := by
  obtain ⟨v, hv, hr⟩ := withV_sound hC.seen h
  obtain ⟨cs, hK, hcs⟩ := cellsW_sound (pl := pl) (L := st.heap.length) (S := Sany A w0.heap.size pl st.heap w) (Fr := Fresh w0.heap.size pl st.heap w) (w := w) hv
  obtain ⟨c1, c2⟩ := hcs _ (hr rfl)
  obtain ⟨hN, hmk⟩ := hC.newBlk hF (mkPl w.heap.size 0 0 0) (a.eval x).cells t (.fix cs) fun b hb => hb.symm
  have hrun : (execOp a.eval o).run P w = .ok (.value (.pointer (some ⟨w.heap.size, 0, none⟩))) (w.alloc (.cells (a.eval x).cells t)) := by
    simp only [execOp, ho, Instr.box, Sem.run_bind, Result.andThen_ok, run_newVar, Sem.run_pure]
  refine ⟨_, _, hK, _, w.alloc (.cells (a.eval x).cells t), plAt pl st.heap.length (mkPl w.heap.size 0 0 0), hrun, fun k hk _ => plAt_lt hk, by simp, hmk ?_, .inr ⟨_, rfl, ?_⟩⟩
  · refine ⟨t, (a.eval x).cells, by rw [plAt_eq]; exact heap_new w _, c1, fun j c u hc hu => ⟨(c2 j c u hc hu).1, hN.relA (c2 j c u hc hu).2⟩⟩
  · have : (⟨w.heap.size, 0, none⟩ : Addr) = ⟨(plAt pl st.heap.length (mkPl w.heap.size 0 0 0) st.heap.length).blk, 0, none⟩ := by rw [plAt_eq]
    rw [this]
    exact .own (by simp)
theorem hop_nil (hC : ConcP N m F A w0 st pl a w) (hF : ∀ b, F b → b < w0.heap.size) {o : Oper} {x : Operand} (ho : o.op = .assign x) (hx : isNilC x = true) {e : TypeId} (hz : zeroOk P e = true) (h0 : P.cellsOf e ≠ 0) :
    HopOk P N m F A w0 st pl a w o (.osl st.heap.length 0 0) (st.heap ++ [.row true .flat (zeroPV P e) []]) := by
  obtain ⟨i, z, hi, hz1, hz2, hz3, hz4, hz5⟩ := zeroOk_spec hz
  have hl : (zeroPV P e).length = P.cellsOf e := by rw [hz2]; simpa using hz4
  obtain ⟨hN, hmk⟩ := hC.newNil hF true .flat (zeroPV P e) (by omega)
  have hxe : a.eval x = .slice none 0 0 := by
    unfold isNilC at hx
    split at hx
    · rfl
    · simp at hx
  have hrun : (execOp a.eval o).run P w = .ok (.value (.slice none 0 0)) w := by
    simp only [execOp, ho, hxe, Sem.run_pure]
  refine ⟨_, w, plAt pl st.heap.length (mkPl 0 0 0 (zeroPV P e).length), hrun, fun k hk _ => plAt_lt hk, by simp, hmk, .inr ⟨.slice none 0 0, rfl, ?_⟩⟩
  · refine .osl (by simp) (fun hlt => ?_) ?_ (Nat.le_refl _) ?_
    · rw [plAt_eq] at hlt; exact absurd hlt (by simp)
    · rw [plAt_eq]
    · rw [plAt_eq]; exact Nat.zero_le _
end
end Go.Av
namespace Go.Av
open Go.RowKit
structure ElRel (S : Nat → Prop) (w : World) (zl : Nat) (es : List (List PV)) (arr : Array Value) : Prop where
  size : arr.size = es.length * zl
  len : ∀ (i : Nat) (e : List PV), es[i]? = some e → e.length = zl
  rel : ∀ (i j : Nat) (e : List PV) (p : PV), es[i]? = some e → e[j]? = some p → ∃ u, arr[i * zl + j]? = some u ∧ u.oneCell' = true ∧ Rel S w p u
theorem ElRel.mono {S S' : Nat → Prop} {w : World} {zl : Nat} {es : List (List PV)} {arr : Array Value} (hS : ∀ b, S b → S' b) (h : ElRel S w zl es arr) : ElRel S' w zl es arr :=
  ⟨h.size, h.len, fun i j e p he hp => let ⟨u, h1, h2, h3⟩ := h.rel i j e p he hp; ⟨u, h1, h2, h3.mono hS (fun _ _ => rfl)⟩⟩
theorem ElRel.made {S : Nat → Prop} {w : World} {P : Program} [Kn P] {e : TypeId} (hz : zeroOk P e = true) (n : Nat) : ∃ i z, P.info? e = some i ∧ i.zero = some z ∧ i.size = P.cellsOf e ∧ z.cells.size = P.cellsOf e ∧ (zeroPV P e).length = P.cellsOf e ∧
    ElRel S w (zeroPV P e).length (List.replicate n (zeroPV P e)) (madeCells z.cells (n * P.cellsOf e)) := by
  obtain ⟨i, z, hi, hz1, hz2, hz3, hz4, hz5⟩ := zeroOk_spec hz
  have hl : (zeroPV P e).length = P.cellsOf e := by rw [hz2]; simpa using hz4
  refine ⟨i, z, hi, hz1, hz5, hz4, hl, ⟨by simp [madeCells, hl], fun i e' he => ?_, fun i j e' p he hp => ?_⟩⟩
  · have := List.mem_of_getElem? he
    simp at this
    rw [this.2]
  · have hi' : i < n := by have := (List.getElem?_eq_some_iff.1 he).1; simpa using this
    have := List.mem_of_getElem? he
    simp at this
    rw [this.2] at hp
    have hj : j < P.cellsOf e := by rw [← hl]; exact (List.getElem?_eq_some_iff.1 hp).1
    rw [hl]
    have hlt : i * P.cellsOf e + j < n * P.cellsOf e := by
      have : (i + 1) * P.cellsOf e ≤ n * P.cellsOf e := Nat.mul_le_mul_right _ hi'
      rw [Nat.add_mul] at this
      omega
    have hmod : (i * P.cellsOf e + j) % z.cells.size = j := by
      rw [hz4, Nat.add_comm, Nat.add_mul_mod_self_right, Nat.mod_eq_of_lt hj]
    have hjz : j < z.cells.size := by omega
    refine ⟨z.cells[j], ?_, ?_⟩
    · simp only [madeCells, Array.getElem?_map, Array.getElem?_range]
      rw [if_pos hlt]
      simp only [Option.map_some, hmod]
      rw [getElem!_pos z.cells j hjz]
    · rw [hz2, List.getElem?_map] at hp
      have hg : z.cells.toList[j]? = some z.cells[j] := by rw [Array.getElem?_toList]; exact Array.getElem?_eq_getElem hjz
      rw [hg] at hp
      cases hp
      have := okC1_spec (hz3 z.cells[j] (by simp))
      exact ⟨this.2, .c this.1 this.2⟩
theorem pvCells_rel {S : Nat → Prop} {w : World} {p : PV} {u : Value} (h : Rel S w p u) : u.cells.size = (pvCells p).length ∧ ∀ (j : Nat) (q : PV), (pvCells p)[j]? = some q → ∃ x, u.cells[j]? = some x ∧ x.oneCell' = true ∧ Rel S w q x := by
  have one : ∀ (p : PV) (u : Value), Rel S w p u → u.oneCell' = true → u.cells.size = [p].length ∧ ∀ (j : Nat) (q : PV), [p][j]? = some q → ∃ x, u.cells[j]? = some x ∧ x.oneCell' = true ∧ Rel S w q x := by
    intro p u hu h1
    rw [cells_one h1]
    refine ⟨rfl, fun j q hq => ?_⟩
    cases j with
    | zero => simp at hq; subst hq; exact ⟨u, rfl, h1, hu⟩
    | succ j => simp at hq
  unfold pvCells
  split
  · rename_i ps
    cases h with
    | @agg _ arr hs h1 hr =>
      refine ⟨by simp [Value.cells, hs], fun j q hq => ?_⟩
      have hj : j < arr.size := by rw [hs]; exact (List.getElem?_eq_some_iff.1 hq).1
      exact ⟨arr[j], by simp [Value.cells, hj], h1 j _ (Array.getElem?_eq_getElem hj), hr j q _ hq (Array.getElem?_eq_getElem hj)⟩
  · rename_i hne
    exact one p u h (rel_one h hne)
theorem ElRel.put {S : Nat → Prop} {w : World} {zl : Nat} {es : List (List PV)} {arr : Array Value} (h : ElRel S w zl es arr) {p : PV} {u : Value} (hu : Rel S w p u) (hl : (pvCells p).length = zl) {i : Nat} (hi : i < es.length) :
    ElRel S w zl (es.set i (pvCells p)) (putC arr (i * zl) u.cells) := by
  obtain ⟨c1, c2⟩ := pvCells_rel hu
  have hmul : i * zl + zl ≤ arr.size := by
    rw [h.size]
    have : (i + 1) * zl ≤ es.length * zl := Nat.mul_le_mul_right _ hi
    rw [Nat.add_mul] at this
    omega
  refine ⟨by rw [size_putC, h.size, List.length_set], fun i' e he => ?_, fun i' j e q he hq => ?_⟩
  · by_cases hii : i = i'
    · subst hii
      rw [List.getElem?_set_self hi] at he
      cases he
      exact hl
    · rw [List.getElem?_set_ne hii] at he
      exact h.len i' e he
  · rw [get_putC]
    by_cases hii : i = i'
    · subst hii
      rw [List.getElem?_set_self hi] at he
      cases he
      have hj : j < zl := by rw [← hl]; exact (List.getElem?_eq_some_iff.1 hq).1
      obtain ⟨x, h1, h2, h3⟩ := c2 j q hq
      refine ⟨x, ?_, h2, h3⟩
      rw [if_pos (by omega), Nat.add_sub_cancel_left]
      exact h1
    · rw [List.getElem?_set_ne hii] at he
      obtain ⟨x, h1, h2, h3⟩ := h.rel i' j e q he hq
      refine ⟨x, ?_, h2, h3⟩
      have hj : j < zl := by rw [← h.len i' e he]; exact (List.getElem?_eq_some_iff.1 hq).1
      rw [if_neg ?_]
      · exact h1
      · intro hc
        rcases Nat.lt_or_gt_of_ne hii with hlt | hgt
        · have : (i + 1) * zl ≤ i' * zl := Nat.mul_le_mul_right _ hlt
          rw [Nat.add_mul] at this
          omega
        · have : (i' + 1) * zl ≤ i * zl := Nat.mul_le_mul_right _ hgt
          rw [Nat.add_mul] at this
          omega
section
variable {N m : Nat} {F A : Nat → Prop} {w0 : World} {st : St} {pl : Nat → Pl} {a : Act} {w : World} {P : Program} [Kn P]
theorem partsW_sound {z : List PV} : ∀ {parts : List (Nat × Operand)} {fl : Fl} {es : List (List PV)} {h : List OB} {K : Fl → List (List PV) → List OB → Prop}, partsW m st z parts fl es h K →
    ConcP N m F A w0 ⟨st.env, h⟩ pl a w → ∃ fl' es' h', K fl' es' h' ∧ h'.length = h.length ∧ es'.length = es.length ∧ ConcP N m F A w0 ⟨st.env, h'⟩ pl a w ∧ Newer A w0.heap.size pl h w pl h' w ∧
      ∀ arr, ElRel (flagS (Sany A w0.heap.size pl h w) (Fresh w0.heap.size pl h w) fl) w z.length es arr →
        ∃ arr', Instr.fill (fun i => some (i * z.length, z.length)) arr (parts.map fun (i, x) => (i, a.eval x)) = some arr' ∧ ElRel (flagS (Sany A w0.heap.size pl h' w) (Fresh w0.heap.size pl h' w) fl') w z.length es' arr'
  | [], fl, es, h, K, hk, hc => ⟨fl, es, h, hk, rfl, rfl, hc, .refl, fun arr ha => ⟨arr, rfl, ha⟩⟩
  | (i, x) :: r, fl, es, h, K, hk, hc => by
    have hk' : withV ⟨st.env, h⟩ true x fun v => frzW m 5 v h fun fl' p h' => (pvCells p).length = z.length ∧ Nat.blt i es.length = true ∧ partsW m st z r (Fl.join fl fl') (es.set i (pvCells p)) h' K := by
      simp only [partsW] at hk
      unfold withV at hk ⊢
      exact hk
    obtain ⟨v, hv, hr⟩ := withV_sound hc.seen hk'
    obtain ⟨fl1, p, h1, ⟨hl, hi, hk1⟩, hlen, hfr⟩ := frzW_sound (N := N) (F := F) (A := A) (w0 := w0) (env := st.env) (pl := pl) (a := a) (w := w) 5 v h _ hv
    have hi : i < es.length := by simpa using hi
    obtain ⟨hc1, hN1, hrel⟩ := hfr hc
    obtain ⟨fl2, es2, h2, hK, hl2, hle, hc2, hN2, harr⟩ := partsW_sound hk1 hc1
    have hFS : ∀ b, Fresh w0.heap.size pl h1 w b → Sany A w0.heap.size pl h1 w b := fun b hb => ⟨hb.2, .inr hb.1⟩
    refine ⟨fl2, es2, h2, hK, hl2.trans hlen, by rw [hle, List.length_set], hc2, hN1.trans hN2, fun arr ha => ?_⟩
    have ha1 : ElRel (flagS (Sany A w0.heap.size pl h1 w) (Fresh w0.heap.size pl h1 w) (Fl.join fl fl1)) w z.length es arr :=
      ha.mono (fun b hb => flag_join_left hFS _ _ b (flagS_mono hN1.S hN1.Fr fl b hb))
    have hp1 : Rel (flagS (Sany A w0.heap.size pl h1 w) (Fresh w0.heap.size pl h1 w) (Fl.join fl fl1)) w p (a.eval x) := (hrel _ (hr rfl)).mono (flag_join_right hFS _ _) (fun _ _ => rfl)
    obtain ⟨arr', hf, ha'⟩ := harr _ (ha1.put hp1 hl hi)
    refine ⟨arr', ?_, ha'⟩
    simp only [List.map_cons, Instr.fill]
    have hsz := (pvCells_rel hp1).1
    have hmul : i * z.length + z.length ≤ arr.size := by
      rw [ha.size]
      have : (i + 1) * z.length ≤ es.length * z.length := Nat.mul_le_mul_right _ hi
      rw [Nat.add_mul] at this
      omega
    have hcnd : ¬ ((a.eval x).cells.size ≠ z.length || decide (i * z.length + (a.eval x).cells.size > arr.size)) = true := by
      simp only [ne_eq, Bool.or_eq_true, decide_eq_true_eq, not_or, Decidable.not_not]
      exact ⟨by rw [hsz, hl], by omega⟩
    rw [if_neg hcnd]
    exact hf
theorem hop_buildSlice (hC : ConcP N m F A w0 st pl a w) (hF : ∀ b, F b → b < w0.heap.size) {o : Oper} {t e : TypeId} {len : Nat} {parts : Array (Nat × Operand)} (ho : o.op = .buildSlice t len parts) (ht : P.underlying t = some (.slice e)) {K : AV → List OB → Prop}
    (hz : zeroOk P e = true) (h0 : P.cellsOf e ≠ 0) (h24 : len * P.cellsOf e ≤ 16777216)
    (h : partsW m st (zeroPV P e) parts.toList .flat (List.replicate len (zeroPV P e)) st.heap fun fl es h => EqL es fun es => K (.osl h.length 0 len) (h ++ [.row true fl (zeroPV P e) es])) :
    ∃ v h', K v h' ∧ HopOk P N m F A w0 st pl a w o v h' := by
  obtain ⟨fl, es, h1, ⟨es', rfl, hK⟩, hl1, hle, hc1, hN1, harr⟩ := partsW_sound h hC
  obtain ⟨i, z, hi, hz1, hz5, hz4, hzl, hel⟩ := ElRel.made (S := flagS (Sany A w0.heap.size pl st.heap w) (Fresh w0.heap.size pl st.heap w) .flat) (w := w) hz len
  obtain ⟨arr, hfill, hela⟩ := harr _ hel
  obtain ⟨hN2, hmk⟩ := hc1.newBlk hF (mkPl w.heap.size 0 len (zeroPV P e).length) arr e (.row true fl (zeroPV P e) es) fun b hb => hb.2.symm
  have hles : es.length = len := by rw [hle]; simp
  have hzpos : 0 < (zeroPV P e).length := by omega
  have hlenM : len ≤ maxLen := by
    have : len * 1 ≤ len * P.cellsOf e := Nat.mul_le_mul_left _ (by omega)
    simp only [maxLen]; omega
  have hrun : (execOp a.eval o).run P w = .ok (.value (.slice (some ⟨w.heap.size, 0, none⟩) len len)) (w.alloc (.cells arr e)) := by
    have h24' : ¬ (len * P.cellsOf e > 2 ^ 24) := by omega
    have hfill' : Instr.fill (fun i => some (i * P.cellsOf e, P.cellsOf e)) (madeCells z.cells (len * P.cellsOf e)) (parts.map fun (i, x) => (i, a.eval x)).toList = some arr := by
      rw [Array.toList_map]
      rw [hzl] at hfill
      exact hfill
    have hzv : (zeroValue e).run P w = .ok z w := by simp [zeroValue, typeInfo, hi, hz1]
    simp only [execOp, ho, Instr.buildSlice, Sem.run_bind, run_underlying ht, Result.andThen_ok, run_sizeOf' h0, if_neg h24']
    by_cases hz0 : len * P.cellsOf e = 0
    · simp only [if_pos hz0, pure_bind]
      rw [hz0] at hfill' ⊢
      have e0 : (Array.map (fun x => (#[] : Array Value)[x % (#[] : Array Value).size]!) (Array.range 0)) = madeCells z.cells 0 := by simp [madeCells]
      rw [e0, hfill']
      simp only [Sem.run_bind, newRow, run_newObj, Result.andThen_ok, Sem.run_pure]
      rfl
    · simp only [if_neg hz0, Sem.run_bind, hzv, Result.andThen_ok, Sem.run_pure]
      have e0 : (Array.map (fun x => z.cells[x % z.cells.size]!) (Array.range (len * P.cellsOf e))) = madeCells z.cells (len * P.cellsOf e) := rfl
      rw [e0, hfill']
      simp only [Sem.run_bind, newRow, run_newObj, Result.andThen_ok, Sem.run_pure]
      rfl
  have hlenh : h1.length = st.heap.length := hl1
  refine ⟨_, _, hK, _, _, plAt pl h1.length (mkPl w.heap.size 0 len (zeroPV P e).length), hrun, fun k hk _ => plAt_lt (by omega), by simp; omega, hmk ?_, .inr ⟨_, rfl, ?_⟩⟩
  · refine ⟨by rw [plAt_eq], hzpos, by rw [plAt_eq]; exact hlenM, by rw [plAt_eq, hles]; exact Nat.le_refl _, hela.len, fun _ => ⟨e, arr, by rw [plAt_eq]; exact heap_new w _, by rw [plAt_eq, hela.size, hles]; simp, fun i j e' p he hp => ?_⟩⟩
    obtain ⟨u, q1, q2, q3⟩ := hela.rel i j e' p he hp
    exact ⟨u, by rw [plAt_eq]; simpa using q1, q2, hN2.rel q3⟩
  · refine .osl (by simp) (fun _ => ?_) ?_ (Nat.le_refl _) ?_
    · rw [plAt_eq]; simp
    · rw [plAt_eq]; simp
    · rw [plAt_eq]; exact hlenM
theorem hop_makeSlice (hC : ConcP N m F A w0 st pl a w) (hF : ∀ b, F b → b < w0.heap.size) {o : Oper} {t e : TypeId} {l c : Operand} (ho : o.op = .makeSlice t l c) (ht : P.underlying t = some (.slice e)) {K : AV → List OB → Prop}
    (h : withV st true l fun vl => ixW vl fun il => withV st true c fun vc => ixW vc fun ic =>
        zeroOk P e = true ∧ P.cellsOf e ≠ 0 ∧ fB (P.bytesOf e) fun b => BndF true (0 ≤ il ∧ il ≤ ic ∧ ic ≤ 9223372036854775807 ∧ (b : Int) * ic ≤ 281474976710656) (EqN il.toNat fun n =>
        EqL (List.replicate n (zeroPV P e)) fun es => K (.osl st.heap.length 0 n) (st.heap ++ [.row true .flat (zeroPV P e) es]))) :
    ∃ v h', K v h' ∧ HopOk P N m F A w0 st pl a w o v h' := by
  obtain ⟨vl, h, hrl⟩ := withV_sound hC.seen h
  obtain ⟨il, h, hil⟩ := ixW_sound (pl := pl) (S := Sany A w0.heap.size pl st.heap w) (Fr := Fresh w0.heap.size pl st.heap w) (w := w) (L := st.heap.length) h
  obtain ⟨vc, h, hrc⟩ := withV_sound hC.seen h
  obtain ⟨ic, ⟨hz, h0, h⟩, hic⟩ := ixW_sound (pl := pl) (S := Sany A w0.heap.size pl st.heap w) (Fr := Fresh w0.heap.size pl st.heap w) (w := w) (L := st.heap.length) h
  obtain ⟨hbd, n', rfl, es', rfl, hK⟩ := fNs_eq h
  obtain ⟨hl0, hlc, hc63, hb⟩ := hbd rfl
  obtain ⟨kl, el, _⟩ := hil _ (hrl rfl)
  obtain ⟨kc, ec, _⟩ := hic _ (hrc rfl)
  obtain ⟨i, z, hi, hz1, hz5, hz4, hzl, hel⟩ := ElRel.made (S := flagS (Sany A w0.heap.size pl st.heap w) (Fresh w0.heap.size pl st.heap w) .flat) (w := w) hz ic.toNat
  have hbi : i.bytes = P.bytesOf e := by simp [Program.bytesOf, hi]
  have hrun : (execOp a.eval o).run P w = .ok (.value (.slice (some ⟨w.heap.size, 0, none⟩) il.toNat ic.toNat)) (w.alloc (.cells (madeCells z.cells (ic.toNat * P.cellsOf e)) e)) := by
    have := run_make (P := P) w t e i z ht hi hz1 kl kc il ic hl0 hlc (by rw [hbi]; exact hb) hc63
    rw [hz5] at this
    simp only [execOp, ho, el, ec, Sem.run_bind, this, Result.andThen_ok, Sem.run_pure]
  obtain ⟨hN2, hmk⟩ := hC.newBlk hF (mkPl w.heap.size 0 ic.toNat (zeroPV P e).length) (madeCells z.cells (ic.toNat * P.cellsOf e)) e (.row true .flat (zeroPV P e) (List.replicate il.toNat (zeroPV P e))) fun b hb => hb.2.symm
  have hcM : ic.toNat ≤ maxLen := by simp only [maxLen]; omega
  refine ⟨_, _, hK, _, _, plAt pl st.heap.length (mkPl w.heap.size 0 ic.toNat (zeroPV P e).length), hrun, fun k hk _ => plAt_lt hk, by simp, hmk ?_, .inr ⟨_, rfl, ?_⟩⟩
  · refine ⟨by rw [plAt_eq], by omega, by rw [plAt_eq]; exact hcM, by rw [plAt_eq]; simp; omega, fun i' e' he => ?_, fun _ => ⟨e, _, by rw [plAt_eq]; exact heap_new w _, by rw [plAt_eq, size_madeCells, hzl]; simp, fun i' j e' p he hp => ?_⟩⟩
    · have := List.mem_of_getElem? he
      simp at this
      rw [this.2]
    · have hlt := (List.getElem?_eq_some_iff.1 he).1
      have he' : (List.replicate ic.toNat (zeroPV P e))[i']? = some e' := by
        rw [List.length_replicate] at hlt
        rw [List.getElem?_replicate, if_pos hlt] at he
        rw [List.getElem?_replicate, if_pos (by omega)]
        exact he
      obtain ⟨u, q1, q2, q3⟩ := hel.rel i' j e' p he' hp
      exact ⟨u, by rw [plAt_eq]; simpa using q1, q2, hN2.rel (fl := .flat) q3⟩
  · refine .osl (by simp) (fun _ => ?_) ?_ (by omega) ?_
    · rw [plAt_eq]; simp
    · rw [plAt_eq]; simp
    · rw [plAt_eq]; exact hcM
end
end Go.Av
namespace Go.Av
open Go.RowKit
section
variable {N m : Nat} {F A : Nat → Prop} {w0 : World} {st : St} {pl : Nat → Pl} {a : Act} {w : World} {P : Program} [Kn P]
theorem setRow_same (w : World) (g : Nat) (cs : Array Value) : (w.setRow g cs).os = w.os ∧ (w.setRow g cs).tape = w.tape ∧ (w.setRow g cs).output = w.output ∧ (w.setRow g cs).heap.size = w.heap.size ∧ ∀ b, b ≠ g → (w.setRow g cs).heap[b]? = w.heap[b]? := by
  refine ⟨rfl, rfl, rfl, by simp [World.setRow], fun b hb => ?_⟩
  simp only [World.setRow, Array.getElem?_modify]
  rw [if_neg (by omega)]
theorem run_storeVar {t : TypeId} (h0 : P.cellsOf t ≠ 0) {g o : Nat} {u : Value} {arr : Array Value} {ty : TypeId} (hs : u.cells.size = P.cellsOf t) (hg : w.heap[g]? = some (.cells arr ty (0, 0))) (hl : o + P.cellsOf t ≤ arr.size) (h1 : ∀ (j : Nat) (x : Value), u.cells[j]? = some x → x.oneCell' = true) :
    (storeVar t ⟨g, o, none⟩ u).run P w = .ok () (w.setRow g (arr.toList.take o ++ u.cells.toList ++ arr.toList.drop (o + P.cellsOf t)).toArray) := by
  have _k : Kn P := inferInstance
  have hst := run_storeCells_at P g o ty u.cells.toList 0 arr w hg (by simpa [hs] using hl) (fun v hv => by
    obtain ⟨j, hj⟩ := List.getElem?_of_mem hv
    exact h1 j v (by rw [← Array.getElem?_toList]; exact hj))
  simp only [Nat.add_zero, Array.length_toList, hs] at hst
  have hn : ¬ (u.cells.size ≠ P.cellsOf t) := by simp [hs]
  simp only [storeVar, Sem.run_bind, run_sizeOf' h0, Result.andThen_ok, if_neg hn, hst]
theorem splice_get {α : Type} {l vs : List α} {o : Nat} (hl : o + vs.length ≤ l.length) (k : Nat) : (l.take o ++ vs ++ l.drop (o + vs.length))[k]? = if o ≤ k ∧ k < o + vs.length then vs[k - o]? else l[k]? := by
  have h1 : (l.take o).length = o := by simp; omega
  by_cases hk : k < o
  · rw [if_neg (by omega), List.append_assoc, List.getElem?_append_left (by omega), List.getElem?_take, if_pos hk]
  · by_cases hk2 : k < o + vs.length
    · rw [if_pos (by omega), List.append_assoc, List.getElem?_append_right (by omega), h1, List.getElem?_append_left (by omega)]
    · rw [if_neg (by omega), List.getElem?_append_right (by simp; omega), List.getElem?_drop]
      congr 1
      simp
      omega
theorem relA_own_eq {pl : Nat → Pl} {L : Nat} {S Fr : Nat → Prop} {w : World} {k off : Nat} {u : Value} (h : RelA pl L S Fr w (.own k off) u) : u = .pointer (some ⟨(pl k).blk, off, none⟩) := by cases h; rfl
theorem hop_store (hC : ConcP N m F A w0 st pl a w) {o : Oper} (hrows : ∀ {k i : Nat} {vy : AV} {nw : Bool} {fl : Fl} {z : List PV} {es : List (List (List PV))} {K : AV → List OB → Prop} {t : TypeId} {x y : Operand}, o.op = .store t x y → RelA pl st.heap.length (Sany A w0.heap.size pl st.heap w) (Fresh w0.heap.size pl st.heap w) w (.orow k i 0) (a.eval x) → RelA pl st.heap.length (Sany A w0.heap.size pl st.heap w) (Fresh w0.heap.size pl st.heap w) w vy (a.eval y) →
      P.cellsOf t = 1 → st.heap[k]? = some (.rows nw fl z es none) → m ≤ k → (takeRowW st.heap z vy fun nw' fl' e h' => BndF true (i < es.length) (EqR (es.set i e) fun es => fAnd nw nw' fun nw => K .junk (h'.set k (.rows nw (Fl.join fl fl') z es none)))) → ∃ v h', K v h' ∧ HopOk P N m F A w0 st pl a w o v h') {t : TypeId} {x y : Operand} (ho : o.op = .store t x y) {K : AV → List OB → Prop}
    (h : withV st true x fun a => withV st true y fun v => P.cellsOf t ≠ 0 ∧ storeW m st.heap (P.cellsOf t) a v fun h => K .junk h) : ∃ v h', K v h' ∧ HopOk P N m F A w0 st pl a w o v h' := by
  obtain ⟨va, h1, hra⟩ := withV_sound hC.seen h
  clear h
  obtain ⟨vy, ⟨h0, h⟩, hry⟩ := withV_sound hC.seen h1
  clear h1
  unfold storeW at h
  split at h
  case h_1 k off =>
    split at h
    case h_2 => exact h.elim
    rename_i cells hk
    obtain ⟨cs, ⟨hcl, hlen', hK⟩, hcs⟩ := cellsW_sound (pl := pl) (L := st.heap.length) (S := Sany A w0.heap.size pl st.heap w) (Fr := Fresh w0.heap.size pl st.heap w) (w := w) h
    have hlen := Nat.le_of_ble_eq_true hlen'
    obtain ⟨c1, c2⟩ := hcs _ (hry rfl)
    obtain ⟨ty, arr, g1, g2, g3⟩ := hC.heap k _ hk
    have hlive : obOwns (pl k) (.fix cells) (pl k).blk := rfl
    have hx : a.eval x = .pointer (some ⟨(pl k).blk, off, none⟩) := by
      have := hra rfl
      generalize a.eval x = q at this ⊢
      cases this with | own => rfl
    have hst := run_storeVar (P := P) (w := w) h0 (g := (pl k).blk) (o := off) (u := a.eval y) (by rw [c1, hcl]) g1 (by omega) (fun j x hx => (c2 j _ x (List.getElem?_eq_getElem (by have := (Array.getElem?_eq_some_iff.1 hx).1; omega)) hx).1)
    obtain ⟨s1, s2, s3, s4, s5⟩ := setRow_same w (pl k).blk (arr.toList.take off ++ (a.eval y).cells.toList ++ arr.toList.drop (off + P.cellsOf t)).toArray
    obtain ⟨hN, hmk⟩ := hC.write hk (ob' := .fix (cells.take off ++ cs ++ cells.drop (off + P.cellsOf t))) rfl rfl hlive s1 s2 s3 s4 s5
    refine ⟨_, _, hK, .skip, _, pl, ?_, fun _ _ _ => rfl, by simp, hmk ?_, .inl ⟨rfl, rfl⟩⟩
    · simp only [execOp, ho, hx, Instr.storeAt, Instr.sureAddr, Sem.run_bind, Sem.run_pure, Result.andThen_ok, hst]
    · have hlu : (a.eval y).cells.toList.length = P.cellsOf t := by simp [c1, hcl]
      refine ⟨ty, _, setRow_heap w _ arr _ ty (0, 0) g1, by simp only [List.size_toArray, List.length_append, List.length_take, List.length_drop, Array.length_toList, c1, hcl, g2], fun j c u hc hu => ?_⟩
      have hu' : (arr.toList.take off ++ (a.eval y).cells.toList ++ arr.toList.drop (off + (a.eval y).cells.toList.length))[j]? = some u := by rw [hlu]; simpa using hu
      rw [splice_get (by rw [hlu]; simp; omega)] at hu'
      have hc' : (cells.take off ++ cs ++ cells.drop (off + cs.length))[j]? = some c := by rw [hcl]; exact hc
      rw [splice_get (by omega)] at hc'
      rw [hlu] at hu'
      rw [hcl] at hc'
      by_cases hj : off ≤ j ∧ j < off + P.cellsOf t
      · rw [if_pos hj] at hu' hc'
        rw [Array.getElem?_toList] at hu'
        exact ⟨(c2 _ _ _ hc' hu').1, hN.relA (c2 _ _ _ hc' hu').2⟩
      · rw [if_neg hj] at hu' hc'
        rw [Array.getElem?_toList] at hu'
        exact ⟨(g3 _ _ _ hc' hu').1, hN.relA (g3 _ _ _ hc' hu').2⟩
  case h_2 k i j =>
    split at h
    case h_1 nw0 fl0 z0 es0 hk0 =>
      obtain ⟨rfl, h1, h2, h3⟩ := h
      exact hrows ho (hra rfl) (hry rfl) h1 hk0 (Nat.le_of_ble_eq_true h2) h3
    obtain ⟨fl', p, h', hk', hlen, hfr⟩ := frzW_sound (N := N) (F := F) (A := A) (w0 := w0) (env := st.env) (pl := pl) (a := a) (w := w) 5 vy st.heap _ h
    obtain ⟨hC', hN0, hrel⟩ := hfr hC
    split at hk'
    case h_2 => exact hk'.elim
    rename_i nw fl z es hk
    obtain ⟨hpl, hj, hi, e0, rfl, es0, rfl, hK⟩ := hk'
    have hj := Nat.le_of_ble_eq_true hj
    have hi := hi rfl
    have hp := hrel _ (hry rfl)
    obtain ⟨c1, c2⟩ := pvCells_rel hp
    obtain ⟨g1, g2, g3, g4, g5, g6⟩ := hC'.heap k _ hk
    obtain ⟨ty, arr, q1, q2, q3⟩ := g6 (by omega)
    have hlive : obOwns (pl k) (.row nw fl z es) (pl k).blk := ⟨by omega, rfl⟩
    have hx : a.eval x = .pointer (some ⟨(pl k).blk, (pl k).off + (i * (pl k).sz + j), none⟩) := by
      have := hra rfl
      generalize a.eval x = q at this ⊢
      cases this with | orow => rfl
    have hic : (i + 1) * z.length ≤ (pl k).cap * z.length := Nat.mul_le_mul_right _ (by omega)
    rw [Nat.add_mul] at hic
    have hcu : (a.eval y).cells.size = P.cellsOf t := by rw [c1, hpl]
    have hst := run_storeVar (P := P) (w := w) h0 (g := (pl k).blk) (o := (pl k).off + (i * (pl k).sz + j)) (u := a.eval y) hcu q1 (by rw [g1]; omega) (fun j' x hx => by
      obtain ⟨x', e1, e2, _⟩ := c2 j' _ (List.getElem?_eq_getElem (by have := (Array.getElem?_eq_some_iff.1 hx).1; omega))
      rw [hx] at e1; cases e1; exact e2)
    obtain ⟨s1, s2, s3, s4, s5⟩ := setRow_same w (pl k).blk (arr.toList.take ((pl k).off + (i * (pl k).sz + j)) ++ (a.eval y).cells.toList ++ arr.toList.drop ((pl k).off + (i * (pl k).sz + j) + P.cellsOf t)).toArray
    obtain ⟨hN, hmk⟩ := hC'.write hk (ob' := .row nw (Fl.join fl fl') z (es.set i ((es.getD i z).take j ++ pvCells p ++ (es.getD i z).drop (j + P.cellsOf t)))) rfl rfl hlive s1 s2 s3 s4 s5
    have hFS : ∀ b, Fresh w0.heap.size pl h' w b → Sany A w0.heap.size pl h' w b := fun b hb => ⟨hb.2, .inr hb.1⟩
    refine ⟨_, _, hK, .skip, _, pl, ?_, fun _ _ _ => rfl, by simp [hlen], hmk ?_, .inl ⟨rfl, rfl⟩⟩
    · simp only [execOp, ho, hx, Instr.storeAt, Instr.sureAddr, Sem.run_bind, Sem.run_pure, Result.andThen_ok, hst]
    · have he := getD_some (d := z) hi
      have hel := g5 _ _ he
      refine ⟨g1, g2, g3, by rw [List.length_set]; exact g4, fun i' e' he' => ?_, fun _ => ⟨ty, _, setRow_heap w _ arr _ ty (0, 0) q1, ?_, fun i' j' e' p' he' hp' => ?_⟩⟩
      · by_cases hii : i = i'
        · subst hii
          rw [List.getElem?_set_self hi] at he'
          cases he'
          simp only [List.length_append, List.length_take, List.length_drop, hpl, hel]
          omega
        · rw [List.getElem?_set_ne hii] at he'; exact g5 _ _ he'
      · simp only [List.size_toArray, List.length_append, List.length_take, List.length_drop, Array.length_toList, hcu]
        rw [g1]
        omega
      · have hlu : (a.eval y).cells.toList.length = P.cellsOf t := by simp [hcu]
        have hget : ∀ k', (arr.toList.take ((pl k).off + (i * (pl k).sz + j)) ++ (a.eval y).cells.toList ++ arr.toList.drop ((pl k).off + (i * (pl k).sz + j) + P.cellsOf t)).toArray[k']? = if (pl k).off + (i * z.length + j) ≤ k' ∧ k' < (pl k).off + (i * z.length + j) + P.cellsOf t then (a.eval y).cells[k' - ((pl k).off + (i * z.length + j))]? else arr[k']? := fun k' => by
          have := splice_get (l := arr.toList) (vs := (a.eval y).cells.toList) (o := (pl k).off + (i * (pl k).sz + j)) (by rw [hlu, g1]; simp; omega) k'
          rw [hlu, g1] at this
          rw [List.getElem?_toArray, g1]
          rw [this]
          simp only [Array.getElem?_toList]
        rw [hget]
        by_cases hii : i = i'
        · subst hii
          rw [List.getElem?_set_self hi] at he'
          cases he'
          have hp2 : ((es.getD i z).take j ++ pvCells p ++ (es.getD i z).drop (j + (pvCells p).length))[j']? = some p' := by rw [hpl]; exact hp'
          rw [splice_get (by rw [hpl, hel]; exact hj), hpl] at hp2
          by_cases hjj : j ≤ j' ∧ j' < j + P.cellsOf t
          · rw [if_pos hjj] at hp2
            obtain ⟨x', e1, e2, e3⟩ := c2 _ _ hp2
            refine ⟨x', ?_, e2, hN.rel (e3.mono (flag_join_right hFS _ _) (fun _ _ => rfl))⟩
            rw [if_pos (by omega)]
            have : (pl k).off + (i * z.length + j') - ((pl k).off + (i * z.length + j)) = j' - j := by omega
            rw [this]; exact e1
          · rw [if_neg hjj] at hp2
            obtain ⟨x', e1, e2, e3⟩ := q3 i j' _ _ he hp2
            refine ⟨x', ?_, e2, hN.rel (e3.mono (flag_join_left hFS _ _) (fun _ _ => rfl))⟩
            rw [if_neg (by omega)]; exact e1
        · rw [List.getElem?_set_ne hii] at he'
          obtain ⟨x', e1, e2, e3⟩ := q3 i' j' _ _ he' hp'
          refine ⟨x', ?_, e2, hN.rel (e3.mono (flag_join_left hFS _ _) (fun _ _ => rfl))⟩
          have hj' : j' < z.length := by rw [← g5 _ _ he']; exact (List.getElem?_eq_some_iff.1 hp').1
          rw [if_neg ?_]
          · exact e1
          · intro hc
            rcases Nat.lt_or_gt_of_ne hii with hlt | hgt
            · have : (i + 1) * z.length ≤ i' * z.length := Nat.mul_le_mul_right _ hlt
              rw [Nat.add_mul] at this
              omega
            · have : (i' + 1) * z.length ≤ i * z.length := Nat.mul_le_mul_right _ hgt
              rw [Nat.add_mul] at this
              omega
  case h_3 => exact h.elim
end
end Go.Av
namespace Go.Av
open Go.RowKit
section
variable {N m : Nat} {F A : Nat → Prop} {w0 : World} {st : St} {pl : Nat → Pl} {a : Act} {w : World} {P : Program} [Kn P]
structure Src (S : Nat → Prop) (w : World) (zl : Nat) (es : List (List PV)) (u : Value) (news : List Value) : Prop where
  shape : ∃ A c, u = .slice A es.length c ∧ (0 < es.length → ∃ ad, A = some ad ∧ ∀ (j : Nat) (x : Value), news[j]? = some x → w.cell? (ad.add j) = some x)
  len : news.length = es.length * zl
  elen : ∀ (i : Nat) (e : List PV), es[i]? = some e → e.length = zl
  one : ∀ x ∈ news, x.oneCell' = true
  rel : ∀ (i j : Nat) (e : List PV) (p : PV), es[i]? = some e → e[j]? = some p → ∃ u, news[i * zl + j]? = some u ∧ u.oneCell' = true ∧ Rel S w p u
theorem idx_split {zl n k : Nat} (h : k < n * zl) : k / zl < n ∧ k % zl < zl ∧ k / zl * zl + k % zl = k := by
  have hz : 0 < zl := by
    rcases Nat.eq_zero_or_pos zl with h0 | h0
    · subst h0; simp at h
    · exact h0
  refine ⟨(Nat.div_lt_iff_lt_mul hz).2 h, Nat.mod_lt _ hz, ?_⟩
  have := Nat.div_add_mod k zl
  rw [Nat.mul_comm] at this
  exact this
theorem Src.mk' {S : Nat → Prop} {zl : Nat} {es : List (List PV)} {A : Option Addr} {c : Nat} (f : Nat → Value) (hs : 0 < es.length → ∃ ad, A = some ad ∧ ∀ j, j < es.length * zl → w.cell? (ad.add j) = some (f j)) (hl : ∀ (i : Nat) (e : List PV), es[i]? = some e → e.length = zl)
    (hr : ∀ (i j : Nat) (e : List PV) (p : PV), es[i]? = some e → e[j]? = some p → (f (i * zl + j)).oneCell' = true ∧ Rel S w p (f (i * zl + j))) : Src S w zl es (.slice A es.length c) ((List.range (es.length * zl)).map f) := by
  have hin : ∀ (i j : Nat) (e : List PV) (p : PV), es[i]? = some e → e[j]? = some p → i * zl + j < es.length * zl := fun i j e p he hp => by
    have h1 : i < es.length := (List.getElem?_eq_some_iff.1 he).1
    have h2 : j < zl := by rw [← hl i e he]; exact (List.getElem?_eq_some_iff.1 hp).1
    have : (i + 1) * zl ≤ es.length * zl := Nat.mul_le_mul_right _ h1
    rw [Nat.add_mul] at this
    omega
  refine ⟨⟨A, c, rfl, fun h0 => ?_⟩, by simp, hl, fun x hx => ?_, fun i j e p he hp => ⟨f (i * zl + j), ?_, (hr i j e p he hp).1, (hr i j e p he hp).2⟩⟩
  · obtain ⟨ad, h1, h2⟩ := hs h0
    refine ⟨ad, h1, fun j x hx => ?_⟩
    have hj : j < es.length * zl := by have := (List.getElem?_eq_some_iff.1 hx).1; simpa using this
    rw [List.getElem?_map, List.getElem?_range hj] at hx
    cases hx
    exact h2 j hj
  · simp at hx
    obtain ⟨k, hk, rfl⟩ := hx
    obtain ⟨h1, h2, h3⟩ := idx_split hk
    have he := List.getElem?_eq_getElem h1
    have hp := List.getElem?_eq_getElem (l := es[k / zl]) (i := k % zl) (by rw [hl _ _ he]; exact h2)
    have := (hr _ _ _ _ he hp).1
    rwa [h3] at this
  · rw [List.getElem?_map, List.getElem?_range (hin i j e p he hp)]
    rfl
theorem osl_src (hC : ConcP N m F A w0 st pl a w) {k lo n : Nat} {nw : Bool} {fl : Fl} {z : List PV} {es : List (List PV)} (hk : st.heap[k]? = some (.row nw fl z es)) (hn : lo + n ≤ es.length) {u : Value}
    (hu : RelA pl st.heap.length (Sany A w0.heap.size pl st.heap w) (Fresh w0.heap.size pl st.heap w) w (.osl k lo n) u) :
    ∃ news, Src (flagS (Sany A w0.heap.size pl st.heap w) (Fresh w0.heap.size pl st.heap w) fl) w z.length ((es.drop lo).take n) u news := by
  obtain ⟨g1, g2, g3, g4, g5, g6⟩ := hC.heap k _ hk
  have hlen : ((es.drop lo).take n).length = n := by simp; omega
  have hget : ∀ (i : Nat) (e : List PV), ((es.drop lo).take n)[i]? = some e → es[lo + i]? = some e ∧ i < n := fun i e he => by
    rw [List.getElem?_take] at he
    split at he
    · rename_i hlt; exact ⟨by rwa [List.getElem?_drop] at he, hlt⟩
    · cases he
  cases hu with
  | @osl _ _ _ C A' hkL hA hCc hn' hM =>
    by_cases hcap : 0 < (pl k).cap
    · obtain ⟨ty, arr, q1, q2, q3⟩ := g6 hcap
      have hat : ∀ (i j : Nat) (e : List PV) (p : PV), ((es.drop lo).take n)[i]? = some e → e[j]? = some p → ∃ x, arr[(pl k).off + lo * z.length + (i * z.length + j)]? = some x ∧ x.oneCell' = true ∧ Rel (flagS (Sany A w0.heap.size pl st.heap w) (Fresh w0.heap.size pl st.heap w) fl) w p x := fun i j e p he hp => by
        obtain ⟨x, h1, h2, h3⟩ := q3 _ _ _ _ (hget i e he).1 hp
        refine ⟨x, ?_, h2, h3⟩
        have : (pl k).off + lo * z.length + (i * z.length + j) = (pl k).off + ((lo + i) * z.length + j) := by rw [Nat.add_mul]; omega
        rw [this]; exact h1
      refine ⟨(List.range (((es.drop lo).take n).length * z.length)).map fun j => arr.getD ((pl k).off + lo * z.length + j) undef, ?_⟩
      have := Src.mk' (w := w) (S := flagS (Sany A w0.heap.size pl st.heap w) (Fresh w0.heap.size pl st.heap w) fl) (zl := z.length) (es := (es.drop lo).take n) (A := A') (c := C) (fun j => arr.getD ((pl k).off + lo * z.length + j) undef) (fun h0 => ?_) (fun i e he => g5 _ _ (hget i e he).1) (fun i j e p he hp => ?_)
      · rw [hlen] at this ⊢; exact this
      · refine ⟨_, hA (by omega), fun j hj => ?_⟩
        rw [Addr.add_lit, cell_of_row w _ _ arr ty (0, 0) q1, g1]
        obtain ⟨h1, h2, h3⟩ := idx_split hj
        have he := List.getElem?_eq_getElem h1
        have hp := List.getElem?_eq_getElem (l := ((es.drop lo).take n)[j / z.length]) (i := j % z.length) (by rw [g5 _ _ (hget _ _ he).1]; exact h2)
        obtain ⟨x, hx, _, _⟩ := hat _ _ _ _ he hp
        rw [h3] at hx
        rw [Array.getD_eq_getD_getElem?, hx]; rfl
      · obtain ⟨x, hx, h1, h2⟩ := hat i j e p he hp
        rw [Array.getD_eq_getD_getElem?, hx]
        exact ⟨h1, h2⟩
    · have hn0 : n = 0 := by omega
      subst hn0
      refine ⟨[], ⟨⟨A', C, by rw [hlen], fun h0 => by rw [hlen] at h0; omega⟩, by simp, fun i e he => absurd (hget i e he).2 (by omega), fun x hx => by simp at hx, fun i j e p he => absurd (hget i e he).2 (by omega)⟩⟩
theorem Src.flat {S S' : Nat → Prop} {zl : Nat} {es : List (List PV)} {u : Value} {news : List Value} (h : Src S w zl es u news) (hc : ∀ e ∈ es, ∀ p ∈ e, ∃ v, p = .c v) : Src S' w zl es u news := by
  refine ⟨h.shape, h.len, h.elen, h.one, ?_⟩
  intro i j e p he hp
  obtain ⟨x, h1, h2, h3⟩ := h.rel i j e p he hp
  obtain ⟨v, rfl⟩ := hc e (List.mem_of_getElem? he) p (List.mem_of_getElem? hp)
  cases h3 with
  | c a b => exact ⟨_, h1, h2, .c a b⟩
theorem FlF.out {fl : Fl} {es : List (List PV)} {K : Fl → Prop} (h : FlF fl es K) : ∃ fl', K fl' ∧ ∀ {S Fr : Nat → Prop} {w : World} {zl : Nat} {u : Value} {news : List Value}, Src (flagS S Fr fl) w zl es u news → Src (flagS S Fr fl') w zl es u news := by
  rcases h with ⟨hc, hk⟩ | hk
  · exact ⟨.flat, hk, fun hs => hs.flat hc⟩
  · exact ⟨fl, hk, fun hs => hs⟩
theorem srcW_sound (hC : ConcP N m F A w0 st pl a w) {k zl : Nat} {v : AV} {K : Fl → List (List PV) → Prop} (h : srcW st.heap k zl v K) :
    ∃ fl es, K fl es ∧ ∀ u, RelA pl st.heap.length (Sany A w0.heap.size pl st.heap w) (Fresh w0.heap.size pl st.heap w) w v u → ∃ news, Src (flagS (Sany A w0.heap.size pl st.heap w) (Fresh w0.heap.size pl st.heap w) fl) w zl es u news := by
  unfold srcW at h
  split at h
  case h_1 fl z es =>
    obtain ⟨rfl, hK⟩ := h
    obtain ⟨fl', hK, hfl⟩ := hK.out
    refine ⟨fl', es, hK, fun u hu => ?_⟩
    suffices hh : ∃ news, Src (flagS (Sany A w0.heap.size pl st.heap w) (Fresh w0.heap.size pl st.heap w) fl) w z.length es u news from let ⟨news, hs⟩ := hh; ⟨news, hfl hs⟩
    obtain ⟨A', cap, ad, f, rfl, g1, g2, g3, g4, g5, g6, g7, g8⟩ := hu.lstinv
    refine ⟨_, Src.mk' (fun j => f (j / z.length) (j % z.length)) (fun h0 => ⟨ad, g3 h0, fun j hj => ?_⟩) g5 (fun i j e p he hp => ?_)⟩
    · obtain ⟨h1, h2, h3⟩ := idx_split hj
      have he := List.getElem?_eq_getElem h1
      have hp := List.getElem?_eq_getElem (l := es[j / z.length]) (i := j % z.length) (by rw [g5 _ _ he]; exact h2)
      have := g6 _ _ _ _ he hp
      rwa [h3] at this
    · have hj : j < z.length := by rw [← g5 _ _ he]; exact (List.getElem?_eq_some_iff.1 hp).1
      have e1 : (i * z.length + j) / z.length = i := by
        rw [Nat.add_comm, Nat.add_mul_div_right _ _ (by omega), Nat.div_eq_of_lt hj, Nat.zero_add]
      have e2 : (i * z.length + j) % z.length = j := by rw [Nat.add_comm, Nat.add_mul_mod_self_right, Nat.mod_eq_of_lt hj]
      rw [e1, e2]
      exact ⟨g7 _ _ _ _ he hp, g8 _ _ _ _ he hp⟩
  case h_2 k' lo n =>
    split at h
    case h_2 => exact h.elim
    rename_i nw fl z es hk
    obtain ⟨hz, hn, es', rfl, hK⟩ := h
    have hn := hn rfl
    obtain ⟨fl', hK, hfl⟩ := hK.out
    refine ⟨fl', _, hK, fun u hu => ?_⟩
    obtain ⟨news, hs⟩ := osl_src hC hk hn hu
    rw [hz] at hs
    exact ⟨news, hfl hs⟩
  case h_3 => exact h.elim
theorem Src.firstCells {S : Nat → Prop} {zl : Nat} {es : List (List PV)} {u : Value} {news : List Value} (h : Src S w zl es u news) (w' : World) (hw : Same w w') : (Builtin.firstCells zl es.length u).run P w' = .ok news.toArray w' := by
  have _k : Kn P := inferInstance
  obtain ⟨A', c, rfl, hA⟩ := h.shape
  cases A' with
  | none =>
    have h0 : es.length = 0 := by
      rcases Nat.eq_zero_or_pos es.length with h0 | h0
      · exact h0
      · obtain ⟨ad, h1, _⟩ := hA h0; cases h1
    have : news = [] := List.eq_nil_of_length_eq_zero (by rw [h.len, h0]; simp)
    subst this
    simp [Builtin.firstCells]
  | some ad =>
    refine run_firstCells_some w' zl es.length ad es.length c news h.len fun j v hv => ?_
    rcases Nat.eq_zero_or_pos es.length with h0 | h0
    · have : news = [] := List.eq_nil_of_length_eq_zero (by rw [h.len, h0]; simp)
      subst this
      simp at hv
    · obtain ⟨ad', h1, h2⟩ := hA h0
      cases h1
      exact hw.cell (h2 j v hv)
theorem run_append_in {t ty e : TypeId} (ht : P.underlying t = some (.slice e)) (h0 : P.cellsOf e ≠ 0) {S : Nat → Prop} {g o n C : Nat} {arr : Array Value} {tb : TypeId} (hg : w.heap[g]? = some (.cells arr tb (0, 0)))
    {es : List (List PV)} {u : Value} {news : List Value} (hs : Src S w (P.cellsOf e) es u news) (hroom : n + es.length ≤ C) (hfit : o + n * P.cellsOf e + news.length ≤ arr.size) :
    (Builtin.append_ #[t, t] ty #[.slice (some ⟨g, o, none⟩) n C, u]).run P w = .ok (.slice (some ⟨g, o, none⟩) (n + es.length) C) (w.setRow g (arr.toList.take (o + n * P.cellsOf e) ++ news ++ arr.toList.drop (o + n * P.cellsOf e + news.length)).toArray) := by
  have hf := hs.firstCells (P := P) w (fun _ _ => rfl)
  have hst := run_storeCells_at P g (o + n * P.cellsOf e) tb news 0 arr w hg (by simpa using hfit) hs.one
  simp only [Nat.add_zero] at hst
  obtain ⟨A', c, rfl, hA⟩ := hs.shape
  simp [Builtin.append_, run_underlying ht, run_sizeOf' h0, Builtin.lenOf, hroom, hf, Addr.add_lit, hst]
theorem run_append_in0 {t ty e : TypeId} (ht : P.underlying t = some (.slice e)) (h0 : P.cellsOf e ≠ 0) {S : Nat → Prop} {es : List (List PV)} {u : Value} {news : List Value} (hs : Src S w (P.cellsOf e) es u news) (hes : es.length = 0) (A' : Option Addr) :
    (Builtin.append_ #[t, t] ty #[.slice A' 0 0, u]).run P w = .ok (.slice A' 0 0) w := by
  have hf := hs.firstCells (P := P) w (fun _ _ => rfl)
  have hn : news = [] := List.eq_nil_of_length_eq_zero (by rw [hs.len, hes]; simp)
  subst hn
  obtain ⟨A2, c, rfl, hA⟩ := hs.shape
  rw [hes] at hf ⊢
  cases A' with
  | none => simp [Builtin.append_, run_underlying ht, run_sizeOf' h0, Builtin.lenOf, hf]
  | some b => simp [Builtin.append_, run_underlying ht, run_sizeOf' h0, Builtin.lenOf, hf, storeCells]
end
end Go.Av
namespace Go.Av
open Go.RowKit
section
variable {N m : Nat} {F A : Nat → Prop} {w0 : World} {st : St} {pl : Nat → Pl} {a : Act} {w : World} {P : Program} [Kn P]
theorem append_get {es1 es2 : List (List PV)} {i : Nat} {e : List PV} (h : (es1 ++ es2)[i]? = some e) : (i < es1.length ∧ es1[i]? = some e) ∨ (es1.length ≤ i ∧ es2[i - es1.length]? = some e) := by
  rcases Nat.lt_or_ge i es1.length with hi | hi
  · left; rw [List.getElem?_append_left hi] at h; exact ⟨hi, h⟩
  · right; rw [List.getElem?_append_right hi] at h; exact ⟨hi, h⟩
set_option maxHeartbeats 1000000 in
theorem hop_appendSelf (hC : ConcP N m F A w0 st pl a w) {o : Oper} {t e : TypeId} {d s : Operand} (ht : P.underlying t = some (.slice e))
    (hexec : ∀ {v : Value} {w' : World}, (Builtin.append_ #[t, t] o.type #[a.eval d, a.eval s]).run P w = .ok v w' → (execOp a.eval o).run P w = .ok (.value v) w')
    {k lo n : Nat} {nw : Bool} {fl : Fl} {z : List PV} {es : List (List PV)} {vs : AV} (hk : st.heap[k]? = some (.row nw fl z es)) (hz : z.length = P.cellsOf e)
    (hd : RelA pl st.heap.length (Sany A w0.heap.size pl st.heap w) (Fresh w0.heap.size pl st.heap w) w (.osl k lo n) (a.eval d)) (hs : RelA pl st.heap.length (Sany A w0.heap.size pl st.heap w) (Fresh w0.heap.size pl st.heap w) w vs (a.eval s))
    {K : AV → List OB → Prop} (h : selfW st.heap k lo n nw fl z es vs K) : ∃ v h', K v h' ∧ HopOk P N m F A w0 st pl a w o v h' := by
  unfold selfW at h
  obtain ⟨fl', es', ⟨n', rfl, hb, es2, rfl, hK⟩, hsrc⟩ := srcW_sound hC h
  have hb := hb rfl
  obtain ⟨news, hS⟩ := hsrc _ hs
  obtain ⟨g1, g2, g3, g4, g5, g6⟩ := hC.heap k _ hk
  have h0 : P.cellsOf e ≠ 0 := by omega
  rw [hz] at hS
  have hFS : ∀ b, Fresh w0.heap.size pl st.heap w b → Sany A w0.heap.size pl st.heap w b := fun b hb => ⟨hb.2, .inr hb.1⟩
  refine ⟨_, _, hK, ?_⟩
  have hlen2 : (es.take (lo + n) ++ es' ++ es.drop (lo + n + es'.length)).length = es.length := by
    simp only [List.length_append, List.length_take, List.length_drop]; omega
  have hget : ∀ (i : Nat) (e : List PV), (es.take (lo + n) ++ es' ++ es.drop (lo + n + es'.length))[i]? = some e → (lo + n ≤ i ∧ i < lo + n + es'.length ∧ es'[i - (lo + n)]? = some e) ∨ (¬(lo + n ≤ i ∧ i < lo + n + es'.length) ∧ es[i]? = some e) := by
    intro i e he
    have hsp := splice_get (l := es) (vs := es') (o := lo + n) (by omega) i
    rw [hsp] at he
    by_cases hi : lo + n ≤ i ∧ i < lo + n + es'.length
    · rw [if_pos hi] at he; exact .inl ⟨hi.1, hi.2, he⟩
    · rw [if_neg hi] at he; exact .inr ⟨hi, he⟩
  have helen : ∀ (i : Nat) (e : List PV), (es.take (lo + n) ++ es' ++ es.drop (lo + n + es'.length))[i]? = some e → e.length = z.length := by
    intro i e he
    rcases hget i e he with ⟨_, _, h3⟩ | ⟨_, h3⟩
    · rw [hz]; exact hS.elen _ _ h3
    · exact g5 _ _ h3
  cases hde : a.eval d with
  | slice Ad n' C =>
    rw [hde] at hd
    cases hd with
    | osl hkL hA hCc hn' hM =>
      have hroom : n + es'.length ≤ C := by omega
      by_cases hC0 : 0 < C
      · have hAd := hA (by omega)
        have hcap : 0 < (pl k).cap := by omega
        obtain ⟨ty, arr, q1, q2, q3⟩ := g6 hcap
        have hlive : obOwns (pl k) (.row nw fl z es) (pl k).blk := ⟨by omega, rfl⟩
        have hnl : news.length = es'.length * z.length := by rw [hS.len, hz]
        have hCz : lo * z.length + C * z.length = (pl k).cap * z.length := by rw [← Nat.add_mul, hCc]
        have hfit : (pl k).off + lo * (pl k).sz + n * P.cellsOf e + news.length ≤ arr.size := by
          rw [hnl, g1, ← hz]
          have : (n + es'.length) * z.length ≤ C * z.length := Nat.mul_le_mul_right _ hroom
          rw [Nat.add_mul] at this
          omega
        have hrun := run_append_in (P := P) (t := t) (ty := o.type) ht h0 (C := C) (n := n) q1 hS hroom hfit
        obtain ⟨s1, s2, s3, s4, s5⟩ := setRow_same w (pl k).blk (arr.toList.take ((pl k).off + lo * (pl k).sz + n * P.cellsOf e) ++ news ++ arr.toList.drop ((pl k).off + lo * (pl k).sz + n * P.cellsOf e + news.length)).toArray
        obtain ⟨hN, hmk⟩ := hC.write hk (ob' := .row nw (Fl.join fl fl') z (es.take (lo + n) ++ es' ++ es.drop (lo + n + es'.length))) rfl rfl hlive s1 s2 s3 s4 s5
        refine ⟨_, _, pl, hexec (by rw [hde, hAd]; exact hrun), fun _ _ _ => rfl, by simp, hmk ?_, .inr ⟨_, rfl, ?_⟩⟩
        · refine ⟨g1, g2, g3, by rw [hlen2]; exact g4, helen, fun _ => ⟨ty, _, setRow_heap w _ arr _ ty (0, 0) q1, ?_, fun i j e' p he hp => ?_⟩⟩
          · simp only [List.size_toArray, List.length_append, List.length_take, List.length_drop, Array.length_toList]
            rw [g1] at hfit ⊢
            omega
          · have hj : j < z.length := by rw [← helen i e' he]; exact (List.getElem?_eq_some_iff.1 hp).1
            have hgw : ∀ k', (arr.toList.take ((pl k).off + lo * (pl k).sz + n * P.cellsOf e) ++ news ++ arr.toList.drop ((pl k).off + lo * (pl k).sz + n * P.cellsOf e + news.length)).toArray[k']? = if (pl k).off + (lo + n) * z.length ≤ k' ∧ k' < (pl k).off + (lo + n) * z.length + es'.length * z.length then news[k' - ((pl k).off + (lo + n) * z.length)]? else arr[k']? := fun k' => by
              have hsp := splice_get (l := arr.toList) (vs := news) (o := (pl k).off + lo * (pl k).sz + n * P.cellsOf e) (by simpa using hfit) k'
              have e3 : (pl k).off + lo * (pl k).sz + n * P.cellsOf e = (pl k).off + (lo + n) * z.length := by rw [g1, ← hz, Nat.add_mul]; omega
              rw [List.getElem?_toArray, hsp, hnl, e3]
              simp only [Array.getElem?_toList]
            rw [hgw]
            rcases hget i e' he with ⟨h1, h2, h3⟩ | ⟨h1, h3⟩
            · obtain ⟨x, r1, r2, r3⟩ := hS.rel _ _ _ _ h3 hp
              have hi4 : i * z.length = (lo + n) * z.length + (i - (lo + n)) * z.length := by rw [← Nat.add_mul]; congr 1; omega
              have hi5 : (i - (lo + n) + 1) * z.length ≤ es'.length * z.length := Nat.mul_le_mul_right _ (by omega)
              rw [Nat.add_mul (i - (lo + n))] at hi5
              refine ⟨x, ?_, r2, hN.rel (r3.mono (flag_join_right hFS _ _) (fun _ _ => rfl))⟩
              rw [if_pos (by omega)]
              have : (pl k).off + (i * z.length + j) - ((pl k).off + (lo + n) * z.length) = (i - (lo + n)) * P.cellsOf e + j := by rw [← hz]; omega
              rw [this]; exact r1
            · obtain ⟨x, r1, r2, r3⟩ := q3 _ _ _ _ h3 hp
              refine ⟨x, ?_, r2, hN.rel (r3.mono (flag_join_left hFS _ _) (fun _ _ => rfl))⟩
              rw [if_neg ?_]
              · exact r1
              · intro hcc
                rcases Nat.lt_or_ge i (lo + n) with hlt | hge
                · have : (i + 1) * z.length ≤ (lo + n) * z.length := Nat.mul_le_mul_right _ hlt
                  rw [Nat.add_mul i] at this
                  omega
                · have : (lo + n + es'.length) * z.length ≤ i * z.length := Nat.mul_le_mul_right _ (by omega)
                  rw [Nat.add_mul (lo + n)] at this
                  omega
        · have hAd' : Ad = some ⟨(pl k).blk, (pl k).off + lo * (pl k).sz, none⟩ := hAd
          exact .osl (by simpa using hkL) (fun _ => rfl) hCc hroom hM
      · have hC0' : C = 0 := by omega
        subst hC0'
        have hn0 : n = 0 := by omega
        have he0 : es'.length = 0 := by omega
        subst hn0
        have hrun := run_append_in0 (P := P) (w := w) (t := t) (ty := o.type) ht h0 hS he0 Ad
        have hes0 : es' = [] := List.eq_nil_of_length_eq_zero he0
        subst hes0
        obtain ⟨hN, hmk⟩ := hC.write' hk (ob' := .row nw (Fl.join fl fl') z (es.take (lo + 0) ++ [] ++ es.drop (lo + 0 + ([] : List (List PV)).length))) (w' := w) rfl rfl rfl rfl rfl rfl (fun _ _ => rfl)
        refine ⟨.value (.slice Ad 0 0), w, pl, hexec (by rw [hde]; exact hrun), fun _ _ _ => rfl, by simp, hmk ?_, .inr ⟨_, rfl, ?_⟩⟩
        · have e0 : es.take (lo + 0) ++ [] ++ es.drop (lo + 0 + ([] : List (List PV)).length) = es := by simp
          rw [e0]
          refine ⟨g1, g2, g3, g4, g5, fun hcap => ?_⟩
          obtain ⟨ty, arr, q1, q2, q3⟩ := g6 hcap
          refine ⟨ty, arr, q1, q2, fun i j e p he hp => ?_⟩
          obtain ⟨x, r1, r2, r3⟩ := q3 i j e p he hp
          rw [e0] at hN
          exact ⟨x, r1, r2, hN.rel (r3.mono (flag_join_left hFS _ _) (fun _ _ => rfl))⟩
        · exact .osl (by simpa using hkL) hA hCc (by simp) hM
  | _ => rw [hde] at hd; cases hd
theorem hop_append (hC : ConcP N m F A w0 st pl a w) (hF : ∀ b, F b → b < w0.heap.size) {o : Oper} {t : TypeId} {d s : Operand} {args : Array Operand} {ts : Array TypeId} (ho : o.op = .call { callee := .builtin .append, args, argTypes := ts }) (hargs : args.toList = [d, s]) (hts : ts.toList = [t, t])
    {vd vs : AV} (hd : RelA pl st.heap.length (Sany A w0.heap.size pl st.heap w) (Fresh w0.heap.size pl st.heap w) w vd (a.eval d)) (hs : RelA pl st.heap.length (Sany A w0.heap.size pl st.heap w) (Fresh w0.heap.size pl st.heap w) w vs (a.eval s))
    {K : AV → List OB → Prop} (hrows : ∀ {e : TypeId} {k k' : Nat} {nw nw' : Bool} {fl fl' : Fl} {z : List PV} {es es' : List (List (List PV))}, P.underlying t = some (.slice e) → P.cellsOf e = 1 → zeroOk P e = true → st.heap[k]? = some (.rows nw fl z es none) → st.heap[k']? = some (.rows nw' fl' z es' none) → k ≠ k' →
      RelA pl st.heap.length (Sany A w0.heap.size pl st.heap w) (Fresh w0.heap.size pl st.heap w) w (.osl k 0 es.length) (a.eval d) → RelA pl st.heap.length (Sany A w0.heap.size pl st.heap w) (Fresh w0.heap.size pl st.heap w) w (.osl k' 0 es'.length) (a.eval s) →
      (es.length + es'.length) * P.bytesOf e ≤ 140737488355328 → es.length + es'.length ≤ 9223372036854775807 → HopOk P N m F A w0 st pl a w o (.osl st.heap.length 0 (es.length + es'.length)) ((st.heap.set k .dead).set k' .dead ++ [.rows (nw && nw') (Fl.join fl fl') z (es ++ es') none]))
    (h : appendW P st.heap t vd vs K) : ∃ v h', K v h' ∧ HopOk P N m F A w0 st pl a w o v h' := by
  have hargs' : args = #[d, s] := by apply Array.ext'; simpa using hargs
  have hts' : ts = #[t, t] := by apply Array.ext'; simpa using hts
  subst hargs' hts'
  have hexec : ∀ {v : Value} {w' : World}, (Builtin.append_ #[t, t] o.type #[a.eval d, a.eval s]).run P w = .ok v w' → (execOp a.eval o).run P w = .ok (.value v) w' := by
    intro v w' hr
    simp only [execOp, ho, resolve, invoke, builtin, Sem.run_bind, Sem.run_pure, Result.andThen_ok, List.map_toArray, List.map_cons, List.map_nil, hr]
  unfold appendW at h
  split at h
  case h_2 => exact h.elim
  rename_i e ht
  split at h
  case h_2 => exact h.elim
  rename_i k lo n
  split at h
  case h_3 => exact h.elim
  case h_2 nw fl z es hk =>
    obtain ⟨h1, hzo, hln, h⟩ := h
    obtain ⟨rfl, rfl⟩ := hln rfl
    split at h
    case h_2 => exact h.elim
    rename_i k' lo' n'
    split at h
    case h_2 => exact h.elim
    rename_i nw' fl' z' es' hk'
    obtain ⟨rfl, hne, hln', h⟩ := h
    obtain ⟨rfl, rfl⟩ := hln' rfl
    obtain ⟨n2, rfl, hbd, es2, rfl, hK⟩ := fNs_eq h
    have hK := fAnd_eq hK
    obtain ⟨hb, h63⟩ := hbd rfl
    exact ⟨_, _, hK, hrows ht (Nat.eq_of_beq_eq_true h1) hzo hk hk' (fun e0 => by subst e0; simp at hne) hd hs hb h63⟩
  rename_i nw fl z es hk
  obtain ⟨hz, hzo, hn, h⟩ := h
  have hn := hn rfl
  split at h
  case h_1 => exact hop_appendSelf hC ht hexec hk hz hd hs h
  obtain ⟨fl', es', h, hsrc⟩ := srcW_sound hC h
  obtain ⟨n', rfl, hbd, es'', rfl, hK⟩ := fNs_eq h
  obtain ⟨hb, h63⟩ := hbd rfl
  obtain ⟨news, hS⟩ := hsrc _ hs
  obtain ⟨g1, g2, g3, g4, g5, g6⟩ := hC.heap k _ hk
  have h0 : P.cellsOf e ≠ 0 := by omega
  rw [hz] at hS
  have hFS : ∀ b, Fresh w0.heap.size pl st.heap w b → Sany A w0.heap.size pl st.heap w b := fun b hb => ⟨hb.2, .inr hb.1⟩
  have hlt : ((es.drop lo).take n).length = n := by simp; omega
  have hget : ∀ (i : Nat) (e : List PV), ((es.drop lo).take n)[i]? = some e → es[lo + i]? = some e ∧ i < n := fun i e he => by
    rw [List.getElem?_take] at he
    split at he
    · rename_i hlt; exact ⟨by rwa [List.getElem?_drop] at he, hlt⟩
    · cases he
  have hll : ((es.drop lo).take n ++ es').length = n + es'.length := by rw [List.length_append, hlt]
  have helen : ∀ (i : Nat) (e : List PV), ((es.drop lo).take n ++ es')[i]? = some e → e.length = z.length := by
    intro i e he
    rcases append_get he with ⟨h1, h2⟩ | ⟨h1, h2⟩
    · exact g5 _ _ (hget i e h2).1
    · rw [hz]; exact hS.elen _ _ h2
  refine ⟨_, _, hK, ?_⟩
  obtain ⟨olds, hO⟩ := osl_src hC hk hn hd
  cases hde : a.eval d with
  | slice Ad n' C =>
    rw [hde] at hd
    cases hd with
    | osl hkL hA hCc hn' hM =>
      by_cases hroom : n + es'.length ≤ C
      · by_cases hC0 : 0 < C
        · -- in place
          have hAd := hA (by omega)
          have hcap : 0 < (pl k).cap := by omega
          obtain ⟨ty, arr, q1, q2, q3⟩ := g6 hcap
          have hlive : 0 < (pl k).cap := by omega
          have hnl : news.length = es'.length * z.length := by rw [hS.len, hz]
          have hCz : lo * z.length + C * z.length = (pl k).cap * z.length := by rw [← Nat.add_mul, hCc]
          have hfit : (pl k).off + lo * (pl k).sz + n * P.cellsOf e + news.length ≤ arr.size := by
            rw [hnl, g1, ← hz]
            have : (n + es'.length) * z.length ≤ C * z.length := Nat.mul_le_mul_right _ hroom
            rw [Nat.add_mul] at this
            omega
          have hrun := run_append_in (P := P) (t := t) (ty := o.type) ht h0 (C := C) (n := n) q1 hS hroom hfit
          obtain ⟨s1, s2, s3, s4, s5⟩ := setRow_same w (pl k).blk (arr.toList.take ((pl k).off + lo * (pl k).sz + n * P.cellsOf e) ++ news ++ arr.toList.drop ((pl k).off + lo * (pl k).sz + n * P.cellsOf e + news.length)).toArray
          obtain ⟨hN, hmk⟩ := hC.move hk hlive (fl' := Fl.join fl fl') (z' := z) (es' := (es.drop lo).take n ++ es') s1 s2 s3 s4 s5 (mkPl (pl k).blk ((pl k).off + lo * (pl k).sz) C z.length) rfl
          refine ⟨_, _, plAt pl st.heap.length (mkPl (pl k).blk ((pl k).off + lo * (pl k).sz) C z.length), hexec (by rw [hde, hAd]; exact hrun), fun k' hk' _ => plAt_lt hk', by simp, hmk ?_, .inr ⟨_, rfl, ?_⟩⟩
          · refine ⟨by rw [plAt_eq], g2, by rw [plAt_eq]; show C ≤ maxLen; omega, by rw [plAt_eq, hll]; exact hroom, helen, fun _ => ⟨ty, _, by rw [plAt_eq]; exact setRow_heap w _ arr _ ty (0, 0) q1, ?_, fun i j e' p he hp => ?_⟩⟩
            · rw [plAt_eq]
              simp only [List.size_toArray, List.length_append, List.length_take, List.length_drop, Array.length_toList]
              rw [g1] at hfit ⊢
              omega
            · rw [plAt_eq]
              simp only
              have hsp := splice_get (l := arr.toList) (vs := news) (o := (pl k).off + lo * (pl k).sz + n * P.cellsOf e) (by simpa using hfit) ((pl k).off + lo * (pl k).sz + (i * z.length + j))
              rw [Array.getElem?_toList] at hsp
              rw [hsp]
              have hj : j < z.length := by rw [← helen i e' he]; exact (List.getElem?_eq_some_iff.1 hp).1
              rcases append_get he with ⟨h1, h2⟩ | ⟨h1, h2⟩
              · obtain ⟨h3, h4⟩ := hget i e' h2
                obtain ⟨x, r1, r2, r3⟩ := q3 _ _ _ _ h3 hp
                refine ⟨x, ?_, r2, hN.rel (r3.mono (flag_join_left hFS _ _) (fun _ _ => rfl))⟩
                have hi1 : (i + 1) * z.length ≤ n * z.length := Nat.mul_le_mul_right _ h4
                rw [Nat.add_mul] at hi1
                rw [if_neg (by rw [← hz]; omega), g1]
                have : (pl k).off + lo * z.length + (i * z.length + j) = (pl k).off + ((lo + i) * z.length + j) := by rw [Nat.add_mul]; omega
                rw [this, Array.getElem?_toList]; exact r1
              · rw [hlt] at h1 h2
                obtain ⟨x, r1, r2, r3⟩ := hS.rel _ _ _ _ h2 hp
                refine ⟨x, ?_, r2, hN.rel (r3.mono (flag_join_right hFS _ _) (fun _ _ => rfl))⟩
                have hi2 : i - n < es'.length := (List.getElem?_eq_some_iff.1 h2).1
                have hi3 : (i - n + 1) * z.length ≤ es'.length * z.length := Nat.mul_le_mul_right _ hi2
                rw [Nat.add_mul] at hi3
                have hi4 : i * z.length = n * z.length + (i - n) * z.length := by rw [← Nat.add_mul]; congr 1; omega
                rw [if_pos (by rw [← hz, hnl]; omega)]
                have : (pl k).off + lo * (pl k).sz + (i * z.length + j) - ((pl k).off + lo * (pl k).sz + n * P.cellsOf e) = (i - n) * P.cellsOf e + j := by rw [← hz]; omega
                rw [this]; exact r1
          · refine .osl (by simp) (fun _ => ?_) (by rw [plAt_eq]; simp) hroom (by rw [plAt_eq]; show C ≤ maxLen; omega)
            rw [plAt_eq]; simp
        · -- no room, and none is wanted
          have hC0' : C = 0 := by omega
          subst hC0'
          have hn0 : n = 0 := by omega
          have he0 : es'.length = 0 := by omega
          subst hn0
          have hrun := run_append_in0 (P := P) (w := w) (t := t) (ty := o.type) ht h0 hS he0 Ad
          obtain ⟨hN1, hC1⟩ := hC.kill k
          obtain ⟨hN2, hC2⟩ := hC1.newNil hF nw (Fl.join fl fl') z g2
          have hes : (es.drop lo).take 0 ++ es' = [] := by rw [List.eq_nil_of_length_eq_zero he0]; simp
          rw [hes, he0]
          have hsl : (st.heap.set k OB.dead).length = st.heap.length := by simp
          refine ⟨.value (.slice Ad 0 0), w, plAt pl (st.heap.set k OB.dead).length (mkPl 0 0 0 z.length), hexec (by rw [hde]; exact hrun), fun k' hk' _ => plAt_lt (by rw [hsl]; exact hk'), by simp, hC2, .inr ⟨_, rfl, ?_⟩⟩
          refine .osl (by simp) (fun hlt => ?_) ?_ (Nat.le_refl _) ?_
          · rw [← hsl, plAt_eq] at hlt; exact absurd hlt (by simp)
          · rw [← hsl, plAt_eq]
          · rw [← hsl, plAt_eq]; exact Nat.zero_le _
      · -- a new block
        obtain ⟨i, zv, hi, hz1, hz2, hz3, hz4, hz5⟩ := zeroOk_spec hzo
        have hbi : i.bytes = P.bytesOf e := by simp [Program.bytesOf, hi]
        have hSO : Src (flagS (Sany A w0.heap.size pl st.heap w) (Fresh w0.heap.size pl st.heap w) fl) w (P.cellsOf e) ((es.drop lo).take n) (a.eval d) olds := by rw [← hz]; exact hO
        rw [hde] at hSO
        -- the run
        have hm0 : 0 < es'.length := by omega
        obtain ⟨A', c, hse, hA'⟩ := hS.shape
        obtain ⟨ad, rfl, had⟩ := hA' hm0
        have hfit : Builtin.nextslicecap (n + es'.length) C * i.bytes ≤ 281474976710656 := growslice_fits (by omega) (by rw [hbi]; exact hb)
        have hol : olds.length = n * i.size := by rw [hSO.len, hlt, hz5]
        have hrun : (Builtin.append_ #[t, t] o.type #[.slice Ad n C, a.eval s]).run P w = .ok (.slice (some ⟨w.heap.size, 0, none⟩) (n + es'.length) (grownCap w (n + es'.length) C e)) (w.drew.alloc (.cells (olds.toArray ++ news.toArray ++ Builtin.zeroCells zv.cells (grownCap w (n + es'.length) C e - (n + es'.length))) e)) := by
          rw [hse]
          have hnl : news.length = es'.length * i.size := by rw [hS.len, hz5]
          cases Ad with
          | some b =>
            refine run_append_grow (P := P) w t o.type e i zv ht hi hz1 b n C olds hol (fun j v hv => ?_) ad es'.length c news hnl had (by omega) (by omega) hfit
            obtain ⟨A2, c2, e2, hA2⟩ := hSO.shape
            rcases Nat.eq_zero_or_pos n with hn0 | hn0
            · rw [hn0] at hol
              have := List.eq_nil_of_length_eq_zero (by simpa using hol)
              subst this
              simp at hv
            · obtain ⟨ad2, e3, e4⟩ := hA2 (by omega)
              injection e2 with e5 _ _
              rw [e3] at e5
              cases e5
              exact e4 j v hv
          | none =>
            have hlo : ¬ lo < (pl k).cap := fun h => by have := hA h; cases this
            have hC0 : C = 0 := by omega
            subst hC0
            have hn0 : n = 0 := by omega
            subst hn0
            have := List.eq_nil_of_length_eq_zero (by simpa using hol)
            subst this
            have hr := run_append_nil (P := P) w t o.type e i zv ht hi hz1 ad es'.length c news hnl had hm0 (by omega) (by
              have : es'.length * P.bytesOf e ≤ 140737488355328 := by simpa using hb
              rw [hbi]; omega)
            simpa using hr
        obtain ⟨hN1, hC1⟩ := hC.kill k
        have hC2 : ConcP N m F A w0 ⟨st.env, st.heap.set k OB.dead⟩ pl a w.drew := hC1.ext (fun b hb => Nat.lt_of_lt_of_le (hF b hb) hC.hsize) ⟨rfl, rfl, rfl, Nat.le_refl _, fun _ _ => rfl⟩
        have hND : Newer A w0.heap.size pl (st.heap.set k OB.dead) w pl (st.heap.set k OB.dead) w.drew := Newer.mk' (fun b hb => ⟨hb, rfl⟩) (Nat.le_refl _) (fun _ _ => rfl)
        have hge := grownCap_ge w (n + es'.length) C e
        have hcm : grownCap w (n + es'.length) C e ≤ maxLen := grownCap_le_maxLen w (n + es'.length) C e (by simp only [maxLen]; exact h63)
        obtain ⟨hN2, hmk⟩ := hC2.newBlk hF (mkPl w.heap.size 0 (grownCap w (n + es'.length) C e) z.length) (olds.toArray ++ news.toArray ++ Builtin.zeroCells zv.cells (grownCap w (n + es'.length) C e - (n + es'.length))) e (.row nw (Fl.join fl fl') z ((es.drop lo).take n ++ es')) fun b hb => hb.2.symm
        have hsl : (st.heap.set k OB.dead).length = st.heap.length := by simp
        refine ⟨_, _, plAt pl (st.heap.set k OB.dead).length (mkPl w.heap.size 0 (grownCap w (n + es'.length) C e) z.length), hexec (by rw [hde]; exact hrun), fun k' hk' _ => plAt_lt (by rw [hsl]; exact hk'), by simp, hmk ?_, .inr ⟨_, rfl, ?_⟩⟩
        · have hol' : olds.length = n * z.length := by rw [hO.len, hlt]
          have hnl' : news.length = es'.length * z.length := by rw [hS.len, hz]
          refine ⟨by rw [plAt_eq], g2, by rw [plAt_eq]; exact hcm, by rw [plAt_eq, hll]; exact hge, helen, fun _ => ⟨e, _, by rw [plAt_eq]; exact heap_new w.drew _, ?_, fun i' j e' p he hp => ?_⟩⟩
          · rw [plAt_eq]
            simp only [Array.size_append, List.size_toArray, size_zeroCells, hz4, hol', hnl', ← hz, Nat.zero_add, ← Nat.add_mul]
            exact Nat.mul_le_mul_right _ (by omega)
          · rw [plAt_eq]
            simp only [Nat.zero_add]
            have hj : j < z.length := by rw [← helen i' e' he]; exact (List.getElem?_eq_some_iff.1 hp).1
            rcases append_get he with ⟨h1, h2⟩ | ⟨h1, h2⟩
            · rw [hlt] at h1
              obtain ⟨x, r1, r2, r3⟩ := hO.rel _ _ _ _ h2 hp
              have hi1 : (i' + 1) * z.length ≤ n * z.length := Nat.mul_le_mul_right _ h1
              rw [Nat.add_mul] at hi1
              refine ⟨x, ?_, r2, hN2.rel (hND.rel (hN1.rel (r3.mono (flag_join_left hFS fl fl') (fun _ _ => rfl))))⟩
              rw [Array.getElem?_append_left (by simp [hol', hnl']; omega), Array.getElem?_append_left (by simp [hol']; omega)]
              rw [List.getElem?_toArray]
              exact r1
            · rw [hlt] at h1 h2
              rw [← hz] at hS
              obtain ⟨x, r1, r2, r3⟩ := hS.rel _ _ _ _ h2 hp
              have hi2 : i' - n < es'.length := (List.getElem?_eq_some_iff.1 h2).1
              have hi3 : (i' - n + 1) * z.length ≤ es'.length * z.length := Nat.mul_le_mul_right _ hi2
              rw [Nat.add_mul] at hi3
              have hi4 : i' * z.length = n * z.length + (i' - n) * z.length := by rw [← Nat.add_mul]; congr 1; omega
              refine ⟨x, ?_, r2, hN2.rel (hND.rel (hN1.rel (r3.mono (flag_join_right hFS fl fl') (fun _ _ => rfl))))⟩
              rw [Array.getElem?_append_left (by simp [hol', hnl']; omega), Array.getElem?_append_right (by simp [hol']; omega)]
              rw [List.getElem?_toArray, List.size_toArray, hol']
              have : i' * z.length + j - n * z.length = (i' - n) * z.length + j := by omega
              rw [this]; exact r1
        · have e0 : plAt pl (st.heap.set k OB.dead).length (mkPl w.heap.size 0 (grownCap w (n + es'.length) C e) z.length) st.heap.length = (mkPl w.heap.size 0 (grownCap w (n + es'.length) C e) z.length) := by rw [← hsl, plAt_eq]
          refine .osl (by simp) (fun _ => by rw [e0]; simp) (by rw [e0]; simp) hge (by rw [e0]; exact hcm)
  | _ => rw [hde] at hd; cases hd
end
end Go.Av
