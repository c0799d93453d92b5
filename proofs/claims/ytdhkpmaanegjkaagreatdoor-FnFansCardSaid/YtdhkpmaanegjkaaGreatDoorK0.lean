/- Contracts of functions of the program, and what they compute. Conditions: those that each theorem states. -/
import Derived.Test.YtdhkpmaanegjkaaGreatDoorAv3
import Derived.Sort.Grow
import Derived.Deep.Draws
import Derived.Lib.ItoaMem
import Derived.Lib.ConvBytes
import Derived.Below
set_option linter.unusedVariables false
set_option linter.unusedSimpArgs false
namespace Go.Av
open Go.RowKit
abbrev cV (v : Value) : AV := .p .flat (.c v)
def retC : List Value → Value
  | [x] => x
  | xs => .tuple xs.toArray
theorem rel_c {pl : Nat → Pl} {L : Nat} {S Fr : Nat → Prop} {w : World} {v u : Value} (h : RelA pl L S Fr w (cV v) u) : u = v ∧ wfV v := by
  cases h with
  | p h => cases h with
    | c hv h1 => exact ⟨rfl, hv⟩
theorem rel_ret {pl : Nat → Pl} {L : Nat} {S Fr : Nat → Prop} {w : World} {rs : List Value} (hr : ∀ r ∈ rs, wfV r ∧ r.oneCell' = true) : RelA pl L S Fr w (retAV (rs.map cV)) (retC rs) := by
  have key : ∀ xs : List Value, (∀ r ∈ xs, wfV r ∧ r.oneCell' = true) → RelA pl L S Fr w (.tup (xs.map cV)) (.tuple xs.toArray) := fun xs hx => by
    refine .tup (by simp) fun j p u hp hu => ?_
    rw [List.getElem?_map] at hp
    rw [List.getElem?_toArray] at hu
    rw [hu] at hp
    have : cV u = p := by simpa using hp
    subst this
    have hm := hx u (List.mem_of_getElem? hu)
    exact .p (.c hm.1 hm.2)
  match rs, hr with
  | [], h => exact key [] h
  | [x], h => exact .p (.c (h x (by simp)).1 (h x (by simp)).2)
  | x :: y :: r, h => exact key (x :: y :: r) h
theorem args_c {w : World} {vals : Array Value} {pl : Nat → Pl} {A : Nat → Prop} {cs : List Value} {hin : List OB} (he : Entry w vals pl A (cs.map cV) hin) : vals = cs.toArray ∧ ∀ c ∈ cs, wfV c := by
  have hl : vals.size = cs.length := by rw [he.size]; simp
  have key : ∀ j (h : j < cs.length), vals[j]? = some cs[j] ∧ wfV cs[j] := fun j h => by
    have h1 : vals[j]? = some (vals[j]'(by omega)) := Array.getElem?_eq_getElem (by omega)
    have h2 : (cs.map cV)[j]? = some (cV cs[j]) := by rw [List.getElem?_map, List.getElem?_eq_getElem h]; rfl
    have h3 := rel_c (he.args j _ _ h2 h1)
    exact ⟨by rw [h1, h3.1], h3.2⟩
  refine ⟨?_, fun c hc => ?_⟩
  · apply Array.ext (by simpa using hl)
    intro j h1 h2
    have := (key j (by omega)).1
    rw [Array.getElem?_eq_getElem h1] at this
    simpa using Option.some.inj this
  · obtain ⟨j, h, rfl⟩ := List.getElem_of_mem hc
    exact (key j h).2
theorem FnSem.leaf {P : Program} [Kn P] {f : FuncId} {cs rs : List Value} (hc : callable P f = true) (hr : ∀ r ∈ rs, wfV r ∧ r.oneCell' = true)
    (h : ∀ w A, Kn.K P w A → (∀ c ∈ cs, wfV c) → Calls P f cs.toArray w fun e w' => e = .returned (retC rs) ∧ Ext w w') : FnSem P f (cs.map cV) [] (Is (rs.map cV) []) := by
  refine ⟨hc, fun w vals pl A hA hk he => ?_⟩
  obtain ⟨rfl, hw⟩ := args_c he
  refine (h w A hk hw).mono fun e w' ⟨h1, hx⟩ => ⟨retC rs, rs.map cV, [], pl, h1, Is.mk rfl rfl, ?_⟩
  exact { os := hx.os, tape := hx.tape, output := hx.output, size := hx.size, frame := fun b hb => hx.block b hb.1, len := Nat.le_refl _, io := fun k hk => absurd hk (by simp),
          own := fun k b hb => absurd hb (by simp [owns]), newb := fun k b hn _ => absurd hn (by simp [isnew]), disj := fun k k' b hb => absurd hb (by simp [owns]),
          heap := fun k ob hk => absurd hk (by simp), res := rel_ret hr }
theorem FnSem.leafRow {P : Program} [Kn P] {f : FuncId} {cs : List Value} {n : Nat} {z : Value} {xs : List Value} (hc : callable P f = true) (hx : ∀ r ∈ xs, wfV r ∧ r.oneCell' = true) (hn : n ≤ xs.length) (hl : xs.length ≤ maxLen)
    (h : ∀ w A, Kn.K P w A → (∀ c ∈ cs, wfV c) → Calls P f cs.toArray w fun e w' => ∃ ty, e = .returned (.slice (some ⟨w.heap.size, 0, none⟩) n xs.length) ∧ w' = w.alloc (.cells xs.toArray ty)) :
    FnSem P f (cs.map cV) [] (Is [.osl 0 0 n] [.row true .flat [.c z] (xs.map fun v => [.c v])]) := by
  refine ⟨hc, fun w vals pl A hA hk he => ?_⟩
  obtain ⟨rfl, hw⟩ := args_c he
  refine (h w A hk hw).mono fun e w' ⟨ty, h1, hx'⟩ => ⟨_, [.osl 0 0 n], [.row true .flat [.c z] (xs.map fun v => [.c v])], fun k => if k = 0 then mkPl w.heap.size 0 xs.length 1 else pl k, h1, Is.mk rfl rfl, ?_⟩
  subst hx'
  have hnew : (w.alloc (.cells xs.toArray ty)).heap[w.heap.size]? = some (.cells xs.toArray ty (0, 0)) := heap_alloc_new w _
  have hsz : (w.alloc (.cells xs.toArray ty)).heap.size = w.heap.size + 1 := Array.size_push _
  have hold : ∀ b, b < w.heap.size → (w.alloc (.cells xs.toArray ty)).heap[b]? = w.heap[b]? := fun b hb => by
    show (w.heap.push _)[b]? = _
    rw [Array.getElem?_push, if_neg (by omega)]
  have hown : ∀ k b, owns (fun k => if k = 0 then mkPl w.heap.size 0 xs.length 1 else pl k) [OB.row true .flat [.c z] (xs.map fun v => [.c v])] k b → k = 0 ∧ b = w.heap.size := fun k b hb => by
    obtain ⟨ob, h1, h2⟩ := owns_out hb
    have hk0 : k = 0 := by
      rcases Nat.eq_zero_or_pos k with e | e
      · exact e
      · rw [List.getElem?_eq_none (by simp; omega)] at h1; cases h1
    subst hk0
    cases h1
    exact ⟨rfl, h2.2.symm⟩
  exact { os := rfl, tape := rfl, output := rfl, size := by rw [hsz]; omega, frame := fun b hb => hold b hb.1, len := by simp, io := fun k hk => absurd hk (by simp),
          own := fun k b hb => by
            obtain ⟨rfl, rfl⟩ := hown k b hb
            exact ⟨by rw [hsz]; omega, fun hs => absurd hs.1 (by omega)⟩
          newb := fun k b hn hb => by
            obtain ⟨rfl, rfl⟩ := hown k b hb
            exact Nat.le_refl _
          disj := fun k k' b hb hb' => by rw [(hown k b hb).1, (hown k' b hb').1]
          heap := fun k ob hk => by
            have hk0 : k = 0 := by
              rcases Nat.eq_zero_or_pos k with e | e
              · exact e
              · rw [List.getElem?_eq_none (by simp; omega)] at hk; cases hk
            subst hk0
            cases hk
            refine ⟨rfl, by simp, hl, by simp [mkPl], fun i e he => ?_, fun _ => ⟨ty, xs.toArray, hnew, by simp [mkPl], fun i j e p he hp => ?_⟩⟩
            · rw [List.getElem?_map] at he
              obtain ⟨v, _, rfl⟩ := Option.map_eq_some_iff.1 he
              rfl
            · rw [List.getElem?_map] at he
              obtain ⟨v, hv, rfl⟩ := Option.map_eq_some_iff.1 he
              have hj : j = 0 := by
                rcases Nat.eq_zero_or_pos j with e | e
                · exact e
                · rw [List.getElem?_eq_none (by simp; omega)] at hp; cases hp
              subst hj
              cases hp
              have hm := hx v (List.mem_of_getElem? hv)
              exact ⟨v, by simp [mkPl, hv], hm.2, .c hm.1 hm.2⟩
          res := by
            show RelA _ _ _ _ _ (.osl 0 0 n) _
            refine .osl (by simp) (fun _ => by simp [mkPl]) (by simp [mkPl]) hn hl }
theorem FnSem.leafList {P : Program} [Kn P] {f : FuncId} {fl : Fl} {z : List PV} {xs : List Value} {c r : Value} (hc : callable P f = true) (hr : wfV r ∧ r.oneCell' = true) (hz : z.length = 1)
    (h : ∀ w A (a : Option Addr) (cap : Nat), Kn.K P w A → xs.length ≤ cap → cap ≤ maxLen → wfV c → (0 < xs.length → ∃ ad : Addr, a = some ad ∧ ad.block < w.heap.size ∧ ∀ (j : Nat) x, xs[j]? = some x → w.cell? (ad.add j) = some x) →
      Calls P f #[.slice a xs.length cap, c] w fun e w' => e = .returned r ∧ Ext w w') : FnSem P f [.p fl (.lst z (xs.map fun v => [.c v])), cV c] [] (Is [cV r] []) := by
  refine ⟨hc, fun w vals pl A hA hk he => ?_⟩
  have hl : vals.size = 2 := by rw [he.size]; rfl
  have h1 : vals[0]? = some (vals[0]'(by omega)) := Array.getElem?_eq_getElem (by omega)
  have h2 : vals[1]? = some (vals[1]'(by omega)) := Array.getElem?_eq_getElem (by omega)
  have r1 := he.args 0 _ _ rfl h1
  have r2 := rel_c (he.args 1 (cV c) _ rfl h2)
  generalize h3 : vals[0]'(by omega) = v0 at r1 h1
  generalize h4 : vals[1]'(by omega) = v1 at r2 h2
  have hv : vals = #[v0, v1] := by
    apply Array.ext (by simpa using hl)
    intro j j1 j2
    rcases (show j = 0 ∨ j = 1 by simp at j2; omega) with rfl | rfl
    · exact h3
    · exact h4
  cases r1 with
  | p hrel =>
  cases hrel with
  | @lst _ _ a n cap hn hcp hm ad ha hS hlen f0 hc1 ho hr0 =>
  have hn' : n = xs.length := by rw [hn]; simp
  rw [hv, r2.1, hn']
  have hcell : 0 < xs.length → ∃ ad : Addr, a = some ad ∧ ad.block < w.heap.size ∧ ∀ (j : Nat) x, xs[j]? = some x → w.cell? (ad.add j) = some x := fun hp => by
    refine ⟨ad, ha (by omega), ?_, fun j x hj => ?_⟩
    · have hb := hS (by omega) (by omega)
      cases fl with
      | flat => exact hb.elim
      | fresh => exact hb.2.1
      | any => exact hb.1.1
    · have e1 : (xs.map fun v => [PV.c v])[j]? = some [PV.c x] := by rw [List.getElem?_map, hj]; rfl
      have e2 := hc1 j 0 _ (.c x) e1 rfl
      rw [hz, Nat.mul_one, Nat.add_zero] at e2
      have e3 := hr0 j 0 _ (.c x) e1 rfl
      cases e3 with
      | c hv' h1' => exact e2
  refine (h w A a cap hk (by omega) hm r2.2 hcell).mono fun e w' ⟨h1, hx⟩ => ⟨r, [cV r], [], pl, h1, Is.mk rfl rfl, ?_⟩
  exact { os := hx.os, tape := hx.tape, output := hx.output, size := hx.size, frame := fun b hb => hx.block b hb.1, len := Nat.le_refl _, io := fun k hk => absurd hk (by simp),
          own := fun k b hb => absurd hb (by simp [owns]), newb := fun k b hn _ => absurd hn (by simp [isnew]), disj := fun k k' b hb => absurd hb (by simp [owns]),
          heap := fun k ob hk => absurd hk (by simp), res := .p (.c hr.1 hr.2) }
end Go.Av
namespace Go.Av
open Go.RowKit
abbrev p10N : String := "internal/strconv.uint64pow10"
abbrev mlN : String := "internal/bytealg.MaxLen"
structure TabK (P : Program) (w : World) (A : Nat → Prop) : Prop where
  p10A : ∀ g, P.globalNamed p10N = some g → A g
  p10 : Lib.TabIs P w p10N .u64 Lib.pow10Tab
  mlA : ∀ g, P.globalNamed mlN = some g → A g
  ml : ∀ g, P.globalNamed mlN = some g → ∃ m, w.cell? ⟨g, 0, none⟩ = some (.int .i64 m)
theorem TabK.keep {P : Program} {w w' : World} {A A' : Nat → Prop} (h : TabK P w A) (hA : ∀ b, A b → A' b) (hw : ∀ b, A b → w'.heap[b]? = w.heap[b]?) : TabK P w' A' := by
  refine ⟨fun g hg => hA g (h.p10A g hg), ?_, fun g hg => hA g (h.mlA g hg), fun g hg => ?_⟩
  · have h1 := h.p10
    unfold Lib.TabIs World.var? at h1 ⊢
    cases hg : P.globalNamed p10N with
    | none => rw [hg] at h1; exact absurd h1 (by simp)
    | some g => rw [hg] at h1; simp only [Option.bind_some] at h1 ⊢; rw [hw g (h.p10A g hg)]; exact h1
  · obtain ⟨m, hm⟩ := h.ml g hg
    refine ⟨m, ?_⟩
    unfold World.cell? at hm ⊢
    rw [hw g (h.mlA g hg)]; exact hm
@[instance_reducible] def knTab (P : Program) : Inhabited (KnT P) := ⟨⟨TabK P, fun h hA hw _ => h.keep hA hw⟩⟩
theorem Ext.drewN (w : World) (n : Nat) : Ext w (w.drewN n) := ⟨rfl, rfl, rfl, Nat.le_refl _, fun _ _ => rfl⟩
theorem Ext.grow (w : World) (os : Array Obj) : Ext w (Sort.grow w os) := ⟨rfl, rfl, rfl, by simp, fun _ hb => Sort.heap_grow_old w os hb⟩
theorem Ext.below {w w' : World} (h : Below w.heap.size w w') : Ext w w' := ⟨h.os, h.tape, h.output, h.size, fun b hb => h.block b hb⟩
theorem Ext.bytesWorld (w : World) (e : TypeId) (s : ByteArray) : Ext w (Lib.bytesWorld w e s) :=
  ⟨rfl, rfl, rfl, by simp [Lib.bytesWorld, World.freeze, World.alloc, World.drew, -World.alloc_eq, -World.drew_eq], fun b hb => Lib.bytesWorld_at_old w e s b hb⟩
theorem spot_of_cell {w : World} {ad : Addr} {v : Value} (h : w.cell? ad = some v) : ad = ⟨ad.block, ad.off, none⟩ := by
  have : ad.spot = none := by
    unfold World.cell? at h
    cases hs : ad.spot with
    | none => rfl
    | some i => rw [hs] at h; split at h <;> simp at h
  cases ad; simp at this; simp [this]
theorem cells_at {w : World} {ad : Addr} {xs : List Value} (hp : 0 < xs.length) (h : ∀ (j : Nat) x, xs[j]? = some x → w.cell? (ad.add j) = some x) : ad = ⟨ad.block, ad.off, none⟩ ∧ ∀ (j : Nat) x, xs[j]? = some x → w.cell? ⟨ad.block, ad.off + j, none⟩ = some x := by
  have h0 : ad = ⟨ad.block, ad.off, none⟩ := spot_of_cell (h 0 _ (List.getElem?_eq_getElem hp))
  refine ⟨h0, fun j x hj => ?_⟩
  have := h j x hj
  unfold Addr.add at this
  split at this
  · next e => subst e; rw [h0] at this; exact this
  · rw [h0] at this; exact this
theorem FnSem.leafOwn {P : Program} [Kn P] {f : FuncId} {nw : Bool} {fl : Fl} {z : List PV} {xs : List Value} {n : Nat} {c r : Value} (hc : callable P f = true) (hr : wfV r ∧ r.oneCell' = true) (hz : z.length = 1) (hn : n = xs.length)
    (h : ∀ w A (a : Option Addr) (cap : Nat), Kn.K P w A → xs.length ≤ cap → cap ≤ maxLen → wfV c → (0 < xs.length → ∃ ad : Addr, a = some ad ∧ ad.block < w.heap.size ∧ ∀ (j : Nat) x, xs[j]? = some x → w.cell? (ad.add j) = some x) →
      Calls P f #[.slice a xs.length cap, c] w fun e w' => e = .returned r ∧ Ext w w') : FnSem P f [.osl 0 0 n, cV c] [.row nw fl z (xs.map fun v => [.c v])] (Is [cV r] [.dead]) := by
  subst hn
  refine ⟨hc, fun w vals pl A hA hk he => ?_⟩
  have hl : vals.size = 2 := by rw [he.size]; rfl
  have h1 : vals[0]? = some (vals[0]'(by omega)) := Array.getElem?_eq_getElem (by omega)
  have h2 : vals[1]? = some (vals[1]'(by omega)) := Array.getElem?_eq_getElem (by omega)
  have r1 := he.args 0 _ _ rfl h1
  have r2 := rel_c (he.args 1 (cV c) _ rfl h2)
  generalize h3 : vals[0]'(by omega) = v0 at r1 h1
  generalize h4 : vals[1]'(by omega) = v1 at r2 h2
  have hv : vals = #[v0, v1] := by
    apply Array.ext (by simpa using hl)
    intro j j1 j2
    rcases (show j = 0 ∨ j = 1 by simp at j2; omega) with rfl | rfl
    · exact h3
    · exact h4
  have hrow : RowRel _ w (pl 0).toPl0 z (xs.map fun v => [PV.c v]) := he.heap 0 _ rfl
  obtain ⟨hsz, _, _, hle, _, hcl⟩ := hrow
  rw [List.length_map] at hle
  cases r1 with
  | @osl _ _ _ C a hk0 hA0 hC hnC hM =>
  rw [hv, r2.1]
  have hcell : 0 < xs.length → ∃ ad : Addr, a = some ad ∧ ad.block < w.heap.size ∧ ∀ (j : Nat) x, xs[j]? = some x → w.cell? (ad.add j) = some x := fun hp => by
    refine ⟨_, hA0 (by omega), ?_, fun j x hj => ?_⟩
    · exact he.own 0 _ (owns_of (ob := .row nw fl z (xs.map fun v => [PV.c v])) rfl ⟨by omega, rfl⟩)
    · obtain ⟨ty, arr, ha, _, hj'⟩ := hcl (by omega)
      obtain ⟨u, hu, _, hrel⟩ := hj' j 0 [.c x] (.c x) (by rw [List.getElem?_map, hj]; rfl) rfl
      cases hrel with
      | c hv' h1' =>
      have e1 : (⟨(pl 0).blk, (pl 0).off + 0 * (pl 0).sz, none⟩ : Addr).add j = ⟨(pl 0).blk, (pl 0).off + j, none⟩ := by
        unfold Addr.add
        split
        · next e => subst e; simp
        · simp
      rw [e1]
      unfold World.cell?
      rw [hz] at hu
      simp only [ha]
      simpa using hu
  refine (h w A a C hk (by omega) (by omega) r2.2 hcell).mono fun e w' ⟨h1, hx⟩ => ⟨r, [cV r], [.dead], pl, h1, Is.mk rfl rfl, ?_⟩
  have hd : ∀ (k : Nat) (ob : OB), ([OB.dead] : List OB)[k]? = some ob → ob = OB.dead := fun k ob hk => by
    cases k with
    | zero => simpa using hk.symm
    | succ k => simp at hk
  have hno : ∀ k b, ¬ owns pl [OB.dead] k b := fun k b hb => by
    obtain ⟨ob, h1, h2⟩ := owns_out hb
    rw [hd k ob h1] at h2; exact h2
  exact { os := hx.os, tape := hx.tape, output := hx.output, size := hx.size, frame := fun b hb => hx.block b hb.1, len := Nat.le_refl _, io := fun k hk => rfl,
          own := fun k b hb => absurd hb (hno k b), newb := fun k b hn hb => absurd hb (hno k b), disj := fun k k' b hb => absurd hb (hno k b),
          heap := fun k ob hk => by rw [hd k ob hk]; trivial
          res := .p (.c hr.1 hr.2) }
instance (priority := 10000) knT (P : Program) : Inhabited (KnT P) := knTab P
theorem knT_K {P : Program} {w : World} {A : Nat → Prop} (h : Kn.K P w A) : TabK P w A := h
end Go.Av
