/- Contracts of functions of the program, and what they compute. Conditions: those that each theorem states. -/
import Derived.Test.YtdhkpmaanegjkaaGreatDoorAv3
import Derived.Sort.Grow
import Derived.Deep.Draws
import Derived.Lib.ItoaMem
import Derived.Lib.ConvBytes
import Derived.Below
set_option linter.unusedVariables false
set_option linter.unusedSimpArgs false
namespace Go.Av
open Go.RowKit
abbrev cV (v : Value) : AV := .p .flat (.c v)
def retC : List Value → Value
  | [x] => x
  | xs => .tuple xs.toArray
theorem rel_c {pl : Nat → Pl} {L : Nat} {S Fr : Nat → Prop} {w : World} {v u : Value} (h : RelA pl L S Fr w (cV v) u) : u = v ∧ wfV v := by
  cases h with
  | p h => cases h with
    | c hv h1 => exact ⟨rfl, hv⟩
theorem rel_ret {pl : Nat → Pl} {L : Nat} {S Fr : Nat → Prop} {w : World} {rs : List Value} (hr : ∀ r ∈ rs, wfV r ∧ r.oneCell' = true) : RelA pl L S Fr w (retAV (rs.map cV)) (retC rs) := by
  have key : ∀ xs : List Value, (∀ r ∈ xs, wfV r ∧ r.oneCell' = true) → RelA pl L S Fr w (.tup (xs.map cV)) (.tuple xs.toArray) := fun xs hx => by
    refine .tup (by simp) fun j p u hp hu => ?_
    rw [List.getElem?_map] at hp
    rw [List.getElem?_toArray] at hu
    rw [hu] at hp
    have : cV u = p := by simpa using hp
    subst this
    have hm := hx u (List.mem_of_getElem? hu)
    exact .p (.c hm.1 hm.2)
  match rs, hr with
  | [], h => exact key [] h
  | [x], h => exact .p (.c (h x (by simp)).1 (h x (by simp)).2)
  | x :: y :: r, h => exact key (x :: y :: r) h
theorem args_c {w : World} {vals : Array Value} {pl : Nat → Pl} {A : Nat → Prop} {cs : List Value} {hin : List OB} (he : Entry w vals pl A (cs.map cV) hin) : vals = cs.toArray ∧ ∀ c ∈ cs, wfV c := by
  have hl : vals.size = cs.length := by rw [he.size]; simp
  have key : ∀ j (h : j < cs.length), vals[j]? = some cs[j] ∧ wfV cs[j] := fun j h => by
    have h1 : vals[j]? = some (vals[j]'(by omega)) := Array.getElem?_eq_getElem (by omega)
    have h2 : (cs.map cV)[j]? = some (cV cs[j]) := by rw [List.getElem?_map, List.getElem?_eq_getElem h]; rfl
    have h3 := rel_c (he.args j _ _ h2 h1)
    exact ⟨by rw [h1, h3.1], h3.2⟩
  refine ⟨?_, fun c hc => ?_⟩
  · apply Array.ext (by simpa using hl)
    intro j h1 h2
    have := (key j (by omega)).1
    rw [Array.getElem?_eq_getElem h1] at this
    simpa using Option.some.inj this
  · obtain ⟨j, h, rfl⟩ := List.getElem_of_mem hc
    exact (key j h).2
theorem FnSem.leaf {P : Program} [Kn P] {f : FuncId} {cs rs : List Value} (hc : callable P f = true) (hr : ∀ r ∈ rs, wfV r ∧ r.oneCell' = true)
    (h : ∀ w A, Kn.K P w A → (∀ c ∈ cs, wfV c) → Calls P f cs.toArray w fun e w' => e = .returned (retC rs) ∧ Ext w w') : FnSem P f (cs.map cV) [] (Is (rs.map cV) []) := by
  refine ⟨hc, fun w vals pl A hA hk he => ?_⟩
  obtain ⟨rfl, hw⟩ := args_c he
  refine (h w A hk hw).mono fun e w' ⟨h1, hx⟩ => ⟨retC rs, rs.map cV, [], pl, h1, Is.mk rfl rfl, ?_⟩
  exact { os := hx.os, tape := hx.tape, output := hx.output, size := hx.size, frame := fun b hb => hx.block b hb.1, len := Nat.le_refl _, io := fun k hk => absurd hk (by simp),
          own := fun k b hb => absurd hb (by simp [owns]), newb := fun k b hn _ => absurd hn (by simp [isnew]), disj := fun k k' b hb => absurd hb (by simp [owns]),
          heap := fun k ob hk => absurd hk (by simp), res := rel_ret hr }
theorem FnSem.leafRow {P : Program} [Kn P] {f : FuncId} {cs : List Value} {n : Nat} {z : Value} {xs : List Value} (hc : callable P f = true) (hx : ∀ r ∈ xs, wfV r ∧ r.oneCell' = true) (hn : n ≤ xs.length) (hl : xs.length ≤ maxLen)
    (h : ∀ w A, Kn.K P w A → (∀ c ∈ cs, wfV c) → Calls P f cs.toArray w fun e w' => ∃ ty, e = .returned (.slice (some ⟨w.heap.size, 0, none⟩) n xs.length) ∧ w' = w.alloc (.cells xs.toArray ty)) :
    FnSem P f (cs.map cV) [] (Is [.osl 0 0 n] [.row true .flat [.c z] (xs.map fun v => [.c v])]) := by
  refine ⟨hc, fun w vals pl A hA hk he => ?_⟩
  obtain ⟨rfl, hw⟩ := args_c he
  refine (h w A hk hw).mono fun e w' ⟨ty, h1, hx'⟩ => ⟨_, [.osl 0 0 n], [.row true .flat [.c z] (xs.map fun v => [.c v])], fun k => if k = 0 then mkPl w.heap.size 0 xs.length 1 else pl k, h1, Is.mk rfl rfl, ?_⟩
  subst hx'
  have hnew : (w.alloc (.cells xs.toArray ty)).heap[w.heap.size]? = some (.cells xs.toArray ty (0, 0)) := heap_alloc_new w _
  have hsz : (w.alloc (.cells xs.toArray ty)).heap.size = w.heap.size + 1 := Array.size_push _
  have hold : ∀ b, b < w.heap.size → (w.alloc (.cells xs.toArray ty)).heap[b]? = w.heap[b]? := fun b hb => by
    show (w.heap.push _)[b]? = _
    rw [Array.getElem?_push, if_neg (by omega)]
  have hown : ∀ k b, owns (fun k => if k = 0 then mkPl w.heap.size 0 xs.length 1 else pl k) [OB.row true .flat [.c z] (xs.map fun v => [.c v])] k b → k = 0 ∧ b = w.heap.size := fun k b hb => by
    obtain ⟨ob, h1, h2⟩ := owns_out hb
    have hk0 : k = 0 := by
      rcases Nat.eq_zero_or_pos k with e | e
      · exact e
      · rw [List.getElem?_eq_none (by simp; omega)] at h1; cases h1
    subst hk0
    cases h1
    exact ⟨rfl, h2.2.symm⟩
  exact { os := rfl, tape := rfl, output := rfl, size := by rw [hsz]; omega, frame := fun b hb => hold b hb.1, len := by simp, io := fun k hk => absurd hk (by simp),
          own := fun k b hb => by
            obtain ⟨rfl, rfl⟩ := hown k b hb
            exact ⟨by rw [hsz]; omega, fun hs => absurd hs.1 (by omega)⟩
          newb := fun k b hn hb => by
            obtain ⟨rfl, rfl⟩ := hown k b hb
            exact Nat.le_refl _
          disj := fun k k' b hb hb' => by rw [(hown k b hb).1, (hown k' b hb').1]
          heap := fun k ob hk => by
            have hk0 : k = 0 := by
              rcases Nat.eq_zero_or_pos k with e | e
              · exact e
              · rw [List.getElem?_eq_none (by simp; omega)] at hk; cases hk
            subst hk0
            cases hk
            refine ⟨rfl, by simp, hl, by simp [mkPl], fun i e he => ?_, fun _ => ⟨ty, xs.toArray, hnew, by simp [mkPl], fun i j e p he hp => ?_⟩⟩
            · rw [List.getElem?_map] at he
              obtain ⟨v, _, rfl⟩ := Option.map_eq_some_iff.1 he
              rfl
            · rw [List.getElem?_map] at he
              obtain ⟨v, hv, rfl⟩ := Option.map_eq_some_iff.1 he
              have hj : j = 0 := by
                rcases Nat.eq_zero_or_pos j with e | e
                · exact e
                · rw [List.getElem?_eq_none (by simp; omega)] at hp; cases hp
              subst hj
              cases hp
              have hm := hx v (List.mem_of_getElem? hv)
              exact ⟨v, by simp [mkPl, hv], hm.2, .c hm.1 hm.2⟩
          res := by
            show RelA _ _ _ _ _ (.osl 0 0 n) _
            refine .osl (by simp) (fun _ => by simp [mkPl]) (by simp [mkPl]) hn hl }
theorem FnSem.leafList {P : Program} [Kn P] {f : FuncId} {fl : Fl} {z : List PV} {xs : List Value} {c r : Value} (hc : callable P f = true) (hr : wfV r ∧ r.oneCell' = true) (hz : z.length = 1)
    (h : ∀ w A (a : Option Addr) (cap : Nat), Kn.K P w A → xs.length ≤ cap → cap ≤ maxLen → wfV c → (0 < xs.length → ∃ ad : Addr, a = some ad ∧ ad.block < w.heap.size ∧ ∀ (j : Nat) x, xs[j]? = some x → w.cell? (ad.add j) = some x) →
      Calls P f #[.slice a xs.length cap, c] w fun e w' => e = .returned r ∧ Ext w w') : FnSem P f [.p fl (.lst z (xs.map fun v => [.c v])), cV c] [] (Is [cV r] []) := by
  refine ⟨hc, fun w vals pl A hA hk he => ?_⟩
  have hl : vals.size = 2 := by rw [he.size]; rfl
  have h1 : vals[0]? = some (vals[0]'(by omega)) := Array.getElem?_eq_getElem (by omega)
  have h2 : vals[1]? = some (vals[1]'(by omega)) := Array.getElem?_eq_getElem (by omega)
  have r1 := he.args 0 _ _ rfl h1
  have r2 := rel_c (he.args 1 (cV c) _ rfl h2)
  generalize h3 : vals[0]'(by omega) = v0 at r1 h1
  generalize h4 : vals[1]'(by omega) = v1 at r2 h2
  have hv : vals = #[v0, v1] := by
    apply Array.ext (by simpa using hl)
    intro j j1 j2
    rcases (show j = 0 ∨ j = 1 by simp at j2; omega) with rfl | rfl
    · exact h3
    · exact h4
  cases r1 with
  | p hrel =>
  cases hrel with
  | @lst _ _ a n cap hn hcp hm ad ha hS hlen f0 hc1 ho hr0 =>
  have hn' : n = xs.length := by rw [hn]; simp
  rw [hv, r2.1, hn']
  have hcell : 0 < xs.length → ∃ ad : Addr, a = some ad ∧ ad.block < w.heap.size ∧ ∀ (j : Nat) x, xs[j]? = some x → w.cell? (ad.add j) = some x := fun hp => by
    refine ⟨ad, ha (by omega), ?_, fun j x hj => ?_⟩
    · have hb := hS (by omega) (by omega)
      cases fl with
      | flat => exact hb.elim
      | fresh => exact hb.2.1
      | any => exact hb.1.1
    · have e1 : (xs.map fun v => [PV.c v])[j]? = some [PV.c x] := by rw [List.getElem?_map, hj]; rfl
      have e2 := hc1 j 0 _ (.c x) e1 rfl
      rw [hz, Nat.mul_one, Nat.add_zero] at e2
      have e3 := hr0 j 0 _ (.c x) e1 rfl
      cases e3 with
      | c hv' h1' => exact e2
  refine (h w A a cap hk (by omega) hm r2.2 hcell).mono fun e w' ⟨h1, hx⟩ => ⟨r, [cV r], [], pl, h1, Is.mk rfl rfl, ?_⟩
  exact { os := hx.os, tape := hx.tape, output := hx.output, size := hx.size, frame := fun b hb => hx.block b hb.1, len := Nat.le_refl _, io := fun k hk => absurd hk (by simp),
          own := fun k b hb => absurd hb (by simp [owns]), newb := fun k b hn _ => absurd hn (by simp [isnew]), disj := fun k k' b hb => absurd hb (by simp [owns]),
          heap := fun k ob hk => absurd hk (by simp), res := .p (.c hr.1 hr.2) }
end Go.Av
namespace Go.Av
open Go.RowKit
abbrev p10N : String := "internal/strconv.uint64pow10"
abbrev mlN : String := "internal/bytealg.MaxLen"
structure TabK (P : Program) (w : World) (A : Nat → Prop) : Prop where
  p10A : ∀ g, P.globalNamed p10N = some g → A g
  p10 : Lib.TabIs P w p10N .u64 Lib.pow10Tab
  mlA : ∀ g, P.globalNamed mlN = some g → A g
  ml : ∀ g, P.globalNamed mlN = some g → ∃ m, w.cell? ⟨g, 0, none⟩ = some (.int .i64 m)
theorem TabK.keep {P : Program} {w w' : World} {A A' : Nat → Prop} (h : TabK P w A) (hA : ∀ b, A b → A' b) (hw : ∀ b, A b → w'.heap[b]? = w.heap[b]?) : TabK P w' A' := by
  refine ⟨fun g hg => hA g (h.p10A g hg), ?_, fun g hg => hA g (h.mlA g hg), fun g hg => ?_⟩
  · have h1 := h.p10
    unfold Lib.TabIs World.var? at h1 ⊢
    cases hg : P.globalNamed p10N with
    | none => rw [hg] at h1; exact absurd h1 (by simp)
    | some g => rw [hg] at h1; simp only [Option.bind_some] at h1 ⊢; rw [hw g (h.p10A g hg)]; exact h1
  · obtain ⟨m, hm⟩ := h.ml g hg
    refine ⟨m, ?_⟩
    unfold World.cell? at hm ⊢
    rw [hw g (h.mlA g hg)]; exact hm
@[instance_reducible] def knTab (P : Program) : Inhabited (KnT P) := ⟨⟨TabK P, fun h hA hw _ => h.keep hA hw⟩⟩
theorem Ext.drewN (w : World) (n : Nat) : Ext w (w.drewN n) := ⟨rfl, rfl, rfl, Nat.le_refl _, fun _ _ => rfl⟩
theorem Ext.grow (w : World) (os : Array Obj) : Ext w (Sort.grow w os) := ⟨rfl, rfl, rfl, by simp, fun _ hb => Sort.heap_grow_old w os hb⟩
theorem Ext.below {w w' : World} (h : Below w.heap.size w w') : Ext w w' := ⟨h.os, h.tape, h.output, h.size, fun b hb => h.block b hb⟩
theorem Ext.bytesWorld (w : World) (e : TypeId) (s : ByteArray) : Ext w (Lib.bytesWorld w e s) :=
  ⟨rfl, rfl, rfl, by simp [Lib.bytesWorld, World.freeze, World.alloc, World.drew, -World.alloc_eq, -World.drew_eq], fun b hb => Lib.bytesWorld_at_old w e s b hb⟩
theorem spot_of_cell {w : World} {ad : Addr} {v : Value} (h : w.cell? ad = some v) : ad = ⟨ad.block, ad.off, none⟩ := by
  have : ad.spot = none := by
    unfold World.cell? at h
    cases hs : ad.spot with
    | none => rfl
    | some i => rw [hs] at h; split at h <;> simp at h
  cases ad; simp at this; simp [this]
theorem cells_at {w : World} {ad : Addr} {xs : List Value} (hp : 0 < xs.length) (h : ∀ (j : Nat) x, xs[j]? = some x → w.cell? (ad.add j) = some x) : ad = ⟨ad.block, ad.off, none⟩ ∧ ∀ (j : Nat) x, xs[j]? = some x → w.cell? ⟨ad.block, ad.off + j, none⟩ = some x := by
  have h0 : ad = ⟨ad.block, ad.off, none⟩ := spot_of_cell (h 0 _ (List.getElem?_eq_getElem hp))
  refine ⟨h0, fun j x hj => ?_⟩
  have := h j x hj
  unfold Addr.add at this
  split at this
  · next e => subst e; rw [h0] at this; exact this
  · rw [h0] at this; exact this
instance (priority := 10000) knT (P : Program) : Inhabited (KnT P) := knTab P
theorem knT_K {P : Program} {w : World} {A : Nat → Prop} (h : Kn.K P w A) : TabK P w A := h
end Go.Av

set_option linter.unusedVariables false
set_option linter.unusedSimpArgs false
namespace Go.Proofs.YtdhkpmaanegjkaaGreatDoor
open Go.Av
def inR (x a b : Int) : Bool := decide (a ≤ x) && decide (x ≤ b)
theorem inR_iff {x a b : Int} : inR x a b = true ↔ a ≤ x ∧ x ≤ b := by simp [inR]
theorem inR_f {x a b : Int} : inR x a b = false ↔ x < a ∨ b < x := by simp only [inR, Bool.and_eq_false_imp, decide_eq_true_eq, decide_eq_false_iff_not]; omega
theorem all_s {P : Nat → Prop} {i : Int} (h0 : 0 ≤ i) (h : ∀ j : Nat, (j : Int) < i → P j) (hi : P i.toNat) : ∀ j : Nat, (j : Int) < i + 1 → P j := fun j hj => by
  by_cases e : (j : Int) < i
  · exact h j e
  · have : j = i.toNat := by omega
    rw [this]; exact hi
theorem all_0 {P : Nat → Prop} : ∀ j : Nat, (j : Int) < 0 → P j := fun j hj => absurd hj (by omega)
def allB (p : Int → Bool) (s : ByteArray) : Bool := (List.range s.size).all fun i => p (byteAt s i)
theorem allB_iff {p : Int → Bool} {s : ByteArray} : allB p s = true ↔ ∀ j : Nat, (j : Int) < s.size → p (byteAt s j) = true := by
  simp only [allB, List.all_eq_true, List.mem_range, Int.ofNat_lt]
theorem allB_t {p : Int → Bool} {s : ByteArray} {i : Int} (hi : (s.size : Int) ≤ i) (h : ∀ j : Nat, (j : Int) < i → p (byteAt s j) = true) : true = allB p s :=
  (allB_iff.2 fun j hj => h j (by omega)).symm
theorem allB_f {p : Int → Bool} {s : ByteArray} {i : Int} (h0 : 0 ≤ i) (hi : i < s.size) (h : p (byteAt s i.toNat) = false) : false = allB p s := by
  refine (Bool.eq_false_iff.2 fun hh => ?_).symm
  rw [allB_iff.1 hh i.toNat (by omega)] at h; cases h
section
variable {α : Type} {p : α → Bool} {xs : List α} {d : α}
theorem all_iff : xs.all p = true ↔ ∀ j : Nat, (j : Int) < xs.length → p (xs.getD j d) = true := by
  rw [List.all_eq_true]
  constructor
  · intro h j hj
    have hj : j < xs.length := by omega
    rw [List.getD_eq_getElem?_getD, List.getElem?_eq_getElem hj]; exact h _ (List.getElem_mem hj)
  · intro h x hx
    obtain ⟨j, hj, rfl⟩ := List.getElem_of_mem hx
    have := h j (by omega)
    rwa [List.getD_eq_getElem?_getD, List.getElem?_eq_getElem hj] at this
theorem all_t {i : Int} (hi : (xs.length : Int) ≤ i) (h : ∀ j : Nat, (j : Int) < i → p (xs.getD j d) = true) : true = xs.all p :=
  (all_iff.2 fun j hj => h j (by omega)).symm
theorem all_f {i : Int} (h0 : 0 ≤ i) (hi : i < xs.length) (h : p (xs.getD i.toNat d) = false) : false = xs.all p := by
  refine (Bool.eq_false_iff.2 fun hh => ?_).symm
  rw [(all_iff (d := d)).1 hh i.toNat (by omega)] at h; cases h
theorem getD_mem {j : Nat} (hj : j < xs.length) : xs.getD j d ∈ xs := by
  rw [List.getD_eq_getElem?_getD, List.getElem?_eq_getElem hj]; exact List.getElem_mem hj
theorem ext_getD {ys : List α} (d : α) (hl : xs.length = ys.length) (h : ∀ j : Nat, (j : Int) < xs.length → xs.getD j d = ys.getD j d) : xs = ys := by
  refine List.ext_getElem hl fun j h1 h2 => ?_
  have := h j (by omega)
  rwa [List.getD_eq_getElem?_getD, List.getElem?_eq_getElem h1, List.getD_eq_getElem?_getD, List.getElem?_eq_getElem h2] at this
theorem getD_set {j k : Nat} {v : α} : (xs.set j v).getD k d = if j = k ∧ k < xs.length then v else xs.getD k d := by
  simp only [List.getD_eq_getElem?_getD, List.getElem?_set]
  by_cases h : j = k
  · subst h
    by_cases h2 : j < xs.length <;> simp [h2]
  · simp [h]
theorem take_snoc {i : Int} (h0 : 0 ≤ i) (h : i < xs.length) (d : α) : xs.take (i + 1).toNat = xs.take i.toNat ++ [xs.getD i.toNat d] := by
  have e : (i + 1).toNat = i.toNat + 1 := by omega
  have h' : i.toNat < xs.length := by omega
  rw [e, List.take_add_one, List.getD_eq_getElem?_getD, List.getElem?_eq_getElem h']; rfl
end
def iotaI (k : Int) (n : Nat) : List Int := (List.range n).map fun (j : Nat) => k + (j : Int)
theorem iotaI_len {k : Int} {n : Nat} : (iotaI k n).length = n := by simp [iotaI]
theorem lnS : (∀ (α β : Type) (f : α → β) (xs : List α), (xs.map f).length = xs.length) ∧ (∀ (α : Type) (x : α) (xs : List α), (x :: xs).length = xs.length + 1) ∧ (∀ α : Type, ([] : List α).length = 0) ∧ (∀ (α : Type) (xs ys : List α), (xs ++ ys).length = xs.length + ys.length) ∧ (∀ (α : Type) (xs : List α) (i : Nat) (x : α), (xs.set i x).length = xs.length) ∧ (∀ (α : Type) (n : Nat) (x : α), (List.replicate n x).length = n) ∧ ∀ (k : Int) (n : Nat), (iotaI k n).length = n :=
  ⟨fun _ _ _ _ => List.length_map _, fun _ _ _ => List.length_cons, fun _ => List.length_nil, fun _ _ _ => List.length_append, fun _ _ _ _ => List.length_set, fun _ _ _ => List.length_replicate, fun _ _ => iotaI_len⟩
theorem iotaI_get {k : Int} {n j : Nat} (h : j < n) : (iotaI k n).getD j 0 = k + j := by
  simp [iotaI, List.getD_eq_getElem?_getD, h]
theorem eI_same : ([PV.c (Value.int IntKind.i64 0)] = eI 0) = True := by simp [eI]
theorem iota_of {k : Int} {n : Nat} {ys : List Int} (hl : ys.length = n) (h : ∀ j : Nat, (j : Int) < n → ys.getD j 0 = k + j) : ys = iotaI k n :=
  ext_getD 0 (by rw [iotaI_len]; exact hl) fun j hj => by rw [iotaI_get (by omega)]; exact h j (by omega)
def idxI (p : Int → Bool) (xs : List Int) : Int := match xs.findIdx? p with
  | some i => (i : Int)
  | none => -1
theorem idxI_at {p : Int → Bool} {xs : List Int} {i : Int} (h0 : 0 ≤ i) (h1 : i < xs.length) (h2 : p (xs.getD i.toNat 0) = true) (h3 : ∀ j : Nat, (j : Int) < i → p (xs.getD j 0) = false) : i = idxI p xs := by
  have hi : i.toNat < xs.length := by omega
  have e : xs.findIdx? p = some i.toNat := by
    rw [List.findIdx?_eq_some_iff_getElem]
    refine ⟨hi, ?_, fun j hj => ?_⟩
    · rwa [List.getD_eq_getElem?_getD, List.getElem?_eq_getElem hi] at h2
    · have h4 := h3 j (by omega)
      have hj' : j < xs.length := by omega
      rw [List.getD_eq_getElem?_getD, List.getElem?_eq_getElem hj'] at h4
      simpa using h4
  simp only [idxI, e]; omega
theorem idxI_none {p : Int → Bool} {xs : List Int} {i : Int} (h1 : xs.length ≤ i) (h3 : ∀ j : Nat, (j : Int) < i → p (xs.getD j 0) = false) : -1 = idxI p xs := by
  have e : xs.findIdx? p = none := by
    rw [List.findIdx?_eq_none_iff]
    intro x hx
    obtain ⟨j, hj, rfl⟩ := List.getElem_of_mem hx
    have h4 := h3 j (by omega)
    rwa [List.getD_eq_getElem?_getD, List.getElem?_eq_getElem hj] at h4
  simp only [idxI, e]
theorem bl_tri : ∀ x y : List UInt8, Op.bytesLess x y = !(Op.bytesLess y x || decide (x = y))
  | [], [] => by simp [Op.bytesLess]
  | [], b :: y => by simp [Op.bytesLess]
  | a :: x, [] => by simp [Op.bytesLess]
  | a :: x, b :: y => by
    have ih := bl_tri x y
    have e : ∀ u v : UInt8, (u < v) = (u.toNat < v.toNat) := fun u v => by rw [UInt8.lt_iff_toNat_lt]
    have q : ∀ u v : UInt8, (u = v) = (u.toNat = v.toNat) := fun u v => by rw [← UInt8.toNat_inj]
    simp only [Op.bytesLess, List.cons.injEq]
    rcases Nat.lt_trichotomy a.toNat b.toNat with h | h | h
    · have h1 : a < b := by rw [e]; exact h
      have h2 : ¬b < a := by rw [e]; omega
      have h3 : a ≠ b := by rw [Ne, q]; omega
      simp [h1, h2, h3, h3.symm]
    · have h3 : a = b := by rw [q]; exact h
      subst h3
      have h1 : ¬a < a := by rw [e]; omega
      simp [h1, ih]
    · have h1 : ¬a < b := by rw [e]; omega
      have h2 : b < a := by rw [e]; exact h
      have h3 : a ≠ b := by rw [Ne, q]; omega
      simp [h1, h2, h3, h3.symm]
theorem sLt_tri (a b : ByteArray) : sLt a b = !(sLt b a || decide (b = a)) := by
  unfold sLt
  rw [bl_tri, ByteArray.toList_eq, ByteArray.toList_eq]
  congr 2
  by_cases h : b = a
  · subst h; simp
  · rw [decide_eq_false h, decide_eq_false fun e => h (bytes_inj e.symm)]
theorem sLt_t {a b : ByteArray} : sLt a b = true ↔ sLt b a = false ∧ ¬b = a := by rw [sLt_tri]; simp
theorem sLt_f {a b : ByteArray} : sLt a b = false ↔ sLt b a = true ∨ b = a := by rw [sLt_tri]; cases h : sLt b a <;> simp
def adjB {α : Type} (r : α → α → Bool) (d : α) (xs : List α) : Bool := (List.range xs.length).all fun j => decide (j = 0) || r (xs.getD (j - 1) d) (xs.getD j d)
theorem adjB_iff {α : Type} {r : α → α → Bool} {d : α} {xs : List α} : adjB r d xs = true ↔ ∀ j : Nat, (j : Int) < xs.length → j = 0 ∨ r (xs.getD (j - 1) d) (xs.getD j d) = true := by
  simp only [adjB, List.all_eq_true, List.mem_range, Bool.or_eq_true, decide_eq_true_eq, Int.ofNat_lt]
def okTo {α : Type} (p : α → Bool) (r : α → α → Bool) (d : α) (xs : List α) (i : Int) : Prop := (∀ j : Nat, (j : Int) < i → p (xs.getD j d) = true) ∧ ∀ j : Nat, (j : Int) < i → j = 0 ∨ r (xs.getD (j - 1) d) (xs.getD j d) = true
def okAll {α : Type} (p : α → Bool) (r : α → α → Bool) (d : α) (xs : List α) : Bool := xs.all p && adjB r d xs
theorem okTo_0 {α : Type} {p : α → Bool} {r : α → α → Bool} {d : α} {xs : List α} : okTo p r d xs 0 := ⟨all_0, all_0⟩
theorem okTo_s {α : Type} {p : α → Bool} {r : α → α → Bool} {d : α} {xs : List α} {i : Int} (h0 : 0 ≤ i) (h : okTo p r d xs i) (h1 : p (xs.getD i.toNat d) = true) (h2 : 0 < i → r (xs.getD (i - 1).toNat d) (xs.getD i.toNat d) = true) : okTo p r d xs (i + 1) :=
  ⟨all_s h0 h.1 h1, all_s (P := fun j => j = 0 ∨ r (xs.getD (j - 1) d) (xs.getD j d) = true) h0 h.2 (by
    by_cases e : 0 < i
    · exact .inr (by rw [show i.toNat - 1 = (i - 1).toNat by omega]; exact h2 e)
    · exact .inl (by omega))⟩
theorem okAll_t {α : Type} {p : α → Bool} {r : α → α → Bool} {d : α} {xs : List α} {i : Int} (hi : xs.length ≤ i) (h : okTo p r d xs i) : okAll p r d xs = true := by
  unfold okAll; rw [← all_t (p := p) (d := d) hi h.1, adjB_iff.2 fun j hj => h.2 j (by omega)]; rfl
theorem okAll_f {α : Type} {p : α → Bool} {r : α → α → Bool} {d : α} {xs : List α} {i : Int} (h0 : 0 ≤ i) (hi : i < xs.length) (h : p (xs.getD i.toNat d) = false ∨ 0 < i ∧ r (xs.getD (i - 1).toNat d) (xs.getD i.toNat d) = false) : okAll p r d xs = false := by
  unfold okAll
  rcases h with h | ⟨h, h'⟩
  · rw [← all_f (p := p) h0 hi h]; rfl
  · have : adjB r d xs = false := Bool.eq_false_iff.2 fun hh => by
      rcases adjB_iff.1 hh i.toNat (by omega) with h2 | h2
      · omega
      · rw [show i.toNat - 1 = (i - 1).toNat by omega, h'] at h2; cases h2
    rw [this, Bool.and_false]
end Go.Proofs.YtdhkpmaanegjkaaGreatDoor
