/- Contracts of functions of the program, and what they compute. Conditions: those that each theorem states. -/
import Derived.Test.YtdhkpmaanegjkaaGreatDoorProg
import Derived.Test.YtdhkpmaanegjkaaGreatDoorI6
import Derived.Test.YtdhkpmaanegjkaaGreatDoorJ0
import Derived.Sort.Grow
import Derived.Shelf.SlGeneric
import Derived.Shelf.SortG.Plain
import Derived.Shelf.SortG.SortNone
import Derived.Shelf.Lays8
import Derived.Shelf.Spec.SlicesGrow
set_option linter.unusedVariables false
set_option linter.unusedSimpArgs false
namespace Go.Proofs.YtdhkpmaanegjkaaGreatDoor
open Go.Av
attribute [local irreducible] Go.IntKind.wrap leastI rdZ rd rootI rawA
set_option maxRecDepth 20000
set_option maxHeartbeats 16000000
theorem c_spec_DrawFansInSeries (c : List Int) (hc : bytes c) : FnSem Tryz.prog 27 [Lx (LY c)] [] (RetV (fun v : GFan × GFan => [.p .fresh (.agg v.1.cells), .p .fresh (.agg v.2.cells)]) (fun _ => []) (fun _ => True)) := by
  refine FnSem.walk (zs := zeroPV Tryz.prog) (by kernel_rfl) Tryz.func27 rfl Tryz.results27 (by kernel_rfl) (by kernel_rfl) (by kernel_rfl) fun hw hh => ?_
  obtain ⟨w0, _⟩ := hw
  first | replace w0 := wf_LY w0 | skip
  repeat' first
    | refine And.intro rfl ?_
    | refine GdF.mk (fun h => h) ?_
    | refine And.intro (Nat.succ_ne_zero _) ?_
    | refine And.intro (Nat.le_of_ble_eq_true rfl) ?_
    | refine SeqF.run ?_
    | refine CallF.own (f := 62) [0] false ?_
    | (refine ArgF.src (c_spec_l06Draw c _ _ hc (by omega)) ?_; intro f p1 s1 hv1 hp1)
    | refine RetV.mk (α := GFan × GFan) (_, _) rfl rfl trivial
    | refine GhF.go ?_
    | refine DrawG.old (DrawF.lex (by decide +kernel) ?_)
    | refine DrawG.old (DrawF.any ?_)
    | refine OrdF.take 1 (by decide +kernel) ?_
    | refine OrdF.all [4] (by decide +kernel) ?_
    | refine OrdF.all [3] (by decide +kernel) ?_
    | refine OrdF.all [0] (by decide +kernel) ?_
    | refine OrdF.all [2] (by decide +kernel) ?_
    | refine OrdF.all [0, 2] (by decide +kernel) ?_
    | refine OrdF.fin (by decide +kernel) ?_
    | refine AllF.one _ ?_
    | refine AllF.cons _ _ ?_ ?_
    | refine BndF.mk (fun _ => by omega) ?_
    | refine BndF.mk (fun _ => by simp only [lnS]; omega) ?_
    | refine EqL.mk _ (tk eY (by first | rfl | assumption | omega | (simp only [lnS] <;> omega))) ?_
    | refine EqL.mk _ (st eY) ?_
    | refine EqL.mk [] rfl ?_
    | refine EqL.mk [_] rfl ?_
    | refine EqL.mk _ rfl ?_
    | refine ArgF.is (c_spec_l00From ..) ?_
    | refine ArgQ.is (fun hG => c_spec_l00From ..) rfl rfl ?_
    | (refine ArgF.src (c_spec_l06Draw _ _ _ (by first | assumption | omega | rfl | (simp only [List.length_cons, List.length_nil]; omega)) (by first | assumption | omega | rfl | (simp only [List.length_cons, List.length_nil]; omega))) ?_; intro _ _ _ _ _)
    | refine CallF.own (f := 62) [0] false ?_
    | refine CallF.mk (f := 31) (CallW.is [] false rfl ?_)
    | refine CallF.mk (CallW.is [] true rfl ?_)
    | refine CallG.mk ?_
    | (refine CondF.mk (fun hb => ?_) (fun hb => ?_) <;> try simp only [forall_const, eq_self, not_true_eq_false, not_false_eq_true, or_false, false_or, or_self, or_true, true_or, and_true, true_and, and_false, false_and, decide_true, decide_false, Bool.not_true, Bool.not_false, decide_eq_true_eq, decide_eq_false_iff_not, ite_and_p, ite_or_p, Bool.decide_eq_true, Bool.and_eq_true, Bool.or_eq_true, Bool.not_eq_true', Bool.not_eq_false', Bool.and_eq_false_imp, Bool.or_eq_false_iff, bne_iff_ne, beq_iff_eq, bne_eq_false_iff_eq, beq_eq_false_iff_ne, gt_iff_lt, ge_iff_le, Int.not_lt, Int.not_le, ne_eq, Bool.true_eq_false, Bool.false_eq_true, reduceCtorEq, eta_Airway, eta_Fan, eta_Mine] at hb)
    | refine RetF.auto (And.intro rfl ?_)
    | exact Is.mk rfl rfl
    | refine Is.mk ?_ rfl
    | refine Is.mk rfl ?_
    | refine Is.mk ?_ ?_
  all_goals try dsimp only
  all_goals first
    | omega
    | skip
end Go.Proofs.YtdhkpmaanegjkaaGreatDoor

set_option linter.unusedVariables false
set_option linter.unusedSimpArgs false
namespace Go.Proofs.YtdhkpmaanegjkaaGreatDoor
open Go.Av
open Go Go.RowKit
def sortI (xs : List Int) : List Int := xs.mergeSort fun x y => decide (x ≤ y)
theorem sortI_len {xs : List Int} : (sortI xs).length = xs.length := List.length_mergeSort xs
theorem sortI_mem {xs : List Int} {x : Int} : x ∈ sortI xs ↔ x ∈ xs := List.mem_mergeSort
theorem backSame {P : Program} [Kn P] {w : World} {vals : Array Value} {pl : Nat → Pl} {A : Nat → Prop} {args : List AV} {hin : List OB} (he : Entry w vals pl A args hin) : Back w pl A hin w (.tuple #[]) [] hin pl :=
  { os := rfl, tape := rfl, output := rfl, size := Nat.le_refl _, frame := fun _ _ => rfl, len := Nat.le_refl _, io := fun _ _ => rfl,
    own := fun k b hb => ⟨he.own k b hb, fun hs => hs.2 k hb⟩, newb := fun k b hn _ => absurd hn (he.old k), disj := he.disj, heap := he.heap,
    res := .tup rfl fun j p u hp _ => by simp at hp }
theorem FnSem.leafSort {P : Program} [Kn P] {f : FuncId} {nw : Bool} {fl : Fl} {z : List PV} {zs : List Int} {n : Nat} (hc : callable P f = true) (hz : z.length = 1) (hn : n ≤ zs.length) (hN : zs.length ≤ 1000000)
    (h0 : ∀ (p : Option Addr) (cap : Nat) (w : World), Calls P f #[.slice p 0 cap] w fun e w' => e = .returned (.tuple #[]) ∧ w' = w)
    (h : ∀ (blk off cap : Nat) (xs : List Int) (w : World), Sort.Holds (Value.int .i64) w blk off xs.toArray → blk < w.heap.size → xs.length < 4611686018427387904 → Calls P f #[.slice (some ⟨blk, off, none⟩) xs.length cap] w fun e w' => e = .returned (.tuple #[]) ∧ ∃ n os, w' = Sort.grow (Sort.putRow (Value.int .i64) (Sort.ahead w n) blk off (xs.mergeSort fun x y => decide (x ≤ y)).toArray) os) :
    FnSem P f [.osl 0 0 n] [.row nw fl z (zs.map eI)] (Is [] [.row nw fl z ((sortI (zs.take n) ++ zs.drop n).map eI)]) := by
  refine ⟨hc, fun w vals pl A hA hk he => ?_⟩
  have hl : vals.size = 1 := by rw [he.size]; rfl
  have h1 : vals[0]? = some (vals[0]'(by omega)) := Array.getElem?_eq_getElem (by omega)
  have r1 := he.args 0 _ _ rfl h1
  generalize h3 : vals[0]'(by omega) = v0 at r1 h1
  have hv : vals = #[v0] := by
    apply Array.ext (by simpa using hl)
    intro j j1 j2
    obtain rfl : j = 0 := by simp at j2; omega
    exact h3
  have hrow : RowRel _ w (pl 0).toPl0 z (zs.map eI) := he.heap 0 _ rfl
  obtain ⟨hsz, hzp, hcm, hle, hel, hcl⟩ := hrow
  rw [List.length_map] at hle
  cases r1 with
  | @osl _ _ _ C a hk0 hA0 hC hnC hM =>
  rw [hv]
  by_cases hn0 : n = 0
  · subst hn0
    refine (h0 a C w).mono fun e w' ⟨e1, e2⟩ => ?_
    subst e2
    refine ⟨_, [], _, pl, e1, Is.mk rfl rfl, ?_⟩
    have e3 : sortI (zs.take 0) ++ zs.drop 0 = zs := by rw [List.take_zero, List.drop_zero]; simp [sortI]
    rw [e3]
    exact backSame (P := P) he
  have hcap : 0 < (pl 0).cap := by omega
  obtain ⟨ty, arr, ha, harr, hj'⟩ := hcl hcap
  have hsz1 : (pl 0).sz = 1 := by rw [hsz, hz]
  have hown : owns pl [OB.row nw fl z (zs.map eI)] 0 (pl 0).blk := owns_of (ob := .row nw fl z (zs.map eI)) rfl ⟨hcap, rfl⟩
  have hblk := he.own 0 _ hown
  have hlt : (zs.take n).length = n := by rw [List.length_take]; omega
  have hA1 := hA0 hcap
  have hget : ∀ j (hj : j < zs.length), arr[(pl 0).off + j]? = some (.int .i64 zs[j]) := fun j hj => by
    obtain ⟨u, hu, _, hrel⟩ := hj' j 0 (eI zs[j]) (.c (.int .i64 zs[j])) (by rw [List.getElem?_map, List.getElem?_eq_getElem hj]; rfl) rfl
    cases hrel with
    | c hv' h1' => rw [hz, Nat.mul_one, Nat.add_zero] at hu; exact hu
  have hwf : ∀ j (hj : j < zs.length), wfV (.int .i64 zs[j]) ∧ (Value.int .i64 zs[j]).oneCell' = true := fun j hj => by
    obtain ⟨u, hu, h1', hrel⟩ := hj' j 0 (eI zs[j]) (.c (.int .i64 zs[j])) (by rw [List.getElem?_map, List.getElem?_eq_getElem hj]; rfl) rfl
    cases hrel with
    | c hv' h1'' => exact ⟨hv', h1'⟩
  have hH : Sort.Holds (Value.int .i64) w (pl 0).blk (pl 0).off (zs.take n).toArray := fun j hj => by
    have hj2 : j < n := by simpa [hlt] using hj
    have hj3 : j < zs.length := by omega
    constructor
    · unfold World.cell?
      simp only [ha]
      have e1 : (zs.take n).toArray[j]! = zs[j] := by
        rw [getElem!_pos _ j hj]; simp
      rw [e1]
      exact hget j hj3
    · unfold World.frozen?
      simp only [ha]
      simp
  have hm := h (pl 0).blk (pl 0).off C (zs.take n) w hH hblk (by rw [hlt]; omega)
  rw [hlt] at hm
  rw [hA1, Nat.zero_mul, Nat.add_zero]
  refine hm.mono fun e w' ⟨e1, kd, os, e2⟩ => ⟨_, [], _, pl, e1, Is.mk rfl rfl, ?_⟩
  subst e2
  generalize hds : ((zs.take n).mergeSort fun x y => decide (x ≤ y)).toArray = ds
  have hdl : ds.size = n := by rw [← hds]; simp [hlt]
  have hheap : ∀ b, b < w.heap.size → (Sort.grow (Sort.putRow (Value.int .i64) (Sort.ahead w kd) (pl 0).blk (pl 0).off ds) os).heap[b]? = if (pl 0).blk = b then (w.heap[b]?).map (Sort.onCells (Sort.putCells (Value.int .i64) (pl 0).off ds)) else w.heap[b]? := fun b hb => by
    rw [Sort.heap_grow_old _ _ (by show b < (w.heap.modify _ _).size; simpa using hb)]
    show (w.heap.modify _ _)[b]? = _
    rw [Array.getElem?_modify]
  have hsize : w.heap.size ≤ (Sort.grow (Sort.putRow (Value.int .i64) (Sort.ahead w kd) (pl 0).blk (pl 0).off ds) os).heap.size := by
    rw [Sort.size_grow]
    show w.heap.size ≤ (w.heap.modify _ _).size + _
    simp
  have howns : ∀ es, ∀ k b, owns pl [OB.row nw fl z es] k b → k = 0 ∧ b = (pl 0).blk := fun es k b hb => by
    obtain ⟨ob, g1, g2⟩ := owns_out hb
    have hk0 : k = 0 := by
      rcases Nat.eq_zero_or_pos k with e | e
      · exact e
      · rw [List.getElem?_eq_none (by simp; omega)] at g1; cases g1
    subst hk0
    cases g1
    exact ⟨rfl, g2.2.symm⟩
  exact { os := rfl, tape := rfl, output := rfl, size := hsize
          frame := fun b hb => by
            rw [hheap b hb.1, if_neg]
            intro e
            exact hb.2 0 (e ▸ hown)
          len := Nat.le_refl _, io := fun _ _ => rfl
          own := fun k b hb => by
            obtain ⟨rfl, rfl⟩ := howns _ k b hb
            exact ⟨by omega, fun hs => hs.2 0 hown⟩
          newb := fun k b hn hb => by
            obtain ⟨rfl, rfl⟩ := howns _ k b hb
            exact absurd hn (he.old 0)
          disj := fun k k' b hb hb' => by rw [(howns _ k b hb).1, (howns _ k' b hb').1]
          heap := fun k ob hk => by
            have hk0 : k = 0 := by
              rcases Nat.eq_zero_or_pos k with e | e
              · exact e
              · rw [List.getElem?_eq_none (by simp; omega)] at hk; cases hk
            subst hk0
            cases hk
            refine ⟨hsz, hzp, hcm, by simp only [List.length_map, List.length_append, sortI_len, hlt, List.length_drop]; omega, fun i e he => ?_, fun _ => ⟨ty, Sort.putCells (Value.int .i64) (pl 0).off ds arr, ?_, ?_, ?_⟩⟩
            · rw [List.getElem?_map] at he
              obtain ⟨v, _, rfl⟩ := Option.map_eq_some_iff.1 he
              rw [hz]; rfl
            · rw [hheap _ hblk, if_pos rfl, ha]; rfl
            · unfold Sort.putCells; simpa using harr
            · intro i j e p he hp
              rw [List.getElem?_map] at he
              obtain ⟨v, hv, rfl⟩ := Option.map_eq_some_iff.1 he
              have hj : j = 0 := by
                rcases Nat.eq_zero_or_pos j with e | e
                · exact e
                · rw [List.getElem?_eq_none (by simp [eI]; omega)] at hp; cases hp
              subst hj
              cases hp
              have hvm : v ∈ zs := by
                have q := List.mem_of_getElem? hv
                rcases List.mem_append.1 q with q | q
                · exact List.mem_of_mem_take (sortI_mem.1 q)
                · exact List.mem_of_mem_drop q
              obtain ⟨jj, hjj, rfl⟩ := List.getElem_of_mem hvm
              have hi : i < zs.length := by
                have q := (List.getElem?_eq_some_iff.1 hv).1
                simp only [List.length_append, sortI_len, hlt, List.length_drop] at q
                omega
              refine ⟨.int .i64 zs[jj], ?_, (hwf jj hjj).2, .c (hwf jj hjj).1 rfl⟩
              rw [hz, Nat.mul_one, Nat.add_zero]
              unfold Sort.putCells
              rw [Array.getElem?_mapIdx, hget i hi, Option.map_some]
              congr 1
              by_cases hin : i < n
              · rw [if_pos ⟨by omega, by omega⟩, show (pl 0).off + i - (pl 0).off = i by omega]
                rw [List.getElem?_append_left (by rw [sortI_len, hlt]; exact hin)] at hv
                rw [getElem!_pos ds i (by omega)]
                congr 1
                have q := (List.getElem?_eq_some_iff.1 hv).2
                rw [← q]
                subst hds
                simp [sortI]
              · rw [if_neg (by omega)]
                rw [List.getElem?_append_right (by rw [sortI_len, hlt]; omega), sortI_len, hlt, List.getElem?_drop, show n + (i - n) = i by omega, List.getElem?_eq_getElem hi] at hv
                rw [Option.some.inj hv]
          res := .tup rfl fun j p u hp _ => by simp at hp }
theorem FnSem.leafGrow {P : Program} [Kn P] {f : FuncId} {fl : Fl} {z : List PV} {n : Int} (hc : callable P f = true) (hz : z.length = 1)
    (h : ∀ w, Calls P f #[.slice none 0 0, .int .i64 n] w fun e w' => ∃ (cap : Nat) (arr : Array Value) (ty : TypeId), cap ≤ maxLen ∧ cap ≤ arr.size ∧ e = .returned (.slice (some ⟨w.heap.size, 0, none⟩) 0 cap) ∧ w' = w.drew.alloc (.cells arr ty)) :
    FnSem P f [cV (.slice none 0 0), In n] [] (Is [.osl 0 0 0] [.row true fl z []]) := by
  refine ⟨hc, fun w vals pl A hA hk he => ?_⟩
  obtain ⟨rfl, hw⟩ := args_c (cs := [.slice none 0 0, .int .i64 n]) he
  refine (h w).mono fun e w' ⟨cap, arr, ty, h1, h2, h3, h4⟩ => ⟨_, [.osl 0 0 0], [.row true fl z []], fun k => if k = 0 then mkPl w.heap.size 0 cap 1 else pl k, h3, Is.mk rfl rfl, ?_⟩
  subst h4
  have hnew : (w.drew.alloc (.cells arr ty)).heap[w.heap.size]? = some (.cells arr ty (0, 0)) := heap_alloc_new w.drew _
  have hsz : (w.drew.alloc (.cells arr ty)).heap.size = w.heap.size + 1 := Array.size_push _
  have hold : ∀ b, b < w.heap.size → (w.drew.alloc (.cells arr ty)).heap[b]? = w.heap[b]? := fun b hb => by
    show (w.heap.push _)[b]? = _
    rw [Array.getElem?_push, if_neg (by omega)]
  have hown : ∀ k b, owns (fun k => if k = 0 then mkPl w.heap.size 0 cap 1 else pl k) [OB.row true fl z []] k b → k = 0 ∧ b = w.heap.size := fun k b hb => by
    obtain ⟨ob, h1, h2⟩ := owns_out hb
    have hk0 : k = 0 := by
      rcases Nat.eq_zero_or_pos k with e | e
      · exact e
      · rw [List.getElem?_eq_none (by simp; omega)] at h1; cases h1
    subst hk0
    cases h1
    exact ⟨rfl, h2.2.symm⟩
  exact { os := rfl, tape := rfl, output := rfl, size := by rw [hsz]; omega, frame := fun b hb => hold b hb.1, len := by simp, io := fun k hk => absurd hk (by simp),
          own := fun k b hb => by
            obtain ⟨rfl, rfl⟩ := hown k b hb
            exact ⟨by rw [hsz]; omega, fun hs => absurd hs.1 (by omega)⟩
          newb := fun k b hn hb => by
            obtain ⟨rfl, rfl⟩ := hown k b hb
            exact Nat.le_refl _
          disj := fun k k' b hb hb' => by rw [(hown k b hb).1, (hown k' b hb').1]
          heap := fun k ob hk => by
            have hk0 : k = 0 := by
              rcases Nat.eq_zero_or_pos k with e | e
              · exact e
              · rw [List.getElem?_eq_none (by simp; omega)] at hk; cases hk
            subst hk0
            cases hk
            refine ⟨hz.symm, by omega, h1, by simp [mkPl], fun i e he => by simp at he, fun _ => ⟨ty, arr, hnew, by simp [mkPl, hz]; exact h2, fun i j e p he hp => by simp at he⟩⟩
          res := by
            show RelA _ _ _ _ _ (.osl 0 0 0) _
            refine .osl (by simp) (fun _ => by simp [mkPl]) (by simp [mkPl]) (Nat.zero_le _) h1 }
end Go.Proofs.YtdhkpmaanegjkaaGreatDoor

set_option linter.unusedVariables false
set_option linter.unusedSimpArgs false
namespace Go.Proofs
open Go.Shelf
def Tryz.laysSortI_ren : Go.Shelf.Ren := ⟨fun | 53 => 105 | 64 => 131 | 63 => 130 | 78 => 164 | 79 => 165 | 70 => 155 | 71 => 156 | 72 => 157 | 73 => 158 | 74 => 159 | 75 => 160 | 59 => 161 | 76 => 162 | 77 => 163 | 88 => 181 | 89 => 182 | 90 => 183 | 91 => 184 | 92 => 185 | 68 => 186 | 96 => 192 | n => n, fun | 22 => 28 | 23 => 2 | 3 => 3 | 51 => 118 | 0 => 0 | 67 => 183 | 69 => 109 | 4 => 4 | 61 => 176 | 60 => 175 | 44 => 81 | 5 => 5 | 9 => 9 | 75 => 201 | 79 => 205 | 83 => 215 | 84 => 216 | n => n, fun | n => n⟩
theorem Tryz.laysSortI : Go.Proofs.SlLaysN.n53 Tryz.prog Tryz.laysSortI_ren := {
  mixed := by kernel_rfl
  f53 := ⟨Tryz.f105.name, by decide, Tryz.func105.trans (congrArg some (by kernel_rfl))⟩
  f59 := ⟨Tryz.f161.name, by decide, Tryz.func161.trans (congrArg some (by kernel_rfl))⟩
  f63 := ⟨Tryz.f130.name, by decide, Tryz.func130.trans (congrArg some (by kernel_rfl))⟩
  f64 := Tryz.func131.trans (congrArg some (by kernel_rfl))
  f68 := ⟨Tryz.f186.name, by decide, Tryz.func186.trans (congrArg some (by kernel_rfl))⟩
  f70 := ⟨Tryz.f155.name, by decide, Tryz.func155.trans (congrArg some (by kernel_rfl))⟩
  f71 := ⟨Tryz.f156.name, by decide, Tryz.func156.trans (congrArg some (by kernel_rfl))⟩
  f72 := ⟨Tryz.f157.name, by decide, Tryz.func157.trans (congrArg some (by kernel_rfl))⟩
  f73 := ⟨Tryz.f158.name, by decide, Tryz.func158.trans (congrArg some (by kernel_rfl))⟩
  f74 := ⟨Tryz.f159.name, by decide, Tryz.func159.trans (congrArg some (by kernel_rfl))⟩
  f75 := ⟨Tryz.f160.name, by decide, Tryz.func160.trans (congrArg some (by kernel_rfl))⟩
  f76 := ⟨Tryz.f162.name, by decide, Tryz.func162.trans (congrArg some (by kernel_rfl))⟩
  f77 := ⟨Tryz.f163.name, by decide, Tryz.func163.trans (congrArg some (by kernel_rfl))⟩
  f78 := Tryz.func164.trans (congrArg some (by kernel_rfl))
  f79 := Tryz.func165.trans (congrArg some (by kernel_rfl))
  f88 := ⟨Tryz.f181.name, by decide, Tryz.func181.trans (congrArg some (by kernel_rfl))⟩
  f89 := Tryz.func182.trans (congrArg some (by kernel_rfl))
  f90 := Tryz.func183.trans (congrArg some (by kernel_rfl))
  f91 := ⟨Tryz.f184.name, by decide, Tryz.func184.trans (congrArg some (by kernel_rfl))⟩
  f92 := ⟨Tryz.f185.name, by decide, Tryz.func185.trans (congrArg some (by kernel_rfl))⟩
  f96 := ⟨Tryz.f192.name, by decide, Tryz.func192.trans (congrArg some (by kernel_rfl))⟩
  t0 := Tryz.underlying0
  a0 := Tryz.isAgg0
  z0 := Tryz.sizeOf0
  v0 := Tryz.zeroValue0
  t3 := Tryz.underlying3
  a3 := Tryz.isAgg3
  z3 := Tryz.sizeOf3
  v3 := Tryz.zeroValue3
  t4 := Tryz.underlying4
  a4 := Tryz.isAgg4
  z4 := Tryz.sizeOf4
  v4 := Tryz.zeroValue4
  t5 := Tryz.underlying5
  a5 := Tryz.isAgg5
  z5 := Tryz.sizeOf5
  v5 := Tryz.zeroValue5
  t9 := Tryz.underlying9
  a9 := Tryz.isAgg9
  z9 := Tryz.sizeOf9
  v9 := Tryz.zeroValue9
  t22 := Tryz.underlying28
  a22 := Tryz.isAgg28
  z22 := Tryz.sizeOf28
  v22 := Tryz.zeroValue28
  t23 := Tryz.underlying2
  a23 := Tryz.isAgg2
  z23 := Tryz.sizeOf2
  v23 := Tryz.zeroValue2
  t44 := Tryz.underlying81
  a44 := Tryz.isAgg81
  z44 := Tryz.sizeOf81
  v44 := Tryz.zeroValue81
  t51 := Tryz.underlying118
  a51 := Tryz.isAgg118
  z51 := Tryz.sizeOf118
  v51 := Tryz.zeroValue118
  t60 := Tryz.underlying175
  a60 := Tryz.isAgg175
  z60 := Tryz.sizeOf175
  v60 := Tryz.zeroValue175
  t61 := Tryz.underlying176
  a61 := Tryz.isAgg176
  z61 := Tryz.sizeOf176
  v61 := Tryz.zeroValue176
  t67 := Tryz.underlying183
  a67 := Tryz.isAgg183
  z67 := Tryz.sizeOf183
  v67 := Tryz.zeroValue183
  t69 := Tryz.underlying109
  a69 := Tryz.isAgg109
  z69 := Tryz.sizeOf109
  v69 := Tryz.zeroValue109
  t75 := Tryz.underlying201
  a75 := Tryz.isAgg201
  z75 := Tryz.sizeOf201
  v75 := Tryz.zeroValue201
  t79 := Tryz.underlying205
  a79 := Tryz.isAgg205
  z79 := Tryz.sizeOf205
  v79 := Tryz.zeroValue205
  t83 := Tryz.underlying215
  a83 := Tryz.isAgg215
  z83 := Tryz.sizeOf215
  v83 := Tryz.zeroValue215
  t84 := Tryz.underlying216
  a84 := Tryz.isAgg216
  z84 := Tryz.sizeOf216
  v84 := Tryz.zeroValue216 }
def Tryz.laysGrowL_ren : Go.Shelf.Ren := ⟨fun | 4 => 129 | n => n, fun | 22 => 31 | 25 => 28 | 3 => 3 | 4 => 4 | 9 => 9 | 20 => 20 | 0 => 0 | n => n, fun | n => n⟩
theorem Tryz.laysGrowL : Go.Proofs.Lays8.n4 Tryz.prog Tryz.laysGrowL_ren := {
  mixed := by kernel_rfl
  f4 := ⟨Tryz.f129.name, by decide, Tryz.func129.trans (congrArg some (by kernel_rfl))⟩
  t0 := Tryz.underlying0
  a0 := Tryz.isAgg0
  z0 := Tryz.sizeOf0
  v0 := Tryz.zeroValue0
  t3 := Tryz.underlying3
  a3 := Tryz.isAgg3
  z3 := Tryz.sizeOf3
  v3 := Tryz.zeroValue3
  t4 := Tryz.underlying4
  a4 := Tryz.isAgg4
  z4 := Tryz.sizeOf4
  v4 := Tryz.zeroValue4
  t9 := Tryz.underlying9
  a9 := Tryz.isAgg9
  z9 := Tryz.sizeOf9
  v9 := Tryz.zeroValue9
  t20 := Tryz.underlying20
  a20 := Tryz.isAgg20
  z20 := Tryz.sizeOf20
  v20 := Tryz.zeroValue20
  t22 := Tryz.underlying31
  a22 := Tryz.isAgg31
  z22 := Tryz.sizeOf31
  v22 := Tryz.zeroValue31 }
theorem Tryz.sortI_none (p : Option Addr) (cap : Nat) (w : World) : Calls Tryz.prog 105 #[.slice p 0 cap] w fun e w' => e = .returned (.tuple #[]) ∧ w' = w := AnyG.slices_Sort_int_none Tryz.laysSortI p cap w
open Go.RowKit Go.Sort Go.Lib in
theorem Tryz.sortI_some (blk off cap : Nat) (zs : List Int) (w : World) (hH : Holds (Value.int .i64) w blk off zs.toArray) (hblk : blk < w.heap.size) (hsz : zs.length < 4611686018427387904) : Calls Tryz.prog 105 #[.slice (some ⟨blk, off, none⟩) zs.length cap] w fun e w' => e = .returned (.tuple #[]) ∧ ∃ n os, w' = grow (putRow (Value.int .i64) (Sort.ahead w n) blk off (zs.mergeSort fun x y => decide (x ≤ y)).toArray) os := AnyG.slices_Sort_int Tryz.laysSortI blk off cap zs w hH hblk hsz
open Go.RowKit Go.Sort Go.Lib in
theorem Tryz.growL (i0 : TypeInfo) (z : Value) (hi0 : Tryz.prog.info? 28 = some i0) (hz0 : i0.zero = some z) (hs0 : 0 < i0.size) (n : Nat) (w : World) (hn : 1 ≤ n) (hbig : n * i0.bytes ≤ 140737488355328) (h63 : n ≤ 4611686018427387904) :
    Calls Tryz.prog 129 #[.slice none 0 0, .int .i64 n] w fun e w' => e = .returned (.slice (some ⟨w.heap.size, 0, none⟩) 0 (grownCap w n 0 28)) ∧ w' = w.drew.alloc (.cells (#[] ++ Builtin.zeroCells z.cells n ++ Builtin.zeroCells z.cells (grownCap w n 0 28 - n)) 28) := by
  refine (Any8.slices_Grow_grow Tryz.laysGrowL i0 z hi0 hz0 hs0 none 0 0 n [] w (Nat.le_refl _) (by omega) (by rw [Nat.zero_add]; exact hbig) (by omega) (by simp) (fun _ => rfl) (fun a h => by cases h)).mono fun e w' h => ⟨?_, ?_⟩
  · have h1 := h.1
    rw [Nat.zero_add] at h1
    exact h1
  · have h1 := h.2
    rw [Nat.zero_add, Nat.sub_zero] at h1
    exact h1
end Go.Proofs
