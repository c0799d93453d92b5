/- Contracts of functions of the program, and what they compute. Conditions: those that each theorem states. -/
import Derived.Test.YtdhkpmaanegjkaaGreatDoorProg
import Derived.Test.YtdhkpmaanegjkaaGreatDoorM1
import Derived.Test.YtdhkpmaanegjkaaGreatDoorR2
set_option linter.unusedVariables false
set_option linter.unusedSimpArgs false
namespace Go.Proofs.YtdhkpmaanegjkaaGreatDoor
open Go.Av
open Go
def frzT (m : Nat) (R : List AV → List OB → Prop) (vs : List AV) (ho : List OB) : Prop :=
  ∃ k ob, 2 ≤ vs.length ∧ ho.length = k + 1 ∧ m ≤ k ∧ ho[k]? = some ob ∧ fzOk ob = true ∧ seqW (fzV k ob 4) vs fun vs' => R (renL (expG (List.range k)) some vs') (renHeap (List.range k) (ho.set k .dead))
theorem semFrzT {P : Program} [Kn P] {f : FuncId} {args : List AV} {hin : List OB} {R : List AV → List OB → Prop} (h : FnSem P f args hin fun vs ho => R vs ho ∨ frzT hin.length R vs ho) : FnSem P f args hin R := by
  refine ⟨h.1, fun w vals pl A hA hkn he => (h.2 w vals pl A hA hkn he).mono ?_⟩
  rintro e w' ⟨u, vs, ho, pl', rfl, hR | ⟨k, ob, h2, hl, hm, hk, hob, hfz⟩, hB⟩
  · exact ⟨u, vs, ho, pl', rfl, hR, hB⟩
  have hret : retAV vs = .tup vs := by
    match vs, h2 with
    | _ :: _ :: _, _ => rfl
  have hres := hB.res
  rw [hret] at hres
  cases hres with
  | @tup _ arr hs hr =>
  have hC : ConcP arr.size hin.length (Stab pl hin w) A w ⟨fun s => vs.getD s .junk, ho⟩ pl' { tmps := arr, defers := [] } w' :=
    { defers := rfl, size := rfl, os := hB.os, tape := hB.tape, output := hB.output, hsize := hB.size, frame := hB.frame, ownlt := fun k b hk => (hB.own k b hk).1, ownF := fun k b hk => (hB.own k b hk).2, newb := hB.newb, disj := hB.disj, heap := hB.heap
      env := fun s => by
        show RelA _ _ _ _ _ (vs.getD s .junk) (arr.getD s undef)
        by_cases hsl : s < vs.length
        · have ha : s < arr.size := by omega
          rw [List.getD_eq_getElem?_getD, List.getElem?_eq_getElem hsl, Array.getD_eq_getD_getElem?, Array.getElem?_eq_getElem ha]
          exact hr s _ _ (List.getElem?_eq_getElem hsl) (Array.getElem?_eq_getElem ha)
        · rw [List.getD_eq_getElem?_getD, List.getElem?_eq_none (by omega)]; exact .junk }
  obtain ⟨hS, hFr, hFS, hown⟩ := frz1 hC hk hob
  obtain ⟨vs', hR, hlv, hv⟩ := seqW_sound (r := fun v v' => ∀ u, RelA pl' ho.length (Sany A w.heap.size pl' ho w') (Fresh w.heap.size pl' ho w') w' v u → RelA pl' ho.length (Sany A w.heap.size pl' (ho.set k .dead) w') (Fresh w.heap.size pl' (ho.set k .dead) w') w' v' u)
    (fun v K h => fzV_sound hC hk hob hS hFr hFS hown 4 v K h) hfz
  have hC2 := hC.freeze (env' := fun s => vs'.getD s .junk) (h' := ho.set k .dead) hk hob (by simp) (R := fun a b => ∀ u, RelA pl' ho.length (Sany A w.heap.size pl' ho w') (Fresh w.heap.size pl' ho w') w' a u → RelA pl' ho.length (Sany A w.heap.size pl' (ho.set k .dead) w') (Fresh w.heap.size pl' (ho.set k .dead) w') w' b u)
    (fun a b hab => hab) (fun i o o' h1 h2 => by
      rw [h1] at h2
      cases h2
      cases o with
      | fix cs =>
        refine ⟨cs, rfl, rfl, fun j c c' hj hj' u hu => ?_⟩
        rw [hj] at hj'
        cases hj'
        exact hu.mono (Nat.le_refl _) (fun _ _ => Pl.Base.refl _) hS hFr (fun _ _ => rfl) (fun _ _ => rfl)
      | _ => rfl) (fun s u hu => by
      by_cases hsl : s < vs.length
      · have hsl' : s < vs'.length := by omega
        simp only [List.getD_eq_getElem?_getD, List.getElem?_eq_getElem hsl, List.getElem?_eq_getElem hsl', Option.getD_some] at hu ⊢
        exact hv s _ _ (List.getElem?_eq_getElem hsl) (List.getElem?_eq_getElem hsl') u hu
      · simp only [List.getD_eq_getElem?_getD, List.getElem?_eq_none (show vs'.length ≤ s by omega)]; exact .junk)
  have hkl : k < ho.length := by omega
  have hC3 := hC2.rename (List.range k) (by rw [List.take_range, Nat.min_eq_left hm]) List.nodup_range (fun i hi => by simp only [List.length_set]; have := List.mem_range.1 hi; omega)
  have hret2 : retAV (renL (expG (List.range k)) some vs') = .tup (renL (expG (List.range k)) some vs') := by
    rw [renL_eq]
    match vs', show 2 ≤ vs'.length by omega with
    | _ :: _ :: _, _ => rfl
  refine ⟨_, _, _, _, rfl, hR, { os := hC3.os, tape := hC3.tape, output := hC3.output, size := hC3.hsize, frame := hC3.frame, len := by simp [renHeap]; exact hm, io := fun i hi => ?_, own := fun i b hi => ⟨hC3.ownlt i b hi, hC3.ownF i b hi⟩, newb := hC3.newb, disj := hC3.disj, heap := hC3.heap, res := ?_ }⟩
  · rw [renPl_get (k := i) (by rw [List.getElem?_range (by omega)])]
    exact hB.io i hi
  · rw [hret2]
    refine .tup (by rw [renL_eq, List.length_map]; omega) fun j p x hp hx => ?_
    have := hC3.env j
    rw [renL_eq, List.getElem?_map] at hp
    cases hvj : vs'[j]? with
    | none => rw [hvj] at hp; cases hp
    | some v0 =>
      rw [hvj] at hp
      cases hp
      simp only [List.getD_eq_getElem?_getD, hvj, Option.getD_some] at this
      rw [Array.getD_eq_getD_getElem?, hx] at this
      exact this
end Go.Proofs.YtdhkpmaanegjkaaGreatDoor

set_option linter.unusedVariables false
set_option linter.unusedSimpArgs false
namespace Go.Proofs.YtdhkpmaanegjkaaGreatDoor
open Go.Av
open Go
def aggL : List AV → List AV
  | [] => []
  | v :: r => aggV v :: aggL r
theorem aggL_eq (l : List AV) : aggL l = l.map aggV := by
  induction l with
  | nil => rfl
  | cons a r ih => simp [aggL, ih]
theorem aggV_rel {pl : Nat → Pl} {L : Nat} {S Fr : Nat → Prop} (hFS : ∀ b, Fr b → S b) {w : World} {v : AV} {u : Value} (h : RelA pl L S Fr w v u) : RelA pl L S Fr w (aggV v) u := by
  cases v with
  | aagg cs =>
    cases h with
    | @aagg _ arr hs h1 hr => exact relA_mkAgg hFS hs h1 hr
  | _ => exact h
theorem semAgg {P : Program} [Kn P] {f : FuncId} {args : List AV} {hin : List OB} {R : List AV → List OB → Prop} (h : FnSem P f args hin fun vs ho => R (aggL vs) ho) : FnSem P f args hin R := by
  refine ⟨h.1, fun w vals pl A hA hkn he => (h.2 w vals pl A hA hkn he).mono ?_⟩
  rintro e w' ⟨u, vs, ho, pl', rfl, hR, hB⟩
  refine ⟨u, _, ho, pl', rfl, hR, { os := hB.os, tape := hB.tape, output := hB.output, size := hB.size, frame := hB.frame, len := hB.len, io := hB.io, own := hB.own, newb := hB.newb, disj := hB.disj, heap := hB.heap, res := ?_ }⟩
  have hFS : ∀ b, Fresh w.heap.size pl' ho w' b → Sany A w.heap.size pl' ho w' b := fun b hb => ⟨hb.2, .inr hb.1⟩
  have hr := hB.res
  rw [aggL_eq]
  match vs, hr with
  | [], hr => exact hr
  | [v], hr => exact aggV_rel hFS hr
  | v :: v2 :: r, hr =>
    cases hr with
    | @tup _ arr hs hr2 =>
      refine .tup (by rw [hs]; simp) fun j p x hp hx => ?_
      have hp : ((v :: v2 :: r).map aggV)[j]? = some p := hp
      rw [List.getElem?_map] at hp
      cases hv : (v :: v2 :: r)[j]? with
      | none => rw [hv] at hp; cases hp
      | some v0 => rw [hv] at hp; cases hp; exact aggV_rel hFS (hr2 j v0 x hv hx)
end Go.Proofs.YtdhkpmaanegjkaaGreatDoor

set_option linter.unusedVariables false
set_option linter.unusedSimpArgs false
namespace Go.Proofs.YtdhkpmaanegjkaaGreatDoor
open Go.Av
attribute [local irreducible] Go.IntKind.wrap decS isName
set_option maxRecDepth 20000
set_option maxHeartbeats 8000000
theorem join_snoc {c : UInt8} {y : List UInt8} : ∀ xs : List (List UInt8), xs ≠ [] → Lib.join (xs ++ [y]) [c] = Lib.join xs [c] ++ c :: y
  | [], h => absurd rfl h
  | [x], _ => by
    show Lib.join (x :: y :: []) [c] = _
    rw [join_2]
    simp [Lib.join, List.intercalate]
  | x :: z :: r, _ => by
    show Lib.join (x :: z :: (r ++ [y])) [c] = _
    rw [join_2, show z :: (r ++ [y]) = (z :: r) ++ [y] from rfl, join_snoc (z :: r) (by simp), join_2]
    simp
theorem decS_sz {n : Int} (h : -1000000 ≤ n ∧ n ≤ 1000000) : (decS n).size ≤ 20 := decS_size (by omega)
theorem ch_free {n : Int} {c : UInt8} (h : c.toNat < 45 ∨ 57 < c.toNat ∨ (45 < c.toNat ∧ c.toNat < 48)) : c ∉ (decS n).data.toList := by
  rw [decS_list]
  intro hm
  have := itoa_ch _ hm
  omega
end Go.Proofs.YtdhkpmaanegjkaaGreatDoor
