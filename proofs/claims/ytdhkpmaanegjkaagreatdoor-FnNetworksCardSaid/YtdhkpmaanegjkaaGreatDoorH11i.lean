/- Contracts of functions of the program, and what they compute. Conditions: those that each theorem states. -/
import Derived.Test.YtdhkpmaanegjkaaGreatDoorProg
import Derived.Test.YtdhkpmaanegjkaaGreatDoorH10
import Derived.Shelf.Spec.SlicesInsertGrow
set_option linter.unusedVariables false
set_option linter.unusedSimpArgs false
set_option linter.unusedVariables false
set_option linter.unusedSimpArgs false
namespace Go.Proofs.YtdhkpmaanegjkaaGreatDoor
open Go Go.Proofs Go.Shelf Go.RowKit Go.Lib
theorem run_copyK {P : Program} (w : World) (dT sT ty elem : TypeId) (b o dLen dCap : Nat) (a : Addr) (sLen sCap k m : Nat) (cs : List Value)
    (hu : P.underlying dT = some (.slice elem)) (hs : (P.info? elem).map (·.size) = some k) (hm : Nat.min sLen dLen = m) (hn : cs.length = m * k)
    (hsrc : ∀ j v, cs[j]? = some v → w.cell? (a.add j) = some v) (hc : ∀ j, j < cs.length → (w.cell? ⟨b, o + j, none⟩).isSome = true) (hf : ∀ j, j < cs.length → w.frozen? ⟨b, o + j, none⟩ = false) (h1 : ∀ v ∈ cs, v.oneCell' = true) :
    (Builtin.copy_ #[dT, sT] ty #[.slice (some ⟨b, o, none⟩) dLen dCap, .slice (some a) sLen sCap]).run P w = .ok (goInt m) (w.setCells b o cs) := by
  have hl := run_loadCells_list (P := P) w a cs hsrc
  have hst := run_storeCells_cells (P := P) b o cs 0 w (by simpa using hc) (by simpa using hf) h1
  cases hq : P.info? elem with
  | none => simp [hq] at hs
  | some i =>
    have hi : i.size = k := by simpa [hq] using hs
    rw [hn] at hl
    simp [Builtin.copy_, run_underlying hu, Builtin.lenOf, Builtin.firstCells, sizeOf, typeInfo, hq, hi, hm, hl, hst]
def zAw : Value := .agg #[.string ⟨#[]⟩, .int .i64 0, .int .i64 0, .int .i64 0, .int .i64 0, .int .i64 0, .int .i64 0]
set_option maxHeartbeats 4000000 in
set_option maxRecDepth 100000 in
theorem insGrow (b off n c i vb voff vc : Nat) (cs vs : List Value) (w : World) (hi : i < n) (hnc : n ≤ c) (hroom : c < n + 1) (hn1 : n ≤ 1000)
    (hcl : cs.length = n * 7) (hvl : vs.length = 7)
    (hcs : ∀ j v, cs[j]? = some v → w.cell? ⟨b, off + j, none⟩ = some v)
    (hvs : ∀ j v, vs[j]? = some v → w.cell? ⟨vb, voff + j, none⟩ = some v) (h1c : ∀ v ∈ cs, v.oneCell' = true) (h1v : ∀ v ∈ vs, v.oneCell' = true) :
    Calls Tryz.prog 52 #[.slice (some ⟨b, off, none⟩) n c, .int .i64 i, .slice (some ⟨vb, voff, none⟩) 1 vc] w fun e w' =>
      e = .returned (.slice (some ⟨w.heap.size, 0, none⟩) (n + 1) (grownCap w (n + 1) c 37)) ∧
      w' = (((w.alloc (.cells ((cs.take (i * 7)).toArray ++ Builtin.zeroCells zAw.cells (n + 1 - i) ++ Builtin.zeroCells zAw.cells (grownCap w (n + 1) c 37 - (n + 1))) 37)).drew.setCells w.heap.size (i * 7) vs).drew).setCells w.heap.size ((i + 1) * 7) (cs.drop (i * 7)) := by
  have u24 := Tryz.underlying24
  have mixed : Tryz.prog.follows .mixedOrders = true := by kernel_rfl
  have hsz : (Tryz.prog.info? 37).map (·.size) = some 7 := by kernel_rfl
  have hby : (Tryz.prog.info? 37).map (·.bytes) = some 64 := by kernel_rfl
  have hze : (Tryz.prog.info? 37).bind (·.zero) = some zAw := by kernel_rfl
  obtain ⟨i0, hi0⟩ : ∃ x, Tryz.prog.info? 37 = some x := by
    cases h : Tryz.prog.info? 37 with
    | none => rw [h] at hsz; cases hsz
    | some x => exact ⟨x, rfl⟩
  have hzs : i0.size = 7 := by simpa [hi0] using hsz
  have hzb : i0.bytes = 64 := by simpa [hi0] using hby
  have hz0 : i0.zero = some zAw := by simpa [hi0] using hze
  have hz2 : ¬ ((i : Int) = (n : Int)) := by omega
  have hz3 : (c : Int) < (n : Int) + 1 := by omega
  have hbw : b < w.heap.size := block_lt_of_cell (hcs 0 _ (List.getElem?_eq_getElem (by omega)))
  have hvw : vb < w.heap.size := block_lt_of_cell (hvs 0 _ (List.getElem?_eq_getElem (by omega)))
  have hkk : (n : Int) + 1 - (i : Int) = ((n + 1 - i : Nat) : Int) := by omega
  have hik : i + (n + 1 - i) = n + 1 := by omega
  have hold : (Builtin.firstCells i0.size i (.slice (some ⟨b, off, none⟩) i c)).run Tryz.prog w.drew = .ok (cs.take (i * 7)).toArray w.drew := by
    rw [hzs]
    exact run_firstCells_some w.drew 7 i ⟨b, off, none⟩ i c (cs.take (i * 7)) (by rw [List.length_take]; omega) (fun j v hj => by
      rw [Addr.add_lit]
      rw [List.getElem?_take] at hj
      split at hj
      · exact hcs j v hj
      · cases hj)
  have hrz : ∀ ty, (Builtin.append_ #[24, 3] ty #[.slice (some ⟨b, off, none⟩) i c, .int .i64 ((n : Int) + 1 - (i : Int))]).run Tryz.prog w =
      .ok (.slice (some ⟨w.heap.size, 0, none⟩) (n + 1) (grownCap w (n + 1) c 37)) (w.drew.alloc (.cells ((cs.take (i * 7)).toArray ++ Builtin.zeroCells zAw.cells (n + 1 - i) ++ Builtin.zeroCells zAw.cells (grownCap w (n + 1) c 37 - (n + 1))) 37)) := fun ty => by
    have h := Lib.run_append_grow_zeros (P := Tryz.prog) w 24 3 ty 37 i0 _ .i64 .i64 Tryz.underlying24 (by kernel_rfl) hi0 hz0 (some ⟨b, off, none⟩) i c (cs.take (i * 7)) hold (n + 1 - i) (by omega) (by omega) (by omega) (by omega) (by rw [hzb]; omega) (by rw [hzb, hik]; exact growslice_fits hroom (by omega))
    rw [hik] at h
    rw [hkk]
    exact h
  obtain ⟨G, hG⟩ : ∃ G, G = grownCap w (n + 1) c 37 := ⟨_, rfl⟩
  obtain ⟨ROW, hROW⟩ : ∃ ROW : Array Value, ROW = (cs.take (i * 7)).toArray ++ Builtin.zeroCells zAw.cells (n + 1 - i) ++ Builtin.zeroCells zAw.cells (G - (n + 1)) := ⟨_, rfl⟩
  rw [← hG] at hrz ⊢
  rw [← hROW] at hrz ⊢
  have hRl : (n + 1) * 7 ≤ ROW.size := by
    rw [hROW]
    have : zAw.cells.size = 7 := rfl
    simp [Builtin.zeroCells, this]
    omega
  obtain ⟨W1, hW1⟩ : ∃ W1, W1 = w.drew.alloc (.cells ROW 37) := ⟨_, rfl⟩
  rw [← hW1] at hrz
  have hN : ∀ j, j < (n + 1) * 7 → (W1.cell? ⟨w.heap.size, j, none⟩).isSome = true := fun j hj => by
    rw [hW1, World.cell?_alloc_at (w := w.drew) ROW _ w.heap.size j rfl, Array.getElem?_eq_getElem (by omega)]; rfl
  have hNf : ∀ j, W1.frozen? ⟨w.heap.size, j, none⟩ = false := fun j => by rw [hW1]; exact World.frozen?_alloc_at (w := w.drew) ROW _ w.heap.size j rfl
  have hOb : ∀ j v, w.cell? ⟨b, j, none⟩ = some v → W1.cell? ⟨b, j, none⟩ = some v := fun j v h => by rw [hW1, World.cell?_alloc_past (w := w.drew) _ b j hbw]; exact h
  have hOv : ∀ j v, w.cell? ⟨vb, j, none⟩ = some v → W1.cell? ⟨vb, j, none⟩ = some v := fun j v h => by rw [hW1, World.cell?_alloc_past (w := w.drew) _ vb j hvw]; exact h
  have hcpA : ∀ (W : World), (∀ x, W.cell? x = W1.cell? x) → (∀ x, W.frozen? x = W1.frozen? x) → ∀ ty dc, (Builtin.copy_ #[24, 24] ty #[.slice (some ⟨w.heap.size, i * 7, none⟩) (n + 1 - i) dc, .slice (some ⟨vb, voff, none⟩) 1 vc]).run Tryz.prog W = .ok (goInt 1) (W.setCells w.heap.size (i * 7) vs) := fun W hWc hWf ty dc =>
    run_copyK W _ _ ty 37 w.heap.size (i * 7) (n + 1 - i) dc ⟨vb, voff, none⟩ 1 vc 7 1 vs u24 hsz (by simp only [Nat.min_def]; split <;> omega) (by rw [hvl])
      (fun j v hj => by rw [Addr.add_lit, hWc]; exact hOv _ v (hvs j v hj))
      (fun j hj => by rw [hWc]; exact hN _ (by omega)) (fun j hj => by rw [hWf]; exact hNf _) h1v
  have hGn : n + 1 ≤ G := by rw [hG]; exact grownCap_ge w _ _ _
  have hG63 : G ≤ 9223372036854775807 := by
    have := grownCap_le_maxLen w (n + 1) c 37 (by unfold maxLen; omega)
    rw [← hG] at this
    unfold maxLen at this
    omega
  have hGi : ¬ (G = i) := by omega
  have hGim : ¬ (G = i + 1) := by omega
  have hci : ¬ (c = i) := by omega
  have hbN : b ≠ w.heap.size := by omega
  have hdl : (cs.drop (i * 7)).length = (n - i) * 7 := by rw [List.length_drop, hcl]; omega
  have hcpB : ∀ (W : World), (∀ x, W.cell? x = (W1.setCells w.heap.size (i * 7) vs).cell? x) → (∀ x, W.frozen? x = (W1.setCells w.heap.size (i * 7) vs).frozen? x) → ∀ ty dc sc, (Builtin.copy_ #[24, 24] ty #[.slice (some ⟨w.heap.size, (i + 1) * 7, none⟩) (n + 1 - (i + 1)) dc, .slice (some ⟨b, off + i * 7, none⟩) (n - i) sc]).run Tryz.prog W = .ok (goInt (n - i : Nat)) (W.setCells w.heap.size ((i + 1) * 7) (cs.drop (i * 7))) := fun W hWc hWf ty dc sc =>
    run_copyK W _ _ ty 37 w.heap.size ((i + 1) * 7) (n + 1 - (i + 1)) dc ⟨b, off + i * 7, none⟩ (n - i) sc 7 (n - i) (cs.drop (i * 7)) u24 hsz (by simp only [Nat.min_def]; split <;> omega) hdl
      (fun j v hj => by
        rw [Addr.add_lit, hWc, World.cell?_setCells_out _ _ _ _ _ (fun h _ => absurd h hbN), Nat.add_assoc]
        exact hOb _ v (hcs (i * 7 + j) v (by rwa [List.getElem?_drop] at hj)))
      (fun j hj => by rw [hWc]; exact isSome_setCells _ _ _ _ (fun t ht => hN _ (by omega)) _ (hN _ (by omega)))
      (fun j hj => by rw [hWf, World.frozen?_setCells]; exact hNf _) (fun v hv => h1c v (List.mem_of_mem_drop hv))
  subst hW1
  have hE1 : ∀ x, ((w.alloc (.cells ROW 37)).drew).cell? x = (w.drew.alloc (.cells ROW 37)).cell? x := fun x => rfl
  have hE2 : ∀ x, ((w.alloc (.cells ROW 37)).drew).frozen? x = (w.drew.alloc (.cells ROW 37)).frozen? x := fun x => rfl
  have hF1 : ∀ x, (((w.alloc (.cells ROW 37)).drew.setCells w.heap.size (i * 7) vs).drew).cell? x = ((w.drew.alloc (.cells ROW 37)).setCells w.heap.size (i * 7) vs).cell? x := fun x => rfl
  have hF2 : ∀ x, (((w.alloc (.cells ROW 37)).drew.setCells w.heap.size (i * 7) vs).drew).frozen? x = ((w.drew.alloc (.cells ROW 37)).setCells w.heap.size (i * 7) vs).frozen? x := fun x => rfl
  have hw1 : IntKind.i64.wrap ((i : Int) + 1) = (i : Int) + 1 := by rw [IntKind.wrap_i64]; omega
  have hw2 : IntKind.i64.wrap ((n : Int) + 1) = (n : Int) + 1 := by rw [IntKind.wrap_i64]; omega
  have hb1 : (0 : Int) ≤ (i : Int) + 1 := by omega
  have hin : i ≤ n := by omega
  have htn : ((i : Int) + 1).toNat = i + 1 := by omega
  have hb3 : (i : Int) ≤ (n : Int) := by omega
  clear hkk hik hold hROW hG hRl
  go_enter Tryz.func52, Tryz.ntmps52
  go_wp2_with (first
    | (at_builtin; refine Lib.wpList_append_run _ rfl _ _ _ _ rfl _ _ rfl rfl _ _ (hrz _) ?_)
    | (at_builtin; refine wpList_copy_runI _ rfl _ _ 24 24 rfl _ _ rfl rfl (hcpA _ hE1 hE2 _ _) ?_)
    | (at_builtin; refine wpList_copy_runI _ rfl _ _ 24 24 rfl _ _ rfl rfl (hcpB _ (fun _ => rfl) (fun _ => rfl) _ _ _) ?_))
  go_region_law_o (refine step_copy_runI rfl _ _ 24 24 rfl (.slice (some ⟨w.heap.size, (i + 1) * 7, none⟩) (n + 1 - (i + 1)) (G - (i + 1))) (.slice (some ⟨b, off + i * 7, none⟩) (n - i) (c - i)) (by simp [Act.eval, Act.put]) (by simp [Act.eval, Act.put]) (hcpB _ hF1 hF2 3 (G - (i + 1)) (c - i)) ?_)
  go_wp2
  go_ret
  exact ⟨rfl, rfl⟩
theorem run_append_roomK {P : Program} (w : World) (t ty e : TypeId) (i : TypeInfo) (ht : P.underlying t = some (.slice e)) (hi : P.info? e = some i)
    (g o sLen sCap : Nat) (a : Addr) (m c : Nat) (news : List Value) (hl : news.length = m * i.size) (hnews : ∀ j u, news[j]? = some u → w.cell? (a.add j) = some u) (h1 : ∀ u ∈ news, u.oneCell' = true)
    (hroom : sLen + m ≤ sCap) (hc : ∀ j, j < news.length → (w.cell? ⟨g, o + sLen * i.size + j, none⟩).isSome = true) (hf : ∀ j, j < news.length → w.frozen? ⟨g, o + sLen * i.size + j, none⟩ = false) :
    (Builtin.append_ #[t, t] ty #[.slice (some ⟨g, o, none⟩) sLen sCap, .slice (some a) m c]).run P w =
      .ok (.slice (some ⟨g, o, none⟩) (sLen + m) sCap) (w.setCells g (o + sLen * i.size) news) := by
  have hfc := run_firstCells_some (P := P) w i.size m a m c news hl hnews
  have hst := run_storeCells_cells (P := P) g (o + sLen * i.size) news 0 w (by simpa using hc) (by simpa using hf) h1
  simp only [Nat.add_zero] at hst
  simp [Builtin.append_, run_underlying ht, sizeOf, typeInfo, hi, Builtin.lenOf, hroom, hfc, Addr.add_lit, hst]
set_option maxHeartbeats 4000000 in
set_option maxRecDepth 100000 in
theorem insEndRoom (b off n c vb voff vc : Nat) (vs : List Value) (w : World) (hroom : n + 1 ≤ c) (hc63 : c ≤ 9223372036854775807) (hn1 : n ≤ 1000) (hvl : vs.length = 7)
    (hsp : ∀ j, j < 7 → (w.cell? ⟨b, off + n * 7 + j, none⟩).isSome = true) (hfz : ∀ j, j < 7 → w.frozen? ⟨b, off + n * 7 + j, none⟩ = false)
    (hvs : ∀ j v, vs[j]? = some v → w.cell? ⟨vb, voff + j, none⟩ = some v) (h1v : ∀ v ∈ vs, v.oneCell' = true) :
    Calls Tryz.prog 52 #[.slice (some ⟨b, off, none⟩) n c, .int .i64 n, .slice (some ⟨vb, voff, none⟩) 1 vc] w fun e w' =>
      e = .returned (.slice (some ⟨b, off, none⟩) (n + 1) c) ∧ w' = w.setCells b (off + n * 7) vs := by
  have u24 := Tryz.underlying24
  have mixed : Tryz.prog.follows .mixedOrders = true := by kernel_rfl
  have hsz : (Tryz.prog.info? 37).map (·.size) = some 7 := by kernel_rfl
  obtain ⟨i0, hi0⟩ : ∃ x, Tryz.prog.info? 37 = some x := by
    cases h : Tryz.prog.info? 37 with
    | none => rw [h] at hsz; cases hsz
    | some x => exact ⟨x, rfl⟩
  have hzs : i0.size = 7 := by simpa [hi0] using hsz
  have hr : ∀ ty, (Builtin.append_ #[24, 24] ty #[.slice (some ⟨b, off, none⟩) n c, .slice (some ⟨vb, voff, none⟩) 1 vc]).run Tryz.prog w = .ok (.slice (some ⟨b, off, none⟩) (n + 1) c) (w.setCells b (off + n * 7) vs) := fun ty => by
    have h := run_append_roomK (P := Tryz.prog) w 24 ty 37 i0 u24 hi0 b off n c ⟨vb, voff, none⟩ 1 vc vs (by rw [hzs, hvl]) (fun j u hj => by rw [Addr.add_lit]; exact hvs j u hj) h1v hroom (by rw [hzs, hvl]; exact hsp) (by rw [hzs, hvl]; exact hfz)
    rw [hzs] at h
    exact h
  have hci : ¬ (c = n) := by omega
  go_enter Tryz.func52, Tryz.ntmps52
  go_wp2_with (at_builtin; refine Lib.wpList_append_run _ rfl _ _ _ _ rfl _ _ rfl rfl _ _ (hr _) ?_)
  go_ret
  exact ⟨rfl, rfl⟩
set_option maxHeartbeats 4000000 in
set_option maxRecDepth 100000 in
theorem insEndGrow (base : Option Addr) (n c vb voff vc : Nat) (cs vs : List Value) (w : World) (hnc : n ≤ c) (hroom : c < n + 1) (hn1 : n ≤ 1000)
    (hcl : cs.length = n * 7) (hvl : vs.length = 7) (hnil : base = none → n = 0)
    (hcs : ∀ a, base = some a → ∀ j v, cs[j]? = some v → w.cell? (a.add j) = some v)
    (hvs : ∀ j v, vs[j]? = some v → w.cell? ⟨vb, voff + j, none⟩ = some v) :
    Calls Tryz.prog 52 #[.slice base n c, .int .i64 n, .slice (some ⟨vb, voff, none⟩) 1 vc] w fun e w' =>
      e = .returned (.slice (some ⟨w.heap.size, 0, none⟩) (n + 1) (grownCap w (n + 1) c 37)) ∧ w' = w.drew.alloc (.cells (cs.toArray ++ vs.toArray ++ Builtin.zeroCells zAw.cells (grownCap w (n + 1) c 37 - (n + 1))) 37) := by
  have u24 := Tryz.underlying24
  have mixed : Tryz.prog.follows .mixedOrders = true := by kernel_rfl
  have hsz : (Tryz.prog.info? 37).map (·.size) = some 7 := by kernel_rfl
  have hby : (Tryz.prog.info? 37).map (·.bytes) = some 64 := by kernel_rfl
  have hze : (Tryz.prog.info? 37).bind (·.zero) = some zAw := by kernel_rfl
  obtain ⟨i0, hi0⟩ : ∃ x, Tryz.prog.info? 37 = some x := by
    cases h : Tryz.prog.info? 37 with
    | none => rw [h] at hsz; cases hsz
    | some x => exact ⟨x, rfl⟩
  have hzs : i0.size = 7 := by simpa [hi0] using hsz
  have hzb : i0.bytes = 64 := by simpa [hi0] using hby
  have hz0 : i0.zero = some zAw := by simpa [hi0] using hze
  have hr : ∀ ty, (Builtin.append_ #[24, 24] ty #[.slice base n c, .slice (some ⟨vb, voff, none⟩) 1 vc]).run Tryz.prog w = .ok (.slice (some ⟨w.heap.size, 0, none⟩) (n + 1) (grownCap w (n + 1) c 37)) (w.drew.alloc (.cells (cs.toArray ++ vs.toArray ++ Builtin.zeroCells zAw.cells (grownCap w (n + 1) c 37 - (n + 1))) 37)) := fun ty => by
    cases base with
    | none =>
      obtain rfl := hnil rfl
      obtain rfl : c = 0 := by omega
      obtain rfl : cs = [] := List.eq_nil_of_length_eq_zero (by omega)
      have h := run_append_nil (P := Tryz.prog) w 24 ty 37 i0 zAw u24 hi0 hz0 ⟨vb, voff, none⟩ 1 vc vs (by rw [hzs, hvl]) (fun j u hj => by rw [Addr.add_lit]; exact hvs j u hj) (by omega) (by omega) (by rw [hzb]; omega)
      simpa using h
    | some a =>
      exact run_append_grow (P := Tryz.prog) w 24 ty 37 i0 zAw u24 hi0 hz0 a n c cs (by rw [hzs]; exact hcl) (hcs a rfl) ⟨vb, voff, none⟩ 1 vc vs (by rw [hzs, hvl]) (fun j u hj => by rw [Addr.add_lit]; exact hvs j u hj) hroom (by omega) (by rw [hzb]; exact growslice_fits hroom (by omega))
  obtain ⟨G, hG⟩ : ∃ G, G = grownCap w (n + 1) c 37 := ⟨_, rfl⟩
  rw [← hG] at hr ⊢
  obtain ⟨ROW, hROW⟩ : ∃ ROW : Array Value, ROW = cs.toArray ++ vs.toArray ++ Builtin.zeroCells zAw.cells (G - (n + 1)) := ⟨_, rfl⟩
  rw [← hROW] at hr ⊢
  clear hG hcs hROW
  go_enter Tryz.func52, Tryz.ntmps52
  cases base with
  | none =>
    obtain rfl := hnil rfl
    obtain rfl : c = 0 := by omega
    go_wp2_with (at_builtin; refine Lib.wpList_append_run _ rfl _ _ _ _ rfl _ _ rfl rfl _ _ (hr _) ?_)
    all_goals (go_ret; exact ⟨rfl, rfl⟩)
  | some a =>
    obtain ⟨ab, ao, asp⟩ := a
    go_wp2_with (at_builtin; refine Lib.wpList_append_run _ rfl _ _ _ _ rfl _ _ rfl rfl _ _ (hr _) ?_)
    all_goals (go_ret; exact ⟨rfl, rfl⟩)
set_option maxHeartbeats 4000000 in
set_option maxRecDepth 100000 in
theorem insShift (b off n c i vb voff vc : Nat) (cs vs : List Value) (w : World) (hi : i < n) (hroom : n + 1 ≤ c) (hc63 : c ≤ 9223372036854775807) (hn1 : n ≤ 1000) (hvb : vb ≠ b)
    (hcl : cs.length = n * 7) (hvl : vs.length = 7)
    (hcs : ∀ j v, cs[j]? = some v → w.cell? ⟨b, off + j, none⟩ = some v) (hsp : ∀ j, j < (n + 1) * 7 → (w.cell? ⟨b, off + j, none⟩).isSome = true) (hfz : ∀ j, j < (n + 1) * 7 → w.frozen? ⟨b, off + j, none⟩ = false)
    (hvs : ∀ j v, vs[j]? = some v → w.cell? ⟨vb, voff + j, none⟩ = some v) (h1c : ∀ v ∈ cs, v.oneCell' = true) (h1v : ∀ v ∈ vs, v.oneCell' = true)
    (tA tB : TypeId) (kA kB : Nat) (hsa : w.shape? vb = some (tA, kA)) (hsb : w.shape? b = some (tB, kB)) (hkB : kB ≠ 0) (hfa : w.frozen? ⟨vb, voff, none⟩ = false) (hfe : w.frozen? ⟨vb, kA, none⟩ = false) :
    Calls Tryz.prog 52 #[.slice (some ⟨b, off, none⟩) n c, .int .i64 i, .slice (some ⟨vb, voff, none⟩) 1 vc] w fun e w' =>
      e = .returned (.slice (some ⟨b, off, none⟩) (n + 1) c) ∧ w' = (w.drew.setCells b (off + (i + 1) * 7) (cs.drop (i * 7))).setCells b (off + i * 7) vs := by
  have u24 := Tryz.underlying24
  have mixed : Tryz.prog.follows .mixedOrders = true := by kernel_rfl
  have hsz : (Tryz.prog.info? 37).map (·.size) = some 7 := by kernel_rfl
  have hz2 : ¬ ((i : Int) = (n : Int)) := by omega
  have hz3 : ¬ ((n : Int) + 1 > (c : Int)) := by omega
  have hov : ∀ lb cb, (callFunc 87 #[.slice (some ⟨vb, voff, none⟩) 1 vc, .slice (some ⟨b, off + (i + 1) * 7, none⟩) lb cb]).run Tryz.prog w = .ok (.value (.bool false)) w := fun lb cb => by
    rw [run_callFunc_extern Tryz.func87 (by kernel_rfl) (by kernel_rfl) (by kernel_rfl) (e := Extern.SlicesOverlaps.overlaps #[24, 24] #[4]) (by kernel_rfl),
      Lib.run_overlaps_apart (P := Tryz.prog) w 24 4 37 u24 7 (fun w => Tryz.sizeOf37 w) ⟨vb, voff, none⟩ ⟨b, off + (i + 1) * 7, none⟩ 1 vc lb cb hvb tA tB kA kB hsa hsb hkB hfa hfe]
    rfl
  have hdl : (cs.drop (i * 7)).length = (n - i) * 7 := by rw [List.length_drop, hcl]; omega
  have hw1 : IntKind.i64.wrap ((i : Int) + 1) = (i : Int) + 1 := by rw [IntKind.wrap_i64]; omega
  have hw2 : IntKind.i64.wrap ((n : Int) + 1) = (n : Int) + 1 := by rw [IntKind.wrap_i64]; omega
  have hb1 : (0 : Int) ≤ (i : Int) + 1 := by omega
  have hb5 : (0 : Int) ≤ (n : Int) + 1 := by omega
  have hin : i ≤ n := by omega
  have htn : ((i : Int) + 1).toNat = i + 1 := by omega
  have htn2 : ((n : Int) + 1).toNat = n + 1 := by omega
  have hb2 : ¬ (c = i + 1) := by omega
  have hb3 : (i : Int) ≤ (n : Int) + 1 := by omega
  have hb4 : ¬ (c = i) := by omega
  have hb6 : ((n : Int) + 1) ≤ (c : Int) := by omega
  have hcp1 : ∀ ty dc sc, (Builtin.copy_ #[24, 24] ty #[.slice (some ⟨b, off + (i + 1) * 7, none⟩) (n - i) dc, .slice (some ⟨b, off + i * 7, none⟩) (n + 1 - i) sc]).run Tryz.prog w.drew = .ok (goInt (n - i : Nat)) (w.drew.setCells b (off + (i + 1) * 7) (cs.drop (i * 7))) := fun ty dc sc =>
    run_copyK w.drew _ _ ty 37 b (off + (i + 1) * 7) (n - i) dc ⟨b, off + i * 7, none⟩ (n + 1 - i) sc 7 (n - i) (cs.drop (i * 7)) u24 hsz (by simp only [Nat.min_def]; split <;> omega) hdl
      (fun j v hj => by rw [Addr.add_lit, Nat.add_assoc]; exact hcs (i * 7 + j) v (by rwa [List.getElem?_drop] at hj))
      (fun j hj => by rw [Nat.add_assoc]; exact hsp _ (by omega)) (fun j hj => by rw [Nat.add_assoc]; exact hfz _ (by omega)) (fun v hv => h1c v (List.mem_of_mem_drop hv))
  obtain ⟨W1, hW1⟩ : ∃ W1, W1 = w.drew.setCells b (off + (i + 1) * 7) (cs.drop (i * 7)) := ⟨_, rfl⟩
  have hsp1 : ∀ k, k < (n + 1) * 7 → (W1.cell? ⟨b, off + k, none⟩).isSome = true := fun k hk => by
    rw [hW1]
    exact isSome_setCells b _ _ _ (fun j hj => by rw [Nat.add_assoc]; exact hsp _ (by omega)) _ (hsp k hk)
  have hcp2 : ∀ (W : World), (∀ x, W.cell? x = W1.cell? x) → (∀ x, W.frozen? x = W1.frozen? x) → ∀ ty dc, (Builtin.copy_ #[24, 24] ty #[.slice (some ⟨b, off + i * 7, none⟩) (n + 1 - i) dc, .slice (some ⟨vb, voff, none⟩) 1 vc]).run Tryz.prog W = .ok (goInt 1) (W.setCells b (off + i * 7) vs) := fun W hWc hWf ty dc =>
    run_copyK W _ _ ty 37 b (off + i * 7) (n + 1 - i) dc ⟨vb, voff, none⟩ 1 vc 7 1 vs u24 hsz (by simp only [Nat.min_def]; split <;> omega) (by rw [hvl])
      (fun j v hj => by
        rw [Addr.add_lit, hWc, hW1, World.cell?_setCells_out b _ _ _ _ (fun h _ => absurd h hvb)]
        exact hvs j v hj)
      (fun j hj => by rw [hWc, Nat.add_assoc]; exact hsp1 _ (by omega)) (fun j hj => by rw [hWf, hW1, World.frozen?_setCells, Nat.add_assoc]; exact hfz _ (by omega)) h1v
  rw [← hW1] at hcp1
  go_enter Tryz.func52, Tryz.ntmps52
  go_wp2_with (simp only [hov])
  go_region_law_o (refine step_copy_runI rfl _ _ 24 24 rfl _ _ (by simp [Act.eval, Act.put]) (by simp [Act.eval, Act.put]) (hcp1 _ _ _) ?_)
  go_wp2_with (at_builtin; refine wpList_copy_runI _ rfl _ _ 24 24 rfl _ _ rfl rfl (hcp2 _ (fun _ => rfl) (fun _ => rfl) _ _) ?_)
  go_ret
  first | exact ⟨rfl, rfl⟩ | exact ⟨rfl, by rw [hW1]⟩
end Go.Proofs.YtdhkpmaanegjkaaGreatDoor
namespace Go.Proofs.YtdhkpmaanegjkaaGreatDoor
open Go Go.Av Go.RowKit
set_option maxRecDepth 20000
theorem setCells_heap (g : Nat) (ty : TypeId) (fr : Nat × Nat) : ∀ (vs : List Value) (o : Nat) (w : World) (arr : Array Value), w.heap[g]? = some (.cells arr ty fr) → o + vs.length ≤ arr.size →
    ∃ arr' : Array Value, (w.setCells g o vs).heap[g]? = some (.cells arr' ty fr) ∧ arr'.size = arr.size ∧ ∀ k, arr'[k]? = if o ≤ k ∧ k < o + vs.length then vs[k - o]? else arr[k]?
  | [], o, w, arr, h, _ => ⟨arr, h, rfl, fun k => by rw [if_neg (by simp)]⟩
  | v :: r, o, w, arr, h, hl => by
    have h1 : (w.setCell ⟨g, o, none⟩ v).heap[g]? = some (.cells (arr.setIfInBounds o v) ty fr) := by
      rw [Sort.setCell_eq]
      show (w.heap.modify _ _)[g]? = _
      rw [Array.getElem?_modify, if_pos rfl, h]; rfl
    simp only [List.length_cons] at hl
    obtain ⟨arr', q1, q2, q3⟩ := setCells_heap g ty fr r (o + 1) (w.setCell ⟨g, o, none⟩ v) (arr.setIfInBounds o v) h1 (by simp only [Array.size_setIfInBounds]; omega)
    refine ⟨arr', q1, by rw [q2]; simp, fun k => ?_⟩
    rw [q3 k, Array.getElem?_setIfInBounds]
    simp only [List.length_cons]
    by_cases e : k = o
    · subst e
      rw [if_neg (by omega), if_pos rfl, if_pos (by omega), if_pos (by omega), Nat.sub_self]; rfl
    · by_cases e2 : o + 1 ≤ k ∧ k < o + 1 + r.length
      · rw [if_pos e2, if_pos (by omega), show k - o = (k - (o + 1)) + 1 by omega, List.getElem?_cons_succ]
      · rw [if_neg e2, if_neg (fun q => e q.symm), if_neg (by omega)]
theorem setCells_same (g : Nat) : ∀ (vs : List Value) (o : Nat) (w : World), (w.setCells g o vs).os = w.os ∧ (w.setCells g o vs).tape = w.tape ∧ (w.setCells g o vs).output = w.output ∧ (w.setCells g o vs).heap.size = w.heap.size ∧ ∀ b, b ≠ g → (w.setCells g o vs).heap[b]? = w.heap[b]?
  | [], o, w => ⟨rfl, rfl, rfl, rfl, fun _ _ => rfl⟩
  | v :: r, o, w => by
    obtain ⟨q1, q2, q3, q4, q5⟩ := setCells_same g r (o + 1) (w.setCell ⟨g, o, none⟩ v)
    refine ⟨q1, q2, q3, q4.trans (by rw [Sort.setCell_eq]; simp [Sort.mapBlock]), fun b hb => (q5 b hb).trans ?_⟩
    rw [Sort.setCell_eq]
    show (w.heap.modify _ _)[b]? = _
    rw [Array.getElem?_modify, if_neg (fun e => hb e.symm)]
structure InsO (w w' : World) (blk off C : Nat) (g o C' : Nat) (N : Nat) (news : List Value) : Prop where
  os : w'.os = w.os
  tape : w'.tape = w.tape
  output : w'.output = w.output
  size : w.heap.size ≤ w'.heap.size
  frame : ∀ b, b < w.heap.size → b ≠ blk → w'.heap[b]? = w.heap[b]?
  frame0 : C = 0 → ∀ b, b < w.heap.size → w'.heap[b]? = w.heap[b]?
  at_ : (g = blk ∧ N ≤ C) ∨ g = w.heap.size
  cap : N ≤ C' ∧ C' ≤ maxLen
  mem : ∃ ty arr, w'.heap[g]? = some (.cells arr ty (0, 0)) ∧ o + C' * 7 ≤ arr.size ∧ ∀ j, j < N * 7 → arr[o + j]? = news[j]?
theorem splice7 {cs vs : List Value} {n i : Nat} (hcl : cs.length = n * 7) (hvl : vs.length = 7) (hi : i ≤ n) (j : Nat) (hj : j < (n + 1) * 7) :
    (cs.take (i * 7) ++ vs ++ cs.drop (i * 7))[j]? = if j < i * 7 then cs[j]? else if j < (i + 1) * 7 then vs[j - i * 7]? else cs[j - 7]? := by
  have h1 : (cs.take (i * 7)).length = i * 7 := by rw [List.length_take]; omega
  by_cases c1 : j < i * 7
  · rw [if_pos c1, List.append_assoc, List.getElem?_append_left (by omega), List.getElem?_take, if_pos c1]
  · rw [if_neg c1]
    by_cases c2 : j < (i + 1) * 7
    · rw [if_pos c2, List.append_assoc, List.getElem?_append_right (by omega), h1, List.getElem?_append_left (by omega)]
    · rw [if_neg c2, List.getElem?_append_right (by rw [List.length_append, h1]; omega), List.length_append, h1, hvl, List.getElem?_drop, show i * 7 + (j - (i * 7 + 7)) = j - 7 by omega]
theorem insO (b off n c i vb voff vc : Nat) (A : Option Addr) (w : World) (cs vs : List Value) (arr varr : Array Value) (ty vty : TypeId) (hi : i ≤ n) (hnc : n ≤ c) (hcM : c ≤ maxLen) (hn1 : n ≤ 1000) (hvb : vb ≠ b ∨ c = 0)
    (hA : 0 < c → A = some ⟨b, off, none⟩) (hheap : 0 < c → w.heap[b]? = some (.cells arr ty (0, 0)) ∧ off + c * 7 ≤ arr.size ∧ ∀ j, j < n * 7 → cs[j]? = arr[off + j]?)
    (hvh : w.heap[vb]? = some (.cells varr vty (0, 0))) (hvf : voff + 7 ≤ varr.size) (hvs : ∀ j, j < 7 → vs[j]? = varr[voff + j]?)
    (hcl : cs.length = n * 7) (hvl : vs.length = 7) (h1c : ∀ v ∈ cs, v.oneCell' = true) (h1v : ∀ v ∈ vs, v.oneCell' = true) :
    Calls Tryz.prog 52 #[.slice A n c, .int .i64 i, .slice (some ⟨vb, voff, none⟩) 1 vc] w fun e w' =>
      ∃ g o C', e = .returned (.slice (some ⟨g, o, none⟩) (n + 1) C') ∧ InsO w w' b off c g o C' (n + 1) (cs.take (i * 7) ++ vs ++ cs.drop (i * 7)) := by
  have hvc : ∀ j v, vs[j]? = some v → w.cell? ⟨vb, voff + j, none⟩ = some v := fun j v hj => by
    have hj7 : j < 7 := by rw [← hvl]; exact (List.getElem?_eq_some_iff.1 hj).1
    unfold World.cell?
    simp only [hvh]
    rw [hvs j hj7] at hj
    simpa using hj
  have hg63 : ∀ m, m ≤ maxLen → m ≤ 9223372036854775807 := fun m h => by unfold maxLen at h; omega
  have hcc : 0 < c → ∀ j v, cs[j]? = some v → w.cell? ⟨b, off + j, none⟩ = some v := fun h0 j v hj => by
    have hj7 : j < n * 7 := by rw [← hcl]; exact (List.getElem?_eq_some_iff.1 hj).1
    obtain ⟨q1, q2, q3⟩ := hheap h0
    unfold World.cell?
    simp only [q1]
    rw [q3 j hj7] at hj
    simpa using hj
  have hsp : ∀ m, m ≤ c → 0 < c → ∀ j, j < m * 7 → (w.cell? ⟨b, off + j, none⟩).isSome = true ∧ w.frozen? ⟨b, off + j, none⟩ = false := fun m hm h0 j hj => by
    obtain ⟨q1, q2, q3⟩ := hheap h0
    constructor
    · unfold World.cell?
      simp only [q1]
      have : off + j < arr.size := by omega
      simp [this]
    · unfold World.frozen?
      simp only [q1]
      simp
  by_cases hroom : n + 1 ≤ c
  · have h0 : 0 < c := by omega
    obtain ⟨q1, q2, q3⟩ := hheap h0
    rw [hA h0]
    by_cases hin : i = n
    · subst hin
      refine (insEndRoom b off i c vb voff vc vs w hroom (hg63 c hcM) hn1 hvl (fun j hj => by rw [Nat.add_assoc]; exact (hsp (i + 1) hroom h0 _ (by omega)).1) (fun j hj => by rw [Nat.add_assoc]; exact (hsp (i + 1) hroom h0 _ (by omega)).2) hvc h1v).mono ?_
      rintro e w' ⟨rfl, rfl⟩
      obtain ⟨s1, s2, s3, s4, s5⟩ := setCells_same b vs (off + i * 7) w
      obtain ⟨arr', p1, p2, p3⟩ := setCells_heap b ty (0, 0) vs (off + i * 7) w arr q1 (by omega)
      refine ⟨b, off, c, rfl, s1, s2, s3, by omega, fun b' _ hb' => s5 b' hb', fun h9 => by omega, .inl ⟨rfl, hroom⟩, ⟨hroom, hcM⟩, ty, arr', p1, by omega, fun j hj => ?_⟩
      rw [p3, splice7 hcl hvl (Nat.le_refl _) j hj, hvl]
      by_cases c1 : j < i * 7
      · rw [if_neg (by omega), if_pos c1, q3 j c1]
      · rw [if_pos (by omega), if_neg c1, if_pos (by omega), show off + j - (off + i * 7) = j - i * 7 by omega]
    · have hvb2 : vb ≠ b := hvb.resolve_right (by omega)
      have hfr : ∀ k, w.frozen? ⟨vb, k, none⟩ = false := fun k => by
        unfold World.frozen?
        simp only [hvh]
        simp
      refine (insShift b off n c i vb voff vc cs vs w (by omega) hroom (hg63 c hcM) hn1 hvb2 hcl hvl (hcc h0) (fun j hj => (hsp (n + 1) hroom h0 j hj).1) (fun j hj => (hsp (n + 1) hroom h0 j hj).2) hvc h1c h1v vty ty varr.size arr.size (by unfold World.shape?; rw [hvh]) (by unfold World.shape?; rw [q1]) (by omega) (hfr _) (hfr _)).mono ?_
      rintro e w' ⟨rfl, rfl⟩
      have hdl : (cs.drop (i * 7)).length = (n - i) * 7 := by rw [List.length_drop, hcl]; omega
      obtain ⟨s1, s2, s3, s4, s5⟩ := setCells_same b (cs.drop (i * 7)) (off + (i + 1) * 7) w.drew
      obtain ⟨arr1, p1, p2, p3⟩ := setCells_heap b ty (0, 0) (cs.drop (i * 7)) (off + (i + 1) * 7) w.drew arr q1 (by omega)
      obtain ⟨t1, t2, t3, t4, t5⟩ := setCells_same b vs (off + i * 7) (w.drew.setCells b (off + (i + 1) * 7) (cs.drop (i * 7)))
      obtain ⟨arr2, r1, r2, r3⟩ := setCells_heap b ty (0, 0) vs (off + i * 7) _ arr1 p1 (by omega)
      refine ⟨b, off, c, rfl, t1.trans s1, t2.trans s2, t3.trans s3, by rw [t4, s4]; exact Nat.le_refl _, fun b' _ hb' => (t5 b' hb').trans (s5 b' hb'), fun h9 => by omega, .inl ⟨rfl, hroom⟩, ⟨hroom, hcM⟩, ty, arr2, r1, by omega, fun j hj => ?_⟩
      rw [r3, p3, splice7 hcl hvl hi j hj, hvl, hdl]
      by_cases c1 : j < i * 7
      · rw [if_neg (by omega), if_neg (by omega), if_pos c1, q3 j (by omega)]
      · by_cases c2 : j < (i + 1) * 7
        · rw [if_pos (by omega), if_neg c1, if_pos c2, show off + j - (off + i * 7) = j - i * 7 by omega]
        · rw [if_neg (by omega), if_pos (by omega), if_neg c1, if_neg c2, List.getElem?_drop, show i * 7 + (off + j - (off + (i + 1) * 7)) = j - 7 by omega]
  · have hGle := grownCap_le_maxLen w (n + 1) c 37 (by unfold maxLen; omega)
    have hGge := grownCap_ge w (n + 1) c 37
    have hz7 : zAw.cells.size = 7 := rfl
    by_cases hin : i = n
    · subst hin
      refine (insEndGrow A i c vb voff vc cs vs w hnc (by omega) hn1 hcl hvl (fun e => by
        rcases Nat.eq_zero_or_pos c with h0 | h0
        · omega
        · rw [hA h0] at e; cases e) (fun a ha j v hj => by
        have h0 : 0 < c := by
          have : j < i * 7 := by rw [← hcl]; exact (List.getElem?_eq_some_iff.1 hj).1
          omega
        rw [hA h0] at ha
        cases ha
        rw [Addr.add_lit]; exact hcc h0 j v hj) hvc).mono ?_
      rintro e w' ⟨rfl, rfl⟩
      generalize grownCap w (i + 1) c 37 = G at *
      refine ⟨w.heap.size, 0, G, rfl, rfl, rfl, rfl, ?_, fun b' hb _ => ?_, fun _ b' hb => ?_, .inr rfl, ⟨hGge, hGle⟩, 37, _, heap_alloc_new w.drew _, ?_, fun j hj => ?_⟩
      · show w.heap.size ≤ (w.heap.push _).size
        rw [Array.size_push]; omega
      · show (w.heap.push _)[b']? = _
        rw [Array.getElem?_push, if_neg (by omega)]
      · show (w.heap.push _)[b']? = _
        rw [Array.getElem?_push, if_neg (by omega)]
      · simp [size_zeroCells, hz7, hcl, hvl]; omega
      · rw [splice7 hcl hvl (Nat.le_refl _) j hj, Nat.zero_add]
        by_cases c1 : j < i * 7
        · rw [if_pos c1, Array.getElem?_append_left (by simp [hcl, hvl]; omega), Array.getElem?_append_left (by simp [hcl]; omega)]; simp
        · rw [if_neg c1, if_pos (by omega), Array.getElem?_append_left (by simp [hcl, hvl]; omega), Array.getElem?_append_right (by simp [hcl]; omega)]; simp [hcl]
    · have h0 : 0 < c := by omega
      rw [hA h0]
      refine (insGrow b off n c i vb voff vc cs vs w (by omega) hnc (by omega) hn1 hcl hvl (hcc h0) hvc h1c h1v).mono ?_
      rintro e w' ⟨rfl, rfl⟩
      generalize grownCap w (n + 1) c 37 = G at *
      have hdl : (cs.drop (i * 7)).length = (n - i) * 7 := by rw [List.length_drop, hcl]; omega
      generalize hROW : (cs.take (i * 7)).toArray ++ Builtin.zeroCells zAw.cells (n + 1 - i) ++ Builtin.zeroCells zAw.cells (G - (n + 1)) = ROW
      have hRs : ROW.size = G * 7 := by
        rw [← hROW]
        simp [size_zeroCells, hz7, hcl]
        omega
      have hRg : ∀ j, j < i * 7 → ROW[j]? = cs[j]? := fun j hj => by
        rw [← hROW, Array.append_assoc, Array.getElem?_append_left (by simp [hcl]; omega)]
        simp [hj]
      obtain ⟨s1, s2, s3, s4, s5⟩ := setCells_same w.heap.size vs (i * 7) (w.alloc (.cells ROW 37)).drew
      obtain ⟨arr1, p1, p2, p3⟩ := setCells_heap w.heap.size 37 (0, 0) vs (i * 7) (w.alloc (.cells ROW 37)).drew ROW (heap_alloc_new w _) (by omega)
      obtain ⟨t1, t2, t3, t4, t5⟩ := setCells_same w.heap.size (cs.drop (i * 7)) ((i + 1) * 7) ((w.alloc (.cells ROW 37)).drew.setCells w.heap.size (i * 7) vs).drew
      obtain ⟨arr2, r1, r2, r3⟩ := setCells_heap w.heap.size 37 (0, 0) (cs.drop (i * 7)) ((i + 1) * 7) ((w.alloc (.cells ROW 37)).drew.setCells w.heap.size (i * 7) vs).drew arr1 p1 (by omega)
      refine ⟨w.heap.size, 0, G, rfl, t1.trans s1, t2.trans s2, t3.trans s3, ?_, fun b' hb _ => ?_, fun h9 => by omega, .inr rfl, ⟨hGge, hGle⟩, 37, arr2, r1, by omega, fun j hj => ?_⟩
      · rw [t4]
        show w.heap.size ≤ ((w.alloc (.cells ROW 37)).drew.setCells w.heap.size (i * 7) vs).heap.size
        rw [s4]
        show w.heap.size ≤ (w.heap.push _).size
        rw [Array.size_push]; omega
      · rw [t5 b' (by omega)]
        show ((w.alloc (.cells ROW 37)).drew.setCells w.heap.size (i * 7) vs).heap[b']? = _
        rw [s5 b' (by omega)]
        show (w.heap.push _)[b']? = _
        rw [Array.getElem?_push, if_neg (by omega)]
      · rw [Nat.zero_add, r3, p3, splice7 hcl hvl hi j hj, hvl, hdl]
        by_cases c1 : j < i * 7
        · rw [if_neg (by omega), if_neg (by omega), if_pos c1, hRg j c1]
        · by_cases c2 : j < (i + 1) * 7
          · rw [if_neg (by omega), if_pos (by omega), if_neg c1, if_pos c2]
          · rw [if_pos (by omega), if_neg c1, if_neg c2, List.getElem?_drop, show i * 7 + (j - (i + 1) * 7) = j - 7 by omega]
end Go.Proofs.YtdhkpmaanegjkaaGreatDoor
