/- Contracts of functions of the program, and what they compute. Conditions: those that each theorem states. -/
import Derived.Test.YtdhkpmaanegjkaaGreatProg
import Derived.Test.YtdhkpmaanegjkaaGreatL1
import Derived.Test.YtdhkpmaanegjkaaGreatF4
set_option linter.unusedVariables false
set_option linter.unusedSimpArgs false
namespace Go.Proofs.YtdhkpmaanegjkaaGreat
open Go.Av
open Go
def frzT (m : Nat) (R : List AV → List OB → Prop) (vs : List AV) (ho : List OB) : Prop :=
  ∃ k ob, 2 ≤ vs.length ∧ ho.length = k + 1 ∧ m ≤ k ∧ ho[k]? = some ob ∧ fzOk ob = true ∧ seqW (fzV k ob 4) vs fun vs' => R (renL (expG (List.range k)) some vs') (renHeap (List.range k) (ho.set k .dead))
theorem semFrzT {P : Program} [Kn P] {f : FuncId} {args : List AV} {hin : List OB} {R : List AV → List OB → Prop} (h : FnSem P f args hin fun vs ho => R vs ho ∨ frzT hin.length R vs ho) : FnSem P f args hin R := by
  refine ⟨h.1, fun w vals pl A hA hkn he => (h.2 w vals pl A hA hkn he).mono ?_⟩
  rintro e w' ⟨u, vs, ho, pl', rfl, hR | ⟨k, ob, h2, hl, hm, hk, hob, hfz⟩, hB⟩
  · exact ⟨u, vs, ho, pl', rfl, hR, hB⟩
  have hret : retAV vs = .tup vs := by
    match vs, h2 with
    | _ :: _ :: _, _ => rfl
  have hres := hB.res
  rw [hret] at hres
  cases hres with
  | @tup _ arr hs hr =>
  have hC : ConcP arr.size hin.length (Stab pl hin w) A w ⟨fun s => vs.getD s .junk, ho⟩ pl' { tmps := arr, defers := [] } w' :=
    { defers := rfl, size := rfl, os := hB.os, tape := hB.tape, output := hB.output, hsize := hB.size, frame := hB.frame, ownlt := fun k b hk => (hB.own k b hk).1, ownF := fun k b hk => (hB.own k b hk).2, newb := hB.newb, disj := hB.disj, heap := hB.heap
      env := fun s => by
        show RelA _ _ _ _ _ (vs.getD s .junk) (arr.getD s undef)
        by_cases hsl : s < vs.length
        · have ha : s < arr.size := by omega
          rw [List.getD_eq_getElem?_getD, List.getElem?_eq_getElem hsl, Array.getD_eq_getD_getElem?, Array.getElem?_eq_getElem ha]
          exact hr s _ _ (List.getElem?_eq_getElem hsl) (Array.getElem?_eq_getElem ha)
        · rw [List.getD_eq_getElem?_getD, List.getElem?_eq_none (by omega)]; exact .junk }
  obtain ⟨hS, hFr, hFS, hown⟩ := frz1 hC hk hob
  obtain ⟨vs', hR, hlv, hv⟩ := seqW_sound (r := fun v v' => ∀ u, RelA pl' ho.length (Sany A w.heap.size pl' ho w') (Fresh w.heap.size pl' ho w') w' v u → RelA pl' ho.length (Sany A w.heap.size pl' (ho.set k .dead) w') (Fresh w.heap.size pl' (ho.set k .dead) w') w' v' u)
    (fun v K h => fzV_sound hC hk hob hS hFr hFS hown 4 v K h) hfz
  have hC2 := hC.freeze (env' := fun s => vs'.getD s .junk) (h' := ho.set k .dead) hk hob (by simp) (R := fun a b => ∀ u, RelA pl' ho.length (Sany A w.heap.size pl' ho w') (Fresh w.heap.size pl' ho w') w' a u → RelA pl' ho.length (Sany A w.heap.size pl' (ho.set k .dead) w') (Fresh w.heap.size pl' (ho.set k .dead) w') w' b u)
    (fun a b hab => hab) (fun i o o' h1 h2 => by
      rw [h1] at h2
      cases h2
      cases o with
      | fix cs =>
        refine ⟨cs, rfl, rfl, fun j c c' hj hj' u hu => ?_⟩
        rw [hj] at hj'
        cases hj'
        exact hu.mono (Nat.le_refl _) (fun _ _ => Pl.Base.refl _) hS hFr (fun _ _ => rfl) (fun _ _ => rfl)
      | _ => rfl) (fun s u hu => by
      by_cases hsl : s < vs.length
      · have hsl' : s < vs'.length := by omega
        simp only [List.getD_eq_getElem?_getD, List.getElem?_eq_getElem hsl, List.getElem?_eq_getElem hsl', Option.getD_some] at hu ⊢
        exact hv s _ _ (List.getElem?_eq_getElem hsl) (List.getElem?_eq_getElem hsl') u hu
      · simp only [List.getD_eq_getElem?_getD, List.getElem?_eq_none (show vs'.length ≤ s by omega)]; exact .junk)
  have hkl : k < ho.length := by omega
  have hC3 := hC2.rename (List.range k) (by rw [List.take_range, Nat.min_eq_left hm]) List.nodup_range (fun i hi => by simp only [List.length_set]; have := List.mem_range.1 hi; omega)
  have hret2 : retAV (renL (expG (List.range k)) some vs') = .tup (renL (expG (List.range k)) some vs') := by
    rw [renL_eq]
    match vs', show 2 ≤ vs'.length by omega with
    | _ :: _ :: _, _ => rfl
  refine ⟨_, _, _, _, rfl, hR, { os := hC3.os, tape := hC3.tape, output := hC3.output, size := hC3.hsize, frame := hC3.frame, len := by simp [renHeap]; exact hm, io := fun i hi => ?_, own := fun i b hi => ⟨hC3.ownlt i b hi, hC3.ownF i b hi⟩, newb := hC3.newb, disj := hC3.disj, heap := hC3.heap, res := ?_ }⟩
  · rw [renPl_get (k := i) (by rw [List.getElem?_range (by omega)])]
    exact hB.io i hi
  · rw [hret2]
    refine .tup (by rw [renL_eq, List.length_map]; omega) fun j p x hp hx => ?_
    have := hC3.env j
    rw [renL_eq, List.getElem?_map] at hp
    cases hvj : vs'[j]? with
    | none => rw [hvj] at hp; cases hp
    | some v0 =>
      rw [hvj] at hp
      cases hp
      simp only [List.getD_eq_getElem?_getD, hvj, Option.getD_some] at this
      rw [Array.getD_eq_getD_getElem?, hx] at this
      exact this
end Go.Proofs.YtdhkpmaanegjkaaGreat
/- Contracts of functions of the program, and what they compute. Conditions: those that each theorem states. -/
set_option linter.unusedVariables false
set_option linter.unusedSimpArgs false
namespace Go.Proofs.YtdhkpmaanegjkaaGreat
open Go.Av
attribute [local irreducible] Go.IntKind.wrap leastI rdZ rd rootI okMine treeC mshC dropI prI okFanB okFsB hsB
set_option maxRecDepth 20000
set_option maxHeartbeats 40000000
structure askG (m : GMine) (fs : List GFan) (dr : List Int) : Prop where
  hm : okMine m = true
  ln : fs.length ≤ 8
  ok : ∀ k : Nat, k < fs.length → okFan (fs.getD k default)
  aw : ∀ k : Nat, k < fs.length → 0 ≤ (fs.getD k default).airway ∧ (fs.getD k default).airway < m.airways.length
  dl : dr.length = m.airways.length
  db : ∀ k : Nat, -100000 ≤ dr.getD k 0 ∧ dr.getD k 0 ≤ 100000
theorem psG_b {m : GMine} {fs : List GFan} {dr : List Int} (h : askG m fs dr) (fl : List Int) : (psF fs dr fl).length = m.airways.length ∧ ∀ k : Nat, -180000 ≤ (psF fs dr fl).getD k 0 ∧ (psF fs dr fl).getD k 0 ≤ 180000 := by
  refine ⟨(psL_len _ _).trans h.dl, fun k => ?_⟩
  have := psL_b (fl := fl) fs dr 100000 (fun k hk => h.ok k hk) h.db k
  have := h.ln
  show -180000 ≤ (psL fl fs dr).getD k 0 ∧ (psL fl fs dr).getD k 0 ≤ 180000
  omega
--@fn impl.pushesOf
theorem pushG (m : GMine) (fs : List GFan) (dr fl : List Int) (h : askG m fs dr) (hf : fl.length = m.airways.length) (hfb : ∀ k : Nat, -100000 ≤ fl.getD k 0 ∧ fl.getD k 0 ≤ 100000) : FnSem Tryz.prog 49 [Lx (.lst GFan.z (fs.map GFan.cells)), Lx (LI dr), Lx (LI fl)] [] (Is [.osl 0 0 m.airways.length] [.row false .flat (eI 0) ((psF fs dr fl).map eI)]) := by
  have hL := (okMine_p h.hm).2.1
  have hdl := h.dl
  have hln := h.ln
  have hok := fun i : Int => h.ok i.toNat
  have haw := fun i : Int => h.aw i.toNat
  have hpb : ∀ (i : Int) (ps : List Int), ps = psL fl (fs.take i.toNat) dr → ps.length = m.airways.length ∧ ∀ k : Nat, -180000 ≤ ps.getD k 0 ∧ ps.getD k 0 ≤ 180000 := fun i ps e => by
    refine ⟨by rw [e, psL_len]; exact hdl, fun k => ?_⟩
    have := psL_b (fl := fl) (fs.take i.toNat) dr 100000 (fun k hk => by
      rw [List.length_take] at hk
      have e2 : (fs.take i.toNat).getD k default = fs.getD k default := by
        rw [List.getD_eq_getElem?_getD, List.getElem?_take, if_pos (by omega), ← List.getD_eq_getElem?_getD]
      rw [e2]; exact h.ok k (by omega)) h.db k
    rw [← e, List.length_take] at this
    omega
  refine FnSem.old ?_
  refine FnSem.walk (zs := zeroPV Tryz.prog) (by kernel_rfl) Tryz.func49 rfl Tryz.results49 (by kernel_rfl) (by kernel_rfl) (by kernel_rfl) fun hw hh => ?_
  obtain ⟨w0, w1, w2, _⟩ := hw
  first | replace w0 := wf_LFan w0 | skip
  first | replace w1 := wf_LI w1 | skip
  first | replace w2 := wf_LI w2 | skip
  repeat' first
    | refine And.intro rfl ?_
    | refine GdF.mk (fun h => h) ?_
    | refine And.intro (Nat.succ_ne_zero _) ?_
    | refine And.intro (Nat.le_of_ble_eq_true rfl) ?_
    | refine SeqF.run ?_
    | refine GhF.held 5 rfl [(14, [0])] ?_
    | refine ArgF.is (c_slices_Clone_int64_int64 dr (by omega)) ?_
    | refine ArgQ.is (fun hG => c_slices_Clone_int64_int64 dr (by omega)) rfl rfl ?_
    | refine ArgF.is (c_impl_Fan_pressure (fs.getD i.toNat default) (fl.getD (fs.getD i.toNat default).airway.toNat 0) (hok i (by omega)) (hfb _)) ?_
    | refine ArgQ.is (fun hG => c_impl_Fan_pressure (fs.getD i.toNat default) (fl.getD (fs.getD i.toNat default).airway.toNat 0) (hok i (by omega)) (hfb _)) rfl rfl ?_
    | refine LoopF.at 3 rfl (LoopF.fixw [1000] [2, 7, 12, 13] (Int × List Int) (fun (i, ps) => 0 ≤ i ∧ i ≤ fs.length ∧ ps = psL fl (fs.take i.toNat) dr ∧ ps.length = m.airways.length) (fun (i, ps) => [(14, In i)]) (fun (i, ps) => [(0, .row false .flat (eI 0) (ps.map eI))]) (fun (i, ps) => ((fs.length - i).toNat)) ((0, dr)) ?_)
    | (refine LoopB.of (T := Int × List Int) ?_ ?_; rotate_left; rintro ⟨i, ps⟩ ⟨i0, i1, i2, i3⟩; rotate_left)
    | refine BndF.mk (fun hG => by have q2 := haw i (by omega); first | omega | (simp only [List.length_map]; omega)) ?_
    | refine EqI.mk _ (fun _ => by have q := (hpb i ps i2).2 (fs.getD i.toNat default).airway.toNat; have q2 := prI_b (hok i (by omega)) (fl.getD (fs.getD i.toNat default).airway.toNat 0); exact wrapI (by omega) (by omega)) ?_
    | refine HdF.at 14 rfl 0 [] (And.intro (by decide +kernel) (And.intro rfl ?_))
    | refine HdF.at 13 rfl 1 [] (And.intro (by decide +kernel) (And.intro rfl ?_))
    | refine HdF.at 12 rfl 2 [3, 4, 12, 13, 14] (And.intro (by decide +kernel) (And.intro rfl ?_))
    | refine HdF.at 11 rfl 3 [] (And.intro (by decide +kernel) (And.intro rfl ?_))
    | refine HdF.at 10 rfl 4 [12, 13, 14] (And.intro (by decide +kernel) (And.intro rfl ?_))
    | refine HdF.at 9 rfl 5 [11, 12, 13, 14] (And.intro (by decide +kernel) (And.intro rfl ?_))
    | refine HdF.at 8 rfl 6 [] (And.intro (by decide +kernel) (And.intro rfl ?_))
    | refine HdF.at 7 rfl 7 [] (And.intro (by decide +kernel) (And.intro rfl ?_))
    | refine HdF.at 6 rfl 8 [9, 10, 11, 12, 13, 14] (And.intro (by decide +kernel) (And.intro rfl ?_))
    | refine HdF.at 5 rfl 9 [] (And.intro (by decide +kernel) (And.intro rfl ?_))
    | refine HdF.at 4 rfl 10 [11, 12, 13, 14] (And.intro (by decide +kernel) (And.intro rfl ?_))
    | refine HdF.goAt 3 rfl ?_
    | refine OrdL.ord ?_
    | refine OrdF.take 12 (by decide +kernel) (And.intro rfl ?_)
    | refine OrdF.take 13 (by decide +kernel) (And.intro rfl ?_)
    | refine OrdF.all [14] (by decide +kernel) ?_
    | refine OrdF.all [11] (by decide +kernel) ?_
    | refine OrdF.fin (by decide +kernel) ?_
    | refine AllF.one _ ?_
    | refine AllF.cons _ _ ?_ ?_
    | refine OpH.quiet rfl ?_
    | refine OpH.heap ?_
    | refine GhF.go ?_
    | refine DrawG.old (DrawF.lex (by decide +kernel) ?_)
    | refine DrawG.old (DrawF.any ?_)
    | refine OrdF.take 0 (by decide +kernel) ?_
    | refine OrdF.take 1 (by decide +kernel) ?_
    | refine OrdF.take 6 (by decide +kernel) ?_
    | refine OrdF.take 7 (by decide +kernel) ?_
    | refine OrdF.take 9 (by decide +kernel) ?_
    | refine OrdF.take 3 (by decide +kernel) ?_
    | refine OrdF.take 12 (by decide +kernel) ?_
    | refine OrdF.take 13 (by decide +kernel) ?_
    | refine OrdF.all [14] (by decide +kernel) ?_
    | refine OrdF.all [4] (by decide +kernel) ?_
    | refine OrdF.all [2] (by decide +kernel) ?_
    | refine OrdF.all [11] (by decide +kernel) ?_
    | refine OrdF.all [4, 11] (by decide +kernel) ?_
    | refine OrdF.all [2, 11] (by decide +kernel) ?_
    | refine OrdF.all [5] (by decide +kernel) ?_
    | refine OrdF.all [4, 5] (by decide +kernel) ?_
    | refine OrdF.all [2, 5] (by decide +kernel) ?_
    | refine OrdF.all [10] (by decide +kernel) ?_
    | refine OrdF.all [4, 10] (by decide +kernel) ?_
    | refine OrdF.all [2, 10] (by decide +kernel) ?_
    | refine OrdF.all [5, 10] (by decide +kernel) ?_
    | refine OrdF.all [4, 5, 10] (by decide +kernel) ?_
    | refine OrdF.all [2, 5, 10] (by decide +kernel) ?_
    | refine OrdF.all [8] (by decide +kernel) ?_
    | refine OrdF.all [4, 8] (by decide +kernel) ?_
    | refine OrdF.all [2, 8] (by decide +kernel) ?_
    | refine OrdF.all [5, 8] (by decide +kernel) ?_
    | refine OrdF.all [4, 5, 8] (by decide +kernel) ?_
    | refine OrdF.all [2, 5, 8] (by decide +kernel) ?_
    | refine OrdF.fin (by decide +kernel) ?_
    | refine AllF.one _ ?_
    | refine AllF.cons _ _ ?_ ?_
    | refine MkF.row ?_
    | refine EqP.mk _ (gm eI 0 rfl) ?_
    | refine EqP.mk _ (gmb GFan.cells default (by omega)) ?_
    | refine BndF.mk (fun _ => by omega) ?_
    | refine BndF.mk (fun _ => by simp only [lnS]; omega) ?_
    | refine EqI.mk _ (fun _ => wrapI (by omega) (by omega)) ?_
    | refine EqI.mk _ (fun _ => rfl) ?_
    | refine EqN.mk _ (ln eI) ?_
    | refine EqN.mk _ (ln GFan.cells) ?_
    | refine EqN.mk _ (Nat.zero_add _) ?_
    | refine EqN.mk _ (Int.toNat_natCast _) ?_
    | refine EqN.mk _ rfl ?_
    | refine EqL.mk _ (tk eI (by first | rfl | assumption | omega | (simp only [lnS] <;> omega))) ?_
    | refine EqL.mk _ (st eI) ?_
    | refine EqL.mk _ (dt eI) ?_
    | refine EqL.mk _ (tk GFan.cells (by first | rfl | assumption | omega | (simp only [lnS] <;> omega))) ?_
    | refine EqL.mk _ (st GFan.cells) ?_
    | refine EqL.mk _ (dt GFan.cells) ?_
    | refine EqL.mk [] rfl ?_
    | refine EqL.mk [_] rfl ?_
    | refine EqL.mk _ rfl ?_
    | refine ArgF.is (c_slices_Clone_int64_int64 _ (by first | assumption | omega)) ?_
    | refine ArgQ.is (fun hG => c_slices_Clone_int64_int64 _ (by first | assumption | omega)) rfl rfl ?_
    | refine ArgF.is (c_impl_Fan_pressure ⟨_, _, _⟩ _ (by first | assumption | omega) (by first | assumption | omega)) ?_
    | refine ArgQ.is (fun hG => c_impl_Fan_pressure ⟨_, _, _⟩ _ (by first | assumption | omega) (by first | assumption | omega)) rfl rfl ?_
    | refine CallF.mk (CallW.is [] true rfl ?_)
    | refine CallG.mk ?_
    | (refine CondF.mk (fun hb => ?_) (fun hb => ?_) <;> try simp only [forall_const, eq_self, not_true_eq_false, not_false_eq_true, or_false, false_or, or_self, or_true, true_or, and_true, true_and, and_false, false_and, decide_true, decide_false, Bool.not_true, Bool.not_false, decide_eq_true_eq, decide_eq_false_iff_not, ite_and_p, ite_or_p, Bool.decide_eq_true, Bool.and_eq_true, Bool.or_eq_true, Bool.not_eq_true', Bool.not_eq_false', Bool.and_eq_false_imp, Bool.or_eq_false_iff, bne_iff_ne, beq_iff_eq, bne_eq_false_iff_eq, beq_eq_false_iff_ne, gt_iff_lt, ge_iff_le, Int.not_lt, Int.not_le, ne_eq, Bool.true_eq_false, Bool.false_eq_true, reduceCtorEq, eta_Airway, eta_Fan, eta_Mine] at hb)
    | apply BackF.auto2
    | refine BackB.mk ?_ ?_
    | refine RetF.auto (And.intro rfl ?_)
    | exact Is.mk rfl rfl
    | refine Is.mk ?_ rfl
    | refine Is.mk rfl ?_
    | refine Is.mk ?_ ?_
  all_goals try dsimp only
  all_goals first
    | omega
    | exact ⟨by omega, by omega, rfl, hdl⟩
    | exact ⟨by omega, by omega, by rw [i2]; exact (psL_s i0 (by assumption)).symm, by rw [List.length_set]; exact i3⟩
    | rw [hdl]
    | (rw [i2, show i.toNat = fs.length by omega, List.take_length]; rfl)
    | skip
def riI (r fl w : List Int) : Nat → Int
  | 0 => 0
  | k + 1 => riI r fl w k + 2 * r.getD (absI (w.getD k 0) - 1).toNat 0 * absI (fl.getD (absI (w.getD k 0) - 1).toNat 0)
def alI (r w : List Int) : Nat → Int
  | 0 => 0
  | k + 1 => alI r w k + r.getD (absI (w.getD k 0) - 1).toNat 0
theorem riI_s {r fl w : List Int} {i : Int} (h : 0 ≤ i) : riI r fl w (i + 1).toNat = riI r fl w i.toNat + 2 * r.getD (absI (w.getD i.toNat 0) - 1).toNat 0 * absI (fl.getD (absI (w.getD i.toNat 0) - 1).toNat 0) := by
  rw [show (i + 1).toNat = i.toNat + 1 by omega]; rfl
theorem alI_s {r w : List Int} {i : Int} (h : 0 ≤ i) : alI r w (i + 1).toNat = alI r w i.toNat + r.getD (absI (w.getD i.toNat 0) - 1).toNat 0 := by
  rw [show (i + 1).toNat = i.toNat + 1 by omega]; rfl
def spR (e ri al : Int) : Int := if 0 < ri then rdZ ((0 - e) * 10000000000) ri else if 0 < e then 0 - rootI ((e * 10000000000).tdiv al) else if e < 0 then rootI (((0 - e) * 10000000000).tdiv al) else 0
def spI (r p fl w : List Int) : Int := min (max (spR (errW r p fl w) (riI r fl w w.length) (alI r w w.length)) (-10000)) 10000
theorem spI_b (r p fl w : List Int) : -10000 ≤ spI r p fl w ∧ spI r p fl w ≤ 10000 := by unfold spI; omega
--@fn impl.stepOf
theorem stepX (m : GMine) (w r p fl : List Int) (h : sysO m r p fl) (hw : okWk m.airways.length w) (hw1 : 1 ≤ w.length) (hL : m.airways.length ≤ 24) : FnSem Tryz.prog 52 [Lx (LI w), Lx (LI r), Lx (LI p), Lx (LI fl)] [] (Is [In (spI r p fl w)] []) := by
  have hr := h.r.1
  have hp := h.p.1
  have hf := h.f.1
  have h64 := hw.1
  have hE : -(w.length * 3000000) ≤ errW r p fl w ∧ errW r p fl w ≤ w.length * 3000000 := errI_b h hw w.length (Nat.le_refl _)
  have hrt := rootI_up
  have hm2 : ∀ k : Nat, k < w.length → 0 ≤ 2 * r.getD (absI (w.getD k 0) - 1).toNat 0 * absI (fl.getD (absI (w.getD k 0) - 1).toNat 0) ∧ 2 * r.getD (absI (w.getD k 0) - 1).toNat 0 * absI (fl.getD (absI (w.getD k 0) - 1).toNat 0) ≤ 200000000000 := fun k hk => by
    obtain ⟨a, b, c⟩ := sys_i h hw hk
    have ha : 0 ≤ absI (fl.getD (absI (w.getD k 0) - 1).toNat 0) ∧ absI (fl.getD (absI (w.getD k 0) - 1).toNat 0) ≤ 100000 := by unfold absI at c ⊢; omega
    have := mulB (a := 2 * r.getD (absI (w.getD k 0) - 1).toNat 0) (b := absI (fl.getD (absI (w.getD k 0) - 1).toNat 0)) (A := 2000000) (B := 100000) (by omega) ha
    exact ⟨Int.mul_nonneg (by omega) ha.1, by omega⟩
  refine FnSem.walk (zs := zeroPV Tryz.prog) (by kernel_rfl) Tryz.func52 rfl Tryz.results52 (by kernel_rfl) (by kernel_rfl) (by kernel_rfl) fun hw hh => ?_
  obtain ⟨w0, w1, w2, w3, _⟩ := hw
  first | replace w0 := wf_LI w0 | skip
  first | replace w1 := wf_LI w1 | skip
  first | replace w2 := wf_LI w2 | skip
  first | replace w3 := wf_LI w3 | skip
  repeat' first
    | refine And.intro rfl ?_
    | refine GdF.mk (fun h => h) ?_
    | refine And.intro (Nat.succ_ne_zero _) ?_
    | refine And.intro (Nat.le_of_ble_eq_true rfl) ?_
    | refine SeqF.run ?_
    | refine ArgF.is (c_impl_walkError m w r p fl h hw hL) ?_
    | refine ArgQ.is (fun hG => c_impl_walkError m w r p fl h hw hL) rfl rfl ?_
    | refine LoopF.at 3 rfl (LoopF.fix [1, 3, 9, 22, 23] (Int × Int × Int) (fun (i, rise, al) => 0 ≤ i ∧ i ≤ w.length ∧ (0 ≤ rise ∧ rise ≤ i * 200000000000) ∧ (i ≤ al ∧ al ≤ i * 1000000) ∧ rise = riI r fl w i.toNat ∧ al = alI r w i.toNat) (fun (i, rise, al) => [(24, In i), (10, In rise), (11, In al)]) (fun (i, rise, al) => []) (fun (i, rise, al) => ((w.length - i).toNat)) ((0, 0, 0)) ?_)
    | (refine LoopB.of (T := Int × Int × Int) ?_ ?_; rotate_left; rintro ⟨i, rise, al⟩ ⟨i0, i1, i2, i3, i4, i5⟩; rotate_left)
    | refine ArgF.is (c_impl_airwayOf (w.getD i.toNat 0) (by have q := okWk_i hw i0 (by assumption); omega)) ?_
    | refine ArgQ.is (fun hG => c_impl_airwayOf (w.getD i.toNat 0) (by have q := okWk_i hw i0 (by assumption); omega)) rfl rfl ?_
    | refine ArgF.is (absT (fl.getD (absI (w.getD i.toNat 0) - 1).toNat 0) (by have q := (sys_i h hw (k := i.toNat) (by omega)).2.2; omega)) ?_
    | refine ArgQ.is (fun hG => absT (fl.getD (absI (w.getD i.toNat 0) - 1).toNat 0) (by have q := (sys_i h hw (k := i.toNat) (by omega)).2.2; omega)) rfl rfl ?_
    | refine ArgF.is (divRoundZ _ _ (by omega) (by omega) (by omega)) ?_
    | refine ArgQ.is (fun hG => divRoundZ _ _ (by omega) (by omega) (by omega)) rfl rfl ?_
    | refine BndF.mk (fun _ => by have q := okWk_i hw i0 (by assumption); first | omega | (simp only [List.length_map]; omega)) ?_
    | refine EqI.mk _ (fun _ => by have q := hm2 i.toNat (by omega); have q3 := (sys_i h hw (k := i.toNat) (by omega)).1; exact wrapI (by omega) (by omega)) ?_
    | refine EqI.mk _ (fun _ => by have q := quo_b (x := errW r p fl w * 10000000000) (y := al) (B := 2000000000000000000) (by omega) (by omega); exact wrapI (by omega) (by omega)) ?_
    | refine EqI.mk _ (fun _ => by have q := quo_b (x := (0 - errW r p fl w) * 10000000000) (y := al) (B := 2000000000000000000) (by omega) (by omega); exact wrapI (by omega) (by omega)) ?_
    | refine EqI.mk _ (fun _ => by have q := hrt ((errW r p fl w * 10000000000).tdiv al); exact wrapI (by omega) (by omega)) ?_
    | refine GhF.go ?_
    | refine DrawG.old (DrawF.lex (by decide +kernel) ?_)
    | refine EqP.mk _ (gm eI 0 rfl) ?_
    | refine BndF.mk (fun _ => by omega) ?_
    | refine BndF.mk (fun _ => by simp only [lnS]; omega) ?_
    | refine EqI.mk _ (fun _ => wrapI (by omega) (by omega)) ?_
    | refine EqI.mk _ (fun _ => wrapD (by omega) (by omega) (by omega)) ?_
    | refine EqI.mk _ (fun _ => rfl) ?_
    | refine EqN.mk _ (ln eI) ?_
    | refine EqN.mk _ (Nat.zero_add _) ?_
    | refine EqN.mk _ (Int.toNat_natCast _) ?_
    | refine EqN.mk _ rfl ?_
    | refine EqL.mk _ (tk eI (by first | rfl | assumption | omega | (simp only [lnS] <;> omega))) ?_
    | refine EqL.mk [] rfl ?_
    | refine EqL.mk [_] rfl ?_
    | refine EqL.mk _ rfl ?_
    | refine ArgF.is (c_impl_walkError ⟨_, _⟩ _ _ _ _ (by first | assumption | omega) (by first | assumption | omega) (by first | assumption | omega)) ?_
    | refine ArgQ.is (fun hG => c_impl_walkError ⟨_, _⟩ _ _ _ _ (by first | assumption | omega) (by first | assumption | omega) (by first | assumption | omega)) rfl rfl ?_
    | refine ArgF.is (c_impl_airwayOf _ (by first | assumption | omega)) ?_
    | refine ArgQ.is (fun hG => c_impl_airwayOf _ (by first | assumption | omega)) rfl rfl ?_
    | refine ArgF.is (c_impl_abs ..) ?_
    | refine ArgQ.is (fun hG => c_impl_abs ..) rfl rfl ?_
    | refine ArgF.is (c_impl_divRound _ _ (by first | assumption | omega) (by first | assumption | omega) (by first | assumption | omega) (by first | assumption | omega)) ?_
    | refine ArgQ.is (fun hG => c_impl_divRound _ _ (by first | assumption | omega) (by first | assumption | omega) (by first | assumption | omega) (by first | assumption | omega)) rfl rfl ?_
    | refine ArgF.is (c_impl_RootOf ..) ?_
    | refine ArgQ.is (fun hG => c_impl_RootOf ..) rfl rfl ?_
    | refine CallF.mk (CallW.is [] true rfl ?_)
    | refine CallG.mk ?_
    | (refine CondF.mk (fun hb => ?_) (fun hb => ?_) <;> try simp only [forall_const, eq_self, not_true_eq_false, not_false_eq_true, or_false, false_or, or_self, or_true, true_or, and_true, true_and, and_false, false_and, decide_true, decide_false, Bool.not_true, Bool.not_false, decide_eq_true_eq, decide_eq_false_iff_not, ite_and_p, ite_or_p, Bool.decide_eq_true, Bool.and_eq_true, Bool.or_eq_true, Bool.not_eq_true', Bool.not_eq_false', Bool.and_eq_false_imp, Bool.or_eq_false_iff, bne_iff_ne, beq_iff_eq, bne_eq_false_iff_eq, beq_eq_false_iff_ne, gt_iff_lt, ge_iff_le, Int.not_lt, Int.not_le, ne_eq, Bool.true_eq_false, Bool.false_eq_true, reduceCtorEq, eta_Airway, eta_Fan, eta_Mine] at hb)
    | apply BackF.auto3
    | refine BackB.mk ?_ ?_
    | refine RetF.auto (And.intro rfl ?_)
    | exact Is.mk rfl rfl
    | refine Is.mk ?_ rfl
    | refine Is.mk rfl ?_
    | refine Is.mk ?_ ?_
  all_goals try dsimp only
  all_goals try simp only [Bo, I, OB.row.injEq, AV.osl.injEq, eI_same,  List.cons.injEq, AV.p.injEq, PV.c.injEq, Value.int.injEq, Value.bool.injEq, and_true, true_and, ite_and_p, ite_or_p, Bool.decide_eq_true, eta_Airway, eta_Fan, eta_Mine]
  all_goals try dsimp only
  all_goals first
    | omega
    | exact ⟨by omega, by omega, by omega, by omega, rfl, rfl⟩
    | (have q := hm2 i.toNat (by omega); have q3 := (sys_i h hw (k := i.toNat) (by omega)).1; exact ⟨by omega, by omega, by omega, by omega, by rw [riI_s i0, ← i4], by rw [alI_s i0, ← i5]⟩)
    | (have e1 : i.toNat = w.length := by omega
       rw [e1] at i4 i5
       unfold spI spR
       rw [← i4, ← i5]
       first
         | rw [if_pos (by omega)]
         | rw [if_neg (by omega), if_pos (by omega)]
         | rw [if_neg (by omega), if_neg (by omega), if_pos (by omega)]
         | rw [if_neg (by omega), if_neg (by omega), if_neg (by omega)]
       done)
    | skip
end Go.Proofs.YtdhkpmaanegjkaaGreat
