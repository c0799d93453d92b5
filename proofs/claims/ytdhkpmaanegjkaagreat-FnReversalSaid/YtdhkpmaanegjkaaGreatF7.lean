/- Contracts of functions of the program, and what they compute. Conditions: those that each theorem states. -/
import Derived.Test.YtdhkpmaanegjkaaGreatProg
import Derived.Test.YtdhkpmaanegjkaaGreatF5
set_option linter.unusedVariables false
set_option linter.unusedSimpArgs false
namespace Go.Proofs.YtdhkpmaanegjkaaGreat
open Go.Av
attribute [local irreducible] Go.IntKind.wrap leastI rdZ rd rootI okMine treeC mshC dropI prI okFanB okFsB hsB spI
set_option maxRecDepth 20000
set_option maxHeartbeats 40000000
theorem frzT_row {n : Nat} {xs : List Int} {e c : Int} {R : List AV → List OB → Prop} (hn : n = xs.length) (h : R [.p .fresh (LI xs), In e, In c] []) : frzT 0 R [.osl 0 0 n, In e, In c] [.row true .flat (eI 0) (xs.map eI)] :=
  ⟨0, _, by simp, rfl, Nat.le_refl _, rfl, rfl, fun _ => by simp only [List.length_map]; omega, _, tkT (take_all hn), h⟩
theorem inc_0 {x : GAirway} {f j : Int} (h1 : j ≠ x.to) (h2 : j ≠ x.from_) : incA x f j = 0 := by unfold incA; rw [if_neg h1, if_neg h2]
theorem balM_im {m : GMine} {fl : List Int} (hm : okMine m = true) (h : balM m fl = true) (j : Int) : imbA m fl j = 0 := by
  by_cases hj : 0 ≤ j ∧ j < m.junctions
  · have := of_decide_eq_true h j.toNat (by omega)
    rwa [show ((j.toNat : Nat) : Int) = j by omega] at this
  · have hmp := okMine_p hm
    have : ∀ k : Nat, k ≤ m.airways.length → imbI m fl j k = 0 := fun k => by
      induction k with
      | zero => intro _; rfl
      | succ k ih =>
        intro hk
        have q := (hmp.2.2 k (by omega)).2
        rw [imbI, ih (by omega), inc_0 (by omega) (by omega)]; rfl
    exact this _ (Nat.le_refl _)
noncomputable def corK (m : GMine) (r : List Int) (fs : List GFan) (dr : List Int) : Nat → List Int → Option (List Int)
  | 0, fl => some fl
  | k + 1, fl => match corK m r fs dr k fl with
    | none => none
    | some f2 => if lsO m (addW f2 ((mshC m).getD k []) (spI r (psF fs dr f2) f2 ((mshC m).getD k []))) (-100000) 100000 = true then some (addW f2 ((mshC m).getD k []) (spI r (psF fs dr f2) f2 ((mshC m).getD k []))) else none
section
variable {m : GMine} {r : List Int} {fs : List GFan} {dr fl f2 : List Int}
theorem corK_t {k : Nat} (h : corK m r fs dr k fl = some f2) (hl : lsO m (addW f2 ((mshC m).getD k []) (spI r (psF fs dr f2) f2 ((mshC m).getD k []))) (-100000) 100000 = true) : corK m r fs dr (k + 1) fl = some (addW f2 ((mshC m).getD k []) (spI r (psF fs dr f2) f2 ((mshC m).getD k []))) := by
  rw [corK, h]; dsimp only; rw [if_pos hl]
theorem corK_f {k : Nat} (h : corK m r fs dr k fl = some f2) (hl : lsO m (addW f2 ((mshC m).getD k []) (spI r (psF fs dr f2) f2 ((mshC m).getD k []))) (-100000) 100000 = false) : corK m r fs dr (k + 1) fl = none := by
  rw [corK, h]; dsimp only; rw [hl]; rfl
theorem corK_n {k n : Nat} (h : corK m r fs dr k fl = none) (hk : k ≤ n) : corK m r fs dr n fl = none := by
  induction hk with
  | refl => exact h
  | step _ ih => rw [corK, ih]
end
noncomputable def solG (m : GMine) (r : List Int) (fs : List GFan) (dr : List Int) (tol : Int) : Nat → List Int → List Int × Int × Int
  | 0, fl => if wsF m r fs dr fl ≤ tol then (fl, wsF m r fs dr fl, 0) else ([], wsF m r fs dr fl, 5)
  | n + 1, fl => if wsF m r fs dr fl ≤ tol then (fl, wsF m r fs dr fl, 0) else match corK m r fs dr (mshC m).length fl with
    | none => ([], 0, 6)
    | some f2 => solG m r fs dr tol n f2
section
variable {m : GMine} {r : List Int} {fs : List GFan} {dr fl f2 : List Int} {tol : Int}
theorem solG_t {n : Nat} (h : wsF m r fs dr fl ≤ tol) : solG m r fs dr tol n fl = (fl, wsF m r fs dr fl, 0) := by
  cases n <;> rw [solG, if_pos h]
theorem solG_0 (h : ¬wsF m r fs dr fl ≤ tol) : solG m r fs dr tol 0 fl = ([], wsF m r fs dr fl, 5) := by rw [solG, if_neg h]
theorem solG_n {n : Nat} (h : ¬wsF m r fs dr fl ≤ tol) (hc : corK m r fs dr (mshC m).length fl = none) : solG m r fs dr tol (n + 1) fl = ([], 0, 6) := by rw [solG, if_neg h, hc]
theorem solG_s {n : Nat} (h : ¬wsF m r fs dr fl ≤ tol) (hc : corK m r fs dr (mshC m).length fl = some f2) : solG m r fs dr tol (n + 1) fl = solG m r fs dr tol n f2 := by rw [solG, if_neg h, hc]
end
noncomputable def codeS (m : GMine) (r : List Int) (fs : List GFan) (dr st : List Int) (tol rounds : Int) : Int :=
  if okMine m && okFsB fs then (if inR tol 0 100000 && inR rounds 0 500 then (if sysB m r dr st && hsB m fs then (if balM m st then 0 else 6) else 7) else 2) else 1
noncomputable def solF (m : GMine) (r : List Int) (fs : List GFan) (dr st : List Int) (tol rounds : Int) : List Int × Int × Int :=
  if codeS m r fs dr st tol rounds = 0 then solG m r fs dr tol rounds.toNat st else ([], 0, codeS m r fs dr st tol rounds)
section
variable {m : GMine} {r : List Int} {fs : List GFan} {dr st : List Int} {tol rounds : Int}
theorem solF_e {c : Int} (h : codeS m r fs dr st tol rounds = c) (hc : c ≠ 0) : solF m r fs dr st tol rounds = ([], 0, c) := by unfold solF; rw [h, if_neg hc]
theorem solF_g (h : codeS m r fs dr st tol rounds = 0) : solF m r fs dr st tol rounds = solG m r fs dr tol rounds.toNat st := by unfold solF; rw [if_pos h]
theorem codeS_1 (h : okMine m = false ∨ okFsB fs = false) : codeS m r fs dr st tol rounds = 1 := by
  unfold codeS; rcases h with h | h <;> rw [h] <;> simp
theorem codeS_2 (h1 : okMine m = true ∧ okFsB fs = true) (h : inR tol 0 100000 = false ∨ inR rounds 0 500 = false) : codeS m r fs dr st tol rounds = 2 := by
  unfold codeS; rw [h1.1, h1.2]; rcases h with h | h <;> rw [h] <;> simp
theorem codeS_7 (h1 : okMine m = true ∧ okFsB fs = true) (h2 : inR tol 0 100000 = true ∧ inR rounds 0 500 = true) (h : sysB m r dr st = false ∨ hsB m fs = false) : codeS m r fs dr st tol rounds = 7 := by
  unfold codeS; rw [h1.1, h1.2, h2.1, h2.2]; rcases h with h | h <;> rw [h] <;> simp
theorem codeS_6 (h1 : okMine m = true ∧ okFsB fs = true) (h2 : inR tol 0 100000 = true ∧ inR rounds 0 500 = true) (h3 : sysB m r dr st = true ∧ hsB m fs = true) (h : balM m st = false) : codeS m r fs dr st tol rounds = 6 := by
  unfold codeS; rw [h1.1, h1.2, h2.1, h2.2, h3.1, h3.2, h]; rfl
theorem codeS_0 (h1 : okMine m = true ∧ okFsB fs = true) (h2 : inR tol 0 100000 = true ∧ inR rounds 0 500 = true) (h3 : sysB m r dr st = true ∧ hsB m fs = true) (h : balM m st = true) : codeS m r fs dr st tol rounds = 0 := by
  unfold codeS; rw [h1.1, h1.2, h2.1, h2.2, h3.1, h3.2, h]; rfl
structure askH (m : GMine) (r : List Int) (fs : List GFan) (dr st : List Int) (tol rounds : Int) : Prop where
  g : askG m fs dr
  r : lsO m r 1 1000000 = true
  st : blF m st 100000
  t : 0 ≤ tol ∧ tol ≤ 100000
  n : 0 ≤ rounds ∧ rounds ≤ 500
theorem lsO_all {xs : List Int} {a b : Int} (h : lsO m xs a b = true) (h0 : a ≤ 0 ∧ 0 ≤ b) (k : Nat) : a ≤ xs.getD k 0 ∧ xs.getD k 0 ≤ b := by
  have q := lsO_p h
  by_cases e : k < xs.length
  · exact q.2 k e
  · rw [List.getD_eq_getElem?_getD, List.getElem?_eq_none (by omega)]; exact h0
theorem askH_of (h1 : okMine m = true ∧ okFsB fs = true) (h2 : inR tol 0 100000 = true ∧ inR rounds 0 500 = true) (h3 : sysB m r dr st = true ∧ hsB m fs = true) (h : balM m st = true) : askH m r fs dr st tol rounds := by
  have hf := okFsB_p h1.2
  have hs := h3.1
  unfold sysB at hs
  simp only [Bool.and_eq_true] at hs
  exact ⟨⟨h1.1, hf.1, hf.2, hsB_p h3.2, (lsO_p hs.1.2).1, lsO_all hs.1.2 (by decide)⟩, hs.1.1, ⟨(lsO_p hs.2).1, lsO_all hs.2 (by decide), balM_im h1.1 h⟩, inR_iff.1 h2.1, inR_iff.1 h2.2⟩
theorem askH.sys {fl : List Int} (h : askH m r fs dr st tol rounds) (hb : blF m fl 100000) : sysO m r (psF fs dr fl) fl := by
  have a := lsO_p h.r
  have b := psG_b h.g fl
  exact ⟨⟨a.1, fun k hk => a.2 k (by omega)⟩, ⟨b.1, fun k _ => by have := b.2 k; omega⟩, ⟨hb.ln, fun k _ => hb.bd k⟩⟩
theorem esH_b {fl : List Int} (h : askH m r fs dr st tol rounds) (hb : blF m fl 100000) (k : Nat) : -1000000000 ≤ (esF m r fs dr fl).getD k 0 ∧ (esF m r fs dr fl).getD k 0 ≤ 1000000000 := by
  have hM := h.g.hm
  by_cases e : k < (mshC m).length
  · have q := errI_b (h.sys hb) (msh_ok hM k e) ((mshC m).getD k []).length (Nat.le_refl _)
    have q2 := (msh_ok hM k e).1
    unfold esF
    rw [List.getD_eq_getElem?_getD, List.getElem?_map, List.getElem?_eq_getElem e]
    rw [List.getD_eq_getElem?_getD, List.getElem?_eq_getElem e, Option.getD_some] at q q2
    show -1000000000 ≤ errI r (psF fs dr fl) fl (mshC m)[k] (mshC m)[k].length ∧ errI r (psF fs dr fl) fl (mshC m)[k] (mshC m)[k].length ≤ 1000000000
    omega
  · rw [List.getD_eq_getElem?_getD, List.getElem?_eq_none (by unfold esF; rw [List.length_map]; omega)]
    show (-1000000000 : Int) ≤ 0 ∧ (0 : Int) ≤ 1000000000
    omega
end
theorem solH (m : GMine) (r : List Int) (fs : List GFan) (dr st : List Int) (tol rounds : Int) (h : askH m r fs dr st tol rounds) : ∀ n : Nat, ∀ fl : List Int, blF m fl 100000 → (solG m r fs dr tol n fl).2.2 = 0 → blF m (solG m r fs dr tol n fl).1 100000
  | n, fl, hb, hc => by
    by_cases hw : wsF m r fs dr fl ≤ tol
    · rw [solG_t hw]; exact hb
    · cases n with
      | zero => rw [solG_0 hw] at hc; cases hc
      | succ n =>
        cases hk : corK m r fs dr (mshC m).length fl with
        | none => rw [solG_n hw hk] at hc; cases hc
        | some f2 =>
          rw [solG_s hw hk] at hc ⊢
          refine solH m r fs dr st tol rounds h n f2 ?_ hc
          have hG := fun j => mshC_G (j := j) h.g.hm
          have key : ∀ k : Nat, k ≤ (mshC m).length → ∀ f3, corK m r fs dr k fl = some f3 → blF m f3 100000 := fun k => by
            induction k with
            | zero => intro _ f3 e; cases e; exact hb
            | succ k ih =>
              intro hk f3 e
              cases h4 : corK m r fs dr k fl with
              | none => rw [corK_n h4 (Nat.le_succ k)] at e; cases e
              | some f4 =>
                have hb4 := ih (by omega) f4 h4
                cases hl : lsO m (addW f4 ((mshC m).getD k []) (spI r (psF fs dr f4) f4 ((mshC m).getD k []))) (-100000) 100000 with
                | false => rw [corK_f h4 hl] at e; cases e
                | true =>
                  rw [corK_t h4 hl] at e
                  cases e
                  exact ⟨by rw [addW_len]; exact hb4.ln, lsO_all hl (by decide), fun q => by rw [imb_msh h.g.hm hb4.ln (hG k (by omega))]; exact hb4.im q⟩
          exact key _ (Nat.le_refl _) f2 hk
theorem rsF {x y : List Int × Int × Int} (h : x = y) : ([.p .fresh (LI y.1), In y.2.1, In y.2.2] : List AV) = [.p .fresh (LI x.1), In x.2.1, In x.2.2] := by rw [h]
--@fn impl.SolveFlows
theorem solveX (m : GMine) (r : List Int) (fs : List GFan) (dr st : List Int) (tol rounds : Int) : FnSem Tryz.prog 24 [.p .any (.agg m.cells), Lx (LI r), Lx (.lst GFan.z (fs.map GFan.cells)), Lx (LI dr), Lx (LI st), In tol, In rounds] [] (Is [.p .fresh (LI (solF m r fs dr st tol rounds).1), In (solF m r fs dr st tol rounds).2.1, In (solF m r fs dr st tol rounds).2.2] []) := by
  refine semFrzT ?_
  refine FnSem.walk (zs := zeroPV Tryz.prog) (by kernel_rfl) Tryz.func24 rfl Tryz.results24 (by kernel_rfl) (by kernel_rfl) (by kernel_rfl) fun hw hh => ?_
  obtain ⟨w0, w1, w2, w3, w4, w5, w6, _⟩ := hw
  first | replace w0 := wf_Mine w0 | skip
  first | replace w1 := wf_LI w1 | skip
  first | replace w2 := wf_LFan w2 | skip
  first | replace w3 := wf_LI w3 | skip
  first | replace w4 := wf_LI w4 | skip
  first | replace w5 := wf_I w5 | skip
  first | replace w6 := wf_I w6 | skip
  repeat' first
    | refine And.intro rfl ?_
    | refine GdF.mk (fun h => h) ?_
    | refine And.intro (Nat.succ_ne_zero _) ?_
    | refine And.intro (Nat.le_of_ble_eq_true rfl) ?_
    | refine SeqF.run ?_
    | refine OpH.heap ?_
    | refine GhF.held 9 rfl [(1, []), (3, [])] ?_
    | refine ArgF.is (c_impl_ValidMine m) ?_
    | refine ArgQ.is (fun hG => c_impl_ValidMine m) rfl rfl ?_
    | refine ArgF.is (vFansX fs) ?_
    | refine ArgQ.is (fun hG => vFansX fs) rfl rfl ?_
    | refine ArgF.is (c_impl_within tol 0 100000) ?_
    | refine ArgQ.is (fun hG => c_impl_within tol 0 100000) rfl rfl ?_
    | refine ArgF.is (c_impl_within rounds 0 500) ?_
    | refine ArgQ.is (fun hG => c_impl_within rounds 0 500) rfl rfl ?_
    | refine ArgF.is (hsysX m r dr st) ?_
    | refine ArgQ.is (fun hG => hsysX m r dr st) rfl rfl ?_
    | refine ArgF.is (hsFX m fs) ?_
    | refine ArgQ.is (fun hG => hsFX m fs) rfl rfl ?_
    | refine ArgF.is (c_impl_Mine_balanced m st (by simp_all) (by have q : sysB m r dr st = true := (by simp_all); unfold sysB at q; simp only [Bool.and_eq_true] at q; exact (lsO_p q.2).1) (by have q : sysB m r dr st = true := (by simp_all); unfold sysB at q; simp only [Bool.and_eq_true] at q; exact lsO_all q.2 (by decide))) ?_
    | refine ArgQ.is (fun hG => c_impl_Mine_balanced m st (by simp_all) (by have q : sysB m r dr st = true := (by simp_all); unfold sysB at q; simp only [Bool.and_eq_true] at q; exact (lsO_p q.2).1) (by have q : sysB m r dr st = true := (by simp_all); unfold sysB at q; simp only [Bool.and_eq_true] at q; exact lsO_all q.2 (by decide))) rfl rfl ?_
    | (have h0 : codeS m r fs dr st tol rounds = 0 := codeS_0 (by simp_all) (by simp_all) (by simp_all) (by simp_all); have H : askH m r fs dr st tol rounds := askH_of (by simp_all) (by simp_all) (by simp_all) (by simp_all); have hm := H.g.hm; have hmp := okMine_p hm; have hst := H.st; have hG := fun j => mshC_G (j := j) hm; have hM := mshC_len hm; have hro := H.n; refine ArgF.is (c_slices_Clone_int64_int64 st (by have := hst.ln; omega)) ?_)
    | refine ArgF.is (meshX m hm) ?_
    | refine ArgQ.is (fun hG => meshX m hm) rfl rfl ?_
    | refine BndF.mk (fun _ => by have q := hst.ln; have q2 := hfl.ln; simp only [List.length_map]; omega) ?_
    | refine EqL.mk _ (tkT (take_all (by rw [hst.ln, hfl.ln]))) ?_
    | refine BndF.mk (fun _ => by have q := hst.ln; have q2 := hfl2.ln; simp only [List.length_map]; omega) ?_
    | refine EqL.mk _ (tkT (take_all (by rw [hst.ln, hfl2.ln]))) ?_
    | refine BndF.mk (fun _ => by have q := hst.ln; have q2 := hfl2.ln; simp only [List.length_map, addW_len]; omega) ?_
    | refine EqL.mk _ (tkT (take_all (by rw [addW_len, hst.ln, hfl2.ln]))) ?_
    | refine BndF.mk (fun _ => by have q := (psG_b H.g fl).1; simp only [List.length_map]; omega) ?_
    | refine EqL.mk _ (tkT (take_all (psG_b H.g fl).1.symm)) ?_
    | refine BndF.mk (fun _ => by have q := (psG_b H.g fl2).1; simp only [List.length_map]; omega) ?_
    | refine EqL.mk _ (tkT (take_all (psG_b H.g fl2).1.symm)) ?_
    | refine ArgF.is (pushG m fs dr fl H.g hfl.ln hfl.bd) ?_
    | refine ArgQ.is (fun hG => pushG m fs dr fl H.g hfl.ln hfl.bd) rfl rfl ?_
    | refine ArgF.is (pushG m fs dr fl2 H.g hfl2.ln hfl2.bd) ?_
    | refine ArgQ.is (fun hG => pushG m fs dr fl2 H.g hfl2.ln hfl2.bd) rfl rfl ?_
    | (refine ArgF.ret (c_impl_meshErrors m (mshC m) r (psF fs dr fl) fl (H.sys hfl) hM (msh_ok hm) hmp.2.1) ?_; rintro ⟨ne, es⟩ ⟨e1, e2⟩; dsimp only at e1 e2; obtain rfl : esF m r fs dr fl = es := e2.symm)
    | refine LoopF.at 12 rfl (LoopF.fix [1, 2, 3, 5, 6, 7, 17, 18] (Int × List Int) (fun (rd, fl) => 0 ≤ rd ∧ rd ≤ rounds ∧ blF m fl 100000 ∧ solG m r fs dr tol rounds.toNat st = solG m r fs dr tol (rounds - rd).toNat fl) (fun (rd, fl) => [(19, In rd)]) (fun (rd, fl) => [(1, .row true .flat (eI 0) (fl.map eI))]) (fun (rd, fl) => ((rounds + 1 - rd).toNat)) ((0, st)) ?_)
    | (refine LoopB.of (T := Int × List Int) ?_ ?_; rotate_left; rintro ⟨rd, fl⟩ ⟨r0, r1, hfl, r3⟩; rotate_left)
    | refine LoopF.at 14 rfl (LoopF.fix [1, 2, 3, 5, 6, 7, 17, 18, 19, 74, 75] (Int × Int × Unit) (fun (g, k, _) => 0 ≤ k ∧ k ≤ (mshC m).length ∧ g = wsL (esF m r fs dr fl) k.toNat) (fun (g, k, _) => [(20, In g), (76, In k)]) (fun (g, k, _) => []) (fun (g, k, _) => (((mshC m).length - k).toNat)) ((0, 0, ())) ?_)
    | (refine LoopB.of (T := Int × Int × Unit) ?_ ?_; rotate_left; rintro ⟨g, k, _⟩ ⟨k0, k1, k2⟩; rotate_left)
    | refine BndF.mk (fun _ => by have q : (esF m r fs dr fl).length = (mshC m).length := (by unfold esF; rw [List.length_map]); simp only [List.length_map]; omega) ?_
    | refine ArgF.is (absT ((esF m r fs dr fl).getD k.toNat 0) (by have q := esH_b H hfl k.toNat; omega)) ?_
    | refine ArgQ.is (fun hG => absT ((esF m r fs dr fl).getD k.toNat 0) (by have q := esH_b H hfl k.toNat; omega)) rfl rfl ?_
    | refine LoopF.at 23 rfl (LoopF.fix [1, 2, 3, 5, 6, 7, 17, 18, 19, 96, 97] (Int × List Int × Unit × Unit) (fun (j, fl2, _, _) => 0 ≤ j ∧ j ≤ (mshC m).length ∧ blF m fl2 100000 ∧ corK m r fs dr j.toNat fl = some fl2) (fun (j, fl2, _, _) => [(98, In j)]) (fun (j, fl2, _, _) => [(1, .row true .flat (eI 0) (fl2.map eI))]) (fun (j, fl2, _, _) => (((mshC m).length - j).toNat)) ((0, fl, (), ())) ?_)
    | (refine LoopB.of (T := Int × List Int × Unit × Unit) ?_ ?_; rotate_left; rintro ⟨j, fl2, _, _⟩ ⟨j0, j1, hfl2, j3⟩; rotate_left)
    | refine ArgF.is (stepX m ((mshC m).getD j.toNat []) r (psF fs dr fl2) fl2 (H.sys hfl2) (hG j.toNat (by omega)).ok (by have := (hG j.toNat (by omega)).p.ln; omega) hmp.2.1) ?_
    | refine ArgQ.is (fun hG => stepX m ((mshC m).getD j.toNat []) r (psF fs dr fl2) fl2 (H.sys hfl2) (hG j.toNat (by omega)).ok (by have := (hG j.toNat (by omega)).p.ln; omega) hmp.2.1) rfl rfl ?_
    | refine ArgF.is (c_impl_addAlong _ fl2 ((mshC m).getD j.toNat []) _ (by rw [hst.ln, hfl2.ln]) (by have := hfl2.ln; omega) (by rw [hfl2.ln]; exact (hG j.toNat (by omega)).ok) (fun k => by have := hfl2.bd k; omega) (by have := spI_b r (psF fs dr fl2) fl2 ((mshC m).getD j.toNat []); omega)) ?_
    | refine ArgF.is (hasF m (addW fl2 ((mshC m).getD j.toNat []) (spI r (psF fs dr fl2) fl2 ((mshC m).getD j.toNat [])))) ?_
    | refine ArgQ.is (fun hG => hasF m (addW fl2 ((mshC m).getD j.toNat []) (spI r (psF fs dr fl2) fl2 ((mshC m).getD j.toNat [])))) rfl rfl ?_
    | refine Or.inr (frzT_row (xs := fl) ?_ ?_)
    | refine Or.inr (frzT_row (xs := []) rfl ?_)
    | refine HdF.at 5 rfl 0 [] (And.intro (by decide +kernel) (And.intro rfl ?_))
    | refine HdF.at 4 rfl 2 [3, 4, 5] (And.intro (by decide +kernel) (And.intro rfl ?_))
    | refine HdF.goAt 3 rfl ?_
    | refine OrdL.ord ?_
    | refine OrdF.take 4 (by decide +kernel) (And.intro rfl ?_)
    | refine OrdF.take 5 (by decide +kernel) (And.intro rfl ?_)
    | refine OrdF.all [3] (by decide +kernel) ?_
    | refine OrdF.all [1] (by decide +kernel) ?_
    | refine OrdF.fin (by decide +kernel) ?_
    | refine AllF.one _ ?_
    | refine AllF.cons _ _ ?_ ?_
    | refine OpH.quiet rfl ?_
    | refine OpH.heap ?_
    | refine GhF.go ?_
    | refine GdS.keep ?_
    | refine DrawG.old (DrawF.lex (by decide +kernel) ?_)
    | refine MkF.row ?_
    | refine EqP.mk _ (gm eI 0 rfl) ?_
    | refine EqP.mk _ (gmb GFan.cells default (by omega)) ?_
    | refine EqP.mk _ (gmb eLI [] (by omega)) ?_
    | refine BndF.mk (fun _ => by omega) ?_
    | refine BndF.mk (fun _ => by simp only [lnS]; omega) ?_
    | refine BndF.mk (fun hG => by simp only [forall_const, eq_self, not_true_eq_false, not_false_eq_true, or_false, false_or, or_self, or_true, true_or, and_true, true_and, and_false, false_and, decide_true, decide_false, Bool.not_true, Bool.not_false, decide_eq_true_eq, decide_eq_false_iff_not, ite_and_p, ite_or_p, Bool.decide_eq_true, Bool.and_eq_true, Bool.or_eq_true, Bool.not_eq_true', Bool.not_eq_false', Bool.and_eq_false_imp, Bool.or_eq_false_iff, bne_iff_ne, beq_iff_eq, bne_eq_false_iff_eq, beq_eq_false_iff_ne, gt_iff_lt, ge_iff_le, Int.not_lt, Int.not_le, ne_eq, Bool.true_eq_false, Bool.false_eq_true, reduceCtorEq, eta_Airway, eta_Fan, eta_Mine, bytes_nil] at hG; (try simp only [List.length_map]); omega) ?_
    | refine EqI.mk _ (fun _ => wrapI (by omega) (by omega)) ?_
    | refine EqI.mk _ (fun _ => rfl) ?_
    | refine EqN.mk _ (ln eI) ?_
    | refine EqN.mk _ (ln GFan.cells) ?_
    | refine EqN.mk _ (ln eLI) ?_
    | refine EqN.mk _ (Nat.zero_add _) ?_
    | refine EqN.mk _ (Int.toNat_natCast _) ?_
    | refine EqN.mk _ rfl ?_
    | refine EqL.mk _ (tk eI (by first | rfl | assumption | omega | (simp only [lnS] <;> omega))) ?_
    | refine EqL.mk _ (dt eI) ?_
    | refine EqL.mk _ (tk GFan.cells (by first | rfl | assumption | omega | (simp only [lnS] <;> omega))) ?_
    | refine EqL.mk _ (dt GFan.cells) ?_
    | refine EqL.mk _ (tk eLI (by first | rfl | assumption | omega | (simp only [lnS] <;> omega))) ?_
    | refine EqL.mk _ (dt eLI) ?_
    | refine EqL.mk [] rfl ?_
    | refine EqL.mk [_] rfl ?_
    | refine EqL.mk _ rfl ?_
    | refine ArgF.is (c_impl_ValidMine ⟨_, _⟩) ?_
    | refine ArgQ.is (fun hG => c_impl_ValidMine ⟨_, _⟩) rfl rfl ?_
    | refine ArgF.is (c_impl_ValidFans ..) ?_
    | refine ArgQ.is (fun hG => c_impl_ValidFans ..) rfl rfl ?_
    | refine ArgF.is (c_impl_within ..) ?_
    | refine ArgQ.is (fun hG => c_impl_within ..) rfl rfl ?_
    | refine ArgF.is (c_impl_Mine_hasSystem ..) ?_
    | refine ArgQ.is (fun hG => c_impl_Mine_hasSystem ..) rfl rfl ?_
    | refine ArgF.is (c_impl_Mine_hasFans ..) ?_
    | refine ArgQ.is (fun hG => c_impl_Mine_hasFans ..) rfl rfl ?_
    | refine ArgF.is (c_impl_Mine_balanced ⟨_, _⟩ _ (by first | assumption | omega) (by first | assumption | omega) (by first | assumption | omega)) ?_
    | refine ArgQ.is (fun hG => c_impl_Mine_balanced ⟨_, _⟩ _ (by first | assumption | omega) (by first | assumption | omega) (by first | assumption | omega)) rfl rfl ?_
    | refine ArgQ.is (fun hG => c_impl_Mine_balanced ⟨_, _⟩ _ (by simp only [forall_const, eq_self, not_true_eq_false, not_false_eq_true, or_false, false_or, or_self, or_true, true_or, and_true, true_and, and_false, false_and, decide_true, decide_false, Bool.not_true, Bool.not_false, decide_eq_true_eq, decide_eq_false_iff_not, ite_and_p, ite_or_p, Bool.decide_eq_true, Bool.and_eq_true, Bool.or_eq_true, Bool.not_eq_true', Bool.not_eq_false', Bool.and_eq_false_imp, Bool.or_eq_false_iff, bne_iff_ne, beq_iff_eq, bne_eq_false_iff_eq, beq_eq_false_iff_ne, gt_iff_lt, ge_iff_le, Int.not_lt, Int.not_le, ne_eq, Bool.true_eq_false, Bool.false_eq_true, reduceCtorEq, eta_Airway, eta_Fan, eta_Mine, bytes_nil] at hG; omega) (by simp only [forall_const, eq_self, not_true_eq_false, not_false_eq_true, or_false, false_or, or_self, or_true, true_or, and_true, true_and, and_false, false_and, decide_true, decide_false, Bool.not_true, Bool.not_false, decide_eq_true_eq, decide_eq_false_iff_not, ite_and_p, ite_or_p, Bool.decide_eq_true, Bool.and_eq_true, Bool.or_eq_true, Bool.not_eq_true', Bool.not_eq_false', Bool.and_eq_false_imp, Bool.or_eq_false_iff, bne_iff_ne, beq_iff_eq, bne_eq_false_iff_eq, beq_eq_false_iff_ne, gt_iff_lt, ge_iff_le, Int.not_lt, Int.not_le, ne_eq, Bool.true_eq_false, Bool.false_eq_true, reduceCtorEq, eta_Airway, eta_Fan, eta_Mine, bytes_nil] at hG; omega) (by simp only [forall_const, eq_self, not_true_eq_false, not_false_eq_true, or_false, false_or, or_self, or_true, true_or, and_true, true_and, and_false, false_and, decide_true, decide_false, Bool.not_true, Bool.not_false, decide_eq_true_eq, decide_eq_false_iff_not, ite_and_p, ite_or_p, Bool.decide_eq_true, Bool.and_eq_true, Bool.or_eq_true, Bool.not_eq_true', Bool.not_eq_false', Bool.and_eq_false_imp, Bool.or_eq_false_iff, bne_iff_ne, beq_iff_eq, bne_eq_false_iff_eq, beq_eq_false_iff_ne, gt_iff_lt, ge_iff_le, Int.not_lt, Int.not_le, ne_eq, Bool.true_eq_false, Bool.false_eq_true, reduceCtorEq, eta_Airway, eta_Fan, eta_Mine, bytes_nil] at hG; omega)) rfl rfl ?_
    | refine ArgF.is (c_slices_Clone_int64_int64 _ (by first | assumption | omega)) ?_
    | refine ArgQ.is (fun hG => c_slices_Clone_int64_int64 _ (by first | assumption | omega)) rfl rfl ?_
    | refine ArgQ.is (fun hG => c_slices_Clone_int64_int64 _ (by simp only [forall_const, eq_self, not_true_eq_false, not_false_eq_true, or_false, false_or, or_self, or_true, true_or, and_true, true_and, and_false, false_and, decide_true, decide_false, Bool.not_true, Bool.not_false, decide_eq_true_eq, decide_eq_false_iff_not, ite_and_p, ite_or_p, Bool.decide_eq_true, Bool.and_eq_true, Bool.or_eq_true, Bool.not_eq_true', Bool.not_eq_false', Bool.and_eq_false_imp, Bool.or_eq_false_iff, bne_iff_ne, beq_iff_eq, bne_eq_false_iff_eq, beq_eq_false_iff_ne, gt_iff_lt, ge_iff_le, Int.not_lt, Int.not_le, ne_eq, Bool.true_eq_false, Bool.false_eq_true, reduceCtorEq, eta_Airway, eta_Fan, eta_Mine, bytes_nil] at hG; omega)) rfl rfl ?_
    | refine ArgF.is (c_impl_Mine_meshes ⟨_, _⟩ (by first | assumption | omega)) ?_
    | refine ArgQ.is (fun hG => c_impl_Mine_meshes ⟨_, _⟩ (by first | assumption | omega)) rfl rfl ?_
    | refine ArgQ.is (fun hG => c_impl_Mine_meshes ⟨_, _⟩ (by simp only [forall_const, eq_self, not_true_eq_false, not_false_eq_true, or_false, false_or, or_self, or_true, true_or, and_true, true_and, and_false, false_and, decide_true, decide_false, Bool.not_true, Bool.not_false, decide_eq_true_eq, decide_eq_false_iff_not, ite_and_p, ite_or_p, Bool.decide_eq_true, Bool.and_eq_true, Bool.or_eq_true, Bool.not_eq_true', Bool.not_eq_false', Bool.and_eq_false_imp, Bool.or_eq_false_iff, bne_iff_ne, beq_iff_eq, bne_eq_false_iff_eq, beq_eq_false_iff_ne, gt_iff_lt, ge_iff_le, Int.not_lt, Int.not_le, ne_eq, Bool.true_eq_false, Bool.false_eq_true, reduceCtorEq, eta_Airway, eta_Fan, eta_Mine, bytes_nil] at hG; omega)) rfl rfl ?_
    | refine ArgF.is (c_impl_pushesOf ⟨_, _⟩ _ _ _ (by first | assumption | omega) (by first | assumption | omega) (by first | assumption | omega)) ?_
    | refine ArgQ.is (fun hG => c_impl_pushesOf ⟨_, _⟩ _ _ _ (by first | assumption | omega) (by first | assumption | omega) (by first | assumption | omega)) rfl rfl ?_
    | refine ArgQ.is (fun hG => c_impl_pushesOf ⟨_, _⟩ _ _ _ (by simp only [forall_const, eq_self, not_true_eq_false, not_false_eq_true, or_false, false_or, or_self, or_true, true_or, and_true, true_and, and_false, false_and, decide_true, decide_false, Bool.not_true, Bool.not_false, decide_eq_true_eq, decide_eq_false_iff_not, ite_and_p, ite_or_p, Bool.decide_eq_true, Bool.and_eq_true, Bool.or_eq_true, Bool.not_eq_true', Bool.not_eq_false', Bool.and_eq_false_imp, Bool.or_eq_false_iff, bne_iff_ne, beq_iff_eq, bne_eq_false_iff_eq, beq_eq_false_iff_ne, gt_iff_lt, ge_iff_le, Int.not_lt, Int.not_le, ne_eq, Bool.true_eq_false, Bool.false_eq_true, reduceCtorEq, eta_Airway, eta_Fan, eta_Mine, bytes_nil] at hG; omega) (by simp only [forall_const, eq_self, not_true_eq_false, not_false_eq_true, or_false, false_or, or_self, or_true, true_or, and_true, true_and, and_false, false_and, decide_true, decide_false, Bool.not_true, Bool.not_false, decide_eq_true_eq, decide_eq_false_iff_not, ite_and_p, ite_or_p, Bool.decide_eq_true, Bool.and_eq_true, Bool.or_eq_true, Bool.not_eq_true', Bool.not_eq_false', Bool.and_eq_false_imp, Bool.or_eq_false_iff, bne_iff_ne, beq_iff_eq, bne_eq_false_iff_eq, beq_eq_false_iff_ne, gt_iff_lt, ge_iff_le, Int.not_lt, Int.not_le, ne_eq, Bool.true_eq_false, Bool.false_eq_true, reduceCtorEq, eta_Airway, eta_Fan, eta_Mine, bytes_nil] at hG; omega) (by simp only [forall_const, eq_self, not_true_eq_false, not_false_eq_true, or_false, false_or, or_self, or_true, true_or, and_true, true_and, and_false, false_and, decide_true, decide_false, Bool.not_true, Bool.not_false, decide_eq_true_eq, decide_eq_false_iff_not, ite_and_p, ite_or_p, Bool.decide_eq_true, Bool.and_eq_true, Bool.or_eq_true, Bool.not_eq_true', Bool.not_eq_false', Bool.and_eq_false_imp, Bool.or_eq_false_iff, bne_iff_ne, beq_iff_eq, bne_eq_false_iff_eq, beq_eq_false_iff_ne, gt_iff_lt, ge_iff_le, Int.not_lt, Int.not_le, ne_eq, Bool.true_eq_false, Bool.false_eq_true, reduceCtorEq, eta_Airway, eta_Fan, eta_Mine, bytes_nil] at hG; omega)) rfl rfl ?_
    | refine ArgF.is (c_impl_meshErrors ⟨_, _⟩ _ _ _ _ (by first | assumption | omega) (by first | assumption | omega) (by first | assumption | omega) (by first | assumption | omega)) ?_
    | refine ArgQ.is (fun hG => c_impl_meshErrors ⟨_, _⟩ _ _ _ _ (by first | assumption | omega) (by first | assumption | omega) (by first | assumption | omega) (by first | assumption | omega)) rfl rfl ?_
    | refine ArgQ.is (fun hG => c_impl_meshErrors ⟨_, _⟩ _ _ _ _ (by simp only [forall_const, eq_self, not_true_eq_false, not_false_eq_true, or_false, false_or, or_self, or_true, true_or, and_true, true_and, and_false, false_and, decide_true, decide_false, Bool.not_true, Bool.not_false, decide_eq_true_eq, decide_eq_false_iff_not, ite_and_p, ite_or_p, Bool.decide_eq_true, Bool.and_eq_true, Bool.or_eq_true, Bool.not_eq_true', Bool.not_eq_false', Bool.and_eq_false_imp, Bool.or_eq_false_iff, bne_iff_ne, beq_iff_eq, bne_eq_false_iff_eq, beq_eq_false_iff_ne, gt_iff_lt, ge_iff_le, Int.not_lt, Int.not_le, ne_eq, Bool.true_eq_false, Bool.false_eq_true, reduceCtorEq, eta_Airway, eta_Fan, eta_Mine, bytes_nil] at hG; omega) (by simp only [forall_const, eq_self, not_true_eq_false, not_false_eq_true, or_false, false_or, or_self, or_true, true_or, and_true, true_and, and_false, false_and, decide_true, decide_false, Bool.not_true, Bool.not_false, decide_eq_true_eq, decide_eq_false_iff_not, ite_and_p, ite_or_p, Bool.decide_eq_true, Bool.and_eq_true, Bool.or_eq_true, Bool.not_eq_true', Bool.not_eq_false', Bool.and_eq_false_imp, Bool.or_eq_false_iff, bne_iff_ne, beq_iff_eq, bne_eq_false_iff_eq, beq_eq_false_iff_ne, gt_iff_lt, ge_iff_le, Int.not_lt, Int.not_le, ne_eq, Bool.true_eq_false, Bool.false_eq_true, reduceCtorEq, eta_Airway, eta_Fan, eta_Mine, bytes_nil] at hG; omega) (by simp only [forall_const, eq_self, not_true_eq_false, not_false_eq_true, or_false, false_or, or_self, or_true, true_or, and_true, true_and, and_false, false_and, decide_true, decide_false, Bool.not_true, Bool.not_false, decide_eq_true_eq, decide_eq_false_iff_not, ite_and_p, ite_or_p, Bool.decide_eq_true, Bool.and_eq_true, Bool.or_eq_true, Bool.not_eq_true', Bool.not_eq_false', Bool.and_eq_false_imp, Bool.or_eq_false_iff, bne_iff_ne, beq_iff_eq, bne_eq_false_iff_eq, beq_eq_false_iff_ne, gt_iff_lt, ge_iff_le, Int.not_lt, Int.not_le, ne_eq, Bool.true_eq_false, Bool.false_eq_true, reduceCtorEq, eta_Airway, eta_Fan, eta_Mine, bytes_nil] at hG; omega) (by simp only [forall_const, eq_self, not_true_eq_false, not_false_eq_true, or_false, false_or, or_self, or_true, true_or, and_true, true_and, and_false, false_and, decide_true, decide_false, Bool.not_true, Bool.not_false, decide_eq_true_eq, decide_eq_false_iff_not, ite_and_p, ite_or_p, Bool.decide_eq_true, Bool.and_eq_true, Bool.or_eq_true, Bool.not_eq_true', Bool.not_eq_false', Bool.and_eq_false_imp, Bool.or_eq_false_iff, bne_iff_ne, beq_iff_eq, bne_eq_false_iff_eq, beq_eq_false_iff_ne, gt_iff_lt, ge_iff_le, Int.not_lt, Int.not_le, ne_eq, Bool.true_eq_false, Bool.false_eq_true, reduceCtorEq, eta_Airway, eta_Fan, eta_Mine, bytes_nil] at hG; omega)) rfl rfl ?_
    | refine ArgF.is (c_impl_abs ..) ?_
    | refine ArgQ.is (fun hG => c_impl_abs ..) rfl rfl ?_
    | refine ArgF.is (c_impl_stepOf ⟨_, _⟩ _ _ _ _ (by first | assumption | omega) (by first | assumption | omega) (by first | assumption | omega) (by first | assumption | omega)) ?_
    | refine ArgQ.is (fun hG => c_impl_stepOf ⟨_, _⟩ _ _ _ _ (by first | assumption | omega) (by first | assumption | omega) (by first | assumption | omega) (by first | assumption | omega)) rfl rfl ?_
    | refine ArgQ.is (fun hG => c_impl_stepOf ⟨_, _⟩ _ _ _ _ (by simp only [forall_const, eq_self, not_true_eq_false, not_false_eq_true, or_false, false_or, or_self, or_true, true_or, and_true, true_and, and_false, false_and, decide_true, decide_false, Bool.not_true, Bool.not_false, decide_eq_true_eq, decide_eq_false_iff_not, ite_and_p, ite_or_p, Bool.decide_eq_true, Bool.and_eq_true, Bool.or_eq_true, Bool.not_eq_true', Bool.not_eq_false', Bool.and_eq_false_imp, Bool.or_eq_false_iff, bne_iff_ne, beq_iff_eq, bne_eq_false_iff_eq, beq_eq_false_iff_ne, gt_iff_lt, ge_iff_le, Int.not_lt, Int.not_le, ne_eq, Bool.true_eq_false, Bool.false_eq_true, reduceCtorEq, eta_Airway, eta_Fan, eta_Mine, bytes_nil] at hG; omega) (by simp only [forall_const, eq_self, not_true_eq_false, not_false_eq_true, or_false, false_or, or_self, or_true, true_or, and_true, true_and, and_false, false_and, decide_true, decide_false, Bool.not_true, Bool.not_false, decide_eq_true_eq, decide_eq_false_iff_not, ite_and_p, ite_or_p, Bool.decide_eq_true, Bool.and_eq_true, Bool.or_eq_true, Bool.not_eq_true', Bool.not_eq_false', Bool.and_eq_false_imp, Bool.or_eq_false_iff, bne_iff_ne, beq_iff_eq, bne_eq_false_iff_eq, beq_eq_false_iff_ne, gt_iff_lt, ge_iff_le, Int.not_lt, Int.not_le, ne_eq, Bool.true_eq_false, Bool.false_eq_true, reduceCtorEq, eta_Airway, eta_Fan, eta_Mine, bytes_nil] at hG; omega) (by simp only [forall_const, eq_self, not_true_eq_false, not_false_eq_true, or_false, false_or, or_self, or_true, true_or, and_true, true_and, and_false, false_and, decide_true, decide_false, Bool.not_true, Bool.not_false, decide_eq_true_eq, decide_eq_false_iff_not, ite_and_p, ite_or_p, Bool.decide_eq_true, Bool.and_eq_true, Bool.or_eq_true, Bool.not_eq_true', Bool.not_eq_false', Bool.and_eq_false_imp, Bool.or_eq_false_iff, bne_iff_ne, beq_iff_eq, bne_eq_false_iff_eq, beq_eq_false_iff_ne, gt_iff_lt, ge_iff_le, Int.not_lt, Int.not_le, ne_eq, Bool.true_eq_false, Bool.false_eq_true, reduceCtorEq, eta_Airway, eta_Fan, eta_Mine, bytes_nil] at hG; omega) (by simp only [forall_const, eq_self, not_true_eq_false, not_false_eq_true, or_false, false_or, or_self, or_true, true_or, and_true, true_and, and_false, false_and, decide_true, decide_false, Bool.not_true, Bool.not_false, decide_eq_true_eq, decide_eq_false_iff_not, ite_and_p, ite_or_p, Bool.decide_eq_true, Bool.and_eq_true, Bool.or_eq_true, Bool.not_eq_true', Bool.not_eq_false', Bool.and_eq_false_imp, Bool.or_eq_false_iff, bne_iff_ne, beq_iff_eq, bne_eq_false_iff_eq, beq_eq_false_iff_ne, gt_iff_lt, ge_iff_le, Int.not_lt, Int.not_le, ne_eq, Bool.true_eq_false, Bool.false_eq_true, reduceCtorEq, eta_Airway, eta_Fan, eta_Mine, bytes_nil] at hG; omega)) rfl rfl ?_
    | refine ArgF.is (c_impl_addAlong _ _ _ _ (by first | assumption | omega) (by first | assumption | omega) (by first | assumption | omega) (by first | assumption | omega) (by first | assumption | omega)) ?_
    | refine ArgQ.is (fun hG => c_impl_addAlong _ _ _ _ (by first | assumption | omega) (by first | assumption | omega) (by first | assumption | omega) (by first | assumption | omega) (by first | assumption | omega)) rfl rfl ?_
    | refine ArgQ.is (fun hG => c_impl_addAlong _ _ _ _ (by simp only [forall_const, eq_self, not_true_eq_false, not_false_eq_true, or_false, false_or, or_self, or_true, true_or, and_true, true_and, and_false, false_and, decide_true, decide_false, Bool.not_true, Bool.not_false, decide_eq_true_eq, decide_eq_false_iff_not, ite_and_p, ite_or_p, Bool.decide_eq_true, Bool.and_eq_true, Bool.or_eq_true, Bool.not_eq_true', Bool.not_eq_false', Bool.and_eq_false_imp, Bool.or_eq_false_iff, bne_iff_ne, beq_iff_eq, bne_eq_false_iff_eq, beq_eq_false_iff_ne, gt_iff_lt, ge_iff_le, Int.not_lt, Int.not_le, ne_eq, Bool.true_eq_false, Bool.false_eq_true, reduceCtorEq, eta_Airway, eta_Fan, eta_Mine, bytes_nil] at hG; omega) (by simp only [forall_const, eq_self, not_true_eq_false, not_false_eq_true, or_false, false_or, or_self, or_true, true_or, and_true, true_and, and_false, false_and, decide_true, decide_false, Bool.not_true, Bool.not_false, decide_eq_true_eq, decide_eq_false_iff_not, ite_and_p, ite_or_p, Bool.decide_eq_true, Bool.and_eq_true, Bool.or_eq_true, Bool.not_eq_true', Bool.not_eq_false', Bool.and_eq_false_imp, Bool.or_eq_false_iff, bne_iff_ne, beq_iff_eq, bne_eq_false_iff_eq, beq_eq_false_iff_ne, gt_iff_lt, ge_iff_le, Int.not_lt, Int.not_le, ne_eq, Bool.true_eq_false, Bool.false_eq_true, reduceCtorEq, eta_Airway, eta_Fan, eta_Mine, bytes_nil] at hG; omega) (by simp only [forall_const, eq_self, not_true_eq_false, not_false_eq_true, or_false, false_or, or_self, or_true, true_or, and_true, true_and, and_false, false_and, decide_true, decide_false, Bool.not_true, Bool.not_false, decide_eq_true_eq, decide_eq_false_iff_not, ite_and_p, ite_or_p, Bool.decide_eq_true, Bool.and_eq_true, Bool.or_eq_true, Bool.not_eq_true', Bool.not_eq_false', Bool.and_eq_false_imp, Bool.or_eq_false_iff, bne_iff_ne, beq_iff_eq, bne_eq_false_iff_eq, beq_eq_false_iff_ne, gt_iff_lt, ge_iff_le, Int.not_lt, Int.not_le, ne_eq, Bool.true_eq_false, Bool.false_eq_true, reduceCtorEq, eta_Airway, eta_Fan, eta_Mine, bytes_nil] at hG; omega) (by simp only [forall_const, eq_self, not_true_eq_false, not_false_eq_true, or_false, false_or, or_self, or_true, true_or, and_true, true_and, and_false, false_and, decide_true, decide_false, Bool.not_true, Bool.not_false, decide_eq_true_eq, decide_eq_false_iff_not, ite_and_p, ite_or_p, Bool.decide_eq_true, Bool.and_eq_true, Bool.or_eq_true, Bool.not_eq_true', Bool.not_eq_false', Bool.and_eq_false_imp, Bool.or_eq_false_iff, bne_iff_ne, beq_iff_eq, bne_eq_false_iff_eq, beq_eq_false_iff_ne, gt_iff_lt, ge_iff_le, Int.not_lt, Int.not_le, ne_eq, Bool.true_eq_false, Bool.false_eq_true, reduceCtorEq, eta_Airway, eta_Fan, eta_Mine, bytes_nil] at hG; omega) (by simp only [forall_const, eq_self, not_true_eq_false, not_false_eq_true, or_false, false_or, or_self, or_true, true_or, and_true, true_and, and_false, false_and, decide_true, decide_false, Bool.not_true, Bool.not_false, decide_eq_true_eq, decide_eq_false_iff_not, ite_and_p, ite_or_p, Bool.decide_eq_true, Bool.and_eq_true, Bool.or_eq_true, Bool.not_eq_true', Bool.not_eq_false', Bool.and_eq_false_imp, Bool.or_eq_false_iff, bne_iff_ne, beq_iff_eq, bne_eq_false_iff_eq, beq_eq_false_iff_ne, gt_iff_lt, ge_iff_le, Int.not_lt, Int.not_le, ne_eq, Bool.true_eq_false, Bool.false_eq_true, reduceCtorEq, eta_Airway, eta_Fan, eta_Mine, bytes_nil] at hG; omega)) rfl rfl ?_
    | refine ArgF.is (c_impl_Mine_hasFlows ⟨_, _⟩ _) ?_
    | refine ArgQ.is (fun hG => c_impl_Mine_hasFlows ⟨_, _⟩ _) rfl rfl ?_
    | refine CallF.own (f := 51) [0] true ?_
    | refine CallF.mk (CallW.is [] true rfl ?_)
    | refine CallG.mk ?_
    | (refine CondF.mk (fun hb => ?_) (fun hb => ?_) <;> try simp only [forall_const, eq_self, not_true_eq_false, not_false_eq_true, or_false, false_or, or_self, or_true, true_or, and_true, true_and, and_false, false_and, decide_true, decide_false, Bool.not_true, Bool.not_false, decide_eq_true_eq, decide_eq_false_iff_not, ite_and_p, ite_or_p, Bool.decide_eq_true, Bool.and_eq_true, Bool.or_eq_true, Bool.not_eq_true', Bool.not_eq_false', Bool.and_eq_false_imp, Bool.or_eq_false_iff, bne_iff_ne, beq_iff_eq, bne_eq_false_iff_eq, beq_eq_false_iff_ne, gt_iff_lt, ge_iff_le, Int.not_lt, Int.not_le, ne_eq, Bool.true_eq_false, Bool.false_eq_true, reduceCtorEq, eta_Airway, eta_Fan, eta_Mine] at hb)
    | apply BackF.auto4
    | apply BackF.auto3
    | apply BackF.auto2
    | refine BackB.mk ?_ ?_
    | refine RetF.auto (And.intro rfl ?_)
    | exact Is.mk rfl rfl
    | refine Is.mk ?_ rfl
    | refine Is.mk rfl ?_
    | refine Is.mk ?_ ?_
  all_goals try exact ()
  all_goals try dsimp only
  all_goals first
    | omega
    | exact rsF (solF_e (codeS_1 (by simpa using hb)) (by decide))
    | exact rsF (solF_e (codeS_2 (by simp_all) (by simpa using hb)) (by decide))
    | exact rsF (solF_e (codeS_7 (by simp_all) (by simp_all) (by simpa using hb)) (by decide))
    | exact rsF (solF_e (codeS_6 (by simp_all) (by simp_all) (by simp_all) (by simpa using hb)) (by decide))
    | exact ⟨by omega, by omega, hst, by rw [Int.sub_zero]⟩
    | exact ⟨by omega, by omega, rfl⟩
    | exact ⟨by omega, by omega, by rw [wsL_s k0, k2]⟩
    | exact ⟨by omega, by omega, hfl, rfl⟩
    | (have a := hst.ln; have b := hfl.ln; omega)
    | (have eg : g = wsF m r fs dr fl := by (rw [k2, show k.toNat = (mshC m).length by omega]; rfl)
       first
         | exact rsF (y := (fl, g, 0)) ((solF_g h0).trans (r3.trans ((solG_t (by omega)).trans (by rw [eg]))))
         | exact rsF (y := ([], g, 5)) ((solF_g h0).trans (r3.trans (by rw [show (rounds - rd).toNat = 0 by omega, eg]; exact solG_0 (by omega))))
         | (obtain ⟨n, hn⟩ : ∃ n, (rounds - rd).toNat = n + 1 := ⟨(rounds - rd).toNat - 1, by omega⟩
            have hl : lsO m (addW fl2 ((mshC m).getD j.toNat []) (spI r (psF fs dr fl2) fl2 ((mshC m).getD j.toNat []))) (-100000) 100000 = false := by simpa using hb
            exact rsF (y := ([], 0, 6)) ((solF_g h0).trans (r3.trans (by rw [hn]; exact solG_n (by omega) (corK_n (corK_f j3 hl) (by omega)))))))
    | (have hl : lsO m (addW fl2 ((mshC m).getD j.toNat []) (spI r (psF fs dr fl2) fl2 ((mshC m).getD j.toNat []))) (-100000) 100000 = true := by simpa using hb
       exact ⟨by omega, by omega, ⟨by rw [addW_len]; exact hfl2.ln, lsO_all hl (by decide), fun q => by rw [imb_msh hm hfl2.ln (hG j.toNat (by omega))]; exact hfl2.im q⟩, by rw [show (j + 1).toNat = j.toNat + 1 by omega]; exact corK_t j3 hl⟩)
    | (have eg : g = wsF m r fs dr fl := by (rw [k2, show k.toNat = (mshC m).length by omega]; rfl)
       refine ⟨by omega, by omega, hfl2, ?_⟩
       obtain ⟨n, hn⟩ : ∃ n, (rounds - rd).toNat = n + 1 := ⟨(rounds - rd).toNat - 1, by omega⟩
       rw [show j.toNat = (mshC m).length by omega] at j3
       rw [r3, hn, solG_s (by omega) j3, show (rounds - (rd + 1)).toNat = n by omega])
    | skip
end Go.Proofs.YtdhkpmaanegjkaaGreat
/- Contracts of functions of the program, and what they compute. Conditions: those that each theorem states. -/
set_option linter.unusedVariables false
set_option linter.unusedSimpArgs false
namespace Go.Proofs.YtdhkpmaanegjkaaGreat
open Go.Av
attribute [local irreducible] Go.IntKind.wrap leastI rdZ rd rootI okMine treeC mshC dropI prI okFanB okFsB hsB spI solF
set_option maxRecDepth 20000
set_option maxHeartbeats 40000000
theorem frzT_row2 {n : Nat} {xs : List Int} {c : Int} {R : List AV → List OB → Prop} (hn : n = xs.length) (h : R [.p .fresh (LI xs), In c] []) : frzT 0 R [.osl 0 0 n, In c] [.row true .flat (eI 0) (xs.map eI)] :=
  ⟨0, _, by simp, rfl, Nat.le_refl _, rfl, rfl, fun _ => by simp only [List.length_map]; omega, _, tkT (take_all hn), h⟩
def ppB (a b : Int) : Bool := decide (a > 0 ∧ b < 0 ∨ a < 0 ∧ b > 0)
theorem c_impl_areOpposite (a b : Int) : FnSem Tryz.prog 20 [In a, In b] [] (Is [Bo (ppB a b)] []) := by
  refine FnSem.walk (zs := zeroPV Tryz.prog) (by kernel_rfl) Tryz.func20 rfl Tryz.results20 (by kernel_rfl) (by kernel_rfl) (by kernel_rfl) fun hw hh => ?_
  obtain ⟨w0, w1, _⟩ := hw
  first | replace w0 := wf_I w0 | skip
  first | replace w1 := wf_I w1 | skip
  repeat' first
    | refine And.intro rfl ?_
    | refine GdF.mk (fun h => h) ?_
    | refine And.intro (Nat.succ_ne_zero _) ?_
    | refine And.intro (Nat.le_of_ble_eq_true rfl) ?_
    | refine SeqF.run ?_
    | refine GhF.go ?_
    | refine GdS.keep ?_
    | (refine CondF.mk (fun hb => ?_) (fun hb => ?_) <;> try simp only [forall_const, eq_self, not_true_eq_false, not_false_eq_true, or_false, false_or, or_self, or_true, true_or, and_true, true_and, and_false, false_and, decide_true, decide_false, Bool.not_true, Bool.not_false, decide_eq_true_eq, decide_eq_false_iff_not, ite_and_p, ite_or_p, Bool.decide_eq_true, Bool.and_eq_true, Bool.or_eq_true, Bool.not_eq_true', Bool.not_eq_false', Bool.and_eq_false_imp, Bool.or_eq_false_iff, bne_iff_ne, beq_iff_eq, bne_eq_false_iff_eq, beq_eq_false_iff_ne, gt_iff_lt, ge_iff_le, Int.not_lt, Int.not_le, ne_eq, Bool.true_eq_false, Bool.false_eq_true, reduceCtorEq, eta_Airway, eta_Fan, eta_Mine] at hb)
    | refine RetF.auto (And.intro rfl ?_)
    | exact Is.mk rfl rfl
    | refine Is.mk ?_ rfl
    | refine Is.mk rfl ?_
    | refine Is.mk ?_ ?_
  all_goals try dsimp only
  all_goals try simp only [Bo, I, OB.row.injEq, AV.osl.injEq, eI_same,  List.cons.injEq, AV.p.injEq, PV.c.injEq, Value.int.injEq, Value.bool.injEq, and_true, true_and, ite_and_p, ite_or_p, Bool.decide_eq_true, eta_Airway, eta_Fan, eta_Mine]
  all_goals try dsimp only
  all_goals
    unfold ppB
    by_cases h1 : a > 0
    · have h2 : ¬a < 0 := by omega
      by_cases h3 : b < 0 <;> simp [h1, h2, h3]
    · by_cases h2 : a < 0
      · by_cases h3 : b > 0 <;> simp [h1, h2, h3]
      · simp [h1, h2]
theorem ppB_s (a : Int) : ppB a a = false := decide_eq_false (by omega)
def revI (b a : List Int) : Nat → List Int
  | 0 => []
  | k + 1 => if ppB (b.getD k 0) (a.getD k 0) = true then revI b a k ++ [(k : Int)] else revI b a k
theorem revI_t {b a : List Int} {i : Int} (h0 : 0 ≤ i) (h : ppB (b.getD i.toNat 0) (a.getD i.toNat 0) = true) : revI b a (i + 1).toNat = revI b a i.toNat ++ [i] := by
  rw [show (i + 1).toNat = i.toNat + 1 by omega, revI, if_pos h, show ((i.toNat : Nat) : Int) = i by omega]
theorem revI_f {b a : List Int} {i : Int} (h0 : 0 ≤ i) (h : ¬ppB (b.getD i.toNat 0) (a.getD i.toNat 0) = true) : revI b a (i + 1).toNat = revI b a i.toNat := by
  rw [show (i + 1).toNat = i.toNat + 1 by omega, revI, if_neg h]
theorem revI_s (b : List Int) : ∀ k : Nat, revI b b k = []
  | 0 => rfl
  | k + 1 => by rw [revI, ppB_s, revI_s b k]; rfl
theorem revI_m {b a : List Int} {j : Nat} (h : ppB (b.getD j 0) (a.getD j 0) = true) : ∀ k : Nat, j < k → (j : Int) ∈ revI b a k
  | 0, hk => absurd hk (Nat.not_lt_zero _)
  | k + 1, hk => by
    rw [revI]
    by_cases e : j = k
    · subst e; rw [if_pos h]; simp
    · have := revI_m h k (by omega)
      split
      · exact List.mem_append_left _ this
      · exact this
theorem revI_len {b a : List Int} : ∀ k : Nat, (revI b a k).length ≤ k
  | 0 => Nat.le_refl _
  | k + 1 => by rw [revI]; have := revI_len (b := b) (a := a) k; split <;> (try simp only [List.length_append, List.length_singleton]) <;> omega
theorem all_in {xs : List Int} {a b : Int} (h : ∀ k : Nat, a ≤ xs.getD k 0 ∧ xs.getD k 0 ≤ b) : xs.all (inR · a b) = true := by
  rw [List.all_eq_true]
  intro x hx
  obtain ⟨k, hk, rfl⟩ := List.getElem_of_mem hx
  have := h k
  rw [List.getD_eq_getElem?_getD, List.getElem?_eq_getElem hk, Option.getD_some] at this
  exact inR_iff.2 this
--@fn impl.ReversedBy
theorem revT (b a : List Int) (hl : b.length ≤ 24) (he : a.length = b.length) (hb : ∀ k : Nat, -100000 ≤ b.getD k 0 ∧ b.getD k 0 ≤ 100000) (ha : ∀ k : Nat, -100000 ≤ a.getD k 0 ∧ a.getD k 0 ≤ 100000) : FnSem Tryz.prog 9 [Lx (LI b), Lx (LI a)] [] (Is [.p .fresh (LI (revI b a b.length)), In 0] []) := by
  have h1 := c_impl_allWithin b (-100000) 100000
  rw [all_in hb] at h1
  have h2 := c_impl_allWithin a (-100000) 100000
  rw [all_in ha] at h2
  refine semFrzT ?_
  refine FnSem.walk (zs := zeroPV Tryz.prog) (by kernel_rfl) Tryz.func9 rfl Tryz.results9 (by kernel_rfl) (by kernel_rfl) (by kernel_rfl) fun hw hh => ?_
  obtain ⟨w0, w1, _⟩ := hw
  first | replace w0 := wf_LI w0 | skip
  first | replace w1 := wf_LI w1 | skip
  repeat' first
    | refine And.intro rfl ?_
    | refine GdF.mk (fun h => h) ?_
    | refine And.intro (Nat.succ_ne_zero _) ?_
    | refine And.intro (Nat.le_of_ble_eq_true rfl) ?_
    | refine SeqF.run ?_
    | refine GdS.tt (by rfl) ?_
    | refine GdS.ff (by rfl) ?_
    | refine ArgF.is (h1) ?_
    | refine ArgQ.is (fun hG => h1) rfl rfl ?_
    | refine ArgF.is (h2) ?_
    | refine ArgQ.is (fun hG => h2) rfl rfl ?_
    | refine GhF.at 3 rfl [.nils 6 (eI 0)] ?_
    | refine ArgF.is (c_impl_areOpposite (b.getD i.toNat 0) (a.getD i.toNat 0)) ?_
    | refine ArgQ.is (fun hG => c_impl_areOpposite (b.getD i.toNat 0) (a.getD i.toNat 0)) rfl rfl ?_
    | refine LoopF.at 5 rfl (LoopF.fix [1, 29, 30] (Int × Nat × List Int) (fun (i, n, xs) => 0 ≤ i ∧ i ≤ b.length ∧ n = xs.length ∧ xs = revI b a i.toNat) (fun (i, n, xs) => [(31, In i), (6, .osl 0 0 n)]) (fun (i, n, xs) => [(0, .row true .flat (eI 0) (xs.map eI))]) (fun (i, n, xs) => ((b.length - i).toNat)) ((0, 0, [])) ?_)
    | (refine LoopB.of (T := Int × Nat × List Int) ?_ ?_; rotate_left; rintro ⟨i, n, xs⟩ ⟨i0, i1, i2, i3⟩; rotate_left)
    | refine BndF.mk (fun _ => by have q := revI_len (b := b) (a := a) i.toNat; rw [← i3] at q; omega) ?_
    | refine Or.inr (frzT_row2 ?_ ?_)
    | refine GhF.go ?_
    | refine GdS.keep ?_
    | refine MkF.row ?_
    | refine EqP.mk _ (gm eI 0 rfl) ?_
    | refine BndF.mk (fun _ => by omega) ?_
    | refine BndF.mk (fun _ => by simp only [lnS]; omega) ?_
    | refine BndF.mk (fun hG => by simp only [forall_const, eq_self, not_true_eq_false, not_false_eq_true, or_false, false_or, or_self, or_true, true_or, and_true, true_and, and_false, false_and, decide_true, decide_false, Bool.not_true, Bool.not_false, decide_eq_true_eq, decide_eq_false_iff_not, ite_and_p, ite_or_p, Bool.decide_eq_true, Bool.and_eq_true, Bool.or_eq_true, Bool.not_eq_true', Bool.not_eq_false', Bool.and_eq_false_imp, Bool.or_eq_false_iff, bne_iff_ne, beq_iff_eq, bne_eq_false_iff_eq, beq_eq_false_iff_ne, gt_iff_lt, ge_iff_le, Int.not_lt, Int.not_le, ne_eq, Bool.true_eq_false, Bool.false_eq_true, reduceCtorEq, eta_Airway, eta_Fan, eta_Mine, bytes_nil] at hG; (try simp only [List.length_map]); omega) ?_
    | refine EqI.mk _ (fun _ => wrapI (by omega) (by omega)) ?_
    | refine EqI.mk _ (fun _ => rfl) ?_
    | refine FlF.keep ?_
    | refine EqN.mk _ (ln eI) ?_
    | refine EqN.mk _ (Nat.zero_add _) ?_
    | refine EqN.mk (_ + 1) rfl ?_
    | refine EqN.mk _ (Int.toNat_natCast _) ?_
    | refine EqN.mk _ rfl ?_
    | refine EqL.mk _ (sn0 eI) ?_
    | refine EqL.mk _ (sn eI (by first | rfl | assumption | omega | (simp only [lnS] <;> omega))) ?_
    | refine EqL.mk _ (ap0 eI) ?_
    | refine EqL.mk _ (ap eI (by first | rfl | assumption | omega | (simp only [lnS] <;> omega))) ?_
    | refine EqL.mk _ (tk eI (by first | rfl | assumption | omega | (simp only [lnS] <;> omega))) ?_
    | refine EqL.mk _ (dt eI) ?_
    | refine EqL.mk [] rfl ?_
    | refine EqL.mk [_] rfl ?_
    | refine EqL.mk _ rfl ?_
    | refine ArgF.is (c_impl_allWithin ..) ?_
    | refine ArgQ.is (fun hG => c_impl_allWithin ..) rfl rfl ?_
    | refine ArgF.is (c_impl_areOpposite ..) ?_
    | refine ArgQ.is (fun hG => c_impl_areOpposite ..) rfl rfl ?_
    | refine CallF.mk (CallW.is [] true rfl ?_)
    | refine CallG.mk ?_
    | (refine CondF.mk (fun hb => ?_) (fun hb => ?_) <;> try simp only [forall_const, eq_self, not_true_eq_false, not_false_eq_true, or_false, false_or, or_self, or_true, true_or, and_true, true_and, and_false, false_and, decide_true, decide_false, Bool.not_true, Bool.not_false, decide_eq_true_eq, decide_eq_false_iff_not, ite_and_p, ite_or_p, Bool.decide_eq_true, Bool.and_eq_true, Bool.or_eq_true, Bool.not_eq_true', Bool.not_eq_false', Bool.and_eq_false_imp, Bool.or_eq_false_iff, bne_iff_ne, beq_iff_eq, bne_eq_false_iff_eq, beq_eq_false_iff_ne, gt_iff_lt, ge_iff_le, Int.not_lt, Int.not_le, ne_eq, Bool.true_eq_false, Bool.false_eq_true, reduceCtorEq, eta_Airway, eta_Fan, eta_Mine] at hb)
    | apply BackF.auto3
    | refine BackB.mk ?_ ?_
    | refine RetF.auto (And.intro rfl ?_)
    | exact Is.mk rfl rfl
    | refine Is.mk ?_ rfl
    | refine Is.mk rfl ?_
    | refine Is.mk ?_ ?_
  all_goals try dsimp only
  all_goals first
    | omega
    | exact ⟨by omega, by omega, rfl, rfl⟩
    | exact ⟨by omega, by omega, by rw [List.length_append, List.length_singleton]; omega, by rw [revI_t i0 (by assumption), ← i3]⟩
    | exact ⟨by omega, by omega, i2, by rw [revI_f i0 (by simpa using hb)]; exact i3⟩
    | rw [i3, show i.toNat = b.length by omega]
    | skip
noncomputable def codeW (m : GMine) (fs : List GFan) (dr : List Int) (tol rounds aw am : Int) : Int :=
  if okMine m && okFsB fs then (if inR tol 0 100000 && inR rounds 0 500 && inR aw 0 (m.airways.length - 1) && inR am 0 100000 then (if lsO m dr (-100000) 100000 && decide (dr.getD aw.toNat 0 + am ≤ 100000) then 0 else 7) else 2) else 1
noncomputable def fwF (m : GMine) (r : List Int) (fs : List GFan) (dr st : List Int) (tol rounds aw am : Int) : List Int × Int × Int :=
  if codeW m fs dr tol rounds aw am = 0 then solF m r fs (dr.set aw.toNat (dr.getD aw.toNat 0 + am)) st tol rounds else ([], 0, codeW m fs dr tol rounds aw am)
section
variable {m : GMine} {r : List Int} {fs : List GFan} {dr st : List Int} {tol rounds aw am : Int}
theorem fwF_e {c : Int} (h : codeW m fs dr tol rounds aw am = c) (hc : c ≠ 0) : fwF m r fs dr st tol rounds aw am = ([], 0, c) := by unfold fwF; rw [h, if_neg hc]
theorem fwF_g (h : codeW m fs dr tol rounds aw am = 0) : fwF m r fs dr st tol rounds aw am = solF m r fs (dr.set aw.toNat (dr.getD aw.toNat 0 + am)) st tol rounds := by unfold fwF; rw [if_pos h]
end
end Go.Proofs.YtdhkpmaanegjkaaGreat
