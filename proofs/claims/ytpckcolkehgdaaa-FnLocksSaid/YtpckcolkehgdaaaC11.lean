/- Contracts of functions of the program, and what they compute. Conditions: those that each theorem states. -/
import Derived.Test.YtpckcolkehgdaaaProg
import Derived.Test.YtpckcolkehgdaaaC9
import Derived.Test.YtpckcolkehgdaaaC10
set_option linter.unusedVariables false
set_option linter.unusedSimpArgs false
namespace Go.Proofs.Ytpckcolkehgdaaa
open Go.Av
attribute [local irreducible] Go.IntKind.wrap bitI kpN hmN dfN flN bitsN okLk leastI updM arL nxN mvN stsN kpS cntN
set_option maxRecDepth 20000
set_option maxHeartbeats 40000000

/-! The law: doors and locks. -/
theorem stsN_bits {bs : List Bool} : stsN bs.length (bitsN bs bs.length) = bs := by
  apply List.ext_getElem?
  intro j
  by_cases h : j < bs.length
  · have a := stsN_at (s := bitsN bs bs.length) h
    rw [bitsN_at, decide_eq_true h, Bool.true_and] at a
    rw [List.getD_eq_getElem?_getD, List.getD_eq_getElem?_getD, List.getElem?_eq_getElem (by rw [stsN_len]; exact h), List.getElem?_eq_getElem h] at a
    rw [List.getElem?_eq_getElem (by rw [stsN_len]; exact h), List.getElem?_eq_getElem h]
    exact congrArg some a
  · rw [List.getElem?_eq_none (by rw [stsN_len]; omega), List.getElem?_eq_none (by omega)]
theorem bitsN_sts {n s : Nat} (hs : s < 2 ^ n) : bitsN (stsN n s) (stsN n s).length = s := by
  apply Nat.eq_of_testBit_eq
  intro j
  rw [bitsN_at, stsN_len]
  by_cases h : j < n
  · rw [decide_eq_true h, Bool.true_and, stsN_at h]
  · rw [decide_eq_false h, Bool.false_and, tb_hi hs (by omega)]
theorem sts_set {n s i : Nat} (hi : i < n) : (stsN n s).set i (!(stsN n s).getD i false) = stsN n (flN s i) := by
  apply List.ext_getElem?
  intro j
  by_cases h : j < n
  · have b := stsN_at (s := flN s i) h
    have a := stsN_at (s := s) h
    rw [flN_at] at b
    rw [List.getElem?_set, stsN_len, stsN_at hi]
    rw [List.getD_eq_getElem?_getD, List.getElem?_eq_getElem (by rw [stsN_len]; exact h), Option.getD_some] at b a
    rw [List.getElem?_eq_getElem (l := stsN n (flN s i)) (by rw [stsN_len]; exact h), List.getElem?_eq_getElem (l := stsN n s) (by rw [stsN_len]; exact h), a, b]
    by_cases e : i = j
    · subst e; rw [if_pos rfl, if_pos h, if_pos rfl]
    · rw [if_neg e, if_neg e]
  · rw [List.getElem?_eq_none (by rw [List.length_set, stsN_len]; omega), List.getElem?_eq_none (by rw [stsN_len]; omega)]
theorem arL_sts {n s : Nat} {ls : List (List Int)} (h : okLk n ls = true) (hs : s < 2 ^ n) (ks : kpN ls s = true) : arL (stsN n s) ls = true := by
  unfold arL; rw [bitsN_sts hs, stsN_len, h, ks]; rfl
theorem mvA_len {ls : List (List Int)} {n g : Nat} (hg : g < 2 ^ n) (kg : kpN ls g = true) : ∀ (d s : Nat), hmN n s g = d → s < 2 ^ n → kpN ls s = true → (mvA ls n g s).length = d
  | 0, s, h, hs, _ => by rw [mvA_e (hmN_0 h hs hg)]; rfl
  | d + 1, s, h, hs, ks => by
    have hne : ¬s = g := fun e => by rw [e, hmN_self] at h; omega
    obtain ⟨q1, q2, q3, q4⟩ := mvA_s hs hg ks kg hne
    rw [q1, List.length_cons, mvA_len hg kg d _ (by omega) (flN_lt hs q4) q3]
theorem movV_ok {ls : List (List Int)} {fr to : List Bool} (h : (movV ls fr to).2 = 0) : stO fr to ls ∧ (movV ls fr to).1 = mvA ls fr.length (bitsN to to.length) (bitsN fr fr.length) := by
  by_cases h1 : arL fr ls = true ∧ arL to ls = true
  · by_cases h2 : fr.length = to.length
    · have q := stO_of (fr := fr) (to := to) (ls := ls) ⟨by rw [h1.1]; decide, h1.2⟩ (by omega)
      exact ⟨q, by rw [movV_0 q]⟩
    · rw [movV_6 ⟨by rw [h1.1]; decide, h1.2⟩ (by omega)] at h; cases h
  · rw [movV_1 (by
      cases e : arL fr ls with
      | false => exact .inl rfl
      | true => right; cases e2 : arL to ls with
        | false => rfl
        | true => exact absurd ⟨e, e2⟩ h1)] at h
    cases h
theorem movV_c {ls : List (List Int)} {fr to : List Bool} : (movV ls fr to).2 = (movV ls to fr).2 ∧ (movV ls fr to).1.length = (movV ls to fr).1.length := by
  by_cases h1 : arL fr ls = true ∧ arL to ls = true
  · by_cases h2 : fr.length = to.length
    · have q := stO_of (fr := fr) (to := to) (ls := ls) ⟨by rw [h1.1]; decide, h1.2⟩ (by omega)
      have q2 := stO_of (fr := to) (to := fr) (ls := ls) ⟨by rw [h1.2]; decide, h1.1⟩ (by omega)
      rw [movV_0 q, movV_0 q2]
      refine ⟨rfl, ?_⟩
      dsimp only
      rw [mvA_len q.g q.kg _ _ rfl q.s q.ks, mvA_len q2.g q2.kg _ _ rfl q2.s q2.ks, hmN_comm, h2]
    · rw [movV_6 ⟨by rw [h1.1]; decide, h1.2⟩ (by omega), movV_6 ⟨by rw [h1.2]; decide, h1.1⟩ (by omega)]
      exact ⟨rfl, rfl⟩
  · have e : (arL fr ls = false ∨ arL to ls = false) := by
      cases e : arL fr ls with
      | false => exact .inl rfl
      | true => right; cases e2 : arL to ls with
        | false => rfl
        | true => exact absurd ⟨e, e2⟩ h1
    rw [movV_1 e, movV_1 e.symm]; exact ⟨rfl, rfl⟩
theorem cnt_pos {ls : List (List Int)} {k : Nat} (hk : 0 < k) : 1 ≤ cntN ls k := by
  unfold cntN
  refine List.countP_pos_iff.2 ⟨0, List.mem_range.2 hk, ?_⟩
  exact kpN_sub (g := 0) (fun j h => h) (by unfold kpN; rw [List.all_eq_true]; intro l _; simp)
theorem cnt_all {k : Nat} : cntN [] k = k := by
  unfold cntN
  have : (List.range k).countP (kpN []) = (List.range k).length := List.countP_eq_length.2 fun a _ => by unfold kpN; rfl
  rw [this]; simp
theorem okLk_nil {n : Int} (h : 0 ≤ n ∧ n ≤ 8) : okLk n [] = true := by unfold okLk; rw [inR_iff.2 h]; rfl
theorem cnt_law (n : Int) (ls : List (List Int)) : (¬(cntV n ls).2 = 0 ∧ (cntV n ls).1 = 0) ∨ ((cntV n ls).2 = 0 ∧ (cntV n []).2 = 0 ∧ 1 ≤ (cntV n ls).1 ∧ (cntV n ls).1 ≤ (cntV n []).1 ∧ (cntV n []).1 = ((2 ^ n.toNat : Nat) : Int) ∧ 0 ≤ n ∧ n ≤ 8) := by
  by_cases h : 0 ≤ n ∧ n ≤ 8
  · by_cases h2 : okLk n ls = true
    · right
      have e1 : cntV n ls = (((cntN ls (2 ^ n.toNat) : Nat) : Int), 0) := by unfold cntV; rw [if_pos h, if_pos h2]
      have e2 : cntV n [] = (((cntN [] (2 ^ n.toNat) : Nat) : Int), 0) := by unfold cntV; rw [if_pos h, if_pos (okLk_nil h)]
      have hp : 0 < 2 ^ n.toNat := Nat.pow_pos (by omega)
      have a := cnt_pos (ls := ls) hp
      have b := cntN_le (ls := ls) (k := 2 ^ n.toNat)
      rw [e1, e2, cnt_all]
      generalize 2 ^ n.toNat = q at *
      exact ⟨rfl, rfl, by dsimp only; omega, by dsimp only; omega, rfl, h⟩
    · left
      have e1 : cntV n ls = (0, 1) := by unfold cntV; rw [if_pos h, if_neg h2]
      rw [e1]; exact ⟨by decide, rfl⟩
  · left
    have e1 : cntV n ls = (0, 2) := by unfold cntV; rw [if_neg h]
    rw [e1]; exact ⟨by decide, rfl⟩
/-- a move, out of a list of them -/
theorem mv_step {ls : List (List Int)} {n g s : Nat} {ms : List Int} {i : Int} (hs : s < 2 ^ n) (hg : g < 2 ^ n) (ks : kpN ls s = true) (kg : kpN ls g = true) (h0 : 0 ≤ i) (h1 : i < ms.length) (h : ms.drop i.toNat = mvA ls n g s) :
    ∃ x : Nat, ms.getD i.toNat 0 = (x : Int) ∧ x < n ∧ flN s x < 2 ^ n ∧ kpN ls (flN s x) = true ∧ ms.drop (i + 1).toNat = mvA ls n g (flN s x) := by
  have hne : ¬s = g := fun e => by
    rw [mvA_e e] at h
    have := congrArg List.length h
    rw [List.length_drop] at this
    simp at this; omega
  obtain ⟨q1, q2, q3, q4⟩ := mvA_s hs hg ks kg hne
  rw [q1, List.drop_eq_getElem_cons (show i.toNat < ms.length by omega)] at h
  injection h with h2 h3
  refine ⟨nxN ls n s g, ?_, q4, flN_lt hs q4, q3, by rw [show (i + 1).toNat = i.toNat + 1 by omega]; exact h3⟩
  rw [List.getD_eq_getElem?_getD, List.getElem?_eq_getElem (show i.toNat < ms.length by omega)]; exact h2
theorem mv_end {ls : List (List Int)} {n g s : Nat} {ms : List Int} {i : Int} (hs : s < 2 ^ n) (hg : g < 2 ^ n) (ks : kpN ls s = true) (kg : kpN ls g = true) (h1 : (ms.length : Int) ≤ i) (h : ms.drop i.toNat = mvA ls n g s) : s = g := by
  rw [List.drop_eq_nil_of_le (by omega)] at h
  refine Decidable.byContradiction fun hne => ?_
  obtain ⟨q1, _⟩ := mvA_s hs hg ks kg hne
  rw [q1] at h; cases h
/-- where the loop of the law stands -/
structure lwI (fr to : List Bool) (ls : List (List Int)) (ms : List Int) (i : Int) (s : Nat) (now : List Bool) : Prop where
  o : stO fr to ls
  i0 : 0 ≤ i ∧ i ≤ ms.length
  nw : now = stsN fr.length s
  lt : s < 2 ^ fr.length
  kp : kpN ls s = true
  dr : ms.drop i.toNat = mvA ls fr.length (bitsN to to.length) s
section
variable {fr to : List Bool} {ls : List (List Int)} {ms : List Int} {i : Int} {s : Nat} {now : List Bool}
theorem lw_len (h : lwI fr to ls ms i s now) : now.length = fr.length := by rw [h.nw, stsN_len]
theorem lw_in (h : lwI fr to ls ms i s now) (hi : i < ms.length) : 0 ≤ ms.getD i.toNat 0 ∧ ms.getD i.toNat 0 < now.length := by
  obtain ⟨x, q1, q2, _⟩ := mv_step h.lt h.o.g h.kp h.o.kg h.i0.1 hi h.dr
  rw [lw_len h, q1]; omega
theorem lw_s (h : lwI fr to ls ms i s now) (hi : i < ms.length) : arL (now.set (ms.getD i.toNat 0).toNat (!now.getD (ms.getD i.toNat 0).toNat false)) ls = true ∧ lwI fr to ls ms (i + 1) (flN s (ms.getD i.toNat 0).toNat) (now.set (ms.getD i.toNat 0).toNat (!now.getD (ms.getD i.toNat 0).toNat false)) := by
  obtain ⟨x, q1, q2, q3, q4, q5⟩ := mv_step h.lt h.o.g h.kp h.o.kg h.i0.1 hi h.dr
  have e : (ms.getD i.toNat 0).toNat = x := by omega
  have e2 : now.set x (!now.getD x false) = stsN fr.length (flN s x) := by rw [h.nw]; exact sts_set q2
  have := h.i0
  rw [e, e2]
  exact ⟨arL_sts h.o.ok q3 q4, ⟨h.o, by omega, rfl, q3, q4, q5⟩⟩
theorem lw_e (h : lwI fr to ls ms i s now) (hi : (ms.length : Int) ≤ i) : now = to := by
  have e := mv_end h.lt h.o.g h.kp h.o.kg hi h.dr
  have e2 := h.o.a.2.2
  rw [h.nw, e, e2]; exact stsN_bits
end
theorem mv8 {fr to : List Bool} {ls : List (List Int)} (h : (movV ls fr to).2 = 0) : (movV ls fr to).1.length ≤ 8 := by
  obtain ⟨o, e⟩ := movV_ok h
  have a := hmN_le (n := fr.length) (s := bitsN fr fr.length) (g := bitsN to to.length)
  have b := o.n
  rw [e, mvA_len o.g o.kg _ _ rfl o.s o.ks]; omega
theorem lw_0 {fr to : List Bool} {ls : List (List Int)} (h : (movV ls fr to).2 = 0) : lwI fr to ls (movV ls fr to).1 0 (bitsN fr fr.length) fr := by
  obtain ⟨o, e⟩ := movV_ok h
  refine ⟨o, by omega, stsN_bits.symm, o.s, o.ks, ?_⟩
  rw [e]; rfl
--@fn impl.FewestMoves
theorem implMv (ls : List (List Int)) (fr to : List Bool) : FnSem Try.prog 32 [Lx (LLI ls), Lx (LB fr), Lx (LB to)] [] (Is [.osl 0 0 (movV ls fr to).1.length, In (movV ls fr to).2] [.row false .flat (eI 0) ((movV ls fr to).1.map eI)]) :=
  (c_impl_FewestMoves ls fr to).mono fun rs ho h => by
    obtain ⟨n, ys, c, rfl, rfl, rfl, h4⟩ := h
    rw [h4]; exact Is.mk rfl rfl
theorem c_spec_AreLocked (bs : List Bool) (ls : List (List Int)) : FnSem Try.prog 38 [Lx (LB bs), Lx (LLI ls)] [] (Is [Bo (arL bs ls)] []) := by
  refine FnSem.walk (zs := zeroPV Try.prog) (by kernel_rfl) Try.func38 rfl Try.results38 (by kernel_rfl) (by kernel_rfl) (by kernel_rfl) fun hw hh => ?_
  obtain ⟨w0, w1, _⟩ := hw
  first | replace w0 := wf_I w0 | replace w0 := wf_Y w0 | replace w0 := wf_S w0 | replace w0 := wf_LI w0 | replace w0 := wf_LY w0 | replace w0 := wf_LLI w0 | replace w0 := wf_Ls w0 | skip
  first | replace w1 := wf_LLI w1 | skip
  repeat' first
    | refine And.intro rfl ?_
    | refine GdF.mk (fun h => h) ?_
    | refine And.intro (Nat.succ_ne_zero _) ?_
    | refine And.intro (Nat.le_of_ble_eq_true rfl) ?_
    | refine SeqF.run ?_
    | refine GhF.go ?_
    | refine BndF.mk (fun _ => by omega) ?_
    | refine BndF.mk (fun _ => by simp only [List.length_map, List.length_cons, List.length_nil, List.length_append, List.length_set, List.length_replicate, iotaI_len]; omega) ?_
    | refine EqL.mk _ (tk eLI (by first | rfl | assumption | omega | (simp only [List.length_map, List.length_cons, List.length_nil, List.length_append, List.length_set, List.length_replicate, iotaI_len]; done) | (simp only [List.length_map, List.length_cons, List.length_nil, List.length_append, List.length_set, List.length_replicate, iotaI_len]; omega))) ?_
    | refine EqL.mk _ (tk eB (by first | rfl | assumption | omega | (simp only [List.length_map, List.length_cons, List.length_nil, List.length_append, List.length_set, List.length_replicate, iotaI_len]; done) | (simp only [List.length_map, List.length_cons, List.length_nil, List.length_append, List.length_set, List.length_replicate, iotaI_len]; omega))) ?_
    | refine EqL.mk [] rfl ?_
    | refine EqL.mk [_] rfl ?_
    | refine EqL.mk _ rfl ?_
    | refine ArgF.is (c_spec_l10Locked ..) ?_
    | refine ArgQ.is (fun hG => c_spec_l10Locked ..) rfl rfl ?_
    | refine CallF.mk (CallW.is [] true rfl ?_)
    | refine CallG.mk ?_
    | (refine CondF.mk (fun hb => ?_) (fun hb => ?_) <;> try simp only [forall_const, eq_self, not_true_eq_false, not_false_eq_true, or_false, false_or, or_self, or_true, true_or, and_true, true_and, and_false, false_and, decide_true, decide_false, Bool.not_true, Bool.not_false, decide_eq_true_eq, decide_eq_false_iff_not, ite_and_p, ite_or_p, Bool.decide_eq_true, Bool.and_eq_true, Bool.or_eq_true, Bool.not_eq_true', Bool.not_eq_false', Bool.and_eq_false_imp, Bool.or_eq_false_iff, bne_iff_ne, beq_iff_eq, bne_eq_false_iff_eq, beq_eq_false_iff_ne, gt_iff_lt, ge_iff_le, Int.not_lt, Int.not_le, ne_eq, Bool.true_eq_false, Bool.false_eq_true, reduceCtorEq, eta_Airway, eta_Fan, eta_Mine] at hb)
    | refine RetF.auto (And.intro rfl ?_)
    | exact Is.mk rfl rfl
    | refine Is.mk ?_ rfl
    | refine Is.mk rfl ?_
    | refine Is.mk ?_ ?_
theorem tkL {xs : List Bool} {n : Nat} (h : n = xs.length) : ((xs.map eB).drop 0).take n = xs.map eB := by
  subst h; rw [List.drop_zero, List.take_of_length_le (by simp)]
theorem ap0 {X Y : List (List PV)} : List.take 0 (List.drop 0 X) ++ Y = Y := by simp
theorem lnB {xs : List Bool} : 0 + (xs.map eB).length = xs.length := by simp
theorem tkS {xs : List Bool} {k n : Nat} {v : Bool} (h : n = xs.length) : (((xs.set k v).map eB).drop 0).take n = (xs.set k v).map eB := tkL (by rw [List.length_set]; exact h)
attribute [local irreducible] movV cntV
theorem c_laws_FnLocks (c1 c2 : List Int) : FnSem Try.prog 6 [Lx (LY c1), Lx (LY c2)] [] (Is [Bo true] []) := by
  refine FnSem.walk (zs := zeroPV Try.prog) (by kernel_rfl) Try.func6 rfl Try.results6 (by kernel_rfl) (by kernel_rfl) (by kernel_rfl) fun hw hh => ?_
  obtain ⟨w0, w1, _⟩ := hw
  first | replace w0 := wf_LY w0 | skip
  first | replace w1 := wf_LY w1 | skip
  repeat' first
    | refine And.intro rfl ?_
    | refine GdF.mk (fun h => h) ?_
    | refine And.intro (Nat.succ_ne_zero _) ?_
    | refine And.intro (Nat.le_of_ble_eq_true rfl) ?_
    | refine SeqF.run ?_
    | (refine ArgF.drl (c_spec_DrawFewestMoves c1) ?_; intro ls n1 n2 fr to hd)
    | refine EqL.mk _ (tkL hd.1) ?_
    | refine EqL.mk _ (tkL hd.2) ?_
    | refine ArgF.is (implMv ls fr to) ?_
    | refine ArgQ.is (fun hG => implMv ls fr to) rfl rfl ?_
    | refine ArgF.is (implMv ls to fr) ?_
    | refine ArgQ.is (fun hG => implMv ls to fr) rfl rfl ?_
    | (refine ArgF.drn (c_spec_DrawCountStates c2) ?_; intro n k lk hk)
    | refine EqL.mk _ (tkRows hk) ?_
    | refine ArgF.is (c_impl_CountStates n lk) ?_
    | refine ArgQ.is (fun hG => c_impl_CountStates n lk) rfl rfl ?_
    | refine BndF.mk (fun _ => by have q := (movV_ok (by assumption : (movV ls fr to).2 = 0)).1.n; first | omega | (simp only [List.length_map]; omega)) ?_
    | refine EqL.mk _ ap0 ?_
    | refine EqN.mk fr.length lnB ?_
    | refine EqL.mk (([] : List (List Int)).map eLI) rfl ?_
    | refine ArgF.is (c_impl_CountStates n []) ?_
    | refine ArgQ.is (fun hG => c_impl_CountStates n []) rfl rfl ?_
    | refine GhF.held 15 rfl [(14, [3])] ?_
    | refine EqL.mk _ (stBk (by kernel_rfl)) ?_
    | refine EqL.mk _ (tkS (lw_len lw).symm) ?_
    | refine ArgF.is (c_spec_AreLocked (now.set ((movV ls fr to).1.getD i.toNat 0).toNat (!now.getD ((movV ls fr to).1.getD i.toNat 0).toNat false)) ls) ?_
    | refine ArgQ.is (fun hG => c_spec_AreLocked (now.set ((movV ls fr to).1.getD i.toNat 0).toNat (!now.getD ((movV ls fr to).1.getD i.toNat 0).toNat false)) ls) rfl rfl ?_
    | refine BndF.mk (fun _ => by have q := lw_in lw (by assumption); have := lw_len lw; first | omega | (simp only [List.length_map]; omega)) ?_
    | refine BndF.mk (fun _ => by have := lw_len lw; first | omega | (simp only [List.length_map]; omega)) ?_
    | refine BndF.mk (fun _ => by have := lw_len lw; have := lw.o.a.2.2; first | omega | (simp only [List.length_map]; omega)) ?_
    | refine BndF.mk (fun _ => by have := lw_len lw; simp only [List.length_map, List.length_set]; omega) ?_
    | refine EqI.mk (i + 1) (fun _ => by have := mv8 (ls := ls) (fr := fr) (to := to) (by assumption); exact wrapI (by omega) (by omega)) ?_
    | refine EqI.mk (j + 1) (fun _ => by have := lw.o.n; exact wrapI (by omega) (by omega)) ?_
    | refine ArgF.is (c_impl_StatesText fr lw.o.n) ?_
    | refine ArgQ.is (fun hG => c_impl_StatesText fr lw.o.n) rfl rfl ?_
    | refine ArgF.is (c_impl_ReadStates fr lw.o.n) ?_
    | refine ArgQ.is (fun hG => c_impl_ReadStates fr lw.o.n) rfl rfl ?_
    | refine LoopF.at 11 rfl (LoopF.fix [1, 6, 7, 8, 12] (Fl × Int × Nat × List Bool) (fun (fl, i, s, now) => lwI fr to ls (movV ls fr to).1 i s now ∧ 0 ≤ i ∧ (fl = .fresh ∨ fl = .any)) (fun (fl, i, s, now) => [(13, In i), (5, .p fl (LLI ls))]) (fun (fl, i, s, now) => [(3, .row true .flat (eB false) (now.map eB))]) (fun (fl, i, s, now) => (((movV ls fr to).1.length - i).toNat)) ((.fresh, 0, bitsN fr fr.length, fr)) ?_)
    | (refine LoopB.of (T := Fl × Int × Nat × List Bool) ?_ ?_; rotate_left; rintro ⟨fl, i, s, now⟩ ⟨lw, lw0, lwf⟩; rotate_left)
    | (rcases lwf with rfl | rfl)
    | refine BackF.auto (.any, i + 1, flN s ((movV ls fr to).1.getD i.toNat 0).toNat, now.set ((movV ls fr to).1.getD i.toNat 0).toNat (!now.getD ((movV ls fr to).1.getD i.toNat 0).toNat false)) ?_
    | refine LoopF.at 21 rfl (LoopF.fix [1, 6, 7, 12] (Int × Unit) (fun (j, _) => 0 ≤ j ∧ j ≤ fr.length) (fun (j, _) => [(14, In j)]) (fun (j, _) => []) (fun (j, _) => ((fr.length - j).toNat)) ((0, ())) ?_)
    | (refine LoopB.of (T := Int × Unit) ?_ ?_; rotate_left; rintro ⟨j, _⟩ ⟨j0, j1⟩; rotate_left)
    | refine HdF.at 14 rfl 0 [] (And.intro (by decide +kernel) (And.intro rfl ?_))
    | refine HdF.at 13 rfl 1 [] (And.intro (by decide +kernel) (And.intro rfl ?_))
    | refine HdF.at 12 rfl 2 [] (And.intro (by decide +kernel) (And.intro rfl ?_))
    | refine HdF.at 11 rfl 3 [] (And.intro (by decide +kernel) (And.intro rfl ?_))
    | refine HdF.at 10 rfl 4 [13, 14] (And.intro (by decide +kernel) (And.intro rfl ?_))
    | refine HdF.at 9 rfl 5 [] (And.intro (by decide +kernel) (And.intro rfl ?_))
    | refine HdF.at 8 rfl 6 [] (And.intro (by decide +kernel) (And.intro rfl ?_))
    | refine HdF.at 7 rfl 7 [] (And.intro (by decide +kernel) (And.intro rfl ?_))
    | refine HdF.at 6 rfl 8 [] (And.intro (by decide +kernel) (And.intro rfl ?_))
    | refine HdF.at 5 rfl 9 [10, 11, 12, 13, 14] (And.intro (by decide +kernel) (And.intro rfl ?_))
    | refine HdF.at 4 rfl 10 [] (And.intro (by decide +kernel) (And.intro rfl ?_))
    | refine HdF.at 3 rfl 11 [12, 13, 14] (And.intro (by decide +kernel) (And.intro rfl ?_))
    | refine HdF.at 2 rfl 12 [] (And.intro (by decide +kernel) (And.intro rfl ?_))
    | refine HdF.at 1 rfl 13 [] (And.intro (by decide +kernel) (And.intro rfl ?_))
    | refine HdF.goAt 0 rfl ?_
    | refine OrdL.ord ?_
    | refine OrdF.all [14] (by decide +kernel) ?_
    | refine OrdF.fin (by decide +kernel) ?_
    | refine AllF.one _ ?_
    | refine AllF.cons _ _ ?_ ?_
    | refine OpH.quiet rfl ?_
    | refine OpH.heap ?_
    | refine GhF.go ?_
    | refine GdS.keep ?_
    | refine DrawG.old (DrawF.lex (by decide +kernel) ?_)
    | refine MkF.row ?_
    | refine EqP.mk _ (gm eI 0 rfl) ?_
    | refine EqP.mk _ (gm eY 0 rfl) ?_
    | refine EqP.mk _ (gmb eLI [] (by omega)) ?_
    | refine EqP.mk _ (gm eB false rfl) ?_
    | refine BndF.mk (fun _ => by omega) ?_
    | refine BndF.mk (fun _ => by simp only [List.length_map, List.length_cons, List.length_nil, List.length_append, List.length_set, List.length_replicate, iotaI_len]; omega) ?_
    | refine BndF.mk (fun hG => by simp only [forall_const, eq_self, not_true_eq_false, not_false_eq_true, or_false, false_or, or_self, or_true, true_or, and_true, true_and, and_false, false_and, decide_true, decide_false, Bool.not_true, Bool.not_false, decide_eq_true_eq, decide_eq_false_iff_not, ite_and_p, ite_or_p, Bool.decide_eq_true, Bool.and_eq_true, Bool.or_eq_true, Bool.not_eq_true', Bool.not_eq_false', Bool.and_eq_false_imp, Bool.or_eq_false_iff, bne_iff_ne, beq_iff_eq, bne_eq_false_iff_eq, beq_eq_false_iff_ne, gt_iff_lt, ge_iff_le, Int.not_lt, Int.not_le, ne_eq, Bool.true_eq_false, Bool.false_eq_true, reduceCtorEq, eta_Airway, eta_Fan, eta_Mine, bytes_nil] at hG; (try simp only [List.length_map]); omega) ?_
    | refine EqI.mk _ (fun _ => wrapI (by omega) (by omega)) ?_
    | refine EqI.mk _ (fun _ => rfl) ?_
    | refine FlF.keep ?_
    | refine EqN.mk _ (ln eI) ?_
    | refine EqN.mk _ (ln eY) ?_
    | refine EqN.mk _ (ln eLI) ?_
    | refine EqN.mk _ (ln eB) ?_
    | refine EqN.mk _ (Nat.zero_add _) ?_
    | refine EqN.mk (_ + 1) rfl ?_
    | refine EqN.mk _ (Int.toNat_natCast _) ?_
    | refine EqN.mk _ rfl ?_
    | refine EqL.mk _ (sn0 eI) ?_
    | refine EqL.mk _ (sn eI (by first | rfl | assumption | omega | (simp only [List.length_map, List.length_cons, List.length_nil, List.length_append, List.length_set, List.length_replicate, iotaI_len]; done) | (simp only [List.length_map, List.length_cons, List.length_nil, List.length_append, List.length_set, List.length_replicate, iotaI_len]; omega))) ?_
    | refine EqL.mk _ (ap0 eI) ?_
    | refine EqL.mk _ (ap eI (by first | rfl | assumption | omega | (simp only [List.length_map, List.length_cons, List.length_nil, List.length_append, List.length_set, List.length_replicate, iotaI_len]; done) | (simp only [List.length_map, List.length_cons, List.length_nil, List.length_append, List.length_set, List.length_replicate, iotaI_len]; omega))) ?_
    | refine EqL.mk _ (tk eI (by first | rfl | assumption | omega | (simp only [List.length_map, List.length_cons, List.length_nil, List.length_append, List.length_set, List.length_replicate, iotaI_len]; done) | (simp only [List.length_map, List.length_cons, List.length_nil, List.length_append, List.length_set, List.length_replicate, iotaI_len]; omega))) ?_
    | refine EqL.mk _ (st eI) ?_
    | refine EqL.mk _ (sn0 eY) ?_
    | refine EqL.mk _ (sn eY (by first | rfl | assumption | omega | (simp only [List.length_map, List.length_cons, List.length_nil, List.length_append, List.length_set, List.length_replicate, iotaI_len]; done) | (simp only [List.length_map, List.length_cons, List.length_nil, List.length_append, List.length_set, List.length_replicate, iotaI_len]; omega))) ?_
    | refine EqL.mk _ (ap0 eY) ?_
    | refine EqL.mk _ (ap eY (by first | rfl | assumption | omega | (simp only [List.length_map, List.length_cons, List.length_nil, List.length_append, List.length_set, List.length_replicate, iotaI_len]; done) | (simp only [List.length_map, List.length_cons, List.length_nil, List.length_append, List.length_set, List.length_replicate, iotaI_len]; omega))) ?_
    | refine EqL.mk _ (tk eY (by first | rfl | assumption | omega | (simp only [List.length_map, List.length_cons, List.length_nil, List.length_append, List.length_set, List.length_replicate, iotaI_len]; done) | (simp only [List.length_map, List.length_cons, List.length_nil, List.length_append, List.length_set, List.length_replicate, iotaI_len]; omega))) ?_
    | refine EqL.mk _ (st eY) ?_
    | refine EqL.mk _ (sn0 eLI) ?_
    | refine EqL.mk _ (sn eLI (by first | rfl | assumption | omega | (simp only [List.length_map, List.length_cons, List.length_nil, List.length_append, List.length_set, List.length_replicate, iotaI_len]; done) | (simp only [List.length_map, List.length_cons, List.length_nil, List.length_append, List.length_set, List.length_replicate, iotaI_len]; omega))) ?_
    | refine EqL.mk _ (ap0 eLI) ?_
    | refine EqL.mk _ (ap eLI (by first | rfl | assumption | omega | (simp only [List.length_map, List.length_cons, List.length_nil, List.length_append, List.length_set, List.length_replicate, iotaI_len]; done) | (simp only [List.length_map, List.length_cons, List.length_nil, List.length_append, List.length_set, List.length_replicate, iotaI_len]; omega))) ?_
    | refine EqL.mk _ (tk eLI (by first | rfl | assumption | omega | (simp only [List.length_map, List.length_cons, List.length_nil, List.length_append, List.length_set, List.length_replicate, iotaI_len]; done) | (simp only [List.length_map, List.length_cons, List.length_nil, List.length_append, List.length_set, List.length_replicate, iotaI_len]; omega))) ?_
    | refine EqL.mk _ (st eLI) ?_
    | refine EqL.mk _ (sn0 eB) ?_
    | refine EqL.mk _ (sn eB (by first | rfl | assumption | omega | (simp only [List.length_map, List.length_cons, List.length_nil, List.length_append, List.length_set, List.length_replicate, iotaI_len]; done) | (simp only [List.length_map, List.length_cons, List.length_nil, List.length_append, List.length_set, List.length_replicate, iotaI_len]; omega))) ?_
    | refine EqL.mk _ (ap0 eB) ?_
    | refine EqL.mk _ (ap eB (by first | rfl | assumption | omega | (simp only [List.length_map, List.length_cons, List.length_nil, List.length_append, List.length_set, List.length_replicate, iotaI_len]; done) | (simp only [List.length_map, List.length_cons, List.length_nil, List.length_append, List.length_set, List.length_replicate, iotaI_len]; omega))) ?_
    | refine EqL.mk _ (tk eB (by first | rfl | assumption | omega | (simp only [List.length_map, List.length_cons, List.length_nil, List.length_append, List.length_set, List.length_replicate, iotaI_len]; done) | (simp only [List.length_map, List.length_cons, List.length_nil, List.length_append, List.length_set, List.length_replicate, iotaI_len]; omega))) ?_
    | refine EqL.mk _ (st eB) ?_
    | refine EqL.mk [] rfl ?_
    | refine EqL.mk [_] rfl ?_
    | refine EqL.mk _ rfl ?_
    | refine ArgF.is (c_laws_b10Long ..) ?_
    | refine ArgQ.is (fun hG => c_laws_b10Long ..) rfl rfl ?_
    | refine ArgF.is (c_spec_DrawFewestMoves ..) ?_
    | refine ArgQ.is (fun hG => c_spec_DrawFewestMoves ..) rfl rfl ?_
    | refine ArgF.is (c_impl_FewestMoves ..) ?_
    | refine ArgQ.is (fun hG => c_impl_FewestMoves ..) rfl rfl ?_
    | refine ArgF.is (c_spec_AreLocked ..) ?_
    | refine ArgQ.is (fun hG => c_spec_AreLocked ..) rfl rfl ?_
    | refine ArgF.is (c_impl_StatesText _ (by first | assumption | omega)) ?_
    | refine ArgQ.is (fun hG => c_impl_StatesText _ (by first | assumption | omega)) rfl rfl ?_
    | refine ArgQ.is (fun hG => c_impl_StatesText _ (by simp only [forall_const, eq_self, not_true_eq_false, not_false_eq_true, or_false, false_or, or_self, or_true, true_or, and_true, true_and, and_false, false_and, decide_true, decide_false, Bool.not_true, Bool.not_false, decide_eq_true_eq, decide_eq_false_iff_not, ite_and_p, ite_or_p, Bool.decide_eq_true, Bool.and_eq_true, Bool.or_eq_true, Bool.not_eq_true', Bool.not_eq_false', Bool.and_eq_false_imp, Bool.or_eq_false_iff, bne_iff_ne, beq_iff_eq, bne_eq_false_iff_eq, beq_eq_false_iff_ne, gt_iff_lt, ge_iff_le, Int.not_lt, Int.not_le, ne_eq, Bool.true_eq_false, Bool.false_eq_true, reduceCtorEq, eta_Airway, eta_Fan, eta_Mine, bytes_nil] at hG; omega)) rfl rfl ?_
    | refine ArgF.is (c_impl_ReadStates _ (by first | assumption | omega)) ?_
    | refine ArgQ.is (fun hG => c_impl_ReadStates _ (by first | assumption | omega)) rfl rfl ?_
    | refine ArgQ.is (fun hG => c_impl_ReadStates _ (by simp only [forall_const, eq_self, not_true_eq_false, not_false_eq_true, or_false, false_or, or_self, or_true, true_or, and_true, true_and, and_false, false_and, decide_true, decide_false, Bool.not_true, Bool.not_false, decide_eq_true_eq, decide_eq_false_iff_not, ite_and_p, ite_or_p, Bool.decide_eq_true, Bool.and_eq_true, Bool.or_eq_true, Bool.not_eq_true', Bool.not_eq_false', Bool.and_eq_false_imp, Bool.or_eq_false_iff, bne_iff_ne, beq_iff_eq, bne_eq_false_iff_eq, beq_eq_false_iff_ne, gt_iff_lt, ge_iff_le, Int.not_lt, Int.not_le, ne_eq, Bool.true_eq_false, Bool.false_eq_true, reduceCtorEq, eta_Airway, eta_Fan, eta_Mine, bytes_nil] at hG; omega)) rfl rfl ?_
    | refine ArgF.is (c_spec_DrawCountStates ..) ?_
    | refine ArgQ.is (fun hG => c_spec_DrawCountStates ..) rfl rfl ?_
    | refine ArgF.is (c_impl_CountStates ..) ?_
    | refine ArgQ.is (fun hG => c_impl_CountStates ..) rfl rfl ?_
    | refine CallF.mk (CallW.is [] true rfl ?_)
    | refine CallG.mk ?_
    | (refine CondF.mk (fun hb => ?_) (fun hb => ?_) <;> try simp only [forall_const, eq_self, not_true_eq_false, not_false_eq_true, or_false, false_or, or_self, or_true, true_or, and_true, true_and, and_false, false_and, decide_true, decide_false, Bool.not_true, Bool.not_false, decide_eq_true_eq, decide_eq_false_iff_not, ite_and_p, ite_or_p, Bool.decide_eq_true, Bool.and_eq_true, Bool.or_eq_true, Bool.not_eq_true', Bool.not_eq_false', Bool.and_eq_false_imp, Bool.or_eq_false_iff, bne_iff_ne, beq_iff_eq, bne_eq_false_iff_eq, beq_eq_false_iff_ne, gt_iff_lt, ge_iff_le, Int.not_lt, Int.not_le, ne_eq, Bool.true_eq_false, Bool.false_eq_true, reduceCtorEq, eta_Airway, eta_Fan, eta_Mine] at hb)
    | apply BackF.auto4
    | apply BackF.auto2
    | refine BackB.mk ?_ ?_
    | refine RetF.auto (And.intro rfl ?_)
    | exact Is.mk rfl rfl
    | refine Is.mk ?_ rfl
    | refine Is.mk rfl ?_
    | refine Is.mk ?_ ?_
  all_goals try exact ()
  all_goals try dsimp only
  all_goals first
    | omega
    | (exfalso; have q := movV_c (ls := ls) (fr := fr) (to := to); rcases hb with h | h; exact h q.1; exact h (by rw [q.2]))
    | (exfalso; rcases cnt_law n lk with q | q; exact q.1 hb.1; omega)
    | (rcases cnt_law n lk with ⟨q1, q2⟩ | ⟨q1, q2, q3, q4, q5, q6⟩
       · have e1 : ((cntV n lk).2 != 0) = true := by simpa using q1
         rw [e1, q2]; rfl
       · rw [shl1 (i := n) (by omega)]
         have e1 : ((cntV n lk).2 != 0) = false := by rw [q1]; rfl
         have e2 : ((cntV n lk).2 == 0) = true := by rw [q1]; rfl
         have e3 : ((cntV n []).2 == 0) = true := by rw [q2]; rfl
         have e4 : decide ((cntV n lk).1 ≥ 1) = true := decide_eq_true q3
         have e5 : decide ((cntV n lk).1 ≤ (cntV n []).1) = true := decide_eq_true q4
         have e6 : ((cntV n []).1 == ((2 ^ n.toNat : Nat) : Int)) = true := by rw [q5]; exact beq_self_eq_true _
         rw [e1, e2, e3, e4, e5, e6]; rfl)
    | exact ⟨lw_0 hb, by omega, .inl rfl⟩
    | exact ⟨by omega, by omega⟩
    | (exfalso; have q := lw_in lw (by assumption); have := lw_len lw; omega)
    | (exfalso; have q := lw_s lw (by assumption); rw [q.1] at hb; cases hb; done)
    | exact ⟨(lw_s lw (by assumption)).2, by omega, .inr rfl⟩
    | (exfalso; have := lw.o.a.2.2; have := hd.2; omega)
    | (exfalso; have q := lw_e lw (by assumption); rw [q] at hb; exact hb rfl)
    | skip
end Go.Proofs.Ytpckcolkehgdaaa
