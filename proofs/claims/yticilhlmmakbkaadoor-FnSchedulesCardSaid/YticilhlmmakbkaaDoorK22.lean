/- Contracts of functions of the program, and what they compute. Conditions: those that each theorem states. -/
import Derived.Test.YticilhlmmakbkaaDoorProg
import Derived.Test.YticilhlmmakbkaaDoorK16
import Derived.Test.YticilhlmmakbkaaDoorK3
set_option linter.unusedVariables false
set_option linter.unusedSimpArgs false
namespace Go.Proofs.YticilhlmmakbkaaDoor
open Go.Av
attribute [local irreducible] Go.IntKind.wrap
set_option maxRecDepth 20000
set_option maxHeartbeats 4000000

/-! The needs of shifts, by hour. -/
def okShift (x : List Int) : Bool := decide (x.length = 3) && inR (x.getD 0 0) 0 23 && inR (x.getD 1 0) (x.getD 0 0 + 1) 24 && inR (x.getD 2 0) 0 100000
theorem okShift_b {x : List Int} (h : okShift x = true) : x.length = 3 ∧ 0 ≤ x.getD 0 0 ∧ x.getD 0 0 < x.getD 1 0 ∧ x.getD 1 0 ≤ 24 ∧ 0 ≤ x.getD 2 0 ∧ x.getD 2 0 ≤ 100000 := by
  simp only [okShift, Bool.and_eq_true, inR_iff, decide_eq_true_eq] at h; omega
def addH (xs : List Int) (a v : Int) : Nat → List Int
  | 0 => xs
  | k + 1 => (addH xs a v k).set (a + k).toNat (min ((addH xs a v k).getD (a + k).toNat 0 + v) 100000)
def needsT (ss : List (List Int)) : Nat → List Int
  | 0 => List.replicate 24 0
  | k + 1 => addH (needsT ss k) ((ss.getD k []).getD 0 0) ((ss.getD k []).getD 2 0) ((ss.getD k []).getD 1 0 - (ss.getD k []).getD 0 0).toNat
def okShifts (ss : List (List Int)) : Bool := decide (ss.length ≤ 64) && ss.all okShift
def needs (ss : List (List Int)) : List Int × Int := if okShifts ss = true then (needsT ss ss.length, 0) else ([], 2)
def in5 (xs : List Int) : Prop := xs.length = 24 ∧ ∀ j : Nat, 0 ≤ xs.getD j 0 ∧ xs.getD j 0 ≤ 100000
theorem addH_b {xs : List Int} {a v : Int} (h : in5 xs) (h0 : 0 ≤ v) : ∀ k : Nat, in5 (addH xs a v k)
  | 0 => h
  | k + 1 => by
    have ih := addH_b (a := a) h h0 k
    refine ⟨by simp [addH, ih.1], fun j => ?_⟩
    have h1 := ih.2 j
    have h2 := ih.2 (a + k).toNat
    simp only [addH, getD_set]
    split <;> omega
theorem needsT_b {ss : List (List Int)} (h : ∀ j : Nat, j < ss.length → okShift (ss.getD j []) = true) : ∀ k : Nat, k ≤ ss.length → in5 (needsT ss k)
  | 0, _ => ⟨by simp [needsT], fun j => by simp only [needsT, List.getD_eq_getElem?_getD, List.getElem?_replicate]; split <;> simp⟩
  | k + 1, hk => addH_b (needsT_b h k (by omega)) (okShift_b (h k (by omega))).2.2.2.2.1 _
theorem needsT_b' {ss : List (List Int)} {i : Int} (h : ∀ j : Nat, (j : Int) < i → okShift (ss.getD j []) = true) : ∀ k : Nat, (k : Int) ≤ i → in5 (needsT ss k)
  | 0, _ => ⟨by simp [needsT], fun j => by simp only [needsT, List.getD_eq_getElem?_getD, List.getElem?_replicate]; split <;> simp⟩
  | k + 1, hk => addH_b (needsT_b' h k (by omega)) (okShift_b (h k (by omega))).2.2.2.2.1 _
theorem addH_s {xs : List Int} {a v i : Int} (h : a ≤ i) : addH xs a v (i + 1 - a).toNat = (addH xs a v (i - a).toNat).set i.toNat (min ((addH xs a v (i - a).toNat).getD i.toNat 0 + v) 100000) := by
  rw [show (i + 1 - a).toNat = (i - a).toNat + 1 by omega]
  simp only [addH]
  rw [show a + ((i - a).toNat : Int) = i by omega]
theorem needsT_s {ss : List (List Int)} {i h : Int} (h0 : 0 ≤ i) (hh : h = (ss.getD i.toNat []).getD 1 0) : needsT ss (i + 1).toNat = addH (needsT ss i.toNat) ((ss.getD i.toNat []).getD 0 0) ((ss.getD i.toNat []).getD 2 0) (h - (ss.getD i.toNat []).getD 0 0).toNat := by
  rw [show (i + 1).toNat = i.toNat + 1 by omega, hh]; rfl
theorem needs_f {ss : List (List Int)} (h : okShifts ss = false) : needs ss = ([], 2) := if_neg (by rw [h]; decide)
theorem needs_t {ss : List (List Int)} (h : okShifts ss = true) : needs ss = (needsT ss ss.length, 0) := if_pos h
theorem okS_f {ss : List (List Int)} {i : Int} (h0 : 0 ≤ i) (h1 : i < ss.length) (h : okShift (ss.getD i.toNat []) = false) : okShifts ss = false := by
  unfold okShifts; rw [← all_f (p := okShift) h0 h1 h, Bool.and_false]
theorem okS_t {ss : List (List Int)} {i : Int} (h : ∀ j : Nat, (j : Int) < i → okShift (ss.getD j []) = true) (h0 : ss.length ≤ 64) (h1 : (ss.length : Int) ≤ i) : okShifts ss = true := by
  unfold okShifts; rw [← all_t (p := okShift) (d := []) h1 h, decide_eq_true h0]; rfl
theorem addS_b {ys : List Int} {v j : Int} {x : Int} (h : in5 ys) (h0 : 0 ≤ v) (hx : x = min (ys.getD j.toNat 0 + v) 100000) : in5 (ys.set j.toNat x) := by
  refine ⟨by simp [h.1], fun k => ?_⟩
  have h1 := h.2 k
  have h2 := h.2 j.toNat
  rw [getD_set, hx]
  split <;> omega
theorem needs_len {ss : List (List Int)} : (needs ss).1.length ≤ 24 := by
  unfold needs
  split
  · rename_i h
    unfold okShifts at h
    simp only [Bool.and_eq_true] at h
    have := (needsT_b (ss := ss) (fun j hj => (all_iff (d := [])).1 h.2 j (by omega)) ss.length (Nat.le_refl _)).1
    dsimp only; omega
  · simp
theorem okS_many {ss : List (List Int)} (h : 64 < (ss.length : Int)) : okShifts ss = false := by
  unfold okShifts; rw [decide_eq_false (by omega)]; rfl
theorem sh_f {x : List Int} (h : ((¬(x.length : Int) = 3 ∨ inR (x.getD (Int.toNat 1) 0) 0 24 = false) ∨ inR (x.getD (Int.toNat 0) 0) 0 (IntKind.i64.wrap (x.getD (Int.toNat 1) 0 - 1)) = false) ∨ inR (x.getD (Int.toNat 2) 0) 0 100000 = false) : okShift x = false := by
  refine Bool.eq_false_iff.2 fun hh => ?_
  have b := okShift_b hh
  simp only [Int.reduceToNat, Int.toNat_zero, inR_f] at h
  rw [wrapI (by omega) (by omega)] at h
  omega
theorem sh_t {x : List Int} (h : ¬((¬(x.length : Int) = 3 ∨ inR (x.getD (Int.toNat 1) 0) 0 24 = false) ∨ inR (x.getD (Int.toNat 0) 0) 0 (IntKind.i64.wrap (x.getD (Int.toNat 1) 0 - 1)) = false) ∧ inR (x.getD (Int.toNat 2) 0) 0 100000 = true) : okShift x = true := by
  simp only [not_or, Bool.not_eq_false, Int.reduceToNat, Int.toNat_zero, inR_iff, Int.not_lt, Int.not_le] at h
  obtain ⟨⟨⟨h1, h2⟩, h3⟩, h4⟩ := h
  rw [wrapI (by omega) (by omega)] at h3
  simp only [okShift, Bool.and_eq_true, inR_iff, decide_eq_true_eq]
  omega
theorem shs_f {x : List Int} (h : ((¬(x.length : Int) = 3 ∨ inR (x.getD (Int.toNat 0) 0) 0 23 = false) ∨ inR (x.getD (Int.toNat 1) 0) (IntKind.i64.wrap (x.getD (Int.toNat 0) 0 + 1)) 24 = false) ∨ inR (x.getD (Int.toNat 2) 0) 0 100000 = false) : okShift x = false := by
  refine Bool.eq_false_iff.2 fun hh => ?_
  have b := okShift_b hh
  simp only [Int.reduceToNat, Int.toNat_zero, inR_f] at h
  rw [wrapI (by omega) (by omega)] at h
  omega
theorem shs_t {x : List Int} (h : ¬((¬(x.length : Int) = 3 ∨ inR (x.getD (Int.toNat 0) 0) 0 23 = false) ∨ inR (x.getD (Int.toNat 1) 0) (IntKind.i64.wrap (x.getD (Int.toNat 0) 0 + 1)) 24 = false) ∧ inR (x.getD (Int.toNat 2) 0) 0 100000 = true) : okShift x = true := by
  simp only [not_or, Bool.not_eq_false, Int.reduceToNat, Int.toNat_zero, inR_iff, Int.not_lt, Int.not_le] at h
  obtain ⟨⟨⟨h1, h2⟩, h3⟩, h4⟩ := h
  rw [wrapI (by omega) (by omega)] at h3
  simp only [okShift, Bool.and_eq_true, inR_iff, decide_eq_true_eq]
  omega
theorem needsT_0 {ss : List (List Int)} : needsT ss 0 = List.replicate 24 0 := rfl
theorem addH_0 {xs : List Int} {a v : Int} : addH xs a v 0 = xs := rfl
theorem needs_e {ss : List (List Int)} {i : Int} (h : ∀ j : Nat, (j : Int) < i → okShift (ss.getD j []) = true) (h0 : ss.length ≤ 64) (h1 : (ss.length : Int) ≤ i) (h2 : i ≤ ss.length) : needs ss = (needsT ss i.toNat, 0) := by
  rw [needs_t (okS_t h h0 h1), show i.toNat = ss.length by omega]
attribute [local irreducible] needsT addH okShift okShifts
theorem c_impl_NeedsByHour (ss : List (List Int)) : FnSem Tryd.prog 21 [Lx (LLI ss)] [] (Is [.osl 0 0 (needs ss).1.length, In (needs ss).2] [Rw .flat (eI 0) ((needs ss).1.map eI)]) := by
  refine FnSem.walk (zs := zeroPV Tryd.prog) (by kernel_rfl) Tryd.func21 rfl Tryd.results21 (by kernel_rfl) (by kernel_rfl) (by kernel_rfl) fun hw hh => ?_
  obtain ⟨w0, _⟩ := hw
  first | replace w0 := wf_I w0 | replace w0 := wf_Y w0 | replace w0 := wf_S w0 | replace w0 := wf_LI w0 | replace w0 := wf_LY w0 | replace w0 := wf_LLI w0 | replace w0 := wf_Ls w0 | skip
  repeat' first
    | refine And.intro rfl ?_
    | refine GdF.mk (fun h => h) ?_
    | refine And.intro (Nat.succ_ne_zero _) ?_
    | refine And.intro (Nat.le_of_ble_eq_true rfl) ?_
    | refine SeqF.run ?_
    | refine BndF.mk (fun _ => by have e := okShift_b hs; have e2 : j < (ss.getD i.toNat []).getD 1 0 := hb; first | omega | (show 0 ≤ j ∧ j < (24 : Int); omega) | (rw [ln, g3.1]; omega)) ?_
    | refine BndF.mk (fun hG => by simp only [Bool.not_eq_true', bne_eq_false_iff_eq] at hG; simp only [List.length_map]; omega) ?_
    | refine EqP.mk _ (gm 0 rfl) ?_
    | refine EqI.mk _ (fun _ => wrapI (by have := g3.2 j.toNat; have := okShift_b hs; (try simp only [Int.reduceToNat]); omega) (by have := g3.2 j.toNat; have := okShift_b hs; (try simp only [Int.reduceToNat]); omega)) ?_
    | refine LoopF.at 5 rfl (LoopF.fix [4, 12, 13] (Int × List Int) (fun (i, xs) => 0 ≤ i ∧ i ≤ ss.length ∧ ss.length ≤ 64 ∧ (∀ j : Nat, (j : Int) < i → okShift (ss.getD j []) = true) ∧ xs = needsT ss i.toNat) (fun (i, xs) => [(14, In i)]) (fun (i, xs) => [(0, Rw .flat (eI 0) (xs.map eI))]) (fun (i, xs) => ((ss.length - i).toNat)) ((0, List.replicate 24 0)) ?_)
    | (refine LoopB.of (T := Int × List Int) ?_ ?_; rotate_left; rintro ⟨i, xs⟩ ⟨h0, h1, h2, h3, h4⟩; rotate_left)
    | refine LoopF.at 10 rfl (LoopF.fix [4, 6, 12, 13, 14] (Int × List Int × Unit) (fun (j, ys, u) => (ss.getD i.toNat []).getD 0 0 ≤ j ∧ j ≤ (ss.getD i.toNat []).getD 1 0 ∧ ys = addH xs ((ss.getD i.toNat []).getD 0 0) ((ss.getD i.toNat []).getD 2 0) (j - (ss.getD i.toNat []).getD 0 0).toNat ∧ in5 ys ∧ okShift (ss.getD i.toNat []) = true) (fun (j, ys, u) => [(7, In j)]) (fun (j, ys, u) => [(0, Rw .flat (eI 0) (ys.map eI))]) (fun (j, ys, u) => (((ss.getD i.toNat []).getD 1 0 - j).toNat)) (((ss.getD i.toNat []).getD 0 0, xs, ())) ?_)
    | (refine LoopB.of (T := Int × List Int × Unit) ?_ ?_; rotate_left; rintro ⟨j, ys, u⟩ ⟨g0, g1, g2, g3, hs⟩; rotate_left)
    | refine GhF.go ?_
    | refine GdS.keep ?_
    | refine DrawG.old (DrawF.lex (by decide +kernel) ?_)
    | refine MkF.row ?_
    | refine EqP.mk _ (gm eI 0 rfl) ?_
    | refine EqP.mk _ (gmb eLI [] (by omega)) ?_
    | refine BndF.mk (fun _ => by omega) ?_
    | refine BndF.mk (fun _ => by simp only [List.length_map, List.length_cons, List.length_nil, List.length_append, List.length_set, List.length_replicate, iotaI_len]; omega) ?_
    | refine BndF.mk (fun hG => by simp only [forall_const, eq_self, not_true_eq_false, not_false_eq_true, or_false, false_or, or_self, or_true, true_or, and_true, true_and, and_false, false_and, decide_true, decide_false, Bool.not_true, Bool.not_false, decide_eq_true_eq, decide_eq_false_iff_not, ite_and_p, ite_or_p, Bool.decide_eq_true, Bool.and_eq_true, Bool.or_eq_true, Bool.not_eq_true', Bool.not_eq_false', Bool.and_eq_false_imp, Bool.or_eq_false_iff, bne_iff_ne, beq_iff_eq, bne_eq_false_iff_eq, beq_eq_false_iff_ne, gt_iff_lt, ge_iff_le, Int.not_lt, Int.not_le, ne_eq, Bool.true_eq_false, Bool.false_eq_true, reduceCtorEq, eta_Mode, bytes_nil] at hG; (try simp only [List.length_map]); omega) ?_
    | refine EqI.mk _ (fun _ => wrapI (by omega) (by omega)) ?_
    | refine EqI.mk _ (fun _ => rfl) ?_
    | refine EqN.mk _ (ln eI) ?_
    | refine EqN.mk _ (ln eLI) ?_
    | refine EqN.mk _ (Nat.zero_add _) ?_
    | refine EqN.mk _ (Int.toNat_natCast _) ?_
    | refine EqN.mk _ rfl ?_
    | refine EqL.mk _ (tk eI (by first | rfl | assumption | omega | (simp only [List.length_map, List.length_cons, List.length_nil, List.length_append, List.length_set, List.length_replicate, iotaI_len]; done) | (simp only [List.length_map, List.length_cons, List.length_nil, List.length_append, List.length_set, List.length_replicate, iotaI_len]; omega))) ?_
    | refine EqL.mk _ (st eI) ?_
    | refine EqL.mk _ (rp eI 0) ?_
    | refine EqL.mk _ (dt eI) ?_
    | refine EqL.mk _ (tk eLI (by first | rfl | assumption | omega | (simp only [List.length_map, List.length_cons, List.length_nil, List.length_append, List.length_set, List.length_replicate, iotaI_len]; done) | (simp only [List.length_map, List.length_cons, List.length_nil, List.length_append, List.length_set, List.length_replicate, iotaI_len]; omega))) ?_
    | refine EqL.mk _ (st eLI) ?_
    | refine EqL.mk _ (rp eLI []) ?_
    | refine EqL.mk _ (dt eLI) ?_
    | refine EqL.mk [] rfl ?_
    | refine EqL.mk [_] rfl ?_
    | refine EqL.mk _ rfl ?_
    | refine ArgF.is (c_impl_within ..) ?_
    | refine ArgQ.is (fun hG => c_impl_within ..) rfl rfl ?_
    | refine CallF.mk (CallW.is [] true rfl ?_)
    | refine CallG.mk ?_
    | (refine CondF.mk (fun hb => ?_) (fun hb => ?_) <;> try simp only [forall_const, eq_self, not_true_eq_false, not_false_eq_true, or_false, false_or, or_self, or_true, true_or, and_true, true_and, and_false, false_and, decide_true, decide_false, Bool.not_true, Bool.not_false, decide_eq_true_eq, decide_eq_false_iff_not, ite_and_p, ite_or_p, Bool.decide_eq_true, Bool.and_eq_true, Bool.or_eq_true, Bool.not_eq_true', Bool.not_eq_false', Bool.and_eq_false_imp, Bool.or_eq_false_iff, bne_iff_ne, beq_iff_eq, bne_eq_false_iff_eq, beq_eq_false_iff_ne, gt_iff_lt, ge_iff_le, Int.not_lt, Int.not_le, ne_eq, Bool.true_eq_false, Bool.false_eq_true, reduceCtorEq, eta_Mode] at hb)
    | apply BackF.auto3
    | apply BackF.auto2
    | refine BackB.mk ?_ ?_
    | refine RetF.auto (And.intro rfl ?_)
    | exact Is.mk rfl rfl
    | refine Is.mk ?_ rfl
    | refine Is.mk rfl ?_
    | refine Is.mk ?_ ?_
  all_goals try dsimp only
  all_goals first
    | (rw [needs_f (okS_many hb)] <;> rfl)
    | (rw [needs_f (okS_f h0 (by omega) (sh_f hb))] <;> rfl)
    | exact ⟨by omega, by omega, by omega, all_0, needsT_0.symm⟩
    | exact ⟨Int.le_refl _, by have := okShift_b (sh_t hb); omega, by rw [Int.sub_self]; exact addH_0.symm, by rw [h4]; exact needsT_b' h3 _ (by omega), sh_t hb⟩
    | exact ⟨by omega, by have e2 : j < (ss.getD i.toNat []).getD 1 0 := hb; omega, by rw [addH_s g0, ← g2]; first | rfl | (congr 1; exact Int.min_comm _ _), addS_b g3 (okShift_b hs).2.2.2.2.1 (by first | rfl | exact Int.min_comm _ _), hs⟩
    | (have e2 : j < (ss.getD i.toNat []).getD 1 0 := hb; omega)
    | exact ⟨by omega, by omega, by omega, all_s (P := fun j => okShift (ss.getD j []) = true) h0 h3 hs, by rw [needsT_s (h := j) h0 (by have e2 : (ss.getD i.toNat []).getD 1 0 ≤ j := hb; omega), ← h4, ← g2]⟩
    | (rw [needs_e h3 h2 hb h1]; have q := needsT_b' h3 i.toNat (by omega); dsimp only; first | (rw [q.1] <;> rfl) | (rw [h4] <;> rfl) | rfl)
    | omega
    | skip
end Go.Proofs.YticilhlmmakbkaaDoor
