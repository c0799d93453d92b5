/- Contracts of functions of the program, and what they compute. Conditions: those that each theorem states. -/
import Derived.Test.YtmifcbekaniiiaaGreatDoorProg
import Derived.Test.YtmifcbekaniiiaaGreatDoorA4
import Derived.Test.YtmifcbekaniiiaaGreatDoorJ0
import Derived.Test.YtmifcbekaniiiaaGreatDoorK20
set_option linter.unusedVariables false
set_option linter.unusedSimpArgs false
namespace Go.Proofs.YtmifcbekaniiiaaGreatDoor
open Go.Av
attribute [local irreducible] Go.IntKind.wrap listS decS idS isName setN leastI rd rdZ
set_option maxRecDepth 20000
set_option maxHeartbeats 8000000

/-! Ducts: measured flows. -/
structure okFl (xs : List Int) : Prop where
  ln : 1 ≤ xs.length ∧ xs.length ≤ 64
  pt : ∀ k : Nat, 0 ≤ xs.getD k 0 ∧ xs.getD k 0 ≤ 100000
  so : ∀ k : Nat, k + 1 < xs.length → xs.getD (k + 1) 0 ≤ xs.getD k 0
theorem okFl.ab {xs : List Int} (h : okFl xs) : xs.all (inR · 0 100000) = true :=
  (all_iff (d := 0)).2 fun j _ => inR_iff.2 (h.pt j)
theorem okFl.le {xs : List Int} (h : okFl xs) : ∀ (n m : Nat), n + m < xs.length → xs.getD (n + m) 0 ≤ xs.getD n 0
  | n, 0, _ => Int.le_refl _
  | n, m + 1, hl => by
    have h1 := h.le n m (by omega)
    have h2 := h.so (n + m) (by omega)
    rw [show n + (m + 1) = (n + m) + 1 by omega]; omega
--@fn impl.ductFlowsCode
theorem codeT (xs : List Int) (h : okFl xs) : FnSem Tryz.prog 109 [Lx (LI xs)] [] (Is [In 0] []) := by
  have hl := h.ln
  have ha := c_impl_allWithin xs 0 100000
  rw [h.ab] at ha
  refine FnSem.walk (zs := zeroPV Tryz.prog) (by kernel_rfl) Tryz.func109 rfl Tryz.results109 (by kernel_rfl) (by kernel_rfl) (by kernel_rfl) fun hw hh => ?_
  obtain ⟨w0, _⟩ := hw
  first | replace w0 := wf_LI w0 | skip
  repeat' first
    | refine And.intro rfl ?_
    | refine GdF.mk (fun h => h) ?_
    | refine And.intro (Nat.succ_ne_zero _) ?_
    | refine And.intro (Nat.le_of_ble_eq_true rfl) ?_
    | refine SeqF.run ?_
    | refine ArgF.is (ha) ?_
    | refine ArgQ.is (fun hG => ha) rfl rfl ?_
    | refine LoopF.at 6 rfl (LoopF.fix [0] (Int) (fun i => 1 ≤ i ∧ i ≤ xs.length) (fun i => [(3, In i)]) (fun i => []) (fun i => ((xs.length - i).toNat)) (1) ?_)
    | (refine LoopB.of (T := Int) ?_ ?_; rotate_left; rintro i ⟨k0, k1⟩; rotate_left)
    | refine GhF.go ?_
    | refine DrawG.old (DrawF.lex (by decide +kernel) ?_)
    | refine EqP.mk _ (gm eI 0 rfl) ?_
    | refine BndF.mk (fun _ => by omega) ?_
    | refine BndF.mk (fun _ => by simp only [List.length_map, List.length_cons, List.length_nil, List.length_append, List.length_set, List.length_replicate, iotaI_len]; omega) ?_
    | refine EqI.mk _ (fun _ => wrapI (by omega) (by omega)) ?_
    | refine EqI.mk _ (fun _ => rfl) ?_
    | refine EqN.mk _ (ln eI) ?_
    | refine EqN.mk _ (Nat.zero_add _) ?_
    | refine EqN.mk _ (Int.toNat_natCast _) ?_
    | refine EqN.mk _ rfl ?_
    | refine EqL.mk _ (tk eI (by first | rfl | assumption | omega | (simp only [List.length_map, List.length_cons, List.length_nil, List.length_append, List.length_set, List.length_replicate, iotaI_len]; done) | (simp only [List.length_map, List.length_cons, List.length_nil, List.length_append, List.length_set, List.length_replicate, iotaI_len]; omega))) ?_
    | refine EqL.mk [] rfl ?_
    | refine EqL.mk [_] rfl ?_
    | refine EqL.mk _ rfl ?_
    | refine ArgF.is (c_impl_allWithin ..) ?_
    | refine ArgQ.is (fun hG => c_impl_allWithin ..) rfl rfl ?_
    | refine CallF.mk (CallW.is [] true rfl ?_)
    | refine CallG.mk ?_
    | (refine CondF.mk (fun hb => ?_) (fun hb => ?_) <;> try simp only [forall_const, eq_self, not_true_eq_false, not_false_eq_true, or_false, false_or, or_self, or_true, true_or, and_true, true_and, and_false, false_and, decide_true, decide_false, Bool.not_true, Bool.not_false, decide_eq_true_eq, decide_eq_false_iff_not, ite_and_p, ite_or_p, Bool.decide_eq_true, Bool.and_eq_true, Bool.or_eq_true, Bool.not_eq_true', Bool.not_eq_false', Bool.and_eq_false_imp, Bool.or_eq_false_iff, bne_iff_ne, beq_iff_eq, bne_eq_false_iff_eq, beq_eq_false_iff_ne, gt_iff_lt, ge_iff_le, Int.not_lt, Int.not_le, ne_eq, Bool.true_eq_false, Bool.false_eq_true, reduceCtorEq, eta_Airway, eta_Duct, eta_Fan, eta_Mine, eta_Survey] at hb)
    | apply BackF.auto
    | refine BackB.mk ?_ ?_
    | refine RetF.auto (And.intro rfl ?_)
    | exact Is.mk rfl rfl
    | refine Is.mk ?_ rfl
    | refine Is.mk rfl ?_
    | refine Is.mk ?_ ?_
  all_goals try dsimp only
  all_goals first
    | omega
    | exact ⟨by omega, by omega⟩
    | (exfalso; have q := h.so (i - 1).toNat (by omega); rw [show (i - 1).toNat + 1 = i.toNat by omega] at q; omega)
    | skip
/-- the losses up to the n-th joint -/
def lossN (xs : List Int) (n : Nat) : List Int := (List.range n).map fun j => xs.getD j 0 - xs.getD (j + 1) 0
theorem lossN_s {xs : List Int} {n : Nat} : lossN xs (n + 1) = lossN xs n ++ [xs.getD n 0 - xs.getD (n + 1) 0] := by simp [lossN, List.range_succ]
theorem lossN_l {xs : List Int} {n : Nat} : (lossN xs n).length = n := by simp [lossN]
theorem lossN_at {xs : List Int} {n k : Nat} (h : k < n) : (lossN xs n).getD k 0 = xs.getD k 0 - xs.getD (k + 1) 0 := by simp [lossN, List.getD_eq_getElem?_getD, h]
--@fn impl.lossesOf
theorem lossT (xs : List Int) (h : okFl xs) : FnSem Tryz.prog 110 [Lx (LI xs)] [] (Is [.osl 0 0 (xs.length - 1)] [Rw .flat (eI 0) ((lossN xs (xs.length - 1)).map eI)]) := by
  have hl := h.ln
  refine FnSem.walk (zs := zeroPV Tryz.prog) (by kernel_rfl) Tryz.func110 rfl Tryz.results110 (by kernel_rfl) (by kernel_rfl) (by kernel_rfl) fun hw hh => ?_
  obtain ⟨w0, _⟩ := hw
  first | replace w0 := wf_LI w0 | skip
  repeat' first
    | refine And.intro rfl ?_
    | refine GdF.mk (fun h => h) ?_
    | refine And.intro (Nat.succ_ne_zero _) ?_
    | refine And.intro (Nat.le_of_ble_eq_true rfl) ?_
    | refine SeqF.run ?_
    | refine EqI.mk (xs.getD (i - 1).toNat 0 - xs.getD i.toNat 0) (fun _ => by have q1 := h.pt (i - 1).toNat; have q2 := h.pt i.toNat; exact wrapI (by omega) (by omega)) ?_
    | refine LoopF.at 3 rfl (LoopF.fix [0] (Int × Nat × List Int) (fun (i, n, ys) => 1 ≤ i ∧ i ≤ xs.length ∧ (n = ys.length ∧ (n : Int) = i - 1) ∧ ys = lossN xs (i - 1).toNat) (fun (i, n, ys) => [(4, In i), (3, .osl 0 0 n)]) (fun (i, n, ys) => [(0, Rw .flat (eI 0) (ys.map eI))]) (fun (i, n, ys) => ((xs.length - i).toNat)) ((1, 0, [])) ?_)
    | (refine LoopB.of (T := Int × Nat × List Int) ?_ ?_; rotate_left; rintro ⟨i, n, ys⟩ ⟨k0, k1, k2, k3⟩; rotate_left)
    | refine GhF.go ?_
    | refine DrawG.old (DrawF.lex (by decide +kernel) ?_)
    | refine DrawG.old (DrawF.any ?_)
    | refine OrdF.take 0 (by decide +kernel) ?_
    | refine OrdF.take 1 (by decide +kernel) ?_
    | refine OrdF.take 2 (by decide +kernel) ?_
    | refine OrdF.take 3 (by decide +kernel) ?_
    | refine OrdF.take 4 (by decide +kernel) ?_
    | refine OrdF.take 6 (by decide +kernel) ?_
    | refine OrdF.take 7 (by decide +kernel) ?_
    | refine OrdF.take 8 (by decide +kernel) ?_
    | refine OrdF.take 10 (by decide +kernel) ?_
    | refine OrdF.take 13 (by decide +kernel) ?_
    | refine OrdF.all [12] (by decide +kernel) ?_
    | refine OrdF.all [11] (by decide +kernel) ?_
    | refine OrdF.all [5] (by decide +kernel) ?_
    | refine OrdF.all [9] (by decide +kernel) ?_
    | refine OrdF.all [5, 9] (by decide +kernel) ?_
    | refine OrdF.fin (by decide +kernel) ?_
    | refine AllF.one _ ?_
    | refine AllF.cons _ _ ?_ ?_
    | refine MkF.row ?_
    | refine EqP.mk _ (gm eI 0 rfl) ?_
    | refine BndF.mk (fun _ => by omega) ?_
    | refine BndF.mk (fun _ => by simp only [List.length_map, List.length_cons, List.length_nil, List.length_append, List.length_set, List.length_replicate, iotaI_len]; omega) ?_
    | refine EqI.mk _ (fun _ => wrapI (by omega) (by omega)) ?_
    | refine EqI.mk _ (fun _ => rfl) ?_
    | refine FlF.keep ?_
    | refine EqN.mk _ (ln eI) ?_
    | refine EqN.mk _ (Nat.zero_add _) ?_
    | refine EqN.mk (_ + 1) rfl ?_
    | refine EqN.mk _ (Int.toNat_natCast _) ?_
    | refine EqN.mk _ rfl ?_
    | refine EqL.mk _ (sn0 eI) ?_
    | refine EqL.mk _ (sn eI (by first | rfl | assumption | omega | (simp only [List.length_map, List.length_cons, List.length_nil, List.length_append, List.length_set, List.length_replicate, iotaI_len]; done) | (simp only [List.length_map, List.length_cons, List.length_nil, List.length_append, List.length_set, List.length_replicate, iotaI_len]; omega))) ?_
    | refine EqL.mk _ (ap0 eI) ?_
    | refine EqL.mk _ (ap eI (by first | rfl | assumption | omega | (simp only [List.length_map, List.length_cons, List.length_nil, List.length_append, List.length_set, List.length_replicate, iotaI_len]; done) | (simp only [List.length_map, List.length_cons, List.length_nil, List.length_append, List.length_set, List.length_replicate, iotaI_len]; omega))) ?_
    | refine EqL.mk _ (tk eI (by first | rfl | assumption | omega | (simp only [List.length_map, List.length_cons, List.length_nil, List.length_append, List.length_set, List.length_replicate, iotaI_len]; done) | (simp only [List.length_map, List.length_cons, List.length_nil, List.length_append, List.length_set, List.length_replicate, iotaI_len]; omega))) ?_
    | refine EqL.mk _ (dt eI) ?_
    | refine EqL.mk [] rfl ?_
    | refine EqL.mk [_] rfl ?_
    | refine EqL.mk _ rfl ?_
    | (refine CondF.mk (fun hb => ?_) (fun hb => ?_) <;> try simp only [forall_const, eq_self, not_true_eq_false, not_false_eq_true, or_false, false_or, or_self, or_true, true_or, and_true, true_and, and_false, false_and, decide_true, decide_false, Bool.not_true, Bool.not_false, decide_eq_true_eq, decide_eq_false_iff_not, ite_and_p, ite_or_p, Bool.decide_eq_true, Bool.and_eq_true, Bool.or_eq_true, Bool.not_eq_true', Bool.not_eq_false', Bool.and_eq_false_imp, Bool.or_eq_false_iff, bne_iff_ne, beq_iff_eq, bne_eq_false_iff_eq, beq_eq_false_iff_ne, gt_iff_lt, ge_iff_le, Int.not_lt, Int.not_le, ne_eq, Bool.true_eq_false, Bool.false_eq_true, reduceCtorEq, eta_Airway, eta_Duct, eta_Fan, eta_Mine, eta_Survey] at hb)
    | apply BackF.auto3
    | refine BackB.mk ?_ ?_
    | refine RetF.auto (And.intro rfl ?_)
    | exact Is.mk rfl rfl
    | refine Is.mk ?_ rfl
    | refine Is.mk rfl ?_
    | refine Is.mk ?_ ?_
  all_goals try dsimp only
  all_goals first
    | omega
    | exact ⟨by omega, by omega, ⟨rfl, by omega⟩, rfl⟩
    | (refine ⟨by omega, by omega, ⟨by simp [k2.1], by omega⟩, ?_⟩
       rw [k3, show (i + 1 - 1).toNat = (i - 1).toNat + 1 by omega, lossN_s, show (i - 1).toNat + 1 = i.toNat by omega])
    | (rw [show n = xs.length - 1 by omega]; done)
    | (rw [k3, show (i - 1).toNat = xs.length - 1 by omega]; rfl)
    | skip
--@fn impl.LossesOf
theorem losT (xs : List Int) (h : okFl xs) : FnSem Tryz.prog 42 [Lx (LI xs)] [] (Is [.osl 0 0 (xs.length - 1), In 0] [Rw .flat (eI 0) ((lossN xs (xs.length - 1)).map eI)]) := by
  refine FnSem.walk (zs := zeroPV Tryz.prog) (by kernel_rfl) Tryz.func42 rfl Tryz.results42 (by kernel_rfl) (by kernel_rfl) (by kernel_rfl) fun hw hh => ?_
  obtain ⟨w0, _⟩ := hw
  first | replace w0 := wf_LI w0 | skip
  repeat' first
    | refine And.intro rfl ?_
    | refine GdF.mk (fun h => h) ?_
    | refine And.intro (Nat.succ_ne_zero _) ?_
    | refine And.intro (Nat.le_of_ble_eq_true rfl) ?_
    | refine SeqF.run ?_
    | refine ArgF.is (codeT xs h) ?_
    | refine ArgQ.is (fun hG => codeT xs h) rfl rfl ?_
    | refine ArgF.is (lossT xs h) ?_
    | refine ArgQ.is (fun hG => lossT xs h) rfl rfl ?_
    | refine GhF.go ?_
    | refine MkF.row ?_
    | refine BndF.mk (fun _ => by omega) ?_
    | refine BndF.mk (fun _ => by simp only [List.length_map, List.length_cons, List.length_nil, List.length_append, List.length_set, List.length_replicate, iotaI_len]; omega) ?_
    | refine EqN.mk _ (Nat.zero_add _) ?_
    | refine EqN.mk _ (Int.toNat_natCast _) ?_
    | refine EqN.mk _ rfl ?_
    | refine EqL.mk _ (tk eI (by first | rfl | assumption | omega | (simp only [List.length_map, List.length_cons, List.length_nil, List.length_append, List.length_set, List.length_replicate, iotaI_len]; done) | (simp only [List.length_map, List.length_cons, List.length_nil, List.length_append, List.length_set, List.length_replicate, iotaI_len]; omega))) ?_
    | refine EqL.mk _ (dt eI) ?_
    | refine EqL.mk [] rfl ?_
    | refine EqL.mk [_] rfl ?_
    | refine EqL.mk _ rfl ?_
    | refine ArgF.is (c_impl_ductFlowsCode ..) ?_
    | refine ArgQ.is (fun hG => c_impl_ductFlowsCode ..) rfl rfl ?_
    | refine ArgF.is (c_impl_lossesOf ..) ?_
    | refine ArgQ.is (fun hG => c_impl_lossesOf ..) rfl rfl ?_
    | refine CallF.mk (CallW.is [] true rfl ?_)
    | refine CallG.mk ?_
    | (refine CondF.mk (fun hb => ?_) (fun hb => ?_) <;> try simp only [forall_const, eq_self, not_true_eq_false, not_false_eq_true, or_false, false_or, or_self, or_true, true_or, and_true, true_and, and_false, false_and, decide_true, decide_false, Bool.not_true, Bool.not_false, decide_eq_true_eq, decide_eq_false_iff_not, ite_and_p, ite_or_p, Bool.decide_eq_true, Bool.and_eq_true, Bool.or_eq_true, Bool.not_eq_true', Bool.not_eq_false', Bool.and_eq_false_imp, Bool.or_eq_false_iff, bne_iff_ne, beq_iff_eq, bne_eq_false_iff_eq, beq_eq_false_iff_ne, gt_iff_lt, ge_iff_le, Int.not_lt, Int.not_le, ne_eq, Bool.true_eq_false, Bool.false_eq_true, reduceCtorEq, eta_Airway, eta_Duct, eta_Fan, eta_Mine, eta_Survey] at hb)
    | refine RetF.auto (And.intro rfl ?_)
    | exact Is.mk rfl rfl
    | refine Is.mk ?_ rfl
    | refine Is.mk rfl ?_
    | refine Is.mk ?_ ?_
  all_goals try dsimp only
  all_goals skip
--@fn impl.sumOf
theorem sumLoss (xs : List Int) (h : okFl xs) : FnSem Tryz.prog 113 [Lx (LI (lossN xs (xs.length - 1)))] [] (Is [In (xs.getD 0 0 - xs.getD (xs.length - 1) 0)] []) := by
  have hl := h.ln
  have hn := lossN_l (xs := xs) (n := xs.length - 1)
  refine FnSem.walk (zs := zeroPV Tryz.prog) (by kernel_rfl) Tryz.func113 rfl Tryz.results113 (by kernel_rfl) (by kernel_rfl) (by kernel_rfl) fun hw hh => ?_
  obtain ⟨w0, _⟩ := hw
  first | replace w0 := wf_LI w0 | skip
  repeat' first
    | refine And.intro rfl ?_
    | refine GdF.mk (fun h => h) ?_
    | refine And.intro (Nat.succ_ne_zero _) ?_
    | refine And.intro (Nat.le_of_ble_eq_true rfl) ?_
    | refine SeqF.run ?_
    | refine EqI.mk (xs.getD 0 0 - xs.getD (i + 1).toNat 0) (fun _ => by have q1 := h.pt 0; have q2 := h.pt (i + 1).toNat; rw [lossN_at (by omega), show i.toNat + 1 = (i + 1).toNat by omega, k2, show xs.getD 0 0 - xs.getD i.toNat 0 + (xs.getD i.toNat 0 - xs.getD (i + 1).toNat 0) = xs.getD 0 0 - xs.getD (i + 1).toNat 0 by omega]; exact wrapI (by omega) (by omega)) ?_
    | refine LoopF.at 3 rfl (LoopF.fix [6, 7] (Int × Int) (fun (g, i) => 0 ≤ i ∧ i ≤ xs.length - 1 ∧ g = xs.getD 0 0 - xs.getD i.toNat 0) (fun (g, i) => [(3, In g), (8, In i)]) (fun (g, i) => []) (fun (g, i) => ((xs.length - i).toNat)) ((0, 0)) ?_)
    | (refine LoopB.of (T := Int × Int) ?_ ?_; rotate_left; rintro ⟨g, i⟩ ⟨k0, k1, k2⟩; rotate_left)
    | refine GhF.go ?_
    | refine EqP.mk _ (gm eI 0 rfl) ?_
    | refine BndF.mk (fun _ => by omega) ?_
    | refine BndF.mk (fun _ => by simp only [List.length_map, List.length_cons, List.length_nil, List.length_append, List.length_set, List.length_replicate, iotaI_len]; omega) ?_
    | refine EqI.mk _ (fun _ => wrapI (by omega) (by omega)) ?_
    | refine EqI.mk _ (fun _ => rfl) ?_
    | refine EqN.mk _ (ln eI) ?_
    | refine EqN.mk _ (Nat.zero_add _) ?_
    | refine EqN.mk _ (Int.toNat_natCast _) ?_
    | refine EqN.mk _ rfl ?_
    | (refine CondF.mk (fun hb => ?_) (fun hb => ?_) <;> try simp only [forall_const, eq_self, not_true_eq_false, not_false_eq_true, or_false, false_or, or_self, or_true, true_or, and_true, true_and, and_false, false_and, decide_true, decide_false, Bool.not_true, Bool.not_false, decide_eq_true_eq, decide_eq_false_iff_not, ite_and_p, ite_or_p, Bool.decide_eq_true, Bool.and_eq_true, Bool.or_eq_true, Bool.not_eq_true', Bool.not_eq_false', Bool.and_eq_false_imp, Bool.or_eq_false_iff, bne_iff_ne, beq_iff_eq, bne_eq_false_iff_eq, beq_eq_false_iff_ne, gt_iff_lt, ge_iff_le, Int.not_lt, Int.not_le, ne_eq, Bool.true_eq_false, Bool.false_eq_true, reduceCtorEq, eta_Airway, eta_Duct, eta_Fan, eta_Mine, eta_Survey] at hb)
    | apply BackF.auto2
    | refine BackB.mk ?_ ?_
    | refine RetF.auto (And.intro rfl ?_)
    | exact Is.mk rfl rfl
    | refine Is.mk ?_ rfl
    | refine Is.mk rfl ?_
    | refine Is.mk ?_ ?_
  all_goals try dsimp only
  all_goals first
    | omega
    | exact ⟨by omega, by omega, (Int.sub_self _).symm⟩
    | exact ⟨by omega, by omega, rfl⟩
    | (rw [k2, show i.toNat = xs.length - 1 by omega]; done)
    | skip
--@fn impl.MeanLoss
theorem meanT (xs : List Int) (h : okFl xs) (h2 : 2 ≤ xs.length) : FnSem Tryz.prog 44 [Lx (LI xs)] [] (Is [In (rd (xs.getD 0 0 - xs.getD (xs.length - 1) 0) (xs.length - 1 : Nat)), In 0] []) := by
  have hl := h.ln
  have hn := lossN_l (xs := xs) (n := xs.length - 1)
  have hp := h.pt 0
  have hq := h.pt (xs.length - 1)
  have hle := h.le 0 (xs.length - 1) (by omega)
  rw [Nat.zero_add] at hle
  refine FnSem.walk (zs := zeroPV Tryz.prog) (by kernel_rfl) Tryz.func44 rfl Tryz.results44 (by kernel_rfl) (by kernel_rfl) (by kernel_rfl) fun hw hh => ?_
  obtain ⟨w0, _⟩ := hw
  first | replace w0 := wf_LI w0 | skip
  repeat' first
    | refine And.intro rfl ?_
    | refine GdF.mk (fun h => h) ?_
    | refine And.intro (Nat.succ_ne_zero _) ?_
    | refine And.intro (Nat.le_of_ble_eq_true rfl) ?_
    | refine SeqF.run ?_
    | refine ArgF.is (codeT xs h) ?_
    | refine ArgQ.is (fun hG => codeT xs h) rfl rfl ?_
    | refine ArgF.is (lossT xs h) ?_
    | refine ArgQ.is (fun hG => lossT xs h) rfl rfl ?_
    | refine ArgF.is (sumLoss xs h) ?_
    | refine ArgQ.is (fun hG => sumLoss xs h) rfl rfl ?_
    | refine ArgF.is (c_impl_divRound (xs.getD 0 0 - xs.getD (xs.length - 1) 0) (xs.length - 1 : Nat) (by omega) (by omega) (by omega) (by omega)) ?_
    | refine ArgQ.is (fun hG => c_impl_divRound (xs.getD 0 0 - xs.getD (xs.length - 1) 0) (xs.length - 1 : Nat) (by omega) (by omega) (by omega) (by omega)) rfl rfl ?_
    | refine GhF.go ?_
    | refine BndF.mk (fun _ => by omega) ?_
    | refine BndF.mk (fun _ => by simp only [List.length_map, List.length_cons, List.length_nil, List.length_append, List.length_set, List.length_replicate, iotaI_len]; omega) ?_
    | refine EqN.mk _ (ln eI) ?_
    | refine EqL.mk _ (tk eI (by first | rfl | assumption | omega | (simp only [List.length_map, List.length_cons, List.length_nil, List.length_append, List.length_set, List.length_replicate, iotaI_len]; done) | (simp only [List.length_map, List.length_cons, List.length_nil, List.length_append, List.length_set, List.length_replicate, iotaI_len]; omega))) ?_
    | refine EqL.mk [] rfl ?_
    | refine EqL.mk [_] rfl ?_
    | refine EqL.mk _ rfl ?_
    | refine ArgF.is (c_impl_ductFlowsCode ..) ?_
    | refine ArgQ.is (fun hG => c_impl_ductFlowsCode ..) rfl rfl ?_
    | refine ArgF.is (c_impl_lossesOf ..) ?_
    | refine ArgQ.is (fun hG => c_impl_lossesOf ..) rfl rfl ?_
    | refine ArgF.is (c_impl_sumOf _ (by first | assumption | omega) (by first | assumption | omega)) ?_
    | refine ArgQ.is (fun hG => c_impl_sumOf _ (by first | assumption | omega) (by first | assumption | omega)) rfl rfl ?_
    | refine ArgF.is (c_impl_divRound _ _ (by first | assumption | omega) (by first | assumption | omega) (by first | assumption | omega) (by first | assumption | omega)) ?_
    | refine ArgQ.is (fun hG => c_impl_divRound _ _ (by first | assumption | omega) (by first | assumption | omega) (by first | assumption | omega) (by first | assumption | omega)) rfl rfl ?_
    | refine CallF.mk (CallW.is [] true rfl ?_)
    | refine CallG.mk ?_
    | (refine CondF.mk (fun hb => ?_) (fun hb => ?_) <;> try simp only [forall_const, eq_self, not_true_eq_false, not_false_eq_true, or_false, false_or, or_self, or_true, true_or, and_true, true_and, and_false, false_and, decide_true, decide_false, Bool.not_true, Bool.not_false, decide_eq_true_eq, decide_eq_false_iff_not, ite_and_p, ite_or_p, Bool.decide_eq_true, Bool.and_eq_true, Bool.or_eq_true, Bool.not_eq_true', Bool.not_eq_false', Bool.and_eq_false_imp, Bool.or_eq_false_iff, bne_iff_ne, beq_iff_eq, bne_eq_false_iff_eq, beq_eq_false_iff_ne, gt_iff_lt, ge_iff_le, Int.not_lt, Int.not_le, ne_eq, Bool.true_eq_false, Bool.false_eq_true, reduceCtorEq, eta_Airway, eta_Duct, eta_Fan, eta_Mine, eta_Survey] at hb)
    | refine RetF.auto (And.intro rfl ?_)
    | exact Is.mk rfl rfl
    | refine Is.mk ?_ rfl
    | refine Is.mk rfl ?_
    | refine Is.mk ?_ ?_
  all_goals try dsimp only
  all_goals first
    | (exfalso; omega)
    | skip
/-- with the k-th joint mended -/
def mendL (xs : List Int) (k : Nat) : List Int := (List.range xs.length).map fun j => if k < j then xs.getD j 0 + (xs.getD k 0 - xs.getD (k + 1) 0) else xs.getD j 0
theorem mendL_at {xs : List Int} {k j : Nat} (h : j < xs.length) : (mendL xs k).getD j 0 = if k < j then xs.getD j 0 + (xs.getD k 0 - xs.getD (k + 1) 0) else xs.getD j 0 := by
  simp [mendL, List.getD_eq_getElem?_getD, h]
theorem mendL_l {xs : List Int} {k : Nat} : (mendL xs k).length = xs.length := by simp [mendL]
theorem mendL_lo {xs : List Int} {k j : Nat} (h : j ≤ k) (hk : k < xs.length) : (mendL xs k).getD j 0 = xs.getD j 0 := by
  rw [mendL_at (by omega), if_neg (by omega)]
theorem mend_s {xs ys : List Int} {k : Nat} {i v : Int} (hi : 0 ≤ i ∧ i < xs.length) (hk : (k : Int) < i) (hl : ys.length = xs.length) (h : ∀ j : Nat, ys.getD j 0 = if (j : Int) < i then (mendL xs k).getD j 0 else xs.getD j 0) (hv : v = xs.getD i.toNat 0 + (xs.getD k 0 - xs.getD (k + 1) 0)) : ∀ j : Nat, (ys.set i.toNat v).getD j 0 = if (j : Int) < i + 1 then (mendL xs k).getD j 0 else xs.getD j 0 := by
  intro j
  rw [getD_set]
  by_cases e : j = i.toNat
  · subst e
    rw [if_pos ⟨rfl, by omega⟩, if_pos (by omega), mendL_at (by omega), if_pos (by omega), hv]
  · rw [if_neg (fun c => e c.1.symm), h j]
    by_cases e2 : (j : Int) < i
    · rw [if_pos e2, if_pos (by omega)]
    · rw [if_neg e2, if_neg (by omega)]
theorem mend_e {xs ys : List Int} {k : Nat} {i : Int} (hi : xs.length ≤ i) (hl : ys.length = xs.length) (h : ∀ j : Nat, ys.getD j 0 = if (j : Int) < i then (mendL xs k).getD j 0 else xs.getD j 0) : ys = mendL xs k :=
  ext_getD 0 (by rw [hl, mendL_l]) fun j hj => by rw [h j, if_pos (by omega)]
--@fn impl.MendJoint
theorem mendT (xs : List Int) (k : Int) (h : okFl xs) (hk : 0 ≤ k ∧ k + 1 < xs.length) : FnSem Tryz.prog 43 [Lx (LI xs), In k] [] (Is [.osl 0 0 xs.length, In 0] [Rw .flat (eI 0) ((mendL xs k.toNat).map eI)]) := by
  have hl := h.ln
  have hn := lossN_l (xs := xs) (n := xs.length - 1)
  have hL := lossN_at (xs := xs) (n := xs.length - 1) (k := k.toNat) (by omega)
  have hiv := c_impl_indexValid_int64 (lossN xs (xs.length - 1)) k
  rw [inR_iff.2 (show 0 ≤ k ∧ k ≤ ((lossN xs (xs.length - 1)).length : Int) - 1 by omega)] at hiv
  refine FnSem.walk (zs := zeroPV Tryz.prog) (by kernel_rfl) Tryz.func43 rfl Tryz.results43 (by kernel_rfl) (by kernel_rfl) (by kernel_rfl) fun hw hh => ?_
  obtain ⟨w0, w1, _⟩ := hw
  first | replace w0 := wf_LI w0 | skip
  first | replace w1 := wf_I w1 | skip
  repeat' first
    | refine And.intro rfl ?_
    | refine GdF.mk (fun h => h) ?_
    | refine And.intro (Nat.succ_ne_zero _) ?_
    | refine And.intro (Nat.le_of_ble_eq_true rfl) ?_
    | refine SeqF.run ?_
    | refine ArgF.is (codeT xs h) ?_
    | refine ArgQ.is (fun hG => codeT xs h) rfl rfl ?_
    | refine ArgF.is (lossT xs h) ?_
    | refine ArgQ.is (fun hG => lossT xs h) rfl rfl ?_
    | refine ArgF.is (hiv) ?_
    | refine ArgQ.is (fun hG => hiv) rfl rfl ?_
    | refine ArgF.is (c_slices_Clone_int64_int64 xs (by omega)) ?_
    | refine ArgQ.is (fun hG => c_slices_Clone_int64_int64 xs (by omega)) rfl rfl ?_
    | refine LoopF.at 9 rfl (LoopF.fix [1, 7, 8] (Int × List Int) (fun (i, ys) => k + 1 ≤ i ∧ i ≤ xs.length ∧ ys.length = xs.length ∧ (∀ j : Nat, ys.getD j 0 = if (j : Int) < i then (mendL xs k.toNat).getD j 0 else xs.getD j 0)) (fun (i, ys) => [(9, In i)]) (fun (i, ys) => [(1, Rw .flat (eI 0) (ys.map eI))]) (fun (i, ys) => ((xs.length - i).toNat)) ((k + 1, xs)) ?_)
    | (refine LoopB.of (T := Int × List Int) ?_ ?_; rotate_left; rintro ⟨i, ys⟩ ⟨k0, k1, k2, k3⟩; rotate_left)
    | refine GhF.go ?_
    | refine DrawG.old (DrawF.lex (by decide +kernel) ?_)
    | refine MkF.row ?_
    | refine EqP.mk _ (gm eI 0 rfl) ?_
    | refine BndF.mk (fun _ => by omega) ?_
    | refine BndF.mk (fun _ => by simp only [List.length_map, List.length_cons, List.length_nil, List.length_append, List.length_set, List.length_replicate, iotaI_len]; omega) ?_
    | refine EqI.mk _ (fun _ => wrapI (by omega) (by omega)) ?_
    | refine EqI.mk _ (fun _ => rfl) ?_
    | refine EqN.mk _ (ln eI) ?_
    | refine EqN.mk _ (Nat.zero_add _) ?_
    | refine EqN.mk _ (Int.toNat_natCast _) ?_
    | refine EqN.mk _ rfl ?_
    | refine EqL.mk _ (tk eI (by first | rfl | assumption | omega | (simp only [List.length_map, List.length_cons, List.length_nil, List.length_append, List.length_set, List.length_replicate, iotaI_len]; done) | (simp only [List.length_map, List.length_cons, List.length_nil, List.length_append, List.length_set, List.length_replicate, iotaI_len]; omega))) ?_
    | refine EqL.mk _ (st eI) ?_
    | refine EqL.mk _ (dt eI) ?_
    | refine EqL.mk [] rfl ?_
    | refine EqL.mk [_] rfl ?_
    | refine EqL.mk _ rfl ?_
    | refine ArgF.is (c_impl_ductFlowsCode ..) ?_
    | refine ArgQ.is (fun hG => c_impl_ductFlowsCode ..) rfl rfl ?_
    | refine ArgF.is (c_impl_lossesOf ..) ?_
    | refine ArgQ.is (fun hG => c_impl_lossesOf ..) rfl rfl ?_
    | refine ArgF.is (c_impl_indexValid_int64 ..) ?_
    | refine ArgQ.is (fun hG => c_impl_indexValid_int64 ..) rfl rfl ?_
    | refine ArgF.is (c_slices_Clone_int64_int64 _ (by first | assumption | omega)) ?_
    | refine ArgQ.is (fun hG => c_slices_Clone_int64_int64 _ (by first | assumption | omega)) rfl rfl ?_
    | refine CallF.mk (CallW.is [] true rfl ?_)
    | refine CallG.mk ?_
    | (refine CondF.mk (fun hb => ?_) (fun hb => ?_) <;> try simp only [forall_const, eq_self, not_true_eq_false, not_false_eq_true, or_false, false_or, or_self, or_true, true_or, and_true, true_and, and_false, false_and, decide_true, decide_false, Bool.not_true, Bool.not_false, decide_eq_true_eq, decide_eq_false_iff_not, ite_and_p, ite_or_p, Bool.decide_eq_true, Bool.and_eq_true, Bool.or_eq_true, Bool.not_eq_true', Bool.not_eq_false', Bool.and_eq_false_imp, Bool.or_eq_false_iff, bne_iff_ne, beq_iff_eq, bne_eq_false_iff_eq, beq_eq_false_iff_ne, gt_iff_lt, ge_iff_le, Int.not_lt, Int.not_le, ne_eq, Bool.true_eq_false, Bool.false_eq_true, reduceCtorEq, eta_Airway, eta_Duct, eta_Fan, eta_Mine, eta_Survey] at hb)
    | apply BackF.auto2
    | refine BackB.mk ?_ ?_
    | refine RetF.auto (And.intro rfl ?_)
    | exact Is.mk rfl rfl
    | refine Is.mk ?_ rfl
    | refine Is.mk rfl ?_
    | refine Is.mk ?_ ?_
  all_goals try dsimp only
  all_goals first
    | omega
    | (exfalso; omega)
    | (refine ⟨by omega, by omega, rfl, fun j => ?_⟩
       split
       · rw [mendL_lo (by omega) (by omega)]
       · rfl)
    | (have q1 := k3 i.toNat
       rw [if_neg (by omega)] at q1
       have q2 := h.pt i.toNat
       have q3 := h.pt k.toNat
       have q4 := h.pt (k.toNat + 1)
       rw [hL, q1, wrapI (n := xs.getD i.toNat 0 + (xs.getD k.toNat 0 - xs.getD (k.toNat + 1) 0)) (by omega) (by omega)]
       exact ⟨by omega, by omega, by rw [List.length_set]; exact k2, mend_s ⟨by omega, hb⟩ (by omega) k2 k3 rfl⟩)
    | (rw [mend_e (by omega) k2 k3]; rfl)
    | skip
end Go.Proofs.YtmifcbekaniiiaaGreatDoor
