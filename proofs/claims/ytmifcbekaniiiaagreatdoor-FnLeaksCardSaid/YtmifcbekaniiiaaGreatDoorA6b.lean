/- Contracts of functions of the program, and what they compute. Conditions: those that each theorem states. -/
import Derived.Test.YtmifcbekaniiiaaGreatDoorProg
import Derived.Test.YtmifcbekaniiiaaGreatDoorA6
import Derived.Test.YtmifcbekaniiiaaGreatDoorA5
import Derived.Test.YtmifcbekaniiiaaGreatDoorA5b
import Derived.Test.YtmifcbekaniiiaaGreatDoorA5c
set_option linter.unusedVariables false
set_option linter.unusedSimpArgs false
namespace Go.Proofs.YtmifcbekaniiiaaGreatDoor
open Go.Av
attribute [local irreducible] Go.IntKind.wrap listS decS idS isName setN leastI rd rdZ endI joI needI ductS lossN mendL r8W r8A
set_option maxRecDepth 20000
set_option maxHeartbeats 8000000

/-! Leaks: plain facts for the law. -/
--@fn laws.r8Abs
theorem rabL (n : Int) (h : -1000000000000000 ≤ n ∧ n ≤ 1000000000000000) : FnSem Tryz.prog 45 [In n] [] (Is [In (absI n)] []) := by
  refine FnSem.walk (zs := zeroPV Tryz.prog) (by kernel_rfl) Tryz.func45 rfl Tryz.results45 (by kernel_rfl) (by kernel_rfl) (by kernel_rfl) fun hw hh => ?_
  obtain ⟨w0, _⟩ := hw
  first | replace w0 := wf_I w0 | skip
  repeat' first
    | refine And.intro rfl ?_
    | refine GdF.mk (fun h => h) ?_
    | refine And.intro (Nat.succ_ne_zero _) ?_
    | refine And.intro (Nat.le_of_ble_eq_true rfl) ?_
    | refine SeqF.run ?_
    | refine GhF.go ?_
    | refine EqI.mk _ (fun _ => wrapI (by omega) (by omega)) ?_
    | refine EqI.mk _ (fun _ => rfl) ?_
    | (refine CondF.mk (fun hb => ?_) (fun hb => ?_) <;> try simp only [forall_const, eq_self, not_true_eq_false, not_false_eq_true, or_false, false_or, or_self, or_true, true_or, and_true, true_and, and_false, false_and, decide_true, decide_false, Bool.not_true, Bool.not_false, decide_eq_true_eq, decide_eq_false_iff_not, ite_and_p, ite_or_p, Bool.decide_eq_true, Bool.and_eq_true, Bool.or_eq_true, Bool.not_eq_true', Bool.not_eq_false', Bool.and_eq_false_imp, Bool.or_eq_false_iff, bne_iff_ne, beq_iff_eq, bne_eq_false_iff_eq, beq_eq_false_iff_ne, gt_iff_lt, ge_iff_le, Int.not_lt, Int.not_le, ne_eq, Bool.true_eq_false, Bool.false_eq_true, reduceCtorEq, eta_Airway, eta_Duct, eta_Fan, eta_Mine, eta_Survey] at hb)
    | refine RetF.auto (And.intro rfl ?_)
    | exact Is.mk rfl rfl
    | refine Is.mk ?_ rfl
    | refine Is.mk rfl ?_
    | refine Is.mk ?_ ?_
  all_goals try dsimp only
  all_goals try simp only [Bo, I, OB.row.injEq, AV.osl.injEq, eI_same,  List.cons.injEq, AV.p.injEq, PV.c.injEq, Value.int.injEq, Value.bool.injEq, and_true, true_and, ite_and_p, ite_or_p, Bool.decide_eq_true, eta_Airway, eta_Duct, eta_Fan, eta_Mine, eta_Survey, absI]
theorem okFl_1 {q : Int} (h : 0 ≤ q ∧ q ≤ 100000) : okFl [q] := by
  refine ⟨⟨Nat.le_refl 1, Nat.le_of_ble_eq_true rfl⟩, fun k => ?_, fun k hk => absurd hk (by simp)⟩
  cases k with
  | zero => exact h
  | succ k => simp
theorem okFl_s {xs : List Int} {d : Int} (h : okFl xs) (hl : xs.length < 64) (hd : 0 ≤ d) : okFl (xs ++ [max 0 (xs.getD (xs.length - 1) 0 - d)]) := by
  have h0 := h.ln
  have hp := h.pt
  refine ⟨by simp; omega, fun k => ?_, fun k hk => ?_⟩
  · rw [getD_snoc]
    split
    · have := hp (xs.length - 1); omega
    · exact hp k
  · rw [getD_snoc, getD_snoc]
    simp only [List.length_append, List.length_cons, List.length_nil] at hk
    by_cases e : k + 1 = xs.length
    · rw [if_pos e, if_neg (by omega), show xs.length - 1 = k by omega]
      have := hp k; omega
    · rw [if_neg e, if_neg (by omega)]
      exact h.so k (by omega)
theorem mean_near {a : Int} (h : 0 ≤ a ∧ a ≤ 100000) : (-2 ≤ 5 * rd a 5 - a ∧ 5 * rd a 5 - a ≤ 2) ∧ 0 ≤ rd a 5 ∧ rd a 5 ≤ 100000 := by
  unfold rd
  split <;> omega
def endL (x : GDuct) (q : Int) : Int × Int := if q < 0 then (0, 2) else (endI x q, 0)
--@fn impl.FlowAtEnd
theorem endAny (x : GDuct) (q : Int) (h : okDuct x = true) (hq : -1 ≤ q ∧ q ≤ 100000) : FnSem Tryz.prog 33 [.p .any (.agg x.cells), In q] [] (Is [In (endL x q).1, In (endL x q).2] []) := by
  unfold endL
  split
  · exact endLow x q h (by assumption)
  · exact endT x q h (by omega)
theorem endL_law {x : GDuct} {n : Int} (h : 0 < n) : (endL x (n - 1)).2 = 0 ∧ (endL x (n - 1)).1 = endI x (n - 1) := by
  unfold endL
  rw [if_neg (by omega)]
  exact ⟨rfl, rfl⟩
theorem list_s {xs : List Int} {k d : Int} {n : Nat} (h : okFl xs) (hk : 0 ≤ k ∧ k < 5) (hn : n = xs.length ∧ (n : Int) = k + 1) (hd : 0 ≤ d ∧ d ≤ 199) (q : Int) (h0 : xs.getD 0 0 = q) : (n + 1 = (xs ++ [max 0 (IntKind.i64.wrap (xs.getD k.toNat 0 - d))]).length ∧ ((n + 1 : Nat) : Int) = k + 1 + 1) ∧ okFl (xs ++ [max 0 (IntKind.i64.wrap (xs.getD k.toNat 0 - d))]) ∧ (xs ++ [max 0 (IntKind.i64.wrap (xs.getD k.toNat 0 - d))]).getD 0 0 = q := by
  have hp := h.pt k.toNat
  rw [wrapI (n := xs.getD k.toNat 0 - d) (by omega) (by omega)]
  have e := okFl_s (d := d) h (by omega) hd.1
  rw [show xs.length - 1 = k.toNat by omega] at e
  refine ⟨⟨by rw [List.length_append, List.length_singleton]; omega, by omega⟩, e, ?_⟩
  rw [getD_snoc, if_neg (by omega)]; exact h0
theorem mean_c {xs : List Int} {g m : Int} (h : okFl xs) (hl : xs.length = 6) (hm : 5 ≤ m ∧ m ≤ 5) (hg : g = xs.getD 0 0 - xs.getD m.toNat 0) : (0 ≤ rd (xs.getD 0 0 - xs.getD (xs.length - 1) 0) (xs.length - 1 : Nat) ∧ rd (xs.getD 0 0 - xs.getD (xs.length - 1) 0) (xs.length - 1 : Nat) ≤ 100000) ∧ (-2 ≤ 5 * rd (xs.getD 0 0 - xs.getD (xs.length - 1) 0) (xs.length - 1 : Nat) - g ∧ 5 * rd (xs.getD 0 0 - xs.getD (xs.length - 1) 0) (xs.length - 1 : Nat) - g ≤ 2) ∧ g = xs.getD 0 0 - xs.getD 5 0 := by
  have h5 := h.pt 5
  have h0 := h.pt 0
  have h6 := h.le 0 5 (by omega)
  rw [Nat.zero_add] at h6
  have e : m.toNat = 5 := by omega
  rw [e] at hg
  rw [hl]
  have hmn := mean_near (a := xs.getD 0 0 - xs.getD 5 0) (by omega)
  show (0 ≤ rd (xs.getD 0 0 - xs.getD 5 0) 5 ∧ _) ∧ (-2 ≤ 5 * rd (xs.getD 0 0 - xs.getD 5 0) 5 - g ∧ _) ∧ _
  exact ⟨hmn.2, by rw [hg]; exact hmn.1, hg⟩
theorem mend_in {xs : List Int} {q : Int} {k : Nat} (h : okFl xs) (hl : xs.length = 6) (hq : xs.getD 0 0 = q) (hk : k < 5) : (mendL xs k).length = 6 ∧ (mendL xs k).getD 0 0 = q ∧ xs.getD 5 0 ≤ (mendL xs k).getD 5 0 ∧ (mendL xs k).getD 5 0 ≤ q := by
  have h7 := h.so k (by omega)
  have h8 := h.le 0 k (by omega)
  have h9 := h.le (k + 1) (5 - (k + 1)) (by omega)
  rw [show k + 1 + (5 - (k + 1)) = 5 by omega] at h9
  rw [Nat.zero_add] at h8
  rw [mendL_l, mendL_at (j := 0) (by omega), mendL_at (j := 5) (by omega), if_neg (by omega), if_pos (by omega)]
  exact ⟨hl, hq, by omega, by omega⟩
theorem leak_facts {xs : List Int} {q e t g m : Int} {k : Nat} (h : okFl xs) (hl : xs.length = 6) (hq : xs.getD 0 0 = q) (hk : k < 5) (he : e ≤ t) (hm : 5 ≤ m ∧ m ≤ 5) (hg : g = xs.getD 0 0 - xs.getD m.toNat 0) :
    decide (t ≥ e) = true ∧ (((xs.length - 1 : Nat) : Int) == 5) = true ∧ (g == IntKind.i64.wrap (xs.getD (Int.toNat 0) 0 - xs.getD (Int.toNat 5) 0)) = true ∧ ((xs.length : Int) == 6) = true ∧ ((mendL xs k).getD (Int.toNat 0) 0 == q) = true ∧ decide ((mendL xs k).getD (Int.toNat 5) 0 ≥ xs.getD (Int.toNat 5) 0) = true ∧ decide ((mendL xs k).getD (Int.toNat 5) 0 ≤ q) = true ∧ decide (absI (5 * rd (xs.getD 0 0 - xs.getD (xs.length - 1) 0) (xs.length - 1 : Nat) - g) ≤ 3) = true := by
  have hc := mean_c h hl hm hg
  have hi := mend_in h hl hq hk
  have h0 := h.pt 0
  have h5 := h.pt 5
  refine ⟨decide_eq_true he, by rw [hl]; rfl, ?_, by rw [hl]; rfl, beq_iff_eq.2 hi.2.1, decide_eq_true hi.2.2.1, decide_eq_true hi.2.2.2, decide_eq_true (by unfold absI; omega)⟩
  show (g == IntKind.i64.wrap (xs.getD 0 0 - xs.getD 5 0)) = true
  rw [wrapI (n := xs.getD 0 0 - xs.getD 5 0) (by omega) (by omega), hc.2.2]
  exact beq_self_eq_true _
end Go.Proofs.YtmifcbekaniiiaaGreatDoor
