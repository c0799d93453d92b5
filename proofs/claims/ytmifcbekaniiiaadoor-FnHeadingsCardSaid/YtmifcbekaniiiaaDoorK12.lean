/- Contracts of functions of the program, and what they compute. Conditions: those that each theorem states. -/
import Derived.Test.YtmifcbekaniiiaaDoorProg
import Derived.Test.YtmifcbekaniiiaaDoorK9
set_option linter.unusedVariables false
set_option linter.unusedSimpArgs false
namespace Go.Proofs.YtmifcbekaniiiaaDoor
open Go.Av
attribute [local irreducible] Go.IntKind.wrap
set_option maxRecDepth 20000
set_option maxHeartbeats 2000000

/-- the most gas with at most a share -/
def mostG (x : GHeading) (share : Int) : Int := min (x.volume * 1000000) ((share + 1) * x.volume - 1)
theorem mostB {x : GHeading} {share : Int} (hv : okHeading x = true) (hs : 0 ≤ share ∧ share ≤ 1000000) : 0 ≤ mostG x share ∧ mostG x share ≤ x.volume * 1000000 := by
  have hb := okHeading_b hv
  have h1 := mulB (a := share + 1) (b := x.volume) (A := 1000001) (B := 100000) (by omega) (by omega) (by omega) (by omega)
  have h2 : 1 * x.volume ≤ (share + 1) * x.volume := Int.mul_le_mul_of_nonneg_right (by omega) (by omega)
  unfold mostG; omega
theorem c_impl_Heading_gasFor (x : GHeading) (share : Int) (hv : okHeading x = true) (hs : 0 ≤ share ∧ share ≤ 1000000) : FnSem Tryd.prog 55 [.p .any (.agg x.cells), In share] [] (Is [In (mostG x share)] []) := by
  have hb := okHeading_b hv
  have h1 := mulB (a := share + 1) (b := x.volume) (A := 1000001) (B := 100000) (by omega) (by omega) (by omega) (by omega)
  have h2 : 1 * x.volume ≤ (share + 1) * x.volume := Int.mul_le_mul_of_nonneg_right (by omega) (by omega)
  refine FnSem.walk (zs := zeroPV Tryd.prog) (by kernel_rfl) Tryd.func55 rfl Tryd.results55 (by kernel_rfl) (by kernel_rfl) (by kernel_rfl) fun hw hh => ?_
  obtain ⟨w0, w1, _⟩ := hw
  first | replace w0 := wf_Heading w0 | skip
  first | replace w1 := wf_I w1 | skip
  repeat' first
    | refine And.intro rfl ?_
    | refine GdF.mk (fun h => h) ?_
    | refine And.intro (Nat.succ_ne_zero _) ?_
    | refine And.intro (Nat.le_of_ble_eq_true rfl) ?_
    | refine SeqF.run ?_
    | refine GhF.go ?_
    | refine EqI.mk _ (fun _ => wrapI (by omega) (by omega)) ?_
    | refine EqI.mk _ (fun _ => rfl) ?_
    | (refine CondF.mk (fun hb => ?_) (fun hb => ?_) <;> try simp only [forall_const, eq_self, not_true_eq_false, not_false_eq_true, or_false, false_or, or_self, or_true, true_or, and_true, true_and, and_false, false_and, decide_true, decide_false, Bool.not_true, Bool.not_false, decide_eq_true_eq, decide_eq_false_iff_not, ite_and_p, ite_or_p, Bool.decide_eq_true, Bool.and_eq_true, Bool.or_eq_true, Bool.not_eq_true', Bool.not_eq_false', Bool.and_eq_false_imp, Bool.or_eq_false_iff, bne_iff_ne, beq_iff_eq, bne_eq_false_iff_eq, beq_eq_false_iff_ne, gt_iff_lt, ge_iff_le, Int.not_lt, Int.not_le, ne_eq, Bool.true_eq_false, Bool.false_eq_true, reduceCtorEq, eta_Air, eta_Heading] at hb)
    | refine RetF.auto (And.intro rfl ?_)
    | exact Is.mk rfl rfl
    | refine Is.mk ?_ rfl
    | refine Is.mk rfl ?_
    | refine Is.mk ?_ ?_
/-- after how many seconds there is at most some gas; -1: not in time -/
def clearI (x : GHeading) (gas flow most secs : Int) : Int := match (List.range (secs.toNat + 1)).find? fun k => decide (gasN x gas flow k ≤ most) with
  | some k => (k : Int)
  | none => -1
theorem clear_at {x : GHeading} {gas flow most secs i : Int} (h0 : 0 ≤ i) (h1 : i ≤ secs) (h2 : gasN x gas flow i.toNat ≤ most) (h3 : ∀ j : Nat, (j : Int) < i → most < gasN x gas flow j) : clearI x gas flow most secs = i := by
  have e : (List.range (secs.toNat + 1)).find? (fun k => decide (gasN x gas flow k ≤ most)) = some i.toNat := by
    rw [List.find?_range_eq_some]
    refine ⟨by simpa using h2, by simp; omega, fun j hj => ?_⟩
    have := h3 j (by omega)
    simp; omega
  unfold clearI; rw [e]; simp; omega
theorem clear_no {x : GHeading} {gas flow most secs : Int} (h0 : 0 ≤ secs) (h3 : ∀ j : Nat, (j : Int) < secs + 1 → most < gasN x gas flow j) : clearI x gas flow most secs = -1 := by
  have e : (List.range (secs.toNat + 1)).find? (fun k => decide (gasN x gas flow k ≤ most)) = none := by
    rw [List.find?_range_eq_none]
    intro j hj
    have := h3 j (by omega)
    simp; omega
  unfold clearI; rw [e]
attribute [local irreducible] clearI gasN mostG stepG
def clearTime (x : GHeading) (gas flow share : Int) : Int × Int := if askG x gas flow share = 0 then (if clearI x gas flow (mostG x share) 36000 < 0 then (0, 3) else (clearI x gas flow (mostG x share) 36000, 0)) else (0, askG x gas flow share)
theorem ask_split (x : GHeading) (gas flow share : Int) : askG x gas flow share = if askG x gas flow 0 = 0 then (if inR share 0 1000000 = true then 0 else 2) else askG x gas flow 0 := by
  have h : inR 0 0 1000000 = true := by decide
  unfold askG; rw [h]; grind
end Go.Proofs.YtmifcbekaniiiaaDoor
