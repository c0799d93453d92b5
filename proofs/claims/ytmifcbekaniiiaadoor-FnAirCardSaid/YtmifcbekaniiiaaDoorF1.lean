/- Contracts of functions of the program, and what they compute. Conditions: those that each theorem states. -/
import Derived.Test.YtmifcbekaniiiaaDoorProg
import Derived.Test.YtmifcbekaniiiaaDoorK4
import Derived.Test.YtmifcbekaniiiaaDoorL1
set_option linter.unusedVariables false
set_option linter.unusedSimpArgs false
namespace Go.Proofs.YtmifcbekaniiiaaDoor
open Go.Av
attribute [local irreducible] Go.IntKind.wrap
set_option maxRecDepth 20000
set_option maxHeartbeats 4000000

/-- a draw that hands back blocks of its own, too -/
inductive SrcX {α : Type} (f : α → List AV) (g : α → List OB) (φ : α → Prop) (c : List Int) (k p : Int) (rs : List AV) (ho : List OB) : Prop
  | mk (v : α) (p' s' : Int) (h1 : rs = f v) (h2 : ho = srcO c p' s' :: g v) (h3 : φ v) (h4 : p ≤ p' ∧ p' ≤ p + k)
theorem ArgF.srx {α : Type} {f : α → List AV} {g : α → List OB} {φ : α → Prop} {c : List Int} {k p : Int} {n : Nat} {P : Program} [Kn P] {fn : FuncId} {args : List AV} {hin : List OB} {K : List AV → List OB → Prop} (h : FnSem P fn args hin (SrcX f g φ c k p)) (hk : ∀ v p' s', φ v → p ≤ p' ∧ p' ≤ p + k → K (f v) (srcO c p' s' :: g v)) : ArgF n P fn args hin K :=
  ⟨_, h, fun rs ho hR _ => by obtain ⟨v, p', s', rfl, rfl, h3, h4⟩ := hR; exact hk v p' s' h3 h4⟩
def absI (n : Int) : Int := max n (0 - n)
theorem c_laws_b10Abs (n : Int) (h : -1000000000000000 ≤ n ∧ n ≤ 1000000000000000) : FnSem Tryd.prog 36 [In n] [] (Is [In (absI n)] []) := by
  refine FnSem.walk (zs := zeroPV Tryd.prog) (by kernel_rfl) Tryd.func36 rfl Tryd.results36 (by kernel_rfl) (by kernel_rfl) (by kernel_rfl) fun hw hh => ?_
  obtain ⟨w0, _⟩ := hw
  first | replace w0 := wf_I w0 | skip
  repeat' first
    | refine And.intro rfl ?_
    | refine GdF.mk (fun h => h) ?_
    | refine And.intro (Nat.succ_ne_zero _) ?_
    | refine And.intro (Nat.le_of_ble_eq_true rfl) ?_
    | refine SeqF.run ?_
    | refine GhF.go ?_
    | refine EqI.mk _ (fun _ => wrapI (by omega) (by omega)) ?_
    | refine EqI.mk _ (fun _ => rfl) ?_
    | (refine CondF.mk (fun hb => ?_) (fun hb => ?_) <;> try simp only [forall_const, eq_self, not_true_eq_false, not_false_eq_true, or_false, false_or, or_self, or_true, true_or, and_true, true_and, and_false, false_and, decide_true, decide_false, Bool.not_true, Bool.not_false, decide_eq_true_eq, decide_eq_false_iff_not, ite_and_p, ite_or_p, Bool.decide_eq_true, Bool.and_eq_true, Bool.or_eq_true, Bool.not_eq_true', Bool.not_eq_false', Bool.and_eq_false_imp, Bool.or_eq_false_iff, bne_iff_ne, beq_iff_eq, bne_eq_false_iff_eq, beq_eq_false_iff_ne, gt_iff_lt, ge_iff_le, Int.not_lt, Int.not_le, ne_eq, Bool.true_eq_false, Bool.false_eq_true, reduceCtorEq, eta_Air, eta_Heading] at hb)
    | refine RetF.auto (And.intro rfl ?_)
    | exact Is.mk rfl rfl
    | refine Is.mk ?_ rfl
    | refine Is.mk rfl ?_
    | refine Is.mk ?_ ?_
  all_goals try dsimp only
  all_goals try simp only [Bo, I, OB.row.injEq, AV.osl.injEq, eI_same,  List.cons.injEq, AV.p.injEq, PV.c.injEq, Value.int.injEq, Value.bool.injEq, and_true, true_and, ite_and_p, ite_or_p, Bool.decide_eq_true, eta_Air, eta_Heading, absI]
  all_goals try (first | omega | (set_option maxHeartbeats 60000 in grind))
def rises (xs : List Int) (n : Int) : Bool := (List.range xs.length).all fun j => decide (0 ≤ xs.getD j 0 ∧ xs.getD j 0 < n ∧ (j = 0 ∨ xs.getD (j - 1) 0 < xs.getD j 0))
end Go.Proofs.YtmifcbekaniiiaaDoor
