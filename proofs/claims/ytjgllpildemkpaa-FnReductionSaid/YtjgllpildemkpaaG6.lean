/- Contracts of functions of the program, and what they compute. Conditions: those that each theorem states. -/
import Derived.Test.YtjgllpildemkpaaProg
import Derived.Test.YtjgllpildemkpaaG5
set_option linter.unusedVariables false
set_option linter.unusedSimpArgs false
namespace Go.Proofs.Ytjgllpildemkpaa
open Go.Av
attribute [local irreducible] Go.IntKind.wrap leastI rdZ rd rootI condI sumT
set_option maxRecDepth 20000
set_option maxHeartbeats 4000000

/-- the sum of conductances; the resistance of airways side by side -/
def condS (xs : List Int) (i : Int) : Int := (sumT (fun x => (condI x).toNat) xs i : Int)
def parI (xs : List Int) : Int := max (rd 10000000000000000 (condS xs xs.length * condS xs xs.length)) 1
theorem condS_s {xs : List Int} {i : Int} (h0 : 0 ≤ i) (h : i < xs.length) (hx : ∀ j : Nat, (j : Int) < xs.length → 1 ≤ xs.getD j 0 ∧ xs.getD j 0 ≤ 1000000) : condS xs (i + 1) = condS xs i + condI (xs.getD i.toNat 0) := by
  have := condI_b (hx i.toNat (by omega))
  unfold condS
  rw [sumT_s h0 h 0]
  omega
theorem c_impl_parallel (xs : List Int) (hx : ∀ j : Nat, (j : Int) < xs.length → 1 ≤ xs.getD j 0 ∧ xs.getD j 0 ≤ 1000000) (hl : 1 ≤ xs.length ∧ xs.length ≤ 24) : FnSem Try.prog 116 [Lx (LI xs)] [] (Is [In (parI xs)] []) := by
  refine FnSem.walk (zs := zeroPV Try.prog) (by kernel_rfl) Try.func116 rfl Try.results116 (by kernel_rfl) (by kernel_rfl) (by kernel_rfl) fun hw hh => ?_
  obtain ⟨w0, _⟩ := hw
  first | replace w0 := wf_LI w0 | skip
  repeat' first
    | refine And.intro rfl ?_
    | refine GdF.mk (fun h => h) ?_
    | refine And.intro (Nat.succ_ne_zero _) ?_
    | refine And.intro (Nat.le_of_ble_eq_true rfl) ?_
    | refine SeqF.run ?_
    | refine ArgF.is (c_impl_conductance (xs.getD i.toNat 0) (hx _ (by omega))) ?_
    | refine ArgQ.is (fun hG => c_impl_conductance (xs.getD i.toNat 0) (hx _ (by omega))) rfl rfl ?_
    | refine EqI.mk _ (fun _ => wrapI (by have := sq_le (a := 0) (b := s) (by omega) (by omega); omega) (by have := sq_le (a := s) (b := 2400000000) (by omega) (by omega); omega)) ?_
    | refine ArgF.is (divRound_big 10000000000000000 (s * s) (by omega) (by omega) (by have := sq_le (a := 1) (b := s) (by omega) (by omega); omega) (by have := sq_le (a := s) (b := 2400000000) (by omega) (by omega); omega)) ?_
    | refine ArgQ.is (fun hG => divRound_big 10000000000000000 (s * s) (by omega) (by omega) (by have := sq_le (a := 1) (b := s) (by omega) (by omega); omega) (by have := sq_le (a := s) (b := 2400000000) (by omega) (by omega); omega)) rfl rfl ?_
    | refine EqI.mk _ (fun _ => by have := condI_b (hx i.toNat (by omega)); exact wrapI (by omega) (by omega)) ?_
    | refine LoopF.at 3 rfl (LoopF.fix [6, 7] (Int × Int) (fun (i, s) => 0 ≤ i ∧ i ≤ xs.length ∧ s = condS xs i ∧ i ≤ s ∧ s ≤ 100000000 * i) (fun (i, s) => [(8, In i), (3, In s)]) (fun (i, s) => []) (fun (i, s) => ((xs.length - i).toNat)) ((0, 0)) ?_)
    | (refine LoopB.of (T := Int × Int) ?_ ?_; rotate_left; rintro ⟨i, s⟩ ⟨h0, h1, h2, h3, h4⟩; rotate_left)
    | refine GhF.go ?_
    | refine EqP.mk _ (gm eI 0 rfl) ?_
    | refine BndF.mk (fun _ => by omega) ?_
    | refine BndF.mk (fun _ => by simp only [List.length_map, List.length_cons, List.length_nil, List.length_append, List.length_set, List.length_replicate, iotaI_len]; omega) ?_
    | refine EqI.mk _ (fun _ => wrapI (by omega) (by omega)) ?_
    | refine EqI.mk _ (fun _ => rfl) ?_
    | refine EqN.mk _ (ln eI) ?_
    | refine EqN.mk _ (Nat.zero_add _) ?_
    | refine EqN.mk _ (Int.toNat_natCast _) ?_
    | refine EqN.mk _ rfl ?_
    | refine EqL.mk _ (tk eI (by first | rfl | assumption | omega | (simp only [List.length_map, List.length_cons, List.length_nil, List.length_append, List.length_set, List.length_replicate, iotaI_len]; done) | (simp only [List.length_map, List.length_cons, List.length_nil, List.length_append, List.length_set, List.length_replicate, iotaI_len]; omega))) ?_
    | refine EqL.mk [] rfl ?_
    | refine EqL.mk [_] rfl ?_
    | refine EqL.mk _ rfl ?_
    | refine ArgF.is (c_impl_conductance _ (by first | assumption | omega)) ?_
    | refine ArgQ.is (fun hG => c_impl_conductance _ (by first | assumption | omega)) rfl rfl ?_
    | refine ArgF.is (c_impl_divRound _ _ (by first | assumption | omega) (by first | assumption | omega) (by first | assumption | omega) (by first | assumption | omega)) ?_
    | refine ArgQ.is (fun hG => c_impl_divRound _ _ (by first | assumption | omega) (by first | assumption | omega) (by first | assumption | omega) (by first | assumption | omega)) rfl rfl ?_
    | refine CallF.mk (CallW.is [] true rfl ?_)
    | refine CallG.mk ?_
    | (refine CondF.mk (fun hb => ?_) (fun hb => ?_) <;> try simp only [forall_const, eq_self, not_true_eq_false, not_false_eq_true, or_false, false_or, or_self, or_true, true_or, and_true, true_and, and_false, false_and, decide_true, decide_false, Bool.not_true, Bool.not_false, decide_eq_true_eq, decide_eq_false_iff_not, ite_and_p, ite_or_p, Bool.decide_eq_true, Bool.and_eq_true, Bool.or_eq_true, Bool.not_eq_true', Bool.not_eq_false', Bool.and_eq_false_imp, Bool.or_eq_false_iff, bne_iff_ne, beq_iff_eq, bne_eq_false_iff_eq, beq_eq_false_iff_ne, gt_iff_lt, ge_iff_le, Int.not_lt, Int.not_le, ne_eq, Bool.true_eq_false, Bool.false_eq_true, reduceCtorEq, eta_Airway, eta_Door, eta_Fan, eta_Mine] at hb)
    | apply BackF.auto2
    | refine BackB.mk ?_ ?_
    | refine RetF.auto (And.intro rfl ?_)
    | exact Is.mk rfl rfl
    | refine Is.mk ?_ rfl
    | refine Is.mk rfl ?_
    | refine Is.mk ?_ ?_
  · exact ⟨by omega, by omega, by simp only [condS, sumT_0]; rfl, by omega, by omega⟩
  · have := condI_b (hx i.toNat (by omega))
    exact ⟨by omega, by omega, by rw [condS_s h0 hb hx, h2], by omega, by omega⟩
  · dsimp only; omega
  · have e : i = xs.length := by omega
    subst e; rw [h2]; rfl
end Go.Proofs.Ytjgllpildemkpaa
