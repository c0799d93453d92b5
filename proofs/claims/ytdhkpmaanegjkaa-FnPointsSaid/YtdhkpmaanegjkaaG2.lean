/- Contracts of functions of the program, and what they compute. Conditions: those that each theorem states. -/
import Derived.Test.YtdhkpmaanegjkaaProg
import Derived.Test.YtdhkpmaanegjkaaG1
set_option linter.unusedVariables false
set_option linter.unusedSimpArgs false
namespace Go.Proofs.Ytdhkpmaanegjkaa
open Go.Av
attribute [local irreducible] Go.IntKind.wrap leastI rdZ rd rootI
set_option maxRecDepth 20000
set_option maxHeartbeats 4000000

def okAirway (x : GAirway) : Bool := isName x.id && inR x.from_ 0 15 && inR x.to 0 15 && (x.from_ != x.to) && inR x.length 1 10000 && inR x.section_ 50 5000 && inR x.friction 1 1000 && inR x.shock 0 1000
theorem okAirway_b {x : GAirway} (h : okAirway x = true) : (0 ≤ x.from_ ∧ x.from_ ≤ 15) ∧ (0 ≤ x.to ∧ x.to ≤ 15) ∧ ¬x.from_ = x.to ∧ (1 ≤ x.length ∧ x.length ≤ 10000) ∧ (50 ≤ x.section_ ∧ x.section_ ≤ 5000) ∧ (1 ≤ x.friction ∧ x.friction ≤ 1000) ∧ 0 ≤ x.shock ∧ x.shock ≤ 1000 := by
  simp only [okAirway, Bool.and_eq_true, inR_iff, bne_iff_ne, ne_eq] at h; omega
theorem c_impl_resistanceOk (n : Int) : FnSem Try.prog 16 [In n] [] (Is [Bo (inR n 1 1000000)] []) := by
  refine FnSem.walk (zs := zeroPV Try.prog) (by kernel_rfl) Try.func16 rfl Try.results16 (by kernel_rfl) (by kernel_rfl) (by kernel_rfl) fun hw hh => ?_
  obtain ⟨w0, _⟩ := hw
  first | replace w0 := wf_I w0 | skip
  repeat' first
    | refine And.intro rfl ?_
    | refine GdF.mk (fun h => h) ?_
    | refine And.intro (Nat.succ_ne_zero _) ?_
    | refine And.intro (Nat.le_of_ble_eq_true rfl) ?_
    | refine SeqF.run ?_
    | refine GhF.go ?_
    | refine BndF.mk (fun _ => by omega) ?_
    | refine BndF.mk (fun _ => by simp only [List.length_map, List.length_cons, List.length_nil, List.length_append, List.length_set, List.length_replicate, iotaI_len]; omega) ?_
    | refine EqL.mk [] rfl ?_
    | refine EqL.mk [_] rfl ?_
    | refine EqL.mk _ rfl ?_
    | refine ArgF.is (c_impl_within ..) ?_
    | refine ArgQ.is (fun hG => c_impl_within ..) rfl rfl ?_
    | refine CallF.mk (CallW.is [] true rfl ?_)
    | refine CallG.mk ?_
    | (refine CondF.mk (fun hb => ?_) (fun hb => ?_) <;> try simp only [forall_const, eq_self, not_true_eq_false, not_false_eq_true, or_false, false_or, or_self, or_true, true_or, and_true, true_and, and_false, false_and, decide_true, decide_false, Bool.not_true, Bool.not_false, decide_eq_true_eq, decide_eq_false_iff_not, ite_and_p, ite_or_p, Bool.decide_eq_true, Bool.and_eq_true, Bool.or_eq_true, Bool.not_eq_true', Bool.not_eq_false', Bool.and_eq_false_imp, Bool.or_eq_false_iff, bne_iff_ne, beq_iff_eq, bne_eq_false_iff_eq, beq_eq_false_iff_ne, gt_iff_lt, ge_iff_le, Int.not_lt, Int.not_le, ne_eq, Bool.true_eq_false, Bool.false_eq_true, reduceCtorEq, eta_Fan] at hb)
    | refine RetF.auto (And.intro rfl ?_)
    | exact Is.mk rfl rfl
    | refine Is.mk ?_ rfl
    | refine Is.mk rfl ?_
    | refine Is.mk ?_ ?_
theorem c_spec_l03Res (n : Int) : FnSem Try.prog 22 [In n] [] (Is [Bo (inR n 1 1000000)] []) := by
  refine FnSem.walk (zs := zeroPV Try.prog) (by kernel_rfl) Try.func22 rfl Try.results22 (by kernel_rfl) (by kernel_rfl) (by kernel_rfl) fun hw hh => ?_
  obtain ⟨w0, _⟩ := hw
  first | replace w0 := wf_I w0 | skip
  repeat' first
    | refine And.intro rfl ?_
    | refine GdF.mk (fun h => h) ?_
    | refine And.intro (Nat.succ_ne_zero _) ?_
    | refine And.intro (Nat.le_of_ble_eq_true rfl) ?_
    | refine SeqF.run ?_
    | refine GhF.go ?_
    | refine BndF.mk (fun _ => by omega) ?_
    | refine BndF.mk (fun _ => by simp only [List.length_map, List.length_cons, List.length_nil, List.length_append, List.length_set, List.length_replicate, iotaI_len]; omega) ?_
    | refine EqL.mk [] rfl ?_
    | refine EqL.mk [_] rfl ?_
    | refine EqL.mk _ rfl ?_
    | refine ArgF.is (c_spec_l00In ..) ?_
    | refine ArgQ.is (fun hG => c_spec_l00In ..) rfl rfl ?_
    | refine CallF.mk (CallW.is [] true rfl ?_)
    | refine CallG.mk ?_
    | (refine CondF.mk (fun hb => ?_) (fun hb => ?_) <;> try simp only [forall_const, eq_self, not_true_eq_false, not_false_eq_true, or_false, false_or, or_self, or_true, true_or, and_true, true_and, and_false, false_and, decide_true, decide_false, Bool.not_true, Bool.not_false, decide_eq_true_eq, decide_eq_false_iff_not, ite_and_p, ite_or_p, Bool.decide_eq_true, Bool.and_eq_true, Bool.or_eq_true, Bool.not_eq_true', Bool.not_eq_false', Bool.and_eq_false_imp, Bool.or_eq_false_iff, bne_iff_ne, beq_iff_eq, bne_eq_false_iff_eq, beq_eq_false_iff_ne, gt_iff_lt, ge_iff_le, Int.not_lt, Int.not_le, ne_eq, Bool.true_eq_false, Bool.false_eq_true, reduceCtorEq, eta_Fan] at hb)
    | refine RetF.auto (And.intro rfl ?_)
    | exact Is.mk rfl rfl
    | refine Is.mk ?_ rfl
    | refine Is.mk rfl ?_
    | refine Is.mk ?_ ?_
theorem rootI_b {n b : Int} (h0 : 0 ≤ b) (h1 : n < (b + 1) * (b + 1)) (h2 : b ≤ 3037000498) : 0 ≤ rootI n ∧ rootI n ≤ b := by
  unfold rootI
  split
  · omega
  · have h3 := leastI_r (p := rootP n) (lo := 0) (hi := 3037000498) (by omega)
    refine ⟨h3.1, ?_⟩
    apply Int.not_lt.1; intro hlt
    have h4 : rootP n b = false := by
      by_cases e : leastI (rootP n) 0 3037000498 ≤ 3037000498
      · exact (leastI_hit e (by omega)).2.2 b h0 hlt
      · exact leastI_none e b h0 (by omega)
    have h5 := of_decide_eq_false h4
    omega
/-- the resistance of an airway with a section, not yet 1 at least -/
def rawA (x : GAirway) (s : Int) : Int := rdZ (x.friction * (x.length + x.shock) * rootI (s * 10000) * 400000) (s * s * s)
theorem rawA_b {x : GAirway} {s : Int} (h : okAirway x = true) (hs : 50 ≤ s ∧ s ≤ 5000) : (0 ≤ rootI (s * 10000) ∧ rootI (s * 10000) ≤ 10000) ∧ (0 ≤ x.friction * (x.length + x.shock) ∧ x.friction * (x.length + x.shock) ≤ 11000000) ∧ (0 ≤ x.friction * (x.length + x.shock) * rootI (s * 10000) ∧ x.friction * (x.length + x.shock) * rootI (s * 10000) ≤ 110000000000) ∧ (0 ≤ s * s ∧ s * s ≤ 25000000) ∧ (1 ≤ s * s * s ∧ s * s * s ≤ 125000000000) := by
  have hb := okAirway_b h
  have h1 := rootI_b (n := s * 10000) (b := 10000) (by omega) (by omega) (by omega)
  have h2 := mulB' (a := x.friction) (A := 1000) (b := x.length + x.shock) (B := 11000) (by omega) (by omega) (by omega) (by omega)
  have h3 := mulB' (A := 11000000) (B := 10000) h2.1 h2.2 h1.1 h1.2
  have h4 := mulB' (a := s) (A := 5000) (b := s) (B := 5000) (by omega) (by omega) (by omega) (by omega)
  have h5 := mulB' (A := 25000000) (B := 5000) h4.1 h4.2 (show 0 ≤ s by omega) (by omega)
  have h6 := Int.mul_le_mul (show (1 : Int) ≤ s by omega) (show (1 : Int) ≤ s by omega) (by omega) (by omega)
  have h7 := Int.mul_le_mul (show (1 : Int) ≤ s * s by omega) (show (1 : Int) ≤ s by omega) (by omega) (by omega)
  omega
end Go.Proofs.Ytdhkpmaanegjkaa
