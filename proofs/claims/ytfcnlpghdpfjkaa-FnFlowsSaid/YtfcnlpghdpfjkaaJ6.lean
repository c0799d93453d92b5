/- Contracts of functions of the program, and what they compute. Conditions: those that each theorem states. -/
import Derived.Test.YtfcnlpghdpfjkaaProg
import Derived.Test.YtfcnlpghdpfjkaaJ5
set_option linter.unusedVariables false
set_option linter.unusedSimpArgs false
namespace Go.Proofs.Ytfcnlpghdpfjkaa
open Go.Av
attribute [local irreducible] Go.IntKind.wrap leastI rdZ rd rootI okMine treeC mshC dropI
set_option maxRecDepth 20000
set_option maxHeartbeats 16000000

/-! Errors, corrections, power, still airways: the program, asked rightly. -/
--@fn (impl.Mine).hasSystem
theorem hsT (m : GMine) (r p fl : List Int) (h1 : lsO m r 1 1000000 = true) (h2 : lsO m p (-100000) 100000 = true) (h3 : lsO m fl (-100000) 100000 = true) : FnSem Try.prog 100 [.p .any (.agg m.cells), Lx (LI r), Lx (LI p), Lx (LI fl)] [] (Is [Bo true] []) := by
  refine FnSem.walk (zs := zeroPV Try.prog) (by kernel_rfl) Try.func100 rfl Try.results100 (by kernel_rfl) (by kernel_rfl) (by kernel_rfl) fun hw hh => ?_
  obtain ⟨w0, w1, w2, w3, _⟩ := hw
  first | replace w0 := wf_Mine w0 | skip
  first | replace w1 := wf_LI w1 | skip
  first | replace w2 := wf_LI w2 | skip
  first | replace w3 := wf_LI w3 | skip
  repeat' first
    | refine And.intro rfl ?_
    | refine GdF.mk (fun h => h) ?_
    | refine And.intro (Nat.succ_ne_zero _) ?_
    | refine And.intro (Nat.le_of_ble_eq_true rfl) ?_
    | refine SeqF.run ?_
    | refine ArgF.is (hlT m r 1 1000000 h1) ?_
    | refine ArgQ.is (fun hG => hlT m r 1 1000000 h1) rfl rfl ?_
    | refine ArgF.is (hlT m p (-100000) 100000 h2) ?_
    | refine ArgQ.is (fun hG => hlT m p (-100000) 100000 h2) rfl rfl ?_
    | refine ArgF.is (hfT m fl h3) ?_
    | refine ArgQ.is (fun hG => hfT m fl h3) rfl rfl ?_
    | refine GhF.go ?_
    | refine GdS.keep ?_
    | refine BndF.mk (fun _ => by omega) ?_
    | refine BndF.mk (fun _ => by simp only [List.length_map, List.length_cons, List.length_nil, List.length_append, List.length_set, List.length_replicate, iotaI_len]; omega) ?_
    | refine BndF.mk (fun hG => by simp only [forall_const, eq_self, not_true_eq_false, not_false_eq_true, or_false, false_or, or_self, or_true, true_or, and_true, true_and, and_false, false_and, decide_true, decide_false, Bool.not_true, Bool.not_false, decide_eq_true_eq, decide_eq_false_iff_not, ite_and_p, ite_or_p, Bool.decide_eq_true, Bool.and_eq_true, Bool.or_eq_true, Bool.not_eq_true', Bool.not_eq_false', Bool.and_eq_false_imp, Bool.or_eq_false_iff, bne_iff_ne, beq_iff_eq, bne_eq_false_iff_eq, beq_eq_false_iff_ne, gt_iff_lt, ge_iff_le, Int.not_lt, Int.not_le, ne_eq, Bool.true_eq_false, Bool.false_eq_true, reduceCtorEq, eta_Airway, eta_Fan, eta_Mine, bytes_nil] at hG; (try simp only [List.length_map]); omega) ?_
    | refine EqL.mk _ (tk eI (by first | rfl | assumption | omega | (simp only [List.length_map, List.length_cons, List.length_nil, List.length_append, List.length_set, List.length_replicate, iotaI_len]; done) | (simp only [List.length_map, List.length_cons, List.length_nil, List.length_append, List.length_set, List.length_replicate, iotaI_len]; omega))) ?_
    | refine EqL.mk [] rfl ?_
    | refine EqL.mk [_] rfl ?_
    | refine EqL.mk _ rfl ?_
    | refine ArgF.is (c_impl_Mine_hasList ⟨_, _⟩ _ _ _) ?_
    | refine ArgQ.is (fun hG => c_impl_Mine_hasList ⟨_, _⟩ _ _ _) rfl rfl ?_
    | refine ArgF.is (c_impl_Mine_hasFlows ⟨_, _⟩ _) ?_
    | refine ArgQ.is (fun hG => c_impl_Mine_hasFlows ⟨_, _⟩ _) rfl rfl ?_
    | refine CallF.mk (CallW.is [] true rfl ?_)
    | refine CallG.mk ?_
    | (refine CondF.mk (fun hb => ?_) (fun hb => ?_) <;> try simp only [forall_const, eq_self, not_true_eq_false, not_false_eq_true, or_false, false_or, or_self, or_true, true_or, and_true, true_and, and_false, false_and, decide_true, decide_false, Bool.not_true, Bool.not_false, decide_eq_true_eq, decide_eq_false_iff_not, ite_and_p, ite_or_p, Bool.decide_eq_true, Bool.and_eq_true, Bool.or_eq_true, Bool.not_eq_true', Bool.not_eq_false', Bool.and_eq_false_imp, Bool.or_eq_false_iff, bne_iff_ne, beq_iff_eq, bne_eq_false_iff_eq, beq_eq_false_iff_ne, gt_iff_lt, ge_iff_le, Int.not_lt, Int.not_le, ne_eq, Bool.true_eq_false, Bool.false_eq_true, reduceCtorEq, eta_Airway, eta_Fan, eta_Mine] at hb)
    | refine RetF.auto (And.intro rfl ?_)
    | exact Is.mk rfl rfl
    | refine Is.mk ?_ rfl
    | refine Is.mk rfl ?_
    | refine Is.mk ?_ ?_
  all_goals skip
/-- what is asked rightly -/
structure askM (m : GMine) (r p fl : List Int) : Prop where
  hm : okMine m = true
  bl : blF m fl 100000
  r : lsO m r 1 1000000 = true
  p : lsO m p (-100000) 100000 = true
theorem askM.sys {m : GMine} {r p fl : List Int} (h : askM m r p fl) : sysO m r p fl := by
  have a := lsO_p h.r
  have b := lsO_p h.p
  exact ⟨⟨a.1, fun k hk => a.2 k (by omega)⟩, ⟨b.1, fun k hk => by have := b.2 k (by omega); omega⟩, ⟨h.bl.ln, fun k _ => h.bl.bd k⟩⟩
theorem msh_ok {m : GMine} (hm : okMine m = true) : ∀ k : Nat, k < (mshC m).length → okWk m.airways.length ((mshC m).getD k []) := fun k hk => (mshC_G hm hk).ok
--@fn impl.within
theorem wiT (x a b : Int) (h : a ≤ x ∧ x ≤ b) : FnSem Try.prog 63 [In x, In a, In b] [] (Is [Bo true] []) := by
  have := c_impl_within x a b
  rwa [inR_iff.2 h] at this
--@fn impl.abs
theorem absT (q : Int) (h : -1000000000000000 ≤ q ∧ q ≤ 1000000000000000) : FnSem Try.prog 104 [In q] [] (Is [In (absI q)] []) := by
  have ha := c_impl_abs q
  rwa [show max q (IntKind.i64.wrap (0 - q)) = absI q by rw [wrapI (by omega) (by omega)]; rfl] at ha
end Go.Proofs.Ytfcnlpghdpfjkaa

