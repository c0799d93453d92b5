/- Contracts of functions of the program, and what they compute. Conditions: those that each theorem states. -/
import Derived.Test.YtdhkpmaanegjkaaProg
import Derived.Test.YtdhkpmaanegjkaaL1
set_option linter.unusedVariables false
set_option linter.unusedSimpArgs false
namespace Go.Proofs.Ytdhkpmaanegjkaa
open Go.Av
attribute [local irreducible] Go.IntKind.wrap
set_option maxRecDepth 20000
set_option maxHeartbeats 2000000

/-- a number below n that an input chooses -/
def r8A (c : List Int) (k n : Int) : Int := if n ≤ 1 ∨ (c.length : Int) ≤ k then 0 else c.getD k.toNat 0 % n
def r8W (c : List Int) (k n : Int) : Int := (256 * r8A c k 256 + r8A c (k + 1) 256) % n
theorem r8A_b (c : List Int) (k : Int) {n : Int} (hn : 1 ≤ n) : 0 ≤ r8A c k n ∧ r8A c k n ≤ n - 1 := by
  unfold r8A
  split
  · omega
  · have h1 := Int.emod_nonneg (c.getD k.toNat 0) (show n ≠ 0 by omega); have h2 := Int.emod_lt_of_pos (c.getD k.toNat 0) (show 0 < n by omega); omega
theorem r8W_b (c : List Int) (k : Int) {n : Int} (hn : 1 ≤ n) : 0 ≤ r8W c k n ∧ r8W c k n ≤ n - 1 := by
  unfold r8W
  have h1 := Int.emod_nonneg (256 * r8A c k 256 + r8A c (k + 1) 256) (show n ≠ 0 by omega); have h2 := Int.emod_lt_of_pos (256 * r8A c k 256 + r8A c (k + 1) 256) (show 0 < n by omega); omega
theorem c_spec_l00Src_text (c : List Int) (p s : Int) (xs : List ByteArray) (k : Nat) (hc : bytes c) (hp : 0 ≤ p ∧ p ≤ 100000000) (h1 : 1 ≤ k) (h2 : k = xs.length) : FnSem Try.prog 35 [.own 0 0, .osl 1 0 k] [srcO c p s, .row false .flat (eS ⟨#[]⟩) (xs.map eS)] (SrcW (fun n : ByteArray => [Str n]) (fun n => n ∈ xs) c 2 p (.row false .flat (eS ⟨#[]⟩) (xs.map eS))) := by
  refine FnSem.walk (zs := zeroPV Try.prog) (by kernel_rfl) Try.func35 rfl Try.results35 (by kernel_rfl) (by kernel_rfl) (by kernel_rfl) fun hw hh => ?_
  obtain ⟨w0, w1, _⟩ := hw
  first | replace w0 := wfr_L00Src w0 | skip
  first | replace w1 := wf_I w1 | replace w1 := wf_Y w1 | replace w1 := wf_S w1 | replace w1 := wf_LI w1 | replace w1 := wf_LY w1 | replace w1 := wf_LLI w1 | replace w1 := wf_Ls w1 | skip
  repeat' first
    | refine And.intro rfl ?_
    | refine GdF.mk (fun h => h) ?_
    | refine And.intro (Nat.succ_ne_zero _) ?_
    | refine And.intro (Nat.le_of_ble_eq_true rfl) ?_
    | refine SeqF.run ?_
    | refine SrcW.mk (α := ByteArray) _ _ _ rfl rfl ?_ ?_
    | refine GhF.go ?_
    | refine EqP.mk _ (gm eS ⟨#[]⟩ rfl) ?_
    | refine BndF.mk (fun _ => by omega) ?_
    | refine BndF.mk (fun _ => by simp only [List.length_map, List.length_cons, List.length_nil, List.length_append, List.length_set, List.length_replicate, iotaI_len]; omega) ?_
    | refine EqN.mk _ (ln eS) ?_
    | refine EqN.mk _ (Nat.zero_add _) ?_
    | refine EqN.mk _ (Int.toNat_natCast _) ?_
    | refine EqN.mk _ rfl ?_
    | refine EqL.mk _ (tk eS (by first | rfl | assumption | omega | (simp only [List.length_map, List.length_cons, List.length_nil, List.length_append, List.length_set, List.length_replicate, iotaI_len]; done) | (simp only [List.length_map, List.length_cons, List.length_nil, List.length_append, List.length_set, List.length_replicate, iotaI_len]; omega))) ?_
    | refine EqL.mk [] rfl ?_
    | refine EqL.mk [_] rfl ?_
    | refine EqL.mk _ rfl ?_
    | (refine ArgF.src (c_spec_l00Src_pick _ _ _ _ (by first | assumption | omega | rfl | (simp only [List.length_cons, List.length_nil]; omega)) (by first | assumption | omega | rfl | (simp only [List.length_cons, List.length_nil]; omega)) (by first | assumption | omega | rfl | (simp only [List.length_cons, List.length_nil]; omega))) ?_; intro _ _ _ _ _)
    | refine CallF.own (f := 27) [0] false ?_
    | refine CallF.mk (CallW.is [] true rfl ?_)
    | refine CallG.mk ?_
    | (refine CondF.mk (fun hb => ?_) (fun hb => ?_) <;> try simp only [forall_const, eq_self, not_true_eq_false, not_false_eq_true, or_false, false_or, or_self, or_true, true_or, and_true, true_and, and_false, false_and, decide_true, decide_false, Bool.not_true, Bool.not_false, decide_eq_true_eq, decide_eq_false_iff_not, ite_and_p, ite_or_p, Bool.decide_eq_true, Bool.and_eq_true, Bool.or_eq_true, Bool.not_eq_true', Bool.not_eq_false', Bool.and_eq_false_imp, Bool.or_eq_false_iff, bne_iff_ne, beq_iff_eq, bne_eq_false_iff_eq, beq_eq_false_iff_ne, gt_iff_lt, ge_iff_le, Int.not_lt, Int.not_le, ne_eq, Bool.true_eq_false, Bool.false_eq_true, reduceCtorEq, eta_Fan] at hb)
    | refine RetF.auto (And.intro rfl ?_)
    | exact Is.mk rfl rfl
    | refine Is.mk ?_ rfl
    | refine Is.mk rfl ?_
    | refine Is.mk ?_ ?_
  all_goals try omega
  · rename_i v _ _ _ _
    have hv : v.toNat < xs.length := by omega
    rw [List.getD_eq_getElem?_getD, List.getElem?_eq_getElem hv]; exact List.getElem_mem hv
end Go.Proofs.Ytdhkpmaanegjkaa
