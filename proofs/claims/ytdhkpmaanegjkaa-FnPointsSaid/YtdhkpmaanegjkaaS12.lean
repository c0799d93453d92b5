/- Contracts of functions of the program, and what they compute. Conditions: those that each theorem states. -/
import Derived.Test.YtdhkpmaanegjkaaProg
import Derived.Test.YtdhkpmaanegjkaaT1
import Derived.Test.YtdhkpmaanegjkaaF1
set_option linter.unusedVariables false
set_option linter.unusedSimpArgs false
namespace Go.Proofs.Ytdhkpmaanegjkaa
open Go.Av
attribute [local irreducible] Go.IntKind.wrap
set_option maxRecDepth 20000
set_option maxHeartbeats 8000000

/-! Draws of modes and of hours. -/
theorem u8w {x : Int} (h : 0 ≤ x ∧ x ≤ 255) : IntKind.u8.wrap x = x := (wrap_eq_iff .u8 _).2 (by simp only [kmin, kmax]; omega)
theorem dec_0 : (ByteArray.mk #[48]) = strOfNums [48 + 0] := rfl
theorem c_spec_l01Dec (n : Int) (hn : 0 ≤ n ∧ n ≤ 9) : FnSem Try.prog 47 [In n] [] (Is [Str (strOfNums [48 + n])] []) := by
  refine FnSem.walk (zs := zeroPV Try.prog) (by kernel_rfl) Try.func47 rfl Try.results47 (by kernel_rfl) (by kernel_rfl) (by kernel_rfl) fun hw hh => ?_
  obtain ⟨w0, _⟩ := hw
  first | replace w0 := wf_I w0 | skip
  repeat' first
    | refine And.intro rfl ?_
    | refine GdF.mk (fun h => h) ?_
    | refine And.intro (Nat.succ_ne_zero _) ?_
    | refine And.intro (Nat.le_of_ble_eq_true rfl) ?_
    | refine SeqF.run ?_
    | refine EqI.mk _ (fun _ => u8w (by omega)) ?_
    | (refine CondF.mk (fun hb => (by exfalso; have := of_decide_eq_true hb; omega)) (fun hb => ?_) <;> try simp only [decide_eq_false_iff_not] at hb)
    | refine LoopF.at 5 rfl (LoopF.fix [0] (Int × Nat × List Int) (fun (m, k, ds) => ((m = n ∧ ds = []) ∨ (m = 0 ∧ ds = [48 + n])) ∧ 0 < n ∧ k = ds.length ∧ k ≤ 1) (fun (m, k, ds) => [(4, In m), (3, .osl 0 0 k)]) (fun (m, k, ds) => [(0, Rw .flat (eY 0) (ds.map eY))]) (fun (m, k, ds) => (m.toNat)) ((n, 0, [])) ?_)
    | (refine LoopB.of (T := Int × Nat × List Int) ?_ ?_; rotate_left; rintro ⟨m, k, ds⟩ ⟨h0, h1, h2, h3⟩; rotate_left)
    | refine LoopF.at 15 rfl (LoopF.fix [3] (Int × Nat × List Int × Unit) (fun (i, k2, out, u) => ((i = 0 ∧ out = []) ∨ (i = -1 ∧ out = [48 + n])) ∧ (ds = [48 + n] ∧ k = 1) ∧ k2 = out.length ∧ k2 ≤ 1) (fun (i, k2, out, u) => [(7, In i), (6, .osl 1 0 k2)]) (fun (i, k2, out, u) => [(1, Rw .flat (eY 0) (out.map eY))]) (fun (i, k2, out, u) => ((i + 1).toNat)) (((k : Int) - 1, 0, [], ())) ?_)
    | (refine LoopB.of (T := Int × Nat × List Int × Unit) ?_ ?_; rotate_left; rintro ⟨i, k2, out, u⟩ ⟨g0, g1, g2, g3⟩; rotate_left)
    | refine StrF.mk _ rfl (by omega) ?_
    | refine FlF.keep ?_
    | refine GhF.go ?_
    | refine MkF.row ?_
    | refine EqP.mk _ (gm eY 0 rfl) ?_
    | refine BndF.mk (fun _ => by omega) ?_
    | refine BndF.mk (fun _ => by simp only [List.length_map, List.length_cons, List.length_nil, List.length_append, List.length_set, List.length_replicate, iotaI_len]; omega) ?_
    | refine EqI.mk _ (fun _ => wrapI (by omega) (by omega)) ?_
    | refine EqI.mk _ (fun _ => wrapD (by omega) (by omega) (by omega)) ?_
    | refine EqI.mk _ (fun _ => modE (by omega)) ?_
    | refine EqI.mk _ (fun _ => rfl) ?_
    | refine FlF.keep ?_
    | refine EqN.mk _ (ln eY) ?_
    | refine EqN.mk _ (Nat.zero_add _) ?_
    | refine EqN.mk (_ + 1) rfl ?_
    | refine EqN.mk _ (Int.toNat_natCast _) ?_
    | refine EqN.mk _ rfl ?_
    | refine EqL.mk _ (sn0 eY) ?_
    | refine EqL.mk _ (sn eY (by first | rfl | assumption | omega | (simp only [List.length_map, List.length_cons, List.length_nil, List.length_append, List.length_set, List.length_replicate, iotaI_len]; done) | (simp only [List.length_map, List.length_cons, List.length_nil, List.length_append, List.length_set, List.length_replicate, iotaI_len]; omega))) ?_
    | refine EqL.mk _ (ap0 eY) ?_
    | refine EqL.mk _ (ap eY (by first | rfl | assumption | omega | (simp only [List.length_map, List.length_cons, List.length_nil, List.length_append, List.length_set, List.length_replicate, iotaI_len]; done) | (simp only [List.length_map, List.length_cons, List.length_nil, List.length_append, List.length_set, List.length_replicate, iotaI_len]; omega))) ?_
    | refine EqL.mk _ (tk eY (by first | rfl | assumption | omega | (simp only [List.length_map, List.length_cons, List.length_nil, List.length_append, List.length_set, List.length_replicate, iotaI_len]; done) | (simp only [List.length_map, List.length_cons, List.length_nil, List.length_append, List.length_set, List.length_replicate, iotaI_len]; omega))) ?_
    | refine EqL.mk [] rfl ?_
    | refine EqL.mk [_] rfl ?_
    | refine EqL.mk _ rfl ?_
    | (refine CondF.mk (fun hb => ?_) (fun hb => ?_) <;> try simp only [forall_const, eq_self, not_true_eq_false, not_false_eq_true, or_false, false_or, or_self, or_true, true_or, and_true, true_and, and_false, false_and, decide_true, decide_false, Bool.not_true, Bool.not_false, decide_eq_true_eq, decide_eq_false_iff_not, ite_and_p, ite_or_p, Bool.decide_eq_true, Bool.and_eq_true, Bool.or_eq_true, Bool.not_eq_true', Bool.not_eq_false', Bool.and_eq_false_imp, Bool.or_eq_false_iff, bne_iff_ne, beq_iff_eq, bne_eq_false_iff_eq, beq_eq_false_iff_ne, gt_iff_lt, ge_iff_le, Int.not_lt, Int.not_le, ne_eq, Bool.true_eq_false, Bool.false_eq_true, reduceCtorEq, eta_Fan] at hb)
    | apply BackF.auto4
    | apply BackF.auto3
    | refine BackB.mk ?_ ?_
    | refine RetF.auto (And.intro rfl ?_)
    | exact Is.mk rfl rfl
    | refine Is.mk ?_ rfl
    | refine Is.mk rfl ?_
    | refine Is.mk ?_ ?_
  all_goals try dsimp only
  all_goals try exact ()
  all_goals first
    | omega
    | (rw [show n = 0 by omega]; rfl)
    | exact ⟨.inl ⟨rfl, rfl⟩, by omega, rfl, by omega⟩
    | (rcases h0 with h | h
       · refine ⟨.inr ⟨?_, ?_⟩, h1, by rw [h.2] at h2 ⊢; simpa using h2, by rw [h.2] at h2; simp at h2; omega⟩
         · omega
         · rw [h.2, h.1]; simp; omega
       · omega)
    | (rcases h0 with h | h
       · omega
       · exact ⟨.inl ⟨by rw [h.2] at h2; simp at h2; omega, rfl⟩, ⟨h.2, by rw [h.2] at h2; simpa using h2⟩, rfl, by omega⟩)
    | (rcases g0 with h | h
       · refine ⟨.inr ⟨by omega, ?_⟩, g1, by rw [h.2] at g2 ⊢; simpa using g2, by rw [h.2] at g2; simp at g2; omega⟩
         rw [h.1, h.2, g1.1]; rfl
       · omega)
    | (rcases g0 with h | h
       · omega
       · rw [h.2])
    | skip
end Go.Proofs.Ytdhkpmaanegjkaa
