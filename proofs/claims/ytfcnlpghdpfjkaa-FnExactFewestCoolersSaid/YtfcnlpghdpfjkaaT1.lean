/- Contracts of functions of the program, and what they compute. Conditions: those that each theorem states. -/
import Derived.Test.YtfcnlpghdpfjkaaProg
import Derived.Test.YtfcnlpghdpfjkaaL1
import Derived.Test.YtfcnlpghdpfjkaaK8
set_option linter.unusedVariables false
set_option linter.unusedSimpArgs false
namespace Go.Proofs.Ytfcnlpghdpfjkaa
open Go.Av
attribute [local irreducible] Go.IntKind.wrap
set_option maxRecDepth 20000
set_option maxHeartbeats 8000000

/-! Texts: marks. -/
theorem cat_size {x y : ByteArray} : (x ++ y).size = x.size + y.size := ByteArray.size_append
theorem nums_size {xs : List Int} : (strOfNums xs).size = xs.length := strOfNums_size xs
theorem one_size {a : UInt8} : (ByteArray.mk #[a]).size = 1 := rfl
theorem c_laws_markText (k : Int) (hk : k ≤ 1000000000000) : FnSem Try.prog 142 [In k] [] (RetV (fun s : ByteArray => [Str s]) (fun _ => []) (fun s => s.size ≤ 1000000000001)) := by
  refine FnSem.walk (zs := zeroPV Try.prog) (by kernel_rfl) Try.func142 rfl Try.results142 (by kernel_rfl) (by kernel_rfl) (by kernel_rfl) fun hw hh => ?_
  obtain ⟨w0, _⟩ := hw
  first | replace w0 := wf_I w0 | skip
  repeat' first
    | refine And.intro rfl ?_
    | refine GdF.mk (fun h => h) ?_
    | refine And.intro (Nat.succ_ne_zero _) ?_
    | refine And.intro (Nat.le_of_ble_eq_true rfl) ?_
    | refine SeqF.run ?_
    | refine LoopF.at 4 rfl (LoopF.fix [] (ByteArray × Int) (fun (s, m) => 0 ≤ m ∧ (s.size : Int) + m ≤ k) (fun (s, m) => [(3, Str s), (0, In m)]) (fun (s, m) => []) (fun (s, m) => (m.toNat)) ((ByteArray.mk #[], k)) ?_)
    | (refine LoopB.of (T := ByteArray × Int) ?_ ?_; rotate_left; rintro ⟨s, m⟩ ⟨h0, h1⟩; rotate_left)
    | refine StrF.mk [_] rfl (by simp) ?_
    | refine FlF.keep ?_
    | refine BndF.mk (fun _ => by simp only [nums_size, cat_size, one_size, List.length_cons, List.length_nil]; omega) ?_
    | refine RetV.mk (α := ByteArray) _ rfl rfl ?_
    | refine GhF.go ?_
    | refine MkF.row ?_
    | refine BndF.mk (fun _ => by omega) ?_
    | refine BndF.mk (fun _ => by simp only [List.length_map, List.length_cons, List.length_nil, List.length_append, List.length_set, List.length_replicate, iotaI_len]; omega) ?_
    | refine EqI.mk _ (fun _ => wrapI (by omega) (by omega)) ?_
    | refine EqI.mk _ (fun _ => wrapD (by omega) (by omega) (by omega)) ?_
    | refine EqI.mk _ (fun _ => modE (by omega)) ?_
    | refine EqI.mk _ (fun _ => rfl) ?_
    | refine EqL.mk [] rfl ?_
    | refine EqL.mk [_] rfl ?_
    | refine EqL.mk _ rfl ?_
    | (refine CondF.mk (fun hb => ?_) (fun hb => ?_) <;> try simp only [forall_const, eq_self, not_true_eq_false, not_false_eq_true, or_false, false_or, or_self, or_true, true_or, and_true, true_and, and_false, false_and, decide_true, decide_false, Bool.not_true, Bool.not_false, decide_eq_true_eq, decide_eq_false_iff_not, ite_and_p, ite_or_p, Bool.decide_eq_true, Bool.and_eq_true, Bool.or_eq_true, Bool.not_eq_true', Bool.not_eq_false', Bool.and_eq_false_imp, Bool.or_eq_false_iff, bne_iff_ne, beq_iff_eq, bne_eq_false_iff_eq, beq_eq_false_iff_ne, gt_iff_lt, ge_iff_le, Int.not_lt, Int.not_le, ne_eq, Bool.true_eq_false, Bool.false_eq_true, reduceCtorEq, eta_Airway, eta_Fan, eta_Mine] at hb)
    | apply BackF.auto2
    | refine BackB.mk ?_ ?_
    | refine RetF.auto (And.intro rfl ?_)
    | exact Is.mk rfl rfl
    | refine Is.mk ?_ rfl
    | refine Is.mk rfl ?_
    | refine Is.mk ?_ ?_
  all_goals try dsimp only
  all_goals first
    | omega
    | (rw [show (ByteArray.mk #[109, 48]).size = 2 from rfl]; omega)
    | exact ⟨by omega, by rw [show (ByteArray.mk #[]).size = 0 from rfl]; omega⟩
    | (simp only [cat_size, nums_size, one_size, List.length_cons, List.length_nil]; omega)
theorem EqLmode {ys : List GMode} {i : Nat} {v : GMode} {K : List (List PV) → Prop} (h : ∀ ys2 : List GMode, ys2.length = ys.length → K (ys2.map GMode.cells)) : EqL ((ys.map GMode.cells).set i v.cells) K := ⟨_, st GMode.cells, h _ (by simp)⟩
end Go.Proofs.Ytfcnlpghdpfjkaa
