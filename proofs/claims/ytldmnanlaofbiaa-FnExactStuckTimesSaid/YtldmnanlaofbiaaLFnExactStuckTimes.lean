/- The statement: FnExactStuckTimes returns true for every input, and each argument reads afterwards as it read before. No conditions. -/
import Derived.Test.YtldmnanlaofbiaaRows
import Derived.Test.YtldmnanlaofbiaaK18
namespace Go.Proofs.Ytldmnanlaofbiaa.fnExactStuckTimes
open Go.ChangeShapes Go.WideShapes Go.ChangeAt Go.RowKit Go.Av
set_option maxRecDepth 100000
set_option linter.unusedVariables false

theorem own : ownKnob Try.prog.godebug = none := by kernel_rfl
theorem sh2 : shOf Try.prog 6 2 = some [.ik .i64] := by kernel_rfl
theorem ns2 : ∀ fs, Try.prog.underlying 2 ≠ some (.struct fs) := fun fs h => by rw [Try.underlying2] at h; cases h
theorem sh27 : shOf Try.prog 6 27 = some [.sl [.ik .i64]] := by kernel_rfl
theorem ns27 : ∀ fs, Try.prog.underlying 27 ≠ some (.struct fs) := fun fs h => by rw [Try.underlying27] at h; cases h
theorem sem (avs : List AV) (h : ArgsOf Try.prog 6 Try.f4.params.toList avs) : FnSem Try.prog 4 avs [] (Is [Bo true] []) := by
  rw [Try.params4] at h
  obtain ⟨ps0, r0, f0, rfl, h0⟩ := ArgsOf.cons sh27 h
  obtain ⟨p0, e0, rfl, g0, f0⟩ := f0.cons
  obtain rfl := f0.nil
  obtain ⟨x0, rfl⟩ := fit_LI g0
  rw [argAV_l ns27]
  obtain ⟨ps1, r1, f1, rfl, h1⟩ := ArgsOf.cons sh2 h0
  obtain ⟨p1, e1, rfl, g1, f1⟩ := f1.cons
  obtain rfl := f1.nil
  obtain ⟨x1, rfl⟩ := fit_i g1
  rw [argAV_c ns2]
  obtain rfl : _ = [] := h1
  exact c_laws_FnExactStuckTimes x0 x1

theorem lifted (os : Os) (started : os.Started) (H : Type) (enc : TypeId × Value → H) :
    ReturnsInHanded {} Try.checked os 4 .any (Rows.fnExactStuckTimesSpec.pre6 enc Try.prog Try.f4 Rows.fnExactStuckTimesRow.domain false) (Rows.fnExactStuckTimesSpec.post enc Try.prog Try.f4 false true false false) := by
  refine returnsInHanded_of_change (C := Try.checked) own started (by kernel_rfl) Try.func4
    (ChangeSpec.witness6 (enc := enc) (C := Try.checked) false ⟨#[], #[.slice none 0 0, .int .i64 0], []⟩ 8 (by kernel_rfl) (by kernel_rfl) (by kernel_rfl) (by kernel_rfl)) ?_
  intro W base args ds gs before hval hW _ _
  have hds : Rows.fnExactStuckTimesSpec.fn H (ds ++ gs) = { results := [.lit (.bool true)], args := ds } := by
    obtain ⟨p, q, hA, hV, _⟩ := id hW
    obtain ⟨rfl, _⟩ := trodVars_none hV
    have hl := trodAll_len hA
    have hn : Try.f4.params.toList.length = 2 := by rw [Try.params4]; rfl
    rw [hn] at hl
    rw [List.append_nil]
    match ds, hl with
    | [d0, d1], _ => rfl
  exact law_calls (tb := 4) (by kernel_rfl) (by kernel_rfl) (by kernel_rfl) (by kernel_rfl) (by kernel_rfl) Try.underlying4 rfl sem hval hW hds

theorem over : Rows.fnExactStuckTimesRow.holds Try.pinned (OpenSpec.ofChange Rows.fnExactStuckTimesSpec) :=
  OpenClaim.holds_of_wide 4 Try.f4 rfl rfl rfl rfl rfl rfl rfl ⟨rfl, rfl, rfl, rfl, rfl⟩ rfl rfl rfl rfl rfl (by kernel_rfl) Try.func4 (by kernel_rfl)
    (of_decide_eq_true (by kernel_rfl)) (by unfold Func.isWrapper; first | (rw [if_pos (by decide +kernel)]; kernel_rfl) | (rw [if_neg (by decide +kernel)]; exact ⟨rfl, rfl⟩))
    (fun os started H enc _ => lifted os started H enc)

theorem proved : Rows.FnExactStuckTimesSaid :=
  over
#print axioms proved
end Go.Proofs.Ytldmnanlaofbiaa.fnExactStuckTimes
