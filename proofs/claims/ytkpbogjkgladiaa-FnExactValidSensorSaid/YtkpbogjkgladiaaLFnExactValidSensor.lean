/- The statement: FnExactValidSensor returns true for every input, and each argument reads afterwards as it read before. No conditions. -/
import Derived.Test.YtkpbogjkgladiaaRows
import Derived.Test.YtkpbogjkgladiaaK1
namespace Go.Proofs.Ytkpbogjkgladiaa.fnExactValidSensor
open Go.ChangeShapes Go.WideShapes Go.ChangeAt Go.RowKit Go.Av
set_option maxRecDepth 100000
set_option linter.unusedVariables false

theorem own : ownKnob Try.prog.godebug = none := by kernel_rfl
theorem sh23 : shOf Try.prog 6 23 = some [.ss, .ik .i64, .ik .i64, .ik .i64, .ik .i64] := by kernel_rfl
theorem sem (avs : List AV) (h : ArgsOf Try.prog 6 Try.f3.params.toList avs) : FnSem Try.prog 3 avs [] (Is [Bo true] []) := by
  rw [Try.params3] at h
  obtain ⟨ps0, r0, f0, rfl, h0⟩ := ArgsOf.cons sh23 h
  obtain ⟨x0, rfl⟩ := fitL_Sensor f0
  rw [argAV_struct Try.underlying23]
  obtain rfl : _ = [] := h0
  exact c_laws_FnExactValidSensor x0

theorem lifted (os : Os) (started : os.Started) (H : Type) (enc : TypeId × Value → H) :
    ReturnsInHanded {} Try.checked os 3 .any (Rows.fnExactValidSensorSpec.pre6 enc Try.prog Try.f3 Rows.fnExactValidSensorRow.domain false) (Rows.fnExactValidSensorSpec.post enc Try.prog Try.f3 false true false false) := by
  refine returnsInHanded_of_change (C := Try.checked) own started (by kernel_rfl) Try.func3
    (ChangeSpec.witness6 (enc := enc) (C := Try.checked) false ⟨#[], #[.agg #[.string ⟨#[]⟩, .int .i64 0, .int .i64 0, .int .i64 0, .int .i64 0]], []⟩ 8 (by kernel_rfl) (by kernel_rfl) (by kernel_rfl) (by kernel_rfl)) ?_
  intro W base args ds gs before hval hW _ _
  have hds : Rows.fnExactValidSensorSpec.fn H (ds ++ gs) = { results := [.lit (.bool true)], args := ds } := by
    obtain ⟨p, q, hA, hV, _⟩ := id hW
    obtain ⟨rfl, _⟩ := trodVars_none hV
    have hl := trodAll_len hA
    have hn : Try.f3.params.toList.length = 1 := by rw [Try.params3]; rfl
    rw [hn] at hl
    rw [List.append_nil]
    match ds, hl with
    | [d0], _ => rfl
  exact law_calls (tb := 4) (by kernel_rfl) (by kernel_rfl) (by kernel_rfl) (by kernel_rfl) (by kernel_rfl) Try.underlying4 rfl sem hval hW hds

theorem over : Rows.fnExactValidSensorRow.holds Try.pinned (OpenSpec.ofChange Rows.fnExactValidSensorSpec) :=
  OpenClaim.holds_of_wide 3 Try.f3 rfl rfl rfl rfl rfl rfl rfl ⟨rfl, rfl, rfl, rfl, rfl⟩ rfl rfl rfl rfl rfl (by kernel_rfl) Try.func3 (by kernel_rfl)
    (of_decide_eq_true (by kernel_rfl)) (by unfold Func.isWrapper; first | (rw [if_pos (by decide +kernel)]; kernel_rfl) | (rw [if_neg (by decide +kernel)]; exact ⟨rfl, rfl⟩))
    (fun os started H enc _ => lifted os started H enc)

theorem proved : Rows.FnExactValidSensorSaid :=
  over
#print axioms proved
end Go.Proofs.Ytkpbogjkgladiaa.fnExactValidSensor
