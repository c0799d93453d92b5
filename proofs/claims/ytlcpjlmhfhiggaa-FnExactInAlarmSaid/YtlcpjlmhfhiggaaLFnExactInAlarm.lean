/- The statement: FnExactInAlarm returns true for every input, and each argument reads afterwards as it read before. No conditions. -/
import Derived.Test.YtlcpjlmhfhiggaaRows
import Derived.Test.YtlcpjlmhfhiggaaK21
namespace Go.Proofs.Ytlcpjlmhfhiggaa.fnExactInAlarm
open Go.ChangeShapes Go.WideShapes Go.ChangeAt Go.RowKit Go.Av
set_option maxRecDepth 100000
set_option linter.unusedVariables false

theorem own : ownKnob Try.prog.godebug = none := by kernel_rfl
theorem sh2 : shOf Try.prog 6 2 = some [.ik .i64] := by kernel_rfl
theorem ns2 : ∀ fs, Try.prog.underlying 2 ≠ some (.struct fs) := fun fs h => by rw [Try.underlying2] at h; cases h
theorem sh31 : shOf Try.prog 6 31 = some [.sl [.ik .i64]] := by kernel_rfl
theorem ns31 : ∀ fs, Try.prog.underlying 31 ≠ some (.struct fs) := fun fs h => by rw [Try.underlying31] at h; cases h
theorem sh41 : shOf Try.prog 6 41 = some [.ss, .ik .i64, .ik .i64, .ik .i64, .ik .i64] := by kernel_rfl
theorem sem (avs : List AV) (h : ArgsOf Try.prog 6 Try.f5.params.toList avs) : FnSem Try.prog 5 avs [] (Is [Bo true] []) := by
  rw [Try.params5] at h
  obtain ⟨ps0, r0, f0, rfl, h0⟩ := ArgsOf.cons sh41 h
  obtain ⟨x0, rfl⟩ := fitL_Sensor f0
  rw [argAV_struct Try.underlying41]
  obtain ⟨ps1, r1, f1, rfl, h1⟩ := ArgsOf.cons sh31 h0
  obtain ⟨p1, e1, rfl, g1, f1⟩ := f1.cons
  obtain rfl := f1.nil
  obtain ⟨x1, rfl⟩ := fit_LI g1
  rw [argAV_l ns31]
  obtain ⟨ps2, r2, f2, rfl, h2⟩ := ArgsOf.cons sh2 h1
  obtain ⟨p2, e2, rfl, g2, f2⟩ := f2.cons
  obtain rfl := f2.nil
  obtain ⟨x2, rfl⟩ := fit_i g2
  rw [argAV_c ns2]
  obtain rfl : _ = [] := h2
  exact c_laws_FnExactInAlarm x0 x1 x2

theorem lifted (os : Os) (started : os.Started) (H : Type) (enc : TypeId × Value → H) :
    ReturnsInHanded {} Try.checked os 5 .any (Rows.fnExactInAlarmSpec.pre6 enc Try.prog Try.f5 Rows.fnExactInAlarmRow.domain false) (Rows.fnExactInAlarmSpec.post enc Try.prog Try.f5 false true false false) := by
  refine returnsInHanded_of_change (C := Try.checked) own started (by kernel_rfl) Try.func5
    (ChangeSpec.witness6 (enc := enc) (C := Try.checked) false ⟨#[], #[.agg #[.string ⟨#[]⟩, .int .i64 0, .int .i64 0, .int .i64 0, .int .i64 0], .slice none 0 0, .int .i64 0], []⟩ 8 (by kernel_rfl) (by kernel_rfl) (by kernel_rfl) (by kernel_rfl)) ?_
  intro W base args ds gs before hval hW _ _
  have hds : Rows.fnExactInAlarmSpec.fn H (ds ++ gs) = { results := [.lit (.bool true)], args := ds } := by
    obtain ⟨p, q, hA, hV, _⟩ := id hW
    obtain ⟨rfl, _⟩ := trodVars_none hV
    have hl := trodAll_len hA
    have hn : Try.f5.params.toList.length = 3 := by rw [Try.params5]; rfl
    rw [hn] at hl
    rw [List.append_nil]
    match ds, hl with
    | [d0, d1, d2], _ => rfl
  exact law_calls (tb := 4) (by kernel_rfl) (by kernel_rfl) (by kernel_rfl) (by kernel_rfl) (by kernel_rfl) Try.underlying4 rfl sem hval hW hds

theorem over : Rows.fnExactInAlarmRow.holds Try.pinned (OpenSpec.ofChange Rows.fnExactInAlarmSpec) :=
  OpenClaim.holds_of_wide 5 Try.f5 rfl rfl rfl rfl rfl rfl rfl ⟨rfl, rfl, rfl, rfl, rfl⟩ rfl rfl rfl rfl rfl (by kernel_rfl) Try.func5 (by kernel_rfl)
    (of_decide_eq_true (by kernel_rfl)) (by unfold Func.isWrapper; first | (rw [if_pos (by decide +kernel)]; kernel_rfl) | (rw [if_neg (by decide +kernel)]; exact ⟨rfl, rfl⟩))
    (fun os started H enc _ => lifted os started H enc)

theorem proved : Rows.FnExactInAlarmSaid :=
  over
#print axioms proved
end Go.Proofs.Ytlcpjlmhfhiggaa.fnExactInAlarm
