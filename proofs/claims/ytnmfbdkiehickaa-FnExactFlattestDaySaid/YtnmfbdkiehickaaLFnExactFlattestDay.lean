/- The statement: FnExactFlattestDay returns true for every input, and each argument reads afterwards as it read before. No conditions. -/
import Derived.Test.YtnmfbdkiehickaaRows
import Derived.Test.YtnmfbdkiehickaaS8
namespace Go.Proofs.Ytnmfbdkiehickaa.fnExactFlattestDay
open Go.ChangeShapes Go.WideShapes Go.ChangeAt Go.RowKit Go.Av
set_option maxRecDepth 100000
set_option linter.unusedVariables false

theorem own : ownKnob Try.prog.godebug = none := by kernel_rfl
theorem sh24 : shOf Try.prog 6 24 = some [.sl [.ik .i64]] := by kernel_rfl
theorem ns24 : ∀ fs, Try.prog.underlying 24 ≠ some (.struct fs) := fun fs h => by rw [Try.underlying24] at h; cases h
theorem sh43 : shOf Try.prog 6 43 = some [.sl [.ss, .ik .i64, .ik .i64]] := by kernel_rfl
theorem ns43 : ∀ fs, Try.prog.underlying 43 ≠ some (.struct fs) := fun fs h => by rw [Try.underlying43] at h; cases h
theorem sem (avs : List AV) (h : ArgsOf Try.prog 6 Try.f7.params.toList avs) : FnSem Try.prog 7 avs [] (Is [Bo true] []) := by
  rw [Try.params7] at h
  obtain ⟨ps0, r0, f0, rfl, h0⟩ := ArgsOf.cons sh43 h
  obtain ⟨p0, e0, rfl, g0, f0⟩ := f0.cons
  obtain rfl := f0.nil
  obtain ⟨x0, rfl⟩ := fit_sl GMode.cells (fun e => fitL_Mode) g0
  rw [argAV_l ns43]
  obtain ⟨ps1, r1, f1, rfl, h1⟩ := ArgsOf.cons sh24 h0
  obtain ⟨p1, e1, rfl, g1, f1⟩ := f1.cons
  obtain rfl := f1.nil
  obtain ⟨x1, rfl⟩ := fit_LI g1
  rw [argAV_l ns24]
  obtain ⟨ps2, r2, f2, rfl, h2⟩ := ArgsOf.cons sh24 h1
  obtain ⟨p2, e2, rfl, g2, f2⟩ := f2.cons
  obtain rfl := f2.nil
  obtain ⟨x2, rfl⟩ := fit_LI g2
  rw [argAV_l ns24]
  obtain rfl : _ = [] := h2
  exact c_laws_FnExactFlattestDay x0 x1 x2

theorem lifted (os : Os) (started : os.Started) (H : Type) (enc : TypeId × Value → H) :
    ReturnsInHanded {} Try.checked os 7 .any (Rows.fnExactFlattestDaySpec.pre6 enc Try.prog Try.f7 Rows.fnExactFlattestDayRow.domain false) (Rows.fnExactFlattestDaySpec.post enc Try.prog Try.f7 false true false false) := by
  refine returnsInHanded_of_change (C := Try.checked) own started (by kernel_rfl) Try.func7
    (ChangeSpec.witness6 (enc := enc) (C := Try.checked) false ⟨#[], #[.slice none 0 0, .slice none 0 0, .slice none 0 0], []⟩ 8 (by kernel_rfl) (by kernel_rfl) (by kernel_rfl) (by kernel_rfl)) ?_
  intro W base args ds gs before hval hW _ _
  have hds : Rows.fnExactFlattestDaySpec.fn H (ds ++ gs) = { results := [.lit (.bool true)], args := ds } := by
    obtain ⟨p, q, hA, hV, _⟩ := id hW
    obtain ⟨rfl, _⟩ := trodVars_none hV
    have hl := trodAll_len hA
    have hn : Try.f7.params.toList.length = 3 := by rw [Try.params7]; rfl
    rw [hn] at hl
    rw [List.append_nil]
    match ds, hl with
    | [d0, d1, d2], _ => rfl
  exact law_calls (tb := 4) (by kernel_rfl) (by kernel_rfl) (by kernel_rfl) (by kernel_rfl) (by kernel_rfl) Try.underlying4 rfl sem hval hW hds

theorem over : Rows.fnExactFlattestDayRow.holds Try.pinned (OpenSpec.ofChange Rows.fnExactFlattestDaySpec) :=
  OpenClaim.holds_of_wide 7 Try.f7 rfl rfl rfl rfl rfl rfl rfl ⟨rfl, rfl, rfl, rfl, rfl⟩ rfl rfl rfl rfl rfl (by kernel_rfl) Try.func7 (by kernel_rfl)
    (of_decide_eq_true (by kernel_rfl)) (by unfold Func.isWrapper; first | (rw [if_pos (by decide +kernel)]; kernel_rfl) | (rw [if_neg (by decide +kernel)]; exact ⟨rfl, rfl⟩))
    (fun os started H enc _ => lifted os started H enc)

theorem proved : Rows.FnExactFlattestDaySaid :=
  over
#print axioms proved
end Go.Proofs.Ytnmfbdkiehickaa.fnExactFlattestDay
