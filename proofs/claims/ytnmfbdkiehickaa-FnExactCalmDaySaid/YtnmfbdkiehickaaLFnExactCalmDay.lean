/- The statement: FnExactCalmDay returns true for every input, and each argument reads afterwards as it read before. No conditions. -/
import Derived.Test.YtnmfbdkiehickaaRows
import Derived.Test.YtnmfbdkiehickaaS11
namespace Go.Proofs.Ytnmfbdkiehickaa.fnExactCalmDay
open Go.ChangeShapes Go.WideShapes Go.ChangeAt Go.RowKit Go.Av
set_option maxRecDepth 100000
set_option linter.unusedVariables false

theorem own : ownKnob Try.prog.godebug = none := by kernel_rfl
theorem sh2 : shOf Try.prog 6 2 = some [.ik .i64] := by kernel_rfl
theorem ns2 : ∀ fs, Try.prog.underlying 2 ≠ some (.struct fs) := fun fs h => by rw [Try.underlying2] at h; cases h
theorem sh24 : shOf Try.prog 6 24 = some [.sl [.ik .i64]] := by kernel_rfl
theorem ns24 : ∀ fs, Try.prog.underlying 24 ≠ some (.struct fs) := fun fs h => by rw [Try.underlying24] at h; cases h
theorem sh43 : shOf Try.prog 6 43 = some [.sl [.ss, .ik .i64, .ik .i64]] := by kernel_rfl
theorem ns43 : ∀ fs, Try.prog.underlying 43 ≠ some (.struct fs) := fun fs h => by rw [Try.underlying43] at h; cases h
theorem sem (avs : List AV) (h : ArgsOf Try.prog 6 Try.f8.params.toList avs) : FnSem Try.prog 8 avs [] (Is [Bo true] []) := by
  rw [Try.params8] at h
  obtain ⟨ps0, r0, f0, rfl, h0⟩ := ArgsOf.cons sh43 h
  obtain ⟨p0, e0, rfl, g0, f0⟩ := f0.cons
  obtain rfl := f0.nil
  obtain ⟨x0, rfl⟩ := fit_sl GMode.cells (fun e => fitL_Mode) g0
  rw [argAV_l ns43]
  obtain ⟨ps1, r1, f1, rfl, h1⟩ := ArgsOf.cons sh24 h0
  obtain ⟨p1, e1, rfl, g1, f1⟩ := f1.cons
  obtain rfl := f1.nil
  obtain ⟨x1, rfl⟩ := fit_LI g1
  rw [argAV_l ns24]
  obtain ⟨ps2, r2, f2, rfl, h2⟩ := ArgsOf.cons sh24 h1
  obtain ⟨p2, e2, rfl, g2, f2⟩ := f2.cons
  obtain rfl := f2.nil
  obtain ⟨x2, rfl⟩ := fit_LI g2
  rw [argAV_l ns24]
  obtain ⟨ps3, r3, f3, rfl, h3⟩ := ArgsOf.cons sh2 h2
  obtain ⟨p3, e3, rfl, g3, f3⟩ := f3.cons
  obtain rfl := f3.nil
  obtain ⟨x3, rfl⟩ := fit_i g3
  rw [argAV_c ns2]
  obtain rfl : _ = [] := h3
  exact c_laws_FnExactCalmDay x0 x1 x2 x3

theorem lifted (os : Os) (started : os.Started) (H : Type) (enc : TypeId × Value → H) :
    ReturnsInHanded {} Try.checked os 8 .any (Rows.fnExactCalmDaySpec.pre6 enc Try.prog Try.f8 Rows.fnExactCalmDayRow.domain false) (Rows.fnExactCalmDaySpec.post enc Try.prog Try.f8 false true false false) := by
  refine returnsInHanded_of_change (C := Try.checked) own started (by kernel_rfl) Try.func8
    (ChangeSpec.witness6 (enc := enc) (C := Try.checked) false ⟨#[], #[.slice none 0 0, .slice none 0 0, .slice none 0 0, .int .i64 0], []⟩ 8 (by kernel_rfl) (by kernel_rfl) (by kernel_rfl) (by kernel_rfl)) ?_
  intro W base args ds gs before hval hW _ _
  have hds : Rows.fnExactCalmDaySpec.fn H (ds ++ gs) = { results := [.lit (.bool true)], args := ds } := by
    obtain ⟨p, q, hA, hV, _⟩ := id hW
    obtain ⟨rfl, _⟩ := trodVars_none hV
    have hl := trodAll_len hA
    have hn : Try.f8.params.toList.length = 4 := by rw [Try.params8]; rfl
    rw [hn] at hl
    rw [List.append_nil]
    match ds, hl with
    | [d0, d1, d2, d3], _ => rfl
  exact law_calls (tb := 4) (by kernel_rfl) (by kernel_rfl) (by kernel_rfl) (by kernel_rfl) (by kernel_rfl) Try.underlying4 rfl sem hval hW hds

theorem over : Rows.fnExactCalmDayRow.holds Try.pinned (OpenSpec.ofChange Rows.fnExactCalmDaySpec) :=
  OpenClaim.holds_of_wide 8 Try.f8 rfl rfl rfl rfl rfl rfl rfl ⟨rfl, rfl, rfl, rfl, rfl⟩ rfl rfl rfl rfl rfl (by kernel_rfl) Try.func8 (by kernel_rfl)
    (of_decide_eq_true (by kernel_rfl)) (by unfold Func.isWrapper; first | (rw [if_pos (by decide +kernel)]; kernel_rfl) | (rw [if_neg (by decide +kernel)]; exact ⟨rfl, rfl⟩))
    (fun os started H enc _ => lifted os started H enc)

theorem proved : Rows.FnExactCalmDaySaid :=
  over
#print axioms proved
end Go.Proofs.Ytnmfbdkiehickaa.fnExactCalmDay
