/- The statement: FnExactFewestMasks returns true for every input, and each argument reads afterwards as it read before. No conditions. -/
import Derived.Test.YtnmfbdkiehickaaRows
import Derived.Test.YtnmfbdkiehickaaE11
namespace Go.Proofs.Ytnmfbdkiehickaa.fnExactFewestMasks
open Go.ChangeShapes Go.WideShapes Go.ChangeAt Go.RowKit Go.Av
set_option maxRecDepth 100000
set_option linter.unusedVariables false

theorem own : ownKnob Try.prog.godebug = none := by kernel_rfl
theorem sh2 : shOf Try.prog 6 2 = some [.ik .i64] := by kernel_rfl
theorem ns2 : ∀ fs, Try.prog.underlying 2 ≠ some (.struct fs) := fun fs h => by rw [Try.underlying2] at h; cases h
theorem sh52 : shOf Try.prog 6 52 = some [.sl [.sl [.ik .i64]]] := by kernel_rfl
theorem ns52 : ∀ fs, Try.prog.underlying 52 ≠ some (.struct fs) := fun fs h => by rw [Try.underlying52] at h; cases h
theorem sh63 : shOf Try.prog 6 63 = some [.sl [.ik .i64, .ik .i64, .ik .i64, .ik .i64]] := by kernel_rfl
theorem ns63 : ∀ fs, Try.prog.underlying 63 ≠ some (.struct fs) := fun fs h => by rw [Try.underlying63] at h; cases h
theorem sem (avs : List AV) (h : ArgsOf Try.prog 6 Try.f9.params.toList avs) : FnSem Try.prog 9 avs [] (Is [Bo true] []) := by
  rw [Try.params9] at h
  obtain ⟨ps0, r0, f0, rfl, h0⟩ := ArgsOf.cons sh63 h
  obtain ⟨p0, e0, rfl, g0, f0⟩ := f0.cons
  obtain rfl := f0.nil
  obtain ⟨x0, rfl⟩ := fit_sl GDusting.cells (fun e => fitL_Dusting) g0
  rw [argAV_l ns63]
  obtain ⟨ps1, r1, f1, rfl, h1⟩ := ArgsOf.cons sh52 h0
  obtain ⟨p1, e1, rfl, g1, f1⟩ := f1.cons
  obtain rfl := f1.nil
  obtain ⟨x1, rfl⟩ := fit_LLI g1
  rw [argAV_l ns52]
  obtain ⟨ps2, r2, f2, rfl, h2⟩ := ArgsOf.cons sh2 h1
  obtain ⟨p2, e2, rfl, g2, f2⟩ := f2.cons
  obtain rfl := f2.nil
  obtain ⟨x2, rfl⟩ := fit_i g2
  rw [argAV_c ns2]
  obtain ⟨ps3, r3, f3, rfl, h3⟩ := ArgsOf.cons sh2 h2
  obtain ⟨p3, e3, rfl, g3, f3⟩ := f3.cons
  obtain rfl := f3.nil
  obtain ⟨x3, rfl⟩ := fit_i g3
  rw [argAV_c ns2]
  obtain ⟨ps4, r4, f4, rfl, h4⟩ := ArgsOf.cons sh2 h3
  obtain ⟨p4, e4, rfl, g4, f4⟩ := f4.cons
  obtain rfl := f4.nil
  obtain ⟨x4, rfl⟩ := fit_i g4
  rw [argAV_c ns2]
  obtain rfl : _ = [] := h4
  exact c_laws_FnExactFewestMasks x0 x1 x2 x3 x4

theorem lifted (os : Os) (started : os.Started) (H : Type) (enc : TypeId × Value → H) :
    ReturnsInHanded {} Try.checked os 9 .any (Rows.fnExactFewestMasksSpec.pre6 enc Try.prog Try.f9 Rows.fnExactFewestMasksRow.domain false) (Rows.fnExactFewestMasksSpec.post enc Try.prog Try.f9 false true false false) := by
  refine returnsInHanded_of_change (C := Try.checked) own started (by kernel_rfl) Try.func9
    (ChangeSpec.witness6 (enc := enc) (C := Try.checked) false ⟨#[], #[.slice none 0 0, .slice none 0 0, .int .i64 0, .int .i64 0, .int .i64 0], []⟩ 8 (by kernel_rfl) (by kernel_rfl) (by kernel_rfl) (by kernel_rfl)) ?_
  intro W base args ds gs before hval hW _ _
  have hds : Rows.fnExactFewestMasksSpec.fn H (ds ++ gs) = { results := [.lit (.bool true)], args := ds } := by
    obtain ⟨p, q, hA, hV, _⟩ := id hW
    obtain ⟨rfl, _⟩ := trodVars_none hV
    have hl := trodAll_len hA
    have hn : Try.f9.params.toList.length = 5 := by rw [Try.params9]; rfl
    rw [hn] at hl
    rw [List.append_nil]
    match ds, hl with
    | [d0, d1, d2, d3, d4], _ => rfl
  exact law_calls (tb := 4) (by kernel_rfl) (by kernel_rfl) (by kernel_rfl) (by kernel_rfl) (by kernel_rfl) Try.underlying4 rfl sem hval hW hds

theorem over : Rows.fnExactFewestMasksRow.holds Try.pinned (OpenSpec.ofChange Rows.fnExactFewestMasksSpec) :=
  OpenClaim.holds_of_wide 9 Try.f9 rfl rfl rfl rfl rfl rfl rfl ⟨rfl, rfl, rfl, rfl, rfl⟩ rfl rfl rfl rfl rfl (by kernel_rfl) Try.func9 (by kernel_rfl)
    (of_decide_eq_true (by kernel_rfl)) (by unfold Func.isWrapper; first | (rw [if_pos (by decide +kernel)]; kernel_rfl) | (rw [if_neg (by decide +kernel)]; exact ⟨rfl, rfl⟩))
    (fun os started H enc _ => lifted os started H enc)

theorem proved : Rows.FnExactFewestMasksSaid :=
  over
#print axioms proved
end Go.Proofs.Ytnmfbdkiehickaa.fnExactFewestMasks
