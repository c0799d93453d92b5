/- The statement: FnCalm returns true for every input, and each argument reads afterwards as it read before. No conditions. -/
import Derived.Test.YtnmfbdkiehickaaRows
import Derived.Test.YtnmfbdkiehickaaS15
namespace Go.Proofs.Ytnmfbdkiehickaa.fnCalm
open Go.ChangeShapes Go.WideShapes Go.ChangeAt Go.RowKit Go.Av
set_option maxRecDepth 100000
set_option linter.unusedVariables false

theorem own : ownKnob Try.prog.godebug = none := by kernel_rfl
theorem sh22 : shOf Try.prog 6 22 = some [.sl [.ik .u8]] := by kernel_rfl
theorem ns22 : ∀ fs, Try.prog.underlying 22 ≠ some (.struct fs) := fun fs h => by rw [Try.underlying22] at h; cases h
theorem sem (avs : List AV) (h : ArgsOf Try.prog 6 Try.f4.params.toList avs) : FnSem Try.prog 4 avs [] (Is [Bo true] []) := by
  rw [Try.params4] at h
  obtain ⟨ps0, r0, f0, rfl, h0⟩ := ArgsOf.cons sh22 h
  obtain ⟨p0, e0, rfl, g0, f0⟩ := f0.cons
  obtain rfl := f0.nil
  obtain ⟨x0, rfl⟩ := fit_LY g0
  rw [argAV_l ns22]
  obtain rfl : _ = [] := h0
  exact c_laws_FnCalm x0

theorem lifted (os : Os) (started : os.Started) (H : Type) (enc : TypeId × Value → H) :
    ReturnsInHanded {} Try.checked os 4 .any (Rows.fnCalmSpec.pre6 enc Try.prog Try.f4 Rows.fnCalmRow.domain false) (Rows.fnCalmSpec.post enc Try.prog Try.f4 false true false false) := by
  refine returnsInHanded_of_change (C := Try.checked) own started (by kernel_rfl) Try.func4
    (ChangeSpec.witness6 (enc := enc) (C := Try.checked) false ⟨#[], #[.slice none 0 0], []⟩ 8 (by kernel_rfl) (by kernel_rfl) (by kernel_rfl) (by kernel_rfl)) ?_
  intro W base args ds gs before hval hW _ _
  have hds : Rows.fnCalmSpec.fn H (ds ++ gs) = { results := [.lit (.bool true)], args := ds } := by
    obtain ⟨p, q, hA, hV, _⟩ := id hW
    obtain ⟨rfl, _⟩ := trodVars_none hV
    have hl := trodAll_len hA
    have hn : Try.f4.params.toList.length = 1 := by rw [Try.params4]; rfl
    rw [hn] at hl
    rw [List.append_nil]
    match ds, hl with
    | [d0], _ => rfl
  exact law_calls (tb := 4) (by kernel_rfl) (by kernel_rfl) (by kernel_rfl) (by kernel_rfl) (by kernel_rfl) Try.underlying4 rfl sem hval hW hds

theorem over : Rows.fnCalmRow.holds Try.pinned (OpenSpec.ofChange Rows.fnCalmSpec) :=
  OpenClaim.holds_of_wide 4 Try.f4 rfl rfl rfl rfl rfl rfl rfl ⟨rfl, rfl, rfl, rfl, rfl⟩ rfl rfl rfl rfl rfl (by kernel_rfl) Try.func4 (by kernel_rfl)
    (of_decide_eq_true (by kernel_rfl)) (by unfold Func.isWrapper; first | (rw [if_pos (by decide +kernel)]; kernel_rfl) | (rw [if_neg (by decide +kernel)]; exact ⟨rfl, rfl⟩))
    (fun os started H enc _ => lifted os started H enc)

theorem proved : Rows.FnCalmSaid :=
  over
#print axioms proved
end Go.Proofs.Ytnmfbdkiehickaa.fnCalm
