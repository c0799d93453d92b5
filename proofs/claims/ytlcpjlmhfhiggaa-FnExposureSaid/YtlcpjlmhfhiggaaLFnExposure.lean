/- The statement: FnExposure returns true for every input, and each argument reads afterwards as it read before. No conditions. -/
import Derived.Test.YtlcpjlmhfhiggaaRows
import Derived.Test.YtlcpjlmhfhiggaaE7
namespace Go.Proofs.Ytlcpjlmhfhiggaa.fnExposure
open Go.ChangeShapes Go.WideShapes Go.ChangeAt Go.RowKit Go.Av
set_option maxRecDepth 100000
set_option linter.unusedVariables false

theorem own : ownKnob Try.prog.godebug = none := by kernel_rfl
theorem sh51 : shOf Try.prog 6 51 = some [.sl [.ik .u8]] := by kernel_rfl
theorem ns51 : ∀ fs, Try.prog.underlying 51 ≠ some (.struct fs) := fun fs h => by rw [Try.underlying51] at h; cases h
theorem sem (avs : List AV) (h : ArgsOf Try.prog 6 Try.f10.params.toList avs) : FnSem Try.prog 10 avs [] (Is [Bo true] []) := by
  rw [Try.params10] at h
  obtain ⟨ps0, r0, f0, rfl, h0⟩ := ArgsOf.cons sh51 h
  obtain ⟨p0, e0, rfl, g0, f0⟩ := f0.cons
  obtain rfl := f0.nil
  obtain ⟨x0, rfl⟩ := fit_LY g0
  rw [argAV_l ns51]
  obtain ⟨ps1, r1, f1, rfl, h1⟩ := ArgsOf.cons sh51 h0
  obtain ⟨p1, e1, rfl, g1, f1⟩ := f1.cons
  obtain rfl := f1.nil
  obtain ⟨x1, rfl⟩ := fit_LY g1
  rw [argAV_l ns51]
  obtain rfl : _ = [] := h1
  exact c_laws_FnExposure x0 x1

theorem lifted (os : Os) (started : os.Started) (H : Type) (enc : TypeId × Value → H) :
    ReturnsInHanded {} Try.checked os 10 .any (Rows.fnExposureSpec.pre6 enc Try.prog Try.f10 Rows.fnExposureRow.domain false) (Rows.fnExposureSpec.post enc Try.prog Try.f10 false true false false) := by
  refine returnsInHanded_of_change (C := Try.checked) own started (by kernel_rfl) Try.func10
    (ChangeSpec.witness6 (enc := enc) (C := Try.checked) false ⟨#[], #[.slice none 0 0, .slice none 0 0], []⟩ 8 (by kernel_rfl) (by kernel_rfl) (by kernel_rfl) (by kernel_rfl)) ?_
  intro W base args ds gs before hval hW _ _
  have hds : Rows.fnExposureSpec.fn H (ds ++ gs) = { results := [.lit (.bool true)], args := ds } := by
    obtain ⟨p, q, hA, hV, _⟩ := id hW
    obtain ⟨rfl, _⟩ := trodVars_none hV
    have hl := trodAll_len hA
    have hn : Try.f10.params.toList.length = 2 := by rw [Try.params10]; rfl
    rw [hn] at hl
    rw [List.append_nil]
    match ds, hl with
    | [d0, d1], _ => rfl
  exact law_calls (tb := 4) (by kernel_rfl) (by kernel_rfl) (by kernel_rfl) (by kernel_rfl) (by kernel_rfl) Try.underlying4 rfl sem hval hW hds

theorem over : Rows.fnExposureRow.holds Try.pinned (OpenSpec.ofChange Rows.fnExposureSpec) :=
  OpenClaim.holds_of_wide 10 Try.f10 rfl rfl rfl rfl rfl rfl rfl ⟨rfl, rfl, rfl, rfl, rfl⟩ rfl rfl rfl rfl rfl (by kernel_rfl) Try.func10 (by kernel_rfl)
    (of_decide_eq_true (by kernel_rfl)) (by unfold Func.isWrapper; first | (rw [if_pos (by decide +kernel)]; kernel_rfl) | (rw [if_neg (by decide +kernel)]; exact ⟨rfl, rfl⟩))
    (fun os started H enc _ => lifted os started H enc)

theorem proved : Rows.FnExposureSaid :=
  over
#print axioms proved
end Go.Proofs.Ytlcpjlmhfhiggaa.fnExposure
