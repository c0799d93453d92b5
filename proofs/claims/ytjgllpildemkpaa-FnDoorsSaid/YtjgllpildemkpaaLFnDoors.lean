/- The statement: FnDoors returns true for every input, and each argument reads afterwards as it read before. No conditions. -/
import Derived.Test.YtjgllpildemkpaaRows
import Derived.Test.YtjgllpildemkpaaD11
namespace Go.Proofs.Ytjgllpildemkpaa.fnDoors
open Go.ChangeShapes Go.WideShapes Go.ChangeAt Go.RowKit Go.Av
set_option maxRecDepth 100000
set_option linter.unusedVariables false

theorem own : ownKnob Try.prog.godebug = none := by kernel_rfl
theorem sh22 : shOf Try.prog 6 22 = some [.sl [.ik .u8]] := by kernel_rfl
theorem ns22 : ∀ fs, Try.prog.underlying 22 ≠ some (.struct fs) := fun fs h => by rw [Try.underlying22] at h; cases h
theorem sem (avs : List AV) (h : ArgsOf Try.prog 6 Try.f3.params.toList avs) : FnSem Try.prog 3 avs [] (Is [Bo true] []) := by
  rw [Try.params3] at h
  obtain ⟨ps0, r0, f0, rfl, h0⟩ := ArgsOf.cons sh22 h
  obtain ⟨p0, e0, rfl, g0, f0⟩ := f0.cons
  obtain rfl := f0.nil
  obtain ⟨x0, rfl⟩ := fit_LY g0
  rw [argAV_l ns22]
  obtain ⟨ps1, r1, f1, rfl, h1⟩ := ArgsOf.cons sh22 h0
  obtain ⟨p1, e1, rfl, g1, f1⟩ := f1.cons
  obtain rfl := f1.nil
  obtain ⟨x1, rfl⟩ := fit_LY g1
  rw [argAV_l ns22]
  obtain rfl : _ = [] := h1
  exact c_laws_FnDoors x0 x1

theorem lifted (os : Os) (started : os.Started) (H : Type) (enc : TypeId × Value → H) :
    ReturnsInHanded {} Try.checked os 3 .any (Rows.fnDoorsSpec.pre6 enc Try.prog Try.f3 Rows.fnDoorsRow.domain false) (Rows.fnDoorsSpec.post enc Try.prog Try.f3 false true false false) := by
  refine returnsInHanded_of_change (C := Try.checked) own started (by kernel_rfl) Try.func3
    (ChangeSpec.witness6 (enc := enc) (C := Try.checked) false ⟨#[], #[.slice none 0 0, .slice none 0 0], []⟩ 8 (by kernel_rfl) (by kernel_rfl) (by kernel_rfl) (by kernel_rfl)) ?_
  intro W base args ds gs before hval hW _ _
  have hds : Rows.fnDoorsSpec.fn H (ds ++ gs) = { results := [.lit (.bool true)], args := ds } := by
    obtain ⟨p, q, hA, hV, _⟩ := id hW
    obtain ⟨rfl, _⟩ := trodVars_none hV
    have hl := trodAll_len hA
    have hn : Try.f3.params.toList.length = 2 := by rw [Try.params3]; rfl
    rw [hn] at hl
    rw [List.append_nil]
    match ds, hl with
    | [d0, d1], _ => rfl
  exact law_calls (tb := 4) (by kernel_rfl) (by kernel_rfl) (by kernel_rfl) (by kernel_rfl) (by kernel_rfl) Try.underlying4 rfl sem hval hW hds

theorem over : Rows.fnDoorsRow.holds Try.pinned (OpenSpec.ofChange Rows.fnDoorsSpec) :=
  OpenClaim.holds_of_wide 3 Try.f3 rfl rfl rfl rfl rfl rfl rfl ⟨rfl, rfl, rfl, rfl, rfl⟩ rfl rfl rfl rfl rfl (by kernel_rfl) Try.func3 (by kernel_rfl)
    (of_decide_eq_true (by kernel_rfl)) (by unfold Func.isWrapper; first | (rw [if_pos (by decide +kernel)]; kernel_rfl) | (rw [if_neg (by decide +kernel)]; exact ⟨rfl, rfl⟩))
    (fun os started H enc _ => lifted os started H enc)

theorem proved : Rows.FnDoorsSaid :=
  over
#print axioms proved
end Go.Proofs.Ytjgllpildemkpaa.fnDoors
