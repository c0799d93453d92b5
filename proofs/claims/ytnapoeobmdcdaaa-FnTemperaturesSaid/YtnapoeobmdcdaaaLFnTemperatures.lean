/- The statement: FnTemperatures returns true for every input, and each argument reads afterwards as it read before. No conditions. -/
import Derived.Test.YtnapoeobmdcdaaaRows
import Derived.Test.YtnapoeobmdcdaaaY10
namespace Go.Proofs.Ytnapoeobmdcdaaa.fnTemperatures
open Go.ChangeShapes Go.WideShapes Go.ChangeAt Go.RowKit Go.Av
set_option maxRecDepth 100000
set_option linter.unusedVariables false

theorem own : ownKnob Try.prog.godebug = none := by kernel_rfl
theorem sh22 : shOf Try.prog 6 22 = some [.sl [.ik .u8]] := by kernel_rfl
theorem ns22 : ∀ fs, Try.prog.underlying 22 ≠ some (.struct fs) := fun fs h => by rw [Try.underlying22] at h; cases h
theorem sem (avs : List AV) (h : ArgsOf Try.prog 6 Try.f9.params.toList avs) : FnSem Try.prog 9 avs [] (Is [Bo true] []) := by
  rw [Try.params9] at h
  obtain ⟨ps0, r0, f0, rfl, h0⟩ := ArgsOf.cons sh22 h
  obtain ⟨p0, e0, rfl, g0, f0⟩ := f0.cons
  obtain rfl := f0.nil
  obtain ⟨x0, rfl⟩ := fit_LY g0
  rw [argAV_l ns22]
  obtain rfl : _ = [] := h0
  exact c_laws_FnTemperatures x0

theorem lifted (os : Os) (started : os.Started) (H : Type) (enc : TypeId × Value → H) :
    ReturnsInHanded {} Try.checked os 9 .any (Rows.fnTemperaturesSpec.pre6 enc Try.prog Try.f9 Rows.fnTemperaturesRow.domain false) (Rows.fnTemperaturesSpec.post enc Try.prog Try.f9 false true false false) := by
  refine returnsInHanded_of_change (C := Try.checked) own started (by kernel_rfl) Try.func9
    (ChangeSpec.witness6 (enc := enc) (C := Try.checked) false ⟨#[], #[.slice none 0 0], []⟩ 8 (by kernel_rfl) (by kernel_rfl) (by kernel_rfl) (by kernel_rfl)) ?_
  intro W base args ds gs before hval hW _ _
  have hds : Rows.fnTemperaturesSpec.fn H (ds ++ gs) = { results := [.lit (.bool true)], args := ds } := by
    obtain ⟨p, q, hA, hV, _⟩ := id hW
    obtain ⟨rfl, _⟩ := trodVars_none hV
    have hl := trodAll_len hA
    have hn : Try.f9.params.toList.length = 1 := by rw [Try.params9]; rfl
    rw [hn] at hl
    rw [List.append_nil]
    match ds, hl with
    | [d0], _ => rfl
  exact law_calls (tb := 4) (by kernel_rfl) (by kernel_rfl) (by kernel_rfl) (by kernel_rfl) (by kernel_rfl) Try.underlying4 rfl trivial sem hval hW hds

theorem and_t {a b : Bool} (h : a = true) (k : b = true) : (a && b) = true := by rw [h, k]; rfl
theorem j0 : (Rows.fnTemperaturesRow.wf (OpenSpec.ofChange Rows.fnTemperaturesSpec)) = true := by kernel_rfl
theorem j1 : (laidOutB Try.prog) = true := by kernel_rfl
theorem j2 : (mapsRowed Try.prog) = true := by kernel_rfl
theorem j3 : (Try.f9.params.all (Try.prog.readableRec ·)) = true := by kernel_rfl
theorem j4 : (namedTie Try.prog Rows.fnTemperaturesRow.named Rows.fnTemperaturesSpec.vars) = true := by kernel_rfl
theorem j5 : ((Rows.fnTemperaturesRow.stops == [])) = true := by kernel_rfl
theorem j6 : ((Try.prog.stops == [])) = true := by kernel_rfl
theorem j7 : ((Rows.fnTemperaturesRow.knobs == [])) = true := by kernel_rfl
theorem j8 : ((Try.prog.stopKnobs == [])) = true := by kernel_rfl
theorem j9 : ((Rows.fnTemperaturesRow.inPlace == Try.prog.inPlace 9)) = true := by kernel_rfl
theorem j10 : ((Rows.fnTemperaturesRow.unfollowed == Try.prog.unfollowed 9)) = true := by kernel_rfl
theorem j11 : ((Rows.fnTemperaturesRow.recurses == Try.prog.recurses 9)) = true := by kernel_rfl
theorem j12 : ((Rows.fnTemperaturesRow.named == Try.prog.varsNamed 9)) = true := by kernel_rfl
theorem j13 : ((Rows.fnTemperaturesRow.maps == (Try.f9.params.toList ++ Rows.fnTemperaturesSpec.plain.varTypes Try.prog).any (Try.prog.mapsRec ·))) = true := by kernel_rfl
theorem j14 : ((Rows.fnTemperaturesRow.ifaces == (Try.f9.params.toList ++ Rows.fnTemperaturesSpec.plain.varTypes Try.prog).any (Try.prog.ifacesRec ·))) = true := by kernel_rfl
theorem j15 : ((Rows.fnTemperaturesRow.mapsOut == Try.prog.mapsAmong Try.f9.resultTypes.toList)) = true := by kernel_rfl
theorem j16 : ((Rows.fnTemperaturesRow.loops == (Try.f9.params.toList ++ Rows.fnTemperaturesSpec.plain.varTypes Try.prog).any (Try.prog.loopsFrom ·))) = true := by kernel_rfl
theorem j17 : ((Rows.fnTemperaturesRow.wideKeys == (Try.f9.params.toList ++ Rows.fnTemperaturesSpec.plain.varTypes Try.prog ++ Try.f9.resultTypes.toList).any (Try.prog.wideKeysFrom ·))) = true := by kernel_rfl
theorem j18 : (Rows.fnTemperaturesSpec.vars.all (Try.prog.varReadable ·)) = true := by kernel_rfl
theorem j19 : (Try.f9.resultTypes.all (fun t => Try.prog.readableRec t && decide (t < Try.prog.types.size))) = true := by kernel_rfl
theorem j20 : ((Rows.fnTemperaturesRow.ifacesOut == Try.f9.resultTypes.toList.any (Try.prog.ifacesRec ·))) = true := by kernel_rfl
theorem j21 : ((Rows.fnTemperaturesRow.loopsOut == Try.f9.resultTypes.toList.any (Try.prog.loopsFrom ·))) = true := by kernel_rfl
theorem j22 : ((Rows.fnTemperaturesRow.plainKeys == Try.prog.plainKeys)) = true := by kernel_rfl
theorem j23 : (Rows.fnTemperaturesRow.shortTexts.isNone) = true := by kernel_rfl
theorem j24 : (Try.prog.stopsHeard) = true := by kernel_rfl
theorem j25 : (Try.prog.mayEnter) = true := by kernel_rfl
theorem j26 : ((Rows.fnTemperaturesRow.lifted == Try.prog.liftsFinal)) = true := by kernel_rfl
theorem j27 : ((Try.prog.make == some Rows.fnTemperaturesRow.make)) = true := by kernel_rfl
theorem j28 : ((Rows.fnTemperaturesRow.kinds == (if Rows.fnTemperaturesRow.domain.isEmpty then [] else Try.f9.params.toList.map fun t => match Try.prog.underlying t with | some (.int k) => some k | _ => none))) = true := by kernel_rfl
theorem j29 : ((Rows.fnTemperaturesRow.pinned == Rows.fnTemperaturesRow.pinnedBy)) = true := by kernel_rfl
theorem j30 : ((Rows.fnTemperaturesRow.veiled == (Try.f9.params.toList ++ Rows.fnTemperaturesSpec.plain.varTypes Try.prog ++ Try.f9.resultTypes.toList).any (Try.prog.veiledRec ·))) = true := by kernel_rfl
theorem j31 : (Rows.fnTemperaturesRow.veiledFits Try.prog Try.f9.params.toList (Try.f9.params.toList ++ Rows.fnTemperaturesSpec.plain.varTypes Try.prog ++ Try.f9.resultTypes.toList)) = true := by kernel_rfl
theorem joined : joinedFacts Try.prog 9 Try.f9 Rows.fnTemperaturesSpec Rows.fnTemperaturesRow = true := by
  unfold joinedFacts
  exact (and_t (and_t (and_t (and_t (and_t (and_t (and_t (and_t (and_t (and_t (and_t (and_t (and_t (and_t (and_t (and_t (and_t (and_t (and_t (and_t (and_t (and_t (and_t (and_t (and_t (and_t (and_t (and_t (and_t (and_t (and_t j0 j1) j2) j3) j4) j5) j6) j7) j8) j9) j10) j11) j12) j13) j14) j15) j16) j17) j18) j19) j20) j21) j22) j23) j24) j25) j26) j27) j28) j29) j30) j31)
theorem jf : Try.prog.funcNamed Rows.fnTemperaturesRow.func = some 9 := by kernel_rfl
theorem ji : Try.f9.isInstance Try.prog Rows.fnTemperaturesRow.origin Rows.fnTemperaturesRow.targs := of_decide_eq_true (by kernel_rfl)
theorem jw : Try.f9.isWrapper Try.prog Rows.fnTemperaturesRow.wrapper Rows.fnTemperaturesRow.mainSum := by unfold Func.isWrapper; first | (rw [if_pos (by decide +kernel)]; kernel_rfl) | (rw [if_neg (by decide +kernel)]; exact ⟨rfl, rfl⟩)
theorem over : Rows.fnTemperaturesRow.holds Try.pinned (OpenSpec.ofChange Rows.fnTemperaturesSpec) :=
  OpenClaim.holds_of_wide 9 Try.f9 rfl rfl rfl rfl rfl rfl rfl ⟨rfl, rfl, rfl, rfl, rfl⟩ rfl rfl rfl rfl rfl jf Try.func9 joined ji jw
    (fun os started H enc _ => lifted os started H enc)

theorem proved : Rows.FnTemperaturesSaid :=
  over
#print axioms proved
end Go.Proofs.Ytnapoeobmdcdaaa.fnTemperatures
