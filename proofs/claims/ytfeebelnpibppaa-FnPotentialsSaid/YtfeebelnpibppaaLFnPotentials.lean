/- The statement: FnPotentials returns true for every input, and each argument reads afterwards as it read before. No conditions. -/
import Derived.Test.YtfeebelnpibppaaRows
import Derived.Test.YtfeebelnpibppaaP9
namespace Go.Proofs.Ytfeebelnpibppaa.fnPotentials
open Go.ChangeShapes Go.WideShapes Go.ChangeAt Go.RowKit Go.Av
set_option maxRecDepth 100000
set_option linter.unusedVariables false

theorem own : ownKnob Try.prog.godebug = none := by kernel_rfl
theorem sh22 : shOf Try.prog 6 22 = some [.sl [.ik .u8]] := by kernel_rfl
theorem ns22 : ∀ fs, Try.prog.underlying 22 ≠ some (.struct fs) := fun fs h => by rw [Try.underlying22] at h; cases h
theorem sem (avs : List AV) (h : ArgsOf Try.prog 6 Try.f4.params.toList avs) : FnSem Try.prog 4 avs [] (Is [Bo true] []) := by
  rw [Try.params4] at h
  obtain ⟨ps0, r0, f0, rfl, h0⟩ := ArgsOf.cons sh22 h
  obtain ⟨p0, e0, rfl, g0, f0⟩ := f0.cons
  obtain rfl := f0.nil
  obtain ⟨x0, rfl⟩ := fit_LY g0
  rw [argAV_l ns22]
  obtain rfl : _ = [] := h0
  exact c_laws_FnPotentials x0

theorem lifted (os : Os) (started : os.Started) (H : Type) (enc : TypeId × Value → H) :
    ReturnsInHanded {} Try.checked os 4 .any (Rows.fnPotentialsSpec.pre6 enc Try.prog Try.f4 Rows.fnPotentialsRow.domain false) (Rows.fnPotentialsSpec.post enc Try.prog Try.f4 false true false false) := by
  refine returnsInHanded_of_change (C := Try.checked) own started (by kernel_rfl) Try.func4
    (ChangeSpec.witness6 (enc := enc) (C := Try.checked) false ⟨#[], #[.slice none 0 0], []⟩ 8 (by kernel_rfl) (by kernel_rfl) (by kernel_rfl) (by kernel_rfl)) ?_
  intro W base args ds gs before hval hW _ _
  have hds : Rows.fnPotentialsSpec.fn H (ds ++ gs) = { results := [.lit (.bool true)], args := ds } := by
    obtain ⟨p, q, hA, hV, _⟩ := id hW
    obtain ⟨rfl, _⟩ := trodVars_none hV
    have hl := trodAll_len hA
    have hn : Try.f4.params.toList.length = 1 := by rw [Try.params4]; rfl
    rw [hn] at hl
    rw [List.append_nil]
    match ds, hl with
    | [d0], _ => rfl
  exact law_calls (tb := 4) (by kernel_rfl) (by kernel_rfl) (by kernel_rfl) (by kernel_rfl) (by kernel_rfl) Try.underlying4 rfl trivial sem hval hW hds

theorem and_t {a b : Bool} (h : a = true) (k : b = true) : (a && b) = true := by rw [h, k]; rfl
theorem j0 : (Rows.fnPotentialsRow.wf (OpenSpec.ofChange Rows.fnPotentialsSpec)) = true := by kernel_rfl
theorem j1 : (laidOutB Try.prog) = true := by kernel_rfl
theorem j2 : (mapsRowed Try.prog) = true := by kernel_rfl
theorem j3 : (Try.f4.params.all (Try.prog.readableRec ·)) = true := by kernel_rfl
theorem j4 : (namedTie Try.prog Rows.fnPotentialsRow.named Rows.fnPotentialsSpec.vars) = true := by kernel_rfl
theorem j5 : ((Rows.fnPotentialsRow.stops == [])) = true := by kernel_rfl
theorem j6 : ((Try.prog.stops == [])) = true := by kernel_rfl
theorem j7 : ((Rows.fnPotentialsRow.knobs == [])) = true := by kernel_rfl
theorem j8 : ((Try.prog.stopKnobs == [])) = true := by kernel_rfl
theorem j9 : ((Rows.fnPotentialsRow.inPlace == Try.prog.inPlace 4)) = true := by kernel_rfl
theorem j10 : ((Rows.fnPotentialsRow.unfollowed == Try.prog.unfollowed 4)) = true := by kernel_rfl
theorem j11 : ((Rows.fnPotentialsRow.recurses == Try.prog.recurses 4)) = true := by kernel_rfl
theorem j12 : ((Rows.fnPotentialsRow.named == Try.prog.varsNamed 4)) = true := by kernel_rfl
theorem j13 : ((Rows.fnPotentialsRow.maps == (Try.f4.params.toList ++ Rows.fnPotentialsSpec.plain.varTypes Try.prog).any (Try.prog.mapsRec ·))) = true := by kernel_rfl
theorem j14 : ((Rows.fnPotentialsRow.ifaces == (Try.f4.params.toList ++ Rows.fnPotentialsSpec.plain.varTypes Try.prog).any (Try.prog.ifacesRec ·))) = true := by kernel_rfl
theorem j15 : ((Rows.fnPotentialsRow.mapsOut == Try.prog.mapsAmong Try.f4.resultTypes.toList)) = true := by kernel_rfl
theorem j16 : ((Rows.fnPotentialsRow.loops == (Try.f4.params.toList ++ Rows.fnPotentialsSpec.plain.varTypes Try.prog).any (Try.prog.loopsFrom ·))) = true := by kernel_rfl
theorem j17 : ((Rows.fnPotentialsRow.wideKeys == (Try.f4.params.toList ++ Rows.fnPotentialsSpec.plain.varTypes Try.prog ++ Try.f4.resultTypes.toList).any (Try.prog.wideKeysFrom ·))) = true := by kernel_rfl
theorem j18 : (Rows.fnPotentialsSpec.vars.all (Try.prog.varReadable ·)) = true := by kernel_rfl
theorem j19 : (Try.f4.resultTypes.all (fun t => Try.prog.readableRec t && decide (t < Try.prog.types.size))) = true := by kernel_rfl
theorem j20 : ((Rows.fnPotentialsRow.ifacesOut == Try.f4.resultTypes.toList.any (Try.prog.ifacesRec ·))) = true := by kernel_rfl
theorem j21 : ((Rows.fnPotentialsRow.loopsOut == Try.f4.resultTypes.toList.any (Try.prog.loopsFrom ·))) = true := by kernel_rfl
theorem j22 : ((Rows.fnPotentialsRow.plainKeys == Try.prog.plainKeys)) = true := by kernel_rfl
theorem j23 : (Rows.fnPotentialsRow.shortTexts.isNone) = true := by kernel_rfl
theorem j24 : (Try.prog.stopsHeard) = true := by kernel_rfl
theorem j25 : (Try.prog.mayEnter) = true := by kernel_rfl
theorem j26 : ((Rows.fnPotentialsRow.lifted == Try.prog.liftsFinal)) = true := by kernel_rfl
theorem j27 : ((Try.prog.make == some Rows.fnPotentialsRow.make)) = true := by kernel_rfl
theorem j28 : ((Rows.fnPotentialsRow.kinds == (if Rows.fnPotentialsRow.domain.isEmpty then [] else Try.f4.params.toList.map fun t => match Try.prog.underlying t with | some (.int k) => some k | _ => none))) = true := by kernel_rfl
theorem j29 : ((Rows.fnPotentialsRow.pinned == Rows.fnPotentialsRow.pinnedBy)) = true := by kernel_rfl
theorem j30 : ((Rows.fnPotentialsRow.veiled == (Try.f4.params.toList ++ Rows.fnPotentialsSpec.plain.varTypes Try.prog ++ Try.f4.resultTypes.toList).any (Try.prog.veiledRec ·))) = true := by kernel_rfl
theorem j31 : (Rows.fnPotentialsRow.veiledFits Try.prog Try.f4.params.toList (Try.f4.params.toList ++ Rows.fnPotentialsSpec.plain.varTypes Try.prog ++ Try.f4.resultTypes.toList)) = true := by kernel_rfl
theorem joined : joinedFacts Try.prog 4 Try.f4 Rows.fnPotentialsSpec Rows.fnPotentialsRow = true := by
  unfold joinedFacts
  exact (and_t (and_t (and_t (and_t (and_t (and_t (and_t (and_t (and_t (and_t (and_t (and_t (and_t (and_t (and_t (and_t (and_t (and_t (and_t (and_t (and_t (and_t (and_t (and_t (and_t (and_t (and_t (and_t (and_t (and_t (and_t j0 j1) j2) j3) j4) j5) j6) j7) j8) j9) j10) j11) j12) j13) j14) j15) j16) j17) j18) j19) j20) j21) j22) j23) j24) j25) j26) j27) j28) j29) j30) j31)
theorem jf : Try.prog.funcNamed Rows.fnPotentialsRow.func = some 4 := by kernel_rfl
theorem ji : Try.f4.isInstance Try.prog Rows.fnPotentialsRow.origin Rows.fnPotentialsRow.targs := of_decide_eq_true (by kernel_rfl)
theorem jw : Try.f4.isWrapper Try.prog Rows.fnPotentialsRow.wrapper Rows.fnPotentialsRow.mainSum := by unfold Func.isWrapper; first | (rw [if_pos (by decide +kernel)]; kernel_rfl) | (rw [if_neg (by decide +kernel)]; exact ⟨rfl, rfl⟩)
theorem over : Rows.fnPotentialsRow.holds Try.pinned (OpenSpec.ofChange Rows.fnPotentialsSpec) :=
  OpenClaim.holds_of_wide 4 Try.f4 rfl rfl rfl rfl rfl rfl rfl ⟨rfl, rfl, rfl, rfl, rfl⟩ rfl rfl rfl rfl rfl jf Try.func4 joined ji jw
    (fun os started H enc _ => lifted os started H enc)

theorem proved : Rows.FnPotentialsSaid :=
  over
#print axioms proved
end Go.Proofs.Ytfeebelnpibppaa.fnPotentials
