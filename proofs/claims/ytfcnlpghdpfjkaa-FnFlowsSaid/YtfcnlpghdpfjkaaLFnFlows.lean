/- The statement: FnFlows returns true for every input, and each argument reads afterwards as it read before. No conditions. -/
import Derived.Test.YtfcnlpghdpfjkaaRows
import Derived.Test.YtfcnlpghdpfjkaaO6
namespace Go.Proofs.Ytfcnlpghdpfjkaa.fnFlows
open Go.ChangeShapes Go.WideShapes Go.ChangeAt Go.RowKit Go.Av
set_option maxRecDepth 100000
set_option linter.unusedVariables false

theorem own : ownKnob Try.prog.godebug = none := by kernel_rfl
theorem sh39 : shOf Try.prog 6 39 = some [.sl [.ik .u8]] := by kernel_rfl
theorem ns39 : ∀ fs, Try.prog.underlying 39 ≠ some (.struct fs) := fun fs h => by rw [Try.underlying39] at h; cases h
theorem sem (avs : List AV) (h : ArgsOf Try.prog 6 Try.f6.params.toList avs) : FnSem Try.prog 6 avs [] (Is [Bo true] []) := by
  rw [Try.params6] at h
  obtain ⟨ps0, r0, f0, rfl, h0⟩ := ArgsOf.cons sh39 h
  obtain ⟨p0, e0, rfl, g0, f0⟩ := f0.cons
  obtain rfl := f0.nil
  obtain ⟨x0, rfl⟩ := fit_LY g0
  rw [argAV_l ns39]
  obtain ⟨ps1, r1, f1, rfl, h1⟩ := ArgsOf.cons sh39 h0
  obtain ⟨p1, e1, rfl, g1, f1⟩ := f1.cons
  obtain rfl := f1.nil
  obtain ⟨x1, rfl⟩ := fit_LY g1
  rw [argAV_l ns39]
  obtain rfl : _ = [] := h1
  exact c_laws_FnFlows x0 x1

theorem lifted (os : Os) (started : os.Started) (H : Type) (enc : TypeId × Value → H) :
    ReturnsInHanded {} Try.checked os 6 .any (Rows.fnFlowsSpec.pre6 enc Try.prog Try.f6 Rows.fnFlowsRow.domain false) (Rows.fnFlowsSpec.post enc Try.prog Try.f6 false true false false) := by
  refine returnsInHanded_of_change (C := Try.checked) own started (by kernel_rfl) Try.func6
    (ChangeSpec.witness6 (enc := enc) (C := Try.checked) false ⟨#[], #[.slice none 0 0, .slice none 0 0], []⟩ 8 (by kernel_rfl) (by kernel_rfl) (by kernel_rfl) (by kernel_rfl)) ?_
  intro W base args ds gs before hval hW _ _
  have hds : Rows.fnFlowsSpec.fn H (ds ++ gs) = { results := [.lit (.bool true)], args := ds } := by
    obtain ⟨p, q, hA, hV, _⟩ := id hW
    obtain ⟨rfl, _⟩ := trodVars_none hV
    have hl := trodAll_len hA
    have hn : Try.f6.params.toList.length = 2 := by rw [Try.params6]; rfl
    rw [hn] at hl
    rw [List.append_nil]
    match ds, hl with
    | [d0, d1], _ => rfl
  exact law_calls (tb := 4) (by kernel_rfl) (by kernel_rfl) (by kernel_rfl) (by kernel_rfl) (by kernel_rfl) Try.underlying4 rfl trivial sem hval hW hds

theorem and_t {a b : Bool} (h : a = true) (k : b = true) : (a && b) = true := by rw [h, k]; rfl
theorem j0 : (Rows.fnFlowsRow.wf (OpenSpec.ofChange Rows.fnFlowsSpec)) = true := by kernel_rfl
theorem j1 : (laidOutB Try.prog) = true := by kernel_rfl
theorem j2 : (mapsRowed Try.prog) = true := by kernel_rfl
theorem j3 : (Try.f6.params.all (Try.prog.readableRec ·)) = true := by kernel_rfl
theorem j4 : (namedTie Try.prog Rows.fnFlowsRow.named Rows.fnFlowsSpec.vars) = true := by kernel_rfl
theorem j5 : ((Rows.fnFlowsRow.stops == [])) = true := by kernel_rfl
theorem j6 : ((Try.prog.stops == [])) = true := by kernel_rfl
theorem j7 : ((Rows.fnFlowsRow.knobs == [])) = true := by kernel_rfl
theorem j8 : ((Try.prog.stopKnobs == [])) = true := by kernel_rfl
theorem j9 : ((Rows.fnFlowsRow.inPlace == Try.prog.inPlace 6)) = true := by kernel_rfl
theorem j10 : ((Rows.fnFlowsRow.unfollowed == Try.prog.unfollowed 6)) = true := by kernel_rfl
theorem j11 : ((Rows.fnFlowsRow.recurses == Try.prog.recurses 6)) = true := by kernel_rfl
theorem j12 : ((Rows.fnFlowsRow.named == Try.prog.varsNamed 6)) = true := by kernel_rfl
theorem j13 : ((Rows.fnFlowsRow.maps == (Try.f6.params.toList ++ Rows.fnFlowsSpec.plain.varTypes Try.prog).any (Try.prog.mapsRec ·))) = true := by kernel_rfl
theorem j14 : ((Rows.fnFlowsRow.ifaces == (Try.f6.params.toList ++ Rows.fnFlowsSpec.plain.varTypes Try.prog).any (Try.prog.ifacesRec ·))) = true := by kernel_rfl
theorem j15 : ((Rows.fnFlowsRow.mapsOut == Try.prog.mapsAmong Try.f6.resultTypes.toList)) = true := by kernel_rfl
theorem j16 : ((Rows.fnFlowsRow.loops == (Try.f6.params.toList ++ Rows.fnFlowsSpec.plain.varTypes Try.prog).any (Try.prog.loopsFrom ·))) = true := by kernel_rfl
theorem j17 : ((Rows.fnFlowsRow.wideKeys == (Try.f6.params.toList ++ Rows.fnFlowsSpec.plain.varTypes Try.prog ++ Try.f6.resultTypes.toList).any (Try.prog.wideKeysFrom ·))) = true := by kernel_rfl
theorem j18 : (Rows.fnFlowsSpec.vars.all (Try.prog.varReadable ·)) = true := by kernel_rfl
theorem j19 : (Try.f6.resultTypes.all (fun t => Try.prog.readableRec t && decide (t < Try.prog.types.size))) = true := by kernel_rfl
theorem j20 : ((Rows.fnFlowsRow.ifacesOut == Try.f6.resultTypes.toList.any (Try.prog.ifacesRec ·))) = true := by kernel_rfl
theorem j21 : ((Rows.fnFlowsRow.loopsOut == Try.f6.resultTypes.toList.any (Try.prog.loopsFrom ·))) = true := by kernel_rfl
theorem j22 : ((Rows.fnFlowsRow.plainKeys == Try.prog.plainKeys)) = true := by kernel_rfl
theorem j23 : (Rows.fnFlowsRow.shortTexts.isNone) = true := by kernel_rfl
theorem j24 : (Try.prog.stopsHeard) = true := by kernel_rfl
theorem j25 : (Try.prog.mayEnter) = true := by kernel_rfl
theorem j26 : ((Rows.fnFlowsRow.lifted == Try.prog.liftsFinal)) = true := by kernel_rfl
theorem j27 : ((Try.prog.make == some Rows.fnFlowsRow.make)) = true := by kernel_rfl
theorem j28 : ((Rows.fnFlowsRow.kinds == (if Rows.fnFlowsRow.domain.isEmpty then [] else Try.f6.params.toList.map fun t => match Try.prog.underlying t with | some (.int k) => some k | _ => none))) = true := by kernel_rfl
theorem j29 : ((Rows.fnFlowsRow.pinned == Rows.fnFlowsRow.pinnedBy)) = true := by kernel_rfl
theorem j30 : ((Rows.fnFlowsRow.veiled == (Try.f6.params.toList ++ Rows.fnFlowsSpec.plain.varTypes Try.prog ++ Try.f6.resultTypes.toList).any (Try.prog.veiledRec ·))) = true := by kernel_rfl
theorem j31 : (Rows.fnFlowsRow.veiledFits Try.prog Try.f6.params.toList (Try.f6.params.toList ++ Rows.fnFlowsSpec.plain.varTypes Try.prog ++ Try.f6.resultTypes.toList)) = true := by kernel_rfl
theorem joined : joinedFacts Try.prog 6 Try.f6 Rows.fnFlowsSpec Rows.fnFlowsRow = true := by
  unfold joinedFacts
  exact (and_t (and_t (and_t (and_t (and_t (and_t (and_t (and_t (and_t (and_t (and_t (and_t (and_t (and_t (and_t (and_t (and_t (and_t (and_t (and_t (and_t (and_t (and_t (and_t (and_t (and_t (and_t (and_t (and_t (and_t (and_t j0 j1) j2) j3) j4) j5) j6) j7) j8) j9) j10) j11) j12) j13) j14) j15) j16) j17) j18) j19) j20) j21) j22) j23) j24) j25) j26) j27) j28) j29) j30) j31)
theorem jf : Try.prog.funcNamed Rows.fnFlowsRow.func = some 6 := by kernel_rfl
theorem ji : Try.f6.isInstance Try.prog Rows.fnFlowsRow.origin Rows.fnFlowsRow.targs := of_decide_eq_true (by kernel_rfl)
theorem jw : Try.f6.isWrapper Try.prog Rows.fnFlowsRow.wrapper Rows.fnFlowsRow.mainSum := by unfold Func.isWrapper; first | (rw [if_pos (by decide +kernel)]; kernel_rfl) | (rw [if_neg (by decide +kernel)]; exact ⟨rfl, rfl⟩)
theorem over : Rows.fnFlowsRow.holds Try.pinned (OpenSpec.ofChange Rows.fnFlowsSpec) :=
  OpenClaim.holds_of_wide 6 Try.f6 rfl rfl rfl rfl rfl rfl rfl ⟨rfl, rfl, rfl, rfl, rfl⟩ rfl rfl rfl rfl rfl jf Try.func6 joined ji jw
    (fun os started H enc _ => lifted os started H enc)

theorem proved : Rows.FnFlowsSaid :=
  over
#print axioms proved
end Go.Proofs.Ytfcnlpghdpfjkaa.fnFlows
