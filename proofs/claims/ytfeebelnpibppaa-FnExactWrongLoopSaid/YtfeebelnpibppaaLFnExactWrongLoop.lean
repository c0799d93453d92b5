/- The statement: FnExactWrongLoop returns true for every input, and each argument reads afterwards as it read before. No conditions. -/
import Derived.Test.YtfeebelnpibppaaRows
import Derived.Test.YtfeebelnpibppaaP8
namespace Go.Proofs.Ytfeebelnpibppaa.fnExactWrongLoop
open Go.ChangeShapes Go.WideShapes Go.ChangeAt Go.RowKit Go.Av
set_option maxRecDepth 100000
set_option linter.unusedVariables false

theorem own : ownKnob Try.prog.godebug = none := by kernel_rfl
theorem sh42 : shOf Try.prog 6 42 = some [.sl [.ik .i64]] := by kernel_rfl
theorem ns42 : ∀ fs, Try.prog.underlying 42 ≠ some (.struct fs) := fun fs h => by rw [Try.underlying42] at h; cases h
theorem sh43 : shOf Try.prog 6 43 = some [.sl [.bb]] := by kernel_rfl
theorem ns43 : ∀ fs, Try.prog.underlying 43 ≠ some (.struct fs) := fun fs h => by rw [Try.underlying43] at h; cases h
theorem sh89 : shOf Try.prog 6 89 = some [.ik .i64, .sl [.ss, .ik .i64, .ik .i64, .ik .i64, .ik .i64, .ik .i64, .ik .i64]] := by kernel_rfl
theorem sem (avs : List AV) (h : ArgsOf Try.prog 6 Try.f10.params.toList avs) : FnSem Try.prog 10 avs [] (Is [Bo true] []) := by
  rw [Try.params10] at h
  obtain ⟨ps0, r0, f0, rfl, h0⟩ := ArgsOf.cons sh89 h
  obtain ⟨x0, rfl⟩ := fitL_Mine f0
  rw [argAV_struct Try.underlying89]
  obtain ⟨ps1, r1, f1, rfl, h1⟩ := ArgsOf.cons sh42 h0
  obtain ⟨p1, e1, rfl, g1, f1⟩ := f1.cons
  obtain rfl := f1.nil
  obtain ⟨x1, rfl⟩ := fit_LI g1
  rw [argAV_l ns42]
  obtain ⟨ps2, r2, f2, rfl, h2⟩ := ArgsOf.cons sh42 h1
  obtain ⟨p2, e2, rfl, g2, f2⟩ := f2.cons
  obtain rfl := f2.nil
  obtain ⟨x2, rfl⟩ := fit_LI g2
  rw [argAV_l ns42]
  obtain ⟨ps3, r3, f3, rfl, h3⟩ := ArgsOf.cons sh43 h2
  obtain ⟨p3, e3, rfl, g3, f3⟩ := f3.cons
  obtain rfl := f3.nil
  obtain ⟨x3, rfl⟩ := fit_LB g3
  rw [argAV_l ns43]
  obtain rfl : _ = [] := h3
  exact c_laws_FnExactWrongLoop x0 x1 x2 x3

theorem lifted (os : Os) (started : os.Started) (H : Type) (enc : TypeId × Value → H) :
    ReturnsInHanded {} Try.checked os 10 .any (Rows.fnExactWrongLoopSpec.pre6 enc Try.prog Try.f10 Rows.fnExactWrongLoopRow.domain false) (Rows.fnExactWrongLoopSpec.post enc Try.prog Try.f10 false true false false) := by
  refine returnsInHanded_of_change (C := Try.checked) own started (by kernel_rfl) Try.func10
    (ChangeSpec.witness6 (enc := enc) (C := Try.checked) false ⟨#[], #[.agg #[.int .i64 0, .slice none 0 0], .slice none 0 0, .slice none 0 0, .slice none 0 0], []⟩ 8 (by kernel_rfl) (by kernel_rfl) (by kernel_rfl) (by kernel_rfl)) ?_
  intro W base args ds gs before hval hW _ _
  have hds : Rows.fnExactWrongLoopSpec.fn H (ds ++ gs) = { results := [.lit (.bool true)], args := ds } := by
    obtain ⟨p, q, hA, hV, _⟩ := id hW
    obtain ⟨rfl, _⟩ := trodVars_none hV
    have hl := trodAll_len hA
    have hn : Try.f10.params.toList.length = 4 := by rw [Try.params10]; rfl
    rw [hn] at hl
    rw [List.append_nil]
    match ds, hl with
    | [d0, d1, d2, d3], _ => rfl
  exact law_calls (tb := 4) (by kernel_rfl) (by kernel_rfl) (by kernel_rfl) (by kernel_rfl) (by kernel_rfl) Try.underlying4 rfl trivial sem hval hW hds

theorem and_t {a b : Bool} (h : a = true) (k : b = true) : (a && b) = true := by rw [h, k]; rfl
theorem j0 : (Rows.fnExactWrongLoopRow.wf (OpenSpec.ofChange Rows.fnExactWrongLoopSpec)) = true := by kernel_rfl
theorem j1 : (laidOutB Try.prog) = true := by kernel_rfl
theorem j2 : (mapsRowed Try.prog) = true := by kernel_rfl
theorem j3 : (Try.f10.params.all (Try.prog.readableRec ·)) = true := by kernel_rfl
theorem j4 : (namedTie Try.prog Rows.fnExactWrongLoopRow.named Rows.fnExactWrongLoopSpec.vars) = true := by kernel_rfl
theorem j5 : ((Rows.fnExactWrongLoopRow.stops == [])) = true := by kernel_rfl
theorem j6 : ((Try.prog.stops == [])) = true := by kernel_rfl
theorem j7 : ((Rows.fnExactWrongLoopRow.knobs == [])) = true := by kernel_rfl
theorem j8 : ((Try.prog.stopKnobs == [])) = true := by kernel_rfl
theorem j9 : ((Rows.fnExactWrongLoopRow.inPlace == Try.prog.inPlace 10)) = true := by kernel_rfl
theorem j10 : ((Rows.fnExactWrongLoopRow.unfollowed == Try.prog.unfollowed 10)) = true := by kernel_rfl
theorem j11 : ((Rows.fnExactWrongLoopRow.recurses == Try.prog.recurses 10)) = true := by kernel_rfl
theorem j12 : ((Rows.fnExactWrongLoopRow.named == Try.prog.varsNamed 10)) = true := by kernel_rfl
theorem j13 : ((Rows.fnExactWrongLoopRow.maps == (Try.f10.params.toList ++ Rows.fnExactWrongLoopSpec.plain.varTypes Try.prog).any (Try.prog.mapsRec ·))) = true := by kernel_rfl
theorem j14 : ((Rows.fnExactWrongLoopRow.ifaces == (Try.f10.params.toList ++ Rows.fnExactWrongLoopSpec.plain.varTypes Try.prog).any (Try.prog.ifacesRec ·))) = true := by kernel_rfl
theorem j15 : ((Rows.fnExactWrongLoopRow.mapsOut == Try.prog.mapsAmong Try.f10.resultTypes.toList)) = true := by kernel_rfl
theorem j16 : ((Rows.fnExactWrongLoopRow.loops == (Try.f10.params.toList ++ Rows.fnExactWrongLoopSpec.plain.varTypes Try.prog).any (Try.prog.loopsFrom ·))) = true := by kernel_rfl
theorem j17 : ((Rows.fnExactWrongLoopRow.wideKeys == (Try.f10.params.toList ++ Rows.fnExactWrongLoopSpec.plain.varTypes Try.prog ++ Try.f10.resultTypes.toList).any (Try.prog.wideKeysFrom ·))) = true := by kernel_rfl
theorem j18 : (Rows.fnExactWrongLoopSpec.vars.all (Try.prog.varReadable ·)) = true := by kernel_rfl
theorem j19 : (Try.f10.resultTypes.all (fun t => Try.prog.readableRec t && decide (t < Try.prog.types.size))) = true := by kernel_rfl
theorem j20 : ((Rows.fnExactWrongLoopRow.ifacesOut == Try.f10.resultTypes.toList.any (Try.prog.ifacesRec ·))) = true := by kernel_rfl
theorem j21 : ((Rows.fnExactWrongLoopRow.loopsOut == Try.f10.resultTypes.toList.any (Try.prog.loopsFrom ·))) = true := by kernel_rfl
theorem j22 : ((Rows.fnExactWrongLoopRow.plainKeys == Try.prog.plainKeys)) = true := by kernel_rfl
theorem j23 : (Rows.fnExactWrongLoopRow.shortTexts.isNone) = true := by kernel_rfl
theorem j24 : (Try.prog.stopsHeard) = true := by kernel_rfl
theorem j25 : (Try.prog.mayEnter) = true := by kernel_rfl
theorem j26 : ((Rows.fnExactWrongLoopRow.lifted == Try.prog.liftsFinal)) = true := by kernel_rfl
theorem j27 : ((Try.prog.make == some Rows.fnExactWrongLoopRow.make)) = true := by kernel_rfl
theorem j28 : ((Rows.fnExactWrongLoopRow.kinds == (if Rows.fnExactWrongLoopRow.domain.isEmpty then [] else Try.f10.params.toList.map fun t => match Try.prog.underlying t with | some (.int k) => some k | _ => none))) = true := by kernel_rfl
theorem j29 : ((Rows.fnExactWrongLoopRow.pinned == Rows.fnExactWrongLoopRow.pinnedBy)) = true := by kernel_rfl
theorem j30 : ((Rows.fnExactWrongLoopRow.veiled == (Try.f10.params.toList ++ Rows.fnExactWrongLoopSpec.plain.varTypes Try.prog ++ Try.f10.resultTypes.toList).any (Try.prog.veiledRec ·))) = true := by kernel_rfl
theorem j31 : (Rows.fnExactWrongLoopRow.veiledFits Try.prog Try.f10.params.toList (Try.f10.params.toList ++ Rows.fnExactWrongLoopSpec.plain.varTypes Try.prog ++ Try.f10.resultTypes.toList)) = true := by kernel_rfl
theorem joined : joinedFacts Try.prog 10 Try.f10 Rows.fnExactWrongLoopSpec Rows.fnExactWrongLoopRow = true := by
  unfold joinedFacts
  exact (and_t (and_t (and_t (and_t (and_t (and_t (and_t (and_t (and_t (and_t (and_t (and_t (and_t (and_t (and_t (and_t (and_t (and_t (and_t (and_t (and_t (and_t (and_t (and_t (and_t (and_t (and_t (and_t (and_t (and_t (and_t j0 j1) j2) j3) j4) j5) j6) j7) j8) j9) j10) j11) j12) j13) j14) j15) j16) j17) j18) j19) j20) j21) j22) j23) j24) j25) j26) j27) j28) j29) j30) j31)
theorem jf : Try.prog.funcNamed Rows.fnExactWrongLoopRow.func = some 10 := by kernel_rfl
theorem ji : Try.f10.isInstance Try.prog Rows.fnExactWrongLoopRow.origin Rows.fnExactWrongLoopRow.targs := of_decide_eq_true (by kernel_rfl)
theorem jw : Try.f10.isWrapper Try.prog Rows.fnExactWrongLoopRow.wrapper Rows.fnExactWrongLoopRow.mainSum := by unfold Func.isWrapper; first | (rw [if_pos (by decide +kernel)]; kernel_rfl) | (rw [if_neg (by decide +kernel)]; exact ⟨rfl, rfl⟩)
theorem over : Rows.fnExactWrongLoopRow.holds Try.pinned (OpenSpec.ofChange Rows.fnExactWrongLoopSpec) :=
  OpenClaim.holds_of_wide 10 Try.f10 rfl rfl rfl rfl rfl rfl rfl ⟨rfl, rfl, rfl, rfl, rfl⟩ rfl rfl rfl rfl rfl jf Try.func10 joined ji jw
    (fun os started H enc _ => lifted os started H enc)

theorem proved : Rows.FnExactWrongLoopSaid :=
  over
#print axioms proved
end Go.Proofs.Ytfeebelnpibppaa.fnExactWrongLoop
