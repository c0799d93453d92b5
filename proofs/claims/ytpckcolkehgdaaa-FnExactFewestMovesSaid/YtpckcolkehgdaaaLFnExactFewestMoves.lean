/- The statement: FnExactFewestMoves returns true for every input, and each argument reads afterwards as it read before. No conditions. -/
import Derived.Test.YtpckcolkehgdaaaRows
import Derived.Test.YtpckcolkehgdaaaC8
namespace Go.Proofs.Ytpckcolkehgdaaa.fnExactFewestMoves
open Go.ChangeShapes Go.WideShapes Go.ChangeAt Go.RowKit Go.Av
set_option maxRecDepth 100000
set_option linter.unusedVariables false

theorem own : ownKnob Try.prog.godebug = none := by kernel_rfl
theorem sh40 : shOf Try.prog 6 40 = some [.sl [.sl [.ik .i64]]] := by kernel_rfl
theorem ns40 : ∀ fs, Try.prog.underlying 40 ≠ some (.struct fs) := fun fs h => by rw [Try.underlying40] at h; cases h
theorem sh55 : shOf Try.prog 6 55 = some [.sl [.bb]] := by kernel_rfl
theorem ns55 : ∀ fs, Try.prog.underlying 55 ≠ some (.struct fs) := fun fs h => by rw [Try.underlying55] at h; cases h
theorem sem (avs : List AV) (h : ArgsOf Try.prog 6 Try.f5.params.toList avs) : FnSem Try.prog 5 avs [] (Is [Bo true] []) := by
  rw [Try.params5] at h
  obtain ⟨ps0, r0, f0, rfl, h0⟩ := ArgsOf.cons sh40 h
  obtain ⟨p0, e0, rfl, g0, f0⟩ := f0.cons
  obtain rfl := f0.nil
  obtain ⟨x0, rfl⟩ := fit_LLI g0
  rw [argAV_l ns40]
  obtain ⟨ps1, r1, f1, rfl, h1⟩ := ArgsOf.cons sh55 h0
  obtain ⟨p1, e1, rfl, g1, f1⟩ := f1.cons
  obtain rfl := f1.nil
  obtain ⟨x1, rfl⟩ := fit_LB g1
  rw [argAV_l ns55]
  obtain ⟨ps2, r2, f2, rfl, h2⟩ := ArgsOf.cons sh55 h1
  obtain ⟨p2, e2, rfl, g2, f2⟩ := f2.cons
  obtain rfl := f2.nil
  obtain ⟨x2, rfl⟩ := fit_LB g2
  rw [argAV_l ns55]
  obtain rfl : _ = [] := h2
  exact c_laws_FnExactFewestMoves x0 x1 x2

theorem lifted (os : Os) (started : os.Started) (H : Type) (enc : TypeId × Value → H) :
    ReturnsInHanded {} Try.checked os 5 .any (Rows.fnExactFewestMovesSpec.pre6 enc Try.prog Try.f5 Rows.fnExactFewestMovesRow.domain false) (Rows.fnExactFewestMovesSpec.post enc Try.prog Try.f5 false true false false) := by
  refine returnsInHanded_of_change (C := Try.checked) own started (by kernel_rfl) Try.func5
    (ChangeSpec.witness6 (enc := enc) (C := Try.checked) false ⟨#[], #[.slice none 0 0, .slice none 0 0, .slice none 0 0], []⟩ 8 (by kernel_rfl) (by kernel_rfl) (by kernel_rfl) (by kernel_rfl)) ?_
  intro W base args ds gs before hval hW _ _
  have hds : Rows.fnExactFewestMovesSpec.fn H (ds ++ gs) = { results := [.lit (.bool true)], args := ds } := by
    obtain ⟨p, q, hA, hV, _⟩ := id hW
    obtain ⟨rfl, _⟩ := trodVars_none hV
    have hl := trodAll_len hA
    have hn : Try.f5.params.toList.length = 3 := by rw [Try.params5]; rfl
    rw [hn] at hl
    rw [List.append_nil]
    match ds, hl with
    | [d0, d1, d2], _ => rfl
  exact law_calls (tb := 4) (by kernel_rfl) (by kernel_rfl) (by kernel_rfl) (by kernel_rfl) (by kernel_rfl) Try.underlying4 rfl trivial sem hval hW hds

theorem and_t {a b : Bool} (h : a = true) (k : b = true) : (a && b) = true := by rw [h, k]; rfl
theorem j0 : (Rows.fnExactFewestMovesRow.wf (OpenSpec.ofChange Rows.fnExactFewestMovesSpec)) = true := by kernel_rfl
theorem j1 : (laidOutB Try.prog) = true := by kernel_rfl
theorem j2 : (mapsRowed Try.prog) = true := by kernel_rfl
theorem j3 : (Try.f5.params.all (Try.prog.readableRec ·)) = true := by kernel_rfl
theorem j4 : (namedTie Try.prog Rows.fnExactFewestMovesRow.named Rows.fnExactFewestMovesSpec.vars) = true := by kernel_rfl
theorem j5 : ((Rows.fnExactFewestMovesRow.stops == [])) = true := by kernel_rfl
theorem j6 : ((Try.prog.stops == [])) = true := by kernel_rfl
theorem j7 : ((Rows.fnExactFewestMovesRow.knobs == [])) = true := by kernel_rfl
theorem j8 : ((Try.prog.stopKnobs == [])) = true := by kernel_rfl
theorem j9 : ((Rows.fnExactFewestMovesRow.inPlace == Try.prog.inPlace 5)) = true := by kernel_rfl
theorem j10 : ((Rows.fnExactFewestMovesRow.unfollowed == Try.prog.unfollowed 5)) = true := by kernel_rfl
theorem j11 : ((Rows.fnExactFewestMovesRow.recurses == Try.prog.recurses 5)) = true := by kernel_rfl
theorem j12 : ((Rows.fnExactFewestMovesRow.named == Try.prog.varsNamed 5)) = true := by kernel_rfl
theorem j13 : ((Rows.fnExactFewestMovesRow.maps == (Try.f5.params.toList ++ Rows.fnExactFewestMovesSpec.plain.varTypes Try.prog).any (Try.prog.mapsRec ·))) = true := by kernel_rfl
theorem j14 : ((Rows.fnExactFewestMovesRow.ifaces == (Try.f5.params.toList ++ Rows.fnExactFewestMovesSpec.plain.varTypes Try.prog).any (Try.prog.ifacesRec ·))) = true := by kernel_rfl
theorem j15 : ((Rows.fnExactFewestMovesRow.mapsOut == Try.prog.mapsAmong Try.f5.resultTypes.toList)) = true := by kernel_rfl
theorem j16 : ((Rows.fnExactFewestMovesRow.loops == (Try.f5.params.toList ++ Rows.fnExactFewestMovesSpec.plain.varTypes Try.prog).any (Try.prog.loopsFrom ·))) = true := by kernel_rfl
theorem j17 : ((Rows.fnExactFewestMovesRow.wideKeys == (Try.f5.params.toList ++ Rows.fnExactFewestMovesSpec.plain.varTypes Try.prog ++ Try.f5.resultTypes.toList).any (Try.prog.wideKeysFrom ·))) = true := by kernel_rfl
theorem j18 : (Rows.fnExactFewestMovesSpec.vars.all (Try.prog.varReadable ·)) = true := by kernel_rfl
theorem j19 : (Try.f5.resultTypes.all (fun t => Try.prog.readableRec t && decide (t < Try.prog.types.size))) = true := by kernel_rfl
theorem j20 : ((Rows.fnExactFewestMovesRow.ifacesOut == Try.f5.resultTypes.toList.any (Try.prog.ifacesRec ·))) = true := by kernel_rfl
theorem j21 : ((Rows.fnExactFewestMovesRow.loopsOut == Try.f5.resultTypes.toList.any (Try.prog.loopsFrom ·))) = true := by kernel_rfl
theorem j22 : ((Rows.fnExactFewestMovesRow.plainKeys == Try.prog.plainKeys)) = true := by kernel_rfl
theorem j23 : (Rows.fnExactFewestMovesRow.shortTexts.isNone) = true := by kernel_rfl
theorem j24 : (Try.prog.stopsHeard) = true := by kernel_rfl
theorem j25 : (Try.prog.mayEnter) = true := by kernel_rfl
theorem j26 : ((Rows.fnExactFewestMovesRow.lifted == Try.prog.liftsFinal)) = true := by kernel_rfl
theorem j27 : ((Try.prog.make == some Rows.fnExactFewestMovesRow.make)) = true := by kernel_rfl
theorem j28 : ((Rows.fnExactFewestMovesRow.kinds == (if Rows.fnExactFewestMovesRow.domain.isEmpty then [] else Try.f5.params.toList.map fun t => match Try.prog.underlying t with | some (.int k) => some k | _ => none))) = true := by kernel_rfl
theorem j29 : ((Rows.fnExactFewestMovesRow.pinned == Rows.fnExactFewestMovesRow.pinnedBy)) = true := by kernel_rfl
theorem j30 : ((Rows.fnExactFewestMovesRow.veiled == (Try.f5.params.toList ++ Rows.fnExactFewestMovesSpec.plain.varTypes Try.prog ++ Try.f5.resultTypes.toList).any (Try.prog.veiledRec ·))) = true := by kernel_rfl
theorem j31 : (Rows.fnExactFewestMovesRow.veiledFits Try.prog Try.f5.params.toList (Try.f5.params.toList ++ Rows.fnExactFewestMovesSpec.plain.varTypes Try.prog ++ Try.f5.resultTypes.toList)) = true := by kernel_rfl
theorem joined : joinedFacts Try.prog 5 Try.f5 Rows.fnExactFewestMovesSpec Rows.fnExactFewestMovesRow = true := by
  unfold joinedFacts
  exact (and_t (and_t (and_t (and_t (and_t (and_t (and_t (and_t (and_t (and_t (and_t (and_t (and_t (and_t (and_t (and_t (and_t (and_t (and_t (and_t (and_t (and_t (and_t (and_t (and_t (and_t (and_t (and_t (and_t (and_t (and_t j0 j1) j2) j3) j4) j5) j6) j7) j8) j9) j10) j11) j12) j13) j14) j15) j16) j17) j18) j19) j20) j21) j22) j23) j24) j25) j26) j27) j28) j29) j30) j31)
theorem jf : Try.prog.funcNamed Rows.fnExactFewestMovesRow.func = some 5 := by kernel_rfl
theorem ji : Try.f5.isInstance Try.prog Rows.fnExactFewestMovesRow.origin Rows.fnExactFewestMovesRow.targs := of_decide_eq_true (by kernel_rfl)
theorem jw : Try.f5.isWrapper Try.prog Rows.fnExactFewestMovesRow.wrapper Rows.fnExactFewestMovesRow.mainSum := by unfold Func.isWrapper; first | (rw [if_pos (by decide +kernel)]; kernel_rfl) | (rw [if_neg (by decide +kernel)]; exact ⟨rfl, rfl⟩)
theorem over : Rows.fnExactFewestMovesRow.holds Try.pinned (OpenSpec.ofChange Rows.fnExactFewestMovesSpec) :=
  OpenClaim.holds_of_wide 5 Try.f5 rfl rfl rfl rfl rfl rfl rfl ⟨rfl, rfl, rfl, rfl, rfl⟩ rfl rfl rfl rfl rfl jf Try.func5 joined ji jw
    (fun os started H enc _ => lifted os started H enc)

theorem proved : Rows.FnExactFewestMovesSaid :=
  over
#print axioms proved
end Go.Proofs.Ytpckcolkehgdaaa.fnExactFewestMoves
