/- The statement: FnExactFewestRefuges returns true for every input, and each argument reads afterwards as it read before. No conditions. -/
import Derived.Test.YtpckcolkehgdaaaRows
import Derived.Test.YtpckcolkehgdaaaX10
namespace Go.Proofs.Ytpckcolkehgdaaa.fnExactFewestRefuges
open Go.ChangeShapes Go.WideShapes Go.ChangeAt Go.RowKit Go.Av
set_option maxRecDepth 100000
set_option linter.unusedVariables false

theorem own : ownKnob Try.prog.godebug = none := by kernel_rfl
theorem sh2 : shOf Try.prog 6 2 = some [.ik .i64] := by kernel_rfl
theorem ns2 : ∀ fs, Try.prog.underlying 2 ≠ some (.struct fs) := fun fs h => by rw [Try.underlying2] at h; cases h
theorem sh24 : shOf Try.prog 6 24 = some [.ik .i64, .sl [.ss, .ik .i64, .ik .i64, .ik .i64, .ik .i64, .ik .i64, .ik .i64]] := by kernel_rfl
theorem sem (avs : List AV) (h : ArgsOf Try.prog 6 Try.f3.params.toList avs) : FnSem Try.prog 3 avs [] (Is [Bo true] []) := by
  rw [Try.params3] at h
  obtain ⟨ps0, r0, f0, rfl, h0⟩ := ArgsOf.cons sh24 h
  obtain ⟨x0, rfl⟩ := fitL_Mine f0
  rw [argAV_struct Try.underlying24]
  obtain ⟨ps1, r1, f1, rfl, h1⟩ := ArgsOf.cons sh2 h0
  obtain ⟨p1, e1, rfl, g1, f1⟩ := f1.cons
  obtain rfl := f1.nil
  obtain ⟨x1, rfl⟩ := fit_i g1
  rw [argAV_c ns2]
  obtain ⟨ps2, r2, f2, rfl, h2⟩ := ArgsOf.cons sh2 h1
  obtain ⟨p2, e2, rfl, g2, f2⟩ := f2.cons
  obtain rfl := f2.nil
  obtain ⟨x2, rfl⟩ := fit_i g2
  rw [argAV_c ns2]
  obtain ⟨ps3, r3, f3, rfl, h3⟩ := ArgsOf.cons sh2 h2
  obtain ⟨p3, e3, rfl, g3, f3⟩ := f3.cons
  obtain rfl := f3.nil
  obtain ⟨x3, rfl⟩ := fit_i g3
  rw [argAV_c ns2]
  obtain rfl : _ = [] := h3
  exact c_laws_FnExactFewestRefuges x0 x1 x2 x3

theorem lifted (os : Os) (started : os.Started) (H : Type) (enc : TypeId × Value → H) :
    ReturnsInHanded {} Try.checked os 3 .any (Rows.fnExactFewestRefugesSpec.pre6 enc Try.prog Try.f3 Rows.fnExactFewestRefugesRow.domain false) (Rows.fnExactFewestRefugesSpec.post enc Try.prog Try.f3 false true false false) := by
  refine returnsInHanded_of_change (C := Try.checked) own started (by kernel_rfl) Try.func3
    (ChangeSpec.witness6 (enc := enc) (C := Try.checked) false ⟨#[], #[.agg #[.int .i64 0, .slice none 0 0], .int .i64 0, .int .i64 0, .int .i64 0], []⟩ 8 (by kernel_rfl) (by kernel_rfl) (by kernel_rfl) (by kernel_rfl)) ?_
  intro W base args ds gs before hval hW _ _
  have hds : Rows.fnExactFewestRefugesSpec.fn H (ds ++ gs) = { results := [.lit (.bool true)], args := ds } := by
    obtain ⟨p, q, hA, hV, _⟩ := id hW
    obtain ⟨rfl, _⟩ := trodVars_none hV
    have hl := trodAll_len hA
    have hn : Try.f3.params.toList.length = 4 := by rw [Try.params3]; rfl
    rw [hn] at hl
    rw [List.append_nil]
    match ds, hl with
    | [d0, d1, d2, d3], _ => rfl
  exact law_calls (tb := 4) (by kernel_rfl) (by kernel_rfl) (by kernel_rfl) (by kernel_rfl) (by kernel_rfl) Try.underlying4 rfl trivial sem hval hW hds

theorem and_t {a b : Bool} (h : a = true) (k : b = true) : (a && b) = true := by rw [h, k]; rfl
theorem j0 : (Rows.fnExactFewestRefugesRow.wf (OpenSpec.ofChange Rows.fnExactFewestRefugesSpec)) = true := by kernel_rfl
theorem j1 : (laidOutB Try.prog) = true := by kernel_rfl
theorem j2 : (mapsRowed Try.prog) = true := by kernel_rfl
theorem j3 : (Try.f3.params.all (Try.prog.readableRec ·)) = true := by kernel_rfl
theorem j4 : (namedTie Try.prog Rows.fnExactFewestRefugesRow.named Rows.fnExactFewestRefugesSpec.vars) = true := by kernel_rfl
theorem j5 : ((Rows.fnExactFewestRefugesRow.stops == [])) = true := by kernel_rfl
theorem j6 : ((Try.prog.stops == [])) = true := by kernel_rfl
theorem j7 : ((Rows.fnExactFewestRefugesRow.knobs == [])) = true := by kernel_rfl
theorem j8 : ((Try.prog.stopKnobs == [])) = true := by kernel_rfl
theorem j9 : ((Rows.fnExactFewestRefugesRow.inPlace == Try.prog.inPlace 3)) = true := by kernel_rfl
theorem j10 : ((Rows.fnExactFewestRefugesRow.unfollowed == Try.prog.unfollowed 3)) = true := by kernel_rfl
theorem j11 : ((Rows.fnExactFewestRefugesRow.recurses == Try.prog.recurses 3)) = true := by kernel_rfl
theorem j12 : ((Rows.fnExactFewestRefugesRow.named == Try.prog.varsNamed 3)) = true := by kernel_rfl
theorem j13 : ((Rows.fnExactFewestRefugesRow.maps == (Try.f3.params.toList ++ Rows.fnExactFewestRefugesSpec.plain.varTypes Try.prog).any (Try.prog.mapsRec ·))) = true := by kernel_rfl
theorem j14 : ((Rows.fnExactFewestRefugesRow.ifaces == (Try.f3.params.toList ++ Rows.fnExactFewestRefugesSpec.plain.varTypes Try.prog).any (Try.prog.ifacesRec ·))) = true := by kernel_rfl
theorem j15 : ((Rows.fnExactFewestRefugesRow.mapsOut == Try.prog.mapsAmong Try.f3.resultTypes.toList)) = true := by kernel_rfl
theorem j16 : ((Rows.fnExactFewestRefugesRow.loops == (Try.f3.params.toList ++ Rows.fnExactFewestRefugesSpec.plain.varTypes Try.prog).any (Try.prog.loopsFrom ·))) = true := by kernel_rfl
theorem j17 : ((Rows.fnExactFewestRefugesRow.wideKeys == (Try.f3.params.toList ++ Rows.fnExactFewestRefugesSpec.plain.varTypes Try.prog ++ Try.f3.resultTypes.toList).any (Try.prog.wideKeysFrom ·))) = true := by kernel_rfl
theorem j18 : (Rows.fnExactFewestRefugesSpec.vars.all (Try.prog.varReadable ·)) = true := by kernel_rfl
theorem j19 : (Try.f3.resultTypes.all (fun t => Try.prog.readableRec t && decide (t < Try.prog.types.size))) = true := by kernel_rfl
theorem j20 : ((Rows.fnExactFewestRefugesRow.ifacesOut == Try.f3.resultTypes.toList.any (Try.prog.ifacesRec ·))) = true := by kernel_rfl
theorem j21 : ((Rows.fnExactFewestRefugesRow.loopsOut == Try.f3.resultTypes.toList.any (Try.prog.loopsFrom ·))) = true := by kernel_rfl
theorem j22 : ((Rows.fnExactFewestRefugesRow.plainKeys == Try.prog.plainKeys)) = true := by kernel_rfl
theorem j23 : (Rows.fnExactFewestRefugesRow.shortTexts.isNone) = true := by kernel_rfl
theorem j24 : (Try.prog.stopsHeard) = true := by kernel_rfl
theorem j25 : (Try.prog.mayEnter) = true := by kernel_rfl
theorem j26 : ((Rows.fnExactFewestRefugesRow.lifted == Try.prog.liftsFinal)) = true := by kernel_rfl
theorem j27 : ((Try.prog.make == some Rows.fnExactFewestRefugesRow.make)) = true := by kernel_rfl
theorem j28 : ((Rows.fnExactFewestRefugesRow.kinds == (if Rows.fnExactFewestRefugesRow.domain.isEmpty then [] else Try.f3.params.toList.map fun t => match Try.prog.underlying t with | some (.int k) => some k | _ => none))) = true := by kernel_rfl
theorem j29 : ((Rows.fnExactFewestRefugesRow.pinned == Rows.fnExactFewestRefugesRow.pinnedBy)) = true := by kernel_rfl
theorem j30 : ((Rows.fnExactFewestRefugesRow.veiled == (Try.f3.params.toList ++ Rows.fnExactFewestRefugesSpec.plain.varTypes Try.prog ++ Try.f3.resultTypes.toList).any (Try.prog.veiledRec ·))) = true := by kernel_rfl
theorem j31 : (Rows.fnExactFewestRefugesRow.veiledFits Try.prog Try.f3.params.toList (Try.f3.params.toList ++ Rows.fnExactFewestRefugesSpec.plain.varTypes Try.prog ++ Try.f3.resultTypes.toList)) = true := by kernel_rfl
theorem joined : joinedFacts Try.prog 3 Try.f3 Rows.fnExactFewestRefugesSpec Rows.fnExactFewestRefugesRow = true := by
  unfold joinedFacts
  exact (and_t (and_t (and_t (and_t (and_t (and_t (and_t (and_t (and_t (and_t (and_t (and_t (and_t (and_t (and_t (and_t (and_t (and_t (and_t (and_t (and_t (and_t (and_t (and_t (and_t (and_t (and_t (and_t (and_t (and_t (and_t j0 j1) j2) j3) j4) j5) j6) j7) j8) j9) j10) j11) j12) j13) j14) j15) j16) j17) j18) j19) j20) j21) j22) j23) j24) j25) j26) j27) j28) j29) j30) j31)
theorem jf : Try.prog.funcNamed Rows.fnExactFewestRefugesRow.func = some 3 := by kernel_rfl
theorem ji : Try.f3.isInstance Try.prog Rows.fnExactFewestRefugesRow.origin Rows.fnExactFewestRefugesRow.targs := of_decide_eq_true (by kernel_rfl)
theorem jw : Try.f3.isWrapper Try.prog Rows.fnExactFewestRefugesRow.wrapper Rows.fnExactFewestRefugesRow.mainSum := by unfold Func.isWrapper; first | (rw [if_pos (by decide +kernel)]; kernel_rfl) | (rw [if_neg (by decide +kernel)]; exact ⟨rfl, rfl⟩)
theorem over : Rows.fnExactFewestRefugesRow.holds Try.pinned (OpenSpec.ofChange Rows.fnExactFewestRefugesSpec) :=
  OpenClaim.holds_of_wide 3 Try.f3 rfl rfl rfl rfl rfl rfl rfl ⟨rfl, rfl, rfl, rfl, rfl⟩ rfl rfl rfl rfl rfl jf Try.func3 joined ji jw
    (fun os started H enc _ => lifted os started H enc)

theorem proved : Rows.FnExactFewestRefugesSaid :=
  over
#print axioms proved
end Go.Proofs.Ytpckcolkehgdaaa.fnExactFewestRefuges
