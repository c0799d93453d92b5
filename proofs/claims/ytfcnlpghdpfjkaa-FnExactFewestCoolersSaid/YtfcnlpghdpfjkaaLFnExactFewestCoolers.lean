/- The statement: FnExactFewestCoolers returns true for every input, and each argument reads afterwards as it read before. No conditions. -/
import Derived.Test.YtfcnlpghdpfjkaaRows
import Derived.Test.YtfcnlpghdpfjkaaZ9
namespace Go.Proofs.Ytfcnlpghdpfjkaa.fnExactFewestCoolers
open Go.ChangeShapes Go.WideShapes Go.ChangeAt Go.RowKit Go.Av
set_option maxRecDepth 100000
set_option linter.unusedVariables false

theorem own : ownKnob Try.prog.godebug = none := by kernel_rfl
theorem sh2 : shOf Try.prog 6 2 = some [.ik .i64] := by kernel_rfl
theorem ns2 : ∀ fs, Try.prog.underlying 2 ≠ some (.struct fs) := fun fs h => by rw [Try.underlying2] at h; cases h
theorem sh24 : shOf Try.prog 6 24 = some [.ik .i64, .sl [.ss, .ik .i64, .ik .i64, .ik .i64, .ik .i64, .ik .i64, .ik .i64]] := by kernel_rfl
theorem sh25 : shOf Try.prog 6 25 = some [.sl [.ik .i64]] := by kernel_rfl
theorem ns25 : ∀ fs, Try.prog.underlying 25 ≠ some (.struct fs) := fun fs h => by rw [Try.underlying25] at h; cases h
theorem sem (avs : List AV) (h : ArgsOf Try.prog 6 Try.f3.params.toList avs) : FnSem Try.prog 3 avs [] (Is [Bo true] []) := by
  rw [Try.params3] at h
  obtain ⟨ps0, r0, f0, rfl, h0⟩ := ArgsOf.cons sh24 h
  obtain ⟨x0, rfl⟩ := fitL_Mine f0
  rw [argAV_struct Try.underlying24]
  obtain ⟨ps1, r1, f1, rfl, h1⟩ := ArgsOf.cons sh25 h0
  obtain ⟨p1, e1, rfl, g1, f1⟩ := f1.cons
  obtain rfl := f1.nil
  obtain ⟨x1, rfl⟩ := fit_LI g1
  rw [argAV_l ns25]
  obtain ⟨ps2, r2, f2, rfl, h2⟩ := ArgsOf.cons sh25 h1
  obtain ⟨p2, e2, rfl, g2, f2⟩ := f2.cons
  obtain rfl := f2.nil
  obtain ⟨x2, rfl⟩ := fit_LI g2
  rw [argAV_l ns25]
  obtain ⟨ps3, r3, f3, rfl, h3⟩ := ArgsOf.cons sh25 h2
  obtain ⟨p3, e3, rfl, g3, f3⟩ := f3.cons
  obtain rfl := f3.nil
  obtain ⟨x3, rfl⟩ := fit_LI g3
  rw [argAV_l ns25]
  obtain ⟨ps4, r4, f4, rfl, h4⟩ := ArgsOf.cons sh25 h3
  obtain ⟨p4, e4, rfl, g4, f4⟩ := f4.cons
  obtain rfl := f4.nil
  obtain ⟨x4, rfl⟩ := fit_LI g4
  rw [argAV_l ns25]
  obtain ⟨ps5, r5, f5, rfl, h5⟩ := ArgsOf.cons sh2 h4
  obtain ⟨p5, e5, rfl, g5, f5⟩ := f5.cons
  obtain rfl := f5.nil
  obtain ⟨x5, rfl⟩ := fit_i g5
  rw [argAV_c ns2]
  obtain ⟨ps6, r6, f6, rfl, h6⟩ := ArgsOf.cons sh2 h5
  obtain ⟨p6, e6, rfl, g6, f6⟩ := f6.cons
  obtain rfl := f6.nil
  obtain ⟨x6, rfl⟩ := fit_i g6
  rw [argAV_c ns2]
  obtain ⟨ps7, r7, f7, rfl, h7⟩ := ArgsOf.cons sh2 h6
  obtain ⟨p7, e7, rfl, g7, f7⟩ := f7.cons
  obtain rfl := f7.nil
  obtain ⟨x7, rfl⟩ := fit_i g7
  rw [argAV_c ns2]
  obtain ⟨ps8, r8, f8, rfl, h8⟩ := ArgsOf.cons sh2 h7
  obtain ⟨p8, e8, rfl, g8, f8⟩ := f8.cons
  obtain rfl := f8.nil
  obtain ⟨x8, rfl⟩ := fit_i g8
  rw [argAV_c ns2]
  obtain ⟨ps9, r9, f9, rfl, h9⟩ := ArgsOf.cons sh2 h8
  obtain ⟨p9, e9, rfl, g9, f9⟩ := f9.cons
  obtain rfl := f9.nil
  obtain ⟨x9, rfl⟩ := fit_i g9
  rw [argAV_c ns2]
  obtain rfl : _ = [] := h9
  exact c_laws_FnExactFewestCoolers x0 x1 x2 x3 x4 x5 x6 x7 x8 x9

theorem lifted (os : Os) (started : os.Started) (H : Type) (enc : TypeId × Value → H) :
    ReturnsInHanded {} Try.checked os 3 .any (Rows.fnExactFewestCoolersSpec.pre6 enc Try.prog Try.f3 Rows.fnExactFewestCoolersRow.domain false) (Rows.fnExactFewestCoolersSpec.post enc Try.prog Try.f3 false true false false) := by
  refine returnsInHanded_of_change (C := Try.checked) own started (by kernel_rfl) Try.func3
    (ChangeSpec.witness6 (enc := enc) (C := Try.checked) false ⟨#[], #[.agg #[.int .i64 0, .slice none 0 0], .slice none 0 0, .slice none 0 0, .slice none 0 0, .slice none 0 0, .int .i64 0, .int .i64 0, .int .i64 0, .int .i64 0, .int .i64 0], []⟩ 8 (by kernel_rfl) (by kernel_rfl) (by kernel_rfl) (by kernel_rfl)) ?_
  intro W base args ds gs before hval hW _ _
  have hds : Rows.fnExactFewestCoolersSpec.fn H (ds ++ gs) = { results := [.lit (.bool true)], args := ds } := by
    obtain ⟨p, q, hA, hV, _⟩ := id hW
    obtain ⟨rfl, _⟩ := trodVars_none hV
    have hl := trodAll_len hA
    have hn : Try.f3.params.toList.length = 10 := by rw [Try.params3]; rfl
    rw [hn] at hl
    rw [List.append_nil]
    match ds, hl with
    | [d0, d1, d2, d3, d4, d5, d6, d7, d8, d9], _ => rfl
  exact law_calls (tb := 4) (by kernel_rfl) (by kernel_rfl) (by kernel_rfl) (by kernel_rfl) (by kernel_rfl) Try.underlying4 rfl trivial sem hval hW hds

theorem and_t {a b : Bool} (h : a = true) (k : b = true) : (a && b) = true := by rw [h, k]; rfl
theorem j0 : (Rows.fnExactFewestCoolersRow.wf (OpenSpec.ofChange Rows.fnExactFewestCoolersSpec)) = true := by kernel_rfl
theorem j1 : (laidOutB Try.prog) = true := by kernel_rfl
theorem j2 : (mapsRowed Try.prog) = true := by kernel_rfl
theorem j3 : (Try.f3.params.all (Try.prog.readableRec ·)) = true := by kernel_rfl
theorem j4 : (namedTie Try.prog Rows.fnExactFewestCoolersRow.named Rows.fnExactFewestCoolersSpec.vars) = true := by kernel_rfl
theorem j5 : ((Rows.fnExactFewestCoolersRow.stops == [])) = true := by kernel_rfl
theorem j6 : ((Try.prog.stops == [])) = true := by kernel_rfl
theorem j7 : ((Rows.fnExactFewestCoolersRow.knobs == [])) = true := by kernel_rfl
theorem j8 : ((Try.prog.stopKnobs == [])) = true := by kernel_rfl
theorem j9 : ((Rows.fnExactFewestCoolersRow.inPlace == Try.prog.inPlace 3)) = true := by kernel_rfl
theorem j10 : ((Rows.fnExactFewestCoolersRow.unfollowed == Try.prog.unfollowed 3)) = true := by kernel_rfl
theorem j11 : ((Rows.fnExactFewestCoolersRow.recurses == Try.prog.recurses 3)) = true := by kernel_rfl
theorem j12 : ((Rows.fnExactFewestCoolersRow.named == Try.prog.varsNamed 3)) = true := by kernel_rfl
theorem j13 : ((Rows.fnExactFewestCoolersRow.maps == (Try.f3.params.toList ++ Rows.fnExactFewestCoolersSpec.plain.varTypes Try.prog).any (Try.prog.mapsRec ·))) = true := by kernel_rfl
theorem j14 : ((Rows.fnExactFewestCoolersRow.ifaces == (Try.f3.params.toList ++ Rows.fnExactFewestCoolersSpec.plain.varTypes Try.prog).any (Try.prog.ifacesRec ·))) = true := by kernel_rfl
theorem j15 : ((Rows.fnExactFewestCoolersRow.mapsOut == Try.prog.mapsAmong Try.f3.resultTypes.toList)) = true := by kernel_rfl
theorem j16 : ((Rows.fnExactFewestCoolersRow.loops == (Try.f3.params.toList ++ Rows.fnExactFewestCoolersSpec.plain.varTypes Try.prog).any (Try.prog.loopsFrom ·))) = true := by kernel_rfl
theorem j17 : ((Rows.fnExactFewestCoolersRow.wideKeys == (Try.f3.params.toList ++ Rows.fnExactFewestCoolersSpec.plain.varTypes Try.prog ++ Try.f3.resultTypes.toList).any (Try.prog.wideKeysFrom ·))) = true := by kernel_rfl
theorem j18 : (Rows.fnExactFewestCoolersSpec.vars.all (Try.prog.varReadable ·)) = true := by kernel_rfl
theorem j19 : (Try.f3.resultTypes.all (fun t => Try.prog.readableRec t && decide (t < Try.prog.types.size))) = true := by kernel_rfl
theorem j20 : ((Rows.fnExactFewestCoolersRow.ifacesOut == Try.f3.resultTypes.toList.any (Try.prog.ifacesRec ·))) = true := by kernel_rfl
theorem j21 : ((Rows.fnExactFewestCoolersRow.loopsOut == Try.f3.resultTypes.toList.any (Try.prog.loopsFrom ·))) = true := by kernel_rfl
theorem j22 : ((Rows.fnExactFewestCoolersRow.plainKeys == Try.prog.plainKeys)) = true := by kernel_rfl
theorem j23 : (Rows.fnExactFewestCoolersRow.shortTexts.isNone) = true := by kernel_rfl
theorem j24 : (Try.prog.stopsHeard) = true := by kernel_rfl
theorem j25 : (Try.prog.mayEnter) = true := by kernel_rfl
theorem j26 : ((Rows.fnExactFewestCoolersRow.lifted == Try.prog.liftsFinal)) = true := by kernel_rfl
theorem j27 : ((Try.prog.make == some Rows.fnExactFewestCoolersRow.make)) = true := by kernel_rfl
theorem j28 : ((Rows.fnExactFewestCoolersRow.kinds == (if Rows.fnExactFewestCoolersRow.domain.isEmpty then [] else Try.f3.params.toList.map fun t => match Try.prog.underlying t with | some (.int k) => some k | _ => none))) = true := by kernel_rfl
theorem j29 : ((Rows.fnExactFewestCoolersRow.pinned == Rows.fnExactFewestCoolersRow.pinnedBy)) = true := by kernel_rfl
theorem j30 : ((Rows.fnExactFewestCoolersRow.veiled == (Try.f3.params.toList ++ Rows.fnExactFewestCoolersSpec.plain.varTypes Try.prog ++ Try.f3.resultTypes.toList).any (Try.prog.veiledRec ·))) = true := by kernel_rfl
theorem j31 : (Rows.fnExactFewestCoolersRow.veiledFits Try.prog Try.f3.params.toList (Try.f3.params.toList ++ Rows.fnExactFewestCoolersSpec.plain.varTypes Try.prog ++ Try.f3.resultTypes.toList)) = true := by kernel_rfl
theorem joined : joinedFacts Try.prog 3 Try.f3 Rows.fnExactFewestCoolersSpec Rows.fnExactFewestCoolersRow = true := by
  unfold joinedFacts
  exact (and_t (and_t (and_t (and_t (and_t (and_t (and_t (and_t (and_t (and_t (and_t (and_t (and_t (and_t (and_t (and_t (and_t (and_t (and_t (and_t (and_t (and_t (and_t (and_t (and_t (and_t (and_t (and_t (and_t (and_t (and_t j0 j1) j2) j3) j4) j5) j6) j7) j8) j9) j10) j11) j12) j13) j14) j15) j16) j17) j18) j19) j20) j21) j22) j23) j24) j25) j26) j27) j28) j29) j30) j31)
theorem jf : Try.prog.funcNamed Rows.fnExactFewestCoolersRow.func = some 3 := by kernel_rfl
theorem ji : Try.f3.isInstance Try.prog Rows.fnExactFewestCoolersRow.origin Rows.fnExactFewestCoolersRow.targs := of_decide_eq_true (by kernel_rfl)
theorem jw : Try.f3.isWrapper Try.prog Rows.fnExactFewestCoolersRow.wrapper Rows.fnExactFewestCoolersRow.mainSum := by unfold Func.isWrapper; first | (rw [if_pos (by decide +kernel)]; kernel_rfl) | (rw [if_neg (by decide +kernel)]; exact ⟨rfl, rfl⟩)
theorem over : Rows.fnExactFewestCoolersRow.holds Try.pinned (OpenSpec.ofChange Rows.fnExactFewestCoolersSpec) :=
  OpenClaim.holds_of_wide 3 Try.f3 rfl rfl rfl rfl rfl rfl rfl ⟨rfl, rfl, rfl, rfl, rfl⟩ rfl rfl rfl rfl rfl jf Try.func3 joined ji jw
    (fun os started H enc _ => lifted os started H enc)

theorem proved : Rows.FnExactFewestCoolersSaid :=
  over
#print axioms proved
end Go.Proofs.Ytfcnlpghdpfjkaa.fnExactFewestCoolers
