/- The statement: FnExactFewestBoosters returns true for every input, and each argument reads afterwards as it read before. No conditions. -/
import Derived.Test.YtjgllpildemkpaaRows
import Derived.Test.YtjgllpildemkpaaQ12
namespace Go.Proofs.Ytjgllpildemkpaa.fnExactFewestBoosters
open Go.ChangeShapes Go.WideShapes Go.ChangeAt Go.RowKit Go.Av
set_option maxRecDepth 100000
set_option linter.unusedVariables false

theorem own : ownKnob Try.prog.godebug = none := by kernel_rfl
theorem sh2 : shOf Try.prog 6 2 = some [.ik .i64] := by kernel_rfl
theorem ns2 : ∀ fs, Try.prog.underlying 2 ≠ some (.struct fs) := fun fs h => by rw [Try.underlying2] at h; cases h
theorem sh28 : shOf Try.prog 6 28 = some [.sl [.bb]] := by kernel_rfl
theorem ns28 : ∀ fs, Try.prog.underlying 28 ≠ some (.struct fs) := fun fs h => by rw [Try.underlying28] at h; cases h
theorem sh31 : shOf Try.prog 6 31 = some [.sl [.ik .i64]] := by kernel_rfl
theorem ns31 : ∀ fs, Try.prog.underlying 31 ≠ some (.struct fs) := fun fs h => by rw [Try.underlying31] at h; cases h
theorem sh102 : shOf Try.prog 6 102 = some [.ik .i64, .sl [.ss, .ik .i64, .ik .i64, .ik .i64, .ik .i64, .ik .i64, .ik .i64]] := by kernel_rfl
theorem sem (avs : List AV) (h : ArgsOf Try.prog 6 Try.f12.params.toList avs) : FnSem Try.prog 12 avs [] (Is [Bo true] []) := by
  rw [Try.params12] at h
  obtain ⟨ps0, r0, f0, rfl, h0⟩ := ArgsOf.cons sh102 h
  obtain ⟨x0, rfl⟩ := fitL_Mine f0
  rw [argAV_struct Try.underlying102]
  obtain ⟨ps1, r1, f1, rfl, h1⟩ := ArgsOf.cons sh31 h0
  obtain ⟨p1, e1, rfl, g1, f1⟩ := f1.cons
  obtain rfl := f1.nil
  obtain ⟨x1, rfl⟩ := fit_LI g1
  rw [argAV_l ns31]
  obtain ⟨ps2, r2, f2, rfl, h2⟩ := ArgsOf.cons sh31 h1
  obtain ⟨p2, e2, rfl, g2, f2⟩ := f2.cons
  obtain rfl := f2.nil
  obtain ⟨x2, rfl⟩ := fit_LI g2
  rw [argAV_l ns31]
  obtain ⟨ps3, r3, f3, rfl, h3⟩ := ArgsOf.cons sh28 h2
  obtain ⟨p3, e3, rfl, g3, f3⟩ := f3.cons
  obtain rfl := f3.nil
  obtain ⟨x3, rfl⟩ := fit_LB g3
  rw [argAV_l ns28]
  obtain ⟨ps4, r4, f4, rfl, h4⟩ := ArgsOf.cons sh31 h3
  obtain ⟨p4, e4, rfl, g4, f4⟩ := f4.cons
  obtain rfl := f4.nil
  obtain ⟨x4, rfl⟩ := fit_LI g4
  rw [argAV_l ns31]
  obtain ⟨ps5, r5, f5, rfl, h5⟩ := ArgsOf.cons sh2 h4
  obtain ⟨p5, e5, rfl, g5, f5⟩ := f5.cons
  obtain rfl := f5.nil
  obtain ⟨x5, rfl⟩ := fit_i g5
  rw [argAV_c ns2]
  obtain ⟨ps6, r6, f6, rfl, h6⟩ := ArgsOf.cons sh2 h5
  obtain ⟨p6, e6, rfl, g6, f6⟩ := f6.cons
  obtain rfl := f6.nil
  obtain ⟨x6, rfl⟩ := fit_i g6
  rw [argAV_c ns2]
  obtain rfl : _ = [] := h6
  exact c_laws_FnExactFewestBoosters x0 x1 x2 x3 x4 x5 x6

theorem lifted (os : Os) (started : os.Started) (H : Type) (enc : TypeId × Value → H) :
    ReturnsInHanded {} Try.checked os 12 .any (Rows.fnExactFewestBoostersSpec.pre6 enc Try.prog Try.f12 Rows.fnExactFewestBoostersRow.domain false) (Rows.fnExactFewestBoostersSpec.post enc Try.prog Try.f12 false true false false) := by
  refine returnsInHanded_of_change (C := Try.checked) own started (by kernel_rfl) Try.func12
    (ChangeSpec.witness6 (enc := enc) (C := Try.checked) false ⟨#[], #[.agg #[.int .i64 0, .slice none 0 0], .slice none 0 0, .slice none 0 0, .slice none 0 0, .slice none 0 0, .int .i64 0, .int .i64 0], []⟩ 8 (by kernel_rfl) (by kernel_rfl) (by kernel_rfl) (by kernel_rfl)) ?_
  intro W base args ds gs before hval hW _ _
  have hds : Rows.fnExactFewestBoostersSpec.fn H (ds ++ gs) = { results := [.lit (.bool true)], args := ds } := by
    obtain ⟨p, q, hA, hV, _⟩ := id hW
    obtain ⟨rfl, _⟩ := trodVars_none hV
    have hl := trodAll_len hA
    have hn : Try.f12.params.toList.length = 7 := by rw [Try.params12]; rfl
    rw [hn] at hl
    rw [List.append_nil]
    match ds, hl with
    | [d0, d1, d2, d3, d4, d5, d6], _ => rfl
  exact law_calls (tb := 4) (by kernel_rfl) (by kernel_rfl) (by kernel_rfl) (by kernel_rfl) (by kernel_rfl) Try.underlying4 rfl trivial sem hval hW hds

theorem and_t {a b : Bool} (h : a = true) (k : b = true) : (a && b) = true := by rw [h, k]; rfl
theorem j0 : (Rows.fnExactFewestBoostersRow.wf (OpenSpec.ofChange Rows.fnExactFewestBoostersSpec)) = true := by kernel_rfl
theorem j1 : (laidOutB Try.prog) = true := by kernel_rfl
theorem j2 : (mapsRowed Try.prog) = true := by kernel_rfl
theorem j3 : (Try.f12.params.all (Try.prog.readableRec ·)) = true := by kernel_rfl
theorem j4 : (namedTie Try.prog Rows.fnExactFewestBoostersRow.named Rows.fnExactFewestBoostersSpec.vars) = true := by kernel_rfl
theorem j5 : ((Rows.fnExactFewestBoostersRow.stops == [])) = true := by kernel_rfl
theorem j6 : ((Try.prog.stops == [])) = true := by kernel_rfl
theorem j7 : ((Rows.fnExactFewestBoostersRow.knobs == [])) = true := by kernel_rfl
theorem j8 : ((Try.prog.stopKnobs == [])) = true := by kernel_rfl
theorem j9 : ((Rows.fnExactFewestBoostersRow.inPlace == Try.prog.inPlace 12)) = true := by kernel_rfl
theorem j10 : ((Rows.fnExactFewestBoostersRow.unfollowed == Try.prog.unfollowed 12)) = true := by kernel_rfl
theorem j11 : ((Rows.fnExactFewestBoostersRow.recurses == Try.prog.recurses 12)) = true := by kernel_rfl
theorem j12 : ((Rows.fnExactFewestBoostersRow.named == Try.prog.varsNamed 12)) = true := by kernel_rfl
theorem j13 : ((Rows.fnExactFewestBoostersRow.maps == (Try.f12.params.toList ++ Rows.fnExactFewestBoostersSpec.plain.varTypes Try.prog).any (Try.prog.mapsRec ·))) = true := by kernel_rfl
theorem j14 : ((Rows.fnExactFewestBoostersRow.ifaces == (Try.f12.params.toList ++ Rows.fnExactFewestBoostersSpec.plain.varTypes Try.prog).any (Try.prog.ifacesRec ·))) = true := by kernel_rfl
theorem j15 : ((Rows.fnExactFewestBoostersRow.mapsOut == Try.prog.mapsAmong Try.f12.resultTypes.toList)) = true := by kernel_rfl
theorem j16 : ((Rows.fnExactFewestBoostersRow.loops == (Try.f12.params.toList ++ Rows.fnExactFewestBoostersSpec.plain.varTypes Try.prog).any (Try.prog.loopsFrom ·))) = true := by kernel_rfl
theorem j17 : ((Rows.fnExactFewestBoostersRow.wideKeys == (Try.f12.params.toList ++ Rows.fnExactFewestBoostersSpec.plain.varTypes Try.prog ++ Try.f12.resultTypes.toList).any (Try.prog.wideKeysFrom ·))) = true := by kernel_rfl
theorem j18 : (Rows.fnExactFewestBoostersSpec.vars.all (Try.prog.varReadable ·)) = true := by kernel_rfl
theorem j19 : (Try.f12.resultTypes.all (fun t => Try.prog.readableRec t && decide (t < Try.prog.types.size))) = true := by kernel_rfl
theorem j20 : ((Rows.fnExactFewestBoostersRow.ifacesOut == Try.f12.resultTypes.toList.any (Try.prog.ifacesRec ·))) = true := by kernel_rfl
theorem j21 : ((Rows.fnExactFewestBoostersRow.loopsOut == Try.f12.resultTypes.toList.any (Try.prog.loopsFrom ·))) = true := by kernel_rfl
theorem j22 : ((Rows.fnExactFewestBoostersRow.plainKeys == Try.prog.plainKeys)) = true := by kernel_rfl
theorem j23 : (Rows.fnExactFewestBoostersRow.shortTexts.isNone) = true := by kernel_rfl
theorem j24 : (Try.prog.stopsHeard) = true := by kernel_rfl
theorem j25 : (Try.prog.mayEnter) = true := by kernel_rfl
theorem j26 : ((Rows.fnExactFewestBoostersRow.lifted == Try.prog.liftsFinal)) = true := by kernel_rfl
theorem j27 : ((Try.prog.make == some Rows.fnExactFewestBoostersRow.make)) = true := by kernel_rfl
theorem j28 : ((Rows.fnExactFewestBoostersRow.kinds == (if Rows.fnExactFewestBoostersRow.domain.isEmpty then [] else Try.f12.params.toList.map fun t => match Try.prog.underlying t with | some (.int k) => some k | _ => none))) = true := by kernel_rfl
theorem j29 : ((Rows.fnExactFewestBoostersRow.pinned == Rows.fnExactFewestBoostersRow.pinnedBy)) = true := by kernel_rfl
theorem j30 : ((Rows.fnExactFewestBoostersRow.veiled == (Try.f12.params.toList ++ Rows.fnExactFewestBoostersSpec.plain.varTypes Try.prog ++ Try.f12.resultTypes.toList).any (Try.prog.veiledRec ·))) = true := by kernel_rfl
theorem j31 : (Rows.fnExactFewestBoostersRow.veiledFits Try.prog Try.f12.params.toList (Try.f12.params.toList ++ Rows.fnExactFewestBoostersSpec.plain.varTypes Try.prog ++ Try.f12.resultTypes.toList)) = true := by kernel_rfl
theorem joined : joinedFacts Try.prog 12 Try.f12 Rows.fnExactFewestBoostersSpec Rows.fnExactFewestBoostersRow = true := by
  unfold joinedFacts
  exact (and_t (and_t (and_t (and_t (and_t (and_t (and_t (and_t (and_t (and_t (and_t (and_t (and_t (and_t (and_t (and_t (and_t (and_t (and_t (and_t (and_t (and_t (and_t (and_t (and_t (and_t (and_t (and_t (and_t (and_t (and_t j0 j1) j2) j3) j4) j5) j6) j7) j8) j9) j10) j11) j12) j13) j14) j15) j16) j17) j18) j19) j20) j21) j22) j23) j24) j25) j26) j27) j28) j29) j30) j31)
theorem jf : Try.prog.funcNamed Rows.fnExactFewestBoostersRow.func = some 12 := by kernel_rfl
theorem ji : Try.f12.isInstance Try.prog Rows.fnExactFewestBoostersRow.origin Rows.fnExactFewestBoostersRow.targs := of_decide_eq_true (by kernel_rfl)
theorem jw : Try.f12.isWrapper Try.prog Rows.fnExactFewestBoostersRow.wrapper Rows.fnExactFewestBoostersRow.mainSum := by unfold Func.isWrapper; first | (rw [if_pos (by decide +kernel)]; kernel_rfl) | (rw [if_neg (by decide +kernel)]; exact ⟨rfl, rfl⟩)
theorem over : Rows.fnExactFewestBoostersRow.holds Try.pinned (OpenSpec.ofChange Rows.fnExactFewestBoostersSpec) :=
  OpenClaim.holds_of_wide 12 Try.f12 rfl rfl rfl rfl rfl rfl rfl ⟨rfl, rfl, rfl, rfl, rfl⟩ rfl rfl rfl rfl rfl jf Try.func12 joined ji jw
    (fun os started H enc _ => lifted os started H enc)

theorem proved : Rows.FnExactFewestBoostersSaid :=
  over
#print axioms proved
end Go.Proofs.Ytjgllpildemkpaa.fnExactFewestBoosters
