/- Contracts of functions of the program, and what they compute. Conditions: those that each theorem states. -/
import Derived.Test.YtmifcbekaniiiaaDoorProg
import Derived.Test.YtmifcbekaniiiaaDoorA1
import Derived.Test.YtmifcbekaniiiaaDoorL8
set_option linter.unusedVariables false
set_option linter.unusedSimpArgs false
namespace Go.Proofs.YtmifcbekaniiiaaDoor
open Go.Av
attribute [local irreducible] Go.IntKind.wrap listS decS satI vapI rd rdZ densI pdN densOf pdR
set_option maxRecDepth 20000
set_option maxHeartbeats 8000000

/-! Air: moist air, texts, masses, the law. -/
def okAir (x : GAir) : Bool := inR x.temperature (-100) 600 && inR x.pressure 50000 150000 && inR x.humidity 0 1000
theorem okAir_b {x : GAir} (h : okAir x = true) : (-100 ≤ x.temperature ∧ x.temperature ≤ 600) ∧ (50000 ≤ x.pressure ∧ x.pressure ≤ 150000) ∧ 0 ≤ x.humidity ∧ x.humidity ≤ 1000 := by
  simp only [okAir, Bool.and_eq_true, inR_iff] at h; omega
theorem c_impl_ValidAir (x : GAir) : FnSem Tryd.prog 62 [.p .any (.agg x.cells)] [] (Is [Bo (okAir x)] []) := by
  refine FnSem.walk (zs := zeroPV Tryd.prog) (by kernel_rfl) Tryd.func62 rfl Tryd.results62 (by kernel_rfl) (by kernel_rfl) (by kernel_rfl) fun hw hh => ?_
  obtain ⟨w0, _⟩ := hw
  first | replace w0 := wf_Air w0 | skip
  repeat' first
    | refine And.intro rfl ?_
    | refine GdF.mk (fun h => h) ?_
    | refine And.intro (Nat.succ_ne_zero _) ?_
    | refine And.intro (Nat.le_of_ble_eq_true rfl) ?_
    | refine SeqF.run ?_
    | refine GhF.go ?_
    | refine GdS.keep ?_
    | refine BndF.mk (fun _ => by omega) ?_
    | refine BndF.mk (fun _ => by simp only [List.length_map, List.length_cons, List.length_nil, List.length_append, List.length_set, List.length_replicate, iotaI_len]; omega) ?_
    | refine BndF.mk (fun hG => by simp only [forall_const, eq_self, not_true_eq_false, not_false_eq_true, or_false, false_or, or_self, or_true, true_or, and_true, true_and, and_false, false_and, decide_true, decide_false, Bool.not_true, Bool.not_false, decide_eq_true_eq, decide_eq_false_iff_not, ite_and_p, ite_or_p, Bool.decide_eq_true, Bool.and_eq_true, Bool.or_eq_true, Bool.not_eq_true', Bool.not_eq_false', Bool.and_eq_false_imp, Bool.or_eq_false_iff, bne_iff_ne, beq_iff_eq, bne_eq_false_iff_eq, beq_eq_false_iff_ne, gt_iff_lt, ge_iff_le, Int.not_lt, Int.not_le, ne_eq, Bool.true_eq_false, Bool.false_eq_true, reduceCtorEq, eta_Air, eta_Heading, bytes_nil] at hG; (try simp only [List.length_map]); omega) ?_
    | refine EqL.mk [] rfl ?_
    | refine EqL.mk [_] rfl ?_
    | refine EqL.mk _ rfl ?_
    | refine ArgF.is (c_impl_warmthOk ..) ?_
    | refine ArgQ.is (fun hG => c_impl_warmthOk ..) rfl rfl ?_
    | refine ArgF.is (c_impl_airPressure ..) ?_
    | refine ArgQ.is (fun hG => c_impl_airPressure ..) rfl rfl ?_
    | refine ArgF.is (c_impl_humidityOk ..) ?_
    | refine ArgQ.is (fun hG => c_impl_humidityOk ..) rfl rfl ?_
    | refine CallF.mk (CallW.is [] true rfl ?_)
    | refine CallG.mk ?_
    | (refine CondF.mk (fun hb => ?_) (fun hb => ?_) <;> try simp only [forall_const, eq_self, not_true_eq_false, not_false_eq_true, or_false, false_or, or_self, or_true, true_or, and_true, true_and, and_false, false_and, decide_true, decide_false, Bool.not_true, Bool.not_false, decide_eq_true_eq, decide_eq_false_iff_not, ite_and_p, ite_or_p, Bool.decide_eq_true, Bool.and_eq_true, Bool.or_eq_true, Bool.not_eq_true', Bool.not_eq_false', Bool.and_eq_false_imp, Bool.or_eq_false_iff, bne_iff_ne, beq_iff_eq, bne_eq_false_iff_eq, beq_eq_false_iff_ne, gt_iff_lt, ge_iff_le, Int.not_lt, Int.not_le, ne_eq, Bool.true_eq_false, Bool.false_eq_true, reduceCtorEq, eta_Air, eta_Heading] at hb)
    | refine RetF.auto (And.intro rfl ?_)
    | exact Is.mk rfl rfl
    | refine Is.mk ?_ rfl
    | refine Is.mk rfl ?_
    | refine Is.mk ?_ ?_
  all_goals try dsimp only
  all_goals try simp only [Bo, I, OB.row.injEq, AV.osl.injEq, eI_same,  List.cons.injEq, AV.p.injEq, PV.c.injEq, Value.int.injEq, Value.bool.injEq, and_true, true_and, ite_and_p, ite_or_p, Bool.decide_eq_true, eta_Air, eta_Heading, okAir]
def moistI (x : GAir) : Int := densI x.temperature (x.pressure - rd (378 * vapI x.temperature x.humidity) 1000)
def moistOf (x : GAir) : Int × Int := if okAir x = true then (moistI x, 0) else (0, 1)
theorem moist_v {x : GAir} (h : okAir x = true) : (0 ≤ vapI x.temperature x.humidity ∧ vapI x.temperature x.humidity ≤ 19940) ∧ 0 ≤ rd (378 * vapI x.temperature x.humidity) 1000 ∧ rd (378 * vapI x.temperature x.humidity) 1000 ≤ 7600 := by
  have hb := okAir_b h
  have h1 := vapI_le hb.1 hb.2.2
  have h2 := sat_b hb.1.1 hb.1.2
  exact ⟨by omega, rd_lo (by omega) (by omega) (by omega), rd_hi (by omega) (by omega) (by omega)⟩
theorem c_impl_MoistDensity (x : GAir) : FnSem Tryd.prog 31 [.p .any (.agg x.cells)] [] (Is [In (moistOf x).1, In (moistOf x).2] []) := by
  refine FnSem.walk (zs := zeroPV Tryd.prog) (by kernel_rfl) Tryd.func31 rfl Tryd.results31 (by kernel_rfl) (by kernel_rfl) (by kernel_rfl) fun hw hh => ?_
  obtain ⟨w0, _⟩ := hw
  first | replace w0 := wf_Air w0 | skip
  repeat' first
    | refine And.intro rfl ?_
    | refine GdF.mk (fun h => h) ?_
    | refine And.intro (Nat.succ_ne_zero _) ?_
    | refine And.intro (Nat.le_of_ble_eq_true rfl) ?_
    | refine SeqF.run ?_
    | refine ArgF.is (c_impl_vapourOf x.temperature x.humidity (okAir_b hb).1 (okAir_b hb).2.2) ?_
    | refine ArgQ.is (fun hG => c_impl_vapourOf x.temperature x.humidity (okAir_b hb).1 (okAir_b hb).2.2) rfl rfl ?_
    | refine EqI.mk (378 * vapI x.temperature x.humidity) (fun _ => by have q := (moist_v hb).1; exact wrapI (by omega) (by omega)) ?_
    | refine ArgF.is (c_impl_divRound (378 * vapI x.temperature x.humidity) 1000 (by have q := (moist_v hb).1; omega) (by have q := (moist_v hb).1; omega) (by omega) (by omega)) ?_
    | refine ArgQ.is (fun hG => c_impl_divRound (378 * vapI x.temperature x.humidity) 1000 (by have q := (moist_v hb).1; omega) (by have q := (moist_v hb).1; omega) (by omega) (by omega)) rfl rfl ?_
    | refine EqI.mk (x.pressure - rd (378 * vapI x.temperature x.humidity) 1000) (fun _ => by have q := (moist_v hb).2; have q2 := okAir_b hb; exact wrapI (by omega) (by omega)) ?_
    | refine ArgF.is (c_impl_densityOf x.temperature (x.pressure - rd (378 * vapI x.temperature x.humidity) 1000) (okAir_b hb).1 (by have q := (moist_v hb).2; have q2 := okAir_b hb; omega)) ?_
    | refine ArgQ.is (fun hG => c_impl_densityOf x.temperature (x.pressure - rd (378 * vapI x.temperature x.humidity) 1000) (okAir_b hb).1 (by have q := (moist_v hb).2; have q2 := okAir_b hb; omega)) rfl rfl ?_
    | refine GhF.go ?_
    | refine DrawG.old (DrawF.lex (by decide +kernel) ?_)
    | refine BndF.mk (fun _ => by omega) ?_
    | refine BndF.mk (fun _ => by simp only [List.length_map, List.length_cons, List.length_nil, List.length_append, List.length_set, List.length_replicate, iotaI_len]; omega) ?_
    | refine EqI.mk _ (fun _ => wrapI (by omega) (by omega)) ?_
    | refine EqI.mk _ (fun _ => rfl) ?_
    | refine EqL.mk [] rfl ?_
    | refine EqL.mk [_] rfl ?_
    | refine EqL.mk _ rfl ?_
    | refine ArgF.is (c_impl_ValidAir ⟨_, _, _⟩) ?_
    | refine ArgQ.is (fun hG => c_impl_ValidAir ⟨_, _, _⟩) rfl rfl ?_
    | refine ArgF.is (c_impl_vapourOf _ (by first | assumption | omega) (by first | assumption | omega) (by first | assumption | omega)) ?_
    | refine ArgQ.is (fun hG => c_impl_vapourOf _ (by first | assumption | omega) (by first | assumption | omega) (by first | assumption | omega)) rfl rfl ?_
    | refine ArgF.is (c_impl_divRound _ _ (by first | assumption | omega) (by first | assumption | omega) (by first | assumption | omega) (by first | assumption | omega)) ?_
    | refine ArgQ.is (fun hG => c_impl_divRound _ _ (by first | assumption | omega) (by first | assumption | omega) (by first | assumption | omega) (by first | assumption | omega)) rfl rfl ?_
    | refine ArgF.is (c_impl_densityOf _ _ (by first | assumption | omega) (by first | assumption | omega)) ?_
    | refine ArgQ.is (fun hG => c_impl_densityOf _ _ (by first | assumption | omega) (by first | assumption | omega)) rfl rfl ?_
    | refine CallF.mk (CallW.is [] true rfl ?_)
    | refine CallG.mk ?_
    | (refine CondF.mk (fun hb => ?_) (fun hb => ?_) <;> try simp only [forall_const, eq_self, not_true_eq_false, not_false_eq_true, or_false, false_or, or_self, or_true, true_or, and_true, true_and, and_false, false_and, decide_true, decide_false, Bool.not_true, Bool.not_false, decide_eq_true_eq, decide_eq_false_iff_not, ite_and_p, ite_or_p, Bool.decide_eq_true, Bool.and_eq_true, Bool.or_eq_true, Bool.not_eq_true', Bool.not_eq_false', Bool.and_eq_false_imp, Bool.or_eq_false_iff, bne_iff_ne, beq_iff_eq, bne_eq_false_iff_eq, beq_eq_false_iff_ne, gt_iff_lt, ge_iff_le, Int.not_lt, Int.not_le, ne_eq, Bool.true_eq_false, Bool.false_eq_true, reduceCtorEq, eta_Air, eta_Heading] at hb)
    | refine RetF.auto (And.intro rfl ?_)
    | exact Is.mk rfl rfl
    | refine Is.mk ?_ rfl
    | refine Is.mk rfl ?_
    | refine Is.mk ?_ ?_
  all_goals try dsimp only
  all_goals first
    | (unfold moistOf; rw [if_neg (by rw [hb]; decide)]; done)
    | (unfold moistOf; rw [if_pos hb]; rfl)
    | skip
theorem moist_0 {x : GAir} (h : (moistOf x).2 = 0) : okAir x = true := by
  unfold moistOf at h
  split at h
  · assumption
  · cases h
theorem moist_1 {x : GAir} (h : (moistOf x).2 = 0) : (densOf x.temperature x.pressure).2 = 0 ∧ (moistOf x).1 ≤ (densOf x.temperature x.pressure).1 ∧ 1 ≤ (moistOf x).1 := by
  have h0 := moist_0 h
  have hb := okAir_b h0
  have hv := moist_v h0
  unfold moistOf densOf
  rw [if_pos h0, if_pos (by simp only [Bool.and_eq_true, inR_iff]; omega)]
  refine ⟨rfl, ?_, ?_⟩
  · exact densI_p hb.1 (by omega) (by omega)
  · exact densI_1 hb.1 (by omega)
def airS (x : GAir) : ByteArray := listS [x.temperature, x.pressure, x.humidity]
theorem okL3 {a b c : Int} (ha : -1000000000000 ≤ a ∧ a ≤ 1000000000000) (hb : -1000000000000 ≤ b ∧ b ≤ 1000000000000) (hc : -1000000000000 ≤ c ∧ c ≤ 1000000000000) : okL [a, b, c] := by
  refine ⟨Nat.succ_pos _, Nat.le_of_ble_eq_true rfl, fun x hx => ?_⟩
  simp only [List.mem_cons, List.not_mem_nil, or_false] at hx
  rcases hx with rfl | rfl | rfl <;> assumption
theorem okAir_l {x : GAir} (h : okAir x = true) : okL [x.temperature, x.pressure, x.humidity] := by
  have := okAir_b h
  exact okL3 (by omega) (by omega) (by omega)
theorem c_impl_readNumbers (xs : List Int) (k : Int) (h : okL xs) (hk : k = xs.length) : FnSem Tryd.prog 64 [Str (listS xs), In k] [] (Is [.osl 0 0 xs.length, Bo true] [Rw .flat (eI 0) (xs.map eI)]) := by
  subst hk
  refine FnSem.walk (zs := zeroPV Tryd.prog) (by kernel_rfl) Tryd.func64 rfl Tryd.results64 (by kernel_rfl) (by kernel_rfl) (by kernel_rfl) fun hw hh => ?_
  obtain ⟨w0, w1, _⟩ := hw
  first | replace w0 := wf_S w0 | skip
  first | replace w1 := wf_I w1 | skip
  repeat' first
    | refine And.intro rfl ?_
    | refine GdF.mk (fun h => h) ?_
    | refine And.intro (Nat.succ_ne_zero _) ?_
    | refine And.intro (Nat.le_of_ble_eq_true rfl) ?_
    | refine SeqF.run ?_
    | refine ArgF.is (rlsT xs h) ?_
    | refine ArgQ.is (fun hG => rlsT xs h) rfl rfl ?_
    | refine GhF.go ?_
    | refine GdS.keep ?_
    | refine MkF.row ?_
    | refine BndF.mk (fun _ => by omega) ?_
    | refine BndF.mk (fun _ => by simp only [List.length_map, List.length_cons, List.length_nil, List.length_append, List.length_set, List.length_replicate, iotaI_len]; omega) ?_
    | refine BndF.mk (fun hG => by simp only [forall_const, eq_self, not_true_eq_false, not_false_eq_true, or_false, false_or, or_self, or_true, true_or, and_true, true_and, and_false, false_and, decide_true, decide_false, Bool.not_true, Bool.not_false, decide_eq_true_eq, decide_eq_false_iff_not, ite_and_p, ite_or_p, Bool.decide_eq_true, Bool.and_eq_true, Bool.or_eq_true, Bool.not_eq_true', Bool.not_eq_false', Bool.and_eq_false_imp, Bool.or_eq_false_iff, bne_iff_ne, beq_iff_eq, bne_eq_false_iff_eq, beq_eq_false_iff_ne, gt_iff_lt, ge_iff_le, Int.not_lt, Int.not_le, ne_eq, Bool.true_eq_false, Bool.false_eq_true, reduceCtorEq, eta_Air, eta_Heading, bytes_nil] at hG; (try simp only [List.length_map]); omega) ?_
    | refine EqN.mk _ (ln eI) ?_
    | refine EqN.mk _ (Nat.zero_add _) ?_
    | refine EqN.mk _ (Int.toNat_natCast _) ?_
    | refine EqN.mk _ rfl ?_
    | refine EqL.mk _ (tk eI (by first | rfl | assumption | omega | (simp only [List.length_map, List.length_cons, List.length_nil, List.length_append, List.length_set, List.length_replicate, iotaI_len]; done) | (simp only [List.length_map, List.length_cons, List.length_nil, List.length_append, List.length_set, List.length_replicate, iotaI_len]; omega))) ?_
    | refine EqL.mk _ (rp eI 0) ?_
    | refine EqL.mk _ (dt eI) ?_
    | refine EqL.mk [] rfl ?_
    | refine EqL.mk [_] rfl ?_
    | refine EqL.mk _ rfl ?_
    | refine ArgF.is (c_impl_ReadList ..) ?_
    | refine ArgQ.is (fun hG => c_impl_ReadList ..) rfl rfl ?_
    | refine CallF.mk (CallW.is [] true rfl ?_)
    | refine CallG.mk ?_
    | (refine CondF.mk (fun hb => ?_) (fun hb => ?_) <;> try simp only [forall_const, eq_self, not_true_eq_false, not_false_eq_true, or_false, false_or, or_self, or_true, true_or, and_true, true_and, and_false, false_and, decide_true, decide_false, Bool.not_true, Bool.not_false, decide_eq_true_eq, decide_eq_false_iff_not, ite_and_p, ite_or_p, Bool.decide_eq_true, Bool.and_eq_true, Bool.or_eq_true, Bool.not_eq_true', Bool.not_eq_false', Bool.and_eq_false_imp, Bool.or_eq_false_iff, bne_iff_ne, beq_iff_eq, bne_eq_false_iff_eq, beq_eq_false_iff_ne, gt_iff_lt, ge_iff_le, Int.not_lt, Int.not_le, ne_eq, Bool.true_eq_false, Bool.false_eq_true, reduceCtorEq, eta_Air, eta_Heading] at hb)
    | refine RetF.auto (And.intro rfl ?_)
    | exact Is.mk rfl rfl
    | refine Is.mk ?_ rfl
    | refine Is.mk rfl ?_
    | refine Is.mk ?_ ?_
  all_goals try dsimp only
  all_goals first
    | omega
    | skip
theorem c_impl_AirText (x : GAir) (hv : okAir x = true) : FnSem Tryd.prog 33 [.p .any (.agg x.cells)] [] (Is [Str (airS x)] []) := by
  refine FnSem.walk (zs := zeroPV Tryd.prog) (by kernel_rfl) Tryd.func33 rfl Tryd.results33 (by kernel_rfl) (by kernel_rfl) (by kernel_rfl) fun hw hh => ?_
  obtain ⟨w0, _⟩ := hw
  first | replace w0 := wf_Air w0 | skip
  repeat' first
    | refine And.intro rfl ?_
    | refine GdF.mk (fun h => h) ?_
    | refine And.intro (Nat.succ_ne_zero _) ?_
    | refine And.intro (Nat.le_of_ble_eq_true rfl) ?_
    | refine SeqF.run ?_
    | refine ArgF.is (ltxT [x.temperature, x.pressure, x.humidity] (okAir_l hv)) ?_
    | refine ArgQ.is (fun hG => ltxT [x.temperature, x.pressure, x.humidity] (okAir_l hv)) rfl rfl ?_
    | refine GhF.go ?_
    | refine MkF.row ?_
    | refine BndF.mk (fun _ => by omega) ?_
    | refine BndF.mk (fun _ => by simp only [List.length_map, List.length_cons, List.length_nil, List.length_append, List.length_set, List.length_replicate, iotaI_len]; omega) ?_
    | refine EqL.mk _ (tk eI (by first | rfl | assumption | omega | (simp only [List.length_map, List.length_cons, List.length_nil, List.length_append, List.length_set, List.length_replicate, iotaI_len]; done) | (simp only [List.length_map, List.length_cons, List.length_nil, List.length_append, List.length_set, List.length_replicate, iotaI_len]; omega))) ?_
    | refine EqL.mk (List.map eI [_, _, _]) rfl ?_
    | refine EqL.mk [] rfl ?_
    | refine EqL.mk [_] rfl ?_
    | refine EqL.mk _ rfl ?_
    | refine ArgF.is (c_impl_ValidAir ⟨_, _, _⟩) ?_
    | refine ArgQ.is (fun hG => c_impl_ValidAir ⟨_, _, _⟩) rfl rfl ?_
    | refine ArgF.is (c_impl_ListText ..) ?_
    | refine ArgQ.is (fun hG => c_impl_ListText ..) rfl rfl ?_
    | refine CallF.mk (CallW.is [] true rfl ?_)
    | refine CallG.mk ?_
    | (refine CondF.mk (fun hb => ?_) (fun hb => ?_) <;> try simp only [forall_const, eq_self, not_true_eq_false, not_false_eq_true, or_false, false_or, or_self, or_true, true_or, and_true, true_and, and_false, false_and, decide_true, decide_false, Bool.not_true, Bool.not_false, decide_eq_true_eq, decide_eq_false_iff_not, ite_and_p, ite_or_p, Bool.decide_eq_true, Bool.and_eq_true, Bool.or_eq_true, Bool.not_eq_true', Bool.not_eq_false', Bool.and_eq_false_imp, Bool.or_eq_false_iff, bne_iff_ne, beq_iff_eq, bne_eq_false_iff_eq, beq_eq_false_iff_ne, gt_iff_lt, ge_iff_le, Int.not_lt, Int.not_le, ne_eq, Bool.true_eq_false, Bool.false_eq_true, reduceCtorEq, eta_Air, eta_Heading] at hb)
    | refine RetF.auto (And.intro rfl ?_)
    | exact Is.mk rfl rfl
    | refine Is.mk ?_ rfl
    | refine Is.mk rfl ?_
    | refine Is.mk ?_ ?_
  all_goals try dsimp only
  all_goals first
    | (exfalso; rw [hv] at hb; cases hb; done)
    | skip
theorem c_impl_ReadAir (x : GAir) (hv : okAir x = true) : FnSem Tryd.prog 32 [Str (airS x)] [] (Is [.p .flat (.agg x.cells), Bo true] []) := by
  refine FnSem.walk (zs := zeroPV Tryd.prog) (by kernel_rfl) Tryd.func32 rfl Tryd.results32 (by kernel_rfl) (by kernel_rfl) (by kernel_rfl) fun hw hh => ?_
  obtain ⟨w0, _⟩ := hw
  first | replace w0 := wf_S w0 | skip
  repeat' first
    | refine And.intro rfl ?_
    | refine GdF.mk (fun h => h) ?_
    | refine And.intro (Nat.succ_ne_zero _) ?_
    | refine And.intro (Nat.le_of_ble_eq_true rfl) ?_
    | refine SeqF.run ?_
    | refine ArgF.is (c_impl_readNumbers [x.temperature, x.pressure, x.humidity] 3 (okAir_l hv) rfl) ?_
    | refine ArgQ.is (fun hG => c_impl_readNumbers [x.temperature, x.pressure, x.humidity] 3 (okAir_l hv) rfl) rfl rfl ?_
    | refine ArgF.is (c_impl_AirText x hv) ?_
    | refine ArgQ.is (fun hG => c_impl_AirText x hv) rfl rfl ?_
    | refine GhF.go ?_
    | refine GdS.keep ?_
    | refine DrawG.old (DrawF.lex (by decide +kernel) ?_)
    | refine DrawG.old (DrawF.any ?_)
    | refine OrdF.take 0 (by decide +kernel) ?_
    | refine OrdF.take 1 (by decide +kernel) ?_
    | refine OrdF.take 3 (by decide +kernel) ?_
    | refine OrdF.take 4 (by decide +kernel) ?_
    | refine OrdF.take 6 (by decide +kernel) ?_
    | refine OrdF.take 7 (by decide +kernel) ?_
    | refine OrdF.take 9 (by decide +kernel) ?_
    | refine OrdF.all [11] (by decide +kernel) ?_
    | refine OrdF.all [2] (by decide +kernel) ?_
    | refine OrdF.all [5] (by decide +kernel) ?_
    | refine OrdF.all [2, 5] (by decide +kernel) ?_
    | refine OrdF.all [8] (by decide +kernel) ?_
    | refine OrdF.all [2, 8] (by decide +kernel) ?_
    | refine OrdF.all [5, 8] (by decide +kernel) ?_
    | refine OrdF.all [2, 5, 8] (by decide +kernel) ?_
    | refine OrdF.all [10] (by decide +kernel) ?_
    | refine OrdF.all [2, 10] (by decide +kernel) ?_
    | refine OrdF.all [5, 10] (by decide +kernel) ?_
    | refine OrdF.all [2, 5, 10] (by decide +kernel) ?_
    | refine OrdF.all [8, 10] (by decide +kernel) ?_
    | refine OrdF.all [2, 8, 10] (by decide +kernel) ?_
    | refine OrdF.all [5, 8, 10] (by decide +kernel) ?_
    | refine OrdF.all [2, 5, 8, 10] (by decide +kernel) ?_
    | refine OrdF.fin (by decide +kernel) ?_
    | refine AllF.one _ ?_
    | refine AllF.cons _ _ ?_ ?_
    | refine EqP.mk _ (gm eI 0 rfl) ?_
    | refine BndF.mk (fun _ => by omega) ?_
    | refine BndF.mk (fun _ => by simp only [List.length_map, List.length_cons, List.length_nil, List.length_append, List.length_set, List.length_replicate, iotaI_len]; omega) ?_
    | refine BndF.mk (fun hG => by simp only [forall_const, eq_self, not_true_eq_false, not_false_eq_true, or_false, false_or, or_self, or_true, true_or, and_true, true_and, and_false, false_and, decide_true, decide_false, Bool.not_true, Bool.not_false, decide_eq_true_eq, decide_eq_false_iff_not, ite_and_p, ite_or_p, Bool.decide_eq_true, Bool.and_eq_true, Bool.or_eq_true, Bool.not_eq_true', Bool.not_eq_false', Bool.and_eq_false_imp, Bool.or_eq_false_iff, bne_iff_ne, beq_iff_eq, bne_eq_false_iff_eq, beq_eq_false_iff_ne, gt_iff_lt, ge_iff_le, Int.not_lt, Int.not_le, ne_eq, Bool.true_eq_false, Bool.false_eq_true, reduceCtorEq, eta_Air, eta_Heading, bytes_nil] at hG; (try simp only [List.length_map]); omega) ?_
    | refine EqN.mk _ (Nat.zero_add _) ?_
    | refine EqN.mk _ (Int.toNat_natCast _) ?_
    | refine EqN.mk _ rfl ?_
    | refine EqL.mk _ (tk eI (by first | rfl | assumption | omega | (simp only [List.length_map, List.length_cons, List.length_nil, List.length_append, List.length_set, List.length_replicate, iotaI_len]; done) | (simp only [List.length_map, List.length_cons, List.length_nil, List.length_append, List.length_set, List.length_replicate, iotaI_len]; omega))) ?_
    | refine EqL.mk _ (st eI) ?_
    | refine EqL.mk [] rfl ?_
    | refine EqL.mk [_] rfl ?_
    | refine EqL.mk _ rfl ?_
    | refine ArgF.is (c_impl_readNumbers _ _ (by first | assumption | omega) (by first | assumption | omega)) ?_
    | refine ArgQ.is (fun hG => c_impl_readNumbers _ _ (by first | assumption | omega) (by first | assumption | omega)) rfl rfl ?_
    | refine ArgQ.is (fun hG => c_impl_readNumbers _ _ (by simp only [forall_const, eq_self, not_true_eq_false, not_false_eq_true, or_false, false_or, or_self, or_true, true_or, and_true, true_and, and_false, false_and, decide_true, decide_false, Bool.not_true, Bool.not_false, decide_eq_true_eq, decide_eq_false_iff_not, ite_and_p, ite_or_p, Bool.decide_eq_true, Bool.and_eq_true, Bool.or_eq_true, Bool.not_eq_true', Bool.not_eq_false', Bool.and_eq_false_imp, Bool.or_eq_false_iff, bne_iff_ne, beq_iff_eq, bne_eq_false_iff_eq, beq_eq_false_iff_ne, gt_iff_lt, ge_iff_le, Int.not_lt, Int.not_le, ne_eq, Bool.true_eq_false, Bool.false_eq_true, reduceCtorEq, eta_Air, eta_Heading, bytes_nil] at hG; omega) (by simp only [forall_const, eq_self, not_true_eq_false, not_false_eq_true, or_false, false_or, or_self, or_true, true_or, and_true, true_and, and_false, false_and, decide_true, decide_false, Bool.not_true, Bool.not_false, decide_eq_true_eq, decide_eq_false_iff_not, ite_and_p, ite_or_p, Bool.decide_eq_true, Bool.and_eq_true, Bool.or_eq_true, Bool.not_eq_true', Bool.not_eq_false', Bool.and_eq_false_imp, Bool.or_eq_false_iff, bne_iff_ne, beq_iff_eq, bne_eq_false_iff_eq, beq_eq_false_iff_ne, gt_iff_lt, ge_iff_le, Int.not_lt, Int.not_le, ne_eq, Bool.true_eq_false, Bool.false_eq_true, reduceCtorEq, eta_Air, eta_Heading, bytes_nil] at hG; omega)) rfl rfl ?_
    | refine ArgF.is (c_impl_AirText ⟨_, _, _⟩ (by first | assumption | omega)) ?_
    | refine ArgQ.is (fun hG => c_impl_AirText ⟨_, _, _⟩ (by first | assumption | omega)) rfl rfl ?_
    | refine ArgQ.is (fun hG => c_impl_AirText ⟨_, _, _⟩ (by simp only [forall_const, eq_self, not_true_eq_false, not_false_eq_true, or_false, false_or, or_self, or_true, true_or, and_true, true_and, and_false, false_and, decide_true, decide_false, Bool.not_true, Bool.not_false, decide_eq_true_eq, decide_eq_false_iff_not, ite_and_p, ite_or_p, Bool.decide_eq_true, Bool.and_eq_true, Bool.or_eq_true, Bool.not_eq_true', Bool.not_eq_false', Bool.and_eq_false_imp, Bool.or_eq_false_iff, bne_iff_ne, beq_iff_eq, bne_eq_false_iff_eq, beq_eq_false_iff_ne, gt_iff_lt, ge_iff_le, Int.not_lt, Int.not_le, ne_eq, Bool.true_eq_false, Bool.false_eq_true, reduceCtorEq, eta_Air, eta_Heading, bytes_nil] at hG; omega)) rfl rfl ?_
    | refine CallF.mk (CallW.is [] true rfl ?_)
    | refine CallG.mk ?_
    | (refine CondF.mk (fun hb => ?_) (fun hb => ?_) <;> try simp only [forall_const, eq_self, not_true_eq_false, not_false_eq_true, or_false, false_or, or_self, or_true, true_or, and_true, true_and, and_false, false_and, decide_true, decide_false, Bool.not_true, Bool.not_false, decide_eq_true_eq, decide_eq_false_iff_not, ite_and_p, ite_or_p, Bool.decide_eq_true, Bool.and_eq_true, Bool.or_eq_true, Bool.not_eq_true', Bool.not_eq_false', Bool.and_eq_false_imp, Bool.or_eq_false_iff, bne_iff_ne, beq_iff_eq, bne_eq_false_iff_eq, beq_eq_false_iff_ne, gt_iff_lt, ge_iff_le, Int.not_lt, Int.not_le, ne_eq, Bool.true_eq_false, Bool.false_eq_true, reduceCtorEq, eta_Air, eta_Heading] at hb)
    | refine RetF.auto (And.intro rfl ?_)
    | exact Is.mk rfl rfl
    | refine Is.mk ?_ rfl
    | refine Is.mk rfl ?_
    | refine Is.mk ?_ ?_
  all_goals try dsimp only
  all_goals first
    | (exfalso; exact hb rfl)
    | skip
def massOf (q a b : Int) : Int × Int := if inR q (-100000) 100000 && inR a 1 5000 && inR b 1 5000 then (rdZ (q * a) b, 0) else (0, 2)
theorem mulR {q a : Int} (hq : -100000 ≤ q ∧ q ≤ 100000) (ha : 1 ≤ a ∧ a ≤ 5000) : -500000000 ≤ q * a ∧ q * a ≤ 500000000 := by
  by_cases e : 0 ≤ q
  · have := mulB' (a := q) (b := a) (A := 100000) (B := 5000) (by omega) (by omega) (by omega) (by omega); omega
  · have := mulB' (a := -q) (b := a) (A := 100000) (B := 5000) (by omega) (by omega) (by omega) (by omega)
    rw [Int.neg_mul] at this; omega
theorem c_impl_SameMass (q a b : Int) : FnSem Tryd.prog 35 [In q, In a, In b] [] (Is [In (massOf q a b).1, In (massOf q a b).2] []) := by
  refine FnSem.walk (zs := zeroPV Tryd.prog) (by kernel_rfl) Tryd.func35 rfl Tryd.results35 (by kernel_rfl) (by kernel_rfl) (by kernel_rfl) fun hw hh => ?_
  obtain ⟨w0, w1, w2, _⟩ := hw
  first | replace w0 := wf_I w0 | skip
  first | replace w1 := wf_I w1 | skip
  first | replace w2 := wf_I w2 | skip
  repeat' first
    | refine And.intro rfl ?_
    | refine GdF.mk (fun h => h) ?_
    | refine And.intro (Nat.succ_ne_zero _) ?_
    | refine And.intro (Nat.le_of_ble_eq_true rfl) ?_
    | refine SeqF.run ?_
    | refine EqI.mk (q * a) (fun _ => by simp only [not_or, Bool.not_eq_false, inR_iff] at hb; have q1 := mulR (q := q) (a := a) (by omega) (by omega); exact wrapI (by omega) (by omega)) ?_
    | refine ArgF.is (divRoundZ (q * a) b (by simp only [not_or, Bool.not_eq_false, inR_iff] at hb; have q1 := mulR (q := q) (a := a) (by omega) (by omega); omega) (by simp only [not_or, Bool.not_eq_false, inR_iff] at hb; omega) (by simp only [not_or, Bool.not_eq_false, inR_iff] at hb; omega)) ?_
    | refine ArgQ.is (fun hG => divRoundZ (q * a) b (by simp only [not_or, Bool.not_eq_false, inR_iff] at hb; have q1 := mulR (q := q) (a := a) (by omega) (by omega); omega) (by simp only [not_or, Bool.not_eq_false, inR_iff] at hb; omega) (by simp only [not_or, Bool.not_eq_false, inR_iff] at hb; omega)) rfl rfl ?_
    | refine GhF.go ?_
    | refine GdS.keep ?_
    | refine BndF.mk (fun _ => by omega) ?_
    | refine BndF.mk (fun _ => by simp only [List.length_map, List.length_cons, List.length_nil, List.length_append, List.length_set, List.length_replicate, iotaI_len]; omega) ?_
    | refine BndF.mk (fun hG => by simp only [forall_const, eq_self, not_true_eq_false, not_false_eq_true, or_false, false_or, or_self, or_true, true_or, and_true, true_and, and_false, false_and, decide_true, decide_false, Bool.not_true, Bool.not_false, decide_eq_true_eq, decide_eq_false_iff_not, ite_and_p, ite_or_p, Bool.decide_eq_true, Bool.and_eq_true, Bool.or_eq_true, Bool.not_eq_true', Bool.not_eq_false', Bool.and_eq_false_imp, Bool.or_eq_false_iff, bne_iff_ne, beq_iff_eq, bne_eq_false_iff_eq, beq_eq_false_iff_ne, gt_iff_lt, ge_iff_le, Int.not_lt, Int.not_le, ne_eq, Bool.true_eq_false, Bool.false_eq_true, reduceCtorEq, eta_Air, eta_Heading, bytes_nil] at hG; (try simp only [List.length_map]); omega) ?_
    | refine EqI.mk _ (fun _ => wrapI (by omega) (by omega)) ?_
    | refine EqI.mk _ (fun _ => rfl) ?_
    | refine EqL.mk [] rfl ?_
    | refine EqL.mk [_] rfl ?_
    | refine EqL.mk _ rfl ?_
    | refine ArgF.is (c_impl_within ..) ?_
    | refine ArgQ.is (fun hG => c_impl_within ..) rfl rfl ?_
    | refine ArgF.is (c_impl_densityOk ..) ?_
    | refine ArgQ.is (fun hG => c_impl_densityOk ..) rfl rfl ?_
    | refine ArgF.is (c_impl_divRound _ _ (by first | assumption | omega) (by first | assumption | omega) (by first | assumption | omega) (by first | assumption | omega)) ?_
    | refine ArgQ.is (fun hG => c_impl_divRound _ _ (by first | assumption | omega) (by first | assumption | omega) (by first | assumption | omega) (by first | assumption | omega)) rfl rfl ?_
    | refine ArgQ.is (fun hG => c_impl_divRound _ _ (by simp only [forall_const, eq_self, not_true_eq_false, not_false_eq_true, or_false, false_or, or_self, or_true, true_or, and_true, true_and, and_false, false_and, decide_true, decide_false, Bool.not_true, Bool.not_false, decide_eq_true_eq, decide_eq_false_iff_not, ite_and_p, ite_or_p, Bool.decide_eq_true, Bool.and_eq_true, Bool.or_eq_true, Bool.not_eq_true', Bool.not_eq_false', Bool.and_eq_false_imp, Bool.or_eq_false_iff, bne_iff_ne, beq_iff_eq, bne_eq_false_iff_eq, beq_eq_false_iff_ne, gt_iff_lt, ge_iff_le, Int.not_lt, Int.not_le, ne_eq, Bool.true_eq_false, Bool.false_eq_true, reduceCtorEq, eta_Air, eta_Heading, bytes_nil] at hG; omega) (by simp only [forall_const, eq_self, not_true_eq_false, not_false_eq_true, or_false, false_or, or_self, or_true, true_or, and_true, true_and, and_false, false_and, decide_true, decide_false, Bool.not_true, Bool.not_false, decide_eq_true_eq, decide_eq_false_iff_not, ite_and_p, ite_or_p, Bool.decide_eq_true, Bool.and_eq_true, Bool.or_eq_true, Bool.not_eq_true', Bool.not_eq_false', Bool.and_eq_false_imp, Bool.or_eq_false_iff, bne_iff_ne, beq_iff_eq, bne_eq_false_iff_eq, beq_eq_false_iff_ne, gt_iff_lt, ge_iff_le, Int.not_lt, Int.not_le, ne_eq, Bool.true_eq_false, Bool.false_eq_true, reduceCtorEq, eta_Air, eta_Heading, bytes_nil] at hG; omega) (by simp only [forall_const, eq_self, not_true_eq_false, not_false_eq_true, or_false, false_or, or_self, or_true, true_or, and_true, true_and, and_false, false_and, decide_true, decide_false, Bool.not_true, Bool.not_false, decide_eq_true_eq, decide_eq_false_iff_not, ite_and_p, ite_or_p, Bool.decide_eq_true, Bool.and_eq_true, Bool.or_eq_true, Bool.not_eq_true', Bool.not_eq_false', Bool.and_eq_false_imp, Bool.or_eq_false_iff, bne_iff_ne, beq_iff_eq, bne_eq_false_iff_eq, beq_eq_false_iff_ne, gt_iff_lt, ge_iff_le, Int.not_lt, Int.not_le, ne_eq, Bool.true_eq_false, Bool.false_eq_true, reduceCtorEq, eta_Air, eta_Heading, bytes_nil] at hG; omega) (by simp only [forall_const, eq_self, not_true_eq_false, not_false_eq_true, or_false, false_or, or_self, or_true, true_or, and_true, true_and, and_false, false_and, decide_true, decide_false, Bool.not_true, Bool.not_false, decide_eq_true_eq, decide_eq_false_iff_not, ite_and_p, ite_or_p, Bool.decide_eq_true, Bool.and_eq_true, Bool.or_eq_true, Bool.not_eq_true', Bool.not_eq_false', Bool.and_eq_false_imp, Bool.or_eq_false_iff, bne_iff_ne, beq_iff_eq, bne_eq_false_iff_eq, beq_eq_false_iff_ne, gt_iff_lt, ge_iff_le, Int.not_lt, Int.not_le, ne_eq, Bool.true_eq_false, Bool.false_eq_true, reduceCtorEq, eta_Air, eta_Heading, bytes_nil] at hG; omega)) rfl rfl ?_
    | refine CallF.mk (CallW.is [] true rfl ?_)
    | refine CallG.mk ?_
    | (refine CondF.mk (fun hb => ?_) (fun hb => ?_) <;> try simp only [forall_const, eq_self, not_true_eq_false, not_false_eq_true, or_false, false_or, or_self, or_true, true_or, and_true, true_and, and_false, false_and, decide_true, decide_false, Bool.not_true, Bool.not_false, decide_eq_true_eq, decide_eq_false_iff_not, ite_and_p, ite_or_p, Bool.decide_eq_true, Bool.and_eq_true, Bool.or_eq_true, Bool.not_eq_true', Bool.not_eq_false', Bool.and_eq_false_imp, Bool.or_eq_false_iff, bne_iff_ne, beq_iff_eq, bne_eq_false_iff_eq, beq_eq_false_iff_ne, gt_iff_lt, ge_iff_le, Int.not_lt, Int.not_le, ne_eq, Bool.true_eq_false, Bool.false_eq_true, reduceCtorEq, eta_Air, eta_Heading] at hb)
    | refine RetF.auto (And.intro rfl ?_)
    | exact Is.mk rfl rfl
    | refine Is.mk ?_ rfl
    | refine Is.mk rfl ?_
    | refine Is.mk ?_ ?_
  all_goals try dsimp only
  all_goals try simp only [Bo, I, OB.row.injEq, AV.osl.injEq, eI_same,  List.cons.injEq, AV.p.injEq, PV.c.injEq, Value.int.injEq, Value.bool.injEq, and_true, true_and, ite_and_p, ite_or_p, Bool.decide_eq_true, eta_Air, eta_Heading, massOf]
  all_goals grind
end Go.Proofs.YtmifcbekaniiiaaDoor
