/- Contracts of functions of the program, and what they compute. Conditions: those that each theorem states. -/
import Derived.Test.YticilhlmmakbkaaDoorProg
import Derived.Test.YticilhlmmakbkaaDoorK15c
set_option linter.unusedVariables false
set_option linter.unusedSimpArgs false
namespace Go.Proofs.YticilhlmmakbkaaDoor
open Go.Av
attribute [local irreducible] Go.IntKind.wrap
set_option maxRecDepth 20000
set_option maxHeartbeats 40000000

/-- what a day is planned for, as it is handed on for reading -/
abbrev planV (ms : List GMode) (needs prices : List Int) (peak : Int) : AV := .p .any (.agg [.lst (GMode.cells default) (ms.map GMode.cells), LI needs, LI prices, .c (.int .i64 peak), .junk])
abbrev stV (h m s : Int) : PV := .agg [.c (.int .i64 h), .c (.int .i64 m), .c (.int .i64 s)]
def leftS (m s k : Int) : Int := if 0 ≤ m ∧ ¬m = k then s - 1 else s
def fitH (ms : List GMode) (needs : List Int) (peak h k : Int) : Bool := decide ((ms.getD k.toNat default).flow ≥ needs.getD h.toNat 0) && decide ((ms.getD k.toNat default).power ≤ peak)
theorem c_impl_dayPlan_next (ms : List GMode) (needs prices : List Int) (peak h m s k : Int) (hn : needs.length = 24) (hk : 0 ≤ k ∧ k < ms.length) (hh : 0 ≤ h ∧ h < 24) (hs : -1 ≤ s ∧ s ≤ 24) : FnSem Tryd.prog 44 [planV ms needs prices peak, .p .any (stV h m s), In k] [] (Is [.p .flat (stV (h + 1) k (leftS m s k)), Bo (decide (0 ≤ leftS m s k) && fitH ms needs peak h k)] []) := by
  refine FnSem.walk (zs := zeroPV Tryd.prog) (by kernel_rfl) Tryd.func44 rfl Tryd.results44 (by kernel_rfl) (by kernel_rfl) (by kernel_rfl) fun hw hh => ?_
  obtain ⟨w0, w1, w2, _⟩ := hw
  first | replace w0 := wf_DayPlan w0 | skip
  first | replace w1 := wf_DayState w1 | skip
  first | replace w2 := wf_I w2 | replace w2 := wf_Y w2 | replace w2 := wf_S w2 | replace w2 := wf_LI w2 | replace w2 := wf_LY w2 | replace w2 := wf_LLI w2 | replace w2 := wf_Ls w2 | skip
  repeat' first
    | refine And.intro rfl ?_
    | refine GdF.mk (fun h => h) ?_
    | refine And.intro (Nat.succ_ne_zero _) ?_
    | refine And.intro (Nat.le_of_ble_eq_true rfl) ?_
    | refine SeqF.run ?_
    | refine GhF.held 5 rfl [(26, [2])] ?_
    | refine HdF.at 27 rfl 0 [] (And.intro (by decide +kernel) (And.intro rfl ?_))
    | refine HdF.at 26 rfl 1 [2, 5, 26, 27] (And.intro (by decide +kernel) (And.intro rfl ?_))
    | refine HdF.at 25 rfl 2 [] (And.intro (by decide +kernel) (And.intro rfl ?_))
    | refine HdF.at 24 rfl 3 [] (And.intro (by decide +kernel) (And.intro rfl ?_))
    | refine HdF.at 23 rfl 4 [] (And.intro (by decide +kernel) (And.intro rfl ?_))
    | refine HdF.at 22 rfl 5 [] (And.intro (by decide +kernel) (And.intro rfl ?_))
    | refine HdF.at 21 rfl 6 [] (And.intro (by decide +kernel) (And.intro rfl ?_))
    | refine HdF.at 20 rfl 7 [] (And.intro (by decide +kernel) (And.intro rfl ?_))
    | refine HdF.at 19 rfl 8 [] (And.intro (by decide +kernel) (And.intro rfl ?_))
    | refine HdF.at 18 rfl 9 [] (And.intro (by decide +kernel) (And.intro rfl ?_))
    | refine HdF.at 17 rfl 10 [17, 18, 19, 20, 21, 22, 23, 24, 25, 26, 27] (And.intro (by decide +kernel) (And.intro rfl ?_))
    | refine HdF.at 16 rfl 11 [] (And.intro (by decide +kernel) (And.intro rfl ?_))
    | refine HdF.at 15 rfl 12 [15, 16, 17, 18, 19, 20, 21, 22, 23, 24, 25, 26, 27] (And.intro (by decide +kernel) (And.intro rfl ?_))
    | refine HdF.at 14 rfl 13 [] (And.intro (by decide +kernel) (And.intro rfl ?_))
    | refine HdF.at 13 rfl 14 [15, 16, 17, 18, 19, 20, 21, 22, 23, 24, 25, 26, 27] (And.intro (by decide +kernel) (And.intro rfl ?_))
    | refine HdF.at 12 rfl 15 [] (And.intro (by decide +kernel) (And.intro rfl ?_))
    | refine HdF.at 11 rfl 16 [17, 18, 19, 20, 21, 22, 23, 24, 25, 26, 27] (And.intro (by decide +kernel) (And.intro rfl ?_))
    | refine HdF.at 10 rfl 17 [] (And.intro (by decide +kernel) (And.intro rfl ?_))
    | refine HdF.at 9 rfl 18 [] (And.intro (by decide +kernel) (And.intro rfl ?_))
    | refine HdF.at 8 rfl 19 [] (And.intro (by decide +kernel) (And.intro rfl ?_))
    | refine HdF.at 7 rfl 20 [] (And.intro (by decide +kernel) (And.intro rfl ?_))
    | refine HdF.at 6 rfl 21 [24, 25, 27] (And.intro (by decide +kernel) (And.intro rfl ?_))
    | refine HdF.at 5 rfl 22 [] (And.intro (by decide +kernel) (And.intro rfl ?_))
    | refine HdF.at 4 rfl 23 [24, 25, 27] (And.intro (by decide +kernel) (And.intro rfl ?_))
    | refine HdF.at 3 rfl 24 [] (And.intro (by decide +kernel) (And.intro rfl ?_))
    | refine HdF.at 2 rfl 25 [] (And.intro (by decide +kernel) (And.intro rfl ?_))
    | refine HdF.goAt 1 rfl ?_
    | refine OrdL.ord ?_
    | refine OrdF.take 27 (by decide +kernel) (And.intro rfl ?_)
    | refine OrdF.all [26] (by decide +kernel) ?_
    | refine OrdF.fin (by decide +kernel) ?_
    | refine AllF.one _ ?_
    | refine AllF.cons _ _ ?_ ?_
    | refine OpH.quiet rfl ?_
    | refine OpH.heap ?_
    | refine GhF.go ?_
    | refine GdS.keep ?_
    | refine DrawG.old (DrawF.lex (by decide +kernel) ?_)
    | refine DrawG.old (DrawF.any ?_)
    | refine OrdF.take 0 (by decide +kernel) ?_
    | refine OrdF.take 3 (by decide +kernel) ?_
    | refine OrdF.take 4 (by decide +kernel) ?_
    | refine OrdF.take 6 (by decide +kernel) ?_
    | refine OrdF.take 7 (by decide +kernel) ?_
    | refine OrdF.take 8 (by decide +kernel) ?_
    | refine OrdF.take 9 (by decide +kernel) ?_
    | refine OrdF.take 11 (by decide +kernel) ?_
    | refine OrdF.take 13 (by decide +kernel) ?_
    | refine OrdF.take 15 (by decide +kernel) ?_
    | refine OrdF.take 17 (by decide +kernel) ?_
    | refine OrdF.take 18 (by decide +kernel) ?_
    | refine OrdF.take 19 (by decide +kernel) ?_
    | refine OrdF.take 20 (by decide +kernel) ?_
    | refine OrdF.take 22 (by decide +kernel) ?_
    | refine OrdF.take 24 (by decide +kernel) ?_
    | refine OrdF.take 25 (by decide +kernel) ?_
    | refine OrdF.take 2 (by decide +kernel) ?_
    | refine OrdF.take 5 (by decide +kernel) ?_
    | refine OrdF.take 27 (by decide +kernel) ?_
    | refine OrdF.all [26] (by decide +kernel) ?_
    | refine OrdF.all [1] (by decide +kernel) ?_
    | refine OrdF.all [21] (by decide +kernel) ?_
    | refine OrdF.all [21, 26] (by decide +kernel) ?_
    | refine OrdF.all [1, 21] (by decide +kernel) ?_
    | refine OrdF.all [23] (by decide +kernel) ?_
    | refine OrdF.all [23, 26] (by decide +kernel) ?_
    | refine OrdF.all [1, 23] (by decide +kernel) ?_
    | refine OrdF.all [21, 23] (by decide +kernel) ?_
    | refine OrdF.all [21, 23, 26] (by decide +kernel) ?_
    | refine OrdF.all [1, 21, 23] (by decide +kernel) ?_
    | refine OrdF.all [10] (by decide +kernel) ?_
    | refine OrdF.all [1, 10] (by decide +kernel) ?_
    | refine OrdF.all [16] (by decide +kernel) ?_
    | refine OrdF.all [1, 16] (by decide +kernel) ?_
    | refine OrdF.all [10, 16] (by decide +kernel) ?_
    | refine OrdF.all [1, 10, 16] (by decide +kernel) ?_
    | refine OrdF.all [12] (by decide +kernel) ?_
    | refine OrdF.all [1, 12] (by decide +kernel) ?_
    | refine OrdF.all [10, 12] (by decide +kernel) ?_
    | refine OrdF.all [1, 10, 12] (by decide +kernel) ?_
    | refine OrdF.all [14] (by decide +kernel) ?_
    | refine OrdF.all [1, 14] (by decide +kernel) ?_
    | refine OrdF.all [10, 14] (by decide +kernel) ?_
    | refine OrdF.all [1, 10, 14] (by decide +kernel) ?_
    | refine OrdF.all [12, 14] (by decide +kernel) ?_
    | refine OrdF.all [1, 12, 14] (by decide +kernel) ?_
    | refine OrdF.all [10, 12, 14] (by decide +kernel) ?_
    | refine OrdF.all [1, 10, 12, 14] (by decide +kernel) ?_
    | refine OrdF.fin (by decide +kernel) ?_
    | refine AllF.one _ ?_
    | refine AllF.cons _ _ ?_ ?_
    | refine EqP.mk _ (gm eI 0 rfl) ?_
    | refine EqP.mk _ (gm GMode.cells default rfl) ?_
    | refine BndF.mk (fun _ => by omega) ?_
    | refine BndF.mk (fun _ => by simp only [List.length_map, List.length_cons, List.length_nil, List.length_append, List.length_set, List.length_replicate, iotaI_len]; omega) ?_
    | refine BndF.mk (fun hG => by simp only [forall_const, eq_self, not_true_eq_false, not_false_eq_true, or_false, false_or, or_self, or_true, true_or, and_true, true_and, and_false, false_and, decide_true, decide_false, Bool.not_true, Bool.not_false, decide_eq_true_eq, decide_eq_false_iff_not, ite_and_p, ite_or_p, Bool.decide_eq_true, Bool.and_eq_true, Bool.or_eq_true, Bool.not_eq_true', Bool.not_eq_false', Bool.and_eq_false_imp, Bool.or_eq_false_iff, bne_iff_ne, beq_iff_eq, bne_eq_false_iff_eq, beq_eq_false_iff_ne, gt_iff_lt, ge_iff_le, Int.not_lt, Int.not_le, ne_eq, Bool.true_eq_false, Bool.false_eq_true, reduceCtorEq, eta_Mode, bytes_nil] at hG; (try simp only [List.length_map]); omega) ?_
    | refine EqI.mk _ (fun _ => wrapI (by omega) (by omega)) ?_
    | refine EqI.mk _ (fun _ => rfl) ?_
    | refine EqN.mk _ (Nat.zero_add _) ?_
    | refine EqN.mk _ (Int.toNat_natCast _) ?_
    | refine EqN.mk _ rfl ?_
    | refine EqL.mk _ (st eI) ?_
    | refine EqL.mk _ (st GMode.cells) ?_
    | refine EqL.mk [] rfl ?_
    | refine EqL.mk [_] rfl ?_
    | refine EqL.mk _ rfl ?_
    | (refine CondF.mk (fun hb => ?_) (fun hb => ?_) <;> try simp only [forall_const, eq_self, not_true_eq_false, not_false_eq_true, or_false, false_or, or_self, or_true, true_or, and_true, true_and, and_false, false_and, decide_true, decide_false, Bool.not_true, Bool.not_false, decide_eq_true_eq, decide_eq_false_iff_not, ite_and_p, ite_or_p, Bool.decide_eq_true, Bool.and_eq_true, Bool.or_eq_true, Bool.not_eq_true', Bool.not_eq_false', Bool.and_eq_false_imp, Bool.or_eq_false_iff, bne_iff_ne, beq_iff_eq, bne_eq_false_iff_eq, beq_eq_false_iff_ne, gt_iff_lt, ge_iff_le, Int.not_lt, Int.not_le, ne_eq, Bool.true_eq_false, Bool.false_eq_true, reduceCtorEq, eta_Mode] at hb)
    | refine RetF.auto (And.intro rfl ?_)
    | exact Is.mk rfl rfl
    | refine Is.mk ?_ rfl
    | refine Is.mk rfl ?_
    | refine Is.mk ?_ ?_
  all_goals try dsimp only
  all_goals try simp only [Bo, I, OB.row.injEq, AV.osl.injEq, eI_same,  List.cons.injEq, AV.p.injEq, PV.c.injEq, Value.int.injEq, Value.bool.injEq, and_true, true_and, ite_and_p, ite_or_p, Bool.decide_eq_true, eta_Mode, fitH]
  · have e : leftS m s k = s - 1 := if_pos hb
    rw [e]; exact ⟨rfl, by grind⟩
  · have e : leftS m s k = s := if_neg (by omega)
    rw [e]; exact ⟨rfl, by grind⟩
end Go.Proofs.YticilhlmmakbkaaDoor
