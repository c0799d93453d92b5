/- Contracts of functions of the program, and what they compute. Conditions: those that each theorem states. -/
import Derived.Test.YtmifcbekaniiiaaGreatDoorProg
import Derived.Test.YtmifcbekaniiiaaGreatDoorG2
set_option linter.unusedVariables false
set_option linter.unusedSimpArgs false
namespace Go.Proofs.YtmifcbekaniiiaaGreatDoor
open Go.Av
attribute [local irreducible] Go.IntKind.wrap leastI rdZ rd rootI rawA
set_option maxRecDepth 20000
set_option maxHeartbeats 4000000

/-- is it wide enough? -/
def wideP (x : GAirway) (r : Int) (s : Int) : Bool := decide (rawA x s ≤ r)
theorem ok_sec {x : GAirway} {n : Int} (h : okAirway x = true) (hn : 50 ≤ n ∧ n ≤ 5000) : okAirway { x with section_ := n } = true := by
  simp only [okAirway, Bool.and_eq_true] at h ⊢
  rw [inR_iff.2 hn]; simp_all
theorem raw_sec {x : GAirway} {n s : Int} : rawA { x with section_ := n } s = rawA x s := by unfold rawA; rfl
theorem c_impl_WidenFor_1 (x : GAirway) (r n : Int) (h : okAirway x = true) (hr : 1 ≤ r ∧ r ≤ 1000000) (hn : 50 ≤ n ∧ n ≤ 5000) : FnSem Tryz.prog 95 [In n, .own 0 0, .own 1 0] [.fix [Str x.id, In x.from_, In x.to, In x.length, In x.section_, In x.friction, In x.shock], .fix [In r]] (Is [Bo (wideP x r n)] [.fix [Str x.id, In x.from_, In x.to, In x.length, In n, In x.friction, In x.shock], .fix [In r]]) := by
  have h2 := ok_sec h hn
  refine FnSem.walk (zs := zeroPV Tryz.prog) (by kernel_rfl) Tryz.func95 rfl Tryz.results95 (by kernel_rfl) (by kernel_rfl) (by kernel_rfl) fun hw hh => ?_
  obtain ⟨w0, w1, w2, _⟩ := hw
  first | replace w0 := wf_I w0 | skip
  first | replace w1 := wf_I w1 | replace w1 := wf_Y w1 | replace w1 := wf_S w1 | replace w1 := wf_LI w1 | replace w1 := wf_LY w1 | replace w1 := wf_LLI w1 | replace w1 := wf_Ls w1 | skip
  first | replace w2 := wf_I w2 | replace w2 := wf_Y w2 | replace w2 := wf_S w2 | replace w2 := wf_LI w2 | replace w2 := wf_LY w2 | replace w2 := wf_LLI w2 | replace w2 := wf_Ls w2 | skip
  repeat' first
    | refine And.intro rfl ?_
    | refine GdF.mk (fun h => h) ?_
    | refine And.intro (Nat.succ_ne_zero _) ?_
    | refine And.intro (Nat.le_of_ble_eq_true rfl) ?_
    | refine SeqF.run ?_
    | refine ArgQ.is (fun hG => c_impl_Airway_resistance { x with section_ := n } h2) rfl rfl ?_
    | refine GhF.go ?_
    | refine DrawG.old (DrawF.lex (by decide +kernel) ?_)
    | refine BndF.mk (fun _ => by omega) ?_
    | refine BndF.mk (fun _ => by simp only [List.length_map, List.length_cons, List.length_nil, List.length_append, List.length_set, List.length_replicate, iotaI_len]; omega) ?_
    | refine EqL.mk [] rfl ?_
    | refine EqL.mk [_] rfl ?_
    | refine EqL.mk _ rfl ?_
    | refine ArgF.is (c_impl_Airway_resistance ⟨_, _, _, _, _, _, _⟩ (by first | assumption | omega)) ?_
    | refine ArgQ.is (fun hG => c_impl_Airway_resistance ⟨_, _, _, _, _, _, _⟩ (by first | assumption | omega)) rfl rfl ?_
    | refine CallF.mk (CallW.is [] true rfl ?_)
    | refine CallG.mk ?_
    | (refine CondF.mk (fun hb => ?_) (fun hb => ?_) <;> try simp only [forall_const, eq_self, not_true_eq_false, not_false_eq_true, or_false, false_or, or_self, or_true, true_or, and_true, true_and, and_false, false_and, decide_true, decide_false, Bool.not_true, Bool.not_false, decide_eq_true_eq, decide_eq_false_iff_not, ite_and_p, ite_or_p, Bool.decide_eq_true, Bool.and_eq_true, Bool.or_eq_true, Bool.not_eq_true', Bool.not_eq_false', Bool.and_eq_false_imp, Bool.or_eq_false_iff, bne_iff_ne, beq_iff_eq, bne_eq_false_iff_eq, beq_eq_false_iff_ne, gt_iff_lt, ge_iff_le, Int.not_lt, Int.not_le, ne_eq, Bool.true_eq_false, Bool.false_eq_true, reduceCtorEq, eta_Airway, eta_Duct, eta_Fan, eta_Mine, eta_Survey] at hb)
    | refine RetF.auto (And.intro rfl ?_)
    | exact Is.mk rfl rfl
    | refine Is.mk ?_ rfl
    | refine Is.mk rfl ?_
    | refine Is.mk ?_ ?_
  rw [raw_sec]
  dsimp only
  have e : decide (max (rawA x n) 1 ≤ r) = wideP x r n := by unfold wideP; rw [decide_eq_decide]; omega
  rw [← e]; rfl
theorem widen_1 (x : GAirway) (r n d : Int) (h : okAirway x = true) (hr : inR r 1 1000000 = true) (hn : 50 ≤ n ∧ n ≤ 5000) (hd : 50 ≤ d ∧ d ≤ 5000) : FnSem Tryz.prog 95 [In n, .own 0 0, .own 1 0] [.fix [Str x.id, In x.from_, In x.to, In x.length, In d, In x.friction, In x.shock], .fix [In r]] (Is [Bo (wideP x r n)] [.fix [Str x.id, In x.from_, In x.to, In x.length, In n, In x.friction, In x.shock], .fix [In r]]) := by
  have hk := c_impl_WidenFor_1 { x with section_ := d } r n (ok_sec h hd) (inR_iff.1 hr) hn
  have e : wideP { x with section_ := d } r n = wideP x r n := by unfold wideP; rw [raw_sec]
  rw [e] at hk
  exact hk
--@fn impl.least
theorem least_w (low high : Int) (f : Nat) (s : ByteArray) (a b c d e g r : Int) (p : Int → Bool) (hf : ∀ x d, low ≤ x → x ≤ high → low ≤ d → d ≤ high → FnSem Tryz.prog f [In x, .own 0 0, .own 1 0] [.fix [Str s, In a, In b, In c, In d, In e, In g], .fix [In r]] (Is [Bo (p x)] [.fix [Str s, In a, In b, In c, In x, In e, In g], .fix [In r]])) (hd : low ≤ d ∧ d ≤ high) (hn : -1152921504606846976 ≤ low ∧ low ≤ high ∧ high ≤ 1152921504606846976) : FnSem Tryz.prog 94 [In low, In high, .afn f [.own 0 0, .own 1 0]] [.fix [Str s, In a, In b, In c, In d, In e, In g], .fix [In r]] (RetV (fun _ : Int => [In (if leastI p low high ≤ high then leastI p low high else 0), Bo (decide (leastI p low high ≤ high))]) (fun d' => [.fix [Str s, In a, In b, In c, In d', In e, In g], .fix [In r]]) (fun _ => True)) := by
  refine FnSem.walk (zs := zeroPV Tryz.prog) (by kernel_rfl) Tryz.func94 rfl Tryz.results94 (by kernel_rfl) (by kernel_rfl) (by kernel_rfl) fun hw hh => ?_
  obtain ⟨w0, w1, w2, _⟩ := hw
  first | replace w0 := wf_I w0 | skip
  first | replace w1 := wf_I w1 | skip
  repeat' first
    | refine And.intro rfl ?_
    | refine GdF.mk (fun h => h) ?_
    | refine And.intro (Nat.succ_ne_zero _) ?_
    | refine And.intro (Nat.le_of_ble_eq_true rfl) ?_
    | refine SeqF.run ?_
    | (refine CallF.own (f := f) [1, 2] true ?_)
    | refine ArgF.is (hf _ _ (by omega) (by omega) (by omega) (by omega)) ?_
    | refine ArgQ.is (fun hG => hf _ _ (by omega) (by omega) (by omega) (by omega)) rfl rfl ?_
    | refine LoopF.at 2 rfl (LoopF.fix [1, 2] (Int × Int) (fun (i, d) => low ≤ i ∧ i ≤ high + 1 ∧ (low ≤ d ∧ d ≤ high) ∧ (∀ m, low ≤ m → m < i → p m = false)) (fun (i, d) => [(8, In i)]) (fun (i, d) => [(0, .fix [Str s, In a, In b, In c, In d, In e, In g])]) (fun (i, d) => ((high + 1 - i).toNat)) ((low, d)) ?_)
    | (refine LoopB.of (T := Int × Int) ?_ ?_; rotate_left; rintro ⟨i, d⟩ ⟨h0, h1, h2, h3⟩; rotate_left)
    | refine RetV.mk (α := Int) i (by rw [leastI_at h0 (by omega) (by assumption) h3, if_pos (by omega), decide_eq_true (by omega)]; rfl) rfl trivial
    | refine RetV.mk (α := Int) d (by rw [leastI_no fun m a b => h3 m a (by omega), if_neg (by omega), decide_eq_false (by omega)]; rfl) rfl trivial
    | refine GhF.go ?_
    | refine EqI.mk _ (fun _ => wrapI (by omega) (by omega)) ?_
    | refine EqI.mk _ (fun _ => rfl) ?_
    | refine CallF.mk (CallW.is [] true rfl ?_)
    | refine CallG.mk ?_
    | (refine CondF.mk (fun hb => ?_) (fun hb => ?_) <;> try simp only [forall_const, eq_self, not_true_eq_false, not_false_eq_true, or_false, false_or, or_self, or_true, true_or, and_true, true_and, and_false, false_and, decide_true, decide_false, Bool.not_true, Bool.not_false, decide_eq_true_eq, decide_eq_false_iff_not, ite_and_p, ite_or_p, Bool.decide_eq_true, Bool.and_eq_true, Bool.or_eq_true, Bool.not_eq_true', Bool.not_eq_false', Bool.and_eq_false_imp, Bool.or_eq_false_iff, bne_iff_ne, beq_iff_eq, bne_eq_false_iff_eq, beq_eq_false_iff_ne, gt_iff_lt, ge_iff_le, Int.not_lt, Int.not_le, ne_eq, Bool.true_eq_false, Bool.false_eq_true, reduceCtorEq, eta_Airway, eta_Duct, eta_Fan, eta_Mine, eta_Survey] at hb)
    | apply BackF.auto2
    | refine BackB.mk ?_ ?_
    | refine RetF.auto (And.intro rfl ?_)
    | exact Is.mk rfl rfl
    | refine Is.mk ?_ rfl
    | refine Is.mk rfl ?_
    | refine Is.mk ?_ ?_
  all_goals try dsimp only
  · exact ⟨by omega, by omega, hd, fun m a b => by omega⟩
  · refine ⟨by omega, by omega, by omega, fun m a b => ?_⟩
    by_cases e : m < i
    · exact h3 m a e
    · rw [show m = i by omega]; assumption
  · omega
def widenFor (x : GAirway) (r : Int) : Int × Int := if okAirway x then (if inR r 1 1000000 then (if leastI (wideP x r) 50 5000 ≤ 5000 then (leastI (wideP x r) 50 5000, 0) else (0, 3)) else (0, 2)) else (0, 1)
theorem c_impl_WidenFor (x : GAirway) (r : Int) : FnSem Tryz.prog 28 [.p .any (.agg x.cells), In r] [] (Is [In (widenFor x r).1, In (widenFor x r).2] []) := by
  refine FnSem.walk (zs := zeroPV Tryz.prog) (by kernel_rfl) Tryz.func28 rfl Tryz.results28 (by kernel_rfl) (by kernel_rfl) (by kernel_rfl) fun hw hh => ?_
  obtain ⟨w0, w1, _⟩ := hw
  first | replace w0 := wf_Airway w0 | skip
  first | replace w1 := wf_I w1 | skip
  repeat' first
    | refine And.intro rfl ?_
    | refine GdF.mk (fun h => h) ?_
    | refine And.intro (Nat.succ_ne_zero _) ?_
    | refine And.intro (Nat.le_of_ble_eq_true rfl) ?_
    | refine SeqF.run ?_
    | (refine CallF.own (f := 94) [2] true ?_)
    | (refine ArgF.ret (least_w 50 5000 _ _ _ _ _ _ _ _ _ (wideP x r) (fun n d h0 h1 h2 h3 => widen_1 x r n d (by assumption) (by assumption) ⟨h0, h1⟩ ⟨h2, h3⟩) (by have := okAirway_b (x := x) (by assumption); omega) (by omega)) ?_; rintro d' _)
    | refine GhF.go ?_
    | refine BndF.mk (fun _ => by omega) ?_
    | refine BndF.mk (fun _ => by simp only [List.length_map, List.length_cons, List.length_nil, List.length_append, List.length_set, List.length_replicate, iotaI_len]; omega) ?_
    | refine EqL.mk [] rfl ?_
    | refine EqL.mk [_] rfl ?_
    | refine EqL.mk _ rfl ?_
    | refine ArgF.is (c_impl_ValidAirway ⟨_, _, _, _, _, _, _⟩) ?_
    | refine ArgQ.is (fun hG => c_impl_ValidAirway ⟨_, _, _, _, _, _, _⟩) rfl rfl ?_
    | refine ArgF.is (c_impl_resistanceOk ..) ?_
    | refine ArgQ.is (fun hG => c_impl_resistanceOk ..) rfl rfl ?_
    | refine ArgF.is (c_impl_least ..) ?_
    | refine ArgQ.is (fun hG => c_impl_least ..) rfl rfl ?_
    | refine ArgF.is (c_impl_orNotFound ..) ?_
    | refine ArgQ.is (fun hG => c_impl_orNotFound ..) rfl rfl ?_
    | refine CallF.mk (CallW.is [] true rfl ?_)
    | refine CallG.mk ?_
    | (refine CondF.mk (fun hb => ?_) (fun hb => ?_) <;> try simp only [forall_const, eq_self, not_true_eq_false, not_false_eq_true, or_false, false_or, or_self, or_true, true_or, and_true, true_and, and_false, false_and, decide_true, decide_false, Bool.not_true, Bool.not_false, decide_eq_true_eq, decide_eq_false_iff_not, ite_and_p, ite_or_p, Bool.decide_eq_true, Bool.and_eq_true, Bool.or_eq_true, Bool.not_eq_true', Bool.not_eq_false', Bool.and_eq_false_imp, Bool.or_eq_false_iff, bne_iff_ne, beq_iff_eq, bne_eq_false_iff_eq, beq_eq_false_iff_ne, gt_iff_lt, ge_iff_le, Int.not_lt, Int.not_le, ne_eq, Bool.true_eq_false, Bool.false_eq_true, reduceCtorEq, eta_Airway, eta_Duct, eta_Fan, eta_Mine, eta_Survey] at hb)
    | refine RetF.auto (And.intro rfl ?_)
    | exact Is.mk rfl rfl
    | refine Is.mk ?_ rfl
    | refine Is.mk rfl ?_
    | refine Is.mk ?_ ?_
  all_goals try dsimp only
  all_goals try simp only [Bo, I, OB.row.injEq, AV.osl.injEq, eI_same,  List.cons.injEq, AV.p.injEq, PV.c.injEq, Value.int.injEq, Value.bool.injEq, and_true, true_and, ite_and_p, ite_or_p, Bool.decide_eq_true, eta_Airway, eta_Duct, eta_Fan, eta_Mine, eta_Survey, widenFor]
  · rw [if_neg (by simp [hb])]; exact ⟨rfl, rfl⟩
  · rename_i h; rw [if_pos h, if_neg (by simp [hb])]; exact ⟨rfl, rfl⟩
  · rename_i h _; rw [if_pos h, if_pos hb]
    by_cases e : leastI (wideP x r) 50 5000 ≤ 5000
    · rw [decide_eq_true e, if_pos e, if_pos e]; exact ⟨rfl, rfl⟩
    · rw [decide_eq_false e, if_neg e, if_neg e]; exact ⟨rfl, rfl⟩
attribute [local irreducible] widenFor
end Go.Proofs.YtmifcbekaniiiaaGreatDoor
