/- Contracts of functions of the program, and what they compute. Conditions: those that each theorem states. -/
import Derived.Test.YtdhkpmaanegjkaaProg
import Derived.Test.YtdhkpmaanegjkaaO0
import Derived.Test.YtdhkpmaanegjkaaI0
import Derived.Test.YtdhkpmaanegjkaaR0b
set_option linter.unusedVariables false
set_option linter.unusedSimpArgs false
namespace Go.Proofs.Ytdhkpmaanegjkaa
open Go.Av
attribute [local irreducible] Go.IntKind.wrap leastI binI rdZ rd rootI rawA dropI prI
set_option maxRecDepth 20000
set_option maxHeartbeats 16000000

/-! Working points of fans; the best fan: the program. -/
def wpP (f : GFan) (r n : Int) : Bool := decide (prI f n < dropI r n)
/-- the flow of a fan at a resistance -/
def wfI (f : GFan) (r : Int) : Int := if binI (wpP f r) 0 100000 ≤ 100000 then binI (wpP f r) 0 100000 - 1 else 100000
theorem drop_0 (r : Int) : dropI r 0 = 0 := by
  have h1 := rdZ_lo (a := 0) (x := r * 0 * max 0 (-0)) (y := 10000000000) (by omega) (by simp)
  have h2 := rdZ_hi (b := 0) (x := r * 0 * max 0 (-0)) (y := 10000000000) (by omega) (by simp)
  unfold dropI
  omega
theorem wfI_p {f : GFan} {r : Int} (h : okFan f) : (0 ≤ wfI f r ∧ wfI f r ≤ 100000) ∧ dropI r (wfI f r) ≤ prI f (wfI f r) ∧ (wfI f r < 100000 → prI f (wfI f r + 1) < dropI r (wfI f r + 1)) := by
  have q := binI_p (p := wpP f r) (lo := 0) (hi := 100000) (by omega)
  have h0 : wpP f r 0 = false := by
    refine decide_eq_false ?_
    have := prI_b h 0
    rw [drop_0]; omega
  have h1 : binI (wpP f r) 0 100000 ≠ 0 := fun e => by
    have := q.2.2.1 (by omega)
    rw [e, h0] at this; cases this
  have h2 := of_decide_eq_false (q.2.2.2 (by omega))
  unfold wfI
  split
  · rename_i c
    have h3 := of_decide_eq_true (q.2.2.1 c)
    refine ⟨by omega, by omega, fun _ => ?_⟩
    rw [show binI (wpP f r) 0 100000 - 1 + 1 = binI (wpP f r) 0 100000 by omega]; exact h3
  · rename_i c
    rw [show binI (wpP f r) 0 100000 - 1 = 100000 by omega] at h2
    exact ⟨by omega, by omega, fun e => absurd e (by omega)⟩
theorem c_impl_Fan_workingFlow_1 (f : GFan) (r n : Int) (h : okFan f) (hr : 1 ≤ r ∧ r ≤ 1000000) (hn : 0 ≤ n ∧ n ≤ 100000) : FnSem Try.prog 38 [In n, .p .any (.ref [.c (.int .i64 r)]), .p .any (.ref f.cells)] [] (Is [Bo (wpP f r n)] []) := by
  refine FnSem.walk (zs := zeroPV Try.prog) (by kernel_rfl) Try.func38 rfl Try.results38 (by kernel_rfl) (by kernel_rfl) (by kernel_rfl) fun hw hh => ?_
  obtain ⟨w0, w1, w2, _⟩ := hw
  first | replace w0 := wf_I w0 | skip
  first | replace w1 := wf_I w1 | replace w1 := wf_Y w1 | replace w1 := wf_S w1 | replace w1 := wf_LI w1 | replace w1 := wf_LY w1 | replace w1 := wf_LLI w1 | replace w1 := wf_Ls w1 | skip
  first | replace w2 := wf_I w2 | replace w2 := wf_Y w2 | replace w2 := wf_S w2 | replace w2 := wf_LI w2 | replace w2 := wf_LY w2 | replace w2 := wf_LLI w2 | replace w2 := wf_Ls w2 | skip
  repeat' first
    | refine And.intro rfl ?_
    | refine GdF.mk (fun h => h) ?_
    | refine And.intro (Nat.succ_ne_zero _) ?_
    | refine And.intro (Nat.le_of_ble_eq_true rfl) ?_
    | refine SeqF.run ?_
    | refine ArgF.is (c_impl_dropOf r n hr (by omega)) ?_
    | refine ArgQ.is (fun hG => c_impl_dropOf r n hr (by omega)) rfl rfl ?_
    | refine ArgF.is (c_impl_Fan_pressure f n h (by omega)) ?_
    | refine ArgQ.is (fun hG => c_impl_Fan_pressure f n h (by omega)) rfl rfl ?_
    | refine GhF.go ?_
    | refine DrawG.old (DrawF.lex (by decide +kernel) ?_)
    | refine BndF.mk (fun _ => by omega) ?_
    | refine BndF.mk (fun _ => by simp only [List.length_map, List.length_cons, List.length_nil, List.length_append, List.length_set, List.length_replicate, iotaI_len]; omega) ?_
    | refine EqL.mk [] rfl ?_
    | refine EqL.mk [_] rfl ?_
    | refine EqL.mk _ rfl ?_
    | refine ArgF.is (c_impl_dropOf _ _ (by first | assumption | omega) (by first | assumption | omega)) ?_
    | refine ArgQ.is (fun hG => c_impl_dropOf _ _ (by first | assumption | omega) (by first | assumption | omega)) rfl rfl ?_
    | refine ArgF.is (c_impl_Fan_pressure ⟨_, _, _⟩ _ (by first | assumption | omega) (by first | assumption | omega)) ?_
    | refine ArgQ.is (fun hG => c_impl_Fan_pressure ⟨_, _, _⟩ _ (by first | assumption | omega) (by first | assumption | omega)) rfl rfl ?_
    | refine CallF.mk (CallW.is [] true rfl ?_)
    | refine CallG.mk ?_
    | (refine CondF.mk (fun hb => ?_) (fun hb => ?_) <;> try simp only [forall_const, eq_self, not_true_eq_false, not_false_eq_true, or_false, false_or, or_self, or_true, true_or, and_true, true_and, and_false, false_and, decide_true, decide_false, Bool.not_true, Bool.not_false, decide_eq_true_eq, decide_eq_false_iff_not, ite_and_p, ite_or_p, Bool.decide_eq_true, Bool.and_eq_true, Bool.or_eq_true, Bool.not_eq_true', Bool.not_eq_false', Bool.and_eq_false_imp, Bool.or_eq_false_iff, bne_iff_ne, beq_iff_eq, bne_eq_false_iff_eq, beq_eq_false_iff_ne, gt_iff_lt, ge_iff_le, Int.not_lt, Int.not_le, ne_eq, Bool.true_eq_false, Bool.false_eq_true, reduceCtorEq, eta_Fan] at hb)
    | refine RetF.auto (And.intro rfl ?_)
    | exact Is.mk rfl rfl
    | refine Is.mk ?_ rfl
    | refine Is.mk rfl ?_
    | refine Is.mk ?_ ?_
  all_goals try dsimp only
  all_goals try simp only [Bo, I, OB.row.injEq, AV.osl.injEq, eI_same,  List.cons.injEq, AV.p.injEq, PV.c.injEq, Value.int.injEq, Value.bool.injEq, and_true, true_and, ite_and_p, ite_or_p, Bool.decide_eq_true, eta_Fan, wpP]
  all_goals skip
theorem c_impl_Fan_workingFlow (f : GFan) (r : Int) (h : okFan f) (hr : 1 ≤ r ∧ r ≤ 1000000) : FnSem Try.prog 17 [.p .any (.agg f.cells), In r] [] (Is [In (wfI f r)] []) := by
  have q := binI_p (p := wpP f r) (lo := 0) (hi := 100000) (by omega)
  refine FnSem.walk (zs := zeroPV Try.prog) (by kernel_rfl) Try.func17 rfl Try.results17 (by kernel_rfl) (by kernel_rfl) (by kernel_rfl) fun hw hh => ?_
  obtain ⟨w0, w1, _⟩ := hw
  first | replace w0 := wf_Fan w0 | skip
  first | replace w1 := wf_I w1 | skip
  repeat' first
    | refine And.intro rfl ?_
    | refine GdF.mk (fun h => h) ?_
    | refine And.intro (Nat.succ_ne_zero _) ?_
    | refine And.intro (Nat.le_of_ble_eq_true rfl) ?_
    | refine SeqF.run ?_
    | refine ArgF.is (firstB2 0 100000 _ _ _ (wpP f r) (fun n h0 h1 => c_impl_Fan_workingFlow_1 f r n h hr ⟨h0, h1⟩) (by omega)) ?_
    | refine ArgQ.is (fun hG => firstB2 0 100000 _ _ _ (wpP f r) (fun n h0 h1 => c_impl_Fan_workingFlow_1 f r n h hr ⟨h0, h1⟩) (by omega)) rfl rfl ?_
    | refine GhF.go ?_
    | refine BndF.mk (fun _ => by omega) ?_
    | refine BndF.mk (fun _ => by simp only [List.length_map, List.length_cons, List.length_nil, List.length_append, List.length_set, List.length_replicate, iotaI_len]; omega) ?_
    | refine EqI.mk _ (fun _ => wrapI (by omega) (by omega)) ?_
    | refine EqI.mk _ (fun _ => rfl) ?_
    | refine EqL.mk [] rfl ?_
    | refine EqL.mk [_] rfl ?_
    | refine EqL.mk _ rfl ?_
    | refine ArgF.is (c_impl_firstIn ..) ?_
    | refine ArgQ.is (fun hG => c_impl_firstIn ..) rfl rfl ?_
    | refine CallF.mk (CallW.is [] true rfl ?_)
    | refine CallG.mk ?_
    | (refine CondF.mk (fun hb => ?_) (fun hb => ?_) <;> try simp only [forall_const, eq_self, not_true_eq_false, not_false_eq_true, or_false, false_or, or_self, or_true, true_or, and_true, true_and, and_false, false_and, decide_true, decide_false, Bool.not_true, Bool.not_false, decide_eq_true_eq, decide_eq_false_iff_not, ite_and_p, ite_or_p, Bool.decide_eq_true, Bool.and_eq_true, Bool.or_eq_true, Bool.not_eq_true', Bool.not_eq_false', Bool.and_eq_false_imp, Bool.or_eq_false_iff, bne_iff_ne, beq_iff_eq, bne_eq_false_iff_eq, beq_eq_false_iff_ne, gt_iff_lt, ge_iff_le, Int.not_lt, Int.not_le, ne_eq, Bool.true_eq_false, Bool.false_eq_true, reduceCtorEq, eta_Fan] at hb)
    | refine RetF.auto (And.intro rfl ?_)
    | exact Is.mk rfl rfl
    | refine Is.mk ?_ rfl
    | refine Is.mk rfl ?_
    | refine Is.mk ?_ ?_
  all_goals try dsimp only
  all_goals try simp only [Bo, I, OB.row.injEq, AV.osl.injEq, eI_same,  List.cons.injEq, AV.p.injEq, PV.c.injEq, Value.int.injEq, Value.bool.injEq, and_true, true_and, ite_and_p, ite_or_p, Bool.decide_eq_true, eta_Fan, wfI]
  all_goals try dsimp only
  all_goals first
    | (rw [if_neg (by omega)])
    | (rw [if_pos (by omega)])
    | skip
def pwF (f : GFan) (q : Int) : Int := rdZ (prI f q * absI q) 100
theorem c_impl_Fan_power (f : GFan) (q : Int) (h : okFan f) (hq : -100000 ≤ q ∧ q ≤ 100000) : FnSem Try.prog 30 [.p .any (.agg f.cells), In q] [] (Is [In (pwF f q)] []) := by
  have hb := prI_b h q
  have ha : 0 ≤ absI q ∧ absI q ≤ 100000 := by unfold absI; omega
  have hm := mulB (a := prI f q) (b := absI q) (A := 10000) (B := 100000) (by omega) ha
  have hab := c_impl_abs q
  rw [show max q (IntKind.i64.wrap (0 - q)) = absI q by rw [wrapI (by omega) (by omega)]; rfl] at hab
  have e : rdZ (prI f q * absI q) 100 = pwF f q := rfl
  have hd := divRoundZ (prI f q * absI q) 100 (by omega) (by omega) (by omega)
  rw [e] at hd
  refine FnSem.walk (zs := zeroPV Try.prog) (by kernel_rfl) Try.func30 rfl Try.results30 (by kernel_rfl) (by kernel_rfl) (by kernel_rfl) fun hw hh => ?_
  obtain ⟨w0, w1, _⟩ := hw
  first | replace w0 := wf_Fan w0 | skip
  first | replace w1 := wf_I w1 | skip
  repeat' first
    | refine And.intro rfl ?_
    | refine GdF.mk (fun h => h) ?_
    | refine And.intro (Nat.succ_ne_zero _) ?_
    | refine And.intro (Nat.le_of_ble_eq_true rfl) ?_
    | refine SeqF.run ?_
    | refine ArgF.is (c_impl_Fan_pressure f q h hq) ?_
    | refine ArgQ.is (fun hG => c_impl_Fan_pressure f q h hq) rfl rfl ?_
    | refine ArgF.is (hab) ?_
    | refine ArgQ.is (fun hG => hab) rfl rfl ?_
    | refine ArgF.is (hd) ?_
    | refine ArgQ.is (fun hG => hd) rfl rfl ?_
    | refine GhF.go ?_
    | refine BndF.mk (fun _ => by omega) ?_
    | refine BndF.mk (fun _ => by simp only [List.length_map, List.length_cons, List.length_nil, List.length_append, List.length_set, List.length_replicate, iotaI_len]; omega) ?_
    | refine EqI.mk _ (fun _ => wrapI (by omega) (by omega)) ?_
    | refine EqI.mk _ (fun _ => rfl) ?_
    | refine EqL.mk [] rfl ?_
    | refine EqL.mk [_] rfl ?_
    | refine EqL.mk _ rfl ?_
    | refine ArgF.is (c_impl_Fan_pressure ⟨_, _, _⟩ _ (by first | assumption | omega) (by first | assumption | omega)) ?_
    | refine ArgQ.is (fun hG => c_impl_Fan_pressure ⟨_, _, _⟩ _ (by first | assumption | omega) (by first | assumption | omega)) rfl rfl ?_
    | refine ArgF.is (c_impl_abs ..) ?_
    | refine ArgQ.is (fun hG => c_impl_abs ..) rfl rfl ?_
    | refine ArgF.is (c_impl_divRound _ _ (by first | assumption | omega) (by first | assumption | omega) (by first | assumption | omega) (by first | assumption | omega)) ?_
    | refine ArgQ.is (fun hG => c_impl_divRound _ _ (by first | assumption | omega) (by first | assumption | omega) (by first | assumption | omega) (by first | assumption | omega)) rfl rfl ?_
    | refine CallF.mk (CallW.is [] true rfl ?_)
    | refine CallG.mk ?_
    | (refine CondF.mk (fun hb => ?_) (fun hb => ?_) <;> try simp only [forall_const, eq_self, not_true_eq_false, not_false_eq_true, or_false, false_or, or_self, or_true, true_or, and_true, true_and, and_false, false_and, decide_true, decide_false, Bool.not_true, Bool.not_false, decide_eq_true_eq, decide_eq_false_iff_not, ite_and_p, ite_or_p, Bool.decide_eq_true, Bool.and_eq_true, Bool.or_eq_true, Bool.not_eq_true', Bool.not_eq_false', Bool.and_eq_false_imp, Bool.or_eq_false_iff, bne_iff_ne, beq_iff_eq, bne_eq_false_iff_eq, beq_eq_false_iff_ne, gt_iff_lt, ge_iff_le, Int.not_lt, Int.not_le, ne_eq, Bool.true_eq_false, Bool.false_eq_true, reduceCtorEq, eta_Fan] at hb)
    | refine RetF.auto (And.intro rfl ?_)
    | exact Is.mk rfl rfl
    | refine Is.mk ?_ rfl
    | refine Is.mk rfl ?_
    | refine Is.mk ?_ ?_
  all_goals skip
--@fn impl.ValidFans
theorem vFansW (fs : List GFan) : FnSem Try.prog 28 [Lx (.lst GFan.z (fs.map GFan.cells))] [] (RetV (fun b : Bool => [Bo b]) (fun _ => []) (fun b => b = true → fs.length ≤ 8 ∧ ∀ k : Nat, k < fs.length → okFan (fs.getD k default))) := by
  refine FnSem.walk (zs := zeroPV Try.prog) (by kernel_rfl) Try.func28 rfl Try.results28 (by kernel_rfl) (by kernel_rfl) (by kernel_rfl) fun hw hh => ?_
  obtain ⟨w0, _⟩ := hw
  first | replace w0 := wf_LFan w0 | skip
  repeat' first
    | refine And.intro rfl ?_
    | refine GdF.mk (fun h => h) ?_
    | refine And.intro (Nat.succ_ne_zero _) ?_
    | refine And.intro (Nat.le_of_ble_eq_true rfl) ?_
    | refine SeqF.run ?_
    | refine ArgF.is (vFanX (fs.getD i.toNat default)) ?_
    | refine ArgQ.is (fun hG => vFanX (fs.getD i.toNat default)) rfl rfl ?_
    | refine LoopF.at 4 rfl (LoopF.fix [0, 8, 9] (Int) (fun i => 0 ≤ i ∧ i ≤ fs.length ∧ fs.length ≤ 8 ∧ ∀ j : Nat, (j : Int) < i → okFan (fs.getD j default)) (fun i => [(10, In i)]) (fun i => []) (fun i => ((fs.length - i).toNat)) (0) ?_)
    | (refine LoopB.of (T := Int) ?_ ?_; rotate_left; rintro i ⟨i0, i1, i2, i3⟩; rotate_left)
    | refine RetV.mk (α := Bool) _ rfl rfl ?_
    | refine GhF.go ?_
    | refine GdS.keep ?_
    | refine DrawG.old (DrawF.lex (by decide +kernel) ?_)
    | refine EqP.mk _ (gmb GFan.cells default (by omega)) ?_
    | refine BndF.mk (fun _ => by omega) ?_
    | refine BndF.mk (fun _ => by simp only [List.length_map, List.length_cons, List.length_nil, List.length_append, List.length_set, List.length_replicate, iotaI_len]; omega) ?_
    | refine BndF.mk (fun hG => by simp only [forall_const, eq_self, not_true_eq_false, not_false_eq_true, or_false, false_or, or_self, or_true, true_or, and_true, true_and, and_false, false_and, decide_true, decide_false, Bool.not_true, Bool.not_false, decide_eq_true_eq, decide_eq_false_iff_not, ite_and_p, ite_or_p, Bool.decide_eq_true, Bool.and_eq_true, Bool.or_eq_true, Bool.not_eq_true', Bool.not_eq_false', Bool.and_eq_false_imp, Bool.or_eq_false_iff, bne_iff_ne, beq_iff_eq, bne_eq_false_iff_eq, beq_eq_false_iff_ne, gt_iff_lt, ge_iff_le, Int.not_lt, Int.not_le, ne_eq, Bool.true_eq_false, Bool.false_eq_true, reduceCtorEq, eta_Fan, bytes_nil] at hG; (try simp only [List.length_map]); omega) ?_
    | refine EqI.mk _ (fun _ => wrapI (by omega) (by omega)) ?_
    | refine EqI.mk _ (fun _ => rfl) ?_
    | refine EqN.mk _ (ln GFan.cells) ?_
    | refine EqN.mk _ (Nat.zero_add _) ?_
    | refine EqN.mk _ (Int.toNat_natCast _) ?_
    | refine EqN.mk _ rfl ?_
    | refine EqL.mk _ (tk GFan.cells (by first | rfl | assumption | omega | (simp only [List.length_map, List.length_cons, List.length_nil, List.length_append, List.length_set, List.length_replicate, iotaI_len]; done) | (simp only [List.length_map, List.length_cons, List.length_nil, List.length_append, List.length_set, List.length_replicate, iotaI_len]; omega))) ?_
    | refine EqL.mk _ (st GFan.cells) ?_
    | refine EqL.mk [] rfl ?_
    | refine EqL.mk [_] rfl ?_
    | refine EqL.mk _ rfl ?_
    | refine ArgF.is (c_impl_ValidFan ..) ?_
    | refine ArgQ.is (fun hG => c_impl_ValidFan ..) rfl rfl ?_
    | refine CallF.mk (CallW.is [] true rfl ?_)
    | refine CallG.mk ?_
    | (refine CondF.mk (fun hb => ?_) (fun hb => ?_) <;> try simp only [forall_const, eq_self, not_true_eq_false, not_false_eq_true, or_false, false_or, or_self, or_true, true_or, and_true, true_and, and_false, false_and, decide_true, decide_false, Bool.not_true, Bool.not_false, decide_eq_true_eq, decide_eq_false_iff_not, ite_and_p, ite_or_p, Bool.decide_eq_true, Bool.and_eq_true, Bool.or_eq_true, Bool.not_eq_true', Bool.not_eq_false', Bool.and_eq_false_imp, Bool.or_eq_false_iff, bne_iff_ne, beq_iff_eq, bne_eq_false_iff_eq, beq_eq_false_iff_ne, gt_iff_lt, ge_iff_le, Int.not_lt, Int.not_le, ne_eq, Bool.true_eq_false, Bool.false_eq_true, reduceCtorEq, eta_Fan] at hb)
    | apply BackF.auto
    | refine BackB.mk ?_ ?_
    | refine RetF.auto (And.intro rfl ?_)
    | exact Is.mk rfl rfl
    | refine Is.mk ?_ rfl
    | refine Is.mk rfl ?_
    | refine Is.mk ?_ ?_
  all_goals try dsimp only
  all_goals first
    | omega
    | exact fun h => absurd h (by decide)
    | exact ⟨by omega, by omega, by omega, all_0⟩
    | (refine ⟨by omega, by omega, i2, all_s (P := fun j => okFan (fs.getD j default)) i0 i3 (okFanB_p ?_)⟩
       first | exact hb.1 | (simpa using hb.1) | exact hb)
    | exact fun _ => ⟨i2, fun k hk => i3 k (by omega)⟩
    | skip
/-- the working point, in one form -/
inductive WpR (f : GFan) (r : Int) (rs : List AV) (ho : List OB) : Prop
  | mk (q p c : Int) (h1 : rs = [In q, In p, In c]) (h2 : ho = []) (h : c = 0 → okFan f ∧ (1 ≤ r ∧ r ≤ 1000000) ∧ q = wfI f r ∧ p = prI f q)
theorem c_impl_WorkingPoint (f : GFan) (r : Int) : FnSem Try.prog 6 [.p .any (.agg f.cells), In r] [] (WpR f r) := by
  refine FnSem.walk (zs := zeroPV Try.prog) (by kernel_rfl) Try.func6 rfl Try.results6 (by kernel_rfl) (by kernel_rfl) (by kernel_rfl) fun hw hh => ?_
  obtain ⟨w0, w1, _⟩ := hw
  first | replace w0 := wf_Fan w0 | skip
  first | replace w1 := wf_I w1 | skip
  repeat' first
    | refine And.intro rfl ?_
    | refine GdF.mk (fun h => h) ?_
    | refine And.intro (Nat.succ_ne_zero _) ?_
    | refine And.intro (Nat.le_of_ble_eq_true rfl) ?_
    | refine SeqF.run ?_
    | refine ArgF.is (vFanX f) ?_
    | refine ArgQ.is (fun hG => vFanX f) rfl rfl ?_
    | refine ArgF.is (c_impl_Fan_workingFlow f r (okFanB_p (by assumption)) (inR_iff.1 hb)) ?_
    | refine ArgQ.is (fun hG => c_impl_Fan_workingFlow f r (okFanB_p (by assumption)) (inR_iff.1 hb)) rfl rfl ?_
    | refine ArgF.is (c_impl_Fan_pressure f (wfI f r) (okFanB_p (by assumption)) (by have q := (wfI_p (r := r) (okFanB_p (by assumption))).1; omega)) ?_
    | refine ArgQ.is (fun hG => c_impl_Fan_pressure f (wfI f r) (okFanB_p (by assumption)) (by have q := (wfI_p (r := r) (okFanB_p (by assumption))).1; omega)) rfl rfl ?_
    | refine WpR.mk _ _ _ rfl rfl ?_
    | refine GhF.go ?_
    | refine BndF.mk (fun _ => by omega) ?_
    | refine BndF.mk (fun _ => by simp only [List.length_map, List.length_cons, List.length_nil, List.length_append, List.length_set, List.length_replicate, iotaI_len]; omega) ?_
    | refine EqL.mk [] rfl ?_
    | refine EqL.mk [_] rfl ?_
    | refine EqL.mk _ rfl ?_
    | refine ArgF.is (c_impl_ValidFan ..) ?_
    | refine ArgQ.is (fun hG => c_impl_ValidFan ..) rfl rfl ?_
    | refine ArgF.is (c_impl_resistanceOk ..) ?_
    | refine ArgQ.is (fun hG => c_impl_resistanceOk ..) rfl rfl ?_
    | refine ArgF.is (c_impl_Fan_workingFlow ⟨_, _, _⟩ _ (by first | assumption | omega) (by first | assumption | omega)) ?_
    | refine ArgQ.is (fun hG => c_impl_Fan_workingFlow ⟨_, _, _⟩ _ (by first | assumption | omega) (by first | assumption | omega)) rfl rfl ?_
    | refine ArgF.is (c_impl_Fan_pressure ⟨_, _, _⟩ _ (by first | assumption | omega) (by first | assumption | omega)) ?_
    | refine ArgQ.is (fun hG => c_impl_Fan_pressure ⟨_, _, _⟩ _ (by first | assumption | omega) (by first | assumption | omega)) rfl rfl ?_
    | refine CallF.mk (CallW.is [] true rfl ?_)
    | refine CallG.mk ?_
    | (refine CondF.mk (fun hb => ?_) (fun hb => ?_) <;> try simp only [forall_const, eq_self, not_true_eq_false, not_false_eq_true, or_false, false_or, or_self, or_true, true_or, and_true, true_and, and_false, false_and, decide_true, decide_false, Bool.not_true, Bool.not_false, decide_eq_true_eq, decide_eq_false_iff_not, ite_and_p, ite_or_p, Bool.decide_eq_true, Bool.and_eq_true, Bool.or_eq_true, Bool.not_eq_true', Bool.not_eq_false', Bool.and_eq_false_imp, Bool.or_eq_false_iff, bne_iff_ne, beq_iff_eq, bne_eq_false_iff_eq, beq_eq_false_iff_ne, gt_iff_lt, ge_iff_le, Int.not_lt, Int.not_le, ne_eq, Bool.true_eq_false, Bool.false_eq_true, reduceCtorEq, eta_Fan] at hb)
    | refine RetF.auto (And.intro rfl ?_)
    | exact Is.mk rfl rfl
    | refine Is.mk ?_ rfl
    | refine Is.mk rfl ?_
    | refine Is.mk ?_ ?_
  all_goals try dsimp only
  all_goals first
    | exact fun h => absurd h (by decide)
    | exact fun _ => ⟨okFanB_p (by assumption), inR_iff.1 hb, rfl, rfl⟩
    | skip
--@fn impl.WorkingPoint
theorem wpT (f : GFan) (r : Int) (h : okFan f) (hr : 1 ≤ r ∧ r ≤ 1000000) : FnSem Try.prog 6 [.p .any (.agg f.cells), In r] [] (Is [In (wfI f r), In (prI f (wfI f r)), In 0] []) := by
  have hro := c_impl_resistanceOk r
  rw [inR_iff.2 hr] at hro
  have q := (wfI_p (r := r) h).1
  refine FnSem.walk (zs := zeroPV Try.prog) (by kernel_rfl) Try.func6 rfl Try.results6 (by kernel_rfl) (by kernel_rfl) (by kernel_rfl) fun hw hh => ?_
  obtain ⟨w0, w1, _⟩ := hw
  first | replace w0 := wf_Fan w0 | skip
  first | replace w1 := wf_I w1 | skip
  repeat' first
    | refine And.intro rfl ?_
    | refine GdF.mk (fun h => h) ?_
    | refine And.intro (Nat.succ_ne_zero _) ?_
    | refine And.intro (Nat.le_of_ble_eq_true rfl) ?_
    | refine SeqF.run ?_
    | refine ArgF.is (vFanT f h) ?_
    | refine ArgQ.is (fun hG => vFanT f h) rfl rfl ?_
    | refine ArgF.is (hro) ?_
    | refine ArgQ.is (fun hG => hro) rfl rfl ?_
    | refine ArgF.is (c_impl_Fan_workingFlow f r h hr) ?_
    | refine ArgQ.is (fun hG => c_impl_Fan_workingFlow f r h hr) rfl rfl ?_
    | refine ArgF.is (c_impl_Fan_pressure f (wfI f r) h (by omega)) ?_
    | refine ArgQ.is (fun hG => c_impl_Fan_pressure f (wfI f r) h (by omega)) rfl rfl ?_
    | refine GhF.go ?_
    | refine BndF.mk (fun _ => by omega) ?_
    | refine BndF.mk (fun _ => by simp only [List.length_map, List.length_cons, List.length_nil, List.length_append, List.length_set, List.length_replicate, iotaI_len]; omega) ?_
    | refine EqL.mk [] rfl ?_
    | refine EqL.mk [_] rfl ?_
    | refine EqL.mk _ rfl ?_
    | refine ArgF.is (c_impl_ValidFan ..) ?_
    | refine ArgQ.is (fun hG => c_impl_ValidFan ..) rfl rfl ?_
    | refine ArgF.is (c_impl_resistanceOk ..) ?_
    | refine ArgQ.is (fun hG => c_impl_resistanceOk ..) rfl rfl ?_
    | refine ArgF.is (c_impl_Fan_workingFlow ⟨_, _, _⟩ _ (by first | assumption | omega) (by first | assumption | omega)) ?_
    | refine ArgQ.is (fun hG => c_impl_Fan_workingFlow ⟨_, _, _⟩ _ (by first | assumption | omega) (by first | assumption | omega)) rfl rfl ?_
    | refine ArgF.is (c_impl_Fan_pressure ⟨_, _, _⟩ _ (by first | assumption | omega) (by first | assumption | omega)) ?_
    | refine ArgQ.is (fun hG => c_impl_Fan_pressure ⟨_, _, _⟩ _ (by first | assumption | omega) (by first | assumption | omega)) rfl rfl ?_
    | refine CallF.mk (CallW.is [] true rfl ?_)
    | refine CallG.mk ?_
    | (refine CondF.mk (fun hb => ?_) (fun hb => ?_) <;> try simp only [forall_const, eq_self, not_true_eq_false, not_false_eq_true, or_false, false_or, or_self, or_true, true_or, and_true, true_and, and_false, false_and, decide_true, decide_false, Bool.not_true, Bool.not_false, decide_eq_true_eq, decide_eq_false_iff_not, ite_and_p, ite_or_p, Bool.decide_eq_true, Bool.and_eq_true, Bool.or_eq_true, Bool.not_eq_true', Bool.not_eq_false', Bool.and_eq_false_imp, Bool.or_eq_false_iff, bne_iff_ne, beq_iff_eq, bne_eq_false_iff_eq, beq_eq_false_iff_ne, gt_iff_lt, ge_iff_le, Int.not_lt, Int.not_le, ne_eq, Bool.true_eq_false, Bool.false_eq_true, reduceCtorEq, eta_Fan] at hb)
    | refine RetF.auto (And.intro rfl ?_)
    | exact Is.mk rfl rfl
    | refine Is.mk ?_ rfl
    | refine Is.mk rfl ?_
    | refine Is.mk ?_ ?_
  all_goals skip
--@fn impl.flowOk
theorem foT (q : Int) (h : -100000 ≤ q ∧ q ≤ 100000) : FnSem Try.prog 32 [In q] [] (Is [Bo true] []) := by
  refine FnSem.walk (zs := zeroPV Try.prog) (by kernel_rfl) Try.func32 rfl Try.results32 (by kernel_rfl) (by kernel_rfl) (by kernel_rfl) fun hw hh => ?_
  obtain ⟨w0, _⟩ := hw
  first | replace w0 := wf_I w0 | skip
  repeat' first
    | refine And.intro rfl ?_
    | refine GdF.mk (fun h => h) ?_
    | refine And.intro (Nat.succ_ne_zero _) ?_
    | refine And.intro (Nat.le_of_ble_eq_true rfl) ?_
    | refine SeqF.run ?_
    | refine ArgF.is (wiF q (-100000) 100000 h) ?_
    | refine ArgQ.is (fun hG => wiF q (-100000) 100000 h) rfl rfl ?_
    | refine GhF.go ?_
    | refine BndF.mk (fun _ => by omega) ?_
    | refine BndF.mk (fun _ => by simp only [List.length_map, List.length_cons, List.length_nil, List.length_append, List.length_set, List.length_replicate, iotaI_len]; omega) ?_
    | refine EqL.mk [] rfl ?_
    | refine EqL.mk [_] rfl ?_
    | refine EqL.mk _ rfl ?_
    | refine ArgF.is (c_impl_within ..) ?_
    | refine ArgQ.is (fun hG => c_impl_within ..) rfl rfl ?_
    | refine CallF.mk (CallW.is [] true rfl ?_)
    | refine CallG.mk ?_
    | (refine CondF.mk (fun hb => ?_) (fun hb => ?_) <;> try simp only [forall_const, eq_self, not_true_eq_false, not_false_eq_true, or_false, false_or, or_self, or_true, true_or, and_true, true_and, and_false, false_and, decide_true, decide_false, Bool.not_true, Bool.not_false, decide_eq_true_eq, decide_eq_false_iff_not, ite_and_p, ite_or_p, Bool.decide_eq_true, Bool.and_eq_true, Bool.or_eq_true, Bool.not_eq_true', Bool.not_eq_false', Bool.and_eq_false_imp, Bool.or_eq_false_iff, bne_iff_ne, beq_iff_eq, bne_eq_false_iff_eq, beq_eq_false_iff_ne, gt_iff_lt, ge_iff_le, Int.not_lt, Int.not_le, ne_eq, Bool.true_eq_false, Bool.false_eq_true, reduceCtorEq, eta_Fan] at hb)
    | refine RetF.auto (And.intro rfl ?_)
    | exact Is.mk rfl rfl
    | refine Is.mk ?_ rfl
    | refine Is.mk rfl ?_
    | refine Is.mk ?_ ?_
  all_goals skip
theorem c_impl_FanPower (f : GFan) (q : Int) (h : okFan f) (hq : -100000 ≤ q ∧ q ≤ 100000) : FnSem Try.prog 11 [.p .any (.agg f.cells), In q] [] (Is [In (pwF f q), In 0] []) := by
  refine FnSem.walk (zs := zeroPV Try.prog) (by kernel_rfl) Try.func11 rfl Try.results11 (by kernel_rfl) (by kernel_rfl) (by kernel_rfl) fun hw hh => ?_
  obtain ⟨w0, w1, _⟩ := hw
  first | replace w0 := wf_Fan w0 | skip
  first | replace w1 := wf_I w1 | skip
  repeat' first
    | refine And.intro rfl ?_
    | refine GdF.mk (fun h => h) ?_
    | refine And.intro (Nat.succ_ne_zero _) ?_
    | refine And.intro (Nat.le_of_ble_eq_true rfl) ?_
    | refine SeqF.run ?_
    | refine ArgF.is (vFanT f h) ?_
    | refine ArgQ.is (fun hG => vFanT f h) rfl rfl ?_
    | refine ArgF.is (foT q hq) ?_
    | refine ArgQ.is (fun hG => foT q hq) rfl rfl ?_
    | refine ArgF.is (c_impl_Fan_power f q h hq) ?_
    | refine ArgQ.is (fun hG => c_impl_Fan_power f q h hq) rfl rfl ?_
    | refine GhF.go ?_
    | refine BndF.mk (fun _ => by omega) ?_
    | refine BndF.mk (fun _ => by simp only [List.length_map, List.length_cons, List.length_nil, List.length_append, List.length_set, List.length_replicate, iotaI_len]; omega) ?_
    | refine EqL.mk [] rfl ?_
    | refine EqL.mk [_] rfl ?_
    | refine EqL.mk _ rfl ?_
    | refine ArgF.is (c_impl_ValidFan ..) ?_
    | refine ArgQ.is (fun hG => c_impl_ValidFan ..) rfl rfl ?_
    | refine ArgF.is (c_impl_flowOk ..) ?_
    | refine ArgQ.is (fun hG => c_impl_flowOk ..) rfl rfl ?_
    | refine ArgF.is (c_impl_Fan_power ⟨_, _, _⟩ _ (by first | assumption | omega) (by first | assumption | omega)) ?_
    | refine ArgQ.is (fun hG => c_impl_Fan_power ⟨_, _, _⟩ _ (by first | assumption | omega) (by first | assumption | omega)) rfl rfl ?_
    | refine CallF.mk (CallW.is [] true rfl ?_)
    | refine CallG.mk ?_
    | (refine CondF.mk (fun hb => ?_) (fun hb => ?_) <;> try simp only [forall_const, eq_self, not_true_eq_false, not_false_eq_true, or_false, false_or, or_self, or_true, true_or, and_true, true_and, and_false, false_and, decide_true, decide_false, Bool.not_true, Bool.not_false, decide_eq_true_eq, decide_eq_false_iff_not, ite_and_p, ite_or_p, Bool.decide_eq_true, Bool.and_eq_true, Bool.or_eq_true, Bool.not_eq_true', Bool.not_eq_false', Bool.and_eq_false_imp, Bool.or_eq_false_iff, bne_iff_ne, beq_iff_eq, bne_eq_false_iff_eq, beq_eq_false_iff_ne, gt_iff_lt, ge_iff_le, Int.not_lt, Int.not_le, ne_eq, Bool.true_eq_false, Bool.false_eq_true, reduceCtorEq, eta_Fan] at hb)
    | refine RetF.auto (And.intro rfl ?_)
    | exact Is.mk rfl rfl
    | refine Is.mk ?_ rfl
    | refine Is.mk rfl ?_
    | refine Is.mk ?_ ?_
  all_goals skip
end Go.Proofs.Ytdhkpmaanegjkaa
