/- Contracts of functions of the program, and what they compute. Conditions: those that each theorem states. -/
import Derived.Test.YtdhkpmaanegjkaaProg
import Derived.Test.YtdhkpmaanegjkaaI5
import Derived.Test.YtdhkpmaanegjkaaO5d
import Derived.Test.YtdhkpmaanegjkaaH1
import Derived.Test.YtdhkpmaanegjkaaS12
import Derived.Test.YtdhkpmaanegjkaaD3
set_option linter.unusedVariables false
set_option linter.unusedSimpArgs false
namespace Go.Proofs.Ytdhkpmaanegjkaa
open Go.Av
attribute [local irreducible] Go.IntKind.wrap leastI rdZ rd rootI rawA
set_option maxRecDepth 20000
set_option maxHeartbeats 16000000

/-! Fans that are drawn, a list of them. -/
abbrev RwFs (fs : List GFan) : OB := .row true .fresh GFan.z (fs.map GFan.cells)
--@fn spec.l06DrawList
theorem listU (c : List Int) (p s : Int) (hc : bytes c) (hp : 0 ≤ p ∧ p ≤ 30000000) : FnSem Try.prog 24 [.own 0 0] [srcO c p s] (SrcX (fun v : Nat × List GFan => [.osl 1 0 v.1]) (fun v => [RwFs v.2]) (fun v => v.1 = v.2.length ∧ v.1 ≤ 14) c 800 p) := by
  refine FnSem.walk (zs := zeroPV Try.prog) (by kernel_rfl) Try.func24 rfl Try.results24 (by kernel_rfl) (by kernel_rfl) (by kernel_rfl) fun hw hh => ?_
  obtain ⟨w0, _⟩ := hw
  first | replace w0 := wfr_L00Src w0 | skip
  repeat' first
    | refine And.intro rfl ?_
    | refine GdF.mk (fun h => h) ?_
    | refine And.intro (Nat.succ_ne_zero _) ?_
    | refine And.intro (Nat.le_of_ble_eq_true rfl) ?_
    | refine SeqF.run ?_
    | refine CallF.own (f := 34) [0] false ?_
    | refine CallF.own (f := 13) [0] false ?_
    | (refine ArgF.src (drFan c _ _ _ _ hc (by omega)) ?_; intro f p2 s2 hf hp2)
    | (refine ArgF.src (c_spec_l06Draw c _ _ hc (by omega)) ?_; intro f p2 s2 hf hp2)
    | (refine ArgF.srw (c_spec_l00Src_among _ _ _ [8, 9] 2 hc (by omega) (by omega) rfl) ?_; intro w4 pw4 sw4 hw4 hpw4; simp only [List.mem_cons, List.not_mem_nil, or_false] at hw4)
    | refine BndF.mk (fun _ => by simp only [cnums_size, ccat_size, cone_size, List.length_cons, List.length_nil]; omega) ?_
    | refine LoopF.at 4 rfl (LoopF.fixw [2] [0, 3] (Int × Nat × List GFan × Int × Int) (fun (k, n, fs, q, t) => 0 ≤ k ∧ k ≤ 4 ∧ n = fs.length ∧ (n : Int) ≤ k ∧ p ≤ q ∧ q ≤ p + 44 * k) (fun (k, n, fs, q, t) => [(5, In k), (4, .osl 2 0 n)]) (fun (k, n, fs, q, t) => [(0, srcO c q t), (2, RwFs fs)]) (fun (k, n, fs, q, t) => ((4 - k).toNat)) ((0, 0, [], p, s)) ?_)
    | (refine LoopB.of (T := Int × Nat × List GFan × Int × Int) ?_ ?_; rotate_left; rintro ⟨k, n, fs, q, t⟩ ⟨k0, k1, k2, k3, k4, k5⟩; rotate_left)
    | refine LoopF.at 15 rfl (LoopF.fixw [1] [0, 6] (Int × Nat × List GFan × Int × Int × Unit) (fun (k, n, fs, q, t, _) => 0 ≤ k ∧ k ≤ w4 ∧ n = fs.length ∧ (n : Int) = k ∧ p ≤ q ∧ q ≤ p + 180 + 44 * k) (fun (k, n, fs, q, t, _) => [(7, In k), (4, .osl 1 0 n)]) (fun (k, n, fs, q, t, _) => [(0, srcO c q t), (1, RwFs fs)]) (fun (k, n, fs, q, t, _) => ((w4 - k).toNat)) ((0, 0, [], pw4, sw4, ())) ?_)
    | (refine LoopB.of (T := Int × Nat × List GFan × Int × Int × Unit) ?_ ?_; rotate_left; rintro ⟨k, n, fs, q, t, _⟩ ⟨k0, k1, k2, k3, k4, k5⟩; rotate_left)
    | refine EqL.mk _ (sn GFan.cells (v := _) (by first | rfl | assumption | omega | (simp only [List.length_append, List.length_cons, List.length_nil]; omega))) ?_
    | refine SrcX.mk (α := Nat × List GFan) (_, _) _ _ rfl rfl ?_ ?_
    | refine GhF.go ?_
    | refine DrawG.old (DrawF.lex (by decide +kernel) ?_)
    | refine DrawG.old (DrawF.any ?_)
    | refine OrdF.take 0 (by decide +kernel) ?_
    | refine OrdF.take 1 (by decide +kernel) ?_
    | refine OrdF.take 2 (by decide +kernel) ?_
    | refine OrdF.take 3 (by decide +kernel) ?_
    | refine OrdF.take 4 (by decide +kernel) ?_
    | refine OrdF.take 6 (by decide +kernel) ?_
    | refine OrdF.take 11 (by decide +kernel) ?_
    | refine OrdF.all [10] (by decide +kernel) ?_
    | refine OrdF.all [9] (by decide +kernel) ?_
    | refine OrdF.all [8] (by decide +kernel) ?_
    | refine OrdF.all [5] (by decide +kernel) ?_
    | refine OrdF.all [7] (by decide +kernel) ?_
    | refine OrdF.all [5, 7] (by decide +kernel) ?_
    | refine OrdF.fin (by decide +kernel) ?_
    | refine AllF.one _ ?_
    | refine AllF.cons _ _ ?_ ?_
    | refine MkF.row ?_
    | refine EqP.mk _ (gmb GFan.cells default (by omega)) ?_
    | refine EqP.mk _ (gm eI 0 rfl) ?_
    | refine EqP.mk _ (gm eS ⟨#[]⟩ rfl) ?_
    | refine BndF.mk (fun _ => by omega) ?_
    | refine BndF.mk (fun _ => by simp only [List.length_map, List.length_cons, List.length_nil, List.length_append, List.length_set, List.length_replicate, iotaI_len]; omega) ?_
    | refine EqI.mk _ (fun _ => wrapI (by omega) (by omega)) ?_
    | refine EqI.mk _ (fun _ => rfl) ?_
    | refine FlF.keep ?_
    | refine EqN.mk _ (ln GFan.cells) ?_
    | refine EqN.mk _ (ln eI) ?_
    | refine EqN.mk _ (ln eS) ?_
    | refine EqN.mk _ (Nat.zero_add _) ?_
    | refine EqN.mk (_ + 1) rfl ?_
    | refine EqN.mk _ (Int.toNat_natCast _) ?_
    | refine EqN.mk _ rfl ?_
    | refine EqL.mk _ (sn0 GFan.cells) ?_
    | refine EqL.mk _ (sn GFan.cells (by first | rfl | assumption | omega | (simp only [List.length_map, List.length_cons, List.length_nil, List.length_append, List.length_set, List.length_replicate, iotaI_len]; done) | (simp only [List.length_map, List.length_cons, List.length_nil, List.length_append, List.length_set, List.length_replicate, iotaI_len]; omega))) ?_
    | refine EqL.mk _ (ap0 GFan.cells) ?_
    | refine EqL.mk _ (ap GFan.cells (by first | rfl | assumption | omega | (simp only [List.length_map, List.length_cons, List.length_nil, List.length_append, List.length_set, List.length_replicate, iotaI_len]; done) | (simp only [List.length_map, List.length_cons, List.length_nil, List.length_append, List.length_set, List.length_replicate, iotaI_len]; omega))) ?_
    | refine EqL.mk _ (tk GFan.cells (by first | rfl | assumption | omega | (simp only [List.length_map, List.length_cons, List.length_nil, List.length_append, List.length_set, List.length_replicate, iotaI_len]; done) | (simp only [List.length_map, List.length_cons, List.length_nil, List.length_append, List.length_set, List.length_replicate, iotaI_len]; omega))) ?_
    | refine EqL.mk _ (dt GFan.cells) ?_
    | refine EqL.mk _ (sn0 eI) ?_
    | refine EqL.mk _ (sn eI (by first | rfl | assumption | omega | (simp only [List.length_map, List.length_cons, List.length_nil, List.length_append, List.length_set, List.length_replicate, iotaI_len]; done) | (simp only [List.length_map, List.length_cons, List.length_nil, List.length_append, List.length_set, List.length_replicate, iotaI_len]; omega))) ?_
    | refine EqL.mk _ (ap0 eI) ?_
    | refine EqL.mk _ (ap eI (by first | rfl | assumption | omega | (simp only [List.length_map, List.length_cons, List.length_nil, List.length_append, List.length_set, List.length_replicate, iotaI_len]; done) | (simp only [List.length_map, List.length_cons, List.length_nil, List.length_append, List.length_set, List.length_replicate, iotaI_len]; omega))) ?_
    | refine EqL.mk _ (tk eI (by first | rfl | assumption | omega | (simp only [List.length_map, List.length_cons, List.length_nil, List.length_append, List.length_set, List.length_replicate, iotaI_len]; done) | (simp only [List.length_map, List.length_cons, List.length_nil, List.length_append, List.length_set, List.length_replicate, iotaI_len]; omega))) ?_
    | refine EqL.mk _ (dt eI) ?_
    | refine EqL.mk _ (sn0 eS) ?_
    | refine EqL.mk _ (sn eS (by first | rfl | assumption | omega | (simp only [List.length_map, List.length_cons, List.length_nil, List.length_append, List.length_set, List.length_replicate, iotaI_len]; done) | (simp only [List.length_map, List.length_cons, List.length_nil, List.length_append, List.length_set, List.length_replicate, iotaI_len]; omega))) ?_
    | refine EqL.mk _ (ap0 eS) ?_
    | refine EqL.mk _ (ap eS (by first | rfl | assumption | omega | (simp only [List.length_map, List.length_cons, List.length_nil, List.length_append, List.length_set, List.length_replicate, iotaI_len]; done) | (simp only [List.length_map, List.length_cons, List.length_nil, List.length_append, List.length_set, List.length_replicate, iotaI_len]; omega))) ?_
    | refine EqL.mk _ (tk eS (by first | rfl | assumption | omega | (simp only [List.length_map, List.length_cons, List.length_nil, List.length_append, List.length_set, List.length_replicate, iotaI_len]; done) | (simp only [List.length_map, List.length_cons, List.length_nil, List.length_append, List.length_set, List.length_replicate, iotaI_len]; omega))) ?_
    | refine EqL.mk _ (dt eS) ?_
    | refine EqL.mk (List.map eI [_, _]) rfl ?_
    | refine EqL.mk (List.map eS [_, _, _, _]) rfl ?_
    | refine EqL.mk [] rfl ?_
    | refine EqL.mk [_] rfl ?_
    | refine EqL.mk _ rfl ?_
    | (refine ArgF.src (c_spec_l00Src_one _ _ _ _ (by first | assumption | omega | rfl | (simp only [List.length_cons, List.length_nil]; omega)) (by first | assumption | omega | rfl | (simp only [List.length_cons, List.length_nil]; omega)) (by first | assumption | omega | rfl | (simp only [List.length_cons, List.length_nil]; omega))) ?_; intro _ _ _ _ _)
    | (refine ArgF.src (c_spec_l00Src_pick _ _ _ _ (by first | assumption | omega | rfl | (simp only [List.length_cons, List.length_nil]; omega)) (by first | assumption | omega | rfl | (simp only [List.length_cons, List.length_nil]; omega)) (by first | assumption | omega | rfl | (simp only [List.length_cons, List.length_nil]; omega))) ?_; intro _ _ _ _ _)
    | refine ArgF.is (c_spec_l06DrawOk ..) ?_
    | refine ArgQ.is (fun hG => c_spec_l06DrawOk ..) rfl rfl ?_
    | (refine ArgF.src (c_spec_l06Draw _ _ _ (by first | assumption | omega | rfl | (simp only [List.length_cons, List.length_nil]; omega)) (by first | assumption | omega | rfl | (simp only [List.length_cons, List.length_nil]; omega))) ?_; intro _ _ _ _ _)
    | (refine ArgF.srw (c_spec_l00Src_among _ _ _ _ _ (by first | assumption | omega | rfl | (simp only [List.length_cons, List.length_nil]; omega)) (by first | assumption | omega | rfl | (simp only [List.length_cons, List.length_nil]; omega)) (by first | assumption | omega | rfl | (simp only [List.length_cons, List.length_nil]; omega)) (by first | assumption | omega | rfl | (simp only [List.length_cons, List.length_nil]; omega))) ?_; intro _ _ _ _ _)
    | refine ArgF.is (c_spec_l01Dec _ (by first | assumption | omega)) ?_
    | refine ArgQ.is (fun hG => c_spec_l01Dec _ (by first | assumption | omega)) rfl rfl ?_
    | refine CallF.own (f := 13) [0] false ?_
    | refine CallF.own (f := 25) [0] false ?_
    | refine CallF.own (f := 26) [0, 1] false ?_
    | refine CallF.own (f := 27) [0] false ?_
    | refine CallF.mk (CallW.is [] true rfl ?_)
    | refine CallG.mk ?_
    | (refine CondF.mk (fun hb => ?_) (fun hb => ?_) <;> try simp only [forall_const, eq_self, not_true_eq_false, not_false_eq_true, or_false, false_or, or_self, or_true, true_or, and_true, true_and, and_false, false_and, decide_true, decide_false, Bool.not_true, Bool.not_false, decide_eq_true_eq, decide_eq_false_iff_not, ite_and_p, ite_or_p, Bool.decide_eq_true, Bool.and_eq_true, Bool.or_eq_true, Bool.not_eq_true', Bool.not_eq_false', Bool.and_eq_false_imp, Bool.or_eq_false_iff, bne_iff_ne, beq_iff_eq, bne_eq_false_iff_eq, beq_eq_false_iff_ne, gt_iff_lt, ge_iff_le, Int.not_lt, Int.not_le, ne_eq, Bool.true_eq_false, Bool.false_eq_true, reduceCtorEq, eta_Fan] at hb)
    | apply BackF.auto6
    | apply BackF.auto5
    | refine BackB.mk ?_ ?_
    | refine RetF.auto (And.intro rfl ?_)
    | exact Is.mk rfl rfl
    | refine Is.mk ?_ rfl
    | refine Is.mk rfl ?_
    | refine Is.mk ?_ ?_
  all_goals try exact ()
  all_goals try dsimp only
  all_goals first
    | omega
    | exact ⟨by omega, by omega, rfl, by simp, by omega, by omega⟩
    | exact ⟨by omega, by omega, k2, by omega, by omega, by omega⟩
    | exact ⟨by omega, by omega, by rw [List.length_append, List.length_singleton]; omega, by omega, by omega, by omega⟩
    | exact ⟨by rw [List.length_append, List.length_singleton]; omega, by omega⟩
    | (rw [List.length_append, List.length_singleton]; omega)
    | exact ⟨by omega, by omega⟩
    | skip
/-- the same, frozen -/
theorem c_spec_l06DrawList (c : List Int) (p s : Int) (hc : bytes c) (hp : 0 ≤ p ∧ p ≤ 30000000) : FnSem Try.prog 24 [.own 0 0] [srcO c p s] (SrcV (fun fs : List GFan => [.p .fresh (.lst GFan.z (fs.map GFan.cells))]) (fun fs => fs.length ≤ 14) c 800 p) := by
  refine FnSem.frz ((listU c p s hc hp).mono ?_)
  rintro rs ho ⟨⟨n, fs⟩, p', s', rfl, rfl, hv, hp'⟩
  dsimp only at hv
  refine ⟨_, 1, _, rfl, rfl, Nat.le_refl _, rfl, rfl, ?_⟩
  refine ⟨fun _ => by simp only [List.length_map]; omega, _, tk GFan.cells hv.1, ?_⟩
  exact SrcV.mk (α := List GFan) fs p' s' rfl rfl (by omega) hp'
theorem c_spec_DrawBestFan (c : List Int) (hc : bytes c) : FnSem Try.prog 9 [Lx (LY c)] [] (RetV (fun v : List GFan × Int × Int => [.p .fresh (.lst GFan.z (v.1.map GFan.cells)), In v.2.1, In v.2.2]) (fun _ => []) (fun v => v.1.length ≤ 14)) := by
  refine FnSem.walk (zs := zeroPV Try.prog) (by kernel_rfl) Try.func9 rfl Try.results9 (by kernel_rfl) (by kernel_rfl) (by kernel_rfl) fun hw hh => ?_
  obtain ⟨w0, _⟩ := hw
  first | replace w0 := wf_LY w0 | skip
  repeat' first
    | refine And.intro rfl ?_
    | refine GdF.mk (fun h => h) ?_
    | refine And.intro (Nat.succ_ne_zero _) ?_
    | refine And.intro (Nat.le_of_ble_eq_true rfl) ?_
    | refine SeqF.run ?_
    | refine CallF.own (f := 24) [0] false ?_
    | (refine ArgF.src (c_spec_l06DrawList c _ _ hc (by omega)) ?_; intro fs p2 s2 hf hp2)
    | refine RetV.mk (α := List GFan × Int × Int) (_, _, _) rfl rfl ?_
    | refine GhF.go ?_
    | refine MkF.row ?_
    | refine BndF.mk (fun _ => by omega) ?_
    | refine BndF.mk (fun _ => by simp only [List.length_map, List.length_cons, List.length_nil, List.length_append, List.length_set, List.length_replicate, iotaI_len]; omega) ?_
    | refine EqN.mk _ (Nat.zero_add _) ?_
    | refine EqN.mk _ (Int.toNat_natCast _) ?_
    | refine EqN.mk _ rfl ?_
    | refine EqL.mk _ (tk eY (by first | rfl | assumption | omega | (simp only [List.length_map, List.length_cons, List.length_nil, List.length_append, List.length_set, List.length_replicate, iotaI_len]; done) | (simp only [List.length_map, List.length_cons, List.length_nil, List.length_append, List.length_set, List.length_replicate, iotaI_len]; omega))) ?_
    | refine EqL.mk _ (dt eY) ?_
    | refine EqL.mk _ (tk eI (by first | rfl | assumption | omega | (simp only [List.length_map, List.length_cons, List.length_nil, List.length_append, List.length_set, List.length_replicate, iotaI_len]; done) | (simp only [List.length_map, List.length_cons, List.length_nil, List.length_append, List.length_set, List.length_replicate, iotaI_len]; omega))) ?_
    | refine EqL.mk _ (dt eI) ?_
    | refine EqL.mk (List.map eI [_, _, _, _]) rfl ?_
    | refine EqL.mk [] rfl ?_
    | refine EqL.mk [_] rfl ?_
    | refine EqL.mk _ rfl ?_
    | refine ArgF.is (c_spec_l00From ..) ?_
    | refine ArgQ.is (fun hG => c_spec_l00From ..) rfl rfl ?_
    | (refine ArgF.src (c_spec_l06DrawList _ _ _ (by first | assumption | omega | rfl | (simp only [List.length_cons, List.length_nil]; omega)) (by first | assumption | omega | rfl | (simp only [List.length_cons, List.length_nil]; omega))) ?_; intro _ _ _ _ _)
    | (refine ArgF.src (c_spec_l03DrawRes _ _ _ (by first | assumption | omega | rfl | (simp only [List.length_cons, List.length_nil]; omega)) (by first | assumption | omega | rfl | (simp only [List.length_cons, List.length_nil]; omega))) ?_; intro _ _ _ _ _)
    | (refine ArgF.src (c_spec_l00Src_one _ _ _ _ (by first | assumption | omega | rfl | (simp only [List.length_cons, List.length_nil]; omega)) (by first | assumption | omega | rfl | (simp only [List.length_cons, List.length_nil]; omega)) (by first | assumption | omega | rfl | (simp only [List.length_cons, List.length_nil]; omega))) ?_; intro _ _ _ _ _)
    | (refine ArgF.srw (c_spec_l00Src_among _ _ _ _ _ (by first | assumption | omega | rfl | (simp only [List.length_cons, List.length_nil]; omega)) (by first | assumption | omega | rfl | (simp only [List.length_cons, List.length_nil]; omega)) (by first | assumption | omega | rfl | (simp only [List.length_cons, List.length_nil]; omega)) (by first | assumption | omega | rfl | (simp only [List.length_cons, List.length_nil]; omega))) ?_; intro _ _ _ _ _)
    | (refine ArgF.src (c_spec_l00Src_pick _ _ _ _ (by first | assumption | omega | rfl | (simp only [List.length_cons, List.length_nil]; omega)) (by first | assumption | omega | rfl | (simp only [List.length_cons, List.length_nil]; omega)) (by first | assumption | omega | rfl | (simp only [List.length_cons, List.length_nil]; omega))) ?_; intro _ _ _ _ _)
    | refine CallF.own (f := 14) [0] false ?_
    | refine CallF.own (f := 24) [0] false ?_
    | refine CallF.own (f := 25) [0] false ?_
    | refine CallF.own (f := 26) [0, 1] false ?_
    | refine CallF.own (f := 27) [0] false ?_
    | refine CallF.mk (f := 12) (CallW.is [] false rfl ?_)
    | refine CallF.mk (CallW.is [] true rfl ?_)
    | refine CallG.mk ?_
    | (refine CondF.mk (fun hb => ?_) (fun hb => ?_) <;> try simp only [forall_const, eq_self, not_true_eq_false, not_false_eq_true, or_false, false_or, or_self, or_true, true_or, and_true, true_and, and_false, false_and, decide_true, decide_false, Bool.not_true, Bool.not_false, decide_eq_true_eq, decide_eq_false_iff_not, ite_and_p, ite_or_p, Bool.decide_eq_true, Bool.and_eq_true, Bool.or_eq_true, Bool.not_eq_true', Bool.not_eq_false', Bool.and_eq_false_imp, Bool.or_eq_false_iff, bne_iff_ne, beq_iff_eq, bne_eq_false_iff_eq, beq_eq_false_iff_ne, gt_iff_lt, ge_iff_le, Int.not_lt, Int.not_le, ne_eq, Bool.true_eq_false, Bool.false_eq_true, reduceCtorEq, eta_Fan] at hb)
    | refine RetF.auto (And.intro rfl ?_)
    | exact Is.mk rfl rfl
    | refine Is.mk ?_ rfl
    | refine Is.mk rfl ?_
    | refine Is.mk ?_ ?_
  all_goals try dsimp only
  all_goals first
    | omega
    | skip
theorem c_spec_DrawWorkingPoint (c : List Int) (hc : bytes c) : FnSem Try.prog 5 [Lx (LY c)] [] (RetV (fun v : GFan × Int => [.p .fresh (.agg v.1.cells), In v.2]) (fun _ => []) (fun _ => True)) := by
  refine FnSem.walk (zs := zeroPV Try.prog) (by kernel_rfl) Try.func5 rfl Try.results5 (by kernel_rfl) (by kernel_rfl) (by kernel_rfl) fun hw hh => ?_
  obtain ⟨w0, _⟩ := hw
  first | replace w0 := wf_LY w0 | skip
  repeat' first
    | refine And.intro rfl ?_
    | refine GdF.mk (fun h => h) ?_
    | refine And.intro (Nat.succ_ne_zero _) ?_
    | refine And.intro (Nat.le_of_ble_eq_true rfl) ?_
    | refine SeqF.run ?_
    | refine CallF.own (f := 13) [0] false ?_
    | (refine ArgF.src (c_spec_l06Draw c _ _ hc (by omega)) ?_; intro f p2 s2 hf hp2)
    | refine RetV.mk (α := GFan × Int) (_, _) rfl rfl trivial
    | refine GhF.go ?_
    | refine DrawG.old (DrawF.lex (by decide +kernel) ?_)
    | refine DrawG.old (DrawF.any ?_)
    | refine OrdF.take 1 (by decide +kernel) ?_
    | refine OrdF.take 4 (by decide +kernel) ?_
    | refine OrdF.all [3] (by decide +kernel) ?_
    | refine OrdF.all [0] (by decide +kernel) ?_
    | refine OrdF.all [2] (by decide +kernel) ?_
    | refine OrdF.all [0, 2] (by decide +kernel) ?_
    | refine OrdF.fin (by decide +kernel) ?_
    | refine AllF.one _ ?_
    | refine AllF.cons _ _ ?_ ?_
    | refine BndF.mk (fun _ => by omega) ?_
    | refine BndF.mk (fun _ => by simp only [List.length_map, List.length_cons, List.length_nil, List.length_append, List.length_set, List.length_replicate, iotaI_len]; omega) ?_
    | refine EqL.mk _ (tk eY (by first | rfl | assumption | omega | (simp only [List.length_map, List.length_cons, List.length_nil, List.length_append, List.length_set, List.length_replicate, iotaI_len]; done) | (simp only [List.length_map, List.length_cons, List.length_nil, List.length_append, List.length_set, List.length_replicate, iotaI_len]; omega))) ?_
    | refine EqL.mk _ (st eY) ?_
    | refine EqL.mk [] rfl ?_
    | refine EqL.mk [_] rfl ?_
    | refine EqL.mk _ rfl ?_
    | refine ArgF.is (c_spec_l00From ..) ?_
    | refine ArgQ.is (fun hG => c_spec_l00From ..) rfl rfl ?_
    | (refine ArgF.src (c_spec_l06Draw _ _ _ (by first | assumption | omega | rfl | (simp only [List.length_cons, List.length_nil]; omega)) (by first | assumption | omega | rfl | (simp only [List.length_cons, List.length_nil]; omega))) ?_; intro _ _ _ _ _)
    | (refine ArgF.src (c_spec_l03DrawRes _ _ _ (by first | assumption | omega | rfl | (simp only [List.length_cons, List.length_nil]; omega)) (by first | assumption | omega | rfl | (simp only [List.length_cons, List.length_nil]; omega))) ?_; intro _ _ _ _ _)
    | refine CallF.own (f := 13) [0] false ?_
    | refine CallF.own (f := 14) [0] false ?_
    | refine CallF.mk (f := 12) (CallW.is [] false rfl ?_)
    | refine CallF.mk (CallW.is [] true rfl ?_)
    | refine CallG.mk ?_
    | (refine CondF.mk (fun hb => ?_) (fun hb => ?_) <;> try simp only [forall_const, eq_self, not_true_eq_false, not_false_eq_true, or_false, false_or, or_self, or_true, true_or, and_true, true_and, and_false, false_and, decide_true, decide_false, Bool.not_true, Bool.not_false, decide_eq_true_eq, decide_eq_false_iff_not, ite_and_p, ite_or_p, Bool.decide_eq_true, Bool.and_eq_true, Bool.or_eq_true, Bool.not_eq_true', Bool.not_eq_false', Bool.and_eq_false_imp, Bool.or_eq_false_iff, bne_iff_ne, beq_iff_eq, bne_eq_false_iff_eq, beq_eq_false_iff_ne, gt_iff_lt, ge_iff_le, Int.not_lt, Int.not_le, ne_eq, Bool.true_eq_false, Bool.false_eq_true, reduceCtorEq, eta_Fan] at hb)
    | refine RetF.auto (And.intro rfl ?_)
    | exact Is.mk rfl rfl
    | refine Is.mk ?_ rfl
    | refine Is.mk rfl ?_
    | refine Is.mk ?_ ?_
  all_goals try dsimp only
  all_goals first
    | omega
    | skip
end Go.Proofs.Ytdhkpmaanegjkaa
