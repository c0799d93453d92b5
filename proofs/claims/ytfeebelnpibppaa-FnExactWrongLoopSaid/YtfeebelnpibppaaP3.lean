/- Contracts of functions of the program, and what they compute. Conditions: those that each theorem states. -/
import Derived.Test.YtfeebelnpibppaaProg
import Derived.Test.YtfeebelnpibppaaP2
set_option linter.unusedVariables false
set_option linter.unusedSimpArgs false
namespace Go.Proofs.Ytfeebelnpibppaa
open Go.Av
attribute [local irreducible] Go.IntKind.wrap leastI rdZ rd rootI rawA okMine loopN loopS goB goS okL askB gainsI potI
set_option maxRecDepth 20000
set_option maxHeartbeats 40000000

/-! Loops whose sum is less than 0: the program. -/
--@fn (*impl.loopSearch).extend
theorem loopC (m : GMine) (g : List Int) (rg : List Bool) (start len : Int) (hm : okMine m = true) (hgl : g.length = m.airways.length) (hrl : rg.length = m.airways.length) (hg : bdL 1020000 g) (hlen : len ≤ 16) : ∀ (r' : Nat) (at_ sum s0 : Int) (walk passed ys zs : List Int) (n p : Nat) (hat : 0 ≤ at_ ∧ at_ < m.junctions) (hn : n ≤ ys.length ∧ p ≤ zs.length) (hw : ys.take n = walk) (hp : zs.take p = passed) (hN : len = walk.length + r') (hpl : passed.length = walk.length) (hs : -2000000 * walk.length ≤ sum ∧ sum ≤ 2000000 * walk.length),
    FnSem Try.prog 117 [.own 0 0, In at_, In sum] [loC m g rg start len 2 n 3 p s0, RwG g, .row false .flat (eI 0) (ys.map eI), .row false .flat (eI 0) (zs.map eI)] (LoopR m g rg start len (loopN m g rg start r' at_ sum walk passed) walk passed) := fun r' => by
  induction r' using Nat.strongRecOn with
  | _ r' ih => exact loop1 m g rg start len hm hgl hrl hg hlen r' ih
inductive WrR (r : List Int × Int × Int) (rs : List AV) (ho : List OB) : Prop
  | mk (n : Nat) (ys : List Int) (s c : Int) (h1 : rs = [.osl 0 0 n, In s, In c]) (h2 : ho = [.row false .flat (eI 0) (ys.map eI)]) (h3 : n ≤ ys.length) (h4 : r = (ys.take n, s, c))
theorem ArgF.wr {r : List Int × Int × Int} {k : Nat} {Pr : Program} [Kn Pr] {f : FuncId} {args : List AV} {hin : List OB} {K : List AV → List OB → Prop} (h : FnSem Pr f args hin (WrR r))
    (hk : ∀ (n : Nat) (ys : List Int) (s c : Int), n ≤ ys.length → r = (ys.take n, s, c) → K [.osl 0 0 n, In s, In c] [.row false .flat (eI 0) (ys.map eI)]) : ArgF k Pr f args hin K :=
  ⟨_, h, fun rs ho hR _ => by obtain ⟨n, ys, s, c, rfl, rfl, h3, h4⟩ := hR; exact hk n ys s c h3 h4⟩
theorem c_impl_WrongLoop (m : GMine) (ds ps : List Int) (rg : List Bool) : FnSem Try.prog 26 [.p .any (.agg m.cells), Lx (LI ds), Lx (LI ps), Lx (LB rg)] [] (WrR (wrongV m ds ps rg)) := by
  refine FnSem.old ?_
  refine FnSem.walk (zs := zeroPV Try.prog) (by kernel_rfl) Try.func26 rfl Try.results26 (by kernel_rfl) (by kernel_rfl) (by kernel_rfl) fun hw hh => ?_
  obtain ⟨w0, w1, w2, w3, _⟩ := hw
  first | replace w0 := wf_Mine w0 | skip
  first | replace w1 := wf_LI w1 | skip
  first | replace w2 := wf_LI w2 | skip
  first | replace w3 := wf_I w3 | replace w3 := wf_Y w3 | replace w3 := wf_S w3 | replace w3 := wf_LI w3 | replace w3 := wf_LY w3 | replace w3 := wf_LLI w3 | replace w3 := wf_Ls w3 | skip
  repeat' first
    | refine And.intro rfl ?_
    | refine GdF.mk (fun h => h) ?_
    | refine And.intro (Nat.succ_ne_zero _) ?_
    | refine And.intro (Nat.le_of_ble_eq_true rfl) ?_
    | refine SeqF.run ?_
    | refine GhF.at 4 rfl [.old 2] ?_
    | refine GhF.at 11 rfl [.nils 3 6 (eI 0), .nils 3 7 (eI 0)] ?_
    | refine CallF.mk (f := 115) (CallW.is [] false rfl ?_)
    | (refine ArgF.mk _ (c_impl_boostersOf m ds ps rg) (fun rs ho hR _ => ?_); rcases hR with ⟨hs, rfl, rfl⟩ | ⟨hs, rfl, rfl⟩; all_goals (try have hq := askB_l hs))
    | exact absurd hb hs
    | refine LoopF.at 5 rfl (LoopF.fix [4, 11] (Int) (fun l => 1 ≤ l ∧ l ≤ m.junctions + 1 ∧ (1 ≤ m.junctions ∧ m.junctions ≤ 16) ∧ wrongP m (gainsI ps ds) rg = loopT (wrongL m (gainsI ps ds) rg) (m.junctions + 1 - l).toNat l.toNat) (fun l => [(13, In l)]) (fun l => [(2, RwG (gainsI ps ds))]) (fun l => ((m.junctions + 1 - l).toNat)) (1) ?_)
    | (refine LoopB.of (T := Int) ?_ ?_; rotate_left; rintro l ⟨j0, j1, j2, j3⟩; rotate_left)
    | refine LoopF.at 8 rfl (LoopF.fix [4, 11, 13, 34] (Int) (fun s => 0 ≤ s ∧ s ≤ m.junctions ∧ wrongL m (gainsI ps ds) rg l.toNat = loopT (fun s => loopN m (gainsI ps ds) rg s l.toNat s 0 [] []) (m.junctions - s).toNat s.toNat) (fun s => [(35, In s)]) (fun s => [(2, RwG (gainsI ps ds))]) (fun s => ((m.junctions - s).toNat)) (0) ?_)
    | (refine LoopB.of (T := Int) ?_ ?_; rotate_left; rintro s ⟨k0, k1, k2⟩; rotate_left)
    | refine CallF.own (f := 117) [0] false ?_
    | (refine ArgF.loop (loopC m (gainsI ps ds) rg s l hq.1 (by rw [gainsI_len]; exact hq.2.2.2.1) hq.2.2.2.2.1 (gainsI_bd hq.2.2.2.2.2.1 hq.2.2.2.2.2.2) (by omega) l.toNat s 0 0 [] [] [] [] 0 0 (by omega) (by simp) rfl rfl (by simp; omega) rfl (by simp)) ?_; intro n2 p2 ys2 zs2 b2 s2 e1 e2 e3 e4)
    | refine WrR.mk 0 [] _ _ rfl rfl ?_ ?_
    | refine WrR.mk n2 ys2 _ _ rfl rfl ?_ ?_
    | refine GhF.go ?_
    | refine DrawG.old (DrawF.lex (by decide +kernel) ?_)
    | refine MkF.row ?_
    | refine BndF.mk (fun _ => by omega) ?_
    | refine BndF.mk (fun _ => by simp only [List.length_map, List.length_cons, List.length_nil, List.length_append, List.length_set, List.length_replicate, iotaI_len]; omega) ?_
    | refine EqI.mk _ (fun _ => wrapI (by omega) (by omega)) ?_
    | refine EqI.mk _ (fun _ => rfl) ?_
    | refine EqN.mk _ (Nat.zero_add _) ?_
    | refine EqN.mk _ (Int.toNat_natCast _) ?_
    | refine EqN.mk _ rfl ?_
    | refine EqL.mk _ (tk eI (by first | rfl | assumption | omega | (simp only [List.length_map, List.length_cons, List.length_nil, List.length_append, List.length_set, List.length_replicate, iotaI_len]; done) | (simp only [List.length_map, List.length_cons, List.length_nil, List.length_append, List.length_set, List.length_replicate, iotaI_len]; omega))) ?_
    | refine EqL.mk _ (st eI) ?_
    | refine EqL.mk _ (dt eI) ?_
    | refine EqL.mk _ (tk eB (by first | rfl | assumption | omega | (simp only [List.length_map, List.length_cons, List.length_nil, List.length_append, List.length_set, List.length_replicate, iotaI_len]; done) | (simp only [List.length_map, List.length_cons, List.length_nil, List.length_append, List.length_set, List.length_replicate, iotaI_len]; omega))) ?_
    | refine EqL.mk _ (st eB) ?_
    | refine EqL.mk _ (dt eB) ?_
    | refine EqL.mk [] rfl ?_
    | refine EqL.mk [_] rfl ?_
    | refine EqL.mk _ rfl ?_
    | refine ArgF.is (c_impl_boostersOf ⟨_, _⟩ _ _ _) ?_
    | refine ArgQ.is (fun hG => c_impl_boostersOf ⟨_, _⟩ _ _ _) rfl rfl ?_
    | refine ArgF.is (c_impl_loopSearch_extend ..) ?_
    | refine ArgQ.is (fun hG => c_impl_loopSearch_extend ..) rfl rfl ?_
    | refine CallF.mk (CallW.is [] true rfl ?_)
    | refine CallG.mk ?_
    | (refine CondF.mk (fun hb => ?_) (fun hb => ?_) <;> try simp only [forall_const, eq_self, not_true_eq_false, not_false_eq_true, or_false, false_or, or_self, or_true, true_or, and_true, true_and, and_false, false_and, decide_true, decide_false, Bool.not_true, Bool.not_false, decide_eq_true_eq, decide_eq_false_iff_not, ite_and_p, ite_or_p, Bool.decide_eq_true, Bool.and_eq_true, Bool.or_eq_true, Bool.not_eq_true', Bool.not_eq_false', Bool.and_eq_false_imp, Bool.or_eq_false_iff, bne_iff_ne, beq_iff_eq, bne_eq_false_iff_eq, beq_eq_false_iff_ne, gt_iff_lt, ge_iff_le, Int.not_lt, Int.not_le, ne_eq, Bool.true_eq_false, Bool.false_eq_true, reduceCtorEq, eta_Airway, eta_Fan, eta_Mine] at hb)
    | apply BackF.auto
    | refine BackB.mk ?_ ?_
    | refine RetF.auto (And.intro rfl ?_)
    | exact Is.mk rfl rfl
    | refine Is.mk ?_ rfl
    | refine Is.mk rfl ?_
    | refine Is.mk ?_ ?_
  all_goals try dsimp only
  all_goals first
    | omega
    | exact Nat.le_refl _
    | (unfold wrongV; rw [if_neg hs]; rfl)
    | (have q := okMine_p hq.1
       exact ⟨by omega, by omega, by omega, by unfold wrongP; rw [show (m.junctions + 1 - 1).toNat = m.junctions.toNat by omega]; rfl⟩)
    | exact ⟨by omega, by omega, by unfold wrongL; rw [show (m.junctions - 0).toNat = m.junctions.toNat by omega]; rfl⟩
    | (have es : ((s.toNat : Nat) : Int) = s := by omega
       obtain ⟨x, hx⟩ := Option.isSome_iff_exists.1 (e1.symm.trans (by assumption))
       have w1 := k2.trans (loopT_t (x := x) (by omega) (by rw [es]; exact hx))
       have w2 := j3.trans (loopT_t (by omega) w1)
       have q := e3 _ hx
       unfold wrongV
       rw [if_pos hs, w2, q.1, q.2])
    | (have es : ((s.toNat : Nat) : Int) = s := by omega
       have nl := n2_len (by assumption) e1 e2 e4
       refine ⟨by omega, by omega, ?_⟩
       rw [k2, loopT_n (by omega) (by rw [es]; exact nl.1), show (m.junctions - s).toNat - 1 = (m.junctions - (s + 1)).toNat by omega, show s.toNat + 1 = (s + 1).toNat by omega])
    | (have w1 := k2.trans (loopT_z (by omega))
       refine ⟨by omega, by omega, j2, ?_⟩
       rw [j3, loopT_n (by omega) w1, show (m.junctions + 1 - l).toNat - 1 = (m.junctions + 1 - (l + 1)).toNat by omega, show l.toNat + 1 = (l + 1).toNat by omega])
    | (have w1 := j3.trans (loopT_z (by omega))
       unfold wrongV
       rw [if_pos hs, w1]; rfl)
    | skip
end Go.Proofs.Ytfeebelnpibppaa
