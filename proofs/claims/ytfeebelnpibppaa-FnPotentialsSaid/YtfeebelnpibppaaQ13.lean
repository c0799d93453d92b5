/- Contracts of functions of the program, and what they compute. Conditions: those that each theorem states. -/
import Derived.Test.YtfeebelnpibppaaProg
import Derived.Test.YtfeebelnpibppaaD3
import Derived.Test.YtfeebelnpibppaaQ7
set_option linter.unusedVariables false
set_option linter.unusedSimpArgs false
namespace Go.Proofs.Ytfeebelnpibppaa
open Go.Av
attribute [local irreducible] Go.IntKind.wrap leastI rdZ rd rootI rawA okMine
set_option maxRecDepth 20000
set_option maxHeartbeats 40000000

/-! Draws of mines with drops, push, regulators. -/
theorem stB1 {xs : List Bool} {k : Nat} {v w : Bool} {c : Nat} (hc : c = 1) : (xs.map eB).set k (List.take 0 (eB w) ++ pvCells (.c (.bool v)) ++ List.drop (0 + c) (eB w)) = (xs.set k v).map eB := by
  subst hc; exact st eB
/-- what is drawn -/
inductive L12R (c : List Int) (p : Int) (rs : List AV) (ho : List OB) : Prop
  | mk (j : Int) (n : Nat) (xs : List GAirway) (k : Nat) (ds : List Int) (l : Nat) (ps : List Int) (r : Nat) (rg : List Bool) (p' s' : Int) (h1 : rs = [.aagg [In j, .osl 1 0 n], .osl 2 0 k, .osl 3 0 l, .osl 4 0 r])
    (h2 : ho = [srcO c p' s', RwA xs, .row false .flat (eI 0) (ds.map eI), .row false .flat (eI 0) (ps.map eI), .row false .flat (eB false) (rg.map eB)]) (h3 : n = xs.length ∧ k = ds.length ∧ l = ps.length ∧ r = rg.length ∧ n ≤ 25 ∧ k ≤ 26 ∧ l ≤ 25 ∧ r ≤ 25) (h4 : p ≤ p' ∧ p' ≤ p + 2000)
theorem ArgF.l12 {c : List Int} {p : Int} {k : Nat} {Pr : Program} [Kn Pr] {f : FuncId} {args : List AV} {hin : List OB} {K : List AV → List OB → Prop} (h : FnSem Pr f args hin (L12R c p))
    (hk : ∀ (j : Int) (n : Nat) (xs : List GAirway) (k : Nat) (ds : List Int) (l : Nat) (ps : List Int) (r : Nat) (rg : List Bool) (p' s' : Int), (n = xs.length ∧ k = ds.length ∧ l = ps.length ∧ r = rg.length ∧ n ≤ 25 ∧ k ≤ 26 ∧ l ≤ 25 ∧ r ≤ 25) → (p ≤ p' ∧ p' ≤ p + 2000) →
      K [.aagg [In j, .osl 1 0 n], .osl 2 0 k, .osl 3 0 l, .osl 4 0 r] [srcO c p' s', RwA xs, .row false .flat (eI 0) (ds.map eI), .row false .flat (eI 0) (ps.map eI), .row false .flat (eB false) (rg.map eB)]) : ArgF k Pr f args hin K :=
  ⟨_, h, fun rs ho hR _ => by obtain ⟨j, n, xs, k, ds, l, ps, r, rg, p', s', rfl, rfl, h3, h4⟩ := hR; exact hk j n xs k ds l ps r rg p' s' h3 h4⟩
theorem okEnds {j : Int} {xs : List GAirway} {i : Int} (h : okMine ⟨j, xs⟩ = true) (h0 : 0 ≤ i) (h1 : i < xs.length) : (1 ≤ j ∧ j ≤ 16) ∧ (0 ≤ (xs.getD i.toNat default).from_ ∧ (xs.getD i.toNat default).from_ < j) ∧ 0 ≤ (xs.getD i.toNat default).to ∧ (xs.getD i.toNat default).to < j := by
  have q := okMine_p h
  have q2 := q.2.2 i.toNat (by show (i.toNat : Int) < (xs.length : Int); omega)
  exact ⟨q.1, q2.2.1, q2.2.2⟩
theorem c_spec_l12Draw (c : List Int) (p s : Int) (hc : bytes c) (hp : 0 ≤ p ∧ p ≤ 500000) : FnSem Try.prog 114 [.own 0 0] [srcO c p s] (L12R c p) := by
  refine FnSem.old ?_
  refine FnSem.walk (zs := zeroPV Try.prog) (by kernel_rfl) Try.func114 rfl Try.results114 (by kernel_rfl) (by kernel_rfl) (by kernel_rfl) fun hw hh => ?_
  obtain ⟨w0, _⟩ := hw
  first | replace w0 := wfr_L00Src w0 | skip
  repeat' first
    | refine And.intro rfl ?_
    | refine GdF.mk (fun h => h) ?_
    | refine And.intro (Nat.succ_ne_zero _) ?_
    | refine And.intro (Nat.le_of_ble_eq_true rfl) ?_
    | (refine SeqF.cutfix (a := codeF _ _ _ (.seq _ (.cond (.tmp 21) _ _))) [0, 2, 6] [0, 1, 6, 5] (Int × Nat × List GAirway × Int × Int) (fun (j, n, xs, q, t) => n = xs.length ∧ n ≤ 25 ∧ p ≤ q ∧ q ≤ p + 1010) (fun _ => []) (fun (j, n, xs, q, t) => [srcO c q t, .fix [In 0, .p .flat (.c (.slice none 0 0))], .fix [In j, .osl 3 0 n], RwA xs]) ?_ ?_; rotate_left; rintro ⟨j, n, xs, q, t⟩ ⟨g0, g1, g2, g3⟩; rotate_left)
    | apply FitF.auto5
    | refine SeqF.run ?_
    | (refine ArgF.srx (c_spec_l04Draw _ _ _ hc (by omega)) ?_; rintro ⟨j0, n0, xs0⟩ p0 s0 hv0 hp0; dsimp only at hv0 hp0 ⊢)
    | (refine ArgF.srx (c_spec_l04DrawOk _ _ _ hc (by omega)) ?_; rintro ⟨j1, n1, xs1⟩ p1 s1 hv1 hp1; dsimp only at hv1 hp1 ⊢)
    | refine ArgF.is (c_spec_l04Ok ⟨j, xs⟩) ?_
    | refine ArgQ.is (fun hG => c_spec_l04Ok ⟨j, xs⟩) rfl rfl ?_
    | refine LoopF.at 6 rfl (LoopF.fix [0, 2, 6] (Int × Nat × List Int × Int × Int) (fun (i, k, ys, q', t') => 0 ≤ i ∧ i ≤ 20 ∧ (i ≤ j ∨ i = 0) ∧ k = ys.length ∧ (k : Int) = i ∧ q ≤ q' ∧ q' ≤ q + 2 * i) (fun (i, k, ys, q', t') => [(7, .osl 4 0 k), (8, In i)]) (fun (i, k, ys, q', t') => [(0, srcO c q' t'), (4, Rw .flat (eI 0) (ys.map eI))]) (fun (i, k, ys, q', t') => ((20 - i).toNat)) ((0, 0, [], q, t)) ?_)
    | (refine LoopB.of (T := Int × Nat × List Int × Int × Int) ?_ ?_; rotate_left; rintro ⟨i, k, ys, q', t'⟩ ⟨h0, h1, h2, h3, h4, h5, h6⟩; rotate_left)
    | refine LoopF.at 13 rfl (LoopF.fix [0, 2, 6, 7] (Int × Nat × List Int × List Int × List Bool × Int × Int) (fun (i, a, ds, ps, rg, u, v) => 0 ≤ i ∧ i ≤ n ∧ (a = ds.length ∧ (a : Int) = i) ∧ a = ps.length ∧ a = rg.length ∧ (p ≤ u ∧ u ≤ p + 1060 + 8 * i) ∧ (okMine ⟨j, xs⟩ = true → k = ys.length ∧ j ≤ k)) (fun (i, a, ds, ps, rg, u, v) => [(9, .osl 5 0 a), (10, .osl 6 0 a), (11, .osl 7 0 a), (12, In i)]) (fun (i, a, ds, ps, rg, u, v) => [(0, srcO c u v), (5, Rw .flat (eI 0) (ds.map eI)), (6, Rw .flat (eI 0) (ps.map eI)), (7, Rw .flat (eB false) (rg.map eB))]) (fun (i, a, ds, ps, rg, u, v) => ((n - i).toNat)) ((0, 0, [], [], [], q', t')) ?_)
    | (refine LoopB.of (T := Int × Nat × List Int × List Int × List Bool × Int × Int) ?_ ?_; rotate_left; rintro ⟨i, a, ds, ps, rg, u, v⟩ ⟨m0, m1, m2, m3, m4, m5, m6⟩; rotate_left)
    | refine EqL.mk _ (stI (by kernel_rfl)) ?_
    | refine BndF.mk (fun _ => by have q1 := okEnds (by assumption) m0 (by omega); have q2 := m6 (by assumption); first | omega | (simp only [List.length_map]; omega)) ?_
    | refine EqI.mk _ (fun _ => wrapI (by omega) (by omega)) ?_
    | refine EqI.mk _ (fun _ => rfl) ?_
    | refine L12R.mk _ _ _ _ _ _ _ _ _ _ _ rfl rfl ?_ ?_
    | refine GhF.go ?_
    | refine GdS.keep ?_
    | refine DrawG.old (DrawF.lex (by decide +kernel) ?_)
    | refine DrawG.old (DrawF.any ?_)
    | refine OrdF.take 0 (by decide +kernel) ?_
    | refine OrdF.take 1 (by decide +kernel) ?_
    | refine OrdF.take 2 (by decide +kernel) ?_
    | refine OrdF.take 6 (by decide +kernel) ?_
    | refine OrdF.take 4 (by decide +kernel) ?_
    | refine OrdF.take 9 (by decide +kernel) ?_
    | refine OrdF.take 10 (by decide +kernel) ?_
    | refine OrdF.all [11] (by decide +kernel) ?_
    | refine OrdF.all [5] (by decide +kernel) ?_
    | refine OrdF.all [8] (by decide +kernel) ?_
    | refine OrdF.all [5, 8] (by decide +kernel) ?_
    | refine OrdF.all [3] (by decide +kernel) ?_
    | refine OrdF.all [7] (by decide +kernel) ?_
    | refine OrdF.all [5, 7] (by decide +kernel) ?_
    | refine OrdF.all [3, 7] (by decide +kernel) ?_
    | refine OrdF.fin (by decide +kernel) ?_
    | refine AllF.one _ ?_
    | refine AllF.cons _ _ ?_ ?_
    | refine MkF.row ?_
    | refine EqP.mk _ (gm GAirway.cells default rfl) ?_
    | refine EqP.mk _ (gm eI 0 rfl) ?_
    | refine EqP.mk _ (gm eB false rfl) ?_
    | refine BndF.mk (fun _ => by omega) ?_
    | refine BndF.mk (fun _ => by simp only [List.length_map, List.length_cons, List.length_nil, List.length_append, List.length_set, List.length_replicate, iotaI_len]; omega) ?_
    | refine BndF.mk (fun hG => by simp only [forall_const, eq_self, not_true_eq_false, not_false_eq_true, or_false, false_or, or_self, or_true, true_or, and_true, true_and, and_false, false_and, decide_true, decide_false, Bool.not_true, Bool.not_false, decide_eq_true_eq, decide_eq_false_iff_not, ite_and_p, ite_or_p, Bool.decide_eq_true, Bool.and_eq_true, Bool.or_eq_true, Bool.not_eq_true', Bool.not_eq_false', Bool.and_eq_false_imp, Bool.or_eq_false_iff, bne_iff_ne, beq_iff_eq, bne_eq_false_iff_eq, beq_eq_false_iff_ne, gt_iff_lt, ge_iff_le, Int.not_lt, Int.not_le, ne_eq, Bool.true_eq_false, Bool.false_eq_true, reduceCtorEq, eta_Airway, eta_Fan, eta_Mine, bytes_nil] at hG; (try simp only [List.length_map]); omega) ?_
    | refine EqI.mk _ (fun _ => wrapI (by omega) (by omega)) ?_
    | refine EqI.mk _ (fun _ => rfl) ?_
    | refine FlF.keep ?_
    | refine EqN.mk _ (ln GAirway.cells) ?_
    | refine EqN.mk _ (ln eI) ?_
    | refine EqN.mk _ (ln eB) ?_
    | refine EqN.mk _ (Nat.zero_add _) ?_
    | refine EqN.mk (_ + 1) rfl ?_
    | refine EqN.mk _ (Int.toNat_natCast _) ?_
    | refine EqN.mk _ rfl ?_
    | refine EqL.mk _ (sn0 GAirway.cells) ?_
    | refine EqL.mk _ (sn GAirway.cells (by first | rfl | assumption | omega | (simp only [List.length_map, List.length_cons, List.length_nil, List.length_append, List.length_set, List.length_replicate, iotaI_len]; done) | (simp only [List.length_map, List.length_cons, List.length_nil, List.length_append, List.length_set, List.length_replicate, iotaI_len]; omega))) ?_
    | refine EqL.mk _ (ap0 GAirway.cells) ?_
    | refine EqL.mk _ (ap GAirway.cells (by first | rfl | assumption | omega | (simp only [List.length_map, List.length_cons, List.length_nil, List.length_append, List.length_set, List.length_replicate, iotaI_len]; done) | (simp only [List.length_map, List.length_cons, List.length_nil, List.length_append, List.length_set, List.length_replicate, iotaI_len]; omega))) ?_
    | refine EqL.mk _ (tk GAirway.cells (by first | rfl | assumption | omega | (simp only [List.length_map, List.length_cons, List.length_nil, List.length_append, List.length_set, List.length_replicate, iotaI_len]; done) | (simp only [List.length_map, List.length_cons, List.length_nil, List.length_append, List.length_set, List.length_replicate, iotaI_len]; omega))) ?_
    | refine EqL.mk _ (st GAirway.cells) ?_
    | refine EqL.mk _ (dt GAirway.cells) ?_
    | refine EqL.mk _ (sn0 eI) ?_
    | refine EqL.mk _ (sn eI (by first | rfl | assumption | omega | (simp only [List.length_map, List.length_cons, List.length_nil, List.length_append, List.length_set, List.length_replicate, iotaI_len]; done) | (simp only [List.length_map, List.length_cons, List.length_nil, List.length_append, List.length_set, List.length_replicate, iotaI_len]; omega))) ?_
    | refine EqL.mk _ (ap0 eI) ?_
    | refine EqL.mk _ (ap eI (by first | rfl | assumption | omega | (simp only [List.length_map, List.length_cons, List.length_nil, List.length_append, List.length_set, List.length_replicate, iotaI_len]; done) | (simp only [List.length_map, List.length_cons, List.length_nil, List.length_append, List.length_set, List.length_replicate, iotaI_len]; omega))) ?_
    | refine EqL.mk _ (tk eI (by first | rfl | assumption | omega | (simp only [List.length_map, List.length_cons, List.length_nil, List.length_append, List.length_set, List.length_replicate, iotaI_len]; done) | (simp only [List.length_map, List.length_cons, List.length_nil, List.length_append, List.length_set, List.length_replicate, iotaI_len]; omega))) ?_
    | refine EqL.mk _ (st eI) ?_
    | refine EqL.mk _ (dt eI) ?_
    | refine EqL.mk _ (sn0 eB) ?_
    | refine EqL.mk _ (sn eB (by first | rfl | assumption | omega | (simp only [List.length_map, List.length_cons, List.length_nil, List.length_append, List.length_set, List.length_replicate, iotaI_len]; done) | (simp only [List.length_map, List.length_cons, List.length_nil, List.length_append, List.length_set, List.length_replicate, iotaI_len]; omega))) ?_
    | refine EqL.mk _ (ap0 eB) ?_
    | refine EqL.mk _ (ap eB (by first | rfl | assumption | omega | (simp only [List.length_map, List.length_cons, List.length_nil, List.length_append, List.length_set, List.length_replicate, iotaI_len]; done) | (simp only [List.length_map, List.length_cons, List.length_nil, List.length_append, List.length_set, List.length_replicate, iotaI_len]; omega))) ?_
    | refine EqL.mk _ (tk eB (by first | rfl | assumption | omega | (simp only [List.length_map, List.length_cons, List.length_nil, List.length_append, List.length_set, List.length_replicate, iotaI_len]; done) | (simp only [List.length_map, List.length_cons, List.length_nil, List.length_append, List.length_set, List.length_replicate, iotaI_len]; omega))) ?_
    | refine EqL.mk _ (st eB) ?_
    | refine EqL.mk _ (dt eB) ?_
    | refine EqL.mk (List.map eI [_, _, _, _]) rfl ?_
    | refine EqL.mk (List.map eI [_, _, _, _, _]) rfl ?_
    | refine EqL.mk [] rfl ?_
    | refine EqL.mk [_] rfl ?_
    | refine EqL.mk _ rfl ?_
    | (refine ArgF.src (c_spec_l04Draw _ _ _ (by first | assumption | omega | rfl | (simp only [List.length_cons, List.length_nil]; omega)) (by first | assumption | omega | rfl | (simp only [List.length_cons, List.length_nil]; omega))) ?_; intro _ _ _ _ _)
    | (refine ArgF.src (c_spec_l00Src_one _ _ _ _ (by first | assumption | omega | rfl | (simp only [List.length_cons, List.length_nil]; omega)) (by first | assumption | omega | rfl | (simp only [List.length_cons, List.length_nil]; omega)) (by first | assumption | omega | rfl | (simp only [List.length_cons, List.length_nil]; omega))) ?_; intro _ _ _ _ _)
    | (refine ArgF.src (c_spec_l04DrawOk _ _ _ (by first | assumption | omega | rfl | (simp only [List.length_cons, List.length_nil]; omega)) (by first | assumption | omega | rfl | (simp only [List.length_cons, List.length_nil]; omega))) ?_; intro _ _ _ _ _)
    | (refine ArgF.src (c_spec_l00Src_pick _ _ _ _ (by first | assumption | omega | rfl | (simp only [List.length_cons, List.length_nil]; omega)) (by first | assumption | omega | rfl | (simp only [List.length_cons, List.length_nil]; omega)) (by first | assumption | omega | rfl | (simp only [List.length_cons, List.length_nil]; omega))) ?_; intro _ _ _ _ _)
    | (refine ArgF.srw (c_spec_l00Src_among _ _ _ _ _ (by first | assumption | omega | rfl | (simp only [List.length_cons, List.length_nil]; omega)) (by first | assumption | omega | rfl | (simp only [List.length_cons, List.length_nil]; omega)) (by first | assumption | omega | rfl | (simp only [List.length_cons, List.length_nil]; omega)) (by first | assumption | omega | rfl | (simp only [List.length_cons, List.length_nil]; omega))) ?_; intro _ _ _ _ _)
    | refine ArgF.is (c_spec_l04Ok ⟨_, _⟩) ?_
    | refine ArgQ.is (fun hG => c_spec_l04Ok ⟨_, _⟩) rfl rfl ?_
    | refine CallF.own (f := 106) [0] false ?_
    | refine CallF.own (f := 107) [0, 1] false ?_
    | refine CallF.own (f := 108) [0] false ?_
    | refine CallF.own (f := 132) [0] false ?_
    | refine CallF.own (f := 165) [0] false ?_
    | refine CallF.mk (CallW.is [] true rfl ?_)
    | refine CallG.mk ?_
    | (refine CondF.mk (fun hb => ?_) (fun hb => ?_) <;> try simp only [forall_const, eq_self, not_true_eq_false, not_false_eq_true, or_false, false_or, or_self, or_true, true_or, and_true, true_and, and_false, false_and, decide_true, decide_false, Bool.not_true, Bool.not_false, decide_eq_true_eq, decide_eq_false_iff_not, ite_and_p, ite_or_p, Bool.decide_eq_true, Bool.and_eq_true, Bool.or_eq_true, Bool.not_eq_true', Bool.not_eq_false', Bool.and_eq_false_imp, Bool.or_eq_false_iff, bne_iff_ne, beq_iff_eq, bne_eq_false_iff_eq, beq_eq_false_iff_ne, gt_iff_lt, ge_iff_le, Int.not_lt, Int.not_le, ne_eq, Bool.true_eq_false, Bool.false_eq_true, reduceCtorEq, eta_Airway, eta_Fan, eta_Mine] at hb)
    | apply BackF.auto7
    | apply BackF.auto5
    | refine BackB.mk ?_ ?_
    | refine RetF.auto (And.intro rfl ?_)
    | exact Is.mk rfl rfl
    | refine Is.mk ?_ rfl
    | refine Is.mk rfl ?_
    | refine Is.mk ?_ ?_
  all_goals try dsimp only
  all_goals try simp only [List.length_append, List.length_cons, List.length_nil, List.length_set, List.mem_cons, List.not_mem_nil, or_false]
  all_goals first
    | omega
    | (simp; done)
    | (simp; omega)
    | exact ⟨by omega, by omega, by omega, by omega, by omega, by omega, by omega⟩
    | exact ⟨by omega, by omega, by omega, by omega, by omega, by omega, m6⟩
    | exact ⟨by omega, by omega, by omega, by omega, by omega, by omega, fun h => by have := okMine_p h; first | omega | (dsimp only at this; omega)⟩
    | (refine ⟨by omega, by omega, ⟨trivial, rfl⟩, trivial, trivial, by omega, fun h => ⟨h3, ?_⟩⟩
       have q := okMine_p h
       dsimp only at q
       by_cases e : i < j
       · have := hb e; omega
       · omega)
    | skip
end Go.Proofs.Ytfeebelnpibppaa
