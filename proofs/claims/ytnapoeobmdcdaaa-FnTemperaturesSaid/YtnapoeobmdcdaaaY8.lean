/- Contracts of functions of the program, and what they compute. Conditions: those that each theorem states. -/
import Derived.Test.YtnapoeobmdcdaaaProg
import Derived.Test.YtnapoeobmdcdaaaD3
import Derived.Test.YtnapoeobmdcdaaaR8
set_option linter.unusedVariables false
set_option linter.unusedSimpArgs false
namespace Go.Proofs.Ytnapoeobmdcdaaa
open Go.Av
attribute [local irreducible] Go.IntKind.wrap leastI rdZ rd rootI rawA
set_option maxRecDepth 20000
set_option maxHeartbeats 40000000

/-! Draws for the law of temperatures. -/
inductive L16R (c : List Int) (p : Int) (rs : List AV) (ho : List OB) : Prop
  | mk (j : Int) (n : Nat) (xs : List GAirway) (k : Nat) (fs : List Int) (l : Nat) (ks : List Int) (r : Nat) (ps : List Int) (w : Nat) (ss : List Int) (t rate p' s' : Int) (h1 : rs = [.aagg [In j, .osl 1 0 n], .osl 2 0 k, .osl 3 0 l, .osl 4 0 r, .osl 5 0 w, In t, In rate])
    (h2 : ho = [srcO c p' s', RwA xs, .row false .flat (eI 0) (fs.map eI), .row false .flat (eI 0) (ks.map eI), .row false .flat (eI 0) (ps.map eI), .row false .flat (eI 0) (ss.map eI)]) (h3 : n = xs.length ∧ k = fs.length ∧ l = ks.length ∧ r = ps.length ∧ w = ss.length ∧ n ≤ 25 ∧ k ≤ 26 ∧ l ≤ 25 ∧ r ≤ 25 ∧ w ≤ 2) (h4 : p ≤ p' ∧ p' ≤ p + 2000)
theorem ArgF.l16 {c : List Int} {p : Int} {k : Nat} {Pr : Program} [Kn Pr] {f : FuncId} {args : List AV} {hin : List OB} {K : List AV → List OB → Prop} (h : FnSem Pr f args hin (L16R c p))
    (hk : ∀ (j : Int) (n : Nat) (xs : List GAirway) (k : Nat) (fs : List Int) (l : Nat) (ks : List Int) (r : Nat) (ps : List Int) (w : Nat) (ss : List Int) (t rate p' s' : Int), (n = xs.length ∧ k = fs.length ∧ l = ks.length ∧ r = ps.length ∧ w = ss.length ∧ n ≤ 25 ∧ k ≤ 26 ∧ l ≤ 25 ∧ r ≤ 25 ∧ w ≤ 2) → (p ≤ p' ∧ p' ≤ p + 2000) →
      K [.aagg [In j, .osl 1 0 n], .osl 2 0 k, .osl 3 0 l, .osl 4 0 r, .osl 5 0 w, In t, In rate] [srcO c p' s', RwA xs, .row false .flat (eI 0) (fs.map eI), .row false .flat (eI 0) (ks.map eI), .row false .flat (eI 0) (ps.map eI), .row false .flat (eI 0) (ss.map eI)]) : ArgF k Pr f args hin K :=
  ⟨_, h, fun rs ho hR _ => by obtain ⟨j, n, xs, k, fs, l, ks, r, ps, w, ss, t, rate, p', s', rfl, rfl, h3, h4⟩ := hR; exact hk j n xs k fs l ks r ps w ss t rate p' s' h3 h4⟩
theorem c_spec_l16Draw (c : List Int) (p s : Int) (hc : bytes c) (hp : 0 ≤ p ∧ p ≤ 500000) : FnSem Try.prog 150 [.own 0 0] [srcO c p s] (L16R c p) := by
  refine FnSem.old ?_
  refine FnSem.walk (zs := zeroPV Try.prog) (by kernel_rfl) Try.func150 rfl Try.results150 (by kernel_rfl) (by kernel_rfl) (by kernel_rfl) fun hw hh => ?_
  obtain ⟨w0, _⟩ := hw
  first | replace w0 := wfr_L00Src w0 | skip
  repeat' first
    | refine And.intro rfl ?_
    | refine GdF.mk (fun h => h) ?_
    | refine And.intro (Nat.succ_ne_zero _) ?_
    | refine And.intro (Nat.le_of_ble_eq_true rfl) ?_
    | (refine SeqF.cutfix (a := codeF _ _ _ (.seq _ (.cond (.tmp 44) _ _))) [0, 2, 9, 10, 11, 12, 13] [0, 1, 2, 3, 4, 5, 6] (Int × Int × Int × Unit) (fun (z, q, t, _) => -1000000 ≤ z ∧ z ≤ 1000000 ∧ u ≤ q ∧ q ≤ u + 3) (fun (z, q, t, _) => [(14, In z)]) (fun (z, q, t, _) => [srcO c q t, .fix [In 0, .p .flat (.c (.slice none 0 0))], .fix [In j0, .osl 3 0 n0], RwA xs0, Rw .flat (eI 0) (fs.map eI), Rw .flat (eI 0) (ks.map eI), Rw .flat (eI 0) (ps.map eI)]) ?_ ?_; rotate_left; rintro ⟨z, q, t, _⟩ ⟨g0, g1, g2, g3⟩; rotate_left)
    | (refine SeqF.cutfix (a := codeF _ _ _ (.seq _ (.cond (.tmp 48) _ _))) [0, 2, 9, 10, 11, 12, 13] [0, 1, 2, 3, 4, 5, 6] (Int × Int × Int × Unit × Unit) (fun (z, q, t, _, _) => -1000000 ≤ z ∧ z ≤ 1000000 ∧ u ≤ q ∧ q ≤ u + 10) (fun (z, q, t, _, _) => [(14, In z)]) (fun (z, q, t, _, _) => [srcO c q t, .fix [In 0, .p .flat (.c (.slice none 0 0))], .fix [In j0, .osl 3 0 n0], RwA xs0, Rw .flat (eI 0) (fs.map eI), Rw .flat (eI 0) (ks.map eI), Rw .flat (eI 0) (ps.map eI)]) ?_ ?_; rotate_left; rintro ⟨z, q, t, _, _⟩ ⟨g0, g1, g2, g3⟩; rotate_left)
    | (refine SeqF.cutfix (a := codeF _ _ _ (.seq _ (.cond (.tmp 77) _ _))) [0, 2, 9, 10, 11, 12] [0, 1, 2, 3, 4, 5, 6] (List Int × Int × Int) (fun (ss, q, t) => ss.length = 1 ∧ u ≤ q ∧ q ≤ u + 3) (fun (ss, q, t) => [(15, .osl 7 0 1)]) (fun (ss, q, t) => [srcO c q t, .fix [In 0, .p .flat (.c (.slice none 0 0))], .fix [In j0, .osl 3 0 n0], RwA xs0, Rw .flat (eI 0) (fs.map eI), Rw .flat (eI 0) (ks.map eI), Rw .flat (eI 0) (ps.map eI), Rw .flat (eI 0) (ss.map eI)]) ?_ ?_; rotate_left; rintro ⟨ss, q, t⟩ ⟨y0, y1, y2⟩; rotate_left)
    | (refine SeqF.cutfix (a := codeF _ _ _ (.seq _ (.block 2 _))) [0, 2, 9, 12] [0, 1, 2, 3, 6] (Nat × List Int × List Int × Nat × List Int × Int × Int) (fun (k', fs', ks', w', ss', q', t') => k' = fs'.length ∧ k' ≤ 26 ∧ ks'.length = a ∧ w' = ss'.length ∧ w' ≤ 2 ∧ q ≤ q' ∧ q' ≤ q + 20) (fun (k', fs', ks', w', ss', q', t') => [(10, .osl 5 0 k'), (11, .osl 6 0 a), (15, .osl 7 0 w')]) (fun (k', fs', ks', w', ss', q', t') => [srcO c q' t', .fix [In 0, .p .flat (.c (.slice none 0 0))], .fix [In j0, .osl 3 0 n0], RwA xs0, Rw .flat (eI 0) (ps.map eI), Rw .flat (eI 0) (fs'.map eI), Rw .flat (eI 0) (ks'.map eI), Rw .flat (eI 0) (ss'.map eI)]) ?_ ?_; rotate_left; rintro ⟨k', fs', ks', w', ss', q', t'⟩ ⟨x0, x1, x2, x3, x4, x5, x6⟩; rotate_left)
    | (refine SeqF.cutfix (a := codeF _ _ _ (.block 2 _)) [0, 2, 9, 12] [0, 1, 2, 3, 6] (Nat × List Int × List Int × Nat × List Int × Int × Int) (fun (k', fs', ks', w', ss', q', t') => k' = fs'.length ∧ k' ≤ 26 ∧ ks'.length = a ∧ w' = ss'.length ∧ w' ≤ 2 ∧ q ≤ q' ∧ q' ≤ q + 20) (fun (k', fs', ks', w', ss', q', t') => [(10, .osl 5 0 k'), (11, .osl 6 0 a), (15, .osl 7 0 w')]) (fun (k', fs', ks', w', ss', q', t') => [srcO c q' t', .fix [In 0, .p .flat (.c (.slice none 0 0))], .fix [In j0, .osl 3 0 n0], RwA xs0, Rw .flat (eI 0) (ps.map eI), Rw .flat (eI 0) (fs'.map eI), Rw .flat (eI 0) (ks'.map eI), Rw .flat (eI 0) (ss'.map eI)]) ?_ ?_; rotate_left; rintro ⟨k', fs', ks', w', ss', q', t'⟩ ⟨x0, x1, x2, x3, x4, x5, x6⟩; rotate_left)
    | apply FitF.auto7
    | apply FitF.auto5
    | apply FitF.auto4
    | apply FitF.auto3
    | refine SeqF.run ?_
    | (refine ArgF.srx (c_spec_l04Draw _ _ _ hc (by omega)) ?_; rintro ⟨j0, n0, xs0⟩ p0 s0 hv0 hp0; dsimp only at hv0 hp0 ⊢)
    | refine LoopF.at 6 rfl (LoopF.fix [0, 2, 9] (Int × Nat × List Int × List Int × List Int × Int × Int) (fun (i, a, fs, ks, ps, u, v) => 0 ≤ i ∧ i ≤ n0 ∧ (a = fs.length ∧ (a : Int) = i) ∧ a = ks.length ∧ a = ps.length ∧ (p ≤ u ∧ u ≤ p + 710 + 20 * i)) (fun (i, a, fs, ks, ps, u, v) => [(10, .osl 4 0 a), (11, .osl 5 0 a), (12, .osl 6 0 a), (13, In i)]) (fun (i, a, fs, ks, ps, u, v) => [(0, srcO c u v), (4, Rw .flat (eI 0) (fs.map eI)), (5, Rw .flat (eI 0) (ks.map eI)), (6, Rw .flat (eI 0) (ps.map eI))]) (fun (i, a, fs, ks, ps, u, v) => ((n0 - i).toNat)) ((0, 0, [], [], [], p0, s0)) ?_)
    | (refine LoopB.of (T := Int × Nat × List Int × List Int × List Int × Int × Int) ?_ ?_; rotate_left; rintro ⟨i, a, fs, ks, ps, u, v⟩ ⟨m0, m1, m2, m3, m4, m5⟩; rotate_left)
    | refine EqL.mk (([0] : List Int).map eI) rfl ?_
    | refine EqL.mk (([1] : List Int).map eI) rfl ?_
    | refine EqL.mk _ (stI (by kernel_rfl)) ?_
    | refine EqI.mk _ (fun _ => wrapI (by omega) (by omega)) ?_
    | refine EqI.mk _ (fun _ => rfl) ?_
    | refine L16R.mk _ _ _ _ _ _ _ _ _ _ _ _ _ _ _ rfl rfl ?_ ?_
    | refine GhF.go ?_
    | refine GdS.keep ?_
    | refine DrawG.old (DrawF.lex (by decide +kernel) ?_)
    | refine DrawG.old (DrawF.any ?_)
    | refine OrdF.take 1 (by decide +kernel) ?_
    | refine OrdF.take 2 (by decide +kernel) ?_
    | refine OrdF.take 3 (by decide +kernel) ?_
    | refine OrdF.take 4 (by decide +kernel) ?_
    | refine OrdF.take 5 (by decide +kernel) ?_
    | refine OrdF.take 6 (by decide +kernel) ?_
    | refine OrdF.take 9 (by decide +kernel) ?_
    | refine OrdF.take 10 (by decide +kernel) ?_
    | refine OrdF.take 11 (by decide +kernel) ?_
    | refine OrdF.take 12 (by decide +kernel) ?_
    | refine OrdF.take 13 (by decide +kernel) ?_
    | refine OrdF.take 14 (by decide +kernel) ?_
    | refine OrdF.all [8] (by decide +kernel) ?_
    | refine OrdF.all [0] (by decide +kernel) ?_
    | refine OrdF.all [7] (by decide +kernel) ?_
    | refine OrdF.all [0, 7] (by decide +kernel) ?_
    | refine OrdF.fin (by decide +kernel) ?_
    | refine AllF.one _ ?_
    | refine AllF.cons _ _ ?_ ?_
    | refine MkF.row ?_
    | refine EqP.mk _ (gm GAirway.cells default rfl) ?_
    | refine EqP.mk _ (gm eI 0 rfl) ?_
    | refine BndF.mk (fun _ => by omega) ?_
    | refine BndF.mk (fun _ => by simp only [List.length_map, List.length_cons, List.length_nil, List.length_append, List.length_set, List.length_replicate, iotaI_len]; omega) ?_
    | refine BndF.mk (fun hG => by simp only [forall_const, eq_self, not_true_eq_false, not_false_eq_true, or_false, false_or, or_self, or_true, true_or, and_true, true_and, and_false, false_and, decide_true, decide_false, Bool.not_true, Bool.not_false, decide_eq_true_eq, decide_eq_false_iff_not, ite_and_p, ite_or_p, Bool.decide_eq_true, Bool.and_eq_true, Bool.or_eq_true, Bool.not_eq_true', Bool.not_eq_false', Bool.and_eq_false_imp, Bool.or_eq_false_iff, bne_iff_ne, beq_iff_eq, bne_eq_false_iff_eq, beq_eq_false_iff_ne, gt_iff_lt, ge_iff_le, Int.not_lt, Int.not_le, ne_eq, Bool.true_eq_false, Bool.false_eq_true, reduceCtorEq, eta_Airway, eta_Fan, eta_Mine, bytes_nil] at hG; (try simp only [List.length_map]); omega) ?_
    | refine EqI.mk _ (fun _ => wrapI (by omega) (by omega)) ?_
    | refine EqI.mk _ (fun _ => rfl) ?_
    | refine FlF.keep ?_
    | refine EqN.mk _ (ln GAirway.cells) ?_
    | refine EqN.mk _ (ln eI) ?_
    | refine EqN.mk _ (Nat.zero_add _) ?_
    | refine EqN.mk (_ + 1) rfl ?_
    | refine EqN.mk _ (Int.toNat_natCast _) ?_
    | refine EqN.mk _ rfl ?_
    | refine EqL.mk _ (sn0 GAirway.cells) ?_
    | refine EqL.mk _ (sn GAirway.cells (by first | rfl | assumption | omega | (simp only [List.length_map, List.length_cons, List.length_nil, List.length_append, List.length_set, List.length_replicate, iotaI_len]; done) | (simp only [List.length_map, List.length_cons, List.length_nil, List.length_append, List.length_set, List.length_replicate, iotaI_len]; omega))) ?_
    | refine EqL.mk _ (ap0 GAirway.cells) ?_
    | refine EqL.mk _ (ap GAirway.cells (by first | rfl | assumption | omega | (simp only [List.length_map, List.length_cons, List.length_nil, List.length_append, List.length_set, List.length_replicate, iotaI_len]; done) | (simp only [List.length_map, List.length_cons, List.length_nil, List.length_append, List.length_set, List.length_replicate, iotaI_len]; omega))) ?_
    | refine EqL.mk _ (tk GAirway.cells (by first | rfl | assumption | omega | (simp only [List.length_map, List.length_cons, List.length_nil, List.length_append, List.length_set, List.length_replicate, iotaI_len]; done) | (simp only [List.length_map, List.length_cons, List.length_nil, List.length_append, List.length_set, List.length_replicate, iotaI_len]; omega))) ?_
    | refine EqL.mk _ (st GAirway.cells) ?_
    | refine EqL.mk _ (dt GAirway.cells) ?_
    | refine EqL.mk _ (sn0 eI) ?_
    | refine EqL.mk _ (sn eI (by first | rfl | assumption | omega | (simp only [List.length_map, List.length_cons, List.length_nil, List.length_append, List.length_set, List.length_replicate, iotaI_len]; done) | (simp only [List.length_map, List.length_cons, List.length_nil, List.length_append, List.length_set, List.length_replicate, iotaI_len]; omega))) ?_
    | refine EqL.mk _ (ap0 eI) ?_
    | refine EqL.mk _ (ap eI (by first | rfl | assumption | omega | (simp only [List.length_map, List.length_cons, List.length_nil, List.length_append, List.length_set, List.length_replicate, iotaI_len]; done) | (simp only [List.length_map, List.length_cons, List.length_nil, List.length_append, List.length_set, List.length_replicate, iotaI_len]; omega))) ?_
    | refine EqL.mk _ (tk eI (by first | rfl | assumption | omega | (simp only [List.length_map, List.length_cons, List.length_nil, List.length_append, List.length_set, List.length_replicate, iotaI_len]; done) | (simp only [List.length_map, List.length_cons, List.length_nil, List.length_append, List.length_set, List.length_replicate, iotaI_len]; omega))) ?_
    | refine EqL.mk _ (st eI) ?_
    | refine EqL.mk _ (dt eI) ?_
    | refine EqL.mk (List.map eI [_, _, _]) rfl ?_
    | refine EqL.mk (List.map eI [_, _, _, _, _]) rfl ?_
    | refine EqL.mk [] rfl ?_
    | refine EqL.mk [_] rfl ?_
    | refine EqL.mk _ rfl ?_
    | (refine ArgF.src (c_spec_l04Draw _ _ _ (by first | assumption | omega | rfl | (simp only [List.length_cons, List.length_nil]; omega)) (by first | assumption | omega | rfl | (simp only [List.length_cons, List.length_nil]; omega))) ?_; intro _ _ _ _ _)
    | (refine ArgF.src (c_spec_l00Src_pick _ _ _ _ (by first | assumption | omega | rfl | (simp only [List.length_cons, List.length_nil]; omega)) (by first | assumption | omega | rfl | (simp only [List.length_cons, List.length_nil]; omega)) (by first | assumption | omega | rfl | (simp only [List.length_cons, List.length_nil]; omega))) ?_; intro _ _ _ _ _)
    | (refine ArgF.src (c_spec_l00Src_one _ _ _ _ (by first | assumption | omega | rfl | (simp only [List.length_cons, List.length_nil]; omega)) (by first | assumption | omega | rfl | (simp only [List.length_cons, List.length_nil]; omega)) (by first | assumption | omega | rfl | (simp only [List.length_cons, List.length_nil]; omega))) ?_; intro _ _ _ _ _)
    | (refine ArgF.srw (c_spec_l00Src_among _ _ _ _ _ (by first | assumption | omega | rfl | (simp only [List.length_cons, List.length_nil]; omega)) (by first | assumption | omega | rfl | (simp only [List.length_cons, List.length_nil]; omega)) (by first | assumption | omega | rfl | (simp only [List.length_cons, List.length_nil]; omega)) (by first | assumption | omega | rfl | (simp only [List.length_cons, List.length_nil]; omega))) ?_; intro _ _ _ _ _)
    | (refine ArgF.src (c_spec_l16DrawRock _ _ _ (by first | assumption | omega | rfl | (simp only [List.length_cons, List.length_nil]; omega)) (by first | assumption | omega | rfl | (simp only [List.length_cons, List.length_nil]; omega))) ?_; intro _ _ _ _ _)
    | (refine ArgF.src (c_spec_l02DrawTemperature _ _ _ (by first | assumption | omega | rfl | (simp only [List.length_cons, List.length_nil]; omega)) (by first | assumption | omega | rfl | (simp only [List.length_cons, List.length_nil]; omega))) ?_; intro _ _ _ _ _)
    | (refine ArgF.src (c_spec_l16DrawRate _ _ _ (by first | assumption | omega | rfl | (simp only [List.length_cons, List.length_nil]; omega)) (by first | assumption | omega | rfl | (simp only [List.length_cons, List.length_nil]; omega))) ?_; intro _ _ _ _ _)
    | refine CallF.own (f := 80) [0] false ?_
    | refine CallF.own (f := 117) [0] false ?_
    | refine CallF.own (f := 118) [0, 1] false ?_
    | refine CallF.own (f := 119) [0] false ?_
    | refine CallF.own (f := 221) [0] false ?_
    | refine CallF.own (f := 222) [0] false ?_
    | refine CallF.own (f := 223) [0] false ?_
    | refine CallF.mk (CallW.is [] true rfl ?_)
    | refine CallG.mk ?_
    | (refine CondF.mk (fun hb => ?_) (fun hb => ?_) <;> try simp only [forall_const, eq_self, not_true_eq_false, not_false_eq_true, or_false, false_or, or_self, or_true, true_or, and_true, true_and, and_false, false_and, decide_true, decide_false, Bool.not_true, Bool.not_false, decide_eq_true_eq, decide_eq_false_iff_not, ite_and_p, ite_or_p, Bool.decide_eq_true, Bool.and_eq_true, Bool.or_eq_true, Bool.not_eq_true', Bool.not_eq_false', Bool.and_eq_false_imp, Bool.or_eq_false_iff, bne_iff_ne, beq_iff_eq, bne_eq_false_iff_eq, beq_eq_false_iff_ne, gt_iff_lt, ge_iff_le, Int.not_lt, Int.not_le, ne_eq, Bool.true_eq_false, Bool.false_eq_true, reduceCtorEq, eta_Airway, eta_Fan, eta_Mine] at hb)
    | apply BackF.auto7
    | refine BackB.mk ?_ ?_
    | refine RetF.auto (And.intro rfl ?_)
    | exact Is.mk rfl rfl
    | refine Is.mk ?_ rfl
    | refine Is.mk rfl ?_
    | refine Is.mk ?_ ?_
  all_goals try exact ()
  all_goals try dsimp only
  all_goals try exact ⟨by omega, by omega, ⟨by first | rfl | trivial, by first | rfl | omega⟩, by first | rfl | trivial, by first | rfl | trivial, by omega⟩
  all_goals try simp only [List.length_append, List.length_cons, List.length_nil, List.length_set]
  all_goals first
    | omega
    | (simp only [List.mem_cons, List.not_mem_nil, or_false] at *; omega)
    | exact ⟨by omega, by omega, by omega, by omega, by omega, by omega, by omega⟩
    | exact ⟨by omega, by omega, by omega, by omega, by omega, by omega, by omega, by omega, by omega, by omega⟩
    | skip
end Go.Proofs.Ytnapoeobmdcdaaa
