/- Contracts of functions of the program, and what they compute. Conditions: those that each theorem states. -/
import Derived.Test.YtdhkpmaanegjkaaGreatProg
import Derived.Test.YtdhkpmaanegjkaaGreatL1
import Derived.Test.YtdhkpmaanegjkaaGreatG1
import Derived.Test.YtdhkpmaanegjkaaGreatH0
import Derived.Test.YtdhkpmaanegjkaaGreatV1
import Derived.Test.YtdhkpmaanegjkaaGreatG7
set_option linter.unusedVariables false
set_option linter.unusedSimpArgs false
namespace Go.Proofs.YtdhkpmaanegjkaaGreat
open Go.Av
attribute [local irreducible] Go.IntKind.wrap
set_option maxRecDepth 20000
set_option maxHeartbeats 8000000
theorem u8w {x : Int} (h : 0 ≤ x ∧ x ≤ 255) : IntKind.u8.wrap x = x := (wrap_eq_iff .u8 _).2 (by simp only [kmin, kmax]; omega)
theorem c_spec_l01Dec (n : Int) (hn : 0 ≤ n ∧ n ≤ 9) : FnSem Tryz.prog 85 [In n] [] (Is [Str (strOfNums [48 + n])] []) := by
  refine FnSem.walk (zs := zeroPV Tryz.prog) (by kernel_rfl) Tryz.func85 rfl Tryz.results85 (by kernel_rfl) (by kernel_rfl) (by kernel_rfl) fun hw hh => ?_
  obtain ⟨w0, _⟩ := hw
  first | replace w0 := wf_I w0 | skip
  repeat' first
    | refine And.intro rfl ?_
    | refine GdF.mk (fun h => h) ?_
    | refine And.intro (Nat.succ_ne_zero _) ?_
    | refine And.intro (Nat.le_of_ble_eq_true rfl) ?_
    | refine SeqF.run ?_
    | refine EqI.mk _ (fun _ => u8w (by omega)) ?_
    | (refine CondF.mk (fun hb => (by exfalso; have := of_decide_eq_true hb; omega)) (fun hb => ?_) <;> try simp only [decide_eq_false_iff_not] at hb)
    | refine LoopF.at 5 rfl (LoopF.fix [0] (Int × Nat × List Int) (fun (m, k, ds) => ((m = n ∧ ds = []) ∨ (m = 0 ∧ ds = [48 + n])) ∧ 0 < n ∧ k = ds.length ∧ k ≤ 1) (fun (m, k, ds) => [(4, In m), (3, .osl 0 0 k)]) (fun (m, k, ds) => [(0, Rw .flat (eY 0) (ds.map eY))]) (fun (m, k, ds) => (m.toNat)) ((n, 0, [])) ?_)
    | (refine LoopB.of (T := Int × Nat × List Int) ?_ ?_; rotate_left; rintro ⟨m, k, ds⟩ ⟨h0, h1, h2, h3⟩; rotate_left)
    | refine LoopF.at 15 rfl (LoopF.fix [3] (Int × Nat × List Int × Unit) (fun (i, k2, out, u) => ((i = 0 ∧ out = []) ∨ (i = -1 ∧ out = [48 + n])) ∧ (ds = [48 + n] ∧ k = 1) ∧ k2 = out.length ∧ k2 ≤ 1) (fun (i, k2, out, u) => [(7, In i), (6, .osl 1 0 k2)]) (fun (i, k2, out, u) => [(1, Rw .flat (eY 0) (out.map eY))]) (fun (i, k2, out, u) => ((i + 1).toNat)) (((k : Int) - 1, 0, [], ())) ?_)
    | (refine LoopB.of (T := Int × Nat × List Int × Unit) ?_ ?_; rotate_left; rintro ⟨i, k2, out, u⟩ ⟨g0, g1, g2, g3⟩; rotate_left)
    | refine StrF.mk _ rfl (by omega) ?_
    | refine FlF.keep ?_
    | refine GhF.go ?_
    | refine MkF.row ?_
    | refine EqP.mk _ (gm eY 0 rfl) ?_
    | refine BndF.mk (fun _ => by omega) ?_
    | refine BndF.mk (fun _ => by simp only [lnS]; omega) ?_
    | refine EqI.mk _ (fun _ => wrapI (by omega) (by omega)) ?_
    | refine EqI.mk _ (fun _ => wrapD (by omega) (by omega) (by omega)) ?_
    | refine EqI.mk _ (fun _ => modE (by omega)) ?_
    | refine EqI.mk _ (fun _ => rfl) ?_
    | refine FlF.keep ?_
    | refine EqN.mk _ (ln eY) ?_
    | refine EqN.mk _ (Nat.zero_add _) ?_
    | refine EqN.mk (_ + 1) rfl ?_
    | refine EqN.mk _ (Int.toNat_natCast _) ?_
    | refine EqN.mk _ rfl ?_
    | refine EqL.mk _ (sn0 eY) ?_
    | refine EqL.mk _ (sn eY (by first | rfl | assumption | omega | (simp only [lnS] <;> omega))) ?_
    | refine EqL.mk _ (ap0 eY) ?_
    | refine EqL.mk _ (ap eY (by first | rfl | assumption | omega | (simp only [lnS] <;> omega))) ?_
    | refine EqL.mk _ (tk eY (by first | rfl | assumption | omega | (simp only [lnS] <;> omega))) ?_
    | refine EqL.mk [] rfl ?_
    | refine EqL.mk [_] rfl ?_
    | refine EqL.mk _ rfl ?_
    | (refine CondF.mk (fun hb => ?_) (fun hb => ?_) <;> try simp only [forall_const, eq_self, not_true_eq_false, not_false_eq_true, or_false, false_or, or_self, or_true, true_or, and_true, true_and, and_false, false_and, decide_true, decide_false, Bool.not_true, Bool.not_false, decide_eq_true_eq, decide_eq_false_iff_not, ite_and_p, ite_or_p, Bool.decide_eq_true, Bool.and_eq_true, Bool.or_eq_true, Bool.not_eq_true', Bool.not_eq_false', Bool.and_eq_false_imp, Bool.or_eq_false_iff, bne_iff_ne, beq_iff_eq, bne_eq_false_iff_eq, beq_eq_false_iff_ne, gt_iff_lt, ge_iff_le, Int.not_lt, Int.not_le, ne_eq, Bool.true_eq_false, Bool.false_eq_true, reduceCtorEq, eta_Airway, eta_Fan, eta_Mine] at hb)
    | apply BackF.auto4
    | apply BackF.auto3
    | refine BackB.mk ?_ ?_
    | refine RetF.auto (And.intro rfl ?_)
    | exact Is.mk rfl rfl
    | refine Is.mk ?_ rfl
    | refine Is.mk rfl ?_
    | refine Is.mk ?_ ?_
  all_goals try dsimp only
  all_goals try exact ()
  all_goals first
    | omega
    | (rw [show n = 0 by omega]; rfl)
    | exact ⟨.inl ⟨rfl, rfl⟩, by omega, rfl, by omega⟩
    | (rcases h0 with h | h
       · refine ⟨.inr ⟨?_, ?_⟩, h1, by rw [h.2] at h2 ⊢; simpa using h2, by rw [h.2] at h2; simp at h2; omega⟩
         · omega
         · rw [h.2, h.1]; simp; omega
       · omega)
    | (rcases h0 with h | h
       · omega
       · exact ⟨.inl ⟨by rw [h.2] at h2; simp at h2; omega, rfl⟩, ⟨h.2, by rw [h.2] at h2; simpa using h2⟩, rfl, by omega⟩)
    | (rcases g0 with h | h
       · refine ⟨.inr ⟨by omega, ?_⟩, g1, by rw [h.2] at g2 ⊢; simpa using g2, by rw [h.2] at g2; simp at g2; omega⟩
         rw [h.1, h.2, g1.1]; rfl
       · omega)
    | (rcases g0 with h | h
       · omega
       · rw [h.2])
    | skip
end Go.Proofs.YtdhkpmaanegjkaaGreat
/- Contracts of functions of the program, and what they compute. Conditions: those that each theorem states. -/
set_option linter.unusedVariables false
set_option linter.unusedSimpArgs false
namespace Go.Proofs.YtdhkpmaanegjkaaGreat
open Go.Av
attribute [local irreducible] Go.IntKind.wrap leastI rdZ rd rootI
set_option maxRecDepth 20000
set_option maxHeartbeats 8000000
theorem airC (a : ByteArray) (b c d e f g : Int) : [AV.p .flat (.agg [.c (.string a), .c (.int .i64 b), .c (.int .i64 c), .c (.int .i64 d), .c (.int .i64 e), .c (.int .i64 f), .c (.int .i64 g)])] = [.p .flat (.agg (GAirway.cells ⟨a, b, c, d, e, f, g⟩))] := rfl
theorem c_spec_l03DrawOk (c : List Int) (p s : Int) (id : ByteArray) (a b : Int) (hc : bytes c) (hp : 0 ≤ p ∧ p ≤ 50000000) : FnSem Tryz.prog 35 [.own 0 0, Str id, In a, In b] [srcO c p s] (SrcV (fun x : GAirway => [.p .flat (.agg x.cells)]) (fun x => x.id = id ∧ x.from_ = a ∧ x.to = b) c 8 p) := by
  refine FnSem.walk (zs := zeroPV Tryz.prog) (by kernel_rfl) Tryz.func35 rfl Tryz.results35 (by kernel_rfl) (by kernel_rfl) (by kernel_rfl) fun hw hh => ?_
  obtain ⟨w0, w1, w2, w3, _⟩ := hw
  first | replace w0 := wfr_L00Src w0 | skip
  first | replace w1 := wf_S w1 | skip
  first | replace w2 := wf_I w2 | skip
  first | replace w3 := wf_I w3 | skip
  repeat' first
    | refine And.intro rfl ?_
    | refine GdF.mk (fun h => h) ?_
    | refine And.intro (Nat.succ_ne_zero _) ?_
    | refine And.intro (Nat.le_of_ble_eq_true rfl) ?_
    | refine SeqF.run ?_
    | refine SrcV.mk (α := GAirway) ⟨_, _, _, _, _, _, _⟩ _ _ rfl rfl ⟨rfl, rfl, rfl⟩ ?_
    | refine GhF.go ?_
    | refine BndF.mk (fun _ => by omega) ?_
    | refine BndF.mk (fun _ => by simp only [lnS]; omega) ?_
    | refine EqI.mk _ (fun _ => wrapI (by omega) (by omega)) ?_
    | refine EqI.mk _ (fun _ => rfl) ?_
    | refine EqL.mk [] rfl ?_
    | refine EqL.mk [_] rfl ?_
    | refine EqL.mk _ rfl ?_
    | (refine ArgF.src (c_spec_l00Src_pick _ _ _ _ (by first | assumption | omega | rfl | (simp only [List.length_cons, List.length_nil]; omega)) (by first | assumption | omega | rfl | (simp only [List.length_cons, List.length_nil]; omega)) (by first | assumption | omega | rfl | (simp only [List.length_cons, List.length_nil]; omega))) ?_; intro _ _ _ _ _)
    | refine CallF.own (f := 29) [0] false ?_
    | refine CallF.mk (CallW.is [] true rfl ?_)
    | refine CallG.mk ?_
    | (refine CondF.mk (fun hb => ?_) (fun hb => ?_) <;> try simp only [forall_const, eq_self, not_true_eq_false, not_false_eq_true, or_false, false_or, or_self, or_true, true_or, and_true, true_and, and_false, false_and, decide_true, decide_false, Bool.not_true, Bool.not_false, decide_eq_true_eq, decide_eq_false_iff_not, ite_and_p, ite_or_p, Bool.decide_eq_true, Bool.and_eq_true, Bool.or_eq_true, Bool.not_eq_true', Bool.not_eq_false', Bool.and_eq_false_imp, Bool.or_eq_false_iff, bne_iff_ne, beq_iff_eq, bne_eq_false_iff_eq, beq_eq_false_iff_ne, gt_iff_lt, ge_iff_le, Int.not_lt, Int.not_le, ne_eq, Bool.true_eq_false, Bool.false_eq_true, reduceCtorEq, eta_Airway, eta_Fan, eta_Mine] at hb)
    | refine RetF.auto (And.intro rfl ?_)
    | exact Is.mk rfl rfl
    | refine Is.mk ?_ rfl
    | refine Is.mk rfl ?_
    | refine Is.mk ?_ ?_
  all_goals first | omega | (simp only [List.mem_cons, List.not_mem_nil, or_false] at *; omega) | skip
theorem c_spec_l03Bent (c : List Int) (p s : Int) (hc : bytes c) (hp : 0 ≤ p ∧ p ≤ 40000000) : FnSem Tryz.prog 63 [.own 0 0] [srcO c p s] (SrcV (fun x : GAirway => [.p .flat (.agg x.cells)]) (fun _ => True) c 30 p) := by
  refine FnSem.walk (zs := zeroPV Tryz.prog) (by kernel_rfl) Tryz.func63 rfl Tryz.results63 (by kernel_rfl) (by kernel_rfl) (by kernel_rfl) fun hw hh => ?_
  obtain ⟨w0, _⟩ := hw
  first | replace w0 := wfr_L00Src w0 | skip
  repeat' first
    | refine And.intro rfl ?_
    | refine GdF.mk (fun h => h) ?_
    | refine And.intro (Nat.succ_ne_zero _) ?_
    | refine And.intro (Nat.le_of_ble_eq_true rfl) ?_
    | refine SeqF.run ?_
    | (refine ArgF.src (c_spec_l03DrawOk _ _ _ _ _ _ hc (by omega)) ?_; intro x p1 s1 hx hp1)
    | refine SrcV.mk (α := GAirway) _ _ _ (airC _ _ _ _ _ _ _) rfl trivial ?_
    | refine GhF.go ?_
    | refine MkF.row ?_
    | refine BndF.mk (fun _ => by omega) ?_
    | refine BndF.mk (fun _ => by simp only [lnS]; omega) ?_
    | refine EqI.mk _ (fun _ => wrapI (by omega) (by omega)) ?_
    | refine EqI.mk _ (fun _ => modE (by omega)) ?_
    | refine EqI.mk _ (fun _ => rfl) ?_
    | refine EqL.mk _ (tk eI (by first | rfl | assumption | omega | (simp only [lnS] <;> omega))) ?_
    | refine EqL.mk _ (st eI) ?_
    | refine EqL.mk _ (tk eS (by first | rfl | assumption | omega | (simp only [lnS] <;> omega))) ?_
    | refine EqL.mk _ (st eS) ?_
    | refine EqL.mk (List.map eI [_, _, _]) rfl ?_
    | refine EqL.mk (List.map eS [_, _, _, _]) rfl ?_
    | refine EqL.mk (List.map eI [_, _, _, _]) rfl ?_
    | refine EqL.mk [] rfl ?_
    | refine EqL.mk [_] rfl ?_
    | refine EqL.mk _ rfl ?_
    | (refine ArgF.srw (c_spec_l00Src_text _ _ _ _ _ (by first | assumption | omega | rfl | (simp only [List.length_cons, List.length_nil]; omega)) (by first | assumption | omega | rfl | (simp only [List.length_cons, List.length_nil]; omega)) (by first | assumption | omega | rfl | (simp only [List.length_cons, List.length_nil]; omega)) (by first | assumption | omega | rfl | (simp only [List.length_cons, List.length_nil]; omega))) ?_; intro _ _ _ _ _)
    | (refine ArgF.src (c_spec_l00Src_pick _ _ _ _ (by first | assumption | omega | rfl | (simp only [List.length_cons, List.length_nil]; omega)) (by first | assumption | omega | rfl | (simp only [List.length_cons, List.length_nil]; omega)) (by first | assumption | omega | rfl | (simp only [List.length_cons, List.length_nil]; omega))) ?_; intro _ _ _ _ _)
    | (refine ArgF.src (c_spec_l03DrawOk _ _ _ _ _ _ (by first | assumption | omega | rfl | (simp only [List.length_cons, List.length_nil]; omega)) (by first | assumption | omega | rfl | (simp only [List.length_cons, List.length_nil]; omega))) ?_; intro _ _ _ _ _)
    | (refine ArgF.srw (c_spec_l00Src_among _ _ _ _ _ (by first | assumption | omega | rfl | (simp only [List.length_cons, List.length_nil]; omega)) (by first | assumption | omega | rfl | (simp only [List.length_cons, List.length_nil]; omega)) (by first | assumption | omega | rfl | (simp only [List.length_cons, List.length_nil]; omega)) (by first | assumption | omega | rfl | (simp only [List.length_cons, List.length_nil]; omega))) ?_; intro _ _ _ _ _)
    | refine CallF.own (f := 16) [0, 1] false ?_
    | refine CallF.own (f := 29) [0] false ?_
    | refine CallF.own (f := 35) [0] false ?_
    | refine CallF.own (f := 82) [0, 1] false ?_
    | refine CallF.mk (CallW.is [] true rfl ?_)
    | refine CallG.mk ?_
    | (refine CondF.mk (fun hb => ?_) (fun hb => ?_) <;> try simp only [forall_const, eq_self, not_true_eq_false, not_false_eq_true, or_false, false_or, or_self, or_true, true_or, and_true, true_and, and_false, false_and, decide_true, decide_false, Bool.not_true, Bool.not_false, decide_eq_true_eq, decide_eq_false_iff_not, ite_and_p, ite_or_p, Bool.decide_eq_true, Bool.and_eq_true, Bool.or_eq_true, Bool.not_eq_true', Bool.not_eq_false', Bool.and_eq_false_imp, Bool.or_eq_false_iff, bne_iff_ne, beq_iff_eq, bne_eq_false_iff_eq, beq_eq_false_iff_ne, gt_iff_lt, ge_iff_le, Int.not_lt, Int.not_le, ne_eq, Bool.true_eq_false, Bool.false_eq_true, reduceCtorEq, eta_Airway, eta_Fan, eta_Mine] at hb)
    | refine RetF.auto (And.intro rfl ?_)
    | exact Is.mk rfl rfl
    | refine Is.mk ?_ rfl
    | refine Is.mk rfl ?_
    | refine Is.mk ?_ ?_
  all_goals first | omega | (simp only [List.mem_cons, List.not_mem_nil, or_false] at *; omega) | skip
end Go.Proofs.YtdhkpmaanegjkaaGreat
/- Contracts of functions of the program, and what they compute. Conditions: those that each theorem states. -/
set_option linter.unusedVariables false
set_option linter.unusedSimpArgs false
namespace Go.Proofs.YtdhkpmaanegjkaaGreat
open Go.Av
attribute [local irreducible] Go.IntKind.wrap leastI rdZ rd rootI
set_option maxRecDepth 20000
set_option maxHeartbeats 8000000
abbrev RwA (xs : List GAirway) : OB := .row false .flat (GAirway.cells default) (xs.map GAirway.cells)
abbrev mineR (v : Int × Nat × List GAirway) : List AV := [.aagg [In v.1, .osl 1 0 v.2.1]]
theorem c_spec_l04DrawOk (c : List Int) (p s : Int) (hc : bytes c) (hp : 0 ≤ p ∧ p ≤ 10000000) : FnSem Tryz.prog 62 [.own 0 0] [srcO c p s] (SrcX mineR (fun v => [RwA v.2.2]) (fun v => 2 ≤ v.1 ∧ v.1 ≤ 6 ∧ v.2.1 = v.2.2.length ∧ v.2.1 ≤ 8) c 300 p) := by
  refine FnSem.old ?_
  refine FnSem.walk (zs := zeroPV Tryz.prog) (by kernel_rfl) Tryz.func62 rfl Tryz.results62 (by kernel_rfl) (by kernel_rfl) (by kernel_rfl) fun hw hh => ?_
  obtain ⟨w0, _⟩ := hw
  first | replace w0 := wfr_L00Src w0 | skip
  repeat' first
    | refine And.intro rfl ?_
    | refine GdF.mk (fun h => h) ?_
    | refine And.intro (Nat.succ_ne_zero _) ?_
    | refine And.intro (Nat.le_of_ble_eq_true rfl) ?_
    | refine SeqF.run ?_
    | refine GdS.tt (by first | rfl | assumption) ?_
    | refine GdS.ff (by first | rfl | assumption) ?_
    | refine GdS.split (fun hg => ?_) (fun hg => ?_)
    | refine GdF.mk (fun h => by first | exact h | rfl | (rw [hg] at h; exact h)) ?_
    | refine OpH.heap ?_
    | refine GhF.at 3 rfl [.old 3] ?_
    | refine GhF.held 10 rfl [(6, [0])] ?_
    | refine GhF.held 14 rfl [(9, [0]), (10, []), (11, [4]), (13, [3])] ?_
    | (refine SeqF.cutfix (a := codeF _ _ _ (.cond (.tmp 52) _ _)) [0, 2, 3, 4, 5] [0, 1, 2, 3, 4] (Int × Int × Int × Int) (fun (a, b, q2, t2) => q ≤ q2 ∧ q2 ≤ q + 12) (fun (a, b, q2, t2) => [(6, In a), (7, In b)]) (fun (a, b, q2, t2) => [srcO c q2 t2, .fix [In 0, .p .flat (.c (.slice none 0 0))], Rw .flat (eS ⟨#[]⟩) (List.map eS _), .fix [In (2 + v), .osl 4 0 n], RwA xs]) ?_ ?_; rotate_left; rintro ⟨a, b, q2, t2⟩ ⟨g0, g1⟩; rotate_left)
    | refine FitF.auto4 _ _ _ _ ?_
    | (rename_i v p1 s1 _ _; refine LoopF.at 4 rfl (LoopF.fix [0, 2, 3, 4] (Int × Nat × List GAirway × Int × Int) (fun (k, n, xs, q, t) => 0 ≤ k ∧ k ≤ 8 ∧ n = xs.length ∧ (n : Int) ≤ k ∧ p ≤ q ∧ q ≤ p + 2 + 30 * k) (fun (k, n, xs, q, t) => [(5, In k)]) (fun (k, n, xs, q, t) => [(0, srcO c q t), (3, .fix [In (2 + v), .osl 4 0 n]), (4, RwA xs)]) (fun (k, n, xs, q, t) => ((8 - k).toNat)) ((0, 0, [], p1, s1)) ?_))
    | (refine LoopB.of (T := Int × Nat × List GAirway × Int × Int) ?_ ?_; rotate_left; rintro ⟨k, n, xs, q, t⟩ ⟨h0, h1, h2, h3, h4, h5⟩; rotate_left)
    | refine EqL.mk _ (sn GAirway.cells (v := _) (by first | rfl | assumption | omega | (simp only [List.length_append, List.length_cons, List.length_nil]; omega))) ?_
    | refine SrcX.mk (α := Int × Nat × List GAirway) (_, _, _) _ _ rfl rfl ?_ ?_
    | refine HdF.at 11 rfl 0 [] (And.intro (by decide +kernel) (And.intro rfl ?_))
    | refine HdF.at 10 rfl 1 [] (And.intro (by decide +kernel) (And.intro rfl ?_))
    | refine HdF.at 9 rfl 2 [] (And.intro (by decide +kernel) (And.intro rfl ?_))
    | refine HdF.at 8 rfl 3 [] (And.intro (by decide +kernel) (And.intro rfl ?_))
    | refine HdF.at 7 rfl 4 [5, 6, 7, 10, 11] (And.intro (by decide +kernel) (And.intro rfl ?_))
    | refine HdF.at 6 rfl 5 [] (And.intro (by decide +kernel) (And.intro rfl ?_))
    | refine HdF.at 5 rfl 8 [] (And.intro (by decide +kernel) (And.intro rfl ?_))
    | refine HdF.at 4 rfl 9 [10, 11] (And.intro (by decide +kernel) (And.intro rfl ?_))
    | refine HdF.goAt 3 rfl ?_
    | refine OrdL.ord ?_
    | refine OrdF.take 7 (by decide +kernel) (And.intro rfl ?_)
    | refine OrdF.take 10 (by decide +kernel) (And.intro rfl ?_)
    | refine OrdF.take 11 (by decide +kernel) (And.intro rfl ?_)
    | refine OrdF.all [6] (by decide +kernel) ?_
    | refine OrdF.fin (by decide +kernel) ?_
    | refine AllF.one _ ?_
    | refine AllF.cons _ _ ?_ ?_
    | refine OpH.quiet rfl ?_
    | refine OpH.heap ?_
    | refine HdF.at 13 rfl 0 [] (And.intro (by decide +kernel) (And.intro rfl ?_))
    | refine HdF.at 12 rfl 1 [11, 12, 13] (And.intro (by decide +kernel) (And.intro rfl ?_))
    | refine HdF.at 11 rfl 2 [] (And.intro (by decide +kernel) (And.intro rfl ?_))
    | refine HdF.at 10 rfl 3 [] (And.intro (by decide +kernel) (And.intro rfl ?_))
    | refine HdF.at 9 rfl 4 [] (And.intro (by decide +kernel) (And.intro rfl ?_))
    | refine HdF.at 8 rfl 5 [] (And.intro (by decide +kernel) (And.intro rfl ?_))
    | refine HdF.at 7 rfl 6 [9, 10, 11, 12, 13] (And.intro (by decide +kernel) (And.intro rfl ?_))
    | refine HdF.at 6 rfl 7 [] (And.intro (by decide +kernel) (And.intro rfl ?_))
    | refine HdF.at 5 rfl 8 [] (And.intro (by decide +kernel) (And.intro rfl ?_))
    | refine HdF.goAt 4 rfl ?_
    | refine OrdL.ord ?_
    | refine OrdF.take 12 (by decide +kernel) (And.intro rfl ?_)
    | refine OrdF.all [13] (by decide +kernel) ?_
    | refine OrdF.all [11] (by decide +kernel) ?_
    | refine OrdF.all [10] (by decide +kernel) ?_
    | refine OrdF.all [9] (by decide +kernel) ?_
    | refine OrdF.fin (by decide +kernel) ?_
    | refine AllF.one _ ?_
    | refine AllF.cons _ _ ?_ ?_
    | refine OpH.quiet rfl ?_
    | refine OpH.heap ?_
    | refine GhF.go ?_
    | refine GdS.keep ?_
    | refine DrawG.old (DrawF.lex (by decide +kernel) ?_)
    | refine DrawG.old (DrawF.any ?_)
    | refine OrdF.take 0 (by decide +kernel) ?_
    | refine OrdF.take 2 (by decide +kernel) ?_
    | refine OrdF.take 3 (by decide +kernel) ?_
    | refine OrdF.take 4 (by decide +kernel) ?_
    | refine OrdF.take 5 (by decide +kernel) ?_
    | refine OrdF.take 7 (by decide +kernel) ?_
    | refine OrdF.take 8 (by decide +kernel) ?_
    | refine OrdF.take 12 (by decide +kernel) ?_
    | refine OrdF.all [13] (by decide +kernel) ?_
    | refine OrdF.all [11] (by decide +kernel) ?_
    | refine OrdF.all [1] (by decide +kernel) ?_
    | refine OrdF.all [10] (by decide +kernel) ?_
    | refine OrdF.all [1, 10] (by decide +kernel) ?_
    | refine OrdF.all [9] (by decide +kernel) ?_
    | refine OrdF.all [1, 9] (by decide +kernel) ?_
    | refine OrdF.all [6] (by decide +kernel) ?_
    | refine OrdF.all [1, 6] (by decide +kernel) ?_
    | refine OrdF.fin (by decide +kernel) ?_
    | refine AllF.one _ ?_
    | refine AllF.cons _ _ ?_ ?_
    | refine MkF.row ?_
    | refine EqP.mk _ (gm GAirway.cells default rfl) ?_
    | refine EqP.mk _ (gm eS ⟨#[]⟩ rfl) ?_
    | refine BndF.mk (fun _ => by omega) ?_
    | refine BndF.mk (fun _ => by simp only [lnS]; omega) ?_
    | refine BndF.mk (fun hG => by simp only [forall_const, eq_self, not_true_eq_false, not_false_eq_true, or_false, false_or, or_self, or_true, true_or, and_true, true_and, and_false, false_and, decide_true, decide_false, Bool.not_true, Bool.not_false, decide_eq_true_eq, decide_eq_false_iff_not, ite_and_p, ite_or_p, Bool.decide_eq_true, Bool.and_eq_true, Bool.or_eq_true, Bool.not_eq_true', Bool.not_eq_false', Bool.and_eq_false_imp, Bool.or_eq_false_iff, bne_iff_ne, beq_iff_eq, bne_eq_false_iff_eq, beq_eq_false_iff_ne, gt_iff_lt, ge_iff_le, Int.not_lt, Int.not_le, ne_eq, Bool.true_eq_false, Bool.false_eq_true, reduceCtorEq, eta_Airway, eta_Fan, eta_Mine, bytes_nil] at hG; (try simp only [List.length_map]); omega) ?_
    | refine EqI.mk _ (fun _ => wrapI (by omega) (by omega)) ?_
    | refine EqI.mk _ (fun _ => modE (by omega)) ?_
    | refine EqI.mk _ (fun _ => rfl) ?_
    | refine FlF.keep ?_
    | refine EqN.mk _ (ln GAirway.cells) ?_
    | refine EqN.mk _ (ln eS) ?_
    | refine EqN.mk _ (Nat.zero_add _) ?_
    | refine EqN.mk (_ + 1) rfl ?_
    | refine EqN.mk _ (Int.toNat_natCast _) ?_
    | refine EqN.mk _ rfl ?_
    | refine EqL.mk _ (sn0 GAirway.cells) ?_
    | refine EqL.mk _ (sn GAirway.cells (by first | rfl | assumption | omega | (simp only [lnS] <;> omega))) ?_
    | refine EqL.mk _ (ap0 GAirway.cells) ?_
    | refine EqL.mk _ (ap GAirway.cells (by first | rfl | assumption | omega | (simp only [lnS] <;> omega))) ?_
    | refine EqL.mk _ (tk GAirway.cells (by first | rfl | assumption | omega | (simp only [lnS] <;> omega))) ?_
    | refine EqL.mk _ (st GAirway.cells) ?_
    | refine EqL.mk _ (sn0 eS) ?_
    | refine EqL.mk _ (sn eS (by first | rfl | assumption | omega | (simp only [lnS] <;> omega))) ?_
    | refine EqL.mk _ (ap0 eS) ?_
    | refine EqL.mk _ (ap eS (by first | rfl | assumption | omega | (simp only [lnS] <;> omega))) ?_
    | refine EqL.mk _ (tk eS (by first | rfl | assumption | omega | (simp only [lnS] <;> omega))) ?_
    | refine EqL.mk _ (st eS) ?_
    | refine EqL.mk (List.map eS [_, _, _, _, _, _, _, _]) rfl ?_
    | refine EqL.mk [] rfl ?_
    | refine EqL.mk [_] rfl ?_
    | refine EqL.mk _ rfl ?_
    | (refine ArgF.src (c_spec_l00Src_pick _ _ _ _ (by first | assumption | omega | rfl | (simp only [List.length_cons, List.length_nil]; omega)) (by first | assumption | omega | rfl | (simp only [List.length_cons, List.length_nil]; omega)) (by first | assumption | omega | rfl | (simp only [List.length_cons, List.length_nil]; omega))) ?_; intro _ _ _ _ _)
    | (refine ArgF.src (c_spec_l00Src_one _ _ _ _ (by first | assumption | omega | rfl | (simp only [List.length_cons, List.length_nil]; omega)) (by first | assumption | omega | rfl | (simp only [List.length_cons, List.length_nil]; omega)) (by first | assumption | omega | rfl | (simp only [List.length_cons, List.length_nil]; omega))) ?_; intro _ _ _ _ _)
    | (refine ArgF.src (c_spec_l03DrawOk _ _ _ _ _ _ (by first | assumption | omega | rfl | (simp only [List.length_cons, List.length_nil]; omega)) (by first | assumption | omega | rfl | (simp only [List.length_cons, List.length_nil]; omega))) ?_; intro _ _ _ _ _)
    | refine CallF.own (f := 29) [0] false ?_
    | refine CallF.own (f := 34) [0] false ?_
    | refine CallF.own (f := 35) [0] false ?_
    | refine CallF.mk (CallW.is [] true rfl ?_)
    | refine CallG.mk ?_
    | (refine CondF.mk (fun hb => ?_) (fun hb => ?_) <;> try simp only [forall_const, eq_self, not_true_eq_false, not_false_eq_true, or_false, false_or, or_self, or_true, true_or, and_true, true_and, and_false, false_and, decide_true, decide_false, Bool.not_true, Bool.not_false, decide_eq_true_eq, decide_eq_false_iff_not, ite_and_p, ite_or_p, Bool.decide_eq_true, Bool.and_eq_true, Bool.or_eq_true, Bool.not_eq_true', Bool.not_eq_false', Bool.and_eq_false_imp, Bool.or_eq_false_iff, bne_iff_ne, beq_iff_eq, bne_eq_false_iff_eq, beq_eq_false_iff_ne, gt_iff_lt, ge_iff_le, Int.not_lt, Int.not_le, ne_eq, Bool.true_eq_false, Bool.false_eq_true, reduceCtorEq, eta_Airway, eta_Fan, eta_Mine] at hb)
    | apply BackF.auto5
    | refine BackB.mk ?_ ?_
    | refine RetF.auto (And.intro rfl ?_)
    | exact Is.mk rfl rfl
    | refine Is.mk ?_ rfl
    | refine Is.mk rfl ?_
    | refine Is.mk ?_ ?_
  all_goals try dsimp only
  all_goals try simp only [List.length_append, List.length_cons, List.length_nil, List.length_set, List.mem_cons, List.not_mem_nil, or_false] at *
  all_goals first
    | omega
    | (simp; done)
    | (simp; omega)
    | skip
end Go.Proofs.YtdhkpmaanegjkaaGreat
/- Contracts of functions of the program, and what they compute. Conditions: those that each theorem states. -/
set_option linter.unusedVariables false
set_option linter.unusedSimpArgs false
namespace Go.Proofs.YtdhkpmaanegjkaaGreat
open Go.Av
attribute [local irreducible] Go.IntKind.wrap leastI rdZ rd rootI
set_option maxRecDepth 20000
set_option maxHeartbeats 8000000
theorem ccat_size {x y : ByteArray} : (x ++ y).size = x.size + y.size := ByteArray.size_append
theorem cnums_size {xs : List Int} : (strOfNums xs).size = xs.length := strOfNums_size xs
theorem cone_size {a : UInt8} : (ByteArray.mk #[a]).size = 1 := rfl
theorem manyE {n : Int} (h : n ∈ [(24 : Int), 25]) : 24 ≤ n ∧ n ≤ 25 := by
  simp only [List.mem_cons, List.not_mem_nil, or_false] at h
  omega
theorem c_spec_l04Draw (c : List Int) (p s : Int) (hc : bytes c) (hp : 0 ≤ p ∧ p ≤ 1000000) : FnSem Tryz.prog 33 [.own 0 0] [srcO c p s] (SrcX mineR (fun v => [RwA v.2.2]) (fun v => v.2.1 = v.2.2.length ∧ v.2.1 ≤ 25) c 700 p) := by
  refine FnSem.old ?_
  refine FnSem.walk (zs := zeroPV Tryz.prog) (by kernel_rfl) Tryz.func33 rfl Tryz.results33 (by kernel_rfl) (by kernel_rfl) (by kernel_rfl) fun hw hh => ?_
  obtain ⟨w0, _⟩ := hw
  first | replace w0 := wfr_L00Src w0 | skip
  repeat' first
    | refine And.intro rfl ?_
    | refine GdF.mk (fun h => h) ?_
    | refine And.intro (Nat.succ_ne_zero _) ?_
    | refine And.intro (Nat.le_of_ble_eq_true rfl) ?_
    | refine SeqF.run ?_
    | refine OpH.heap ?_
    | (refine ArgF.srx (c_spec_l04DrawOk _ _ _ hc (by omega)) ?_; rintro ⟨j0, n0, xs0⟩ p0 s0 hv0 hp0; dsimp only at hv0 hp0 ⊢)
    | (refine ArgF.srw (c_spec_l00Src_among _ _ _ [24, 25] _ hc (by omega) (by omega) rfl) ?_; intro nn p2 s2 hnn hp2; replace hnn := manyE hnn)
    | refine GhF.at 10 rfl [.nils 3 1 (GAirway.cells default), .old 5] ?_
    | refine GhF.held 6 rfl [(3, [0]), (4, []), (5, [2]), (7, [3])] ?_
    | refine GhF.held 13 rfl [(6, []), (14, [0]), (15, []), (16, [3]), (18, [2])] ?_
    | refine LoopF.at 11 rfl (LoopF.fix [0, 2, 3, 4] (Int × Nat × List GAirway × Int × Int) (fun (k, n, xs, q, t) => 0 ≤ k ∧ k ≤ nn ∧ n = xs.length ∧ (n : Int) = k ∧ p2 ≤ q ∧ q ≤ p2 + 10 * k) (fun (k, n, xs, q, t) => [(5, In k)]) (fun (k, n, xs, q, t) => [(0, srcO c q t), (2, .fix [In 4, .osl 3 0 n]), (3, RwA xs)]) (fun (k, n, xs, q, t) => ((nn - k).toNat)) ((0, 0, [], p2, s2)) ?_)
    | (refine LoopB.of (T := Int × Nat × List GAirway × Int × Int) ?_ ?_; rotate_left; rintro ⟨k, n, xs, q, t⟩ ⟨h0, h1, h2, h3, h4, h5⟩; rotate_left)
    | refine EqL.mk _ (sn GAirway.cells (v := _) (by first | rfl | assumption | omega | (simp only [List.length_append, List.length_cons, List.length_nil]; omega))) ?_
    | refine StrF.mk [_] rfl (by simp) ?_
    | refine FlF.keep ?_
    | refine BndF.mk (fun _ => by simp only [cnums_size, ccat_size, cone_size, List.length_cons, List.length_nil]; omega) ?_
    | refine SrcX.mk (α := Int × Nat × List GAirway) (_, _, _) _ _ rfl rfl ?_ ?_
    | refine HdF.at 7 rfl 0 [] (And.intro (by decide +kernel) (And.intro rfl ?_))
    | refine HdF.at 6 rfl 1 [5, 6, 7] (And.intro (by decide +kernel) (And.intro rfl ?_))
    | refine HdF.at 5 rfl 2 [] (And.intro (by decide +kernel) (And.intro rfl ?_))
    | refine HdF.goAt 4 rfl ?_
    | refine OrdL.ord ?_
    | refine OrdF.take 6 (by decide +kernel) (And.intro rfl ?_)
    | refine OrdF.all [7] (by decide +kernel) ?_
    | refine OrdF.all [5] (by decide +kernel) ?_
    | refine OrdF.all [4] (by decide +kernel) ?_
    | refine OrdF.all [3] (by decide +kernel) ?_
    | refine OrdF.fin (by decide +kernel) ?_
    | refine AllF.one _ ?_
    | refine AllF.cons _ _ ?_ ?_
    | refine OpH.quiet rfl ?_
    | refine OpH.heap ?_
    | refine HdF.at 18 rfl 0 [] (And.intro (by decide +kernel) (And.intro rfl ?_))
    | refine HdF.at 17 rfl 1 [16, 17, 18] (And.intro (by decide +kernel) (And.intro rfl ?_))
    | refine HdF.at 16 rfl 2 [] (And.intro (by decide +kernel) (And.intro rfl ?_))
    | refine HdF.at 15 rfl 3 [] (And.intro (by decide +kernel) (And.intro rfl ?_))
    | refine HdF.at 14 rfl 4 [] (And.intro (by decide +kernel) (And.intro rfl ?_))
    | refine HdF.at 13 rfl 5 [] (And.intro (by decide +kernel) (And.intro rfl ?_))
    | refine HdF.at 12 rfl 9 [] (And.intro (by decide +kernel) (And.intro rfl ?_))
    | refine HdF.at 11 rfl 10 [] (And.intro (by decide +kernel) (And.intro rfl ?_))
    | refine HdF.at 10 rfl 11 [] (And.intro (by decide +kernel) (And.intro rfl ?_))
    | refine HdF.at 9 rfl 12 [] (And.intro (by decide +kernel) (And.intro rfl ?_))
    | refine HdF.at 8 rfl 13 [] (And.intro (by decide +kernel) (And.intro rfl ?_))
    | refine HdF.goAt 7 rfl ?_
    | refine OrdL.ord ?_
    | refine OrdF.take 7 (by decide +kernel) (And.intro rfl ?_)
    | refine OrdF.take 8 (by decide +kernel) (And.intro rfl ?_)
    | refine OrdF.take 17 (by decide +kernel) (And.intro rfl ?_)
    | refine OrdF.all [18] (by decide +kernel) ?_
    | refine OrdF.all [16] (by decide +kernel) ?_
    | refine OrdF.all [15] (by decide +kernel) ?_
    | refine OrdF.all [14] (by decide +kernel) ?_
    | refine OrdF.all [6] (by decide +kernel) ?_
    | refine OrdF.fin (by decide +kernel) ?_
    | refine AllF.one _ ?_
    | refine AllF.cons _ _ ?_ ?_
    | refine OpH.quiet rfl ?_
    | refine OpH.heap ?_
    | refine GhF.go ?_
    | refine DrawG.old (DrawF.lex (by decide +kernel) ?_)
    | refine DrawG.old (DrawF.any ?_)
    | refine OrdF.take 0 (by decide +kernel) ?_
    | refine OrdF.take 2 (by decide +kernel) ?_
    | refine OrdF.take 6 (by decide +kernel) ?_
    | refine OrdF.take 3 (by decide +kernel) ?_
    | refine OrdF.take 4 (by decide +kernel) ?_
    | refine OrdF.take 5 (by decide +kernel) ?_
    | refine OrdF.take 9 (by decide +kernel) ?_
    | refine OrdF.take 10 (by decide +kernel) ?_
    | refine OrdF.take 11 (by decide +kernel) ?_
    | refine OrdF.take 12 (by decide +kernel) ?_
    | refine OrdF.take 13 (by decide +kernel) ?_
    | refine OrdF.take 7 (by decide +kernel) ?_
    | refine OrdF.take 8 (by decide +kernel) ?_
    | refine OrdF.take 17 (by decide +kernel) ?_
    | refine OrdF.all [7] (by decide +kernel) ?_
    | refine OrdF.all [5] (by decide +kernel) ?_
    | refine OrdF.all [1] (by decide +kernel) ?_
    | refine OrdF.all [4] (by decide +kernel) ?_
    | refine OrdF.all [1, 4] (by decide +kernel) ?_
    | refine OrdF.all [3] (by decide +kernel) ?_
    | refine OrdF.all [1, 3] (by decide +kernel) ?_
    | refine OrdF.all [18] (by decide +kernel) ?_
    | refine OrdF.all [16] (by decide +kernel) ?_
    | refine OrdF.all [15] (by decide +kernel) ?_
    | refine OrdF.all [1, 15] (by decide +kernel) ?_
    | refine OrdF.all [14] (by decide +kernel) ?_
    | refine OrdF.all [1, 14] (by decide +kernel) ?_
    | refine OrdF.all [6] (by decide +kernel) ?_
    | refine OrdF.all [1, 6] (by decide +kernel) ?_
    | refine OrdF.fin (by decide +kernel) ?_
    | refine AllF.one _ ?_
    | refine AllF.cons _ _ ?_ ?_
    | refine MkF.row ?_
    | refine BndF.mk (fun _ => by omega) ?_
    | refine BndF.mk (fun _ => by simp only [lnS]; omega) ?_
    | refine EqI.mk _ (fun _ => wrapI (by omega) (by omega)) ?_
    | refine EqI.mk _ (fun _ => modE (by omega)) ?_
    | refine EqI.mk _ (fun _ => rfl) ?_
    | refine FlF.keep ?_
    | refine EqN.mk _ (Nat.zero_add _) ?_
    | refine EqN.mk (_ + 1) rfl ?_
    | refine EqN.mk _ (Int.toNat_natCast _) ?_
    | refine EqN.mk _ rfl ?_
    | refine EqL.mk _ (sn0 eY) ?_
    | refine EqL.mk _ (sn eY (by first | rfl | assumption | omega | (simp only [lnS] <;> omega))) ?_
    | refine EqL.mk _ (ap0 eY) ?_
    | refine EqL.mk _ (ap eY (by first | rfl | assumption | omega | (simp only [lnS] <;> omega))) ?_
    | refine EqL.mk _ (tk eY (by first | rfl | assumption | omega | (simp only [lnS] <;> omega))) ?_
    | refine EqL.mk _ (st eY) ?_
    | refine EqL.mk _ (sn0 GAirway.cells) ?_
    | refine EqL.mk _ (sn GAirway.cells (by first | rfl | assumption | omega | (simp only [lnS] <;> omega))) ?_
    | refine EqL.mk _ (ap0 GAirway.cells) ?_
    | refine EqL.mk _ (ap GAirway.cells (by first | rfl | assumption | omega | (simp only [lnS] <;> omega))) ?_
    | refine EqL.mk _ (tk GAirway.cells (by first | rfl | assumption | omega | (simp only [lnS] <;> omega))) ?_
    | refine EqL.mk _ (st GAirway.cells) ?_
    | refine EqL.mk _ (sn0 eI) ?_
    | refine EqL.mk _ (sn eI (by first | rfl | assumption | omega | (simp only [lnS] <;> omega))) ?_
    | refine EqL.mk _ (ap0 eI) ?_
    | refine EqL.mk _ (ap eI (by first | rfl | assumption | omega | (simp only [lnS] <;> omega))) ?_
    | refine EqL.mk _ (tk eI (by first | rfl | assumption | omega | (simp only [lnS] <;> omega))) ?_
    | refine EqL.mk _ (st eI) ?_
    | refine EqL.mk (List.map eI [_, _]) rfl ?_
    | refine EqL.mk (List.map eI [_, _, _, _]) rfl ?_
    | refine EqL.mk [] rfl ?_
    | refine EqL.mk [_] rfl ?_
    | refine EqL.mk _ rfl ?_
    | (refine ArgF.src (c_spec_l04DrawOk _ _ _ (by first | assumption | omega | rfl | (simp only [List.length_cons, List.length_nil]; omega)) (by first | assumption | omega | rfl | (simp only [List.length_cons, List.length_nil]; omega))) ?_; intro _ _ _ _ _)
    | (refine ArgF.src (c_spec_l00Src_pick _ _ _ _ (by first | assumption | omega | rfl | (simp only [List.length_cons, List.length_nil]; omega)) (by first | assumption | omega | rfl | (simp only [List.length_cons, List.length_nil]; omega)) (by first | assumption | omega | rfl | (simp only [List.length_cons, List.length_nil]; omega))) ?_; intro _ _ _ _ _)
    | (refine ArgF.srw (c_spec_l00Src_among _ _ _ _ _ (by first | assumption | omega | rfl | (simp only [List.length_cons, List.length_nil]; omega)) (by first | assumption | omega | rfl | (simp only [List.length_cons, List.length_nil]; omega)) (by first | assumption | omega | rfl | (simp only [List.length_cons, List.length_nil]; omega)) (by first | assumption | omega | rfl | (simp only [List.length_cons, List.length_nil]; omega))) ?_; intro _ _ _ _ _)
    | (refine ArgF.src (c_spec_l03Bent _ _ _ (by first | assumption | omega | rfl | (simp only [List.length_cons, List.length_nil]; omega)) (by first | assumption | omega | rfl | (simp only [List.length_cons, List.length_nil]; omega))) ?_; intro _ _ _ _ _)
    | (refine ArgF.src (c_spec_l03DrawOk _ _ _ _ _ _ (by first | assumption | omega | rfl | (simp only [List.length_cons, List.length_nil]; omega)) (by first | assumption | omega | rfl | (simp only [List.length_cons, List.length_nil]; omega))) ?_; intro _ _ _ _ _)
    | refine CallF.own (f := 16) [0, 1] false ?_
    | refine CallF.own (f := 29) [0] false ?_
    | refine CallF.own (f := 35) [0] false ?_
    | refine CallF.own (f := 62) [0] false ?_
    | refine CallF.own (f := 63) [0] false ?_
    | refine CallF.mk (CallW.is [] true rfl ?_)
    | refine CallG.mk ?_
    | (refine CondF.mk (fun hb => ?_) (fun hb => ?_) <;> try simp only [forall_const, eq_self, not_true_eq_false, not_false_eq_true, or_false, false_or, or_self, or_true, true_or, and_true, true_and, and_false, false_and, decide_true, decide_false, Bool.not_true, Bool.not_false, decide_eq_true_eq, decide_eq_false_iff_not, ite_and_p, ite_or_p, Bool.decide_eq_true, Bool.and_eq_true, Bool.or_eq_true, Bool.not_eq_true', Bool.not_eq_false', Bool.and_eq_false_imp, Bool.or_eq_false_iff, bne_iff_ne, beq_iff_eq, bne_eq_false_iff_eq, beq_eq_false_iff_ne, gt_iff_lt, ge_iff_le, Int.not_lt, Int.not_le, ne_eq, Bool.true_eq_false, Bool.false_eq_true, reduceCtorEq, eta_Airway, eta_Fan, eta_Mine] at hb)
    | apply BackF.auto5
    | refine BackB.mk ?_ ?_
    | refine RetF.auto (And.intro rfl ?_)
    | exact Is.mk rfl rfl
    | refine Is.mk ?_ rfl
    | refine Is.mk rfl ?_
    | refine Is.mk ?_ ?_
  all_goals try dsimp only
  all_goals try simp only [List.length_append, List.length_cons, List.length_nil, List.length_set, List.mem_cons, List.not_mem_nil, or_false] at *
  all_goals first
    | omega
    | (simp; done)
    | (simp; omega)
    | skip
end Go.Proofs.YtdhkpmaanegjkaaGreat
/- Contracts of functions of the program, and what they compute. Conditions: those that each theorem states. -/
set_option linter.unusedVariables false
set_option linter.unusedSimpArgs false
namespace Go.Proofs.YtdhkpmaanegjkaaGreat
open Go.Av
attribute [local irreducible] Go.IntKind.wrap leastI rdZ rd rootI
set_option maxRecDepth 20000
set_option maxHeartbeats 16000000
abbrev RwFs (fs : List GFan) : OB := .row true .fresh GFan.z (fs.map GFan.cells)
--@fn spec.l06DrawList
theorem listU (c : List Int) (p s : Int) (hc : bytes c) (hp : 0 ≤ p ∧ p ≤ 30000000) : FnSem Tryz.prog 64 [.own 0 0] [srcO c p s] (SrcX (fun v : Nat × List GFan => [.osl 1 0 v.1]) (fun v => [RwFs v.2]) (fun v => v.1 = v.2.length ∧ v.1 ≤ 14) c 800 p) := by
  refine FnSem.walk (zs := zeroPV Tryz.prog) (by kernel_rfl) Tryz.func64 rfl Tryz.results64 (by kernel_rfl) (by kernel_rfl) (by kernel_rfl) fun hw hh => ?_
  obtain ⟨w0, _⟩ := hw
  first | replace w0 := wfr_L00Src w0 | skip
  repeat' first
    | refine And.intro rfl ?_
    | refine GdF.mk (fun h => h) ?_
    | refine And.intro (Nat.succ_ne_zero _) ?_
    | refine And.intro (Nat.le_of_ble_eq_true rfl) ?_
    | refine SeqF.run ?_
    | refine CallF.own (f := 83) [0] false ?_
    | refine CallF.own (f := 84) [0] false ?_
    | (refine ArgF.src (drFan c _ _ _ _ hc (by omega)) ?_; intro f p2 s2 hf hp2)
    | (refine ArgF.src (c_spec_l06Draw c _ _ hc (by omega)) ?_; intro f p2 s2 hf hp2)
    | (refine ArgF.srw (c_spec_l00Src_among _ _ _ [8, 9] 2 hc (by omega) (by omega) rfl) ?_; intro w4 pw4 sw4 hw4 hpw4; simp only [List.mem_cons, List.not_mem_nil, or_false] at hw4)
    | refine BndF.mk (fun _ => by simp only [cnums_size, ccat_size, cone_size, List.length_cons, List.length_nil]; omega) ?_
    | refine LoopF.at 4 rfl (LoopF.fixw [2] [0, 3] (Int × Nat × List GFan × Int × Int) (fun (k, n, fs, q, t) => 0 ≤ k ∧ k ≤ 4 ∧ n = fs.length ∧ (n : Int) ≤ k ∧ p ≤ q ∧ q ≤ p + 44 * k) (fun (k, n, fs, q, t) => [(5, In k), (4, .osl 2 0 n)]) (fun (k, n, fs, q, t) => [(0, srcO c q t), (2, RwFs fs)]) (fun (k, n, fs, q, t) => ((4 - k).toNat)) ((0, 0, [], p, s)) ?_)
    | (refine LoopB.of (T := Int × Nat × List GFan × Int × Int) ?_ ?_; rotate_left; rintro ⟨k, n, fs, q, t⟩ ⟨k0, k1, k2, k3, k4, k5⟩; rotate_left)
    | refine LoopF.at 15 rfl (LoopF.fixw [1] [0, 6] (Int × Nat × List GFan × Int × Int × Unit) (fun (k, n, fs, q, t, _) => 0 ≤ k ∧ k ≤ w4 ∧ n = fs.length ∧ (n : Int) = k ∧ p ≤ q ∧ q ≤ p + 180 + 44 * k) (fun (k, n, fs, q, t, _) => [(7, In k), (4, .osl 1 0 n)]) (fun (k, n, fs, q, t, _) => [(0, srcO c q t), (1, RwFs fs)]) (fun (k, n, fs, q, t, _) => ((w4 - k).toNat)) ((0, 0, [], pw4, sw4, ())) ?_)
    | (refine LoopB.of (T := Int × Nat × List GFan × Int × Int × Unit) ?_ ?_; rotate_left; rintro ⟨k, n, fs, q, t, _⟩ ⟨k0, k1, k2, k3, k4, k5⟩; rotate_left)
    | refine EqL.mk _ (sn GFan.cells (v := _) (by first | rfl | assumption | omega | (simp only [List.length_append, List.length_cons, List.length_nil]; omega))) ?_
    | refine SrcX.mk (α := Nat × List GFan) (_, _) _ _ rfl rfl ?_ ?_
    | refine GhF.go ?_
    | refine DrawG.old (DrawF.lex (by decide +kernel) ?_)
    | refine DrawG.old (DrawF.any ?_)
    | refine OrdF.take 0 (by decide +kernel) ?_
    | refine OrdF.take 1 (by decide +kernel) ?_
    | refine OrdF.take 2 (by decide +kernel) ?_
    | refine OrdF.take 3 (by decide +kernel) ?_
    | refine OrdF.take 4 (by decide +kernel) ?_
    | refine OrdF.take 6 (by decide +kernel) ?_
    | refine OrdF.take 11 (by decide +kernel) ?_
    | refine OrdF.all [10] (by decide +kernel) ?_
    | refine OrdF.all [9] (by decide +kernel) ?_
    | refine OrdF.all [8] (by decide +kernel) ?_
    | refine OrdF.all [5] (by decide +kernel) ?_
    | refine OrdF.all [7] (by decide +kernel) ?_
    | refine OrdF.all [5, 7] (by decide +kernel) ?_
    | refine OrdF.fin (by decide +kernel) ?_
    | refine AllF.one _ ?_
    | refine AllF.cons _ _ ?_ ?_
    | refine MkF.row ?_
    | refine EqP.mk _ (gm eI 0 rfl) ?_
    | refine EqP.mk _ (gmb GFan.cells default (by omega)) ?_
    | refine EqP.mk _ (gm eS ⟨#[]⟩ rfl) ?_
    | refine BndF.mk (fun _ => by omega) ?_
    | refine BndF.mk (fun _ => by simp only [lnS]; omega) ?_
    | refine EqI.mk _ (fun _ => wrapI (by omega) (by omega)) ?_
    | refine EqI.mk _ (fun _ => rfl) ?_
    | refine FlF.keep ?_
    | refine EqN.mk _ (ln eI) ?_
    | refine EqN.mk _ (ln GFan.cells) ?_
    | refine EqN.mk _ (ln eS) ?_
    | refine EqN.mk _ (Nat.zero_add _) ?_
    | refine EqN.mk (_ + 1) rfl ?_
    | refine EqN.mk _ (Int.toNat_natCast _) ?_
    | refine EqN.mk _ rfl ?_
    | refine EqL.mk _ (sn0 eI) ?_
    | refine EqL.mk _ (sn eI (by first | rfl | assumption | omega | (simp only [lnS] <;> omega))) ?_
    | refine EqL.mk _ (ap0 eI) ?_
    | refine EqL.mk _ (ap eI (by first | rfl | assumption | omega | (simp only [lnS] <;> omega))) ?_
    | refine EqL.mk _ (tk eI (by first | rfl | assumption | omega | (simp only [lnS] <;> omega))) ?_
    | refine EqL.mk _ (dt eI) ?_
    | refine EqL.mk _ (sn0 GFan.cells) ?_
    | refine EqL.mk _ (sn GFan.cells (by first | rfl | assumption | omega | (simp only [lnS] <;> omega))) ?_
    | refine EqL.mk _ (ap0 GFan.cells) ?_
    | refine EqL.mk _ (ap GFan.cells (by first | rfl | assumption | omega | (simp only [lnS] <;> omega))) ?_
    | refine EqL.mk _ (tk GFan.cells (by first | rfl | assumption | omega | (simp only [lnS] <;> omega))) ?_
    | refine EqL.mk _ (dt GFan.cells) ?_
    | refine EqL.mk _ (sn0 eS) ?_
    | refine EqL.mk _ (sn eS (by first | rfl | assumption | omega | (simp only [lnS] <;> omega))) ?_
    | refine EqL.mk _ (ap0 eS) ?_
    | refine EqL.mk _ (ap eS (by first | rfl | assumption | omega | (simp only [lnS] <;> omega))) ?_
    | refine EqL.mk _ (tk eS (by first | rfl | assumption | omega | (simp only [lnS] <;> omega))) ?_
    | refine EqL.mk _ (dt eS) ?_
    | refine EqL.mk (List.map eI [_, _]) rfl ?_
    | refine EqL.mk (List.map eS [_, _, _, _]) rfl ?_
    | refine EqL.mk [] rfl ?_
    | refine EqL.mk [_] rfl ?_
    | refine EqL.mk _ rfl ?_
    | (refine ArgF.src (c_spec_l00Src_one _ _ _ _ (by first | assumption | omega | rfl | (simp only [List.length_cons, List.length_nil]; omega)) (by first | assumption | omega | rfl | (simp only [List.length_cons, List.length_nil]; omega)) (by first | assumption | omega | rfl | (simp only [List.length_cons, List.length_nil]; omega))) ?_; intro _ _ _ _ _)
    | (refine ArgF.src (c_spec_l00Src_pick _ _ _ _ (by first | assumption | omega | rfl | (simp only [List.length_cons, List.length_nil]; omega)) (by first | assumption | omega | rfl | (simp only [List.length_cons, List.length_nil]; omega)) (by first | assumption | omega | rfl | (simp only [List.length_cons, List.length_nil]; omega))) ?_; intro _ _ _ _ _)
    | refine ArgF.is (c_spec_l06DrawOk ..) ?_
    | refine ArgQ.is (fun hG => c_spec_l06DrawOk ..) rfl rfl ?_
    | (refine ArgF.src (c_spec_l06Draw _ _ _ (by first | assumption | omega | rfl | (simp only [List.length_cons, List.length_nil]; omega)) (by first | assumption | omega | rfl | (simp only [List.length_cons, List.length_nil]; omega))) ?_; intro _ _ _ _ _)
    | (refine ArgF.srw (c_spec_l00Src_among _ _ _ _ _ (by first | assumption | omega | rfl | (simp only [List.length_cons, List.length_nil]; omega)) (by first | assumption | omega | rfl | (simp only [List.length_cons, List.length_nil]; omega)) (by first | assumption | omega | rfl | (simp only [List.length_cons, List.length_nil]; omega)) (by first | assumption | omega | rfl | (simp only [List.length_cons, List.length_nil]; omega))) ?_; intro _ _ _ _ _)
    | refine ArgF.is (c_spec_l01Dec _ (by first | assumption | omega)) ?_
    | refine ArgQ.is (fun hG => c_spec_l01Dec _ (by first | assumption | omega)) rfl rfl ?_
    | refine CallF.own (f := 16) [0, 1] false ?_
    | refine CallF.own (f := 29) [0] false ?_
    | refine CallF.own (f := 34) [0] false ?_
    | refine CallF.own (f := 84) [0] false ?_
    | refine CallF.mk (CallW.is [] true rfl ?_)
    | refine CallG.mk ?_
    | (refine CondF.mk (fun hb => ?_) (fun hb => ?_) <;> try simp only [forall_const, eq_self, not_true_eq_false, not_false_eq_true, or_false, false_or, or_self, or_true, true_or, and_true, true_and, and_false, false_and, decide_true, decide_false, Bool.not_true, Bool.not_false, decide_eq_true_eq, decide_eq_false_iff_not, ite_and_p, ite_or_p, Bool.decide_eq_true, Bool.and_eq_true, Bool.or_eq_true, Bool.not_eq_true', Bool.not_eq_false', Bool.and_eq_false_imp, Bool.or_eq_false_iff, bne_iff_ne, beq_iff_eq, bne_eq_false_iff_eq, beq_eq_false_iff_ne, gt_iff_lt, ge_iff_le, Int.not_lt, Int.not_le, ne_eq, Bool.true_eq_false, Bool.false_eq_true, reduceCtorEq, eta_Airway, eta_Fan, eta_Mine] at hb)
    | apply BackF.auto6
    | apply BackF.auto5
    | refine BackB.mk ?_ ?_
    | refine RetF.auto (And.intro rfl ?_)
    | exact Is.mk rfl rfl
    | refine Is.mk ?_ rfl
    | refine Is.mk rfl ?_
    | refine Is.mk ?_ ?_
  all_goals try exact ()
  all_goals try dsimp only
  all_goals first
    | omega
    | exact ⟨by omega, by omega, rfl, by simp, by omega, by omega⟩
    | exact ⟨by omega, by omega, k2, by omega, by omega, by omega⟩
    | exact ⟨by omega, by omega, by rw [List.length_append, List.length_singleton]; omega, by omega, by omega, by omega⟩
    | exact ⟨by rw [List.length_append, List.length_singleton]; omega, by omega⟩
    | (rw [List.length_append, List.length_singleton]; omega)
    | exact ⟨by omega, by omega⟩
    | skip
end Go.Proofs.YtdhkpmaanegjkaaGreat
