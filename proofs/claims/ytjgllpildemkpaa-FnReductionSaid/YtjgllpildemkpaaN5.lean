/- Contracts of functions of the program, and what they compute. Conditions: those that each theorem states. -/
import Derived.Test.YtjgllpildemkpaaProg
import Derived.Test.YtjgllpildemkpaaN5p
set_option linter.unusedVariables false
set_option linter.unusedSimpArgs false
namespace Go.Proofs.Ytjgllpildemkpaa
open Go.Av
attribute [local irreducible] Go.IntKind.wrap leastI rdZ rd rootI sumT selI lostE deadE cutE parI joinsE atE
set_option maxRecDepth 20000
set_option maxHeartbeats 8000000

/-! The reduction of a mine: airways end to end. -/
theorem c_impl_reduction_joinEnds (x y J : Int) (n : Nat) (ys : List GEdge) (f : Bool) (hn : n ≤ ys.length ∧ ys.length ≤ 24) (hJ : 0 ≤ J ∧ J ≤ 1000) (ho : okE J (ys.take n)) : FnSem Try.prog 127 [.own 0 0, In J] [redO x y 1 n f, RwE ys] (StepR x y ys.length (enS (termT x y) J f (ys.take n))) := by
  have hl : (ys.take n).length = n := by rw [List.length_take]; omega
  have hg := fun (i : Int) (a : 0 ≤ i) (b : i < n) => gE_take (ys := ys) a b
  have hq := fun (i : Int) (a : 0 ≤ i) (b : i < n) => okE_at ho a (by rw [hl]; exact b)
  have ha : ∀ j : Int, ((atE (ys.take n) j).length : Int) = 2 → ∀ k : Nat, k < 2 → 0 ≤ (atE (ys.take n) j).getD k 0 ∧ (atE (ys.take n) j).getD k 0 < n := fun j h k hk => by
    have q := at_b (es := ys.take n) (j := j) (by omega) k hk
    exact ⟨q.1, by have := q.2.1; omega⟩
  have hQ : ∀ j : Int, ((atE (ys.take n) j).length : Int) = 2 → ∀ k : Nat, k < 2 → (0 ≤ (ys.getD ((atE (ys.take n) j).getD k 0).toNat default).a ∧ (ys.getD ((atE (ys.take n) j).getD k 0).toNat default).a < J) ∧ (0 ≤ (ys.getD ((atE (ys.take n) j).getD k 0).toNat default).b ∧ (ys.getD ((atE (ys.take n) j).getD k 0).toNat default).b < J) ∧ 1 ≤ (ys.getD ((atE (ys.take n) j).getD k 0).toNat default).resistance ∧ (ys.getD ((atE (ys.take n) j).getD k 0).toNat default).resistance ≤ 1000000 := fun j h k hk => by
    have q := ha j h k hk
    have q2 := hq _ q.1 q.2
    rwa [hg _ q.1 q.2] at q2
  refine FnSem.walk (zs := zeroPV Try.prog) (by kernel_rfl) Try.func127 rfl Try.results127 (by kernel_rfl) (by kernel_rfl) (by kernel_rfl) fun hw hh => ?_
  obtain ⟨w0, w1, _⟩ := hw
  first | replace w0 := wfr_Reduction w0 | skip
  first | replace w1 := wf_I w1 | skip
  repeat' first
    | refine And.intro rfl ?_
    | refine GdF.mk (fun h => h) ?_
    | refine And.intro (Nat.succ_ne_zero _) ?_
    | refine And.intro (Nat.le_of_ble_eq_true rfl) ?_
    | (refine SeqF.cutfix (a := codeF _ _ _ (.region 6 _ _)) [0, 5, 6] [0, 1, 2] Unit (fun _ => True) (fun _ => [(7, .own 3 0), (8, .own 4 0)]) (fun _ => [redO x y 1 n f, RwE ys, Rw .flat (eI 0) ((atE (ys.take n) j).map eI), .fix [In (ys.getD ((atE (ys.take n) j).getD 0 0).toNat default).a, In (ys.getD ((atE (ys.take n) j).getD 0 0).toNat default).b, In (ys.getD ((atE (ys.take n) j).getD 0 0).toNat default).resistance], .fix [In (ys.getD ((atE (ys.take n) j).getD 1 0).toNat default).a, In (ys.getD ((atE (ys.take n) j).getD 1 0).toNat default).b, In (ys.getD ((atE (ys.take n) j).getD 1 0).toNat default).resistance]]) ?_ ?_; rotate_left; rintro ⟨⟩ _; rotate_left)
    | refine FitF.auto () ?_
    | refine SeqF.run ?_
    | refine OpH.heap ?_
    | refine BndF.mk (fun _ => ⟨(ha j hb.2 0 (by omega)).1, (ha j hb.2 0 (by omega)).2⟩) ?_
    | refine BndF.mk (fun _ => ⟨(ha j hb.2 1 (by omega)).1, (ha j hb.2 1 (by omega)).2⟩) ?_
    | refine BndF.mk (fun _ => by have a1 := ha j hb.2 0 (by omega); have a2 := ha j hb.2 1 (by omega); rw [List.length_map]; omega) ?_
    | refine EqN.mk ((atE (ys.take n) j).getD 0 0).toNat (Nat.zero_add _) ?_
    | refine EqN.mk ((atE (ys.take n) j).getD 1 0).toNat (Nat.zero_add _) ?_
    | refine EqI.mk _ (fun _ => by have a1 := hQ j hb.2 0 (by omega); have a2 := hQ j hb.2 1 (by omega); exact wrapI (by omega) (by omega)) ?_
    | refine EqI.mk ((atE (ys.take n) j).getD 1 0 + 1) (fun _ => by have a4 := ha j hb.2 1 (by omega); show IntKind.i64.wrap ((atE (ys.take n) j).getD 1 0 + 1) = _; exact wrapI (by omega) (by omega)) ?_
    | refine GhF.held 6 rfl [(18, []), (19, []), (20, []), (21, [])] ?_
    | refine GhF.held 8 rfl [(12, [1]), (15, [0])] ?_
    | refine EqL.mk ((ys.take n).map GEdge.cells) (by rw [List.map_take]; rfl) ?_
    | refine ArgF.is (c_impl_reduction_at x y j (ys.take n) f (by omega)) ?_
    | refine ArgQ.is (fun hG => c_impl_reduction_at x y j (ys.take n) f (by omega)) rfl rfl ?_
    | refine EqL.mk _ (st GEdge.cells (v := ⟨(ys.getD ((atE (ys.take n) j).getD 0 0).toNat default).a + (ys.getD ((atE (ys.take n) j).getD 0 0).toNat default).b - j, (ys.getD ((atE (ys.take n) j).getD 1 0).toNat default).a + (ys.getD ((atE (ys.take n) j).getD 1 0).toNat default).b - j, (ys.getD ((atE (ys.take n) j).getD 0 0).toNat default).resistance + (ys.getD ((atE (ys.take n) j).getD 1 0).toNat default).resistance⟩)) ?_
    | (refine ArgF.ret (c_slices_Delete_impl_edge_impl_edge n ((atE (ys.take n) j).getD 1 0) (ys.set ((atE (ys.take n) j).getD 0 0).toNat ⟨(ys.getD ((atE (ys.take n) j).getD 0 0).toNat default).a + (ys.getD ((atE (ys.take n) j).getD 0 0).toNat default).b - j, (ys.getD ((atE (ys.take n) j).getD 1 0).toNat default).a + (ys.getD ((atE (ys.take n) j).getD 1 0).toNat default).b - j, (ys.getD ((atE (ys.take n) j).getD 0 0).toNat default).resistance + (ys.getD ((atE (ys.take n) j).getD 1 0).toNat default).resistance⟩) (ha j hb.2 1 (by omega)).1 (ha j hb.2 1 (by omega)).2 (by rw [List.length_set]; omega) (by omega)) ?_; rintro zs ⟨e1, e2⟩; rw [List.length_set] at e1)
    | refine CallF.own (f := 221) [0] false ?_
    | refine LoopF.at 2 rfl (LoopF.fix [0, 9] (Int) (fun j => 0 ≤ j ∧ j ≤ J ∧ ∀ m, 0 ≤ m → m < j → endP (termT x y) (ys.take n) m = false) (fun j => [(10, In j)]) (fun j => []) (fun j => ((J - j).toNat)) (0) ?_)
    | (refine LoopB.of (T := Int) ?_ ?_; rotate_left; rintro j ⟨h0, h1, h2⟩; rotate_left)
    | refine StepR.mk _ _ _ _ rfl rfl ?_ ?_
    | refine HdF.at 21 rfl 0 [] (And.intro (by decide +kernel) (And.intro rfl ?_))
    | refine HdF.at 20 rfl 1 [] (And.intro (by decide +kernel) (And.intro rfl ?_))
    | refine HdF.at 19 rfl 2 [] (And.intro (by decide +kernel) (And.intro rfl ?_))
    | refine HdF.at 18 rfl 3 [7, 8, 20, 21] (And.intro (by decide +kernel) (And.intro rfl ?_))
    | refine HdF.at 17 rfl 4 [] (And.intro (by decide +kernel) (And.intro rfl ?_))
    | refine HdF.at 16 rfl 5 [] (And.intro (by decide +kernel) (And.intro rfl ?_))
    | refine HdF.at 15 rfl 6 [7, 8, 20, 21] (And.intro (by decide +kernel) (And.intro rfl ?_))
    | refine HdF.at 14 rfl 7 [] (And.intro (by decide +kernel) (And.intro rfl ?_))
    | refine HdF.at 13 rfl 8 [20, 21] (And.intro (by decide +kernel) (And.intro rfl ?_))
    | refine HdF.at 12 rfl 9 [] (And.intro (by decide +kernel) (And.intro rfl ?_))
    | refine HdF.at 11 rfl 10 [] (And.intro (by decide +kernel) (And.intro rfl ?_))
    | refine HdF.at 10 rfl 11 [] (And.intro (by decide +kernel) (And.intro rfl ?_))
    | refine HdF.at 9 rfl 12 [16, 17, 21] (And.intro (by decide +kernel) (And.intro rfl ?_))
    | refine HdF.at 8 rfl 13 [] (And.intro (by decide +kernel) (And.intro rfl ?_))
    | refine HdF.at 7 rfl 14 [] (And.intro (by decide +kernel) (And.intro rfl ?_))
    | refine HdF.at 6 rfl 15 [16, 17, 21] (And.intro (by decide +kernel) (And.intro rfl ?_))
    | refine HdF.at 5 rfl 16 [] (And.intro (by decide +kernel) (And.intro rfl ?_))
    | refine HdF.at 4 rfl 17 [21] (And.intro (by decide +kernel) (And.intro rfl ?_))
    | refine HdF.goAt 3 rfl ?_
    | refine OrdL.ord ?_
    | refine OrdF.all [21] (by decide +kernel) ?_
    | refine OrdF.all [20] (by decide +kernel) ?_
    | refine OrdF.all [18] (by decide +kernel) ?_
    | refine OrdF.all [19] (by decide +kernel) ?_
    | refine OrdF.all [18, 19] (by decide +kernel) ?_
    | refine OrdF.fin (by decide +kernel) ?_
    | refine AllF.one _ ?_
    | refine AllF.cons _ _ ?_ ?_
    | refine OpH.quiet rfl ?_
    | refine OpH.heap ?_
    | refine HdF.at 15 rfl 0 [] (And.intro (by decide +kernel) (And.intro rfl ?_))
    | refine HdF.at 14 rfl 1 [] (And.intro (by decide +kernel) (And.intro rfl ?_))
    | refine HdF.at 13 rfl 2 [] (And.intro (by decide +kernel) (And.intro rfl ?_))
    | refine HdF.at 12 rfl 3 [] (And.intro (by decide +kernel) (And.intro rfl ?_))
    | refine HdF.at 11 rfl 4 [12, 13, 14, 15] (And.intro (by decide +kernel) (And.intro rfl ?_))
    | refine HdF.at 10 rfl 5 [] (And.intro (by decide +kernel) (And.intro rfl ?_))
    | refine HdF.at 9 rfl 6 [] (And.intro (by decide +kernel) (And.intro rfl ?_))
    | refine HdF.at 8 rfl 7 [12, 13, 14, 15] (And.intro (by decide +kernel) (And.intro rfl ?_))
    | refine HdF.at 7 rfl 8 [] (And.intro (by decide +kernel) (And.intro rfl ?_))
    | refine HdF.at 6 rfl 9 [] (And.intro (by decide +kernel) (And.intro rfl ?_))
    | refine HdF.at 5 rfl 10 [11, 12, 13, 14, 15] (And.intro (by decide +kernel) (And.intro rfl ?_))
    | refine HdF.at 4 rfl 11 [] (And.intro (by decide +kernel) (And.intro rfl ?_))
    | refine HdF.goAt 3 rfl ?_
    | refine OrdL.ord ?_
    | refine OrdF.take 13 (by decide +kernel) (And.intro rfl ?_)
    | refine OrdF.take 14 (by decide +kernel) (And.intro rfl ?_)
    | refine OrdF.all [15] (by decide +kernel) ?_
    | refine OrdF.all [12] (by decide +kernel) ?_
    | refine OrdF.fin (by decide +kernel) ?_
    | refine AllF.one _ ?_
    | refine AllF.cons _ _ ?_ ?_
    | refine OpH.quiet rfl ?_
    | refine OpH.heap ?_
    | refine GhF.go ?_
    | refine GdS.keep ?_
    | refine DrawG.old (DrawF.lex (by decide +kernel) ?_)
    | refine DrawG.old (DrawF.any ?_)
    | refine OrdF.take 0 (by decide +kernel) ?_
    | refine OrdF.take 1 (by decide +kernel) ?_
    | refine OrdF.take 2 (by decide +kernel) ?_
    | refine OrdF.take 4 (by decide +kernel) ?_
    | refine OrdF.take 5 (by decide +kernel) ?_
    | refine OrdF.take 9 (by decide +kernel) ?_
    | refine OrdF.take 10 (by decide +kernel) ?_
    | refine OrdF.take 11 (by decide +kernel) ?_
    | refine OrdF.take 13 (by decide +kernel) ?_
    | refine OrdF.take 14 (by decide +kernel) ?_
    | refine OrdF.take 16 (by decide +kernel) ?_
    | refine OrdF.take 7 (by decide +kernel) ?_
    | refine OrdF.take 3 (by decide +kernel) ?_
    | refine OrdF.take 6 (by decide +kernel) ?_
    | refine OrdF.take 8 (by decide +kernel) ?_
    | refine OrdF.all [21] (by decide +kernel) ?_
    | refine OrdF.all [20] (by decide +kernel) ?_
    | refine OrdF.all [8] (by decide +kernel) ?_
    | refine OrdF.all [3] (by decide +kernel) ?_
    | refine OrdF.all [6] (by decide +kernel) ?_
    | refine OrdF.all [3, 6] (by decide +kernel) ?_
    | refine OrdF.all [17] (by decide +kernel) ?_
    | refine OrdF.all [17, 20] (by decide +kernel) ?_
    | refine OrdF.all [8, 17] (by decide +kernel) ?_
    | refine OrdF.all [3, 17] (by decide +kernel) ?_
    | refine OrdF.all [6, 17] (by decide +kernel) ?_
    | refine OrdF.all [3, 6, 17] (by decide +kernel) ?_
    | refine OrdF.all [12] (by decide +kernel) ?_
    | refine OrdF.all [12, 20] (by decide +kernel) ?_
    | refine OrdF.all [8, 12] (by decide +kernel) ?_
    | refine OrdF.all [3, 12] (by decide +kernel) ?_
    | refine OrdF.all [6, 12] (by decide +kernel) ?_
    | refine OrdF.all [3, 6, 12] (by decide +kernel) ?_
    | refine OrdF.all [15] (by decide +kernel) ?_
    | refine OrdF.all [15, 20] (by decide +kernel) ?_
    | refine OrdF.all [8, 15] (by decide +kernel) ?_
    | refine OrdF.all [3, 15] (by decide +kernel) ?_
    | refine OrdF.all [6, 15] (by decide +kernel) ?_
    | refine OrdF.all [3, 6, 15] (by decide +kernel) ?_
    | refine OrdF.all [12, 15] (by decide +kernel) ?_
    | refine OrdF.all [12, 15, 20] (by decide +kernel) ?_
    | refine OrdF.all [8, 12, 15] (by decide +kernel) ?_
    | refine OrdF.all [3, 12, 15] (by decide +kernel) ?_
    | refine OrdF.all [6, 12, 15] (by decide +kernel) ?_
    | refine OrdF.all [3, 6, 12, 15] (by decide +kernel) ?_
    | refine OrdF.all [18] (by decide +kernel) ?_
    | refine OrdF.all [8, 18] (by decide +kernel) ?_
    | refine OrdF.all [3, 18] (by decide +kernel) ?_
    | refine OrdF.all [6, 18] (by decide +kernel) ?_
    | refine OrdF.all [3, 6, 18] (by decide +kernel) ?_
    | refine OrdF.all [17, 18] (by decide +kernel) ?_
    | refine OrdF.all [8, 17, 18] (by decide +kernel) ?_
    | refine OrdF.all [3, 17, 18] (by decide +kernel) ?_
    | refine OrdF.all [6, 17, 18] (by decide +kernel) ?_
    | refine OrdF.all [3, 6, 17, 18] (by decide +kernel) ?_
    | refine OrdF.all [12, 18] (by decide +kernel) ?_
    | refine OrdF.all [8, 12, 18] (by decide +kernel) ?_
    | refine OrdF.all [3, 12, 18] (by decide +kernel) ?_
    | refine OrdF.all [6, 12, 18] (by decide +kernel) ?_
    | refine OrdF.all [3, 6, 12, 18] (by decide +kernel) ?_
    | refine OrdF.all [15, 18] (by decide +kernel) ?_
    | refine OrdF.all [8, 15, 18] (by decide +kernel) ?_
    | refine OrdF.all [3, 15, 18] (by decide +kernel) ?_
    | refine OrdF.all [6, 15, 18] (by decide +kernel) ?_
    | refine OrdF.all [3, 6, 15, 18] (by decide +kernel) ?_
    | refine OrdF.all [12, 15, 18] (by decide +kernel) ?_
    | refine OrdF.all [8, 12, 15, 18] (by decide +kernel) ?_
    | refine OrdF.all [3, 12, 15, 18] (by decide +kernel) ?_
    | refine OrdF.all [6, 12, 15, 18] (by decide +kernel) ?_
    | refine OrdF.all [3, 6, 12, 15, 18] (by decide +kernel) ?_
    | refine OrdF.all [19] (by decide +kernel) ?_
    | refine OrdF.all [8, 19] (by decide +kernel) ?_
    | refine OrdF.all [3, 19] (by decide +kernel) ?_
    | refine OrdF.all [6, 19] (by decide +kernel) ?_
    | refine OrdF.all [3, 6, 19] (by decide +kernel) ?_
    | refine OrdF.all [17, 19] (by decide +kernel) ?_
    | refine OrdF.all [8, 17, 19] (by decide +kernel) ?_
    | refine OrdF.all [3, 17, 19] (by decide +kernel) ?_
    | refine OrdF.all [6, 17, 19] (by decide +kernel) ?_
    | refine OrdF.all [3, 6, 17, 19] (by decide +kernel) ?_
    | refine OrdF.all [12, 19] (by decide +kernel) ?_
    | refine OrdF.all [8, 12, 19] (by decide +kernel) ?_
    | refine OrdF.all [3, 12, 19] (by decide +kernel) ?_
    | refine OrdF.all [6, 12, 19] (by decide +kernel) ?_
    | refine OrdF.all [3, 6, 12, 19] (by decide +kernel) ?_
    | refine OrdF.all [15, 19] (by decide +kernel) ?_
    | refine OrdF.all [8, 15, 19] (by decide +kernel) ?_
    | refine OrdF.all [3, 15, 19] (by decide +kernel) ?_
    | refine OrdF.all [6, 15, 19] (by decide +kernel) ?_
    | refine OrdF.all [3, 6, 15, 19] (by decide +kernel) ?_
    | refine OrdF.all [12, 15, 19] (by decide +kernel) ?_
    | refine OrdF.all [8, 12, 15, 19] (by decide +kernel) ?_
    | refine OrdF.all [3, 12, 15, 19] (by decide +kernel) ?_
    | refine OrdF.all [6, 12, 15, 19] (by decide +kernel) ?_
    | refine OrdF.all [3, 6, 12, 15, 19] (by decide +kernel) ?_
    | refine OrdF.all [18, 19] (by decide +kernel) ?_
    | refine OrdF.all [8, 18, 19] (by decide +kernel) ?_
    | refine OrdF.all [3, 18, 19] (by decide +kernel) ?_
    | refine OrdF.all [6, 18, 19] (by decide +kernel) ?_
    | refine OrdF.all [3, 6, 18, 19] (by decide +kernel) ?_
    | refine OrdF.all [17, 18, 19] (by decide +kernel) ?_
    | refine OrdF.all [8, 17, 18, 19] (by decide +kernel) ?_
    | refine OrdF.all [3, 17, 18, 19] (by decide +kernel) ?_
    | refine OrdF.all [6, 17, 18, 19] (by decide +kernel) ?_
    | refine OrdF.all [3, 6, 17, 18, 19] (by decide +kernel) ?_
    | refine OrdF.all [12, 18, 19] (by decide +kernel) ?_
    | refine OrdF.all [8, 12, 18, 19] (by decide +kernel) ?_
    | refine OrdF.all [3, 12, 18, 19] (by decide +kernel) ?_
    | refine OrdF.all [6, 12, 18, 19] (by decide +kernel) ?_
    | refine OrdF.all [3, 6, 12, 18, 19] (by decide +kernel) ?_
    | refine OrdF.all [15, 18, 19] (by decide +kernel) ?_
    | refine OrdF.all [8, 15, 18, 19] (by decide +kernel) ?_
    | refine OrdF.all [3, 15, 18, 19] (by decide +kernel) ?_
    | refine OrdF.all [6, 15, 18, 19] (by decide +kernel) ?_
    | refine OrdF.all [3, 6, 15, 18, 19] (by decide +kernel) ?_
    | refine OrdF.all [12, 15, 18, 19] (by decide +kernel) ?_
    | refine OrdF.all [8, 12, 15, 18, 19] (by decide +kernel) ?_
    | refine OrdF.all [3, 12, 15, 18, 19] (by decide +kernel) ?_
    | refine OrdF.all [6, 12, 15, 18, 19] (by decide +kernel) ?_
    | refine OrdF.all [3, 6, 12, 15, 18, 19] (by decide +kernel) ?_
    | refine OrdF.all [4] (by decide +kernel) ?_
    | refine OrdF.all [7] (by decide +kernel) ?_
    | refine OrdF.all [4, 7] (by decide +kernel) ?_
    | refine OrdF.all [10] (by decide +kernel) ?_
    | refine OrdF.all [4, 10] (by decide +kernel) ?_
    | refine OrdF.all [7, 10] (by decide +kernel) ?_
    | refine OrdF.all [4, 7, 10] (by decide +kernel) ?_
    | refine OrdF.fin (by decide +kernel) ?_
    | refine AllF.one _ ?_
    | refine AllF.cons _ _ ?_ ?_
    | refine EqP.mk _ (gm GEdge.cells default rfl) ?_
    | refine EqP.mk _ (gm eI 0 rfl) ?_
    | refine BndF.mk (fun _ => by omega) ?_
    | refine BndF.mk (fun _ => by simp only [List.length_map, List.length_cons, List.length_nil, List.length_append, List.length_set, List.length_replicate, iotaI_len]; omega) ?_
    | refine BndF.mk (fun hG => by simp only [forall_const, eq_self, not_true_eq_false, not_false_eq_true, or_false, false_or, or_self, or_true, true_or, and_true, true_and, and_false, false_and, decide_true, decide_false, Bool.not_true, Bool.not_false, decide_eq_true_eq, decide_eq_false_iff_not, ite_and_p, ite_or_p, Bool.decide_eq_true, Bool.and_eq_true, Bool.or_eq_true, Bool.not_eq_true', Bool.not_eq_false', Bool.and_eq_false_imp, Bool.or_eq_false_iff, bne_iff_ne, beq_iff_eq, bne_eq_false_iff_eq, beq_eq_false_iff_ne, gt_iff_lt, ge_iff_le, Int.not_lt, Int.not_le, ne_eq, Bool.true_eq_false, Bool.false_eq_true, reduceCtorEq, eta_Airway, eta_Door, eta_Fan, eta_Mine, bytes_nil] at hG; (try simp only [List.length_map]); omega) ?_
    | refine EqI.mk _ (fun _ => wrapI (by omega) (by omega)) ?_
    | refine EqI.mk _ (fun _ => rfl) ?_
    | refine EqN.mk _ (ln GEdge.cells) ?_
    | refine EqN.mk _ (ln eI) ?_
    | refine EqN.mk _ (Nat.zero_add _) ?_
    | refine EqN.mk _ (Int.toNat_natCast _) ?_
    | refine EqN.mk _ rfl ?_
    | refine EqL.mk _ (tk GEdge.cells (by first | rfl | assumption | omega | (simp only [List.length_map, List.length_cons, List.length_nil, List.length_append, List.length_set, List.length_replicate, iotaI_len]; done) | (simp only [List.length_map, List.length_cons, List.length_nil, List.length_append, List.length_set, List.length_replicate, iotaI_len]; omega))) ?_
    | refine EqL.mk _ (st GEdge.cells) ?_
    | refine EqL.mk _ (tk eI (by first | rfl | assumption | omega | (simp only [List.length_map, List.length_cons, List.length_nil, List.length_append, List.length_set, List.length_replicate, iotaI_len]; done) | (simp only [List.length_map, List.length_cons, List.length_nil, List.length_append, List.length_set, List.length_replicate, iotaI_len]; omega))) ?_
    | refine EqL.mk _ (st eI) ?_
    | refine EqL.mk [] rfl ?_
    | refine EqL.mk [_] rfl ?_
    | refine EqL.mk _ rfl ?_
    | refine ArgF.is (c_impl_reduction_at _ _ _ _ _ (by first | assumption | omega)) ?_
    | refine ArgQ.is (fun hG => c_impl_reduction_at _ _ _ _ _ (by first | assumption | omega)) rfl rfl ?_
    | refine ArgQ.is (fun hG => c_impl_reduction_at _ _ _ _ _ (by simp only [forall_const, eq_self, not_true_eq_false, not_false_eq_true, or_false, false_or, or_self, or_true, true_or, and_true, true_and, and_false, false_and, decide_true, decide_false, Bool.not_true, Bool.not_false, decide_eq_true_eq, decide_eq_false_iff_not, ite_and_p, ite_or_p, Bool.decide_eq_true, Bool.and_eq_true, Bool.or_eq_true, Bool.not_eq_true', Bool.not_eq_false', Bool.and_eq_false_imp, Bool.or_eq_false_iff, bne_iff_ne, beq_iff_eq, bne_eq_false_iff_eq, beq_eq_false_iff_ne, gt_iff_lt, ge_iff_le, Int.not_lt, Int.not_le, ne_eq, Bool.true_eq_false, Bool.false_eq_true, reduceCtorEq, eta_Airway, eta_Door, eta_Fan, eta_Mine, bytes_nil] at hG; omega)) rfl rfl ?_
    | refine ArgF.is (c_slices_Delete_impl_edge_impl_edge _ _ _ (by first | assumption | omega) (by first | assumption | omega) (by first | assumption | omega) (by first | assumption | omega)) ?_
    | refine ArgQ.is (fun hG => c_slices_Delete_impl_edge_impl_edge _ _ _ (by first | assumption | omega) (by first | assumption | omega) (by first | assumption | omega) (by first | assumption | omega)) rfl rfl ?_
    | refine ArgQ.is (fun hG => c_slices_Delete_impl_edge_impl_edge _ _ _ (by simp only [forall_const, eq_self, not_true_eq_false, not_false_eq_true, or_false, false_or, or_self, or_true, true_or, and_true, true_and, and_false, false_and, decide_true, decide_false, Bool.not_true, Bool.not_false, decide_eq_true_eq, decide_eq_false_iff_not, ite_and_p, ite_or_p, Bool.decide_eq_true, Bool.and_eq_true, Bool.or_eq_true, Bool.not_eq_true', Bool.not_eq_false', Bool.and_eq_false_imp, Bool.or_eq_false_iff, bne_iff_ne, beq_iff_eq, bne_eq_false_iff_eq, beq_eq_false_iff_ne, gt_iff_lt, ge_iff_le, Int.not_lt, Int.not_le, ne_eq, Bool.true_eq_false, Bool.false_eq_true, reduceCtorEq, eta_Airway, eta_Door, eta_Fan, eta_Mine, bytes_nil] at hG; omega) (by simp only [forall_const, eq_self, not_true_eq_false, not_false_eq_true, or_false, false_or, or_self, or_true, true_or, and_true, true_and, and_false, false_and, decide_true, decide_false, Bool.not_true, Bool.not_false, decide_eq_true_eq, decide_eq_false_iff_not, ite_and_p, ite_or_p, Bool.decide_eq_true, Bool.and_eq_true, Bool.or_eq_true, Bool.not_eq_true', Bool.not_eq_false', Bool.and_eq_false_imp, Bool.or_eq_false_iff, bne_iff_ne, beq_iff_eq, bne_eq_false_iff_eq, beq_eq_false_iff_ne, gt_iff_lt, ge_iff_le, Int.not_lt, Int.not_le, ne_eq, Bool.true_eq_false, Bool.false_eq_true, reduceCtorEq, eta_Airway, eta_Door, eta_Fan, eta_Mine, bytes_nil] at hG; omega) (by simp only [forall_const, eq_self, not_true_eq_false, not_false_eq_true, or_false, false_or, or_self, or_true, true_or, and_true, true_and, and_false, false_and, decide_true, decide_false, Bool.not_true, Bool.not_false, decide_eq_true_eq, decide_eq_false_iff_not, ite_and_p, ite_or_p, Bool.decide_eq_true, Bool.and_eq_true, Bool.or_eq_true, Bool.not_eq_true', Bool.not_eq_false', Bool.and_eq_false_imp, Bool.or_eq_false_iff, bne_iff_ne, beq_iff_eq, bne_eq_false_iff_eq, beq_eq_false_iff_ne, gt_iff_lt, ge_iff_le, Int.not_lt, Int.not_le, ne_eq, Bool.true_eq_false, Bool.false_eq_true, reduceCtorEq, eta_Airway, eta_Door, eta_Fan, eta_Mine, bytes_nil] at hG; omega) (by simp only [forall_const, eq_self, not_true_eq_false, not_false_eq_true, or_false, false_or, or_self, or_true, true_or, and_true, true_and, and_false, false_and, decide_true, decide_false, Bool.not_true, Bool.not_false, decide_eq_true_eq, decide_eq_false_iff_not, ite_and_p, ite_or_p, Bool.decide_eq_true, Bool.and_eq_true, Bool.or_eq_true, Bool.not_eq_true', Bool.not_eq_false', Bool.and_eq_false_imp, Bool.or_eq_false_iff, bne_iff_ne, beq_iff_eq, bne_eq_false_iff_eq, beq_eq_false_iff_ne, gt_iff_lt, ge_iff_le, Int.not_lt, Int.not_le, ne_eq, Bool.true_eq_false, Bool.false_eq_true, reduceCtorEq, eta_Airway, eta_Door, eta_Fan, eta_Mine, bytes_nil] at hG; omega)) rfl rfl ?_
    | refine CallF.own (f := 221) [0] true ?_
    | refine CallF.mk (CallW.is [] true rfl ?_)
    | refine CallG.mk ?_
    | (refine CondF.mk (fun hb => ?_) (fun hb => ?_) <;> try simp only [forall_const, eq_self, not_true_eq_false, not_false_eq_true, or_false, false_or, or_self, or_true, true_or, and_true, true_and, and_false, false_and, decide_true, decide_false, Bool.not_true, Bool.not_false, decide_eq_true_eq, decide_eq_false_iff_not, ite_and_p, ite_or_p, Bool.decide_eq_true, Bool.and_eq_true, Bool.or_eq_true, Bool.not_eq_true', Bool.not_eq_false', Bool.and_eq_false_imp, Bool.or_eq_false_iff, bne_iff_ne, beq_iff_eq, bne_eq_false_iff_eq, beq_eq_false_iff_ne, gt_iff_lt, ge_iff_le, Int.not_lt, Int.not_le, ne_eq, Bool.true_eq_false, Bool.false_eq_true, reduceCtorEq, eta_Airway, eta_Door, eta_Fan, eta_Mine] at hb)
    | apply BackF.auto
    | refine BackB.mk ?_ ?_
    | refine RetF.auto (And.intro rfl ?_)
    | exact Is.mk rfl rfl
    | refine Is.mk ?_ rfl
    | refine Is.mk rfl ?_
    | refine Is.mk ?_ ?_
  all_goals try dsimp only
  all_goals first
    | omega
    | exact ⟨by omega, by omega, fun m a b => absurd b (by omega)⟩
    | (refine ⟨by omega, by omega, fun m a b => ?_⟩
       by_cases e : m = j
       · subst e
         refine endP_f fun q => ?_
         rcases hb with (hb | hb) | hb
         · exact q.1.1 hb
         · exact q.1.2 hb
         · exact hb (by omega)
       · exact h2 m a (by omega))
    | (have e := enS_t (f := f) h0 (by omega) (endP_t (x := x) (y := y) (es := ys.take n) ⟨⟨fun q => hb.1 (.inl q), fun q => hb.1 (.inr q)⟩, by have := hb.2; omega⟩) h2
       rw [e, e2]
       have q0 := ha j hb.2 0 (by omega)
       have q1 := ha j hb.2 1 (by omega)
       unfold endF endS endX endY
       rw [hg _ q0.1 q0.2, hg _ q1.1 q1.2, List.take_set])
    | (rw [enS_f hJ.1 (fun m a b => h2 m a (by omega))])
    | skip
end Go.Proofs.Ytjgllpildemkpaa
