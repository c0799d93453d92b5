/- Contracts of functions of the program, and what they compute. Conditions: those that each theorem states. -/
import Derived.Test.YtdhkpmaanegjkaaProg
import Derived.Test.YtdhkpmaanegjkaaO0
import Derived.Test.YtdhkpmaanegjkaaR2
set_option linter.unusedVariables false
set_option linter.unusedSimpArgs false
namespace Go.Proofs.Ytdhkpmaanegjkaa
open Go.Av
attribute [local irreducible] Go.IntKind.wrap leastI rdZ rd rootI rawA okMine
set_option maxRecDepth 20000
set_option maxHeartbeats 16000000

/-! Fans that are drawn. -/
/-- points drawn so far: the next flow, the next pressure -/
structure crI (cs : List (List Int)) (q p : Int) : Prop where
  pt : ∀ k : Nat, k < cs.length → (cs.getD k []).length = 2 ∧ (0 ≤ (cs.getD k []).getD 0 0 ∧ (cs.getD k []).getD 0 0 < q) ∧ (p ≤ (cs.getD k []).getD 1 0 ∧ 0 ≤ (cs.getD k []).getD 1 0 ∧ (cs.getD k []).getD 1 0 ≤ 10000)
  so : ∀ k : Nat, 0 < k → k < cs.length → (cs.getD (k - 1) []).getD 0 0 < (cs.getD k []).getD 0 0 ∧ (cs.getD k []).getD 1 0 ≤ (cs.getD (k - 1) []).getD 1 0
theorem crI_0 {q p : Int} : crI [] q p := ⟨fun k hk => absurd hk (by simp), fun k _ hk => absurd hk (by simp)⟩
theorem crI_a {cs : List (List Int)} {q p q' p' : Int} (h : crI cs q p) (h0 : 0 ≤ q) (hp : 0 ≤ p ∧ p ≤ 10000) (hq' : q < q') (hp' : p' ≤ p) : crI (cs ++ [[q, p]]) q' p' := by
  refine ⟨fun k hk => ?_, fun k h1 hk => ?_⟩
  all_goals rw [List.length_append, List.length_singleton] at hk
  · by_cases e : k < cs.length
    · rw [getS e]; have := h.pt k e; omega
    · rw [show k = cs.length by omega, getE]
      exact ⟨rfl, by show 0 ≤ q ∧ q < q'; omega, by show p' ≤ p ∧ 0 ≤ p ∧ p ≤ 10000; omega⟩
  · by_cases e : k < cs.length
    · rw [getS e, getS (by omega)]; exact h.so k h1 e
    · rw [show k = cs.length by omega, getE, getS (by omega)]
      have := h.pt (cs.length - 1) (by omega)
      exact ⟨by show _ < q; omega, by show p ≤ _; omega⟩
theorem crI_ok {cs : List (List Int)} {q p : Int} (h : crI cs q p) (hl : 2 ≤ cs.length ∧ cs.length ≤ 5) (hq : q ≤ 100001) : okCur cs :=
  ⟨by omega, fun k hk => by have := h.pt k hk; omega, h.so⟩
--@fn spec.l06DrawOk
theorem drFan (c : List Int) (p s : Int) (id : ByteArray) (a : Int) (hc : bytes c) (hp : 0 ≤ p ∧ p ≤ 50000000) : FnSem Try.prog 34 [.own 0 0, Str id, In a] [srcO c p s] (SrcV (fun f : GFan => [.p .fresh (.agg f.cells)]) (fun f => f.id = id ∧ f.airway = a ∧ okCur f.curve) c 40 p) := by
  refine FnSem.walk (zs := zeroPV Try.prog) (by kernel_rfl) Try.func34 rfl Try.results34 (by kernel_rfl) (by kernel_rfl) (by kernel_rfl) fun hw hh => ?_
  obtain ⟨w0, w1, w2, _⟩ := hw
  first | replace w0 := wfr_L00Src w0 | skip
  first | replace w1 := wf_S w1 | skip
  first | replace w2 := wf_I w2 | skip
  repeat' first
    | refine And.intro rfl ?_
    | refine GdF.mk (fun h => h) ?_
    | refine And.intro (Nat.succ_ne_zero _) ?_
    | refine And.intro (Nat.le_of_ble_eq_true rfl) ?_
    | refine SeqF.run ?_
    | refine GhF.at 2 rfl [.nilr 2 2 (eI 0)] ?_
    | refine GhF.at 10 rfl [.fzc 3 2 2] ?_
    | refine MkF.rows ?_
    | refine EqR.mk [] rfl ?_
    | refine EqR.mk _ apR ?_
    | refine EqL.mk (List.map eI [x, y]) rfl ?_
    | refine EqR.mk (List.map eR [[x, y]]) rfl ?_
    | refine EqR.mk (List.map eR [[x, y]]) (by simp) ?_
    | refine EqL.mk (cs.map eLI) (tkRows n1) ?_
    | (refine ArgF.srw (c_spec_l00Src_among _ _ _ [0, 0, 500] 3 hc (by omega) (by omega) rfl) ?_; intro x0 pa sa hx0 hpa; simp only [List.mem_cons, List.not_mem_nil, or_false] at hx0)
    | (refine ArgF.srw (c_spec_l00Src_among _ _ _ [0, 100, 400, 900, 37] 5 hc (by omega) (by omega) rfl) ?_; intro w pw sw hw hpw; simp only [List.mem_cons, List.not_mem_nil, or_false] at hw)
    | refine SrcV.mk (α := GFan) ⟨id, a, cs⟩ _ _ rfl rfl ?_ ?_
    | (rename_i y0 pb sb _ _ v2 pc sc _ _; refine LoopF.at 5 rfl (LoopF.fix [0, 6, 7] (Int × Int × Int × Nat × List (List Int) × Int × Int) (fun (k, x, y, n, cs, q, t) => -1 ≤ k ∧ k ≤ 4 ∧ n = cs.length ∧ crI cs x y ∧ (0 ≤ x ∧ x ≤ 500 + 8499 * n) ∧ (0 ≤ y ∧ y ≤ 3300) ∧ (n : Int) + k + 1 = v2 + 2 ∧ (p ≤ q ∧ q ≤ p + 6 + 4 * n)) (fun (k, x, y, n, cs, q, t) => [(10, In k), (8, In x), (9, In y)]) (fun (k, x, y, n, cs, q, t) => [(0, srcO c q t), (2, .fix [Str id, In a, .osl 3 0 n]), (3, .rows true .flat (eI 0) (cs.map eR) none)]) (fun (k, x, y, n, cs, q, t) => ((k + 1).toNat)) ((1 + v2, x0, 800 + y0, 0, [], pc, sc)) ?_))
    | (refine LoopB.of (T := Int × Int × Int × Nat × List (List Int) × Int × Int) ?_ ?_; rotate_left; rintro ⟨k, x, y, n, cs, q, t⟩ ⟨k0, k1, n1, c1, x1, y1, z1, q1⟩; rotate_left)
    | refine GhF.go ?_
    | refine BndF.mk (fun _ => ⟨rfl, by first | rfl | omega | (simp only [List.length_map, List.length_cons, List.length_nil, List.length_append, List.length_set, List.length_replicate]; first | done | omega)⟩) ?_
    | refine MkF.row ?_
    | refine BndF.mk (fun _ => by omega) ?_
    | refine BndF.mk (fun _ => by simp only [List.length_map, List.length_cons, List.length_nil, List.length_append, List.length_set, List.length_replicate, iotaI_len]; omega) ?_
    | refine EqI.mk _ (fun _ => wrapI (by omega) (by omega)) ?_
    | refine EqI.mk _ (fun _ => rfl) ?_
    | refine FlF.keep ?_
    | refine EqN.mk _ (Nat.zero_add _) ?_
    | refine EqN.mk (_ + 1) rfl ?_
    | refine EqN.mk _ (Int.toNat_natCast _) ?_
    | refine EqN.mk _ rfl ?_
    | refine EqL.mk _ (sn0 eLI) ?_
    | refine EqL.mk _ (sn eLI (by first | rfl | assumption | omega | (simp only [List.length_map, List.length_cons, List.length_nil, List.length_append, List.length_set, List.length_replicate, iotaI_len]; done) | (simp only [List.length_map, List.length_cons, List.length_nil, List.length_append, List.length_set, List.length_replicate, iotaI_len]; omega))) ?_
    | refine EqL.mk _ (ap0 eLI) ?_
    | refine EqL.mk _ (ap eLI (by first | rfl | assumption | omega | (simp only [List.length_map, List.length_cons, List.length_nil, List.length_append, List.length_set, List.length_replicate, iotaI_len]; done) | (simp only [List.length_map, List.length_cons, List.length_nil, List.length_append, List.length_set, List.length_replicate, iotaI_len]; omega))) ?_
    | refine EqL.mk _ (tk eLI (by first | rfl | assumption | omega | (simp only [List.length_map, List.length_cons, List.length_nil, List.length_append, List.length_set, List.length_replicate, iotaI_len]; done) | (simp only [List.length_map, List.length_cons, List.length_nil, List.length_append, List.length_set, List.length_replicate, iotaI_len]; omega))) ?_
    | refine EqL.mk _ (st eLI) ?_
    | refine EqL.mk _ (sn0 eI) ?_
    | refine EqL.mk _ (sn eI (by first | rfl | assumption | omega | (simp only [List.length_map, List.length_cons, List.length_nil, List.length_append, List.length_set, List.length_replicate, iotaI_len]; done) | (simp only [List.length_map, List.length_cons, List.length_nil, List.length_append, List.length_set, List.length_replicate, iotaI_len]; omega))) ?_
    | refine EqL.mk _ (ap0 eI) ?_
    | refine EqL.mk _ (ap eI (by first | rfl | assumption | omega | (simp only [List.length_map, List.length_cons, List.length_nil, List.length_append, List.length_set, List.length_replicate, iotaI_len]; done) | (simp only [List.length_map, List.length_cons, List.length_nil, List.length_append, List.length_set, List.length_replicate, iotaI_len]; omega))) ?_
    | refine EqL.mk _ (tk eI (by first | rfl | assumption | omega | (simp only [List.length_map, List.length_cons, List.length_nil, List.length_append, List.length_set, List.length_replicate, iotaI_len]; done) | (simp only [List.length_map, List.length_cons, List.length_nil, List.length_append, List.length_set, List.length_replicate, iotaI_len]; omega))) ?_
    | refine EqL.mk _ (st eI) ?_
    | refine EqL.mk (List.map eI [_, _]) rfl ?_
    | refine EqL.mk (List.map eI [_, _, _]) rfl ?_
    | refine EqL.mk (List.map eI [_, _, _, _, _]) rfl ?_
    | refine EqL.mk [] rfl ?_
    | refine EqL.mk [_] rfl ?_
    | refine EqL.mk _ rfl ?_
    | (refine ArgF.srw (c_spec_l00Src_among _ _ _ _ _ (by first | assumption | omega | rfl | (simp only [List.length_cons, List.length_nil]; omega)) (by first | assumption | omega | rfl | (simp only [List.length_cons, List.length_nil]; omega)) (by first | assumption | omega | rfl | (simp only [List.length_cons, List.length_nil]; omega)) (by first | assumption | omega | rfl | (simp only [List.length_cons, List.length_nil]; omega))) ?_; intro _ _ _ _ _)
    | (refine ArgF.src (c_spec_l00Src_pick _ _ _ _ (by first | assumption | omega | rfl | (simp only [List.length_cons, List.length_nil]; omega)) (by first | assumption | omega | rfl | (simp only [List.length_cons, List.length_nil]; omega)) (by first | assumption | omega | rfl | (simp only [List.length_cons, List.length_nil]; omega))) ?_; intro _ _ _ _ _)
    | refine ArgF.is (c_spec_l00Max ..) ?_
    | refine ArgQ.is (fun hG => c_spec_l00Max ..) rfl rfl ?_
    | refine CallF.own (f := 26) [0, 1] false ?_
    | refine CallF.own (f := 27) [0] false ?_
    | refine CallF.mk (CallW.is [] true rfl ?_)
    | refine CallG.mk ?_
    | (refine CondF.mk (fun hb => ?_) (fun hb => ?_) <;> try simp only [forall_const, eq_self, not_true_eq_false, not_false_eq_true, or_false, false_or, or_self, or_true, true_or, and_true, true_and, and_false, false_and, decide_true, decide_false, Bool.not_true, Bool.not_false, decide_eq_true_eq, decide_eq_false_iff_not, ite_and_p, ite_or_p, Bool.decide_eq_true, Bool.and_eq_true, Bool.or_eq_true, Bool.not_eq_true', Bool.not_eq_false', Bool.and_eq_false_imp, Bool.or_eq_false_iff, bne_iff_ne, beq_iff_eq, bne_eq_false_iff_eq, beq_eq_false_iff_ne, gt_iff_lt, ge_iff_le, Int.not_lt, Int.not_le, ne_eq, Bool.true_eq_false, Bool.false_eq_true, reduceCtorEq, eta_Fan] at hb)
    | apply BackF.auto7
    | refine BackB.mk ?_ ?_
    | refine RetF.auto (And.intro rfl ?_)
    | exact Is.mk rfl rfl
    | refine Is.mk ?_ rfl
    | refine Is.mk rfl ?_
    | refine Is.mk ?_ ?_
  all_goals try dsimp only
  all_goals first
    | omega
    | exact ⟨by omega, by omega, rfl, crI_0, by omega, by omega, by omega, by omega, by omega⟩
    | exact ⟨rfl, rfl, crI_ok c1 (by omega) (by omega)⟩
    | exact crI_ok c1 (by omega) (by omega)
    | exact ⟨by omega, by omega, by simp [n1], crI_a c1 (by omega) (by omega) (by omega) (by omega), by omega, by omega, by omega, by omega, by omega⟩
    | skip
end Go.Proofs.Ytdhkpmaanegjkaa
