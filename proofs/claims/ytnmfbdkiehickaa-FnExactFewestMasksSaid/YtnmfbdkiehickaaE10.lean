/- Contracts of functions of the program, and what they compute. Conditions: those that each theorem states. -/
import Derived.Test.YtnmfbdkiehickaaProg
import Derived.Test.YtnmfbdkiehickaaE9
set_option linter.unusedVariables false
set_option linter.unusedSimpArgs false
namespace Go.Proofs.Ytnmfbdkiehickaa
open Go.Av
attribute [local irreducible] Go.IntKind.wrap dTo okDusts okStays okDust okStay dS dAt expo sumI lessI ext extL fstL fstSet masked expos okMasks masks upF
set_option maxRecDepth 20000
set_option maxHeartbeats 8000000

theorem ext_tl {L : List Int} {right : List Int → Bool} : ∀ (m i : Nat) (b : Int) (s : List Int), (ext L right m i b s).1 = true → (ext L right m i b s).2.2.length = s.length + m
  | 0, i, b, s, _ => by rw [ext_0 rfl]; rfl
  | m + 1, i, b, s, h => by
    rw [ext_s (by omega)] at h ⊢
    simp only [Nat.add_sub_cancel] at h ⊢
    generalize L.length - m - i = k at h ⊢
    induction k generalizing i b with
    | zero => rw [extL_0 rfl] at h; cases h
    | succ k ihk =>
      rw [extL_s (by omega)] at h ⊢
      by_cases h1 : (ext L right m (i + 1) b (s ++ [L.getD i 0])).1 = true
      · rw [if_pos h1]
        rw [ext_tl m (i + 1) b _ h1]; simp; omega
      · rw [if_neg h1] at h ⊢
        by_cases h2 : (ext L right m (i + 1) b (s ++ [L.getD i 0])).2.1 < 0
        · rw [if_pos h2] at h; cases h
        · rw [if_neg h2] at h ⊢
          exact ihk _ _ h
section
variable {n : Nat} {right : List Int → Bool} {N nd nd2 B : Int} {b2 fu2 : Bool} {n2 : Nat} {ys2 : List Int} {x : List Int × Int}
theorem fs_t (k0 : 0 ≤ N) (hN : N ≤ n) (k4 : x = fstL (iotaI 0 n) right ((iotaI 0 n).length + 1 - N.toNat) N.toNat (B - nd)) (e1 : b2 = (ext (iotaI 0 n) right N.toNat (Int.toNat 0) (B - nd) []).1) (e5 : ys2.take n2 = (ext (iotaI 0 n) right N.toNat (Int.toNat 0) (B - nd) []).2.2) (hb : b2 = true) : x = (ys2.take n2, 0) ∧ (ys2.take n2).length = N.toNat := by
  refine ⟨fst_t k4 k0 (by rw [iotaI_len]; omega) e1 e5 hb, ?_⟩
  rw [e5, ext_tl _ _ _ _ (by rw [← e1]; exact hb)]; simp
theorem fs_f (k0 : 0 ≤ N) (hN : N ≤ n) (k4 : x = fstL (iotaI 0 n) right ((iotaI 0 n).length + 1 - N.toNat) N.toNat (B - nd)) (e1 : b2 = (ext (iotaI 0 n) right N.toNat (Int.toNat 0) (B - nd) []).1) (e3 : fu2 = decide ((ext (iotaI 0 n) right N.toNat (Int.toNat 0) (B - nd) []).2.1 < 0)) (hb : b2 = false) (hf : fu2 = true) : x = ([], 5) := by
  rw [hf] at e3
  exact fst_f k4 k0 (by rw [iotaI_len]; omega) e1 rfl hb (of_decide_eq_true e3.symm)
theorem fs_n (k0 : 0 ≤ N) (hN : N ≤ n) (hnd : 0 ≤ B - nd) (k4 : x = fstL (iotaI 0 n) right ((iotaI 0 n).length + 1 - N.toNat) N.toNat (B - nd)) (e1 : b2 = (ext (iotaI 0 n) right N.toNat (Int.toNat 0) (B - nd) []).1) (e2 : nd2 = B - max (ext (iotaI 0 n) right N.toNat (Int.toNat 0) (B - nd) []).2.1 0) (e3 : fu2 = decide ((ext (iotaI 0 n) right N.toNat (Int.toNat 0) (B - nd) []).2.1 < 0)) (e4 : n2 ≤ ys2.length) (e5 : ys2.take n2 = (ext (iotaI 0 n) right N.toNat (Int.toNat 0) (B - nd) []).2.2) (hb : b2 = false) (hf : fu2 = false) :
    n2 = 0 ∧ (nd ≤ nd2 ∧ nd2 ≤ B) ∧ x = fstL (iotaI 0 n) right ((iotaI 0 n).length + 1 - (N + 1).toNat) (N + 1).toNat (B - nd2) := by
  rw [Int.toNat_zero] at e1 e2 e3 e5
  rw [hf] at e3
  have e3 := of_decide_eq_false e3.symm
  have q := ext_emp hnd e1 rfl e4 e5 hb
  have e6 : B - nd2 = (ext (iotaI 0 n) right N.toNat 0 (B - nd) []).2.1 := by omega
  refine ⟨q.1, by omega, ?_⟩
  rw [e6]
  exact fst_n k4 k0 (by rw [iotaI_len]; omega) e1 rfl hb e3
theorem fs_e (k0 : 0 ≤ N) (hN : ¬N ≤ n) (k4 : x = fstL (iotaI 0 n) right ((iotaI 0 n).length + 1 - N.toNat) N.toNat (B - nd)) : x = ([], 3) := fst_e k4 k0 (by rw [iotaI_len]; omega)
end
theorem c_spec_FewestMasks (ds : List GDusting) (ss : List (List Int)) (f limit budget : Int) : FnSem Try.prog 50 [LD ds, Lx (LLI ss), In f, In limit, In budget] [] (RetV (fun v : Nat × Int => [.osl 0 0 v.1, In v.2]) (fun v => [.row false .flat (eI 0) ((masks ds ss f limit budget).1.map eI)]) (fun v => v.1 = (masks ds ss f limit budget).1.length ∧ v.2 = (masks ds ss f limit budget).2)) := by
  refine FnSem.old ?_
  refine FnSem.walk (zs := zeroPV Try.prog) (by kernel_rfl) Try.func50 rfl Try.results50 (by kernel_rfl) (by kernel_rfl) (by kernel_rfl) fun hw hh => ?_
  obtain ⟨w0, w1, w2, w3, w4, _⟩ := hw
  first | replace w0 := wf_LDusting w0 | skip
  first | replace w1 := wf_I w1 | replace w1 := wf_Y w1 | replace w1 := wf_S w1 | replace w1 := wf_LI w1 | replace w1 := wf_LY w1 | replace w1 := wf_LLI w1 | replace w1 := wf_Ls w1 | skip
  first | replace w2 := wf_I w2 | replace w2 := wf_Y w2 | replace w2 := wf_S w2 | replace w2 := wf_LI w2 | replace w2 := wf_LY w2 | replace w2 := wf_LLI w2 | replace w2 := wf_Ls w2 | skip
  first | replace w3 := wf_I w3 | replace w3 := wf_Y w3 | replace w3 := wf_S w3 | replace w3 := wf_LI w3 | replace w3 := wf_LY w3 | replace w3 := wf_LLI w3 | replace w3 := wf_Ls w3 | skip
  first | replace w4 := wf_I w4 | replace w4 := wf_Y w4 | replace w4 := wf_S w4 | replace w4 := wf_LI w4 | replace w4 := wf_LY w4 | replace w4 := wf_LLI w4 | replace w4 := wf_Ls w4 | skip
  repeat' first
    | refine And.intro rfl ?_
    | refine GdF.mk (fun h => h) ?_
    | refine And.intro (Nat.succ_ne_zero _) ?_
    | refine And.intro (Nat.le_of_ble_eq_true rfl) ?_
    | refine SeqF.run ?_
    | refine GhF.at 6 rfl [.nils 1 0 (eI 0), .nils 1 1 (eI 0), .nils 1 4 (eI 0), .old 2, .old 3, .old 4] ?_
    | refine GhF.held 9 rfl [(12, [1]), (15, [0])] ?_
    | refine GhF.held 10 rfl [(13, [2]), (16, [0])] ?_
    | refine ArgF.is (c_spec_l14Exposure ds (ss.getD i.toNat []) _ (mk_ok h2).1 ((okStays_b (mk_ok h2).2.1).2 _ (getD_mem (by omega))) (by have := mk_ok h2; omega)) ?_
    | refine ArgQ.is (fun hG => c_spec_l14Exposure ds (ss.getD i.toNat []) _ (mk_ok h2).1 ((okStays_b (mk_ok h2).2.1).2 _ (getD_mem (by omega))) (by have := mk_ok h2; omega)) rfl rfl ?_
    | refine LoopF.at 7 rfl (LoopF.fix [0, 1, 2, 12] (Int × Nat × Nat × List Int × List Int) (fun (i, p, m, xs, ys) => 0 ≤ i ∧ i ≤ ss.length ∧ okMasks ds ss f limit budget = 0 ∧ p = xs.length ∧ m = ys.length ∧ (p : Int) = i ∧ (m : Int) = i ∧ xs = (expos ds 1 ss).take i.toNat ∧ ys = (expos ds f ss).take i.toNat ∧ ss.length ≤ 12) (fun (i, p, m, xs, ys) => [(13, In i)]) (fun (i, p, m, xs, ys) => [(0, .fix [.osl 1 0 p, .osl 2 0 m, In limit, In 0, .osl 3 0 0, In 0, In budget, Bo false]), (1, .row false .flat (eI 0) (xs.map eI)), (2, .row false .flat (eI 0) (ys.map eI))]) (fun (i, p, m, xs, ys) => ((ss.length - i).toNat)) ((0, 0, 0, [], [])) ?_)
    | (refine LoopB.of (T := Int × Nat × Nat × List Int × List Int) ?_ ?_; rotate_left; rintro ⟨i, p, m, xs, ys⟩ ⟨h0, h1, h2, h4, h5, h7, h8, h9, ha, hd⟩; rotate_left)
    | refine LoopF.at 12 rfl (LoopF.fix [1, 12] (Int × Nat × Int × Bool × List Int) (fun (N, n', nd, fu, zs) => 0 ≤ N ∧ N ≤ ss.length + 1 ∧ (0 ≤ nd ∧ nd ≤ budget) ∧ n' = 0 ∧ fstSet (iotaI 0 xs.length) (masked xs ys limit) budget = fstL (iotaI 0 xs.length) (masked xs ys limit) ((iotaI 0 xs.length).length + 1 - N.toNat) N.toNat (budget - nd) ∧ masks ds ss f limit budget = fstSet (iotaI 0 xs.length) (masked xs ys limit) budget ∧ (inE xs ∧ inE ys) ∧ ys.length = xs.length ∧ (xs.length : Int) = ss.length ∧ fu = false) (fun (N, n', nd, fu, zs) => []) (fun (N, n', nd, fu, zs) => [(0, .fix [.osl 1 0 p, .osl 2 0 m, In limit, In N, .osl 3 0 n', In nd, In budget, Bo fu]), (3, .row false .flat (eI 0) (zs.map eI))]) (fun (N, n', nd, fu, zs) => ((ss.length + 1 - N).toNat)) ((0, 0, 0, false, [])) ?_)
    | (refine LoopB.of (T := Int × Nat × Int × Bool × List Int) ?_ ?_; rotate_left; rintro ⟨N, n', nd, fu, zs⟩ ⟨k0, k1, k2, k3, k4, k5, k6, k7, k8, k9⟩; rotate_left)
    | refine CallF.own (f := 135) [0] false ?_
    | (refine ArgF.run (runC p m xs ys limit N budget k6.1 k6.2 (by omega) h4 (by omega) k7 (by have := mk_ok h2; omega) N.toNat 0 (budget - nd) nd fu [] zs n' (by omega) (by omega) (by omega) (by omega) k9 (by omega) (by rw [k3]; rfl) (by unfold upF; trivial) (by simp; omega) (by simp)) ?_; intro n2 ys2 b2 fu2 nd2 e1 e2 e3 e4 e5)
    | refine EqL.mk _ (tkT rfl) ?_
    | refine ArgF.is (c_spec_l00Own (ys2.take n2) (by have := (fs_t k0 (by omega) k4 e1 e5 hb).2; omega)) ?_
    | refine ArgQ.is (fun hG => c_spec_l00Own (ys2.take n2) (by have := (fs_t k0 (by omega) k4 e1 e5 hb).2; omega)) rfl rfl ?_
    | (refine RetV.mk (α := Nat × Int) (_, _) rfl ?_ ?_)
    | refine HdF.at 15 rfl 0 [] (And.intro (by decide +kernel) (And.intro rfl ?_))
    | refine HdF.at 14 rfl 1 [] (And.intro (by decide +kernel) (And.intro rfl ?_))
    | refine HdF.at 13 rfl 2 [] (And.intro (by decide +kernel) (And.intro rfl ?_))
    | refine HdF.at 12 rfl 3 [] (And.intro (by decide +kernel) (And.intro rfl ?_))
    | refine HdF.at 11 rfl 4 [12, 13, 14, 15] (And.intro (by decide +kernel) (And.intro rfl ?_))
    | refine HdF.at 10 rfl 5 [] (And.intro (by decide +kernel) (And.intro rfl ?_))
    | refine HdF.at 9 rfl 6 [] (And.intro (by decide +kernel) (And.intro rfl ?_))
    | refine HdF.at 8 rfl 7 [] (And.intro (by decide +kernel) (And.intro rfl ?_))
    | refine HdF.at 7 rfl 8 [] (And.intro (by decide +kernel) (And.intro rfl ?_))
    | refine HdF.at 6 rfl 9 [10, 11, 12, 13, 14, 15] (And.intro (by decide +kernel) (And.intro rfl ?_))
    | refine HdF.goAt 5 rfl ?_
    | refine OrdL.ord ?_
    | refine OrdF.take 13 (by decide +kernel) (And.intro rfl ?_)
    | refine OrdF.take 14 (by decide +kernel) (And.intro rfl ?_)
    | refine OrdF.all [15] (by decide +kernel) ?_
    | refine OrdF.all [12] (by decide +kernel) ?_
    | refine OrdF.all [11] (by decide +kernel) ?_
    | refine OrdF.all [10] (by decide +kernel) ?_
    | refine OrdF.fin (by decide +kernel) ?_
    | refine AllF.one _ ?_
    | refine AllF.cons _ _ ?_ ?_
    | refine OpH.quiet rfl ?_
    | refine OpH.heap ?_
    | refine HdF.at 16 rfl 0 [] (And.intro (by decide +kernel) (And.intro rfl ?_))
    | refine HdF.at 15 rfl 1 [] (And.intro (by decide +kernel) (And.intro rfl ?_))
    | refine HdF.at 14 rfl 2 [] (And.intro (by decide +kernel) (And.intro rfl ?_))
    | refine HdF.at 13 rfl 3 [] (And.intro (by decide +kernel) (And.intro rfl ?_))
    | refine HdF.at 12 rfl 4 [13, 14, 15, 16] (And.intro (by decide +kernel) (And.intro rfl ?_))
    | refine HdF.at 11 rfl 5 [] (And.intro (by decide +kernel) (And.intro rfl ?_))
    | refine HdF.at 10 rfl 6 [] (And.intro (by decide +kernel) (And.intro rfl ?_))
    | refine HdF.at 9 rfl 7 [] (And.intro (by decide +kernel) (And.intro rfl ?_))
    | refine HdF.at 8 rfl 8 [] (And.intro (by decide +kernel) (And.intro rfl ?_))
    | refine HdF.at 7 rfl 9 [11, 12, 13, 14, 15, 16] (And.intro (by decide +kernel) (And.intro rfl ?_))
    | refine HdF.at 6 rfl 10 [] (And.intro (by decide +kernel) (And.intro rfl ?_))
    | refine HdF.goAt 5 rfl ?_
    | refine OrdL.ord ?_
    | refine OrdF.take 14 (by decide +kernel) (And.intro rfl ?_)
    | refine OrdF.take 15 (by decide +kernel) (And.intro rfl ?_)
    | refine OrdF.all [16] (by decide +kernel) ?_
    | refine OrdF.all [13] (by decide +kernel) ?_
    | refine OrdF.all [12] (by decide +kernel) ?_
    | refine OrdF.all [11] (by decide +kernel) ?_
    | refine OrdF.fin (by decide +kernel) ?_
    | refine AllF.one _ ?_
    | refine AllF.cons _ _ ?_ ?_
    | refine OpH.quiet rfl ?_
    | refine OpH.heap ?_
    | refine GhF.go ?_
    | refine GdS.keep ?_
    | refine DrawG.old (DrawF.lex (by decide +kernel) ?_)
    | refine DrawG.old (DrawF.any ?_)
    | refine OrdF.take 0 (by decide +kernel) ?_
    | refine OrdF.take 1 (by decide +kernel) ?_
    | refine OrdF.take 2 (by decide +kernel) ?_
    | refine OrdF.take 3 (by decide +kernel) ?_
    | refine OrdF.take 5 (by decide +kernel) ?_
    | refine OrdF.take 6 (by decide +kernel) ?_
    | refine OrdF.take 7 (by decide +kernel) ?_
    | refine OrdF.take 8 (by decide +kernel) ?_
    | refine OrdF.take 13 (by decide +kernel) ?_
    | refine OrdF.take 14 (by decide +kernel) ?_
    | refine OrdF.take 10 (by decide +kernel) ?_
    | refine OrdF.take 15 (by decide +kernel) ?_
    | refine OrdF.all [15] (by decide +kernel) ?_
    | refine OrdF.all [12] (by decide +kernel) ?_
    | refine OrdF.all [4] (by decide +kernel) ?_
    | refine OrdF.all [11] (by decide +kernel) ?_
    | refine OrdF.all [4, 11] (by decide +kernel) ?_
    | refine OrdF.all [10] (by decide +kernel) ?_
    | refine OrdF.all [4, 10] (by decide +kernel) ?_
    | refine OrdF.all [9] (by decide +kernel) ?_
    | refine OrdF.all [4, 9] (by decide +kernel) ?_
    | refine OrdF.all [16] (by decide +kernel) ?_
    | refine OrdF.all [13] (by decide +kernel) ?_
    | refine OrdF.all [4, 12] (by decide +kernel) ?_
    | refine OrdF.fin (by decide +kernel) ?_
    | refine AllF.one _ ?_
    | refine AllF.cons _ _ ?_ ?_
    | refine MkF.row ?_
    | refine EqP.mk _ (gm eI 0 rfl) ?_
    | refine EqP.mk _ (gmb eLI [] (by omega)) ?_
    | refine EqP.mk _ (gm GDusting.cells default rfl) ?_
    | refine BndF.mk (fun _ => by omega) ?_
    | refine BndF.mk (fun _ => by simp only [List.length_map, List.length_cons, List.length_nil, List.length_append, List.length_set, List.length_replicate, iotaI_len]; omega) ?_
    | refine BndF.mk (fun hG => by simp only [forall_const, eq_self, not_true_eq_false, not_false_eq_true, or_false, false_or, or_self, or_true, true_or, and_true, true_and, and_false, false_and, decide_true, decide_false, Bool.not_true, Bool.not_false, decide_eq_true_eq, decide_eq_false_iff_not, ite_and_p, ite_or_p, Bool.decide_eq_true, Bool.and_eq_true, Bool.or_eq_true, Bool.not_eq_true', Bool.not_eq_false', Bool.and_eq_false_imp, Bool.or_eq_false_iff, bne_iff_ne, beq_iff_eq, bne_eq_false_iff_eq, beq_eq_false_iff_ne, gt_iff_lt, ge_iff_le, Int.not_lt, Int.not_le, ne_eq, Bool.true_eq_false, Bool.false_eq_true, reduceCtorEq, eta_Airway, eta_Door, eta_Dusting, eta_Fan, eta_Mine, eta_Mode, bytes_nil] at hG; (try simp only [List.length_map]); omega) ?_
    | refine EqI.mk _ (fun _ => wrapI (by omega) (by omega)) ?_
    | refine EqI.mk _ (fun _ => rfl) ?_
    | refine FlF.keep ?_
    | refine EqN.mk _ (ln eI) ?_
    | refine EqN.mk _ (ln eLI) ?_
    | refine EqN.mk _ (ln GDusting.cells) ?_
    | refine EqN.mk _ (Nat.zero_add _) ?_
    | refine EqN.mk (_ + 1) rfl ?_
    | refine EqN.mk _ (Int.toNat_natCast _) ?_
    | refine EqN.mk _ rfl ?_
    | refine EqL.mk _ (sn0 eI) ?_
    | refine EqL.mk _ (sn eI (by first | rfl | assumption | omega | (simp only [List.length_map, List.length_cons, List.length_nil, List.length_append, List.length_set, List.length_replicate, iotaI_len]; done) | (simp only [List.length_map, List.length_cons, List.length_nil, List.length_append, List.length_set, List.length_replicate, iotaI_len]; omega))) ?_
    | refine EqL.mk _ (ap0 eI) ?_
    | refine EqL.mk _ (ap eI (by first | rfl | assumption | omega | (simp only [List.length_map, List.length_cons, List.length_nil, List.length_append, List.length_set, List.length_replicate, iotaI_len]; done) | (simp only [List.length_map, List.length_cons, List.length_nil, List.length_append, List.length_set, List.length_replicate, iotaI_len]; omega))) ?_
    | refine EqL.mk _ (tk eI (by first | rfl | assumption | omega | (simp only [List.length_map, List.length_cons, List.length_nil, List.length_append, List.length_set, List.length_replicate, iotaI_len]; done) | (simp only [List.length_map, List.length_cons, List.length_nil, List.length_append, List.length_set, List.length_replicate, iotaI_len]; omega))) ?_
    | refine EqL.mk _ (st eI) ?_
    | refine EqL.mk _ (dt eI) ?_
    | refine EqL.mk _ (sn0 eLI) ?_
    | refine EqL.mk _ (sn eLI (by first | rfl | assumption | omega | (simp only [List.length_map, List.length_cons, List.length_nil, List.length_append, List.length_set, List.length_replicate, iotaI_len]; done) | (simp only [List.length_map, List.length_cons, List.length_nil, List.length_append, List.length_set, List.length_replicate, iotaI_len]; omega))) ?_
    | refine EqL.mk _ (ap0 eLI) ?_
    | refine EqL.mk _ (ap eLI (by first | rfl | assumption | omega | (simp only [List.length_map, List.length_cons, List.length_nil, List.length_append, List.length_set, List.length_replicate, iotaI_len]; done) | (simp only [List.length_map, List.length_cons, List.length_nil, List.length_append, List.length_set, List.length_replicate, iotaI_len]; omega))) ?_
    | refine EqL.mk _ (tk eLI (by first | rfl | assumption | omega | (simp only [List.length_map, List.length_cons, List.length_nil, List.length_append, List.length_set, List.length_replicate, iotaI_len]; done) | (simp only [List.length_map, List.length_cons, List.length_nil, List.length_append, List.length_set, List.length_replicate, iotaI_len]; omega))) ?_
    | refine EqL.mk _ (st eLI) ?_
    | refine EqL.mk _ (dt eLI) ?_
    | refine EqL.mk _ (sn0 GDusting.cells) ?_
    | refine EqL.mk _ (sn GDusting.cells (by first | rfl | assumption | omega | (simp only [List.length_map, List.length_cons, List.length_nil, List.length_append, List.length_set, List.length_replicate, iotaI_len]; done) | (simp only [List.length_map, List.length_cons, List.length_nil, List.length_append, List.length_set, List.length_replicate, iotaI_len]; omega))) ?_
    | refine EqL.mk _ (ap0 GDusting.cells) ?_
    | refine EqL.mk _ (ap GDusting.cells (by first | rfl | assumption | omega | (simp only [List.length_map, List.length_cons, List.length_nil, List.length_append, List.length_set, List.length_replicate, iotaI_len]; done) | (simp only [List.length_map, List.length_cons, List.length_nil, List.length_append, List.length_set, List.length_replicate, iotaI_len]; omega))) ?_
    | refine EqL.mk _ (tk GDusting.cells (by first | rfl | assumption | omega | (simp only [List.length_map, List.length_cons, List.length_nil, List.length_append, List.length_set, List.length_replicate, iotaI_len]; done) | (simp only [List.length_map, List.length_cons, List.length_nil, List.length_append, List.length_set, List.length_replicate, iotaI_len]; omega))) ?_
    | refine EqL.mk _ (st GDusting.cells) ?_
    | refine EqL.mk _ (dt GDusting.cells) ?_
    | refine EqL.mk [] rfl ?_
    | refine EqL.mk [_] rfl ?_
    | refine EqL.mk _ rfl ?_
    | refine ArgF.is (c_spec_l14Ok ..) ?_
    | refine ArgQ.is (fun hG => c_spec_l14Ok ..) rfl rfl ?_
    | refine ArgF.is (c_spec_l14Stays ..) ?_
    | refine ArgQ.is (fun hG => c_spec_l14Stays ..) rfl rfl ?_
    | refine ArgF.is (c_spec_l00In ..) ?_
    | refine ArgQ.is (fun hG => c_spec_l00In ..) rfl rfl ?_
    | refine ArgF.is (c_spec_l14Exposure _ _ _ (by first | assumption | omega) (by first | assumption | omega) (by first | assumption | omega)) ?_
    | refine ArgQ.is (fun hG => c_spec_l14Exposure _ _ _ (by first | assumption | omega) (by first | assumption | omega) (by first | assumption | omega)) rfl rfl ?_
    | refine ArgQ.is (fun hG => c_spec_l14Exposure _ _ _ (by simp only [forall_const, eq_self, not_true_eq_false, not_false_eq_true, or_false, false_or, or_self, or_true, true_or, and_true, true_and, and_false, false_and, decide_true, decide_false, Bool.not_true, Bool.not_false, decide_eq_true_eq, decide_eq_false_iff_not, ite_and_p, ite_or_p, Bool.decide_eq_true, Bool.and_eq_true, Bool.or_eq_true, Bool.not_eq_true', Bool.not_eq_false', Bool.and_eq_false_imp, Bool.or_eq_false_iff, bne_iff_ne, beq_iff_eq, bne_eq_false_iff_eq, beq_eq_false_iff_ne, gt_iff_lt, ge_iff_le, Int.not_lt, Int.not_le, ne_eq, Bool.true_eq_false, Bool.false_eq_true, reduceCtorEq, eta_Airway, eta_Door, eta_Dusting, eta_Fan, eta_Mine, eta_Mode, bytes_nil] at hG; omega) (by simp only [forall_const, eq_self, not_true_eq_false, not_false_eq_true, or_false, false_or, or_self, or_true, true_or, and_true, true_and, and_false, false_and, decide_true, decide_false, Bool.not_true, Bool.not_false, decide_eq_true_eq, decide_eq_false_iff_not, ite_and_p, ite_or_p, Bool.decide_eq_true, Bool.and_eq_true, Bool.or_eq_true, Bool.not_eq_true', Bool.not_eq_false', Bool.and_eq_false_imp, Bool.or_eq_false_iff, bne_iff_ne, beq_iff_eq, bne_eq_false_iff_eq, beq_eq_false_iff_ne, gt_iff_lt, ge_iff_le, Int.not_lt, Int.not_le, ne_eq, Bool.true_eq_false, Bool.false_eq_true, reduceCtorEq, eta_Airway, eta_Door, eta_Dusting, eta_Fan, eta_Mine, eta_Mode, bytes_nil] at hG; omega) (by simp only [forall_const, eq_self, not_true_eq_false, not_false_eq_true, or_false, false_or, or_self, or_true, true_or, and_true, true_and, and_false, false_and, decide_true, decide_false, Bool.not_true, Bool.not_false, decide_eq_true_eq, decide_eq_false_iff_not, ite_and_p, ite_or_p, Bool.decide_eq_true, Bool.and_eq_true, Bool.or_eq_true, Bool.not_eq_true', Bool.not_eq_false', Bool.and_eq_false_imp, Bool.or_eq_false_iff, bne_iff_ne, beq_iff_eq, bne_eq_false_iff_eq, beq_eq_false_iff_ne, gt_iff_lt, ge_iff_le, Int.not_lt, Int.not_le, ne_eq, Bool.true_eq_false, Bool.false_eq_true, reduceCtorEq, eta_Airway, eta_Door, eta_Dusting, eta_Fan, eta_Mine, eta_Mode, bytes_nil] at hG; omega)) rfl rfl ?_
    | refine ArgF.is (c_spec_l14Search_run ..) ?_
    | refine ArgQ.is (fun hG => c_spec_l14Search_run ..) rfl rfl ?_
    | refine ArgF.is (c_spec_l00Own _ (by first | assumption | omega)) ?_
    | refine ArgQ.is (fun hG => c_spec_l00Own _ (by first | assumption | omega)) rfl rfl ?_
    | refine ArgQ.is (fun hG => c_spec_l00Own _ (by simp only [forall_const, eq_self, not_true_eq_false, not_false_eq_true, or_false, false_or, or_self, or_true, true_or, and_true, true_and, and_false, false_and, decide_true, decide_false, Bool.not_true, Bool.not_false, decide_eq_true_eq, decide_eq_false_iff_not, ite_and_p, ite_or_p, Bool.decide_eq_true, Bool.and_eq_true, Bool.or_eq_true, Bool.not_eq_true', Bool.not_eq_false', Bool.and_eq_false_imp, Bool.or_eq_false_iff, bne_iff_ne, beq_iff_eq, bne_eq_false_iff_eq, beq_eq_false_iff_ne, gt_iff_lt, ge_iff_le, Int.not_lt, Int.not_le, ne_eq, Bool.true_eq_false, Bool.false_eq_true, reduceCtorEq, eta_Airway, eta_Door, eta_Dusting, eta_Fan, eta_Mine, eta_Mode, bytes_nil] at hG; omega)) rfl rfl ?_
    | refine CallF.mk (CallW.is [] true rfl ?_)
    | refine CallG.mk ?_
    | (refine CondF.mk (fun hb => ?_) (fun hb => ?_) <;> try simp only [forall_const, eq_self, not_true_eq_false, not_false_eq_true, or_false, false_or, or_self, or_true, true_or, and_true, true_and, and_false, false_and, decide_true, decide_false, Bool.not_true, Bool.not_false, decide_eq_true_eq, decide_eq_false_iff_not, ite_and_p, ite_or_p, Bool.decide_eq_true, Bool.and_eq_true, Bool.or_eq_true, Bool.not_eq_true', Bool.not_eq_false', Bool.and_eq_false_imp, Bool.or_eq_false_iff, bne_iff_ne, beq_iff_eq, bne_eq_false_iff_eq, beq_eq_false_iff_ne, gt_iff_lt, ge_iff_le, Int.not_lt, Int.not_le, ne_eq, Bool.true_eq_false, Bool.false_eq_true, reduceCtorEq, eta_Airway, eta_Door, eta_Dusting, eta_Fan, eta_Mine, eta_Mode] at hb)
    | apply BackF.auto5
    | refine BackB.mk ?_ ?_
    | refine RetF.auto (And.intro rfl ?_)
    | exact Is.mk rfl rfl
    | refine Is.mk ?_ rfl
    | refine Is.mk rfl ?_
    | refine Is.mk ?_ ?_
  all_goals try dsimp only
  all_goals first
    | omega
    | exact ⟨by omega, by omega, mk_0 (by assumption) hb, rfl, rfl, rfl, rfl, rfl, rfl, (okStays_b (mk_ok (mk_0 (by assumption) hb)).2.1).1⟩
    | exact ⟨by omega, by omega, h2, by simp [h4], by simp [h5], by omega, by omega, by rw [expos_s h0 hb, ← h9], by rw [expos_s h0 hb, ← ha], hd⟩
    | exact ⟨Int.le_refl _, by omega, ⟨by omega, by have := mk_ok h2; omega⟩, rfl, by rw [Int.sub_zero]; unfold fstSet; rfl, masks_e h2 hb h1 h9 ha (by rw [show xs.length = i.toNat by omega]), ⟨by rw [h9, expos_e hb]; exact expos_in (mk_ok h2).1 (by omega) (mk_ok h2).2.1, by rw [ha, expos_e hb]; exact expos_in (mk_ok h2).1 (mk_ok h2).2.2.1.1 (mk_ok h2).2.1⟩, by omega, by omega, rfl⟩
    | (have q := fs_n k0 (by omega) (by omega) k4 e1 e2 e3 e4 e5 (by assumption) (by assumption)
       exact ⟨by omega, by omega, ⟨by omega, by omega⟩, q.1, q.2.2, k5, k6, k7, k8, by assumption⟩)
    | (rw [masks_c (show okMasks ds ss f limit budget = 1 from by unfold okMasks; rw [if_neg (by rw [hb]; decide)]) (by decide)] <;> first | rfl | exact ⟨rfl, rfl⟩)
    | (rw [masks_c (mk_2 (by assumption) hb) (by decide)] <;> first | rfl | exact ⟨rfl, rfl⟩)
    | (rw [k5.trans (fs_t k0 (by omega) k4 e1 e5 (by assumption)).1] <;> first | rfl | exact ⟨rfl, rfl⟩)
    | (rw [k5.trans (fs_f k0 (by omega) k4 e1 e3 (by assumption) (by assumption))] <;> first | rfl | exact ⟨rfl, rfl⟩)
    | (rw [k5.trans (fs_e k0 (by omega) k4)] <;> first | rfl | exact ⟨rfl, rfl⟩)
    | skip
end Go.Proofs.Ytnmfbdkiehickaa
