/- Contracts of functions of the program, and what they compute. Conditions: those that each theorem states. -/
import Derived.Test.YtjgllpildemkpaaProg
import Derived.Test.YtjgllpildemkpaaQ10
import Derived.Test.YtjgllpildemkpaaE10p
set_option linter.unusedVariables false
set_option linter.unusedSimpArgs false
namespace Go.Proofs.Ytjgllpildemkpaa
open Go.Av
attribute [local irreducible] Go.IntKind.wrap leastI rdZ rd rootI rawA gainsI stepB roundB potN potI askB okAw addG fitsB okMine ext extL fstL fstSet fewB candOk
set_option maxRecDepth 20000
set_option maxHeartbeats 8000000

/-! The reference's search for the fewest boosters. -/
theorem runBC (m : GMine) (ds ps : List Int) (rg : List Bool) (cs : List Int) (d N B : Int) (ha : askB m ds ps rg = 0) (hc : ∀ x ∈ cs, 0 ≤ x ∧ x < m.airways.length) (hcl : cs.length ≤ 24) (hd : 0 ≤ d ∧ d ≤ 20000) (hB : 1 ≤ B ∧ B ≤ 20000)
    (k : Nat) : ∀ (i b nd : Int) (fu : Bool) (s ys : List Int) (n : Nat) (hi : 0 ≤ i) (hi' : i ≤ cs.length) (hb0 : 0 ≤ b ∧ b ≤ B) (hnd : nd = B - b) (hfu : fu = false) (hn : n ≤ ys.length) (hs : ys.take n = s) (hsc : ∀ x ∈ s, x ∈ cs) (hN : N = s.length + k) (hsi : s.length ≤ i), FnSem Try.prog 184 [.own 0 0, In i] [boS ds ps rg cs d N 2 n nd B fu, boM m, .row false .flat (eI 0) (ys.map eI)] (RunB m ds ps rg cs d N B (ext cs (fun s => fitsB m (gainsI ps ds) rg s d) k i.toNat b s)) := by
  induction k using Nat.strongRecOn with
  | _ k ih => exact runB1 m ds ps rg cs d N B ha hc hcl hd hB k (fun k' hk' => ih k' hk')
theorem cand_c {m : GMine} {cs : List Int} {d b : Int} (h : candOk m cs d b = true) : ∀ x ∈ cs, 0 ≤ x ∧ x < m.airways.length := fun x hx => by
  obtain ⟨i, hi, rfl⟩ := List.getElem_of_mem hx
  have h1 := cand_m h (xs := cs) (fun x hx => hx) i (by omega)
  rwa [List.getD_eq_getElem?_getD, List.getElem?_eq_getElem hi, Option.getD_some] at h1
theorem fewB_0 {m : GMine} {ds ps : List Int} {rg : List Bool} {cs : List Int} {d b : Int} (h1 : askB m ds ps rg = 0) (h2 : candOk m cs d b = true) : fewB m ds ps rg cs d b = fstSet cs (fun s => fitsB m (gainsI ps ds) rg s d) b := by
  unfold fewB; rw [if_pos h1, if_pos h2]
theorem fewB_2 {m : GMine} {ds ps : List Int} {rg : List Bool} {cs : List Int} {d b : Int} (h1 : askB m ds ps rg = 0) (h2 : candOk m cs d b = false) : fewB m ds ps rg cs d b = ([], 2) := by
  unfold fewB; rw [if_pos h1, if_neg (by rw [h2]; decide)]
theorem fewB_c {m : GMine} {ds ps : List Int} {rg : List Bool} {cs : List Int} {d b : Int} (h1 : ¬askB m ds ps rg = 0) : fewB m ds ps rg cs d b = ([], askB m ds ps rg) := by
  unfold fewB; rw [if_neg h1]
theorem candA_f {m : GMine} {cs : List Int} {d b : Int} (h : (((cs.all fun x => inR x 0 ((m.airways.length : Int) - 1)) = true → rising cs = false) ∨ inR d 1 20000 = false) ∨ inR b 1 20000 = false) : candOk m cs d b = false := by
  unfold candOk
  rcases h with (h | h) | h
  · cases e : cs.all fun x => inR x 0 ((m.airways.length : Int) - 1) with
    | true => rw [h e]; simp
    | false => simp
  · rw [h]; simp
  · rw [h]; simp
theorem candA_t {m : GMine} {ds ps : List Int} {rg : List Bool} {cs : List Int} {d b : Int} (h : askB m ds ps rg = 0 → ¬(((cs.all fun x => inR x 0 ((m.airways.length : Int) - 1)) = true → rising cs = false) ∨ inR d 1 20000 = false) ∧ inR b 1 20000 = true) (h0 : askB m ds ps rg = 0) : candOk m cs d b = true := by
  have h1 := h h0
  rw [not_or] at h1
  have h2 := Classical.not_imp.1 h1.1.1
  unfold candOk
  rw [h2.1, h1.2, show rising cs = true by simpa using h2.2, show inR d 1 20000 = true by simpa using h1.1.2]; rfl
theorem c_spec_FewestBoosters (m : GMine) (ds ps : List Int) (rg : List Bool) (cs : List Int) (d b : Int) : FnSem Try.prog 76 [.p .any (.agg m.cells), Lx (LI ds), Lx (LI ps), Lx (LB rg), Lx (LI cs), In d, In b] [] (RetV (fun v : Nat × Int => [.osl 0 0 v.1, In v.2]) (fun v => [.row false .flat (eI 0) ((fewB m ds ps rg cs d b).1.map eI)]) (fun v => v.1 = (fewB m ds ps rg cs d b).1.length ∧ v.2 = (fewB m ds ps rg cs d b).2)) := by
  refine FnSem.old ?_
  refine FnSem.walk (zs := zeroPV Try.prog) (by kernel_rfl) Try.func76 rfl Try.results76 (by kernel_rfl) (by kernel_rfl) (by kernel_rfl) fun hw hh => ?_
  obtain ⟨w0, w1, w2, w3, w4, w5, w6, _⟩ := hw
  first | replace w0 := wf_Mine w0 | skip
  first | replace w1 := wf_LI w1 | skip
  first | replace w2 := wf_LI w2 | skip
  first | replace w3 := wf_I w3 | replace w3 := wf_Y w3 | replace w3 := wf_S w3 | replace w3 := wf_LI w3 | replace w3 := wf_LY w3 | replace w3 := wf_LLI w3 | replace w3 := wf_Ls w3 | skip
  first | replace w4 := wf_LI w4 | skip
  first | replace w5 := wf_I w5 | skip
  first | replace w6 := wf_I w6 | skip
  have hwl := w0.2.1
  repeat' first
    | refine And.intro rfl ?_
    | refine GdF.mk (fun h => h) ?_
    | refine And.intro (Nat.succ_ne_zero _) ?_
    | refine And.intro (Nat.le_of_ble_eq_true rfl) ?_
    | refine SeqF.run ?_
    | refine GhF.at 7 rfl [.nils 2 7 (eI 0), .old 3] ?_
    | refine ArgF.is (c_spec_l12Ask m ds ps rg) ?_
    | refine ArgQ.is (fun hG => c_spec_l12Ask m ds ps rg) rfl rfl ?_
    | refine ArgF.is (c_spec_l00Rises cs 0 (m.airways.length - 1)) ?_
    | refine ArgQ.is (fun hG => c_spec_l00Rises cs 0 (m.airways.length - 1)) rfl rfl ?_
    | refine LoopF.at 8 rfl (LoopF.fix [4, 17] (Int × Nat × Int × Bool × List Int) (fun (N, n', nd, fu, zs) => 0 ≤ N ∧ N ≤ cs.length + 1 ∧ (0 ≤ nd ∧ nd ≤ b) ∧ n' = 0 ∧ fewB m ds ps rg cs d b = fstL cs (fun s => fitsB m (gainsI ps ds) rg s d) (cs.length + 1 - N.toNat) N.toNat (b - nd) ∧ askB m ds ps rg = 0 ∧ candOk m cs d b = true ∧ fu = false ∧ cs.length ≤ 24) (fun (N, n', nd, fu, zs) => []) (fun (N, n', nd, fu, zs) => [(0, boS ds ps rg cs d N 2 n' nd b fu), (2, .row false .flat (eI 0) (zs.map eI))]) (fun (N, n', nd, fu, zs) => ((cs.length + 1 - N).toNat)) ((0, 0, 0, false, [])) ?_)
    | (refine LoopB.of (T := Int × Nat × Int × Bool × List Int) ?_ ?_; rotate_left; rintro ⟨N, n', nd, fu, zs⟩ ⟨k0, k1, k2, k3, k4, k5, k6, k9, ka⟩; rotate_left)
    | refine CallF.own (f := 184) [0] false ?_
    | (refine ArgF.runB (runBC m ds ps rg cs d N b k5 (cand_c k6) (by have := cand_b k6; have := askB_l k5; omega) (by have := cand_b k6; omega) (by have := cand_b k6; omega) N.toNat 0 (b - nd) nd fu [] zs n' (by omega) (by omega) (by omega) (by omega) k9 (by omega) (by rw [k3]; rfl) (by simp) (by simp; omega) (by simp)) ?_; intro n2 ys2 b2 fu2 nd2 e1 e2 e3 e4 e5)
    | refine EqL.mk _ (tkT rfl) ?_
    | refine ArgF.is (ownB (ys2.take n2) (by have := (fsB_t k0 (by omega) k4 e1 e5 hb).2; have := askB_l k5; have := cand_b k6; omega)) ?_
    | refine ArgQ.is (fun hG => ownB (ys2.take n2) (by have := (fsB_t k0 (by omega) k4 e1 e5 hb).2; have := askB_l k5; have := cand_b k6; omega)) rfl rfl ?_
    | (refine RetV.mk (α := Nat × Int) (_, _) rfl ?_ ?_)
    | refine GhF.go ?_
    | refine GdS.keep ?_
    | refine MkF.row ?_
    | refine BndF.mk (fun _ => by omega) ?_
    | refine BndF.mk (fun _ => by simp only [List.length_map, List.length_cons, List.length_nil, List.length_append, List.length_set, List.length_replicate, iotaI_len]; omega) ?_
    | refine BndF.mk (fun hG => by simp only [forall_const, eq_self, not_true_eq_false, not_false_eq_true, or_false, false_or, or_self, or_true, true_or, and_true, true_and, and_false, false_and, decide_true, decide_false, Bool.not_true, Bool.not_false, decide_eq_true_eq, decide_eq_false_iff_not, ite_and_p, ite_or_p, Bool.decide_eq_true, Bool.and_eq_true, Bool.or_eq_true, Bool.not_eq_true', Bool.not_eq_false', Bool.and_eq_false_imp, Bool.or_eq_false_iff, bne_iff_ne, beq_iff_eq, bne_eq_false_iff_eq, beq_eq_false_iff_ne, gt_iff_lt, ge_iff_le, Int.not_lt, Int.not_le, ne_eq, Bool.true_eq_false, Bool.false_eq_true, reduceCtorEq, eta_Airway, eta_Door, eta_Fan, eta_Mine, bytes_nil] at hG; (try simp only [List.length_map]); omega) ?_
    | refine EqI.mk _ (fun _ => wrapI (by omega) (by omega)) ?_
    | refine EqI.mk _ (fun _ => rfl) ?_
    | refine EqN.mk _ (ln GAirway.cells) ?_
    | refine EqN.mk _ (ln eB) ?_
    | refine EqN.mk _ (ln eI) ?_
    | refine EqN.mk _ (Nat.zero_add _) ?_
    | refine EqN.mk _ (Int.toNat_natCast _) ?_
    | refine EqN.mk _ rfl ?_
    | refine EqL.mk _ (tk GAirway.cells (by first | rfl | assumption | omega | (simp only [List.length_map, List.length_cons, List.length_nil, List.length_append, List.length_set, List.length_replicate, iotaI_len]; done) | (simp only [List.length_map, List.length_cons, List.length_nil, List.length_append, List.length_set, List.length_replicate, iotaI_len]; omega))) ?_
    | refine EqL.mk _ (st GAirway.cells) ?_
    | refine EqL.mk _ (dt GAirway.cells) ?_
    | refine EqL.mk _ (tk eB (by first | rfl | assumption | omega | (simp only [List.length_map, List.length_cons, List.length_nil, List.length_append, List.length_set, List.length_replicate, iotaI_len]; done) | (simp only [List.length_map, List.length_cons, List.length_nil, List.length_append, List.length_set, List.length_replicate, iotaI_len]; omega))) ?_
    | refine EqL.mk _ (st eB) ?_
    | refine EqL.mk _ (dt eB) ?_
    | refine EqL.mk _ (tk eI (by first | rfl | assumption | omega | (simp only [List.length_map, List.length_cons, List.length_nil, List.length_append, List.length_set, List.length_replicate, iotaI_len]; done) | (simp only [List.length_map, List.length_cons, List.length_nil, List.length_append, List.length_set, List.length_replicate, iotaI_len]; omega))) ?_
    | refine EqL.mk _ (st eI) ?_
    | refine EqL.mk _ (dt eI) ?_
    | refine EqL.mk [] rfl ?_
    | refine EqL.mk [_] rfl ?_
    | refine EqL.mk _ rfl ?_
    | refine ArgF.is (c_spec_l12Ask ⟨_, _⟩ _ _ _) ?_
    | refine ArgQ.is (fun hG => c_spec_l12Ask ⟨_, _⟩ _ _ _) rfl rfl ?_
    | refine ArgF.is (c_spec_l00Rises ..) ?_
    | refine ArgQ.is (fun hG => c_spec_l00Rises ..) rfl rfl ?_
    | refine ArgF.is (c_spec_l00In ..) ?_
    | refine ArgQ.is (fun hG => c_spec_l00In ..) rfl rfl ?_
    | refine ArgF.is (c_spec_l12Search_run ..) ?_
    | refine ArgQ.is (fun hG => c_spec_l12Search_run ..) rfl rfl ?_
    | refine ArgF.is (c_spec_l00Own _ (by first | assumption | omega)) ?_
    | refine ArgQ.is (fun hG => c_spec_l00Own _ (by first | assumption | omega)) rfl rfl ?_
    | refine ArgQ.is (fun hG => c_spec_l00Own _ (by simp only [forall_const, eq_self, not_true_eq_false, not_false_eq_true, or_false, false_or, or_self, or_true, true_or, and_true, true_and, and_false, false_and, decide_true, decide_false, Bool.not_true, Bool.not_false, decide_eq_true_eq, decide_eq_false_iff_not, ite_and_p, ite_or_p, Bool.decide_eq_true, Bool.and_eq_true, Bool.or_eq_true, Bool.not_eq_true', Bool.not_eq_false', Bool.and_eq_false_imp, Bool.or_eq_false_iff, bne_iff_ne, beq_iff_eq, bne_eq_false_iff_eq, beq_eq_false_iff_ne, gt_iff_lt, ge_iff_le, Int.not_lt, Int.not_le, ne_eq, Bool.true_eq_false, Bool.false_eq_true, reduceCtorEq, eta_Airway, eta_Door, eta_Fan, eta_Mine, bytes_nil] at hG; omega)) rfl rfl ?_
    | refine CallF.mk (CallW.is [] true rfl ?_)
    | refine CallG.mk ?_
    | (refine CondF.mk (fun hb => ?_) (fun hb => ?_) <;> try simp only [forall_const, eq_self, not_true_eq_false, not_false_eq_true, or_false, false_or, or_self, or_true, true_or, and_true, true_and, and_false, false_and, decide_true, decide_false, Bool.not_true, Bool.not_false, decide_eq_true_eq, decide_eq_false_iff_not, ite_and_p, ite_or_p, Bool.decide_eq_true, Bool.and_eq_true, Bool.or_eq_true, Bool.not_eq_true', Bool.not_eq_false', Bool.and_eq_false_imp, Bool.or_eq_false_iff, bne_iff_ne, beq_iff_eq, bne_eq_false_iff_eq, beq_eq_false_iff_ne, gt_iff_lt, ge_iff_le, Int.not_lt, Int.not_le, ne_eq, Bool.true_eq_false, Bool.false_eq_true, reduceCtorEq, eta_Airway, eta_Door, eta_Fan, eta_Mine] at hb)
    | apply BackF.auto5
    | refine BackB.mk ?_ ?_
    | refine RetF.auto (And.intro rfl ?_)
    | exact Is.mk rfl rfl
    | refine Is.mk ?_ rfl
    | refine Is.mk rfl ?_
    | refine Is.mk ?_ ?_
  all_goals try dsimp only
  all_goals first
    | omega
    | exact ⟨Int.le_refl _, by omega, ⟨by omega, by have := cand_b (candA_t (by assumption) hb); omega⟩, rfl, by rw [Int.sub_zero, fewB_0 hb (candA_t (by assumption) hb)]; unfold fstSet; rfl, hb, candA_t (by assumption) hb, rfl, by have := cand_b (candA_t (by assumption) hb); have := askB_l hb; omega⟩
    | (have q := fsB_n k0 (by omega) (by omega) k4 e1 e2 e3 e4 e5 (by assumption) (by assumption)
       exact ⟨by omega, by omega, ⟨by omega, by omega⟩, q.1, q.2.2, k5, k6, by assumption, ka⟩)
    | (rw [fewB_2 (by rename_i h9; exact h9.1) (by rename_i h9; exact candA_f h9.2)] <;> first | rfl | exact ⟨rfl, rfl⟩)
    | (rw [fewB_c hb] <;> first | rfl | exact ⟨rfl, rfl⟩)
    | (rw [k4.trans (fsB_t k0 (by omega) rfl e1 e5 (by assumption)).1] <;> first | rfl | exact ⟨rfl, rfl⟩)
    | (rw [(fsB_t k0 (by omega) k4 e1 e5 (by assumption)).1] <;> first | rfl | exact ⟨rfl, rfl⟩)
    | (rw [fsB_f k0 (by omega) k4 e1 e3 (by assumption) (by assumption)] <;> first | rfl | exact ⟨rfl, rfl⟩)
    | (rw [fsB_e k0 (by omega) k4] <;> first | rfl | exact ⟨rfl, rfl⟩)
    | skip
end Go.Proofs.Ytjgllpildemkpaa
