/- Contracts of functions of the program, and what they compute. Conditions: those that each theorem states. -/
import Derived.Test.YtfcnlpghdpfjkaaProg
import Derived.Test.YtfcnlpghdpfjkaaZ7
import Derived.Test.YtfcnlpghdpfjkaaE10p
set_option linter.unusedVariables false
set_option linter.unusedSimpArgs false
namespace Go.Proofs.Ytfcnlpghdpfjkaa
open Go.Av
attribute [local irreducible] Go.IntKind.wrap leastI rdZ rd rootI rawA okMine mixT heatF heatY warmN clampW cmI temI ext extL fstL fstSet htC colI colR askC cooV
set_option maxRecDepth 20000
set_option maxHeartbeats 400000000

/-! The reference's function for the fewest coolers. -/
theorem runZC (m : GMine) (fs rs ps ss : List Int) (t rate c lim N B : Int) (ha : htC m fs rs ps ss t rate = 0) (hc : 1 ≤ c ∧ c ≤ 10000000) (hB : 1 ≤ B ∧ B ≤ 20000)
    (k : Nat) : ∀ (i b nd : Int) (fu : Bool) (s ys : List Int) (n : Nat) (hi : 0 ≤ i) (hi' : i ≤ m.airways.length) (hb0 : 0 ≤ b ∧ b ≤ B) (hnd : nd = B - b) (hfu : fu = false) (hn : n ≤ ys.length) (hs : ys.take n = s) (hsc : ∀ x ∈ s, x ∈ iotaI 0 m.airways.length) (hN : N = s.length + k) (hsi : s.length ≤ i), FnSem Try.prog 59 [.own 0 0, In i] [coZ fs rs ps ss t rate c lim N 2 n nd B fu, coM m, .row false .flat (eI 0) (ys.map eI)] (RunZ m fs rs ps ss t rate c lim N B (ext (iotaI 0 m.airways.length) (colR m fs rs ps ss t rate c lim) k i.toNat b s)) := by
  induction k using Nat.strongRecOn with
  | _ k ih => exact runZ1 m fs rs ps ss t rate c lim N B ha hc hB k (fun k' hk' => ih k' hk')
section
variable {m : GMine} {fs rs ps ss : List Int} {t rate c lim b : Int}
theorem askZ (h : htC m fs rs ps ss t rate = 0 → ¬(inR c 1 10000000 = false ∨ inR lim (-100) 600 = false) ∧ inR b 1 20000 = true) (h0 : htC m fs rs ps ss t rate = 0) : askC m fs rs ps ss t rate c lim b = 0 := askC_0 h0 (h h0)
theorem cooZ_0 (h : askC m fs rs ps ss t rate c lim b = 0) : cooV m fs rs ps ss t rate c lim b = fstL (iotaI 0 m.airways.length) (colR m fs rs ps ss t rate c lim) ((iotaI 0 m.airways.length).length + 1 - (0 : Int).toNat) (0 : Int).toNat (b - 0) := by
  rw [cooV_0 h]
  unfold fstSet
  rw [Int.sub_zero]; rfl
end
/-- a step of a literal: its cells are told first, each one at once -/
theorem buildC_s {P : Program} {st : St} {G : Bool} {place : Nat → Option (Nat × Nat)} {i : Nat} {x : Operand} {r : List (Nat × Operand)} {cells : List AV} {K : List AV → Prop} (cells' : List AV) (e : cells = cells') (h : withV st G x fun v => cellsW v fun cs => (match place i with
    | some (off, sz) => cs.length = sz ∧ Nat.ble (off + cs.length) cells'.length = true ∧ buildC P st G place r (cells'.take off ++ cs ++ cells'.drop (off + cs.length)) K
    | none => False)) : buildC P st G place ((i, x) :: r) cells K := by
  subst e; exact h
theorem c_spec_FewestCoolers (m : GMine) (fs rs ps ss : List Int) (t rate c lim b : Int) : FnSem Try.prog 9 [.p .any (.agg m.cells), Lx (LI fs), Lx (LI rs), Lx (LI ps), Lx (LI ss), In t, In rate, In c, In lim, In b] [] (RetV (fun v : Nat × Int => [.osl 0 0 v.1, In v.2]) (fun v => [.row false .flat (eI 0) ((cooV m fs rs ps ss t rate c lim b).1.map eI)]) (fun v => v.1 = (cooV m fs rs ps ss t rate c lim b).1.length ∧ v.2 = (cooV m fs rs ps ss t rate c lim b).2)) := by
  refine FnSem.old ?_
  refine FnSem.walk (zs := zeroPV Try.prog) (by kernel_rfl) Try.func9 rfl Try.results9 (by kernel_rfl) (by kernel_rfl) (by kernel_rfl) fun hw hh => ?_
  obtain ⟨w0, w1, w2, w3, w4, w5, w6, w7, w8, w9, _⟩ := hw
  first | replace w0 := wf_Mine w0 | skip
  first | replace w1 := wf_LI w1 | skip
  first | replace w2 := wf_LI w2 | skip
  first | replace w3 := wf_LI w3 | skip
  first | replace w4 := wf_LI w4 | skip
  first | replace w5 := wf_I w5 | skip
  first | replace w6 := wf_I w6 | skip
  first | replace w7 := wf_I w7 | skip
  first | replace w8 := wf_I w8 | skip
  first | replace w9 := wf_I w9 | skip
  repeat' first
    | refine buildC_s [_, _, _, _, _, _, _, _, _, _, _, _, _, _] rfl ?_
    | refine And.intro rfl ?_
    | refine GdF.mk (fun h => h) ?_
    | refine And.intro (Nat.succ_ne_zero _) ?_
    | refine And.intro (Nat.le_of_ble_eq_true rfl) ?_
    | refine SeqF.run ?_
    | exact absurd (show (2 : Int) = 0 from hb) (by decide)
    | refine GhF.at 7 rfl [.nils 2 10 (eI 0), .old 3] ?_
    | refine ArgF.is (c_spec_l16Ask m fs rs ps ss t rate) ?_
    | refine ArgQ.is (fun hG => c_spec_l16Ask m fs rs ps ss t rate) rfl rfl ?_
    | refine LoopF.at 8 rfl (LoopF.fix [3, 23] (Int × Nat × Int × Bool × List Int) (fun (N, n', nd, fu, zs) => 0 ≤ N ∧ N ≤ ps.length + 1 ∧ (0 ≤ nd ∧ nd ≤ b) ∧ n' = 0 ∧ cooV m fs rs ps ss t rate c lim b = fstL (iotaI 0 m.airways.length) (colR m fs rs ps ss t rate c lim) ((iotaI 0 m.airways.length).length + 1 - N.toNat) N.toNat (b - nd) ∧ askC m fs rs ps ss t rate c lim b = 0 ∧ fu = false ∧ ps.length = (iotaI 0 m.airways.length).length ∧ (ps.length ≤ 24 ∧ ps.length = m.airways.length)) (fun (N, n', nd, fu, zs) => []) (fun (N, n', nd, fu, zs) => [(0, coZ fs rs ps ss t rate c lim N 2 n' nd b fu), (2, .row false .flat (eI 0) (zs.map eI))]) (fun (N, n', nd, fu, zs) => ((ps.length + 1 - N).toNat)) ((0, 0, 0, false, [])) ?_)
    | (refine LoopB.of (T := Int × Nat × Int × Bool × List Int) ?_ ?_; rotate_left; rintro ⟨N, n', nd, fu, zs⟩ ⟨k0, k1, k2, k3, k4, k5, k6, k7, k8⟩; rotate_left)
    | refine CallF.own (f := 59) [0] false ?_
    | (refine ArgF.runZ (runZC m fs rs ps ss t rate c lim N b (askC_p k5).1 (askC_p k5).2.1 (askC_p k5).2.2.2 N.toNat 0 (b - nd) nd fu [] zs n' (by omega) (by omega) (by omega) (by omega) k6 (by omega) (by rw [k3]; rfl) (by simp) (by simp; omega) (by simp)) ?_; intro n2 ys2 b2 fu2 nd2 e1 e2 e3 e4 e5)
    | refine EqL.mk _ (tkT rfl) ?_
    | refine ArgF.is (ownZ (ys2.take n2) (by have := (fsB_t k0 (by omega) k4 e1 e5 hb).2; omega)) ?_
    | refine ArgQ.is (fun hG => ownZ (ys2.take n2) (by have := (fsB_t k0 (by omega) k4 e1 e5 hb).2; omega)) rfl rfl ?_
    | (refine RetV.mk (α := Nat × Int) (_, _) rfl ?_ ?_)
    | refine GhF.go ?_
    | refine GdS.keep ?_
    | refine MkF.row ?_
    | refine BndF.mk (fun _ => by omega) ?_
    | refine BndF.mk (fun _ => by simp only [List.length_map, List.length_cons, List.length_nil, List.length_append, List.length_set, List.length_replicate, iotaI_len]; omega) ?_
    | refine BndF.mk (fun hG => by simp only [forall_const, eq_self, not_true_eq_false, not_false_eq_true, or_false, false_or, or_self, or_true, true_or, and_true, true_and, and_false, false_and, decide_true, decide_false, Bool.not_true, Bool.not_false, decide_eq_true_eq, decide_eq_false_iff_not, ite_and_p, ite_or_p, Bool.decide_eq_true, Bool.and_eq_true, Bool.or_eq_true, Bool.not_eq_true', Bool.not_eq_false', Bool.and_eq_false_imp, Bool.or_eq_false_iff, bne_iff_ne, beq_iff_eq, bne_eq_false_iff_eq, beq_eq_false_iff_ne, gt_iff_lt, ge_iff_le, Int.not_lt, Int.not_le, ne_eq, Bool.true_eq_false, Bool.false_eq_true, reduceCtorEq, eta_Airway, eta_Fan, eta_Mine, bytes_nil] at hG; (try simp only [List.length_map]); omega) ?_
    | refine EqI.mk _ (fun _ => wrapI (by omega) (by omega)) ?_
    | refine EqI.mk _ (fun _ => rfl) ?_
    | refine EqN.mk _ (ln eI) ?_
    | refine EqN.mk _ (Nat.zero_add _) ?_
    | refine EqN.mk _ (Int.toNat_natCast _) ?_
    | refine EqN.mk _ rfl ?_
    | refine EqL.mk _ (tk eI (by first | rfl | assumption | omega | (simp only [List.length_map, List.length_cons, List.length_nil, List.length_append, List.length_set, List.length_replicate, iotaI_len]; done) | (simp only [List.length_map, List.length_cons, List.length_nil, List.length_append, List.length_set, List.length_replicate, iotaI_len]; omega))) ?_
    | refine EqL.mk _ (st eI) ?_
    | refine EqL.mk _ (dt eI) ?_
    | refine EqL.mk [] rfl ?_
    | refine EqL.mk [_] rfl ?_
    | refine EqL.mk _ rfl ?_
    | refine ArgF.is (c_spec_l16Ask ⟨_, _⟩ _ _ _ _ _ _) ?_
    | refine ArgQ.is (fun hG => c_spec_l16Ask ⟨_, _⟩ _ _ _ _ _ _) rfl rfl ?_
    | refine ArgF.is (c_spec_l00In ..) ?_
    | refine ArgQ.is (fun hG => c_spec_l00In ..) rfl rfl ?_
    | refine ArgF.is (c_spec_l02Temperature ..) ?_
    | refine ArgQ.is (fun hG => c_spec_l02Temperature ..) rfl rfl ?_
    | refine ArgF.is (c_spec_l16Search_run ..) ?_
    | refine ArgQ.is (fun hG => c_spec_l16Search_run ..) rfl rfl ?_
    | refine ArgF.is (c_spec_l00Own _ (by first | assumption | omega)) ?_
    | refine ArgQ.is (fun hG => c_spec_l00Own _ (by first | assumption | omega)) rfl rfl ?_
    | refine ArgQ.is (fun hG => c_spec_l00Own _ (by simp only [forall_const, eq_self, not_true_eq_false, not_false_eq_true, or_false, false_or, or_self, or_true, true_or, and_true, true_and, and_false, false_and, decide_true, decide_false, Bool.not_true, Bool.not_false, decide_eq_true_eq, decide_eq_false_iff_not, ite_and_p, ite_or_p, Bool.decide_eq_true, Bool.and_eq_true, Bool.or_eq_true, Bool.not_eq_true', Bool.not_eq_false', Bool.and_eq_false_imp, Bool.or_eq_false_iff, bne_iff_ne, beq_iff_eq, bne_eq_false_iff_eq, beq_eq_false_iff_ne, gt_iff_lt, ge_iff_le, Int.not_lt, Int.not_le, ne_eq, Bool.true_eq_false, Bool.false_eq_true, reduceCtorEq, eta_Airway, eta_Fan, eta_Mine, bytes_nil] at hG; omega)) rfl rfl ?_
    | refine CallF.mk (CallW.is [] true rfl ?_)
    | refine CallG.mk ?_
    | (refine CondF.mk (fun hb => ?_) (fun hb => ?_) <;> try simp only [forall_const, eq_self, not_true_eq_false, not_false_eq_true, or_false, false_or, or_self, or_true, true_or, and_true, true_and, and_false, false_and, decide_true, decide_false, Bool.not_true, Bool.not_false, decide_eq_true_eq, decide_eq_false_iff_not, ite_and_p, ite_or_p, Bool.decide_eq_true, Bool.and_eq_true, Bool.or_eq_true, Bool.not_eq_true', Bool.not_eq_false', Bool.and_eq_false_imp, Bool.or_eq_false_iff, bne_iff_ne, beq_iff_eq, bne_eq_false_iff_eq, beq_eq_false_iff_ne, gt_iff_lt, ge_iff_le, Int.not_lt, Int.not_le, ne_eq, Bool.true_eq_false, Bool.false_eq_true, reduceCtorEq, eta_Airway, eta_Fan, eta_Mine] at hb)
    | apply BackF.auto5
    | refine BackB.mk ?_ ?_
    | refine RetF.auto (And.intro rfl ?_)
    | exact Is.mk rfl rfl
    | refine Is.mk ?_ rfl
    | refine Is.mk rfl ?_
    | refine Is.mk ?_ ?_
  all_goals try dsimp only
  all_goals first
    | omega
    | (have q := askZ (by assumption) hb
       have q1 := htC_p hb
       have q2 := okMine_p q1.1.mine
       have q3 := q1.1.fl
       have q4 := iota_LZ m.airways.length
       exact ⟨Int.le_refl _, by omega, ⟨by omega, by have := askC_p q; omega⟩, rfl, cooZ_0 q, q, rfl, by omega, by omega, by omega⟩)
    | (have q := fsB_n k0 (by omega) (by omega) k4 e1 e2 e3 e4 e5 (by assumption) (by assumption)
       exact ⟨by omega, by omega, ⟨by omega, by omega⟩, q.1, q.2.2, k5, by assumption, k7, k8⟩)
    | (rw [cooV_c (by rename_i h9; rw [askC_2 h9.1 h9.2]; decide)]; first | rfl | exact ⟨rfl, by rename_i h9; exact (askC_2 h9.1 h9.2).symm⟩)
    | (rw [cooV_c (by rw [askC_c hb]; exact hb)]; first | rfl | exact ⟨rfl, (askC_c hb).symm⟩)
    | (rw [k4.trans (fsB_t k0 (by omega) rfl e1 e5 (by assumption)).1] <;> first | rfl | exact ⟨rfl, rfl⟩)
    | (rw [(fsB_t k0 (by omega) k4 e1 e5 (by assumption)).1] <;> first | rfl | exact ⟨rfl, rfl⟩)
    | (rw [fsB_f k0 (by omega) k4 e1 e3 (by assumption) (by assumption)] <;> first | rfl | exact ⟨rfl, rfl⟩)
    | (rw [fsB_e k0 (by omega) k4] <;> first | rfl | exact ⟨rfl, rfl⟩)
    | skip
end Go.Proofs.Ytfcnlpghdpfjkaa
