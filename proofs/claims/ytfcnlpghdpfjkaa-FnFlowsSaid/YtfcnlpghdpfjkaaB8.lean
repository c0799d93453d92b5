/- Contracts of functions of the program, and what they compute. Conditions: those that each theorem states. -/
import Derived.Test.YtfcnlpghdpfjkaaProg
import Derived.Test.YtfcnlpghdpfjkaaB6
import Derived.Test.YtfcnlpghdpfjkaaB7
set_option linter.unusedVariables false
set_option linter.unusedSimpArgs false
namespace Go.Proofs.Ytfcnlpghdpfjkaa
open Go.Av
attribute [local irreducible] Go.IntKind.wrap leastI rdZ rd rootI okMine treeC mshC
set_option maxRecDepth 20000
set_option maxHeartbeats 40000000

/-! The program's meshes, told exactly. -/
section
variable {m : GMine} {T : List Int} {i : Int}
theorem tT_rg (h : T = treeC m m.airways.length) : ∀ x ∈ T, 0 ≤ x ∧ x < m.airways.length := fun x hx => by
  have := (treeC_I (m := m) m.airways.length).rg x (by rw [← h]; exact hx); omega
theorem tT_len (h : T = treeC m m.airways.length) : (T.length : Int) ≤ m.airways.length := by
  have := trI_len (treeC_I (m := m) m.airways.length) (by omega); rw [← h] at this; omega
theorem tT_cn (hm : okMine m = true) (h : T = treeC m m.airways.length) (h0 : 0 ≤ i) (hi : i < m.airways.length) (hn : i ∉ T) : cnA m T (m.airways.getD i.toNat default).to (m.airways.getD i.toNat default).from_ := by
  have := (treeC_I (m := m) m.airways.length).cn i h0 hi (by rw [← h]; exact hn)
  rw [← h] at this
  exact cnA_sym hm this
theorem mshX_end {ss : List (List Int)} (hT : T = treeC m m.airways.length) (h : MshR m T i.toNat ss) (hi : i = m.airways.length) : ss = mshC m := by
  rw [hT, hi, Int.toNat_natCast] at h
  exact (mshC_of h).1
end
--@fn (impl.Mine).meshes
theorem meshX (m : GMine) (hm : okMine m = true) : FnSem Try.prog 91 [.p .any (.agg m.cells)] [] (Is [.p .fresh (LLI (mshC m))] []) := by
  have hmp := okMine_p hm
  refine FnSem.walk (zs := zeroPV Try.prog) (by kernel_rfl) Try.func91 rfl Try.results91 (by kernel_rfl) (by kernel_rfl) (by kernel_rfl) fun hw hh => ?_
  obtain ⟨w0, _⟩ := hw
  first | replace w0 := wf_Mine w0 | skip
  have hwl := w0.2.1
  repeat' first
    | refine And.intro rfl ?_
    | refine GdF.mk (fun h => h) ?_
    | refine And.intro (Nat.succ_ne_zero _) ?_
    | refine And.intro (Nat.le_of_ble_eq_true rfl) ?_
    | refine SeqF.run ?_
    | refine GhF.at 10 rfl [.fz 2 4] ?_
    | (refine ArgF.ret (treeX m hm) ?_; rintro ⟨t, T⟩ ⟨t1, t2⟩; dsimp only at t1 t2)
    | refine EqL.mk _ (tkT (take_all t1)) ?_
    | (refine ArgF.mk _ (pathX m (m.airways.getD i.toNat default).to (m.airways.getD i.toNat default).from_ T hm (hmp.2.2 i.toNat (by omega)).2.2 (hmp.2.2 i.toNat (by omega)).2.1 (tT_rg t2) (by have := tT_len t2; omega)) (fun rs ho hR _ => ?_); rcases hR with ⟨rfl, rfl, hno⟩ | ⟨k, ws, rfl, rfl, p3, p5, p7⟩)
    | (exfalso; exact hno (tT_cn hm t2 i0 (by assumption) (by assumption)))
    | refine MkF.rows ?_
    | refine EqL.mk (List.map eI ((i + 1) :: ws)) rfl ?_
    | refine EqL.mk (List.map eI ((i + 1) :: ws)) (capT (by simp; omega)) ?_
    | refine BndF.mk (fun _ => by simp; omega) ?_
    | refine BndF.mk (fun _ => by have := i4; omega) ?_
    | refine EqR.mk (List.map eR [(i + 1) :: ws]) rfl ?_
    | refine EqR.mk [] rfl ?_
    | refine EqR.mk _ apR ?_
    | refine EqR.mk (List.map eR [(i + 1) :: ws]) (by simp) ?_
    | refine EqL.mk (List.map eLI (mshC m)) (by rw [← mshX_end t2 i3 (by omega)]; exact tkRows i2) ?_
    | refine LoopF.at 4 rfl (LoopF.fix [1, 3, 12, 13] (Int × Nat × List (List Int)) (fun (i, n, ss) => 0 ≤ i ∧ i ≤ m.airways.length ∧ n = ss.length ∧ MshR m T i.toNat ss ∧ (n : Int) ≤ i) (fun (i, n, ss) => [(14, In i), (4, .osl 2 0 n)]) (fun (i, n, ss) => [(2, .rows true .flat (eI 0) (ss.map eR) none)]) (fun (i, n, ss) => ((m.airways.length - i).toNat)) ((0, 0, [])) ?_)
    | (refine LoopB.of (T := Int × Nat × List (List Int)) ?_ ?_; rotate_left; rintro ⟨i, n, ss⟩ ⟨i0, i1, i2, i3, i4⟩; rotate_left)
    | refine GhF.go ?_
    | refine BndF.mk (fun _ => ⟨rfl, by first | rfl | omega | (simp only [List.length_map, List.length_cons, List.length_nil, List.length_append, List.length_set, List.length_replicate]; first | done | omega)⟩) ?_
    | refine MkF.row ?_
    | refine EqP.mk _ (gm eI 0 rfl) ?_
    | refine EqP.mk _ (gm GAirway.cells default rfl) ?_
    | refine EqP.mk _ (gmb eLI [] (by omega)) ?_
    | refine BndF.mk (fun _ => by omega) ?_
    | refine BndF.mk (fun _ => by simp only [List.length_map, List.length_cons, List.length_nil, List.length_append, List.length_set, List.length_replicate, iotaI_len]; omega) ?_
    | refine EqI.mk _ (fun _ => wrapI (by omega) (by omega)) ?_
    | refine EqI.mk _ (fun _ => rfl) ?_
    | refine FlF.keep ?_
    | refine EqN.mk _ (ln eI) ?_
    | refine EqN.mk _ (ln GAirway.cells) ?_
    | refine EqN.mk _ (ln eLI) ?_
    | refine EqN.mk _ (Nat.zero_add _) ?_
    | refine EqN.mk (_ + 1) rfl ?_
    | refine EqN.mk _ (Int.toNat_natCast _) ?_
    | refine EqN.mk _ rfl ?_
    | refine EqL.mk _ (sn0 eI) ?_
    | refine EqL.mk _ (sn eI (by first | rfl | assumption | omega | (simp only [List.length_map, List.length_cons, List.length_nil, List.length_append, List.length_set, List.length_replicate, iotaI_len]; done) | (simp only [List.length_map, List.length_cons, List.length_nil, List.length_append, List.length_set, List.length_replicate, iotaI_len]; omega))) ?_
    | refine EqL.mk _ (ap0 eI) ?_
    | refine EqL.mk _ (ap eI (by first | rfl | assumption | omega | (simp only [List.length_map, List.length_cons, List.length_nil, List.length_append, List.length_set, List.length_replicate, iotaI_len]; done) | (simp only [List.length_map, List.length_cons, List.length_nil, List.length_append, List.length_set, List.length_replicate, iotaI_len]; omega))) ?_
    | refine EqL.mk _ (tk eI (by first | rfl | assumption | omega | (simp only [List.length_map, List.length_cons, List.length_nil, List.length_append, List.length_set, List.length_replicate, iotaI_len]; done) | (simp only [List.length_map, List.length_cons, List.length_nil, List.length_append, List.length_set, List.length_replicate, iotaI_len]; omega))) ?_
    | refine EqL.mk _ (st eI) ?_
    | refine EqL.mk _ (dt eI) ?_
    | refine EqL.mk _ (sn0 GAirway.cells) ?_
    | refine EqL.mk _ (sn GAirway.cells (by first | rfl | assumption | omega | (simp only [List.length_map, List.length_cons, List.length_nil, List.length_append, List.length_set, List.length_replicate, iotaI_len]; done) | (simp only [List.length_map, List.length_cons, List.length_nil, List.length_append, List.length_set, List.length_replicate, iotaI_len]; omega))) ?_
    | refine EqL.mk _ (ap0 GAirway.cells) ?_
    | refine EqL.mk _ (ap GAirway.cells (by first | rfl | assumption | omega | (simp only [List.length_map, List.length_cons, List.length_nil, List.length_append, List.length_set, List.length_replicate, iotaI_len]; done) | (simp only [List.length_map, List.length_cons, List.length_nil, List.length_append, List.length_set, List.length_replicate, iotaI_len]; omega))) ?_
    | refine EqL.mk _ (tk GAirway.cells (by first | rfl | assumption | omega | (simp only [List.length_map, List.length_cons, List.length_nil, List.length_append, List.length_set, List.length_replicate, iotaI_len]; done) | (simp only [List.length_map, List.length_cons, List.length_nil, List.length_append, List.length_set, List.length_replicate, iotaI_len]; omega))) ?_
    | refine EqL.mk _ (st GAirway.cells) ?_
    | refine EqL.mk _ (dt GAirway.cells) ?_
    | refine EqL.mk _ (sn0 eLI) ?_
    | refine EqL.mk _ (sn eLI (by first | rfl | assumption | omega | (simp only [List.length_map, List.length_cons, List.length_nil, List.length_append, List.length_set, List.length_replicate, iotaI_len]; done) | (simp only [List.length_map, List.length_cons, List.length_nil, List.length_append, List.length_set, List.length_replicate, iotaI_len]; omega))) ?_
    | refine EqL.mk _ (ap0 eLI) ?_
    | refine EqL.mk _ (ap eLI (by first | rfl | assumption | omega | (simp only [List.length_map, List.length_cons, List.length_nil, List.length_append, List.length_set, List.length_replicate, iotaI_len]; done) | (simp only [List.length_map, List.length_cons, List.length_nil, List.length_append, List.length_set, List.length_replicate, iotaI_len]; omega))) ?_
    | refine EqL.mk _ (tk eLI (by first | rfl | assumption | omega | (simp only [List.length_map, List.length_cons, List.length_nil, List.length_append, List.length_set, List.length_replicate, iotaI_len]; done) | (simp only [List.length_map, List.length_cons, List.length_nil, List.length_append, List.length_set, List.length_replicate, iotaI_len]; omega))) ?_
    | refine EqL.mk _ (st eLI) ?_
    | refine EqL.mk _ (dt eLI) ?_
    | refine EqL.mk [] rfl ?_
    | refine EqL.mk [_] rfl ?_
    | refine EqL.mk _ rfl ?_
    | refine ArgF.is (c_impl_Mine_tree ⟨_, _⟩ (by first | assumption | omega)) ?_
    | refine ArgQ.is (fun hG => c_impl_Mine_tree ⟨_, _⟩ (by first | assumption | omega)) rfl rfl ?_
    | refine ArgF.is (c_slices_Contains_int64_int64 ..) ?_
    | refine ArgQ.is (fun hG => c_slices_Contains_int64_int64 ..) rfl rfl ?_
    | refine ArgF.is (c_impl_Mine_path ⟨_, _⟩ _ _ _ (by first | assumption | omega) (by first | assumption | omega) (by first | assumption | omega) (by first | assumption | omega) (by first | assumption | omega)) ?_
    | refine ArgQ.is (fun hG => c_impl_Mine_path ⟨_, _⟩ _ _ _ (by first | assumption | omega) (by first | assumption | omega) (by first | assumption | omega) (by first | assumption | omega) (by first | assumption | omega)) rfl rfl ?_
    | refine CallF.mk (CallW.is [] true rfl ?_)
    | refine CallG.mk ?_
    | (refine CondF.mk (fun hb => ?_) (fun hb => ?_) <;> try simp only [forall_const, eq_self, not_true_eq_false, not_false_eq_true, or_false, false_or, or_self, or_true, true_or, and_true, true_and, and_false, false_and, decide_true, decide_false, Bool.not_true, Bool.not_false, decide_eq_true_eq, decide_eq_false_iff_not, ite_and_p, ite_or_p, Bool.decide_eq_true, Bool.and_eq_true, Bool.or_eq_true, Bool.not_eq_true', Bool.not_eq_false', Bool.and_eq_false_imp, Bool.or_eq_false_iff, bne_iff_ne, beq_iff_eq, bne_eq_false_iff_eq, beq_eq_false_iff_ne, gt_iff_lt, ge_iff_le, Int.not_lt, Int.not_le, ne_eq, Bool.true_eq_false, Bool.false_eq_true, reduceCtorEq, eta_Airway, eta_Fan, eta_Mine] at hb)
    | apply BackF.auto3
    | refine BackB.mk ?_ ?_
    | refine RetF.auto (And.intro rfl ?_)
    | exact Is.mk rfl rfl
    | refine Is.mk ?_ rfl
    | refine Is.mk rfl ?_
    | refine Is.mk ?_ ?_
  all_goals try dsimp only
  all_goals try simp only [Bo, I, OB.row.injEq, AV.osl.injEq, eI_same,  List.cons.injEq, AV.p.injEq, PV.c.injEq, Value.int.injEq, Value.bool.injEq, and_true, true_and, ite_and_p, ite_or_p, Bool.decide_eq_true, eta_Airway, eta_Fan, eta_Mine]
  all_goals try dsimp only
  all_goals first
    | omega
    | exact ⟨by omega, by omega, rfl, .nil, by omega⟩
    | exact ⟨by omega, by omega, i2, i3.inn i0 (by assumption), by omega⟩
    | exact ⟨by omega, by omega, by simp [i2], i3.out i0 (by assumption) p5, by omega⟩
    | skip
end Go.Proofs.Ytfcnlpghdpfjkaa

