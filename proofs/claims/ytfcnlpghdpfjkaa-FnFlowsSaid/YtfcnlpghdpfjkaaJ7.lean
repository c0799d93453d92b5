/- Contracts of functions of the program, and what they compute. Conditions: those that each theorem states. -/
import Derived.Test.YtfcnlpghdpfjkaaProg
import Derived.Test.YtfcnlpghdpfjkaaJ6
import Derived.Test.YtfcnlpghdpfjkaaJ0
set_option linter.unusedVariables false
set_option linter.unusedSimpArgs false
namespace Go.Proofs.Ytfcnlpghdpfjkaa
open Go.Av
attribute [local irreducible] Go.IntKind.wrap leastI rdZ rd rootI okMine treeC mshC dropI
set_option maxRecDepth 20000
set_option maxHeartbeats 16000000

/-! Steps, corrections, flows of meshes: the program. -/
theorem rootI_up (n : Int) : 0 ≤ rootI n ∧ rootI n ≤ 3037000499 := by
  unfold rootI
  split
  · omega
  · have := leastI_r (p := rootP n) (lo := 0) (hi := 3037000498) (by omega)
    omega
theorem quo_b {x y B : Int} (hx : -B ≤ x ∧ x ≤ B) (hy : 1 ≤ y) : -B ≤ x.tdiv y ∧ x.tdiv y ≤ B := by
  have h := Int.natAbs_tdiv_le_natAbs x y
  omega
theorem c_impl_stepOf (m : GMine) (w r p fl : List Int) (h : sysO m r p fl) (hw : okWk m.airways.length w) (hw1 : 1 ≤ w.length) (hL : m.airways.length ≤ 24) : FnSem Try.prog 106 [Lx (LI w), Lx (LI r), Lx (LI p), Lx (LI fl)] [] (RetV (fun v : Int => [In v]) (fun _ => []) (fun v => -10000 ≤ v ∧ v ≤ 10000)) := by
  have hr := h.r.1
  have hp := h.p.1
  have hf := h.f.1
  have h64 := hw.1
  have hE : -(w.length * 3000000) ≤ errW r p fl w ∧ errW r p fl w ≤ w.length * 3000000 := errI_b h hw w.length (Nat.le_refl _)
  have hrt := rootI_up
  have hm2 : ∀ k : Nat, k < w.length → 0 ≤ 2 * r.getD (absI (w.getD k 0) - 1).toNat 0 * absI (fl.getD (absI (w.getD k 0) - 1).toNat 0) ∧ 2 * r.getD (absI (w.getD k 0) - 1).toNat 0 * absI (fl.getD (absI (w.getD k 0) - 1).toNat 0) ≤ 200000000000 := fun k hk => by
    obtain ⟨a, b, c⟩ := sys_i h hw hk
    have ha : 0 ≤ absI (fl.getD (absI (w.getD k 0) - 1).toNat 0) ∧ absI (fl.getD (absI (w.getD k 0) - 1).toNat 0) ≤ 100000 := by unfold absI at c ⊢; omega
    have := mulB (a := 2 * r.getD (absI (w.getD k 0) - 1).toNat 0) (b := absI (fl.getD (absI (w.getD k 0) - 1).toNat 0)) (A := 2000000) (B := 100000) (by omega) ha
    exact ⟨Int.mul_nonneg (by omega) ha.1, by omega⟩
  refine FnSem.walk (zs := zeroPV Try.prog) (by kernel_rfl) Try.func106 rfl Try.results106 (by kernel_rfl) (by kernel_rfl) (by kernel_rfl) fun hw hh => ?_
  obtain ⟨w0, w1, w2, w3, _⟩ := hw
  first | replace w0 := wf_LI w0 | skip
  first | replace w1 := wf_LI w1 | skip
  first | replace w2 := wf_LI w2 | skip
  first | replace w3 := wf_LI w3 | skip
  repeat' first
    | refine And.intro rfl ?_
    | refine GdF.mk (fun h => h) ?_
    | refine And.intro (Nat.succ_ne_zero _) ?_
    | refine And.intro (Nat.le_of_ble_eq_true rfl) ?_
    | refine SeqF.run ?_
    | refine ArgF.is (c_impl_walkError m w r p fl h hw hL) ?_
    | refine ArgQ.is (fun hG => c_impl_walkError m w r p fl h hw hL) rfl rfl ?_
    | refine LoopF.at 3 rfl (LoopF.fix [1, 3, 9, 22, 23] (Int × Int × Int) (fun (i, rise, al) => 0 ≤ i ∧ i ≤ w.length ∧ (0 ≤ rise ∧ rise ≤ i * 200000000000) ∧ (i ≤ al ∧ al ≤ i * 1000000)) (fun (i, rise, al) => [(24, In i), (10, In rise), (11, In al)]) (fun (i, rise, al) => []) (fun (i, rise, al) => ((w.length - i).toNat)) ((0, 0, 0)) ?_)
    | (refine LoopB.of (T := Int × Int × Int) ?_ ?_; rotate_left; rintro ⟨i, rise, al⟩ ⟨i0, i1, i2, i3⟩; rotate_left)
    | refine ArgF.is (c_impl_airwayOf (w.getD i.toNat 0) (by have q := okWk_i hw i0 (by assumption); omega)) ?_
    | refine ArgQ.is (fun hG => c_impl_airwayOf (w.getD i.toNat 0) (by have q := okWk_i hw i0 (by assumption); omega)) rfl rfl ?_
    | refine ArgF.is (absT (fl.getD (absI (w.getD i.toNat 0) - 1).toNat 0) (by have q := (sys_i h hw (k := i.toNat) (by omega)).2.2; omega)) ?_
    | refine ArgQ.is (fun hG => absT (fl.getD (absI (w.getD i.toNat 0) - 1).toNat 0) (by have q := (sys_i h hw (k := i.toNat) (by omega)).2.2; omega)) rfl rfl ?_
    | refine ArgF.is (divRoundZ _ _ (by omega) (by omega) (by omega)) ?_
    | refine ArgQ.is (fun hG => divRoundZ _ _ (by omega) (by omega) (by omega)) rfl rfl ?_
    | refine BndF.mk (fun _ => by have q := okWk_i hw i0 (by assumption); first | omega | (simp only [List.length_map]; omega)) ?_
    | refine EqI.mk _ (fun _ => by have q := hm2 i.toNat (by omega); have q3 := (sys_i h hw (k := i.toNat) (by omega)).1; exact wrapI (by omega) (by omega)) ?_
    | refine EqI.mk _ (fun _ => by have q := quo_b (x := errW r p fl w * 10000000000) (y := al) (B := 2000000000000000000) (by omega) (by omega); exact wrapI (by omega) (by omega)) ?_
    | refine EqI.mk _ (fun _ => by have q := quo_b (x := (0 - errW r p fl w) * 10000000000) (y := al) (B := 2000000000000000000) (by omega) (by omega); exact wrapI (by omega) (by omega)) ?_
    | refine EqI.mk _ (fun _ => by have q := hrt ((errW r p fl w * 10000000000).tdiv al); exact wrapI (by omega) (by omega)) ?_
    | refine RetV.mk (α := Int) _ rfl rfl ?_
    | refine GhF.go ?_
    | refine DrawG.old (DrawF.lex (by decide +kernel) ?_)
    | refine EqP.mk _ (gm eI 0 rfl) ?_
    | refine BndF.mk (fun _ => by omega) ?_
    | refine BndF.mk (fun _ => by simp only [List.length_map, List.length_cons, List.length_nil, List.length_append, List.length_set, List.length_replicate, iotaI_len]; omega) ?_
    | refine EqI.mk _ (fun _ => wrapI (by omega) (by omega)) ?_
    | refine EqI.mk _ (fun _ => wrapD (by omega) (by omega) (by omega)) ?_
    | refine EqI.mk _ (fun _ => rfl) ?_
    | refine EqN.mk _ (ln eI) ?_
    | refine EqN.mk _ (Nat.zero_add _) ?_
    | refine EqN.mk _ (Int.toNat_natCast _) ?_
    | refine EqN.mk _ rfl ?_
    | refine EqL.mk _ (tk eI (by first | rfl | assumption | omega | (simp only [List.length_map, List.length_cons, List.length_nil, List.length_append, List.length_set, List.length_replicate, iotaI_len]; done) | (simp only [List.length_map, List.length_cons, List.length_nil, List.length_append, List.length_set, List.length_replicate, iotaI_len]; omega))) ?_
    | refine EqL.mk [] rfl ?_
    | refine EqL.mk [_] rfl ?_
    | refine EqL.mk _ rfl ?_
    | refine ArgF.is (c_impl_walkError ⟨_, _⟩ _ _ _ _ (by first | assumption | omega) (by first | assumption | omega) (by first | assumption | omega)) ?_
    | refine ArgQ.is (fun hG => c_impl_walkError ⟨_, _⟩ _ _ _ _ (by first | assumption | omega) (by first | assumption | omega) (by first | assumption | omega)) rfl rfl ?_
    | refine ArgF.is (c_impl_airwayOf _ (by first | assumption | omega)) ?_
    | refine ArgQ.is (fun hG => c_impl_airwayOf _ (by first | assumption | omega)) rfl rfl ?_
    | refine ArgF.is (c_impl_abs ..) ?_
    | refine ArgQ.is (fun hG => c_impl_abs ..) rfl rfl ?_
    | refine ArgF.is (c_impl_divRound _ _ (by first | assumption | omega) (by first | assumption | omega) (by first | assumption | omega) (by first | assumption | omega)) ?_
    | refine ArgQ.is (fun hG => c_impl_divRound _ _ (by first | assumption | omega) (by first | assumption | omega) (by first | assumption | omega) (by first | assumption | omega)) rfl rfl ?_
    | refine ArgF.is (c_impl_RootOf ..) ?_
    | refine ArgQ.is (fun hG => c_impl_RootOf ..) rfl rfl ?_
    | refine CallF.mk (CallW.is [] true rfl ?_)
    | refine CallG.mk ?_
    | (refine CondF.mk (fun hb => ?_) (fun hb => ?_) <;> try simp only [forall_const, eq_self, not_true_eq_false, not_false_eq_true, or_false, false_or, or_self, or_true, true_or, and_true, true_and, and_false, false_and, decide_true, decide_false, Bool.not_true, Bool.not_false, decide_eq_true_eq, decide_eq_false_iff_not, ite_and_p, ite_or_p, Bool.decide_eq_true, Bool.and_eq_true, Bool.or_eq_true, Bool.not_eq_true', Bool.not_eq_false', Bool.and_eq_false_imp, Bool.or_eq_false_iff, bne_iff_ne, beq_iff_eq, bne_eq_false_iff_eq, beq_eq_false_iff_ne, gt_iff_lt, ge_iff_le, Int.not_lt, Int.not_le, ne_eq, Bool.true_eq_false, Bool.false_eq_true, reduceCtorEq, eta_Airway, eta_Fan, eta_Mine] at hb)
    | apply BackF.auto3
    | refine BackB.mk ?_ ?_
    | refine RetF.auto (And.intro rfl ?_)
    | exact Is.mk rfl rfl
    | refine Is.mk ?_ rfl
    | refine Is.mk rfl ?_
    | refine Is.mk ?_ ?_
  all_goals try dsimp only
  all_goals first
    | omega
    | exact ⟨by omega, by omega, by omega, by omega⟩
    | (have q := hm2 i.toNat (by omega); have q3 := (sys_i h hw (k := i.toNat) (by omega)).1; exact ⟨by omega, by omega, by omega, by omega⟩)
    | skip
--@fn impl.FlowsOfMeshes
theorem lsO_bd {m : GMine} {xs : List Int} {B : Int} (h : lsO m xs (-B) B = true) (hB : 0 ≤ B) : ∀ k : Nat, -B ≤ xs.getD k 0 ∧ xs.getD k 0 ≤ B := fun k => by
  by_cases e : k < xs.length
  · exact (lsO_p h).2 k e
  · rw [List.getD_eq_getElem?_getD, List.getElem?_eq_none (by omega)]
    show -B ≤ 0 ∧ 0 ≤ B
    omega
end Go.Proofs.Ytfcnlpghdpfjkaa

