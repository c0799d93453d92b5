/- Contracts of functions of the program, and what they compute. Conditions: those that each theorem states. -/
import Derived.Test.YtfcnlpghdpfjkaaProg
import Derived.Test.YtfcnlpghdpfjkaaJ5
set_option linter.unusedVariables false
set_option linter.unusedSimpArgs false
namespace Go.Proofs.Ytfcnlpghdpfjkaa
open Go.Av
attribute [local irreducible] Go.IntKind.wrap leastI rdZ rd rootI rawA okMine treeC mshC dropI
set_option maxRecDepth 20000
set_option maxHeartbeats 16000000

/-! Errors, corrections, power, still airways: the program, asked rightly. -/
theorem blF.sys {m : GMine} {fl r p : List Int} (h : blF m fl 100000) (hr : r.length = m.airways.length ∧ ∀ k : Nat, k < r.length → 2000 ≤ r.getD k 0 ∧ r.getD k 0 ≤ 52000) (hp : p.length = m.airways.length ∧ ∀ k : Nat, k < p.length → -20 ≤ p.getD k 0 ∧ p.getD k 0 ≤ 400) : sysO m r p fl :=
  ⟨⟨hr.1, fun k hk => by have := hr.2 k (by omega); omega⟩, ⟨hp.1, fun k hk => by have := hp.2 k (by omega); omega⟩, ⟨h.ln, fun k _ => h.bd k⟩⟩
--@fn (impl.Mine).hasSystem
theorem hsT (m : GMine) (r p fl : List Int) (h1 : lsO m r 1 1000000 = true) (h2 : lsO m p (-100000) 100000 = true) (h3 : lsO m fl (-100000) 100000 = true) : FnSem Try.prog 100 [.p .any (.agg m.cells), Lx (LI r), Lx (LI p), Lx (LI fl)] [] (Is [Bo true] []) := by
  refine FnSem.walk (zs := zeroPV Try.prog) (by kernel_rfl) Try.func100 rfl Try.results100 (by kernel_rfl) (by kernel_rfl) (by kernel_rfl) fun hw hh => ?_
  obtain ⟨w0, w1, w2, w3, _⟩ := hw
  first | replace w0 := wf_Mine w0 | skip
  first | replace w1 := wf_LI w1 | skip
  first | replace w2 := wf_LI w2 | skip
  first | replace w3 := wf_LI w3 | skip
  repeat' first
    | refine And.intro rfl ?_
    | refine GdF.mk (fun h => h) ?_
    | refine And.intro (Nat.succ_ne_zero _) ?_
    | refine And.intro (Nat.le_of_ble_eq_true rfl) ?_
    | refine SeqF.run ?_
    | refine ArgF.is (hlT m r 1 1000000 h1) ?_
    | refine ArgQ.is (fun hG => hlT m r 1 1000000 h1) rfl rfl ?_
    | refine ArgF.is (hlT m p (-100000) 100000 h2) ?_
    | refine ArgQ.is (fun hG => hlT m p (-100000) 100000 h2) rfl rfl ?_
    | refine ArgF.is (hfT m fl h3) ?_
    | refine ArgQ.is (fun hG => hfT m fl h3) rfl rfl ?_
    | refine GhF.go ?_
    | refine GdS.keep ?_
    | refine BndF.mk (fun _ => by omega) ?_
    | refine BndF.mk (fun _ => by simp only [List.length_map, List.length_cons, List.length_nil, List.length_append, List.length_set, List.length_replicate, iotaI_len]; omega) ?_
    | refine BndF.mk (fun hG => by simp only [forall_const, eq_self, not_true_eq_false, not_false_eq_true, or_false, false_or, or_self, or_true, true_or, and_true, true_and, and_false, false_and, decide_true, decide_false, Bool.not_true, Bool.not_false, decide_eq_true_eq, decide_eq_false_iff_not, ite_and_p, ite_or_p, Bool.decide_eq_true, Bool.and_eq_true, Bool.or_eq_true, Bool.not_eq_true', Bool.not_eq_false', Bool.and_eq_false_imp, Bool.or_eq_false_iff, bne_iff_ne, beq_iff_eq, bne_eq_false_iff_eq, beq_eq_false_iff_ne, gt_iff_lt, ge_iff_le, Int.not_lt, Int.not_le, ne_eq, Bool.true_eq_false, Bool.false_eq_true, reduceCtorEq, eta_Airway, eta_Fan, eta_Mine, bytes_nil] at hG; (try simp only [List.length_map]); omega) ?_
    | refine EqL.mk _ (tk eI (by first | rfl | assumption | omega | (simp only [List.length_map, List.length_cons, List.length_nil, List.length_append, List.length_set, List.length_replicate, iotaI_len]; done) | (simp only [List.length_map, List.length_cons, List.length_nil, List.length_append, List.length_set, List.length_replicate, iotaI_len]; omega))) ?_
    | refine EqL.mk [] rfl ?_
    | refine EqL.mk [_] rfl ?_
    | refine EqL.mk _ rfl ?_
    | refine ArgF.is (c_impl_Mine_hasList ⟨_, _⟩ _ _ _) ?_
    | refine ArgQ.is (fun hG => c_impl_Mine_hasList ⟨_, _⟩ _ _ _) rfl rfl ?_
    | refine ArgF.is (c_impl_Mine_hasFlows ⟨_, _⟩ _) ?_
    | refine ArgQ.is (fun hG => c_impl_Mine_hasFlows ⟨_, _⟩ _) rfl rfl ?_
    | refine CallF.mk (CallW.is [] true rfl ?_)
    | refine CallG.mk ?_
    | (refine CondF.mk (fun hb => ?_) (fun hb => ?_) <;> try simp only [forall_const, eq_self, not_true_eq_false, not_false_eq_true, or_false, false_or, or_self, or_true, true_or, and_true, true_and, and_false, false_and, decide_true, decide_false, Bool.not_true, Bool.not_false, decide_eq_true_eq, decide_eq_false_iff_not, ite_and_p, ite_or_p, Bool.decide_eq_true, Bool.and_eq_true, Bool.or_eq_true, Bool.not_eq_true', Bool.not_eq_false', Bool.and_eq_false_imp, Bool.or_eq_false_iff, bne_iff_ne, beq_iff_eq, bne_eq_false_iff_eq, beq_eq_false_iff_ne, gt_iff_lt, ge_iff_le, Int.not_lt, Int.not_le, ne_eq, Bool.true_eq_false, Bool.false_eq_true, reduceCtorEq, eta_Airway, eta_Fan, eta_Mine] at hb)
    | refine RetF.auto (And.intro rfl ?_)
    | exact Is.mk rfl rfl
    | refine Is.mk ?_ rfl
    | refine Is.mk rfl ?_
    | refine Is.mk ?_ ?_
  all_goals skip
theorem c_impl_indexValid_int64 (ss : List (List Int)) (k : Int) : FnSem Try.prog 105 [.p .any (LLI ss), In k] [] (Is [Bo (inR k 0 (ss.length - 1))] []) := by
  refine FnSem.walk (zs := zeroPV Try.prog) (by kernel_rfl) Try.func105 rfl Try.results105 (by kernel_rfl) (by kernel_rfl) (by kernel_rfl) fun hw hh => ?_
  obtain ⟨w0, w1, _⟩ := hw
  first | replace w0 := wf_LLI w0 | skip
  first | replace w1 := wf_I w1 | skip
  repeat' first
    | refine And.intro rfl ?_
    | refine GdF.mk (fun h => h) ?_
    | refine And.intro (Nat.succ_ne_zero _) ?_
    | refine And.intro (Nat.le_of_ble_eq_true rfl) ?_
    | refine SeqF.run ?_
    | refine GhF.go ?_
    | refine BndF.mk (fun _ => by omega) ?_
    | refine BndF.mk (fun _ => by simp only [List.length_map, List.length_cons, List.length_nil, List.length_append, List.length_set, List.length_replicate, iotaI_len]; omega) ?_
    | refine EqI.mk _ (fun _ => wrapI (by omega) (by omega)) ?_
    | refine EqI.mk _ (fun _ => rfl) ?_
    | refine EqN.mk _ (ln eLI) ?_
    | refine EqL.mk _ (tk eLI (by first | rfl | assumption | omega | (simp only [List.length_map, List.length_cons, List.length_nil, List.length_append, List.length_set, List.length_replicate, iotaI_len]; done) | (simp only [List.length_map, List.length_cons, List.length_nil, List.length_append, List.length_set, List.length_replicate, iotaI_len]; omega))) ?_
    | refine EqL.mk [] rfl ?_
    | refine EqL.mk [_] rfl ?_
    | refine EqL.mk _ rfl ?_
    | refine ArgF.is (c_impl_within ..) ?_
    | refine ArgQ.is (fun hG => c_impl_within ..) rfl rfl ?_
    | refine CallF.mk (CallW.is [] true rfl ?_)
    | refine CallG.mk ?_
    | (refine CondF.mk (fun hb => ?_) (fun hb => ?_) <;> try simp only [forall_const, eq_self, not_true_eq_false, not_false_eq_true, or_false, false_or, or_self, or_true, true_or, and_true, true_and, and_false, false_and, decide_true, decide_false, Bool.not_true, Bool.not_false, decide_eq_true_eq, decide_eq_false_iff_not, ite_and_p, ite_or_p, Bool.decide_eq_true, Bool.and_eq_true, Bool.or_eq_true, Bool.not_eq_true', Bool.not_eq_false', Bool.and_eq_false_imp, Bool.or_eq_false_iff, bne_iff_ne, beq_iff_eq, bne_eq_false_iff_eq, beq_eq_false_iff_ne, gt_iff_lt, ge_iff_le, Int.not_lt, Int.not_le, ne_eq, Bool.true_eq_false, Bool.false_eq_true, reduceCtorEq, eta_Airway, eta_Fan, eta_Mine] at hb)
    | refine RetF.auto (And.intro rfl ?_)
    | exact Is.mk rfl rfl
    | refine Is.mk ?_ rfl
    | refine Is.mk rfl ?_
    | refine Is.mk ?_ ?_
  all_goals try dsimp only
  all_goals try simp only [Bo, I, OB.row.injEq, AV.osl.injEq, eI_same,  List.cons.injEq, AV.p.injEq, PV.c.injEq, Value.int.injEq, Value.bool.injEq, and_true, true_and, ite_and_p, ite_or_p, Bool.decide_eq_true, eta_Airway, eta_Fan, eta_Mine, inR]
/-- what is asked rightly -/
structure askM (m : GMine) (r p fl : List Int) : Prop where
  hm : okMine m = true
  bl : blF m fl 100000
  r : lsO m r 1 1000000 = true
  p : lsO m p (-100000) 100000 = true
theorem askM.sys {m : GMine} {r p fl : List Int} (h : askM m r p fl) : sysO m r p fl := by
  have a := lsO_p h.r
  have b := lsO_p h.p
  exact ⟨⟨a.1, fun k hk => a.2 k (by omega)⟩, ⟨b.1, fun k hk => by have := b.2 k (by omega); omega⟩, ⟨h.bl.ln, fun k _ => h.bl.bd k⟩⟩
theorem msh_ok {m : GMine} (hm : okMine m = true) : ∀ k : Nat, k < (mshC m).length → okWk m.airways.length ((mshC m).getD k []) := fun k hk => (mshC_G hm hk).ok
theorem c_impl_MeshErrors (m : GMine) (r p fl : List Int) (h : askM m r p fl) : FnSem Try.prog 35 [.p .any (.agg m.cells), Lx (LI r), Lx (LI p), Lx (LI fl)] [] (RetV (fun v : Nat × List Int => [.osl 0 0 v.1, In 0]) (fun v => [.row false .flat (eI 0) (v.2.map eI)]) (fun v => v.1 = (mshC m).length ∧ v.2 = (mshC m).map (errW r p fl))) := by
  refine FnSem.old ?_
  refine FnSem.walk (zs := zeroPV Try.prog) (by kernel_rfl) Try.func35 rfl Try.results35 (by kernel_rfl) (by kernel_rfl) (by kernel_rfl) fun hw hh => ?_
  obtain ⟨w0, w1, w2, w3, _⟩ := hw
  first | replace w0 := wf_Mine w0 | skip
  first | replace w1 := wf_LI w1 | skip
  first | replace w2 := wf_LI w2 | skip
  first | replace w3 := wf_LI w3 | skip
  repeat' first
    | refine And.intro rfl ?_
    | refine GdF.mk (fun h => h) ?_
    | refine And.intro (Nat.succ_ne_zero _) ?_
    | refine And.intro (Nat.le_of_ble_eq_true rfl) ?_
    | refine SeqF.run ?_
    | refine ArgF.is (vmT m h.hm) ?_
    | refine ArgQ.is (fun hG => vmT m h.hm) rfl rfl ?_
    | refine ArgF.is (hsT m r p fl h.r h.p h.bl.lo) ?_
    | refine ArgQ.is (fun hG => hsT m r p fl h.r h.p h.bl.lo) rfl rfl ?_
    | refine ArgF.is (meshX m h.hm) ?_
    | refine ArgQ.is (fun hG => meshX m h.hm) rfl rfl ?_
    | (refine ArgF.ret (c_impl_meshErrors m (mshC m) r p fl h.sys (mshC_len h.hm) (msh_ok h.hm) (okMine_p h.hm).2.1) ?_; intro v hv)
    | refine RetV.mk (α := Nat × List Int) v rfl rfl hv
    | refine GhF.go ?_
    | refine MkF.row ?_
    | refine BndF.mk (fun _ => by omega) ?_
    | refine BndF.mk (fun _ => by simp only [List.length_map, List.length_cons, List.length_nil, List.length_append, List.length_set, List.length_replicate, iotaI_len]; omega) ?_
    | refine EqN.mk _ (Nat.zero_add _) ?_
    | refine EqN.mk _ (Int.toNat_natCast _) ?_
    | refine EqN.mk _ rfl ?_
    | refine EqL.mk _ (tk eI (by first | rfl | assumption | omega | (simp only [List.length_map, List.length_cons, List.length_nil, List.length_append, List.length_set, List.length_replicate, iotaI_len]; done) | (simp only [List.length_map, List.length_cons, List.length_nil, List.length_append, List.length_set, List.length_replicate, iotaI_len]; omega))) ?_
    | refine EqL.mk _ (dt eI) ?_
    | refine EqL.mk _ (tk eLI (by first | rfl | assumption | omega | (simp only [List.length_map, List.length_cons, List.length_nil, List.length_append, List.length_set, List.length_replicate, iotaI_len]; done) | (simp only [List.length_map, List.length_cons, List.length_nil, List.length_append, List.length_set, List.length_replicate, iotaI_len]; omega))) ?_
    | refine EqL.mk _ (dt eLI) ?_
    | refine EqL.mk [] rfl ?_
    | refine EqL.mk [_] rfl ?_
    | refine EqL.mk _ rfl ?_
    | refine ArgF.is (c_impl_ValidMine ⟨_, _⟩) ?_
    | refine ArgQ.is (fun hG => c_impl_ValidMine ⟨_, _⟩) rfl rfl ?_
    | refine ArgF.is (c_impl_Mine_hasSystem ..) ?_
    | refine ArgQ.is (fun hG => c_impl_Mine_hasSystem ..) rfl rfl ?_
    | refine ArgF.is (c_impl_Mine_meshes ⟨_, _⟩ (by first | assumption | omega)) ?_
    | refine ArgQ.is (fun hG => c_impl_Mine_meshes ⟨_, _⟩ (by first | assumption | omega)) rfl rfl ?_
    | refine ArgF.is (c_impl_meshErrors ⟨_, _⟩ _ _ _ _ (by first | assumption | omega) (by first | assumption | omega) (by first | assumption | omega) (by first | assumption | omega)) ?_
    | refine ArgQ.is (fun hG => c_impl_meshErrors ⟨_, _⟩ _ _ _ _ (by first | assumption | omega) (by first | assumption | omega) (by first | assumption | omega) (by first | assumption | omega)) rfl rfl ?_
    | refine CallF.mk (CallW.is [] true rfl ?_)
    | refine CallG.mk ?_
    | (refine CondF.mk (fun hb => ?_) (fun hb => ?_) <;> try simp only [forall_const, eq_self, not_true_eq_false, not_false_eq_true, or_false, false_or, or_self, or_true, true_or, and_true, true_and, and_false, false_and, decide_true, decide_false, Bool.not_true, Bool.not_false, decide_eq_true_eq, decide_eq_false_iff_not, ite_and_p, ite_or_p, Bool.decide_eq_true, Bool.and_eq_true, Bool.or_eq_true, Bool.not_eq_true', Bool.not_eq_false', Bool.and_eq_false_imp, Bool.or_eq_false_iff, bne_iff_ne, beq_iff_eq, bne_eq_false_iff_eq, beq_eq_false_iff_ne, gt_iff_lt, ge_iff_le, Int.not_lt, Int.not_le, ne_eq, Bool.true_eq_false, Bool.false_eq_true, reduceCtorEq, eta_Airway, eta_Fan, eta_Mine] at hb)
    | refine RetF.auto (And.intro rfl ?_)
    | exact Is.mk rfl rfl
    | refine Is.mk ?_ rfl
    | refine Is.mk rfl ?_
    | refine Is.mk ?_ ?_
  all_goals skip
def pwI (r q : Int) : Int := rdZ (dropI r (absI q) * absI q) 100
theorem pwI_b {r q : Int} (hr : 1 ≤ r ∧ r ≤ 1000000) (hq : -100000 ≤ q ∧ q ≤ 100000) : (0 ≤ absI q ∧ absI q ≤ 100000) ∧ (-1000000 ≤ dropI r (absI q) ∧ dropI r (absI q) ≤ 1000000) ∧ (0 ≤ dropI r (absI q) * absI q ∧ dropI r (absI q) * absI q ≤ 100000000000) ∧ 0 ≤ pwI r q ∧ pwI r q ≤ 1000000000 := by
  have ha : 0 ≤ absI q ∧ absI q ≤ 100000 := by unfold absI; omega
  have hd := (dropI_b hr (q := absI q) (by omega)).2.2
  have hd0 : 0 ≤ dropI r (absI q) := by
    unfold dropI
    refine rdZ_lo (by omega) ?_
    rw [Int.zero_mul]
    exact Int.mul_nonneg (Int.mul_nonneg (by omega) ha.1) (by omega)
  have h1 := mulB (a := dropI r (absI q)) (b := absI q) (A := 1000000) (B := 100000) (by omega) ha
  have h0 : 0 ≤ dropI r (absI q) * absI q := Int.mul_nonneg hd0 ha.1
  have h2 := rdZ_lo (a := 0) (x := dropI r (absI q) * absI q) (y := 100) (by omega) (by omega)
  have h3 := rdZ_hi (b := 1000000000) (x := dropI r (absI q) * absI q) (y := 100) (by omega) (by omega)
  unfold pwI
  omega
theorem c_impl_airPower (r q : Int) (hr : 1 ≤ r ∧ r ≤ 1000000) (hq : -100000 ≤ q ∧ q ≤ 100000) : FnSem Try.prog 103 [In r, In q] [] (Is [In (pwI r q)] []) := by
  have hb := pwI_b hr hq
  have ha := c_impl_abs q
  rw [show max q (IntKind.i64.wrap (0 - q)) = absI q by rw [wrapI (by omega) (by omega)]; rfl] at ha
  refine FnSem.walk (zs := zeroPV Try.prog) (by kernel_rfl) Try.func103 rfl Try.results103 (by kernel_rfl) (by kernel_rfl) (by kernel_rfl) fun hw hh => ?_
  obtain ⟨w0, w1, _⟩ := hw
  first | replace w0 := wf_I w0 | skip
  first | replace w1 := wf_I w1 | skip
  repeat' first
    | refine And.intro rfl ?_
    | refine GdF.mk (fun h => h) ?_
    | refine And.intro (Nat.succ_ne_zero _) ?_
    | refine And.intro (Nat.le_of_ble_eq_true rfl) ?_
    | refine SeqF.run ?_
    | refine ArgF.is (ha) ?_
    | refine ArgQ.is (fun hG => ha) rfl rfl ?_
    | refine ArgF.is (c_impl_dropOf r (absI q) hr (by omega)) ?_
    | refine ArgQ.is (fun hG => c_impl_dropOf r (absI q) hr (by omega)) rfl rfl ?_
    | refine ArgF.is (divRoundZ (dropI r (absI q) * absI q) 100 (by omega) (by omega) (by omega)) ?_
    | refine ArgQ.is (fun hG => divRoundZ (dropI r (absI q) * absI q) 100 (by omega) (by omega) (by omega)) rfl rfl ?_
    | refine GhF.go ?_
    | refine BndF.mk (fun _ => by omega) ?_
    | refine BndF.mk (fun _ => by simp only [List.length_map, List.length_cons, List.length_nil, List.length_append, List.length_set, List.length_replicate, iotaI_len]; omega) ?_
    | refine EqI.mk _ (fun _ => wrapI (by omega) (by omega)) ?_
    | refine EqI.mk _ (fun _ => rfl) ?_
    | refine EqL.mk [] rfl ?_
    | refine EqL.mk [_] rfl ?_
    | refine EqL.mk _ rfl ?_
    | refine ArgF.is (c_impl_abs ..) ?_
    | refine ArgQ.is (fun hG => c_impl_abs ..) rfl rfl ?_
    | refine ArgF.is (c_impl_dropOf _ _ (by first | assumption | omega) (by first | assumption | omega)) ?_
    | refine ArgQ.is (fun hG => c_impl_dropOf _ _ (by first | assumption | omega) (by first | assumption | omega)) rfl rfl ?_
    | refine ArgF.is (c_impl_divRound _ _ (by first | assumption | omega) (by first | assumption | omega) (by first | assumption | omega) (by first | assumption | omega)) ?_
    | refine ArgQ.is (fun hG => c_impl_divRound _ _ (by first | assumption | omega) (by first | assumption | omega) (by first | assumption | omega) (by first | assumption | omega)) rfl rfl ?_
    | refine CallF.mk (CallW.is [] true rfl ?_)
    | refine CallG.mk ?_
    | (refine CondF.mk (fun hb => ?_) (fun hb => ?_) <;> try simp only [forall_const, eq_self, not_true_eq_false, not_false_eq_true, or_false, false_or, or_self, or_true, true_or, and_true, true_and, and_false, false_and, decide_true, decide_false, Bool.not_true, Bool.not_false, decide_eq_true_eq, decide_eq_false_iff_not, ite_and_p, ite_or_p, Bool.decide_eq_true, Bool.and_eq_true, Bool.or_eq_true, Bool.not_eq_true', Bool.not_eq_false', Bool.and_eq_false_imp, Bool.or_eq_false_iff, bne_iff_ne, beq_iff_eq, bne_eq_false_iff_eq, beq_eq_false_iff_ne, gt_iff_lt, ge_iff_le, Int.not_lt, Int.not_le, ne_eq, Bool.true_eq_false, Bool.false_eq_true, reduceCtorEq, eta_Airway, eta_Fan, eta_Mine] at hb)
    | refine RetF.auto (And.intro rfl ?_)
    | exact Is.mk rfl rfl
    | refine Is.mk ?_ rfl
    | refine Is.mk rfl ?_
    | refine Is.mk ?_ ?_
  all_goals skip
theorem c_impl_LossPower (m : GMine) (r p fl : List Int) (h : askM m r p fl) : FnSem Try.prog 36 [.p .any (.agg m.cells), Lx (LI r), Lx (LI fl)] [] (RetV (fun v : Int => [In v, In 0]) (fun _ => []) (fun v => 0 ≤ v)) := by
  have hs := h.sys
  have hpw := fun k hk => pwI_b (hs.r.2 k hk) (hs.f.2 k hk)
  have hL := (okMine_p h.hm).2.1
  have hr := hs.r.1
  have hf := hs.f.1
  refine FnSem.walk (zs := zeroPV Try.prog) (by kernel_rfl) Try.func36 rfl Try.results36 (by kernel_rfl) (by kernel_rfl) (by kernel_rfl) fun hw hh => ?_
  obtain ⟨w0, w1, w2, _⟩ := hw
  first | replace w0 := wf_Mine w0 | skip
  first | replace w1 := wf_LI w1 | skip
  first | replace w2 := wf_LI w2 | skip
  repeat' first
    | refine And.intro rfl ?_
    | refine GdF.mk (fun h => h) ?_
    | refine And.intro (Nat.succ_ne_zero _) ?_
    | refine And.intro (Nat.le_of_ble_eq_true rfl) ?_
    | refine SeqF.run ?_
    | refine ArgF.is (vmT m h.hm) ?_
    | refine ArgQ.is (fun hG => vmT m h.hm) rfl rfl ?_
    | refine ArgF.is (hfT m fl h.bl.lo) ?_
    | refine ArgQ.is (fun hG => hfT m fl h.bl.lo) rfl rfl ?_
    | refine ArgF.is (hlT m r 1 1000000 h.r) ?_
    | refine ArgQ.is (fun hG => hlT m r 1 1000000 h.r) rfl rfl ?_
    | refine ArgF.is (c_impl_airPower _ _ (hs.r.2 i.toNat (by omega)) (hs.f.2 i.toNat (by omega))) ?_
    | refine ArgQ.is (fun hG => c_impl_airPower _ _ (hs.r.2 i.toNat (by omega)) (hs.f.2 i.toNat (by omega))) rfl rfl ?_
    | refine LoopF.at 7 rfl (LoopF.fix [1, 26, 27] (Int × Int) (fun (i, s) => 0 ≤ i ∧ i ≤ fl.length ∧ 0 ≤ s ∧ s ≤ i * 1000000000) (fun (i, s) => [(28, In i), (8, In s)]) (fun (i, s) => []) (fun (i, s) => ((fl.length - i).toNat)) ((0, 0)) ?_)
    | (refine LoopB.of (T := Int × Int) ?_ ?_; rotate_left; rintro ⟨i, s⟩ ⟨i0, i1, i2, i3⟩; rotate_left)
    | refine EqI.mk _ (fun _ => by have q := hpw i.toNat (by omega); exact wrapI (by omega) (by omega)) ?_
    | refine RetV.mk (α := Int) _ rfl rfl ?_
    | refine GhF.go ?_
    | refine GdS.keep ?_
    | refine EqP.mk _ (gm eI 0 rfl) ?_
    | refine BndF.mk (fun _ => by omega) ?_
    | refine BndF.mk (fun _ => by simp only [List.length_map, List.length_cons, List.length_nil, List.length_append, List.length_set, List.length_replicate, iotaI_len]; omega) ?_
    | refine BndF.mk (fun hG => by simp only [forall_const, eq_self, not_true_eq_false, not_false_eq_true, or_false, false_or, or_self, or_true, true_or, and_true, true_and, and_false, false_and, decide_true, decide_false, Bool.not_true, Bool.not_false, decide_eq_true_eq, decide_eq_false_iff_not, ite_and_p, ite_or_p, Bool.decide_eq_true, Bool.and_eq_true, Bool.or_eq_true, Bool.not_eq_true', Bool.not_eq_false', Bool.and_eq_false_imp, Bool.or_eq_false_iff, bne_iff_ne, beq_iff_eq, bne_eq_false_iff_eq, beq_eq_false_iff_ne, gt_iff_lt, ge_iff_le, Int.not_lt, Int.not_le, ne_eq, Bool.true_eq_false, Bool.false_eq_true, reduceCtorEq, eta_Airway, eta_Fan, eta_Mine, bytes_nil] at hG; (try simp only [List.length_map]); omega) ?_
    | refine EqI.mk _ (fun _ => wrapI (by omega) (by omega)) ?_
    | refine EqI.mk _ (fun _ => rfl) ?_
    | refine EqN.mk _ (ln eI) ?_
    | refine EqN.mk _ (Nat.zero_add _) ?_
    | refine EqN.mk _ (Int.toNat_natCast _) ?_
    | refine EqN.mk _ rfl ?_
    | refine EqL.mk _ (tk eI (by first | rfl | assumption | omega | (simp only [List.length_map, List.length_cons, List.length_nil, List.length_append, List.length_set, List.length_replicate, iotaI_len]; done) | (simp only [List.length_map, List.length_cons, List.length_nil, List.length_append, List.length_set, List.length_replicate, iotaI_len]; omega))) ?_
    | refine EqL.mk [] rfl ?_
    | refine EqL.mk [_] rfl ?_
    | refine EqL.mk _ rfl ?_
    | refine ArgF.is (c_impl_ValidMine ⟨_, _⟩) ?_
    | refine ArgQ.is (fun hG => c_impl_ValidMine ⟨_, _⟩) rfl rfl ?_
    | refine ArgF.is (c_impl_Mine_hasFlows ⟨_, _⟩ _) ?_
    | refine ArgQ.is (fun hG => c_impl_Mine_hasFlows ⟨_, _⟩ _) rfl rfl ?_
    | refine ArgF.is (c_impl_Mine_hasList ⟨_, _⟩ _ _ _) ?_
    | refine ArgQ.is (fun hG => c_impl_Mine_hasList ⟨_, _⟩ _ _ _) rfl rfl ?_
    | refine ArgF.is (c_impl_airPower _ _ (by first | assumption | omega) (by first | assumption | omega)) ?_
    | refine ArgQ.is (fun hG => c_impl_airPower _ _ (by first | assumption | omega) (by first | assumption | omega)) rfl rfl ?_
    | refine ArgQ.is (fun hG => c_impl_airPower _ _ (by simp only [forall_const, eq_self, not_true_eq_false, not_false_eq_true, or_false, false_or, or_self, or_true, true_or, and_true, true_and, and_false, false_and, decide_true, decide_false, Bool.not_true, Bool.not_false, decide_eq_true_eq, decide_eq_false_iff_not, ite_and_p, ite_or_p, Bool.decide_eq_true, Bool.and_eq_true, Bool.or_eq_true, Bool.not_eq_true', Bool.not_eq_false', Bool.and_eq_false_imp, Bool.or_eq_false_iff, bne_iff_ne, beq_iff_eq, bne_eq_false_iff_eq, beq_eq_false_iff_ne, gt_iff_lt, ge_iff_le, Int.not_lt, Int.not_le, ne_eq, Bool.true_eq_false, Bool.false_eq_true, reduceCtorEq, eta_Airway, eta_Fan, eta_Mine, bytes_nil] at hG; omega) (by simp only [forall_const, eq_self, not_true_eq_false, not_false_eq_true, or_false, false_or, or_self, or_true, true_or, and_true, true_and, and_false, false_and, decide_true, decide_false, Bool.not_true, Bool.not_false, decide_eq_true_eq, decide_eq_false_iff_not, ite_and_p, ite_or_p, Bool.decide_eq_true, Bool.and_eq_true, Bool.or_eq_true, Bool.not_eq_true', Bool.not_eq_false', Bool.and_eq_false_imp, Bool.or_eq_false_iff, bne_iff_ne, beq_iff_eq, bne_eq_false_iff_eq, beq_eq_false_iff_ne, gt_iff_lt, ge_iff_le, Int.not_lt, Int.not_le, ne_eq, Bool.true_eq_false, Bool.false_eq_true, reduceCtorEq, eta_Airway, eta_Fan, eta_Mine, bytes_nil] at hG; omega)) rfl rfl ?_
    | refine CallF.mk (CallW.is [] true rfl ?_)
    | refine CallG.mk ?_
    | (refine CondF.mk (fun hb => ?_) (fun hb => ?_) <;> try simp only [forall_const, eq_self, not_true_eq_false, not_false_eq_true, or_false, false_or, or_self, or_true, true_or, and_true, true_and, and_false, false_and, decide_true, decide_false, Bool.not_true, Bool.not_false, decide_eq_true_eq, decide_eq_false_iff_not, ite_and_p, ite_or_p, Bool.decide_eq_true, Bool.and_eq_true, Bool.or_eq_true, Bool.not_eq_true', Bool.not_eq_false', Bool.and_eq_false_imp, Bool.or_eq_false_iff, bne_iff_ne, beq_iff_eq, bne_eq_false_iff_eq, beq_eq_false_iff_ne, gt_iff_lt, ge_iff_le, Int.not_lt, Int.not_le, ne_eq, Bool.true_eq_false, Bool.false_eq_true, reduceCtorEq, eta_Airway, eta_Fan, eta_Mine] at hb)
    | apply BackF.auto2
    | refine BackB.mk ?_ ?_
    | refine RetF.auto (And.intro rfl ?_)
    | exact Is.mk rfl rfl
    | refine Is.mk ?_ rfl
    | refine Is.mk rfl ?_
    | refine Is.mk ?_ ?_
  all_goals try dsimp only
  all_goals first
    | omega
    | exact ⟨by omega, by omega, by omega, by omega⟩
    | (have q := hpw i.toNat (by omega); exact ⟨by omega, by omega, by omega, by omega⟩)
    | skip
--@fn impl.within
theorem wiT (x a b : Int) (h : a ≤ x ∧ x ≤ b) : FnSem Try.prog 63 [In x, In a, In b] [] (Is [Bo true] []) := by
  have := c_impl_within x a b
  rwa [inR_iff.2 h] at this
--@fn impl.abs
theorem absT (q : Int) (h : -1000000000000000 ≤ q ∧ q ≤ 1000000000000000) : FnSem Try.prog 104 [In q] [] (Is [In (absI q)] []) := by
  have ha := c_impl_abs q
  rwa [show max q (IntKind.i64.wrap (0 - q)) = absI q by rw [wrapI (by omega) (by omega)]; rfl] at ha
theorem c_impl_StillAirways (m : GMine) (fl : List Int) (b : Int) (hm : okMine m = true) (h : blF m fl 100000) (hbb : 0 ≤ b ∧ b ≤ 100000) : FnSem Try.prog 37 [.p .any (.agg m.cells), Lx (LI fl), In b] [] (RetV (fun v : Nat × List Int => [.osl 0 0 v.1, In 0]) (fun v => [.row false .flat (eI 0) (v.2.map eI)]) (fun v => v.1 = v.2.length ∧ v.1 ≤ 24 ∧ ∀ k : Nat, (k : Int) < fl.length → ((k : Int) ∈ v.2 ↔ absI (fl.getD k 0) < b))) := by
  have hL := (okMine_p hm).2.1
  have hf := h.ln
  refine FnSem.old ?_
  refine FnSem.walk (zs := zeroPV Try.prog) (by kernel_rfl) Try.func37 rfl Try.results37 (by kernel_rfl) (by kernel_rfl) (by kernel_rfl) fun hw hh => ?_
  obtain ⟨w0, w1, w2, _⟩ := hw
  first | replace w0 := wf_Mine w0 | skip
  first | replace w1 := wf_LI w1 | skip
  first | replace w2 := wf_I w2 | skip
  repeat' first
    | refine And.intro rfl ?_
    | refine GdF.mk (fun h => h) ?_
    | refine And.intro (Nat.succ_ne_zero _) ?_
    | refine And.intro (Nat.le_of_ble_eq_true rfl) ?_
    | refine SeqF.run ?_
    | refine ArgF.is (vmT m hm) ?_
    | refine ArgQ.is (fun hG => vmT m hm) rfl rfl ?_
    | refine ArgF.is (hfT m fl h.lo) ?_
    | refine ArgQ.is (fun hG => hfT m fl h.lo) rfl rfl ?_
    | refine ArgF.is (wiT b 0 100000 hbb) ?_
    | refine ArgQ.is (fun hG => wiT b 0 100000 hbb) rfl rfl ?_
    | refine ArgF.is (absT (fl.getD i.toNat 0) (by have := h.bd i.toNat; omega)) ?_
    | refine ArgQ.is (fun hG => absT (fl.getD i.toNat 0) (by have := h.bd i.toNat; omega)) rfl rfl ?_
    | refine LoopF.at 9 rfl (LoopF.fix [2, 24, 25] (Int × Nat × List Int) (fun (i, n, xs) => 0 ≤ i ∧ i ≤ fl.length ∧ n = xs.length ∧ (n : Int) ≤ i ∧ (∀ k : Nat, (k : Int) < i → ((k : Int) ∈ xs ↔ absI (fl.getD k 0) < b)) ∧ ∀ x ∈ xs, x < i) (fun (i, n, xs) => [(26, In i), (8, .osl 0 0 n)]) (fun (i, n, xs) => [(0, .row true .flat (eI 0) (xs.map eI))]) (fun (i, n, xs) => ((fl.length - i).toNat)) ((0, 0, [])) ?_)
    | (refine LoopB.of (T := Int × Nat × List Int) ?_ ?_; rotate_left; rintro ⟨i, n, xs⟩ ⟨i0, i1, i2, i3, i4, i5⟩; rotate_left)
    | refine RetV.mk (α := Nat × List Int) (n, xs) rfl rfl ?_
    | refine GhF.go ?_
    | refine MkF.row ?_
    | refine EqP.mk _ (gm eI 0 rfl) ?_
    | refine BndF.mk (fun _ => by omega) ?_
    | refine BndF.mk (fun _ => by simp only [List.length_map, List.length_cons, List.length_nil, List.length_append, List.length_set, List.length_replicate, iotaI_len]; omega) ?_
    | refine EqI.mk _ (fun _ => wrapI (by omega) (by omega)) ?_
    | refine EqI.mk _ (fun _ => rfl) ?_
    | refine FlF.keep ?_
    | refine EqN.mk _ (ln eI) ?_
    | refine EqN.mk _ (Nat.zero_add _) ?_
    | refine EqN.mk (_ + 1) rfl ?_
    | refine EqN.mk _ (Int.toNat_natCast _) ?_
    | refine EqN.mk _ rfl ?_
    | refine EqL.mk _ (sn0 eI) ?_
    | refine EqL.mk _ (sn eI (by first | rfl | assumption | omega | (simp only [List.length_map, List.length_cons, List.length_nil, List.length_append, List.length_set, List.length_replicate, iotaI_len]; done) | (simp only [List.length_map, List.length_cons, List.length_nil, List.length_append, List.length_set, List.length_replicate, iotaI_len]; omega))) ?_
    | refine EqL.mk _ (ap0 eI) ?_
    | refine EqL.mk _ (ap eI (by first | rfl | assumption | omega | (simp only [List.length_map, List.length_cons, List.length_nil, List.length_append, List.length_set, List.length_replicate, iotaI_len]; done) | (simp only [List.length_map, List.length_cons, List.length_nil, List.length_append, List.length_set, List.length_replicate, iotaI_len]; omega))) ?_
    | refine EqL.mk _ (tk eI (by first | rfl | assumption | omega | (simp only [List.length_map, List.length_cons, List.length_nil, List.length_append, List.length_set, List.length_replicate, iotaI_len]; done) | (simp only [List.length_map, List.length_cons, List.length_nil, List.length_append, List.length_set, List.length_replicate, iotaI_len]; omega))) ?_
    | refine EqL.mk _ (dt eI) ?_
    | refine EqL.mk [] rfl ?_
    | refine EqL.mk [_] rfl ?_
    | refine EqL.mk _ rfl ?_
    | refine ArgF.is (c_impl_ValidMine ⟨_, _⟩) ?_
    | refine ArgQ.is (fun hG => c_impl_ValidMine ⟨_, _⟩) rfl rfl ?_
    | refine ArgF.is (c_impl_within ..) ?_
    | refine ArgQ.is (fun hG => c_impl_within ..) rfl rfl ?_
    | refine ArgF.is (c_impl_Mine_hasFlows ⟨_, _⟩ _) ?_
    | refine ArgQ.is (fun hG => c_impl_Mine_hasFlows ⟨_, _⟩ _) rfl rfl ?_
    | refine ArgF.is (c_impl_abs ..) ?_
    | refine ArgQ.is (fun hG => c_impl_abs ..) rfl rfl ?_
    | refine CallF.mk (CallW.is [] true rfl ?_)
    | refine CallG.mk ?_
    | (refine CondF.mk (fun hb => ?_) (fun hb => ?_) <;> try simp only [forall_const, eq_self, not_true_eq_false, not_false_eq_true, or_false, false_or, or_self, or_true, true_or, and_true, true_and, and_false, false_and, decide_true, decide_false, Bool.not_true, Bool.not_false, decide_eq_true_eq, decide_eq_false_iff_not, ite_and_p, ite_or_p, Bool.decide_eq_true, Bool.and_eq_true, Bool.or_eq_true, Bool.not_eq_true', Bool.not_eq_false', Bool.and_eq_false_imp, Bool.or_eq_false_iff, bne_iff_ne, beq_iff_eq, bne_eq_false_iff_eq, beq_eq_false_iff_ne, gt_iff_lt, ge_iff_le, Int.not_lt, Int.not_le, ne_eq, Bool.true_eq_false, Bool.false_eq_true, reduceCtorEq, eta_Airway, eta_Fan, eta_Mine] at hb)
    | apply BackF.auto3
    | refine BackB.mk ?_ ?_
    | refine RetF.auto (And.intro rfl ?_)
    | exact Is.mk rfl rfl
    | refine Is.mk ?_ rfl
    | refine Is.mk rfl ?_
    | refine Is.mk ?_ ?_
  all_goals try dsimp only
  all_goals first
    | omega
    | exact ⟨by omega, by omega, rfl, by omega, fun k hk => absurd hk (by omega), by simp⟩
    | (refine ⟨by omega, by omega, by simp [i2], by omega, fun k hk => ?_, fun x hx => ?_⟩
       · by_cases e : (k : Int) = i
         · have e2 : i.toNat = k := by omega
           rw [e2] at hb
           exact ⟨fun _ => hb, fun _ => by rw [e]; simp⟩
         · rw [List.mem_append, List.mem_singleton, i4 k (by omega)]
           exact ⟨fun q => q.resolve_right e, .inl⟩
       · rcases List.mem_append.1 hx with hx | hx
         · have := i5 x hx; omega
         · have := List.mem_singleton.1 hx; omega)
    | (refine ⟨by omega, by omega, i2, by omega, fun k hk => ?_, fun x hx => by have := i5 x hx; omega⟩
       by_cases e : (k : Int) = i
       · have e2 : i.toNat = k := by omega
         rw [e2] at hb
         exact ⟨fun q => by have := i5 _ q; omega, fun q => absurd q (by omega)⟩
       · exact i4 k (by omega))
    | exact ⟨i2, by omega, fun k hk => i4 k (by omega)⟩
    | skip
end Go.Proofs.Ytfcnlpghdpfjkaa
