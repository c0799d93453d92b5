/- Contracts of functions of the program, and what they compute. Conditions: those that each theorem states. -/
import Derived.Test.YtfcnlpghdpfjkaaProg
import Derived.Test.YtfcnlpghdpfjkaaY1
set_option linter.unusedVariables false
set_option linter.unusedSimpArgs false
namespace Go.Proofs.Ytfcnlpghdpfjkaa
open Go.Av
attribute [local irreducible] Go.IntKind.wrap leastI rdZ rd rootI rawA okMine mixT heatF heatY warmN clampW
set_option maxRecDepth 20000
set_option maxHeartbeats 8000000

/-! Temperatures at junctions: the functions. -/
section
variable {m : GMine} {fs rs ps ls : List Int} {rate j : Int}
theorem tiW_b (h : okMine m = true) {i : Nat} (hi : i < m.airways.length) (hf : -100000 ≤ fs.getD i 0 ∧ fs.getD i 0 ≤ 100000) (h0 : ¬fs.getD i 0 = 0) : (0 ≤ (m.airways.getD i default).length * (m.airways.getD i default).section_ ∧ (m.airways.getD i default).length * (m.airways.getD i default).section_ ≤ 50000000) ∧ 0 ≤ tiW m fs i ∧ tiW m fs i ≤ 100000 := by
  have q := okAirway_b ((okMine_p h).2.2 i (by omega)).1
  have e := mulB' (a := (m.airways.getD i default).length) (A := 10000) (b := (m.airways.getD i default).section_) (B := 5000) (by omega) (by omega) (by omega) (by omega)
  have e2 : 0 ≤ ((m.airways.getD i default).length * (m.airways.getD i default).section_ + max (fs.getD i 0) (-fs.getD i 0) - 1) / max (fs.getD i 0) (-fs.getD i 0) := Int.ediv_nonneg (by omega) (by omega)
  refine ⟨by omega, ?_, ?_⟩ <;> unfold tiW <;> omega
theorem mixOk (hH : htP m fs rs ps rate) {i : Int} {xs ys : List Int} (h : cmF m fs rs ps ls rate j i.toNat = some (xs, ys)) (hi : i ≤ m.airways.length) (hn : ¬((xs.length : Nat) : Int) = 0) : okMix xs ys = true := by
  have q := cmF_p hH _ _ h
  have hl := (okMine_p hH.mine).2.1
  dsimp only at q
  exact okMix_of ⟨by omega, by omega⟩ q.2.1 q.2.2.1 q.2.2.2
theorem cmF_len (hH : htP m fs rs ps rate) {i : Int} {xs ys : List Int} (h : cmF m fs rs ps ls rate j i.toNat = some (xs, ys)) (hi : i ≤ m.airways.length) : xs.length ≤ 24 ∧ ys.length = xs.length := by
  have q := cmF_p hH _ _ h
  have hl := (okMine_p hH.mine).2.1
  dsimp only at q
  exact ⟨by omega, q.2.1⟩
theorem cmI_0 {i : Int} {xs ys : List Int} (h : cmF m fs rs ps ls rate j i.toNat = some (xs, ys)) (h1 : i ≤ m.airways.length) (h2 : (m.airways.length : Int) ≤ i) (hn : ((xs.length : Nat) : Int) = 0) : cmI m fs rs ps ls rate j = (0, false) := by
  rw [show i.toNat = m.airways.length by omega] at h
  unfold cmI; rw [h]; dsimp only; rw [if_pos (by omega)]
theorem cmI_1 {i : Int} {xs ys : List Int} (h : cmF m fs rs ps ls rate j i.toNat = some (xs, ys)) (h1 : i ≤ m.airways.length) (h2 : (m.airways.length : Int) ≤ i) (hn : ¬((xs.length : Nat) : Int) = 0) : cmI m fs rs ps ls rate j = (mixT xs ys, true) := by
  rw [show i.toNat = m.airways.length by omega] at h
  unfold cmI; rw [h]; dsimp only; rw [if_neg (by omega)]
end
theorem tkW {xs : List Int} {n : Nat} (h : n = xs.length) : ((xs.map eI).drop 0).take n = xs.map eI := by
  subst h; rw [List.drop_zero, List.take_of_length_le (by simp)]
theorem c_impl_Mine_comingIn (m : GMine) (fs rs ps ls : List Int) (j rate : Int) (hH : htP m fs rs ps rate) (hL : lsP m ls) : FnSem Try.prog 139 [.p .any (.agg m.cells), Lx (LI fs), Lx (LI rs), Lx (LI ps), Lx (LI ls), In j, In rate] [] (Is [In (cmI m fs rs ps ls rate j).1, Bo (cmI m fs rs ps ls rate j).2] []) := by
  have hmp := okMine_p hH.mine
  have hl := hH.fl
  have hfs := hH.fs
  have hrs := hH.rs
  have hps := hH.ps
  have hrt := hH.rt
  have hls := hL.ln
  have hS := fun (i : Int) (h0 : 0 ≤ i) (hi : i < m.airways.length) => stV (fs := fs) hH.mine (show i.toNat < m.airways.length by omega)
  have hT := fun (i : Int) (h0 : 0 ≤ i) (hi : i < m.airways.length) (h : ¬fs.getD i.toNat 0 = 0) => tiW_b (fs := fs) hH.mine (show i.toNat < m.airways.length by omega) (hfs i.toNat) h
  refine FnSem.walk (zs := zeroPV Try.prog) (by kernel_rfl) Try.func139 rfl Try.results139 (by kernel_rfl) (by kernel_rfl) (by kernel_rfl) fun hw hh => ?_
  obtain ⟨w0, w1, w2, w3, w4, w5, w6, _⟩ := hw
  first | replace w0 := wf_Mine w0 | skip
  first | replace w1 := wf_LI w1 | skip
  first | replace w2 := wf_LI w2 | skip
  first | replace w3 := wf_LI w3 | skip
  first | replace w4 := wf_LI w4 | skip
  first | replace w5 := wf_I w5 | skip
  first | replace w6 := wf_I w6 | skip
  have hwl := w0.2.1
  repeat' first
    | refine And.intro rfl ?_
    | refine GdF.mk (fun h => h) ?_
    | refine And.intro (Nat.succ_ne_zero _) ?_
    | refine And.intro (Nat.le_of_ble_eq_true rfl) ?_
    | refine SeqF.run ?_
    | refine ArgF.is (c_impl_Airway_ways (m.airways.getD i.toNat default) (fs.getD i.toNat 0)) ?_
    | refine ArgQ.is (fun hG => c_impl_Airway_ways (m.airways.getD i.toNat default) (fs.getD i.toNat 0)) rfl rfl ?_
    | refine ArgF.is (absY (fs.getD i.toNat 0) (by have := hfs i.toNat; omega)) ?_
    | refine ArgQ.is (fun hG => absY (fs.getD i.toNat 0) (by have := hfs i.toNat; omega)) rfl rfl ?_
    | refine ArgF.is (c_impl_divUp ((m.airways.getD i.toNat default).length * (m.airways.getD i.toNat default).section_) (max (fs.getD i.toNat 0) (-fs.getD i.toNat 0)) (by have := hT i i0 (by assumption) (by omega); omega) (by have := hfs i.toNat; omega)) ?_
    | refine ArgQ.is (fun hG => c_impl_divUp ((m.airways.getD i.toNat default).length * (m.airways.getD i.toNat default).section_) (max (fs.getD i.toNat 0) (-fs.getD i.toNat 0)) (by have := hT i i0 (by assumption) (by omega); omega) (by have := hfs i.toNat; omega)) rfl rfl ?_
    | refine BndF.mk (fun _ => by have e := hS i i0 (by assumption); unfold stW at e; simp only [List.length_map]; omega) ?_
    | refine BndF.mk (fun _ => by have e := cmF_len hH i2 i1; omega) ?_
    | refine ArgF.is (c_impl_warmAlong (ls.getD (stW m fs i.toNat).toNat 0) (rs.getD i.toNat 0) rate (tiW m fs i.toNat) (by have e := hS i i0 (by assumption); have := hL.at_ (stW m fs i.toNat).toNat (by omega); unfold stW at this ⊢; omega) (hrs i.toNat) hrt (hT i i0 (by assumption) (by omega)).2) ?_
    | refine ArgQ.is (fun hG => c_impl_warmAlong (ls.getD (stW m fs i.toNat).toNat 0) (rs.getD i.toNat 0) rate (tiW m fs i.toNat) (by have e := hS i i0 (by assumption); have := hL.at_ (stW m fs i.toNat).toNat (by omega); unfold stW at this ⊢; omega) (hrs i.toNat) hrt (hT i i0 (by assumption) (by omega)).2) rfl rfl ?_
    | refine EqI.mk ((m.airways.getD i.toNat default).length * (m.airways.getD i.toNat default).section_) (fun _ => by have e := hT i i0 (by assumption) (by omega); exact wrapI (by omega) (by omega)) ?_
    | refine EqI.mk _ (fun _ => by have e := hS i i0 (by assumption); have e0 := hL.at_ (stW m fs i.toNat).toNat (by omega); have e1 := (warmN_b (rock := rs.getD i.toNat 0) (rate := rate) (t := ls.getD (stW m fs i.toNat).toNat 0) (by unfold stW at e0 ⊢; omega) (hrs i.toNat) hrt (tiW m fs i.toNat / 10).toNat).2.2; have e2 := heatW_b (power := ps.getD i.toNat 0) (flow := max (fs.getD i.toNat 0) (-fs.getD i.toNat 0)) (hps i.toNat) (by have := hfs i.toNat; omega); exact wrapI (by omega) (by omega)) ?_
    | refine ArgF.is (heatW (ps.getD i.toNat 0) (max (fs.getD i.toNat 0) (-fs.getD i.toNat 0)) (hps i.toNat) (by have := hfs i.toNat; omega)) ?_
    | refine ArgQ.is (fun hG => heatW (ps.getD i.toNat 0) (max (fs.getD i.toNat 0) (-fs.getD i.toNat 0)) (hps i.toNat) (by have := hfs i.toNat; omega)) rfl rfl ?_
    | refine EqL.mk _ (tkW i3) ?_
    | refine EqL.mk _ (tkW i4) ?_
    | refine ArgF.is (c_impl_mixTemperature xs ys (mixOk hH i2 i1 (by omega))) ?_
    | refine ArgQ.is (fun hG => c_impl_mixTemperature xs ys (mixOk hH i2 i1 (by omega))) rfl rfl ?_
    | refine LoopF.at 3 rfl (LoopF.fix [1, 2, 3, 4, 5, 6, 25, 26] (Int × Nat × Nat × List Int × List Int) (fun (i, n, k, xs, ys) => 0 ≤ i ∧ i ≤ m.airways.length ∧ cmF m fs rs ps ls rate j i.toNat = some (xs, ys) ∧ n = xs.length ∧ k = ys.length) (fun (i, n, k, xs, ys) => [(27, In i), (16, .osl 0 0 n), (17, .osl 1 0 k)]) (fun (i, n, k, xs, ys) => [(0, Rw .flat (eI 0) (xs.map eI)), (1, Rw .flat (eI 0) (ys.map eI))]) (fun (i, n, k, xs, ys) => ((m.airways.length - i).toNat)) ((0, 0, 0, [], [])) ?_)
    | (refine LoopB.of (T := Int × Nat × Nat × List Int × List Int) ?_ ?_; rotate_left; rintro ⟨i, n, k, xs, ys⟩ ⟨i0, i1, i2, i3, i4⟩; rotate_left)
    | refine GhF.go ?_
    | refine GdS.keep ?_
    | refine DrawG.old (DrawF.lex (by decide +kernel) ?_)
    | refine DrawG.old (DrawF.any ?_)
    | refine OrdF.take 0 (by decide +kernel) ?_
    | refine OrdF.take 1 (by decide +kernel) ?_
    | refine OrdF.take 4 (by decide +kernel) ?_
    | refine OrdF.take 5 (by decide +kernel) ?_
    | refine OrdF.take 6 (by decide +kernel) ?_
    | refine OrdF.take 7 (by decide +kernel) ?_
    | refine OrdF.take 8 (by decide +kernel) ?_
    | refine OrdF.take 10 (by decide +kernel) ?_
    | refine OrdF.take 12 (by decide +kernel) ?_
    | refine OrdF.take 16 (by decide +kernel) ?_
    | refine OrdF.take 17 (by decide +kernel) ?_
    | refine OrdF.all [15] (by decide +kernel) ?_
    | refine OrdF.all [14] (by decide +kernel) ?_
    | refine OrdF.all [13] (by decide +kernel) ?_
    | refine OrdF.all [11] (by decide +kernel) ?_
    | refine OrdF.all [3] (by decide +kernel) ?_
    | refine OrdF.all [2] (by decide +kernel) ?_
    | refine OrdF.all [9] (by decide +kernel) ?_
    | refine OrdF.all [3, 9] (by decide +kernel) ?_
    | refine OrdF.all [2, 9] (by decide +kernel) ?_
    | refine OrdF.fin (by decide +kernel) ?_
    | refine AllF.one _ ?_
    | refine AllF.cons _ _ ?_ ?_
    | refine MkF.row ?_
    | refine EqP.mk _ (gm eI 0 rfl) ?_
    | refine EqP.mk _ (gm GAirway.cells default rfl) ?_
    | refine BndF.mk (fun _ => by omega) ?_
    | refine BndF.mk (fun _ => by simp only [List.length_map, List.length_cons, List.length_nil, List.length_append, List.length_set, List.length_replicate, iotaI_len]; omega) ?_
    | refine BndF.mk (fun hG => by simp only [forall_const, eq_self, not_true_eq_false, not_false_eq_true, or_false, false_or, or_self, or_true, true_or, and_true, true_and, and_false, false_and, decide_true, decide_false, Bool.not_true, Bool.not_false, decide_eq_true_eq, decide_eq_false_iff_not, ite_and_p, ite_or_p, Bool.decide_eq_true, Bool.and_eq_true, Bool.or_eq_true, Bool.not_eq_true', Bool.not_eq_false', Bool.and_eq_false_imp, Bool.or_eq_false_iff, bne_iff_ne, beq_iff_eq, bne_eq_false_iff_eq, beq_eq_false_iff_ne, gt_iff_lt, ge_iff_le, Int.not_lt, Int.not_le, ne_eq, Bool.true_eq_false, Bool.false_eq_true, reduceCtorEq, eta_Airway, eta_Fan, eta_Mine, bytes_nil] at hG; (try simp only [List.length_map]); omega) ?_
    | refine EqI.mk _ (fun _ => wrapI (by omega) (by omega)) ?_
    | refine EqI.mk _ (fun _ => rfl) ?_
    | refine FlF.keep ?_
    | refine EqN.mk _ (ln eI) ?_
    | refine EqN.mk _ (ln GAirway.cells) ?_
    | refine EqN.mk _ (Nat.zero_add _) ?_
    | refine EqN.mk (_ + 1) rfl ?_
    | refine EqN.mk _ (Int.toNat_natCast _) ?_
    | refine EqN.mk _ rfl ?_
    | refine EqL.mk _ (sn0 eI) ?_
    | refine EqL.mk _ (sn eI (by first | rfl | assumption | omega | (simp only [List.length_map, List.length_cons, List.length_nil, List.length_append, List.length_set, List.length_replicate, iotaI_len]; done) | (simp only [List.length_map, List.length_cons, List.length_nil, List.length_append, List.length_set, List.length_replicate, iotaI_len]; omega))) ?_
    | refine EqL.mk _ (ap0 eI) ?_
    | refine EqL.mk _ (ap eI (by first | rfl | assumption | omega | (simp only [List.length_map, List.length_cons, List.length_nil, List.length_append, List.length_set, List.length_replicate, iotaI_len]; done) | (simp only [List.length_map, List.length_cons, List.length_nil, List.length_append, List.length_set, List.length_replicate, iotaI_len]; omega))) ?_
    | refine EqL.mk _ (tk eI (by first | rfl | assumption | omega | (simp only [List.length_map, List.length_cons, List.length_nil, List.length_append, List.length_set, List.length_replicate, iotaI_len]; done) | (simp only [List.length_map, List.length_cons, List.length_nil, List.length_append, List.length_set, List.length_replicate, iotaI_len]; omega))) ?_
    | refine EqL.mk _ (st eI) ?_
    | refine EqL.mk _ (dt eI) ?_
    | refine EqL.mk _ (sn0 GAirway.cells) ?_
    | refine EqL.mk _ (sn GAirway.cells (by first | rfl | assumption | omega | (simp only [List.length_map, List.length_cons, List.length_nil, List.length_append, List.length_set, List.length_replicate, iotaI_len]; done) | (simp only [List.length_map, List.length_cons, List.length_nil, List.length_append, List.length_set, List.length_replicate, iotaI_len]; omega))) ?_
    | refine EqL.mk _ (ap0 GAirway.cells) ?_
    | refine EqL.mk _ (ap GAirway.cells (by first | rfl | assumption | omega | (simp only [List.length_map, List.length_cons, List.length_nil, List.length_append, List.length_set, List.length_replicate, iotaI_len]; done) | (simp only [List.length_map, List.length_cons, List.length_nil, List.length_append, List.length_set, List.length_replicate, iotaI_len]; omega))) ?_
    | refine EqL.mk _ (tk GAirway.cells (by first | rfl | assumption | omega | (simp only [List.length_map, List.length_cons, List.length_nil, List.length_append, List.length_set, List.length_replicate, iotaI_len]; done) | (simp only [List.length_map, List.length_cons, List.length_nil, List.length_append, List.length_set, List.length_replicate, iotaI_len]; omega))) ?_
    | refine EqL.mk _ (st GAirway.cells) ?_
    | refine EqL.mk _ (dt GAirway.cells) ?_
    | refine EqL.mk [] rfl ?_
    | refine EqL.mk [_] rfl ?_
    | refine EqL.mk _ rfl ?_
    | refine ArgF.is (c_impl_Airway_ways ⟨_, _, _, _, _, _, _⟩ _) ?_
    | refine ArgQ.is (fun hG => c_impl_Airway_ways ⟨_, _, _, _, _, _, _⟩ _) rfl rfl ?_
    | refine ArgF.is (c_impl_abs ..) ?_
    | refine ArgQ.is (fun hG => c_impl_abs ..) rfl rfl ?_
    | refine ArgF.is (c_impl_divUp _ _ (by first | assumption | omega) (by first | assumption | omega)) ?_
    | refine ArgQ.is (fun hG => c_impl_divUp _ _ (by first | assumption | omega) (by first | assumption | omega)) rfl rfl ?_
    | refine ArgQ.is (fun hG => c_impl_divUp _ _ (by simp only [forall_const, eq_self, not_true_eq_false, not_false_eq_true, or_false, false_or, or_self, or_true, true_or, and_true, true_and, and_false, false_and, decide_true, decide_false, Bool.not_true, Bool.not_false, decide_eq_true_eq, decide_eq_false_iff_not, ite_and_p, ite_or_p, Bool.decide_eq_true, Bool.and_eq_true, Bool.or_eq_true, Bool.not_eq_true', Bool.not_eq_false', Bool.and_eq_false_imp, Bool.or_eq_false_iff, bne_iff_ne, beq_iff_eq, bne_eq_false_iff_eq, beq_eq_false_iff_ne, gt_iff_lt, ge_iff_le, Int.not_lt, Int.not_le, ne_eq, Bool.true_eq_false, Bool.false_eq_true, reduceCtorEq, eta_Airway, eta_Fan, eta_Mine, bytes_nil] at hG; omega) (by simp only [forall_const, eq_self, not_true_eq_false, not_false_eq_true, or_false, false_or, or_self, or_true, true_or, and_true, true_and, and_false, false_and, decide_true, decide_false, Bool.not_true, Bool.not_false, decide_eq_true_eq, decide_eq_false_iff_not, ite_and_p, ite_or_p, Bool.decide_eq_true, Bool.and_eq_true, Bool.or_eq_true, Bool.not_eq_true', Bool.not_eq_false', Bool.and_eq_false_imp, Bool.or_eq_false_iff, bne_iff_ne, beq_iff_eq, bne_eq_false_iff_eq, beq_eq_false_iff_ne, gt_iff_lt, ge_iff_le, Int.not_lt, Int.not_le, ne_eq, Bool.true_eq_false, Bool.false_eq_true, reduceCtorEq, eta_Airway, eta_Fan, eta_Mine, bytes_nil] at hG; omega)) rfl rfl ?_
    | refine ArgF.is (c_impl_warmAlong _ _ _ _ (by first | assumption | omega) (by first | assumption | omega) (by first | assumption | omega) (by first | assumption | omega)) ?_
    | refine ArgQ.is (fun hG => c_impl_warmAlong _ _ _ _ (by first | assumption | omega) (by first | assumption | omega) (by first | assumption | omega) (by first | assumption | omega)) rfl rfl ?_
    | refine ArgQ.is (fun hG => c_impl_warmAlong _ _ _ _ (by simp only [forall_const, eq_self, not_true_eq_false, not_false_eq_true, or_false, false_or, or_self, or_true, true_or, and_true, true_and, and_false, false_and, decide_true, decide_false, Bool.not_true, Bool.not_false, decide_eq_true_eq, decide_eq_false_iff_not, ite_and_p, ite_or_p, Bool.decide_eq_true, Bool.and_eq_true, Bool.or_eq_true, Bool.not_eq_true', Bool.not_eq_false', Bool.and_eq_false_imp, Bool.or_eq_false_iff, bne_iff_ne, beq_iff_eq, bne_eq_false_iff_eq, beq_eq_false_iff_ne, gt_iff_lt, ge_iff_le, Int.not_lt, Int.not_le, ne_eq, Bool.true_eq_false, Bool.false_eq_true, reduceCtorEq, eta_Airway, eta_Fan, eta_Mine, bytes_nil] at hG; omega) (by simp only [forall_const, eq_self, not_true_eq_false, not_false_eq_true, or_false, false_or, or_self, or_true, true_or, and_true, true_and, and_false, false_and, decide_true, decide_false, Bool.not_true, Bool.not_false, decide_eq_true_eq, decide_eq_false_iff_not, ite_and_p, ite_or_p, Bool.decide_eq_true, Bool.and_eq_true, Bool.or_eq_true, Bool.not_eq_true', Bool.not_eq_false', Bool.and_eq_false_imp, Bool.or_eq_false_iff, bne_iff_ne, beq_iff_eq, bne_eq_false_iff_eq, beq_eq_false_iff_ne, gt_iff_lt, ge_iff_le, Int.not_lt, Int.not_le, ne_eq, Bool.true_eq_false, Bool.false_eq_true, reduceCtorEq, eta_Airway, eta_Fan, eta_Mine, bytes_nil] at hG; omega) (by simp only [forall_const, eq_self, not_true_eq_false, not_false_eq_true, or_false, false_or, or_self, or_true, true_or, and_true, true_and, and_false, false_and, decide_true, decide_false, Bool.not_true, Bool.not_false, decide_eq_true_eq, decide_eq_false_iff_not, ite_and_p, ite_or_p, Bool.decide_eq_true, Bool.and_eq_true, Bool.or_eq_true, Bool.not_eq_true', Bool.not_eq_false', Bool.and_eq_false_imp, Bool.or_eq_false_iff, bne_iff_ne, beq_iff_eq, bne_eq_false_iff_eq, beq_eq_false_iff_ne, gt_iff_lt, ge_iff_le, Int.not_lt, Int.not_le, ne_eq, Bool.true_eq_false, Bool.false_eq_true, reduceCtorEq, eta_Airway, eta_Fan, eta_Mine, bytes_nil] at hG; omega) (by simp only [forall_const, eq_self, not_true_eq_false, not_false_eq_true, or_false, false_or, or_self, or_true, true_or, and_true, true_and, and_false, false_and, decide_true, decide_false, Bool.not_true, Bool.not_false, decide_eq_true_eq, decide_eq_false_iff_not, ite_and_p, ite_or_p, Bool.decide_eq_true, Bool.and_eq_true, Bool.or_eq_true, Bool.not_eq_true', Bool.not_eq_false', Bool.and_eq_false_imp, Bool.or_eq_false_iff, bne_iff_ne, beq_iff_eq, bne_eq_false_iff_eq, beq_eq_false_iff_ne, gt_iff_lt, ge_iff_le, Int.not_lt, Int.not_le, ne_eq, Bool.true_eq_false, Bool.false_eq_true, reduceCtorEq, eta_Airway, eta_Fan, eta_Mine, bytes_nil] at hG; omega)) rfl rfl ?_
    | refine ArgF.is (c_impl_heatFrom _ _ _ (by first | assumption | omega) (by first | assumption | omega) (by first | assumption | omega)) ?_
    | refine ArgQ.is (fun hG => c_impl_heatFrom _ _ _ (by first | assumption | omega) (by first | assumption | omega) (by first | assumption | omega)) rfl rfl ?_
    | refine ArgQ.is (fun hG => c_impl_heatFrom _ _ _ (by simp only [forall_const, eq_self, not_true_eq_false, not_false_eq_true, or_false, false_or, or_self, or_true, true_or, and_true, true_and, and_false, false_and, decide_true, decide_false, Bool.not_true, Bool.not_false, decide_eq_true_eq, decide_eq_false_iff_not, ite_and_p, ite_or_p, Bool.decide_eq_true, Bool.and_eq_true, Bool.or_eq_true, Bool.not_eq_true', Bool.not_eq_false', Bool.and_eq_false_imp, Bool.or_eq_false_iff, bne_iff_ne, beq_iff_eq, bne_eq_false_iff_eq, beq_eq_false_iff_ne, gt_iff_lt, ge_iff_le, Int.not_lt, Int.not_le, ne_eq, Bool.true_eq_false, Bool.false_eq_true, reduceCtorEq, eta_Airway, eta_Fan, eta_Mine, bytes_nil] at hG; omega) (by simp only [forall_const, eq_self, not_true_eq_false, not_false_eq_true, or_false, false_or, or_self, or_true, true_or, and_true, true_and, and_false, false_and, decide_true, decide_false, Bool.not_true, Bool.not_false, decide_eq_true_eq, decide_eq_false_iff_not, ite_and_p, ite_or_p, Bool.decide_eq_true, Bool.and_eq_true, Bool.or_eq_true, Bool.not_eq_true', Bool.not_eq_false', Bool.and_eq_false_imp, Bool.or_eq_false_iff, bne_iff_ne, beq_iff_eq, bne_eq_false_iff_eq, beq_eq_false_iff_ne, gt_iff_lt, ge_iff_le, Int.not_lt, Int.not_le, ne_eq, Bool.true_eq_false, Bool.false_eq_true, reduceCtorEq, eta_Airway, eta_Fan, eta_Mine, bytes_nil] at hG; omega) (by simp only [forall_const, eq_self, not_true_eq_false, not_false_eq_true, or_false, false_or, or_self, or_true, true_or, and_true, true_and, and_false, false_and, decide_true, decide_false, Bool.not_true, Bool.not_false, decide_eq_true_eq, decide_eq_false_iff_not, ite_and_p, ite_or_p, Bool.decide_eq_true, Bool.and_eq_true, Bool.or_eq_true, Bool.not_eq_true', Bool.not_eq_false', Bool.and_eq_false_imp, Bool.or_eq_false_iff, bne_iff_ne, beq_iff_eq, bne_eq_false_iff_eq, beq_eq_false_iff_ne, gt_iff_lt, ge_iff_le, Int.not_lt, Int.not_le, ne_eq, Bool.true_eq_false, Bool.false_eq_true, reduceCtorEq, eta_Airway, eta_Fan, eta_Mine, bytes_nil] at hG; omega)) rfl rfl ?_
    | refine ArgF.is (c_impl_asWarmth ..) ?_
    | refine ArgQ.is (fun hG => c_impl_asWarmth ..) rfl rfl ?_
    | refine ArgF.is (c_impl_mixTemperature _ _ (by first | assumption | omega)) ?_
    | refine ArgQ.is (fun hG => c_impl_mixTemperature _ _ (by first | assumption | omega)) rfl rfl ?_
    | refine ArgQ.is (fun hG => c_impl_mixTemperature _ _ (by simp only [forall_const, eq_self, not_true_eq_false, not_false_eq_true, or_false, false_or, or_self, or_true, true_or, and_true, true_and, and_false, false_and, decide_true, decide_false, Bool.not_true, Bool.not_false, decide_eq_true_eq, decide_eq_false_iff_not, ite_and_p, ite_or_p, Bool.decide_eq_true, Bool.and_eq_true, Bool.or_eq_true, Bool.not_eq_true', Bool.not_eq_false', Bool.and_eq_false_imp, Bool.or_eq_false_iff, bne_iff_ne, beq_iff_eq, bne_eq_false_iff_eq, beq_eq_false_iff_ne, gt_iff_lt, ge_iff_le, Int.not_lt, Int.not_le, ne_eq, Bool.true_eq_false, Bool.false_eq_true, reduceCtorEq, eta_Airway, eta_Fan, eta_Mine, bytes_nil] at hG; omega)) rfl rfl ?_
    | refine CallF.mk (CallW.is [] true rfl ?_)
    | refine CallG.mk ?_
    | (refine CondF.mk (fun hb => ?_) (fun hb => ?_) <;> try simp only [forall_const, eq_self, not_true_eq_false, not_false_eq_true, or_false, false_or, or_self, or_true, true_or, and_true, true_and, and_false, false_and, decide_true, decide_false, Bool.not_true, Bool.not_false, decide_eq_true_eq, decide_eq_false_iff_not, ite_and_p, ite_or_p, Bool.decide_eq_true, Bool.and_eq_true, Bool.or_eq_true, Bool.not_eq_true', Bool.not_eq_false', Bool.and_eq_false_imp, Bool.or_eq_false_iff, bne_iff_ne, beq_iff_eq, bne_eq_false_iff_eq, beq_eq_false_iff_ne, gt_iff_lt, ge_iff_le, Int.not_lt, Int.not_le, ne_eq, Bool.true_eq_false, Bool.false_eq_true, reduceCtorEq, eta_Airway, eta_Fan, eta_Mine] at hb)
    | apply BackF.auto5
    | refine BackB.mk ?_ ?_
    | refine RetF.auto (And.intro rfl ?_)
    | exact Is.mk rfl rfl
    | refine Is.mk ?_ rfl
    | refine Is.mk rfl ?_
    | refine Is.mk ?_ ?_
  all_goals try dsimp only
  all_goals first
    | omega
    | exact ⟨by omega, by omega, rfl, rfl, rfl⟩
    | exact ⟨by omega, by omega, cmF_k i0 i2 hb, i3, i4⟩
    | (rw [cmI_0 i2 i1 (by assumption) (by omega)]; rfl)
    | (rw [cmI_1 i2 i1 (by assumption) (by omega)]; rfl)
    | (rw [cmI_no i0 (by assumption) i2 (by unfold enA; omega) (by unfold stW; assumption)]; rfl)
    | exact ⟨by omega, by omega, cmF_a i0 i2 (by unfold enA; omega) (by unfold stW; assumption), by simp [i3], by simp [i4]⟩
    | skip
end Go.Proofs.Ytfcnlpghdpfjkaa
