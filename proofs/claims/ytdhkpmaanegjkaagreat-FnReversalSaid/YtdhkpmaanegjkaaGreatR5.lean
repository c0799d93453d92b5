/- Contracts of functions of the program, and what they compute. Conditions: those that each theorem states. -/
import Derived.Test.YtdhkpmaanegjkaaGreatProg
import Derived.Test.YtdhkpmaanegjkaaGreatF7
import Derived.Test.YtdhkpmaanegjkaaGreatL1
import Derived.Test.YtdhkpmaanegjkaaGreatG1
set_option linter.unusedVariables false
set_option linter.unusedSimpArgs false
namespace Go.Proofs.YtdhkpmaanegjkaaGreat
open Go.Av
attribute [local irreducible] Go.IntKind.wrap leastI rdZ rd rootI okMine treeC mshC dropI prI okFanB okFsB hsB spI solF fwF
set_option maxRecDepth 20000
set_option maxHeartbeats 40000000
section
variable {m : GMine} {fs : List GFan} {dr : List Int} {tol rounds aw am : Int}
theorem codeW_1 (h : okMine m = false ∨ okFsB fs = false) : codeW m fs dr tol rounds aw am = 1 := by
  unfold codeW; rcases h with h | h <;> rw [h] <;> simp
theorem codeW_2 (h1 : okMine m = true ∧ okFsB fs = true) (h : ((inR tol 0 100000 = false ∨ inR rounds 0 500 = false) ∨ inR aw 0 (m.airways.length - 1) = false) ∨ inR am 0 100000 = false) : codeW m fs dr tol rounds aw am = 2 := by
  unfold codeW; rw [h1.1, h1.2]; rcases h with ((h | h) | h) | h <;> rw [h] <;> simp
theorem codeW_7 (h1 : okMine m = true ∧ okFsB fs = true) (h2 : inR tol 0 100000 = true ∧ inR rounds 0 500 = true ∧ inR aw 0 (m.airways.length - 1) = true ∧ inR am 0 100000 = true) (h : lsO m dr (-100000) 100000 = false ∨ 100000 < dr.getD aw.toNat 0 + am) : codeW m fs dr tol rounds aw am = 7 := by
  unfold codeW
  rw [h1.1, h1.2, h2.1, h2.2.1, h2.2.2.1, h2.2.2.2]
  rcases h with h | h
  · rw [h]; simp
  · rw [decide_eq_false (show ¬dr.getD aw.toNat 0 + am ≤ 100000 by omega)]; simp
theorem codeW_0 (h1 : okMine m = true ∧ okFsB fs = true) (h2 : inR tol 0 100000 = true ∧ inR rounds 0 500 = true ∧ inR aw 0 (m.airways.length - 1) = true ∧ inR am 0 100000 = true) (h : lsO m dr (-100000) 100000 = true) (h' : dr.getD aw.toNat 0 + am ≤ 100000) : codeW m fs dr tol rounds aw am = 0 := by
  unfold codeW
  rw [h1.1, h1.2, h2.1, h2.2.1, h2.2.2.1, h2.2.2.2, h, decide_eq_true h']; rfl
end
--@fn impl.FlowsWithFire
theorem fwX (m : GMine) (r : List Int) (fs : List GFan) (dr st : List Int) (tol rounds aw am : Int) : FnSem Tryz.prog 8 [.p .any (.agg m.cells), Lx (LI r), Lx (.lst GFan.z (fs.map GFan.cells)), Lx (LI dr), Lx (LI st), In tol, In rounds, In aw, In am] [] (Is [.p .fresh (LI (fwF m r fs dr st tol rounds aw am).1), In (fwF m r fs dr st tol rounds aw am).2.1, In (fwF m r fs dr st tol rounds aw am).2.2] []) := by
  refine semFrzT ?_
  refine FnSem.walk (zs := zeroPV Tryz.prog) (by kernel_rfl) Tryz.func8 rfl Tryz.results8 (by kernel_rfl) (by kernel_rfl) (by kernel_rfl) fun hw hh => ?_
  obtain ⟨w0, w1, w2, w3, w4, w5, w6, w7, w8, _⟩ := hw
  first | replace w0 := wf_Mine w0 | skip
  first | replace w1 := wf_LI w1 | skip
  first | replace w2 := wf_LFan w2 | skip
  first | replace w3 := wf_LI w3 | skip
  first | replace w4 := wf_LI w4 | skip
  first | replace w5 := wf_I w5 | skip
  first | replace w6 := wf_I w6 | skip
  first | replace w7 := wf_I w7 | skip
  first | replace w8 := wf_I w8 | skip
  repeat' first
    | refine And.intro rfl ?_
    | refine GdF.mk (fun h => h) ?_
    | refine And.intro (Nat.succ_ne_zero _) ?_
    | refine And.intro (Nat.le_of_ble_eq_true rfl) ?_
    | refine SeqF.run ?_
    | refine ArgF.is (c_impl_ValidMine m) ?_
    | refine ArgQ.is (fun hG => c_impl_ValidMine m) rfl rfl ?_
    | refine ArgF.is (vFansX fs) ?_
    | refine ArgQ.is (fun hG => vFansX fs) rfl rfl ?_
    | refine ArgF.is (c_impl_within tol 0 100000) ?_
    | refine ArgQ.is (fun hG => c_impl_within tol 0 100000) rfl rfl ?_
    | refine ArgF.is (c_impl_within rounds 0 500) ?_
    | refine ArgQ.is (fun hG => c_impl_within rounds 0 500) rfl rfl ?_
    | refine ArgF.is (c_impl_indexValid_impl_Airway m.airways aw) ?_
    | refine ArgQ.is (fun hG => c_impl_indexValid_impl_Airway m.airways aw) rfl rfl ?_
    | refine ArgF.is (c_impl_within am 0 100000) ?_
    | refine ArgQ.is (fun hG => c_impl_within am 0 100000) rfl rfl ?_
    | refine ArgF.is (hasL m dr (-100000) 100000) ?_
    | refine ArgQ.is (fun hG => hasL m dr (-100000) 100000) rfl rfl ?_
    | refine BndF.mk (fun hG => by have q : lsO m dr (-100000) 100000 = true := (by simp_all); have q2 : inR aw 0 (m.airways.length - 1) = true := (by simp_all); have q3 := (lsO_p q).1; have q4 := inR_iff.1 q2; simp only [List.length_map]; omega) ?_
    | refine EqI.mk (dr.getD aw.toNat 0 + am) (fun hG => by have q : lsO m dr (-100000) 100000 = true := (by simp_all); have q2 : inR am 0 100000 = true := (by simp_all); have q3 := lsO_all q (by decide) aw.toNat; have q4 := inR_iff.1 q2; exact wrapI (by omega) (by omega)) ?_
    | (have h1 : okMine m = true ∧ okFsB fs = true := (by simp_all); have h2 : inR tol 0 100000 = true ∧ inR rounds 0 500 = true ∧ inR aw 0 (m.airways.length - 1) = true ∧ inR am 0 100000 = true := (by simp_all); have h3 : lsO m dr (-100000) 100000 = true := (by simp_all); have h4 : dr.getD aw.toNat 0 + am ≤ 100000 := (by simp_all); have h0 := codeW_0 h1 h2 h3 h4; have hdl := (lsO_p h3).1; have hmp := okMine_p h1.1; have hdb := lsO_all h3 (by decide) aw.toNat; have hab := inR_iff.1 h2.2.2.1; have hmb := inR_iff.1 h2.2.2.2; refine ArgF.is (c_slices_Clone_int64_int64 dr (by omega)) ?_)
    | refine EqL.mk _ (stI (by kernel_rfl)) ?_
    | refine ArgF.is (solveX m r fs (dr.set aw.toNat (dr.getD aw.toNat 0 + am)) st tol rounds) ?_
    | refine ArgQ.is (fun hG => solveX m r fs (dr.set aw.toNat (dr.getD aw.toNat 0 + am)) st tol rounds) rfl rfl ?_
    | refine EqL.mk _ (tkT (take_all (by rw [List.length_set]))) ?_
    | refine Or.inr (frzT_row (xs := []) rfl ?_)
    | refine Or.inl ?_
    | refine GhF.go ?_
    | refine GdS.keep ?_
    | refine MkF.row ?_
    | refine EqP.mk _ (gm GAirway.cells default rfl) ?_
    | refine EqP.mk _ (gm eI 0 rfl) ?_
    | refine EqP.mk _ (gmb GFan.cells default (by omega)) ?_
    | refine BndF.mk (fun _ => by omega) ?_
    | refine BndF.mk (fun _ => by simp only [lnS]; omega) ?_
    | refine BndF.mk (fun hG => by simp only [forall_const, eq_self, not_true_eq_false, not_false_eq_true, or_false, false_or, or_self, or_true, true_or, and_true, true_and, and_false, false_and, decide_true, decide_false, Bool.not_true, Bool.not_false, decide_eq_true_eq, decide_eq_false_iff_not, ite_and_p, ite_or_p, Bool.decide_eq_true, Bool.and_eq_true, Bool.or_eq_true, Bool.not_eq_true', Bool.not_eq_false', Bool.and_eq_false_imp, Bool.or_eq_false_iff, bne_iff_ne, beq_iff_eq, bne_eq_false_iff_eq, beq_eq_false_iff_ne, gt_iff_lt, ge_iff_le, Int.not_lt, Int.not_le, ne_eq, Bool.true_eq_false, Bool.false_eq_true, reduceCtorEq, eta_Airway, eta_Fan, eta_Mine, bytes_nil] at hG; (try simp only [List.length_map]); omega) ?_
    | refine EqI.mk _ (fun _ => wrapI (by omega) (by omega)) ?_
    | refine EqI.mk _ (fun _ => rfl) ?_
    | refine EqN.mk _ (Nat.zero_add _) ?_
    | refine EqN.mk _ (Int.toNat_natCast _) ?_
    | refine EqN.mk _ rfl ?_
    | refine EqL.mk _ (tk GAirway.cells (by first | rfl | assumption | omega | (simp only [lnS] <;> omega))) ?_
    | refine EqL.mk _ (st GAirway.cells) ?_
    | refine EqL.mk _ (dt GAirway.cells) ?_
    | refine EqL.mk _ (tk eI (by first | rfl | assumption | omega | (simp only [lnS] <;> omega))) ?_
    | refine EqL.mk _ (st eI) ?_
    | refine EqL.mk _ (dt eI) ?_
    | refine EqL.mk _ (tk GFan.cells (by first | rfl | assumption | omega | (simp only [lnS] <;> omega))) ?_
    | refine EqL.mk _ (st GFan.cells) ?_
    | refine EqL.mk _ (dt GFan.cells) ?_
    | refine EqL.mk [] rfl ?_
    | refine EqL.mk [_] rfl ?_
    | refine EqL.mk _ rfl ?_
    | refine ArgF.is (c_impl_ValidMine ⟨_, _⟩) ?_
    | refine ArgQ.is (fun hG => c_impl_ValidMine ⟨_, _⟩) rfl rfl ?_
    | refine ArgF.is (c_impl_ValidFans ..) ?_
    | refine ArgQ.is (fun hG => c_impl_ValidFans ..) rfl rfl ?_
    | refine ArgF.is (c_impl_within ..) ?_
    | refine ArgQ.is (fun hG => c_impl_within ..) rfl rfl ?_
    | refine ArgF.is (c_impl_indexValid_impl_Airway ..) ?_
    | refine ArgQ.is (fun hG => c_impl_indexValid_impl_Airway ..) rfl rfl ?_
    | refine ArgF.is (c_impl_Mine_hasList ⟨_, _⟩ _ _ _) ?_
    | refine ArgQ.is (fun hG => c_impl_Mine_hasList ⟨_, _⟩ _ _ _) rfl rfl ?_
    | refine ArgF.is (c_slices_Clone_int64_int64 _ (by first | assumption | omega)) ?_
    | refine ArgQ.is (fun hG => c_slices_Clone_int64_int64 _ (by first | assumption | omega)) rfl rfl ?_
    | refine ArgQ.is (fun hG => c_slices_Clone_int64_int64 _ (by simp only [forall_const, eq_self, not_true_eq_false, not_false_eq_true, or_false, false_or, or_self, or_true, true_or, and_true, true_and, and_false, false_and, decide_true, decide_false, Bool.not_true, Bool.not_false, decide_eq_true_eq, decide_eq_false_iff_not, ite_and_p, ite_or_p, Bool.decide_eq_true, Bool.and_eq_true, Bool.or_eq_true, Bool.not_eq_true', Bool.not_eq_false', Bool.and_eq_false_imp, Bool.or_eq_false_iff, bne_iff_ne, beq_iff_eq, bne_eq_false_iff_eq, beq_eq_false_iff_ne, gt_iff_lt, ge_iff_le, Int.not_lt, Int.not_le, ne_eq, Bool.true_eq_false, Bool.false_eq_true, reduceCtorEq, eta_Airway, eta_Fan, eta_Mine, bytes_nil] at hG; omega)) rfl rfl ?_
    | refine ArgF.is (c_impl_SolveFlows ⟨_, _⟩ _ _ _ _ _ _ (by first | assumption | omega) (by first | assumption | omega) (by first | assumption | omega) (by first | assumption | omega)) ?_
    | refine ArgQ.is (fun hG => c_impl_SolveFlows ⟨_, _⟩ _ _ _ _ _ _ (by first | assumption | omega) (by first | assumption | omega) (by first | assumption | omega) (by first | assumption | omega)) rfl rfl ?_
    | refine ArgQ.is (fun hG => c_impl_SolveFlows ⟨_, _⟩ _ _ _ _ _ _ (by simp only [forall_const, eq_self, not_true_eq_false, not_false_eq_true, or_false, false_or, or_self, or_true, true_or, and_true, true_and, and_false, false_and, decide_true, decide_false, Bool.not_true, Bool.not_false, decide_eq_true_eq, decide_eq_false_iff_not, ite_and_p, ite_or_p, Bool.decide_eq_true, Bool.and_eq_true, Bool.or_eq_true, Bool.not_eq_true', Bool.not_eq_false', Bool.and_eq_false_imp, Bool.or_eq_false_iff, bne_iff_ne, beq_iff_eq, bne_eq_false_iff_eq, beq_eq_false_iff_ne, gt_iff_lt, ge_iff_le, Int.not_lt, Int.not_le, ne_eq, Bool.true_eq_false, Bool.false_eq_true, reduceCtorEq, eta_Airway, eta_Fan, eta_Mine, bytes_nil] at hG; omega) (by simp only [forall_const, eq_self, not_true_eq_false, not_false_eq_true, or_false, false_or, or_self, or_true, true_or, and_true, true_and, and_false, false_and, decide_true, decide_false, Bool.not_true, Bool.not_false, decide_eq_true_eq, decide_eq_false_iff_not, ite_and_p, ite_or_p, Bool.decide_eq_true, Bool.and_eq_true, Bool.or_eq_true, Bool.not_eq_true', Bool.not_eq_false', Bool.and_eq_false_imp, Bool.or_eq_false_iff, bne_iff_ne, beq_iff_eq, bne_eq_false_iff_eq, beq_eq_false_iff_ne, gt_iff_lt, ge_iff_le, Int.not_lt, Int.not_le, ne_eq, Bool.true_eq_false, Bool.false_eq_true, reduceCtorEq, eta_Airway, eta_Fan, eta_Mine, bytes_nil] at hG; omega) (by simp only [forall_const, eq_self, not_true_eq_false, not_false_eq_true, or_false, false_or, or_self, or_true, true_or, and_true, true_and, and_false, false_and, decide_true, decide_false, Bool.not_true, Bool.not_false, decide_eq_true_eq, decide_eq_false_iff_not, ite_and_p, ite_or_p, Bool.decide_eq_true, Bool.and_eq_true, Bool.or_eq_true, Bool.not_eq_true', Bool.not_eq_false', Bool.and_eq_false_imp, Bool.or_eq_false_iff, bne_iff_ne, beq_iff_eq, bne_eq_false_iff_eq, beq_eq_false_iff_ne, gt_iff_lt, ge_iff_le, Int.not_lt, Int.not_le, ne_eq, Bool.true_eq_false, Bool.false_eq_true, reduceCtorEq, eta_Airway, eta_Fan, eta_Mine, bytes_nil] at hG; omega) (by simp only [forall_const, eq_self, not_true_eq_false, not_false_eq_true, or_false, false_or, or_self, or_true, true_or, and_true, true_and, and_false, false_and, decide_true, decide_false, Bool.not_true, Bool.not_false, decide_eq_true_eq, decide_eq_false_iff_not, ite_and_p, ite_or_p, Bool.decide_eq_true, Bool.and_eq_true, Bool.or_eq_true, Bool.not_eq_true', Bool.not_eq_false', Bool.and_eq_false_imp, Bool.or_eq_false_iff, bne_iff_ne, beq_iff_eq, bne_eq_false_iff_eq, beq_eq_false_iff_ne, gt_iff_lt, ge_iff_le, Int.not_lt, Int.not_le, ne_eq, Bool.true_eq_false, Bool.false_eq_true, reduceCtorEq, eta_Airway, eta_Fan, eta_Mine, bytes_nil] at hG; omega)) rfl rfl ?_
    | refine CallF.mk (CallW.is [] true rfl ?_)
    | refine CallG.mk ?_
    | (refine CondF.mk (fun hb => ?_) (fun hb => ?_) <;> try simp only [forall_const, eq_self, not_true_eq_false, not_false_eq_true, or_false, false_or, or_self, or_true, true_or, and_true, true_and, and_false, false_and, decide_true, decide_false, Bool.not_true, Bool.not_false, decide_eq_true_eq, decide_eq_false_iff_not, ite_and_p, ite_or_p, Bool.decide_eq_true, Bool.and_eq_true, Bool.or_eq_true, Bool.not_eq_true', Bool.not_eq_false', Bool.and_eq_false_imp, Bool.or_eq_false_iff, bne_iff_ne, beq_iff_eq, bne_eq_false_iff_eq, beq_eq_false_iff_ne, gt_iff_lt, ge_iff_le, Int.not_lt, Int.not_le, ne_eq, Bool.true_eq_false, Bool.false_eq_true, reduceCtorEq, eta_Airway, eta_Fan, eta_Mine] at hb)
    | refine RetF.auto (And.intro rfl ?_)
    | exact Is.mk rfl rfl
    | refine Is.mk ?_ rfl
    | refine Is.mk rfl ?_
    | refine Is.mk ?_ ?_
  all_goals try dsimp only
  all_goals first
    | omega
    | exact rsF (fwF_e (codeW_1 (by simpa using hb)) (by decide))
    | exact rsF (fwF_e (codeW_2 (by simp_all) (by simpa using hb)) (by decide))
    | exact rsF (fwF_e (codeW_7 (by simp_all) (by simp_all) (by simpa using hb)) (by decide))
    | exact rsF (fwF_g h0)
    | skip
end Go.Proofs.YtdhkpmaanegjkaaGreat
/- Contracts of functions of the program, and what they compute. Conditions: those that each theorem states. -/
set_option linter.unusedVariables false
set_option linter.unusedSimpArgs false
namespace Go.Proofs.YtdhkpmaanegjkaaGreat
open Go.Av
attribute [local irreducible] Go.IntKind.wrap leastI rdZ rd rootI okMine treeC mshC dropI prI okFanB okFsB hsB spI solF fwF
set_option maxRecDepth 20000
set_option maxHeartbeats 40000000
section
variable {m : GMine} {r : List Int} {fs : List GFan} {dr st : List Int} {tol rounds aw am : Int}
theorem codeS_p (h : codeS m r fs dr st tol rounds = 0) : askH m r fs dr st tol rounds := by
  unfold codeS at h
  split at h
  · rename_i h1
    split at h
    · rename_i h2
      split at h
      · rename_i h3
        split at h
        · rename_i h4
          rw [Bool.and_eq_true] at h1 h2 h3
          exact askH_of h1 h2 h3 h4
        · cases h
      · cases h
    · cases h
  · cases h
theorem fwF_b (h : (fwF m r fs dr st tol rounds aw am).2.2 = 0) : okMine m = true ∧ blF m (fwF m r fs dr st tol rounds aw am).1 100000 := by
  by_cases hc : codeW m fs dr tol rounds aw am = 0
  · rw [fwF_g hc] at h ⊢
    by_cases hs : codeS m r fs (dr.set aw.toNat (dr.getD aw.toNat 0 + am)) st tol rounds = 0
    · have H := codeS_p hs
      rw [solF_g hs] at h ⊢
      exact ⟨H.g.hm, solH m r fs _ st tol rounds H _ st H.st h⟩
    · rw [solF_e rfl hs] at h; exact absurd h hs
  · rw [fwF_e rfl hc] at h; exact absurd h hc
end
def updI (k : Int) (b a t : List Int) : Nat → List Int
  | 0 => t
  | i + 1 => if (updI k b a t i).getD i 0 = 0 ∧ ppB (b.getD i 0) (a.getD i 0) = true then (updI k b a t i).set i k else updI k b a t i
section
variable {k : Int} {b a t : List Int} {i : Int}
theorem updI_t (h0 : 0 ≤ i) (h : (updI k b a t i.toNat).getD i.toNat 0 = 0 ∧ ppB (b.getD i.toNat 0) (a.getD i.toNat 0) = true) : updI k b a t (i + 1).toNat = (updI k b a t i.toNat).set i.toNat k := by
  rw [show (i + 1).toNat = i.toNat + 1 by omega, updI, if_pos h]
theorem updI_f (h0 : 0 ≤ i) (h : ¬((updI k b a t i.toNat).getD i.toNat 0 = 0 ∧ ppB (b.getD i.toNat 0) (a.getD i.toNat 0) = true)) : updI k b a t (i + 1).toNat = updI k b a t i.toNat := by
  rw [show (i + 1).toNat = i.toNat + 1 by omega, updI, if_neg h]
theorem updI_len : ∀ n : Nat, (updI k b a t n).length = t.length
  | 0 => rfl
  | n + 1 => by rw [updI]; split <;> simp [updI_len n]
theorem updI_at {j : Nat} : ∀ n : Nat, (updI k b a t n).getD j 0 = t.getD j 0 ∨ ((updI k b a t n).getD j 0 = k ∧ t.getD j 0 = 0 ∧ ppB (b.getD j 0) (a.getD j 0) = true)
  | 0 => .inl rfl
  | n + 1 => by
    rw [updI]
    split
    · rename_i h
      by_cases e : n = j
      · subst e
        by_cases hl : n < (updI k b a t n).length
        · right
          refine ⟨by simp [List.getD_eq_getElem?_getD, hl], ?_, h.2⟩
          rcases updI_at (j := n) n with q | q
          · rw [← q]; exact h.1
          · exact q.2.1
        · have e2 : ((updI k b a t n).set n k).getD n 0 = (updI k b a t n).getD n 0 := by
            rw [List.set_eq_of_length_le (by omega)]
          rw [e2]; exact updI_at n
      · have e2 : ((updI k b a t n).set n k).getD j 0 = (updI k b a t n).getD j 0 := by
          rw [List.getD_eq_getElem?_getD, List.getElem?_set_ne e, ← List.getD_eq_getElem?_getD]
        rw [e2]; exact updI_at n
    · exact updI_at n
end
def tabN (F : Int → List Int × Int × Int) (L : Nat) (step : Int) : Nat → List Int × Int
  | 0 => (List.replicate L 0, 0)
  | n + 1 => if (tabN F L step n).2 = 0 then (if (F (((n : Int) + 1) * step)).2.2 = 0 then (updI ((n : Int) + 1) (F 0).1 (F (((n : Int) + 1) * step)).1 (tabN F L step n).1 (F 0).1.length, 0) else ([], (F (((n : Int) + 1) * step)).2.2)) else tabN F L step n
section
variable {F : Int → List Int × Int × Int} {L : Nat} {step : Int} {n : Int} {t : List Int}
theorem tabN_t (h1 : 1 ≤ n) (h : tabN F L step (n - 1).toNat = (t, 0)) (hc : (F (n * step)).2.2 = 0) : tabN F L step n.toNat = (updI n (F 0).1 (F (n * step)).1 t (F 0).1.length, 0) := by
  rw [show n.toNat = (n - 1).toNat + 1 by omega, tabN, h, if_pos rfl, show (((n - 1).toNat : Nat) : Int) + 1 = n by omega, if_pos hc]
theorem tabN_f (h1 : 1 ≤ n) (h : tabN F L step (n - 1).toNat = (t, 0)) (hc : ¬(F (n * step)).2.2 = 0) : tabN F L step n.toNat = ([], (F (n * step)).2.2) := by
  rw [show n.toNat = (n - 1).toNat + 1 by omega, tabN, h, if_pos rfl, show (((n - 1).toNat : Nat) : Int) + 1 = n by omega, if_neg hc]
theorem tabN_k {c : Int} {a b : Nat} (h : tabN F L step a = ([], c)) (hc : ¬c = 0) (hab : a ≤ b) : tabN F L step b = ([], c) := by
  induction hab with
  | refl => exact h
  | step _ ih => rw [tabN, ih, if_neg hc]
theorem tabN_p : ∀ (n : Nat), (tabN F L step n).2 = 0 → (tabN F L step n).1.length = L ∧ ∀ j : Nat, 0 ≤ (tabN F L step n).1.getD j 0 ∧ (tabN F L step n).1.getD j 0 ≤ n ∧ (0 < (tabN F L step n).1.getD j 0 → (F ((tabN F L step n).1.getD j 0 * step)).2.2 = 0 ∧ ppB ((F 0).1.getD j 0) ((F ((tabN F L step n).1.getD j 0 * step)).1.getD j 0) = true)
  | 0, _ => by
    refine ⟨by simp [tabN], fun j => ?_⟩
    have e : (tabN F L step 0).1.getD j 0 = 0 := by
      show (List.replicate L (0 : Int)).getD j 0 = 0
      rw [List.getD_eq_getElem?_getD, List.getElem?_replicate]
      split <;> rfl
    rw [e]
    exact ⟨by omega, by omega, fun h => absurd h (by omega)⟩
  | n + 1, h => by
    rw [tabN] at h
    split at h
    · rename_i h1
      split at h
      · rename_i h2
        have ih := tabN_p n h1
        have e : tabN F L step (n + 1) = (updI ((n : Int) + 1) (F 0).1 (F (((n : Int) + 1) * step)).1 (tabN F L step n).1 (F 0).1.length, 0) := by rw [tabN, if_pos h1, if_pos h2]
        rw [e]
        refine ⟨by show (updI _ _ _ _ _).length = L; rw [updI_len]; exact ih.1, fun j => ?_⟩
        have q := ih.2 j
        rcases updI_at (k := (n : Int) + 1) (b := (F 0).1) (a := (F (((n : Int) + 1) * step)).1) (t := (tabN F L step n).1) (j := j) (F 0).1.length with u | u
        · show 0 ≤ (updI _ _ _ _ _).getD j 0 ∧ (updI _ _ _ _ _).getD j 0 ≤ _ ∧ (0 < (updI _ _ _ _ _).getD j 0 → _)
          simp only [u]
          exact ⟨q.1, by omega, q.2.2⟩
        · show 0 ≤ (updI _ _ _ _ _).getD j 0 ∧ (updI _ _ _ _ _).getD j 0 ≤ _ ∧ (0 < (updI _ _ _ _ _).getD j 0 → _)
          simp only [u.1]
          exact ⟨by omega, by omega, fun _ => ⟨h2, u.2.2⟩⟩
      · exact absurd h (by assumption)
    · exact absurd h (by assumption)
end
def codeT (m : GMine) (okF : Bool) (step count : Int) : Int := if okMine m && okF then (if inR step 1 100000 && inR count 1 20 && decide (step * count ≤ 100000) then 0 else 2) else 1
noncomputable def tabF (m : GMine) (r : List Int) (fs : List GFan) (dr st : List Int) (tol rounds aw step count : Int) : List Int × Int :=
  if codeT m (okFsB fs) step count = 0 then (if (fwF m r fs dr st tol rounds aw 0).2.2 = 0 then tabN (fwF m r fs dr st tol rounds aw) m.airways.length step count.toNat else ([], (fwF m r fs dr st tol rounds aw 0).2.2)) else ([], codeT m (okFsB fs) step count)
section
variable {m : GMine} {r : List Int} {fs : List GFan} {dr st : List Int} {tol rounds aw step count : Int}
theorem tabF_e {c : Int} (h : codeT m (okFsB fs) step count = c) (hc : c ≠ 0) : tabF m r fs dr st tol rounds aw step count = ([], c) := by unfold tabF; rw [h, if_neg hc]
theorem tabF_w (h : codeT m (okFsB fs) step count = 0) (hw : ¬(fwF m r fs dr st tol rounds aw 0).2.2 = 0) : tabF m r fs dr st tol rounds aw step count = ([], (fwF m r fs dr st tol rounds aw 0).2.2) := by unfold tabF; rw [if_pos h, if_neg hw]
theorem tabF_n (h : codeT m (okFsB fs) step count = 0) (hw : (fwF m r fs dr st tol rounds aw 0).2.2 = 0) : tabF m r fs dr st tol rounds aw step count = tabN (fwF m r fs dr st tol rounds aw) m.airways.length step count.toNat := by unfold tabF; rw [if_pos h, if_pos hw]
theorem codeT_1 (h : okMine m = false ∨ okFsB fs = false) : codeT m (okFsB fs) step count = 1 := by
  unfold codeT; rcases h with h | h <;> rw [h] <;> simp
theorem codeT_2 (h1 : okMine m = true ∧ okFsB fs = true) (h : (inR step 1 100000 = false ∨ inR count 1 20 = false) ∨ 100000 < step * count) : codeT m (okFsB fs) step count = 2 := by
  unfold codeT; rw [h1.1, h1.2]
  rcases h with (h | h) | h
  · rw [h]; simp
  · rw [h]; simp
  · rw [decide_eq_false (show ¬step * count ≤ 100000 by omega)]; simp
theorem codeT_0 (h1 : okMine m = true ∧ okFsB fs = true) (h2 : inR step 1 100000 = true ∧ inR count 1 20 = true) (h3 : step * count ≤ 100000) : codeT m (okFsB fs) step count = 0 := by
  unfold codeT; rw [h1.1, h1.2, h2.1, h2.2, decide_eq_true h3]; rfl
theorem tabF_p (h : (tabF m r fs dr st tol rounds aw step count).2 = 0) : okMine m = true ∧ (fwF m r fs dr st tol rounds aw 0).2.2 = 0 ∧ (1 ≤ step ∧ 1 ≤ count ∧ step * count ≤ 100000) ∧ (tabF m r fs dr st tol rounds aw step count).1.length = m.airways.length ∧ ∀ j : Nat, 0 ≤ (tabF m r fs dr st tol rounds aw step count).1.getD j 0 ∧ (tabF m r fs dr st tol rounds aw step count).1.getD j 0 ≤ count ∧ (0 < (tabF m r fs dr st tol rounds aw step count).1.getD j 0 → (fwF m r fs dr st tol rounds aw ((tabF m r fs dr st tol rounds aw step count).1.getD j 0 * step)).2.2 = 0 ∧ ppB ((fwF m r fs dr st tol rounds aw 0).1.getD j 0) ((fwF m r fs dr st tol rounds aw ((tabF m r fs dr st tol rounds aw step count).1.getD j 0 * step)).1.getD j 0) = true) := by
  by_cases hc : codeT m (okFsB fs) step count = 0
  · by_cases hw : (fwF m r fs dr st tol rounds aw 0).2.2 = 0
    · rw [tabF_n hc hw] at h ⊢
      have q := tabN_p count.toNat h
      have hk : 1 ≤ step ∧ 1 ≤ count ∧ step * count ≤ 100000 := by
        unfold codeT at hc
        split at hc
        · split at hc
          · rename_i h2
            simp only [Bool.and_eq_true, inR_iff, decide_eq_true_eq] at h2
            exact ⟨h2.1.1.1, h2.1.2.1, h2.2⟩
          · cases hc
        · cases hc
      refine ⟨(fwF_b hw).1, hw, hk, q.1, fun j => ?_⟩
      have q2 := q.2 j
      exact ⟨q2.1, by omega, q2.2.2⟩
    · rw [tabF_w hc hw] at h; exact absurd h hw
  · rw [tabF_e rfl hc] at h; exact absurd h hc
theorem tabF_f (h : ¬(tabF m r fs dr st tol rounds aw step count).2 = 0) : (tabF m r fs dr st tol rounds aw step count).1 = [] := by
  by_cases hc : codeT m (okFsB fs) step count = 0
  · by_cases hw : (fwF m r fs dr st tol rounds aw 0).2.2 = 0
    · rw [tabF_n hc hw] at h ⊢
      have key : ∀ n : Nat, ¬(tabN (fwF m r fs dr st tol rounds aw) m.airways.length step n).2 = 0 → (tabN (fwF m r fs dr st tol rounds aw) m.airways.length step n).1 = [] := fun n => by
        induction n with
        | zero => intro h; exact absurd rfl h
        | succ n ih =>
          intro h
          rw [tabN] at h ⊢
          split at h
          · rename_i h1
            rw [if_pos h1]
            split at h
            · exact absurd rfl h
            · rename_i h2; rw [if_neg h2]
          · rename_i h1; rw [if_neg h1]; exact ih h
      exact key _ h
    · rw [tabF_w hc hw]
  · rw [tabF_e rfl hc]
end
theorem rsT {x y : List Int × Int} (h : x = y) : ([.p .fresh (LI y.1), In y.2] : List AV) = [.p .fresh (LI x.1), In x.2] := by rw [h]
--@fn impl.ReversalTable
theorem tabX (m : GMine) (r : List Int) (fs : List GFan) (dr st : List Int) (tol rounds aw step count : Int) : FnSem Tryz.prog 6 [.p .any (.agg m.cells), Lx (LI r), Lx (.lst GFan.z (fs.map GFan.cells)), Lx (LI dr), Lx (LI st), In tol, In rounds, In aw, In step, In count] [] (Is [.p .fresh (LI (tabF m r fs dr st tol rounds aw step count).1), In (tabF m r fs dr st tol rounds aw step count).2] []) := by
  refine semFrzT ?_
  have hbl := fun am => fwF_b (m := m) (r := r) (fs := fs) (dr := dr) (st := st) (tol := tol) (rounds := rounds) (aw := aw) (am := am)
  refine FnSem.walk (zs := zeroPV Tryz.prog) (by kernel_rfl) Tryz.func6 rfl Tryz.results6 (by kernel_rfl) (by kernel_rfl) (by kernel_rfl) fun hw hh => ?_
  obtain ⟨w0, w1, w2, w3, w4, w5, w6, w7, w8, w9, _⟩ := hw
  first | replace w0 := wf_Mine w0 | skip
  first | replace w1 := wf_LI w1 | skip
  first | replace w2 := wf_LFan w2 | skip
  first | replace w3 := wf_LI w3 | skip
  first | replace w4 := wf_LI w4 | skip
  first | replace w5 := wf_I w5 | skip
  first | replace w6 := wf_I w6 | skip
  first | replace w7 := wf_I w7 | skip
  first | replace w8 := wf_I w8 | skip
  first | replace w9 := wf_I w9 | skip
  repeat' first
    | refine And.intro rfl ?_
    | refine GdF.mk (fun h => h) ?_
    | refine And.intro (Nat.succ_ne_zero _) ?_
    | refine And.intro (Nat.le_of_ble_eq_true rfl) ?_
    | refine SeqF.run ?_
    | refine ArgF.is (c_impl_ValidMine m) ?_
    | refine ArgQ.is (fun hG => c_impl_ValidMine m) rfl rfl ?_
    | refine ArgF.is (vFansX fs) ?_
    | refine ArgQ.is (fun hG => vFansX fs) rfl rfl ?_
    | refine ArgF.is (c_impl_within step 1 100000) ?_
    | refine ArgQ.is (fun hG => c_impl_within step 1 100000) rfl rfl ?_
    | refine ArgF.is (c_impl_within count 1 20) ?_
    | refine ArgQ.is (fun hG => c_impl_within count 1 20) rfl rfl ?_
    | refine EqI.mk (step * count) (fun hG => by have q : inR step 1 100000 = true := (by simp_all); have q2 : inR count 1 20 = true := (by simp_all); have q3 := inR_iff.1 q; have q4 := inR_iff.1 q2; have q5 := mulB (a := step) (b := count) (A := 100000) (B := 20) (by omega) (by omega); exact wrapI (by omega) (by omega)) ?_
    | (have h1 : okMine m = true ∧ okFsB fs = true := (by simp_all); have h2 : inR step 1 100000 = true ∧ inR count 1 20 = true := (by simp_all); have h3 : step * count ≤ 100000 := (by simp_all); have h0 := codeT_0 h1 h2 h3; have hsb := inR_iff.1 h2.1; have hcb := inR_iff.1 h2.2; have hmp := okMine_p h1.1; refine ArgF.is (fwX m r fs dr st tol rounds aw 0) ?_)
    | refine ArgF.is (fwX m r fs dr st tol rounds aw (n * step)) ?_
    | refine ArgQ.is (fun hG => fwX m r fs dr st tol rounds aw (n * step)) rfl rfl ?_
    | refine EqI.mk (n * step) (fun _ => by have q := mulB (a := n) (b := step) (A := 20) (B := 100000) (by omega) (by omega); exact wrapI (by omega) (by omega)) ?_
    | refine EqI.mk (i + 1) (fun _ => by have q := (hbl 0 n4).2.ln; exact wrapI (by omega) (by omega)) ?_
    | refine EqL.mk _ (stI (by kernel_rfl)) ?_
    | refine ArgF.is (c_impl_areOpposite _ _) ?_
    | refine ArgQ.is (fun hG => c_impl_areOpposite _ _) rfl rfl ?_
    | refine LoopF.at 10 rfl (LoopF.fix [1, 2, 3, 4, 5, 6, 7, 8, 9, 10, 22, 25] (Int × List Int) (fun (n, t) => 1 ≤ n ∧ n ≤ count + 1 ∧ tabN (fwF m r fs dr st tol rounds aw) m.airways.length step (n - 1).toNat = (t, 0) ∧ t.length = m.airways.length ∧ (fwF m r fs dr st tol rounds aw 0).2.2 = 0) (fun (n, t) => [(26, In n)]) (fun (n, t) => [(1, .row true .flat (eI 0) (t.map eI))]) (fun (n, t) => ((count + 1 - n).toNat)) ((1, List.replicate m.airways.length 0)) ?_)
    | (refine LoopB.of (T := Int × List Int) ?_ ?_; rotate_left; rintro ⟨n, t⟩ ⟨n0, n1, n2, n3, n4⟩; rotate_left)
    | refine LoopF.at 16 rfl (LoopF.fix [1, 2, 3, 4, 5, 6, 7, 8, 9, 10, 22, 25, 26, 27, 100, 101] (Int × List Int × Unit) (fun (i, t2, _) => 0 ≤ i ∧ i ≤ (fwF m r fs dr st tol rounds aw 0).1.length ∧ t2 = updI n (fwF m r fs dr st tol rounds aw 0).1 (fwF m r fs dr st tol rounds aw (n * step)).1 t i.toNat ∧ t2.length = m.airways.length ∧ (fwF m r fs dr st tol rounds aw (n * step)).2.2 = 0) (fun (i, t2, _) => [(102, In i)]) (fun (i, t2, _) => [(1, .row true .flat (eI 0) (t2.map eI))]) (fun (i, t2, _) => (((fwF m r fs dr st tol rounds aw 0).1.length - i).toNat)) ((0, t, ())) ?_)
    | (refine LoopB.of (T := Int × List Int × Unit) ?_ ?_; rotate_left; rintro ⟨i, t2, _⟩ ⟨i0, i1, i2, i3, i4⟩; rotate_left)
    | refine BndF.mk (fun _ => by have q := (hbl 0 n4).2.ln; have q2 := (hbl (n * step) i4).2.ln; first | omega | (simp only [List.length_map]; omega)) ?_
    | refine Or.inr (frzT_row2 (xs := t) ?_ ?_)
    | refine Or.inr (frzT_row2 (xs := []) rfl ?_)
    | refine GhF.go ?_
    | refine GdS.keep ?_
    | refine MkF.row ?_
    | refine EqP.mk _ (gm GAirway.cells default rfl) ?_
    | refine EqP.mk _ (gm eI 0 rfl) ?_
    | refine EqP.mk _ (gmb GFan.cells default (by omega)) ?_
    | refine BndF.mk (fun _ => by omega) ?_
    | refine BndF.mk (fun _ => by simp only [lnS]; omega) ?_
    | refine BndF.mk (fun hG => by simp only [forall_const, eq_self, not_true_eq_false, not_false_eq_true, or_false, false_or, or_self, or_true, true_or, and_true, true_and, and_false, false_and, decide_true, decide_false, Bool.not_true, Bool.not_false, decide_eq_true_eq, decide_eq_false_iff_not, ite_and_p, ite_or_p, Bool.decide_eq_true, Bool.and_eq_true, Bool.or_eq_true, Bool.not_eq_true', Bool.not_eq_false', Bool.and_eq_false_imp, Bool.or_eq_false_iff, bne_iff_ne, beq_iff_eq, bne_eq_false_iff_eq, beq_eq_false_iff_ne, gt_iff_lt, ge_iff_le, Int.not_lt, Int.not_le, ne_eq, Bool.true_eq_false, Bool.false_eq_true, reduceCtorEq, eta_Airway, eta_Fan, eta_Mine, bytes_nil] at hG; (try simp only [List.length_map]); omega) ?_
    | refine EqI.mk _ (fun _ => wrapI (by omega) (by omega)) ?_
    | refine EqI.mk _ (fun _ => rfl) ?_
    | refine EqN.mk _ (ln GAirway.cells) ?_
    | refine EqN.mk _ (ln eI) ?_
    | refine EqN.mk _ (ln GFan.cells) ?_
    | refine EqN.mk _ (Nat.zero_add _) ?_
    | refine EqN.mk _ (Int.toNat_natCast _) ?_
    | refine EqN.mk _ rfl ?_
    | refine EqL.mk _ (tk GAirway.cells (by first | rfl | assumption | omega | (simp only [lnS] <;> omega))) ?_
    | refine EqL.mk _ (st GAirway.cells) ?_
    | refine EqL.mk _ (rp GAirway.cells default) ?_
    | refine EqL.mk _ (dt GAirway.cells) ?_
    | refine EqL.mk _ (tk eI (by first | rfl | assumption | omega | (simp only [lnS] <;> omega))) ?_
    | refine EqL.mk _ (st eI) ?_
    | refine EqL.mk _ (rp eI 0) ?_
    | refine EqL.mk _ (dt eI) ?_
    | refine EqL.mk _ (tk GFan.cells (by first | rfl | assumption | omega | (simp only [lnS] <;> omega))) ?_
    | refine EqL.mk _ (st GFan.cells) ?_
    | refine EqL.mk _ (rp GFan.cells default) ?_
    | refine EqL.mk _ (dt GFan.cells) ?_
    | refine EqL.mk [] rfl ?_
    | refine EqL.mk [_] rfl ?_
    | refine EqL.mk _ rfl ?_
    | refine ArgF.is (c_impl_ValidMine ⟨_, _⟩) ?_
    | refine ArgQ.is (fun hG => c_impl_ValidMine ⟨_, _⟩) rfl rfl ?_
    | refine ArgF.is (c_impl_ValidFans ..) ?_
    | refine ArgQ.is (fun hG => c_impl_ValidFans ..) rfl rfl ?_
    | refine ArgF.is (c_impl_within ..) ?_
    | refine ArgQ.is (fun hG => c_impl_within ..) rfl rfl ?_
    | refine ArgF.is (c_impl_FlowsWithFire ..) ?_
    | refine ArgQ.is (fun hG => c_impl_FlowsWithFire ..) rfl rfl ?_
    | refine ArgF.is (c_impl_areOpposite ..) ?_
    | refine ArgQ.is (fun hG => c_impl_areOpposite ..) rfl rfl ?_
    | refine CallF.mk (CallW.is [] true rfl ?_)
    | refine CallG.mk ?_
    | (refine CondF.mk (fun hb => ?_) (fun hb => ?_) <;> try simp only [forall_const, eq_self, not_true_eq_false, not_false_eq_true, or_false, false_or, or_self, or_true, true_or, and_true, true_and, and_false, false_and, decide_true, decide_false, Bool.not_true, Bool.not_false, decide_eq_true_eq, decide_eq_false_iff_not, ite_and_p, ite_or_p, Bool.decide_eq_true, Bool.and_eq_true, Bool.or_eq_true, Bool.not_eq_true', Bool.not_eq_false', Bool.and_eq_false_imp, Bool.or_eq_false_iff, bne_iff_ne, beq_iff_eq, bne_eq_false_iff_eq, beq_eq_false_iff_ne, gt_iff_lt, ge_iff_le, Int.not_lt, Int.not_le, ne_eq, Bool.true_eq_false, Bool.false_eq_true, reduceCtorEq, eta_Airway, eta_Fan, eta_Mine] at hb)
    | apply BackF.auto3
    | apply BackF.auto2
    | refine BackB.mk ?_ ?_
    | refine RetF.auto (And.intro rfl ?_)
    | exact Is.mk rfl rfl
    | refine Is.mk ?_ rfl
    | refine Is.mk rfl ?_
    | refine Is.mk ?_ ?_
  all_goals try exact ()
  all_goals try dsimp only
  all_goals first
    | omega
    | exact rsT (tabF_e (codeT_1 (by simpa using hb)) (by decide))
    | exact rsT (tabF_e (codeT_2 (by simp_all) (by simpa using hb)) (by decide))
    | exact rsT (tabF_w h0 hb)
    | exact rsT ((tabF_n h0 n4).trans (tabN_k (tabN_f n0 n2 hb) hb (by omega)))
    | (refine rsT (y := (t, 0)) ((tabF_n h0 n4).trans ?_)
       rw [show count.toNat = (n - 1).toNat by omega]; exact n2)
    | exact ⟨by omega, by omega, rfl, by simp, by assumption⟩
    | exact ⟨by omega, by omega, rfl, n3, by assumption⟩
    | exact ⟨by omega, by omega, by rw [updI_t i0 (by rw [← i2]; exact hb), ← i2], by rw [List.length_set]; exact i3, i4⟩
    | exact ⟨by omega, by omega, by rw [updI_f i0 (by rw [← i2]; simpa using hb), ← i2], i3, i4⟩
    | (refine ⟨by omega, by omega, ?_, i3, n4⟩
       rw [show (n + 1 - 1).toNat = n.toNat by omega, tabN_t n0 n2 i4, i2, show i.toNat = (fwF m r fs dr st tol rounds aw 0).1.length by omega])
    | skip
structure frK (t : List Int) (c n k e : Int) : Prop where
  er : ¬c = 0 → e = c
  ok : c = 0 → (e = 3 ∧ ∀ j : Nat, j < t.length → t.getD j 0 ≤ 0) ∨ (e = 0 ∧ (0 ≤ k ∧ k < t.length) ∧ n = t.getD k.toNat 0 ∧ 0 < n ∧ ∀ j : Nat, j < t.length → 0 < t.getD j 0 → n ≤ t.getD j 0)
def beT (t : List Int) (i b : Int) : Prop := (b = -1 ∧ ∀ j : Nat, (j : Int) < i → t.getD j 0 ≤ 0) ∨ ((0 ≤ b ∧ b < i) ∧ 0 < t.getD b.toNat 0 ∧ ∀ j : Nat, (j : Int) < i → 0 < t.getD j 0 → t.getD b.toNat 0 ≤ t.getD j 0)
theorem beT_0 {t : List Int} : beT t 0 (-1) := .inl ⟨rfl, fun j hj => absurd hj (by omega)⟩
theorem beT_y {t : List Int} {i b : Int} (h : beT t i b) (h0 : 0 ≤ i) (hp : 0 < t.getD i.toNat 0) (hb : b < 0 ∨ t.getD i.toNat 0 < t.getD b.toNat 0) : beT t (i + 1) i := by
  refine .inr ⟨by omega, hp, fun j hj hj0 => ?_⟩
  by_cases e : (j : Int) = i
  · rw [show j = i.toNat by omega]; exact Int.le_refl _
  · rcases h with ⟨h1, h2⟩ | ⟨h1, h2, h3⟩
    · have := h2 j (by omega); omega
    · have := h3 j (by omega) hj0; omega
theorem beT_n {t : List Int} {i b : Int} (h : beT t i b) (h0 : 0 ≤ i) (hn : 0 < t.getD i.toNat 0 → 0 ≤ b ∧ t.getD b.toNat 0 ≤ t.getD i.toNat 0) : beT t (i + 1) b := by
  rcases h with ⟨h1, h2⟩ | ⟨h1, h2, h3⟩
  · refine .inl ⟨h1, fun j hj => ?_⟩
    by_cases e : (j : Int) = i
    · rw [show j = i.toNat by omega]
      apply Int.not_lt.1
      intro hlt
      have := hn hlt; omega
    · exact h2 j (by omega)
  · refine .inr ⟨by omega, h2, fun j hj hj0 => ?_⟩
    by_cases e : (j : Int) = i
    · rw [show j = i.toNat by omega] at hj0 ⊢; exact (hn hj0).2
    · exact h3 j (by omega) hj0
theorem beT_r {t : List Int} {i b : Int} (h : beT t i b) : -1 ≤ b ∧ (b < i ∨ b = -1) := by
  rcases h with ⟨h1, _⟩ | ⟨h1, _⟩ <;> omega
--@fn impl.FirstReversal
theorem firstT (m : GMine) (r : List Int) (fs : List GFan) (dr st : List Int) (tol rounds aw step count : Int) : FnSem Tryz.prog 7 [.p .any (.agg m.cells), Lx (LI r), Lx (.lst GFan.z (fs.map GFan.cells)), Lx (LI dr), Lx (LI st), In tol, In rounds, In aw, In step, In count] [] (RetV (fun v : Int × Int × Int => [In v.1, In v.2.1, In v.2.2]) (fun _ => []) (fun v => frK (tabF m r fs dr st tol rounds aw step count).1 (tabF m r fs dr st tol rounds aw step count).2 v.1 v.2.1 v.2.2)) := by
  have hL : (tabF m r fs dr st tol rounds aw step count).2 = 0 → (tabF m r fs dr st tol rounds aw step count).1.length ≤ 24 := fun e => by
    have q := tabF_p e
    have := (okMine_p q.1).2.1
    rw [q.2.2.2.1]; exact this
  refine FnSem.walk (zs := zeroPV Tryz.prog) (by kernel_rfl) Tryz.func7 rfl Tryz.results7 (by kernel_rfl) (by kernel_rfl) (by kernel_rfl) fun hw hh => ?_
  obtain ⟨w0, w1, w2, w3, w4, w5, w6, w7, w8, w9, _⟩ := hw
  first | replace w0 := wf_Mine w0 | skip
  first | replace w1 := wf_LI w1 | skip
  first | replace w2 := wf_LFan w2 | skip
  first | replace w3 := wf_LI w3 | skip
  first | replace w4 := wf_LI w4 | skip
  first | replace w5 := wf_I w5 | skip
  first | replace w6 := wf_I w6 | skip
  first | replace w7 := wf_I w7 | skip
  first | replace w8 := wf_I w8 | skip
  first | replace w9 := wf_I w9 | skip
  repeat' first
    | refine And.intro rfl ?_
    | refine GdF.mk (fun h => h) ?_
    | refine And.intro (Nat.succ_ne_zero _) ?_
    | refine And.intro (Nat.le_of_ble_eq_true rfl) ?_
    | refine SeqF.run ?_
    | refine EqI.mk (i + 1) (fun _ => by have := hL i3; exact wrapI (by omega) (by omega)) ?_
    | refine ArgF.is (tabX m r fs dr st tol rounds aw step count) ?_
    | refine ArgQ.is (fun hG => tabX m r fs dr st tol rounds aw step count) rfl rfl ?_
    | refine LoopF.at 6 rfl (LoopF.fix [23, 45, 46] (Int × Int) (fun (i, b) => 0 ≤ i ∧ i ≤ (tabF m r fs dr st tol rounds aw step count).1.length ∧ beT (tabF m r fs dr st tol rounds aw step count).1 i b ∧ (tabF m r fs dr st tol rounds aw step count).2 = 0) (fun (i, b) => [(47, In i), (25, In b)]) (fun (i, b) => []) (fun (i, b) => (((tabF m r fs dr st tol rounds aw step count).1.length - i).toNat)) ((0, -1)) ?_)
    | (refine LoopB.of (T := Int × Int) ?_ ?_; rotate_left; rintro ⟨i, b⟩ ⟨i0, i1, i2, i3⟩; rotate_left)
    | refine BndF.mk (fun hG => by have q := beT_r i2; simp only [List.length_map]; simp_all; omega) ?_
    | refine RetV.mk (α := Int × Int × Int) (_, _, _) rfl rfl ?_
    | refine GhF.go ?_
    | refine GdS.keep ?_
    | refine EqP.mk _ (gm eI 0 rfl) ?_
    | refine EqP.mk _ (gmb GFan.cells default (by omega)) ?_
    | refine BndF.mk (fun _ => by omega) ?_
    | refine BndF.mk (fun _ => by simp only [lnS]; omega) ?_
    | refine BndF.mk (fun hG => by simp only [forall_const, eq_self, not_true_eq_false, not_false_eq_true, or_false, false_or, or_self, or_true, true_or, and_true, true_and, and_false, false_and, decide_true, decide_false, Bool.not_true, Bool.not_false, decide_eq_true_eq, decide_eq_false_iff_not, ite_and_p, ite_or_p, Bool.decide_eq_true, Bool.and_eq_true, Bool.or_eq_true, Bool.not_eq_true', Bool.not_eq_false', Bool.and_eq_false_imp, Bool.or_eq_false_iff, bne_iff_ne, beq_iff_eq, bne_eq_false_iff_eq, beq_eq_false_iff_ne, gt_iff_lt, ge_iff_le, Int.not_lt, Int.not_le, ne_eq, Bool.true_eq_false, Bool.false_eq_true, reduceCtorEq, eta_Airway, eta_Fan, eta_Mine, bytes_nil] at hG; (try simp only [List.length_map]); omega) ?_
    | refine EqI.mk _ (fun _ => wrapI (by omega) (by omega)) ?_
    | refine EqI.mk _ (fun _ => rfl) ?_
    | refine EqN.mk _ (ln eI) ?_
    | refine EqN.mk _ (ln GFan.cells) ?_
    | refine EqN.mk _ (Nat.zero_add _) ?_
    | refine EqN.mk _ (Int.toNat_natCast _) ?_
    | refine EqN.mk _ rfl ?_
    | refine EqL.mk _ (tk eI (by first | rfl | assumption | omega | (simp only [lnS] <;> omega))) ?_
    | refine EqL.mk _ (tk GFan.cells (by first | rfl | assumption | omega | (simp only [lnS] <;> omega))) ?_
    | refine EqL.mk [] rfl ?_
    | refine EqL.mk [_] rfl ?_
    | refine EqL.mk _ rfl ?_
    | refine ArgF.is (c_impl_ReversalTable ..) ?_
    | refine ArgQ.is (fun hG => c_impl_ReversalTable ..) rfl rfl ?_
    | refine CallF.mk (CallW.is [] true rfl ?_)
    | refine CallG.mk ?_
    | (refine CondF.mk (fun hb => ?_) (fun hb => ?_) <;> try simp only [forall_const, eq_self, not_true_eq_false, not_false_eq_true, or_false, false_or, or_self, or_true, true_or, and_true, true_and, and_false, false_and, decide_true, decide_false, Bool.not_true, Bool.not_false, decide_eq_true_eq, decide_eq_false_iff_not, ite_and_p, ite_or_p, Bool.decide_eq_true, Bool.and_eq_true, Bool.or_eq_true, Bool.not_eq_true', Bool.not_eq_false', Bool.and_eq_false_imp, Bool.or_eq_false_iff, bne_iff_ne, beq_iff_eq, bne_eq_false_iff_eq, beq_eq_false_iff_ne, gt_iff_lt, ge_iff_le, Int.not_lt, Int.not_le, ne_eq, Bool.true_eq_false, Bool.false_eq_true, reduceCtorEq, eta_Airway, eta_Fan, eta_Mine] at hb)
    | apply BackF.auto2
    | refine BackB.mk ?_ ?_
    | refine RetF.auto (And.intro rfl ?_)
    | exact Is.mk rfl rfl
    | refine Is.mk ?_ rfl
    | refine Is.mk rfl ?_
    | refine Is.mk ?_ ?_
  all_goals try dsimp only
  all_goals first
    | omega
    | exact ⟨by omega, by omega, beT_0, by assumption⟩
    | exact ⟨by omega, by omega, beT_y i2 i0 hb.1 hb.2, i3⟩
    | exact ⟨by omega, by omega, beT_n i2 i0 hb, i3⟩
    | exact ⟨fun _ => rfl, fun e => absurd e (by assumption)⟩
    | (refine ⟨fun e => absurd i3 e, fun _ => .inl ⟨rfl, fun j hj => ?_⟩⟩
       rcases i2 with ⟨_, h2⟩ | ⟨h1, _⟩
       · exact h2 j (by omega)
       · omega)
    | (refine ⟨fun e => absurd i3 e, fun _ => .inr ⟨rfl, ?_⟩⟩
       rcases i2 with ⟨h1, _⟩ | ⟨h1, h2, h3⟩
       · omega
       · exact ⟨by omega, rfl, h2, fun j hj h0 => h3 j (by omega) h0⟩)
    | skip
end Go.Proofs.YtdhkpmaanegjkaaGreat
/- Contracts of functions of the program, and what they compute. Conditions: those that each theorem states. -/
set_option linter.unusedVariables false
set_option linter.unusedSimpArgs false
namespace Go.Proofs.YtdhkpmaanegjkaaGreat
open Go.Av
attribute [local irreducible] Go.IntKind.wrap
set_option maxRecDepth 20000
set_option maxHeartbeats 4000000
theorem c_spec_l02DrawTemperature (c : List Int) (p s : Int) (hc : bytes c) (hp : 0 ≤ p ∧ p ≤ 10000000) : FnSem Tryz.prog 30 [.own 0 0] [srcO c p s] (SrcR c 4 p (-101) 601) := by
  refine FnSem.walk (zs := zeroPV Tryz.prog) (by kernel_rfl) Tryz.func30 rfl Tryz.results30 (by kernel_rfl) (by kernel_rfl) (by kernel_rfl) fun hw hh => ?_
  obtain ⟨w0, _⟩ := hw
  first | replace w0 := wfr_L00Src w0 | skip
  repeat' first
    | refine And.intro rfl ?_
    | refine GdF.mk (fun h => h) ?_
    | refine And.intro (Nat.succ_ne_zero _) ?_
    | refine And.intro (Nat.le_of_ble_eq_true rfl) ?_
    | refine SeqF.run ?_
    | refine SrcV.mk (α := Int) _ _ _ rfl rfl ?_ ?_
    | refine GhF.go ?_
    | refine MkF.row ?_
    | refine BndF.mk (fun _ => by omega) ?_
    | refine BndF.mk (fun _ => by simp only [lnS]; omega) ?_
    | refine EqI.mk _ (fun _ => wrapI (by omega) (by omega)) ?_
    | refine EqI.mk _ (fun _ => rfl) ?_
    | refine EqL.mk _ (tk eI (by first | rfl | assumption | omega | (simp only [lnS] <;> omega))) ?_
    | refine EqL.mk (List.map eI [_, _, _, _, _, _]) rfl ?_
    | refine EqL.mk [] rfl ?_
    | refine EqL.mk [_] rfl ?_
    | refine EqL.mk _ rfl ?_
    | (refine ArgF.src (c_spec_l00Src_one _ _ _ _ (by first | assumption | omega | rfl | (simp only [List.length_cons, List.length_nil]; omega)) (by first | assumption | omega | rfl | (simp only [List.length_cons, List.length_nil]; omega)) (by first | assumption | omega | rfl | (simp only [List.length_cons, List.length_nil]; omega))) ?_; intro _ _ _ _ _)
    | (refine ArgF.srw (c_spec_l00Src_among _ _ _ _ _ (by first | assumption | omega | rfl | (simp only [List.length_cons, List.length_nil]; omega)) (by first | assumption | omega | rfl | (simp only [List.length_cons, List.length_nil]; omega)) (by first | assumption | omega | rfl | (simp only [List.length_cons, List.length_nil]; omega)) (by first | assumption | omega | rfl | (simp only [List.length_cons, List.length_nil]; omega))) ?_; intro _ _ _ _ _)
    | (refine ArgF.src (c_spec_l00Src_pick _ _ _ _ (by first | assumption | omega | rfl | (simp only [List.length_cons, List.length_nil]; omega)) (by first | assumption | omega | rfl | (simp only [List.length_cons, List.length_nil]; omega)) (by first | assumption | omega | rfl | (simp only [List.length_cons, List.length_nil]; omega))) ?_; intro _ _ _ _ _)
    | refine CallF.own (f := 16) [0, 1] false ?_
    | refine CallF.own (f := 29) [0] false ?_
    | refine CallF.own (f := 34) [0] false ?_
    | refine CallF.mk (CallW.is [] true rfl ?_)
    | refine CallG.mk ?_
    | (refine CondF.mk (fun hb => ?_) (fun hb => ?_) <;> try simp only [forall_const, eq_self, not_true_eq_false, not_false_eq_true, or_false, false_or, or_self, or_true, true_or, and_true, true_and, and_false, false_and, decide_true, decide_false, Bool.not_true, Bool.not_false, decide_eq_true_eq, decide_eq_false_iff_not, ite_and_p, ite_or_p, Bool.decide_eq_true, Bool.and_eq_true, Bool.or_eq_true, Bool.not_eq_true', Bool.not_eq_false', Bool.and_eq_false_imp, Bool.or_eq_false_iff, bne_iff_ne, beq_iff_eq, bne_eq_false_iff_eq, beq_eq_false_iff_ne, gt_iff_lt, ge_iff_le, Int.not_lt, Int.not_le, ne_eq, Bool.true_eq_false, Bool.false_eq_true, reduceCtorEq, eta_Airway, eta_Fan, eta_Mine] at hb)
    | refine RetF.auto (And.intro rfl ?_)
    | exact Is.mk rfl rfl
    | refine Is.mk ?_ rfl
    | refine Is.mk rfl ?_
    | refine Is.mk ?_ ?_
  all_goals first | omega | (simp only [List.mem_cons, List.not_mem_nil, or_false] at *; omega) | skip
theorem c_impl_warmthOk (x : Int) : FnSem Tryz.prog 31 [In x] [] (Is [Bo (inR x (-100) 600)] []) := by
  refine FnSem.walk (zs := zeroPV Tryz.prog) (by kernel_rfl) Tryz.func31 rfl Tryz.results31 (by kernel_rfl) (by kernel_rfl) (by kernel_rfl) fun hw hh => ?_
  obtain ⟨w0, _⟩ := hw
  first | replace w0 := wf_I w0 | skip
  repeat' first
    | refine And.intro rfl ?_
    | refine GdF.mk (fun h => h) ?_
    | refine And.intro (Nat.succ_ne_zero _) ?_
    | refine And.intro (Nat.le_of_ble_eq_true rfl) ?_
    | refine SeqF.run ?_
    | refine GhF.go ?_
    | refine BndF.mk (fun _ => by omega) ?_
    | refine BndF.mk (fun _ => by simp only [lnS]; omega) ?_
    | refine EqL.mk [] rfl ?_
    | refine EqL.mk [_] rfl ?_
    | refine EqL.mk _ rfl ?_
    | refine ArgF.is (c_impl_within ..) ?_
    | refine ArgQ.is (fun hG => c_impl_within ..) rfl rfl ?_
    | refine CallF.mk (CallW.is [] true rfl ?_)
    | refine CallG.mk ?_
    | (refine CondF.mk (fun hb => ?_) (fun hb => ?_) <;> try simp only [forall_const, eq_self, not_true_eq_false, not_false_eq_true, or_false, false_or, or_self, or_true, true_or, and_true, true_and, and_false, false_and, decide_true, decide_false, Bool.not_true, Bool.not_false, decide_eq_true_eq, decide_eq_false_iff_not, ite_and_p, ite_or_p, Bool.decide_eq_true, Bool.and_eq_true, Bool.or_eq_true, Bool.not_eq_true', Bool.not_eq_false', Bool.and_eq_false_imp, Bool.or_eq_false_iff, bne_iff_ne, beq_iff_eq, bne_eq_false_iff_eq, beq_eq_false_iff_ne, gt_iff_lt, ge_iff_le, Int.not_lt, Int.not_le, ne_eq, Bool.true_eq_false, Bool.false_eq_true, reduceCtorEq, eta_Airway, eta_Fan, eta_Mine] at hb)
    | refine RetF.auto (And.intro rfl ?_)
    | exact Is.mk rfl rfl
    | refine Is.mk ?_ rfl
    | refine Is.mk rfl ?_
    | refine Is.mk ?_ ?_
end Go.Proofs.YtdhkpmaanegjkaaGreat
