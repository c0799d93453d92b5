/- Contracts of functions of the program, and what they compute. Conditions: those that each theorem states. -/
import Derived.Test.YtldmnanlaofbiaaProg
import Derived.Test.YtldmnanlaofbiaaL3
set_option linter.unusedVariables false
set_option linter.unusedSimpArgs false
namespace Go.Proofs.Ytldmnanlaofbiaa
open Go.Av
attribute [local irreducible] Go.IntKind.wrap
set_option maxRecDepth 20000
set_option maxHeartbeats 4000000

theorem all_at {xs : List Int} {a b i : Int} (h : xs.all (inR · a b) = true) (h0 : 0 ≤ i) (h1 : i < xs.length) : a ≤ xs.getD i.toNat 0 ∧ xs.getD i.toNat 0 ≤ b := by
  have hi : i.toNat < xs.length := by omega
  rw [List.getD_eq_getElem?_getD, List.getElem?_eq_getElem hi]
  have := List.all_eq_true.1 h _ (List.getElem_mem hi)
  simpa only [inR_iff, Option.getD_some] using this
def prevD (xs : List Int) (j : Nat) : Int := if j = 0 then 0 else xs.getD (j - 1) 0
def goodD (bs xs : List Int) : Prop := ∀ j : Nat, j < xs.length → 0 ≤ xs.getD j 0 ∧ xs.getD j 0 ≤ prevD xs j + bs.getD j 0 ∧ xs.getD j 0 ≤ 1000000
theorem prevD_snoc {xs : List Int} {y : Int} : prevD (xs ++ [y]) (xs.length + 1) = y := by
  simp [prevD, List.getD_eq_getElem?_getD]
theorem prevD_app {xs : List Int} {y : Int} {j : Nat} (h : j ≤ xs.length) : prevD (xs ++ [y]) j = prevD xs j := by
  unfold prevD
  split
  · rfl
  · simp only [List.getD_eq_getElem?_getD]; rw [List.getElem?_append_left (by omega)]
theorem good_snoc {bs xs : List Int} {y : Int} (h : goodD bs xs) (h0 : 0 ≤ y) (h1 : y ≤ 1000000) (h2 : y ≤ prevD xs xs.length + bs.getD xs.length 0) : goodD bs (xs ++ [y]) := by
  intro j hj
  by_cases hj' : j < xs.length
  · have := h j hj'
    rw [prevD_app (by omega)]
    simp only [List.getD_eq_getElem?_getD] at this ⊢
    rw [List.getElem?_append_left hj']; exact this
  · have : j = xs.length := by simp at hj; omega
    subst this
    rw [prevD_app (Nat.le_refl _)]
    simp only [List.getD_eq_getElem?_getD] at h2 ⊢
    simp
    exact ⟨h0, h2, h1⟩
theorem c_impl_DustAlong (ts bs : List Int) (s : Int) : FnSem Try.prog 34 [Lx (LI ts), Lx (LI bs), In s] [] (RetV (fun v : Nat × List Int × Int => [.osl 0 0 v.1, In v.2.2]) (fun v => [Rw .flat (eI 0) (v.2.1.map eI)]) (fun v => v.1 = v.2.1.length ∧ (v.1 = 0 ∧ v.2.2 = 2 ∨ v.2.2 = 0 ∧ v.1 = ts.length ∧ bs.length = ts.length ∧ bs.all (inR · 0 1000000) = true ∧ goodD bs v.2.1))) := by
  refine FnSem.walk (zs := zeroPV Try.prog) (by kernel_rfl) Try.func34 rfl Try.results34 (by kernel_rfl) (by kernel_rfl) (by kernel_rfl) fun hw hh => ?_
  obtain ⟨w0, w1, w2, _⟩ := hw
  first | replace w0 := wf_I w0 | replace w0 := wf_Y w0 | replace w0 := wf_S w0 | replace w0 := wf_LI w0 | replace w0 := wf_LY w0 | replace w0 := wf_LLI w0 | replace w0 := wf_Ls w0 | skip
  first | replace w1 := wf_I w1 | replace w1 := wf_Y w1 | replace w1 := wf_S w1 | replace w1 := wf_LI w1 | replace w1 := wf_LY w1 | replace w1 := wf_LLI w1 | replace w1 := wf_Ls w1 | skip
  first | replace w2 := wf_I w2 | replace w2 := wf_Y w2 | replace w2 := wf_S w2 | replace w2 := wf_LI w2 | replace w2 := wf_LY w2 | replace w2 := wf_LLI w2 | replace w2 := wf_Ls w2 | skip
  repeat' first
    | refine And.intro rfl ?_
    | refine GdF.mk (fun h => h) ?_
    | refine And.intro (Nat.succ_ne_zero _) ?_
    | refine SeqF.run ?_
    | refine EqI.mk _ (fun _ => wrapI (by have := all_at (i := i) k9 (by omega) (by omega); omega) (by have := all_at (i := i) k9 (by omega) (by omega); omega)) ?_
    | refine ArgF.is (c_impl_settledAfter _ _ _ (by have := all_at (i := i) k9 (by omega) (by omega); omega) (by simp only [inR_iff] at ka; omega) (by have := all_at (i := i) k8 (by omega) (by omega); omega)) ?_
    | refine ArgQ.is (fun hG => c_impl_settledAfter _ _ _ (by have := all_at (i := i) k9 (by omega) (by omega); omega) (by simp only [inR_iff] at ka; omega) (by have := all_at (i := i) k8 (by omega) (by omega); omega)) rfl rfl ?_
    | refine LoopF.fix [1, 2, 37, 38] (Int × Nat × List Int × Int) (fun (i, k, xs, g) => 0 ≤ i ∧ i ≤ ts.length ∧ k = xs.length ∧ (k : Int) = i ∧ g = prevD xs k ∧ 0 ≤ g ∧ g ≤ 1000000 ∧ goodD bs xs ∧ ts.all (inR · 0 10000) = true ∧ bs.all (inR · 0 1000000) = true ∧ inR s 0 1000000 = true ∧ bs.length = ts.length ∧ ts.length ≤ 24) (fun (i, k, xs, g) => [(39, In i), (8, .osl 0 0 k), (9, In g)]) (fun (i, k, xs, g) => [(0, Rw .flat (eI 0) (xs.map eI))]) (fun (i, k, xs, g) => ((ts.length - i).toNat)) ((0, 0, [], 0)) ?_
    | (refine LoopB.mk ?_ ?_; rotate_left; rintro ⟨i, k, xs, g⟩ ⟨k0, k1, k2, k3, k4, k5, k6, k7, k8, k9, ka, kb, kc⟩; rotate_left)
    | refine RetV.mk (α := Nat × List Int × Int) (0, [], _) rfl rfl ?_
    | refine RetV.mk (α := Nat × List Int × Int) (_, _, _) rfl rfl ?_
    | refine EqP.mk _ (gm eI 0 rfl) ?_
    | refine BndF.mk (fun _ => by omega) ?_
    | refine BndF.mk (fun _ => by simp only [List.length_map, List.length_cons, List.length_nil, List.length_append, List.length_set, List.length_replicate, iotaI_len]; omega) ?_
    | refine BndF.mk (fun hG => by simp only [forall_const, eq_self, not_true_eq_false, not_false_eq_true, or_false, false_or, or_self, or_true, true_or, and_true, true_and, and_false, false_and, decide_true, decide_false, Bool.not_true, Bool.not_false, decide_eq_true_eq, decide_eq_false_iff_not, ite_and_p, ite_or_p, Bool.decide_eq_true, Bool.and_eq_true, Bool.or_eq_true, Bool.not_eq_true', Bool.not_eq_false', Bool.and_eq_false_imp, Bool.or_eq_false_iff, bne_iff_ne, beq_iff_eq, bne_eq_false_iff_eq, beq_eq_false_iff_ne, gt_iff_lt, ge_iff_le, Int.not_lt, Int.not_le, ne_eq, Bool.true_eq_false, Bool.false_eq_true, reduceCtorEq, eta_Airway, eta_Fan, eta_Heading, eta_Mine, eta_Sensor, bytes_nil] at hG; (try simp only [List.length_map]); omega) ?_
    | refine EqI.mk _ (fun _ => wrapI (by omega) (by omega)) ?_
    | refine EqI.mk _ (fun _ => rfl) ?_
    | refine EqN.mk _ (ln eI) ?_
    | refine EqN.mk _ (Nat.zero_add _) ?_
    | refine EqN.mk (_ + 1) rfl ?_
    | refine EqN.mk _ (Int.toNat_natCast _) ?_
    | refine EqN.mk _ rfl ?_
    | refine EqL.mk _ (sn0 eI) ?_
    | refine EqL.mk _ (sn eI (by first | rfl | assumption | omega | (simp only [List.length_map, List.length_cons, List.length_nil, List.length_append, List.length_set, List.length_replicate, iotaI_len]; done) | (simp only [List.length_map, List.length_cons, List.length_nil, List.length_append, List.length_set, List.length_replicate, iotaI_len]; omega))) ?_
    | refine EqL.mk _ (ap0 eI) ?_
    | refine EqL.mk _ (ap eI (by first | rfl | assumption | omega | (simp only [List.length_map, List.length_cons, List.length_nil, List.length_append, List.length_set, List.length_replicate, iotaI_len]; done) | (simp only [List.length_map, List.length_cons, List.length_nil, List.length_append, List.length_set, List.length_replicate, iotaI_len]; omega))) ?_
    | refine EqL.mk _ (tk eI (by first | rfl | assumption | omega | (simp only [List.length_map, List.length_cons, List.length_nil, List.length_append, List.length_set, List.length_replicate, iotaI_len]; done) | (simp only [List.length_map, List.length_cons, List.length_nil, List.length_append, List.length_set, List.length_replicate, iotaI_len]; omega))) ?_
    | refine EqL.mk _ (dt eI) ?_
    | refine EqL.mk [] rfl ?_
    | refine EqL.mk [_] rfl ?_
    | refine EqL.mk _ rfl ?_
    | refine ArgF.is (c_impl_allWithin ..) ?_
    | refine ArgQ.is (fun hG => c_impl_allWithin ..) rfl rfl ?_
    | refine ArgF.is (c_impl_within ..) ?_
    | refine ArgQ.is (fun hG => c_impl_within ..) rfl rfl ?_
    | refine ArgF.is (c_impl_settledAfter _ _ _ (by first | assumption | omega) (by first | assumption | omega) (by first | assumption | omega)) ?_
    | refine ArgQ.is (fun hG => c_impl_settledAfter _ _ _ (by first | assumption | omega) (by first | assumption | omega) (by first | assumption | omega)) rfl rfl ?_
    | refine ArgQ.is (fun hG => c_impl_settledAfter _ _ _ (by simp only [forall_const, eq_self, not_true_eq_false, not_false_eq_true, or_false, false_or, or_self, or_true, true_or, and_true, true_and, and_false, false_and, decide_true, decide_false, Bool.not_true, Bool.not_false, decide_eq_true_eq, decide_eq_false_iff_not, ite_and_p, ite_or_p, Bool.decide_eq_true, Bool.and_eq_true, Bool.or_eq_true, Bool.not_eq_true', Bool.not_eq_false', Bool.and_eq_false_imp, Bool.or_eq_false_iff, bne_iff_ne, beq_iff_eq, bne_eq_false_iff_eq, beq_eq_false_iff_ne, gt_iff_lt, ge_iff_le, Int.not_lt, Int.not_le, ne_eq, Bool.true_eq_false, Bool.false_eq_true, reduceCtorEq, eta_Airway, eta_Fan, eta_Heading, eta_Mine, eta_Sensor, bytes_nil] at hG; omega) (by simp only [forall_const, eq_self, not_true_eq_false, not_false_eq_true, or_false, false_or, or_self, or_true, true_or, and_true, true_and, and_false, false_and, decide_true, decide_false, Bool.not_true, Bool.not_false, decide_eq_true_eq, decide_eq_false_iff_not, ite_and_p, ite_or_p, Bool.decide_eq_true, Bool.and_eq_true, Bool.or_eq_true, Bool.not_eq_true', Bool.not_eq_false', Bool.and_eq_false_imp, Bool.or_eq_false_iff, bne_iff_ne, beq_iff_eq, bne_eq_false_iff_eq, beq_eq_false_iff_ne, gt_iff_lt, ge_iff_le, Int.not_lt, Int.not_le, ne_eq, Bool.true_eq_false, Bool.false_eq_true, reduceCtorEq, eta_Airway, eta_Fan, eta_Heading, eta_Mine, eta_Sensor, bytes_nil] at hG; omega) (by simp only [forall_const, eq_self, not_true_eq_false, not_false_eq_true, or_false, false_or, or_self, or_true, true_or, and_true, true_and, and_false, false_and, decide_true, decide_false, Bool.not_true, Bool.not_false, decide_eq_true_eq, decide_eq_false_iff_not, ite_and_p, ite_or_p, Bool.decide_eq_true, Bool.and_eq_true, Bool.or_eq_true, Bool.not_eq_true', Bool.not_eq_false', Bool.and_eq_false_imp, Bool.or_eq_false_iff, bne_iff_ne, beq_iff_eq, bne_eq_false_iff_eq, beq_eq_false_iff_ne, gt_iff_lt, ge_iff_le, Int.not_lt, Int.not_le, ne_eq, Bool.true_eq_false, Bool.false_eq_true, reduceCtorEq, eta_Airway, eta_Fan, eta_Heading, eta_Mine, eta_Sensor, bytes_nil] at hG; omega)) rfl rfl ?_
    | refine CallF.mk (CallW.is [] true rfl ?_)
    | refine CallG.mk ?_
    | (refine CondF.mk (fun hb => ?_) (fun hb => ?_) <;> try simp only [forall_const, eq_self, not_true_eq_false, not_false_eq_true, or_false, false_or, or_self, or_true, true_or, and_true, true_and, and_false, false_and, decide_true, decide_false, Bool.not_true, Bool.not_false, decide_eq_true_eq, decide_eq_false_iff_not, ite_and_p, ite_or_p, Bool.decide_eq_true, Bool.and_eq_true, Bool.or_eq_true, Bool.not_eq_true', Bool.not_eq_false', Bool.and_eq_false_imp, Bool.or_eq_false_iff, bne_iff_ne, beq_iff_eq, bne_eq_false_iff_eq, beq_eq_false_iff_ne, gt_iff_lt, ge_iff_le, Int.not_lt, Int.not_le, ne_eq, Bool.true_eq_false, Bool.false_eq_true, reduceCtorEq, eta_Airway, eta_Fan, eta_Heading, eta_Mine, eta_Sensor] at hb)
    | apply BackF.auto4
    | refine BackB.mk ?_ ?_
    | refine RetF.auto (And.intro rfl ?_)
    | exact Is.mk rfl rfl
    | refine Is.mk ?_ rfl
    | refine Is.mk rfl ?_
    | refine Is.mk ?_ ?_
  all_goals dsimp only
  · exact Or.inl ⟨rfl, rfl⟩
  · simp only [not_or, Bool.not_eq_false] at hb
    obtain ⟨⟨⟨⟨h1, h2⟩, h3⟩, h4⟩, h5⟩ := hb
    exact ⟨by omega, by omega, rfl, rfl, rfl, by omega, by omega, fun j hj => absurd hj (by simp), h3, h4, h5, by omega, by omega⟩
  · have hb1 := all_at k9 k0 (by omega)
    have ht1 := all_at k8 k0 hb
    have hs := inR_iff.1 ka
    have e : i.toNat = xs.length := by omega
    have hn := setN_b (s := s) (d := min (g + bs.getD i.toNat 0) 1000000) (by omega) hs.1 hs.2 (ts.getD i.toNat 0).toNat
    exact ⟨by omega, by omega, by simp [k2], by omega, by rw [k2, prevD_snoc], hn.1, by omega, good_snoc k7 hn.1 (by omega) (by rw [← k2, ← k4, k2, ← e]; omega), k8, k9, ka, kb, kc⟩
  · omega
  · exact ⟨k2, Or.inr ⟨rfl, by omega, kb, k9, k7⟩⟩
theorem settled_all {d s t : Int} (h : (settled d s t).2 = 0) : (0 ≤ t ∧ t ≤ 10000) ∧ (0 ≤ (settled d s t).1 ∧ (settled d s t).1 ≤ d) ∧ (settled d s (t / 2)).2 = 0 ∧ (settled (settled d s (t / 2)).1 s (t - t / 2)) = settled d s t ∧ (settled d s t).1 ≤ (settled d s (t / 2)).1 := by
  have h1 : okD d s t = true := by
    unfold settled at h; split at h
    · assumption
    · cases h
  have h2 := h1
  simp only [okD, Bool.and_eq_true, inR_iff] at h2
  have hb := setN_b (s := s) (d := d) h2.1.1.1 h2.1.2.1 h2.1.2.2
  have e1 : settled d s t = (setN s t.toNat d, 0) := by unfold settled; rw [if_pos h1]
  have e2 : settled d s (t / 2) = (setN s (t / 2).toNat d, 0) := by
    unfold settled; rw [if_pos (by simp only [okD, Bool.and_eq_true, inR_iff]; omega)]
  have e4 : setN s t.toNat d = setN s (t - t / 2).toNat (setN s (t / 2).toNat d) := by rw [← setN_add]; congr 1; omega
  have e3 : settled (setN s (t / 2).toNat d) s (t - t / 2) = (setN s t.toNat d, 0) := by
    have := hb (t / 2).toNat
    unfold settled; rw [if_pos (by simp only [okD, Bool.and_eq_true, inR_iff]; omega), ← e4]
  rw [e2, e1, e3]
  have h5 := hb (t / 2).toNat
  have h6 := setN_b (s := s) (d := setN s (t / 2).toNat d) h5.1 h2.1.2.1 h2.1.2.2 (t - t / 2).toNat
  rw [← e4] at h6
  exact ⟨h2.2, hb _, rfl, rfl, h6.2⟩
theorem dustOf_less {d f : Int} (h1 : (dustOf d f).2 = 0) (h2 : (dustOf d (f + 1)).2 = 0) : (dustOf d (f + 1)).1 ≤ (dustOf d f).1 := by
  unfold dustOf at *
  split at h1
  · rename_i h3
    split at h2
    · rename_i h4
      simp only [Bool.and_eq_true, inR_iff] at h3 h4
      have := rd_anti (x := 100000 * d) (y := f) (by omega) (by omega)
      rw [if_pos (by simp only [Bool.and_eq_true, inR_iff]; omega), if_pos (by simp only [Bool.and_eq_true, inR_iff]; omega)]
      dsimp only; omega
    · cases h2
  · cases h1
