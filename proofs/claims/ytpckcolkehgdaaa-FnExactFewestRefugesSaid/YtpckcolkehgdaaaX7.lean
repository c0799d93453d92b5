/- Contracts of functions of the program, and what they compute. Conditions: those that each theorem states. -/
import Derived.Test.YtpckcolkehgdaaaProg
import Derived.Test.YtpckcolkehgdaaaX5
set_option linter.unusedVariables false
set_option linter.unusedSimpArgs false
namespace Go.Proofs.Ytpckcolkehgdaaa
open Go.Av
attribute [local irreducible] Go.IntKind.wrap leastI rdZ rd rootI rawA okMine rdT rdK stT rxD tmI ext extL fstL fstSet covI refC refV
set_option maxRecDepth 20000
set_option maxHeartbeats 400000000

/-! The fewest refuges: the program's function. -/
theorem inV_i {m : GMine} {i : Int} (h0 : 0 ≤ i) (h1 : i < m.junctions) : inV m i := by unfold inV; omega
theorem tkX {xs : List Int} {n : Nat} (h : n = xs.length) : ((xs.map eI).drop 0).take n = xs.map eI := by
  subst h; rw [List.drop_zero, List.take_of_length_le (by simp)]
/-- the times of the first junctions -/
structure tsI (m : GMine) (sp i : Int) (ts : List (List Int)) : Prop where
  ln : (ts.length : Int) = i
  at_ : ∀ j : Nat, j < ts.length → ts.getD j [] = tmI m sp j
theorem tsI_0 {m : GMine} {sp : Int} : tsI m sp 0 [] := ⟨rfl, fun j h => by simp at h⟩
theorem tsI_s {m : GMine} {sp i : Int} {ts : List (List Int)} (h : tsI m sp i ts) : tsI m sp (i + 1) (ts ++ [tmI m sp i]) := by
  have hl := h.ln
  refine ⟨by simp; omega, fun j hj => ?_⟩
  rw [List.length_append, List.length_singleton] at hj
  by_cases e : j < ts.length
  · rw [← h.at_ j e, List.getD_eq_getElem?_getD, List.getD_eq_getElem?_getD, List.getElem?_append_left e]
  · have : j = ts.length := by omega
    subst this
    rw [List.getD_eq_getElem?_getD, List.getElem?_append_right (Nat.le_refl _), hl]; simp
theorem tsI_e {m : GMine} {sp i : Int} {ts : List (List Int)} (h : tsI m sp i ts) (h1 : i ≤ m.junctions) (h2 : m.junctions ≤ i) : ts = tmA m sp := by
  have hl := h.ln
  have hl2 := tmA_len (m := m) (sp := sp)
  apply List.ext_getElem?
  intro j
  by_cases e : j < ts.length
  · have a := h.at_ j e
    have b := tmA_at (m := m) (sp := sp) (i := j) (by omega)
    rw [List.getD_eq_getElem?_getD, List.getElem?_eq_getElem e] at a
    rw [List.getD_eq_getElem?_getD, List.getElem?_eq_getElem (by omega)] at b
    rw [List.getElem?_eq_getElem e, List.getElem?_eq_getElem (by omega)]
    simp only [Option.getD_some] at a b
    rw [a, b]
  · rw [List.getElem?_eq_none (by omega), List.getElem?_eq_none (by omega)]
theorem tsI_len {m : GMine} {sp i : Int} {ts : List (List Int)} (h : tsI m sp i ts) {j : Nat} (hj : j < ts.length) : (ts.getD j []).length = m.junctions.toNat := by rw [h.at_ j hj, tmI_len]
theorem ref_e {m : GMine} {sp lim b i : Int} {ts : List (List Int)} {js : List Int} (h : refC m sp lim b = 0) (ht : tsI m sp i ts) (h1 : i ≤ m.junctions) (h2 : m.junctions ≤ i) (h0 : 0 ≤ i) (hj : js = iotaI 0 i.toNat) : refV m sp lim b = fstSet js (covI ts lim) b := by
  rw [refV_0 h, tsI_e ht h1 h2, hj, show i.toNat = m.junctions.toNat by omega]
theorem iota_sR {i : Int} (h : 0 ≤ i) : iotaI 0 (i + 1).toNat = iotaI 0 i.toNat ++ [i] := by
  rw [show (i + 1).toNat = i.toNat + 1 by omega, iotaI_succ]; congr 2; omega
theorem c_impl_FewestRefuges (m : GMine) (sp lim b : Int) : FnSem Try.prog 14 [.p .any (.agg m.cells), In sp, In lim, In b] [] (RetV (fun v : Nat × List Int × Int => [.osl 0 0 v.1, In v.2.2]) (fun v => [.row false .flat (eI 0) (v.2.1.map eI)]) (fun v => v.1 ≤ v.2.1.length ∧ refV m sp lim b = (v.2.1.take v.1, v.2.2))) := by
  refine FnSem.old ?_
  refine FnSem.walk (zs := zeroPV Try.prog) (by kernel_rfl) Try.func14 rfl Try.results14 (by kernel_rfl) (by kernel_rfl) (by kernel_rfl) fun hw hh => ?_
  obtain ⟨w0, w1, w2, w3, _⟩ := hw
  first | replace w0 := wf_Mine w0 | skip
  first | replace w1 := wf_I w1 | skip
  first | replace w2 := wf_I w2 | skip
  first | replace w3 := wf_I w3 | skip
  repeat' first
    | refine And.intro rfl ?_
    | refine GdF.mk (fun h => h) ?_
    | refine And.intro (Nat.succ_ne_zero _) ?_
    | refine And.intro (Nat.le_of_ble_eq_true rfl) ?_
    | refine SeqF.run ?_
    | refine ArgF.is (c_impl_ValidMine m) ?_
    | refine ArgQ.is (fun hG => c_impl_ValidMine m) rfl rfl ?_
    | refine ArgF.is (budgetR b) ?_
    | refine ArgQ.is (fun hG => budgetR b) rfl rfl ?_
    | refine GhF.at 7 rfl [.nils 3 0 (eI 0), .nilr 4 0 (eI 0), .old 5, .old 6] ?_
    | refine OpH.heap ?_
    | refine GhF.held 10 rfl [(3, [3]), (8, []), (9, []), (10, [5]), (11, [2]), (12, [4])] ?_
    | refine GhF.at 14 rfl [.nils 6 3 (eI 0)] ?_
    | refine ArgF.is (c_impl_Mine_walkTimes m i sp (refC_p h2).1 (inV_i h0 (by omega)) (refC_p h2).2.1) ?_
    | refine ArgQ.is (fun hG => c_impl_Mine_walkTimes m i sp (refC_p h2).1 (inV_i h0 (by omega)) (refC_p h2).2.1) rfl rfl ?_
    | refine BndF.mk (fun _ => by have q := congrArg List.length h5; rw [iotaI_len] at q; have := h6.ln; omega) ?_
    | refine BndF.mk (fun _ => by simp only [List.length_map, tmI_len]; omega) ?_
    | refine EqL.mk ((tmI m sp i).map eI) (tkX tmI_len.symm) ?_
    | refine MkF.rows ?_
    | refine EqR.mk (List.map eR [tmI m sp i]) rfl ?_
    | refine EqR.mk [] rfl ?_
    | refine EqR.mk _ apR ?_
    | refine EqR.mk (List.map eR [tmI m sp i]) (by simp) ?_
    | refine LoopF.at 8 rfl (LoopF.fix [1, 3, 4, 6, 10, 11, 32] (Int × Nat × Nat × List Int × List (List Int)) (fun (i, n, p, js, ts) => 0 ≤ i ∧ i ≤ m.junctions ∧ refC m sp lim b = 0 ∧ n = js.length ∧ p = ts.length ∧ js = iotaI 0 i.toNat ∧ tsI m sp i ts ∧ m.junctions ≤ 16) (fun (i, n, p, js, ts) => [(33, In i)]) (fun (i, n, p, js, ts) => [(2, .fix [.osl 3 0 n]), (3, .row false .flat (eI 0) (js.map eI)), (4, .fix [.osl 5 0 p]), (5, .rows false .flat (eI 0) (ts.map eR) none)]) (fun (i, n, p, js, ts) => ((m.junctions - i).toNat)) ((0, 0, 0, [], [])) ?_)
    | (refine LoopB.of (T := Int × Nat × Nat × List Int × List (List Int)) ?_ ?_; rotate_left; rintro ⟨i, n, p, js, ts⟩ ⟨h0, h1, h2, h3, h4, h5, h6, h7⟩; rotate_left)
    | refine EqL.mk (ts.map eLI) (tkRows h4) ?_
    | refine CallF.mk (f := 91) (CallW.is [6, 7] true rfl ?_)
    | (refine ArgF.fst (fstC js (covI ts lim) _ _ _ _ b (by have := h6.ln; rw [h5, iotaI_len]; omega) (by have := refC_p h2; omega) (fun zs' q1 q2 => c_impl_FewestRefuges_1 ts zs' js lim (by have := h6.ln; rw [h5]; congr 1; omega) (fun fr hfr x hx => by rw [tsI_len h6 hfr]; have := iota_m (h5 ▸ q2 x hx); omega))) (fun n2 ys2 l2 e1 e2 => ?_) (fun c2 n2 ys2 l2 e1 e2 => ?_))
    | refine RetV.mk (α := Nat × List Int × Int) (0, [], _) rfl rfl ?_
    | refine RetV.mk (α := Nat × List Int × Int) (_, _, _) rfl rfl ?_
    | refine HdF.at 12 rfl 0 [3, 8, 9, 10, 11, 12] (And.intro (by decide +kernel) (And.intro rfl ?_))
    | refine HdF.at 11 rfl 1 [] (And.intro (by decide +kernel) (And.intro rfl ?_))
    | refine HdF.at 10 rfl 4 [10, 11, 12] (And.intro (by decide +kernel) (And.intro rfl ?_))
    | refine HdF.at 9 rfl 5 [8, 9, 10, 11, 12] (And.intro (by decide +kernel) (And.intro rfl ?_))
    | refine HdF.at 8 rfl 6 [] (And.intro (by decide +kernel) (And.intro rfl ?_))
    | refine HdF.at 7 rfl 7 [] (And.intro (by decide +kernel) (And.intro rfl ?_))
    | refine HdF.goAt 6 rfl ?_
    | refine OrdL.ord ?_
    | refine OrdF.all [12] (by decide +kernel) ?_
    | refine OrdF.all [11] (by decide +kernel) ?_
    | refine OrdF.all [10] (by decide +kernel) ?_
    | refine OrdF.all [9] (by decide +kernel) ?_
    | refine OrdF.all [8] (by decide +kernel) ?_
    | refine OrdF.all [3] (by decide +kernel) ?_
    | refine OrdF.all [2] (by decide +kernel) ?_
    | refine OrdF.fin (by decide +kernel) ?_
    | refine AllF.one _ ?_
    | refine AllF.cons _ _ ?_ ?_
    | refine OpH.quiet rfl ?_
    | refine OpH.heap ?_
    | refine GhF.go ?_
    | refine GdS.keep ?_
    | refine DrawG.old (DrawF.lex (by decide +kernel) ?_)
    | refine DrawG.old (DrawF.any ?_)
    | refine OrdF.take 1 (by decide +kernel) ?_
    | refine OrdF.take 6 (by decide +kernel) ?_
    | refine OrdF.take 7 (by decide +kernel) ?_
    | refine OrdF.all [12] (by decide +kernel) ?_
    | refine OrdF.all [11] (by decide +kernel) ?_
    | refine OrdF.all [10] (by decide +kernel) ?_
    | refine OrdF.all [9] (by decide +kernel) ?_
    | refine OrdF.all [8] (by decide +kernel) ?_
    | refine OrdF.all [3] (by decide +kernel) ?_
    | refine OrdF.all [0] (by decide +kernel) ?_
    | refine OrdF.all [2] (by decide +kernel) ?_
    | refine OrdF.all [0, 2] (by decide +kernel) ?_
    | refine OrdF.all [4] (by decide +kernel) ?_
    | refine OrdF.all [4, 9] (by decide +kernel) ?_
    | refine OrdF.all [4, 8] (by decide +kernel) ?_
    | refine OrdF.all [3, 4] (by decide +kernel) ?_
    | refine OrdF.all [0, 4] (by decide +kernel) ?_
    | refine OrdF.all [2, 4] (by decide +kernel) ?_
    | refine OrdF.all [0, 2, 4] (by decide +kernel) ?_
    | refine OrdF.all [5] (by decide +kernel) ?_
    | refine OrdF.all [3, 5] (by decide +kernel) ?_
    | refine OrdF.all [0, 5] (by decide +kernel) ?_
    | refine OrdF.all [2, 5] (by decide +kernel) ?_
    | refine OrdF.all [0, 2, 5] (by decide +kernel) ?_
    | refine OrdF.all [4, 5] (by decide +kernel) ?_
    | refine OrdF.all [3, 4, 5] (by decide +kernel) ?_
    | refine OrdF.all [0, 4, 5] (by decide +kernel) ?_
    | refine OrdF.all [2, 4, 5] (by decide +kernel) ?_
    | refine OrdF.all [0, 2, 4, 5] (by decide +kernel) ?_
    | refine OrdF.fin (by decide +kernel) ?_
    | refine AllF.one _ ?_
    | refine AllF.cons _ _ ?_ ?_
    | refine BndF.mk (fun _ => ⟨rfl, by first | rfl | omega | (simp only [List.length_map, List.length_cons, List.length_nil, List.length_append, List.length_set, List.length_replicate]; first | done | omega)⟩) ?_
    | refine MkF.row ?_
    | refine BndF.mk (fun _ => by omega) ?_
    | refine BndF.mk (fun _ => by simp only [List.length_map, List.length_cons, List.length_nil, List.length_append, List.length_set, List.length_replicate, iotaI_len]; omega) ?_
    | refine BndF.mk (fun hG => by simp only [forall_const, eq_self, not_true_eq_false, not_false_eq_true, or_false, false_or, or_self, or_true, true_or, and_true, true_and, and_false, false_and, decide_true, decide_false, Bool.not_true, Bool.not_false, decide_eq_true_eq, decide_eq_false_iff_not, ite_and_p, ite_or_p, Bool.decide_eq_true, Bool.and_eq_true, Bool.or_eq_true, Bool.not_eq_true', Bool.not_eq_false', Bool.and_eq_false_imp, Bool.or_eq_false_iff, bne_iff_ne, beq_iff_eq, bne_eq_false_iff_eq, beq_eq_false_iff_ne, gt_iff_lt, ge_iff_le, Int.not_lt, Int.not_le, ne_eq, Bool.true_eq_false, Bool.false_eq_true, reduceCtorEq, eta_Airway, eta_Fan, eta_Mine, bytes_nil] at hG; (try simp only [List.length_map]); omega) ?_
    | refine EqI.mk _ (fun _ => wrapI (by omega) (by omega)) ?_
    | refine EqI.mk _ (fun _ => rfl) ?_
    | refine FlF.keep ?_
    | refine EqN.mk _ (Nat.zero_add _) ?_
    | refine EqN.mk (_ + 1) rfl ?_
    | refine EqN.mk _ (Int.toNat_natCast _) ?_
    | refine EqN.mk _ rfl ?_
    | refine EqL.mk _ (sn0 eI) ?_
    | refine EqL.mk _ (sn eI (by first | rfl | assumption | omega | (simp only [List.length_map, List.length_cons, List.length_nil, List.length_append, List.length_set, List.length_replicate, iotaI_len]; done) | (simp only [List.length_map, List.length_cons, List.length_nil, List.length_append, List.length_set, List.length_replicate, iotaI_len]; omega))) ?_
    | refine EqL.mk _ (ap0 eI) ?_
    | refine EqL.mk _ (ap eI (by first | rfl | assumption | omega | (simp only [List.length_map, List.length_cons, List.length_nil, List.length_append, List.length_set, List.length_replicate, iotaI_len]; done) | (simp only [List.length_map, List.length_cons, List.length_nil, List.length_append, List.length_set, List.length_replicate, iotaI_len]; omega))) ?_
    | refine EqL.mk _ (tk eI (by first | rfl | assumption | omega | (simp only [List.length_map, List.length_cons, List.length_nil, List.length_append, List.length_set, List.length_replicate, iotaI_len]; done) | (simp only [List.length_map, List.length_cons, List.length_nil, List.length_append, List.length_set, List.length_replicate, iotaI_len]; omega))) ?_
    | refine EqL.mk _ (st eI) ?_
    | refine EqL.mk _ (dt eI) ?_
    | refine EqL.mk _ (sn0 eLI) ?_
    | refine EqL.mk _ (sn eLI (by first | rfl | assumption | omega | (simp only [List.length_map, List.length_cons, List.length_nil, List.length_append, List.length_set, List.length_replicate, iotaI_len]; done) | (simp only [List.length_map, List.length_cons, List.length_nil, List.length_append, List.length_set, List.length_replicate, iotaI_len]; omega))) ?_
    | refine EqL.mk _ (ap0 eLI) ?_
    | refine EqL.mk _ (ap eLI (by first | rfl | assumption | omega | (simp only [List.length_map, List.length_cons, List.length_nil, List.length_append, List.length_set, List.length_replicate, iotaI_len]; done) | (simp only [List.length_map, List.length_cons, List.length_nil, List.length_append, List.length_set, List.length_replicate, iotaI_len]; omega))) ?_
    | refine EqL.mk _ (tk eLI (by first | rfl | assumption | omega | (simp only [List.length_map, List.length_cons, List.length_nil, List.length_append, List.length_set, List.length_replicate, iotaI_len]; done) | (simp only [List.length_map, List.length_cons, List.length_nil, List.length_append, List.length_set, List.length_replicate, iotaI_len]; omega))) ?_
    | refine EqL.mk _ (st eLI) ?_
    | refine EqL.mk _ (dt eLI) ?_
    | refine EqL.mk [] rfl ?_
    | refine EqL.mk [_] rfl ?_
    | refine EqL.mk _ rfl ?_
    | refine ArgF.is (c_impl_ValidMine ⟨_, _⟩) ?_
    | refine ArgQ.is (fun hG => c_impl_ValidMine ⟨_, _⟩) rfl rfl ?_
    | refine ArgF.is (c_impl_within ..) ?_
    | refine ArgQ.is (fun hG => c_impl_within ..) rfl rfl ?_
    | refine ArgF.is (c_impl_budgetValid ..) ?_
    | refine ArgQ.is (fun hG => c_impl_budgetValid ..) rfl rfl ?_
    | refine ArgF.is (c_impl_Mine_walkTimes ⟨_, _⟩ _ _ (by first | assumption | omega) (by first | assumption | omega) (by first | assumption | omega)) ?_
    | refine ArgQ.is (fun hG => c_impl_Mine_walkTimes ⟨_, _⟩ _ _ (by first | assumption | omega) (by first | assumption | omega) (by first | assumption | omega)) rfl rfl ?_
    | refine ArgQ.is (fun hG => c_impl_Mine_walkTimes ⟨_, _⟩ _ _ (by simp only [forall_const, eq_self, not_true_eq_false, not_false_eq_true, or_false, false_or, or_self, or_true, true_or, and_true, true_and, and_false, false_and, decide_true, decide_false, Bool.not_true, Bool.not_false, decide_eq_true_eq, decide_eq_false_iff_not, ite_and_p, ite_or_p, Bool.decide_eq_true, Bool.and_eq_true, Bool.or_eq_true, Bool.not_eq_true', Bool.not_eq_false', Bool.and_eq_false_imp, Bool.or_eq_false_iff, bne_iff_ne, beq_iff_eq, bne_eq_false_iff_eq, beq_eq_false_iff_ne, gt_iff_lt, ge_iff_le, Int.not_lt, Int.not_le, ne_eq, Bool.true_eq_false, Bool.false_eq_true, reduceCtorEq, eta_Airway, eta_Fan, eta_Mine, bytes_nil] at hG; omega) (by simp only [forall_const, eq_self, not_true_eq_false, not_false_eq_true, or_false, false_or, or_self, or_true, true_or, and_true, true_and, and_false, false_and, decide_true, decide_false, Bool.not_true, Bool.not_false, decide_eq_true_eq, decide_eq_false_iff_not, ite_and_p, ite_or_p, Bool.decide_eq_true, Bool.and_eq_true, Bool.or_eq_true, Bool.not_eq_true', Bool.not_eq_false', Bool.and_eq_false_imp, Bool.or_eq_false_iff, bne_iff_ne, beq_iff_eq, bne_eq_false_iff_eq, beq_eq_false_iff_ne, gt_iff_lt, ge_iff_le, Int.not_lt, Int.not_le, ne_eq, Bool.true_eq_false, Bool.false_eq_true, reduceCtorEq, eta_Airway, eta_Fan, eta_Mine, bytes_nil] at hG; omega) (by simp only [forall_const, eq_self, not_true_eq_false, not_false_eq_true, or_false, false_or, or_self, or_true, true_or, and_true, true_and, and_false, false_and, decide_true, decide_false, Bool.not_true, Bool.not_false, decide_eq_true_eq, decide_eq_false_iff_not, ite_and_p, ite_or_p, Bool.decide_eq_true, Bool.and_eq_true, Bool.or_eq_true, Bool.not_eq_true', Bool.not_eq_false', Bool.and_eq_false_imp, Bool.or_eq_false_iff, bne_iff_ne, beq_iff_eq, bne_eq_false_iff_eq, beq_eq_false_iff_ne, gt_iff_lt, ge_iff_le, Int.not_lt, Int.not_le, ne_eq, Bool.true_eq_false, Bool.false_eq_true, reduceCtorEq, eta_Airway, eta_Fan, eta_Mine, bytes_nil] at hG; omega)) rfl rfl ?_
    | refine ArgF.is (c_impl_setSearch_first ..) ?_
    | refine ArgQ.is (fun hG => c_impl_setSearch_first ..) rfl rfl ?_
    | refine CallF.mk (CallW.is [] true rfl ?_)
    | refine CallG.mk ?_
    | (refine CondF.mk (fun hb => ?_) (fun hb => ?_) <;> try simp only [forall_const, eq_self, not_true_eq_false, not_false_eq_true, or_false, false_or, or_self, or_true, true_or, and_true, true_and, and_false, false_and, decide_true, decide_false, Bool.not_true, Bool.not_false, decide_eq_true_eq, decide_eq_false_iff_not, ite_and_p, ite_or_p, Bool.decide_eq_true, Bool.and_eq_true, Bool.or_eq_true, Bool.not_eq_true', Bool.not_eq_false', Bool.and_eq_false_imp, Bool.or_eq_false_iff, bne_iff_ne, beq_iff_eq, bne_eq_false_iff_eq, beq_eq_false_iff_ne, gt_iff_lt, ge_iff_le, Int.not_lt, Int.not_le, ne_eq, Bool.true_eq_false, Bool.false_eq_true, reduceCtorEq, eta_Airway, eta_Fan, eta_Mine] at hb)
    | apply BackF.auto5
    | refine BackB.mk ?_ ?_
    | refine RetF.auto (And.intro rfl ?_)
    | exact Is.mk rfl rfl
    | refine Is.mk ?_ rfl
    | refine Is.mk rfl ?_
    | refine Is.mk ?_ ?_
  all_goals try dsimp only
  all_goals first
    | omega
    | (rw [refV_c (by rw [refC_1 hb]; decide), refC_1 hb]; first | rfl | exact ⟨Nat.zero_le _, rfl⟩)
    | (rw [refV_c (by rw [refC_2 (by assumption) hb]; decide), refC_2 (by assumption) hb]; first | rfl | exact ⟨Nat.zero_le _, rfl⟩)
    | exact ⟨by omega, by have := (okMine_p (by assumption : okMine m = true)).1; omega, refC_0 (by assumption) hb, rfl, rfl, rfl, tsI_0, ((okMine_p (by assumption : okMine m = true)).1).2⟩
    | exact ⟨by omega, by omega, h2, by simp [h3], by simp [h4], by rw [iota_sR h0, ← h5], tsI_s h6, h7⟩
    | exact ⟨e1, (ref_e h2 h6 h1 (by assumption) h0 h5).trans e2⟩
    | exact (ref_e h2 h6 h1 (by assumption) h0 h5).trans e1
    | skip
end Go.Proofs.Ytpckcolkehgdaaa
