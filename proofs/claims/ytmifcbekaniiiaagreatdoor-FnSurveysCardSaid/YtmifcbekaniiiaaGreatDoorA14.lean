/- Contracts of functions of the program, and what they compute. Conditions: those that each theorem states. -/
import Derived.Test.YtmifcbekaniiiaaGreatDoorProg
import Derived.Test.YtmifcbekaniiiaaGreatDoorA13
import Derived.Test.YtmifcbekaniiiaaGreatDoorG1
set_option linter.unusedVariables false
set_option linter.unusedSimpArgs false
namespace Go.Proofs.YtmifcbekaniiiaaGreatDoor
open Go.Av
attribute [local irreducible] Go.IntKind.wrap listS decS idS isName rd rdZ okSur loR hiR selS agA lgA cbLo cbHi oddA
set_option maxRecDepth 20000
set_option maxHeartbeats 16000000

/-! Surveys: the odd ones, draws. -/
theorem tkL {ys s : List Int} {n : Nat} (h : ys.take n = s) : ((ys.map eI).drop 0).take n = s.map eI := by rw [← h]; simp
--@fn impl.OddSurveys
theorem oddT (xs : List GSurvey) (h : okSurs xs) : FnSem Tryz.prog 16 [LS xs] [] (RetV (fun v : Nat × List Int => [.osl 0 0 v.1, In 0]) (fun v => [Rw .flat (eI 0) (v.2.map eI)]) (fun v => v.1 = v.2.length ∧ v.2 = oddA xs)) := by
  have hl := h.ln
  unfold oddA
  refine FnSem.walk (zs := zeroPV Tryz.prog) (by kernel_rfl) Tryz.func16 rfl Tryz.results16 (by kernel_rfl) (by kernel_rfl) (by kernel_rfl) fun hw hh => ?_
  obtain ⟨w0, _⟩ := hw
  first | replace w0 := wf_LSurvey w0 | skip
  repeat' first
    | refine And.intro rfl ?_
    | refine GdF.mk (fun h => h) ?_
    | refine And.intro (Nat.succ_ne_zero _) ?_
    | refine And.intro (Nat.le_of_ble_eq_true rfl) ?_
    | refine SeqF.run ?_
    | refine ArgF.is (suoT xs h) ?_
    | refine ArgQ.is (fun hG => suoT xs h) rfl rfl ?_
    | (refine ArgF.ret (c_impl_largestAgreement xs (surA xs i).airway h) ?_; rintro ⟨m, ws⟩ ⟨hm, hw⟩; dsimp only at hm hw ⊢)
    | refine EqL.mk _ (tkL hw) ?_
    | refine ArgF.is (cnS (lgA xs (surA xs i).airway) i) ?_
    | refine ArgQ.is (fun hG => cnS (lgA xs (surA xs i).airway) i) rfl rfl ?_
    | refine LoopF.at 5 rfl (LoopF.fix [0, 10, 11] (Int × Nat × List Int) (fun (i, n, ys) => 0 ≤ i ∧ i ≤ xs.length ∧ (n = ys.length ∧ n ≤ i) ∧ ys = selI (fun i => !decide (i ∈ lgA xs (surA xs i).airway)) i.toNat) (fun (i, n, ys) => [(12, In i), (4, .osl 0 0 n)]) (fun (i, n, ys) => [(0, Rw .flat (eI 0) (ys.map eI))]) (fun (i, n, ys) => ((xs.length - i).toNat)) ((0, 0, [])) ?_)
    | (refine LoopB.of (T := Int × Nat × List Int) ?_ ?_; rotate_left; rintro ⟨i, n, ys⟩ ⟨k0, k1, k2, k3⟩; rotate_left)
    | refine RetV.mk (α := Nat × List Int) (_, _) rfl rfl ?_
    | refine GhF.go ?_
    | refine MkF.row ?_
    | refine EqP.mk _ (gm GSurvey.cells default rfl) ?_
    | refine EqP.mk _ (gm eI 0 rfl) ?_
    | refine BndF.mk (fun _ => by omega) ?_
    | refine BndF.mk (fun _ => by simp only [List.length_map, List.length_cons, List.length_nil, List.length_append, List.length_set, List.length_replicate, iotaI_len]; omega) ?_
    | refine EqI.mk _ (fun _ => wrapI (by omega) (by omega)) ?_
    | refine EqI.mk _ (fun _ => rfl) ?_
    | refine FlF.keep ?_
    | refine EqN.mk _ (ln GSurvey.cells) ?_
    | refine EqN.mk _ (ln eI) ?_
    | refine EqN.mk _ (Nat.zero_add _) ?_
    | refine EqN.mk (_ + 1) rfl ?_
    | refine EqN.mk _ (Int.toNat_natCast _) ?_
    | refine EqN.mk _ rfl ?_
    | refine EqL.mk _ (sn0 GSurvey.cells) ?_
    | refine EqL.mk _ (sn GSurvey.cells (by first | rfl | assumption | omega | (simp only [List.length_map, List.length_cons, List.length_nil, List.length_append, List.length_set, List.length_replicate, iotaI_len]; done) | (simp only [List.length_map, List.length_cons, List.length_nil, List.length_append, List.length_set, List.length_replicate, iotaI_len]; omega))) ?_
    | refine EqL.mk _ (ap0 GSurvey.cells) ?_
    | refine EqL.mk _ (ap GSurvey.cells (by first | rfl | assumption | omega | (simp only [List.length_map, List.length_cons, List.length_nil, List.length_append, List.length_set, List.length_replicate, iotaI_len]; done) | (simp only [List.length_map, List.length_cons, List.length_nil, List.length_append, List.length_set, List.length_replicate, iotaI_len]; omega))) ?_
    | refine EqL.mk _ (tk GSurvey.cells (by first | rfl | assumption | omega | (simp only [List.length_map, List.length_cons, List.length_nil, List.length_append, List.length_set, List.length_replicate, iotaI_len]; done) | (simp only [List.length_map, List.length_cons, List.length_nil, List.length_append, List.length_set, List.length_replicate, iotaI_len]; omega))) ?_
    | refine EqL.mk _ (st GSurvey.cells) ?_
    | refine EqL.mk _ (dt GSurvey.cells) ?_
    | refine EqL.mk _ (sn0 eI) ?_
    | refine EqL.mk _ (sn eI (by first | rfl | assumption | omega | (simp only [List.length_map, List.length_cons, List.length_nil, List.length_append, List.length_set, List.length_replicate, iotaI_len]; done) | (simp only [List.length_map, List.length_cons, List.length_nil, List.length_append, List.length_set, List.length_replicate, iotaI_len]; omega))) ?_
    | refine EqL.mk _ (ap0 eI) ?_
    | refine EqL.mk _ (ap eI (by first | rfl | assumption | omega | (simp only [List.length_map, List.length_cons, List.length_nil, List.length_append, List.length_set, List.length_replicate, iotaI_len]; done) | (simp only [List.length_map, List.length_cons, List.length_nil, List.length_append, List.length_set, List.length_replicate, iotaI_len]; omega))) ?_
    | refine EqL.mk _ (tk eI (by first | rfl | assumption | omega | (simp only [List.length_map, List.length_cons, List.length_nil, List.length_append, List.length_set, List.length_replicate, iotaI_len]; done) | (simp only [List.length_map, List.length_cons, List.length_nil, List.length_append, List.length_set, List.length_replicate, iotaI_len]; omega))) ?_
    | refine EqL.mk _ (st eI) ?_
    | refine EqL.mk _ (dt eI) ?_
    | refine EqL.mk [] rfl ?_
    | refine EqL.mk [_] rfl ?_
    | refine EqL.mk _ rfl ?_
    | refine ArgF.is (c_impl_surveysOk ..) ?_
    | refine ArgQ.is (fun hG => c_impl_surveysOk ..) rfl rfl ?_
    | refine ArgF.is (c_impl_largestAgreement _ _ (by first | assumption | omega)) ?_
    | refine ArgQ.is (fun hG => c_impl_largestAgreement _ _ (by first | assumption | omega)) rfl rfl ?_
    | refine ArgF.is (c_slices_Contains_int64_int64 ..) ?_
    | refine ArgQ.is (fun hG => c_slices_Contains_int64_int64 ..) rfl rfl ?_
    | refine CallF.mk (CallW.is [] true rfl ?_)
    | refine CallG.mk ?_
    | (refine CondF.mk (fun hb => ?_) (fun hb => ?_) <;> try simp only [forall_const, eq_self, not_true_eq_false, not_false_eq_true, or_false, false_or, or_self, or_true, true_or, and_true, true_and, and_false, false_and, decide_true, decide_false, Bool.not_true, Bool.not_false, decide_eq_true_eq, decide_eq_false_iff_not, ite_and_p, ite_or_p, Bool.decide_eq_true, Bool.and_eq_true, Bool.or_eq_true, Bool.not_eq_true', Bool.not_eq_false', Bool.and_eq_false_imp, Bool.or_eq_false_iff, bne_iff_ne, beq_iff_eq, bne_eq_false_iff_eq, beq_eq_false_iff_ne, gt_iff_lt, ge_iff_le, Int.not_lt, Int.not_le, ne_eq, Bool.true_eq_false, Bool.false_eq_true, reduceCtorEq, eta_Airway, eta_Duct, eta_Fan, eta_Mine, eta_Survey] at hb)
    | apply BackF.auto3
    | refine BackB.mk ?_ ?_
    | refine RetF.auto (And.intro rfl ?_)
    | exact Is.mk rfl rfl
    | refine Is.mk ?_ rfl
    | refine Is.mk rfl ?_
    | refine Is.mk ?_ ?_
  all_goals try dsimp only
  all_goals first
    | omega
    | exact ⟨by omega, by omega, ⟨rfl, by omega⟩, rfl⟩
    | exact ⟨by omega, by omega, ⟨by simp [k2.1], by omega⟩, by rw [selI_s k0 (by rw [Bool.not_eq_true', decide_eq_false_iff_not]; exact hb), k3]⟩
    | exact ⟨by omega, by omega, ⟨k2.1, by omega⟩, by rw [selI_n k0 (by rw [Bool.not_eq_false', decide_eq_true_eq]; exact hb), k3]⟩
    | exact ⟨k2.1, by rw [k3, show i.toNat = xs.length by omega]⟩
    | skip
--@fn spec.l03Abs
theorem sabT (q : Int) (h : 0 ≤ q ∧ q ≤ 1000000) : FnSem Tryz.prog 195 [In q] [] (Is [In q] []) := by
  refine FnSem.walk (zs := zeroPV Tryz.prog) (by kernel_rfl) Tryz.func195 rfl Tryz.results195 (by kernel_rfl) (by kernel_rfl) (by kernel_rfl) fun hw hh => ?_
  obtain ⟨w0, _⟩ := hw
  first | replace w0 := wf_I w0 | skip
  repeat' first
    | refine And.intro rfl ?_
    | refine GdF.mk (fun h => h) ?_
    | refine And.intro (Nat.succ_ne_zero _) ?_
    | refine And.intro (Nat.le_of_ble_eq_true rfl) ?_
    | refine SeqF.run ?_
    | refine GhF.go ?_
    | refine BndF.mk (fun _ => by omega) ?_
    | refine BndF.mk (fun _ => by simp only [List.length_map, List.length_cons, List.length_nil, List.length_append, List.length_set, List.length_replicate, iotaI_len]; omega) ?_
    | refine EqI.mk _ (fun _ => wrapI (by omega) (by omega)) ?_
    | refine EqI.mk _ (fun _ => rfl) ?_
    | refine EqL.mk [] rfl ?_
    | refine EqL.mk [_] rfl ?_
    | refine EqL.mk _ rfl ?_
    | refine ArgF.is (c_spec_l00Max ..) ?_
    | refine ArgQ.is (fun hG => c_spec_l00Max ..) rfl rfl ?_
    | refine CallF.mk (CallW.is [] true rfl ?_)
    | refine CallG.mk ?_
    | (refine CondF.mk (fun hb => ?_) (fun hb => ?_) <;> try simp only [forall_const, eq_self, not_true_eq_false, not_false_eq_true, or_false, false_or, or_self, or_true, true_or, and_true, true_and, and_false, false_and, decide_true, decide_false, Bool.not_true, Bool.not_false, decide_eq_true_eq, decide_eq_false_iff_not, ite_and_p, ite_or_p, Bool.decide_eq_true, Bool.and_eq_true, Bool.or_eq_true, Bool.not_eq_true', Bool.not_eq_false', Bool.and_eq_false_imp, Bool.or_eq_false_iff, bne_iff_ne, beq_iff_eq, bne_eq_false_iff_eq, beq_eq_false_iff_ne, gt_iff_lt, ge_iff_le, Int.not_lt, Int.not_le, ne_eq, Bool.true_eq_false, Bool.false_eq_true, reduceCtorEq, eta_Airway, eta_Duct, eta_Fan, eta_Mine, eta_Survey] at hb)
    | refine RetF.auto (And.intro rfl ?_)
    | exact Is.mk rfl rfl
    | refine Is.mk ?_ rfl
    | refine Is.mk rfl ?_
    | refine Is.mk ?_ ?_
  all_goals try dsimp only
  all_goals (rw [show max q (0 - q) = q by omega])
--@fn spec.l03Drop
theorem sdrT (r q : Int) (hr : 1 ≤ r ∧ r ≤ 1000000) (hq : 0 ≤ q ∧ q ≤ 100000) : FnSem Tryz.prog 151 [In r, In q] [] (RetV (fun v : Int => [In v]) (fun _ => []) (fun v => 0 ≤ v ∧ v ≤ 1000000)) := by
  have h1 := mulB' (a := r) (b := q) (A := 1000000) (B := 100000) (by omega) (by omega) (by omega) (by omega)
  have h2 := mulB' (a := r * q) (b := q) (A := 100000000000) (B := 100000) h1.1 (by omega) (by omega) (by omega)
  refine FnSem.walk (zs := zeroPV Tryz.prog) (by kernel_rfl) Tryz.func151 rfl Tryz.results151 (by kernel_rfl) (by kernel_rfl) (by kernel_rfl) fun hw hh => ?_
  obtain ⟨w0, w1, _⟩ := hw
  first | replace w0 := wf_I w0 | skip
  first | replace w1 := wf_I w1 | skip
  repeat' first
    | refine And.intro rfl ?_
    | refine GdF.mk (fun h => h) ?_
    | refine And.intro (Nat.succ_ne_zero _) ?_
    | refine And.intro (Nat.le_of_ble_eq_true rfl) ?_
    | refine SeqF.run ?_
    | refine ArgF.is (sabT q (by omega)) ?_
    | refine ArgQ.is (fun hG => sabT q (by omega)) rfl rfl ?_
    | refine ArgF.is (c_spec_l01Div (r * q * q) 10000000000 (by omega) (by omega)) ?_
    | refine ArgQ.is (fun hG => c_spec_l01Div (r * q * q) 10000000000 (by omega) (by omega)) rfl rfl ?_
    | refine RetV.mk (α := Int) _ rfl rfl ?_
    | refine GhF.go ?_
    | refine BndF.mk (fun _ => by omega) ?_
    | refine BndF.mk (fun _ => by simp only [List.length_map, List.length_cons, List.length_nil, List.length_append, List.length_set, List.length_replicate, iotaI_len]; omega) ?_
    | refine EqI.mk _ (fun _ => wrapI (by omega) (by omega)) ?_
    | refine EqI.mk _ (fun _ => rfl) ?_
    | refine EqL.mk [] rfl ?_
    | refine EqL.mk [_] rfl ?_
    | refine EqL.mk _ rfl ?_
    | refine ArgF.is (c_spec_l03Abs ..) ?_
    | refine ArgQ.is (fun hG => c_spec_l03Abs ..) rfl rfl ?_
    | refine ArgF.is (c_spec_l01Div _ _ (by first | assumption | omega) (by first | assumption | omega)) ?_
    | refine ArgQ.is (fun hG => c_spec_l01Div _ _ (by first | assumption | omega) (by first | assumption | omega)) rfl rfl ?_
    | refine CallF.mk (CallW.is [] true rfl ?_)
    | refine CallG.mk ?_
    | (refine CondF.mk (fun hb => ?_) (fun hb => ?_) <;> try simp only [forall_const, eq_self, not_true_eq_false, not_false_eq_true, or_false, false_or, or_self, or_true, true_or, and_true, true_and, and_false, false_and, decide_true, decide_false, Bool.not_true, Bool.not_false, decide_eq_true_eq, decide_eq_false_iff_not, ite_and_p, ite_or_p, Bool.decide_eq_true, Bool.and_eq_true, Bool.or_eq_true, Bool.not_eq_true', Bool.not_eq_false', Bool.and_eq_false_imp, Bool.or_eq_false_iff, bne_iff_ne, beq_iff_eq, bne_eq_false_iff_eq, beq_eq_false_iff_ne, gt_iff_lt, ge_iff_le, Int.not_lt, Int.not_le, ne_eq, Bool.true_eq_false, Bool.false_eq_true, reduceCtorEq, eta_Airway, eta_Duct, eta_Fan, eta_Mine, eta_Survey] at hb)
    | refine RetF.auto (And.intro rfl ?_)
    | exact Is.mk rfl rfl
    | refine Is.mk ?_ rfl
    | refine Is.mk rfl ?_
    | refine Is.mk ?_ ?_
  all_goals try dsimp only
  all_goals exact ⟨rdZ_lo (by omega) (by omega), rdZ_hi (by omega) (by omega)⟩
theorem nmA : isName ⟨#[97]⟩ = true ∧ isName ⟨#[98]⟩ = true ∧ isName ⟨#[109, 97, 105, 110]⟩ = true := by decide +kernel
theorem okSur_of {a : ByteArray} {d de f fe : Int} (ha : isName a = true) (hd : 0 ≤ d ∧ d ≤ 10000) (hde : 0 ≤ de ∧ de ≤ 10000) (hf : 1 ≤ f ∧ f ≤ 100000) (hfe : 0 ≤ fe ∧ fe ≤ f - 1) : okSur ⟨a, d, de, f, fe⟩ = true := by
  unfold okSur
  simp only [Bool.and_eq_true, inR_iff]
  exact ⟨⟨⟨⟨ha, hd⟩, hde⟩, hf⟩, hfe⟩
theorem c_spec_l05DrawOne (c : List Int) (p s : Int) (hc : bytes c) (hp : 0 ≤ p ∧ p ≤ 10000000) : FnSem Tryz.prog 73 [.own 0 0] [srcO c p s] (SrcV (fun x : GSurvey => [.p .flat (.agg x.cells)]) (fun x => okSur x = true) c 12 p) := by
  refine FnSem.walk (zs := zeroPV Tryz.prog) (by kernel_rfl) Tryz.func73 rfl Tryz.results73 (by kernel_rfl) (by kernel_rfl) (by kernel_rfl) fun hw hh => ?_
  obtain ⟨w0, _⟩ := hw
  first | replace w0 := wfr_L00Src w0 | skip
  repeat' first
    | refine And.intro rfl ?_
    | refine GdF.mk (fun h => h) ?_
    | refine And.intro (Nat.succ_ne_zero _) ?_
    | refine And.intro (Nat.le_of_ble_eq_true rfl) ?_
    | refine SeqF.run ?_
    | (refine ArgF.srw (c_spec_l00Src_text c p s _ _ hc (by omega) (by omega) rfl) ?_; intro nm p1 s1 hnm hp1; have hn : isName nm = true := by (have q := nmA; simp only [List.mem_cons, List.not_mem_nil, or_false] at hnm; rcases hnm with rfl | rfl | rfl; exact q.1; exact q.2.1; exact q.2.2))
    | (refine ArgF.src (c_spec_l00Src_pick c p1 s1 6000 hc (by omega) (by omega)) ?_; intro fl p2 s2 hfl hp2)
    | (refine ArgF.src (c_spec_l00Src_pick c p2 s2 300 hc (by omega) (by omega)) ?_; intro fe p3 s3 hfe hp3)
    | (refine ArgF.srw (c_spec_l00Src_among c p3 s3 _ _ hc (by omega) (by omega) rfl) ?_; intro r p4 s4 hr hp4; simp only [List.mem_cons, List.not_mem_nil, or_false] at hr)
    | (refine ArgF.ret (sdrT r (500 + fl) (by omega) (by omega)) ?_; intro dd hdd)
    | (refine ArgF.src (c_spec_l00Src_pick c p4 s4 3 hc (by omega) (by omega)) ?_; intro v p5 s5 hv5 hp5)
    | (refine ArgF.src (c_spec_l00Src_pick c p5 s5 10 hc (by omega) (by omega)) ?_; intro de p6 s6 hde hp6)
    | refine SrcV.mk (α := GSurvey) ⟨nm, min 10000 (dd + v), de, 500 + fl, fe⟩ _ _ rfl rfl (okSur_of hn (by omega) (by omega) (by omega) (by omega)) ?_
    | refine GhF.go ?_
    | refine MkF.row ?_
    | refine BndF.mk (fun _ => by omega) ?_
    | refine BndF.mk (fun _ => by simp only [List.length_map, List.length_cons, List.length_nil, List.length_append, List.length_set, List.length_replicate, iotaI_len]; omega) ?_
    | refine EqI.mk _ (fun _ => wrapI (by omega) (by omega)) ?_
    | refine EqI.mk _ (fun _ => rfl) ?_
    | refine EqL.mk _ (tk eI (by first | rfl | assumption | omega | (simp only [List.length_map, List.length_cons, List.length_nil, List.length_append, List.length_set, List.length_replicate, iotaI_len]; done) | (simp only [List.length_map, List.length_cons, List.length_nil, List.length_append, List.length_set, List.length_replicate, iotaI_len]; omega))) ?_
    | refine EqL.mk _ (st eI) ?_
    | refine EqL.mk _ (tk eS (by first | rfl | assumption | omega | (simp only [List.length_map, List.length_cons, List.length_nil, List.length_append, List.length_set, List.length_replicate, iotaI_len]; done) | (simp only [List.length_map, List.length_cons, List.length_nil, List.length_append, List.length_set, List.length_replicate, iotaI_len]; omega))) ?_
    | refine EqL.mk _ (st eS) ?_
    | refine EqL.mk (List.map eS [_, _, _]) rfl ?_
    | refine EqL.mk (List.map eI [_, _, _, _]) rfl ?_
    | refine EqL.mk [] rfl ?_
    | refine EqL.mk [_] rfl ?_
    | refine EqL.mk _ rfl ?_
    | (refine ArgF.srw (c_spec_l00Src_text _ _ _ _ _ (by first | assumption | omega | rfl | (simp only [List.length_cons, List.length_nil]; omega)) (by first | assumption | omega | rfl | (simp only [List.length_cons, List.length_nil]; omega)) (by first | assumption | omega | rfl | (simp only [List.length_cons, List.length_nil]; omega)) (by first | assumption | omega | rfl | (simp only [List.length_cons, List.length_nil]; omega))) ?_; intro _ _ _ _ _)
    | (refine ArgF.src (c_spec_l00Src_pick _ _ _ _ (by first | assumption | omega | rfl | (simp only [List.length_cons, List.length_nil]; omega)) (by first | assumption | omega | rfl | (simp only [List.length_cons, List.length_nil]; omega)) (by first | assumption | omega | rfl | (simp only [List.length_cons, List.length_nil]; omega))) ?_; intro _ _ _ _ _)
    | (refine ArgF.srw (c_spec_l00Src_among _ _ _ _ _ (by first | assumption | omega | rfl | (simp only [List.length_cons, List.length_nil]; omega)) (by first | assumption | omega | rfl | (simp only [List.length_cons, List.length_nil]; omega)) (by first | assumption | omega | rfl | (simp only [List.length_cons, List.length_nil]; omega)) (by first | assumption | omega | rfl | (simp only [List.length_cons, List.length_nil]; omega))) ?_; intro _ _ _ _ _)
    | refine ArgF.is (c_spec_l03Drop _ _ (by first | assumption | omega) (by first | assumption | omega)) ?_
    | refine ArgQ.is (fun hG => c_spec_l03Drop _ _ (by first | assumption | omega) (by first | assumption | omega)) rfl rfl ?_
    | refine ArgF.is (c_spec_l00Min ..) ?_
    | refine ArgQ.is (fun hG => c_spec_l00Min ..) rfl rfl ?_
    | refine CallF.own (f := 81) [0] false ?_
    | refine CallF.own (f := 125) [0, 1] false ?_
    | refine CallF.own (f := 149) [0, 1] false ?_
    | refine CallF.mk (CallW.is [] true rfl ?_)
    | refine CallG.mk ?_
    | (refine CondF.mk (fun hb => ?_) (fun hb => ?_) <;> try simp only [forall_const, eq_self, not_true_eq_false, not_false_eq_true, or_false, false_or, or_self, or_true, true_or, and_true, true_and, and_false, false_and, decide_true, decide_false, Bool.not_true, Bool.not_false, decide_eq_true_eq, decide_eq_false_iff_not, ite_and_p, ite_or_p, Bool.decide_eq_true, Bool.and_eq_true, Bool.or_eq_true, Bool.not_eq_true', Bool.not_eq_false', Bool.and_eq_false_imp, Bool.or_eq_false_iff, bne_iff_ne, beq_iff_eq, bne_eq_false_iff_eq, beq_eq_false_iff_ne, gt_iff_lt, ge_iff_le, Int.not_lt, Int.not_le, ne_eq, Bool.true_eq_false, Bool.false_eq_true, reduceCtorEq, eta_Airway, eta_Duct, eta_Fan, eta_Mine, eta_Survey] at hb)
    | refine RetF.auto (And.intro rfl ?_)
    | exact Is.mk rfl rfl
    | refine Is.mk ?_ rfl
    | refine Is.mk rfl ?_
    | refine Is.mk ?_ ?_
  all_goals try dsimp only
  all_goals omega
theorem c_spec_R8Survey (c : List Int) : FnSem Tryz.prog 9 [Lx (LY c)] [] (RetV (fun x : GSurvey => [.p .flat (.agg x.cells)]) (fun _ => []) (fun x => okSur x = true)) := by
  refine FnSem.walk (zs := zeroPV Tryz.prog) (by kernel_rfl) Tryz.func9 rfl Tryz.results9 (by kernel_rfl) (by kernel_rfl) (by kernel_rfl) fun hw hh => ?_
  obtain ⟨w0, _⟩ := hw
  first | replace w0 := wf_LY w0 | skip
  have hc : bytes c := w0.2
  repeat' first
    | refine And.intro rfl ?_
    | refine GdF.mk (fun h => h) ?_
    | refine And.intro (Nat.succ_ne_zero _) ?_
    | refine And.intro (Nat.le_of_ble_eq_true rfl) ?_
    | refine SeqF.run ?_
    | (refine ArgF.src (c_spec_l05DrawOne _ _ _ hc (by omega)) ?_; rintro ⟨a, b, d, e, f⟩ p s hv hp; dsimp only at hv ⊢)
    | refine RetV.mk (α := GSurvey) ⟨_, _, _, _, _⟩ rfl rfl ?_
    | refine GhF.go ?_
    | refine BndF.mk (fun _ => by omega) ?_
    | refine BndF.mk (fun _ => by simp only [List.length_map, List.length_cons, List.length_nil, List.length_append, List.length_set, List.length_replicate, iotaI_len]; omega) ?_
    | refine EqL.mk _ (tk eY (by first | rfl | assumption | omega | (simp only [List.length_map, List.length_cons, List.length_nil, List.length_append, List.length_set, List.length_replicate, iotaI_len]; done) | (simp only [List.length_map, List.length_cons, List.length_nil, List.length_append, List.length_set, List.length_replicate, iotaI_len]; omega))) ?_
    | refine EqL.mk _ (st eY) ?_
    | refine EqL.mk [] rfl ?_
    | refine EqL.mk [_] rfl ?_
    | refine EqL.mk _ rfl ?_
    | refine ArgF.is (c_spec_l00From ..) ?_
    | refine ArgQ.is (fun hG => c_spec_l00From ..) rfl rfl ?_
    | (refine ArgF.src (c_spec_l05DrawOne _ _ _ (by first | assumption | omega | rfl | (simp only [List.length_cons, List.length_nil]; omega)) (by first | assumption | omega | rfl | (simp only [List.length_cons, List.length_nil]; omega))) ?_; intro _ _ _ _ _)
    | refine CallF.own (f := 73) [0] false ?_
    | refine CallF.mk (f := 72) (CallW.is [] false rfl ?_)
    | refine CallF.mk (CallW.is [] true rfl ?_)
    | refine CallG.mk ?_
    | (refine CondF.mk (fun hb => ?_) (fun hb => ?_) <;> try simp only [forall_const, eq_self, not_true_eq_false, not_false_eq_true, or_false, false_or, or_self, or_true, true_or, and_true, true_and, and_false, false_and, decide_true, decide_false, Bool.not_true, Bool.not_false, decide_eq_true_eq, decide_eq_false_iff_not, ite_and_p, ite_or_p, Bool.decide_eq_true, Bool.and_eq_true, Bool.or_eq_true, Bool.not_eq_true', Bool.not_eq_false', Bool.and_eq_false_imp, Bool.or_eq_false_iff, bne_iff_ne, beq_iff_eq, bne_eq_false_iff_eq, beq_eq_false_iff_ne, gt_iff_lt, ge_iff_le, Int.not_lt, Int.not_le, ne_eq, Bool.true_eq_false, Bool.false_eq_true, reduceCtorEq, eta_Airway, eta_Duct, eta_Fan, eta_Mine, eta_Survey] at hb)
    | refine RetF.auto (And.intro rfl ?_)
    | exact Is.mk rfl rfl
    | refine Is.mk ?_ rfl
    | refine Is.mk rfl ?_
    | refine Is.mk ?_ ?_
  exact hv
abbrev RwS (xs : List GSurvey) : OB := Rw .flat (GSurvey.cells default) (xs.map GSurvey.cells)
theorem okSurs_s {xs : List GSurvey} {x : GSurvey} (h : ∀ y ∈ xs, okSur y = true) (hx : okSur x = true) : ∀ y ∈ xs ++ [x], okSur y = true := fun y hy => by
  rcases List.mem_append.1 hy with e | e
  · exact h y e
  · rw [List.mem_singleton] at e; rw [e]; exact hx
theorem c_spec_R8Surveys (c : List Int) : FnSem Tryz.prog 15 [Lx (LY c)] [] (RetV (fun v : Nat × List GSurvey => [.osl 0 0 v.1]) (fun v => [RwS v.2]) (fun v => v.1 = v.2.length ∧ okSurs v.2)) := by
  refine FnSem.walk (zs := zeroPV Tryz.prog) (by kernel_rfl) Tryz.func15 rfl Tryz.results15 (by kernel_rfl) (by kernel_rfl) (by kernel_rfl) fun hw hh => ?_
  obtain ⟨w0, _⟩ := hw
  first | replace w0 := wf_LY w0 | skip
  have hc : bytes c := w0.2
  repeat' first
    | refine And.intro rfl ?_
    | refine GdF.mk (fun h => h) ?_
    | refine And.intro (Nat.succ_ne_zero _) ?_
    | refine And.intro (Nat.le_of_ble_eq_true rfl) ?_
    | refine SeqF.run ?_
    | (refine ArgF.src (c_spec_l00Src_pick c 0 0 8 hc (by omega) (by omega)) ?_; intro v p1 s1 hv hp1)
    | (refine ArgF.src (c_spec_l05DrawOne c q t hc (by omega)) ?_; rintro ⟨x1, x2, x3, x4, x5⟩ q2 t2 hx hq2; dsimp only at hx ⊢)
    | refine EqL.mk _ (sn GSurvey.cells (v := ⟨x1, x2, x3, x4, x5⟩) (by first | rfl | assumption | omega)) ?_
    | refine LoopF.at 4 rfl (LoopF.fix [3] (Int × Nat × List GSurvey × Int × Int) (fun (n, k, xs, q, t) => 0 ≤ n ∧ n ≤ 7 ∧ k = xs.length ∧ k + n ≤ 7 ∧ 0 ≤ q ∧ q + 12 * n ≤ 100 ∧ (∀ y ∈ xs, okSur y = true)) (fun (n, k, xs, q, t) => [(5, In n), (4, .osl 1 0 k)]) (fun (n, k, xs, q, t) => [(0, srcO c q t), (1, RwS xs)]) (fun (n, k, xs, q, t) => (n.toNat)) ((v, 0, [], p1, s1)) ?_)
    | (refine LoopB.of (T := Int × Nat × List GSurvey × Int × Int) ?_ ?_; rotate_left; rintro ⟨n, k, xs, q, t⟩ ⟨h0, h1, h2, h3, h4, h5, h6⟩; rotate_left)
    | refine RetV.mk (α := Nat × List GSurvey) (_, _) rfl rfl ?_
    | refine GhF.go ?_
    | refine MkF.row ?_
    | refine BndF.mk (fun _ => by omega) ?_
    | refine BndF.mk (fun _ => by simp only [List.length_map, List.length_cons, List.length_nil, List.length_append, List.length_set, List.length_replicate, iotaI_len]; omega) ?_
    | refine EqI.mk _ (fun _ => wrapI (by omega) (by omega)) ?_
    | refine EqI.mk _ (fun _ => rfl) ?_
    | refine FlF.keep ?_
    | refine EqN.mk _ (Nat.zero_add _) ?_
    | refine EqN.mk (_ + 1) rfl ?_
    | refine EqN.mk _ (Int.toNat_natCast _) ?_
    | refine EqN.mk _ rfl ?_
    | refine EqL.mk _ (sn0 eY) ?_
    | refine EqL.mk _ (sn eY (by first | rfl | assumption | omega | (simp only [List.length_map, List.length_cons, List.length_nil, List.length_append, List.length_set, List.length_replicate, iotaI_len]; done) | (simp only [List.length_map, List.length_cons, List.length_nil, List.length_append, List.length_set, List.length_replicate, iotaI_len]; omega))) ?_
    | refine EqL.mk _ (ap0 eY) ?_
    | refine EqL.mk _ (ap eY (by first | rfl | assumption | omega | (simp only [List.length_map, List.length_cons, List.length_nil, List.length_append, List.length_set, List.length_replicate, iotaI_len]; done) | (simp only [List.length_map, List.length_cons, List.length_nil, List.length_append, List.length_set, List.length_replicate, iotaI_len]; omega))) ?_
    | refine EqL.mk _ (tk eY (by first | rfl | assumption | omega | (simp only [List.length_map, List.length_cons, List.length_nil, List.length_append, List.length_set, List.length_replicate, iotaI_len]; done) | (simp only [List.length_map, List.length_cons, List.length_nil, List.length_append, List.length_set, List.length_replicate, iotaI_len]; omega))) ?_
    | refine EqL.mk _ (dt eY) ?_
    | refine EqL.mk _ (sn0 GSurvey.cells) ?_
    | refine EqL.mk _ (sn GSurvey.cells (by first | rfl | assumption | omega | (simp only [List.length_map, List.length_cons, List.length_nil, List.length_append, List.length_set, List.length_replicate, iotaI_len]; done) | (simp only [List.length_map, List.length_cons, List.length_nil, List.length_append, List.length_set, List.length_replicate, iotaI_len]; omega))) ?_
    | refine EqL.mk _ (ap0 GSurvey.cells) ?_
    | refine EqL.mk _ (ap GSurvey.cells (by first | rfl | assumption | omega | (simp only [List.length_map, List.length_cons, List.length_nil, List.length_append, List.length_set, List.length_replicate, iotaI_len]; done) | (simp only [List.length_map, List.length_cons, List.length_nil, List.length_append, List.length_set, List.length_replicate, iotaI_len]; omega))) ?_
    | refine EqL.mk _ (tk GSurvey.cells (by first | rfl | assumption | omega | (simp only [List.length_map, List.length_cons, List.length_nil, List.length_append, List.length_set, List.length_replicate, iotaI_len]; done) | (simp only [List.length_map, List.length_cons, List.length_nil, List.length_append, List.length_set, List.length_replicate, iotaI_len]; omega))) ?_
    | refine EqL.mk _ (dt GSurvey.cells) ?_
    | refine EqL.mk [] rfl ?_
    | refine EqL.mk [_] rfl ?_
    | refine EqL.mk _ rfl ?_
    | refine ArgF.is (c_spec_l00From ..) ?_
    | refine ArgQ.is (fun hG => c_spec_l00From ..) rfl rfl ?_
    | (refine ArgF.src (c_spec_l00Src_pick _ _ _ _ (by first | assumption | omega | rfl | (simp only [List.length_cons, List.length_nil]; omega)) (by first | assumption | omega | rfl | (simp only [List.length_cons, List.length_nil]; omega)) (by first | assumption | omega | rfl | (simp only [List.length_cons, List.length_nil]; omega))) ?_; intro _ _ _ _ _)
    | (refine ArgF.src (c_spec_l05DrawOne _ _ _ (by first | assumption | omega | rfl | (simp only [List.length_cons, List.length_nil]; omega)) (by first | assumption | omega | rfl | (simp only [List.length_cons, List.length_nil]; omega))) ?_; intro _ _ _ _ _)
    | refine CallF.own (f := 73) [0] false ?_
    | refine CallF.own (f := 81) [0] false ?_
    | refine CallF.mk (f := 72) (CallW.is [] false rfl ?_)
    | refine CallF.mk (CallW.is [] true rfl ?_)
    | refine CallG.mk ?_
    | (refine CondF.mk (fun hb => ?_) (fun hb => ?_) <;> try simp only [forall_const, eq_self, not_true_eq_false, not_false_eq_true, or_false, false_or, or_self, or_true, true_or, and_true, true_and, and_false, false_and, decide_true, decide_false, Bool.not_true, Bool.not_false, decide_eq_true_eq, decide_eq_false_iff_not, ite_and_p, ite_or_p, Bool.decide_eq_true, Bool.and_eq_true, Bool.or_eq_true, Bool.not_eq_true', Bool.not_eq_false', Bool.and_eq_false_imp, Bool.or_eq_false_iff, bne_iff_ne, beq_iff_eq, bne_eq_false_iff_eq, beq_eq_false_iff_ne, gt_iff_lt, ge_iff_le, Int.not_lt, Int.not_le, ne_eq, Bool.true_eq_false, Bool.false_eq_true, reduceCtorEq, eta_Airway, eta_Duct, eta_Fan, eta_Mine, eta_Survey] at hb)
    | apply BackF.auto5
    | refine BackB.mk ?_ ?_
    | refine RetF.auto (And.intro rfl ?_)
    | exact Is.mk rfl rfl
    | refine Is.mk ?_ rfl
    | refine Is.mk rfl ?_
    | refine Is.mk ?_ ?_
  all_goals try dsimp only
  all_goals first
    | omega
    | exact ⟨by omega, by omega, rfl, by omega, by omega, by omega, fun y hy => absurd hy (by simp)⟩
    | exact ⟨by omega, by omega, by rw [List.length_append, List.length_singleton]; omega, by omega, by omega, by omega, okSurs_s h6 hx⟩
    | exact ⟨h2, ⟨by omega, h6⟩⟩
    | skip
end Go.Proofs.YtmifcbekaniiiaaGreatDoor
