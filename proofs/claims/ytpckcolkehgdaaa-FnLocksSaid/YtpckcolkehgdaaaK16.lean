/- Contracts of functions of the program, and what they compute. Conditions: those that each theorem states. -/
import Derived.Test.YtpckcolkehgdaaaProg
import Derived.Test.YtpckcolkehgdaaaK2
set_option linter.unusedVariables false
set_option linter.unusedSimpArgs false
namespace Go.Proofs.Ytpckcolkehgdaaa
open Go.Av
attribute [local irreducible] Go.IntKind.wrap
set_option maxRecDepth 20000
set_option maxHeartbeats 4000000

/-- a row of numbers, as a row of its own -/
abbrev eR (xs : List Int) : List (List PV) := xs.map eI
theorem tkRows {xs : List (List Int)} {n : Nat} (h : n = xs.length) : ((((xs.map eR).drop 0).take n).map fun e => [PV.lst [.c (.int .i64 0)] e]) = xs.map eLI := by
  subst h
  rw [List.drop_zero, List.take_of_length_le (by simp), List.map_map]; rfl
theorem getR {xs : List (List Int)} {i : Nat} : (List.map eR xs).getD i [] = eR (xs.getD i []) := by
  simp only [List.getD_eq_getElem?_getD, List.getElem?_map]
  cases xs[i]? <;> rfl
theorem stR {xs : List (List Int)} {i : Nat} {v : List Int} : (List.map eR xs).set i (List.map eI v) = List.map eR (xs.set i v) := by rw [List.map_set]
theorem rpR {n : Nat} : (List.replicate n [] : List (List (List PV))) = List.map eR (List.replicate n []) := by simp
theorem apR {xs ys : List (List Int)} : List.map eR xs ++ List.map eR ys = List.map eR (xs ++ ys) := by simp
theorem getR_len {xs : List (List Int)} {i : Nat} : ((List.map eR xs).getD i []).length = (xs.getD i []).length := by rw [getR]; simp
theorem setR_same {xs : List (List Int)} {i : Nat} (h : i < xs.length) : (List.map eR xs).set i ((xs.getD i []).map eI) = List.map eR xs := by
  rw [stR]
  congr 1
  refine ext_getD [] (by simp) fun j hj => ?_
  rw [getD_set]
  split
  · rename_i e; rw [e.1]
  · rfl
/-- marks, one behind the other through all rows -/
def markI (k : Int) (xs : List (List Int)) : List (List Int) := (List.range xs.length).map fun (j : Nat) => iotaI (k + sumT List.length xs j) (xs.getD j []).length
theorem markI_len {k : Int} {xs : List (List Int)} : (markI k xs).length = xs.length := by simp [markI]
theorem markI_get {k : Int} {xs : List (List Int)} {j : Nat} (h : j < xs.length) : (markI k xs).getD j [] = iotaI (k + sumT List.length xs j) (xs.getD j []).length := by
  simp [markI, List.getD_eq_getElem?_getD, h]
def totI (xs : List (List Int)) : Nat := (xs.map List.length).sum
theorem sumT_tot {xs : List (List Int)} {i : Int} : sumT List.length xs i ≤ totI xs := sumT_le
theorem tot_e {xs : List (List Int)} {i : Int} (h : xs.length ≤ i) : sumT List.length xs i = totI xs := sumT_e h
theorem markI_tot {k : Int} {xs : List (List Int)} : totI (markI k xs) = totI xs := by
  have h : (markI k xs).map List.length = xs.map List.length := by
    refine List.ext_getElem (by simp [markI]) fun j h1 h2 => ?_
    have hj : j < xs.length := by simpa using h2
    simp [markI, iotaI_len, List.getD_eq_getElem?_getD, hj]
  unfold totI; rw [h]
theorem row_tot {xs : List (List Int)} {i : Int} (h0 : 0 ≤ i) (h : i < xs.length) : sumT List.length xs (i + 1) = sumT List.length xs i + (xs.getD i.toNat []).length ∧ (xs.getD i.toNat []).length ≤ totI xs := by
  have e := sumT_s (f := List.length) h0 h []
  have := sumT_tot (xs := xs) (i := i + 1)
  exact ⟨e, by omega⟩
theorem c_laws_szInt64S (xs : List Int) (n : Int) (h0 : 0 ≤ n) : FnSem Try.prog 114 [Lx (LI xs), In n] [] (Is [In (szR n xs.length)] []) := by
  refine FnSem.walk (zs := zeroPV Try.prog) (by kernel_rfl) Try.func114 rfl Try.results114 (by kernel_rfl) (by kernel_rfl) (by kernel_rfl) fun hw hh => ?_
  obtain ⟨w0, w1, _⟩ := hw
  first | replace w0 := wf_LI w0 | skip
  first | replace w1 := wf_I w1 | skip
  repeat' first
    | refine And.intro rfl ?_
    | refine GdF.mk (fun h => h) ?_
    | refine And.intro (Nat.succ_ne_zero _) ?_
    | refine And.intro (Nat.le_of_ble_eq_true rfl) ?_
    | refine SeqF.run ?_
    | refine GhF.go ?_
    | refine EqI.mk _ (fun _ => wrapI (by omega) (by omega)) ?_
    | refine EqI.mk _ (fun _ => rfl) ?_
    | refine EqN.mk _ (ln eI) ?_
    | (refine CondF.mk (fun hb => ?_) (fun hb => ?_) <;> try simp only [forall_const, eq_self, not_true_eq_false, not_false_eq_true, or_false, false_or, or_self, or_true, true_or, and_true, true_and, and_false, false_and, decide_true, decide_false, Bool.not_true, Bool.not_false, decide_eq_true_eq, decide_eq_false_iff_not, ite_and_p, ite_or_p, Bool.decide_eq_true, Bool.and_eq_true, Bool.or_eq_true, Bool.not_eq_true', Bool.not_eq_false', Bool.and_eq_false_imp, Bool.or_eq_false_iff, bne_iff_ne, beq_iff_eq, bne_eq_false_iff_eq, beq_eq_false_iff_ne, gt_iff_lt, ge_iff_le, Int.not_lt, Int.not_le, ne_eq, Bool.true_eq_false, Bool.false_eq_true, reduceCtorEq, eta_Airway, eta_Fan, eta_Mine] at hb)
    | refine RetF.auto (And.intro rfl ?_)
    | exact Is.mk rfl rfl
    | refine Is.mk ?_ rfl
    | refine Is.mk rfl ?_
    | refine Is.mk ?_ ?_
  all_goals try dsimp only
  all_goals try simp only [Bo, I, OB.row.injEq, AV.osl.injEq, eI_same,  List.cons.injEq, AV.p.injEq, PV.c.injEq, Value.int.injEq, Value.bool.injEq, and_true, true_and, ite_and_p, ite_or_p, Bool.decide_eq_true, eta_Airway, eta_Fan, eta_Mine, szR]
  all_goals try (first | omega | (set_option maxHeartbeats 60000 in grind))
theorem c_laws_szInt64SS (xs : List (List Int)) (n : Int) (h0 : 0 ≤ n) : FnSem Try.prog 28 [Lx (LLI xs), In n] [] (Is [In (szR n (xs.length + totI xs))] []) := by
  refine FnSem.walk (zs := zeroPV Try.prog) (by kernel_rfl) Try.func28 rfl Try.results28 (by kernel_rfl) (by kernel_rfl) (by kernel_rfl) fun hw hh => ?_
  obtain ⟨w0, w1, _⟩ := hw
  first | replace w0 := wf_LLI w0 | skip
  first | replace w1 := wf_I w1 | skip
  repeat' first
    | refine And.intro rfl ?_
    | refine GdF.mk (fun h => h) ?_
    | refine And.intro (Nat.succ_ne_zero _) ?_
    | refine And.intro (Nat.le_of_ble_eq_true rfl) ?_
    | refine SeqF.run ?_
    | refine ArgF.is (c_laws_szInt64S (xs.getD i.toNat []) _ (by omega)) ?_
    | refine ArgQ.is (fun hG => c_laws_szInt64S (xs.getD i.toNat []) _ (by omega)) rfl rfl ?_
    | refine LoopF.at 5 rfl (LoopF.fix [0] (Int × Int) (fun (i, l) => 0 ≤ i ∧ i ≤ xs.length ∧ l = n - (xs.length + sumT List.length xs i) ∧ 0 ≤ l) (fun (i, l) => [(5, In i), (1, In l)]) (fun (i, l) => []) (fun (i, l) => ((xs.length - i).toNat)) ((0, n - xs.length)) ?_)
    | (refine LoopB.of (T := Int × Int) ?_ ?_; rotate_left; rintro ⟨i, l⟩ ⟨h1, h2, h3, h4⟩; rotate_left)
    | refine GhF.go ?_
    | refine EqP.mk _ (gm eI 0 rfl) ?_
    | refine EqP.mk _ (gmb eLI [] (by omega)) ?_
    | refine BndF.mk (fun _ => by omega) ?_
    | refine BndF.mk (fun _ => by simp only [List.length_map, List.length_cons, List.length_nil, List.length_append, List.length_set, List.length_replicate, iotaI_len]; omega) ?_
    | refine EqI.mk _ (fun _ => wrapI (by omega) (by omega)) ?_
    | refine EqI.mk _ (fun _ => rfl) ?_
    | refine EqN.mk _ (ln eI) ?_
    | refine EqN.mk _ (ln eLI) ?_
    | refine EqN.mk _ (Nat.zero_add _) ?_
    | refine EqN.mk _ (Int.toNat_natCast _) ?_
    | refine EqN.mk _ rfl ?_
    | refine EqL.mk _ (tk eI (by first | rfl | assumption | omega | (simp only [List.length_map, List.length_cons, List.length_nil, List.length_append, List.length_set, List.length_replicate, iotaI_len]; done) | (simp only [List.length_map, List.length_cons, List.length_nil, List.length_append, List.length_set, List.length_replicate, iotaI_len]; omega))) ?_
    | refine EqL.mk _ (tk eLI (by first | rfl | assumption | omega | (simp only [List.length_map, List.length_cons, List.length_nil, List.length_append, List.length_set, List.length_replicate, iotaI_len]; done) | (simp only [List.length_map, List.length_cons, List.length_nil, List.length_append, List.length_set, List.length_replicate, iotaI_len]; omega))) ?_
    | refine EqL.mk [] rfl ?_
    | refine EqL.mk [_] rfl ?_
    | refine EqL.mk _ rfl ?_
    | refine ArgF.is (c_laws_szInt64S _ _ (by first | assumption | omega)) ?_
    | refine ArgQ.is (fun hG => c_laws_szInt64S _ _ (by first | assumption | omega)) rfl rfl ?_
    | refine CallF.mk (CallW.is [] true rfl ?_)
    | refine CallG.mk ?_
    | (refine CondF.mk (fun hb => ?_) (fun hb => ?_) <;> try simp only [forall_const, eq_self, not_true_eq_false, not_false_eq_true, or_false, false_or, or_self, or_true, true_or, and_true, true_and, and_false, false_and, decide_true, decide_false, Bool.not_true, Bool.not_false, decide_eq_true_eq, decide_eq_false_iff_not, ite_and_p, ite_or_p, Bool.decide_eq_true, Bool.and_eq_true, Bool.or_eq_true, Bool.not_eq_true', Bool.not_eq_false', Bool.and_eq_false_imp, Bool.or_eq_false_iff, bne_iff_ne, beq_iff_eq, bne_eq_false_iff_eq, beq_eq_false_iff_ne, gt_iff_lt, ge_iff_le, Int.not_lt, Int.not_le, ne_eq, Bool.true_eq_false, Bool.false_eq_true, reduceCtorEq, eta_Airway, eta_Fan, eta_Mine] at hb)
    | apply BackF.auto2
    | refine BackB.mk ?_ ?_
    | refine RetF.auto (And.intro rfl ?_)
    | exact Is.mk rfl rfl
    | refine Is.mk ?_ rfl
    | refine Is.mk rfl ?_
    | refine Is.mk ?_ ?_
  all_goals try dsimp only
  all_goals try simp only [Bo, I, OB.row.injEq, AV.osl.injEq, eI_same,  List.cons.injEq, AV.p.injEq, PV.c.injEq, Value.int.injEq, Value.bool.injEq, and_true, true_and, ite_and_p, ite_or_p, Bool.decide_eq_true, eta_Airway, eta_Fan, eta_Mine]
  · simp only [szR]; rw [if_pos (by omega)]
  · exact ⟨by omega, by omega, by rw [sumT_0]; omega, by omega⟩
  · rename_i hb1
    have e := row_tot h1 hb1
    have e2 := sumT_tot (xs := xs) (i := i + 1)
    simp only [szR] at hb ⊢
    by_cases hc : l - ((xs.getD i.toNat []).length : Int) < 0
    · rw [if_pos (by omega)]
    · rw [if_neg hc] at hb; omega
  · rename_i hb1
    have e := row_tot h1 hb1
    simp only [szR] at hb ⊢
    by_cases hc : l - ((xs.getD i.toNat []).length : Int) < 0
    · rw [if_pos hc] at hb; omega
    · rw [if_neg hc] at hb ⊢; exact ⟨by omega, by omega, by omega, by omega⟩
  · omega
  · have e := tot_e hb
    simp only [szR]; rw [if_neg (by omega)]; omega
theorem c_laws_eqInt64SS (xs ys : List (List Int)) : FnSem Try.prog 33 [Lx (LLI xs), Lx (LLI ys)] [] (Is [Bo (decide (xs = ys))] []) := by
  refine FnSem.walk (zs := zeroPV Try.prog) (by kernel_rfl) Try.func33 rfl Try.results33 (by kernel_rfl) (by kernel_rfl) (by kernel_rfl) fun hw hh => ?_
  obtain ⟨w0, w1, _⟩ := hw
  first | replace w0 := wf_LLI w0 | skip
  first | replace w1 := wf_LLI w1 | skip
  repeat' first
    | refine And.intro rfl ?_
    | refine GdF.mk (fun h => h) ?_
    | refine And.intro (Nat.succ_ne_zero _) ?_
    | refine And.intro (Nat.le_of_ble_eq_true rfl) ?_
    | refine SeqF.run ?_
    | refine ArgF.is (c_laws_eqInt64S (xs.getD i.toNat []) (ys.getD i.toNat [])) ?_
    | refine ArgQ.is (fun hG => c_laws_eqInt64S (xs.getD i.toNat []) (ys.getD i.toNat [])) rfl rfl ?_
    | refine LoopF.at 4 rfl (LoopF.fix [0, 1] (Int) (fun i => 0 ≤ i ∧ i ≤ xs.length ∧ xs.length = ys.length ∧ ∀ j : Nat, (j : Int) < i → xs.getD j [] = ys.getD j []) (fun i => [(5, In i)]) (fun i => []) (fun i => ((xs.length - i).toNat)) (0) ?_)
    | (refine LoopB.of (T := Int) ?_ ?_; rotate_left; rintro i ⟨h0, h1, h2, h3⟩; rotate_left)
    | refine GhF.go ?_
    | refine DrawG.old (DrawF.lex (by decide +kernel) ?_)
    | refine EqP.mk _ (gm eI 0 rfl) ?_
    | refine EqP.mk _ (gmb eLI [] (by omega)) ?_
    | refine BndF.mk (fun _ => by omega) ?_
    | refine BndF.mk (fun _ => by simp only [List.length_map, List.length_cons, List.length_nil, List.length_append, List.length_set, List.length_replicate, iotaI_len]; omega) ?_
    | refine EqI.mk _ (fun _ => wrapI (by omega) (by omega)) ?_
    | refine EqI.mk _ (fun _ => rfl) ?_
    | refine EqN.mk _ (ln eI) ?_
    | refine EqN.mk _ (ln eLI) ?_
    | refine EqN.mk _ (Nat.zero_add _) ?_
    | refine EqN.mk _ (Int.toNat_natCast _) ?_
    | refine EqN.mk _ rfl ?_
    | refine EqL.mk _ (tk eI (by first | rfl | assumption | omega | (simp only [List.length_map, List.length_cons, List.length_nil, List.length_append, List.length_set, List.length_replicate, iotaI_len]; done) | (simp only [List.length_map, List.length_cons, List.length_nil, List.length_append, List.length_set, List.length_replicate, iotaI_len]; omega))) ?_
    | refine EqL.mk _ (tk eLI (by first | rfl | assumption | omega | (simp only [List.length_map, List.length_cons, List.length_nil, List.length_append, List.length_set, List.length_replicate, iotaI_len]; done) | (simp only [List.length_map, List.length_cons, List.length_nil, List.length_append, List.length_set, List.length_replicate, iotaI_len]; omega))) ?_
    | refine EqL.mk [] rfl ?_
    | refine EqL.mk [_] rfl ?_
    | refine EqL.mk _ rfl ?_
    | refine ArgF.is (c_laws_eqInt64S ..) ?_
    | refine ArgQ.is (fun hG => c_laws_eqInt64S ..) rfl rfl ?_
    | refine CallF.mk (CallW.is [] true rfl ?_)
    | refine CallG.mk ?_
    | (refine CondF.mk (fun hb => ?_) (fun hb => ?_) <;> try simp only [forall_const, eq_self, not_true_eq_false, not_false_eq_true, or_false, false_or, or_self, or_true, true_or, and_true, true_and, and_false, false_and, decide_true, decide_false, Bool.not_true, Bool.not_false, decide_eq_true_eq, decide_eq_false_iff_not, ite_and_p, ite_or_p, Bool.decide_eq_true, Bool.and_eq_true, Bool.or_eq_true, Bool.not_eq_true', Bool.not_eq_false', Bool.and_eq_false_imp, Bool.or_eq_false_iff, bne_iff_ne, beq_iff_eq, bne_eq_false_iff_eq, beq_eq_false_iff_ne, gt_iff_lt, ge_iff_le, Int.not_lt, Int.not_le, ne_eq, Bool.true_eq_false, Bool.false_eq_true, reduceCtorEq, eta_Airway, eta_Fan, eta_Mine] at hb)
    | apply BackF.auto
    | refine BackB.mk ?_ ?_
    | refine RetF.auto (And.intro rfl ?_)
    | exact Is.mk rfl rfl
    | refine Is.mk ?_ rfl
    | refine Is.mk rfl ?_
    | refine Is.mk ?_ ?_
  all_goals try dsimp only
  all_goals try simp only [Bo, I, OB.row.injEq, AV.osl.injEq, eI_same,  List.cons.injEq, AV.p.injEq, PV.c.injEq, Value.int.injEq, Value.bool.injEq, and_true, true_and, ite_and_p, ite_or_p, Bool.decide_eq_true, eta_Airway, eta_Fan, eta_Mine]
  all_goals try (first | omega | (set_option maxHeartbeats 60000 in grind))
  · exact (decide_eq_true (ext_getD [] h2 fun j hj => h3 j (by omega))).symm
theorem c_laws_toInt64SS (xs : List (List Int)) (hx : xs.length + totI xs ≤ 1048576) : FnSem Try.prog 30 [Lx (LLI xs)] [] (Is [.osl 0 0 xs.length] [.rows true .flat (eI 0) (xs.map eR) none]) := by
  refine FnSem.walk (zs := zeroPV Try.prog) (by kernel_rfl) Try.func30 rfl Try.results30 (by kernel_rfl) (by kernel_rfl) (by kernel_rfl) fun hw hh => ?_
  obtain ⟨w0, _⟩ := hw
  first | replace w0 := wf_LLI w0 | skip
  repeat' first
    | refine And.intro rfl ?_
    | refine GdF.mk (fun h => h) ?_
    | refine And.intro (Nat.succ_ne_zero _) ?_
    | refine And.intro (Nat.le_of_ble_eq_true rfl) ?_
    | refine SeqF.run ?_
    | refine MkF.rows ?_
    | refine EqR.mk _ rpR ?_
    | refine EqR.mk _ stR ?_
    | refine ArgF.is (c_laws_toInt64S (xs.getD i.toNat []) (by have := row_tot (xs := xs) (i := i) (by omega) (by omega); omega)) ?_
    | refine ArgQ.is (fun hG => c_laws_toInt64S (xs.getD i.toNat []) (by have := row_tot (xs := xs) (i := i) (by omega) (by omega); omega)) rfl rfl ?_
    | refine LoopF.at 3 rfl (LoopF.fix [0, 3] (Int × List (List Int)) (fun (i, ys) => 0 ≤ i ∧ i ≤ xs.length ∧ ys.length = xs.length ∧ ∀ j : Nat, (j : Int) < i → ys.getD j [] = xs.getD j []) (fun (i, ys) => [(4, In i)]) (fun (i, ys) => [(0, .rows true .flat (eI 0) (ys.map eR) none)]) (fun (i, ys) => ((xs.length - i).toNat)) ((0, List.replicate xs.length [])) ?_)
    | (refine LoopB.of (T := Int × List (List Int)) ?_ ?_; rotate_left; rintro ⟨i, ys⟩ ⟨h0, h1, h2, h3⟩; rotate_left)
    | refine GhF.go ?_
    | refine BndF.mk (fun _ => ⟨rfl, by first | rfl | omega | (simp only [List.length_map, List.length_cons, List.length_nil, List.length_append, List.length_set, List.length_replicate]; first | done | omega)⟩) ?_
    | refine MkF.row ?_
    | refine EqP.mk _ (gm eI 0 rfl) ?_
    | refine EqP.mk _ (gmb eLI [] (by omega)) ?_
    | refine BndF.mk (fun _ => by omega) ?_
    | refine BndF.mk (fun _ => by simp only [List.length_map, List.length_cons, List.length_nil, List.length_append, List.length_set, List.length_replicate, iotaI_len]; omega) ?_
    | refine EqI.mk _ (fun _ => wrapI (by omega) (by omega)) ?_
    | refine EqI.mk _ (fun _ => rfl) ?_
    | refine EqN.mk _ (ln eI) ?_
    | refine EqN.mk _ (ln eLI) ?_
    | refine EqN.mk _ (Nat.zero_add _) ?_
    | refine EqN.mk _ (Int.toNat_natCast _) ?_
    | refine EqN.mk _ rfl ?_
    | refine EqL.mk _ (tk eI (by first | rfl | assumption | omega | (simp only [List.length_map, List.length_cons, List.length_nil, List.length_append, List.length_set, List.length_replicate, iotaI_len]; done) | (simp only [List.length_map, List.length_cons, List.length_nil, List.length_append, List.length_set, List.length_replicate, iotaI_len]; omega))) ?_
    | refine EqL.mk _ (st eI) ?_
    | refine EqL.mk _ (rp eI 0) ?_
    | refine EqL.mk _ (dt eI) ?_
    | refine EqL.mk _ (tk eLI (by first | rfl | assumption | omega | (simp only [List.length_map, List.length_cons, List.length_nil, List.length_append, List.length_set, List.length_replicate, iotaI_len]; done) | (simp only [List.length_map, List.length_cons, List.length_nil, List.length_append, List.length_set, List.length_replicate, iotaI_len]; omega))) ?_
    | refine EqL.mk _ (st eLI) ?_
    | refine EqL.mk _ (rp eLI []) ?_
    | refine EqL.mk _ (dt eLI) ?_
    | refine EqL.mk [] rfl ?_
    | refine EqL.mk [_] rfl ?_
    | refine EqL.mk _ rfl ?_
    | refine ArgF.is (c_laws_toInt64S _ (by first | assumption | omega)) ?_
    | refine ArgQ.is (fun hG => c_laws_toInt64S _ (by first | assumption | omega)) rfl rfl ?_
    | refine CallF.mk (CallW.is [] true rfl ?_)
    | refine CallG.mk ?_
    | (refine CondF.mk (fun hb => ?_) (fun hb => ?_) <;> try simp only [forall_const, eq_self, not_true_eq_false, not_false_eq_true, or_false, false_or, or_self, or_true, true_or, and_true, true_and, and_false, false_and, decide_true, decide_false, Bool.not_true, Bool.not_false, decide_eq_true_eq, decide_eq_false_iff_not, ite_and_p, ite_or_p, Bool.decide_eq_true, Bool.and_eq_true, Bool.or_eq_true, Bool.not_eq_true', Bool.not_eq_false', Bool.and_eq_false_imp, Bool.or_eq_false_iff, bne_iff_ne, beq_iff_eq, bne_eq_false_iff_eq, beq_eq_false_iff_ne, gt_iff_lt, ge_iff_le, Int.not_lt, Int.not_le, ne_eq, Bool.true_eq_false, Bool.false_eq_true, reduceCtorEq, eta_Airway, eta_Fan, eta_Mine] at hb)
    | apply BackF.auto2
    | refine BackB.mk ?_ ?_
    | refine RetF.auto (And.intro rfl ?_)
    | exact Is.mk rfl rfl
    | refine Is.mk ?_ rfl
    | refine Is.mk rfl ?_
    | refine Is.mk ?_ ?_
  all_goals try dsimp only
  all_goals try simp only [Bo, I, OB.row.injEq, AV.osl.injEq, eI_same,  List.cons.injEq, AV.p.injEq, PV.c.injEq, Value.int.injEq, Value.bool.injEq, and_true, true_and, ite_and_p, ite_or_p, Bool.decide_eq_true, eta_Airway, eta_Fan, eta_Mine]
  · exact ⟨by omega, by omega, by simp, all_0⟩
  · refine ⟨by omega, by omega, by simp [h2], fun j hj => ?_⟩
    rw [getD_set]
    by_cases hji : i.toNat = j
    · rw [if_pos ⟨hji, by omega⟩, hji]
    · rw [if_neg (by omega)]; exact h3 j (by omega)
  · omega
  · exact congrArg (fun l => OB.rows true .flat (eI 0) (l.map eR) none) (ext_getD [] h2 fun j hj => h3 j (by omega))
theorem c_laws_markInt64SS (xs : List (List Int)) (n : Nat) (k : Int) (hn : n = xs.length) (hk : k + totI xs ≤ 9223372036854775807) (hk0 : 0 ≤ k) : FnSem Try.prog 35 [.osl 0 0 n, In k] [.rows false .flat (eI 0) (xs.map eR) none] (Is [In (k + totI xs)] [.rows false .flat (eI 0) ((markI k xs).map eR) none]) := by
  refine FnSem.walk (zs := zeroPV Try.prog) (by kernel_rfl) Try.func35 rfl Try.results35 (by kernel_rfl) (by kernel_rfl) (by kernel_rfl) fun hw hh => ?_
  obtain ⟨w0, w1, _⟩ := hw
  first | replace w0 := wf_LLI w0 | skip
  first | replace w1 := wf_I w1 | skip
  have hL : xs.length ≤ 9223372036854775807 := by simpa [maxLen] using hh.1.1
  repeat' first
    | refine And.intro rfl ?_
    | refine GdF.mk (fun h => h) ?_
    | refine And.intro (Nat.succ_ne_zero _) ?_
    | refine And.intro (Nat.le_of_ble_eq_true rfl) ?_
    | refine SeqF.run ?_
    | refine EqL.mk _ getR ?_
    | refine EqR.mk _ stR ?_
    | refine BndF.mk (fun _ => by rw [getR_len]; simp only [List.length_map, iotaI_len]) ?_
    | refine ArgF.is (c_laws_markInt64S (ys.getD i.toNat []) _ _ rfl (by have := row_tot (xs := xs) (i := i) (by omega) (by omega); have := sumT_tot (xs := xs) (i := i + 1); rw [h5 i.toNat (by omega)]; omega) (by omega)) ?_
    | refine ArgQ.is (fun hG => c_laws_markInt64S (ys.getD i.toNat []) _ _ rfl (by have := row_tot (xs := xs) (i := i) (by omega) (by omega); have := sumT_tot (xs := xs) (i := i + 1); rw [h5 i.toNat (by omega)]; omega) (by omega)) rfl rfl ?_
    | refine LoopF.at 2 rfl (LoopF.fix [0] (Int × Int × List (List Int)) (fun (i, c, ys) => 0 ≤ i ∧ i ≤ n ∧ c = k + sumT List.length xs i ∧ ys.length = n ∧ (∀ j : Nat, (j : Int) < i → ys.getD j [] = iotaI (k + sumT List.length xs j) (xs.getD j []).length) ∧ (∀ j : Nat, i ≤ j → ys.getD j [] = xs.getD j [])) (fun (i, c, ys) => [(5, In i), (1, In c)]) (fun (i, c, ys) => [(0, .rows false .flat (eI 0) (ys.map eR) none)]) (fun (i, c, ys) => ((n - i).toNat)) ((0, k, xs)) ?_)
    | (refine LoopB.of (T := Int × Int × List (List Int)) ?_ ?_; rotate_left; rintro ⟨i, c, ys⟩ ⟨h0, h1, h2, h3, h4, h5⟩; rotate_left)
    | refine GhF.go ?_
    | refine EqP.mk _ (gm eI 0 rfl) ?_
    | refine EqP.mk _ (gmb eLI [] (by omega)) ?_
    | refine BndF.mk (fun _ => by omega) ?_
    | refine BndF.mk (fun _ => by simp only [List.length_map, List.length_cons, List.length_nil, List.length_append, List.length_set, List.length_replicate, iotaI_len]; omega) ?_
    | refine EqI.mk _ (fun _ => wrapI (by omega) (by omega)) ?_
    | refine EqI.mk _ (fun _ => rfl) ?_
    | refine EqN.mk _ (ln eI) ?_
    | refine EqN.mk _ (ln eLI) ?_
    | refine EqN.mk _ (Nat.zero_add _) ?_
    | refine EqN.mk _ (Int.toNat_natCast _) ?_
    | refine EqN.mk _ rfl ?_
    | refine EqL.mk _ (tk eI (by first | rfl | assumption | omega | (simp only [List.length_map, List.length_cons, List.length_nil, List.length_append, List.length_set, List.length_replicate, iotaI_len]; done) | (simp only [List.length_map, List.length_cons, List.length_nil, List.length_append, List.length_set, List.length_replicate, iotaI_len]; omega))) ?_
    | refine EqL.mk _ (tk eLI (by first | rfl | assumption | omega | (simp only [List.length_map, List.length_cons, List.length_nil, List.length_append, List.length_set, List.length_replicate, iotaI_len]; done) | (simp only [List.length_map, List.length_cons, List.length_nil, List.length_append, List.length_set, List.length_replicate, iotaI_len]; omega))) ?_
    | refine EqL.mk [] rfl ?_
    | refine EqL.mk [_] rfl ?_
    | refine EqL.mk _ rfl ?_
    | refine ArgF.is (c_laws_markInt64S _ _ _ (by first | assumption | omega) (by first | assumption | omega) (by first | assumption | omega)) ?_
    | refine ArgQ.is (fun hG => c_laws_markInt64S _ _ _ (by first | assumption | omega) (by first | assumption | omega) (by first | assumption | omega)) rfl rfl ?_
    | refine CallF.own (f := 18) [0] true ?_
    | refine CallF.mk (CallW.is [] true rfl ?_)
    | refine CallG.mk ?_
    | (refine CondF.mk (fun hb => ?_) (fun hb => ?_) <;> try simp only [forall_const, eq_self, not_true_eq_false, not_false_eq_true, or_false, false_or, or_self, or_true, true_or, and_true, true_and, and_false, false_and, decide_true, decide_false, Bool.not_true, Bool.not_false, decide_eq_true_eq, decide_eq_false_iff_not, ite_and_p, ite_or_p, Bool.decide_eq_true, Bool.and_eq_true, Bool.or_eq_true, Bool.not_eq_true', Bool.not_eq_false', Bool.and_eq_false_imp, Bool.or_eq_false_iff, bne_iff_ne, beq_iff_eq, bne_eq_false_iff_eq, beq_eq_false_iff_ne, gt_iff_lt, ge_iff_le, Int.not_lt, Int.not_le, ne_eq, Bool.true_eq_false, Bool.false_eq_true, reduceCtorEq, eta_Airway, eta_Fan, eta_Mine] at hb)
    | apply BackF.auto3
    | refine BackB.mk ?_ ?_
    | refine RetF.auto (And.intro rfl ?_)
    | exact Is.mk rfl rfl
    | refine Is.mk ?_ rfl
    | refine Is.mk rfl ?_
    | refine Is.mk ?_ ?_
  all_goals try dsimp only
  all_goals try simp only [Bo, I, OB.row.injEq, AV.osl.injEq, eI_same,  List.cons.injEq, AV.p.injEq, PV.c.injEq, Value.int.injEq, Value.bool.injEq, and_true, true_and, ite_and_p, ite_or_p, Bool.decide_eq_true, eta_Airway, eta_Fan, eta_Mine]
  · exact ⟨by omega, by omega, by rw [sumT_0]; omega, by omega, fun j hj => absurd hj (by omega), fun j _ => trivial⟩
  · have e := row_tot (xs := xs) (i := i) (by omega) (by omega)
    have e2 : ys.getD i.toNat [] = xs.getD i.toNat [] := h5 i.toNat (by omega)
    rw [e2]
    refine ⟨by omega, by omega, by rw [e.1, h2]; omega, by simp [h3], fun j hj => ?_, fun j hj => ?_⟩
    · rw [getD_set]
      by_cases hji : i.toNat = j
      · rw [if_pos ⟨hji, by omega⟩, h2, ← hji, show ((i.toNat : Nat) : Int) = i by omega]
      · rw [if_neg (by omega)]; exact h4 j (by omega)
    · rw [getD_set, if_neg (by omega)]; exact h5 j (by omega)
  · omega
  · rw [h2, tot_e (by omega)]
  · congr 1
    exact congrArg (List.map eR) (ext_getD [] (by rw [markI_len]; omega) fun j hj => by rw [h4 j (by omega), markI_get (by omega)])
end Go.Proofs.Ytpckcolkehgdaaa
