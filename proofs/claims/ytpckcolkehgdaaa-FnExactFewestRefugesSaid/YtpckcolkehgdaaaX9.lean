/- Contracts of functions of the program, and what they compute. Conditions: those that each theorem states. -/
import Derived.Test.YtpckcolkehgdaaaProg
import Derived.Test.YtpckcolkehgdaaaX8
import Derived.Test.YtpckcolkehgdaaaK6
import Derived.Test.YtpckcolkehgdaaaK16
set_option linter.unusedVariables false
set_option linter.unusedSimpArgs false
namespace Go.Proofs.Ytpckcolkehgdaaa
open Go.Av
attribute [local irreducible] Go.IntKind.wrap leastI rdZ rd rootI rawA okMine rdT rdK stT rxD tmI ext extL fstL fstSet covI refC refV
set_option maxRecDepth 20000
set_option maxHeartbeats 8000000

/-! The reference's search for the fewest refuges. -/
theorem inV_j {m : GMine} {i : Int} (h0 : 0 ≤ i) (h1 : i < m.junctions) : inV m i := by unfold inV; omega
theorem tkXs {xs : List Int} {n : Nat} (h : n = xs.length) : ((xs.map eI).drop 0).take n = xs.map eI := by
  subst h; rw [List.drop_zero, List.take_of_length_le (by simp)]
/-- the times of the first junctions -/
structure tsJ (m : GMine) (sp i : Int) (ts : List (List Int)) : Prop where
  ln : (ts.length : Int) = i
  at_ : ∀ j : Nat, j < ts.length → ts.getD j [] = tmI m sp j
theorem tsJ_0 {m : GMine} {sp : Int} : tsJ m sp 0 [] := ⟨rfl, fun j h => by simp at h⟩
theorem tsJ_s {m : GMine} {sp i : Int} {ts : List (List Int)} (h : tsJ m sp i ts) : tsJ m sp (i + 1) (ts ++ [tmI m sp i]) := by
  have hl := h.ln
  refine ⟨by simp; omega, fun j hj => ?_⟩
  rw [List.length_append, List.length_singleton] at hj
  by_cases e : j < ts.length
  · rw [← h.at_ j e, List.getD_eq_getElem?_getD, List.getD_eq_getElem?_getD, List.getElem?_append_left e]
  · have : j = ts.length := by omega
    subst this
    rw [List.getD_eq_getElem?_getD, List.getElem?_append_right (Nat.le_refl _), hl]; simp
theorem tsJ_e {m : GMine} {sp i : Int} {ts : List (List Int)} (h : tsJ m sp i ts) (h1 : i ≤ m.junctions) (h2 : m.junctions ≤ i) : ts = tmA m sp := by
  have hl := h.ln
  have hl2 := tmA_len (m := m) (sp := sp)
  apply List.ext_getElem?
  intro j
  by_cases e : j < ts.length
  · have a := h.at_ j e
    have b := tmA_at (m := m) (sp := sp) (i := j) (by omega)
    rw [List.getD_eq_getElem?_getD, List.getElem?_eq_getElem e] at a
    rw [List.getD_eq_getElem?_getD, List.getElem?_eq_getElem (by omega)] at b
    rw [List.getElem?_eq_getElem e, List.getElem?_eq_getElem (by omega)]
    simp only [Option.getD_some] at a b
    rw [a, b]
  · rw [List.getElem?_eq_none (by omega), List.getElem?_eq_none (by omega)]
theorem tsJ_len {m : GMine} {sp i : Int} {ts : List (List Int)} (h : tsJ m sp i ts) {j : Nat} (hj : j < ts.length) : (ts.getD j []).length = m.junctions.toNat := by rw [h.at_ j hj, tmI_len]
abbrev coSf (fl : Fl) (ts : List (List Int)) (lim N : Int) (k n : Nat) (nd B : Int) (fu : Bool) : OB := .fix [.p fl (LLI ts), In lim, In N, .osl k 0 n, In nd, In B, Bo fu]
theorem runTC (ts : List (List Int)) (lim N B : Int) (ht : ∀ j : Nat, j < ts.length → (ts.getD j []).length = ts.length) (hl : ts.length ≤ 16) (hB : 1 ≤ B ∧ B ≤ 20000)
    (k : Nat) : ∀ (i b nd : Int) (fu : Bool) (s ys : List Int) (n : Nat) (hi : 0 ≤ i) (hi' : i ≤ ts.length) (hb0 : 0 ≤ b ∧ b ≤ B) (hnd : nd = B - b) (hfu : fu = false) (hn : n ≤ ys.length) (hs : ys.take n = s) (hsc : ∀ x ∈ s, x ∈ iotaI 0 ts.length) (hN : N = s.length + k) (hsi : s.length ≤ i), FnSem Try.prog 80 [.own 0 0, In i] [coS ts lim N 1 n nd B fu, .row false .flat (eI 0) (ys.map eI)] (RunT ts lim N B (ext (iotaI 0 ts.length) (covI ts lim) k i.toNat b s)) := by
  induction k using Nat.strongRecOn with
  | _ k ih => exact runT1 ts lim N B ht hl hB k (fun k' hk' => ih k' hk')
--@fn spec.l00Own
theorem ownR (xs : List Int) (hl : xs.length ≤ 1000000) : FnSem Try.prog 81 [Lx (LI xs)] [] (Is [.osl 0 0 xs.length] [Rw .flat (eI 0) (xs.map eI)]) := by
  refine FnSem.walk (zs := zeroPV Try.prog) (by kernel_rfl) Try.func81 rfl Try.results81 (by kernel_rfl) (by kernel_rfl) (by kernel_rfl) fun hw hh => ?_
  obtain ⟨w0, _⟩ := hw
  first | replace w0 := wf_LI w0 | skip
  repeat' first
    | refine And.intro rfl ?_
    | refine GdF.mk (fun h => h) ?_
    | refine And.intro (Nat.succ_ne_zero _) ?_
    | refine And.intro (Nat.le_of_ble_eq_true rfl) ?_
    | refine SeqF.run ?_
    | refine FlF.flat (by simp only [List.mem_map, forall_exists_index, and_imp, forall_apply_eq_imp_iff₂]; intro a _ p hp; simp only [eI, List.mem_singleton] at hp; exact ⟨_, hp⟩) ?_
    | refine GhF.go ?_
    | refine MkF.row ?_
    | refine BndF.mk (fun _ => by omega) ?_
    | refine BndF.mk (fun _ => by simp only [List.length_map, List.length_cons, List.length_nil, List.length_append, List.length_set, List.length_replicate, iotaI_len]; omega) ?_
    | refine FlF.keep ?_
    | refine EqN.mk _ (Nat.zero_add _) ?_
    | refine EqN.mk (_ + 1) rfl ?_
    | refine EqN.mk _ (Int.toNat_natCast _) ?_
    | refine EqN.mk _ rfl ?_
    | refine EqL.mk _ (sn0 eI) ?_
    | refine EqL.mk _ (sn eI (by first | rfl | assumption | omega | (simp only [List.length_map, List.length_cons, List.length_nil, List.length_append, List.length_set, List.length_replicate, iotaI_len]; done) | (simp only [List.length_map, List.length_cons, List.length_nil, List.length_append, List.length_set, List.length_replicate, iotaI_len]; omega))) ?_
    | refine EqL.mk _ (ap0 eI) ?_
    | refine EqL.mk _ (ap eI (by first | rfl | assumption | omega | (simp only [List.length_map, List.length_cons, List.length_nil, List.length_append, List.length_set, List.length_replicate, iotaI_len]; done) | (simp only [List.length_map, List.length_cons, List.length_nil, List.length_append, List.length_set, List.length_replicate, iotaI_len]; omega))) ?_
    | refine EqL.mk _ (tk eI (by first | rfl | assumption | omega | (simp only [List.length_map, List.length_cons, List.length_nil, List.length_append, List.length_set, List.length_replicate, iotaI_len]; done) | (simp only [List.length_map, List.length_cons, List.length_nil, List.length_append, List.length_set, List.length_replicate, iotaI_len]; omega))) ?_
    | refine EqL.mk _ (dt eI) ?_
    | refine EqL.mk [] rfl ?_
    | refine EqL.mk [_] rfl ?_
    | refine EqL.mk _ rfl ?_
    | (refine CondF.mk (fun hb => ?_) (fun hb => ?_) <;> try simp only [forall_const, eq_self, not_true_eq_false, not_false_eq_true, or_false, false_or, or_self, or_true, true_or, and_true, true_and, and_false, false_and, decide_true, decide_false, Bool.not_true, Bool.not_false, decide_eq_true_eq, decide_eq_false_iff_not, ite_and_p, ite_or_p, Bool.decide_eq_true, Bool.and_eq_true, Bool.or_eq_true, Bool.not_eq_true', Bool.not_eq_false', Bool.and_eq_false_imp, Bool.or_eq_false_iff, bne_iff_ne, beq_iff_eq, bne_eq_false_iff_eq, beq_eq_false_iff_ne, gt_iff_lt, ge_iff_le, Int.not_lt, Int.not_le, ne_eq, Bool.true_eq_false, Bool.false_eq_true, reduceCtorEq, eta_Airway, eta_Fan, eta_Mine] at hb)
    | refine RetF.auto (And.intro rfl ?_)
    | exact Is.mk rfl rfl
    | refine Is.mk ?_ rfl
    | refine Is.mk rfl ?_
    | refine Is.mk ?_ ?_
  all_goals try dsimp only
  all_goals try simp only [Bo, I, OB.row.injEq, AV.osl.injEq, eI_same,  List.cons.injEq, AV.p.injEq, PV.c.injEq, Value.int.injEq, Value.bool.injEq, and_true, true_and, ite_and_p, ite_or_p, Bool.decide_eq_true, eta_Airway, eta_Fan, eta_Mine]
  all_goals simp only [List.length_map]
theorem rv_0 {m : GMine} {sp lim b i : Int} {ts : List (List Int)} (h : refC m sp lim b = 0) (ht : tsJ m sp i ts) (h1 : i ≤ m.junctions) (h2 : m.junctions ≤ i) : refV m sp lim b = fstL (iotaI 0 ts.length) (covI ts lim) ((iotaI 0 ts.length).length + 1 - (0 : Int).toNat) (0 : Int).toNat (b - 0) := by
  have hl := ht.ln
  have hJ := (okMine_p (refC_p h).1).1
  rw [refV_0 h, tsJ_e ht h1 h2, tmA_len]
  unfold fstSet
  rw [Int.sub_zero]; rfl
theorem c_spec_FewestRefuges (m : GMine) (sp lim b : Int) : FnSem Try.prog 12 [.p .any (.agg m.cells), In sp, In lim, In b] [] (RetV (fun v : Nat × Int => [.osl 0 0 v.1, In v.2]) (fun v => [.row false .flat (eI 0) ((refV m sp lim b).1.map eI)]) (fun v => v.1 = (refV m sp lim b).1.length ∧ v.2 = (refV m sp lim b).2)) := by
  refine FnSem.old ?_
  refine FnSem.walk (zs := zeroPV Try.prog) (by kernel_rfl) Try.func12 rfl Try.results12 (by kernel_rfl) (by kernel_rfl) (by kernel_rfl) fun hw hh => ?_
  obtain ⟨w0, w1, w2, w3, _⟩ := hw
  first | replace w0 := wf_Mine w0 | skip
  first | replace w1 := wf_I w1 | skip
  first | replace w2 := wf_I w2 | skip
  first | replace w3 := wf_I w3 | skip
  repeat' first
    | refine And.intro rfl ?_
    | refine GdF.mk (fun h => h) ?_
    | refine And.intro (Nat.succ_ne_zero _) ?_
    | refine And.intro (Nat.le_of_ble_eq_true rfl) ?_
    | refine SeqF.run ?_
    | refine GhF.at 6 rfl [.nilr 2 0 (eI 0), .nils 2 3 (eI 0), .old 4] ?_
    | refine GhF.at 10 rfl [.fzc 2 1 0] ?_
    | refine ArgF.is (c_spec_l04Ok m) ?_
    | refine ArgQ.is (fun hG => c_spec_l04Ok m) rfl rfl ?_
    | refine ArgF.is (c_spec_l20Walks m j sp (refC_p j2).1 (inV_j j0 (by omega)) (refC_p j2).2.1) ?_
    | refine ArgQ.is (fun hG => c_spec_l20Walks m j sp (refC_p j2).1 (inV_j j0 (by omega)) (refC_p j2).2.1) rfl rfl ?_
    | refine BndF.mk (fun _ => by have := j4.ln; omega) ?_
    | refine BndF.mk (fun _ => by simp only [List.length_map, tmI_len]; omega) ?_
    | refine EqL.mk ((tmI m sp j).map eI) (tkXs tmI_len.symm) ?_
    | refine MkF.rows ?_
    | refine EqR.mk (List.map eR [tmI m sp j]) rfl ?_
    | refine EqR.mk [] rfl ?_
    | refine EqR.mk _ apR ?_
    | refine EqR.mk (List.map eR [tmI m sp j]) (by simp) ?_
    | refine EqL.mk (ts.map eLI) (tkRows j3) ?_
    | refine LoopF.at 7 rfl (LoopF.fix [1, 4, 10] (Int × Nat × List (List Int)) (fun (j, n, ts) => 0 ≤ j ∧ j ≤ m.junctions ∧ refC m sp lim b = 0 ∧ n = ts.length ∧ tsJ m sp j ts ∧ m.junctions ≤ 16) (fun (j, n, ts) => [(11, In j)]) (fun (j, n, ts) => [(1, .fix [.osl 2 0 n, In lim, In 0, .osl 3 0 0, In 0, In b, Bo false]), (2, .rows true .flat (eI 0) (ts.map eR) none), (3, .row false .flat (eI 0) (([] : List Int).map eI))]) (fun (j, n, ts) => ((m.junctions - j).toNat)) ((0, 0, [])) ?_)
    | (refine LoopB.of (T := Int × Nat × List (List Int)) ?_ ?_; rotate_left; rintro ⟨j, n, ts⟩ ⟨j0, j1, j2, j3, j4, j5⟩; rotate_left)
    | refine LoopF.at 11 rfl (LoopF.fix [4, 10] (Fl × Int × Nat × Int × Bool × List Int) (fun (fl, N, n', nd, fu, zs) => 0 ≤ N ∧ N ≤ m.junctions + 1 ∧ (0 ≤ nd ∧ nd ≤ b) ∧ n' = 0 ∧ refV m sp lim b = fstL (iotaI 0 ts.length) (covI ts lim) ((iotaI 0 ts.length).length + 1 - N.toNat) N.toNat (b - nd) ∧ fu = false ∧ (ts.length : Int) = m.junctions) (fun (fl, N, n', nd, fu, zs) => []) (fun (fl, N, n', nd, fu, zs) => [(1, coSf fl ts lim N 2 n' nd b fu), (2, .row false .flat (eI 0) (zs.map eI))]) (fun (fl, N, n', nd, fu, zs) => ((m.junctions + 1 - N).toNat)) ((.fresh, 0, 0, 0, false, [])) ?_)
    | (refine LoopB.of (T := Fl × Int × Nat × Int × Bool × List Int) ?_ ?_; rotate_left; rintro ⟨fl, N, n', nd, fu, zs⟩ ⟨k0, k1, k2, k3, k4, k5, k6⟩; rotate_left)
    | refine CallF.own (f := 80) [0] false ?_
    | (refine ArgF.runT (runTC ts lim N b (fun i hi => by rw [tsJ_len j4 hi]; omega) (by omega) (by have := refC_p j2; omega) N.toNat 0 (b - nd) nd fu [] zs n' (by omega) (by omega) (by omega) (by omega) k5 (by omega) (by rw [k3]; rfl) (by simp) (by simp; omega) (by simp)) ?_; intro n2 ys2 b2 fu2 nd2 e1 e2 e3 e4 e5)
    | refine EqL.mk _ (tkT rfl) ?_
    | refine ArgF.is (ownR (ys2.take n2) (by have := (fsB_t k0 (by rw [iota_L]; omega) k4 e1 e5 hb).2; omega)) ?_
    | refine ArgQ.is (fun hG => ownR (ys2.take n2) (by have := (fsB_t k0 (by rw [iota_L]; omega) k4 e1 e5 hb).2; omega)) rfl rfl ?_
    | (refine RetV.mk (α := Nat × Int) (_, _) rfl ?_ ?_)
    | cases fl
    | refine GhF.go ?_
    | refine GdS.keep ?_
    | refine DrawG.old (DrawF.lex (by decide +kernel) ?_)
    | refine DrawG.old (DrawF.any ?_)
    | refine OrdF.take 0 (by decide +kernel) ?_
    | refine OrdF.take 1 (by decide +kernel) ?_
    | refine OrdF.take 2 (by decide +kernel) ?_
    | refine OrdF.take 3 (by decide +kernel) ?_
    | refine OrdF.take 5 (by decide +kernel) ?_
    | refine OrdF.take 6 (by decide +kernel) ?_
    | refine OrdF.take 10 (by decide +kernel) ?_
    | refine OrdF.take 11 (by decide +kernel) ?_
    | refine OrdF.all [12] (by decide +kernel) ?_
    | refine OrdF.all [9] (by decide +kernel) ?_
    | refine OrdF.all [4] (by decide +kernel) ?_
    | refine OrdF.all [8] (by decide +kernel) ?_
    | refine OrdF.all [4, 8] (by decide +kernel) ?_
    | refine OrdF.all [7] (by decide +kernel) ?_
    | refine OrdF.all [4, 7] (by decide +kernel) ?_
    | refine OrdF.fin (by decide +kernel) ?_
    | refine AllF.one _ ?_
    | refine AllF.cons _ _ ?_ ?_
    | refine BndF.mk (fun _ => ⟨rfl, by first | rfl | omega | (simp only [List.length_map, List.length_cons, List.length_nil, List.length_append, List.length_set, List.length_replicate]; first | done | omega)⟩) ?_
    | refine MkF.row ?_
    | refine BndF.mk (fun _ => by omega) ?_
    | refine BndF.mk (fun _ => by simp only [List.length_map, List.length_cons, List.length_nil, List.length_append, List.length_set, List.length_replicate, iotaI_len]; omega) ?_
    | refine BndF.mk (fun hG => by simp only [forall_const, eq_self, not_true_eq_false, not_false_eq_true, or_false, false_or, or_self, or_true, true_or, and_true, true_and, and_false, false_and, decide_true, decide_false, Bool.not_true, Bool.not_false, decide_eq_true_eq, decide_eq_false_iff_not, ite_and_p, ite_or_p, Bool.decide_eq_true, Bool.and_eq_true, Bool.or_eq_true, Bool.not_eq_true', Bool.not_eq_false', Bool.and_eq_false_imp, Bool.or_eq_false_iff, bne_iff_ne, beq_iff_eq, bne_eq_false_iff_eq, beq_eq_false_iff_ne, gt_iff_lt, ge_iff_le, Int.not_lt, Int.not_le, ne_eq, Bool.true_eq_false, Bool.false_eq_true, reduceCtorEq, eta_Airway, eta_Fan, eta_Mine, bytes_nil] at hG; (try simp only [List.length_map]); omega) ?_
    | refine EqI.mk _ (fun _ => wrapI (by omega) (by omega)) ?_
    | refine EqI.mk _ (fun _ => rfl) ?_
    | refine FlF.keep ?_
    | refine EqN.mk _ (Nat.zero_add _) ?_
    | refine EqN.mk (_ + 1) rfl ?_
    | refine EqN.mk _ (Int.toNat_natCast _) ?_
    | refine EqN.mk _ rfl ?_
    | refine EqL.mk _ (sn0 eI) ?_
    | refine EqL.mk _ (sn eI (by first | rfl | assumption | omega | (simp only [List.length_map, List.length_cons, List.length_nil, List.length_append, List.length_set, List.length_replicate, iotaI_len]; done) | (simp only [List.length_map, List.length_cons, List.length_nil, List.length_append, List.length_set, List.length_replicate, iotaI_len]; omega))) ?_
    | refine EqL.mk _ (ap0 eI) ?_
    | refine EqL.mk _ (ap eI (by first | rfl | assumption | omega | (simp only [List.length_map, List.length_cons, List.length_nil, List.length_append, List.length_set, List.length_replicate, iotaI_len]; done) | (simp only [List.length_map, List.length_cons, List.length_nil, List.length_append, List.length_set, List.length_replicate, iotaI_len]; omega))) ?_
    | refine EqL.mk _ (tk eI (by first | rfl | assumption | omega | (simp only [List.length_map, List.length_cons, List.length_nil, List.length_append, List.length_set, List.length_replicate, iotaI_len]; done) | (simp only [List.length_map, List.length_cons, List.length_nil, List.length_append, List.length_set, List.length_replicate, iotaI_len]; omega))) ?_
    | refine EqL.mk _ (st eI) ?_
    | refine EqL.mk _ (dt eI) ?_
    | refine EqL.mk _ (sn0 eLI) ?_
    | refine EqL.mk _ (sn eLI (by first | rfl | assumption | omega | (simp only [List.length_map, List.length_cons, List.length_nil, List.length_append, List.length_set, List.length_replicate, iotaI_len]; done) | (simp only [List.length_map, List.length_cons, List.length_nil, List.length_append, List.length_set, List.length_replicate, iotaI_len]; omega))) ?_
    | refine EqL.mk _ (ap0 eLI) ?_
    | refine EqL.mk _ (ap eLI (by first | rfl | assumption | omega | (simp only [List.length_map, List.length_cons, List.length_nil, List.length_append, List.length_set, List.length_replicate, iotaI_len]; done) | (simp only [List.length_map, List.length_cons, List.length_nil, List.length_append, List.length_set, List.length_replicate, iotaI_len]; omega))) ?_
    | refine EqL.mk _ (tk eLI (by first | rfl | assumption | omega | (simp only [List.length_map, List.length_cons, List.length_nil, List.length_append, List.length_set, List.length_replicate, iotaI_len]; done) | (simp only [List.length_map, List.length_cons, List.length_nil, List.length_append, List.length_set, List.length_replicate, iotaI_len]; omega))) ?_
    | refine EqL.mk _ (st eLI) ?_
    | refine EqL.mk _ (dt eLI) ?_
    | refine EqL.mk [] rfl ?_
    | refine EqL.mk [_] rfl ?_
    | refine EqL.mk _ rfl ?_
    | refine ArgF.is (c_spec_l04Ok ⟨_, _⟩) ?_
    | refine ArgQ.is (fun hG => c_spec_l04Ok ⟨_, _⟩) rfl rfl ?_
    | refine ArgF.is (c_spec_l20Speed ..) ?_
    | refine ArgQ.is (fun hG => c_spec_l20Speed ..) rfl rfl ?_
    | refine ArgF.is (c_spec_l00In ..) ?_
    | refine ArgQ.is (fun hG => c_spec_l00In ..) rfl rfl ?_
    | refine ArgF.is (c_spec_l20Walks ⟨_, _⟩ _ _ (by first | assumption | omega) (by first | assumption | omega) (by first | assumption | omega)) ?_
    | refine ArgQ.is (fun hG => c_spec_l20Walks ⟨_, _⟩ _ _ (by first | assumption | omega) (by first | assumption | omega) (by first | assumption | omega)) rfl rfl ?_
    | refine ArgQ.is (fun hG => c_spec_l20Walks ⟨_, _⟩ _ _ (by simp only [forall_const, eq_self, not_true_eq_false, not_false_eq_true, or_false, false_or, or_self, or_true, true_or, and_true, true_and, and_false, false_and, decide_true, decide_false, Bool.not_true, Bool.not_false, decide_eq_true_eq, decide_eq_false_iff_not, ite_and_p, ite_or_p, Bool.decide_eq_true, Bool.and_eq_true, Bool.or_eq_true, Bool.not_eq_true', Bool.not_eq_false', Bool.and_eq_false_imp, Bool.or_eq_false_iff, bne_iff_ne, beq_iff_eq, bne_eq_false_iff_eq, beq_eq_false_iff_ne, gt_iff_lt, ge_iff_le, Int.not_lt, Int.not_le, ne_eq, Bool.true_eq_false, Bool.false_eq_true, reduceCtorEq, eta_Airway, eta_Fan, eta_Mine, bytes_nil] at hG; omega) (by simp only [forall_const, eq_self, not_true_eq_false, not_false_eq_true, or_false, false_or, or_self, or_true, true_or, and_true, true_and, and_false, false_and, decide_true, decide_false, Bool.not_true, Bool.not_false, decide_eq_true_eq, decide_eq_false_iff_not, ite_and_p, ite_or_p, Bool.decide_eq_true, Bool.and_eq_true, Bool.or_eq_true, Bool.not_eq_true', Bool.not_eq_false', Bool.and_eq_false_imp, Bool.or_eq_false_iff, bne_iff_ne, beq_iff_eq, bne_eq_false_iff_eq, beq_eq_false_iff_ne, gt_iff_lt, ge_iff_le, Int.not_lt, Int.not_le, ne_eq, Bool.true_eq_false, Bool.false_eq_true, reduceCtorEq, eta_Airway, eta_Fan, eta_Mine, bytes_nil] at hG; omega) (by simp only [forall_const, eq_self, not_true_eq_false, not_false_eq_true, or_false, false_or, or_self, or_true, true_or, and_true, true_and, and_false, false_and, decide_true, decide_false, Bool.not_true, Bool.not_false, decide_eq_true_eq, decide_eq_false_iff_not, ite_and_p, ite_or_p, Bool.decide_eq_true, Bool.and_eq_true, Bool.or_eq_true, Bool.not_eq_true', Bool.not_eq_false', Bool.and_eq_false_imp, Bool.or_eq_false_iff, bne_iff_ne, beq_iff_eq, bne_eq_false_iff_eq, beq_eq_false_iff_ne, gt_iff_lt, ge_iff_le, Int.not_lt, Int.not_le, ne_eq, Bool.true_eq_false, Bool.false_eq_true, reduceCtorEq, eta_Airway, eta_Fan, eta_Mine, bytes_nil] at hG; omega)) rfl rfl ?_
    | refine ArgF.is (c_spec_l20Cover_run ..) ?_
    | refine ArgQ.is (fun hG => c_spec_l20Cover_run ..) rfl rfl ?_
    | refine ArgF.is (c_spec_l00Own _ (by first | assumption | omega)) ?_
    | refine ArgQ.is (fun hG => c_spec_l00Own _ (by first | assumption | omega)) rfl rfl ?_
    | refine ArgQ.is (fun hG => c_spec_l00Own _ (by simp only [forall_const, eq_self, not_true_eq_false, not_false_eq_true, or_false, false_or, or_self, or_true, true_or, and_true, true_and, and_false, false_and, decide_true, decide_false, Bool.not_true, Bool.not_false, decide_eq_true_eq, decide_eq_false_iff_not, ite_and_p, ite_or_p, Bool.decide_eq_true, Bool.and_eq_true, Bool.or_eq_true, Bool.not_eq_true', Bool.not_eq_false', Bool.and_eq_false_imp, Bool.or_eq_false_iff, bne_iff_ne, beq_iff_eq, bne_eq_false_iff_eq, beq_eq_false_iff_ne, gt_iff_lt, ge_iff_le, Int.not_lt, Int.not_le, ne_eq, Bool.true_eq_false, Bool.false_eq_true, reduceCtorEq, eta_Airway, eta_Fan, eta_Mine, bytes_nil] at hG; omega)) rfl rfl ?_
    | refine CallF.mk (CallW.is [] true rfl ?_)
    | refine CallG.mk ?_
    | (refine CondF.mk (fun hb => ?_) (fun hb => ?_) <;> try simp only [forall_const, eq_self, not_true_eq_false, not_false_eq_true, or_false, false_or, or_self, or_true, true_or, and_true, true_and, and_false, false_and, decide_true, decide_false, Bool.not_true, Bool.not_false, decide_eq_true_eq, decide_eq_false_iff_not, ite_and_p, ite_or_p, Bool.decide_eq_true, Bool.and_eq_true, Bool.or_eq_true, Bool.not_eq_true', Bool.not_eq_false', Bool.and_eq_false_imp, Bool.or_eq_false_iff, bne_iff_ne, beq_iff_eq, bne_eq_false_iff_eq, beq_eq_false_iff_ne, gt_iff_lt, ge_iff_le, Int.not_lt, Int.not_le, ne_eq, Bool.true_eq_false, Bool.false_eq_true, reduceCtorEq, eta_Airway, eta_Fan, eta_Mine] at hb)
    | apply BackF.auto6
    | apply BackF.auto3
    | refine BackB.mk ?_ ?_
    | refine RetF.auto (And.intro rfl ?_)
    | exact Is.mk rfl rfl
    | refine Is.mk ?_ rfl
    | refine Is.mk rfl ?_
    | refine Is.mk ?_ ?_
  all_goals try dsimp only
  all_goals first
    | omega
    | (rw [refV_c (by rw [refC_1 hb]; decide), refC_1 hb] <;> first | rfl | exact ⟨rfl, rfl⟩)
    | (rw [refV_c (by rw [refC_2 (by assumption) hb]; decide), refC_2 (by assumption) hb] <;> first | rfl | exact ⟨rfl, rfl⟩)
    | exact ⟨by omega, by have := (okMine_p (by assumption : okMine m = true)).1; omega, refC_0 (by assumption) hb, rfl, tsJ_0, ((okMine_p (by assumption : okMine m = true)).1).2⟩
    | exact ⟨by omega, by omega, j2, by simp [j3], tsJ_s j4, j5⟩
    | exact ⟨by omega, by omega, ⟨by omega, by have := refC_p j2; omega⟩, rfl, rv_0 j2 j4 j1 (by assumption), rfl, by have := j4.ln; omega⟩
    | (have q := fsB_n k0 (by rw [iota_L]; omega) (by omega) k4 e1 e2 e3 e4 e5 (by assumption) (by assumption)
       exact ⟨by omega, by omega, ⟨by omega, by omega⟩, q.1, q.2.2, by assumption, k6⟩)
    | (rw [k4.trans (fsB_t k0 (by rw [iota_L]; omega) rfl e1 e5 (by assumption)).1] <;> first | rfl | exact ⟨rfl, rfl⟩)
    | (rw [(fsB_t k0 (by rw [iota_L]; omega) k4 e1 e5 (by assumption)).1] <;> first | rfl | exact ⟨rfl, rfl⟩)
    | (rw [fsB_f k0 (by rw [iota_L]; omega) k4 e1 e3 (by assumption) (by assumption)] <;> first | rfl | exact ⟨rfl, rfl⟩)
    | (have q := ref_no3 j2; rw [fsB_e k0 (by rw [iota_L]; omega) k4] at q; dsimp only at q; omega)
    | skip
end Go.Proofs.Ytpckcolkehgdaaa
