/- Contracts of functions of the program, and what they compute. Conditions: those that each theorem states. -/
import Derived.Test.YtlcpjlmhfhiggaaProg
import Derived.Test.YtlcpjlmhfhiggaaK16
import Derived.Test.YtlcpjlmhfhiggaaK3
set_option linter.unusedVariables false
set_option linter.unusedSimpArgs false
namespace Go.Proofs.Ytlcpjlmhfhiggaa
open Go.Av
attribute [local irreducible] Go.IntKind.wrap
set_option maxRecDepth 20000
set_option maxHeartbeats 4000000

/-- one reading of a sensor: the run of high readings, where the alarm began (or -1), the alarms that are over -/
def alStep (x : GSensor) (v u : Int) (s : Int × Int × List (List Int)) : Int × Int × List (List Int) :=
  (if x.limit < v then s.1 + 1 else 0,
   if (if 0 ≤ s.2.1 ∧ ¬v = -1 ∧ v ≤ x.release then -1 else s.2.1) < 0 ∧ x.delay ≤ (if x.limit < v then s.1 + 1 else 0) then u else if 0 ≤ s.2.1 ∧ ¬v = -1 ∧ v ≤ x.release then -1 else s.2.1,
   if 0 ≤ s.2.1 ∧ ¬v = -1 ∧ v ≤ x.release then s.2.2 ++ [[s.2.1, u]] else s.2.2)
def alS (x : GSensor) (xs : List Int) : Nat → Int × Int × List (List Int)
  | 0 => (0, -1, [])
  | k + 1 => alStep x (xs.getD k 0) k (alS x xs k)
/-- an alarm that isn't over lasts to the end -/
def alW (f L : Int) (ss : List (List Int)) : List (List Int) := if 0 ≤ f then ss ++ [[f, L]] else ss
def alR (x : GSensor) (xs : List Int) : List (List Int) := alW (alS x xs xs.length).2.1 xs.length (alS x xs xs.length).2.2
theorem alS_b {x : GSensor} {xs : List Int} : ∀ k : Nat, (0 ≤ (alS x xs k).1 ∧ (alS x xs k).1 ≤ k) ∧ (-1 ≤ (alS x xs k).2.1 ∧ (alS x xs k).2.1 < k) ∧ (alS x xs k).2.2.length ≤ k ∧ ∀ r ∈ (alS x xs k).2.2, ∃ a b : Int, r = [a, b] ∧ 0 ≤ a ∧ a ≤ b ∧ b ≤ k
  | 0 => by refine ⟨⟨by simp [alS], by simp [alS]⟩, ⟨by simp [alS], by simp [alS]⟩, by simp [alS], fun r hr => by simp [alS] at hr⟩
  | k + 1 => by
    obtain ⟨⟨a1, a2⟩, ⟨b1, b2⟩, c, d⟩ := alS_b (x := x) (xs := xs) k
    have e : alS x xs (k + 1) = alStep x (xs.getD k 0) k (alS x xs k) := rfl
    rw [e]; unfold alStep
    dsimp only
    refine ⟨by split <;> omega, by split <;> (try split) <;> omega, by split <;> (try simp only [List.length_append, List.length_cons, List.length_nil]) <;> omega, ?_⟩
    split
    · intro r hr
      rcases List.mem_append.1 hr with hr | hr
      · obtain ⟨a, b, h1, h2, h3, h4⟩ := d r hr
        exact ⟨a, b, h1, h2, h3, by omega⟩
      · rw [List.mem_singleton.1 hr]
        exact ⟨_, _, rfl, by omega, by omega, by omega⟩
    · intro r hr
      obtain ⟨a, b, h1, h2, h3, h4⟩ := d r hr
      exact ⟨a, b, h1, h2, h3, by omega⟩
theorem alR_b {x : GSensor} {xs : List Int} : (alR x xs).length ≤ xs.length + 1 ∧ ∀ r ∈ alR x xs, ∃ a b : Int, r = [a, b] ∧ 0 ≤ a ∧ a ≤ b ∧ b ≤ xs.length := by
  obtain ⟨_, ⟨b1, b2⟩, c, d⟩ := alS_b (x := x) (xs := xs) xs.length
  unfold alR alW
  split
  · refine ⟨by simp; omega, fun r hr => ?_⟩
    rcases List.mem_append.1 hr with hr | hr
    · exact d r hr
    · rw [List.mem_singleton.1 hr]
      exact ⟨_, _, rfl, by omega, by omega, by omega⟩
  · exact ⟨by omega, d⟩
attribute [local irreducible] alS alStep alR
theorem alS_0 {x : GSensor} {xs : List Int} : alS x xs 0 = (0, -1, []) := by unfold alS; rfl
theorem alS_s {x : GSensor} {xs : List Int} {i : Int} (h0 : 0 ≤ i) : alS x xs (i + 1).toNat = alStep x (xs.getD i.toNat 0) i (alS x xs i.toNat) := by
  rw [show (i + 1).toNat = i.toNat + 1 by omega]
  conv => lhs; unfold alS
  rw [show ((i.toNat : Nat) : Int) = i by omega]
theorem alR_e {x : GSensor} {xs : List Int} {i r f : Int} {ss : List (List Int)} (h : (r, f, ss) = alS x xs i.toNat) (h0 : ¬i < xs.length) (h1 : i ≤ xs.length) : alR x xs = alW f xs.length ss := by
  rw [show i.toNat = xs.length by omega] at h
  unfold alR; rw [← h]
theorem alW_p {f L : Int} {ss : List (List Int)} (h : 0 ≤ f) : alW f L ss = ss ++ [[f, L]] := if_pos h
theorem alW_n {f L : Int} {ss : List (List Int)} (h : ¬0 ≤ f) : alW f L ss = ss := if_neg h
theorem c_spec_l24Alarms (x : GSensor) (xs : List Int) (hl : xs.length ≤ 200) : FnSem Try.prog 91 [.p .any (.ref x.cells), Lx (LI xs)] [] (Is [.osl 0 0 (alR x xs).length] [.rows true .flat (eI 0) ((alR x xs).map eR) none]) := by
  refine FnSem.walk (zs := zeroPV Try.prog) (by kernel_rfl) Try.func91 rfl Try.results91 (by kernel_rfl) (by kernel_rfl) (by kernel_rfl) fun hw hh => ?_
  obtain ⟨w0, w1, _⟩ := hw
  first | replace w0 := wfr_Sensor w0 | skip
  first | replace w1 := wf_I w1 | replace w1 := wf_Y w1 | replace w1 := wf_S w1 | replace w1 := wf_LI w1 | replace w1 := wf_LY w1 | replace w1 := wf_LLI w1 | replace w1 := wf_Ls w1 | skip
  repeat' first
    | refine And.intro rfl ?_
    | refine GdF.mk (fun h => h) ?_
    | refine And.intro (Nat.succ_ne_zero _) ?_
    | refine And.intro (Nat.le_of_ble_eq_true rfl) ?_
    | refine SeqF.run ?_
    | refine MkF.rows ?_
    | refine EqR.mk (List.map eR [[_, _]]) rfl ?_
    | refine EqR.mk [] rfl ?_
    | refine EqR.mk (List.map eR [[_, _]]) (by simp) ?_
    | refine EqR.mk _ apR ?_
    | refine LoopF.at 5 rfl (LoopF.fix [0, 1] (Int × Int × Int × Nat × List (List Int)) (fun (i, r, f, n, ss) => 0 ≤ i ∧ i ≤ xs.length ∧ n = ss.length ∧ (n : Int) ≤ i ∧ (0 ≤ r ∧ r ≤ i) ∧ (-1 ≤ f ∧ f < i ∨ f = -1) ∧ (r, f, ss) = alS x xs i.toNat) (fun (i, r, f, n, ss) => [(8, In i), (6, In r), (7, In f), (5, .osl 0 0 n)]) (fun (i, r, f, n, ss) => [(0, .rows true .flat (eI 0) (ss.map eR) none)]) (fun (i, r, f, n, ss) => ((xs.length - i).toNat)) ((0, 0, -1, 0, [])) ?_)
    | (refine LoopB.of (T := Int × Int × Int × Nat × List (List Int)) ?_ ?_; rotate_left; rintro ⟨i, r, f, n, ss⟩ ⟨h0, h1, h2, h3, h4, h5, h6⟩; rotate_left)
    | refine GhF.go ?_
    | refine GdS.keep ?_
    | refine BndF.mk (fun _ => ⟨rfl, by first | rfl | omega | (simp only [List.length_map, List.length_cons, List.length_nil, List.length_append, List.length_set, List.length_replicate]; first | done | omega)⟩) ?_
    | refine MkF.row ?_
    | refine EqP.mk _ (gm eI 0 rfl) ?_
    | refine EqP.mk _ (gmb eLI [] (by omega)) ?_
    | refine BndF.mk (fun _ => by omega) ?_
    | refine BndF.mk (fun _ => by simp only [List.length_map, List.length_cons, List.length_nil, List.length_append, List.length_set, List.length_replicate, iotaI_len]; omega) ?_
    | refine BndF.mk (fun hG => by simp only [forall_const, eq_self, not_true_eq_false, not_false_eq_true, or_false, false_or, or_self, or_true, true_or, and_true, true_and, and_false, false_and, decide_true, decide_false, Bool.not_true, Bool.not_false, decide_eq_true_eq, decide_eq_false_iff_not, ite_and_p, ite_or_p, Bool.decide_eq_true, Bool.and_eq_true, Bool.or_eq_true, Bool.not_eq_true', Bool.not_eq_false', Bool.and_eq_false_imp, Bool.or_eq_false_iff, bne_iff_ne, beq_iff_eq, bne_eq_false_iff_eq, beq_eq_false_iff_ne, gt_iff_lt, ge_iff_le, Int.not_lt, Int.not_le, ne_eq, Bool.true_eq_false, Bool.false_eq_true, reduceCtorEq, eta_Airway, eta_Dusting, eta_Heading, eta_Mine, eta_Mode, eta_Sensor, bytes_nil] at hG; (try simp only [List.length_map]); omega) ?_
    | refine EqI.mk _ (fun _ => wrapI (by omega) (by omega)) ?_
    | refine EqI.mk _ (fun _ => rfl) ?_
    | refine FlF.keep ?_
    | refine EqN.mk _ (ln eI) ?_
    | refine EqN.mk _ (ln eLI) ?_
    | refine EqN.mk _ (Nat.zero_add _) ?_
    | refine EqN.mk (_ + 1) rfl ?_
    | refine EqN.mk _ (Int.toNat_natCast _) ?_
    | refine EqN.mk _ rfl ?_
    | refine EqL.mk _ (sn0 eI) ?_
    | refine EqL.mk _ (sn eI (by first | rfl | assumption | omega | (simp only [List.length_map, List.length_cons, List.length_nil, List.length_append, List.length_set, List.length_replicate, iotaI_len]; done) | (simp only [List.length_map, List.length_cons, List.length_nil, List.length_append, List.length_set, List.length_replicate, iotaI_len]; omega))) ?_
    | refine EqL.mk _ (ap0 eI) ?_
    | refine EqL.mk _ (ap eI (by first | rfl | assumption | omega | (simp only [List.length_map, List.length_cons, List.length_nil, List.length_append, List.length_set, List.length_replicate, iotaI_len]; done) | (simp only [List.length_map, List.length_cons, List.length_nil, List.length_append, List.length_set, List.length_replicate, iotaI_len]; omega))) ?_
    | refine EqL.mk _ (tk eI (by first | rfl | assumption | omega | (simp only [List.length_map, List.length_cons, List.length_nil, List.length_append, List.length_set, List.length_replicate, iotaI_len]; done) | (simp only [List.length_map, List.length_cons, List.length_nil, List.length_append, List.length_set, List.length_replicate, iotaI_len]; omega))) ?_
    | refine EqL.mk _ (dt eI) ?_
    | refine EqL.mk _ (sn0 eLI) ?_
    | refine EqL.mk _ (sn eLI (by first | rfl | assumption | omega | (simp only [List.length_map, List.length_cons, List.length_nil, List.length_append, List.length_set, List.length_replicate, iotaI_len]; done) | (simp only [List.length_map, List.length_cons, List.length_nil, List.length_append, List.length_set, List.length_replicate, iotaI_len]; omega))) ?_
    | refine EqL.mk _ (ap0 eLI) ?_
    | refine EqL.mk _ (ap eLI (by first | rfl | assumption | omega | (simp only [List.length_map, List.length_cons, List.length_nil, List.length_append, List.length_set, List.length_replicate, iotaI_len]; done) | (simp only [List.length_map, List.length_cons, List.length_nil, List.length_append, List.length_set, List.length_replicate, iotaI_len]; omega))) ?_
    | refine EqL.mk _ (tk eLI (by first | rfl | assumption | omega | (simp only [List.length_map, List.length_cons, List.length_nil, List.length_append, List.length_set, List.length_replicate, iotaI_len]; done) | (simp only [List.length_map, List.length_cons, List.length_nil, List.length_append, List.length_set, List.length_replicate, iotaI_len]; omega))) ?_
    | refine EqL.mk _ (dt eLI) ?_
    | refine EqL.mk (List.map eI [_, _]) rfl ?_
    | refine EqL.mk [] rfl ?_
    | refine EqL.mk [_] rfl ?_
    | refine EqL.mk _ rfl ?_
    | (refine CondF.mk (fun hb => ?_) (fun hb => ?_) <;> try simp only [forall_const, eq_self, not_true_eq_false, not_false_eq_true, or_false, false_or, or_self, or_true, true_or, and_true, true_and, and_false, false_and, decide_true, decide_false, Bool.not_true, Bool.not_false, decide_eq_true_eq, decide_eq_false_iff_not, ite_and_p, ite_or_p, Bool.decide_eq_true, Bool.and_eq_true, Bool.or_eq_true, Bool.not_eq_true', Bool.not_eq_false', Bool.and_eq_false_imp, Bool.or_eq_false_iff, bne_iff_ne, beq_iff_eq, bne_eq_false_iff_eq, beq_eq_false_iff_ne, gt_iff_lt, ge_iff_le, Int.not_lt, Int.not_le, ne_eq, Bool.true_eq_false, Bool.false_eq_true, reduceCtorEq, eta_Airway, eta_Dusting, eta_Heading, eta_Mine, eta_Mode, eta_Sensor] at hb)
    | apply BackF.auto5
    | refine BackB.mk ?_ ?_
    | refine RetF.auto (And.intro rfl ?_)
    | exact Is.mk rfl rfl
    | refine Is.mk ?_ rfl
    | refine Is.mk rfl ?_
    | refine Is.mk ?_ ?_
  all_goals try dsimp only
  all_goals try simp only [Bo, I, OB.row.injEq, AV.osl.injEq, eI_same,  List.cons.injEq, AV.p.injEq, PV.c.injEq, Value.int.injEq, Value.bool.injEq, and_true, true_and, ite_and_p, ite_or_p, Bool.decide_eq_true, eta_Airway, eta_Dusting, eta_Heading, eta_Mine, eta_Mode, eta_Sensor]
  all_goals first
    | omega
    | exact ⟨by omega, by omega, rfl, by omega, by omega, by omega, alS_0.symm⟩
    | (refine ⟨by omega, by omega, by first | omega | (simp only [List.length_append, List.length_cons, List.length_nil]; omega), by omega, by omega, by first | omega | simp, ?_⟩
       rw [alS_s h0, ← h6]
       unfold alStep
       grind)
    | (rw [alR_e h6 (by omega) h1]; first | rw [alW_p (by omega)] | rw [alW_n (by omega)]
       first | rfl | (simp only [List.length_append, List.length_cons, List.length_nil]; omega) | omega)
theorem al_last {x : GSensor} {xs : List Int} {i r : Int} {b : Bool} {n : Nat} {rs : List (List Int)} (h : ∃ f ss, (r, f, ss) = alS x xs i.toNat ∧ b = decide (0 ≤ f) ∧ rs = alW f xs.length ss) (hb : b = true) (hn : n = rs.length) : 0 < n ∧ ∃ f : Int, rs.getD ((n : Int) - 1).toNat [] = [f, (xs.length : Int)] := by
  obtain ⟨f, ss, h1, h2, h3⟩ := h
  have hf : 0 ≤ f := by rw [hb] at h2; exact of_decide_eq_true h2.symm
  rw [alW_p hf] at h3
  subst h3; subst hn
  refine ⟨by simp, f, ?_⟩
  rw [show (((ss ++ [[f, (xs.length : Int)]]).length : Int) - 1).toNat = ss.length by simp]
  simp [List.getD_eq_getElem?_getD]
theorem al_set {f L u : Int} {n : Nat} {rs ss : List (List Int)} (hf : 0 ≤ f) (h : rs = alW f L ss) (hn : n = rs.length) : rs.set ((n : Int) - 1).toNat ((rs.getD ((n : Int) - 1).toNat []).set (Int.toNat 1) u) = alW (-1) L (ss ++ [[f, u]]) := by
  rw [alW_p hf] at h; rw [alW_n (by omega)]
  subst h; subst hn
  rw [show (((ss ++ [[f, L]]).length : Int) - 1).toNat = ss.length by simp]
  simp [List.getD_eq_getElem?_getD]
theorem okSensor_b {x : GSensor} (h : okSensor x = true) : 1 ≤ x.delay ∧ x.release ≤ x.limit := by
  unfold okSensor at h
  simp only [Bool.and_eq_true, inR_iff] at h
  omega
theorem c_impl_Sensor_alarms (x : GSensor) (xs : List Int) (hv : okSensor x = true) (hl : xs.length ≤ 200) : FnSem Try.prog 96 [.p .any (.agg x.cells), Lx (LI xs)] [] (Is [.osl 0 0 (alR x xs).length] [.rows true .flat (eI 0) ((alR x xs).map eR) none]) := by
  have hs := okSensor_b hv
  refine FnSem.walk (zs := zeroPV Try.prog) (by kernel_rfl) Try.func96 rfl Try.results96 (by kernel_rfl) (by kernel_rfl) (by kernel_rfl) fun hw hh => ?_
  obtain ⟨w0, w1, _⟩ := hw
  first | replace w0 := wf_Sensor w0 | skip
  first | replace w1 := wf_I w1 | replace w1 := wf_Y w1 | replace w1 := wf_S w1 | replace w1 := wf_LI w1 | replace w1 := wf_LY w1 | replace w1 := wf_LLI w1 | replace w1 := wf_Ls w1 | skip
  repeat' first
    | refine And.intro rfl ?_
    | refine GdF.mk (fun h => h) ?_
    | refine And.intro (Nat.succ_ne_zero _) ?_
    | refine And.intro (Nat.le_of_ble_eq_true rfl) ?_
    | refine SeqF.run ?_
    | refine MkF.rows ?_
    | refine EqR.mk (List.map eR [[_, _]]) rfl ?_
    | refine EqR.mk [] rfl ?_
    | refine EqR.mk (List.map eR [[_, _]]) (by simp) ?_
    | refine EqR.mk _ apR ?_
    | refine EqL.mk _ getR ?_
    | refine EqR.mk _ stR ?_
    | refine BndF.mk (fun _ => by have := al_last h6 (by first | exact hb.1 | exact hb.1.1) h2; first | omega | (simp only [List.length_map]; omega)) ?_
    | refine BndF.mk (fun _ => by obtain ⟨_, _, e⟩ := al_last h6 (by first | exact hb.1 | exact hb.1.1) h2; first | (rw [getR_len, e]; simp) | (rw [e]; exact ⟨by decide, by simp⟩) | (rw [e]; simp)) ?_
    | refine LoopF.at 4 rfl (LoopF.fix [1, 2, 10, 11] (Int × Int × Bool × Nat × List (List Int)) (fun (i, r, b, n, rs) => 0 ≤ i ∧ i ≤ xs.length ∧ n = rs.length ∧ (n : Int) ≤ i ∧ (0 ≤ r ∧ r ≤ i) ∧ (b = true → 0 < n) ∧ ∃ f ss, (r, f, ss) = alS x xs i.toNat ∧ b = decide (0 ≤ f) ∧ rs = alW f xs.length ss) (fun (i, r, b, n, rs) => [(12, In i), (6, In r), (7, Bo b), (5, .osl 1 0 n)]) (fun (i, r, b, n, rs) => [(1, .rows true .flat (eI 0) (rs.map eR) none)]) (fun (i, r, b, n, rs) => ((xs.length - i).toNat)) ((0, 0, false, 0, [])) ?_)
    | (refine LoopB.of (T := Int × Int × Bool × Nat × List (List Int)) ?_ ?_; rotate_left; rintro ⟨i, r, b, n, rs⟩ ⟨h0, h1, h2, h3, h4, h5, h6⟩; rotate_left)
    | refine GhF.go ?_
    | refine GdS.keep ?_
    | refine BndF.mk (fun _ => ⟨rfl, by first | rfl | omega | (simp only [List.length_map, List.length_cons, List.length_nil, List.length_append, List.length_set, List.length_replicate]; first | done | omega)⟩) ?_
    | refine MkF.row ?_
    | refine EqP.mk _ (gm eI 0 rfl) ?_
    | refine EqP.mk _ (gmb eLI [] (by omega)) ?_
    | refine BndF.mk (fun _ => by omega) ?_
    | refine BndF.mk (fun _ => by simp only [List.length_map, List.length_cons, List.length_nil, List.length_append, List.length_set, List.length_replicate, iotaI_len]; omega) ?_
    | refine BndF.mk (fun hG => by simp only [forall_const, eq_self, not_true_eq_false, not_false_eq_true, or_false, false_or, or_self, or_true, true_or, and_true, true_and, and_false, false_and, decide_true, decide_false, Bool.not_true, Bool.not_false, decide_eq_true_eq, decide_eq_false_iff_not, ite_and_p, ite_or_p, Bool.decide_eq_true, Bool.and_eq_true, Bool.or_eq_true, Bool.not_eq_true', Bool.not_eq_false', Bool.and_eq_false_imp, Bool.or_eq_false_iff, bne_iff_ne, beq_iff_eq, bne_eq_false_iff_eq, beq_eq_false_iff_ne, gt_iff_lt, ge_iff_le, Int.not_lt, Int.not_le, ne_eq, Bool.true_eq_false, Bool.false_eq_true, reduceCtorEq, eta_Airway, eta_Dusting, eta_Heading, eta_Mine, eta_Mode, eta_Sensor, bytes_nil] at hG; (try simp only [List.length_map]); omega) ?_
    | refine EqI.mk _ (fun _ => wrapI (by omega) (by omega)) ?_
    | refine EqI.mk _ (fun _ => rfl) ?_
    | refine FlF.keep ?_
    | refine EqN.mk _ (ln eI) ?_
    | refine EqN.mk _ (ln eLI) ?_
    | refine EqN.mk _ (Nat.zero_add _) ?_
    | refine EqN.mk (_ + 1) rfl ?_
    | refine EqN.mk _ (Int.toNat_natCast _) ?_
    | refine EqN.mk _ rfl ?_
    | refine EqL.mk _ (sn0 eI) ?_
    | refine EqL.mk _ (sn eI (by first | rfl | assumption | omega | (simp only [List.length_map, List.length_cons, List.length_nil, List.length_append, List.length_set, List.length_replicate, iotaI_len]; done) | (simp only [List.length_map, List.length_cons, List.length_nil, List.length_append, List.length_set, List.length_replicate, iotaI_len]; omega))) ?_
    | refine EqL.mk _ (ap0 eI) ?_
    | refine EqL.mk _ (ap eI (by first | rfl | assumption | omega | (simp only [List.length_map, List.length_cons, List.length_nil, List.length_append, List.length_set, List.length_replicate, iotaI_len]; done) | (simp only [List.length_map, List.length_cons, List.length_nil, List.length_append, List.length_set, List.length_replicate, iotaI_len]; omega))) ?_
    | refine EqL.mk _ (tk eI (by first | rfl | assumption | omega | (simp only [List.length_map, List.length_cons, List.length_nil, List.length_append, List.length_set, List.length_replicate, iotaI_len]; done) | (simp only [List.length_map, List.length_cons, List.length_nil, List.length_append, List.length_set, List.length_replicate, iotaI_len]; omega))) ?_
    | refine EqL.mk _ (st eI) ?_
    | refine EqL.mk _ (dt eI) ?_
    | refine EqL.mk _ (sn0 eLI) ?_
    | refine EqL.mk _ (sn eLI (by first | rfl | assumption | omega | (simp only [List.length_map, List.length_cons, List.length_nil, List.length_append, List.length_set, List.length_replicate, iotaI_len]; done) | (simp only [List.length_map, List.length_cons, List.length_nil, List.length_append, List.length_set, List.length_replicate, iotaI_len]; omega))) ?_
    | refine EqL.mk _ (ap0 eLI) ?_
    | refine EqL.mk _ (ap eLI (by first | rfl | assumption | omega | (simp only [List.length_map, List.length_cons, List.length_nil, List.length_append, List.length_set, List.length_replicate, iotaI_len]; done) | (simp only [List.length_map, List.length_cons, List.length_nil, List.length_append, List.length_set, List.length_replicate, iotaI_len]; omega))) ?_
    | refine EqL.mk _ (tk eLI (by first | rfl | assumption | omega | (simp only [List.length_map, List.length_cons, List.length_nil, List.length_append, List.length_set, List.length_replicate, iotaI_len]; done) | (simp only [List.length_map, List.length_cons, List.length_nil, List.length_append, List.length_set, List.length_replicate, iotaI_len]; omega))) ?_
    | refine EqL.mk _ (st eLI) ?_
    | refine EqL.mk _ (dt eLI) ?_
    | refine EqL.mk (List.map eI [_, _]) rfl ?_
    | refine EqL.mk [] rfl ?_
    | refine EqL.mk [_] rfl ?_
    | refine EqL.mk _ rfl ?_
    | (refine CondF.mk (fun hb => ?_) (fun hb => ?_) <;> try simp only [forall_const, eq_self, not_true_eq_false, not_false_eq_true, or_false, false_or, or_self, or_true, true_or, and_true, true_and, and_false, false_and, decide_true, decide_false, Bool.not_true, Bool.not_false, decide_eq_true_eq, decide_eq_false_iff_not, ite_and_p, ite_or_p, Bool.decide_eq_true, Bool.and_eq_true, Bool.or_eq_true, Bool.not_eq_true', Bool.not_eq_false', Bool.and_eq_false_imp, Bool.or_eq_false_iff, bne_iff_ne, beq_iff_eq, bne_eq_false_iff_eq, beq_eq_false_iff_ne, gt_iff_lt, ge_iff_le, Int.not_lt, Int.not_le, ne_eq, Bool.true_eq_false, Bool.false_eq_true, reduceCtorEq, eta_Airway, eta_Dusting, eta_Heading, eta_Mine, eta_Mode, eta_Sensor] at hb)
    | apply BackF.auto5
    | refine BackB.mk ?_ ?_
    | refine RetF.auto (And.intro rfl ?_)
    | exact Is.mk rfl rfl
    | refine Is.mk ?_ rfl
    | refine Is.mk rfl ?_
    | refine Is.mk ?_ ?_
  all_goals try dsimp only
  all_goals try simp only [Bo, I, OB.row.injEq, AV.osl.injEq, eI_same,  List.cons.injEq, AV.p.injEq, PV.c.injEq, Value.int.injEq, Value.bool.injEq, and_true, true_and, ite_and_p, ite_or_p, Bool.decide_eq_true, eta_Airway, eta_Dusting, eta_Heading, eta_Mine, eta_Mode, eta_Sensor]
  all_goals try omega
  · exact ⟨by omega, by omega, rfl, by omega, by omega, by simp, -1, [], alS_0.symm, rfl, rfl⟩
  all_goals obtain ⟨f, ss, e1, e2, e3⟩ := h6
  all_goals first
    | (rw [alR_e e1 (by omega) h1, ← e3]; first | rfl | omega)
    | (refine ⟨by omega, by omega, by first | omega | (simp only [List.length_append, List.length_set, List.length_cons, List.length_nil]; omega), by omega, by omega, by first | exact h5 | simp, ?_⟩
       first
         | (refine ⟨-1, ss ++ [[f, i]], ?_, by decide, al_set (by grind) e3 h2⟩; rw [alS_s h0, ← e1]; unfold alStep; grind)
         | (refine ⟨i, ss, ?_, by grind, by grind [alW]⟩; rw [alS_s h0, ← e1]; unfold alStep; grind)
         | (refine ⟨f, ss, ?_, e2, e3⟩; rw [alS_s h0, ← e1]; unfold alStep; grind))
end Go.Proofs.Ytlcpjlmhfhiggaa
