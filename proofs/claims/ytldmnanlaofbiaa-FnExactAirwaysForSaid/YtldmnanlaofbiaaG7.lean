/- Contracts of functions of the program, and what they compute. Conditions: those that each theorem states. -/
import Derived.Test.YtldmnanlaofbiaaProg
import Derived.Test.YtldmnanlaofbiaaG6
set_option linter.unusedVariables false
set_option linter.unusedSimpArgs false
namespace Go.Proofs.Ytldmnanlaofbiaa
open Go.Av
attribute [local irreducible] Go.IntKind.wrap leastI rdZ rd rootI condI sumT parI
set_option maxRecDepth 20000
set_option maxHeartbeats 4000000

def parP (r t k : Int) : Bool := decide (parI (List.replicate k.toNat r) ≤ t)
/-- how many airways side by side are enough -/
def airwaysFor (r t : Int) : Int × Int := if inR r 1 1000000 = false ∨ inR t 1 1000000 = false then (0, 2) else if leastI (parP r t) 1 24 ≤ 24 then (leastI (parP r t) 1 24, 0) else (0, 3)
theorem rep_b {r : Int} {n : Nat} (h : 1 ≤ r ∧ r ≤ 1000000) : ∀ j : Nat, (j : Int) < (List.replicate n r).length → 1 ≤ (List.replicate n r).getD j 0 ∧ (List.replicate n r).getD j 0 ≤ 1000000 := by
  intro j hj
  rw [List.length_replicate] at hj
  rw [List.getD_eq_getElem?_getD, List.getElem?_replicate, if_pos (by omega)]
  exact h
theorem rep_s (r k : Int) (h : 1 ≤ k) : List.map eI (List.replicate (k - 1).toNat r) ++ [eI r] = List.map eI (List.replicate k.toNat r) := by
  rw [show k.toNat = (k - 1).toNat + 1 by omega, List.replicate_succ']; simp
theorem tkR (r : Int) (n : Nat) : List.take n (List.drop 0 (List.map eI (List.replicate n r))) = List.map eI (List.replicate n r) := by
  rw [List.drop_zero]; exact List.take_of_length_le (by simp)
theorem repE (r k : Int) (h : 1 ≤ k) : List.replicate (k - 1).toNat r ++ [r] = List.replicate k.toNat r := by
  rw [show k.toNat = (k - 1).toNat + 1 by omega, List.replicate_succ']
theorem kN (k : Int) (h : 1 ≤ k) : (k - 1).toNat + 1 = k.toNat := by omega
theorem c_spec_AirwaysFor (r t : Int) : FnSem Try.prog 76 [In r, In t] [] (Is [In (airwaysFor r t).1, In (airwaysFor r t).2] []) := by
  have hp : ∀ (k : Int) (ys : List Int), 1 ≤ k → k ≤ 24 → (1 ≤ r ∧ r ≤ 1000000) → ys = List.replicate (k - 1).toNat r → FnSem Try.prog 163 [Lx (LI (ys ++ [r]))] [] (Is [In (parI (List.replicate k.toNat r))] []) := fun k ys a b c e => by
    rw [e, repE r k a]; exact c_spec_l08Parallel _ (rep_b c) (by rw [List.length_replicate]; omega)
  refine FnSem.walk (zs := zeroPV Try.prog) (by kernel_rfl) Try.func76 rfl Try.results76 (by kernel_rfl) (by kernel_rfl) (by kernel_rfl) fun hw hh => ?_
  obtain ⟨w0, w1, _⟩ := hw
  first | replace w0 := wf_I w0 | replace w0 := wf_Y w0 | replace w0 := wf_S w0 | replace w0 := wf_LI w0 | replace w0 := wf_LY w0 | replace w0 := wf_LLI w0 | replace w0 := wf_Ls w0 | skip
  first | replace w1 := wf_I w1 | replace w1 := wf_Y w1 | replace w1 := wf_S w1 | replace w1 := wf_LI w1 | replace w1 := wf_LY w1 | replace w1 := wf_LLI w1 | replace w1 := wf_Ls w1 | skip
  repeat' first
    | refine And.intro rfl ?_
    | refine GdF.mk (fun h => h) ?_
    | refine And.intro (Nat.succ_ne_zero _) ?_
    | refine And.intro (Nat.le_of_ble_eq_true rfl) ?_
    | refine SeqF.run ?_
    | refine ArgF.is (hp k ys (by omega) (by omega) (by omega) h4) ?_
    | refine ArgQ.is (fun hG => hp k ys (by omega) (by omega) (by omega) h4) rfl rfl ?_
    | refine LoopF.fix [0, 1] (Int × Nat × List Int) (fun (k, n, ys) => 1 ≤ k ∧ k ≤ 25 ∧ (1 ≤ r ∧ r ≤ 1000000) ∧ (∀ m, 1 ≤ m → m < k → parP r t m = false) ∧ ys = List.replicate (k - 1).toNat r ∧ ys.length = n ∧ (n : Int) = k - 1) (fun (k, n, ys) => [(7, In k), (6, .osl 0 0 n)]) (fun (k, n, ys) => [(0, Rw .flat (eI 0) (List.map eI ys))]) (fun (k, n, ys) => ((25 - k).toNat)) ((1, 0, [])) ?_
    | (refine LoopB.of (T := Int × Nat × List Int) ?_ ?_; rotate_left; rintro ⟨k, n, ys⟩ ⟨h0, h1, h2, h3, h4, h5, h6⟩; rotate_left)
    | refine MkF.row ?_
    | refine BndF.mk (fun _ => by omega) ?_
    | refine BndF.mk (fun _ => by simp only [List.length_map, List.length_cons, List.length_nil, List.length_append, List.length_set, List.length_replicate, iotaI_len]; omega) ?_
    | refine BndF.mk (fun hG => by simp only [forall_const, eq_self, not_true_eq_false, not_false_eq_true, or_false, false_or, or_self, or_true, true_or, and_true, true_and, and_false, false_and, decide_true, decide_false, Bool.not_true, Bool.not_false, decide_eq_true_eq, decide_eq_false_iff_not, ite_and_p, ite_or_p, Bool.decide_eq_true, Bool.and_eq_true, Bool.or_eq_true, Bool.not_eq_true', Bool.not_eq_false', Bool.and_eq_false_imp, Bool.or_eq_false_iff, bne_iff_ne, beq_iff_eq, bne_eq_false_iff_eq, beq_eq_false_iff_ne, gt_iff_lt, ge_iff_le, Int.not_lt, Int.not_le, ne_eq, Bool.true_eq_false, Bool.false_eq_true, reduceCtorEq, eta_Airway, eta_Fan, eta_Heading, eta_Mine, eta_Sensor, bytes_nil] at hG; (try simp only [List.length_map]); omega) ?_
    | refine EqI.mk _ (fun _ => wrapI (by omega) (by omega)) ?_
    | refine EqI.mk _ (fun _ => rfl) ?_
    | refine FlF.keep ?_
    | refine EqN.mk _ (Nat.zero_add _) ?_
    | refine EqN.mk (_ + 1) rfl ?_
    | refine EqN.mk _ (Int.toNat_natCast _) ?_
    | refine EqN.mk _ rfl ?_
    | refine EqL.mk _ (sn0 eI) ?_
    | refine EqL.mk _ (sn eI (by first | rfl | assumption | omega | (simp only [List.length_map, List.length_cons, List.length_nil, List.length_append, List.length_set, List.length_replicate, iotaI_len]; done) | (simp only [List.length_map, List.length_cons, List.length_nil, List.length_append, List.length_set, List.length_replicate, iotaI_len]; omega))) ?_
    | refine EqL.mk _ (ap0 eI) ?_
    | refine EqL.mk _ (ap eI (by first | rfl | assumption | omega | (simp only [List.length_map, List.length_cons, List.length_nil, List.length_append, List.length_set, List.length_replicate, iotaI_len]; done) | (simp only [List.length_map, List.length_cons, List.length_nil, List.length_append, List.length_set, List.length_replicate, iotaI_len]; omega))) ?_
    | refine EqL.mk _ (tk eI (by first | rfl | assumption | omega | (simp only [List.length_map, List.length_cons, List.length_nil, List.length_append, List.length_set, List.length_replicate, iotaI_len]; done) | (simp only [List.length_map, List.length_cons, List.length_nil, List.length_append, List.length_set, List.length_replicate, iotaI_len]; omega))) ?_
    | refine EqL.mk [] rfl ?_
    | refine EqL.mk [_] rfl ?_
    | refine EqL.mk _ rfl ?_
    | refine ArgF.is (c_spec_l03Res ..) ?_
    | refine ArgQ.is (fun hG => c_spec_l03Res ..) rfl rfl ?_
    | refine ArgF.is (c_spec_l08Parallel _ (by first | assumption | omega) (by first | assumption | omega)) ?_
    | refine ArgQ.is (fun hG => c_spec_l08Parallel _ (by first | assumption | omega) (by first | assumption | omega)) rfl rfl ?_
    | refine ArgQ.is (fun hG => c_spec_l08Parallel _ (by simp only [forall_const, eq_self, not_true_eq_false, not_false_eq_true, or_false, false_or, or_self, or_true, true_or, and_true, true_and, and_false, false_and, decide_true, decide_false, Bool.not_true, Bool.not_false, decide_eq_true_eq, decide_eq_false_iff_not, ite_and_p, ite_or_p, Bool.decide_eq_true, Bool.and_eq_true, Bool.or_eq_true, Bool.not_eq_true', Bool.not_eq_false', Bool.and_eq_false_imp, Bool.or_eq_false_iff, bne_iff_ne, beq_iff_eq, bne_eq_false_iff_eq, beq_eq_false_iff_ne, gt_iff_lt, ge_iff_le, Int.not_lt, Int.not_le, ne_eq, Bool.true_eq_false, Bool.false_eq_true, reduceCtorEq, eta_Airway, eta_Fan, eta_Heading, eta_Mine, eta_Sensor, bytes_nil] at hG; omega) (by simp only [forall_const, eq_self, not_true_eq_false, not_false_eq_true, or_false, false_or, or_self, or_true, true_or, and_true, true_and, and_false, false_and, decide_true, decide_false, Bool.not_true, Bool.not_false, decide_eq_true_eq, decide_eq_false_iff_not, ite_and_p, ite_or_p, Bool.decide_eq_true, Bool.and_eq_true, Bool.or_eq_true, Bool.not_eq_true', Bool.not_eq_false', Bool.and_eq_false_imp, Bool.or_eq_false_iff, bne_iff_ne, beq_iff_eq, bne_eq_false_iff_eq, beq_eq_false_iff_ne, gt_iff_lt, ge_iff_le, Int.not_lt, Int.not_le, ne_eq, Bool.true_eq_false, Bool.false_eq_true, reduceCtorEq, eta_Airway, eta_Fan, eta_Heading, eta_Mine, eta_Sensor, bytes_nil] at hG; omega)) rfl rfl ?_
    | refine CallF.mk (CallW.is [] true rfl ?_)
    | refine CallG.mk ?_
    | (refine CondF.mk (fun hb => ?_) (fun hb => ?_) <;> try simp only [forall_const, eq_self, not_true_eq_false, not_false_eq_true, or_false, false_or, or_self, or_true, true_or, and_true, true_and, and_false, false_and, decide_true, decide_false, Bool.not_true, Bool.not_false, decide_eq_true_eq, decide_eq_false_iff_not, ite_and_p, ite_or_p, Bool.decide_eq_true, Bool.and_eq_true, Bool.or_eq_true, Bool.not_eq_true', Bool.not_eq_false', Bool.and_eq_false_imp, Bool.or_eq_false_iff, bne_iff_ne, beq_iff_eq, bne_eq_false_iff_eq, beq_eq_false_iff_ne, gt_iff_lt, ge_iff_le, Int.not_lt, Int.not_le, ne_eq, Bool.true_eq_false, Bool.false_eq_true, reduceCtorEq, eta_Airway, eta_Fan, eta_Heading, eta_Mine, eta_Sensor] at hb)
    | apply BackF.auto3
    | refine BackB.mk ?_ ?_
    | refine RetF.auto (And.intro rfl ?_)
    | exact Is.mk rfl rfl
    | refine Is.mk ?_ rfl
    | refine Is.mk rfl ?_
    | refine Is.mk ?_ ?_
  all_goals try dsimp only
  all_goals try simp only [Bo, I, OB.row.injEq, AV.osl.injEq, eI_same,  List.cons.injEq, AV.p.injEq, PV.c.injEq, Value.int.injEq, Value.bool.injEq, and_true, true_and, ite_and_p, ite_or_p, Bool.decide_eq_true, eta_Airway, eta_Fan, eta_Heading, eta_Mine, eta_Sensor, airwaysFor]
  · rw [if_pos hb]; exact ⟨rfl, rfl⟩
  · have h : inR r 1 1000000 = true := by simpa using hb.1
    rw [inR_iff] at h
    exact ⟨by omega, by omega, h, fun m a b => by omega, rfl, rfl, rfl⟩
  · rw [if_neg (by rintro (e | e) <;> simp_all), leastI_at h0 (by omega) (decide_eq_true (by assumption)) h3, if_pos (by omega)]; exact ⟨rfl, rfl⟩
  · refine ⟨by omega, by omega, h2, fun m a b => ?_, ?_, by simp [h5], by omega⟩
    · by_cases e : m < k
      · exact h3 m a e
      · rw [show m = k by omega]; exact decide_eq_false (by omega)
    · rw [h4, repE r k h0, show (k + 1 - 1).toNat = k.toNat by omega]
  · omega
  · rw [if_neg (by rintro (e | e) <;> simp_all), leastI_no fun m a b => h3 m a (by omega), if_neg (by omega)]; exact ⟨rfl, rfl⟩
end Go.Proofs.Ytldmnanlaofbiaa
