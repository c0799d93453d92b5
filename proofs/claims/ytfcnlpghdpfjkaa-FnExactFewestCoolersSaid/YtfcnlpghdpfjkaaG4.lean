/- Contracts of functions of the program, and what they compute. Conditions: those that each theorem states. -/
import Derived.Test.YtfcnlpghdpfjkaaProg
import Derived.Test.YtfcnlpghdpfjkaaG1
set_option linter.unusedVariables false
set_option linter.unusedSimpArgs false
namespace Go.Proofs.Ytfcnlpghdpfjkaa
open Go.Av
attribute [local irreducible] Go.IntKind.wrap leastI rdZ rd rootI
set_option maxRecDepth 20000
set_option maxHeartbeats 4000000

theorem wrapU8 {n : Int} (h1 : 0 ≤ n) (h2 : n ≤ 18446744073709551615) : IntKind.u64.wrap n = n := (wrap_eq_iff .u64 n).2 ⟨h1, h2⟩
theorem and32 {x : Int} (h0 : 0 ≤ x) (h1 : x ≤ 4294967295) : bitI .and .u64 x 4294967295 = x := by
  have e : (BitVec.ofInt 64 x &&& BitVec.ofInt 64 4294967295).toNat = x.toNat := by
    rw [BitVec.toNat_and]
    have a : (BitVec.ofInt 64 x).toNat = x.toNat := by rw [BitVec.toNat_ofInt]; omega
    have b : (BitVec.ofInt 64 4294967295).toNat = 2 ^ 32 - 1 := by decide
    rw [a, b, Nat.and_two_pow_sub_one_eq_mod]
    exact Nat.mod_eq_of_lt (by omega)
  show IntKind.u64.wrap ((BitVec.ofInt 64 x &&& BitVec.ofInt 64 4294967295).toNat : Int) = x
  rw [e, wrapU8 (by omega) (by omega)]; omega
theorem shr32 {x : Int} (h0 : 0 ≤ x) (h1 : x ≤ 4294967295) : x.fdiv (2 ^ (min (Int.toNat 32) (IntKind.bits .u64))) = 0 := by
  rw [Int.fdiv_eq_ediv_of_nonneg _ (by decide)]
  show x / 4294967296 = 0
  omega
theorem c_math_bits_Mul64 (x y : Int) (hx : 0 ≤ x ∧ x ≤ 1000) (hy : 0 ≤ y ∧ y ≤ 1000) : FnSem Try.prog 214 [I .u64 x, I .u64 y] [] (Is [I .u64 0, I .u64 (x * y)] []) := by
  have hm := mulB' hx.1 hx.2 hy.1 hy.2
  refine FnSem.walk (zs := zeroPV Try.prog) (by kernel_rfl) Try.func214 rfl Try.results214 (by kernel_rfl) (by kernel_rfl) (by kernel_rfl) fun hw hh => ?_
  obtain ⟨w0, w1, _⟩ := hw
  first | replace w0 := wf_I w0 | replace w0 := wf_Y w0 | replace w0 := wf_S w0 | replace w0 := wf_LI w0 | replace w0 := wf_LY w0 | replace w0 := wf_LLI w0 | replace w0 := wf_Ls w0 | skip
  first | replace w1 := wf_I w1 | replace w1 := wf_Y w1 | replace w1 := wf_S w1 | replace w1 := wf_LI w1 | replace w1 := wf_LY w1 | replace w1 := wf_LLI w1 | replace w1 := wf_Ls w1 | skip
  repeat' first
    | refine And.intro rfl ?_
    | refine GdF.mk (fun h => h) ?_
    | refine And.intro (Nat.succ_ne_zero _) ?_
    | refine And.intro (Nat.le_of_ble_eq_true rfl) ?_
    | refine SeqF.run ?_
    | refine EqI.mk _ (fun _ => and32 (by omega) (by omega)) ?_
    | refine EqI.mk _ (fun _ => shr32 (by omega) (by omega)) ?_
    | refine EqI.mk _ (fun _ => wrapU8 (by omega) (by omega)) ?_
    | refine GhF.go ?_
    | refine BndF.mk (fun _ => by omega) ?_
    | refine BndF.mk (fun _ => by simp only [List.length_map, List.length_cons, List.length_nil, List.length_append, List.length_set, List.length_replicate, iotaI_len]; omega) ?_
    | refine EqI.mk _ (fun _ => wrapI (by omega) (by omega)) ?_
    | refine EqI.mk _ (fun _ => rfl) ?_
    | (refine CondF.mk (fun hb => ?_) (fun hb => ?_) <;> try simp only [forall_const, eq_self, not_true_eq_false, not_false_eq_true, or_false, false_or, or_self, or_true, true_or, and_true, true_and, and_false, false_and, decide_true, decide_false, Bool.not_true, Bool.not_false, decide_eq_true_eq, decide_eq_false_iff_not, ite_and_p, ite_or_p, Bool.decide_eq_true, Bool.and_eq_true, Bool.or_eq_true, Bool.not_eq_true', Bool.not_eq_false', Bool.and_eq_false_imp, Bool.or_eq_false_iff, bne_iff_ne, beq_iff_eq, bne_eq_false_iff_eq, beq_eq_false_iff_ne, gt_iff_lt, ge_iff_le, Int.not_lt, Int.not_le, ne_eq, Bool.true_eq_false, Bool.false_eq_true, reduceCtorEq, eta_Airway, eta_Fan, eta_Mine] at hb)
    | refine RetF.auto (And.intro rfl ?_)
    | exact Is.mk rfl rfl
    | refine Is.mk ?_ rfl
    | refine Is.mk rfl ?_
    | refine Is.mk ?_ ?_
  have ax := and32 (x := x) (by omega) (by omega)
  have ay := and32 (x := y) (by omega) (by omega)
  have a0 := and32 (x := 0) (by omega) (by omega)
  have wm := wrapU8 (n := x * y) (by omega) (by omega)
  have k0 := wrapU8 (n := 0) (by omega) (by omega)
  have sm := shr32 (x := x * y) (by omega) (by omega)
  have s0 := shr32 (x := 0) (by omega) (by omega)
  simp only [ax, ay, a0, wm, k0, sm, s0, Int.zero_mul, Int.mul_zero, Int.zero_add, Int.add_zero]
  rfl
theorem c_math_bits_Mul (x y : Int) (hx : 0 ≤ x ∧ x ≤ 1000) (hy : 0 ≤ y ∧ y ≤ 1000) : FnSem Try.prog 192 [I .u64 x, I .u64 y] [] (Is [I .u64 0, I .u64 (x * y)] []) := by
  refine FnSem.walk (zs := zeroPV Try.prog) (by kernel_rfl) Try.func192 rfl Try.results192 (by kernel_rfl) (by kernel_rfl) (by kernel_rfl) fun hw hh => ?_
  obtain ⟨w0, w1, _⟩ := hw
  first | replace w0 := wf_I w0 | replace w0 := wf_Y w0 | replace w0 := wf_S w0 | replace w0 := wf_LI w0 | replace w0 := wf_LY w0 | replace w0 := wf_LLI w0 | replace w0 := wf_Ls w0 | skip
  first | replace w1 := wf_I w1 | replace w1 := wf_Y w1 | replace w1 := wf_S w1 | replace w1 := wf_LI w1 | replace w1 := wf_LY w1 | replace w1 := wf_LLI w1 | replace w1 := wf_Ls w1 | skip
  repeat' first
    | refine And.intro rfl ?_
    | refine GdF.mk (fun h => h) ?_
    | refine And.intro (Nat.succ_ne_zero _) ?_
    | refine And.intro (Nat.le_of_ble_eq_true rfl) ?_
    | refine SeqF.run ?_
    | refine ArgF.is (c_math_bits_Mul64 x y hx hy) ?_
    | refine ArgQ.is (fun hG => c_math_bits_Mul64 x y hx hy) rfl rfl ?_
    | refine GhF.go ?_
    | refine BndF.mk (fun _ => by omega) ?_
    | refine BndF.mk (fun _ => by simp only [List.length_map, List.length_cons, List.length_nil, List.length_append, List.length_set, List.length_replicate, iotaI_len]; omega) ?_
    | refine EqI.mk _ (fun _ => wrapI (by omega) (by omega)) ?_
    | refine EqI.mk _ (fun _ => rfl) ?_
    | refine EqL.mk [] rfl ?_
    | refine EqL.mk [_] rfl ?_
    | refine EqL.mk _ rfl ?_
    | refine ArgF.is (c_math_bits_Mul32 ..) ?_
    | refine ArgQ.is (fun hG => c_math_bits_Mul32 ..) rfl rfl ?_
    | refine ArgF.is (c_math_bits_Mul64 _ _ (by first | assumption | omega) (by first | assumption | omega)) ?_
    | refine ArgQ.is (fun hG => c_math_bits_Mul64 _ _ (by first | assumption | omega) (by first | assumption | omega)) rfl rfl ?_
    | refine CallF.mk (CallW.is [] true rfl ?_)
    | refine CallG.mk ?_
    | (refine CondF.mk (fun hb => ?_) (fun hb => ?_) <;> try simp only [forall_const, eq_self, not_true_eq_false, not_false_eq_true, or_false, false_or, or_self, or_true, true_or, and_true, true_and, and_false, false_and, decide_true, decide_false, Bool.not_true, Bool.not_false, decide_eq_true_eq, decide_eq_false_iff_not, ite_and_p, ite_or_p, Bool.decide_eq_true, Bool.and_eq_true, Bool.or_eq_true, Bool.not_eq_true', Bool.not_eq_false', Bool.and_eq_false_imp, Bool.or_eq_false_iff, bne_iff_ne, beq_iff_eq, bne_eq_false_iff_eq, beq_eq_false_iff_ne, gt_iff_lt, ge_iff_le, Int.not_lt, Int.not_le, ne_eq, Bool.true_eq_false, Bool.false_eq_true, reduceCtorEq, eta_Airway, eta_Fan, eta_Mine] at hb)
    | refine RetF.auto (And.intro rfl ?_)
    | exact Is.mk rfl rfl
    | refine Is.mk ?_ rfl
    | refine Is.mk rfl ?_
    | refine Is.mk ?_ ?_
theorem rep_get {x : Int} {ys : List Int} {m c : Nat} (hc : c ≤ m) (hm : m + c ≤ ys.length) (h : ∀ j : Nat, j < m → ys.getD j 0 = x) : ∀ j : Nat, j < m + c → (ys.take m ++ (ys.take m).take c ++ ys.drop (m + c)).getD j 0 = x := by
  intro j hj
  have hl : (ys.take m).length = m := by simp; omega
  have hl2 : ((ys.take m).take c).length = c := by simp; omega
  rw [List.getD_eq_getElem?_getD, List.append_assoc]
  by_cases e : j < m
  · rw [List.getElem?_append_left (by omega), List.getElem?_take, if_pos e, ← List.getD_eq_getElem?_getD]; exact h j e
  · rw [List.getElem?_append_right (by omega), List.getElem?_append_left (by omega), List.getElem?_take, if_pos (by omega), List.getElem?_take, if_pos (by omega), ← List.getD_eq_getElem?_getD]
    exact h _ (by omega)
theorem rep_all {x : Int} {n : Nat} {ys : List Int} (hl : ys.length = n) (h : ∀ j : Nat, j < n → ys.getD j 0 = x) : ys = List.replicate n x := by
  refine ext_getD 0 (by simp [hl]) fun j hj => ?_
  rw [h j (by omega), List.getD_eq_getElem?_getD, List.getElem?_replicate, if_pos (by omega)]; rfl
theorem flI (xs : List Int) : ∀ e ∈ List.map eI xs, ∀ p ∈ e, ∃ v, p = PV.c v := by
  intro e he p hp
  obtain ⟨x, _, rfl⟩ := List.mem_map.1 he
  exact ⟨_, List.mem_singleton.1 hp⟩
theorem cp1 (x : Int) (n : Nat) : List.take 0 (List.map eI (List.replicate n 0)) ++ List.take (min 1 n) (List.map eI [x]) ++ List.drop (0 + min 1 n) (List.map eI (List.replicate n 0)) = List.map eI ([x].take (min 1 n) ++ (List.replicate n 0).drop (min 1 n)) := by
  simp [List.map_take, List.map_drop, List.map_append]
theorem cp2 (ys : List Int) (m k c : Nat) : List.take m (List.map eI ys) ++ List.take c (List.map eI (ys.take k)) ++ List.drop (m + c) (List.map eI ys) = List.map eI (ys.take m ++ (ys.take k).take c ++ ys.drop (m + c)) := by
  simp [List.map_take, List.map_drop, List.map_append]
theorem cp3 (ys : List Int) (m : Nat) : List.take m (List.drop 0 (List.map eI ys)) = List.map eI (ys.take m) := by
  simp [List.map_take]
theorem repA (x n : Int) (hn : 0 ≤ n) : 0 ≤ ((min 1 n.toNat : Nat) : Int) ∧ ((min 1 n.toNat : Nat) : Int) ≤ n ∧ (n = 0 ∨ 1 ≤ ((min 1 n.toNat : Nat) : Int)) ∧ (List.take (min 1 n.toNat) [x] ++ List.drop (min 1 n.toNat) (List.replicate n.toNat 0)).length = n.toNat ∧
    ∀ j : Nat, j < ((min 1 n.toNat : Nat) : Int).toNat → (List.take (min 1 n.toNat) [x] ++ List.drop (min 1 n.toNat) (List.replicate n.toNat 0)).getD j 0 = x := by
  refine ⟨by omega, by omega, by omega, ?_, fun j hj => ?_⟩
  · simp only [List.length_append, List.length_take, List.length_drop, List.length_replicate, List.length_cons, List.length_nil]; omega
  · have e : min 1 n.toNat = 1 := by omega
    have j0 : j = 0 := by omega
    rw [e, j0]; rfl
theorem repB (x n m : Int) (ys : List Int) (h0 : 0 ≤ m) (h1 : m ≤ n) (h2 : n = 0 ∨ 1 ≤ m) (h3 : ys.length = n.toNat) (h4 : ∀ j : Nat, j < m.toNat → ys.getD j 0 = x) (hb : m < n) (c : Nat) (hc : c = min (List.map eI (List.take m.toNat ys)).length (n.toNat - m.toNat)) :
    (0 ≤ m + (c : Int) ∧ m + (c : Int) ≤ n ∧ (n = 0 ∨ 1 ≤ m + (c : Int)) ∧ (List.take m.toNat ys ++ List.take c (List.take m.toNat ys) ++ List.drop (m.toNat + c) ys).length = n.toNat ∧
      ∀ j : Nat, j < (m + (c : Int)).toNat → (List.take m.toNat ys ++ List.take c (List.take m.toNat ys) ++ List.drop (m.toNat + c) ys).getD j 0 = x) ∧ (n - (m + (c : Int))).toNat < (n - m).toNat := by
  have hc' : c = min m.toNat (n.toNat - m.toNat) := by rw [hc, List.length_map, List.length_take, h3]; omega
  have hm : 1 ≤ m := by omega
  refine ⟨⟨by omega, by omega, by omega, ?_, fun j hj => ?_⟩, by omega⟩
  · simp only [List.length_append, List.length_take, List.length_drop]; omega
  · exact rep_get (by omega) (by omega) h4 j (by omega)
theorem c_slices_Repeat_int64_int64 (x n : Int) (hn : 0 ≤ n ∧ n ≤ 1000) : FnSem Try.prog 138 [Lx (LI [x]), In n] [] (Is [.osl 0 0 n.toNat] [Rw .flat (eI 0) ((List.replicate n.toNat x).map eI)]) := by
  have hl1 : [x].length = 1 := rfl
  have hw1 : IntKind.u64.wrap (([x].length : Nat) : Int) = 1 := wrapU8 (by rw [hl1]; decide) (by rw [hl1]; decide)
  have hw2 : IntKind.u64.wrap n = n := wrapU8 (by omega) (by omega)
  have hw3 : IntKind.u64.wrap (([x].length : Nat) : Int) * IntKind.u64.wrap n = n := by rw [hw1, hw2]; omega
  have hw4 : IntKind.i64.wrap (IntKind.u64.wrap (([x].length : Nat) : Int) * IntKind.u64.wrap n) = n := by rw [hw3]; exact (wrap_eq_iff .i64 n).2 ⟨by simp only [kmin]; omega, by simp only [kmax]; omega⟩
  refine FnSem.walk (zs := zeroPV Try.prog) (by kernel_rfl) Try.func138 rfl Try.results138 (by kernel_rfl) (by kernel_rfl) (by kernel_rfl) fun hw hh => ?_
  obtain ⟨w0, w1, _⟩ := hw
  first | replace w0 := wf_LI w0 | skip
  first | replace w1 := wf_I w1 | skip
  repeat' first
    | refine And.intro rfl ?_
    | refine GdF.mk (fun h => h) ?_
    | refine And.intro (Nat.succ_ne_zero _) ?_
    | refine And.intro (Nat.le_of_ble_eq_true rfl) ?_
    | refine SeqF.run ?_
    | refine ArgF.is (c_math_bits_Mul (IntKind.u64.wrap (([x].length : Nat) : Int)) (IntKind.u64.wrap n) (by rw [hw1]; omega) (by rw [hw2]; exact hn)) ?_
    | refine ArgQ.is (fun hG => c_math_bits_Mul (IntKind.u64.wrap (([x].length : Nat) : Int)) (IntKind.u64.wrap n) (by rw [hw1]; omega) (by rw [hw2]; exact hn)) rfl rfl ?_
    | refine FlF.flat (flI _) ?_
    | refine EqN.mk n.toNat (by first | rw [hw3] | rw [hw4]) ?_
    | refine EqN.mk (min 1 n.toNat) rfl ?_
    | refine EqN.mk m.toNat rfl ?_
    | refine EqN.mk (n.toNat - m.toNat) rfl ?_
    | refine BndF.mk (fun _ => (show m.toNat ≤ n.toNat ∧ n.toNat ≤ n.toNat by omega)) ?_
    | refine BndF.mk (fun _ => (show 0 ≤ m.toNat ∧ m.toNat ≤ n.toNat by omega)) ?_
    | refine EqL.mk _ (cp1 x n.toNat) ?_
    | refine EqL.mk _ (cp3 _ _) ?_
    | refine EqL.mk _ (cp2 _ _ _ _) ?_
    | refine LoopF.at 8 rfl (LoopF.fix [7] (Int × List Int) (fun (m, ys) => 0 ≤ m ∧ m ≤ n ∧ (n = 0 ∨ 1 ≤ m) ∧ ys.length = n.toNat ∧ (∀ j : Nat, j < m.toNat → ys.getD j 0 = x)) (fun (m, ys) => [(8, In m)]) (fun (m, ys) => [(0, Rw .flat (eI 0) (ys.map eI))]) (fun (m, ys) => ((n - m).toNat)) ((((min 1 n.toNat : Nat) : Int), [x].take (min 1 n.toNat) ++ (List.replicate n.toNat 0).drop (min 1 n.toNat))) ?_)
    | (refine LoopB.of (T := Int × List Int) ?_ ?_; rotate_left; rintro ⟨m, ys⟩ ⟨h0, h1, h2, h3, h4⟩; rotate_left)
    | (exfalso; omega)
    | refine GhF.go ?_
    | refine GdS.keep ?_
    | refine DrawG.old (DrawF.lex (by decide +kernel) ?_)
    | refine MkF.row ?_
    | refine BndF.mk (fun _ => by omega) ?_
    | refine BndF.mk (fun _ => by simp only [List.length_map, List.length_cons, List.length_nil, List.length_append, List.length_set, List.length_replicate, iotaI_len]; omega) ?_
    | refine BndF.mk (fun hG => by simp only [forall_const, eq_self, not_true_eq_false, not_false_eq_true, or_false, false_or, or_self, or_true, true_or, and_true, true_and, and_false, false_and, decide_true, decide_false, Bool.not_true, Bool.not_false, decide_eq_true_eq, decide_eq_false_iff_not, ite_and_p, ite_or_p, Bool.decide_eq_true, Bool.and_eq_true, Bool.or_eq_true, Bool.not_eq_true', Bool.not_eq_false', Bool.and_eq_false_imp, Bool.or_eq_false_iff, bne_iff_ne, beq_iff_eq, bne_eq_false_iff_eq, beq_eq_false_iff_ne, gt_iff_lt, ge_iff_le, Int.not_lt, Int.not_le, ne_eq, Bool.true_eq_false, Bool.false_eq_true, reduceCtorEq, eta_Airway, eta_Fan, eta_Mine, bytes_nil] at hG; (try simp only [List.length_map]); omega) ?_
    | refine EqI.mk _ (fun _ => wrapI (by omega) (by omega)) ?_
    | refine EqI.mk _ (fun _ => rfl) ?_
    | refine FlF.keep ?_
    | refine EqN.mk _ (ln eI) ?_
    | refine EqN.mk _ (Nat.zero_add _) ?_
    | refine EqN.mk _ (Int.toNat_natCast _) ?_
    | refine EqN.mk _ rfl ?_
    | refine EqL.mk _ (tk eI (by first | rfl | assumption | omega | (simp only [List.length_map, List.length_cons, List.length_nil, List.length_append, List.length_set, List.length_replicate, iotaI_len]; done) | (simp only [List.length_map, List.length_cons, List.length_nil, List.length_append, List.length_set, List.length_replicate, iotaI_len]; omega))) ?_
    | refine EqL.mk _ (rp eI 0) ?_
    | refine EqL.mk _ (dt eI) ?_
    | refine EqL.mk [] rfl ?_
    | refine EqL.mk [_] rfl ?_
    | refine EqL.mk _ rfl ?_
    | refine ArgF.is (c_math_bits_Mul _ _ (by first | assumption | omega) (by first | assumption | omega)) ?_
    | refine ArgQ.is (fun hG => c_math_bits_Mul _ _ (by first | assumption | omega) (by first | assumption | omega)) rfl rfl ?_
    | refine ArgQ.is (fun hG => c_math_bits_Mul _ _ (by simp only [forall_const, eq_self, not_true_eq_false, not_false_eq_true, or_false, false_or, or_self, or_true, true_or, and_true, true_and, and_false, false_and, decide_true, decide_false, Bool.not_true, Bool.not_false, decide_eq_true_eq, decide_eq_false_iff_not, ite_and_p, ite_or_p, Bool.decide_eq_true, Bool.and_eq_true, Bool.or_eq_true, Bool.not_eq_true', Bool.not_eq_false', Bool.and_eq_false_imp, Bool.or_eq_false_iff, bne_iff_ne, beq_iff_eq, bne_eq_false_iff_eq, beq_eq_false_iff_ne, gt_iff_lt, ge_iff_le, Int.not_lt, Int.not_le, ne_eq, Bool.true_eq_false, Bool.false_eq_true, reduceCtorEq, eta_Airway, eta_Fan, eta_Mine, bytes_nil] at hG; omega) (by simp only [forall_const, eq_self, not_true_eq_false, not_false_eq_true, or_false, false_or, or_self, or_true, true_or, and_true, true_and, and_false, false_and, decide_true, decide_false, Bool.not_true, Bool.not_false, decide_eq_true_eq, decide_eq_false_iff_not, ite_and_p, ite_or_p, Bool.decide_eq_true, Bool.and_eq_true, Bool.or_eq_true, Bool.not_eq_true', Bool.not_eq_false', Bool.and_eq_false_imp, Bool.or_eq_false_iff, bne_iff_ne, beq_iff_eq, bne_eq_false_iff_eq, beq_eq_false_iff_ne, gt_iff_lt, ge_iff_le, Int.not_lt, Int.not_le, ne_eq, Bool.true_eq_false, Bool.false_eq_true, reduceCtorEq, eta_Airway, eta_Fan, eta_Mine, bytes_nil] at hG; omega)) rfl rfl ?_
    | refine CallF.mk (CallW.is [] true rfl ?_)
    | refine CallG.mk ?_
    | (refine CondF.mk (fun hb => ?_) (fun hb => ?_) <;> try simp only [forall_const, eq_self, not_true_eq_false, not_false_eq_true, or_false, false_or, or_self, or_true, true_or, and_true, true_and, and_false, false_and, decide_true, decide_false, Bool.not_true, Bool.not_false, decide_eq_true_eq, decide_eq_false_iff_not, ite_and_p, ite_or_p, Bool.decide_eq_true, Bool.and_eq_true, Bool.or_eq_true, Bool.not_eq_true', Bool.not_eq_false', Bool.and_eq_false_imp, Bool.or_eq_false_iff, bne_iff_ne, beq_iff_eq, bne_eq_false_iff_eq, beq_eq_false_iff_ne, gt_iff_lt, ge_iff_le, Int.not_lt, Int.not_le, ne_eq, Bool.true_eq_false, Bool.false_eq_true, reduceCtorEq, eta_Airway, eta_Fan, eta_Mine] at hb)
    | apply BackF.auto2
    | refine BackB.mk ?_ ?_
    | refine RetF.auto (And.intro rfl ?_)
    | exact Is.mk rfl rfl
    | refine Is.mk ?_ rfl
    | refine Is.mk rfl ?_
    | refine Is.mk ?_ ?_
  · exact repA x n hn.1
  · exact (repB x n m ys h0 h1 h2 h3 h4 (by omega) _ rfl).1
  · exact (repB x n m ys h0 h1 h2 h3 h4 (by omega) _ rfl).2
  · rw [rep_all h3 (fun j hj => h4 j (by omega))]; rfl
end Go.Proofs.Ytfcnlpghdpfjkaa
