/- Contracts of functions of the program, and what they compute. Conditions: those that each theorem states. -/
import Derived.Test.YtpckcolkehgdaaaProg
import Derived.Test.YtpckcolkehgdaaaC6
import Derived.Test.YtpckcolkehgdaaaT1
set_option linter.unusedVariables false
set_option linter.unusedSimpArgs false
namespace Go.Proofs.Ytpckcolkehgdaaa
open Go.Av
attribute [local irreducible] Go.IntKind.wrap bitI kpN hmN dfN flN bitsN okLk leastI updM arL nxN mvN stsN kpS
set_option maxRecDepth 20000
set_option maxHeartbeats 8000000

/-! Sets of doors: states as texts; how many states there are. -/
def chB (b : Bool) : UInt8 := if b = true then 111 else 120
def txS (bs : List Bool) : ByteArray := ⟨(bs.map chB).toArray⟩
theorem txS_size {bs : List Bool} : (txS bs).size = bs.length := by unfold txS; show ((bs.map chB).toArray).size = _; simp
theorem txS_app {xs ys : List Bool} : txS xs ++ txS ys = txS (xs ++ ys) := by
  apply ByteArray.ext
  rw [ByteArray.data_append]
  unfold txS; simp
theorem txS_s {bs : List Bool} {i : Int} (h0 : 0 ≤ i) (h : i < bs.length) : txS (bs.take (i + 1).toNat) = txS (bs.take i.toNat) ++ txS [bs.getD i.toNat false] := by
  rw [txS_app, take_snoc h0 h false]
theorem txS_at {bs : List Bool} {i : Int} (h0 : 0 ≤ i) (h : i < bs.length) : (byteAt (txS bs) i.toNat == 111) = bs.getD i.toNat false := by
  unfold byteAt txS
  simp only [List.getD_eq_getElem?_getD, List.getElem?_map, List.getElem?_eq_getElem (show i.toNat < bs.length by omega), Option.map_some, Option.getD_some]
  cases bs[i.toNat] <;> rfl
theorem strB {t : ByteArray} {bs : List Bool} {i : Int} {c : UInt8} (h2 : t = txS (bs.take i.toNat)) (h : bs.length ≤ 8) : t.size + (ByteArray.mk #[c]).size ≤ 9223372036854775807 := by
  have e : t.size = (bs.take i.toNat).length := by rw [h2, txS_size]
  rw [List.length_take] at e
  show t.size + 1 ≤ 9223372036854775807
  omega
theorem c_impl_StatesText (bs : List Bool) (h : bs.length ≤ 8) : FnSem Try.prog 40 [Lx (LB bs)] [] (Is [Str (txS bs)] []) := by
  refine FnSem.walk (zs := zeroPV Try.prog) (by kernel_rfl) Try.func40 rfl Try.results40 (by kernel_rfl) (by kernel_rfl) (by kernel_rfl) fun hw hh => ?_
  obtain ⟨w0, _⟩ := hw
  first | replace w0 := wf_I w0 | replace w0 := wf_Y w0 | replace w0 := wf_S w0 | replace w0 := wf_LI w0 | replace w0 := wf_LY w0 | replace w0 := wf_LLI w0 | replace w0 := wf_Ls w0 | skip
  repeat' first
    | refine And.intro rfl ?_
    | refine GdF.mk (fun h => h) ?_
    | refine And.intro (Nat.succ_ne_zero _) ?_
    | refine And.intro (Nat.le_of_ble_eq_true rfl) ?_
    | refine SeqF.run ?_
    | refine LoopF.at 5 rfl (LoopF.fix [9, 10] (ByteArray × Int) (fun (t, i) => 0 ≤ i ∧ i ≤ bs.length ∧ t = txS (bs.take i.toNat)) (fun (t, i) => [(3, Str t), (11, In i)]) (fun (t, i) => []) (fun (t, i) => ((bs.length - i).toNat)) ((ByteArray.empty, 0)) ?_)
    | (refine LoopB.of (T := ByteArray × Int) ?_ ?_; rotate_left; rintro ⟨t, i⟩ ⟨h0, h1, h2⟩; rotate_left)
    | refine BndF.mk (fun _ => strB h2 h) ?_
    | refine GhF.go ?_
    | refine EqP.mk _ (gm eB false rfl) ?_
    | refine BndF.mk (fun _ => by omega) ?_
    | refine BndF.mk (fun _ => by simp only [List.length_map, List.length_cons, List.length_nil, List.length_append, List.length_set, List.length_replicate, iotaI_len]; omega) ?_
    | refine EqI.mk _ (fun _ => wrapI (by omega) (by omega)) ?_
    | refine EqI.mk _ (fun _ => rfl) ?_
    | refine EqN.mk _ (ln eB) ?_
    | refine EqN.mk _ (Nat.zero_add _) ?_
    | refine EqN.mk _ (Int.toNat_natCast _) ?_
    | refine EqN.mk _ rfl ?_
    | (refine CondF.mk (fun hb => ?_) (fun hb => ?_) <;> try simp only [forall_const, eq_self, not_true_eq_false, not_false_eq_true, or_false, false_or, or_self, or_true, true_or, and_true, true_and, and_false, false_and, decide_true, decide_false, Bool.not_true, Bool.not_false, decide_eq_true_eq, decide_eq_false_iff_not, ite_and_p, ite_or_p, Bool.decide_eq_true, Bool.and_eq_true, Bool.or_eq_true, Bool.not_eq_true', Bool.not_eq_false', Bool.and_eq_false_imp, Bool.or_eq_false_iff, bne_iff_ne, beq_iff_eq, bne_eq_false_iff_eq, beq_eq_false_iff_ne, gt_iff_lt, ge_iff_le, Int.not_lt, Int.not_le, ne_eq, Bool.true_eq_false, Bool.false_eq_true, reduceCtorEq, eta_Airway, eta_Fan, eta_Mine] at hb)
    | apply BackF.auto2
    | refine BackB.mk ?_ ?_
    | refine RetF.auto (And.intro rfl ?_)
    | exact Is.mk rfl rfl
    | refine Is.mk ?_ rfl
    | refine Is.mk rfl ?_
    | refine Is.mk ?_ ?_
  all_goals try dsimp only
  all_goals first
    | omega
    | exact ⟨by omega, by omega, rfl⟩
    | (refine ⟨by omega, by omega, ?_⟩; rw [txS_s h0 (by assumption), ← h2, hb]; rfl)
    | (rw [h2, List.take_of_length_le (by omega)])
    | (exfalso; omega)
    | skip
theorem tkBx {xs bs : List Bool} {k : Nat} {i : Int} (h2 : k = xs.length) (h3 : xs = bs.take i.toNat) (hi : (bs.length : Int) ≤ i) : ((xs.map eB).drop 0).take k = bs.map eB := by
  rw [List.take_of_length_le (by omega)] at h3
  subst h3 h2; rw [List.drop_zero, List.take_of_length_le (by simp)]
theorem c_impl_ReadStates (bs : List Bool) (h : bs.length ≤ 8) : FnSem Try.prog 39 [Str (txS bs)] [] (Is [.osl 0 0 bs.length, Bo true] [Rw .flat (eB false) (bs.map eB)]) := by
  have hs := txS_size (bs := bs)
  refine FnSem.walk (zs := zeroPV Try.prog) (by kernel_rfl) Try.func39 rfl Try.results39 (by kernel_rfl) (by kernel_rfl) (by kernel_rfl) fun hw hh => ?_
  obtain ⟨w0, _⟩ := hw
  first | replace w0 := wf_S w0 | skip
  repeat' first
    | refine And.intro rfl ?_
    | refine GdF.mk (fun h => h) ?_
    | refine And.intro (Nat.succ_ne_zero _) ?_
    | refine And.intro (Nat.le_of_ble_eq_true rfl) ?_
    | refine SeqF.run ?_
    | refine LoopF.at 5 rfl (LoopF.fix [0, 10] (Nat × List Bool × Int) (fun (k, xs, i) => 0 ≤ i ∧ i ≤ bs.length ∧ k = xs.length ∧ xs = bs.take i.toNat) (fun (k, xs, i) => [(4, .osl 0 0 k), (11, In i)]) (fun (k, xs, i) => [(0, Rw .flat (eB false) (xs.map eB))]) (fun (k, xs, i) => ((bs.length - i).toNat)) ((0, [], 0)) ?_)
    | (refine LoopB.of (T := Nat × List Bool × Int) ?_ ?_; rotate_left; rintro ⟨k, xs, i⟩ ⟨h0, h1, h2, h3⟩; rotate_left)
    | refine BndF.mk (fun _ => by have e := congrArg List.length h3; rw [List.length_take] at e; omega) ?_
    | refine EqL.mk _ (tkBx h2 h3 (by omega)) ?_
    | refine ArgF.is (c_impl_StatesText bs h) ?_
    | refine ArgQ.is (fun hG => c_impl_StatesText bs h) rfl rfl ?_
    | refine GhF.go ?_
    | refine MkF.row ?_
    | refine BndF.mk (fun _ => by omega) ?_
    | refine BndF.mk (fun _ => by simp only [List.length_map, List.length_cons, List.length_nil, List.length_append, List.length_set, List.length_replicate, iotaI_len]; omega) ?_
    | refine EqI.mk _ (fun _ => wrapI (by omega) (by omega)) ?_
    | refine EqI.mk _ (fun _ => rfl) ?_
    | refine FlF.keep ?_
    | refine EqN.mk _ (ln eB) ?_
    | refine EqN.mk _ (Nat.zero_add _) ?_
    | refine EqN.mk (_ + 1) rfl ?_
    | refine EqN.mk _ (Int.toNat_natCast _) ?_
    | refine EqN.mk _ rfl ?_
    | refine EqL.mk _ (sn0 eB) ?_
    | refine EqL.mk _ (sn eB (by first | rfl | assumption | omega | (simp only [List.length_map, List.length_cons, List.length_nil, List.length_append, List.length_set, List.length_replicate, iotaI_len]; done) | (simp only [List.length_map, List.length_cons, List.length_nil, List.length_append, List.length_set, List.length_replicate, iotaI_len]; omega))) ?_
    | refine EqL.mk _ (ap0 eB) ?_
    | refine EqL.mk _ (ap eB (by first | rfl | assumption | omega | (simp only [List.length_map, List.length_cons, List.length_nil, List.length_append, List.length_set, List.length_replicate, iotaI_len]; done) | (simp only [List.length_map, List.length_cons, List.length_nil, List.length_append, List.length_set, List.length_replicate, iotaI_len]; omega))) ?_
    | refine EqL.mk _ (tk eB (by first | rfl | assumption | omega | (simp only [List.length_map, List.length_cons, List.length_nil, List.length_append, List.length_set, List.length_replicate, iotaI_len]; done) | (simp only [List.length_map, List.length_cons, List.length_nil, List.length_append, List.length_set, List.length_replicate, iotaI_len]; omega))) ?_
    | refine EqL.mk _ (dt eB) ?_
    | refine EqL.mk [] rfl ?_
    | refine EqL.mk [_] rfl ?_
    | refine EqL.mk _ rfl ?_
    | refine ArgF.is (c_impl_StatesText _ (by first | assumption | omega)) ?_
    | refine ArgQ.is (fun hG => c_impl_StatesText _ (by first | assumption | omega)) rfl rfl ?_
    | refine CallF.mk (CallW.is [] true rfl ?_)
    | refine CallG.mk ?_
    | (refine CondF.mk (fun hb => ?_) (fun hb => ?_) <;> try simp only [forall_const, eq_self, not_true_eq_false, not_false_eq_true, or_false, false_or, or_self, or_true, true_or, and_true, true_and, and_false, false_and, decide_true, decide_false, Bool.not_true, Bool.not_false, decide_eq_true_eq, decide_eq_false_iff_not, ite_and_p, ite_or_p, Bool.decide_eq_true, Bool.and_eq_true, Bool.or_eq_true, Bool.not_eq_true', Bool.not_eq_false', Bool.and_eq_false_imp, Bool.or_eq_false_iff, bne_iff_ne, beq_iff_eq, bne_eq_false_iff_eq, beq_eq_false_iff_ne, gt_iff_lt, ge_iff_le, Int.not_lt, Int.not_le, ne_eq, Bool.true_eq_false, Bool.false_eq_true, reduceCtorEq, eta_Airway, eta_Fan, eta_Mine] at hb)
    | apply BackF.auto3
    | refine BackB.mk ?_ ?_
    | refine RetF.auto (And.intro rfl ?_)
    | exact Is.mk rfl rfl
    | refine Is.mk ?_ rfl
    | refine Is.mk rfl ?_
    | refine Is.mk ?_ ?_
  all_goals try dsimp only
  all_goals first
    | omega
    | exact ⟨by omega, by omega, rfl, rfl⟩
    | (refine ⟨by omega, by omega, by simp [h2], ?_⟩; rw [take_snoc h0 (by omega) false, ← h3, txS_at h0 (by omega)])
    | (exfalso; omega)
    | (rw [h2, h3, List.take_of_length_le (by omega)]; rfl)
    | (rw [h3, List.take_of_length_le (by omega)]; done)
    | (have e := h3; rw [List.take_of_length_le (by omega)] at e; rw [h2, e]; done)
    | (have e := h3; rw [List.take_of_length_le (by omega)] at e; rw [e]; rfl)
    | skip
/-- how many sets below so many keep the locks -/
def cntN (ls : List (List Int)) (k : Nat) : Nat := (List.range k).countP (kpN ls)
theorem cntN_le {ls : List (List Int)} {k : Nat} : cntN ls k ≤ k := by unfold cntN; have := List.countP_le_length (p := kpN ls) (l := List.range k); simpa using this
theorem cntN_s {ls : List (List Int)} {i : Int} (h : 0 ≤ i) : cntN ls (i + 1).toNat = if kpN ls i.toNat = true then cntN ls i.toNat + 1 else cntN ls i.toNat := by
  rw [show (i + 1).toNat = i.toNat + 1 by omega]
  unfold cntN
  rw [List.range_succ, List.countP_append, List.countP_singleton]
  split <;> rfl
def cntV (n : Int) (ls : List (List Int)) : Int × Int := if 0 ≤ n ∧ n ≤ 8 then (if okLk n ls = true then (((cntN ls (2 ^ n.toNat) : Nat) : Int), 0) else (0, 1)) else (0, 2)
theorem c_impl_CountStates (n : Int) (ls : List (List Int)) : FnSem Try.prog 42 [In n, Lx (LLI ls)] [] (Is [In (cntV n ls).1, In (cntV n ls).2] []) := by
  obtain ⟨M, hM⟩ : ∃ M : Nat, M = 2 ^ n.toNat := ⟨_, rfl⟩
  refine FnSem.walk (zs := zeroPV Try.prog) (by kernel_rfl) Try.func42 rfl Try.results42 (by kernel_rfl) (by kernel_rfl) (by kernel_rfl) fun hw hh => ?_
  obtain ⟨w0, w1, _⟩ := hw
  first | replace w0 := wf_I w0 | skip
  first | replace w1 := wf_LLI w1 | skip
  repeat' first
    | refine And.intro rfl ?_
    | refine GdF.mk (fun h => h) ?_
    | refine And.intro (Nat.succ_ne_zero _) ?_
    | refine And.intro (Nat.le_of_ble_eq_true rfl) ?_
    | refine SeqF.run ?_
    | refine ArgF.is (c_impl_ValidLocks n ls) ?_
    | refine ArgQ.is (fun hG => c_impl_ValidLocks n ls) rfl rfl ?_
    | refine BndF.mk (fun _ => by have := inR_iff.1 (by assumption : inR n 0 8 = true); omega) ?_
    | refine EqI.mk (M : Int) (fun _ => by rw [hM]; exact shl1 (by have := inR_iff.1 (by assumption : inR n 0 8 = true); omega)) ?_
    | refine EqI.mk (i + 1) (fun _ => wrapI (by omega) (by omega)) ?_
    | refine EqI.mk (k + 1) (fun _ => by have := cntN_le (ls := ls) (k := i.toNat); exact wrapI (by omega) (by omega)) ?_
    | refine ArgF.is (lockX i i.toNat ls (by omega) (lk_ms (by assumption)) (by omega)) ?_
    | refine ArgQ.is (fun hG => lockX i i.toNat ls (by omega) (lk_ms (by assumption)) (by omega)) rfl rfl ?_
    | refine LoopF.at 7 rfl (LoopF.fix [1, 18] (Int × Int) (fun (k, i) => 0 ≤ i ∧ i ≤ M ∧ M ≤ 256 ∧ k = ((cntN ls i.toNat : Nat) : Int) ∧ okLk n ls = true) (fun (k, i) => [(6, In k), (19, In i)]) (fun (k, i) => []) (fun (k, i) => ((M - i).toNat)) ((0, 0)) ?_)
    | (refine LoopB.of (T := Int × Int) ?_ ?_; rotate_left; rintro ⟨k, i⟩ ⟨h0, h1, h2, h3, h4⟩; rotate_left)
    | refine GhF.go ?_
    | refine BndF.mk (fun _ => by omega) ?_
    | refine BndF.mk (fun _ => by simp only [List.length_map, List.length_cons, List.length_nil, List.length_append, List.length_set, List.length_replicate, iotaI_len]; omega) ?_
    | refine EqI.mk _ (fun _ => wrapI (by omega) (by omega)) ?_
    | refine EqI.mk _ (fun _ => rfl) ?_
    | refine EqL.mk _ (tk eLI (by first | rfl | assumption | omega | (simp only [List.length_map, List.length_cons, List.length_nil, List.length_append, List.length_set, List.length_replicate, iotaI_len]; done) | (simp only [List.length_map, List.length_cons, List.length_nil, List.length_append, List.length_set, List.length_replicate, iotaI_len]; omega))) ?_
    | refine EqL.mk [] rfl ?_
    | refine EqL.mk [_] rfl ?_
    | refine EqL.mk _ rfl ?_
    | refine ArgF.is (c_impl_within ..) ?_
    | refine ArgQ.is (fun hG => c_impl_within ..) rfl rfl ?_
    | refine ArgF.is (c_impl_ValidLocks ..) ?_
    | refine ArgQ.is (fun hG => c_impl_ValidLocks ..) rfl rfl ?_
    | refine ArgF.is (c_impl_openSet_locked _ _ (by first | assumption | omega) (by first | assumption | omega)) ?_
    | refine ArgQ.is (fun hG => c_impl_openSet_locked _ _ (by first | assumption | omega) (by first | assumption | omega)) rfl rfl ?_
    | refine CallF.mk (CallW.is [] true rfl ?_)
    | refine CallG.mk ?_
    | (refine CondF.mk (fun hb => ?_) (fun hb => ?_) <;> try simp only [forall_const, eq_self, not_true_eq_false, not_false_eq_true, or_false, false_or, or_self, or_true, true_or, and_true, true_and, and_false, false_and, decide_true, decide_false, Bool.not_true, Bool.not_false, decide_eq_true_eq, decide_eq_false_iff_not, ite_and_p, ite_or_p, Bool.decide_eq_true, Bool.and_eq_true, Bool.or_eq_true, Bool.not_eq_true', Bool.not_eq_false', Bool.and_eq_false_imp, Bool.or_eq_false_iff, bne_iff_ne, beq_iff_eq, bne_eq_false_iff_eq, beq_eq_false_iff_ne, gt_iff_lt, ge_iff_le, Int.not_lt, Int.not_le, ne_eq, Bool.true_eq_false, Bool.false_eq_true, reduceCtorEq, eta_Airway, eta_Fan, eta_Mine] at hb)
    | apply BackF.auto2
    | refine BackB.mk ?_ ?_
    | refine RetF.auto (And.intro rfl ?_)
    | exact Is.mk rfl rfl
    | refine Is.mk ?_ rfl
    | refine Is.mk rfl ?_
    | refine Is.mk ?_ ?_
  all_goals try dsimp only
  all_goals first
    | omega
    | (have h8 := inR_iff.1 (by assumption : inR n 0 8 = true)
       have h9 := pow_le8 (n := n.toNat) (by omega)
       exact ⟨by omega, by omega, by rw [hM]; exact h9, rfl, hb⟩)
    | exact ⟨by omega, by omega, h2, by rw [cntN_s h0, if_pos hb, h3]; rfl, h4⟩
    | exact ⟨by omega, by omega, h2, by rw [cntN_s h0, if_neg (by rw [hb]; decide), h3], h4⟩
    | (unfold cntV; rw [if_neg (fun e => by rw [inR_iff.2 e] at hb; cases hb)]; done)
    | (unfold cntV; rw [if_pos (inR_iff.1 (by assumption)), if_neg (by rw [hb]; decide)]; done)
    | (unfold cntV; rw [if_pos (inR_iff.1 (by assumption)), if_pos h4, h3, ← hM, show i.toNat = M by omega]; done)
    | skip
end Go.Proofs.Ytpckcolkehgdaaa
