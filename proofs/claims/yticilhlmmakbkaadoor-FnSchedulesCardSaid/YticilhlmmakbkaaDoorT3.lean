/- Contracts of functions of the program, and what they compute. Conditions: those that each theorem states. -/
import Derived.Test.YticilhlmmakbkaaDoorProg
import Derived.Test.YticilhlmmakbkaaDoorT2
set_option linter.unusedVariables false
set_option linter.unusedSimpArgs false
namespace Go.Proofs.YticilhlmmakbkaaDoor
open Go.Av
attribute [local irreducible] Go.IntKind.wrap okHours
set_option maxRecDepth 20000
set_option maxHeartbeats 8000000

/-! The day of a text. -/
def bytesI (s : ByteArray) : List Int := s.data.toList.map fun b => (b.toNat : Int) - 48
theorem bytesI_len {s : ByteArray} : (bytesI s).length = s.size := by unfold bytesI; rw [List.length_map, Array.length_toList]; rfl
theorem bytesI_get {s : ByteArray} {i : Nat} (h : i < s.size) : (bytesI s).getD i 0 = byteAt s i - 48 := by
  have h1 : i < s.data.toList.length := by rw [Array.length_toList]; exact h
  simp only [bytesI, byteAt, List.getD_eq_getElem?_getD, List.getElem?_map, List.getElem?_eq_getElem h1, Option.map_some, Option.getD_some]
theorem byteAt_b {s : ByteArray} {i : Nat} : 0 ≤ byteAt s i ∧ byteAt s i ≤ 255 := by
  unfold byteAt
  have := (s.data.toList.getD i 0).toNat_lt
  omega
theorem bytesI_s {s : ByteArray} {i : Int} (h0 : 0 ≤ i) (h : i < s.size) : (bytesI s).take (i + 1).toNat = (bytesI s).take i.toNat ++ [byteAt s i.toNat - 48] := by
  rw [take_snoc h0 (by rw [bytesI_len]; exact h) 0, bytesI_get (by omega)]
theorem dig_bytes {s : ByteArray} : digT (bytesI s) = s := by
  unfold digT strOfNums bytesI
  apply ByteArray.ext
  rw [List.map_map, List.map_map]
  have e : (s.data.toList.map (((fun n : Int => UInt8.ofNat n.toNat) ∘ fun x : Int => 48 + x) ∘ fun b : UInt8 => (b.toNat : Int) - 48)) = s.data.toList := by
    refine List.map_id'' (fun b => ?_) _
    simp only [Function.comp]
    rw [show (48 + ((b.toNat : Int) - 48)).toNat = b.toNat by omega]
    simp
  rw [e]
def readDay (s : ByteArray) : List Int × Bool := if okHours (bytesI s) 7 = true then (bytesI s, true) else ([], false)
theorem read_t {s : ByteArray} (h : okHours (bytesI s) 7 = true) : s.size = 24 ∧ ¬s = ⟨#[]⟩ ∧ dayText ((bytesI s).take 24) = s := by
  have hl := (okHours_iff.1 h).1
  have hs : s.size = 24 := by rw [← bytesI_len]; exact hl
  refine ⟨hs, fun e => ?_, ?_⟩
  · rw [e] at hs; cases hs
  · rw [List.take_of_length_le (by omega)]
    unfold dayText; rw [if_pos h, dig_bytes]
theorem read_f {s : ByteArray} (h : ¬okHours (bytesI s) 7 = true) (h0 : ¬s = ⟨#[]⟩) : ¬dayText ((bytesI s).take 24) = s := by
  intro e
  unfold dayText at e
  split at e
  · rename_i h1
    have hl := (okHours_iff.1 h1).1
    have hs := congrArg ByteArray.size e
    rw [digT_size, hl, ← bytesI_len] at hs
    rw [List.take_of_length_le (by omega)] at h1
    exact h h1
  · exact h0 e.symm
theorem readDay_bad {s : ByteArray} (h : s = ⟨#[]⟩ ∨ ¬dayText ((bytesI s).take 24) = s) : readDay s = ([], false) := by
  unfold readDay; rw [if_neg]
  intro hk
  have q := read_t hk
  rcases h with h | h
  · exact q.2.1 h
  · exact h q.2.2
theorem readDay_good {s : ByteArray} (h : ¬s = ⟨#[]⟩ ∧ dayText ((bytesI s).take 24) = s) : readDay s = ((bytesI s).take 24, true) := by
  by_cases hk : okHours (bytesI s) 7 = true
  · unfold readDay; rw [if_pos hk, List.take_of_length_le (by rw [(okHours_iff.1 hk).1]; omega)]
  · exact absurd h.2 (read_f hk h.1)
theorem readDay_len {s : ByteArray} : (readDay s).1.length ≤ 24 := by
  unfold readDay; split
  · rename_i h; dsimp only; rw [(okHours_iff.1 h).1]; omega
  · simp
theorem read_text {xs : List Int} (h : okHours xs 7 = true) : readDay (dayText xs) = (xs, true) := by
  have hb : bytesI (digT xs) = xs := by
    have hx := (okHours_iff.1 h)
    refine ext_getD 0 (by rw [bytesI_len, digT_size]) fun j hj => ?_
    have hj2 : j < xs.length := by rw [bytesI_len, digT_size] at hj; omega
    rw [bytesI_get (by rw [digT_size]; exact hj2)]
    have q := hx.2 j (by omega)
    unfold byteAt digT strOfNums
    have h1 : ((xs.map (48 + ·)).map fun n : Int => UInt8.ofNat n.toNat)[j]? = some (UInt8.ofNat (48 + xs.getD j 0).toNat) := by
      rw [List.getElem?_map, List.getElem?_map, List.getElem?_eq_getElem hj2, List.getD_eq_getElem?_getD, List.getElem?_eq_getElem hj2]; rfl
    simp only [List.getD_eq_getElem?_getD, h1, Option.getD_some]
    rw [List.getD_eq_getElem?_getD] at q
    have : (UInt8.ofNat (48 + (xs[j]?.getD 0)).toNat).toNat = (48 + (xs[j]?.getD 0)).toNat := by
      rw [UInt8.toNat_ofNat']; apply Nat.mod_eq_of_lt; show _ < 256; omega
    rw [this]; omega
  unfold dayText readDay
  rw [if_pos h, hb, if_pos h]
theorem take_end {s : ByteArray} {i : Int} (h0 : 0 ≤ i) (h1 : ¬i < min (s.size : Int) 24) (h2 : i ≤ min (s.size : Int) 24) : (bytesI s).take i.toNat = (bytesI s).take 24 := by
  by_cases h : s.size < 24
  · rw [List.take_of_length_le (by rw [bytesI_len]; omega), List.take_of_length_le (by rw [bytesI_len]; omega)]
  · rw [show i.toNat = 24 by omega]
attribute [local irreducible] bytesI dayText readDay
theorem c_impl_ReadDay (s : ByteArray) : FnSem Tryd.prog 6 [Str s] [] (Is [.osl 0 0 (readDay s).1.length, Bo (readDay s).2] [Rw .flat (eI 0) ((readDay s).1.map eI)]) := by
  have hB := fun i : Nat => byteAt_b (s := s) (i := i)
  refine FnSem.walk (zs := zeroPV Tryd.prog) (by kernel_rfl) Tryd.func6 rfl Tryd.results6 (by kernel_rfl) (by kernel_rfl) (by kernel_rfl) fun hw hh => ?_
  obtain ⟨w0, _⟩ := hw
  first | replace w0 := wf_I w0 | replace w0 := wf_Y w0 | replace w0 := wf_S w0 | replace w0 := wf_LI w0 | replace w0 := wf_LY w0 | replace w0 := wf_LLI w0 | replace w0 := wf_Ls w0 | skip
  repeat' first
    | refine And.intro rfl ?_
    | refine GdF.mk (fun h => h) ?_
    | refine And.intro (Nat.succ_ne_zero _) ?_
    | refine And.intro (Nat.le_of_ble_eq_true rfl) ?_
    | refine SeqF.run ?_
    | refine EqI.mk _ (fun _ => wrapI (by have := hB i.toNat; omega) (by have := hB i.toNat; omega)) ?_
    | refine LoopF.at 3 rfl (LoopF.fix [0, 8] (Int × Nat × List Int) (fun (i, n, xs) => 0 ≤ i ∧ i ≤ min (s.size : Int) 24 ∧ (n = xs.length ∧ (n : Int) = i) ∧ xs = (bytesI s).take i.toNat) (fun (i, n, xs) => [(9, In i), (4, .osl 0 0 n)]) (fun (i, n, xs) => [(0, Rw .flat (eI 0) (xs.map eI))]) (fun (i, n, xs) => ((24 - i).toNat)) ((0, 0, [])) ?_)
    | (refine LoopB.of (T := Int × Nat × List Int) ?_ ?_; rotate_left; rintro ⟨i, n, xs⟩ ⟨h0, h1, h2, h3⟩; rotate_left)
    | refine GhF.go ?_
    | refine GdS.keep ?_
    | refine MkF.row ?_
    | refine BndF.mk (fun _ => by omega) ?_
    | refine BndF.mk (fun _ => by simp only [List.length_map, List.length_cons, List.length_nil, List.length_append, List.length_set, List.length_replicate, iotaI_len]; omega) ?_
    | refine BndF.mk (fun hG => by simp only [forall_const, eq_self, not_true_eq_false, not_false_eq_true, or_false, false_or, or_self, or_true, true_or, and_true, true_and, and_false, false_and, decide_true, decide_false, Bool.not_true, Bool.not_false, decide_eq_true_eq, decide_eq_false_iff_not, ite_and_p, ite_or_p, Bool.decide_eq_true, Bool.and_eq_true, Bool.or_eq_true, Bool.not_eq_true', Bool.not_eq_false', Bool.and_eq_false_imp, Bool.or_eq_false_iff, bne_iff_ne, beq_iff_eq, bne_eq_false_iff_eq, beq_eq_false_iff_ne, gt_iff_lt, ge_iff_le, Int.not_lt, Int.not_le, ne_eq, Bool.true_eq_false, Bool.false_eq_true, reduceCtorEq, eta_Mode, bytes_nil] at hG; (try simp only [List.length_map]); omega) ?_
    | refine EqI.mk _ (fun _ => wrapI (by omega) (by omega)) ?_
    | refine EqI.mk _ (fun _ => rfl) ?_
    | refine FlF.keep ?_
    | refine EqN.mk _ (ln eI) ?_
    | refine EqN.mk _ (Nat.zero_add _) ?_
    | refine EqN.mk (_ + 1) rfl ?_
    | refine EqN.mk _ (Int.toNat_natCast _) ?_
    | refine EqN.mk _ rfl ?_
    | refine EqL.mk _ (sn0 eI) ?_
    | refine EqL.mk _ (sn eI (by first | rfl | assumption | omega | (simp only [List.length_map, List.length_cons, List.length_nil, List.length_append, List.length_set, List.length_replicate, iotaI_len]; done) | (simp only [List.length_map, List.length_cons, List.length_nil, List.length_append, List.length_set, List.length_replicate, iotaI_len]; omega))) ?_
    | refine EqL.mk _ (ap0 eI) ?_
    | refine EqL.mk _ (ap eI (by first | rfl | assumption | omega | (simp only [List.length_map, List.length_cons, List.length_nil, List.length_append, List.length_set, List.length_replicate, iotaI_len]; done) | (simp only [List.length_map, List.length_cons, List.length_nil, List.length_append, List.length_set, List.length_replicate, iotaI_len]; omega))) ?_
    | refine EqL.mk _ (tk eI (by first | rfl | assumption | omega | (simp only [List.length_map, List.length_cons, List.length_nil, List.length_append, List.length_set, List.length_replicate, iotaI_len]; done) | (simp only [List.length_map, List.length_cons, List.length_nil, List.length_append, List.length_set, List.length_replicate, iotaI_len]; omega))) ?_
    | refine EqL.mk _ (dt eI) ?_
    | refine EqL.mk [] rfl ?_
    | refine EqL.mk [_] rfl ?_
    | refine EqL.mk _ rfl ?_
    | refine ArgF.is (c_impl_DayText ..) ?_
    | refine ArgQ.is (fun hG => c_impl_DayText ..) rfl rfl ?_
    | refine CallF.mk (CallW.is [] true rfl ?_)
    | refine CallG.mk ?_
    | (refine CondF.mk (fun hb => ?_) (fun hb => ?_) <;> try simp only [forall_const, eq_self, not_true_eq_false, not_false_eq_true, or_false, false_or, or_self, or_true, true_or, and_true, true_and, and_false, false_and, decide_true, decide_false, Bool.not_true, Bool.not_false, decide_eq_true_eq, decide_eq_false_iff_not, ite_and_p, ite_or_p, Bool.decide_eq_true, Bool.and_eq_true, Bool.or_eq_true, Bool.not_eq_true', Bool.not_eq_false', Bool.and_eq_false_imp, Bool.or_eq_false_iff, bne_iff_ne, beq_iff_eq, bne_eq_false_iff_eq, beq_eq_false_iff_ne, gt_iff_lt, ge_iff_le, Int.not_lt, Int.not_le, ne_eq, Bool.true_eq_false, Bool.false_eq_true, reduceCtorEq, eta_Mode] at hb)
    | apply BackF.auto3
    | refine BackB.mk ?_ ?_
    | refine RetF.auto (And.intro rfl ?_)
    | exact Is.mk rfl rfl
    | refine Is.mk ?_ rfl
    | refine Is.mk rfl ?_
    | refine Is.mk ?_ ?_
  all_goals try dsimp only
  all_goals first
    | omega
    | exact ⟨by omega, by omega, ⟨rfl, rfl⟩, by simp⟩
    | exact ⟨by omega, by omega, ⟨by simp [h2.1], by omega⟩, by rw [bytesI_s h0 (by omega), ← h3]⟩
    | (rw [h3, take_end h0 (by omega) h1] at hb
       rw [readDay_bad hb] <;> rfl)
    | (rw [h2.1]
       rw [h3, take_end h0 (by omega) h1] at hb ⊢
       rw [readDay_good hb] <;> rfl)
    | (rw [h3, take_end h0 (by omega) h1] at hb ⊢
       rw [readDay_good hb] <;> rfl)
    | skip
theorem c_spec_l22Read (s : ByteArray) (hs : s.size ≤ 1048576) : FnSem Tryd.prog 22 [Str s] [] (Is [.osl 0 0 (readDay s).1.length, Bo (readDay s).2] [Rw .flat (eI 0) ((readDay s).1.map eI)]) := by
  have hB := fun i : Nat => byteAt_b (s := s) (i := i)
  refine FnSem.walk (zs := zeroPV Tryd.prog) (by kernel_rfl) Tryd.func22 rfl Tryd.results22 (by kernel_rfl) (by kernel_rfl) (by kernel_rfl) fun hw hh => ?_
  obtain ⟨w0, _⟩ := hw
  first | replace w0 := wf_I w0 | replace w0 := wf_Y w0 | replace w0 := wf_S w0 | replace w0 := wf_LI w0 | replace w0 := wf_LY w0 | replace w0 := wf_LLI w0 | replace w0 := wf_Ls w0 | skip
  repeat' first
    | refine And.intro rfl ?_
    | refine GdF.mk (fun h => h) ?_
    | refine And.intro (Nat.succ_ne_zero _) ?_
    | refine And.intro (Nat.le_of_ble_eq_true rfl) ?_
    | refine SeqF.run ?_
    | refine EqI.mk _ (fun _ => wrapI (by have := hB i.toNat; omega) (by have := hB i.toNat; omega)) ?_
    | refine LoopF.at 3 rfl (LoopF.fix [0] (Int × Nat × List Int) (fun (i, n, xs) => 0 ≤ i ∧ i ≤ s.size ∧ (n = xs.length ∧ (n : Int) = i) ∧ xs = (bytesI s).take i.toNat) (fun (i, n, xs) => [(5, In i), (4, .osl 0 0 n)]) (fun (i, n, xs) => [(0, Rw .flat (eI 0) (xs.map eI))]) (fun (i, n, xs) => (((s.size : Int) - i).toNat)) ((0, 0, [])) ?_)
    | (refine LoopB.of (T := Int × Nat × List Int) ?_ ?_; rotate_left; rintro ⟨i, n, xs⟩ ⟨h0, h1, h2, h3⟩; rotate_left)
    | refine GhF.go ?_
    | refine MkF.row ?_
    | refine BndF.mk (fun _ => by omega) ?_
    | refine BndF.mk (fun _ => by simp only [List.length_map, List.length_cons, List.length_nil, List.length_append, List.length_set, List.length_replicate, iotaI_len]; omega) ?_
    | refine EqI.mk _ (fun _ => wrapI (by omega) (by omega)) ?_
    | refine EqI.mk _ (fun _ => rfl) ?_
    | refine FlF.keep ?_
    | refine EqN.mk _ (ln eI) ?_
    | refine EqN.mk _ (Nat.zero_add _) ?_
    | refine EqN.mk (_ + 1) rfl ?_
    | refine EqN.mk _ (Int.toNat_natCast _) ?_
    | refine EqN.mk _ rfl ?_
    | refine EqL.mk _ (sn0 eI) ?_
    | refine EqL.mk _ (sn eI (by first | rfl | assumption | omega | (simp only [List.length_map, List.length_cons, List.length_nil, List.length_append, List.length_set, List.length_replicate, iotaI_len]; done) | (simp only [List.length_map, List.length_cons, List.length_nil, List.length_append, List.length_set, List.length_replicate, iotaI_len]; omega))) ?_
    | refine EqL.mk _ (ap0 eI) ?_
    | refine EqL.mk _ (ap eI (by first | rfl | assumption | omega | (simp only [List.length_map, List.length_cons, List.length_nil, List.length_append, List.length_set, List.length_replicate, iotaI_len]; done) | (simp only [List.length_map, List.length_cons, List.length_nil, List.length_append, List.length_set, List.length_replicate, iotaI_len]; omega))) ?_
    | refine EqL.mk _ (tk eI (by first | rfl | assumption | omega | (simp only [List.length_map, List.length_cons, List.length_nil, List.length_append, List.length_set, List.length_replicate, iotaI_len]; done) | (simp only [List.length_map, List.length_cons, List.length_nil, List.length_append, List.length_set, List.length_replicate, iotaI_len]; omega))) ?_
    | refine EqL.mk _ (dt eI) ?_
    | refine EqL.mk [] rfl ?_
    | refine EqL.mk [_] rfl ?_
    | refine EqL.mk _ rfl ?_
    | refine ArgF.is (c_spec_l22Hours ..) ?_
    | refine ArgQ.is (fun hG => c_spec_l22Hours ..) rfl rfl ?_
    | refine CallF.mk (CallW.is [] true rfl ?_)
    | refine CallG.mk ?_
    | (refine CondF.mk (fun hb => ?_) (fun hb => ?_) <;> try simp only [forall_const, eq_self, not_true_eq_false, not_false_eq_true, or_false, false_or, or_self, or_true, true_or, and_true, true_and, and_false, false_and, decide_true, decide_false, Bool.not_true, Bool.not_false, decide_eq_true_eq, decide_eq_false_iff_not, ite_and_p, ite_or_p, Bool.decide_eq_true, Bool.and_eq_true, Bool.or_eq_true, Bool.not_eq_true', Bool.not_eq_false', Bool.and_eq_false_imp, Bool.or_eq_false_iff, bne_iff_ne, beq_iff_eq, bne_eq_false_iff_eq, beq_eq_false_iff_ne, gt_iff_lt, ge_iff_le, Int.not_lt, Int.not_le, ne_eq, Bool.true_eq_false, Bool.false_eq_true, reduceCtorEq, eta_Mode] at hb)
    | apply BackF.auto3
    | refine BackB.mk ?_ ?_
    | refine RetF.auto (And.intro rfl ?_)
    | exact Is.mk rfl rfl
    | refine Is.mk ?_ rfl
    | refine Is.mk rfl ?_
    | refine Is.mk ?_ ?_
  all_goals try dsimp only
  all_goals first
    | omega
    | exact ⟨by omega, by omega, ⟨rfl, rfl⟩, by simp⟩
    | exact ⟨by omega, by omega, ⟨by simp [h2.1], by omega⟩, by rw [bytesI_s h0 (by omega), ← h3]⟩
    | (rw [h3, List.take_of_length_le (by rw [bytesI_len]; omega)] at hb
       unfold readDay
       rw [if_neg (by rw [hb]; decide)] <;> rfl)
    | (rw [h2.1]
       rw [h3, List.take_of_length_le (by rw [bytesI_len]; omega)] at hb ⊢
       unfold readDay
       rw [if_pos hb] <;> rfl)
    | (rw [h3, List.take_of_length_le (by rw [bytesI_len]; omega)] at hb ⊢
       unfold readDay
       rw [if_pos hb] <;> rfl)
    | skip
theorem c_spec_ReadDay (s : ByteArray) (hs : s.size ≤ 1048576) : FnSem Tryd.prog 5 [Str s] [] (Is [.osl 0 0 (readDay s).1.length, Bo (readDay s).2] [Rw .flat (eI 0) ((readDay s).1.map eI)]) := by
  refine FnSem.walk (zs := zeroPV Tryd.prog) (by kernel_rfl) Tryd.func5 rfl Tryd.results5 (by kernel_rfl) (by kernel_rfl) (by kernel_rfl) fun hw hh => ?_
  obtain ⟨w0, _⟩ := hw
  first | replace w0 := wf_I w0 | replace w0 := wf_Y w0 | replace w0 := wf_S w0 | replace w0 := wf_LI w0 | replace w0 := wf_LY w0 | replace w0 := wf_LLI w0 | replace w0 := wf_Ls w0 | skip
  repeat' first
    | refine And.intro rfl ?_
    | refine GdF.mk (fun h => h) ?_
    | refine And.intro (Nat.succ_ne_zero _) ?_
    | refine And.intro (Nat.le_of_ble_eq_true rfl) ?_
    | refine SeqF.run ?_
    | refine GhF.go ?_
    | refine MkF.row ?_
    | refine BndF.mk (fun _ => by omega) ?_
    | refine BndF.mk (fun _ => by simp only [List.length_map, List.length_cons, List.length_nil, List.length_append, List.length_set, List.length_replicate, iotaI_len]; omega) ?_
    | refine EqN.mk _ (Nat.zero_add _) ?_
    | refine EqN.mk _ (Int.toNat_natCast _) ?_
    | refine EqN.mk _ rfl ?_
    | refine EqL.mk [] rfl ?_
    | refine EqL.mk [_] rfl ?_
    | refine EqL.mk _ rfl ?_
    | refine ArgF.is (c_spec_l22Read _ (by first | assumption | omega)) ?_
    | refine ArgQ.is (fun hG => c_spec_l22Read _ (by first | assumption | omega)) rfl rfl ?_
    | refine ArgQ.is (fun hG => c_spec_l22Read _ (by simp only [forall_const, eq_self, not_true_eq_false, not_false_eq_true, or_false, false_or, or_self, or_true, true_or, and_true, true_and, and_false, false_and, decide_true, decide_false, Bool.not_true, Bool.not_false, decide_eq_true_eq, decide_eq_false_iff_not, ite_and_p, ite_or_p, Bool.decide_eq_true, Bool.and_eq_true, Bool.or_eq_true, Bool.not_eq_true', Bool.not_eq_false', Bool.and_eq_false_imp, Bool.or_eq_false_iff, bne_iff_ne, beq_iff_eq, bne_eq_false_iff_eq, beq_eq_false_iff_ne, gt_iff_lt, ge_iff_le, Int.not_lt, Int.not_le, ne_eq, Bool.true_eq_false, Bool.false_eq_true, reduceCtorEq, eta_Mode, bytes_nil] at hG; omega)) rfl rfl ?_
    | refine CallF.mk (CallW.is [] true rfl ?_)
    | refine CallG.mk ?_
    | (refine CondF.mk (fun hb => ?_) (fun hb => ?_) <;> try simp only [forall_const, eq_self, not_true_eq_false, not_false_eq_true, or_false, false_or, or_self, or_true, true_or, and_true, true_and, and_false, false_and, decide_true, decide_false, Bool.not_true, Bool.not_false, decide_eq_true_eq, decide_eq_false_iff_not, ite_and_p, ite_or_p, Bool.decide_eq_true, Bool.and_eq_true, Bool.or_eq_true, Bool.not_eq_true', Bool.not_eq_false', Bool.and_eq_false_imp, Bool.or_eq_false_iff, bne_iff_ne, beq_iff_eq, bne_eq_false_iff_eq, beq_eq_false_iff_ne, gt_iff_lt, ge_iff_le, Int.not_lt, Int.not_le, ne_eq, Bool.true_eq_false, Bool.false_eq_true, reduceCtorEq, eta_Mode] at hb)
    | refine RetF.auto (And.intro rfl ?_)
    | exact Is.mk rfl rfl
    | refine Is.mk ?_ rfl
    | refine Is.mk rfl ?_
    | refine Is.mk ?_ ?_
theorem c_laws_FnExactReadDay (s : ByteArray) : FnSem Tryd.prog 3 [Str s] [] (Is [Bo true] []) := by
  have hn := readDay_len (s := s)
  refine FnSem.walk (zs := zeroPV Tryd.prog) (by kernel_rfl) Tryd.func3 rfl Tryd.results3 (by kernel_rfl) (by kernel_rfl) (by kernel_rfl) fun hw hh => ?_
  obtain ⟨w0, _⟩ := hw
  first | replace w0 := wf_I w0 | replace w0 := wf_Y w0 | replace w0 := wf_S w0 | replace w0 := wf_LI w0 | replace w0 := wf_LY w0 | replace w0 := wf_LLI w0 | replace w0 := wf_Ls w0 | skip
  repeat' first
    | refine And.intro rfl ?_
    | refine GdF.mk (fun h => h) ?_
    | refine And.intro (Nat.succ_ne_zero _) ?_
    | refine And.intro (Nat.le_of_ble_eq_true rfl) ?_
    | refine SeqF.run ?_
    | refine GhF.go ?_
    | refine GdS.keep ?_
    | refine BndF.mk (fun _ => by omega) ?_
    | refine BndF.mk (fun _ => by simp only [List.length_map, List.length_cons, List.length_nil, List.length_append, List.length_set, List.length_replicate, iotaI_len]; omega) ?_
    | refine BndF.mk (fun hG => by simp only [forall_const, eq_self, not_true_eq_false, not_false_eq_true, or_false, false_or, or_self, or_true, true_or, and_true, true_and, and_false, false_and, decide_true, decide_false, Bool.not_true, Bool.not_false, decide_eq_true_eq, decide_eq_false_iff_not, ite_and_p, ite_or_p, Bool.decide_eq_true, Bool.and_eq_true, Bool.or_eq_true, Bool.not_eq_true', Bool.not_eq_false', Bool.and_eq_false_imp, Bool.or_eq_false_iff, bne_iff_ne, beq_iff_eq, bne_eq_false_iff_eq, beq_eq_false_iff_ne, gt_iff_lt, ge_iff_le, Int.not_lt, Int.not_le, ne_eq, Bool.true_eq_false, Bool.false_eq_true, reduceCtorEq, eta_Mode, bytes_nil] at hG; (try simp only [List.length_map]); omega) ?_
    | refine EqN.mk _ (ln eI) ?_
    | refine EqL.mk _ (tk eI (by first | rfl | assumption | omega | (simp only [List.length_map, List.length_cons, List.length_nil, List.length_append, List.length_set, List.length_replicate, iotaI_len]; done) | (simp only [List.length_map, List.length_cons, List.length_nil, List.length_append, List.length_set, List.length_replicate, iotaI_len]; omega))) ?_
    | refine EqL.mk [] rfl ?_
    | refine EqL.mk [_] rfl ?_
    | refine EqL.mk _ rfl ?_
    | refine ArgF.is (c_spec_ReadDay _ (by first | assumption | omega)) ?_
    | refine ArgQ.is (fun hG => c_spec_ReadDay _ (by first | assumption | omega)) rfl rfl ?_
    | refine ArgQ.is (fun hG => c_spec_ReadDay _ (by simp only [forall_const, eq_self, not_true_eq_false, not_false_eq_true, or_false, false_or, or_self, or_true, true_or, and_true, true_and, and_false, false_and, decide_true, decide_false, Bool.not_true, Bool.not_false, decide_eq_true_eq, decide_eq_false_iff_not, ite_and_p, ite_or_p, Bool.decide_eq_true, Bool.and_eq_true, Bool.or_eq_true, Bool.not_eq_true', Bool.not_eq_false', Bool.and_eq_false_imp, Bool.or_eq_false_iff, bne_iff_ne, beq_iff_eq, bne_eq_false_iff_eq, beq_eq_false_iff_ne, gt_iff_lt, ge_iff_le, Int.not_lt, Int.not_le, ne_eq, Bool.true_eq_false, Bool.false_eq_true, reduceCtorEq, eta_Mode, bytes_nil] at hG; omega)) rfl rfl ?_
    | refine ArgF.is (c_impl_ReadDay ..) ?_
    | refine ArgQ.is (fun hG => c_impl_ReadDay ..) rfl rfl ?_
    | refine ArgF.is (c_laws_eqInt64S ..) ?_
    | refine ArgQ.is (fun hG => c_laws_eqInt64S ..) rfl rfl ?_
    | refine ArgF.is (c_laws_markInt64S _ _ _ (by first | assumption | omega) (by first | assumption | omega) (by first | assumption | omega)) ?_
    | refine ArgQ.is (fun hG => c_laws_markInt64S _ _ _ (by first | assumption | omega) (by first | assumption | omega) (by first | assumption | omega)) rfl rfl ?_
    | refine ArgQ.is (fun hG => c_laws_markInt64S _ _ _ (by simp only [forall_const, eq_self, not_true_eq_false, not_false_eq_true, or_false, false_or, or_self, or_true, true_or, and_true, true_and, and_false, false_and, decide_true, decide_false, Bool.not_true, Bool.not_false, decide_eq_true_eq, decide_eq_false_iff_not, ite_and_p, ite_or_p, Bool.decide_eq_true, Bool.and_eq_true, Bool.or_eq_true, Bool.not_eq_true', Bool.not_eq_false', Bool.and_eq_false_imp, Bool.or_eq_false_iff, bne_iff_ne, beq_iff_eq, bne_eq_false_iff_eq, beq_eq_false_iff_ne, gt_iff_lt, ge_iff_le, Int.not_lt, Int.not_le, ne_eq, Bool.true_eq_false, Bool.false_eq_true, reduceCtorEq, eta_Mode, bytes_nil] at hG; omega) (by simp only [forall_const, eq_self, not_true_eq_false, not_false_eq_true, or_false, false_or, or_self, or_true, true_or, and_true, true_and, and_false, false_and, decide_true, decide_false, Bool.not_true, Bool.not_false, decide_eq_true_eq, decide_eq_false_iff_not, ite_and_p, ite_or_p, Bool.decide_eq_true, Bool.and_eq_true, Bool.or_eq_true, Bool.not_eq_true', Bool.not_eq_false', Bool.and_eq_false_imp, Bool.or_eq_false_iff, bne_iff_ne, beq_iff_eq, bne_eq_false_iff_eq, beq_eq_false_iff_ne, gt_iff_lt, ge_iff_le, Int.not_lt, Int.not_le, ne_eq, Bool.true_eq_false, Bool.false_eq_true, reduceCtorEq, eta_Mode, bytes_nil] at hG; omega) (by simp only [forall_const, eq_self, not_true_eq_false, not_false_eq_true, or_false, false_or, or_self, or_true, true_or, and_true, true_and, and_false, false_and, decide_true, decide_false, Bool.not_true, Bool.not_false, decide_eq_true_eq, decide_eq_false_iff_not, ite_and_p, ite_or_p, Bool.decide_eq_true, Bool.and_eq_true, Bool.or_eq_true, Bool.not_eq_true', Bool.not_eq_false', Bool.and_eq_false_imp, Bool.or_eq_false_iff, bne_iff_ne, beq_iff_eq, bne_eq_false_iff_eq, beq_eq_false_iff_ne, gt_iff_lt, ge_iff_le, Int.not_lt, Int.not_le, ne_eq, Bool.true_eq_false, Bool.false_eq_true, reduceCtorEq, eta_Mode, bytes_nil] at hG; omega)) rfl rfl ?_
    | refine ArgF.is (c_laws_heldInt64S _ _ (by first | assumption | omega) (by first | assumption | omega)) ?_
    | refine ArgQ.is (fun hG => c_laws_heldInt64S _ _ (by first | assumption | omega) (by first | assumption | omega)) rfl rfl ?_
    | refine ArgQ.is (fun hG => c_laws_heldInt64S _ _ (by simp only [forall_const, eq_self, not_true_eq_false, not_false_eq_true, or_false, false_or, or_self, or_true, true_or, and_true, true_and, and_false, false_and, decide_true, decide_false, Bool.not_true, Bool.not_false, decide_eq_true_eq, decide_eq_false_iff_not, ite_and_p, ite_or_p, Bool.decide_eq_true, Bool.and_eq_true, Bool.or_eq_true, Bool.not_eq_true', Bool.not_eq_false', Bool.and_eq_false_imp, Bool.or_eq_false_iff, bne_iff_ne, beq_iff_eq, bne_eq_false_iff_eq, beq_eq_false_iff_ne, gt_iff_lt, ge_iff_le, Int.not_lt, Int.not_le, ne_eq, Bool.true_eq_false, Bool.false_eq_true, reduceCtorEq, eta_Mode, bytes_nil] at hG; omega) (by simp only [forall_const, eq_self, not_true_eq_false, not_false_eq_true, or_false, false_or, or_self, or_true, true_or, and_true, true_and, and_false, false_and, decide_true, decide_false, Bool.not_true, Bool.not_false, decide_eq_true_eq, decide_eq_false_iff_not, ite_and_p, ite_or_p, Bool.decide_eq_true, Bool.and_eq_true, Bool.or_eq_true, Bool.not_eq_true', Bool.not_eq_false', Bool.and_eq_false_imp, Bool.or_eq_false_iff, bne_iff_ne, beq_iff_eq, bne_eq_false_iff_eq, beq_eq_false_iff_ne, gt_iff_lt, ge_iff_le, Int.not_lt, Int.not_le, ne_eq, Bool.true_eq_false, Bool.false_eq_true, reduceCtorEq, eta_Mode, bytes_nil] at hG; omega)) rfl rfl ?_
    | refine CallF.own (f := 8) [0] true ?_
    | refine CallF.mk (CallW.is [] true rfl ?_)
    | refine CallG.mk ?_
    | (refine CondF.mk (fun hb => ?_) (fun hb => ?_) <;> try simp only [forall_const, eq_self, not_true_eq_false, not_false_eq_true, or_false, false_or, or_self, or_true, true_or, and_true, true_and, and_false, false_and, decide_true, decide_false, Bool.not_true, Bool.not_false, decide_eq_true_eq, decide_eq_false_iff_not, ite_and_p, ite_or_p, Bool.decide_eq_true, Bool.and_eq_true, Bool.or_eq_true, Bool.not_eq_true', Bool.not_eq_false', Bool.and_eq_false_imp, Bool.or_eq_false_iff, bne_iff_ne, beq_iff_eq, bne_eq_false_iff_eq, beq_eq_false_iff_ne, gt_iff_lt, ge_iff_le, Int.not_lt, Int.not_le, ne_eq, Bool.true_eq_false, Bool.false_eq_true, reduceCtorEq, eta_Mode] at hb)
    | refine RetF.auto (And.intro rfl ?_)
    | exact Is.mk rfl rfl
    | refine Is.mk ?_ rfl
    | refine Is.mk rfl ?_
    | refine Is.mk ?_ ?_
  all_goals (exfalso; first | omega | (simp at hb; omega) | (simp at hb))
end Go.Proofs.YticilhlmmakbkaaDoor
