/- Contracts of functions of the program, and what they compute. Conditions: those that each theorem states. -/
import Derived.Test.YtdhkpmaanegjkaaGreatDoorProg
import Derived.Test.YtdhkpmaanegjkaaGreatDoorL1
import Derived.Test.YtdhkpmaanegjkaaGreatDoorD4
import Derived.Lib.ItoaMem
import Derived.Lib.AtoiAll
import Derived.Lib.Split
import Derived.Lib.Join
import Derived.Lib.IndexMore
import Derived.Lib.IndexBytes
import Derived.Test.YtdhkpmaanegjkaaGreatDoorM1
import Derived.Test.YtdhkpmaanegjkaaGreatDoorShelf
import Derived.Lib.ParseIntBTie
set_option linter.unusedVariables false
set_option linter.unusedSimpArgs false
namespace Go.Proofs.YtdhkpmaanegjkaaGreatDoor
open Go.Av
attribute [local irreducible] Go.IntKind.wrap
set_option maxRecDepth 20000
set_option maxHeartbeats 8000000
theorem cat_size {x y : ByteArray} : (x ++ y).size = x.size + y.size := ByteArray.size_append
theorem one_size {a : UInt8} : (ByteArray.mk #[a]).size = 1 := rfl
end Go.Proofs.YtdhkpmaanegjkaaGreatDoor

set_option linter.unusedVariables false
set_option linter.unusedSimpArgs false
namespace Go.Proofs.YtdhkpmaanegjkaaGreatDoor
open Go.Av
attribute [local irreducible] Go.IntKind.wrap
set_option maxRecDepth 20000
set_option maxHeartbeats 8000000
theorem parse_app (l r : List UInt8) : ∀ acc v : Nat, Lib.parseUint10 acc l = .ok v → Lib.parseUint10 acc (l ++ r) = Lib.parseUint10 v r := by
  induction l with
  | nil => intro acc v h; cases h; rfl
  | cons c l ih =>
    intro acc v h
    simp only [List.cons_append, Lib.parseUint10] at h ⊢
    split at h
    · rename_i h1
      rw [if_pos h1]
      split at h
      · cases h
      · rename_i h2
        rw [if_neg h2]
        split at h
        · cases h
        · rename_i h3
          rw [if_neg h3]
          exact ih _ _ h
    · cases h
theorem dig_nat {d : Nat} (h : d < 10) : (UInt8.ofNat (48 + d)).toNat = 48 + d := by
  rw [UInt8.toNat_ofNat']; omega
theorem parse_dig : ∀ u : Nat, u < 18446744073709551616 → Lib.parseUint10 0 (Lib.decDigits u) = .ok u := by
  intro u
  induction u using Nat.strongRecOn with
  | _ u ih =>
    intro hu
    by_cases h : u < 10
    · rw [Lib.decDigits, dif_pos h]
      simp only [Lib.parseUint10]
      rw [dig_nat h, if_pos (by omega), if_neg (by omega), if_neg (by omega)]
      congr 1; omega
    · rw [Lib.decDigits, dif_neg h, parse_app _ _ _ _ (ih (u / 10) (by omega) (by omega))]
      simp only [Lib.parseUint10]
      rw [dig_nat (Nat.mod_lt _ (by omega)), if_pos (by omega), if_neg (by omega), if_neg (by omega)]
      congr 1; omega
theorem dig_all : ∀ u : Nat, ∀ c ∈ Lib.decDigits u, 48 ≤ c.toNat ∧ c.toNat ≤ 57 := by
  intro u
  induction u using Nat.strongRecOn with
  | _ u ih =>
    intro c hc
    by_cases h : u < 10
    · rw [Lib.decDigits, dif_pos h] at hc
      simp only [List.mem_singleton] at hc
      rw [hc, dig_nat h]; omega
    · rw [Lib.decDigits, dif_neg h] at hc
      rcases List.mem_append.1 hc with hc | hc
      · exact ih (u / 10) (by omega) c hc
      · simp only [List.mem_singleton] at hc
        rw [hc, dig_nat (Nat.mod_lt _ (by omega))]; omega
theorem dig_ne (u : Nat) : Lib.decDigits u ≠ [] := by
  rw [Lib.decDigits]; split <;> simp
theorem dig_len : ∀ (k u : Nat), u < 10 ^ (k + 1) → (Lib.decDigits u).length ≤ k + 1
  | 0, u, h => by rw [Lib.decDigits, dif_pos (by simpa using h)]; simp
  | k + 1, u, h => by
    by_cases hu : u < 10
    · rw [Lib.decDigits, dif_pos hu]; simp
    · rw [Lib.decDigits, dif_neg hu, List.length_append]
      have := dig_len k (u / 10) (by rw [Nat.pow_succ] at h; omega)
      simp; omega
theorem atoi_itoa {n : Int} (h : -9223372036854775808 ≤ n ∧ n ≤ 9223372036854775807) : Lib.atoiAll (Lib.itoa n) = .ok n := by
  unfold Lib.itoa
  by_cases hn : n < 0
  · rw [if_pos hn]
    unfold Lib.atoiAll
    dsimp only
    rw [if_pos (by decide)]
    unfold Lib.parseMag
    rw [if_neg (dig_ne _), parse_dig _ (by omega)]
    dsimp only
    rw [if_neg (by simp), if_neg (by omega), if_pos (by decide)]
    congr 1; omega
  · rw [if_neg hn]
    cases hd : Lib.decDigits n.toNat with
    | nil => exact absurd hd (dig_ne _)
    | cons c r =>
      have hc := dig_all n.toNat c (by rw [hd]; simp)
      unfold Lib.atoiAll
      dsimp only
      rw [if_neg (by omega), ← hd]
      unfold Lib.parseMag
      rw [if_neg (dig_ne _), parse_dig _ (by omega)]
      dsimp only
      rw [if_neg (by omega), if_neg (by omega), if_neg (by omega)]
      congr 1; omega
def decS (n : Int) : ByteArray := ⟨(Lib.itoa n).toArray⟩
theorem decS_list {n : Int} : (decS n).data.toList = Lib.itoa n := by unfold decS; simp
theorem itoa_ch {n : Int} : ∀ c ∈ Lib.itoa n, c.toNat = 45 ∨ 48 ≤ c.toNat ∧ c.toNat ≤ 57 := by
  intro c hc
  unfold Lib.itoa at hc
  split at hc
  · rcases List.mem_cons.1 hc with h | h
    · left; rw [h]; rfl
    · exact .inr (dig_all _ c h)
  · exact .inr (dig_all _ c hc)
theorem itoa_len {n : Int} (h : -1000000000000000000 < n ∧ n < 1000000000000000000) : (Lib.trimPrefix (Lib.itoa n) [45]).length ≤ 18 := by
  unfold Lib.itoa
  by_cases hn : n < 0
  · rw [if_pos hn]
    have := dig_len 17 n.natAbs (by omega)
    unfold Lib.trimPrefix
    split
    · simpa using this
    · rename_i hp
      exact absurd (by rfl) hp
  · rw [if_neg hn]
    have := dig_len 17 n.toNat (by omega)
    unfold Lib.trimPrefix
    split
    · simp; omega
    · exact this
theorem itoa_len21 {n : Int} (h : -9223372036854775808 ≤ n ∧ n ≤ 9223372036854775807) : (Lib.itoa n).length ≤ 20 := by
  unfold Lib.itoa
  by_cases hn : n < 0
  · rw [if_pos hn]; have := dig_len 18 n.natAbs (by omega); simpa using this
  · rw [if_neg hn]; have := dig_len 18 n.toNat (by omega); omega
theorem idx_free {l : List UInt8} {c : UInt8} (h : c ∉ l) : Lib.indexByte l c = -1 := by
  induction l with
  | nil => rfl
  | cons b l ih =>
    have h1 : ¬ (b == c) = true := fun e => h (by rw [beq_iff_eq.1 e]; simp)
    rw [Lib.indexByte, if_neg h1, ih (fun e => h (List.mem_cons_of_mem _ e))]; rfl
theorem idx_at {l r : List UInt8} {c : UInt8} (h : c ∉ l) : Lib.indexByte (l ++ c :: r) c = l.length := by
  induction l with
  | nil => simp [Lib.indexByte]
  | cons b l ih =>
    have h1 : ¬ (b == c) = true := fun e => h (by rw [beq_iff_eq.1 e]; simp)
    have h2 := ih (fun e => h (List.mem_cons_of_mem _ e))
    rw [List.cons_append, Lib.indexByte, if_neg h1, h2, if_neg (by simp only [beq_iff_eq]; omega)]
    simp
theorem indexB_l {s : ByteArray} {c : UInt8} : Lib.indexB s ⟨#[c]⟩ = Lib.indexByte s.data.toList c := by
  show Lib.index _ [c] = _
  exact Lib.index_one _ _
def joinS (c : UInt8) (xs : List ByteArray) : ByteArray := ⟨(Lib.join (xs.map (·.data.toList)) [c]).toArray⟩
theorem joinS_list {c : UInt8} {xs : List ByteArray} : (joinS c xs).data.toList = Lib.join (xs.map (·.data.toList)) [c] := by unfold joinS; simp
theorem ba_ext {a b : ByteArray} (h : a.data.toList = b.data.toList) : a = b := by
  apply ByteArray.ext
  exact Array.toList_inj.1 h
theorem join_2 {x y : List UInt8} {r : List (List UInt8)} {c : UInt8} : Lib.join (x :: y :: r) [c] = x ++ c :: Lib.join (y :: r) [c] := by
  simp [Lib.join, List.intercalate]
theorem split_join {c : UInt8} : ∀ (k : Nat) (xs : List ByteArray), xs ≠ [] → xs.length ≤ k + 1 → (∀ x ∈ xs, c ∉ x.data.toList) → Lib.splitB ⟨#[c]⟩ 0 k (joinS c xs) = xs
  | _, [], h, _, _ => absurd rfl h
  | k, [x], _, _, hx => by
    have e : joinS c [x] = x := ba_ext (by rw [joinS_list]; simp [Lib.join_one])
    rw [e, Lib.splitB_miss]
    rw [indexB_l, idx_free (hx x (by simp))]
  | 0, x :: y :: r, _, hl, _ => by simp at hl
  | k + 1, x :: y :: r, _, hl, hx => by
    have e : (joinS c (x :: y :: r)).data.toList = x.data.toList ++ c :: (joinS c (y :: r)).data.toList := by
      rw [joinS_list, joinS_list]; exact join_2
    have hi : Lib.indexB (joinS c (x :: y :: r)) ⟨#[c]⟩ = (x.data.toList.length : Nat) := by rw [indexB_l, e, idx_at (hx x (by simp))]
    rw [Lib.splitB_hit _ _ _ _ _ hi]
    have h1 : (joinS c (x :: y :: r)).extract 0 (x.data.toList.length + 0) = x := ba_ext (by
      rw [ByteArray.data_extract, Array.toList_extract, e]; simp)
    have h2 : (joinS c (x :: y :: r)).extract (x.data.toList.length + (⟨#[c]⟩ : ByteArray).size) (joinS c (x :: y :: r)).size = joinS c (y :: r) := ba_ext (by
      rw [ByteArray.data_extract, Array.toList_extract, List.extract_eq_take_drop, Lib.size_eq (joinS c (x :: y :: r)), e]
      show List.take _ (List.drop (x.data.toList.length + 1) _) = _
      have e2 : List.drop (x.data.toList.length + 1) (x.data.toList ++ c :: (joinS c (y :: r)).data.toList) = (joinS c (y :: r)).data.toList := by
        rw [List.drop_append, List.drop_eq_nil_of_le (by omega), show x.data.toList.length + 1 - x.data.toList.length = 1 by omega]; rfl
      rw [e2, List.take_of_length_le]
      rw [List.length_append, List.length_cons]
      show _ ≤ _ - (x.data.toList.length + 1)
      omega)
    rw [h1, h2, split_join k (y :: r) (by simp) (by simpa using hl) (fun z hz => hx z (List.mem_cons_of_mem _ hz))]
end Go.Proofs.YtdhkpmaanegjkaaGreatDoor

set_option linter.unusedVariables false
set_option linter.unusedSimpArgs false
namespace Go.Proofs.YtdhkpmaanegjkaaGreatDoor
open Go.Av Go.RowKit
theorem ok_i {n : Int} (h : -9223372036854775808 ≤ n ∧ n ≤ 9223372036854775807) : wfV (.int .i64 n) ∧ (Value.int .i64 n).oneCell' = true := ⟨(wrap_eq_iff .i64 n).2 h, rfl⟩
theorem ok_s {s : ByteArray} (h : s.size ≤ maxLen) : wfV (.string s) ∧ (Value.string s).oneCell' = true := ⟨h, rfl⟩
--@fn strconv.FormatInt
theorem fmtT (n : Int) (h : -9223372036854775808 ≤ n ∧ n ≤ 9223372036854775807) : FnSem Tryz.prog 95 [In n, In 10] [] (Is [Str (decS n)] []) :=
  FnSem.leaf (cs := [.int .i64 n, .int .i64 10]) (rs := [.string (decS n)]) (by kernel_rfl) (fun r hr => by simp at hr; subst hr; exact ok_s (by have := itoa_len21 h; show (Lib.itoa n).toArray.size ≤ _; simp [maxLen]; omega)) fun w A hk _ => by
    refine (Tryz.strconv_FormatInt_10 n h.1 h.2 w (knT_K hk).p10).mono fun e w' ⟨h1, k, os, h2⟩ => ⟨h1, ?_⟩
    rw [h2]; exact (Ext.drewN w k).trans (Ext.grow _ os)
--@fn strconv.ParseInt
theorem parT (s : ByteArray) (v : Int) (hs : s.size ≤ 9223372036854775806) (h : Lib.parseIntB 64 s.data.toList = .ok v) (hv : -9223372036854775808 ≤ v ∧ v ≤ 9223372036854775807) : FnSem Tryz.prog 92 [Str s, In 10, In 64] [] (Is [In v, cV .nilIface] []) :=
  FnSem.leaf (cs := [.string s, .int .i64 10, .int .i64 64]) (rs := [.int .i64 v, .nilIface]) (by kernel_rfl) (fun r hr => by simp at hr; rcases hr with rfl | rfl <;> first | exact ok_i hv | exact ⟨trivial, rfl⟩) fun w A hk _ => by
    refine (Tryz.strconv_ParseInt_10_at64_ok s hs v h w).mono fun e w' ⟨h1, h2⟩ => ⟨h1, ?_⟩
    rcases h2 with rfl | ⟨t, rfl⟩
    · exact Ext.refl _
    · exact Ext.bytesWorld _ _ _
--@fn strings.Cut
theorem cutT (s sep a b : ByteArray) (k : Bool) (hs : s.size < 4294967281) (hc : Lib.cut s.data.toList sep.data.toList = (a.data.toList, b.data.toList, k)) (ha : a.size ≤ maxLen) (hb : b.size ≤ maxLen) :
    FnSem Tryz.prog 69 [Str s, Str sep] [] (Is [Str a, Str b, Bo k] []) :=
  FnSem.leaf (cs := [.string s, .string sep]) (rs := [.string a, .string b, .bool k]) (by kernel_rfl) (fun r hr => by simp at hr; rcases hr with rfl | rfl | rfl <;> first | exact ok_s ha | exact ok_s hb | exact ⟨trivial, rfl⟩) fun w A hk _ => by
    obtain ⟨m, hm⟩ := (knT_K hk).ml 0 (by kernel_rfl)
    refine (Tryz.strings_Cut s sep m w hs hm).mono fun e w' ⟨h1, n, h2⟩ => ⟨?_, ?_⟩
    · rw [h1, hc]; rfl
    · rw [h2]; exact Ext.drewN w n
--@fn strings.TrimPrefix
theorem trimT (s p t : ByteArray) (ht : Lib.trimPrefix s.data.toList p.data.toList = t.data.toList) (hs : t.size ≤ maxLen) : FnSem Tryz.prog 93 [Str s, Str p] [] (Is [Str t] []) :=
  FnSem.leaf (cs := [.string s, .string p]) (rs := [.string t]) (by kernel_rfl) (fun r hr => by simp at hr; subst hr; exact ok_s hs) fun w A hk _ => by
    refine (Tryz.strings_TrimPrefix s p w).mono fun e w' ⟨h1, h2⟩ => ⟨?_, ?_⟩
    · rw [h1, ht]; rfl
    · rw [h2]; exact Ext.refl _
theorem cel_len {ys : List ByteArray} {N : Nat} (h : ys.length ≤ N) : (Lib.cellsOf ys N).toList.length = N := by
  have := Lib.cellsOf_size h
  simpa using this
theorem cel_map {ys : List ByteArray} {N : Nat} : (Lib.cellsOf ys N).toList.map (fun v => [PV.c v]) = (ys ++ List.replicate (N - ys.length) ByteArray.empty).map eS := by
  unfold Lib.cellsOf
  simp [List.map_append, List.map_map, List.map_replicate, Function.comp_def]
  rfl
--@fn strings.SplitN
theorem splitT (s sep : ByteArray) (n : Nat) (ys : List ByteArray) (hs : s.size < 4294967281) (h1 : 1 ≤ sep.size) (hn : 1 ≤ n) (hn63 : n ≤ 9223372036854775807) (hy : Lib.splitB sep 0 (min n (s.size + 1) - 1) s = ys) (hl : ys.length ≤ min n (s.size + 1)) (hz : ∀ y ∈ ys, y.size ≤ maxLen) :
    FnSem Tryz.prog 57 [Str s, Str sep, In n] [] (Is [.osl 0 0 ys.length] [Rw .flat (eS ByteArray.empty) ((ys ++ List.replicate (min n (s.size + 1) - ys.length) ByteArray.empty).map eS)]) := by
  rw [← cel_map]
  exact
  FnSem.leafRow (cs := [.string s, .string sep, .int .i64 n]) (by kernel_rfl) (fun r hr => by
    unfold Lib.cellsOf at hr
    simp only [List.mem_append, List.mem_map, List.mem_replicate] at hr
    rcases hr with ⟨y, hy, rfl⟩ | ⟨_, rfl⟩
    · exact ok_s (hz y hy)
    · exact ok_s (by decide)) (by rw [cel_len hl]; exact hl) (by rw [cel_len hl]; unfold maxLen; omega) fun w A hk _ => by
    obtain ⟨m, hm⟩ := (knT_K hk).ml 0 (by kernel_rfl)
    refine (Tryz.strings_SplitN s sep n m w hs hm h1 hn hn63).mono fun e w' ⟨h2, h3⟩ => ⟨9, ?_, ?_⟩
    · rw [h2, hy, cel_len hl]
    · rw [h3, hy]
theorem joinW {xs : List ByteArray} {sep : ByteArray} {r : ByteArray} (hr : Lib.join (xs.map (·.data.toList)) sep.data.toList = r.data.toList) (hl : r.size ≤ 140737488355328) (hN : xs.length ≤ 140737488355328) :
    ∀ w A (a : Option Addr) (cap : Nat), Kn.K Tryz.prog w A → (xs.map Value.string).length ≤ cap → cap ≤ maxLen → wfV (.string sep) → (0 < (xs.map Value.string).length → ∃ ad : Addr, a = some ad ∧ ad.block < w.heap.size ∧ ∀ (j : Nat) x, (xs.map Value.string)[j]? = some x → w.cell? (ad.add j) = some x) →
      Calls Tryz.prog 149 #[.slice a (xs.map Value.string).length cap, .string sep] w fun e w' => e = .returned (.string r) ∧ Ext w w' := by
  intro w A a cap _ hcap _ _ hc
  rw [List.length_map] at hcap ⊢
  rcases Nat.eq_zero_or_pos xs.length with h0 | hp
  · rw [h0]
    refine (Tryz.strings_Join_none a cap sep w).mono fun e w' ⟨h1, h2⟩ => ⟨?_, by rw [h2]; exact Ext.refl _⟩
    rw [List.eq_nil_of_length_eq_zero h0] at hr
    rw [h1]
    have : r = ⟨#[]⟩ := by
      cases r with
      | mk d => congr; apply Array.ext'; exact hr.symm
    rw [this]
  · obtain ⟨ad, ha, hb, hcl⟩ := hc (by simpa using hp)
    obtain ⟨e0, e1⟩ := cells_at (by simpa using hp) hcl
    rw [ha, e0]
    refine (Tryz.strings_Join ad.block ad.off cap xs sep w (fun j x hj => e1 j _ (by rw [List.getElem?_map, hj]; rfl)) hb hN hcap ?_).mono fun e w' ⟨h1, h2⟩ => ⟨?_, Ext.below h2⟩
    · rw [hr, Array.length_toList]; exact hl
    · rw [h1, hr]
--@fn strings.Join
theorem joinT (fl : Fl) (z : List PV) (xs : List ByteArray) (sep r : ByteArray) (hz : z.length = 1) (hr : Lib.join (xs.map (·.data.toList)) sep.data.toList = r.data.toList) (hl : r.size ≤ 140737488355328) (hN : xs.length ≤ 140737488355328) :
    FnSem Tryz.prog 149 [.p fl (.lst z (xs.map eS)), Str sep] [] (Is [Str r] []) := by
  have h := FnSem.leafList (fl := fl) (by kernel_rfl) (ok_s (by unfold maxLen; omega)) hz (joinW hr hl hN)
  rw [List.map_map] at h; exact h
--@fn strings.Join
end Go.Proofs.YtdhkpmaanegjkaaGreatDoor

set_option linter.unusedVariables false
set_option linter.unusedSimpArgs false
namespace Go.Proofs.YtdhkpmaanegjkaaGreatDoor
open Go.Av
attribute [local irreducible] Go.IntKind.wrap
set_option maxRecDepth 20000
set_option maxHeartbeats 8000000
theorem decS_size {n : Int} (h : -9223372036854775808 ≤ n ∧ n ≤ 9223372036854775807) : (decS n).size ≤ 20 := by
  have := itoa_len21 h
  show (Lib.itoa n).toArray.size ≤ _; simpa using this
theorem decS_parse {n : Int} (h : -9223372036854775808 ≤ n ∧ n ≤ 9223372036854775807) : Lib.parseIntB 64 (decS n).data.toList = .ok n := by
  rw [decS_list, Lib.parseIntB_64, atoi_itoa h]
def trimS (n : Int) : ByteArray := ⟨(Lib.trimPrefix (Lib.itoa n) [45]).toArray⟩
theorem trimS_list {n : Int} : Lib.trimPrefix (decS n).data.toList [45] = (trimS n).data.toList := by rw [decS_list]; unfold trimS; simp
theorem trimS_size {n : Int} (h : -1000000000000000000 < n ∧ n < 1000000000000000000) : (trimS n).size ≤ 18 := by
  have := itoa_len h
  show (Lib.trimPrefix (Lib.itoa n) [45]).toArray.size ≤ _; simpa using this
--@fn impl.Decimal
theorem decT (n : Int) (h : -9223372036854775808 ≤ n ∧ n ≤ 9223372036854775807) : FnSem Tryz.prog 60 [In n] [] (Is [Str (decS n)] []) := by
  refine FnSem.walk (zs := zeroPV Tryz.prog) (by kernel_rfl) Tryz.func60 rfl Tryz.results60 (by kernel_rfl) (by kernel_rfl) (by kernel_rfl) fun hw hh => ?_
  obtain ⟨w0, _⟩ := hw
  first | replace w0 := wf_I w0 | skip
  repeat' first
    | refine And.intro rfl ?_
    | refine GdF.mk (fun h => h) ?_
    | refine And.intro (Nat.succ_ne_zero _) ?_
    | refine And.intro (Nat.le_of_ble_eq_true rfl) ?_
    | refine SeqF.run ?_
    | refine ArgF.is (fmtT n h) ?_
    | refine ArgQ.is (fun hG => fmtT n h) rfl rfl ?_
    | refine GhF.go ?_
    | refine BndF.mk (fun _ => by omega) ?_
    | refine BndF.mk (fun _ => by simp only [lnS]; omega) ?_
    | refine EqL.mk [] rfl ?_
    | refine EqL.mk [_] rfl ?_
    | refine EqL.mk _ rfl ?_
    | refine ArgF.is (c_strconv_FormatInt _ (by first | assumption | omega)) ?_
    | refine ArgQ.is (fun hG => c_strconv_FormatInt _ (by first | assumption | omega)) rfl rfl ?_
    | refine CallF.mk (CallW.is [] true rfl ?_)
    | refine CallG.mk ?_
    | (refine CondF.mk (fun hb => ?_) (fun hb => ?_) <;> try simp only [forall_const, eq_self, not_true_eq_false, not_false_eq_true, or_false, false_or, or_self, or_true, true_or, and_true, true_and, and_false, false_and, decide_true, decide_false, Bool.not_true, Bool.not_false, decide_eq_true_eq, decide_eq_false_iff_not, ite_and_p, ite_or_p, Bool.decide_eq_true, Bool.and_eq_true, Bool.or_eq_true, Bool.not_eq_true', Bool.not_eq_false', Bool.and_eq_false_imp, Bool.or_eq_false_iff, bne_iff_ne, beq_iff_eq, bne_eq_false_iff_eq, beq_eq_false_iff_ne, gt_iff_lt, ge_iff_le, Int.not_lt, Int.not_le, ne_eq, Bool.true_eq_false, Bool.false_eq_true, reduceCtorEq, eta_Airway, eta_Fan, eta_Mine] at hb)
    | refine RetF.auto (And.intro rfl ?_)
    | exact Is.mk rfl rfl
    | refine Is.mk ?_ rfl
    | refine Is.mk rfl ?_
    | refine Is.mk ?_ ?_
--@fn impl.ReadDecimal
theorem rdcT (n : Int) (h : -1000000000000000000 < n ∧ n < 1000000000000000000) : FnSem Tryz.prog 58 [Str (decS n)] [] (Is [In n, Bo true] []) := by
  have h64 : -9223372036854775808 ≤ n ∧ n ≤ 9223372036854775807 := by omega
  have hs := decS_size h64
  have ht := trimS_size h
  refine FnSem.walk (zs := zeroPV Tryz.prog) (by kernel_rfl) Tryz.func58 rfl Tryz.results58 (by kernel_rfl) (by kernel_rfl) (by kernel_rfl) fun hw hh => ?_
  obtain ⟨w0, _⟩ := hw
  first | replace w0 := wf_S w0 | skip
  repeat' first
    | refine And.intro rfl ?_
    | refine GdF.mk (fun h => h) ?_
    | refine And.intro (Nat.succ_ne_zero _) ?_
    | refine And.intro (Nat.le_of_ble_eq_true rfl) ?_
    | refine SeqF.run ?_
    | refine ArgF.is (parT (decS n) n (by omega) (decS_parse h64) h64) ?_
    | refine ArgQ.is (fun hG => parT (decS n) n (by omega) (decS_parse h64) h64) rfl rfl ?_
    | refine ArgF.is (trimT (decS n) _ (trimS n) trimS_list (by unfold maxLen; omega)) ?_
    | refine ArgQ.is (fun hG => trimT (decS n) _ (trimS n) trimS_list (by unfold maxLen; omega)) rfl rfl ?_
    | refine ArgF.is (decT n h64) ?_
    | refine ArgQ.is (fun hG => decT n h64) rfl rfl ?_
    | refine GhF.go ?_
    | refine GdS.keep ?_
    | refine BndF.mk (fun _ => by omega) ?_
    | refine BndF.mk (fun _ => by simp only [lnS]; omega) ?_
    | refine BndF.mk (fun hG => by simp only [forall_const, eq_self, not_true_eq_false, not_false_eq_true, or_false, false_or, or_self, or_true, true_or, and_true, true_and, and_false, false_and, decide_true, decide_false, Bool.not_true, Bool.not_false, decide_eq_true_eq, decide_eq_false_iff_not, ite_and_p, ite_or_p, Bool.decide_eq_true, Bool.and_eq_true, Bool.or_eq_true, Bool.not_eq_true', Bool.not_eq_false', Bool.and_eq_false_imp, Bool.or_eq_false_iff, bne_iff_ne, beq_iff_eq, bne_eq_false_iff_eq, beq_eq_false_iff_ne, gt_iff_lt, ge_iff_le, Int.not_lt, Int.not_le, ne_eq, Bool.true_eq_false, Bool.false_eq_true, reduceCtorEq, eta_Airway, eta_Fan, eta_Mine, bytes_nil] at hG; (try simp only [List.length_map]); omega) ?_
    | refine EqL.mk [] rfl ?_
    | refine EqL.mk [_] rfl ?_
    | refine EqL.mk _ rfl ?_
    | refine ArgF.is (c_strconv_ParseInt ..) ?_
    | refine ArgQ.is (fun hG => c_strconv_ParseInt ..) rfl rfl ?_
    | refine ArgF.is (c_strings_TrimPrefix ..) ?_
    | refine ArgQ.is (fun hG => c_strings_TrimPrefix ..) rfl rfl ?_
    | refine ArgF.is (c_impl_Decimal _ (by first | assumption | omega)) ?_
    | refine ArgQ.is (fun hG => c_impl_Decimal _ (by first | assumption | omega)) rfl rfl ?_
    | refine ArgQ.is (fun hG => c_impl_Decimal _ (by simp only [forall_const, eq_self, not_true_eq_false, not_false_eq_true, or_false, false_or, or_self, or_true, true_or, and_true, true_and, and_false, false_and, decide_true, decide_false, Bool.not_true, Bool.not_false, decide_eq_true_eq, decide_eq_false_iff_not, ite_and_p, ite_or_p, Bool.decide_eq_true, Bool.and_eq_true, Bool.or_eq_true, Bool.not_eq_true', Bool.not_eq_false', Bool.and_eq_false_imp, Bool.or_eq_false_iff, bne_iff_ne, beq_iff_eq, bne_eq_false_iff_eq, beq_eq_false_iff_ne, gt_iff_lt, ge_iff_le, Int.not_lt, Int.not_le, ne_eq, Bool.true_eq_false, Bool.false_eq_true, reduceCtorEq, eta_Airway, eta_Fan, eta_Mine, bytes_nil] at hG; omega)) rfl rfl ?_
    | refine CallF.mk (CallW.is [] true rfl ?_)
    | refine CallG.mk ?_
    | (refine CondF.mk (fun hb => ?_) (fun hb => ?_) <;> try simp only [forall_const, eq_self, not_true_eq_false, not_false_eq_true, or_false, false_or, or_self, or_true, true_or, and_true, true_and, and_false, false_and, decide_true, decide_false, Bool.not_true, Bool.not_false, decide_eq_true_eq, decide_eq_false_iff_not, ite_and_p, ite_or_p, Bool.decide_eq_true, Bool.and_eq_true, Bool.or_eq_true, Bool.not_eq_true', Bool.not_eq_false', Bool.and_eq_false_imp, Bool.or_eq_false_iff, bne_iff_ne, beq_iff_eq, bne_eq_false_iff_eq, beq_eq_false_iff_ne, gt_iff_lt, ge_iff_le, Int.not_lt, Int.not_le, ne_eq, Bool.true_eq_false, Bool.false_eq_true, reduceCtorEq, eta_Airway, eta_Fan, eta_Mine] at hb)
    | refine RetF.auto (And.intro rfl ?_)
    | exact Is.mk rfl rfl
    | refine Is.mk ?_ rfl
    | refine Is.mk rfl ?_
    | refine Is.mk ?_ ?_
  all_goals omega
end Go.Proofs.YtdhkpmaanegjkaaGreatDoor

set_option linter.unusedVariables false
set_option linter.unusedSimpArgs false
namespace Go.Proofs.YtdhkpmaanegjkaaGreatDoor
open Go.Av
attribute [local irreducible] Go.IntKind.wrap
set_option maxRecDepth 20000
set_option maxHeartbeats 8000000
theorem join_len {c : UInt8} : ∀ xs : List (List UInt8), (∀ x ∈ xs, x.length ≤ 20) → (Lib.join xs [c]).length ≤ 21 * xs.length
  | [], _ => by simp [Lib.join_nil]
  | [x], h => by
    have := h x (by simp)
    have e : Lib.join [x] [c] = x := by simp [Lib.join, List.intercalate]
    rw [e]; simp; omega
  | x :: y :: r, h => by
    rw [join_2]
    have h1 := h x (by simp)
    have h2 := join_len (c := c) (y :: r) (fun z hz => h z (List.mem_cons_of_mem _ hz))
    simp only [List.length_append, List.length_cons] at h2 ⊢
    omega
def okLs (xs : List Int) : Prop := 0 < xs.length ∧ xs.length ≤ 64 ∧ ∀ x ∈ xs, -1000000000000 ≤ x ∧ x ≤ 1000000000000
theorem okLs.nth {xs : List Int} (h : okLs xs) {i : Int} (h0 : 0 ≤ i) (h1 : i < xs.length) : -1000000000000 ≤ xs.getD i.toNat 0 ∧ xs.getD i.toNat 0 ≤ 1000000000000 := by
  apply h.2.2
  rw [List.getD_eq_getElem?_getD, List.getElem?_eq_getElem (by omega), Option.getD_some]
  exact List.getElem_mem _
def listS (xs : List Int) : ByteArray := joinS 44 (xs.map decS)
theorem listS_size {xs : List Int} (h : okLs xs) : (listS xs).size ≤ 1344 := by
  have h1 := join_len (c := 44) ((xs.map decS).map (·.data.toList)) (fun x hx => by
    simp only [List.mem_map] at hx
    obtain ⟨y, ⟨n, hn, rfl⟩, rfl⟩ := hx
    have := decS_size (n := n) (by have := h.2.2 n hn; omega)
    rw [Array.length_toList]; exact this)
  have h2 : (listS xs).size = (listS xs).data.toList.length := by rw [Array.length_toList]; rfl
  unfold listS at h2 ⊢
  rw [joinS_list] at h2
  rw [h2]
  simp only [List.length_map] at h1
  have := h.2.1
  omega
theorem listS_join {xs : List Int} {ys : List ByteArray} {i : Int} (hi : xs.length ≤ i) (h : ys = (xs.take i.toNat).map decS) : Lib.join (ys.map (·.data.toList)) [44] = (listS xs).data.toList := by
  rw [h, List.take_of_length_le (by omega)]; unfold listS; exact joinS_list.symm
--@fn impl.ListText
theorem ltxT (xs : List Int) (h : okLs xs) : FnSem Tryz.prog 122 [Lx (LI xs)] [] (Is [Str (listS xs)] []) := by
  have hp := h.1
  have hl := h.2.1
  have hz := listS_size h
  refine FnSem.walk (zs := zeroPV Tryz.prog) (by kernel_rfl) Tryz.func122 rfl Tryz.results122 (by kernel_rfl) (by kernel_rfl) (by kernel_rfl) fun hw hh => ?_
  obtain ⟨w0, _⟩ := hw
  first | replace w0 := wf_LI w0 | skip
  repeat' first
    | refine And.intro rfl ?_
    | refine GdF.mk (fun h => h) ?_
    | refine And.intro (Nat.succ_ne_zero _) ?_
    | refine And.intro (Nat.le_of_ble_eq_true rfl) ?_
    | refine SeqF.run ?_
    | refine ArgF.is (decT (xs.getD i.toNat 0) (by have := h.nth h0 (by assumption); omega)) ?_
    | refine ArgQ.is (fun hG => decT (xs.getD i.toNat 0) (by have := h.nth h0 (by assumption); omega)) rfl rfl ?_
    | refine ArgF.is (joinT .any _ ys _ (listS xs) rfl (by exact listS_join (by omega) h3) (by omega) (by omega)) ?_
    | refine ArgQ.is (fun hG => joinT .any _ ys _ (listS xs) rfl (by exact listS_join (by omega) h3) (by omega) (by omega)) rfl rfl ?_
    | refine LoopF.at 7 rfl (LoopF.fix [15, 16] (Int × Nat × List ByteArray) (fun (i, n, ys) => 0 ≤ i ∧ i ≤ xs.length ∧ (n = ys.length ∧ (n : Int) = i) ∧ ys = (xs.take i.toNat).map decS) (fun (i, n, ys) => [(17, In i), (3, .osl 0 0 n)]) (fun (i, n, ys) => [(0, Rw .flat (eS ByteArray.empty) (ys.map eS))]) (fun (i, n, ys) => (((xs.length : Int) - i).toNat)) ((0, 0, [])) ?_)
    | (refine LoopB.of (T := Int × Nat × List ByteArray) ?_ ?_; rotate_left; rintro ⟨i, n, ys⟩ ⟨h0, h1, h2, h3⟩; rotate_left)
    | refine GhF.go ?_
    | refine MkF.row ?_
    | refine EqP.mk _ (gm eI 0 rfl) ?_
    | refine EqP.mk _ (gm eS ⟨#[]⟩ rfl) ?_
    | refine BndF.mk (fun _ => by omega) ?_
    | refine BndF.mk (fun _ => by simp only [lnS]; omega) ?_
    | refine EqI.mk _ (fun _ => wrapI (by omega) (by omega)) ?_
    | refine EqI.mk _ (fun _ => rfl) ?_
    | refine FlF.keep ?_
    | refine EqN.mk _ (ln eI) ?_
    | refine EqN.mk _ (ln eS) ?_
    | refine EqN.mk _ (Nat.zero_add _) ?_
    | refine EqN.mk (_ + 1) rfl ?_
    | refine EqN.mk _ (Int.toNat_natCast _) ?_
    | refine EqN.mk _ rfl ?_
    | refine EqL.mk _ (sn0 eI) ?_
    | refine EqL.mk _ (sn eI (by first | rfl | assumption | omega | (simp only [lnS] <;> omega))) ?_
    | refine EqL.mk _ (ap0 eI) ?_
    | refine EqL.mk _ (ap eI (by first | rfl | assumption | omega | (simp only [lnS] <;> omega))) ?_
    | refine EqL.mk _ (tk eI (by first | rfl | assumption | omega | (simp only [lnS] <;> omega))) ?_
    | refine EqL.mk _ (rp eI 0) ?_
    | refine EqL.mk _ (sn0 eS) ?_
    | refine EqL.mk _ (sn eS (by first | rfl | assumption | omega | (simp only [lnS] <;> omega))) ?_
    | refine EqL.mk _ (ap0 eS) ?_
    | refine EqL.mk _ (ap eS (by first | rfl | assumption | omega | (simp only [lnS] <;> omega))) ?_
    | refine EqL.mk _ (tk eS (by first | rfl | assumption | omega | (simp only [lnS] <;> omega))) ?_
    | refine EqL.mk _ (rp eS ⟨#[]⟩) ?_
    | refine EqL.mk [] rfl ?_
    | refine EqL.mk [_] rfl ?_
    | refine EqL.mk _ rfl ?_
    | refine ArgF.is (c_impl_within ..) ?_
    | refine ArgQ.is (fun hG => c_impl_within ..) rfl rfl ?_
    | refine ArgF.is (c_impl_Decimal _ (by first | assumption | omega)) ?_
    | refine ArgQ.is (fun hG => c_impl_Decimal _ (by first | assumption | omega)) rfl rfl ?_
    | refine ArgF.is (c_strings_Join ..) ?_
    | refine ArgQ.is (fun hG => c_strings_Join ..) rfl rfl ?_
    | refine CallF.mk (CallW.is [] true rfl ?_)
    | refine CallG.mk ?_
    | (refine CondF.mk (fun hb => ?_) (fun hb => ?_) <;> try simp only [forall_const, eq_self, not_true_eq_false, not_false_eq_true, or_false, false_or, or_self, or_true, true_or, and_true, true_and, and_false, false_and, decide_true, decide_false, Bool.not_true, Bool.not_false, decide_eq_true_eq, decide_eq_false_iff_not, ite_and_p, ite_or_p, Bool.decide_eq_true, Bool.and_eq_true, Bool.or_eq_true, Bool.not_eq_true', Bool.not_eq_false', Bool.and_eq_false_imp, Bool.or_eq_false_iff, bne_iff_ne, beq_iff_eq, bne_eq_false_iff_eq, beq_eq_false_iff_ne, gt_iff_lt, ge_iff_le, Int.not_lt, Int.not_le, ne_eq, Bool.true_eq_false, Bool.false_eq_true, reduceCtorEq, eta_Airway, eta_Fan, eta_Mine] at hb)
    | apply BackF.auto3
    | refine BackB.mk ?_ ?_
    | refine RetF.auto (And.intro rfl ?_)
    | exact Is.mk rfl rfl
    | refine Is.mk ?_ rfl
    | refine Is.mk rfl ?_
    | refine Is.mk ?_ ?_
  all_goals try dsimp only
  all_goals first
    | omega
    | exact ⟨by omega, by omega, ⟨rfl, by omega⟩, by simp⟩
    | exact ⟨by omega, by omega, ⟨by simp [h2.1], by omega⟩, by rw [h3, take_snoc h0 (by assumption) 0, List.map_append]; rfl⟩
    | (exfalso
       have hq := h.nth h0 (by assumption)
       have h4 := inR_f.1 hb
       omega)
    | skip
end Go.Proofs.YtdhkpmaanegjkaaGreatDoor
