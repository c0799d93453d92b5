/- Contracts of functions of the program, and what they compute. Conditions: those that each theorem states. -/
import Derived.Test.YtmifcbekaniiiaaGreatDoorProg
import Derived.Test.YtmifcbekaniiiaaGreatDoorT5
import Derived.Test.YtmifcbekaniiiaaGreatDoorK0
import Derived.Test.YtmifcbekaniiiaaGreatDoorShelf
set_option linter.unusedVariables false
set_option linter.unusedSimpArgs false
namespace Go.Proofs.YtmifcbekaniiiaaGreatDoor
open Go.Av Go.RowKit
theorem ok_i {n : Int} (h : -9223372036854775808 ≤ n ∧ n ≤ 9223372036854775807) : wfV (.int .i64 n) ∧ (Value.int .i64 n).oneCell' = true := ⟨(wrap_eq_iff .i64 n).2 h, rfl⟩
theorem ok_s {s : ByteArray} (h : s.size ≤ maxLen) : wfV (.string s) ∧ (Value.string s).oneCell' = true := ⟨h, rfl⟩
--@fn strconv.FormatInt
theorem fmtT (n : Int) (h : -9223372036854775808 ≤ n ∧ n ≤ 9223372036854775807) : FnSem Tryz.prog 183 [In n, In 10] [] (Is [Str (decS n)] []) :=
  FnSem.leaf (cs := [.int .i64 n, .int .i64 10]) (rs := [.string (decS n)]) (by kernel_rfl) (fun r hr => by simp at hr; subst hr; exact ok_s (by have := itoa_len21 h; show (Lib.itoa n).toArray.size ≤ _; simp [maxLen]; omega)) fun w A hk _ => by
    refine (Tryz.strconv_FormatInt_10 n h.1 h.2 w (knT_K hk).p10).mono fun e w' ⟨h1, k, os, h2⟩ => ⟨h1, ?_⟩
    rw [h2]; exact (Ext.drewN w k).trans (Ext.grow _ os)
--@fn strconv.ParseInt
theorem parT (s : ByteArray) (v : Int) (hs : s.size ≤ 9223372036854775806) (h : Lib.parseIntB 64 s.data.toList = .ok v) (hv : -9223372036854775808 ≤ v ∧ v ≤ 9223372036854775807) : FnSem Tryz.prog 181 [Str s, In 10, In 64] [] (Is [In v, cV .nilIface] []) :=
  FnSem.leaf (cs := [.string s, .int .i64 10, .int .i64 64]) (rs := [.int .i64 v, .nilIface]) (by kernel_rfl) (fun r hr => by simp at hr; rcases hr with rfl | rfl <;> first | exact ok_i hv | exact ⟨trivial, rfl⟩) fun w A hk _ => by
    refine (Tryz.strconv_ParseInt_10_at64_ok s hs v h w).mono fun e w' ⟨h1, h2⟩ => ⟨h1, ?_⟩
    rcases h2 with rfl | ⟨t, rfl⟩
    · exact Ext.refl _
    · exact Ext.bytesWorld _ _ _
--@fn strings.Cut
theorem cutT (s sep a b : ByteArray) (k : Bool) (hs : s.size < 4294967281) (hc : Lib.cut s.data.toList sep.data.toList = (a.data.toList, b.data.toList, k)) (ha : a.size ≤ maxLen) (hb : b.size ≤ maxLen) :
    FnSem Tryz.prog 142 [Str s, Str sep] [] (Is [Str a, Str b, Bo k] []) :=
  FnSem.leaf (cs := [.string s, .string sep]) (rs := [.string a, .string b, .bool k]) (by kernel_rfl) (fun r hr => by simp at hr; rcases hr with rfl | rfl | rfl <;> first | exact ok_s ha | exact ok_s hb | exact ⟨trivial, rfl⟩) fun w A hk _ => by
    obtain ⟨m, hm⟩ := (knT_K hk).ml 0 (by kernel_rfl)
    refine (Tryz.strings_Cut s sep m w hs hm).mono fun e w' ⟨h1, n, h2⟩ => ⟨?_, ?_⟩
    · rw [h1, hc]; rfl
    · rw [h2]; exact Ext.drewN w n
--@fn strings.TrimPrefix
theorem trimT (s p t : ByteArray) (ht : Lib.trimPrefix s.data.toList p.data.toList = t.data.toList) (hs : t.size ≤ maxLen) : FnSem Tryz.prog 182 [Str s, Str p] [] (Is [Str t] []) :=
  FnSem.leaf (cs := [.string s, .string p]) (rs := [.string t]) (by kernel_rfl) (fun r hr => by simp at hr; subst hr; exact ok_s hs) fun w A hk _ => by
    refine (Tryz.strings_TrimPrefix s p w).mono fun e w' ⟨h1, h2⟩ => ⟨?_, ?_⟩
    · rw [h1, ht]; rfl
    · rw [h2]; exact Ext.refl _
theorem cel_len {ys : List ByteArray} {N : Nat} (h : ys.length ≤ N) : (Lib.cellsOf ys N).toList.length = N := by
  have := Lib.cellsOf_size h
  simpa using this
theorem cel_map {ys : List ByteArray} {N : Nat} : (Lib.cellsOf ys N).toList.map (fun v => [PV.c v]) = (ys ++ List.replicate (N - ys.length) ByteArray.empty).map eS := by
  unfold Lib.cellsOf
  simp [List.map_append, List.map_map, List.map_replicate, Function.comp_def]
  rfl
--@fn strings.SplitN
theorem splitT (s sep : ByteArray) (n : Nat) (ys : List ByteArray) (hs : s.size < 4294967281) (h1 : 1 ≤ sep.size) (hn : 1 ≤ n) (hn63 : n ≤ 9223372036854775807) (hy : Lib.splitB sep 0 (min n (s.size + 1) - 1) s = ys) (hl : ys.length ≤ min n (s.size + 1)) (hz : ∀ y ∈ ys, y.size ≤ maxLen) :
    FnSem Tryz.prog 134 [Str s, Str sep, In n] [] (Is [.osl 0 0 ys.length] [Rw .flat (eS ByteArray.empty) ((ys ++ List.replicate (min n (s.size + 1) - ys.length) ByteArray.empty).map eS)]) := by
  rw [← cel_map]
  exact
  FnSem.leafRow (cs := [.string s, .string sep, .int .i64 n]) (by kernel_rfl) (fun r hr => by
    unfold Lib.cellsOf at hr
    simp only [List.mem_append, List.mem_map, List.mem_replicate] at hr
    rcases hr with ⟨y, hy, rfl⟩ | ⟨_, rfl⟩
    · exact ok_s (hz y hy)
    · exact ok_s (by decide)) (by rw [cel_len hl]; exact hl) (by rw [cel_len hl]; unfold maxLen; omega) fun w A hk _ => by
    obtain ⟨m, hm⟩ := (knT_K hk).ml 0 (by kernel_rfl)
    refine (Tryz.strings_SplitN s sep n m w hs hm h1 hn hn63).mono fun e w' ⟨h2, h3⟩ => ⟨9, ?_, ?_⟩
    · rw [h2, hy, cel_len hl]
    · rw [h3, hy]
theorem joinW {xs : List ByteArray} {sep : ByteArray} {r : ByteArray} (hr : Lib.join (xs.map (·.data.toList)) sep.data.toList = r.data.toList) (hl : r.size ≤ 140737488355328) (hN : xs.length ≤ 140737488355328) :
    ∀ w A (a : Option Addr) (cap : Nat), Kn.K Tryz.prog w A → (xs.map Value.string).length ≤ cap → cap ≤ maxLen → wfV (.string sep) → (0 < (xs.map Value.string).length → ∃ ad : Addr, a = some ad ∧ ad.block < w.heap.size ∧ ∀ (j : Nat) x, (xs.map Value.string)[j]? = some x → w.cell? (ad.add j) = some x) →
      Calls Tryz.prog 197 #[.slice a (xs.map Value.string).length cap, .string sep] w fun e w' => e = .returned (.string r) ∧ Ext w w' := by
  intro w A a cap _ hcap _ _ hc
  rw [List.length_map] at hcap ⊢
  rcases Nat.eq_zero_or_pos xs.length with h0 | hp
  · rw [h0]
    refine (Tryz.strings_Join_none a cap sep w).mono fun e w' ⟨h1, h2⟩ => ⟨?_, by rw [h2]; exact Ext.refl _⟩
    rw [List.eq_nil_of_length_eq_zero h0] at hr
    rw [h1]
    have : r = ⟨#[]⟩ := by
      cases r with
      | mk d => congr; apply Array.ext'; exact hr.symm
    rw [this]
  · obtain ⟨ad, ha, hb, hcl⟩ := hc (by simpa using hp)
    obtain ⟨e0, e1⟩ := cells_at (by simpa using hp) hcl
    rw [ha, e0]
    refine (Tryz.strings_Join ad.block ad.off cap xs sep w (fun j x hj => e1 j _ (by rw [List.getElem?_map, hj]; rfl)) hb hN hcap ?_).mono fun e w' ⟨h1, h2⟩ => ⟨?_, Ext.below h2⟩
    · rw [hr, Array.length_toList]; exact hl
    · rw [h1, hr]
--@fn strings.Join
theorem joinT (fl : Fl) (z : List PV) (xs : List ByteArray) (sep r : ByteArray) (hz : z.length = 1) (hr : Lib.join (xs.map (·.data.toList)) sep.data.toList = r.data.toList) (hl : r.size ≤ 140737488355328) (hN : xs.length ≤ 140737488355328) :
    FnSem Tryz.prog 197 [.p fl (.lst z (xs.map eS)), Str sep] [] (Is [Str r] []) := by
  have h := FnSem.leafList (fl := fl) (by kernel_rfl) (ok_s (by unfold maxLen; omega)) hz (joinW hr hl hN)
  rw [List.map_map] at h; exact h
--@fn strings.Join
theorem joinO (nw : Bool) (fl : Fl) (z : List PV) (xs : List ByteArray) (n : Nat) (sep r : ByteArray) (hz : z.length = 1) (hn : n = xs.length) (hr : Lib.join (xs.map (·.data.toList)) sep.data.toList = r.data.toList) (hl : r.size ≤ 140737488355328) (hN : xs.length ≤ 140737488355328) :
    FnSem Tryz.prog 197 [.osl 0 0 n, Str sep] [.row nw fl z (xs.map eS)] (Is [Str r] [.dead]) := by
  have h := FnSem.leafOwn (nw := nw) (fl := fl) (by kernel_rfl) (ok_s (by unfold maxLen; omega)) hz (by simpa using hn) (joinW hr hl hN)
  rw [List.map_map] at h; exact h
end Go.Proofs.YtmifcbekaniiiaaGreatDoor
