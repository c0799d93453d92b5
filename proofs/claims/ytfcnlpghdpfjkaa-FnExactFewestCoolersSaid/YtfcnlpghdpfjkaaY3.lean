/- Contracts of functions of the program, and what they compute. Conditions: those that each theorem states. -/
import Derived.Test.YtfcnlpghdpfjkaaProg
import Derived.Test.YtfcnlpghdpfjkaaY2
set_option linter.unusedVariables false
set_option linter.unusedSimpArgs false
namespace Go.Proofs.Ytfcnlpghdpfjkaa
open Go.Av
attribute [local irreducible] Go.IntKind.wrap leastI rdZ rd rootI rawA okMine mixT heatF heatY warmN clampW cmI
set_option maxRecDepth 20000
set_option maxHeartbeats 8000000

/-! Temperatures at all junctions. -/
section
variable (m : GMine) (fs rs ps : List Int) (rate : Int)
/-- the next junction whose temperature gets known -/
def fdS (ls : List Int) : Nat → Int → Option (List Int)
  | 0, _ => none
  | k + 1, j => if ls.getD j.toNat 0 = -1000 ∧ (cmI m fs rs ps ls rate j).2 = true then some (ls.set j.toNat (cmI m fs rs ps ls rate j).1) else fdS ls k (j + 1)
def tmN : Nat → List Int → List Int
  | 0, ls => ls
  | k + 1, ls => match fdS m fs rs ps rate ls m.junctions.toNat 0 with
    | none => ls
    | some q => tmN k q
end
def cnt (ls : List Int) : Nat := ls.countP (fun x => x == -1000)
def srf (J : Nat) (ss : List Int) (t : Int) : Nat → List Int
  | 0 => List.replicate J (-1000)
  | n + 1 => (srf J ss t n).set (ss.getD n 0).toNat t
section
variable {m : GMine} {fs rs ps ls : List Int} {rate j : Int}
theorem fdS_k {k : Nat} (hk : 0 < k) (h : ¬(ls.getD j.toNat 0 = -1000 ∧ (cmI m fs rs ps ls rate j).2 = true)) : fdS m fs rs ps rate ls k j = fdS m fs rs ps rate ls (k - 1) (j + 1) := by
  obtain ⟨k, rfl⟩ : ∃ n, k = n + 1 := ⟨k - 1, by omega⟩
  rw [fdS, if_neg h]; rfl
theorem fdS_f {k : Nat} (hk : 0 < k) (h : ls.getD j.toNat 0 = -1000 ∧ (cmI m fs rs ps ls rate j).2 = true) : fdS m fs rs ps rate ls k j = some (ls.set j.toNat (cmI m fs rs ps ls rate j).1) := by
  obtain ⟨k, rfl⟩ : ∃ n, k = n + 1 := ⟨k - 1, by omega⟩
  rw [fdS, if_pos h]
theorem fdS_0 {k : Nat} (hk : k = 0) : fdS m fs rs ps rate ls k j = none := by subst hk; rfl
theorem tmN_s {k : Nat} {q : List Int} (hk : 0 < k) (h : fdS m fs rs ps rate ls m.junctions.toNat 0 = some q) : tmN m fs rs ps rate k ls = tmN m fs rs ps rate (k - 1) q := by
  obtain ⟨k, rfl⟩ : ∃ n, k = n + 1 := ⟨k - 1, by omega⟩
  rw [tmN, h]; rfl
theorem tmN_e {k : Nat} (h : fdS m fs rs ps rate ls m.junctions.toNat 0 = none) : tmN m fs rs ps rate k ls = ls := by
  cases k with
  | zero => rfl
  | succ k => rw [tmN, h]
theorem cnt_set {i : Nat} {v : Int} (hi : i < ls.length) (h1 : ls.getD i 0 = -1000) (hv : -100 ≤ v) : cnt (ls.set i v) < cnt ls := by
  unfold cnt
  rw [List.countP_set hi]
  rw [List.getD_eq_getElem?_getD, List.getElem?_eq_getElem hi, Option.getD_some] at h1
  have h2 : 0 < ls.countP (fun x => x == -1000) := List.countP_pos_iff.2 ⟨ls[i], List.getElem_mem hi, by rw [h1]; rfl⟩
  rw [h1]
  simp only [beq_self_eq_true, if_true]
  rw [if_neg (by simp; omega)]
  omega
theorem gdSetY {p : List Int} {k j : Nat} {x : Int} : (p.set k x).getD j 0 = if k = j ∧ k < p.length then x else p.getD j 0 := by
  rw [List.getD_eq_getElem?_getD, List.getD_eq_getElem?_getD, List.getElem?_set]
  by_cases h : k = j
  · subst h
    rw [if_pos rfl]
    by_cases h2 : k < p.length
    · rw [if_pos h2, if_pos ⟨rfl, h2⟩]; rfl
    · rw [if_neg h2, if_neg (by omega), List.getElem?_eq_none (by omega)]
  · rw [if_neg h, if_neg (by omega)]
theorem lsP_set (h : lsP m ls) {i : Nat} {v : Int} (hv : -100 ≤ v ∧ v ≤ 600) : lsP m (ls.set i v) := by
  refine ⟨by rw [List.length_set]; exact h.ln, fun k hk => ?_⟩
  rw [List.length_set] at hk
  rw [gdSetY]
  split
  · exact .inr hv
  · exact h.at_ k hk
theorem srf_p {ss : List Int} {t : Int} (ht : -100 ≤ t ∧ t ≤ 600) : ∀ n : Nat, lsP m (srf m.junctions.toNat ss t n)
  | 0 => ⟨by simp [srf], fun k hk => by
    left
    simp only [srf, List.length_replicate] at hk
    rw [srf, List.getD_eq_getElem?_getD, List.getElem?_replicate, if_pos hk]; rfl⟩
  | n + 1 => lsP_set (srf_p ht n) ht
theorem srf_s {J : Nat} {ss : List Int} {t i : Int} (h : 0 ≤ i) : srf J ss t (i + 1).toNat = (srf J ss t i.toNat).set (ss.getD i.toNat 0).toNat t := by
  rw [show (i + 1).toNat = i.toNat + 1 by omega]; rfl
/-- the temperatures at all junctions -/
def temI (m : GMine) (fs rs ps ss : List Int) (t rate : Int) : List Int := tmN m fs rs ps rate (m.junctions.toNat + 1) (srf m.junctions.toNat ss t ss.length)
theorem cnt_le : cnt ls ≤ ls.length := List.countP_le_length
end
theorem tmN_p {m : GMine} {fs rs ps : List Int} {rate : Int} {P : List Int → Prop} (hP : ∀ ls q, P ls → fdS m fs rs ps rate ls m.junctions.toNat 0 = some q → P q) : ∀ (k : Nat) (ls : List Int), P ls → P (tmN m fs rs ps rate k ls)
  | 0, ls, h => h
  | k + 1, ls, h => by
    rw [tmN]
    split
    · exact h
    · rename_i q hq
      exact tmN_p hP k q (hP ls q h hq)
theorem fdS_sm {m : GMine} {fs rs ps ls : List Int} {rate : Int} : ∀ (k : Nat) (j : Int) (q : List Int), 0 ≤ j → fdS m fs rs ps rate ls k j = some q → ∃ i : Int, 0 ≤ i ∧ i < j + k ∧ ls.getD i.toNat 0 = -1000 ∧ (cmI m fs rs ps ls rate i).2 = true ∧ q = ls.set i.toNat (cmI m fs rs ps ls rate i).1
  | 0, j, q, _, h => by cases h
  | k + 1, j, q, hj, h => by
    rw [fdS] at h
    split at h
    · rename_i hc
      cases h
      exact ⟨j, hj, by omega, hc.1, hc.2, rfl⟩
    · obtain ⟨i, h1, h2, h3⟩ := fdS_sm k (j + 1) q (by omega) h
      exact ⟨i, h1, by omega, h3⟩
theorem temI_p {m : GMine} {fs rs ps ss : List Int} {t rate : Int} (hH : htP m fs rs ps rate) (ht : -100 ≤ t ∧ t ≤ 600) : lsP m (temI m fs rs ps ss t rate) := by
  unfold temI
  exact tmN_p (P := lsP m) (fun ls q h hq => by
    obtain ⟨i, h1, h2, h3, h4, rfl⟩ := fdS_sm _ _ _ (Int.le_refl 0) hq
    exact lsP_set h (cmI_v hH h4)) _ _ (srf_p ht _)
theorem c_impl_Mine_temperatures (m : GMine) (fs rs ps ss : List Int) (t rate : Int) (hH : htP m fs rs ps rate) (hs : ∀ i : Nat, (i : Int) < ss.length → 0 ≤ ss.getD i 0 ∧ ss.getD i 0 < m.junctions) (ht : -100 ≤ t ∧ t ≤ 600) : FnSem Try.prog 69 [.p .any (.agg m.cells), Lx (LI fs), Lx (LI rs), Lx (LI ps), Lx (LI ss), In t, In rate] [] (Is [.osl 0 0 m.junctions.toNat] [Rw .flat (eI 0) ((temI m fs rs ps ss t rate).map eI)]) := by
  have hmp := okMine_p hH.mine
  refine FnSem.walk (zs := zeroPV Try.prog) (by kernel_rfl) Try.func69 rfl Try.results69 (by kernel_rfl) (by kernel_rfl) (by kernel_rfl) fun hw hh => ?_
  obtain ⟨w0, w1, w2, w3, w4, w5, w6, _⟩ := hw
  first | replace w0 := wf_Mine w0 | skip
  first | replace w1 := wf_LI w1 | skip
  first | replace w2 := wf_LI w2 | skip
  first | replace w3 := wf_LI w3 | skip
  first | replace w4 := wf_LI w4 | skip
  first | replace w5 := wf_I w5 | skip
  first | replace w6 := wf_I w6 | skip
  repeat' first
    | refine And.intro rfl ?_
    | refine GdF.mk (fun h => h) ?_
    | refine And.intro (Nat.succ_ne_zero _) ?_
    | refine And.intro (Nat.le_of_ble_eq_true rfl) ?_
    | refine SeqF.run ?_
    | refine ArgF.is (c_slices_Repeat_int64_int64 (-1000) m.junctions (by omega)) ?_
    | refine ArgQ.is (fun hG => c_slices_Repeat_int64_int64 (-1000) m.junctions (by omega)) rfl rfl ?_
    | refine BndF.mk (fun _ => by have e := hs i.toNat (by omega); first | omega | (simp only [List.length_map]; omega)) ?_
    | refine BndF.mk (fun _ => by have e := k0.ln; first | omega | (simp only [List.length_map]; omega)) ?_
    | refine EqL.mk (ls.map eI) (tkW (by rw [k0.ln])) ?_
    | refine ArgF.is (c_impl_Mine_comingIn m fs rs ps ls j rate hH k0) ?_
    | refine ArgQ.is (fun hG => c_impl_Mine_comingIn m fs rs ps ls j rate hH k0) rfl rfl ?_
    | refine LoopF.at 3 rfl (LoopF.fix [1, 2, 3, 5, 6, 7, 15, 26, 27] (Int × List Int) (fun (i, ls) => 0 ≤ i ∧ i ≤ ss.length ∧ ls = srf m.junctions.toNat ss t i.toNat ∧ ls.length = m.junctions.toNat) (fun (i, ls) => [(28, In i)]) (fun (i, ls) => [(1, Rw .flat (eI 0) (ls.map eI))]) (fun (i, ls) => ((ss.length - i).toNat)) ((0, List.replicate m.junctions.toNat (-1000))) ?_)
    | (refine LoopB.of (T := Int × List Int) ?_ ?_; rotate_left; rintro ⟨i, ls⟩ ⟨h0, h1, h2, h3⟩; rotate_left)
    | refine LoopF.at 7 rfl (LoopF.fix [1, 2, 3, 6, 7, 15] (Nat × List Int) (fun (k, ls) => lsP m ls ∧ cnt ls < k ∧ tmN m fs rs ps rate k ls = temI m fs rs ps ss t rate) (fun (k, ls) => []) (fun (k, ls) => [(1, Rw .flat (eI 0) (ls.map eI))]) (fun (k, ls) => (cnt ls)) ((m.junctions.toNat + 1, ls)) ?_)
    | (refine LoopB.of (T := Nat × List Int) ?_ ?_; rotate_left; rintro ⟨k, ls⟩ ⟨k0, k1, k2⟩; rotate_left)
    | refine BackF.auto (k - 1, ls.set j.toNat (cmI m fs rs ps ls rate j).1) ?_
    | refine LoopF.at 9 rfl (LoopF.fix [1, 2, 3, 6, 7, 15, 38] (Int) (fun j => 0 ≤ j ∧ j ≤ m.junctions ∧ fdS m fs rs ps rate ls m.junctions.toNat 0 = fdS m fs rs ps rate ls (m.junctions.toNat - j.toNat) j) (fun j => [(18, Bo false), (39, In j)]) (fun j => [(1, Rw .flat (eI 0) (ls.map eI))]) (fun j => ((m.junctions - j).toNat)) (0) ?_)
    | (refine LoopB.of (T := Int) ?_ ?_; rotate_left; rintro j ⟨j0, j1, j2⟩; rotate_left)
    | refine GhF.go ?_
    | refine MkF.row ?_
    | refine EqP.mk _ (gm eI 0 rfl) ?_
    | refine BndF.mk (fun _ => by omega) ?_
    | refine BndF.mk (fun _ => by simp only [List.length_map, List.length_cons, List.length_nil, List.length_append, List.length_set, List.length_replicate, iotaI_len]; omega) ?_
    | refine EqI.mk _ (fun _ => wrapI (by omega) (by omega)) ?_
    | refine EqI.mk _ (fun _ => rfl) ?_
    | refine EqN.mk _ (ln eI) ?_
    | refine EqN.mk _ (Nat.zero_add _) ?_
    | refine EqN.mk _ (Int.toNat_natCast _) ?_
    | refine EqN.mk _ rfl ?_
    | refine EqL.mk _ (tk eI (by first | rfl | assumption | omega | (simp only [List.length_map, List.length_cons, List.length_nil, List.length_append, List.length_set, List.length_replicate, iotaI_len]; done) | (simp only [List.length_map, List.length_cons, List.length_nil, List.length_append, List.length_set, List.length_replicate, iotaI_len]; omega))) ?_
    | refine EqL.mk _ (st eI) ?_
    | refine EqL.mk _ (dt eI) ?_
    | refine EqL.mk [] rfl ?_
    | refine EqL.mk [_] rfl ?_
    | refine EqL.mk _ rfl ?_
    | refine ArgF.is (c_slices_Repeat_int64_int64 _ _ (by first | assumption | omega)) ?_
    | refine ArgQ.is (fun hG => c_slices_Repeat_int64_int64 _ _ (by first | assumption | omega)) rfl rfl ?_
    | refine ArgF.is (c_impl_Mine_comingIn ⟨_, _⟩ _ _ _ _ _ _ (by first | assumption | omega) (by first | assumption | omega)) ?_
    | refine ArgQ.is (fun hG => c_impl_Mine_comingIn ⟨_, _⟩ _ _ _ _ _ _ (by first | assumption | omega) (by first | assumption | omega)) rfl rfl ?_
    | refine CallF.mk (CallW.is [] true rfl ?_)
    | refine CallG.mk ?_
    | (refine CondF.mk (fun hb => ?_) (fun hb => ?_) <;> try simp only [forall_const, eq_self, not_true_eq_false, not_false_eq_true, or_false, false_or, or_self, or_true, true_or, and_true, true_and, and_false, false_and, decide_true, decide_false, Bool.not_true, Bool.not_false, decide_eq_true_eq, decide_eq_false_iff_not, ite_and_p, ite_or_p, Bool.decide_eq_true, Bool.and_eq_true, Bool.or_eq_true, Bool.not_eq_true', Bool.not_eq_false', Bool.and_eq_false_imp, Bool.or_eq_false_iff, bne_iff_ne, beq_iff_eq, bne_eq_false_iff_eq, beq_eq_false_iff_ne, gt_iff_lt, ge_iff_le, Int.not_lt, Int.not_le, ne_eq, Bool.true_eq_false, Bool.false_eq_true, reduceCtorEq, eta_Airway, eta_Fan, eta_Mine] at hb)
    | apply BackF.auto2
    | apply BackF.auto
    | refine BackB.mk ?_ ?_
    | refine RetF.auto (And.intro rfl ?_)
    | exact Is.mk rfl rfl
    | refine Is.mk ?_ rfl
    | refine Is.mk rfl ?_
    | refine Is.mk ?_ ?_
  all_goals try dsimp only
  all_goals first
    | omega
    | exact ⟨by omega, by omega, rfl, by simp⟩
    | exact ⟨by omega, by omega, by rw [srf_s h0, ← h2], by rw [List.length_set]; exact h3⟩
    | exact ⟨by rw [h2]; exact srf_p ht _, by have := cnt_le (ls := ls); omega, by rw [h2, show i.toNat = ss.length by omega]; rfl⟩
    | exact ⟨by omega, by omega, by rw [Int.toNat_zero, Nat.sub_zero]⟩
    | exact cnt_set (by rw [k0.ln]; omega) (by assumption) (cmI_v hH (by assumption)).1
    | (have hc := cnt_set (ls := ls) (i := j.toNat) (v := (cmI m fs rs ps ls rate j).1) (by rw [k0.ln]; omega) (by assumption) (cmI_v hH (by assumption)).1
       exact ⟨lsP_set k0 (cmI_v hH (by assumption)), by omega, by rw [← k2, tmN_s (by omega) (j2.trans (fdS_f (by omega) ⟨by assumption, by assumption⟩))]⟩)
    | exact ⟨by omega, by omega, by rw [j2, fdS_k (by omega) (fun h => by first | exact hb h.1 | (rw [hb] at h; cases h.2))]; congr 1; omega⟩
    | (rw [← k2, tmN_e (j2.trans (fdS_0 (by omega)))]; rfl)
    | skip
end Go.Proofs.Ytfcnlpghdpfjkaa
