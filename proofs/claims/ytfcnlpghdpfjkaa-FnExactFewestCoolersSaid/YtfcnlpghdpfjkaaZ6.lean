/- Contracts of functions of the program, and what they compute. Conditions: those that each theorem states. -/
import Derived.Test.YtfcnlpghdpfjkaaProg
import Derived.Test.YtfcnlpghdpfjkaaZ1
set_option linter.unusedVariables false
set_option linter.unusedSimpArgs false
namespace Go.Proofs.Ytfcnlpghdpfjkaa
open Go.Av
attribute [local irreducible] Go.IntKind.wrap leastI rdZ rd rootI rawA okMine mixT heatF heatY warmN clampW cmI
set_option maxRecDepth 20000
set_option maxHeartbeats 8000000

/-! Temperatures: the reference's search for all of them. -/
def stZ (m : GMine) (fs : List Int) (i : Nat) : Int := if 0 < fs.getD i 0 then (m.airways.getD i default).from_ else (m.airways.getD i default).to
def enZ (m : GMine) (fs : List Int) (i : Nat) : Int := if 0 < fs.getD i 0 then (m.airways.getD i default).to else (m.airways.getD i default).from_
theorem stZ_e {m : GMine} {fs : List Int} {i : Nat} (h : ¬fs.getD i 0 = 0) : stZ m fs i = stW m fs i := by
  unfold stZ stW
  by_cases e : 0 < fs.getD i 0
  · rw [if_pos e, if_neg (by omega)]
  · rw [if_neg e, if_pos (by omega)]
theorem enZ_e {m : GMine} {fs : List Int} {i : Nat} (h : ¬fs.getD i 0 = 0) : enZ m fs i = enA m fs i := by
  unfold enZ enA
  by_cases e : 0 < fs.getD i 0
  · rw [if_pos e, if_neg (by omega)]
  · rw [if_neg e, if_pos (by omega)]
--@fn spec.l16Into
theorem intoZ (m : GMine) (fs : List Int) (i : Nat) : FnSem Try.prog 184 [.p .any (.ref (m.airways.getD i default).cells), In (fs.getD i 0)] [] (Is [In (stZ m fs i), In (enZ m fs i)] []) :=
  c_spec_l16Into (m.airways.getD i default) (fs.getD i 0)
--@fn spec.l00Min
theorem minZ (x : Int) : FnSem Try.prog 186 [In 100000, In x] [] (Is [In (min x 100000)] []) := by
  have := c_spec_l00Min 100000 x
  rwa [Int.min_comm] at this
section
variable {m : GMine} {fs rs ps ls : List Int} {rate j : Int}
theorem stZ_b (h : okMine m = true) {i : Int} (h0 : 0 ≤ i) (hi : i < m.airways.length) : 0 ≤ stZ m fs i.toNat ∧ stZ m fs i.toNat < m.junctions.toNat := by
  have q := (okMine_p h).2.2 i.toNat (by omega)
  unfold stZ; split <;> omega
theorem cmZ_k {i : Int} {rd : Bool} {xs ys : List Int} (h0 : 0 ≤ i) (h : cmG m fs rs ps ls rate j i.toNat rd xs ys) (h1 : fs.getD i.toNat 0 = 0 ∨ ¬enZ m fs i.toNat = j) : cmG m fs rs ps ls rate j (i + 1).toNat rd xs ys := by
  refine cmG_k h0 h ?_
  by_cases e : fs.getD i.toNat 0 = 0
  · exact .inl e
  · rw [← enZ_e e]; exact h1
theorem cmZ_n {i : Int} {rd : Bool} {xs ys : List Int} (h0 : 0 ≤ i) (h : cmG m fs rs ps ls rate j i.toNat rd xs ys) (h1 : ¬(fs.getD i.toNat 0 = 0 ∨ ¬enZ m fs i.toNat = j)) (h2 : ls.getD (stZ m fs i.toNat).toNat 0 = -1000) : cmG m fs rs ps ls rate j (i + 1).toNat false xs ys := by
  have e : ¬fs.getD i.toNat 0 = 0 := fun e => h1 (.inl e)
  rw [enZ_e e] at h1
  rw [stZ_e e] at h2
  exact cmG_n h0 h h1 h2
theorem cmZ_a {i : Int} {rd : Bool} {xs ys : List Int} (h0 : 0 ≤ i) (h : cmG m fs rs ps ls rate j i.toNat rd xs ys) (h1 : ¬(fs.getD i.toNat 0 = 0 ∨ ¬enZ m fs i.toNat = j)) (h2 : ¬ls.getD (stZ m fs i.toNat).toNat 0 = -1000) : cmG m fs rs ps ls rate j (i + 1).toNat rd (xs ++ [max (fs.getD i.toNat 0) (-fs.getD i.toNat 0)]) (ys ++ [clampW (warmN (rs.getD i.toNat 0) rate (ls.getD (stZ m fs i.toNat).toNat 0) (tiW m fs i.toNat / 10).toNat + heatF (ps.getD i.toNat 0) (max (fs.getD i.toNat 0) (-fs.getD i.toNat 0)) 1200)]) := by
  have e : ¬fs.getD i.toNat 0 = 0 := fun e => h1 (.inl e)
  rw [enZ_e e] at h1
  rw [stZ_e e] at h2 ⊢
  exact cmG_a h0 h h1 h2
theorem sf_0 {ss : List Int} {t : Int} : ∀ i : Nat, (i : Int) < 0 → ([] : List Int).getD i 0 = if (i : Int) ∈ ss then t else -1000 := fun i h => by omega
theorem sf_s {ss out : List Int} {t j v : Int} (h0 : 0 ≤ j) (hl : out.length = j.toNat) (h : ∀ i : Nat, (i : Int) < j → out.getD i 0 = if (i : Int) ∈ ss then t else -1000) (hv : v = if j ∈ ss then t else -1000) : ∀ i : Nat, (i : Int) < j + 1 → (out ++ [v]).getD i 0 = if (i : Int) ∈ ss then t else -1000 := fun i hi => by
  by_cases e : i < out.length
  · rw [← h i (by omega), List.getD_eq_getElem?_getD, List.getD_eq_getElem?_getD, List.getElem?_append_left e]
  · have e2 : (i : Int) = j := by omega
    rw [e2, ← hv, List.getD_eq_getElem?_getD, List.getElem?_append_right (by omega), show i - out.length = 0 by omega]; rfl
end
theorem cm_or {rd : Bool} {n : Nat} {xs : List Int} (h : rd = true → (n : Int) ≤ 0) (h2 : n = xs.length) : rd = false ∨ xs.length = 0 := by
  cases rd with
  | false => exact .inl rfl
  | true => right; have := h rfl; omega
theorem c_spec_l00Has (xs : List Int) (x : Int) : FnSem Try.prog 150 [Lx (LI xs), In x] [] (Is [Bo (decide (x ∈ xs))] []) := by
  refine FnSem.walk (zs := zeroPV Try.prog) (by kernel_rfl) Try.func150 rfl Try.results150 (by kernel_rfl) (by kernel_rfl) (by kernel_rfl) fun hw hh => ?_
  obtain ⟨w0, w1, _⟩ := hw
  first | replace w0 := wf_LI w0 | skip
  first | replace w1 := wf_I w1 | skip
  repeat' first
    | refine And.intro rfl ?_
    | refine GdF.mk (fun h => h) ?_
    | refine And.intro (Nat.succ_ne_zero _) ?_
    | refine And.intro (Nat.le_of_ble_eq_true rfl) ?_
    | refine SeqF.run ?_
    | refine LoopF.at 2 rfl (LoopF.fix [0, 1] (Int) (fun i => 0 ≤ i ∧ i ≤ xs.length ∧ ∀ j : Nat, (j : Int) < i → ¬xs.getD j 0 = x) (fun i => [(5, In i)]) (fun i => []) (fun i => ((xs.length - i).toNat)) (0) ?_)
    | (refine LoopB.of (T := Int) ?_ ?_; rotate_left; rintro i ⟨h0, h1, h2⟩; rotate_left)
    | refine GhF.go ?_
    | refine EqP.mk _ (gm eI 0 rfl) ?_
    | refine BndF.mk (fun _ => by omega) ?_
    | refine BndF.mk (fun _ => by simp only [List.length_map, List.length_cons, List.length_nil, List.length_append, List.length_set, List.length_replicate, iotaI_len]; omega) ?_
    | refine EqI.mk _ (fun _ => wrapI (by omega) (by omega)) ?_
    | refine EqI.mk _ (fun _ => rfl) ?_
    | refine EqN.mk _ (ln eI) ?_
    | refine EqN.mk _ (Nat.zero_add _) ?_
    | refine EqN.mk _ (Int.toNat_natCast _) ?_
    | refine EqN.mk _ rfl ?_
    | (refine CondF.mk (fun hb => ?_) (fun hb => ?_) <;> try simp only [forall_const, eq_self, not_true_eq_false, not_false_eq_true, or_false, false_or, or_self, or_true, true_or, and_true, true_and, and_false, false_and, decide_true, decide_false, Bool.not_true, Bool.not_false, decide_eq_true_eq, decide_eq_false_iff_not, ite_and_p, ite_or_p, Bool.decide_eq_true, Bool.and_eq_true, Bool.or_eq_true, Bool.not_eq_true', Bool.not_eq_false', Bool.and_eq_false_imp, Bool.or_eq_false_iff, bne_iff_ne, beq_iff_eq, bne_eq_false_iff_eq, beq_eq_false_iff_ne, gt_iff_lt, ge_iff_le, Int.not_lt, Int.not_le, ne_eq, Bool.true_eq_false, Bool.false_eq_true, reduceCtorEq, eta_Airway, eta_Fan, eta_Mine] at hb)
    | apply BackF.auto
    | refine BackB.mk ?_ ?_
    | refine RetF.auto (And.intro rfl ?_)
    | exact Is.mk rfl rfl
    | refine Is.mk ?_ rfl
    | refine Is.mk rfl ?_
    | refine Is.mk ?_ ?_
  all_goals try dsimp only
  all_goals try simp only [Bo, I, OB.row.injEq, AV.osl.injEq, eI_same,  List.cons.injEq, AV.p.injEq, PV.c.injEq, Value.int.injEq, Value.bool.injEq, and_true, true_and, ite_and_p, ite_or_p, Bool.decide_eq_true, eta_Airway, eta_Fan, eta_Mine]
  · exact ⟨by omega, by omega, all_0⟩
  · rw [← hb]; exact (decide_eq_true (getD_mem (by omega))).symm
  · exact ⟨by omega, by omega, all_s h0 h2 hb⟩
  · omega
  · refine (decide_eq_false fun hm => ?_).symm
    obtain ⟨j, hj, e⟩ := List.getElem_of_mem hm
    exact h2 j (by omega) (by rw [List.getD_eq_getElem?_getD, List.getElem?_eq_getElem hj]; exact e)
theorem c_spec_l16All (m : GMine) (fs rs ps ss : List Int) (t rate : Int) (hH : htP m fs rs ps rate) (hs : ∀ i : Nat, (i : Int) < ss.length → 0 ≤ ss.getD i 0 ∧ ss.getD i 0 < m.junctions) (ht : -100 ≤ t ∧ t ≤ 600) : FnSem Try.prog 135 [.p .any (.ref m.cells), Lx (LI fs), Lx (LI rs), Lx (LI ps), Lx (LI ss), In t, In rate] [] (Is [.osl 0 0 m.junctions.toNat] [Rw .flat (eI 0) ((temI m fs rs ps ss t rate).map eI)]) := by
  have hmp := okMine_p hH.mine
  have hl := hH.fl
  have hfs := hH.fs
  have hrs := hH.rs
  have hps := hH.ps
  have hrt := hH.rt
  have hZ := fun (i : Int) (h0 : 0 ≤ i) (hi : i < m.airways.length) => stZ_b (fs := fs) hH.mine h0 hi
  have hT := fun (i : Int) (h0 : 0 ≤ i) (hi : i < m.airways.length) (h : ¬fs.getD i.toNat 0 = 0) => tiW_b (fs := fs) hH.mine (show i.toNat < m.airways.length by omega) (hfs i.toNat) h
  refine FnSem.walk (zs := zeroPV Try.prog) (by kernel_rfl) Try.func135 rfl Try.results135 (by kernel_rfl) (by kernel_rfl) (by kernel_rfl) fun hw hh => ?_
  obtain ⟨w0, w1, w2, w3, w4, w5, w6, _⟩ := hw
  first | replace w0 := wfr_Mine w0 | skip
  first | replace w1 := wf_LI w1 | skip
  first | replace w2 := wf_LI w2 | skip
  first | replace w3 := wf_LI w3 | skip
  first | replace w4 := wf_LI w4 | skip
  first | replace w5 := wf_I w5 | skip
  first | replace w6 := wf_I w6 | skip
  repeat' first
    | refine And.intro rfl ?_
    | refine GdF.mk (fun h => h) ?_
    | refine And.intro (Nat.succ_ne_zero _) ?_
    | refine And.intro (Nat.le_of_ble_eq_true rfl) ?_
    | refine SeqF.run ?_
    | refine ArgF.is (c_spec_l00Has ss j) ?_
    | refine ArgQ.is (fun hG => c_spec_l00Has ss j) rfl rfl ?_
    | refine ArgF.is (intoZ m fs i.toNat) ?_
    | refine ArgQ.is (fun hG => intoZ m fs i.toNat) rfl rfl ?_
    | refine ArgF.is (absZ (fs.getD i.toNat 0) (by have := hfs i.toNat; omega)) ?_
    | refine ArgQ.is (fun hG => absZ (fs.getD i.toNat 0) (by have := hfs i.toNat; omega)) rfl rfl ?_
    | refine ArgF.is (c_spec_l03Time (m.airways.getD i.toNat default) (fs.getD i.toNat 0) (hmp.2.2 i.toNat (by omega)).1 (by omega) (hfs i.toNat)) ?_
    | refine ArgQ.is (fun hG => c_spec_l03Time (m.airways.getD i.toNat default) (fs.getD i.toNat 0) (hmp.2.2 i.toNat (by omega)).1 (by omega) (hfs i.toNat)) rfl rfl ?_
    | refine ArgF.is (minZ _) ?_
    | refine ArgQ.is (fun hG => minZ _) rfl rfl ?_
    | refine ArgF.is (c_spec_l16Warm (ls2.getD (stZ m fs i.toNat).toNat 0) (rs.getD i.toNat 0) rate (tiW m fs i.toNat) (by have e := hZ i i0 (by assumption); have := j2.at_ (stZ m fs i.toNat).toNat (by have := j2.ln; omega); omega) (hrs i.toNat) hrt (hT i i0 (by assumption) (by omega)).2) ?_
    | refine ArgQ.is (fun hG => c_spec_l16Warm (ls2.getD (stZ m fs i.toNat).toNat 0) (rs.getD i.toNat 0) rate (tiW m fs i.toNat) (by have e := hZ i i0 (by assumption); have := j2.at_ (stZ m fs i.toNat).toNat (by have := j2.ln; omega); omega) (hrs i.toNat) hrt (hT i i0 (by assumption) (by omega)).2) rfl rfl ?_
    | refine ArgF.is (c_spec_l16Heat (ps.getD i.toNat 0) (max (fs.getD i.toNat 0) (-fs.getD i.toNat 0)) (hps i.toNat) (by have := hfs i.toNat; omega)) ?_
    | refine ArgQ.is (fun hG => c_spec_l16Heat (ps.getD i.toNat 0) (max (fs.getD i.toNat 0) (-fs.getD i.toNat 0)) (hps i.toNat) (by have := hfs i.toNat; omega)) rfl rfl ?_
    | refine ArgF.is (c_spec_l16Mix xs ys (mixOk hH (i2.ok hb.1) i1 (by have := hb.2; omega))) ?_
    | refine ArgQ.is (fun hG => c_spec_l16Mix xs ys (mixOk hH (i2.ok hb.1) i1 (by have := hb.2; omega))) rfl rfl ?_
    | refine EqI.mk _ (fun _ => by have e := hZ i i0 (by assumption); have e0 := j2.at_ (stZ m fs i.toNat).toNat (by have := j2.ln; omega); have e1 := (warmN_b (rock := rs.getD i.toNat 0) (rate := rate) (t := ls2.getD (stZ m fs i.toNat).toNat 0) (by omega) (hrs i.toNat) hrt (tiW m fs i.toNat / 10).toNat).2.2; have e2 := heatW_b (power := ps.getD i.toNat 0) (flow := max (fs.getD i.toNat 0) (-fs.getD i.toNat 0)) (hps i.toNat) (by have := hfs i.toNat; omega); exact wrapI (by omega) (by omega)) ?_
    | refine BndF.mk (fun _ => by have e := j2.ln; first | omega | (simp only [List.length_map]; omega)) ?_
    | refine BndF.mk (fun _ => by have e := hZ i i0 (by assumption); have := j2.ln; first | omega | (simp only [List.length_map]; omega)) ?_
    | refine BndF.mk (fun _ => by have e := i2.ln; omega) ?_
    | refine EqL.mk _ (tkW i3) ?_
    | refine EqL.mk _ (tkW i4) ?_
    | refine LoopF.at 3 rfl (LoopF.fix [0, 1, 2, 3, 4, 5, 6] (Int × Nat × List Int) (fun (j, n, out) => 0 ≤ j ∧ j ≤ m.junctions ∧ n = out.length ∧ out.length = j.toNat ∧ (∀ i : Nat, (i : Int) < j → out.getD i 0 = if (i : Int) ∈ ss then t else -1000)) (fun (j, n, out) => [(15, .osl 0 0 n), (16, In j)]) (fun (j, n, out) => [(0, Rw .flat (eI 0) (out.map eI))]) (fun (j, n, out) => ((m.junctions - j).toNat)) ((0, 0, [])) ?_)
    | (refine LoopB.of (T := Int × Nat × List Int) ?_ ?_; rotate_left; rintro ⟨j, n, out⟩ ⟨h0, h1, h2, h3, h4⟩; rotate_left)
    | refine LoopF.at 8 rfl (LoopF.fix [0, 1, 2, 3, 6, 15] (Nat × List Int) (fun (k, ls) => lsP m ls ∧ cnt ls < k ∧ tmN m fs rs ps rate k ls = temI m fs rs ps ss t rate) (fun (k, ls) => []) (fun (k, ls) => [(0, Rw .flat (eI 0) (ls.map eI))]) (fun (k, ls) => (cnt ls)) ((m.junctions.toNat + 1, out)) ?_)
    | (refine LoopB.of (T := Nat × List Int) ?_ ?_; rotate_left; rintro ⟨k, ls⟩ ⟨k0, k1, k2⟩; rotate_left)
    | refine BackF.auto (k - 1, ls2) ?_
    | refine LoopF.at 10 rfl (LoopF.fix [0, 1, 2, 3, 6, 15] (Int × Bool × List Int) (fun (j, fd, ls2) => 0 ≤ j ∧ j ≤ m.junctions ∧ lsP m ls2 ∧ (fd = false → ls2 = ls ∧ fdS m fs rs ps rate ls m.junctions.toNat 0 = fdS m fs rs ps rate ls (m.junctions.toNat - j.toNat) j) ∧ (fd = true → fdS m fs rs ps rate ls m.junctions.toNat 0 = some ls2 ∧ cnt ls2 < cnt ls)) (fun (j, fd, ls2) => [(17, Bo fd), (18, In j)]) (fun (j, fd, ls2) => [(0, Rw .flat (eI 0) (ls2.map eI))]) (fun (j, fd, ls2) => ((m.junctions - j).toNat)) ((0, false, ls)) ?_)
    | (refine LoopB.of (T := Int × Bool × List Int) ?_ ?_; rotate_left; rintro ⟨j, fd, ls2⟩ ⟨j0, j1, j2, j3, j4⟩; rotate_left)
    | refine LoopF.at 17 rfl (LoopF.fix [0, 1, 2, 3, 6, 15, 17, 18] (Int × Bool × Nat × Nat × List Int × List Int) (fun (i, rd, n, k, xs, ys) => 0 ≤ i ∧ i ≤ m.airways.length ∧ cmG m fs rs ps ls2 rate j i.toNat rd xs ys ∧ n = xs.length ∧ k = ys.length) (fun (i, rd, n, k, xs, ys) => [(19, .osl 1 0 n), (20, .osl 2 0 k), (21, Bo rd), (22, In i)]) (fun (i, rd, n, k, xs, ys) => [(0, Rw .flat (eI 0) (ls2.map eI)), (1, Rw .flat (eI 0) (xs.map eI)), (2, Rw .flat (eI 0) (ys.map eI))]) (fun (i, rd, n, k, xs, ys) => ((m.airways.length - i).toNat)) ((0, true, 0, 0, [], [])) ?_)
    | (refine LoopB.of (T := Int × Bool × Nat × Nat × List Int × List Int) ?_ ?_; rotate_left; rintro ⟨i, rd, n, k, xs, ys⟩ ⟨i0, i1, i2, i3, i4⟩; rotate_left)
    | refine GhF.go ?_
    | refine GdS.keep ?_
    | refine DrawG.old (DrawF.lex (by decide +kernel) ?_)
    | refine MkF.row ?_
    | refine EqP.mk _ (gm eI 0 rfl) ?_
    | refine EqP.mk _ (gm GAirway.cells default rfl) ?_
    | refine BndF.mk (fun _ => by omega) ?_
    | refine BndF.mk (fun _ => by simp only [List.length_map, List.length_cons, List.length_nil, List.length_append, List.length_set, List.length_replicate, iotaI_len]; omega) ?_
    | refine BndF.mk (fun hG => by simp only [forall_const, eq_self, not_true_eq_false, not_false_eq_true, or_false, false_or, or_self, or_true, true_or, and_true, true_and, and_false, false_and, decide_true, decide_false, Bool.not_true, Bool.not_false, decide_eq_true_eq, decide_eq_false_iff_not, ite_and_p, ite_or_p, Bool.decide_eq_true, Bool.and_eq_true, Bool.or_eq_true, Bool.not_eq_true', Bool.not_eq_false', Bool.and_eq_false_imp, Bool.or_eq_false_iff, bne_iff_ne, beq_iff_eq, bne_eq_false_iff_eq, beq_eq_false_iff_ne, gt_iff_lt, ge_iff_le, Int.not_lt, Int.not_le, ne_eq, Bool.true_eq_false, Bool.false_eq_true, reduceCtorEq, eta_Airway, eta_Fan, eta_Mine, bytes_nil] at hG; (try simp only [List.length_map]); omega) ?_
    | refine EqI.mk _ (fun _ => wrapI (by omega) (by omega)) ?_
    | refine EqI.mk _ (fun _ => rfl) ?_
    | refine FlF.keep ?_
    | refine EqN.mk _ (ln eI) ?_
    | refine EqN.mk _ (ln GAirway.cells) ?_
    | refine EqN.mk _ (Nat.zero_add _) ?_
    | refine EqN.mk (_ + 1) rfl ?_
    | refine EqN.mk _ (Int.toNat_natCast _) ?_
    | refine EqN.mk _ rfl ?_
    | refine EqL.mk _ (sn0 eI) ?_
    | refine EqL.mk _ (sn eI (by first | rfl | assumption | omega | (simp only [List.length_map, List.length_cons, List.length_nil, List.length_append, List.length_set, List.length_replicate, iotaI_len]; done) | (simp only [List.length_map, List.length_cons, List.length_nil, List.length_append, List.length_set, List.length_replicate, iotaI_len]; omega))) ?_
    | refine EqL.mk _ (ap0 eI) ?_
    | refine EqL.mk _ (ap eI (by first | rfl | assumption | omega | (simp only [List.length_map, List.length_cons, List.length_nil, List.length_append, List.length_set, List.length_replicate, iotaI_len]; done) | (simp only [List.length_map, List.length_cons, List.length_nil, List.length_append, List.length_set, List.length_replicate, iotaI_len]; omega))) ?_
    | refine EqL.mk _ (tk eI (by first | rfl | assumption | omega | (simp only [List.length_map, List.length_cons, List.length_nil, List.length_append, List.length_set, List.length_replicate, iotaI_len]; done) | (simp only [List.length_map, List.length_cons, List.length_nil, List.length_append, List.length_set, List.length_replicate, iotaI_len]; omega))) ?_
    | refine EqL.mk _ (st eI) ?_
    | refine EqL.mk _ (dt eI) ?_
    | refine EqL.mk _ (sn0 GAirway.cells) ?_
    | refine EqL.mk _ (sn GAirway.cells (by first | rfl | assumption | omega | (simp only [List.length_map, List.length_cons, List.length_nil, List.length_append, List.length_set, List.length_replicate, iotaI_len]; done) | (simp only [List.length_map, List.length_cons, List.length_nil, List.length_append, List.length_set, List.length_replicate, iotaI_len]; omega))) ?_
    | refine EqL.mk _ (ap0 GAirway.cells) ?_
    | refine EqL.mk _ (ap GAirway.cells (by first | rfl | assumption | omega | (simp only [List.length_map, List.length_cons, List.length_nil, List.length_append, List.length_set, List.length_replicate, iotaI_len]; done) | (simp only [List.length_map, List.length_cons, List.length_nil, List.length_append, List.length_set, List.length_replicate, iotaI_len]; omega))) ?_
    | refine EqL.mk _ (tk GAirway.cells (by first | rfl | assumption | omega | (simp only [List.length_map, List.length_cons, List.length_nil, List.length_append, List.length_set, List.length_replicate, iotaI_len]; done) | (simp only [List.length_map, List.length_cons, List.length_nil, List.length_append, List.length_set, List.length_replicate, iotaI_len]; omega))) ?_
    | refine EqL.mk _ (st GAirway.cells) ?_
    | refine EqL.mk _ (dt GAirway.cells) ?_
    | refine EqL.mk [] rfl ?_
    | refine EqL.mk [_] rfl ?_
    | refine EqL.mk _ rfl ?_
    | refine ArgF.is (c_spec_l00Has ..) ?_
    | refine ArgQ.is (fun hG => c_spec_l00Has ..) rfl rfl ?_
    | refine ArgF.is (c_spec_l16Into ⟨_, _, _, _, _, _, _⟩ _) ?_
    | refine ArgQ.is (fun hG => c_spec_l16Into ⟨_, _, _, _, _, _, _⟩ _) rfl rfl ?_
    | refine ArgF.is (c_spec_l03Abs ..) ?_
    | refine ArgQ.is (fun hG => c_spec_l03Abs ..) rfl rfl ?_
    | refine ArgF.is (c_spec_l03Time ⟨_, _, _, _, _, _, _⟩ _ (by first | assumption | omega) (by first | assumption | omega) (by first | assumption | omega)) ?_
    | refine ArgQ.is (fun hG => c_spec_l03Time ⟨_, _, _, _, _, _, _⟩ _ (by first | assumption | omega) (by first | assumption | omega) (by first | assumption | omega)) rfl rfl ?_
    | refine ArgQ.is (fun hG => c_spec_l03Time ⟨_, _, _, _, _, _, _⟩ _ (by simp only [forall_const, eq_self, not_true_eq_false, not_false_eq_true, or_false, false_or, or_self, or_true, true_or, and_true, true_and, and_false, false_and, decide_true, decide_false, Bool.not_true, Bool.not_false, decide_eq_true_eq, decide_eq_false_iff_not, ite_and_p, ite_or_p, Bool.decide_eq_true, Bool.and_eq_true, Bool.or_eq_true, Bool.not_eq_true', Bool.not_eq_false', Bool.and_eq_false_imp, Bool.or_eq_false_iff, bne_iff_ne, beq_iff_eq, bne_eq_false_iff_eq, beq_eq_false_iff_ne, gt_iff_lt, ge_iff_le, Int.not_lt, Int.not_le, ne_eq, Bool.true_eq_false, Bool.false_eq_true, reduceCtorEq, eta_Airway, eta_Fan, eta_Mine, bytes_nil] at hG; omega) (by simp only [forall_const, eq_self, not_true_eq_false, not_false_eq_true, or_false, false_or, or_self, or_true, true_or, and_true, true_and, and_false, false_and, decide_true, decide_false, Bool.not_true, Bool.not_false, decide_eq_true_eq, decide_eq_false_iff_not, ite_and_p, ite_or_p, Bool.decide_eq_true, Bool.and_eq_true, Bool.or_eq_true, Bool.not_eq_true', Bool.not_eq_false', Bool.and_eq_false_imp, Bool.or_eq_false_iff, bne_iff_ne, beq_iff_eq, bne_eq_false_iff_eq, beq_eq_false_iff_ne, gt_iff_lt, ge_iff_le, Int.not_lt, Int.not_le, ne_eq, Bool.true_eq_false, Bool.false_eq_true, reduceCtorEq, eta_Airway, eta_Fan, eta_Mine, bytes_nil] at hG; omega) (by simp only [forall_const, eq_self, not_true_eq_false, not_false_eq_true, or_false, false_or, or_self, or_true, true_or, and_true, true_and, and_false, false_and, decide_true, decide_false, Bool.not_true, Bool.not_false, decide_eq_true_eq, decide_eq_false_iff_not, ite_and_p, ite_or_p, Bool.decide_eq_true, Bool.and_eq_true, Bool.or_eq_true, Bool.not_eq_true', Bool.not_eq_false', Bool.and_eq_false_imp, Bool.or_eq_false_iff, bne_iff_ne, beq_iff_eq, bne_eq_false_iff_eq, beq_eq_false_iff_ne, gt_iff_lt, ge_iff_le, Int.not_lt, Int.not_le, ne_eq, Bool.true_eq_false, Bool.false_eq_true, reduceCtorEq, eta_Airway, eta_Fan, eta_Mine, bytes_nil] at hG; omega)) rfl rfl ?_
    | refine ArgF.is (c_spec_l00Min ..) ?_
    | refine ArgQ.is (fun hG => c_spec_l00Min ..) rfl rfl ?_
    | refine ArgF.is (c_spec_l16Warm _ _ _ _ (by first | assumption | omega) (by first | assumption | omega) (by first | assumption | omega) (by first | assumption | omega)) ?_
    | refine ArgQ.is (fun hG => c_spec_l16Warm _ _ _ _ (by first | assumption | omega) (by first | assumption | omega) (by first | assumption | omega) (by first | assumption | omega)) rfl rfl ?_
    | refine ArgQ.is (fun hG => c_spec_l16Warm _ _ _ _ (by simp only [forall_const, eq_self, not_true_eq_false, not_false_eq_true, or_false, false_or, or_self, or_true, true_or, and_true, true_and, and_false, false_and, decide_true, decide_false, Bool.not_true, Bool.not_false, decide_eq_true_eq, decide_eq_false_iff_not, ite_and_p, ite_or_p, Bool.decide_eq_true, Bool.and_eq_true, Bool.or_eq_true, Bool.not_eq_true', Bool.not_eq_false', Bool.and_eq_false_imp, Bool.or_eq_false_iff, bne_iff_ne, beq_iff_eq, bne_eq_false_iff_eq, beq_eq_false_iff_ne, gt_iff_lt, ge_iff_le, Int.not_lt, Int.not_le, ne_eq, Bool.true_eq_false, Bool.false_eq_true, reduceCtorEq, eta_Airway, eta_Fan, eta_Mine, bytes_nil] at hG; omega) (by simp only [forall_const, eq_self, not_true_eq_false, not_false_eq_true, or_false, false_or, or_self, or_true, true_or, and_true, true_and, and_false, false_and, decide_true, decide_false, Bool.not_true, Bool.not_false, decide_eq_true_eq, decide_eq_false_iff_not, ite_and_p, ite_or_p, Bool.decide_eq_true, Bool.and_eq_true, Bool.or_eq_true, Bool.not_eq_true', Bool.not_eq_false', Bool.and_eq_false_imp, Bool.or_eq_false_iff, bne_iff_ne, beq_iff_eq, bne_eq_false_iff_eq, beq_eq_false_iff_ne, gt_iff_lt, ge_iff_le, Int.not_lt, Int.not_le, ne_eq, Bool.true_eq_false, Bool.false_eq_true, reduceCtorEq, eta_Airway, eta_Fan, eta_Mine, bytes_nil] at hG; omega) (by simp only [forall_const, eq_self, not_true_eq_false, not_false_eq_true, or_false, false_or, or_self, or_true, true_or, and_true, true_and, and_false, false_and, decide_true, decide_false, Bool.not_true, Bool.not_false, decide_eq_true_eq, decide_eq_false_iff_not, ite_and_p, ite_or_p, Bool.decide_eq_true, Bool.and_eq_true, Bool.or_eq_true, Bool.not_eq_true', Bool.not_eq_false', Bool.and_eq_false_imp, Bool.or_eq_false_iff, bne_iff_ne, beq_iff_eq, bne_eq_false_iff_eq, beq_eq_false_iff_ne, gt_iff_lt, ge_iff_le, Int.not_lt, Int.not_le, ne_eq, Bool.true_eq_false, Bool.false_eq_true, reduceCtorEq, eta_Airway, eta_Fan, eta_Mine, bytes_nil] at hG; omega) (by simp only [forall_const, eq_self, not_true_eq_false, not_false_eq_true, or_false, false_or, or_self, or_true, true_or, and_true, true_and, and_false, false_and, decide_true, decide_false, Bool.not_true, Bool.not_false, decide_eq_true_eq, decide_eq_false_iff_not, ite_and_p, ite_or_p, Bool.decide_eq_true, Bool.and_eq_true, Bool.or_eq_true, Bool.not_eq_true', Bool.not_eq_false', Bool.and_eq_false_imp, Bool.or_eq_false_iff, bne_iff_ne, beq_iff_eq, bne_eq_false_iff_eq, beq_eq_false_iff_ne, gt_iff_lt, ge_iff_le, Int.not_lt, Int.not_le, ne_eq, Bool.true_eq_false, Bool.false_eq_true, reduceCtorEq, eta_Airway, eta_Fan, eta_Mine, bytes_nil] at hG; omega)) rfl rfl ?_
    | refine ArgF.is (c_spec_l16Heat _ _ (by first | assumption | omega) (by first | assumption | omega)) ?_
    | refine ArgQ.is (fun hG => c_spec_l16Heat _ _ (by first | assumption | omega) (by first | assumption | omega)) rfl rfl ?_
    | refine ArgQ.is (fun hG => c_spec_l16Heat _ _ (by simp only [forall_const, eq_self, not_true_eq_false, not_false_eq_true, or_false, false_or, or_self, or_true, true_or, and_true, true_and, and_false, false_and, decide_true, decide_false, Bool.not_true, Bool.not_false, decide_eq_true_eq, decide_eq_false_iff_not, ite_and_p, ite_or_p, Bool.decide_eq_true, Bool.and_eq_true, Bool.or_eq_true, Bool.not_eq_true', Bool.not_eq_false', Bool.and_eq_false_imp, Bool.or_eq_false_iff, bne_iff_ne, beq_iff_eq, bne_eq_false_iff_eq, beq_eq_false_iff_ne, gt_iff_lt, ge_iff_le, Int.not_lt, Int.not_le, ne_eq, Bool.true_eq_false, Bool.false_eq_true, reduceCtorEq, eta_Airway, eta_Fan, eta_Mine, bytes_nil] at hG; omega) (by simp only [forall_const, eq_self, not_true_eq_false, not_false_eq_true, or_false, false_or, or_self, or_true, true_or, and_true, true_and, and_false, false_and, decide_true, decide_false, Bool.not_true, Bool.not_false, decide_eq_true_eq, decide_eq_false_iff_not, ite_and_p, ite_or_p, Bool.decide_eq_true, Bool.and_eq_true, Bool.or_eq_true, Bool.not_eq_true', Bool.not_eq_false', Bool.and_eq_false_imp, Bool.or_eq_false_iff, bne_iff_ne, beq_iff_eq, bne_eq_false_iff_eq, beq_eq_false_iff_ne, gt_iff_lt, ge_iff_le, Int.not_lt, Int.not_le, ne_eq, Bool.true_eq_false, Bool.false_eq_true, reduceCtorEq, eta_Airway, eta_Fan, eta_Mine, bytes_nil] at hG; omega)) rfl rfl ?_
    | refine ArgF.is (c_spec_l16Clip ..) ?_
    | refine ArgQ.is (fun hG => c_spec_l16Clip ..) rfl rfl ?_
    | refine ArgF.is (c_spec_l16Mix _ _ (by first | assumption | omega)) ?_
    | refine ArgQ.is (fun hG => c_spec_l16Mix _ _ (by first | assumption | omega)) rfl rfl ?_
    | refine ArgQ.is (fun hG => c_spec_l16Mix _ _ (by simp only [forall_const, eq_self, not_true_eq_false, not_false_eq_true, or_false, false_or, or_self, or_true, true_or, and_true, true_and, and_false, false_and, decide_true, decide_false, Bool.not_true, Bool.not_false, decide_eq_true_eq, decide_eq_false_iff_not, ite_and_p, ite_or_p, Bool.decide_eq_true, Bool.and_eq_true, Bool.or_eq_true, Bool.not_eq_true', Bool.not_eq_false', Bool.and_eq_false_imp, Bool.or_eq_false_iff, bne_iff_ne, beq_iff_eq, bne_eq_false_iff_eq, beq_eq_false_iff_ne, gt_iff_lt, ge_iff_le, Int.not_lt, Int.not_le, ne_eq, Bool.true_eq_false, Bool.false_eq_true, reduceCtorEq, eta_Airway, eta_Fan, eta_Mine, bytes_nil] at hG; omega)) rfl rfl ?_
    | refine CallF.mk (CallW.is [] true rfl ?_)
    | refine CallG.mk ?_
    | (refine CondF.mk (fun hb => ?_) (fun hb => ?_) <;> try simp only [forall_const, eq_self, not_true_eq_false, not_false_eq_true, or_false, false_or, or_self, or_true, true_or, and_true, true_and, and_false, false_and, decide_true, decide_false, Bool.not_true, Bool.not_false, decide_eq_true_eq, decide_eq_false_iff_not, ite_and_p, ite_or_p, Bool.decide_eq_true, Bool.and_eq_true, Bool.or_eq_true, Bool.not_eq_true', Bool.not_eq_false', Bool.and_eq_false_imp, Bool.or_eq_false_iff, bne_iff_ne, beq_iff_eq, bne_eq_false_iff_eq, beq_eq_false_iff_ne, gt_iff_lt, ge_iff_le, Int.not_lt, Int.not_le, ne_eq, Bool.true_eq_false, Bool.false_eq_true, reduceCtorEq, eta_Airway, eta_Fan, eta_Mine] at hb)
    | apply BackF.auto6
    | apply BackF.auto3
    | apply BackF.auto2
    | refine BackB.mk ?_ ?_
    | refine RetF.auto (And.intro rfl ?_)
    | exact Is.mk rfl rfl
    | refine Is.mk ?_ rfl
    | refine Is.mk rfl ?_
    | refine Is.mk ?_ ?_
  all_goals try dsimp only
  all_goals first
    | omega
    | exact ⟨Int.le_refl _, by omega, rfl, rfl, sf_0⟩
    | exact ⟨by omega, by omega, by simp [h2], by simp [h3]; omega, sf_s h0 h3 h4 (if_pos hb).symm⟩
    | exact ⟨by omega, by omega, by simp [h2], by simp [h3]; omega, sf_s h0 h3 h4 (if_neg hb).symm⟩
    | (have e : out = srf m.junctions.toNat ss t ss.length := srf_eq (fun i hi => by have := hs i hi; omega) (by omega) (fun k hk => h4 k (by omega))
       exact ⟨by rw [e]; exact srf_p ht _, by have := cnt_le (ls := out); omega, by rw [e]; rfl⟩)
    | exact ⟨by omega, by omega, k0, fun _ => ⟨rfl, by rw [Int.toNat_zero, Nat.sub_zero]⟩, fun e => by cases e⟩
    | exact ⟨by omega, by omega, cmG_0, rfl, rfl⟩
    | exact ⟨by omega, by omega, cmZ_k i0 i2 hb, i3, i4⟩
    | exact ⟨by omega, by omega, cmZ_n i0 i2 (fun h => by omega) hb, i3, i4⟩
    | exact ⟨by omega, by omega, cmZ_a i0 i2 (fun h => by omega) hb, by simp [i3], by simp [i4]⟩
    | (have hc : j < m.junctions ∧ fd = false := by assumption
       obtain ⟨q1, q2⟩ := j3 hc.2
       exact ⟨by omega, by omega, j2, fun _ => ⟨q1, by rw [q2, fdS_k (by omega) (fun h => hb (by rw [q1]; exact h.1))]; congr 1; omega⟩, fun e => by rw [hc.2] at e; cases e⟩)
    | (have hc : j < m.junctions ∧ fd = false := by assumption
       obtain ⟨q1, q2⟩ := j3 hc.2
       have hr := cmG_f i1 (by assumption) i0 i2 (cm_or hb i3)
       exact ⟨by omega, by omega, j2, fun _ => ⟨q1, by rw [q2, fdS_k (by omega) (fun h => by rw [q1, h.2] at hr; cases hr)]; congr 1; omega⟩, fun e => by rw [hc.2] at e; cases e⟩)
    | (congr 2; omega)
    | exact (j4 hb).2
    | exact ⟨j2, by have := (j4 hb).2; omega, by rw [← k2, tmN_s (by omega) (j4 hb).1]⟩
    | (obtain ⟨q1, q2⟩ := j3 hb
       have hj : ¬j < m.junctions := fun h => by have hc : j < m.junctions → fd = true := by assumption
                                                 have := hc h; rw [hb] at this; cases this
       rw [← k2, tmN_e (q2.trans (fdS_0 (by omega))), q1]; rfl)
    | skip
  have hc : j < m.junctions ∧ fd = false := by assumption
  obtain ⟨q1, q2⟩ := j3 hc.2
  subst q1
  have hr := cmG_t i1 (by assumption) i0 i2 hb.1 (by have := hb.2; omega)
  have hv : (cmI m fs rs ps ls2 rate j).2 = true := by rw [hr]
  have hw := cmI_v hH hv
  have hl2 := j2.ln
  rw [hr] at hw
  have hh1 : ls2.getD j.toNat 0 = -1000 := by assumption
  refine ⟨by omega, by omega, lsP_set j2 hw, (fun e => by cases e), fun _ => ⟨?_, ?_⟩⟩
  · rw [q2, fdS_f (by omega) ⟨hh1, hv⟩, hr]
  · exact cnt_set (ls := ls2) (i := j.toNat) (v := mixT xs ys) (by omega) hh1 hw.1
end Go.Proofs.Ytfcnlpghdpfjkaa
