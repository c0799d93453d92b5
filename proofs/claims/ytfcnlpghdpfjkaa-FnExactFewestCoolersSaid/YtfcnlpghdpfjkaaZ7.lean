/- Contracts of functions of the program, and what they compute. Conditions: those that each theorem states. -/
import Derived.Test.YtfcnlpghdpfjkaaProg
import Derived.Test.YtfcnlpghdpfjkaaZ6
set_option linter.unusedVariables false
set_option linter.unusedSimpArgs false
namespace Go.Proofs.Ytfcnlpghdpfjkaa
open Go.Av
attribute [local irreducible] Go.IntKind.wrap leastI rdZ rd rootI rawA okMine mixT heatF heatY warmN clampW cmI temI ext extL fstL fstSet htC colI
set_option maxRecDepth 20000
set_option maxHeartbeats 8000000

/-! The reference's search for the fewest coolers. -/
--@fn spec.l00Own
theorem ownZ (xs : List Int) (hl : xs.length ≤ 1000000) : FnSem Try.prog 60 [Lx (LI xs)] [] (Is [.osl 0 0 xs.length] [Rw .flat (eI 0) (xs.map eI)]) := by
  refine FnSem.walk (zs := zeroPV Try.prog) (by kernel_rfl) Try.func60 rfl Try.results60 (by kernel_rfl) (by kernel_rfl) (by kernel_rfl) fun hw hh => ?_
  obtain ⟨w0, _⟩ := hw
  first | replace w0 := wf_LI w0 | skip
  repeat' first
    | refine And.intro rfl ?_
    | refine GdF.mk (fun h => h) ?_
    | refine And.intro (Nat.succ_ne_zero _) ?_
    | refine And.intro (Nat.le_of_ble_eq_true rfl) ?_
    | refine SeqF.run ?_
    | refine FlF.flat (by simp only [List.mem_map, forall_exists_index, and_imp, forall_apply_eq_imp_iff₂]; intro a _ p hp; simp only [eI, List.mem_singleton] at hp; exact ⟨_, hp⟩) ?_
    | refine GhF.go ?_
    | refine MkF.row ?_
    | refine BndF.mk (fun _ => by omega) ?_
    | refine BndF.mk (fun _ => by simp only [List.length_map, List.length_cons, List.length_nil, List.length_append, List.length_set, List.length_replicate, iotaI_len]; omega) ?_
    | refine FlF.keep ?_
    | refine EqN.mk _ (Nat.zero_add _) ?_
    | refine EqN.mk (_ + 1) rfl ?_
    | refine EqN.mk _ (Int.toNat_natCast _) ?_
    | refine EqN.mk _ rfl ?_
    | refine EqL.mk _ (sn0 eI) ?_
    | refine EqL.mk _ (sn eI (by first | rfl | assumption | omega | (simp only [List.length_map, List.length_cons, List.length_nil, List.length_append, List.length_set, List.length_replicate, iotaI_len]; done) | (simp only [List.length_map, List.length_cons, List.length_nil, List.length_append, List.length_set, List.length_replicate, iotaI_len]; omega))) ?_
    | refine EqL.mk _ (ap0 eI) ?_
    | refine EqL.mk _ (ap eI (by first | rfl | assumption | omega | (simp only [List.length_map, List.length_cons, List.length_nil, List.length_append, List.length_set, List.length_replicate, iotaI_len]; done) | (simp only [List.length_map, List.length_cons, List.length_nil, List.length_append, List.length_set, List.length_replicate, iotaI_len]; omega))) ?_
    | refine EqL.mk _ (tk eI (by first | rfl | assumption | omega | (simp only [List.length_map, List.length_cons, List.length_nil, List.length_append, List.length_set, List.length_replicate, iotaI_len]; done) | (simp only [List.length_map, List.length_cons, List.length_nil, List.length_append, List.length_set, List.length_replicate, iotaI_len]; omega))) ?_
    | refine EqL.mk _ (dt eI) ?_
    | refine EqL.mk [] rfl ?_
    | refine EqL.mk [_] rfl ?_
    | refine EqL.mk _ rfl ?_
    | (refine CondF.mk (fun hb => ?_) (fun hb => ?_) <;> try simp only [forall_const, eq_self, not_true_eq_false, not_false_eq_true, or_false, false_or, or_self, or_true, true_or, and_true, true_and, and_false, false_and, decide_true, decide_false, Bool.not_true, Bool.not_false, decide_eq_true_eq, decide_eq_false_iff_not, ite_and_p, ite_or_p, Bool.decide_eq_true, Bool.and_eq_true, Bool.or_eq_true, Bool.not_eq_true', Bool.not_eq_false', Bool.and_eq_false_imp, Bool.or_eq_false_iff, bne_iff_ne, beq_iff_eq, bne_eq_false_iff_eq, beq_eq_false_iff_ne, gt_iff_lt, ge_iff_le, Int.not_lt, Int.not_le, ne_eq, Bool.true_eq_false, Bool.false_eq_true, reduceCtorEq, eta_Airway, eta_Fan, eta_Mine] at hb)
    | refine RetF.auto (And.intro rfl ?_)
    | exact Is.mk rfl rfl
    | refine Is.mk ?_ rfl
    | refine Is.mk rfl ?_
    | refine Is.mk ?_ ?_
  all_goals try dsimp only
  all_goals try simp only [Bo, I, OB.row.injEq, AV.osl.injEq, eI_same,  List.cons.injEq, AV.p.injEq, PV.c.injEq, Value.int.injEq, Value.bool.injEq, and_true, true_and, ite_and_p, ite_or_p, Bool.decide_eq_true, eta_Airway, eta_Fan, eta_Mine]
  all_goals simp only [List.length_map]
theorem extL_anZ {L : List Int} {m : Nat} {right : List Int → Bool} : ∀ (K i : Nat) (b : Int) (s : List Int), 0 ≤ b → K = L.length - i → extL (ext L right m) L K i b s = extL (ext L right m) L (L.length - m - i) i b s
  | 0, i, b, s, _, hK => by rw [show L.length - m - i = 0 by omega]
  | K + 1, i, b, s, hb, hK => by
    have hp := ext_p (L := L) (right := right) m (i + 1) b (s ++ [L.getD i 0]) hb
    rw [extL_s (by omega)]
    by_cases hc : L.length - m - i = 0
    · rw [hc, extL_0 (k := 0) rfl]
      have e : ext L right m (i + 1) b (s ++ [L.getD i 0]) = (false, b, s ++ [L.getD i 0]) := by
        rw [ext_s (by omega), extL_0 (by omega)]
      rw [e, if_neg (by simp), if_neg (show ¬(false, b, s ++ [L.getD i 0]).2.1 < 0 by dsimp only; omega)]
      dsimp only
      rw [Nat.add_sub_cancel, extL_anZ K (i + 1) b s hb (by omega), extL_0 (by omega)]
    · rw [extL_s (k := L.length - m - i) (by omega)]
      by_cases h1 : (ext L right m (i + 1) b (s ++ [L.getD i 0])).1 = true
      · rw [if_pos h1, if_pos h1]
      · rw [if_neg h1, if_neg h1]
        by_cases h2 : (ext L right m (i + 1) b (s ++ [L.getD i 0])).2.1 < 0
        · rw [if_pos h2, if_pos h2]
        · rw [if_neg h2, if_neg h2, Nat.add_sub_cancel, extL_anZ K (i + 1) _ s (by omega) (by omega), show L.length - m - i - 1 = L.length - m - (i + 1) by omega]
section
variable {L : List Int} {m : Nat} {right : List Int → Bool} {c j : Int} {s : List Int} {x : Bool × Int × List Int}
theorem runZ_t (h : x = extL (ext L right (m - 1)) L (L.length - j.toNat) j.toNat c s) (h0 : 0 ≤ j) (hj : j < L.length) (hb : (ext L right (m - 1) (j + 1).toNat c (s ++ [L.getD j.toNat 0])).1 = true) : x = ext L right (m - 1) (j + 1).toNat c (s ++ [L.getD j.toNat 0]) := by
  rw [show (j + 1).toNat = j.toNat + 1 by omega] at hb ⊢
  rw [h, extL_s (by omega), if_pos hb]
theorem runZ_f (h : x = extL (ext L right (m - 1)) L (L.length - j.toNat) j.toNat c s) (h0 : 0 ≤ j) (hj : j < L.length) (hb : (ext L right (m - 1) (j + 1).toNat c (s ++ [L.getD j.toNat 0])).1 = false) (hl : (ext L right (m - 1) (j + 1).toNat c (s ++ [L.getD j.toNat 0])).2.1 < 0) (hl2 : -1 ≤ (ext L right (m - 1) (j + 1).toNat c (s ++ [L.getD j.toNat 0])).2.1) : x = (false, -1, s) := by
  rw [show (j + 1).toNat = j.toNat + 1 by omega] at hb hl hl2
  rw [h, extL_s (by omega), if_neg (by rw [hb]; decide), if_pos hl]
  rw [show (ext L right (m - 1) (j.toNat + 1) c (s ++ [L.getD j.toNat 0])).2.1 = -1 by omega]
theorem runZ_n (h : x = extL (ext L right (m - 1)) L (L.length - j.toNat) j.toNat c s) (h0 : 0 ≤ j) (hj : j < L.length) (hb : (ext L right (m - 1) (j + 1).toNat c (s ++ [L.getD j.toNat 0])).1 = false) (hl : ¬(ext L right (m - 1) (j + 1).toNat c (s ++ [L.getD j.toNat 0])).2.1 < 0) : x = extL (ext L right (m - 1)) L (L.length - (j + 1).toNat) (j + 1).toNat (ext L right (m - 1) (j + 1).toNat c (s ++ [L.getD j.toNat 0])).2.1 s := by
  rw [show (j + 1).toNat = j.toNat + 1 by omega] at hb hl ⊢
  rw [h, extL_s (by omega), if_neg (by rw [hb]; decide), if_neg hl, show L.length - j.toNat - 1 = L.length - (j.toNat + 1) by omega]
theorem runZ_e (h : x = extL (ext L right (m - 1)) L (L.length - j.toNat) j.toNat c s) (hj : ¬j < L.length) : x = (false, c, s) := by
  rw [h, extL_0 (by omega)]
theorem runZ_0 {i : Int} {b nd B : Int} (hm : 0 < m) (hi : 0 ≤ i) (hb : 0 ≤ b) (hnd : nd = B - b) : ext L right m i.toNat b s = extL (ext L right (m - 1)) L (L.length - i.toNat) i.toNat (B - nd) s := by
  rw [ext_s hm, extL_anZ _ _ _ _ (by omega) rfl, show B - nd = b by omega]
end
theorem iota_gq {n i : Nat} (h : i < n) : (iotaI 0 n).getD i 0 = i := by
  unfold iotaI; rw [List.getD_eq_getElem?_getD, List.getElem?_map, List.getElem?_range h]; simp
theorem iota_gZ {n : Nat} {j : Int} (h0 : 0 ≤ j) (h : j < n) : (iotaI 0 n).getD j.toNat 0 = j := by
  rw [iota_gq (show j.toNat < n by omega)]; omega
theorem iota_mZ {n : Nat} {x : Int} (h : x ∈ iotaI 0 n) : 0 ≤ x ∧ x < n := by
  unfold iotaI at h
  obtain ⟨i, h1, rfl⟩ := List.mem_map.1 h
  have := List.mem_range.1 h1
  omega
theorem iota_LZ (n : Nat) : (iotaI 0 n).length = n := by unfold iotaI; simp
theorem take_gZ {ys s : List Int} {n : Nat} (hs : ys.take n = s) {i : Int} (h0 : 0 ≤ i) (h : i < n) : ys.getD i.toNat 0 = s.getD i.toNat 0 := by
  rw [← hs, List.getD_eq_getElem?_getD, List.getD_eq_getElem?_getD, List.getElem?_take, if_pos (by omega)]
theorem col_f {m : GMine} {fs rs ps ss s : List Int} {t rate c lim j : Int} (h0 : 0 ≤ j) (h1 : j < (temI m fs rs (colI ps s c s.length) ss t rate).length) (h : ¬(temI m fs rs (colI ps s c s.length) ss t rate).getD j.toNat 0 ≤ lim) : colR m fs rs ps ss t rate c lim s = false := by
  unfold colR
  rw [List.all_eq_false]
  exact ⟨_, getD_mem (d := 0) (show j.toNat < _ by omega), by rw [decide_eq_true_iff]; exact h⟩
theorem col_t {m : GMine} {fs rs ps ss s : List Int} {t rate c lim j : Int} (h1 : ((temI m fs rs (colI ps s c s.length) ss t rate).length : Int) ≤ j) (h : ∀ i : Nat, (i : Int) < j → (temI m fs rs (colI ps s c s.length) ss t rate).getD i 0 ≤ lim) : colR m fs rs ps ss t rate c lim s = true := by
  unfold colR
  exact (all_iff (d := 0)).2 fun i hi => decide_eq_true (h i (by omega))
abbrev coZ (fs rs ps ss : List Int) (t rate c lim N : Int) (k n : Nat) (nd B : Int) (fu : Bool) : OB := .fix [.own 1 0, Lx (LI fs), Lx (LI rs), Lx (LI ps), Lx (LI ss), In t, In rate, In c, In lim, In N, .osl k 0 n, In nd, In B, Bo fu]
abbrev coM (m : GMine) : OB := .fix [In m.junctions, Lx (.lst (GAirway.cells default) (m.airways.map GAirway.cells))]
inductive RunZ (m : GMine) (fs rs ps ss : List Int) (t rate c lim N B : Int) (r : Bool × Int × List Int) (rs' : List AV) (ho : List OB) : Prop
  | mk (n : Nat) (ys : List Int) (b fu : Bool) (nd : Int) (h1 : rs' = [Bo b]) (h2 : ho = [coZ fs rs ps ss t rate c lim N 3 n nd B fu, coM m, .dead, .row false .flat (eI 0) (ys.map eI)]) (h3 : b = r.1) (h4 : nd = B - max r.2.1 0) (h5 : fu = decide (r.2.1 < 0)) (h6 : n ≤ ys.length) (h7 : ys.take n = r.2.2)
theorem ArgF.runZ {m : GMine} {fs rs ps ss : List Int} {t rate c lim N B : Int} {r : Bool × Int × List Int} {k : Nat} {Pr : Program} [Kn Pr] {f : FuncId} {args : List AV} {hin : List OB} {K : List AV → List OB → Prop} (h : FnSem Pr f args hin (RunZ m fs rs ps ss t rate c lim N B r))
    (hk : ∀ (n : Nat) (ys : List Int) (b fu : Bool) (nd : Int), b = r.1 → nd = B - max r.2.1 0 → fu = decide (r.2.1 < 0) → n ≤ ys.length → ys.take n = r.2.2 → K [Bo b] [coZ fs rs ps ss t rate c lim N 3 n nd B fu, coM m, .dead, .row false .flat (eI 0) (ys.map eI)]) : ArgF k Pr f args hin K :=
  ⟨_, h, fun rs ho hR _ => by obtain ⟨n, ys, b, fu, nd, rfl, rfl, h3, h4, h5, h6, h7⟩ := hR; exact hk n ys b fu nd h3 h4 h5 h6 h7⟩
theorem colI_00 {ps s : List Int} {c : Int} : ps = colI ps s c (Int.toNat 0) := by rw [show (Int.toNat 0) = 0 from rfl, colI]
theorem tkC {q p : List Int} {n : Nat} (h : q = p) (hl : n = p.length) : ((q.map eI).drop 0).take n = p.map eI := by subst h; exact tkW hl
--@fn (*spec.l16Search).run
theorem runZ1 (m : GMine) (fs rs ps ss : List Int) (t rate c lim N B : Int) (ha : htC m fs rs ps ss t rate = 0) (hc : 1 ≤ c ∧ c ≤ 10000000) (hB : 1 ≤ B ∧ B ≤ 20000)
    (m' : Nat) (ih : ∀ (k : Nat), k < m' → ∀ (i b nd : Int) (fu : Bool) (s ys : List Int) (n : Nat) (hi : 0 ≤ i) (hi' : i ≤ m.airways.length) (hb0 : 0 ≤ b ∧ b ≤ B) (hnd : nd = B - b) (hfu : fu = false) (hn : n ≤ ys.length) (hs : ys.take n = s) (hsc : ∀ x ∈ s, x ∈ iotaI 0 m.airways.length) (hN : N = s.length + k) (hsi : s.length ≤ i), FnSem Try.prog 59 [.own 0 0, In i] [coZ fs rs ps ss t rate c lim N 2 n nd B fu, coM m, .row false .flat (eI 0) (ys.map eI)] (RunZ m fs rs ps ss t rate c lim N B (ext (iotaI 0 m.airways.length) (colR m fs rs ps ss t rate c lim) k i.toNat b s)))
    (i b nd : Int) (fu : Bool) (s ys : List Int) (n : Nat) (hi : 0 ≤ i) (hi' : i ≤ m.airways.length) (hb0 : 0 ≤ b ∧ b ≤ B) (hnd : nd = B - b) (hfu : fu = false) (hn : n ≤ ys.length) (hs : ys.take n = s) (hsc : ∀ x ∈ s, x ∈ iotaI 0 m.airways.length) (hN : N = s.length + m') (hsi : s.length ≤ i) :
    FnSem Try.prog 59 [.own 0 0, In i] [coZ fs rs ps ss t rate c lim N 2 n nd B fu, coM m, .row false .flat (eI 0) (ys.map eI)] (RunZ m fs rs ps ss t rate c lim N B (ext (iotaI 0 m.airways.length) (colR m fs rs ps ss t rate c lim) m' i.toNat b s)) := by
  have hsn : s.length = n := by rw [← hs, List.length_take]; omega
  have hq := htC_p ha
  have hps := hq.1.fl.2.2
  have hmp := okMine_p hq.1.mine
  have hcl := iota_LZ m.airways.length
  have hx : ∀ j : Nat, (j : Int) < s.length → 0 ≤ s.getD j 0 ∧ s.getD j 0 < m.airways.length := fun j hj => iota_mZ (hsc _ (getD_mem (by omega)))
  have hy : ∀ v : Int, 0 ≤ v → v < n → ys.getD v.toNat 0 = s.getD v.toNat 0 := fun v a b => take_gZ hs a b
  have hC := colI_p (xs := s) hq.2.1 hc
  have hH := htP_col (xs := s) hq.1 hq.2.1 hc (by omega)
  have hT := temI_p (ss := ss) (t := t) hH hq.2.2.2
  have hTl := hT.ln
  refine FnSem.walk (zs := zeroPV Try.prog) (by kernel_rfl) Try.func59 rfl Try.results59 (by kernel_rfl) (by kernel_rfl) (by kernel_rfl) fun hw hh => ?_
  obtain ⟨w0, w1, _⟩ := hw
  first | replace w0 := wfr_L16Search w0 | skip
  first | replace w1 := wf_I w1 | skip
  repeat' first
    | refine And.intro rfl ?_
    | refine GdF.mk (fun h => h) ?_
    | refine And.intro (Nat.succ_ne_zero _) ?_
    | refine And.intro (Nat.le_of_ble_eq_true rfl) ?_
    | refine SeqF.run ?_
    | refine GhF.at 0 rfl [.mv 2] ?_
    | refine OpH.heap ?_
    | refine GhF.held 10 rfl [(16, [1, 3])] ?_
    | refine GhF.held 11 rfl [(25, [1, 3])] ?_
    | refine ArgF.is (ownZ ps (by omega)) ?_
    | refine ArgQ.is (fun hG => ownZ ps (by omega)) rfl rfl ?_
    | refine BndF.mk (fun _ => by have a1 := hx v.toNat (by omega); have a2 := hy v (by omega) (by omega); first | omega | (simp only [List.length_map, List.length_set]; omega)) ?_
    | refine EqI.mk _ (fun _ => by have a1 := (hC v.toNat).2 (ys.getD v.toNat 0).toNat; rw [← k2] at a1; exact wrapI (by omega) (by omega)) ?_
    | refine EqL.mk _ (stI (by kernel_rfl)) ?_
    | refine LoopF.at 8 rfl (LoopF.fix [0, 5] (Int × List Int) (fun (v, q) => 0 ≤ v ∧ v ≤ s.length ∧ q = colI ps s c v.toNat ∧ q.length = ps.length) (fun (v, q) => [(6, In v)]) (fun (v, q) => [(0, coZ fs rs ps ss t rate c lim N 4 n (nd + 1) B fu), (3, Rw .flat (eI 0) (q.map eI)), (4, .row false .flat (eI 0) (ys.map eI))]) (fun (v, q) => ((s.length - v).toNat)) ((0, ps)) ?_)
    | (refine LoopB.of (T := Int × List Int) ?_ ?_; rotate_left; rintro ⟨v, q⟩ ⟨k0, k1, k2, k3⟩; rotate_left)
    | refine EqL.mk ((colI ps s c s.length).map eI) (tkC (by rw [k2, show v.toNat = s.length by omega]) (by have := (hC s.length).1; omega)) ?_
    | refine ArgF.is (c_spec_l16All m fs rs (colI ps s c s.length) ss t rate hH hq.2.2.1.2 hq.2.2.2) ?_
    | refine ArgQ.is (fun hG => c_spec_l16All m fs rs (colI ps s c s.length) ss t rate hH hq.2.2.1.2 hq.2.2.2) rfl rfl ?_
    | refine BndF.mk (fun _ => by simp only [List.length_map]; omega) ?_
    | refine LoopF.at 13 rfl (LoopF.fix [0, 7] (Int × Unit) (fun (jj, _) => 0 ≤ jj ∧ jj ≤ (temI m fs rs (colI ps s c s.length) ss t rate).length ∧ ∀ i : Nat, (i : Int) < jj → (temI m fs rs (colI ps s c s.length) ss t rate).getD i 0 ≤ lim) (fun (jj, _) => [(8, In jj)]) (fun (jj, _) => []) (fun (jj, _) => (((temI m fs rs (colI ps s c s.length) ss t rate).length - jj).toNat)) ((0, ())) ?_)
    | (refine LoopB.of (T := Int × Unit) ?_ ?_; rotate_left; rintro ⟨jj, _⟩ ⟨l0, l1, l2⟩; rotate_left)
    | refine LoopF.at 19 rfl (LoopF.fix [0] (Int × Bool × Int × Nat × List Int) (fun (j, fu', nd', n', zs) => i ≤ j ∧ j ≤ m.airways.length ∧ n' ≤ zs.length ∧ zs.take n' = s ∧ n' = s.length ∧ 0 < m' ∧ (fu' = false → (0 ≤ B - nd' ∧ B - nd' ≤ b) ∧ ext (iotaI 0 m.airways.length) (colR m fs rs ps ss t rate c lim) m' i.toNat b s = extL (ext (iotaI 0 m.airways.length) (colR m fs rs ps ss t rate c lim) (m' - 1)) (iotaI 0 m.airways.length) ((iotaI 0 m.airways.length).length - j.toNat) j.toNat (B - nd') s) ∧ (fu' = true → nd' = B ∧ ext (iotaI 0 m.airways.length) (colR m fs rs ps ss t rate c lim) m' i.toNat b s = (false, -1, s))) (fun (j, fu', nd', n', zs) => [(9, In j)]) (fun (j, fu', nd', n', zs) => [(0, coZ fs rs ps ss t rate c lim N 3 n' nd' B fu'), (3, .row false .flat (eI 0) (zs.map eI))]) (fun (j, fu', nd', n', zs) => ((m.airways.length - j).toNat)) ((i, fu, nd, n, ys)) ?_)
    | (refine LoopB.of (T := Int × Bool × Int × Nat × List Int) ?_ ?_; rotate_left; rintro ⟨j, fu', nd', n', zs⟩ ⟨h0, h1, h2, h3, h4, h5, h6, h7⟩; rotate_left)
    | refine EqL.mk ((s ++ [(iotaI 0 m.airways.length).getD j.toNat 0]).map eI) (by rw [iota_gZ (by omega) (by omega)]; exact snT h3) ?_
    | refine CallF.own (f := 59) [0] false ?_
    | (refine ArgF.runZ (ih (m' - 1) (by omega) (j + 1) (B - nd') nd' fu' (s ++ [(iotaI 0 m.airways.length).getD j.toNat 0]) (s ++ [(iotaI 0 m.airways.length).getD j.toNat 0]) (n' + 1) (by omega) (by omega) (by have := (h6 hb.2).1; omega) (by omega) hb.2 (by simp; omega) (List.take_of_length_le (by simp; omega)) (mem_snoc hsc (by omega)) (by simp; omega) (by simp; omega)) ?_; intro n2 ys2 b2 fu2 nd2 e1 e2 e3 e4 e5; have e6 := ext_len (h6 hb.2).1.1 e1 rfl e4 e5)
    | refine EqI.mk _ (fun _ => wrapI (by have := e6 hb; omega) (by have := e6 hb; omega)) ?_
    | refine BndF.mk (fun _ => by have := e6 hb; first | omega | (simp only [List.length_map]; omega)) ?_
    | refine EqN.mk n' (by have := e6 hb; omega) ?_
    | refine RunZ.mk _ _ _ _ _ rfl rfl ?_ ?_ ?_ ?_ ?_
    | refine HdF.at 16 rfl 0 [] (And.intro (by decide +kernel) (And.intro rfl ?_))
    | refine HdF.at 15 rfl 1 [] (And.intro (by decide +kernel) (And.intro rfl ?_))
    | refine HdF.at 14 rfl 2 [] (And.intro (by decide +kernel) (And.intro rfl ?_))
    | refine HdF.at 13 rfl 3 [] (And.intro (by decide +kernel) (And.intro rfl ?_))
    | refine HdF.at 12 rfl 4 [6, 7, 8, 9, 14, 15, 16] (And.intro (by decide +kernel) (And.intro rfl ?_))
    | refine HdF.at 11 rfl 5 [] (And.intro (by decide +kernel) (And.intro rfl ?_))
    | refine HdF.at 10 rfl 6 [] (And.intro (by decide +kernel) (And.intro rfl ?_))
    | refine HdF.at 9 rfl 7 [8, 9, 14, 15, 16] (And.intro (by decide +kernel) (And.intro rfl ?_))
    | refine HdF.at 8 rfl 8 [] (And.intro (by decide +kernel) (And.intro rfl ?_))
    | refine HdF.at 7 rfl 9 [14, 15, 16] (And.intro (by decide +kernel) (And.intro rfl ?_))
    | refine HdF.at 6 rfl 10 [] (And.intro (by decide +kernel) (And.intro rfl ?_))
    | refine HdF.at 5 rfl 11 [] (And.intro (by decide +kernel) (And.intro rfl ?_))
    | refine HdF.at 4 rfl 12 [] (And.intro (by decide +kernel) (And.intro rfl ?_))
    | refine HdF.at 3 rfl 13 [14, 15, 16] (And.intro (by decide +kernel) (And.intro rfl ?_))
    | refine HdF.at 2 rfl 14 [] (And.intro (by decide +kernel) (And.intro rfl ?_))
    | refine HdF.at 1 rfl 15 [] (And.intro (by decide +kernel) (And.intro rfl ?_))
    | refine HdF.goAt 0 rfl ?_
    | refine OrdL.ord ?_
    | refine OrdF.all [16] (by decide +kernel) ?_
    | refine OrdF.fin (by decide +kernel) ?_
    | refine AllF.one _ ?_
    | refine AllF.cons _ _ ?_ ?_
    | refine OpH.quiet rfl ?_
    | refine OpH.heap ?_
    | refine HdF.at 26 rfl 0 [] (And.intro (by decide +kernel) (And.intro rfl ?_))
    | refine HdF.at 25 rfl 1 [] (And.intro (by decide +kernel) (And.intro rfl ?_))
    | refine HdF.at 24 rfl 2 [] (And.intro (by decide +kernel) (And.intro rfl ?_))
    | refine HdF.at 23 rfl 3 [25, 26] (And.intro (by decide +kernel) (And.intro rfl ?_))
    | refine HdF.at 22 rfl 4 [] (And.intro (by decide +kernel) (And.intro rfl ?_))
    | refine HdF.at 21 rfl 5 [] (And.intro (by decide +kernel) (And.intro rfl ?_))
    | refine HdF.at 20 rfl 6 [] (And.intro (by decide +kernel) (And.intro rfl ?_))
    | refine HdF.at 19 rfl 7 [25, 26] (And.intro (by decide +kernel) (And.intro rfl ?_))
    | refine HdF.at 18 rfl 8 [] (And.intro (by decide +kernel) (And.intro rfl ?_))
    | refine HdF.at 17 rfl 9 [] (And.intro (by decide +kernel) (And.intro rfl ?_))
    | refine HdF.at 16 rfl 10 [] (And.intro (by decide +kernel) (And.intro rfl ?_))
    | refine HdF.at 15 rfl 11 [25, 26] (And.intro (by decide +kernel) (And.intro rfl ?_))
    | refine HdF.at 14 rfl 12 [] (And.intro (by decide +kernel) (And.intro rfl ?_))
    | refine HdF.at 13 rfl 13 [] (And.intro (by decide +kernel) (And.intro rfl ?_))
    | refine HdF.at 12 rfl 14 [] (And.intro (by decide +kernel) (And.intro rfl ?_))
    | refine HdF.at 11 rfl 15 [] (And.intro (by decide +kernel) (And.intro rfl ?_))
    | refine HdF.at 10 rfl 16 [25, 26] (And.intro (by decide +kernel) (And.intro rfl ?_))
    | refine HdF.at 9 rfl 17 [] (And.intro (by decide +kernel) (And.intro rfl ?_))
    | refine HdF.at 8 rfl 18 [] (And.intro (by decide +kernel) (And.intro rfl ?_))
    | refine HdF.at 7 rfl 19 [] (And.intro (by decide +kernel) (And.intro rfl ?_))
    | refine HdF.at 6 rfl 20 [25, 26] (And.intro (by decide +kernel) (And.intro rfl ?_))
    | refine HdF.at 5 rfl 21 [] (And.intro (by decide +kernel) (And.intro rfl ?_))
    | refine HdF.at 4 rfl 22 [] (And.intro (by decide +kernel) (And.intro rfl ?_))
    | refine HdF.at 3 rfl 23 [] (And.intro (by decide +kernel) (And.intro rfl ?_))
    | refine HdF.at 2 rfl 24 [25, 26] (And.intro (by decide +kernel) (And.intro rfl ?_))
    | refine HdF.goAt 1 rfl ?_
    | refine OrdL.ord ?_
    | refine OrdF.take 26 (by decide +kernel) (And.intro rfl ?_)
    | refine OrdF.all [25] (by decide +kernel) ?_
    | refine OrdF.fin (by decide +kernel) ?_
    | refine AllF.one _ ?_
    | refine AllF.cons _ _ ?_ ?_
    | refine OpH.quiet rfl ?_
    | refine OpH.heap ?_
    | refine GhF.go ?_
    | refine GdS.keep ?_
    | refine DrawG.old (DrawF.lex (by decide +kernel) ?_)
    | refine MkF.row ?_
    | refine EqP.mk _ (gm eI 0 rfl) ?_
    | refine BndF.mk (fun _ => by omega) ?_
    | refine BndF.mk (fun _ => by simp only [List.length_map, List.length_cons, List.length_nil, List.length_append, List.length_set, List.length_replicate, iotaI_len]; omega) ?_
    | refine BndF.mk (fun hG => by simp only [forall_const, eq_self, not_true_eq_false, not_false_eq_true, or_false, false_or, or_self, or_true, true_or, and_true, true_and, and_false, false_and, decide_true, decide_false, Bool.not_true, Bool.not_false, decide_eq_true_eq, decide_eq_false_iff_not, ite_and_p, ite_or_p, Bool.decide_eq_true, Bool.and_eq_true, Bool.or_eq_true, Bool.not_eq_true', Bool.not_eq_false', Bool.and_eq_false_imp, Bool.or_eq_false_iff, bne_iff_ne, beq_iff_eq, bne_eq_false_iff_eq, beq_eq_false_iff_ne, gt_iff_lt, ge_iff_le, Int.not_lt, Int.not_le, ne_eq, Bool.true_eq_false, Bool.false_eq_true, reduceCtorEq, eta_Airway, eta_Fan, eta_Mine, bytes_nil] at hG; (try simp only [List.length_map]); omega) ?_
    | refine EqI.mk _ (fun _ => wrapI (by omega) (by omega)) ?_
    | refine EqI.mk _ (fun _ => rfl) ?_
    | refine FlF.keep ?_
    | refine EqN.mk _ (ln eI) ?_
    | refine EqN.mk _ (Nat.zero_add _) ?_
    | refine EqN.mk (_ + 1) rfl ?_
    | refine EqN.mk _ (Int.toNat_natCast _) ?_
    | refine EqN.mk _ rfl ?_
    | refine EqL.mk _ (sn0 eI) ?_
    | refine EqL.mk _ (sn eI (by first | rfl | assumption | omega | (simp only [List.length_map, List.length_cons, List.length_nil, List.length_append, List.length_set, List.length_replicate, iotaI_len]; done) | (simp only [List.length_map, List.length_cons, List.length_nil, List.length_append, List.length_set, List.length_replicate, iotaI_len]; omega))) ?_
    | refine EqL.mk _ (ap0 eI) ?_
    | refine EqL.mk _ (ap eI (by first | rfl | assumption | omega | (simp only [List.length_map, List.length_cons, List.length_nil, List.length_append, List.length_set, List.length_replicate, iotaI_len]; done) | (simp only [List.length_map, List.length_cons, List.length_nil, List.length_append, List.length_set, List.length_replicate, iotaI_len]; omega))) ?_
    | refine EqL.mk _ (tk eI (by first | rfl | assumption | omega | (simp only [List.length_map, List.length_cons, List.length_nil, List.length_append, List.length_set, List.length_replicate, iotaI_len]; done) | (simp only [List.length_map, List.length_cons, List.length_nil, List.length_append, List.length_set, List.length_replicate, iotaI_len]; omega))) ?_
    | refine EqL.mk _ (st eI) ?_
    | refine EqL.mk _ (dt eI) ?_
    | refine EqL.mk [] rfl ?_
    | refine EqL.mk [_] rfl ?_
    | refine EqL.mk _ rfl ?_
    | refine ArgF.is (c_spec_l00Own _ (by first | assumption | omega)) ?_
    | refine ArgQ.is (fun hG => c_spec_l00Own _ (by first | assumption | omega)) rfl rfl ?_
    | refine ArgQ.is (fun hG => c_spec_l00Own _ (by simp only [forall_const, eq_self, not_true_eq_false, not_false_eq_true, or_false, false_or, or_self, or_true, true_or, and_true, true_and, and_false, false_and, decide_true, decide_false, Bool.not_true, Bool.not_false, decide_eq_true_eq, decide_eq_false_iff_not, ite_and_p, ite_or_p, Bool.decide_eq_true, Bool.and_eq_true, Bool.or_eq_true, Bool.not_eq_true', Bool.not_eq_false', Bool.and_eq_false_imp, Bool.or_eq_false_iff, bne_iff_ne, beq_iff_eq, bne_eq_false_iff_eq, beq_eq_false_iff_ne, gt_iff_lt, ge_iff_le, Int.not_lt, Int.not_le, ne_eq, Bool.true_eq_false, Bool.false_eq_true, reduceCtorEq, eta_Airway, eta_Fan, eta_Mine, bytes_nil] at hG; omega)) rfl rfl ?_
    | refine ArgF.is (c_spec_l16All ⟨_, _⟩ _ _ _ _ _ _ (by first | assumption | omega) (by first | assumption | omega) (by first | assumption | omega)) ?_
    | refine ArgQ.is (fun hG => c_spec_l16All ⟨_, _⟩ _ _ _ _ _ _ (by first | assumption | omega) (by first | assumption | omega) (by first | assumption | omega)) rfl rfl ?_
    | refine ArgQ.is (fun hG => c_spec_l16All ⟨_, _⟩ _ _ _ _ _ _ (by simp only [forall_const, eq_self, not_true_eq_false, not_false_eq_true, or_false, false_or, or_self, or_true, true_or, and_true, true_and, and_false, false_and, decide_true, decide_false, Bool.not_true, Bool.not_false, decide_eq_true_eq, decide_eq_false_iff_not, ite_and_p, ite_or_p, Bool.decide_eq_true, Bool.and_eq_true, Bool.or_eq_true, Bool.not_eq_true', Bool.not_eq_false', Bool.and_eq_false_imp, Bool.or_eq_false_iff, bne_iff_ne, beq_iff_eq, bne_eq_false_iff_eq, beq_eq_false_iff_ne, gt_iff_lt, ge_iff_le, Int.not_lt, Int.not_le, ne_eq, Bool.true_eq_false, Bool.false_eq_true, reduceCtorEq, eta_Airway, eta_Fan, eta_Mine, bytes_nil] at hG; omega) (by simp only [forall_const, eq_self, not_true_eq_false, not_false_eq_true, or_false, false_or, or_self, or_true, true_or, and_true, true_and, and_false, false_and, decide_true, decide_false, Bool.not_true, Bool.not_false, decide_eq_true_eq, decide_eq_false_iff_not, ite_and_p, ite_or_p, Bool.decide_eq_true, Bool.and_eq_true, Bool.or_eq_true, Bool.not_eq_true', Bool.not_eq_false', Bool.and_eq_false_imp, Bool.or_eq_false_iff, bne_iff_ne, beq_iff_eq, bne_eq_false_iff_eq, beq_eq_false_iff_ne, gt_iff_lt, ge_iff_le, Int.not_lt, Int.not_le, ne_eq, Bool.true_eq_false, Bool.false_eq_true, reduceCtorEq, eta_Airway, eta_Fan, eta_Mine, bytes_nil] at hG; omega) (by simp only [forall_const, eq_self, not_true_eq_false, not_false_eq_true, or_false, false_or, or_self, or_true, true_or, and_true, true_and, and_false, false_and, decide_true, decide_false, Bool.not_true, Bool.not_false, decide_eq_true_eq, decide_eq_false_iff_not, ite_and_p, ite_or_p, Bool.decide_eq_true, Bool.and_eq_true, Bool.or_eq_true, Bool.not_eq_true', Bool.not_eq_false', Bool.and_eq_false_imp, Bool.or_eq_false_iff, bne_iff_ne, beq_iff_eq, bne_eq_false_iff_eq, beq_eq_false_iff_ne, gt_iff_lt, ge_iff_le, Int.not_lt, Int.not_le, ne_eq, Bool.true_eq_false, Bool.false_eq_true, reduceCtorEq, eta_Airway, eta_Fan, eta_Mine, bytes_nil] at hG; omega)) rfl rfl ?_
    | refine ArgF.is (c_spec_l16Search_run ..) ?_
    | refine ArgQ.is (fun hG => c_spec_l16Search_run ..) rfl rfl ?_
    | refine CallF.mk (CallW.is [] true rfl ?_)
    | refine CallG.mk ?_
    | (refine CondF.mk (fun hb => ?_) (fun hb => ?_) <;> try simp only [forall_const, eq_self, not_true_eq_false, not_false_eq_true, or_false, false_or, or_self, or_true, true_or, and_true, true_and, and_false, false_and, decide_true, decide_false, Bool.not_true, Bool.not_false, decide_eq_true_eq, decide_eq_false_iff_not, ite_and_p, ite_or_p, Bool.decide_eq_true, Bool.and_eq_true, Bool.or_eq_true, Bool.not_eq_true', Bool.not_eq_false', Bool.and_eq_false_imp, Bool.or_eq_false_iff, bne_iff_ne, beq_iff_eq, bne_eq_false_iff_eq, beq_eq_false_iff_ne, gt_iff_lt, ge_iff_le, Int.not_lt, Int.not_le, ne_eq, Bool.true_eq_false, Bool.false_eq_true, reduceCtorEq, eta_Airway, eta_Fan, eta_Mine] at hb)
    | apply BackF.auto5
    | apply BackF.auto2
    | refine BackB.mk ?_ ?_
    | refine RetF.auto (And.intro rfl ?_)
    | exact Is.mk rfl rfl
    | refine Is.mk ?_ rfl
    | refine Is.mk rfl ?_
    | refine Is.mk ?_ ?_
  all_goals try dsimp only
  all_goals first
    | omega
    | exact hn
    | (rw [ext_0 (by omega), hfu]; exact (decide_eq_false (by dsimp only; omega)).symm)
    | (rw [ext_0 (by omega)]; dsimp only; rw [decide_eq_true (show 0 ≤ b - 1 by omega), Bool.true_and, col_f (m := m) (fs := fs) (rs := rs) (ps := ps) (ss := ss) (s := s) (t := t) (rate := rate) (c := c) (lim := lim) l0 (by omega) (by omega)])
    | (rw [ext_0 (by omega)]; dsimp only; rw [decide_eq_true (show 0 ≤ b - 1 by omega), Bool.true_and, col_t (by omega) l2])
    | exact ⟨by omega, by omega, fun i hi => absurd hi (by omega)⟩
    | exact ⟨by omega, by omega, all_s (P := fun i => (temI m fs rs (colI ps s c s.length) ss t rate).getD i 0 ≤ lim) l0 l2 (by omega)⟩
    | (rw [ext_0 (by omega)]; exact hs)
    | (rw [ext_0 (by omega)]; dsimp only; first | omega | (rw [decide_eq_false (by omega)]; rfl) | (rw [decide_eq_true (by omega)]))
    | exact ⟨by omega, by omega, colI_00, rfl⟩
    | (have a1 := (hC v.toNat).2 (s.getD v.toNat 0).toNat; rw [← k2] at a1; exact ⟨by omega, by omega, by rw [colI_s k0, ← k2, hy v k0 (by omega), wrapI (by omega) (by omega)], by rw [List.length_set]; exact k3⟩)
    | exact ⟨Int.le_refl _, hi', hn, hs, by omega, by omega, fun _ => ⟨by omega, runZ_0 (by omega) hi hb0.1 hnd⟩, fun h => by rw [hfu] at h; cases h⟩
    | (rw [ext_0 (by omega), hfu]; exact (decide_eq_false (by dsimp only; omega)).symm)
    | (rename_i hc2; rw [runZ_t (h6 hc2.2).2 (by omega) (by have := hc2.1; omega) (by rw [← e1]; exact hb)]; first | exact e2 | exact e3 | exact e5 | (rw [← e1]; exact hb.symm))
    | (rename_i hc2; have q := e6 hb; have f1 : (ext (iotaI 0 m.airways.length) (colR m fs rs ps ss t rate c lim) (m' - 1) (j + 1).toNat (B - nd') (s ++ [(iotaI 0 m.airways.length).getD j.toNat 0])).1 = false := by rw [← e1]; exact hb
       refine ⟨by omega, by omega, by omega, by rw [h4]; exact q.2.1, h4, h5, fun hf => ?_, fun hf => ?_⟩
       · rw [hf] at e3
         have g := of_decide_eq_false e3.symm
         have e7 : B - nd2 = (ext (iotaI 0 m.airways.length) (colR m fs rs ps ss t rate c lim) (m' - 1) (j + 1).toNat (B - nd') (s ++ [(iotaI 0 m.airways.length).getD j.toNat 0])).2.1 := by omega
         have := (h6 hc2.2).1
         exact ⟨by omega, by rw [e7]; exact runZ_n (h6 hc2.2).2 (by omega) (by have := hc2.1; omega) f1 g⟩
       · rw [hf] at e3
         have g := of_decide_eq_true e3.symm
         exact ⟨by omega, runZ_f (h6 hc2.2).2 (by omega) (by have := hc2.1; omega) f1 g q.2.2.1⟩)
    | (cases hf : fu' with
       | true =>
         have q := h7 hf
         rw [q.2] <;> first | rfl | (dsimp only; omega) | exact h3
       | false =>
         have q := h6 hf
         have g : ¬j < (iotaI 0 m.airways.length).length := fun hh => by have := hb (by omega); rw [hf] at this; cases this
         have := q.1
         rw [runZ_e q.2 g] <;> first | rfl | (dsimp only; omega) | exact (decide_eq_false (by dsimp only; omega)).symm | exact h3)
    | skip
end Go.Proofs.Ytfcnlpghdpfjkaa
