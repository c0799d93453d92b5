/- Contracts of functions of the program, and what they compute. Conditions: those that each theorem states. -/
import Derived.Test.YtpckcolkehgdaaaProg
import Derived.Test.YtpckcolkehgdaaaX4
import Derived.Test.YtpckcolkehgdaaaX3
set_option linter.unusedVariables false
set_option linter.unusedSimpArgs false
namespace Go.Proofs.Ytpckcolkehgdaaa
open Go.Av
attribute [local irreducible] Go.IntKind.wrap leastI rdZ rd rootI rawA okMine rdT rdK stT rxD tmI ext extL fstL fstSet
set_option maxRecDepth 20000
set_option maxHeartbeats 8000000

/-! The reference's search for the fewest refuges. -/
section
variable {ts : List (List Int)} {lim : Int} {xs : List Int}
theorem covI_t {j : Int} (h : ∀ i : Nat, (i : Int) < j → nrI lim xs (ts.getD i []) = true) (hj : (ts.length : Int) ≤ j) : covI ts lim xs = true := by
  unfold covI
  rw [List.all_eq_true]
  intro t ht
  obtain ⟨i, hi, rfl⟩ := List.getElem_of_mem ht
  have := h i (by omega)
  rwa [List.getD_eq_getElem?_getD, List.getElem?_eq_getElem hi] at this
theorem covI_f {j : Int} (h0 : 0 ≤ j) (hj : j < ts.length) (h : nrI lim xs (ts.getD j.toNat []) = false) : covI ts lim xs = false := by
  unfold covI
  rw [List.all_eq_false]
  exact ⟨_, getD_mem (d := []) (show j.toNat < ts.length by omega), by rw [h]; decide⟩
def nrT (lim : Int) (t xs : List Int) (i : Int) : Bool := nrI lim (xs.take i.toNat) t
theorem nrT_0 {t : List Int} : false = nrT lim t xs 0 := by unfold nrT nrI; simp
theorem nrT_s {t : List Int} {i : Int} {nr : Bool} (h0 : 0 ≤ i) (h1 : i < xs.length) (h : nr = nrT lim t xs i) : (nr || inR (t.getD (xs.getD i.toNat 0).toNat 0) 0 lim) = nrT lim t xs (i + 1) := by
  unfold nrT nrI at *
  rw [take_snoc h0 h1 0, List.any_append, ← h]; simp
theorem nrT_e {t : List Int} {i : Int} {nr : Bool} (h1 : (xs.length : Int) ≤ i) (h : nr = nrT lim t xs i) : nr = nrI lim xs t := by
  rw [h]; unfold nrT; rw [List.take_of_length_le (by omega)]
end
abbrev coC (ts : List (List Int)) (lim N : Int) (xs : List Int) (nd B : Int) (fu : Bool) : List PV := [LLI ts, .c (.int .i64 lim), .c (.int .i64 N), LI xs, .c (.int .i64 nd), .c (.int .i64 B), .c (.bool fu)]
theorem c_spec_l20Cover_enough (ts : List (List Int)) (lim N : Int) (xs : List Int) (nd B : Int) (fu : Bool) (hl : ts.length ≤ 16) (hl2 : xs.length ≤ 16) (hx : ∀ j : Nat, j < ts.length → ∀ i : Nat, i < xs.length → 0 ≤ xs.getD i 0 ∧ xs.getD i 0 < (ts.getD j []).length) : FnSem Try.prog 175 [.p .any (.ref (coC ts lim N xs nd B fu))] [] (Is [Bo (covI ts lim xs)] []) := by
  refine FnSem.walk (zs := zeroPV Try.prog) (by kernel_rfl) Try.func175 rfl Try.results175 (by kernel_rfl) (by kernel_rfl) (by kernel_rfl) fun hw hh => ?_
  obtain ⟨w0, _⟩ := hw
  first | replace w0 := wfr_L20Cover w0 | skip
  repeat' first
    | refine And.intro rfl ?_
    | refine GdF.mk (fun h => h) ?_
    | refine And.intro (Nat.succ_ne_zero _) ?_
    | refine And.intro (Nat.le_of_ble_eq_true rfl) ?_
    | refine SeqF.run ?_
    | refine LoopF.at 2 rfl (LoopF.fix [0] (Int) (fun j => 0 ≤ j ∧ j ≤ ts.length ∧ ∀ i : Nat, (i : Int) < j → nrI lim xs (ts.getD i []) = true) (fun j => [(3, In j)]) (fun j => []) (fun j => ((ts.length - j).toNat)) (0) ?_)
    | (refine LoopB.of (T := Int) ?_ ?_; rotate_left; rintro j ⟨j0, j1, j2⟩; rotate_left)
    | refine LoopF.at 6 rfl (LoopF.fix [0, 3] (Int × Bool) (fun (i, nr) => 0 ≤ i ∧ i ≤ xs.length ∧ nr = nrT lim (ts.getD j.toNat []) xs i) (fun (i, nr) => [(5, In i), (4, Bo nr)]) (fun (i, nr) => []) (fun (i, nr) => ((xs.length - i).toNat)) ((0, false)) ?_)
    | (refine LoopB.of (T := Int × Bool) ?_ ?_; rotate_left; rintro ⟨i, nr⟩ ⟨i0, i1, i2⟩; rotate_left)
    | refine BndF.mk (fun _ => by have e := hx j.toNat (by omega) i.toNat (by omega); first | omega | (simp only [List.length_map]; omega)) ?_
    | refine GhF.go ?_
    | refine GdS.keep ?_
    | refine DrawG.old (DrawF.lex (by decide +kernel) ?_)
    | refine EqP.mk _ (gm eI 0 rfl) ?_
    | refine EqP.mk _ (gmb eLI [] (by omega)) ?_
    | refine BndF.mk (fun _ => by omega) ?_
    | refine BndF.mk (fun _ => by simp only [List.length_map, List.length_cons, List.length_nil, List.length_append, List.length_set, List.length_replicate, iotaI_len]; omega) ?_
    | refine BndF.mk (fun hG => by simp only [forall_const, eq_self, not_true_eq_false, not_false_eq_true, or_false, false_or, or_self, or_true, true_or, and_true, true_and, and_false, false_and, decide_true, decide_false, Bool.not_true, Bool.not_false, decide_eq_true_eq, decide_eq_false_iff_not, ite_and_p, ite_or_p, Bool.decide_eq_true, Bool.and_eq_true, Bool.or_eq_true, Bool.not_eq_true', Bool.not_eq_false', Bool.and_eq_false_imp, Bool.or_eq_false_iff, bne_iff_ne, beq_iff_eq, bne_eq_false_iff_eq, beq_eq_false_iff_ne, gt_iff_lt, ge_iff_le, Int.not_lt, Int.not_le, ne_eq, Bool.true_eq_false, Bool.false_eq_true, reduceCtorEq, eta_Airway, eta_Fan, eta_Mine, bytes_nil] at hG; (try simp only [List.length_map]); omega) ?_
    | refine EqI.mk _ (fun _ => wrapI (by omega) (by omega)) ?_
    | refine EqI.mk _ (fun _ => rfl) ?_
    | refine EqN.mk _ (ln eI) ?_
    | refine EqN.mk _ (ln eLI) ?_
    | refine EqN.mk _ (Nat.zero_add _) ?_
    | refine EqN.mk _ (Int.toNat_natCast _) ?_
    | refine EqN.mk _ rfl ?_
    | (refine CondF.mk (fun hb => ?_) (fun hb => ?_) <;> try simp only [forall_const, eq_self, not_true_eq_false, not_false_eq_true, or_false, false_or, or_self, or_true, true_or, and_true, true_and, and_false, false_and, decide_true, decide_false, Bool.not_true, Bool.not_false, decide_eq_true_eq, decide_eq_false_iff_not, ite_and_p, ite_or_p, Bool.decide_eq_true, Bool.and_eq_true, Bool.or_eq_true, Bool.not_eq_true', Bool.not_eq_false', Bool.and_eq_false_imp, Bool.or_eq_false_iff, bne_iff_ne, beq_iff_eq, bne_eq_false_iff_eq, beq_eq_false_iff_ne, gt_iff_lt, ge_iff_le, Int.not_lt, Int.not_le, ne_eq, Bool.true_eq_false, Bool.false_eq_true, reduceCtorEq, eta_Airway, eta_Fan, eta_Mine] at hb)
    | apply BackF.auto2
    | apply BackF.auto
    | refine BackB.mk ?_ ?_
    | refine RetF.auto (And.intro rfl ?_)
    | exact Is.mk rfl rfl
    | refine Is.mk ?_ rfl
    | refine Is.mk rfl ?_
    | refine Is.mk ?_ ?_
  all_goals try dsimp only
  all_goals try simp only [Bo, I, OB.row.injEq, AV.osl.injEq, eI_same,  List.cons.injEq, AV.p.injEq, PV.c.injEq, Value.int.injEq, Value.bool.injEq, and_true, true_and, ite_and_p, ite_or_p, Bool.decide_eq_true, eta_Airway, eta_Fan, eta_Mine]
  all_goals try dsimp only
  all_goals first
    | omega
    | exact ⟨by omega, by omega, fun i hi => absurd hi (by omega)⟩
    | exact ⟨by omega, by omega, nrT_0⟩
    | exact ⟨by omega, by omega, by rw [← nrT_s i0 (by assumption) i2]; unfold inR; rw [Bool.and_comm, Bool.and_comm (decide _)]⟩
    | exact ⟨by omega, by omega, by rw [← nrT_s i0 (by assumption) i2]; rfl⟩
    | exact (covI_f j0 (by assumption) (by rw [← nrT_e (by assumption) i2]; assumption)).symm
    | exact ⟨by omega, by omega, all_s j0 j2 (by rw [← nrT_e (by assumption) i2]; assumption)⟩
    | exact (covI_t j2 (by assumption)).symm
    | skip
abbrev coS (ts : List (List Int)) (lim N : Int) (k n : Nat) (nd B : Int) (fu : Bool) : OB := .fix [Lx (LLI ts), In lim, In N, .osl k 0 n, In nd, In B, Bo fu]
inductive RunT (ts : List (List Int)) (lim N B : Int) (r : Bool × Int × List Int) (rs : List AV) (ho : List OB) : Prop
  | mk (n : Nat) (ys : List Int) (b fu : Bool) (nd : Int) (h1 : rs = [Bo b]) (h2 : ho = [coS ts lim N 2 n nd B fu, .dead, .row false .flat (eI 0) (ys.map eI)]) (h3 : b = r.1) (h4 : nd = B - max r.2.1 0) (h5 : fu = decide (r.2.1 < 0)) (h6 : n ≤ ys.length) (h7 : ys.take n = r.2.2)
theorem ArgF.runT {ts : List (List Int)} {lim N B : Int} {r : Bool × Int × List Int} {k : Nat} {Pr : Program} [Kn Pr] {f : FuncId} {args : List AV} {hin : List OB} {K : List AV → List OB → Prop} (h : FnSem Pr f args hin (RunT ts lim N B r))
    (hk : ∀ (n : Nat) (ys : List Int) (b fu : Bool) (nd : Int), b = r.1 → nd = B - max r.2.1 0 → fu = decide (r.2.1 < 0) → n ≤ ys.length → ys.take n = r.2.2 → K [Bo b] [coS ts lim N 2 n nd B fu, .dead, .row false .flat (eI 0) (ys.map eI)]) : ArgF k Pr f args hin K :=
  ⟨_, h, fun rs ho hR _ => by obtain ⟨n, ys, b, fu, nd, rfl, rfl, h3, h4, h5, h6, h7⟩ := hR; exact hk n ys b fu nd h3 h4 h5 h6 h7⟩
section
variable {L : List Int} {m : Nat} {right : List Int → Bool} {c j : Int} {s : List Int} {x : Bool × Int × List Int}
theorem extL_an : ∀ (K k i : Nat) (b : Int) (s : List Int), L.length - m - i ≤ K → K ≤ L.length - i → 0 ≤ b → extL (ext L right m) L K i b s = extL (ext L right m) L (L.length - m - i) i b s
  | 0, _, i, b, s, h1, h2, hb => by rw [show L.length - m - i = 0 by omega]
  | K + 1, k, i, b, s, h1, h2, hb => by
    have hp := ext_p (L := L) (right := right) m (i + 1) b (s ++ [L.getD i 0]) hb
    rw [extL_s (by omega)]
    by_cases hc : L.length - m - i = 0
    · rw [hc, extL_0 (k := 0) rfl]
      have e : ext L right m (i + 1) b (s ++ [L.getD i 0]) = (false, b, s ++ [L.getD i 0]) := by
        rw [ext_s (by omega), extL_0 (by omega)]
      rw [e, if_neg (by simp), if_neg (show ¬(false, b, s ++ [L.getD i 0]).2.1 < 0 by dsimp only; omega)]
      dsimp only
      rw [Nat.add_sub_cancel, extL_an K k (i + 1) b s (by omega) (by omega) hb, extL_0 (by omega)]
    · rw [extL_s (k := L.length - m - i) (by omega)]
      by_cases h3 : (ext L right m (i + 1) b (s ++ [L.getD i 0])).1 = true
      · rw [if_pos h3, if_pos h3]
      · rw [if_neg h3, if_neg h3]
        by_cases h4 : (ext L right m (i + 1) b (s ++ [L.getD i 0])).2.1 < 0
        · rw [if_pos h4, if_pos h4]
        · rw [if_neg h4, if_neg h4, Nat.add_sub_cancel, extL_an K k (i + 1) _ s (by omega) (by omega) (by omega), show L.length - m - i - 1 = L.length - m - (i + 1) by omega]
theorem runT_t (h : x = extL (ext L right (m - 1)) L (L.length - j.toNat) j.toNat c s) (h0 : 0 ≤ j) (hj : j < L.length) (hb : (ext L right (m - 1) (j + 1).toNat c (s ++ [L.getD j.toNat 0])).1 = true) : x = ext L right (m - 1) (j + 1).toNat c (s ++ [L.getD j.toNat 0]) := by
  rw [show (j + 1).toNat = j.toNat + 1 by omega] at hb ⊢
  rw [h, extL_s (by omega), if_pos hb]
theorem runT_f (h : x = extL (ext L right (m - 1)) L (L.length - j.toNat) j.toNat c s) (h0 : 0 ≤ j) (hj : j < L.length) (hb : (ext L right (m - 1) (j + 1).toNat c (s ++ [L.getD j.toNat 0])).1 = false) (hl : (ext L right (m - 1) (j + 1).toNat c (s ++ [L.getD j.toNat 0])).2.1 < 0) (hl2 : -1 ≤ (ext L right (m - 1) (j + 1).toNat c (s ++ [L.getD j.toNat 0])).2.1) : x = (false, -1, s) := by
  rw [show (j + 1).toNat = j.toNat + 1 by omega] at hb hl hl2
  rw [h, extL_s (by omega), if_neg (by rw [hb]; decide), if_pos hl]
  rw [show (ext L right (m - 1) (j.toNat + 1) c (s ++ [L.getD j.toNat 0])).2.1 = -1 by omega]
theorem runT_n (h : x = extL (ext L right (m - 1)) L (L.length - j.toNat) j.toNat c s) (h0 : 0 ≤ j) (hj : j < L.length) (hb : (ext L right (m - 1) (j + 1).toNat c (s ++ [L.getD j.toNat 0])).1 = false) (hl : ¬(ext L right (m - 1) (j + 1).toNat c (s ++ [L.getD j.toNat 0])).2.1 < 0) : x = extL (ext L right (m - 1)) L (L.length - (j + 1).toNat) (j + 1).toNat (ext L right (m - 1) (j + 1).toNat c (s ++ [L.getD j.toNat 0])).2.1 s := by
  rw [show (j + 1).toNat = j.toNat + 1 by omega] at hb hl ⊢
  rw [h, extL_s (by omega), if_neg (by rw [hb]; decide), if_neg hl, show L.length - j.toNat - 1 = L.length - (j.toNat + 1) by omega]
theorem runT_e (h : x = extL (ext L right (m - 1)) L (L.length - j.toNat) j.toNat c s) (hj : ¬j < L.length) : x = (false, c, s) := by
  rw [h, extL_0 (by omega)]
theorem runT_0 {i : Int} {b nd B : Int} (hm : 0 < m) (hi : 0 ≤ i) (hb : 0 ≤ b) (hnd : nd = B - b) : ext L right m i.toNat b s = extL (ext L right (m - 1)) L (L.length - i.toNat) i.toNat (B - nd) s := by
  rw [ext_s hm, show B - nd = b by omega]
  exact (extL_an _ 0 _ _ _ (by omega) (Nat.le_refl _) hb).symm
end
theorem fu_0 {L : List Int} {right : List Int → Bool} {m i : Nat} {b : Int} {s : List Int} {fu : Bool} (hm : m = 0) (hfu : fu = false) (hb : 1 ≤ b) : fu = decide ((ext L right m i b s).2.1 < 0) := by
  rw [ext_0 hm, hfu]; exact (decide_eq_false (by dsimp only; omega)).symm
theorem iota_gj {n : Nat} {j : Int} (h0 : 0 ≤ j) (h : j < n) : (iotaI 0 n).getD j.toNat 0 = j := by
  rw [iota_g (show j.toNat < n by omega)]; omega
theorem iota_mR {n : Nat} {x : Int} (h : x ∈ iotaI 0 n) : 0 ≤ x ∧ x < n := by
  unfold iotaI at h
  obtain ⟨i, h1, rfl⟩ := List.mem_map.1 h
  have := List.mem_range.1 h1
  omega
theorem iota_L (n : Nat) : (iotaI 0 n).length = n := by unfold iotaI; simp
--@fn (*spec.l20Cover).run
theorem runT1 (ts : List (List Int)) (lim N B : Int) (ht : ∀ j : Nat, j < ts.length → (ts.getD j []).length = ts.length) (hl : ts.length ≤ 16) (hB : 1 ≤ B ∧ B ≤ 20000)
    (m' : Nat) (ih : ∀ (k : Nat), k < m' → ∀ (i b nd : Int) (fu : Bool) (s ys : List Int) (n : Nat) (hi : 0 ≤ i) (hi' : i ≤ ts.length) (hb0 : 0 ≤ b ∧ b ≤ B) (hnd : nd = B - b) (hfu : fu = false) (hn : n ≤ ys.length) (hs : ys.take n = s) (hsc : ∀ x ∈ s, x ∈ iotaI 0 ts.length) (hN : N = s.length + k) (hsi : s.length ≤ i), FnSem Try.prog 80 [.own 0 0, In i] [coS ts lim N 1 n nd B fu, .row false .flat (eI 0) (ys.map eI)] (RunT ts lim N B (ext (iotaI 0 ts.length) (covI ts lim) k i.toNat b s)))
    (i b nd : Int) (fu : Bool) (s ys : List Int) (n : Nat) (hi : 0 ≤ i) (hi' : i ≤ ts.length) (hb0 : 0 ≤ b ∧ b ≤ B) (hnd : nd = B - b) (hfu : fu = false) (hn : n ≤ ys.length) (hs : ys.take n = s) (hsc : ∀ x ∈ s, x ∈ iotaI 0 ts.length) (hN : N = s.length + m') (hsi : s.length ≤ i) :
    FnSem Try.prog 80 [.own 0 0, In i] [coS ts lim N 1 n nd B fu, .row false .flat (eI 0) (ys.map eI)] (RunT ts lim N B (ext (iotaI 0 ts.length) (covI ts lim) m' i.toNat b s)) := by
  have hsn : s.length = n := by rw [← hs, List.length_take]; omega
  have hcl := iota_L ts.length
  refine FnSem.walk (zs := zeroPV Try.prog) (by kernel_rfl) Try.func80 rfl Try.results80 (by kernel_rfl) (by kernel_rfl) (by kernel_rfl) fun hw hh => ?_
  obtain ⟨w0, w1, _⟩ := hw
  first | replace w0 := wfr_L20Cover w0 | skip
  first | replace w1 := wf_I w1 | skip
  repeat' first
    | refine And.intro rfl ?_
    | refine GdF.mk (fun h => h) ?_
    | refine And.intro (Nat.succ_ne_zero _) ?_
    | refine And.intro (Nat.le_of_ble_eq_true rfl) ?_
    | refine SeqF.run ?_
    | refine GhF.at 0 rfl [.mv 1] ?_
    | refine ArgF.is (c_spec_l20Cover_enough ts lim N s (nd + 1) B fu hl (by omega) (fun j hj i hi => by have := iota_mR (hsc _ (getD_mem (d := 0) hi)); rw [ht j hj]; exact this)) ?_
    | refine ArgQ.is (fun hG => c_spec_l20Cover_enough ts lim N s (nd + 1) B fu hl (by omega) (fun j hj i hi => by have := iota_mR (hsc _ (getD_mem (d := 0) hi)); rw [ht j hj]; exact this)) rfl rfl ?_
    | refine EqL.mk (s.map eI) (tkT hs) ?_
    | refine LoopF.at 8 rfl (LoopF.fix [0] (Int × Bool × Int × Nat × List Int) (fun (j, fu', nd', n', zs) => i ≤ j ∧ j ≤ ts.length ∧ n' ≤ zs.length ∧ zs.take n' = s ∧ n' = s.length ∧ 0 < m' ∧ (fu' = false → (0 ≤ B - nd' ∧ B - nd' ≤ b) ∧ ext (iotaI 0 ts.length) (covI ts lim) m' i.toNat b s = extL (ext (iotaI 0 ts.length) (covI ts lim) (m' - 1)) (iotaI 0 ts.length) ((iotaI 0 ts.length).length - j.toNat) j.toNat (B - nd') s) ∧ (fu' = true → nd' = B ∧ ext (iotaI 0 ts.length) (covI ts lim) m' i.toNat b s = (false, -1, s))) (fun (j, fu', nd', n', zs) => [(5, In j)]) (fun (j, fu', nd', n', zs) => [(0, coS ts lim N 2 n' nd' B fu'), (2, .row false .flat (eI 0) (zs.map eI))]) (fun (j, fu', nd', n', zs) => ((ts.length - j).toNat)) ((i, fu, nd, n, ys)) ?_)
    | (refine LoopB.of (T := Int × Bool × Int × Nat × List Int) ?_ ?_; rotate_left; rintro ⟨j, fu', nd', n', zs⟩ ⟨h0, h1, h2, h3, h4, h5, h6, h7⟩; rotate_left)
    | refine EqL.mk ((s ++ [(iotaI 0 ts.length).getD j.toNat 0]).map eI) (by rw [iota_gj (by omega) (by omega)]; exact snT h3) ?_
    | refine CallF.own (f := 80) [0] false ?_
    | (refine ArgF.runT (ih (m' - 1) (by omega) (j + 1) (B - nd') nd' fu' (s ++ [(iotaI 0 ts.length).getD j.toNat 0]) (s ++ [(iotaI 0 ts.length).getD j.toNat 0]) (n' + 1) (by omega) (by omega) (by have := (h6 hb.2).1; omega) (by omega) hb.2 (by simp; omega) (List.take_of_length_le (by simp; omega)) (mem_snoc hsc (by omega)) (by simp; omega) (by simp; omega)) ?_; intro n2 ys2 b2 fu2 nd2 e1 e2 e3 e4 e5; have e6 := ext_len (h6 hb.2).1.1 e1 rfl e4 e5)
    | refine EqI.mk _ (fun _ => wrapI (by have := e6 hb; omega) (by have := e6 hb; omega)) ?_
    | refine BndF.mk (fun _ => by have := e6 hb; first | omega | (simp only [List.length_map]; omega)) ?_
    | refine EqN.mk n' (by have := e6 hb; omega) ?_
    | refine RunT.mk _ _ _ _ _ rfl rfl ?_ ?_ ?_ ?_ ?_
    | refine GhF.go ?_
    | refine GdS.keep ?_
    | refine DrawG.old (DrawF.lex (by decide +kernel) ?_)
    | refine MkF.row ?_
    | refine BndF.mk (fun _ => by omega) ?_
    | refine BndF.mk (fun _ => by simp only [List.length_map, List.length_cons, List.length_nil, List.length_append, List.length_set, List.length_replicate, iotaI_len]; omega) ?_
    | refine BndF.mk (fun hG => by simp only [forall_const, eq_self, not_true_eq_false, not_false_eq_true, or_false, false_or, or_self, or_true, true_or, and_true, true_and, and_false, false_and, decide_true, decide_false, Bool.not_true, Bool.not_false, decide_eq_true_eq, decide_eq_false_iff_not, ite_and_p, ite_or_p, Bool.decide_eq_true, Bool.and_eq_true, Bool.or_eq_true, Bool.not_eq_true', Bool.not_eq_false', Bool.and_eq_false_imp, Bool.or_eq_false_iff, bne_iff_ne, beq_iff_eq, bne_eq_false_iff_eq, beq_eq_false_iff_ne, gt_iff_lt, ge_iff_le, Int.not_lt, Int.not_le, ne_eq, Bool.true_eq_false, Bool.false_eq_true, reduceCtorEq, eta_Airway, eta_Fan, eta_Mine, bytes_nil] at hG; (try simp only [List.length_map]); omega) ?_
    | refine EqI.mk _ (fun _ => wrapI (by omega) (by omega)) ?_
    | refine EqI.mk _ (fun _ => rfl) ?_
    | refine FlF.keep ?_
    | refine EqN.mk _ (ln eI) ?_
    | refine EqN.mk _ (ln eLI) ?_
    | refine EqN.mk _ (Nat.zero_add _) ?_
    | refine EqN.mk (_ + 1) rfl ?_
    | refine EqN.mk _ (Int.toNat_natCast _) ?_
    | refine EqN.mk _ rfl ?_
    | refine EqL.mk _ (sn0 eI) ?_
    | refine EqL.mk _ (sn eI (by first | rfl | assumption | omega | (simp only [List.length_map, List.length_cons, List.length_nil, List.length_append, List.length_set, List.length_replicate, iotaI_len]; done) | (simp only [List.length_map, List.length_cons, List.length_nil, List.length_append, List.length_set, List.length_replicate, iotaI_len]; omega))) ?_
    | refine EqL.mk _ (ap0 eI) ?_
    | refine EqL.mk _ (ap eI (by first | rfl | assumption | omega | (simp only [List.length_map, List.length_cons, List.length_nil, List.length_append, List.length_set, List.length_replicate, iotaI_len]; done) | (simp only [List.length_map, List.length_cons, List.length_nil, List.length_append, List.length_set, List.length_replicate, iotaI_len]; omega))) ?_
    | refine EqL.mk _ (tk eI (by first | rfl | assumption | omega | (simp only [List.length_map, List.length_cons, List.length_nil, List.length_append, List.length_set, List.length_replicate, iotaI_len]; done) | (simp only [List.length_map, List.length_cons, List.length_nil, List.length_append, List.length_set, List.length_replicate, iotaI_len]; omega))) ?_
    | refine EqL.mk _ (st eI) ?_
    | refine EqL.mk _ (dt eI) ?_
    | refine EqL.mk _ (sn0 eLI) ?_
    | refine EqL.mk _ (sn eLI (by first | rfl | assumption | omega | (simp only [List.length_map, List.length_cons, List.length_nil, List.length_append, List.length_set, List.length_replicate, iotaI_len]; done) | (simp only [List.length_map, List.length_cons, List.length_nil, List.length_append, List.length_set, List.length_replicate, iotaI_len]; omega))) ?_
    | refine EqL.mk _ (ap0 eLI) ?_
    | refine EqL.mk _ (ap eLI (by first | rfl | assumption | omega | (simp only [List.length_map, List.length_cons, List.length_nil, List.length_append, List.length_set, List.length_replicate, iotaI_len]; done) | (simp only [List.length_map, List.length_cons, List.length_nil, List.length_append, List.length_set, List.length_replicate, iotaI_len]; omega))) ?_
    | refine EqL.mk _ (tk eLI (by first | rfl | assumption | omega | (simp only [List.length_map, List.length_cons, List.length_nil, List.length_append, List.length_set, List.length_replicate, iotaI_len]; done) | (simp only [List.length_map, List.length_cons, List.length_nil, List.length_append, List.length_set, List.length_replicate, iotaI_len]; omega))) ?_
    | refine EqL.mk _ (st eLI) ?_
    | refine EqL.mk _ (dt eLI) ?_
    | refine EqL.mk [] rfl ?_
    | refine EqL.mk [_] rfl ?_
    | refine EqL.mk _ rfl ?_
    | refine ArgF.is (c_spec_l20Cover_enough _ _ _ _ _ _ _ (by first | assumption | omega) (by first | assumption | omega) (by first | assumption | omega)) ?_
    | refine ArgQ.is (fun hG => c_spec_l20Cover_enough _ _ _ _ _ _ _ (by first | assumption | omega) (by first | assumption | omega) (by first | assumption | omega)) rfl rfl ?_
    | refine ArgQ.is (fun hG => c_spec_l20Cover_enough _ _ _ _ _ _ _ (by simp only [forall_const, eq_self, not_true_eq_false, not_false_eq_true, or_false, false_or, or_self, or_true, true_or, and_true, true_and, and_false, false_and, decide_true, decide_false, Bool.not_true, Bool.not_false, decide_eq_true_eq, decide_eq_false_iff_not, ite_and_p, ite_or_p, Bool.decide_eq_true, Bool.and_eq_true, Bool.or_eq_true, Bool.not_eq_true', Bool.not_eq_false', Bool.and_eq_false_imp, Bool.or_eq_false_iff, bne_iff_ne, beq_iff_eq, bne_eq_false_iff_eq, beq_eq_false_iff_ne, gt_iff_lt, ge_iff_le, Int.not_lt, Int.not_le, ne_eq, Bool.true_eq_false, Bool.false_eq_true, reduceCtorEq, eta_Airway, eta_Fan, eta_Mine, bytes_nil] at hG; omega) (by simp only [forall_const, eq_self, not_true_eq_false, not_false_eq_true, or_false, false_or, or_self, or_true, true_or, and_true, true_and, and_false, false_and, decide_true, decide_false, Bool.not_true, Bool.not_false, decide_eq_true_eq, decide_eq_false_iff_not, ite_and_p, ite_or_p, Bool.decide_eq_true, Bool.and_eq_true, Bool.or_eq_true, Bool.not_eq_true', Bool.not_eq_false', Bool.and_eq_false_imp, Bool.or_eq_false_iff, bne_iff_ne, beq_iff_eq, bne_eq_false_iff_eq, beq_eq_false_iff_ne, gt_iff_lt, ge_iff_le, Int.not_lt, Int.not_le, ne_eq, Bool.true_eq_false, Bool.false_eq_true, reduceCtorEq, eta_Airway, eta_Fan, eta_Mine, bytes_nil] at hG; omega) (by simp only [forall_const, eq_self, not_true_eq_false, not_false_eq_true, or_false, false_or, or_self, or_true, true_or, and_true, true_and, and_false, false_and, decide_true, decide_false, Bool.not_true, Bool.not_false, decide_eq_true_eq, decide_eq_false_iff_not, ite_and_p, ite_or_p, Bool.decide_eq_true, Bool.and_eq_true, Bool.or_eq_true, Bool.not_eq_true', Bool.not_eq_false', Bool.and_eq_false_imp, Bool.or_eq_false_iff, bne_iff_ne, beq_iff_eq, bne_eq_false_iff_eq, beq_eq_false_iff_ne, gt_iff_lt, ge_iff_le, Int.not_lt, Int.not_le, ne_eq, Bool.true_eq_false, Bool.false_eq_true, reduceCtorEq, eta_Airway, eta_Fan, eta_Mine, bytes_nil] at hG; omega)) rfl rfl ?_
    | refine ArgF.is (c_spec_l20Cover_run ..) ?_
    | refine ArgQ.is (fun hG => c_spec_l20Cover_run ..) rfl rfl ?_
    | refine CallF.mk (CallW.is [] true rfl ?_)
    | refine CallG.mk ?_
    | (refine CondF.mk (fun hb => ?_) (fun hb => ?_) <;> try simp only [forall_const, eq_self, not_true_eq_false, not_false_eq_true, or_false, false_or, or_self, or_true, true_or, and_true, true_and, and_false, false_and, decide_true, decide_false, Bool.not_true, Bool.not_false, decide_eq_true_eq, decide_eq_false_iff_not, ite_and_p, ite_or_p, Bool.decide_eq_true, Bool.and_eq_true, Bool.or_eq_true, Bool.not_eq_true', Bool.not_eq_false', Bool.and_eq_false_imp, Bool.or_eq_false_iff, bne_iff_ne, beq_iff_eq, bne_eq_false_iff_eq, beq_eq_false_iff_ne, gt_iff_lt, ge_iff_le, Int.not_lt, Int.not_le, ne_eq, Bool.true_eq_false, Bool.false_eq_true, reduceCtorEq, eta_Airway, eta_Fan, eta_Mine] at hb)
    | apply BackF.auto5
    | refine BackB.mk ?_ ?_
    | refine RetF.auto (And.intro rfl ?_)
    | exact Is.mk rfl rfl
    | refine Is.mk ?_ rfl
    | refine Is.mk rfl ?_
    | refine Is.mk ?_ ?_
  all_goals try dsimp only
  all_goals first
    | omega
    | exact hn
    | exact fu_0 (by omega) hfu (by omega)
    | (rw [ext_0 (by omega)]; dsimp only; rw [decide_eq_true (show 0 ≤ b - 1 by omega), Bool.true_and])
    | (rw [ext_0 (by omega)]; exact hs)
    | (rw [ext_0 (by omega)]; dsimp only; rw [hfu]; exact (decide_eq_false (by omega)).symm)
    | (rw [ext_0 (by omega)]; dsimp only; first | omega | (rw [decide_eq_false (by omega)]; rfl) | (rw [decide_eq_true (by omega)]))
    | exact ⟨Int.le_refl _, hi', hn, hs, by omega, by omega, fun _ => ⟨by omega, runT_0 (by omega) hi hb0.1 hnd⟩, fun h => by rw [hfu] at h; cases h⟩
    | (rw [ext_0 (by omega), hfu]; exact (decide_eq_false (by dsimp only; omega)).symm)
    | (rename_i hc2; rw [runT_t (h6 hc2.2).2 (by omega) (by have := hc2.1; omega) (by rw [← e1]; exact hb)]; first | exact e2 | exact e3 | exact e5 | (rw [← e1]; exact hb.symm))
    | (rename_i hc2; have q := e6 hb; have f1 : (ext (iotaI 0 ts.length) (covI ts lim) (m' - 1) (j + 1).toNat (B - nd') (s ++ [(iotaI 0 ts.length).getD j.toNat 0])).1 = false := by rw [← e1]; exact hb
       refine ⟨by omega, by omega, by omega, by rw [h4]; exact q.2.1, h4, h5, fun hf => ?_, fun hf => ?_⟩
       · rw [hf] at e3
         have g := of_decide_eq_false e3.symm
         have e7 : B - nd2 = (ext (iotaI 0 ts.length) (covI ts lim) (m' - 1) (j + 1).toNat (B - nd') (s ++ [(iotaI 0 ts.length).getD j.toNat 0])).2.1 := by omega
         have := (h6 hc2.2).1
         exact ⟨by omega, by rw [e7]; exact runT_n (h6 hc2.2).2 (by omega) (by have := hc2.1; omega) f1 g⟩
       · rw [hf] at e3
         have g := of_decide_eq_true e3.symm
         exact ⟨by omega, runT_f (h6 hc2.2).2 (by omega) (by have := hc2.1; omega) f1 g q.2.2.1⟩)
    | (cases hf : fu' with
       | true =>
         have q := h7 hf
         rw [q.2] <;> first | rfl | (dsimp only; omega) | exact h3
       | false =>
         have q := h6 hf
         have g : ¬j < (iotaI 0 ts.length).length := fun hh => by have := hb (by omega); rw [hf] at this; cases this
         have := q.1
         rw [runT_e q.2 g] <;> first | rfl | (dsimp only; omega) | exact (decide_eq_false (by dsimp only; omega)).symm | exact h3)
    | skip
end Go.Proofs.Ytpckcolkehgdaaa
