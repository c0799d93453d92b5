/- Contracts of functions of the program, and what they compute. Conditions: those that each theorem states. -/
import Derived.Test.YtjgllpildemkpaaProg
import Derived.Test.YtjgllpildemkpaaQ9
set_option linter.unusedVariables false
set_option linter.unusedSimpArgs false
namespace Go.Proofs.Ytjgllpildemkpaa
open Go.Av
attribute [local irreducible] Go.IntKind.wrap leastI rdZ rd rootI rawA gainsI stepB roundB potN potI askB okAw addG fitsB okMine ext extL
set_option maxRecDepth 20000
set_option maxHeartbeats 8000000

/-! The reference's search for the fewest boosters: the walk. -/
theorem take_get {ys s : List Int} {n : Nat} (hs : ys.take n = s) {i : Int} (h0 : 0 ≤ i) (h : i < n) : ys.getD i.toNat 0 = s.getD i.toNat 0 := by
  rw [← hs, List.getD_eq_getElem?_getD, List.getD_eq_getElem?_getD, List.getElem?_take, if_pos (by omega)]
/-- the pushes with more: what the reference asks of them -/
theorem leafB {m : GMine} {ds ps : List Int} {rg : List Bool} {s : List Int} {d : Int} (ha : askB m ds ps rg = 0) (hx : ∀ j : Nat, (j : Int) < s.length → 0 ≤ s.getD j 0 ∧ s.getD j 0 < m.airways.length) (hl : s.length ≤ 24) (hd : 0 ≤ d ∧ d ≤ 20000) : okB m (gainsI (addG ps s d s.length) ds) rg ∧ (ds.length = m.airways.length ∧ (addG ps s d s.length).length = m.airways.length) ∧ potI m (gainsI (addG ps s d s.length) ds) rg = potI m (addG (gainsI ps ds) s d s.length) rg := by
  have q := askB_l ha
  have g := gains_add (ps := ps) (ds := ds) (xs := s) (d := d) (fun j hj => by have := hx j hj; omega) s.length (Nat.le_refl _)
  have b := addG_p (g := gainsI ps ds) (xs := s) (gainsI_bd q.2.2.2.2.2.1 q.2.2.2.2.2.2) hd s.length (Nat.le_refl _)
  rw [g.2]
  exact ⟨⟨q.1, by rw [b.1, gainsI_len]; omega, q.2.2.2.2.1, bdL_mono b.2 (by omega)⟩, ⟨by omega, by omega⟩, rfl⟩
theorem pushB {ps s : List Int} {d i : Int} (hp : bdL 20000 ps) (hd : 0 ≤ d ∧ d ≤ 20000) (h0 : 0 ≤ i) (h1 : i ≤ s.length) (hl : s.length ≤ 24) : (addG ps s d i).length = ps.length ∧ ∀ j : Nat, -1500000 ≤ (addG ps s d i).getD j 0 ∧ (addG ps s d i).getD j 0 ≤ 1500000 := by
  have b := addG_p (g := ps) (xs := s) (d := d) (bdL_mono hp (by omega)) hd i.toNat (by omega)
  rw [show ((i.toNat : Nat) : Int) = i by omega] at b
  exact ⟨b.1, fun j => by have := b.2 j; omega⟩
--@fn (*spec.l12Search).run
theorem runB1 (m : GMine) (ds ps : List Int) (rg : List Bool) (cs : List Int) (d N B : Int) (ha : askB m ds ps rg = 0) (hc : ∀ x ∈ cs, 0 ≤ x ∧ x < m.airways.length) (hcl : cs.length ≤ 24) (hd : 0 ≤ d ∧ d ≤ 20000) (hB : 1 ≤ B ∧ B ≤ 20000)
    (m' : Nat) (ih : ∀ (k : Nat), k < m' → ∀ (i b nd : Int) (fu : Bool) (s ys : List Int) (n : Nat) (hi : 0 ≤ i) (hi' : i ≤ cs.length) (hb0 : 0 ≤ b ∧ b ≤ B) (hnd : nd = B - b) (hfu : fu = false) (hn : n ≤ ys.length) (hs : ys.take n = s) (hsc : ∀ x ∈ s, x ∈ cs) (hN : N = s.length + k) (hsi : s.length ≤ i), FnSem Try.prog 184 [.own 0 0, In i] [boS ds ps rg cs d N 2 n nd B fu, boM m, .row false .flat (eI 0) (ys.map eI)] (RunB m ds ps rg cs d N B (ext cs (fun s => fitsB m (gainsI ps ds) rg s d) k i.toNat b s)))
    (i b nd : Int) (fu : Bool) (s ys : List Int) (n : Nat) (hi : 0 ≤ i) (hi' : i ≤ cs.length) (hb0 : 0 ≤ b ∧ b ≤ B) (hnd : nd = B - b) (hfu : fu = false) (hn : n ≤ ys.length) (hs : ys.take n = s) (hsc : ∀ x ∈ s, x ∈ cs) (hN : N = s.length + m') (hsi : s.length ≤ i) :
    FnSem Try.prog 184 [.own 0 0, In i] [boS ds ps rg cs d N 2 n nd B fu, boM m, .row false .flat (eI 0) (ys.map eI)] (RunB m ds ps rg cs d N B (ext cs (fun s => fitsB m (gainsI ps ds) rg s d) m' i.toNat b s)) := by
  have hsn : s.length = n := by rw [← hs, List.length_take]; omega
  have hq := askB_l ha
  have hx : ∀ j : Nat, (j : Int) < s.length → 0 ≤ s.getD j 0 ∧ s.getD j 0 < m.airways.length := fun j hj => hc _ (hsc _ (getD_mem (by omega)))
  have hy : ∀ v : Int, 0 ≤ v → v < n → ys.getD v.toNat 0 = s.getD v.toNat 0 := fun v a b => take_get hs a b
  have hP := fun (v : Int) (a : 0 ≤ v) (b : v ≤ s.length) => pushB (ps := ps) (s := s) (d := d) hq.2.2.2.2.2.2 hd a b (by omega)
  have hL := leafB (s := s) ha hx (by omega) hd
  refine FnSem.walk (zs := zeroPV Try.prog) (by kernel_rfl) Try.func184 rfl Try.results184 (by kernel_rfl) (by kernel_rfl) (by kernel_rfl) fun hw hh => ?_
  obtain ⟨w0, w1, _⟩ := hw
  first | replace w0 := wfr_L12Search w0 | skip
  first | replace w1 := wf_I w1 | skip
  repeat' first
    | refine And.intro rfl ?_
    | refine GdF.mk (fun h => h) ?_
    | refine And.intro (Nat.succ_ne_zero _) ?_
    | refine And.intro (Nat.le_of_ble_eq_true rfl) ?_
    | refine SeqF.run ?_
    | refine GhF.at 0 rfl [.mv 2] ?_
    | refine OpH.heap ?_
    | refine GhF.held 11 rfl [(13, [1, 3])] ?_
    | refine ArgF.is (ownB ps (by omega)) ?_
    | refine ArgQ.is (fun hG => ownB ps (by omega)) rfl rfl ?_
    | refine BndF.mk (fun _ => by have a1 := hx v.toNat (by omega); have a2 := hy v (by omega) (by omega); first | omega | (simp only [List.length_map, List.length_set]; omega)) ?_
    | refine EqI.mk _ (fun _ => by have a1 := (hP v (by omega) (by omega)).2 (ys.getD v.toNat 0).toNat; rw [← k2] at a1; exact wrapI (by omega) (by omega)) ?_
    | refine EqL.mk _ (stI (by kernel_rfl)) ?_
    | refine LoopF.at 8 rfl (LoopF.fix [0, 5] (Int × List Int) (fun (v, q) => 0 ≤ v ∧ v ≤ s.length ∧ q = addG ps s d v ∧ q.length = ps.length) (fun (v, q) => [(6, In v)]) (fun (v, q) => [(0, boS ds ps rg cs d N 4 n (nd + 1) B fu), (3, Rw .flat (eI 0) (q.map eI)), (4, .row false .flat (eI 0) (ys.map eI))]) (fun (v, q) => ((s.length - v).toNat)) ((0, ps)) ?_)
    | (refine LoopB.of (T := Int × List Int) ?_ ?_; rotate_left; rintro ⟨v, q⟩ ⟨k0, k1, k2, k3⟩; rotate_left)
    | (refine ArgF.mk _ (c_spec_l12Fit m ds q rg (by rw [k2, show v = s.length by omega]; exact hL.1) (by rw [k2, show v = s.length by omega]; exact hL.2.1)) (fun rs ho hR _ => ?_); rcases hR with ⟨p, hp, rfl, rfl⟩ | ⟨hp, rfl, rfl⟩)
    | refine LoopF.at 14 rfl (LoopF.fix [0] (Int × Bool × Int × Nat × List Int) (fun (j, fu', nd', n', zs) => i ≤ j ∧ j ≤ cs.length ∧ n' ≤ zs.length ∧ zs.take n' = s ∧ n' = s.length ∧ 0 < m' ∧ (fu' = false → (0 ≤ B - nd' ∧ B - nd' ≤ b) ∧ ext cs (fun s => fitsB m (gainsI ps ds) rg s d) m' i.toNat b s = extL (ext cs (fun s => fitsB m (gainsI ps ds) rg s d) (m' - 1)) cs (cs.length - j.toNat) j.toNat (B - nd') s) ∧ (fu' = true → nd' = B ∧ ext cs (fun s => fitsB m (gainsI ps ds) rg s d) m' i.toNat b s = (false, -1, s))) (fun (j, fu', nd', n', zs) => [(9, In j)]) (fun (j, fu', nd', n', zs) => [(0, boS ds ps rg cs d N 3 n' nd' B fu'), (3, .row false .flat (eI 0) (zs.map eI))]) (fun (j, fu', nd', n', zs) => ((cs.length - j).toNat)) ((i, fu, nd, n, ys)) ?_)
    | (refine LoopB.of (T := Int × Bool × Int × Nat × List Int) ?_ ?_; rotate_left; rintro ⟨j, fu', nd', n', zs⟩ ⟨h0, h1, h2, h3, h4, h5, h6, h7⟩; rotate_left)
    | refine EqL.mk _ (snT h3) ?_
    | refine CallF.own (f := 184) [0] false ?_
    | (refine ArgF.runB (ih (m' - 1) (by omega) (j + 1) (B - nd') nd' fu' (s ++ [cs.getD j.toNat 0]) (s ++ [cs.getD j.toNat 0]) (n' + 1) (by omega) (by omega) (by have := (h6 hb.2).1; omega) (by omega) hb.2 (by simp; omega) (List.take_of_length_le (by simp; omega)) (mem_snoc hsc (by omega)) (by simp; omega) (by simp; omega)) ?_; intro n2 ys2 b2 fu2 nd2 e1 e2 e3 e4 e5; have e6 := ext_len (h6 hb.2).1.1 e1 rfl e4 e5)
    | refine EqI.mk _ (fun _ => wrapI (by have := e6 hb; omega) (by have := e6 hb; omega)) ?_
    | refine BndF.mk (fun _ => by have := e6 hb; first | omega | (simp only [List.length_map]; omega)) ?_
    | refine EqN.mk n' (by have := e6 hb; omega) ?_
    | refine RunB.mk _ _ _ _ _ rfl rfl ?_ ?_ ?_ ?_ ?_
    | refine HdF.at 18 rfl 0 [] (And.intro (by decide +kernel) (And.intro rfl ?_))
    | refine HdF.at 17 rfl 1 [] (And.intro (by decide +kernel) (And.intro rfl ?_))
    | refine HdF.at 16 rfl 2 [] (And.intro (by decide +kernel) (And.intro rfl ?_))
    | refine HdF.at 15 rfl 3 [13, 14, 15, 16, 17, 18] (And.intro (by decide +kernel) (And.intro rfl ?_))
    | refine HdF.at 14 rfl 4 [] (And.intro (by decide +kernel) (And.intro rfl ?_))
    | refine HdF.at 13 rfl 5 [] (And.intro (by decide +kernel) (And.intro rfl ?_))
    | refine HdF.at 12 rfl 6 [] (And.intro (by decide +kernel) (And.intro rfl ?_))
    | refine HdF.at 11 rfl 7 [13, 14, 15, 16, 17, 18] (And.intro (by decide +kernel) (And.intro rfl ?_))
    | refine HdF.at 10 rfl 8 [] (And.intro (by decide +kernel) (And.intro rfl ?_))
    | refine HdF.at 9 rfl 9 [] (And.intro (by decide +kernel) (And.intro rfl ?_))
    | refine HdF.at 8 rfl 10 [] (And.intro (by decide +kernel) (And.intro rfl ?_))
    | refine HdF.at 7 rfl 11 [] (And.intro (by decide +kernel) (And.intro rfl ?_))
    | refine HdF.at 6 rfl 12 [13, 14, 15, 16, 17, 18] (And.intro (by decide +kernel) (And.intro rfl ?_))
    | refine HdF.goAt 5 rfl ?_
    | refine OrdL.ord ?_
    | refine OrdF.take 14 (by decide +kernel) (And.intro rfl ?_)
    | refine OrdF.take 15 (by decide +kernel) (And.intro rfl ?_)
    | refine OrdF.take 16 (by decide +kernel) (And.intro rfl ?_)
    | refine OrdF.take 17 (by decide +kernel) (And.intro rfl ?_)
    | refine OrdF.take 18 (by decide +kernel) (And.intro rfl ?_)
    | refine OrdF.all [13] (by decide +kernel) ?_
    | refine OrdF.fin (by decide +kernel) ?_
    | refine AllF.one _ ?_
    | refine AllF.cons _ _ ?_ ?_
    | refine OpH.quiet rfl ?_
    | refine OpH.heap ?_
    | refine GhF.go ?_
    | refine GdS.keep ?_
    | refine DrawG.old (DrawF.lex (by decide +kernel) ?_)
    | refine DrawG.old (DrawF.any ?_)
    | refine OrdF.take 0 (by decide +kernel) ?_
    | refine OrdF.take 1 (by decide +kernel) ?_
    | refine OrdF.take 2 (by decide +kernel) ?_
    | refine OrdF.take 3 (by decide +kernel) ?_
    | refine OrdF.take 5 (by decide +kernel) ?_
    | refine OrdF.take 6 (by decide +kernel) ?_
    | refine OrdF.take 7 (by decide +kernel) ?_
    | refine OrdF.take 9 (by decide +kernel) ?_
    | refine OrdF.take 10 (by decide +kernel) ?_
    | refine OrdF.take 14 (by decide +kernel) ?_
    | refine OrdF.take 15 (by decide +kernel) ?_
    | refine OrdF.all [16] (by decide +kernel) ?_
    | refine OrdF.all [13] (by decide +kernel) ?_
    | refine OrdF.all [4] (by decide +kernel) ?_
    | refine OrdF.all [12] (by decide +kernel) ?_
    | refine OrdF.all [4, 12] (by decide +kernel) ?_
    | refine OrdF.all [11] (by decide +kernel) ?_
    | refine OrdF.all [4, 11] (by decide +kernel) ?_
    | refine OrdF.all [8] (by decide +kernel) ?_
    | refine OrdF.all [4, 8] (by decide +kernel) ?_
    | refine OrdF.fin (by decide +kernel) ?_
    | refine AllF.one _ ?_
    | refine AllF.cons _ _ ?_ ?_
    | refine MkF.row ?_
    | refine EqP.mk _ (gm eB false rfl) ?_
    | refine EqP.mk _ (gm eI 0 rfl) ?_
    | refine BndF.mk (fun _ => by omega) ?_
    | refine BndF.mk (fun _ => by simp only [List.length_map, List.length_cons, List.length_nil, List.length_append, List.length_set, List.length_replicate, iotaI_len]; omega) ?_
    | refine BndF.mk (fun hG => by simp only [forall_const, eq_self, not_true_eq_false, not_false_eq_true, or_false, false_or, or_self, or_true, true_or, and_true, true_and, and_false, false_and, decide_true, decide_false, Bool.not_true, Bool.not_false, decide_eq_true_eq, decide_eq_false_iff_not, ite_and_p, ite_or_p, Bool.decide_eq_true, Bool.and_eq_true, Bool.or_eq_true, Bool.not_eq_true', Bool.not_eq_false', Bool.and_eq_false_imp, Bool.or_eq_false_iff, bne_iff_ne, beq_iff_eq, bne_eq_false_iff_eq, beq_eq_false_iff_ne, gt_iff_lt, ge_iff_le, Int.not_lt, Int.not_le, ne_eq, Bool.true_eq_false, Bool.false_eq_true, reduceCtorEq, eta_Airway, eta_Door, eta_Fan, eta_Mine, bytes_nil] at hG; (try simp only [List.length_map]); omega) ?_
    | refine EqI.mk _ (fun _ => wrapI (by omega) (by omega)) ?_
    | refine EqI.mk _ (fun _ => rfl) ?_
    | refine FlF.keep ?_
    | refine EqN.mk _ (ln eB) ?_
    | refine EqN.mk _ (ln eI) ?_
    | refine EqN.mk _ (Nat.zero_add _) ?_
    | refine EqN.mk (_ + 1) rfl ?_
    | refine EqN.mk _ (Int.toNat_natCast _) ?_
    | refine EqN.mk _ rfl ?_
    | refine EqL.mk _ (sn0 eB) ?_
    | refine EqL.mk _ (sn eB (by first | rfl | assumption | omega | (simp only [List.length_map, List.length_cons, List.length_nil, List.length_append, List.length_set, List.length_replicate, iotaI_len]; done) | (simp only [List.length_map, List.length_cons, List.length_nil, List.length_append, List.length_set, List.length_replicate, iotaI_len]; omega))) ?_
    | refine EqL.mk _ (ap0 eB) ?_
    | refine EqL.mk _ (ap eB (by first | rfl | assumption | omega | (simp only [List.length_map, List.length_cons, List.length_nil, List.length_append, List.length_set, List.length_replicate, iotaI_len]; done) | (simp only [List.length_map, List.length_cons, List.length_nil, List.length_append, List.length_set, List.length_replicate, iotaI_len]; omega))) ?_
    | refine EqL.mk _ (tk eB (by first | rfl | assumption | omega | (simp only [List.length_map, List.length_cons, List.length_nil, List.length_append, List.length_set, List.length_replicate, iotaI_len]; done) | (simp only [List.length_map, List.length_cons, List.length_nil, List.length_append, List.length_set, List.length_replicate, iotaI_len]; omega))) ?_
    | refine EqL.mk _ (st eB) ?_
    | refine EqL.mk _ (dt eB) ?_
    | refine EqL.mk _ (sn0 eI) ?_
    | refine EqL.mk _ (sn eI (by first | rfl | assumption | omega | (simp only [List.length_map, List.length_cons, List.length_nil, List.length_append, List.length_set, List.length_replicate, iotaI_len]; done) | (simp only [List.length_map, List.length_cons, List.length_nil, List.length_append, List.length_set, List.length_replicate, iotaI_len]; omega))) ?_
    | refine EqL.mk _ (ap0 eI) ?_
    | refine EqL.mk _ (ap eI (by first | rfl | assumption | omega | (simp only [List.length_map, List.length_cons, List.length_nil, List.length_append, List.length_set, List.length_replicate, iotaI_len]; done) | (simp only [List.length_map, List.length_cons, List.length_nil, List.length_append, List.length_set, List.length_replicate, iotaI_len]; omega))) ?_
    | refine EqL.mk _ (tk eI (by first | rfl | assumption | omega | (simp only [List.length_map, List.length_cons, List.length_nil, List.length_append, List.length_set, List.length_replicate, iotaI_len]; done) | (simp only [List.length_map, List.length_cons, List.length_nil, List.length_append, List.length_set, List.length_replicate, iotaI_len]; omega))) ?_
    | refine EqL.mk _ (st eI) ?_
    | refine EqL.mk _ (dt eI) ?_
    | refine EqL.mk [] rfl ?_
    | refine EqL.mk [_] rfl ?_
    | refine EqL.mk _ rfl ?_
    | refine ArgF.is (c_spec_l00Own _ (by first | assumption | omega)) ?_
    | refine ArgQ.is (fun hG => c_spec_l00Own _ (by first | assumption | omega)) rfl rfl ?_
    | refine ArgQ.is (fun hG => c_spec_l00Own _ (by simp only [forall_const, eq_self, not_true_eq_false, not_false_eq_true, or_false, false_or, or_self, or_true, true_or, and_true, true_and, and_false, false_and, decide_true, decide_false, Bool.not_true, Bool.not_false, decide_eq_true_eq, decide_eq_false_iff_not, ite_and_p, ite_or_p, Bool.decide_eq_true, Bool.and_eq_true, Bool.or_eq_true, Bool.not_eq_true', Bool.not_eq_false', Bool.and_eq_false_imp, Bool.or_eq_false_iff, bne_iff_ne, beq_iff_eq, bne_eq_false_iff_eq, beq_eq_false_iff_ne, gt_iff_lt, ge_iff_le, Int.not_lt, Int.not_le, ne_eq, Bool.true_eq_false, Bool.false_eq_true, reduceCtorEq, eta_Airway, eta_Door, eta_Fan, eta_Mine, bytes_nil] at hG; omega)) rfl rfl ?_
    | refine ArgF.is (c_spec_l12Fit ⟨_, _⟩ _ _ _ (by first | assumption | omega) (by first | assumption | omega)) ?_
    | refine ArgQ.is (fun hG => c_spec_l12Fit ⟨_, _⟩ _ _ _ (by first | assumption | omega) (by first | assumption | omega)) rfl rfl ?_
    | refine ArgQ.is (fun hG => c_spec_l12Fit ⟨_, _⟩ _ _ _ (by simp only [forall_const, eq_self, not_true_eq_false, not_false_eq_true, or_false, false_or, or_self, or_true, true_or, and_true, true_and, and_false, false_and, decide_true, decide_false, Bool.not_true, Bool.not_false, decide_eq_true_eq, decide_eq_false_iff_not, ite_and_p, ite_or_p, Bool.decide_eq_true, Bool.and_eq_true, Bool.or_eq_true, Bool.not_eq_true', Bool.not_eq_false', Bool.and_eq_false_imp, Bool.or_eq_false_iff, bne_iff_ne, beq_iff_eq, bne_eq_false_iff_eq, beq_eq_false_iff_ne, gt_iff_lt, ge_iff_le, Int.not_lt, Int.not_le, ne_eq, Bool.true_eq_false, Bool.false_eq_true, reduceCtorEq, eta_Airway, eta_Door, eta_Fan, eta_Mine, bytes_nil] at hG; omega) (by simp only [forall_const, eq_self, not_true_eq_false, not_false_eq_true, or_false, false_or, or_self, or_true, true_or, and_true, true_and, and_false, false_and, decide_true, decide_false, Bool.not_true, Bool.not_false, decide_eq_true_eq, decide_eq_false_iff_not, ite_and_p, ite_or_p, Bool.decide_eq_true, Bool.and_eq_true, Bool.or_eq_true, Bool.not_eq_true', Bool.not_eq_false', Bool.and_eq_false_imp, Bool.or_eq_false_iff, bne_iff_ne, beq_iff_eq, bne_eq_false_iff_eq, beq_eq_false_iff_ne, gt_iff_lt, ge_iff_le, Int.not_lt, Int.not_le, ne_eq, Bool.true_eq_false, Bool.false_eq_true, reduceCtorEq, eta_Airway, eta_Door, eta_Fan, eta_Mine, bytes_nil] at hG; omega)) rfl rfl ?_
    | refine ArgF.is (c_spec_l12Search_run ..) ?_
    | refine ArgQ.is (fun hG => c_spec_l12Search_run ..) rfl rfl ?_
    | refine CallF.mk (CallW.is [] true rfl ?_)
    | refine CallG.mk ?_
    | (refine CondF.mk (fun hb => ?_) (fun hb => ?_) <;> try simp only [forall_const, eq_self, not_true_eq_false, not_false_eq_true, or_false, false_or, or_self, or_true, true_or, and_true, true_and, and_false, false_and, decide_true, decide_false, Bool.not_true, Bool.not_false, decide_eq_true_eq, decide_eq_false_iff_not, ite_and_p, ite_or_p, Bool.decide_eq_true, Bool.and_eq_true, Bool.or_eq_true, Bool.not_eq_true', Bool.not_eq_false', Bool.and_eq_false_imp, Bool.or_eq_false_iff, bne_iff_ne, beq_iff_eq, bne_eq_false_iff_eq, beq_eq_false_iff_ne, gt_iff_lt, ge_iff_le, Int.not_lt, Int.not_le, ne_eq, Bool.true_eq_false, Bool.false_eq_true, reduceCtorEq, eta_Airway, eta_Door, eta_Fan, eta_Mine] at hb)
    | apply BackF.auto5
    | apply BackF.auto2
    | refine BackB.mk ?_ ?_
    | refine RetF.auto (And.intro rfl ?_)
    | exact Is.mk rfl rfl
    | refine Is.mk ?_ rfl
    | refine Is.mk rfl ?_
    | refine Is.mk ?_ ?_
  all_goals try dsimp only
  all_goals first
    | omega
    | exact hn
    | (rw [ext_0 (by omega)]; dsimp only; rw [decide_eq_true (show 0 ≤ b - 1 by omega), Bool.true_and]; rw [k2, show v = (s.length : Int) by omega, hL.2.2] at hp; unfold fitsB; rw [hp]; rfl)
    | (rw [ext_0 (by omega)]; exact hs)
    | (rw [ext_0 (by omega)]; dsimp only; first | omega | (rw [decide_eq_false (by omega)]; rfl) | (rw [decide_eq_true (by omega)]))
    | exact ⟨by omega, by omega, by unfold addG; rw [foldT_0], rfl⟩
    | (have a1 := (hP v (by omega) (by omega)).2 (s.getD v.toNat 0).toNat; rw [← k2] at a1; exact ⟨by omega, by omega, by rw [addG_s k0 (by omega), ← k2, hy v k0 (by omega), wrapI (by omega) (by omega)], by rw [List.length_set]; exact k3⟩)
    | exact ⟨Int.le_refl _, hi', hn, hs, by omega, by omega, fun _ => ⟨by omega, runB_0 (by omega) hi hb0.1 hnd⟩, fun h => by rw [hfu] at h; cases h⟩
    | (rw [ext_0 (by omega), hfu]; exact (decide_eq_false (by dsimp only; omega)).symm)
    | (rename_i hc2; rw [runB_t (h6 hc2.2).2 (by omega) (by have := hc2.1; omega) (by rw [← e1]; exact hb)]; first | exact e2 | exact e3 | exact e5 | (rw [← e1]; exact hb.symm))
    | (rename_i hc2; have q := e6 hb; have f1 : (ext cs (fun s => fitsB m (gainsI ps ds) rg s d) (m' - 1) (j + 1).toNat (B - nd') (s ++ [cs.getD j.toNat 0])).1 = false := by rw [← e1]; exact hb
       refine ⟨by omega, by omega, by omega, by rw [h4]; exact q.2.1, h4, h5, fun hf => ?_, fun hf => ?_⟩
       · rw [hf] at e3
         have g := of_decide_eq_false e3.symm
         have e7 : B - nd2 = (ext cs (fun s => fitsB m (gainsI ps ds) rg s d) (m' - 1) (j + 1).toNat (B - nd') (s ++ [cs.getD j.toNat 0])).2.1 := by omega
         have := (h6 hc2.2).1
         exact ⟨by omega, by rw [e7]; exact runB_n (h6 hc2.2).2 (by omega) (by have := hc2.1; omega) f1 g⟩
       · rw [hf] at e3
         have g := of_decide_eq_true e3.symm
         exact ⟨by omega, runB_f (h6 hc2.2).2 (by omega) (by have := hc2.1; omega) f1 g q.2.2.1⟩)
    | (cases hf : fu' with
       | true =>
         have q := h7 hf
         rw [q.2] <;> first | rfl | (dsimp only; omega) | exact h3
       | false =>
         have q := h6 hf
         have g : ¬j < cs.length := fun hh => by have := hb (by omega); rw [hf] at this; cases this
         have := q.1
         rw [runB_e q.2 g] <;> first | rfl | (dsimp only; omega) | exact (decide_eq_false (by dsimp only; omega)).symm | exact h3)
    | skip
end Go.Proofs.Ytjgllpildemkpaa
