/- Contracts of functions of the program, and what they compute. Conditions: those that each theorem states. -/
import Derived.Test.YtfeebelnpibppaaProg
import Derived.Test.YtfeebelnpibppaaP6
import Derived.Test.YtfeebelnpibppaaQ4
import Derived.Test.YtfeebelnpibppaaF1
set_option linter.unusedVariables false
set_option linter.unusedSimpArgs false
namespace Go.Proofs.Ytfeebelnpibppaa
open Go.Av
attribute [local irreducible] Go.IntKind.wrap leastI rdZ rd rootI rawA gainsI potI askB okMine
set_option maxRecDepth 20000
set_option maxHeartbeats 8000000

/-! What regulators take away; walks. -/
section
variable {m : GMine} {g : List Int} {rg : List Bool}
theorem potN_p (hg : bdL 1500000 g) (hl : m.airways.length ≤ 24) : ∀ (k : Nat) (p q : List Int) (B : Int), 0 ≤ B → bdL B p → potN m g rg k p = some q → q.length = p.length ∧ bdL (B + 100000000 * k) q ∧ ∀ j : Nat, q.getD j 0 ≤ p.getD j 0
  | 0, p, q, B, _, _, h => by rw [potN] at h; cases h
  | k + 1, p, q, B, hB, hp, h => by
    rw [potN] at h
    have b := roundB_bd (m := m) (rg := rg) hg hp hB (by omega) m.airways.length
    have l := roundB_len (m := m) (g := g) (rg := rg) (p := p) m.airways.length
    have le := fun j => roundB_le (m := m) (g := g) (rg := rg) (p := p) j m.airways.length
    have hG : (2 : Int) * 1500000 * (m.airways.length : Int) ≤ 100000000 := by omega
    by_cases hc : (roundB m g rg m.airways.length p).2 = false
    · rw [if_pos hc] at h
      cases h
      exact ⟨l, bdL_mono b (by omega), le⟩
    · rw [if_neg hc] at h
      obtain ⟨a1, a2, a3⟩ := potN_p hg hl k _ q (B + 100000000) (by omega) (bdL_mono b (by omega)) h
      exact ⟨by rw [a1, l], bdL_mono a2 (by omega), fun j => Int.le_trans (a3 j) (le j)⟩
theorem potI_p (h : okB m g rg) {q : List Int} (hp : potI m g rg = some q) : q.length = m.junctions.toNat ∧ bdL 2000000000 q ∧ (∀ j : Nat, q.getD j 0 ≤ 0) ∧ fitP m g rg q := by
  have hJ := (okMine_p h.mine).1
  unfold potI at hp
  obtain ⟨a1, a2, a3⟩ := potN_p h.bd (okMine_p h.mine).2.1 _ _ q 0 (Int.le_refl _) (bdL_rep (Int.le_refl _)) hp
  refine ⟨by rw [a1]; simp, bdL_mono a2 (by omega), fun j => ?_, potN_fit h.mine _ _ _ hp⟩
  have := a3 j
  rw [List.getD_eq_getElem?_getD (l := List.replicate _ _), List.getElem?_replicate] at this
  split at this <;> exact this
end
def tkD (m : GMine) (g p : List Int) (i : Nat) : Int := p.getD (m.airways.getD i default).from_.toNat 0 - p.getD (m.airways.getD i default).to.toNat 0 + g.getD i 0
section
variable {m : GMine} {g p : List Int} {rg : List Bool} {i : Int} {k : Nat} {ys : List Int}
theorem rgd_0 : (0 : Int) ≤ 0 ∧ (0 : Int) ≤ m.airways.length ∧ 0 = ([] : List Int).length ∧ ((0 : Nat) : Int) = 0 ∧ ∀ j : Nat, j < 0 → ([] : List Int).getD j 0 = tkD m g p j :=
  ⟨by omega, by omega, rfl, rfl, fun j hj => absurd hj (by omega)⟩
theorem rgd_s (h : okB m g rg) (hp : potI m g rg = some p) (k0 : 0 ≤ i) (hb : i < m.airways.length) (k2 : k = ys.length) (k3 : (k : Int) = i) (k4 : ∀ j : Nat, j < k → ys.getD j 0 = tkD m g p j) {v : Int} (hv : v = p.getD (m.airways.getD i.toNat default).from_.toNat 0 - p.getD (m.airways.getD i.toNat default).to.toNat 0 + g.getD i.toNat 0 := by rfl) :
    0 ≤ i + 1 ∧ i + 1 ≤ m.airways.length ∧ k + 1 = (ys ++ [v]).length ∧ ((k + 1 : Nat) : Int) = i + 1 ∧ ∀ j : Nat, j < k + 1 → (ys ++ [v]).getD j 0 = tkD m g p j := by
  refine ⟨by omega, by omega, by simp [k2], by omega, fun j hj => ?_⟩
  by_cases e : j < k
  · rw [← k4 j e, List.getD_eq_getElem?_getD, List.getD_eq_getElem?_getD, List.getElem?_append_left (by omega)]
  · have e2 : j = k := by omega
    rw [List.getD_eq_getElem?_getD, e2, k2, List.getElem?_append_right (Nat.le_refl _), hv]
    unfold tkD
    rw [show ys.length = i.toNat by omega]
    simp
theorem rgd_e (hp : potI m g rg = some p) (k0 : 0 ≤ i) (k1 : i ≤ m.airways.length) (k2 : k = ys.length) (k3 : (k : Int) = i) (k4 : ∀ j : Nat, j < k → ys.getD j 0 = tkD m g p j) (hb : (m.airways.length : Int) ≤ i) :
    k = m.airways.length ∧ ys.length = k ∧ ∃ p, potI m g rg = some p ∧ ∀ j : Nat, j < k → ys.getD j 0 = tkD m g p j := ⟨by omega, by omega, p, hp, k4⟩
end
inductive RdR (m : GMine) (ds ps : List Int) (rg : List Bool) (rs : List AV) (ho : List OB) : Prop
  | mk (c : Int) (n : Nat) (ys : List Int) (h1 : rs = [.osl 0 0 n, In c]) (h2 : ho = [.row false .flat (eI 0) (ys.map eI)]) (h : c = potC m ds ps rg) (h3 : c = 0 → n = m.airways.length ∧ ys.length = n ∧ ∃ p, potI m (gainsI ps ds) rg = some p ∧ ∀ j : Nat, j < n → ys.getD j 0 = tkD m (gainsI ps ds) p j)
theorem c_impl_RegulatorDrops (m : GMine) (ds ps : List Int) (rg : List Bool) : FnSem Try.prog 25 [.p .any (.agg m.cells), Lx (LI ds), Lx (LI ps), Lx (LB rg)] [] (RdR m ds ps rg) := by
  refine FnSem.old ?_
  refine FnSem.walk (zs := zeroPV Try.prog) (by kernel_rfl) Try.func25 rfl Try.results25 (by kernel_rfl) (by kernel_rfl) (by kernel_rfl) fun hw hh => ?_
  obtain ⟨w0, w1, w2, w3, _⟩ := hw
  first | replace w0 := wf_Mine w0 | skip
  first | replace w1 := wf_LI w1 | skip
  first | replace w2 := wf_LI w2 | skip
  first | replace w3 := wf_I w3 | replace w3 := wf_Y w3 | replace w3 := wf_S w3 | replace w3 := wf_LI w3 | replace w3 := wf_LY w3 | replace w3 := wf_LLI w3 | replace w3 := wf_Ls w3 | skip
  have hwl := w0.2.1
  repeat' first
    | refine And.intro rfl ?_
    | refine GdF.mk (fun h => h) ?_
    | refine And.intro (Nat.succ_ne_zero _) ?_
    | refine And.intro (Nat.le_of_ble_eq_true rfl) ?_
    | refine SeqF.run ?_
    | refine BndF.mk (fun _ => by have a1 := (okB_of hs).air.2.2 i k0 hb; have a2 := (potI_p (okB_of hs) hp).1; have a3 := (okB_of hs).air; have a4 := (okB_of hs).gl; first | omega | (simp only [List.length_map]; omega)) ?_
    | refine EqI.mk _ (fun _ => by have a1 := (potI_p (okB_of hs) hp).2.1 (m.airways.getD i.toNat default).from_.toNat; have a2 := (potI_p (okB_of hs) hp).2.1 (m.airways.getD i.toNat default).to.toNat; have a3 := (okB_of hs).bd i.toNat; exact wrapI (by omega) (by omega)) ?_
    | refine CallF.mk (f := 115) (CallW.is [] false rfl ?_)
    | (refine ArgF.mk _ (c_impl_boostersOf m ds ps rg) (fun rs ho hR _ => ?_); rcases hR with ⟨hs, rfl, rfl⟩ | ⟨hs, rfl, rfl⟩)
    | exact absurd hb hs
    | (refine ArgF.mk _ (c_impl_booster_potentials m (gainsI ps ds) rg (okB_of hs)) (fun rs ho hR _ => ?_); rcases hR with ⟨p, hp, rfl, rfl⟩ | ⟨hp, rfl, rfl⟩)
    | refine GhF.at 8 rfl [.old 5] ?_
    | refine GhF.held 11 rfl [(18, []), (19, [3])] ?_
    | refine LoopF.at 9 rfl (LoopF.fix [10, 12, 36, 37] (Int × Nat × List Int) (fun (i, k, ys) => 0 ≤ i ∧ i ≤ m.airways.length ∧ k = ys.length ∧ (k : Int) = i ∧ ∀ j : Nat, j < k → ys.getD j 0 = tkD m (gainsI ps ds) p j) (fun (i, k, ys) => [(38, In i), (14, .osl 3 0 k)]) (fun (i, k, ys) => [(3, .row false .flat (eI 0) (ys.map eI))]) (fun (i, k, ys) => ((m.airways.length - i).toNat)) ((0, 0, [])) ?_)
    | (refine LoopB.of (T := Int × Nat × List Int) ?_ ?_; rotate_left; rintro ⟨i, k, ys⟩ ⟨k0, k1, k2, k3, k4⟩; rotate_left)
    | refine RdR.mk _ 0 [] rfl rfl ?_ ?_
    | refine RdR.mk _ _ _ rfl rfl ?_ ?_
    | refine HdF.at 20 rfl 0 [] (And.intro (by decide +kernel) (And.intro rfl ?_))
    | refine HdF.at 19 rfl 1 [] (And.intro (by decide +kernel) (And.intro rfl ?_))
    | refine HdF.at 18 rfl 2 [] (And.intro (by decide +kernel) (And.intro rfl ?_))
    | refine HdF.at 17 rfl 3 [4, 5, 11, 17, 18, 19, 20] (And.intro (by decide +kernel) (And.intro rfl ?_))
    | refine HdF.at 16 rfl 4 [] (And.intro (by decide +kernel) (And.intro rfl ?_))
    | refine HdF.at 15 rfl 5 [11, 17, 18, 19, 20] (And.intro (by decide +kernel) (And.intro rfl ?_))
    | refine HdF.at 14 rfl 6 [] (And.intro (by decide +kernel) (And.intro rfl ?_))
    | refine HdF.at 13 rfl 7 [] (And.intro (by decide +kernel) (And.intro rfl ?_))
    | refine HdF.at 12 rfl 8 [9, 10, 11, 17, 18, 19, 20] (And.intro (by decide +kernel) (And.intro rfl ?_))
    | refine HdF.at 11 rfl 9 [] (And.intro (by decide +kernel) (And.intro rfl ?_))
    | refine HdF.at 10 rfl 10 [11, 17, 18, 19, 20] (And.intro (by decide +kernel) (And.intro rfl ?_))
    | refine HdF.at 9 rfl 11 [] (And.intro (by decide +kernel) (And.intro rfl ?_))
    | refine HdF.at 8 rfl 12 [] (And.intro (by decide +kernel) (And.intro rfl ?_))
    | refine HdF.at 7 rfl 13 [15, 16, 17, 18, 19, 20] (And.intro (by decide +kernel) (And.intro rfl ?_))
    | refine HdF.at 6 rfl 14 [] (And.intro (by decide +kernel) (And.intro rfl ?_))
    | refine HdF.at 5 rfl 15 [] (And.intro (by decide +kernel) (And.intro rfl ?_))
    | refine HdF.at 4 rfl 16 [17, 18, 19, 20] (And.intro (by decide +kernel) (And.intro rfl ?_))
    | refine HdF.at 3 rfl 17 [] (And.intro (by decide +kernel) (And.intro rfl ?_))
    | refine HdF.goAt 2 rfl ?_
    | refine OrdL.ord ?_
    | refine OrdF.take 20 (by decide +kernel) (And.intro rfl ?_)
    | refine OrdF.all [19] (by decide +kernel) ?_
    | refine OrdF.all [18] (by decide +kernel) ?_
    | refine OrdF.fin (by decide +kernel) ?_
    | refine AllF.one _ ?_
    | refine AllF.cons _ _ ?_ ?_
    | refine OpH.quiet rfl ?_
    | refine OpH.heap ?_
    | refine GhF.go ?_
    | refine DrawG.old (DrawF.lex (by decide +kernel) ?_)
    | refine DrawG.old (DrawF.any ?_)
    | refine OrdF.take 0 (by decide +kernel) ?_
    | refine OrdF.take 1 (by decide +kernel) ?_
    | refine OrdF.take 2 (by decide +kernel) ?_
    | refine OrdF.take 6 (by decide +kernel) ?_
    | refine OrdF.take 7 (by decide +kernel) ?_
    | refine OrdF.take 12 (by decide +kernel) ?_
    | refine OrdF.take 14 (by decide +kernel) ?_
    | refine OrdF.take 15 (by decide +kernel) ?_
    | refine OrdF.take 9 (by decide +kernel) ?_
    | refine OrdF.take 4 (by decide +kernel) ?_
    | refine OrdF.take 11 (by decide +kernel) ?_
    | refine OrdF.take 17 (by decide +kernel) ?_
    | refine OrdF.take 20 (by decide +kernel) ?_
    | refine OrdF.all [19] (by decide +kernel) ?_
    | refine OrdF.all [18] (by decide +kernel) ?_
    | refine OrdF.all [5] (by decide +kernel) ?_
    | refine OrdF.all [3] (by decide +kernel) ?_
    | refine OrdF.all [10] (by decide +kernel) ?_
    | refine OrdF.all [5, 10] (by decide +kernel) ?_
    | refine OrdF.all [3, 10] (by decide +kernel) ?_
    | refine OrdF.all [8] (by decide +kernel) ?_
    | refine OrdF.all [5, 8] (by decide +kernel) ?_
    | refine OrdF.all [3, 8] (by decide +kernel) ?_
    | refine OrdF.all [16] (by decide +kernel) ?_
    | refine OrdF.all [5, 16] (by decide +kernel) ?_
    | refine OrdF.all [3, 16] (by decide +kernel) ?_
    | refine OrdF.all [10, 16] (by decide +kernel) ?_
    | refine OrdF.all [5, 10, 16] (by decide +kernel) ?_
    | refine OrdF.all [3, 10, 16] (by decide +kernel) ?_
    | refine OrdF.all [8, 16] (by decide +kernel) ?_
    | refine OrdF.all [5, 8, 16] (by decide +kernel) ?_
    | refine OrdF.all [3, 8, 16] (by decide +kernel) ?_
    | refine OrdF.all [13] (by decide +kernel) ?_
    | refine OrdF.all [5, 13] (by decide +kernel) ?_
    | refine OrdF.all [3, 13] (by decide +kernel) ?_
    | refine OrdF.all [10, 13] (by decide +kernel) ?_
    | refine OrdF.all [5, 10, 13] (by decide +kernel) ?_
    | refine OrdF.all [3, 10, 13] (by decide +kernel) ?_
    | refine OrdF.all [8, 13] (by decide +kernel) ?_
    | refine OrdF.all [5, 8, 13] (by decide +kernel) ?_
    | refine OrdF.all [3, 8, 13] (by decide +kernel) ?_
    | refine OrdF.fin (by decide +kernel) ?_
    | refine AllF.one _ ?_
    | refine AllF.cons _ _ ?_ ?_
    | refine MkF.row ?_
    | refine EqP.mk _ (gm GAirway.cells default rfl) ?_
    | refine EqP.mk _ (gm eI 0 rfl) ?_
    | refine EqP.mk _ (gm eB false rfl) ?_
    | refine BndF.mk (fun _ => by omega) ?_
    | refine BndF.mk (fun _ => by simp only [List.length_map, List.length_cons, List.length_nil, List.length_append, List.length_set, List.length_replicate, iotaI_len]; omega) ?_
    | refine EqI.mk _ (fun _ => wrapI (by omega) (by omega)) ?_
    | refine EqI.mk _ (fun _ => rfl) ?_
    | refine FlF.keep ?_
    | refine EqN.mk _ (ln GAirway.cells) ?_
    | refine EqN.mk _ (ln eI) ?_
    | refine EqN.mk _ (ln eB) ?_
    | refine EqN.mk _ (Nat.zero_add _) ?_
    | refine EqN.mk (_ + 1) rfl ?_
    | refine EqN.mk _ (Int.toNat_natCast _) ?_
    | refine EqN.mk _ rfl ?_
    | refine EqL.mk _ (sn0 GAirway.cells) ?_
    | refine EqL.mk _ (sn GAirway.cells (by first | rfl | assumption | omega | (simp only [List.length_map, List.length_cons, List.length_nil, List.length_append, List.length_set, List.length_replicate, iotaI_len]; done) | (simp only [List.length_map, List.length_cons, List.length_nil, List.length_append, List.length_set, List.length_replicate, iotaI_len]; omega))) ?_
    | refine EqL.mk _ (ap0 GAirway.cells) ?_
    | refine EqL.mk _ (ap GAirway.cells (by first | rfl | assumption | omega | (simp only [List.length_map, List.length_cons, List.length_nil, List.length_append, List.length_set, List.length_replicate, iotaI_len]; done) | (simp only [List.length_map, List.length_cons, List.length_nil, List.length_append, List.length_set, List.length_replicate, iotaI_len]; omega))) ?_
    | refine EqL.mk _ (tk GAirway.cells (by first | rfl | assumption | omega | (simp only [List.length_map, List.length_cons, List.length_nil, List.length_append, List.length_set, List.length_replicate, iotaI_len]; done) | (simp only [List.length_map, List.length_cons, List.length_nil, List.length_append, List.length_set, List.length_replicate, iotaI_len]; omega))) ?_
    | refine EqL.mk _ (st GAirway.cells) ?_
    | refine EqL.mk _ (dt GAirway.cells) ?_
    | refine EqL.mk _ (sn0 eI) ?_
    | refine EqL.mk _ (sn eI (by first | rfl | assumption | omega | (simp only [List.length_map, List.length_cons, List.length_nil, List.length_append, List.length_set, List.length_replicate, iotaI_len]; done) | (simp only [List.length_map, List.length_cons, List.length_nil, List.length_append, List.length_set, List.length_replicate, iotaI_len]; omega))) ?_
    | refine EqL.mk _ (ap0 eI) ?_
    | refine EqL.mk _ (ap eI (by first | rfl | assumption | omega | (simp only [List.length_map, List.length_cons, List.length_nil, List.length_append, List.length_set, List.length_replicate, iotaI_len]; done) | (simp only [List.length_map, List.length_cons, List.length_nil, List.length_append, List.length_set, List.length_replicate, iotaI_len]; omega))) ?_
    | refine EqL.mk _ (tk eI (by first | rfl | assumption | omega | (simp only [List.length_map, List.length_cons, List.length_nil, List.length_append, List.length_set, List.length_replicate, iotaI_len]; done) | (simp only [List.length_map, List.length_cons, List.length_nil, List.length_append, List.length_set, List.length_replicate, iotaI_len]; omega))) ?_
    | refine EqL.mk _ (st eI) ?_
    | refine EqL.mk _ (dt eI) ?_
    | refine EqL.mk _ (sn0 eB) ?_
    | refine EqL.mk _ (sn eB (by first | rfl | assumption | omega | (simp only [List.length_map, List.length_cons, List.length_nil, List.length_append, List.length_set, List.length_replicate, iotaI_len]; done) | (simp only [List.length_map, List.length_cons, List.length_nil, List.length_append, List.length_set, List.length_replicate, iotaI_len]; omega))) ?_
    | refine EqL.mk _ (ap0 eB) ?_
    | refine EqL.mk _ (ap eB (by first | rfl | assumption | omega | (simp only [List.length_map, List.length_cons, List.length_nil, List.length_append, List.length_set, List.length_replicate, iotaI_len]; done) | (simp only [List.length_map, List.length_cons, List.length_nil, List.length_append, List.length_set, List.length_replicate, iotaI_len]; omega))) ?_
    | refine EqL.mk _ (tk eB (by first | rfl | assumption | omega | (simp only [List.length_map, List.length_cons, List.length_nil, List.length_append, List.length_set, List.length_replicate, iotaI_len]; done) | (simp only [List.length_map, List.length_cons, List.length_nil, List.length_append, List.length_set, List.length_replicate, iotaI_len]; omega))) ?_
    | refine EqL.mk _ (st eB) ?_
    | refine EqL.mk _ (dt eB) ?_
    | refine EqL.mk [] rfl ?_
    | refine EqL.mk [_] rfl ?_
    | refine EqL.mk _ rfl ?_
    | refine ArgF.is (c_impl_boostersOf ⟨_, _⟩ _ _ _) ?_
    | refine ArgQ.is (fun hG => c_impl_boostersOf ⟨_, _⟩ _ _ _) rfl rfl ?_
    | refine ArgF.is (c_impl_booster_potentials ⟨_, _⟩ _ _ (by first | assumption | omega)) ?_
    | refine ArgQ.is (fun hG => c_impl_booster_potentials ⟨_, _⟩ _ _ (by first | assumption | omega)) rfl rfl ?_
    | refine CallF.mk (CallW.is [] true rfl ?_)
    | refine CallG.mk ?_
    | (refine CondF.mk (fun hb => ?_) (fun hb => ?_) <;> try simp only [forall_const, eq_self, not_true_eq_false, not_false_eq_true, or_false, false_or, or_self, or_true, true_or, and_true, true_and, and_false, false_and, decide_true, decide_false, Bool.not_true, Bool.not_false, decide_eq_true_eq, decide_eq_false_iff_not, ite_and_p, ite_or_p, Bool.decide_eq_true, Bool.and_eq_true, Bool.or_eq_true, Bool.not_eq_true', Bool.not_eq_false', Bool.and_eq_false_imp, Bool.or_eq_false_iff, bne_iff_ne, beq_iff_eq, bne_eq_false_iff_eq, beq_eq_false_iff_ne, gt_iff_lt, ge_iff_le, Int.not_lt, Int.not_le, ne_eq, Bool.true_eq_false, Bool.false_eq_true, reduceCtorEq, eta_Airway, eta_Fan, eta_Mine] at hb)
    | apply BackF.auto3
    | refine BackB.mk ?_ ?_
    | refine RetF.auto (And.intro rfl ?_)
    | exact Is.mk rfl rfl
    | refine Is.mk ?_ rfl
    | refine Is.mk rfl ?_
    | refine Is.mk ?_ ?_
  all_goals try dsimp only
  all_goals first
    | omega
    | exact rgd_0
    | exact rgd_s (okB_of hs) hp k0 hb k2 k3 k4
    | exact fun _ => rgd_e hp k0 k1 k2 k3 k4 hb
    | (unfold potC; rw [if_neg hs]; done)
    | (intro e; exact absurd e hs)
    | (unfold potC; rw [if_pos hs, hp]; rfl)
    | (intro e; cases e; done)
    | skip
/-- where a walk comes to, or -1 -/
def wlk (m : GMine) : List Int → Int → Int
  | [], a => a
  | x :: w, a => if x = 0 ∨ (m.airways.length : Int) < absI x then -1 else if 0 < x ∧ (m.airways.getD (absI x - 1).toNat default).from_ = a then wlk m w (m.airways.getD (absI x - 1).toNat default).to else if x < 0 ∧ (m.airways.getD (absI x - 1).toNat default).to = a then wlk m w (m.airways.getD (absI x - 1).toNat default).from_ else -1
theorem wlk_s {m : GMine} {w : List Int} {a i : Int} (h0 : 0 ≤ i) (hi : i < w.length) : wlk m (w.drop i.toNat) a = if w.getD i.toNat 0 = 0 ∨ (m.airways.length : Int) < absI (w.getD i.toNat 0) then -1 else if 0 < w.getD i.toNat 0 ∧ (m.airways.getD (absI (w.getD i.toNat 0) - 1).toNat default).from_ = a then wlk m (w.drop (i + 1).toNat) (m.airways.getD (absI (w.getD i.toNat 0) - 1).toNat default).to else if w.getD i.toNat 0 < 0 ∧ (m.airways.getD (absI (w.getD i.toNat 0) - 1).toNat default).to = a then wlk m (w.drop (i + 1).toNat) (m.airways.getD (absI (w.getD i.toNat 0) - 1).toNat default).from_ else -1 := by
  have hi2 : i.toNat < w.length := by omega
  rw [List.drop_eq_getElem_cons hi2, show (i + 1).toNat = i.toNat + 1 by omega, List.getD_eq_getElem?_getD, List.getElem?_eq_getElem hi2, Option.getD_some]
  rfl
theorem absI_n {x : Int} (h : x < 0) : absI x = 0 - x := by unfold absI; omega
theorem absI_p {x : Int} (h : ¬x < 0) : absI x = x := by unfold absI; omega
theorem wlk_n {m : GMine} {w : List Int} {a : Int} : wlk m (w.drop (w.length : Int).toNat) a = a := by
  rw [show (w.length : Int).toNat = w.length by omega, List.drop_length]; rfl
theorem c_laws_b10Walk (m : GMine) (w : List Int) (a : Int) (hw : bdL 1000000000 w) : FnSem Try.prog 28 [.p .any (.ref m.cells), Lx (LI w), In a] [] (Is [In (wlk m w a)] []) := by
  refine FnSem.walk (zs := zeroPV Try.prog) (by kernel_rfl) Try.func28 rfl Try.results28 (by kernel_rfl) (by kernel_rfl) (by kernel_rfl) fun hw hh => ?_
  obtain ⟨w0, w1, w2, _⟩ := hw
  first | replace w0 := wfr_Mine w0 | skip
  first | replace w1 := wf_LI w1 | skip
  first | replace w2 := wf_I w2 | skip
  have hwl := w0.2.1
  repeat' first
    | refine And.intro rfl ?_
    | refine GdF.mk (fun h => h) ?_
    | refine And.intro (Nat.succ_ne_zero _) ?_
    | refine And.intro (Nat.le_of_ble_eq_true rfl) ?_
    | refine SeqF.run ?_
    | refine LoopF.at 3 rfl (LoopF.fix [0, 1] (Int × Int) (fun (i, t) => 0 ≤ i ∧ i ≤ w.length ∧ wlk m w a = wlk m (w.drop i.toNat) t) (fun (i, t) => [(8, In i), (7, In t)]) (fun (i, t) => []) (fun (i, t) => ((w.length - i).toNat)) ((0, a)) ?_)
    | (refine LoopB.of (T := Int × Int) ?_ ?_; rotate_left; rintro ⟨i, t⟩ ⟨k0, k1, k2⟩; rotate_left)
    | refine EqI.mk _ (fun _ => by have b := hw i.toNat; exact wrapI (by omega) (by omega)) ?_
    | refine GhF.go ?_
    | refine GdS.keep ?_
    | refine EqP.mk _ (gm GAirway.cells default rfl) ?_
    | refine EqP.mk _ (gm eI 0 rfl) ?_
    | refine BndF.mk (fun _ => by omega) ?_
    | refine BndF.mk (fun _ => by simp only [List.length_map, List.length_cons, List.length_nil, List.length_append, List.length_set, List.length_replicate, iotaI_len]; omega) ?_
    | refine BndF.mk (fun hG => by simp only [forall_const, eq_self, not_true_eq_false, not_false_eq_true, or_false, false_or, or_self, or_true, true_or, and_true, true_and, and_false, false_and, decide_true, decide_false, Bool.not_true, Bool.not_false, decide_eq_true_eq, decide_eq_false_iff_not, ite_and_p, ite_or_p, Bool.decide_eq_true, Bool.and_eq_true, Bool.or_eq_true, Bool.not_eq_true', Bool.not_eq_false', Bool.and_eq_false_imp, Bool.or_eq_false_iff, bne_iff_ne, beq_iff_eq, bne_eq_false_iff_eq, beq_eq_false_iff_ne, gt_iff_lt, ge_iff_le, Int.not_lt, Int.not_le, ne_eq, Bool.true_eq_false, Bool.false_eq_true, reduceCtorEq, eta_Airway, eta_Fan, eta_Mine, bytes_nil] at hG; (try simp only [List.length_map]); omega) ?_
    | refine EqI.mk _ (fun _ => wrapI (by omega) (by omega)) ?_
    | refine EqI.mk _ (fun _ => rfl) ?_
    | refine EqN.mk _ (ln GAirway.cells) ?_
    | refine EqN.mk _ (ln eI) ?_
    | refine EqN.mk _ (Nat.zero_add _) ?_
    | refine EqN.mk _ (Int.toNat_natCast _) ?_
    | refine EqN.mk _ rfl ?_
    | refine EqL.mk _ (st GAirway.cells) ?_
    | refine EqL.mk _ (st eI) ?_
    | refine EqL.mk [] rfl ?_
    | refine EqL.mk [_] rfl ?_
    | refine EqL.mk _ rfl ?_
    | (refine CondF.mk (fun hb => ?_) (fun hb => ?_) <;> try simp only [forall_const, eq_self, not_true_eq_false, not_false_eq_true, or_false, false_or, or_self, or_true, true_or, and_true, true_and, and_false, false_and, decide_true, decide_false, Bool.not_true, Bool.not_false, decide_eq_true_eq, decide_eq_false_iff_not, ite_and_p, ite_or_p, Bool.decide_eq_true, Bool.and_eq_true, Bool.or_eq_true, Bool.not_eq_true', Bool.not_eq_false', Bool.and_eq_false_imp, Bool.or_eq_false_iff, bne_iff_ne, beq_iff_eq, bne_eq_false_iff_eq, beq_eq_false_iff_ne, gt_iff_lt, ge_iff_le, Int.not_lt, Int.not_le, ne_eq, Bool.true_eq_false, Bool.false_eq_true, reduceCtorEq, eta_Airway, eta_Fan, eta_Mine] at hb)
    | apply BackF.auto2
    | refine BackB.mk ?_ ?_
    | refine RetF.auto (And.intro rfl ?_)
    | exact Is.mk rfl rfl
    | refine Is.mk ?_ rfl
    | refine Is.mk rfl ?_
    | refine Is.mk ?_ ?_
  all_goals try dsimp only
  all_goals try simp only [Bo, I, OB.row.injEq, AV.osl.injEq, eI_same,  List.cons.injEq, AV.p.injEq, PV.c.injEq, Value.int.injEq, Value.bool.injEq, and_true, true_and, ite_and_p, ite_or_p, Bool.decide_eq_true, eta_Airway, eta_Fan, eta_Mine]
  all_goals first
    | omega
    | exact ⟨by omega, by omega, rfl⟩
    | (rw [k2, show i.toNat = (w.length : Int).toNat by omega]; exact wlk_n.symm)
    | (rw [k2, wlk_s k0 (by omega)]
       have hn := absI_n (show w.getD i.toNat 0 < 0 by assumption)
       first
       | (rw [if_pos (by omega)])
       | (rw [if_neg (by omega), if_neg (fun h => by omega), if_pos (by refine ⟨by assumption, ?_⟩; rw [hn]; first | assumption | (apply Eq.symm; assumption) | omega), hn]; exact ⟨by omega, by omega, rfl⟩)
       | (rw [if_neg (by omega), if_neg (fun h => by omega), if_neg (fun h => by rw [hn] at h; omega)]))
    | (rw [k2, wlk_s k0 (by omega)]
       have hn := absI_p (show ¬w.getD i.toNat 0 < 0 by omega)
       first
       | (rw [if_pos (by omega)])
       | (rw [if_neg (by omega), if_pos (by rw [hn]; exact hb), hn]; exact ⟨by omega, by omega, rfl⟩)
       | (have h9 : 0 < w.getD i.toNat 0 → ¬(m.airways.getD (w.getD i.toNat 0 - 1).toNat default).from_ = t := by assumption
          rw [if_neg (by omega), if_neg (fun h => by rw [hn] at h; exact h9 h.1 h.2), if_neg (fun h => by omega)]))
    | skip
end Go.Proofs.Ytfeebelnpibppaa
