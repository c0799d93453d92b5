/- Contracts of functions of the program, and what they compute. Conditions: those that each theorem states. -/
import Derived.Test.YtldmnanlaofbiaaProg
import Derived.Test.YtldmnanlaofbiaaF1
set_option linter.unusedVariables false
set_option linter.unusedSimpArgs false
namespace Go.Proofs.Ytldmnanlaofbiaa
open Go.Av
attribute [local irreducible] Go.IntKind.wrap
set_option maxRecDepth 20000
set_option maxHeartbeats 4000000

def at2 (ss : List (List Int)) (i j : Nat) : Int := (ss.getD i []).getD j 0
def prevE (ss : List (List Int)) (i : Nat) : Int := if i = 0 then 0 else at2 ss (i - 1) 1
/-- what is told of the i-th stuck time -/
def stuckP (xs : List Int) (len : Int) (ss : List (List Int)) (i : Nat) : Prop :=
  (ss.getD i []).length = 2 ∧ prevE ss i ≤ at2 ss i 0 ∧ 0 ≤ at2 ss i 0 ∧ len ≤ at2 ss i 1 - at2 ss i 0 ∧ (at2 ss i 0 < at2 ss i 1 ∧ at2 ss i 1 ≤ xs.length) ∧ ∀ t : Nat, at2 ss i 0 ≤ t → (t : Int) < at2 ss i 1 → xs.getD t 0 = xs.getD (at2 ss i 0).toNat 0 ∧ 0 ≤ xs.getD t 0
theorem at2_snoc {ss : List (List Int)} {x : List Int} {i j : Nat} (h : i < ss.length) : at2 (ss ++ [x]) i j = at2 ss i j := by
  unfold at2; rw [getD_snoc, if_neg (by omega)]
theorem at2_last {ss : List (List Int)} {x : List Int} {i j : Nat} (h : i = ss.length) : at2 (ss ++ [x]) i j = x.getD j 0 := by
  unfold at2; rw [getD_snoc, if_pos h]
theorem stuckP_snoc {xs : List Int} {len : Int} {ss : List (List Int)} {x : List Int} {i : Nat} (h : i < ss.length) (hp : stuckP xs len ss i) : stuckP xs len (ss ++ [x]) i := by
  have e0 : (ss ++ [x]).getD i [] = ss.getD i [] := by rw [getD_snoc, if_neg (by omega)]
  have e1 : prevE (ss ++ [x]) i = prevE ss i := by
    unfold prevE; split
    · rfl
    · rw [at2_snoc (by omega)]
  unfold stuckP at *
  rw [e0, e1, at2_snoc h, at2_snoc h]; exact hp
theorem okSeries_b {xs : List Int} (h : okSeries xs = true) : ∀ j : Nat, (j : Int) < xs.length → -1 ≤ xs.getD j 0 ∧ xs.getD j 0 ≤ 1000000 := by
  simp only [okSeries, Bool.and_eq_true] at h
  exact fun j hj => inR_iff.1 (all_iff.1 h.1 j hj)
inductive StuckR (xs : List Int) (len : Int) (rs : List AV) (ho : List OB) : Prop
  | bad (h1 : rs = [.osl 0 0 0, In 2]) (h2 : ho = [Rw .flat zL []])
  | good (n : Nat) (ss : List (List Int)) (h1 : rs = [.osl 0 0 n, In 0]) (h2 : ho = [Rw .fresh zL (ss.map eLI)]) (h3 : n = ss.length ∧ ss.length ≤ 300 ∧ ∀ i, i < ss.length → stuckP xs len ss i)
theorem stuck_new {xs : List Int} {len f u : Int} {ss : List (List Int)} (h0 : 0 ≤ f) (hs : okSeries xs = true) (h5 : ∀ i : Nat, i < ss.length → stuckP xs len ss i ∧ at2 ss i 1 ≤ f) (g0 : f < u) (g1 : u ≤ xs.length) (g2 : ∀ t : Nat, f ≤ t → (t : Int) < u → xs.getD t 0 = xs.getD f.toNat 0) (hn : ¬xs.getD f.toNat 0 = -1) (hl : len ≤ u - f) :
    ∀ i : Nat, i < (ss ++ [[f, u]]).length → stuckP xs len (ss ++ [[f, u]]) i ∧ at2 (ss ++ [[f, u]]) i 1 ≤ u := by
  intro i hi
  by_cases h : i < ss.length
  · obtain ⟨a, b⟩ := h5 i h
    exact ⟨stuckP_snoc h a, by rw [at2_snoc h]; omega⟩
  · have hi : i = ss.length := by simp at hi; omega
    have e0 : at2 (ss ++ [[f, u]]) i 0 = f := at2_last hi
    have e1 : at2 (ss ++ [[f, u]]) i 1 = u := at2_last hi
    have e2 : (ss ++ [[f, u]]).getD i [] = [f, u] := by rw [getD_snoc, if_pos hi]
    have e3 : prevE (ss ++ [[f, u]]) i ≤ f := by
      unfold prevE; split
      · exact h0
      · rw [at2_snoc (by omega)]; exact (h5 (i - 1) (by omega)).2
    unfold stuckP
    rw [e0, e1, e2]
    refine ⟨⟨rfl, e3, h0, hl, ⟨g0, g1⟩, fun t h1 h2 => ⟨g2 t h1 h2, ?_⟩⟩, by omega⟩
    have := okSeries_b hs t (by omega)
    have e := g2 t h1 h2
    omega
theorem c_impl_StuckTimes (xs : List Int) (len : Int) : FnSem Try.prog 23 [Lx (LI xs), In len] [] (StuckR xs len) := by
  refine FnSem.walk (zs := zeroPV Try.prog) (by kernel_rfl) Try.func23 rfl Try.results23 (by kernel_rfl) (by kernel_rfl) (by kernel_rfl) fun hw hh => ?_
  obtain ⟨w0, w1, _⟩ := hw
  first | replace w0 := wf_I w0 | replace w0 := wf_Y w0 | replace w0 := wf_S w0 | replace w0 := wf_LI w0 | replace w0 := wf_LY w0 | replace w0 := wf_LLI w0 | replace w0 := wf_Ls w0 | skip
  first | replace w1 := wf_I w1 | replace w1 := wf_Y w1 | replace w1 := wf_S w1 | replace w1 := wf_LI w1 | replace w1 := wf_LY w1 | replace w1 := wf_LLI w1 | replace w1 := wf_Ls w1 | skip
  repeat' first
    | refine And.intro rfl ?_
    | refine GdF.mk (fun h => h) ?_
    | refine And.intro (Nat.succ_ne_zero _) ?_
    | refine And.intro (Nat.le_of_ble_eq_true rfl) ?_
    | refine SeqF.run ?_
    | refine LoopF.fix [0, 1, 6, 7] (Int) (fun u => f < u ∧ u ≤ xs.length ∧ (∀ t : Nat, f ≤ t → (t : Int) < u → xs.getD t 0 = xs.getD f.toNat 0)) (fun u => [(8, In u)]) (fun u => []) (fun u => ((xs.length - u).toNat)) ((f + 1)) ?_
    | (refine LoopB.of (T := Int) ?_ ?_; rotate_left; rintro u ⟨g0, g1, g2⟩; rotate_left)
    | refine LoopF.fixw [0] [0, 1] (Int × Nat × List (List Int)) (fun (f, n, ss) => 0 ≤ f ∧ f ≤ xs.length ∧ n = ss.length ∧ (n : Int) ≤ f ∧ (xs.length ≤ 200 ∧ 2 ≤ len ∧ okSeries xs = true) ∧ (∀ i : Nat, i < ss.length → stuckP xs len ss i ∧ at2 ss i 1 ≤ f)) (fun (f, n, ss) => [(7, In f), (6, .osl 0 0 n)]) (fun (f, n, ss) => [(0, Rw .fresh zL (ss.map eLI))]) (fun (f, n, ss) => ((xs.length - f).toNat)) ((0, 0, [])) ?_
    | (refine LoopB.of (T := Int × Nat × List (List Int)) ?_ ?_; rotate_left; rintro ⟨f, n, ss⟩ ⟨h0, h1, h2, h3, h4, h5⟩; rotate_left)
    | refine StuckR.good _ ss rfl rfl ?_
    | refine StuckR.bad rfl rfl
    | refine EqP.mk _ (gm eI 0 rfl) ?_
    | refine EqP.mk _ (gmb eLI [] (by omega)) ?_
    | refine BndF.mk (fun _ => by omega) ?_
    | refine BndF.mk (fun _ => by simp only [List.length_map, List.length_cons, List.length_nil, List.length_append, List.length_set, List.length_replicate, iotaI_len]; omega) ?_
    | refine BndF.mk (fun hG => by simp only [forall_const, eq_self, not_true_eq_false, not_false_eq_true, or_false, false_or, or_self, or_true, true_or, and_true, true_and, and_false, false_and, decide_true, decide_false, Bool.not_true, Bool.not_false, decide_eq_true_eq, decide_eq_false_iff_not, ite_and_p, ite_or_p, Bool.decide_eq_true, Bool.and_eq_true, Bool.or_eq_true, Bool.not_eq_true', Bool.not_eq_false', Bool.and_eq_false_imp, Bool.or_eq_false_iff, bne_iff_ne, beq_iff_eq, bne_eq_false_iff_eq, beq_eq_false_iff_ne, gt_iff_lt, ge_iff_le, Int.not_lt, Int.not_le, ne_eq, Bool.true_eq_false, Bool.false_eq_true, reduceCtorEq, eta_Airway, eta_Fan, eta_Heading, eta_Mine, eta_Sensor, bytes_nil] at hG; (try simp only [List.length_map]); omega) ?_
    | refine EqI.mk _ (fun _ => wrapI (by omega) (by omega)) ?_
    | refine EqI.mk _ (fun _ => rfl) ?_
    | refine EqN.mk _ (ln eI) ?_
    | refine EqN.mk _ (ln eLI) ?_
    | refine EqN.mk _ (Nat.zero_add _) ?_
    | refine EqN.mk (_ + 1) rfl ?_
    | refine EqN.mk _ (Int.toNat_natCast _) ?_
    | refine EqN.mk _ rfl ?_
    | refine EqL.mk _ (sn0 eI) ?_
    | refine EqL.mk _ (sn eI (by first | rfl | assumption | omega | (simp only [List.length_map, List.length_cons, List.length_nil, List.length_append, List.length_set, List.length_replicate, iotaI_len]; done) | (simp only [List.length_map, List.length_cons, List.length_nil, List.length_append, List.length_set, List.length_replicate, iotaI_len]; omega))) ?_
    | refine EqL.mk _ (ap0 eI) ?_
    | refine EqL.mk _ (ap eI (by first | rfl | assumption | omega | (simp only [List.length_map, List.length_cons, List.length_nil, List.length_append, List.length_set, List.length_replicate, iotaI_len]; done) | (simp only [List.length_map, List.length_cons, List.length_nil, List.length_append, List.length_set, List.length_replicate, iotaI_len]; omega))) ?_
    | refine EqL.mk _ (tk eI (by first | rfl | assumption | omega | (simp only [List.length_map, List.length_cons, List.length_nil, List.length_append, List.length_set, List.length_replicate, iotaI_len]; done) | (simp only [List.length_map, List.length_cons, List.length_nil, List.length_append, List.length_set, List.length_replicate, iotaI_len]; omega))) ?_
    | refine EqL.mk _ (dt eI) ?_
    | refine EqL.mk _ (sn0 eLI) ?_
    | refine EqL.mk _ (sn eLI (by first | rfl | assumption | omega | (simp only [List.length_map, List.length_cons, List.length_nil, List.length_append, List.length_set, List.length_replicate, iotaI_len]; done) | (simp only [List.length_map, List.length_cons, List.length_nil, List.length_append, List.length_set, List.length_replicate, iotaI_len]; omega))) ?_
    | refine EqL.mk _ (ap0 eLI) ?_
    | refine EqL.mk _ (ap eLI (by first | rfl | assumption | omega | (simp only [List.length_map, List.length_cons, List.length_nil, List.length_append, List.length_set, List.length_replicate, iotaI_len]; done) | (simp only [List.length_map, List.length_cons, List.length_nil, List.length_append, List.length_set, List.length_replicate, iotaI_len]; omega))) ?_
    | refine EqL.mk _ (tk eLI (by first | rfl | assumption | omega | (simp only [List.length_map, List.length_cons, List.length_nil, List.length_append, List.length_set, List.length_replicate, iotaI_len]; done) | (simp only [List.length_map, List.length_cons, List.length_nil, List.length_append, List.length_set, List.length_replicate, iotaI_len]; omega))) ?_
    | refine EqL.mk _ (dt eLI) ?_
    | refine EqL.mk (List.map eI [_, _]) rfl ?_
    | refine EqL.mk [] rfl ?_
    | refine EqL.mk [_] rfl ?_
    | refine EqL.mk _ rfl ?_
    | refine ArgF.is (c_impl_seriesOk ..) ?_
    | refine ArgQ.is (fun hG => c_impl_seriesOk ..) rfl rfl ?_
    | refine ArgF.is (c_impl_within ..) ?_
    | refine ArgQ.is (fun hG => c_impl_within ..) rfl rfl ?_
    | refine CallF.mk (CallW.is [] true rfl ?_)
    | refine CallG.mk ?_
    | (refine CondF.mk (fun hb => ?_) (fun hb => ?_) <;> try simp only [forall_const, eq_self, not_true_eq_false, not_false_eq_true, or_false, false_or, or_self, or_true, true_or, and_true, true_and, and_false, false_and, decide_true, decide_false, Bool.not_true, Bool.not_false, decide_eq_true_eq, decide_eq_false_iff_not, ite_and_p, ite_or_p, Bool.decide_eq_true, Bool.and_eq_true, Bool.or_eq_true, Bool.not_eq_true', Bool.not_eq_false', Bool.and_eq_false_imp, Bool.or_eq_false_iff, bne_iff_ne, beq_iff_eq, bne_eq_false_iff_eq, beq_eq_false_iff_ne, gt_iff_lt, ge_iff_le, Int.not_lt, Int.not_le, ne_eq, Bool.true_eq_false, Bool.false_eq_true, reduceCtorEq, eta_Airway, eta_Fan, eta_Heading, eta_Mine, eta_Sensor] at hb)
    | apply BackF.auto3
    | apply BackF.auto
    | refine BackB.mk ?_ ?_
    | refine RetF.auto (And.intro rfl ?_)
    | exact Is.mk rfl rfl
    | refine Is.mk ?_ rfl
    | refine Is.mk rfl ?_
    | refine Is.mk ?_ ?_
  · exact ⟨by omega, by omega, rfl, by omega, ⟨by have := okSeries_len hb.1; omega, (inR_iff.1 hb.2).1, by simpa using hb.1⟩, fun i hi => by simp at hi⟩
  · exact ⟨by omega, by omega, fun t h1 h2 => by rw [show t = f.toNat by omega]⟩
  · refine ⟨by omega, by omega, fun t h1 h2 => ?_⟩
    by_cases e : (t : Int) < u
    · exact g2 t h1 e
    · rw [show t = u.toNat by omega]; exact hb.2
  · omega
  · exact ⟨by omega, by omega, by simp [h2], by omega, h4, stuck_new h0 h4.2.2 h5 g0 g1 g2 hb.1 hb.2⟩
  · dsimp only; omega
  · exact ⟨by omega, by omega, h2, by omega, h4, fun i hi => ⟨(h5 i hi).1, by have := (h5 i hi).2; omega⟩⟩
  · dsimp only; omega
  · exact ⟨h2, by omega, fun i hi => (h5 i hi).1⟩
end Go.Proofs.Ytldmnanlaofbiaa
