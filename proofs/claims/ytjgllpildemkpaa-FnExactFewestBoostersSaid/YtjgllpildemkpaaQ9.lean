/- Contracts of functions of the program, and what they compute. Conditions: those that each theorem states. -/
import Derived.Test.YtjgllpildemkpaaProg
import Derived.Test.YtjgllpildemkpaaQ8
import Derived.Test.YtjgllpildemkpaaQ5
set_option linter.unusedVariables false
set_option linter.unusedSimpArgs false
namespace Go.Proofs.Ytjgllpildemkpaa
open Go.Av
attribute [local irreducible] Go.IntKind.wrap leastI rdZ rd rootI rawA gainsI stepB roundB potN potI askB okAw addG fitsB okMine
set_option maxRecDepth 20000
set_option maxHeartbeats 8000000

/-! The reference's search for the fewest boosters (under way: not built yet). -/
--@fn spec.l00Own
theorem ownB (xs : List Int) (hl : xs.length ≤ 1000000) : FnSem Try.prog 173 [Lx (LI xs)] [] (Is [.osl 0 0 xs.length] [Rw .flat (eI 0) (xs.map eI)]) := by
  refine FnSem.walk (zs := zeroPV Try.prog) (by kernel_rfl) Try.func173 rfl Try.results173 (by kernel_rfl) (by kernel_rfl) (by kernel_rfl) fun hw hh => ?_
  obtain ⟨w0, _⟩ := hw
  first | replace w0 := wf_LI w0 | skip
  repeat' first
    | refine And.intro rfl ?_
    | refine GdF.mk (fun h => h) ?_
    | refine And.intro (Nat.succ_ne_zero _) ?_
    | refine And.intro (Nat.le_of_ble_eq_true rfl) ?_
    | refine SeqF.run ?_
    | refine FlF.flat (by simp only [List.mem_map, forall_exists_index, and_imp, forall_apply_eq_imp_iff₂]; intro a _ p hp; simp only [eI, List.mem_singleton] at hp; exact ⟨_, hp⟩) ?_
    | refine GhF.go ?_
    | refine MkF.row ?_
    | refine BndF.mk (fun _ => by omega) ?_
    | refine BndF.mk (fun _ => by simp only [List.length_map, List.length_cons, List.length_nil, List.length_append, List.length_set, List.length_replicate, iotaI_len]; omega) ?_
    | refine FlF.keep ?_
    | refine EqN.mk _ (Nat.zero_add _) ?_
    | refine EqN.mk (_ + 1) rfl ?_
    | refine EqN.mk _ (Int.toNat_natCast _) ?_
    | refine EqN.mk _ rfl ?_
    | refine EqL.mk _ (sn0 eI) ?_
    | refine EqL.mk _ (sn eI (by first | rfl | assumption | omega | (simp only [List.length_map, List.length_cons, List.length_nil, List.length_append, List.length_set, List.length_replicate, iotaI_len]; done) | (simp only [List.length_map, List.length_cons, List.length_nil, List.length_append, List.length_set, List.length_replicate, iotaI_len]; omega))) ?_
    | refine EqL.mk _ (ap0 eI) ?_
    | refine EqL.mk _ (ap eI (by first | rfl | assumption | omega | (simp only [List.length_map, List.length_cons, List.length_nil, List.length_append, List.length_set, List.length_replicate, iotaI_len]; done) | (simp only [List.length_map, List.length_cons, List.length_nil, List.length_append, List.length_set, List.length_replicate, iotaI_len]; omega))) ?_
    | refine EqL.mk _ (tk eI (by first | rfl | assumption | omega | (simp only [List.length_map, List.length_cons, List.length_nil, List.length_append, List.length_set, List.length_replicate, iotaI_len]; done) | (simp only [List.length_map, List.length_cons, List.length_nil, List.length_append, List.length_set, List.length_replicate, iotaI_len]; omega))) ?_
    | refine EqL.mk _ (dt eI) ?_
    | refine EqL.mk [] rfl ?_
    | refine EqL.mk [_] rfl ?_
    | refine EqL.mk _ rfl ?_
    | (refine CondF.mk (fun hb => ?_) (fun hb => ?_) <;> try simp only [forall_const, eq_self, not_true_eq_false, not_false_eq_true, or_false, false_or, or_self, or_true, true_or, and_true, true_and, and_false, false_and, decide_true, decide_false, Bool.not_true, Bool.not_false, decide_eq_true_eq, decide_eq_false_iff_not, ite_and_p, ite_or_p, Bool.decide_eq_true, Bool.and_eq_true, Bool.or_eq_true, Bool.not_eq_true', Bool.not_eq_false', Bool.and_eq_false_imp, Bool.or_eq_false_iff, bne_iff_ne, beq_iff_eq, bne_eq_false_iff_eq, beq_eq_false_iff_ne, gt_iff_lt, ge_iff_le, Int.not_lt, Int.not_le, ne_eq, Bool.true_eq_false, Bool.false_eq_true, reduceCtorEq, eta_Airway, eta_Door, eta_Fan, eta_Mine] at hb)
    | refine RetF.auto (And.intro rfl ?_)
    | exact Is.mk rfl rfl
    | refine Is.mk ?_ rfl
    | refine Is.mk rfl ?_
    | refine Is.mk ?_ ?_
  all_goals try dsimp only
  all_goals try simp only [Bo, I, OB.row.injEq, AV.osl.injEq, eI_same,  List.cons.injEq, AV.p.injEq, PV.c.injEq, Value.int.injEq, Value.bool.injEq, and_true, true_and, ite_and_p, ite_or_p, Bool.decide_eq_true, eta_Airway, eta_Door, eta_Fan, eta_Mine]
  all_goals simp only [List.length_map]
abbrev boS (ds ps : List Int) (rg : List Bool) (cs : List Int) (d N : Int) (k n : Nat) (nd B : Int) (fu : Bool) : OB := .fix [.own 1 0, Lx (LI ds), Lx (LI ps), Lx (LB rg), Lx (LI cs), In d, In N, .osl k 0 n, In nd, In B, Bo fu]
abbrev boM (m : GMine) : OB := .fix [In m.junctions, Lx (.lst (GAirway.cells default) (m.airways.map GAirway.cells))]
inductive RunB (m : GMine) (ds ps : List Int) (rg : List Bool) (cs : List Int) (d N B : Int) (r : Bool × Int × List Int) (rs : List AV) (ho : List OB) : Prop
  | mk (n : Nat) (ys : List Int) (b fu : Bool) (nd : Int) (h1 : rs = [Bo b]) (h2 : ho = [boS ds ps rg cs d N 3 n nd B fu, boM m, .dead, .row false .flat (eI 0) (ys.map eI)]) (h3 : b = r.1) (h4 : nd = B - max r.2.1 0) (h5 : fu = decide (r.2.1 < 0)) (h6 : n ≤ ys.length) (h7 : ys.take n = r.2.2)
theorem ArgF.runB {m : GMine} {ds ps : List Int} {rg : List Bool} {cs : List Int} {d N B : Int} {r : Bool × Int × List Int} {k : Nat} {Pr : Program} [Kn Pr] {f : FuncId} {args : List AV} {hin : List OB} {K : List AV → List OB → Prop} (h : FnSem Pr f args hin (RunB m ds ps rg cs d N B r))
    (hk : ∀ (n : Nat) (ys : List Int) (b fu : Bool) (nd : Int), b = r.1 → nd = B - max r.2.1 0 → fu = decide (r.2.1 < 0) → n ≤ ys.length → ys.take n = r.2.2 → K [Bo b] [boS ds ps rg cs d N 3 n nd B fu, boM m, .dead, .row false .flat (eI 0) (ys.map eI)]) : ArgF k Pr f args hin K :=
  ⟨_, h, fun rs ho hR _ => by obtain ⟨n, ys, b, fu, nd, rfl, rfl, h3, h4, h5, h6, h7⟩ := hR; exact hk n ys b fu nd h3 h4 h5 h6 h7⟩
section
variable {L : List Int} {m : Nat} {right : List Int → Bool} {c j : Int} {s : List Int} {x : Bool × Int × List Int}
theorem runB_t (h : x = extL (ext L right (m - 1)) L (L.length - j.toNat) j.toNat c s) (h0 : 0 ≤ j) (hj : j < L.length) (hb : (ext L right (m - 1) (j + 1).toNat c (s ++ [L.getD j.toNat 0])).1 = true) : x = ext L right (m - 1) (j + 1).toNat c (s ++ [L.getD j.toNat 0]) := by
  rw [show (j + 1).toNat = j.toNat + 1 by omega] at hb ⊢
  rw [h, extL_s (by omega), if_pos hb]
theorem runB_f (h : x = extL (ext L right (m - 1)) L (L.length - j.toNat) j.toNat c s) (h0 : 0 ≤ j) (hj : j < L.length) (hb : (ext L right (m - 1) (j + 1).toNat c (s ++ [L.getD j.toNat 0])).1 = false) (hl : (ext L right (m - 1) (j + 1).toNat c (s ++ [L.getD j.toNat 0])).2.1 < 0) (hl2 : -1 ≤ (ext L right (m - 1) (j + 1).toNat c (s ++ [L.getD j.toNat 0])).2.1) : x = (false, -1, s) := by
  rw [show (j + 1).toNat = j.toNat + 1 by omega] at hb hl hl2
  rw [h, extL_s (by omega), if_neg (by rw [hb]; decide), if_pos hl]
  rw [show (ext L right (m - 1) (j.toNat + 1) c (s ++ [L.getD j.toNat 0])).2.1 = -1 by omega]
theorem runB_n (h : x = extL (ext L right (m - 1)) L (L.length - j.toNat) j.toNat c s) (h0 : 0 ≤ j) (hj : j < L.length) (hb : (ext L right (m - 1) (j + 1).toNat c (s ++ [L.getD j.toNat 0])).1 = false) (hl : ¬(ext L right (m - 1) (j + 1).toNat c (s ++ [L.getD j.toNat 0])).2.1 < 0) : x = extL (ext L right (m - 1)) L (L.length - (j + 1).toNat) (j + 1).toNat (ext L right (m - 1) (j + 1).toNat c (s ++ [L.getD j.toNat 0])).2.1 s := by
  rw [show (j + 1).toNat = j.toNat + 1 by omega] at hb hl ⊢
  rw [h, extL_s (by omega), if_neg (by rw [hb]; decide), if_neg hl, show L.length - j.toNat - 1 = L.length - (j.toNat + 1) by omega]
theorem runB_e (h : x = extL (ext L right (m - 1)) L (L.length - j.toNat) j.toNat c s) (hj : ¬j < L.length) : x = (false, c, s) := by
  rw [h, extL_0 (by omega)]
theorem runB_0 {i : Int} {b nd B : Int} (hm : 0 < m) (hi : 0 ≤ i) (hb : 0 ≤ b) (hnd : nd = B - b) : ext L right m i.toNat b s = extL (ext L right (m - 1)) L (L.length - i.toNat) i.toNat (B - nd) s := by
  rw [ext_s hm, extL_any _ _ _ _ (by omega) rfl, show B - nd = b by omega]
end
end Go.Proofs.Ytjgllpildemkpaa
