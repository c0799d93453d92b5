/- Contracts of functions of the program, and what they compute. Conditions: those that each theorem states. -/
import Derived.Test.YtfcnlpghdpfjkaaProg
import Derived.Test.YtfcnlpghdpfjkaaO1
set_option linter.unusedVariables false
set_option linter.unusedSimpArgs false
namespace Go.Proofs.Ytfcnlpghdpfjkaa
open Go.Av
attribute [local irreducible] Go.IntKind.wrap leastI rdZ rd rootI okMine treeC mshC dropI prI
set_option maxRecDepth 20000
set_option maxHeartbeats 16000000

/-! Pushes of fans: the program. -/
/-- the pushes of fans, one behind the other -/
def psL (fl : List Int) : List GFan → List Int → List Int
  | [], ps => ps
  | f :: fs, ps => psL fl fs (ps.set f.airway.toNat (ps.getD f.airway.toNat 0 + prI f (fl.getD f.airway.toNat 0)))
theorem psL_len {fl : List Int} : ∀ (fs : List GFan) (ps : List Int), (psL fl fs ps).length = ps.length
  | [], ps => rfl
  | f :: fs, ps => by rw [psL, psL_len fs, List.length_set]
theorem psL_app {fl : List Int} : ∀ (us vs : List GFan) (ps : List Int), psL fl (us ++ vs) ps = psL fl vs (psL fl us ps)
  | [], vs, ps => rfl
  | f :: us, vs, ps => by rw [List.cons_append, psL, psL, psL_app us vs]
theorem psL_s {fl ps : List Int} {fs : List GFan} {i : Int} (h0 : 0 ≤ i) (hi : i < fs.length) : psL fl (fs.take (i + 1).toNat) ps = (psL fl (fs.take i.toNat) ps).set (fs.getD i.toNat default).airway.toNat ((psL fl (fs.take i.toNat) ps).getD (fs.getD i.toNat default).airway.toNat 0 + prI (fs.getD i.toNat default) (fl.getD (fs.getD i.toNat default).airway.toNat 0)) := by
  have hi2 : i.toNat < fs.length := by omega
  rw [show (i + 1).toNat = i.toNat + 1 by omega, List.take_succ_eq_append_getElem hi2, psL_app, List.getD_eq_getElem?_getD (l := fs), List.getElem?_eq_getElem hi2, Option.getD_some]
  rfl
theorem psL_b {fl : List Int} : ∀ (fs : List GFan) (ps : List Int) (B : Int), (∀ k : Nat, k < fs.length → okFan (fs.getD k default)) → (∀ k : Nat, -B ≤ ps.getD k 0 ∧ ps.getD k 0 ≤ B) → ∀ k : Nat, -(B + 10000 * fs.length) ≤ (psL fl fs ps).getD k 0 ∧ (psL fl fs ps).getD k 0 ≤ B + 10000 * fs.length
  | [], ps, B, _, h, k => by have := h k; simpa [psL] using this
  | f :: fs, ps, B, hf, h, k => by
    have h0 := hf 0 (by simp)
    rw [List.getD_cons_zero] at h0
    have := psL_b (fl := fl) fs (ps.set f.airway.toNat (ps.getD f.airway.toNat 0 + prI f (fl.getD f.airway.toNat 0))) (B + 10000) (fun k hk => by simpa using hf (k + 1) (by simpa using hk)) (fun j => by
      rw [getD_sI]
      have h1 := h f.airway.toNat
      have h2 := h j
      have h3 := prI_b h0 (fl.getD f.airway.toNat 0)
      split <;> omega) k
    rw [psL, List.length_cons]
    omega
/-- what is asked rightly, with fans -/
structure askF (m : GMine) (fs : List GFan) (dr : List Int) : Prop where
  hm : okMine m = true
  fs : okFs m fs
  dl : dr.length = m.airways.length
  db : ∀ k : Nat, -400 ≤ dr.getD k 0 ∧ dr.getD k 0 ≤ 400
abbrev psF (fs : List GFan) (dr fl : List Int) : List Int := psL fl fs dr
theorem psF_b {m : GMine} {fs : List GFan} {dr : List Int} (h : askF m fs dr) (fl : List Int) : (psF fs dr fl).length = m.airways.length ∧ ∀ k : Nat, -10400 ≤ (psF fs dr fl).getD k 0 ∧ (psF fs dr fl).getD k 0 ≤ 10400 := by
  refine ⟨(psL_len _ _).trans h.dl, fun k => ?_⟩
  have := psL_b (fl := fl) fs dr 400 (fun k hk => (h.fs.ok k hk).1) h.db k
  have := h.fs.ln
  show -10400 ≤ (psL fl fs dr).getD k 0 ∧ (psL fl fs dr).getD k 0 ≤ 10400
  omega
theorem c_impl_pushesOf (m : GMine) (fs : List GFan) (dr fl : List Int) (h : askF m fs dr) (hf : fl.length = m.airways.length) (hfb : ∀ k : Nat, -100000 ≤ fl.getD k 0 ∧ fl.getD k 0 ≤ 100000) : FnSem Try.prog 111 [Lx (.lst GFan.z (fs.map GFan.cells)), Lx (LI dr), Lx (LI fl)] [] (Is [.osl 0 0 m.airways.length] [.row false .flat (eI 0) ((psF fs dr fl).map eI)]) := by
  have hL := (okMine_p h.hm).2.1
  have hdl := h.dl
  have hln := h.fs.ln
  have hok := fun i : Int => h.fs.ok i.toNat
  have hpb : ∀ (i : Int) (ps : List Int), ps = psL fl (fs.take i.toNat) dr → ps.length = m.airways.length ∧ ∀ k : Nat, -20400 ≤ ps.getD k 0 ∧ ps.getD k 0 ≤ 20400 := fun i ps e => by
    refine ⟨by rw [e, psL_len]; exact hdl, fun k => ?_⟩
    have := psL_b (fl := fl) (fs.take i.toNat) dr 400 (fun k hk => by
      rw [List.length_take] at hk
      have e2 : (fs.take i.toNat).getD k default = fs.getD k default := by
        rw [List.getD_eq_getElem?_getD, List.getElem?_take, if_pos (by omega), ← List.getD_eq_getElem?_getD]
      rw [e2]; exact (h.fs.ok k (by omega)).1) h.db k
    rw [← e, List.length_take] at this
    omega
  refine FnSem.old ?_
  refine FnSem.walk (zs := zeroPV Try.prog) (by kernel_rfl) Try.func111 rfl Try.results111 (by kernel_rfl) (by kernel_rfl) (by kernel_rfl) fun hw hh => ?_
  obtain ⟨w0, w1, w2, _⟩ := hw
  first | replace w0 := wf_LFan w0 | skip
  first | replace w1 := wf_LI w1 | skip
  first | replace w2 := wf_LI w2 | skip
  repeat' first
    | refine And.intro rfl ?_
    | refine GdF.mk (fun h => h) ?_
    | refine And.intro (Nat.succ_ne_zero _) ?_
    | refine And.intro (Nat.le_of_ble_eq_true rfl) ?_
    | refine SeqF.run ?_
    | refine GhF.held 5 rfl [(14, [0])] ?_
    | refine ArgF.is (c_slices_Clone_int64_int64 dr (by omega)) ?_
    | refine ArgQ.is (fun hG => c_slices_Clone_int64_int64 dr (by omega)) rfl rfl ?_
    | refine ArgF.is (c_impl_Fan_pressure (fs.getD i.toNat default) (fl.getD (fs.getD i.toNat default).airway.toNat 0) (hok i (by omega)).1 (hfb _)) ?_
    | refine ArgQ.is (fun hG => c_impl_Fan_pressure (fs.getD i.toNat default) (fl.getD (fs.getD i.toNat default).airway.toNat 0) (hok i (by omega)).1 (hfb _)) rfl rfl ?_
    | refine LoopF.at 3 rfl (LoopF.fixw [1000] [2, 7, 12, 13] (Int × List Int) (fun (i, ps) => 0 ≤ i ∧ i ≤ fs.length ∧ ps = psL fl (fs.take i.toNat) dr ∧ ps.length = m.airways.length) (fun (i, ps) => [(14, In i)]) (fun (i, ps) => [(0, .row false .flat (eI 0) (ps.map eI))]) (fun (i, ps) => ((fs.length - i).toNat)) ((0, dr)) ?_)
    | (refine LoopB.of (T := Int × List Int) ?_ ?_; rotate_left; rintro ⟨i, ps⟩ ⟨i0, i1, i2, i3⟩; rotate_left)
    | refine BndF.mk (fun _ => by have q := hok i (by omega); have q2 := q.1.aw; have q3 := q.2; first | omega | (simp only [List.length_map]; omega)) ?_
    | refine EqI.mk _ (fun _ => by have q := (hpb i ps i2).2 (fs.getD i.toNat default).airway.toNat; have q2 := prI_b (hok i (by omega)).1 (fl.getD (fs.getD i.toNat default).airway.toNat 0); exact wrapI (by omega) (by omega)) ?_
    | refine HdF.at 14 rfl 0 [] (And.intro (by decide +kernel) (And.intro rfl ?_))
    | refine HdF.at 13 rfl 1 [] (And.intro (by decide +kernel) (And.intro rfl ?_))
    | refine HdF.at 12 rfl 2 [3, 4, 12, 13, 14] (And.intro (by decide +kernel) (And.intro rfl ?_))
    | refine HdF.at 11 rfl 3 [] (And.intro (by decide +kernel) (And.intro rfl ?_))
    | refine HdF.at 10 rfl 4 [12, 13, 14] (And.intro (by decide +kernel) (And.intro rfl ?_))
    | refine HdF.at 9 rfl 5 [11, 12, 13, 14] (And.intro (by decide +kernel) (And.intro rfl ?_))
    | refine HdF.at 8 rfl 6 [] (And.intro (by decide +kernel) (And.intro rfl ?_))
    | refine HdF.at 7 rfl 7 [] (And.intro (by decide +kernel) (And.intro rfl ?_))
    | refine HdF.at 6 rfl 8 [9, 10, 11, 12, 13, 14] (And.intro (by decide +kernel) (And.intro rfl ?_))
    | refine HdF.at 5 rfl 9 [] (And.intro (by decide +kernel) (And.intro rfl ?_))
    | refine HdF.at 4 rfl 10 [11, 12, 13, 14] (And.intro (by decide +kernel) (And.intro rfl ?_))
    | refine HdF.goAt 3 rfl ?_
    | refine OrdL.ord ?_
    | refine OrdF.take 12 (by decide +kernel) (And.intro rfl ?_)
    | refine OrdF.take 13 (by decide +kernel) (And.intro rfl ?_)
    | refine OrdF.all [14] (by decide +kernel) ?_
    | refine OrdF.all [11] (by decide +kernel) ?_
    | refine OrdF.fin (by decide +kernel) ?_
    | refine AllF.one _ ?_
    | refine AllF.cons _ _ ?_ ?_
    | refine OpH.quiet rfl ?_
    | refine OpH.heap ?_
    | refine GhF.go ?_
    | refine DrawG.old (DrawF.lex (by decide +kernel) ?_)
    | refine DrawG.old (DrawF.any ?_)
    | refine OrdF.take 0 (by decide +kernel) ?_
    | refine OrdF.take 1 (by decide +kernel) ?_
    | refine OrdF.take 6 (by decide +kernel) ?_
    | refine OrdF.take 7 (by decide +kernel) ?_
    | refine OrdF.take 9 (by decide +kernel) ?_
    | refine OrdF.take 3 (by decide +kernel) ?_
    | refine OrdF.take 12 (by decide +kernel) ?_
    | refine OrdF.take 13 (by decide +kernel) ?_
    | refine OrdF.all [14] (by decide +kernel) ?_
    | refine OrdF.all [4] (by decide +kernel) ?_
    | refine OrdF.all [2] (by decide +kernel) ?_
    | refine OrdF.all [11] (by decide +kernel) ?_
    | refine OrdF.all [4, 11] (by decide +kernel) ?_
    | refine OrdF.all [2, 11] (by decide +kernel) ?_
    | refine OrdF.all [5] (by decide +kernel) ?_
    | refine OrdF.all [4, 5] (by decide +kernel) ?_
    | refine OrdF.all [2, 5] (by decide +kernel) ?_
    | refine OrdF.all [10] (by decide +kernel) ?_
    | refine OrdF.all [4, 10] (by decide +kernel) ?_
    | refine OrdF.all [2, 10] (by decide +kernel) ?_
    | refine OrdF.all [5, 10] (by decide +kernel) ?_
    | refine OrdF.all [4, 5, 10] (by decide +kernel) ?_
    | refine OrdF.all [2, 5, 10] (by decide +kernel) ?_
    | refine OrdF.all [8] (by decide +kernel) ?_
    | refine OrdF.all [4, 8] (by decide +kernel) ?_
    | refine OrdF.all [2, 8] (by decide +kernel) ?_
    | refine OrdF.all [5, 8] (by decide +kernel) ?_
    | refine OrdF.all [4, 5, 8] (by decide +kernel) ?_
    | refine OrdF.all [2, 5, 8] (by decide +kernel) ?_
    | refine OrdF.fin (by decide +kernel) ?_
    | refine AllF.one _ ?_
    | refine AllF.cons _ _ ?_ ?_
    | refine MkF.row ?_
    | refine EqP.mk _ (gm eI 0 rfl) ?_
    | refine EqP.mk _ (gmb GFan.cells default (by omega)) ?_
    | refine BndF.mk (fun _ => by omega) ?_
    | refine BndF.mk (fun _ => by simp only [List.length_map, List.length_cons, List.length_nil, List.length_append, List.length_set, List.length_replicate, iotaI_len]; omega) ?_
    | refine EqI.mk _ (fun _ => wrapI (by omega) (by omega)) ?_
    | refine EqI.mk _ (fun _ => rfl) ?_
    | refine EqN.mk _ (ln eI) ?_
    | refine EqN.mk _ (ln GFan.cells) ?_
    | refine EqN.mk _ (Nat.zero_add _) ?_
    | refine EqN.mk _ (Int.toNat_natCast _) ?_
    | refine EqN.mk _ rfl ?_
    | refine EqL.mk _ (tk eI (by first | rfl | assumption | omega | (simp only [List.length_map, List.length_cons, List.length_nil, List.length_append, List.length_set, List.length_replicate, iotaI_len]; done) | (simp only [List.length_map, List.length_cons, List.length_nil, List.length_append, List.length_set, List.length_replicate, iotaI_len]; omega))) ?_
    | refine EqL.mk _ (st eI) ?_
    | refine EqL.mk _ (dt eI) ?_
    | refine EqL.mk _ (tk GFan.cells (by first | rfl | assumption | omega | (simp only [List.length_map, List.length_cons, List.length_nil, List.length_append, List.length_set, List.length_replicate, iotaI_len]; done) | (simp only [List.length_map, List.length_cons, List.length_nil, List.length_append, List.length_set, List.length_replicate, iotaI_len]; omega))) ?_
    | refine EqL.mk _ (st GFan.cells) ?_
    | refine EqL.mk _ (dt GFan.cells) ?_
    | refine EqL.mk [] rfl ?_
    | refine EqL.mk [_] rfl ?_
    | refine EqL.mk _ rfl ?_
    | refine ArgF.is (c_slices_Clone_int64_int64 _ (by first | assumption | omega)) ?_
    | refine ArgQ.is (fun hG => c_slices_Clone_int64_int64 _ (by first | assumption | omega)) rfl rfl ?_
    | refine ArgF.is (c_impl_Fan_pressure ⟨_, _, _⟩ _ (by first | assumption | omega) (by first | assumption | omega)) ?_
    | refine ArgQ.is (fun hG => c_impl_Fan_pressure ⟨_, _, _⟩ _ (by first | assumption | omega) (by first | assumption | omega)) rfl rfl ?_
    | refine CallF.mk (CallW.is [] true rfl ?_)
    | refine CallG.mk ?_
    | (refine CondF.mk (fun hb => ?_) (fun hb => ?_) <;> try simp only [forall_const, eq_self, not_true_eq_false, not_false_eq_true, or_false, false_or, or_self, or_true, true_or, and_true, true_and, and_false, false_and, decide_true, decide_false, Bool.not_true, Bool.not_false, decide_eq_true_eq, decide_eq_false_iff_not, ite_and_p, ite_or_p, Bool.decide_eq_true, Bool.and_eq_true, Bool.or_eq_true, Bool.not_eq_true', Bool.not_eq_false', Bool.and_eq_false_imp, Bool.or_eq_false_iff, bne_iff_ne, beq_iff_eq, bne_eq_false_iff_eq, beq_eq_false_iff_ne, gt_iff_lt, ge_iff_le, Int.not_lt, Int.not_le, ne_eq, Bool.true_eq_false, Bool.false_eq_true, reduceCtorEq, eta_Airway, eta_Fan, eta_Mine] at hb)
    | apply BackF.auto2
    | refine BackB.mk ?_ ?_
    | refine RetF.auto (And.intro rfl ?_)
    | exact Is.mk rfl rfl
    | refine Is.mk ?_ rfl
    | refine Is.mk rfl ?_
    | refine Is.mk ?_ ?_
  all_goals try dsimp only
  all_goals first
    | omega
    | exact ⟨by omega, by omega, rfl, hdl⟩
    | exact ⟨by omega, by omega, by rw [i2]; exact (psL_s i0 (by assumption)).symm, by rw [List.length_set]; exact i3⟩
    | rw [hdl]
    | (rw [i2, show i.toNat = fs.length by omega, List.take_length]; rfl)
    | skip
end Go.Proofs.Ytfcnlpghdpfjkaa

