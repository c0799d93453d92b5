/- Contracts of functions of the program, and what they compute. Conditions: those that each theorem states. -/
import Derived.Test.YtpckcolkehgdaaaProg
import Derived.Test.YtpckcolkehgdaaaX2
import Derived.Test.YtpckcolkehgdaaaQ7
set_option linter.unusedVariables false
set_option linter.unusedSimpArgs false
namespace Go.Proofs.Ytpckcolkehgdaaa
open Go.Av
attribute [local irreducible] Go.IntKind.wrap leastI rdZ rd rootI rawA okMine rdT rdK stT rxD
set_option maxRecDepth 20000
set_option maxHeartbeats 8000000

/-! Times of walks: the reference's functions. -/
theorem c_spec_l20Speed (sp : Int) : FnSem Try.prog 77 [In sp] [] (Is [Bo (inR sp 10 300)] []) := by
  refine FnSem.walk (zs := zeroPV Try.prog) (by kernel_rfl) Try.func77 rfl Try.results77 (by kernel_rfl) (by kernel_rfl) (by kernel_rfl) fun hw hh => ?_
  obtain ⟨w0, _⟩ := hw
  first | replace w0 := wf_I w0 | skip
  repeat' first
    | refine And.intro rfl ?_
    | refine GdF.mk (fun h => h) ?_
    | refine And.intro (Nat.succ_ne_zero _) ?_
    | refine And.intro (Nat.le_of_ble_eq_true rfl) ?_
    | refine SeqF.run ?_
    | refine GhF.go ?_
    | refine BndF.mk (fun _ => by omega) ?_
    | refine BndF.mk (fun _ => by simp only [List.length_map, List.length_cons, List.length_nil, List.length_append, List.length_set, List.length_replicate, iotaI_len]; omega) ?_
    | refine EqL.mk [] rfl ?_
    | refine EqL.mk [_] rfl ?_
    | refine EqL.mk _ rfl ?_
    | refine ArgF.is (c_spec_l00In ..) ?_
    | refine ArgQ.is (fun hG => c_spec_l00In ..) rfl rfl ?_
    | refine CallF.mk (CallW.is [] true rfl ?_)
    | refine CallG.mk ?_
    | (refine CondF.mk (fun hb => ?_) (fun hb => ?_) <;> try simp only [forall_const, eq_self, not_true_eq_false, not_false_eq_true, or_false, false_or, or_self, or_true, true_or, and_true, true_and, and_false, false_and, decide_true, decide_false, Bool.not_true, Bool.not_false, decide_eq_true_eq, decide_eq_false_iff_not, ite_and_p, ite_or_p, Bool.decide_eq_true, Bool.and_eq_true, Bool.or_eq_true, Bool.not_eq_true', Bool.not_eq_false', Bool.and_eq_false_imp, Bool.or_eq_false_iff, bne_iff_ne, beq_iff_eq, bne_eq_false_iff_eq, beq_eq_false_iff_ne, gt_iff_lt, ge_iff_le, Int.not_lt, Int.not_le, ne_eq, Bool.true_eq_false, Bool.false_eq_true, reduceCtorEq, eta_Airway, eta_Fan, eta_Mine] at hb)
    | refine RetF.auto (And.intro rfl ?_)
    | exact Is.mk rfl rfl
    | refine Is.mk ?_ rfl
    | refine Is.mk rfl ?_
    | refine Is.mk ?_ ?_
theorem c_spec_l19Walk (x : GAirway) (sp : Int) (hx : okAirway x = true) (hs : 10 ≤ sp ∧ sp ≤ 300) : FnSem Try.prog 174 [.p .any (.ref x.cells), In sp] [] (Is [In ((100 * x.length + sp - 1) / sp)] []) := by
  have q := (okAirway_b hx).2.2.2.1
  refine FnSem.walk (zs := zeroPV Try.prog) (by kernel_rfl) Try.func174 rfl Try.results174 (by kernel_rfl) (by kernel_rfl) (by kernel_rfl) fun hw hh => ?_
  obtain ⟨w0, w1, _⟩ := hw
  first | replace w0 := wfr_Airway w0 | skip
  first | replace w1 := wf_I w1 | skip
  repeat' first
    | refine And.intro rfl ?_
    | refine GdF.mk (fun h => h) ?_
    | refine And.intro (Nat.succ_ne_zero _) ?_
    | refine And.intro (Nat.le_of_ble_eq_true rfl) ?_
    | refine SeqF.run ?_
    | refine EqI.mk ((100 * x.length + sp - 1) / sp) (fun _ => divU (by omega) (by omega)) ?_
    | refine GhF.go ?_
    | refine BndF.mk (fun _ => by omega) ?_
    | refine BndF.mk (fun _ => by simp only [List.length_map, List.length_cons, List.length_nil, List.length_append, List.length_set, List.length_replicate, iotaI_len]; omega) ?_
    | refine EqI.mk _ (fun _ => wrapI (by omega) (by omega)) ?_
    | refine EqI.mk _ (fun _ => wrapD (by omega) (by omega) (by omega)) ?_
    | refine EqI.mk _ (fun _ => rfl) ?_
    | (refine CondF.mk (fun hb => ?_) (fun hb => ?_) <;> try simp only [forall_const, eq_self, not_true_eq_false, not_false_eq_true, or_false, false_or, or_self, or_true, true_or, and_true, true_and, and_false, false_and, decide_true, decide_false, Bool.not_true, Bool.not_false, decide_eq_true_eq, decide_eq_false_iff_not, ite_and_p, ite_or_p, Bool.decide_eq_true, Bool.and_eq_true, Bool.or_eq_true, Bool.not_eq_true', Bool.not_eq_false', Bool.and_eq_false_imp, Bool.or_eq_false_iff, bne_iff_ne, beq_iff_eq, bne_eq_false_iff_eq, beq_eq_false_iff_ne, gt_iff_lt, ge_iff_le, Int.not_lt, Int.not_le, ne_eq, Bool.true_eq_false, Bool.false_eq_true, reduceCtorEq, eta_Airway, eta_Fan, eta_Mine] at hb)
    | refine RetF.auto (And.intro rfl ?_)
    | exact Is.mk rfl rfl
    | refine Is.mk ?_ rfl
    | refine Is.mk rfl ?_
    | refine Is.mk ?_ ?_
section
variable {m : GMine} {w : Nat → Int}
theorem p0_ext {i s : Int} {xs : List Int} (hi : (m.junctions : Int) ≤ i) (h1 : i ≤ m.junctions) (hx : xs = List.replicate i.toNat (-1)) : xs.set s.toNat 0 = p0T m s := by
  unfold p0T; rw [hx, show i.toNat = m.junctions.toNat by omega]
theorem rep_s {i : Int} (h : 0 ≤ i) : List.replicate i.toNat (-1 : Int) ++ [-1] = List.replicate (i + 1).toNat (-1) := by
  rw [show (i + 1).toNat = i.toNat + 1 by omega, List.replicate_succ']
theorem rdK_s2 {s : Int} {k : Int} {p q : List Int} {i : Int} (hk : 0 ≤ k) (k0 : p = rdK m w k.toNat (p0T m s)) (i1 : i ≤ m.airways.length) (hi : (m.airways.length : Int) ≤ i) (i2 : q = (rdT m w i.toNat p).1) : q = rdK m w (k + 1).toNat (p0T m s) := by
  rw [show (k + 1).toNat = k.toNat + 1 by omega, rdK_s, ← k0, i2, show i.toNat = m.airways.length by omega]
theorem repL {xs : List Int} {n : Nat} (h : xs = List.replicate n (-1)) : xs.length = n := by rw [h]; simp
def sB (q : List Int) : Prop := ∀ j : Nat, -1 ≤ q.getD j 0 ∧ q.getD j 0 ≤ 95000000
theorem sB_0 {s : Int} {k : Nat} {p : List Int} (h : ∀ j : Nat, -1 ≤ (rdT m w 0 (rdK m w k (p0T m s))).1.getD j 0 ∧ (rdT m w 0 (rdK m w k (p0T m s))).1.getD j 0 ≤ 95000000) (hp : p = rdK m w k (p0T m s)) : sB p := fun j => by
  have e := h j
  rw [← hp, show rdT m w 0 p = (p, false) from (rdT_0 (m := m) (w := w)).symm] at e
  exact e
theorem sB_s {s : Int} {k n : Nat} {p q : List Int} (h : ∀ j : Nat, -1 ≤ (rdT m w n (rdK m w k (p0T m s))).1.getD j 0 ∧ (rdT m w n (rdK m w k (p0T m s))).1.getD j 0 ≤ 95000000) (hp : p = rdK m w k (p0T m s)) (hq : q = (rdT m w n p).1) : sB q := fun j => by
  have e := h j
  rw [← hp, ← hq] at e
  exact e
theorem wrB {q : List Int} {n : Int} {k : Nat} (h : sB q) (hn : 0 ≤ n ∧ n ≤ 100000) : Go.IntKind.i64.wrap (q.getD k 0 + n) = q.getD k 0 + n := by
  have := h k
  exact wrapI (by omega) (by omega)
theorem wrB2 {q : List Int} {n : Int} {k l k' : Nat} (h : sB q) (hn : 0 ≤ n ∧ n ≤ 100000) : Go.IntKind.i64.wrap ((q.set k' (q.getD l 0 + n)).getD k 0 + n) = (q.set k' (q.getD l 0 + n)).getD k 0 + n := by
  have h1 := h k
  have h2 := h l
  rw [gdSet]
  split <;> exact wrapI (by omega) (by omega)
theorem rx1_t {n a b : Int} {q : List Int} (hb : 0 ≤ q.getD a.toNat 0 ∧ (q.getD b.toNat 0 < 0 ∨ q.getD a.toNat 0 + n < q.getD b.toNat 0)) : q.set b.toNat (q.getD a.toNat 0 + n) = (rxD n a b (q, false)).1 := by
  rw [← rxD_t (s := (q, false)) hb]
theorem rx1_f {n a b : Int} {q : List Int} (hb : ¬(0 ≤ q.getD a.toNat 0 ∧ (q.getD b.toNat 0 < 0 ∨ q.getD a.toNat 0 + n < q.getD b.toNat 0))) : q = (rxD n a b (q, false)).1 := by
  rw [← rxD_f (s := (q, false)) hb]
theorem rx1_g {n a b : Int} {q : List Int} (hb : 0 ≤ q.getD a.toNat 0 → 0 ≤ q.getD b.toNat 0 ∧ q.getD b.toNat 0 ≤ q.getD a.toNat 0 + n) : q = (rxD n a b (q, false)).1 := rx1_f fun h => by have := hb h.1; omega
theorem rxD_1 {n a b : Int} {s : List Int × Bool} : (rxD n a b s).1 = (rxD n a b (s.1, false)).1 := by
  by_cases h : 0 ≤ s.1.getD a.toNat 0 ∧ (s.1.getD b.toNat 0 < 0 ∨ s.1.getD a.toNat 0 + n < s.1.getD b.toNat 0)
  · rw [← rxD_t h, ← rxD_t (s := (s.1, false)) h]
  · rw [← rxD_f h, ← rxD_f (s := (s.1, false)) h]
theorem wk_s {i : Int} {p q r r2 : List Int} (i0 : 0 ≤ i) (i2 : q = (rdT m w i.toNat p).1) (h1 : r = (rxD (w i.toNat) (m.airways.getD i.toNat default).from_ (m.airways.getD i.toNat default).to (q, false)).1) (h2 : r2 = (rxD (w i.toNat) (m.airways.getD i.toNat default).to (m.airways.getD i.toNat default).from_ (r, false)).1) : r2 = (rdT m w (i + 1).toNat p).1 := by
  rw [rdT_s i0]
  have e : stT m w i.toNat (rdT m w i.toNat p) = rxD (w i.toNat) (m.airways.getD i.toNat default).to (m.airways.getD i.toNat default).from_ (rxD (w i.toNat) (m.airways.getD i.toNat default).from_ (m.airways.getD i.toNat default).to (rdT m w i.toNat p)) := by unfold stT; rfl
  rw [e, rxD_1, rxD_1 (s := rdT m w i.toNat p), ← i2, ← h1, ← h2]
end
theorem c_spec_l20Walks (m : GMine) (s sp : Int) (hm : okMine m = true) (hs : inV m s) (hsp : 10 ≤ sp ∧ sp ≤ 300) : FnSem Try.prog 79 [.p .any (.ref m.cells), In s, In sp] [] (Is [.osl 0 0 m.junctions.toNat] [Rw .flat (eI 0) ((tmI m sp s).map eI)]) := by
  have hmp := okMine_p hm
  have hw := wTm_b hm hsp
  have hV := fun (i : Int) (h0 : 0 ≤ i) (hi : i < m.airways.length) => edV hm (show i.toNat < m.airways.length by omega)
  unfold inV at hV
  have hs' := hs
  unfold inV at hs'
  have hB := fun (k i : Nat) (hk : k ≤ 18) (hi : i ≤ m.airways.length) => tm_bd hm hw (s := s) hk hi
  refine FnSem.walk (zs := zeroPV Try.prog) (by kernel_rfl) Try.func79 rfl Try.results79 (by kernel_rfl) (by kernel_rfl) (by kernel_rfl) fun hw hh => ?_
  obtain ⟨w0, w1, w2, _⟩ := hw
  first | replace w0 := wfr_Mine w0 | skip
  first | replace w1 := wf_I w1 | skip
  first | replace w2 := wf_I w2 | skip
  repeat' first
    | refine And.intro rfl ?_
    | refine GdF.mk (fun h => h) ?_
    | refine And.intro (Nat.succ_ne_zero _) ?_
    | refine And.intro (Nat.le_of_ble_eq_true rfl) ?_
    | refine SeqF.run ?_
    | refine ArgF.is (c_spec_l19Walk (m.airways.getD i.toNat default) sp (hmp.2.2 i.toNat (by omega)).1 hsp) ?_
    | refine ArgQ.is (fun hG => c_spec_l19Walk (m.airways.getD i.toNat default) sp (hmp.2.2 i.toNat (by omega)).1 hsp) rfl rfl ?_
    | refine LoopF.at 3 rfl (LoopF.fix [0, 1, 2] (Int × Nat × List Int) (fun (a, n, xs) => 0 ≤ a ∧ a ≤ m.junctions ∧ n = xs.length ∧ xs = List.replicate a.toNat (-1)) (fun (a, n, xs) => [(7, .osl 0 0 n), (8, In a)]) (fun (a, n, xs) => [(0, Rw .flat (eI 0) (xs.map eI))]) (fun (a, n, xs) => ((m.junctions - a).toNat)) ((0, 0, [])) ?_)
    | (refine LoopB.of (T := Int × Nat × List Int) ?_ ?_; rotate_left; rintro ⟨a, n, xs⟩ ⟨h0, h1, h2, h3⟩; rotate_left)
    | refine LoopF.at 8 rfl (LoopF.fix [0, 2, 7] (Int × List Int) (fun (k, p) => 0 ≤ k ∧ k ≤ m.junctions ∧ p = rdK m (wTm m sp) k.toNat (p0T m s) ∧ p.length = m.junctions.toNat) (fun (k, p) => [(9, In k)]) (fun (k, p) => [(0, Rw .flat (eI 0) (p.map eI))]) (fun (k, p) => ((m.junctions - k).toNat)) ((0, xs.set s.toNat 0)) ?_)
    | (refine LoopB.of (T := Int × List Int) ?_ ?_; rotate_left; rintro ⟨k, p⟩ ⟨k0, k1, k2, k3⟩; rotate_left)
    | refine LoopF.at 11 rfl (LoopF.fix [0, 2, 7, 9] (Int × List Int × Unit) (fun (i, q, _) => 0 ≤ i ∧ i ≤ m.airways.length ∧ q = (rdT m (wTm m sp) i.toNat p).1 ∧ q.length = m.junctions.toNat ∧ sB q) (fun (i, q, _) => [(10, In i)]) (fun (i, q, _) => [(0, Rw .flat (eI 0) (q.map eI))]) (fun (i, q, _) => ((m.airways.length - i).toNat)) ((0, p, ())) ?_)
    | (refine LoopB.of (T := Int × List Int × Unit) ?_ ?_; rotate_left; rintro ⟨i, q, _⟩ ⟨i0, i1, i2, i3, i4⟩; rotate_left)
    | refine BndF.mk (fun _ => by have q := repL h3; first | omega | (rw [List.length_map]; omega)) ?_
    | refine BndF.mk (fun _ => by have e := hV i i0 (by assumption); have q := repL h3; first | omega | (simp only [List.length_map, List.length_set]; omega)) ?_
    | refine EqI.mk _ (fun _ => wrB i4 (hw i.toNat (by omega))) ?_
    | refine EqI.mk _ (fun _ => wrB2 i4 (hw i.toNat (by omega))) ?_
    | refine GhF.go ?_
    | refine GdS.keep ?_
    | refine DrawG.old (DrawF.lex (by decide +kernel) ?_)
    | refine MkF.row ?_
    | refine EqP.mk _ (gm eI 0 rfl) ?_
    | refine EqP.mk _ (gm GAirway.cells default rfl) ?_
    | refine BndF.mk (fun _ => by omega) ?_
    | refine BndF.mk (fun _ => by simp only [List.length_map, List.length_cons, List.length_nil, List.length_append, List.length_set, List.length_replicate, iotaI_len]; omega) ?_
    | refine BndF.mk (fun hG => by simp only [forall_const, eq_self, not_true_eq_false, not_false_eq_true, or_false, false_or, or_self, or_true, true_or, and_true, true_and, and_false, false_and, decide_true, decide_false, Bool.not_true, Bool.not_false, decide_eq_true_eq, decide_eq_false_iff_not, ite_and_p, ite_or_p, Bool.decide_eq_true, Bool.and_eq_true, Bool.or_eq_true, Bool.not_eq_true', Bool.not_eq_false', Bool.and_eq_false_imp, Bool.or_eq_false_iff, bne_iff_ne, beq_iff_eq, bne_eq_false_iff_eq, beq_eq_false_iff_ne, gt_iff_lt, ge_iff_le, Int.not_lt, Int.not_le, ne_eq, Bool.true_eq_false, Bool.false_eq_true, reduceCtorEq, eta_Airway, eta_Fan, eta_Mine, bytes_nil] at hG; (try simp only [List.length_map]); omega) ?_
    | refine EqI.mk _ (fun _ => wrapI (by omega) (by omega)) ?_
    | refine EqI.mk _ (fun _ => rfl) ?_
    | refine FlF.keep ?_
    | refine EqN.mk _ (ln eI) ?_
    | refine EqN.mk _ (ln GAirway.cells) ?_
    | refine EqN.mk _ (Nat.zero_add _) ?_
    | refine EqN.mk (_ + 1) rfl ?_
    | refine EqN.mk _ (Int.toNat_natCast _) ?_
    | refine EqN.mk _ rfl ?_
    | refine EqL.mk _ (sn0 eI) ?_
    | refine EqL.mk _ (sn eI (by first | rfl | assumption | omega | (simp only [List.length_map, List.length_cons, List.length_nil, List.length_append, List.length_set, List.length_replicate, iotaI_len]; done) | (simp only [List.length_map, List.length_cons, List.length_nil, List.length_append, List.length_set, List.length_replicate, iotaI_len]; omega))) ?_
    | refine EqL.mk _ (ap0 eI) ?_
    | refine EqL.mk _ (ap eI (by first | rfl | assumption | omega | (simp only [List.length_map, List.length_cons, List.length_nil, List.length_append, List.length_set, List.length_replicate, iotaI_len]; done) | (simp only [List.length_map, List.length_cons, List.length_nil, List.length_append, List.length_set, List.length_replicate, iotaI_len]; omega))) ?_
    | refine EqL.mk _ (tk eI (by first | rfl | assumption | omega | (simp only [List.length_map, List.length_cons, List.length_nil, List.length_append, List.length_set, List.length_replicate, iotaI_len]; done) | (simp only [List.length_map, List.length_cons, List.length_nil, List.length_append, List.length_set, List.length_replicate, iotaI_len]; omega))) ?_
    | refine EqL.mk _ (st eI) ?_
    | refine EqL.mk _ (dt eI) ?_
    | refine EqL.mk _ (sn0 GAirway.cells) ?_
    | refine EqL.mk _ (sn GAirway.cells (by first | rfl | assumption | omega | (simp only [List.length_map, List.length_cons, List.length_nil, List.length_append, List.length_set, List.length_replicate, iotaI_len]; done) | (simp only [List.length_map, List.length_cons, List.length_nil, List.length_append, List.length_set, List.length_replicate, iotaI_len]; omega))) ?_
    | refine EqL.mk _ (ap0 GAirway.cells) ?_
    | refine EqL.mk _ (ap GAirway.cells (by first | rfl | assumption | omega | (simp only [List.length_map, List.length_cons, List.length_nil, List.length_append, List.length_set, List.length_replicate, iotaI_len]; done) | (simp only [List.length_map, List.length_cons, List.length_nil, List.length_append, List.length_set, List.length_replicate, iotaI_len]; omega))) ?_
    | refine EqL.mk _ (tk GAirway.cells (by first | rfl | assumption | omega | (simp only [List.length_map, List.length_cons, List.length_nil, List.length_append, List.length_set, List.length_replicate, iotaI_len]; done) | (simp only [List.length_map, List.length_cons, List.length_nil, List.length_append, List.length_set, List.length_replicate, iotaI_len]; omega))) ?_
    | refine EqL.mk _ (st GAirway.cells) ?_
    | refine EqL.mk _ (dt GAirway.cells) ?_
    | refine EqL.mk [] rfl ?_
    | refine EqL.mk [_] rfl ?_
    | refine EqL.mk _ rfl ?_
    | refine ArgF.is (c_spec_l19Walk ⟨_, _, _, _, _, _, _⟩ _ (by first | assumption | omega) (by first | assumption | omega)) ?_
    | refine ArgQ.is (fun hG => c_spec_l19Walk ⟨_, _, _, _, _, _, _⟩ _ (by first | assumption | omega) (by first | assumption | omega)) rfl rfl ?_
    | refine ArgQ.is (fun hG => c_spec_l19Walk ⟨_, _, _, _, _, _, _⟩ _ (by simp only [forall_const, eq_self, not_true_eq_false, not_false_eq_true, or_false, false_or, or_self, or_true, true_or, and_true, true_and, and_false, false_and, decide_true, decide_false, Bool.not_true, Bool.not_false, decide_eq_true_eq, decide_eq_false_iff_not, ite_and_p, ite_or_p, Bool.decide_eq_true, Bool.and_eq_true, Bool.or_eq_true, Bool.not_eq_true', Bool.not_eq_false', Bool.and_eq_false_imp, Bool.or_eq_false_iff, bne_iff_ne, beq_iff_eq, bne_eq_false_iff_eq, beq_eq_false_iff_ne, gt_iff_lt, ge_iff_le, Int.not_lt, Int.not_le, ne_eq, Bool.true_eq_false, Bool.false_eq_true, reduceCtorEq, eta_Airway, eta_Fan, eta_Mine, bytes_nil] at hG; omega) (by simp only [forall_const, eq_self, not_true_eq_false, not_false_eq_true, or_false, false_or, or_self, or_true, true_or, and_true, true_and, and_false, false_and, decide_true, decide_false, Bool.not_true, Bool.not_false, decide_eq_true_eq, decide_eq_false_iff_not, ite_and_p, ite_or_p, Bool.decide_eq_true, Bool.and_eq_true, Bool.or_eq_true, Bool.not_eq_true', Bool.not_eq_false', Bool.and_eq_false_imp, Bool.or_eq_false_iff, bne_iff_ne, beq_iff_eq, bne_eq_false_iff_eq, beq_eq_false_iff_ne, gt_iff_lt, ge_iff_le, Int.not_lt, Int.not_le, ne_eq, Bool.true_eq_false, Bool.false_eq_true, reduceCtorEq, eta_Airway, eta_Fan, eta_Mine, bytes_nil] at hG; omega)) rfl rfl ?_
    | refine CallF.mk (CallW.is [] true rfl ?_)
    | refine CallG.mk ?_
    | (refine CondF.mk (fun hb => ?_) (fun hb => ?_) <;> try simp only [forall_const, eq_self, not_true_eq_false, not_false_eq_true, or_false, false_or, or_self, or_true, true_or, and_true, true_and, and_false, false_and, decide_true, decide_false, Bool.not_true, Bool.not_false, decide_eq_true_eq, decide_eq_false_iff_not, ite_and_p, ite_or_p, Bool.decide_eq_true, Bool.and_eq_true, Bool.or_eq_true, Bool.not_eq_true', Bool.not_eq_false', Bool.and_eq_false_imp, Bool.or_eq_false_iff, bne_iff_ne, beq_iff_eq, bne_eq_false_iff_eq, beq_eq_false_iff_ne, gt_iff_lt, ge_iff_le, Int.not_lt, Int.not_le, ne_eq, Bool.true_eq_false, Bool.false_eq_true, reduceCtorEq, eta_Airway, eta_Fan, eta_Mine] at hb)
    | apply BackF.auto3
    | apply BackF.auto2
    | refine BackB.mk ?_ ?_
    | refine RetF.auto (And.intro rfl ?_)
    | exact Is.mk rfl rfl
    | refine Is.mk ?_ rfl
    | refine Is.mk rfl ?_
    | refine Is.mk ?_ ?_
  all_goals try dsimp only
  all_goals first
    | omega
    | exact ⟨by omega, by omega, rfl, rfl⟩
    | exact ⟨by omega, by omega, by simp [h2], by rw [h3]; exact rep_s h0⟩
    | (have q := repL h3
       rw [show n = m.junctions.toNat by omega])
    | exact ⟨Int.le_refl _, by omega, by rw [p0_ext (by assumption) h1 h3]; unfold rdK; rfl, by rw [List.length_set, repL h3]; omega⟩
    | exact ⟨by omega, by omega, by rw [← rdT_0], k3, sB_0 (hB k.toNat 0 (by omega) (by omega)) k2⟩
    | exact ⟨by omega, by omega, rdK_s2 k0 k2 i1 (by assumption) i2, i3⟩
    | (have e : p = tmI m sp s := by rw [k2, show k.toNat = m.junctions.toNat by omega]; rfl
       rw [e]; rfl)
    | (have e := wk_s (m := m) (w := wTm m sp) i0 i2 (rx1_t (by assumption)) (rx1_t hb); exact ⟨by omega, by omega, e, by first | exact i3 | (simp only [List.length_set]; exact i3), sB_s (hB k.toNat (i + 1).toNat (by omega) (by omega)) k2 e⟩)
    | (have e := wk_s (m := m) (w := wTm m sp) i0 i2 (rx1_t (by assumption)) (rx1_g hb); exact ⟨by omega, by omega, e, by first | exact i3 | (simp only [List.length_set]; exact i3), sB_s (hB k.toNat (i + 1).toNat (by omega) (by omega)) k2 e⟩)
    | (have e := wk_s (m := m) (w := wTm m sp) i0 i2 (rx1_g (by assumption)) (rx1_t hb); exact ⟨by omega, by omega, e, by first | exact i3 | (simp only [List.length_set]; exact i3), sB_s (hB k.toNat (i + 1).toNat (by omega) (by omega)) k2 e⟩)
    | (have e := wk_s (m := m) (w := wTm m sp) i0 i2 (rx1_g (by assumption)) (rx1_g hb); exact ⟨by omega, by omega, e, by first | exact i3 | (simp only [List.length_set]; exact i3), sB_s (hB k.toNat (i + 1).toNat (by omega) (by omega)) k2 e⟩)
    | skip
end Go.Proofs.Ytpckcolkehgdaaa
