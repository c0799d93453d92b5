/- Contracts of functions of the program, and what they compute. Conditions: those that each theorem states. -/
import Derived.Test.YtpckcolkehgdaaaProg
import Derived.Test.YtpckcolkehgdaaaX3
import Derived.Test.YtpckcolkehgdaaaG4
import Derived.Test.YtpckcolkehgdaaaK3
set_option linter.unusedVariables false
set_option linter.unusedSimpArgs false
namespace Go.Proofs.Ytpckcolkehgdaaa
open Go.Av
attribute [local irreducible] Go.IntKind.wrap leastI rdZ rd rootI rawA okMine rdT rdK stT rxD
set_option maxRecDepth 20000
set_option maxHeartbeats 8000000

/-! Times of walks: the program's functions. -/
theorem divU {a b : Int} (ha : 0 ≤ a ∧ a ≤ 1000000) (hb : 1 ≤ b ∧ b ≤ 300) : Go.IntKind.i64.wrap ((a + b - 1).tdiv b) = (a + b - 1) / b := by
  rw [Int.tdiv_eq_ediv_of_nonneg (by omega)]
  have h0 : 0 ≤ (a + b - 1) / b := Int.ediv_nonneg (by omega) (by omega)
  have h1 : (a + b - 1) / b ≤ a + b - 1 := Int.ediv_le_self _ (by omega)
  exact wrapI (by omega) (by omega)
theorem c_impl_divUp (a b : Int) (ha : 0 ≤ a ∧ a ≤ 1000000) (hb : 1 ≤ b ∧ b ≤ 300) : FnSem Try.prog 255 [In a, In b] [] (Is [In ((a + b - 1) / b)] []) := by
  refine FnSem.walk (zs := zeroPV Try.prog) (by kernel_rfl) Try.func255 rfl Try.results255 (by kernel_rfl) (by kernel_rfl) (by kernel_rfl) fun hw hh => ?_
  obtain ⟨w0, w1, _⟩ := hw
  first | replace w0 := wf_I w0 | skip
  first | replace w1 := wf_I w1 | skip
  repeat' first
    | refine And.intro rfl ?_
    | refine GdF.mk (fun h => h) ?_
    | refine And.intro (Nat.succ_ne_zero _) ?_
    | refine And.intro (Nat.le_of_ble_eq_true rfl) ?_
    | refine SeqF.run ?_
    | refine EqI.mk ((a + b - 1) / b) (fun _ => divU ha hb) ?_
    | refine GhF.go ?_
    | refine BndF.mk (fun _ => by omega) ?_
    | refine BndF.mk (fun _ => by simp only [List.length_map, List.length_cons, List.length_nil, List.length_append, List.length_set, List.length_replicate, iotaI_len]; omega) ?_
    | refine EqI.mk _ (fun _ => wrapI (by omega) (by omega)) ?_
    | refine EqI.mk _ (fun _ => wrapD (by omega) (by omega) (by omega)) ?_
    | refine EqI.mk _ (fun _ => rfl) ?_
    | (refine CondF.mk (fun hb => ?_) (fun hb => ?_) <;> try simp only [forall_const, eq_self, not_true_eq_false, not_false_eq_true, or_false, false_or, or_self, or_true, true_or, and_true, true_and, and_false, false_and, decide_true, decide_false, Bool.not_true, Bool.not_false, decide_eq_true_eq, decide_eq_false_iff_not, ite_and_p, ite_or_p, Bool.decide_eq_true, Bool.and_eq_true, Bool.or_eq_true, Bool.not_eq_true', Bool.not_eq_false', Bool.and_eq_false_imp, Bool.or_eq_false_iff, bne_iff_ne, beq_iff_eq, bne_eq_false_iff_eq, beq_eq_false_iff_ne, gt_iff_lt, ge_iff_le, Int.not_lt, Int.not_le, ne_eq, Bool.true_eq_false, Bool.false_eq_true, reduceCtorEq, eta_Airway, eta_Fan, eta_Mine] at hb)
    | refine RetF.auto (And.intro rfl ?_)
    | exact Is.mk rfl rfl
    | refine Is.mk ?_ rfl
    | refine Is.mk rfl ?_
    | refine Is.mk ?_ ?_
theorem c_impl_Airway_walkTime (x : GAirway) (sp : Int) (hx : okAirway x = true) (hs : 10 ≤ sp ∧ sp ≤ 300) : FnSem Try.prog 236 [.p .any (.agg x.cells), In sp] [] (Is [In ((100 * x.length + sp - 1) / sp)] []) := by
  have q := (okAirway_b hx).2.2.2.1
  refine FnSem.walk (zs := zeroPV Try.prog) (by kernel_rfl) Try.func236 rfl Try.results236 (by kernel_rfl) (by kernel_rfl) (by kernel_rfl) fun hw hh => ?_
  obtain ⟨w0, w1, _⟩ := hw
  first | replace w0 := wf_Airway w0 | skip
  first | replace w1 := wf_I w1 | skip
  repeat' first
    | refine And.intro rfl ?_
    | refine GdF.mk (fun h => h) ?_
    | refine And.intro (Nat.succ_ne_zero _) ?_
    | refine And.intro (Nat.le_of_ble_eq_true rfl) ?_
    | refine SeqF.run ?_
    | refine ArgF.is (c_impl_divUp (100 * x.length) sp (by omega) (by omega)) ?_
    | refine ArgQ.is (fun hG => c_impl_divUp (100 * x.length) sp (by omega) (by omega)) rfl rfl ?_
    | refine GhF.go ?_
    | refine BndF.mk (fun _ => by omega) ?_
    | refine BndF.mk (fun _ => by simp only [List.length_map, List.length_cons, List.length_nil, List.length_append, List.length_set, List.length_replicate, iotaI_len]; omega) ?_
    | refine EqI.mk _ (fun _ => wrapI (by omega) (by omega)) ?_
    | refine EqI.mk _ (fun _ => rfl) ?_
    | refine EqL.mk [] rfl ?_
    | refine EqL.mk [_] rfl ?_
    | refine EqL.mk _ rfl ?_
    | refine ArgF.is (c_impl_divUp _ _ (by first | assumption | omega) (by first | assumption | omega)) ?_
    | refine ArgQ.is (fun hG => c_impl_divUp _ _ (by first | assumption | omega) (by first | assumption | omega)) rfl rfl ?_
    | refine CallF.mk (CallW.is [] true rfl ?_)
    | refine CallG.mk ?_
    | (refine CondF.mk (fun hb => ?_) (fun hb => ?_) <;> try simp only [forall_const, eq_self, not_true_eq_false, not_false_eq_true, or_false, false_or, or_self, or_true, true_or, and_true, true_and, and_false, false_and, decide_true, decide_false, Bool.not_true, Bool.not_false, decide_eq_true_eq, decide_eq_false_iff_not, ite_and_p, ite_or_p, Bool.decide_eq_true, Bool.and_eq_true, Bool.or_eq_true, Bool.not_eq_true', Bool.not_eq_false', Bool.and_eq_false_imp, Bool.or_eq_false_iff, bne_iff_ne, beq_iff_eq, bne_eq_false_iff_eq, beq_eq_false_iff_ne, gt_iff_lt, ge_iff_le, Int.not_lt, Int.not_le, ne_eq, Bool.true_eq_false, Bool.false_eq_true, reduceCtorEq, eta_Airway, eta_Fan, eta_Mine] at hb)
    | refine RetF.auto (And.intro rfl ?_)
    | exact Is.mk rfl rfl
    | refine Is.mk ?_ rfl
    | refine Is.mk rfl ?_
    | refine Is.mk ?_ ?_
abbrev escC (m : GMine) (xs : List Int) (b : Int) : List PV := [.c (.int .i64 m.junctions), .lst (GAirway.cells default) (m.airways.map GAirway.cells), LI xs, .c (.int .i64 b)]
theorem repN {j n : Nat} (h : j < n) : (List.replicate n (-1 : Int)).getD j 0 = -1 := by
  rw [List.getD_eq_getElem?_getD, List.getElem?_replicate, if_pos h]; rfl
theorem c_impl_escape_mayBe (m : GMine) (n : Nat) (b j s : Int) (hj : 0 ≤ j ∧ j < n) : FnSem Try.prog 235 [.p .any (.agg (escC m (List.replicate n (-1)) b)), In j, In s] [] (Is [Bo true] []) := by
  have hr := repN (show j.toNat < n by omega)
  have hl : (List.replicate n (-1 : Int)).length = n := by simp
  refine FnSem.walk (zs := zeroPV Try.prog) (by kernel_rfl) Try.func235 rfl Try.results235 (by kernel_rfl) (by kernel_rfl) (by kernel_rfl) fun hw hh => ?_
  obtain ⟨w0, w1, w2, _⟩ := hw
  first | replace w0 := wf_Escape w0 | skip
  first | replace w1 := wf_I w1 | skip
  first | replace w2 := wf_I w2 | skip
  repeat' first
    | refine And.intro rfl ?_
    | refine GdF.mk (fun h => h) ?_
    | refine And.intro (Nat.succ_ne_zero _) ?_
    | refine And.intro (Nat.le_of_ble_eq_true rfl) ?_
    | refine SeqF.run ?_
    | refine GhF.go ?_
    | refine GdS.keep ?_
    | refine EqP.mk _ (gm eI 0 rfl) ?_
    | refine BndF.mk (fun _ => by omega) ?_
    | refine BndF.mk (fun _ => by simp only [List.length_map, List.length_cons, List.length_nil, List.length_append, List.length_set, List.length_replicate, iotaI_len]; omega) ?_
    | refine BndF.mk (fun hG => by simp only [forall_const, eq_self, not_true_eq_false, not_false_eq_true, or_false, false_or, or_self, or_true, true_or, and_true, true_and, and_false, false_and, decide_true, decide_false, Bool.not_true, Bool.not_false, decide_eq_true_eq, decide_eq_false_iff_not, ite_and_p, ite_or_p, Bool.decide_eq_true, Bool.and_eq_true, Bool.or_eq_true, Bool.not_eq_true', Bool.not_eq_false', Bool.and_eq_false_imp, Bool.or_eq_false_iff, bne_iff_ne, beq_iff_eq, bne_eq_false_iff_eq, beq_eq_false_iff_ne, gt_iff_lt, ge_iff_le, Int.not_lt, Int.not_le, ne_eq, Bool.true_eq_false, Bool.false_eq_true, reduceCtorEq, eta_Airway, eta_Fan, eta_Mine, bytes_nil] at hG; (try simp only [List.length_map]); omega) ?_
    | refine EqN.mk _ (Nat.zero_add _) ?_
    | refine EqN.mk _ (Int.toNat_natCast _) ?_
    | refine EqN.mk _ rfl ?_
    | (refine CondF.mk (fun hb => ?_) (fun hb => ?_) <;> try simp only [forall_const, eq_self, not_true_eq_false, not_false_eq_true, or_false, false_or, or_self, or_true, true_or, and_true, true_and, and_false, false_and, decide_true, decide_false, Bool.not_true, Bool.not_false, decide_eq_true_eq, decide_eq_false_iff_not, ite_and_p, ite_or_p, Bool.decide_eq_true, Bool.and_eq_true, Bool.or_eq_true, Bool.not_eq_true', Bool.not_eq_false', Bool.and_eq_false_imp, Bool.or_eq_false_iff, bne_iff_ne, beq_iff_eq, bne_eq_false_iff_eq, beq_eq_false_iff_ne, gt_iff_lt, ge_iff_le, Int.not_lt, Int.not_le, ne_eq, Bool.true_eq_false, Bool.false_eq_true, reduceCtorEq, eta_Airway, eta_Fan, eta_Mine] at hb)
    | refine RetF.auto (And.intro rfl ?_)
    | exact Is.mk rfl rfl
    | refine Is.mk ?_ rfl
    | refine Is.mk rfl ?_
    | refine Is.mk ?_ ?_
  all_goals
    rw [hr]
    rfl
section
variable {m : GMine} {w : Nat → Int}
theorem rdT_0 {p : List Int} : (p, false) = rdT m w (Int.toNat 0) p := by rw [Int.toNat_zero]; unfold rdT; rfl
theorem tm_0 {s : Int} {J : Int} (hJ : 1 ≤ J) : p0T m s = rdK m w 0 (p0T m s) ∧ (p0T m s).length = m.junctions.toNat ∧ ((0 : Nat) : Int) ≤ J + 1 ∧ (true = true → ((0 : Nat) : Int) ≤ J) ∧ (true = false → rdT m w m.airways.length (p0T m s) = (p0T m s, false)) := by
  refine ⟨by unfold rdK; rfl, p0_len, by omega, fun _ => by omega, fun h => by cases h⟩
theorem tm_s (hw : ∀ i : Nat, i < m.airways.length → 0 ≤ w i ∧ w i ≤ 100000) (hm : okMine m = true) {s : Int} (hs : inV m s) {k : Nat} {p q : List Int} {mo : Bool} {i : Int} (k0 : p = rdK m w k (p0T m s)) (k1 : p.length = m.junctions.toNat) (k2 : (k : Int) ≤ m.junctions) (i1 : i ≤ m.airways.length) (hi : (m.airways.length : Int) ≤ i) (i2 : (q, mo) = rdT m w i.toNat p) (i3 : q.length = m.junctions.toNat) :
    q = rdK m w (k + 1) (p0T m s) ∧ q.length = m.junctions.toNat ∧ ((k + 1 : Nat) : Int) ≤ m.junctions + 1 ∧ (mo = true → ((k + 1 : Nat) : Int) ≤ m.junctions) ∧ (mo = false → rdT m w m.airways.length q = (q, false)) := by
  rw [show i.toNat = m.airways.length by omega] at i2
  have hJ := (okMine_p hm).1
  refine ⟨?_, i3, by omega, fun h => ?_, fun h => ?_⟩
  · rw [rdK_s, ← k0, ← i2]
  · by_cases e : (k : Int) = m.junctions
    · have := rdK_J (w := w) hw hm hs
      rw [show m.junctions.toNat = k by omega, ← k0, ← i2, h] at this
      exact Bool.noConfusion (show true = false from congrArg Prod.snd this)
    · omega
  · subst h
    have := rdT_same (m := m) (w := w) (p := p) m.airways.length (by rw [← i2])
    rw [← i2] at this
    have e : q = p := congrArg Prod.fst this
    rw [e, ← i2, e]
theorem tm_e (hw : ∀ i : Nat, i < m.airways.length → 0 ≤ w i ∧ w i ≤ 100000) (hm : okMine m = true) {s : Int} (hs : inV m s) {k : Nat} {p : List Int} (k0 : p = rdK m w k (p0T m s)) (k2 : (k : Int) ≤ m.junctions + 1) (k4 : rdT m w m.airways.length p = (p, false)) : p = rdK m w m.junctions.toNat (p0T m s) := by
  rw [k0] at k4
  rw [k0, rdK_all hw hm hs k2 k4]
theorem rxD_t {n u v : Int} {s : List Int × Bool} (h : 0 ≤ s.1.getD u.toNat 0 ∧ (s.1.getD v.toNat 0 < 0 ∨ s.1.getD u.toNat 0 + n < s.1.getD v.toNat 0)) : (s.1.set v.toNat (s.1.getD u.toNat 0 + n), true) = rxD n u v s := by unfold rxD; rw [if_pos h]
theorem rxD_f {n u v : Int} {s : List Int × Bool} (h : ¬(0 ≤ s.1.getD u.toNat 0 ∧ (s.1.getD v.toNat 0 < 0 ∨ s.1.getD u.toNat 0 + n < s.1.getD v.toNat 0))) : s = rxD n u v s := by unfold rxD; rw [if_neg h]
/-- so many ways of one airway -/
def hfT (n a b : Int) (s : List Int × Bool) (j : Int) : List Int × Bool := if j ≤ 0 then s else if j = 1 then rxD n a b s else rxD n b a (rxD n a b s)
theorem hfT_s {n a b j : Int} {s : List Int × Bool} (h0 : 0 ≤ j) (h1 : j < 2) : hfT n a b s (j + 1) = rxD n (if j = 0 then a else b) (if j = 0 then b else a) (hfT n a b s j) := by
  unfold hfT
  by_cases e : j = 0
  · subst e; rfl
  · have : j = 1 := by omega
    subst this; rfl
theorem hfT_0 {n a b : Int} {s : List Int × Bool} {q : List Int} {mo : Bool} (h : (q, mo) = s) : (q, mo) = hfT n a b s 0 := by unfold hfT; rw [if_pos (Int.le_refl 0)]; exact h
theorem hfT_2 {i : Int} {j : Int} {s : List Int × Bool} (h : 2 ≤ j) : hfT (w i.toNat) (m.airways.getD i.toNat default).from_ (m.airways.getD i.toNat default).to s j = stT m w i.toNat s := by
  unfold hfT stT
  rw [if_neg (by omega), if_neg (by omega)]
theorem hfT_bd (hw : ∀ i : Nat, i < m.airways.length → 0 ≤ w i ∧ w i ≤ 100000) {B a b j : Int} {i : Nat} (hi : i < m.airways.length) {s : List Int × Bool} (h : ∀ j : Nat, -1 ≤ s.1.getD j 0 ∧ s.1.getD j 0 ≤ B) : ∀ k : Nat, -1 ≤ (hfT (w i) a b s j).1.getD k 0 ∧ (hfT (w i) a b s j).1.getD k 0 ≤ B + 200000 := by
  have h1 := rxD_bd (u := a) (v := b) (hw i hi) h
  have h2 := rxD_bd (u := b) (v := a) (hw i hi) h1
  intro k
  unfold hfT
  split
  · have := h k; omega
  · split
    · have := h1 k; omega
    · have := h2 k; omega
theorem hfT_len {n a b j : Int} {s : List Int × Bool} : (hfT n a b s j).1.length = s.1.length := by
  unfold hfT
  split
  · rfl
  · split <;> simp only [rxD_len]
theorem edJ (hm : okMine m = true) {i : Int} (h0 : 0 ≤ i) (hi : i < m.airways.length) (j : Int) : (0 ≤ (if j = 0 then (m.airways.getD i.toNat default).from_ else (m.airways.getD i.toNat default).to) ∧ (if j = 0 then (m.airways.getD i.toNat default).from_ else (m.airways.getD i.toNat default).to) < m.junctions.toNat) ∧ 0 ≤ (if j = 0 then (m.airways.getD i.toNat default).to else (m.airways.getD i.toNat default).from_) ∧ (if j = 0 then (m.airways.getD i.toNat default).to else (m.airways.getD i.toNat default).from_) < m.junctions.toNat := by
  have q := edV hm (show i.toNat < m.airways.length by omega)
  unfold inV at q
  split <;> omega
theorem hf_t {n a b j x : Int} {r : List Int} {mo : Bool} {s : List Int × Bool} (h0 : 0 ≤ j) (h1 : j < 2) (j2 : (r, mo) = hfT n a b s j) (hx : x = r.getD (if j = 0 then a else b).toNat 0 + n) (hb : 0 ≤ r.getD (if j = 0 then a else b).toNat 0 ∧ (r.getD (if j = 0 then b else a).toNat 0 < 0 ∨ x < r.getD (if j = 0 then b else a).toNat 0)) : (r.set (if j = 0 then b else a).toNat x, true) = hfT n a b s (j + 1) := by
  subst hx
  rw [hfT_s h0 h1, ← j2]
  exact rxD_t (s := (r, mo)) hb
theorem hf_f {n a b j x : Int} {r : List Int} {mo : Bool} {s : List Int × Bool} (h0 : 0 ≤ j) (h1 : j < 2) (j2 : (r, mo) = hfT n a b s j) (hx : x = r.getD (if j = 0 then a else b).toNat 0 + n) (hb : ¬(0 ≤ r.getD (if j = 0 then a else b).toNat 0 ∧ (r.getD (if j = 0 then b else a).toNat 0 < 0 ∨ x < r.getD (if j = 0 then b else a).toNat 0))) : (r, mo) = hfT n a b s (j + 1) := by
  subst hx
  rw [hfT_s h0 h1, ← j2]
  exact rxD_f (s := (r, mo)) hb
/-- all values on the way are small -/
theorem tm_bd (hm : okMine m = true) (hw : ∀ i : Nat, i < m.airways.length → 0 ≤ w i ∧ w i ≤ 100000) {s : Int} {k i : Nat} (hk : k ≤ 18) (hi : i ≤ m.airways.length) : ∀ j : Nat, -1 ≤ (rdT m w i (rdK m w k (p0T m s))).1.getD j 0 ∧ (rdT m w i (rdK m w k (p0T m s))).1.getD j 0 ≤ 95000000 := by
  intro j
  have hl := (okMine_p hm).2.1
  have := rdT_bd hw (rdK_bd hw hl (p := p0T m s) p0_bd k) i hi j
  omega
end
theorem pr2 {a b c d j : Int} (h0 : 0 ≤ j) (h1 : j < 2) : (([.c (.int .i64 a), .c (.int .i64 b), .c (.int .i64 c), .c (.int .i64 d)] : List PV).drop (j.toNat * 2)).take 2 = [.c (.int .i64 (if j = 0 then a else c)), .c (.int .i64 (if j = 0 then b else d))] := by
  by_cases e : j = 0
  · subst e; rfl
  · have : j = 1 := by omega
    subst this; rfl
theorem pairE {q : List Int} {b : Bool} {x : List Int × Bool} (h : (q, b) = x) : q = x.1 ∧ b = x.2 := by subst h; exact ⟨rfl, rfl⟩
theorem c_impl_escape_times (m : GMine) (id : ByteArray) (s sp : Int) (hm : okMine m = true) (hs : inV m s) (hsp : 10 ≤ sp ∧ sp ≤ 300) : FnSem Try.prog 180 [.p .any (.agg (escC m (List.replicate m.junctions.toNat (-1)) (-1))), .p .any (.agg [.c (.string id), .c (.int .i64 s), .c (.int .i64 sp)]), In 0] [] (Is [.osl 0 0 m.junctions.toNat] [Rw .flat (eI 0) ((tmI m sp s).map eI)]) := by
  have hmp := okMine_p hm
  have hw := wTm_b hm hsp
  have hV := fun (i : Int) (h0 : 0 ≤ i) (hi : i < m.airways.length) => edV hm (show i.toNat < m.airways.length by omega)
  have hs' := hs
  unfold inV at hs'
  have hB := fun (k i : Nat) (hk : k ≤ 18) (hi : i ≤ m.airways.length) => tm_bd hm hw (s := s) hk hi
  refine FnSem.walk (zs := zeroPV Try.prog) (by kernel_rfl) Try.func180 rfl Try.results180 (by kernel_rfl) (by kernel_rfl) (by kernel_rfl) fun hw hh => ?_
  obtain ⟨w0, w1, w2, _⟩ := hw
  first | replace w0 := wf_Escape w0 | skip
  first | replace w1 := wf_Crew w1 | skip
  first | replace w2 := wf_I w2 | skip
  repeat' first
    | refine And.intro rfl ?_
    | refine GdF.mk (fun h => h) ?_
    | refine And.intro (Nat.succ_ne_zero _) ?_
    | refine And.intro (Nat.le_of_ble_eq_true rfl) ?_
    | refine SeqF.run ?_
    | refine ArgF.is (c_slices_Repeat_int64_int64 (-1) m.junctions (by omega)) ?_
    | refine ArgQ.is (fun hG => c_slices_Repeat_int64_int64 (-1) m.junctions (by omega)) rfl rfl ?_
    | refine ArgF.is (c_impl_escape_mayBe m m.junctions.toNat _ _ _ (by first | omega | exact (edJ hm i0 (by assumption) j).2 | exact (edJ hm i0 (by assumption) j).1)) ?_
    | refine ArgQ.is (fun hG => c_impl_escape_mayBe m m.junctions.toNat _ _ _ (by first | omega | exact (edJ hm i0 (by assumption) j).2 | exact (edJ hm i0 (by assumption) j).1)) rfl rfl ?_
    | refine ArgF.is (c_impl_Airway_walkTime (m.airways.getD i.toNat default) sp (hmp.2.2 i.toNat (by omega)).1 hsp) ?_
    | refine ArgQ.is (fun hG => c_impl_Airway_walkTime (m.airways.getD i.toNat default) sp (hmp.2.2 i.toNat (by omega)).1 hsp) rfl rfl ?_
    | refine LoopF.at 6 rfl (LoopF.fix [3, 4, 7] (Nat × List Int × Bool) (fun (k, p, mo) => p = rdK m (wTm m sp) k (p0T m s) ∧ p.length = m.junctions.toNat ∧ (k : Int) ≤ m.junctions + 1 ∧ (mo = true → (k : Int) ≤ m.junctions) ∧ (mo = false → rdT m (wTm m sp) m.airways.length p = (p, false))) (fun (k, p, mo) => [(8, Bo mo)]) (fun (k, p, mo) => [(2, Rw .flat (eI 0) (p.map eI))]) (fun (k, p, mo) => ((m.junctions + 2 - k).toNat)) ((0, p0T m s, true)) ?_)
    | (refine LoopB.of (T := Nat × List Int × Bool) ?_ ?_; rotate_left; rintro ⟨k, p, mo⟩ ⟨k0, k1, k2, k3, k4⟩; rotate_left)
    | refine LoopF.at 9 rfl (LoopF.fix [3, 4, 7, 35, 36] (Int × List Int × Bool × Unit × Unit) (fun (i, q, mo2, _, _) => 0 ≤ i ∧ i ≤ m.airways.length ∧ (q, mo2) = rdT m (wTm m sp) i.toNat p ∧ q.length = m.junctions.toNat) (fun (i, q, mo2, _, _) => [(37, In i), (8, Bo mo2)]) (fun (i, q, mo2, _, _) => [(2, Rw .flat (eI 0) (q.map eI))]) (fun (i, q, mo2, _, _) => ((m.airways.length - i).toNat)) ((0, p, false, (), ())) ?_)
    | (refine LoopB.of (T := Int × List Int × Bool × Unit × Unit) ?_ ?_; rotate_left; rintro ⟨i, q, mo2, _, _⟩ ⟨i0, i1, i2, i3⟩; rotate_left)
    | refine LoopF.at 12 rfl (LoopF.fix [3, 4, 7, 9, 10, 35, 36, 37, 52] (Int × List Int × Bool × Unit) (fun (j, r, mo3, _) => 0 ≤ j ∧ j ≤ 2 ∧ (r, mo3) = hfT (wTm m sp i.toNat) (m.airways.getD i.toNat default).from_ (m.airways.getD i.toNat default).to (rdT m (wTm m sp) i.toNat p) j ∧ r.length = m.junctions.toNat) (fun (j, r, mo3, _) => [(53, In j), (8, Bo mo3)]) (fun (j, r, mo3, _) => [(2, Rw .flat (eI 0) (r.map eI))]) (fun (j, r, mo3, _) => ((2 - j).toNat)) ((0, q, mo2, ())) ?_)
    | (refine LoopB.of (T := Int × List Int × Bool × Unit) ?_ ?_; rotate_left; rintro ⟨j, r, mo3, _⟩ ⟨j0, j1, j2, j3⟩; rotate_left)
    | refine EqP.mk _ (pr2 j0 (by omega)) ?_
    | refine BndF.mk (fun _ => by have e := edJ hm i0 (by assumption) j; first | omega | (simp only [List.length_map]; omega)) ?_
    | refine EqI.mk _ (fun _ => by have e := hB k i.toNat (by omega) (by omega); have e2 := hfT_bd (w := wTm m sp) (a := (m.airways.getD i.toNat default).from_) (b := (m.airways.getD i.toNat default).to) (j := j) hw (show i.toNat < m.airways.length by omega) e; rw [k0, ← j2] at e2; have e3 := e2 (if j = 0 then (m.airways.getD i.toNat default).from_ else (m.airways.getD i.toNat default).to).toNat; have e4 := hw i.toNat (by omega); unfold wTm at e4; exact wrapI (by omega) (by omega)) ?_
    | refine BackF.auto (k + 1, q, mo2) ?_
    | refine GhF.go ?_
    | refine GdS.keep ?_
    | refine DrawG.old (DrawF.lex (by decide +kernel) ?_)
    | refine MkF.row ?_
    | refine EqP.mk _ (gm eI 0 rfl) ?_
    | refine EqP.mk _ (gm GAirway.cells default rfl) ?_
    | refine BndF.mk (fun _ => by omega) ?_
    | refine BndF.mk (fun _ => by simp only [List.length_map, List.length_cons, List.length_nil, List.length_append, List.length_set, List.length_replicate, iotaI_len]; omega) ?_
    | refine BndF.mk (fun hG => by simp only [forall_const, eq_self, not_true_eq_false, not_false_eq_true, or_false, false_or, or_self, or_true, true_or, and_true, true_and, and_false, false_and, decide_true, decide_false, Bool.not_true, Bool.not_false, decide_eq_true_eq, decide_eq_false_iff_not, ite_and_p, ite_or_p, Bool.decide_eq_true, Bool.and_eq_true, Bool.or_eq_true, Bool.not_eq_true', Bool.not_eq_false', Bool.and_eq_false_imp, Bool.or_eq_false_iff, bne_iff_ne, beq_iff_eq, bne_eq_false_iff_eq, beq_eq_false_iff_ne, gt_iff_lt, ge_iff_le, Int.not_lt, Int.not_le, ne_eq, Bool.true_eq_false, Bool.false_eq_true, reduceCtorEq, eta_Airway, eta_Fan, eta_Mine, bytes_nil] at hG; (try simp only [List.length_map]); omega) ?_
    | refine EqI.mk _ (fun _ => wrapI (by omega) (by omega)) ?_
    | refine EqI.mk _ (fun _ => rfl) ?_
    | refine EqN.mk _ (ln eI) ?_
    | refine EqN.mk _ (ln GAirway.cells) ?_
    | refine EqN.mk _ (Nat.zero_add _) ?_
    | refine EqN.mk _ (Int.toNat_natCast _) ?_
    | refine EqN.mk _ rfl ?_
    | refine EqL.mk _ (tk eI (by first | rfl | assumption | omega | (simp only [List.length_map, List.length_cons, List.length_nil, List.length_append, List.length_set, List.length_replicate, iotaI_len]; done) | (simp only [List.length_map, List.length_cons, List.length_nil, List.length_append, List.length_set, List.length_replicate, iotaI_len]; omega))) ?_
    | refine EqL.mk _ (st eI) ?_
    | refine EqL.mk _ (dt eI) ?_
    | refine EqL.mk _ (tk GAirway.cells (by first | rfl | assumption | omega | (simp only [List.length_map, List.length_cons, List.length_nil, List.length_append, List.length_set, List.length_replicate, iotaI_len]; done) | (simp only [List.length_map, List.length_cons, List.length_nil, List.length_append, List.length_set, List.length_replicate, iotaI_len]; omega))) ?_
    | refine EqL.mk _ (st GAirway.cells) ?_
    | refine EqL.mk _ (dt GAirway.cells) ?_
    | refine EqL.mk [] rfl ?_
    | refine EqL.mk [_] rfl ?_
    | refine EqL.mk _ rfl ?_
    | refine ArgF.is (c_slices_Repeat_int64_int64 _ _ (by first | assumption | omega)) ?_
    | refine ArgQ.is (fun hG => c_slices_Repeat_int64_int64 _ _ (by first | assumption | omega)) rfl rfl ?_
    | refine ArgQ.is (fun hG => c_slices_Repeat_int64_int64 _ _ (by simp only [forall_const, eq_self, not_true_eq_false, not_false_eq_true, or_false, false_or, or_self, or_true, true_or, and_true, true_and, and_false, false_and, decide_true, decide_false, Bool.not_true, Bool.not_false, decide_eq_true_eq, decide_eq_false_iff_not, ite_and_p, ite_or_p, Bool.decide_eq_true, Bool.and_eq_true, Bool.or_eq_true, Bool.not_eq_true', Bool.not_eq_false', Bool.and_eq_false_imp, Bool.or_eq_false_iff, bne_iff_ne, beq_iff_eq, bne_eq_false_iff_eq, beq_eq_false_iff_ne, gt_iff_lt, ge_iff_le, Int.not_lt, Int.not_le, ne_eq, Bool.true_eq_false, Bool.false_eq_true, reduceCtorEq, eta_Airway, eta_Fan, eta_Mine, bytes_nil] at hG; omega)) rfl rfl ?_
    | refine ArgF.is (c_impl_escape_mayBe ⟨_, _⟩ _ _ _ _ (by first | assumption | omega)) ?_
    | refine ArgQ.is (fun hG => c_impl_escape_mayBe ⟨_, _⟩ _ _ _ _ (by first | assumption | omega)) rfl rfl ?_
    | refine ArgQ.is (fun hG => c_impl_escape_mayBe ⟨_, _⟩ _ _ _ _ (by simp only [forall_const, eq_self, not_true_eq_false, not_false_eq_true, or_false, false_or, or_self, or_true, true_or, and_true, true_and, and_false, false_and, decide_true, decide_false, Bool.not_true, Bool.not_false, decide_eq_true_eq, decide_eq_false_iff_not, ite_and_p, ite_or_p, Bool.decide_eq_true, Bool.and_eq_true, Bool.or_eq_true, Bool.not_eq_true', Bool.not_eq_false', Bool.and_eq_false_imp, Bool.or_eq_false_iff, bne_iff_ne, beq_iff_eq, bne_eq_false_iff_eq, beq_eq_false_iff_ne, gt_iff_lt, ge_iff_le, Int.not_lt, Int.not_le, ne_eq, Bool.true_eq_false, Bool.false_eq_true, reduceCtorEq, eta_Airway, eta_Fan, eta_Mine, bytes_nil] at hG; omega)) rfl rfl ?_
    | refine ArgF.is (c_impl_Airway_walkTime ⟨_, _, _, _, _, _, _⟩ _ (by first | assumption | omega) (by first | assumption | omega)) ?_
    | refine ArgQ.is (fun hG => c_impl_Airway_walkTime ⟨_, _, _, _, _, _, _⟩ _ (by first | assumption | omega) (by first | assumption | omega)) rfl rfl ?_
    | refine ArgQ.is (fun hG => c_impl_Airway_walkTime ⟨_, _, _, _, _, _, _⟩ _ (by simp only [forall_const, eq_self, not_true_eq_false, not_false_eq_true, or_false, false_or, or_self, or_true, true_or, and_true, true_and, and_false, false_and, decide_true, decide_false, Bool.not_true, Bool.not_false, decide_eq_true_eq, decide_eq_false_iff_not, ite_and_p, ite_or_p, Bool.decide_eq_true, Bool.and_eq_true, Bool.or_eq_true, Bool.not_eq_true', Bool.not_eq_false', Bool.and_eq_false_imp, Bool.or_eq_false_iff, bne_iff_ne, beq_iff_eq, bne_eq_false_iff_eq, beq_eq_false_iff_ne, gt_iff_lt, ge_iff_le, Int.not_lt, Int.not_le, ne_eq, Bool.true_eq_false, Bool.false_eq_true, reduceCtorEq, eta_Airway, eta_Fan, eta_Mine, bytes_nil] at hG; omega) (by simp only [forall_const, eq_self, not_true_eq_false, not_false_eq_true, or_false, false_or, or_self, or_true, true_or, and_true, true_and, and_false, false_and, decide_true, decide_false, Bool.not_true, Bool.not_false, decide_eq_true_eq, decide_eq_false_iff_not, ite_and_p, ite_or_p, Bool.decide_eq_true, Bool.and_eq_true, Bool.or_eq_true, Bool.not_eq_true', Bool.not_eq_false', Bool.and_eq_false_imp, Bool.or_eq_false_iff, bne_iff_ne, beq_iff_eq, bne_eq_false_iff_eq, beq_eq_false_iff_ne, gt_iff_lt, ge_iff_le, Int.not_lt, Int.not_le, ne_eq, Bool.true_eq_false, Bool.false_eq_true, reduceCtorEq, eta_Airway, eta_Fan, eta_Mine, bytes_nil] at hG; omega)) rfl rfl ?_
    | refine CallF.mk (CallW.is [] true rfl ?_)
    | refine CallG.mk ?_
    | (refine CondF.mk (fun hb => ?_) (fun hb => ?_) <;> try simp only [forall_const, eq_self, not_true_eq_false, not_false_eq_true, or_false, false_or, or_self, or_true, true_or, and_true, true_and, and_false, false_and, decide_true, decide_false, Bool.not_true, Bool.not_false, decide_eq_true_eq, decide_eq_false_iff_not, ite_and_p, ite_or_p, Bool.decide_eq_true, Bool.and_eq_true, Bool.or_eq_true, Bool.not_eq_true', Bool.not_eq_false', Bool.and_eq_false_imp, Bool.or_eq_false_iff, bne_iff_ne, beq_iff_eq, bne_eq_false_iff_eq, beq_eq_false_iff_ne, gt_iff_lt, ge_iff_le, Int.not_lt, Int.not_le, ne_eq, Bool.true_eq_false, Bool.false_eq_true, reduceCtorEq, eta_Airway, eta_Fan, eta_Mine] at hb)
    | apply BackF.auto5
    | apply BackF.auto4
    | apply BackF.auto3
    | refine BackB.mk ?_ ?_
    | refine RetF.auto (And.intro rfl ?_)
    | exact Is.mk rfl rfl
    | refine Is.mk ?_ rfl
    | refine Is.mk rfl ?_
    | refine Is.mk ?_ ?_
  all_goals try dsimp only
  all_goals first
    | omega
    | exact tm_0 hmp.1.1
    | exact ⟨by omega, by omega, rdT_0, k1⟩
    | exact ⟨by omega, by omega, hfT_0 i2, i3⟩
    | (have e : p = tmI m sp s := tm_e hw hm hs k0 k2 (k4 (by assumption)); rw [e]; rfl)
    | exact tm_s hw hm hs k0 k1 (k3 (by assumption)) i1 (by assumption) i2 i3
    | exact ⟨by omega, by omega, by rw [rdT_s i0, ← hfT_2 (by assumption)]; exact j2, j3⟩
    | (have e := hB k i.toNat (by omega) (by omega)
       have e2 := hfT_bd (w := wTm m sp) (a := (m.airways.getD i.toNat default).from_) (b := (m.airways.getD i.toNat default).to) (j := j) hw (show i.toNat < m.airways.length by omega) e
       rw [← k0, ← j2] at e2
       have e3 := e2 (if j = 0 then (m.airways.getD i.toNat default).from_ else (m.airways.getD i.toNat default).to).toNat
       dsimp only at e3
       have e4 := hw i.toNat (by omega)
       have hx : Go.IntKind.i64.wrap (r.getD (if j = 0 then (m.airways.getD i.toNat default).from_ else (m.airways.getD i.toNat default).to).toNat 0 + wTm m sp i.toNat) = r.getD (if j = 0 then (m.airways.getD i.toNat default).from_ else (m.airways.getD i.toNat default).to).toNat 0 + wTm m sp i.toNat := wrapI (by omega) (by omega)
       first
       | exact ⟨by omega, by omega, hf_t j0 (by assumption) j2 hx ⟨hb.1.2, hb.2⟩, by rw [List.length_set]; exact j3⟩
       | exact ⟨by omega, by omega, hf_f j0 (by assumption) j2 hx (fun h => hb ⟨⟨by omega, h.1⟩, h.2⟩), j3⟩)
    | skip
end Go.Proofs.Ytpckcolkehgdaaa
