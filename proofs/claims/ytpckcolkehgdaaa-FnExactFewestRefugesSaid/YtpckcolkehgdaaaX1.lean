/- Contracts of functions of the program, and what they compute. Conditions: those that each theorem states. -/
import Derived.Test.YtpckcolkehgdaaaProg
import Derived.Test.YtpckcolkehgdaaaW0
set_option linter.unusedVariables false
set_option linter.unusedSimpArgs false
namespace Go.Proofs.Ytpckcolkehgdaaa
open Go.Av
attribute [local irreducible] Go.IntKind.wrap leastI rdZ rd rootI rawA okMine
set_option maxRecDepth 20000
set_option maxHeartbeats 8000000

/-! Times of walks, plain: rounds over all airways, both ways; after as many rounds as there are junctions nothing changes. -/
def rxD (n u v : Int) (s : List Int × Bool) : List Int × Bool :=
  if 0 ≤ s.1.getD u.toNat 0 ∧ (s.1.getD v.toNat 0 < 0 ∨ s.1.getD u.toNat 0 + n < s.1.getD v.toNat 0) then (s.1.set v.toNat (s.1.getD u.toNat 0 + n), true) else s
section
variable (m : GMine) (w : Nat → Int)
def stT (i : Nat) (s : List Int × Bool) : List Int × Bool := rxD (w i) (m.airways.getD i default).to (m.airways.getD i default).from_ (rxD (w i) (m.airways.getD i default).from_ (m.airways.getD i default).to s)
def rdT : Nat → List Int → List Int × Bool
  | 0, p => (p, false)
  | n + 1, p => stT m w n (rdT n p)
def rdK : Nat → List Int → List Int
  | 0, p => p
  | k + 1, p => (rdT m w m.airways.length (rdK k p)).1
end
def suN (w : Nat → Int) : List Nat → Int
  | [] => 0
  | i :: es => w i + suN w es
theorem suN_app {w : Nat → Int} : ∀ xs ys : List Nat, suN w (xs ++ ys) = suN w xs + suN w ys
  | [], ys => by simp [suN]
  | i :: xs, ys => by simp only [List.cons_append, suN, suN_app xs ys]; omega
theorem gdSet {p : List Int} {k j : Nat} {x : Int} : (p.set k x).getD j 0 = if k = j ∧ k < p.length then x else p.getD j 0 := by
  rw [List.getD_eq_getElem?_getD, List.getD_eq_getElem?_getD, List.getElem?_set]
  by_cases h : k = j
  · subst h
    rw [if_pos rfl]
    by_cases h2 : k < p.length
    · rw [if_pos h2, if_pos ⟨rfl, h2⟩]; rfl
    · rw [if_neg h2, if_neg (by omega), List.getElem?_eq_none (by omega)]
  · rw [if_neg h, if_neg (by omega)]
def leT (q p : List Int) : Prop := ∀ j : Nat, 0 ≤ p.getD j 0 → 0 ≤ q.getD j 0 ∧ q.getD j 0 ≤ p.getD j 0
theorem leT.rfl' {p : List Int} : leT p p := fun j h => ⟨h, Int.le_refl _⟩
theorem leT.trans {a b c : List Int} (h1 : leT a b) (h2 : leT b c) : leT a c := fun j h => ⟨(h1 j (h2 j h).1).1, Int.le_trans (h1 j (h2 j h).1).2 (h2 j h).2⟩
theorem rxD_len {n u v : Int} {s : List Int × Bool} : (rxD n u v s).1.length = s.1.length := by unfold rxD; split <;> simp
theorem rxD_le {n u v : Int} (hn : 0 ≤ n) {s : List Int × Bool} : leT (rxD n u v s).1 s.1 := by
  unfold rxD
  split
  · rename_i h
    intro j hj
    dsimp only
    rw [gdSet]
    split
    · rename_i e; rw [e.1] at h; omega
    · omega
  · exact leT.rfl'
theorem rxD_rx {n u v : Int} (hn : 0 ≤ n) {s : List Int × Bool} (hv : v.toNat < s.1.length) (h : 0 ≤ s.1.getD u.toNat 0) : 0 ≤ (rxD n u v s).1.getD v.toNat 0 ∧ (rxD n u v s).1.getD v.toNat 0 ≤ s.1.getD u.toNat 0 + n := by
  unfold rxD
  split
  · dsimp only
    rw [gdSet, if_pos ⟨rfl, hv⟩]; omega
  · rename_i h2; omega
theorem rxD_same {n u v : Int} {s : List Int × Bool} (h : (rxD n u v s).2 = false) : rxD n u v s = s := by
  unfold rxD at h ⊢
  split at h
  · cases h
  · rename_i e; rw [if_neg e]
theorem rxD_bd {n u v B C : Int} {s : List Int × Bool} (hn : 0 ≤ n ∧ n ≤ C) (h : ∀ j : Nat, -1 ≤ s.1.getD j 0 ∧ s.1.getD j 0 ≤ B) : ∀ j : Nat, -1 ≤ (rxD n u v s).1.getD j 0 ∧ (rxD n u v s).1.getD j 0 ≤ B + C := by
  intro j
  have h1 := h j
  have h2 := h u.toNat
  unfold rxD
  split
  · dsimp only
    rw [gdSet]
    split <;> omega
  · omega
section
variable {m : GMine} {w : Nat → Int}
theorem stT_len {i : Nat} {s : List Int × Bool} : (stT m w i s).1.length = s.1.length := by unfold stT; rw [rxD_len, rxD_len]
theorem rdT_len {p : List Int} : ∀ n : Nat, (rdT m w n p).1.length = p.length
  | 0 => rfl
  | n + 1 => by rw [rdT, stT_len, rdT_len n]
theorem rdK_len {p : List Int} : ∀ k : Nat, (rdK m w k p).length = p.length
  | 0 => rfl
  | k + 1 => by rw [rdK, rdT_len, rdK_len k]
theorem stT_same {i : Nat} {s : List Int × Bool} (h : (stT m w i s).2 = false) : stT m w i s = s := by
  unfold stT at h ⊢
  have e := rxD_same h
  rw [e] at h ⊢
  exact rxD_same h
theorem rdT_same {p : List Int} : ∀ n : Nat, (rdT m w n p).2 = false → rdT m w n p = (p, false)
  | 0, _ => rfl
  | n + 1, h => by
    rw [rdT] at h ⊢
    have e := stT_same h
    rw [e] at h ⊢
    exact rdT_same n h
theorem rdK_fix {p : List Int} {k : Nat} (h : rdT m w m.airways.length (rdK m w k p) = (rdK m w k p, false)) : ∀ j : Nat, rdK m w (k + j) p = rdK m w k p
  | 0 => rfl
  | j + 1 => by
    show (rdT m w m.airways.length (rdK m w (k + j) p)).1 = _
    rw [rdK_fix h j, h]
section
variable (hw : ∀ i : Nat, i < m.airways.length → 0 ≤ w i ∧ w i ≤ 100000)
include hw
theorem stT_bd {B : Int} {i : Nat} (hi : i < m.airways.length) {s : List Int × Bool} (h : ∀ j : Nat, -1 ≤ s.1.getD j 0 ∧ s.1.getD j 0 ≤ B) : (∀ j : Nat, -1 ≤ (rxD (w i) (m.airways.getD i default).from_ (m.airways.getD i default).to s).1.getD j 0 ∧ (rxD (w i) (m.airways.getD i default).from_ (m.airways.getD i default).to s).1.getD j 0 ≤ B + 100000) ∧ ∀ j : Nat, -1 ≤ (stT m w i s).1.getD j 0 ∧ (stT m w i s).1.getD j 0 ≤ B + 200000 := by
  have h1 := rxD_bd (u := (m.airways.getD i default).from_) (v := (m.airways.getD i default).to) (hw i hi) h
  refine ⟨h1, fun j => ?_⟩
  have h2 := rxD_bd (u := (m.airways.getD i default).to) (v := (m.airways.getD i default).from_) (hw i hi) h1 j
  exact ⟨h2.1, by unfold stT; omega⟩
theorem rdT_bd {B : Int} {p : List Int} (h : ∀ j : Nat, -1 ≤ p.getD j 0 ∧ p.getD j 0 ≤ B) : ∀ n : Nat, n ≤ m.airways.length → ∀ j : Nat, -1 ≤ (rdT m w n p).1.getD j 0 ∧ (rdT m w n p).1.getD j 0 ≤ B + 200000 * n
  | 0, _ => fun j => by have := h j; exact ⟨this.1, by show p.getD j 0 ≤ _; omega⟩
  | n + 1, hn => fun j => by
    have := (stT_bd hw (i := n) (by omega) (rdT_bd h n (by omega))).2 j
    rw [rdT]
    omega
theorem rdK_bd (hm : m.airways.length ≤ 24) {p : List Int} (h : ∀ j : Nat, -1 ≤ p.getD j 0 ∧ p.getD j 0 ≤ 0) : ∀ k : Nat, ∀ j : Nat, -1 ≤ (rdK m w k p).getD j 0 ∧ (rdK m w k p).getD j 0 ≤ 4800000 * k
  | 0 => fun j => by have := h j; exact ⟨this.1, by show p.getD j 0 ≤ _; omega⟩
  | k + 1 => fun j => by
    have := rdT_bd hw (rdK_bd hm h k) m.airways.length (Nat.le_refl _) j
    rw [rdK]
    omega
theorem stT_le {i : Nat} (hi : i < m.airways.length) {s : List Int × Bool} : leT (stT m w i s).1 s.1 := (rxD_le (hw i hi).1).trans (rxD_le (hw i hi).1)
theorem rdT_le {p : List Int} : ∀ n : Nat, n ≤ m.airways.length → leT (rdT m w n p).1 p
  | 0, _ => leT.rfl'
  | n + 1, hn => by rw [rdT]; exact (stT_le hw (by omega)).trans (rdT_le n (by omega))
theorem rdT_rx (hm : okMine m = true) {p : List Int} (hl : p.length = m.junctions.toNat) : ∀ n : Nat, n ≤ m.airways.length → ∀ i : Nat, i < n →
    (0 ≤ p.getD (m.airways.getD i default).from_.toNat 0 → 0 ≤ (rdT m w n p).1.getD (m.airways.getD i default).to.toNat 0 ∧ (rdT m w n p).1.getD (m.airways.getD i default).to.toNat 0 ≤ p.getD (m.airways.getD i default).from_.toNat 0 + w i) ∧
    (0 ≤ p.getD (m.airways.getD i default).to.toNat 0 → 0 ≤ (rdT m w n p).1.getD (m.airways.getD i default).from_.toNat 0 ∧ (rdT m w n p).1.getD (m.airways.getD i default).from_.toNat 0 ≤ p.getD (m.airways.getD i default).to.toNat 0 + w i)
  | 0, _, i, hi => by omega
  | n + 1, hn, i, hi => by
    rw [rdT]
    by_cases e : i = n
    · subst e
      have qV := edV hm (by omega : i < m.airways.length)
      unfold inV at qV
      have hwi := hw i (by omega)
      have l0 := rdT_le hw (p := p) i (by omega)
      have ln := rdT_len (m := m) (w := w) (p := p) i
      constructor
      · intro h0
        have a1 := l0 _ h0
        have a2 := rxD_rx hwi.1 (u := (m.airways.getD i default).from_) (v := (m.airways.getD i default).to) (s := rdT m w i p) (by omega) a1.1
        have a3 := rxD_le (u := (m.airways.getD i default).to) (v := (m.airways.getD i default).from_) (s := rxD (w i) (m.airways.getD i default).from_ (m.airways.getD i default).to (rdT m w i p)) hwi.1 _ a2.1
        unfold stT
        omega
      · intro h0
        have a1 := l0 _ h0
        have a2 := rxD_le (u := (m.airways.getD i default).from_) (v := (m.airways.getD i default).to) (s := rdT m w i p) hwi.1 _ a1.1
        have a3 := rxD_rx hwi.1 (u := (m.airways.getD i default).to) (v := (m.airways.getD i default).from_) (s := rxD (w i) (m.airways.getD i default).from_ (m.airways.getD i default).to (rdT m w i p)) (by rw [rxD_len]; omega) a2.1
        unfold stT
        omega
    · have ih := rdT_rx hm hl n (by omega) i (by omega)
      have l1 := stT_le hw (i := n) (s := rdT m w n p) (by omega)
      constructor
      · intro h0
        have a1 := ih.1 h0
        have a2 := l1 _ a1.1
        omega
      · intro h0
        have a1 := ih.2 h0
        have a2 := l1 _ a1.1
        omega
end
section
variable (m w)
def tv1 (s : Int) (p : List Int) : Prop := ∀ v : Int, inV m v → 0 ≤ p.getD v.toNat 0 → ∃ es : List Nat, okW m [] s es ∧ enW m s es = v ∧ suN w es = p.getD v.toNat 0
def tv2 (s : Int) (n : Nat) (p : List Int) : Prop := ∀ es : List Nat, okW m [] s es → es.length ≤ n → 0 ≤ p.getD (enW m s es).toNat 0 ∧ p.getD (enW m s es).toNat 0 ≤ suN w es
def tvF (s : Int) (p : List Int) : Prop := ∀ es : List Nat, okW m [] s es → 0 ≤ p.getD (enW m s es).toNat 0 ∧ p.getD (enW m s es).toNat 0 ≤ suN w es
end
theorem rgN (i : Nat) : ([] : List Bool).getD i false = false := by simp
theorem stpT (a : Int) (i : Nat) (h1 : i < m.airways.length) (h2 : okL m [] a i = true) {s : Int} {es : List Nat} (ho : okW m [] s es) (he : enW m s es = a) : okW m [] s (es ++ [i]) ∧ enW m s (es ++ [i]) = nxL m a i ∧ suN w (es ++ [i]) = suN w es + w i := by
  refine ⟨by rw [okW_app, he]; exact ⟨ho, h1, h2, trivial⟩, by rw [enW_app, he]; rfl, by rw [suN_app]; simp [suN]⟩
theorem tv1_rx {s : Int} {i : Nat} {u v : Int} {t : List Int × Bool} (hi : i < m.airways.length) (hu : inV m u) (hv : inV m v) (hk : okL m [] u i = true) (hx : nxL m u i = v) (h : tv1 m w s t.1) : tv1 m w s (rxD (w i) u v t).1 := by
  unfold rxD
  split
  · rename_i hc
    intro x hx2 h0
    dsimp only at h0 ⊢
    rw [gdSet] at h0 ⊢
    split
    · rename_i e
      obtain ⟨es, q1, q2, q3⟩ := h u hu hc.1
      have q := stpT (w := w) u i hi hk q1 q2
      unfold inV at hx2 hv
      exact ⟨es ++ [i], q.1, by rw [q.2.1, hx]; omega, by rw [q.2.2, q3]⟩
    · rename_i e
      rw [if_neg e] at h0
      exact h x hx2 h0
  · exact h
theorem tv1_rd (hm : okMine m = true) {s : Int} {p : List Int} (h : tv1 m w s p) : ∀ n : Nat, n ≤ m.airways.length → tv1 m w s (rdT m w n p).1
  | 0, _ => h
  | n + 1, hn => by
    have hi : n < m.airways.length := by omega
    have q0 := ed0 (g := []) (rg := []) hm hi
    have q1 := ed1 (g := []) (rg := []) hm hi (rgN n)
    have qV := edV hm hi
    rw [rdT]
    exact tv1_rx hi qV.2 qV.1 q1.1 q1.2.1 (tv1_rx hi qV.1 qV.2 q0.1 q0.2.1 (tv1_rd hm h n (by omega)))
theorem tv2_rd (hw : ∀ i : Nat, i < m.airways.length → 0 ≤ w i ∧ w i ≤ 100000) (hm : okMine m = true) {s : Int} {p : List Int} {n : Nat} (hl : p.length = m.junctions.toNat) (h : tv2 m w s n p) : tv2 m w s (n + 1) (rdT m w m.airways.length p).1 := by
  intro es ho hn
  rcases List.eq_nil_or_concat es with rfl | ⟨es', i, rfl⟩
  · have a := h [] ho (Nat.zero_le _)
    have b := rdT_le hw (p := p) m.airways.length (Nat.le_refl _) _ a.1
    exact ⟨b.1, Int.le_trans b.2 a.2⟩
  · rw [List.concat_eq_append] at ho hn ⊢
    rw [okW_app] at ho
    rw [enW_app, suN_app]
    have h1 := h es' ho.1 (by simp only [List.length_append, List.length_cons, List.length_nil] at hn; omega)
    obtain ⟨hi, hk, _⟩ := ho.2
    have q := rdT_rx hw hm hl m.airways.length (Nat.le_refl _) i hi
    have q2 := okAirway_b ((okMine_p hm).2.2 i (by omega)).1
    generalize enW m s es' = a at hk h1 ⊢
    simp only [enW, suN, Int.add_zero]
    unfold okL at hk
    simp only [Bool.or_eq_true, Bool.and_eq_true, decide_eq_true_eq, Bool.not_eq_true'] at hk
    unfold nxL
    unfold awI at *
    rcases hk with hk | ⟨hk, hr⟩
    · rw [if_pos hk]
      rw [hk] at q
      have := q.1 h1.1
      omega
    · rw [if_neg (by omega)]
      rw [hk] at q
      have := q.2 h1.1
      omega
theorem redT (hw : ∀ i : Nat, i < m.airways.length → 0 ≤ w i ∧ w i ≤ 100000) (hm : okMine m = true) : ∀ (n : Nat) (a : Int) (es : List Nat), es.length ≤ n → inV m a → okW m [] a es → ∃ es', okW m [] a es' ∧ enW m a es' = enW m a es ∧ suN w es' ≤ suN w es ∧ es'.length < m.junctions
  | n, a, es, hn, ha, ho => by
    by_cases hl : m.junctions ≤ es.length
    · obtain ⟨xs, ys, zs, e1, e2, e3⟩ := dupE hm a es ha ho hl
      subst e1
      rw [okW_app, okW_app] at ho
      have hp : 0 < ys.length := by cases ys with | nil => exact absurd rfl e2 | cons y ys => simp
      cases n with
      | zero => simp only [List.length_append] at hn; omega
      | succ n =>
        have e5 : enW m a (xs ++ ys) = enW m a xs := by rw [enW_app]; exact e3
        obtain ⟨es', q1, q2, q3, q4⟩ := redT hw hm n a (xs ++ zs) (by simp only [List.length_append] at hn ⊢; omega) ha (by rw [okW_app]; exact ⟨ho.1.1, by rw [e5] at ho; exact ho.2⟩)
        refine ⟨es', q1, ?_, ?_, q4⟩
        · rw [q2, enW_app, enW_app, e5]
        · have hy : ∀ (b : Int) (zs : List Nat), okW m [] b zs → 0 ≤ suN w zs := by
            intro b zs
            induction zs generalizing b with
            | nil => intro _; exact Int.le_refl _
            | cons i zs ih => intro h; have := ih _ h.2.2; have := hw i h.1; simp only [suN]; omega
          have := hy _ ys ho.1.2
          rw [suN_app] at q3
          rw [suN_app, suN_app]
          omega
    · exact ⟨es, ho, rfl, Int.le_refl _, by omega⟩
theorem tvF_of (hw : ∀ i : Nat, i < m.airways.length → 0 ≤ w i ∧ w i ≤ 100000) (hm : okMine m = true) {s : Int} (hs : inV m s) {p : List Int} {n : Nat} (h : tv2 m w s n p) (hn : m.junctions ≤ n + 1) : tvF m w s p := by
  intro es ho
  obtain ⟨es', q1, q2, q3, q4⟩ := redT hw hm es.length s es (Nat.le_refl _) hs ho
  have := h es' q1 (by omega)
  rw [q2] at this
  omega
theorem noT (hm : okMine m = true) {s : Int} {p : List Int} (h1 : tv1 m w s p) (h2 : tvF m w s p) : ∀ n : Nat, n ≤ m.airways.length → rdT m w n p = (p, false)
  | 0, _ => rfl
  | n + 1, hn => by
    rw [rdT, noT hm h1 h2 n (by omega)]
    have hi : n < m.airways.length := by omega
    have q0 := ed0 (g := []) (rg := []) hm hi
    have q1 := ed1 (g := []) (rg := []) hm hi (rgN n)
    have qV := edV hm hi
    have key : ∀ u v : Int, inV m u → okL m [] u n = true → nxL m u n = v → rxD (w n) u v (p, false) = (p, false) := by
      intro u v hu hk hx
      unfold rxD
      rw [if_neg]
      rintro ⟨a, b⟩
      dsimp only at a b
      obtain ⟨es, c1, c2, c3⟩ := h1 u hu a
      have d := stpT (w := w) u n hi hk c1 c2
      have e := h2 _ d.1
      rw [d.2.1, d.2.2, c3, hx] at e
      omega
    unfold stT
    rw [key _ _ qV.1 q0.1 q0.2.1, key _ _ qV.2 q1.1 q1.2.1]
/-- the start: -1 everywhere but at the junction -/
def p0T (m : GMine) (s : Int) : List Int := (List.replicate m.junctions.toNat (-1)).set s.toNat 0
theorem p0_len {s : Int} : (p0T m s).length = m.junctions.toNat := by unfold p0T; simp
theorem p0_at {s : Int} (hs : inV m s) : (p0T m s).getD s.toNat 0 = 0 := by
  unfold inV at hs
  unfold p0T; rw [gdSet, if_pos ⟨rfl, by simp; omega⟩]
theorem p0_ne {s : Int} {j : Nat} (hj : j < m.junctions.toNat) (h : ¬s.toNat = j) : (p0T m s).getD j 0 = -1 := by
  unfold p0T
  rw [gdSet, if_neg (by omega), List.getD_eq_getElem?_getD, List.getElem?_replicate, if_pos hj]; rfl
theorem p0_bd {s : Int} (j : Nat) : -1 ≤ (p0T m s).getD j 0 ∧ (p0T m s).getD j 0 ≤ 0 := by
  unfold p0T
  rw [gdSet]
  split
  · omega
  · rw [List.getD_eq_getElem?_getD, List.getElem?_replicate]
    split
    · exact ⟨by decide, by decide⟩
    · exact ⟨by decide, by decide⟩
theorem p0_1 {s : Int} (hs : inV m s) : tv1 m w s (p0T m s) := by
  intro v hv h0
  by_cases e : s.toNat = v.toNat
  · unfold inV at hs hv
    have : v = s := by omega
    subst this
    exact ⟨[], trivial, rfl, by rw [p0_at hs]; rfl⟩
  · unfold inV at hv
    rw [p0_ne (by omega) e] at h0
    omega
theorem p0_2 {s : Int} (hs : inV m s) : tv2 m w s 0 (p0T m s) := by
  intro es _ hn
  have : es = [] := List.eq_nil_of_length_eq_zero (by omega)
  subst this
  show 0 ≤ (p0T m s).getD s.toNat 0 ∧ (p0T m s).getD s.toNat 0 ≤ 0
  rw [p0_at hs]; omega
theorem rdK_12 (hw : ∀ i : Nat, i < m.airways.length → 0 ≤ w i ∧ w i ≤ 100000) (hm : okMine m = true) {s : Int} (hs : inV m s) : ∀ k : Nat, tv1 m w s (rdK m w k (p0T m s)) ∧ tv2 m w s k (rdK m w k (p0T m s))
  | 0 => ⟨p0_1 hs, p0_2 hs⟩
  | k + 1 => by
    have ih := rdK_12 hw hm hs k
    exact ⟨tv1_rd hm ih.1 _ (Nat.le_refl _), tv2_rd hw hm (by rw [rdK_len, p0_len]) ih.2⟩
/-- after J rounds nothing changes -/
theorem rdK_J (hw : ∀ i : Nat, i < m.airways.length → 0 ≤ w i ∧ w i ≤ 100000) (hm : okMine m = true) {s : Int} (hs : inV m s) : rdT m w m.airways.length (rdK m w m.junctions.toNat (p0T m s)) = (rdK m w m.junctions.toNat (p0T m s), false) := by
  have h := rdK_12 (w := w) hw hm hs m.junctions.toNat
  have hJ := (okMine_p hm).1
  exact noT hm h.1 (tvF_of hw hm hs h.2 (by omega)) _ (Nat.le_refl _)
theorem rdK_all (hw : ∀ i : Nat, i < m.airways.length → 0 ≤ w i ∧ w i ≤ 100000) (hm : okMine m = true) {s : Int} (hs : inV m s) {k : Nat} (hk : (k : Int) ≤ m.junctions + 1) (h : rdT m w m.airways.length (rdK m w k (p0T m s)) = (rdK m w k (p0T m s), false)) : rdK m w k (p0T m s) = rdK m w m.junctions.toNat (p0T m s) := by
  have hJ := (okMine_p hm).1
  by_cases e : k ≤ m.junctions.toNat
  · have := rdK_fix h (m.junctions.toNat - k)
    rw [show k + (m.junctions.toNat - k) = m.junctions.toNat by omega] at this
    exact this.symm
  · rw [show k = m.junctions.toNat + 1 by omega, rdK, rdK_J hw hm hs]
theorem rdK_own (hw : ∀ i : Nat, i < m.airways.length → 0 ≤ w i ∧ w i ≤ 100000) (hm : okMine m = true) {s : Int} (hs : inV m s) (k : Nat) : (rdK m w k (p0T m s)).getD s.toNat 0 = 0 := by
  have := (rdK_12 (w := w) hw hm hs k).2 [] trivial (Nat.zero_le _)
  change 0 ≤ (rdK m w k (p0T m s)).getD s.toNat 0 ∧ (rdK m w k (p0T m s)).getD s.toNat 0 ≤ 0 at this
  omega
/-- one round more -/
theorem rdK_s {p : List Int} {k : Nat} : rdK m w (k + 1) p = (rdT m w m.airways.length (rdK m w k p)).1 := rfl
theorem rdT_s {p : List Int} {n : Int} (h : 0 ≤ n) : rdT m w (n + 1).toNat p = stT m w n.toNat (rdT m w n.toNat p) := by
  rw [show (n + 1).toNat = n.toNat + 1 by omega]; rfl
end
/-- how long it takes to walk through an airway -/
def wTm (m : GMine) (sp : Int) (i : Nat) : Int := (100 * (m.airways.getD i default).length + sp - 1) / sp
theorem wTm_b {m : GMine} {sp : Int} (hm : okMine m = true) (hs : 10 ≤ sp ∧ sp ≤ 300) : ∀ i : Nat, i < m.airways.length → 0 ≤ wTm m sp i ∧ wTm m sp i ≤ 100000 := by
  intro i hi
  have q := (okAirway_b ((okMine_p hm).2.2 i (by omega)).1).2.2.2.1
  unfold wTm
  refine ⟨Int.ediv_nonneg (by omega) (by omega), ?_⟩
  have h1 : (100 * (m.airways.getD i default).length + sp - 1) / sp < 100001 := Int.ediv_lt_of_lt_mul (by omega) (by omega)
  omega
/-- the times of walks -/
def tmI (m : GMine) (sp s : Int) : List Int := rdK m (wTm m sp) m.junctions.toNat (p0T m s)
end Go.Proofs.Ytpckcolkehgdaaa
