/- Contracts of functions of the program, and what they compute. Conditions: those that each theorem states. -/
import Derived.Test.YtpckcolkehgdaaaProg
import Derived.Test.YtpckcolkehgdaaaR0
set_option linter.unusedVariables false
set_option linter.unusedSimpArgs false
namespace Go.Proofs.Ytpckcolkehgdaaa
open Go.Av
set_option maxRecDepth 20000
set_option maxHeartbeats 2000000

/-! Sets of doors, as numbers: how many doors lie between two sets; walking from one to the other. -/
/-- no lock has two open doors -/
def kpN (ls : List (List Int)) (s : Nat) : Bool := ls.all fun l => !(s.testBit (l.getD 0 0).toNat && s.testBit (l.getD 1 0).toNat)
def flN (s i : Nat) : Nat := s ^^^ 2 ^ i
def dfN (s g i : Nat) : Bool := s.testBit i != g.testBit i
def hmN (n s g : Nat) : Nat := (List.range n).countP (dfN s g)
theorem flN_at {s i j : Nat} : (flN s i).testBit j = if i = j then !s.testBit j else s.testBit j := by
  unfold flN
  rw [Nat.testBit_xor, Nat.testBit_two_pow]
  by_cases h : i = j
  · rw [decide_eq_true h, if_pos h]; cases s.testBit j <;> rfl
  · rw [decide_eq_false h, if_neg h]; cases s.testBit j <;> rfl
theorem flN_lt {n s i : Nat} (hs : s < 2 ^ n) (hi : i < n) : flN s i < 2 ^ n := Nat.xor_lt_two_pow hs (Nat.pow_lt_pow_right (by omega) hi)
theorem tb_hi {n s j : Nat} (hs : s < 2 ^ n) (hj : n ≤ j) : s.testBit j = false := Nat.testBit_lt_two_pow (Nat.lt_of_lt_of_le hs (Nat.pow_le_pow_right (by omega) hj))
theorem hmN_0 {n s g : Nat} (h : hmN n s g = 0) (hs : s < 2 ^ n) (hg : g < 2 ^ n) : s = g := by
  apply Nat.eq_of_testBit_eq
  intro j
  by_cases hj : j < n
  · unfold hmN at h
    rw [List.countP_eq_zero] at h
    have := h j (List.mem_range.2 hj)
    unfold dfN at this
    simpa using this
  · rw [tb_hi hs (by omega), tb_hi hg (by omega)]
theorem hmN_self {n g : Nat} : hmN n g g = 0 := by
  unfold hmN
  rw [List.countP_eq_zero]
  intro j _
  unfold dfN; simp
theorem cnt_out {p q : Nat → Bool} {i : Nat} (h : ∀ j, j ≠ i → p j = q j) : ∀ n, n ≤ i → (List.range n).countP p = (List.range n).countP q
  | 0, _ => rfl
  | n + 1, hn => by rw [List.range_succ, List.countP_append, List.countP_append, cnt_out h n (by omega)]; simp [h n (by omega)]
theorem cnt_one {p q : Nat → Bool} {i : Nat} (h : ∀ j, j ≠ i → p j = q j) (hp : p i = true) (hq : q i = false) : ∀ n, i < n → (List.range n).countP p = (List.range n).countP q + 1
  | 0, hn => by omega
  | n + 1, hn => by
    rw [List.range_succ, List.countP_append, List.countP_append]
    by_cases e : n = i
    · subst e
      rw [cnt_out h n (Nat.le_refl _)]; simp [hp, hq]
    · rw [cnt_one h hp hq n (by omega)]
      simp [h n e]; omega
theorem hmN_dn {n s g i : Nat} (hi : i < n) (h : dfN s g i = true) : hmN n s g = hmN n (flN s i) g + 1 := by
  unfold hmN
  refine cnt_one (i := i) (fun j hj => ?_) h ?_ n hi
  · unfold dfN; rw [flN_at, if_neg (Ne.symm hj)]
  · unfold dfN at h ⊢; rw [flN_at, if_pos rfl]; revert h; cases s.testBit i <;> cases g.testBit i <;> simp
theorem hmN_up {n s g i : Nat} (hi : i < n) (h : dfN s g i = false) : hmN n (flN s i) g = hmN n s g + 1 := by
  unfold hmN
  refine cnt_one (i := i) (fun j hj => ?_) ?_ h n hi
  · unfold dfN; rw [flN_at, if_neg (Ne.symm hj)]
  · unfold dfN at h ⊢; rw [flN_at, if_pos rfl]; revert h; cases s.testBit i <;> cases g.testBit i <;> simp
theorem kpN_sub {ls : List (List Int)} {s g : Nat} (h : ∀ j, s.testBit j = true → g.testBit j = true) (hg : kpN ls g = true) : kpN ls s = true := by
  unfold kpN at *
  rw [List.all_eq_true] at *
  intro l hl
  have := hg l hl
  revert this
  have h0 := h (l.getD 0 0).toNat
  have h1 := h (l.getD 1 0).toNat
  revert h0 h1
  cases s.testBit (l.getD 0 0).toNat <;> cases s.testBit (l.getD 1 0).toNat <;> simp_all
theorem hmN_step {ls : List (List Int)} {n s g d : Nat} (hs : s < 2 ^ n) (hg : g < 2 ^ n) (ks : kpN ls s = true) (kg : kpN ls g = true) (h : hmN n s g = d + 1) : ∃ i, i < n ∧ dfN s g i = true ∧ kpN ls (flN s i) = true := by
  by_cases hc : ∃ i, i < n ∧ s.testBit i = true ∧ g.testBit i = false
  · obtain ⟨i, h1, h2, h3⟩ := hc
    refine ⟨i, h1, by unfold dfN; rw [h2, h3]; rfl, kpN_sub (g := s) (fun j hj => ?_) ks⟩
    rw [flN_at] at hj
    split at hj
    · rename_i e; subst e; rw [h2] at hj; cases hj
    · exact hj
  · have hsub : ∀ j, s.testBit j = true → g.testBit j = true := fun j hj => by
      by_cases e : j < n
      · cases e2 : g.testBit j with
        | true => rfl
        | false => exact absurd ⟨j, e, hj, e2⟩ hc
      · rw [tb_hi hs (by omega)] at hj; cases hj
    have : 0 < (List.range n).countP (dfN s g) := by unfold hmN at h; omega
    obtain ⟨i, h1, h2⟩ := List.countP_pos_iff.1 this
    have h1 := List.mem_range.1 h1
    refine ⟨i, h1, h2, kpN_sub (g := g) (fun j hj => ?_) kg⟩
    rw [flN_at] at hj
    split at hj
    · rename_i e; subst e
      unfold dfN at h2
      revert h2 hj
      cases s.testBit i <;> cases g.testBit i <;> simp
    · exact hsub j hj
theorem hmN_le {n s g : Nat} : hmN n s g ≤ n := by unfold hmN; have := List.countP_le_length (p := dfN s g) (l := List.range n); simpa using this
theorem dfN_comm {s g i : Nat} : dfN s g i = dfN g s i := by unfold dfN; cases s.testBit i <;> cases g.testBit i <;> rfl
theorem hmN_comm {n s g : Nat} : hmN n s g = hmN n g s := by unfold hmN; exact congrArg (fun p => (List.range n).countP p) (funext fun i => dfN_comm)

theorem pigN : ∀ (n : Nat) (l : List Nat), l.Nodup → (∀ x ∈ l, x < n) → l.length ≤ n
  | 0, l, _, h => by
    cases l with
    | nil => simp
    | cons x l => have := h x (by simp); omega
  | n + 1, l, hn, h => by
    have ih := pigN n (l.erase n) (hn.erase _) (fun x hx => by
      rw [hn.mem_erase_iff] at hx
      have := h x hx.2
      have := hx.1
      omega)
    rw [List.length_erase] at ih
    split at ih <;> omega
/-- the breadth-first search from g: A, all that came up; k of them have been looked at -/
structure bfN (ls : List (List Int)) (n g : Nat) (A : List Nat) (k : Nat) : Prop where
  g0 : A[0]? = some g
  rg : ∀ a ∈ A, a < 2 ^ n ∧ kpN ls a = true
  nd : A.Nodup
  st : ∀ i j, i ≤ j → j < A.length → hmN n (A.getD i 0) g ≤ hmN n (A.getD j 0) g
  up : k < A.length → ∀ a ∈ A, hmN n a g ≤ hmN n (A.getD k 0) g + 1
  cl : ∀ i, i < k → i < A.length → ∀ j, j < n → kpN ls (flN (A.getD i 0) j) = true → flN (A.getD i 0) j ∈ A
theorem bfN_0 {ls : List (List Int)} {n g : Nat} (hg : g < 2 ^ n) (kg : kpN ls g = true) : bfN ls n g [g] 0 where
  g0 := rfl
  rg := fun a ha => by rw [List.mem_singleton.1 ha]; exact ⟨hg, kg⟩
  nd := by simp
  st := fun i j h1 h2 => by
    have : j = 0 := by simpa using h2
    subst this
    have : i = 0 := by omega
    subst this; exact Nat.le_refl _
  up := fun _ a ha => by rw [List.mem_singleton.1 ha]; simp [hmN_self]
  cl := fun i hi => by omega
section
variable {ls : List (List Int)} {n g k : Nat} {A : List Nat}
theorem mem_D {A : List Nat} {a : Nat} (h : a ∈ A) : ∃ i, i < A.length ∧ A.getD i 0 = a := by
  obtain ⟨i, hi, e⟩ := List.getElem_of_mem h
  exact ⟨i, hi, by rw [List.getD_eq_getElem?_getD, List.getElem?_eq_getElem hi]; exact e⟩
theorem D_mem {A : List Nat} {i : Nat} (h : i < A.length) : A.getD i 0 ∈ A := by
  rw [List.getD_eq_getElem?_getD, List.getElem?_eq_getElem h]; exact List.getElem_mem h
/-- what lies nearer than what is looked at has come up -/
theorem bfN_near {b : Nat} (h : bfN ls n g A k) (hg : g < 2 ^ n) (kg : kpN ls g = true) (hb : ∀ p, k ≤ p → p < A.length → ∀ d, d < b → d < hmN n (A.getD p 0) g) : ∀ (d s : Nat), hmN n s g = d → d ≤ b → s < 2 ^ n → kpN ls s = true → s ∈ A
  | 0, s, h1, _, h2, h3 => by
    rw [hmN_0 h1 h2 hg]; exact List.mem_of_getElem? h.g0
  | d + 1, s, h1, hd, h2, h3 => by
    obtain ⟨i, hi, h4, h5⟩ := hmN_step h2 hg h3 kg h1
    have h6 := hmN_dn hi h4
    have h7 := bfN_near h hg kg hb d (flN s i) (by omega) (by omega) (flN_lt h2 hi) h5
    obtain ⟨p, hp, e⟩ := mem_D h7
    have hpk : p < k := by
      refine Decidable.byContradiction fun hn => ?_
      have := hb p (by omega) hp d (by omega)
      rw [e] at this; omega
    have back : flN (flN s i) i = s := by
      apply Nat.eq_of_testBit_eq
      intro j
      rw [flN_at, flN_at]
      by_cases e : i = j
      · rw [if_pos e, if_pos e]; simp
      · rw [if_neg e, if_neg e]
    have := h.cl p hpk hp i hi (by rw [e, back]; exact h3)
    rwa [e, back] at this
theorem bfN_next (h : bfN ls n g A k) (hg : g < 2 ^ n) (kg : kpN ls g = true) (hk : k < A.length) {i : Nat} (hi : i < n) (h1 : kpN ls (flN (A.getD k 0) i) = true) (h2 : flN (A.getD k 0) i ∉ A) : hmN n (flN (A.getD k 0) i) g = hmN n (A.getD k 0) g + 1 := by
  cases e : dfN (A.getD k 0) g i with
  | false => exact hmN_up hi e
  | true =>
    exfalso
    have h3 := hmN_dn hi e
    refine h2 (bfN_near (b := hmN n (A.getD k 0) g - 1) h hg kg (fun p h4 h5 d hd => ?_) _ _ rfl (by omega) (flN_lt (h.rg _ (D_mem hk)).1 hi) h1)
    have := h.st k p h4 h5
    omega
theorem bfN_all (h : bfN ls n g A A.length) (hg : g < 2 ^ n) (kg : kpN ls g = true) {s : Nat} (h1 : s < 2 ^ n) (h2 : kpN ls s = true) : s ∈ A :=
  bfN_near (b := hmN n s g) h hg kg (fun p h3 h4 => by omega) _ s rfl (Nat.le_refl _) h1 h2
theorem getD_app {A B : List Nat} {i : Nat} (h : i < A.length) : (A ++ B).getD i 0 = A.getD i 0 := by
  rw [List.getD_eq_getElem?_getD, List.getD_eq_getElem?_getD, List.getElem?_append_left h]
theorem bfN_add (h : bfN ls n g A k) (hg : g < 2 ^ n) (kg : kpN ls g = true) (hk : k < A.length) {i : Nat} (hi : i < n) (h1 : kpN ls (flN (A.getD k 0) i) = true) (h2 : flN (A.getD k 0) i ∉ A) : bfN ls n g (A ++ [flN (A.getD k 0) i]) k := by
  have e := bfN_next h hg kg hk hi h1 h2
  have l1 : (A ++ [flN (A.getD k 0) i]).length = A.length + 1 := by simp
  have last : (A ++ [flN (A.getD k 0) i]).getD A.length 0 = flN (A.getD k 0) i := by
    rw [List.getD_eq_getElem?_getD, List.getElem?_append_right (Nat.le_refl _)]; simp
  refine { g0 := ?_, rg := fun a ha => ?_, nd := ?_, st := fun a b hab hb => ?_, up := fun _ a ha => ?_, cl := fun a ha hal j hj hkp => ?_ }
  · rw [List.getElem?_append_left (by omega)]; exact h.g0
  · rcases List.mem_append.1 ha with ha | ha
    · exact h.rg a ha
    · rw [List.mem_singleton.1 ha]; exact ⟨flN_lt (h.rg _ (D_mem hk)).1 hi, h1⟩
  · rw [List.nodup_append]
    refine ⟨h.nd, by simp, fun a ha b hb => ?_⟩
    rw [List.mem_singleton.1 hb]
    rintro rfl; exact h2 ha
  · rw [l1] at hb
    by_cases e2 : b < A.length
    · rw [getD_app e2, getD_app (by omega)]; exact h.st a b hab e2
    · have : b = A.length := by omega
      subst this
      rw [last, e]
      by_cases e3 : a < A.length
      · rw [getD_app e3]; exact h.up hk _ (D_mem e3)
      · rw [show a = A.length by omega, last, e]; exact Nat.le_refl _
  · rw [getD_app hk]
    rcases List.mem_append.1 ha with ha | ha
    · exact h.up hk a ha
    · rw [List.mem_singleton.1 ha, e]; exact Nat.le_refl _
  · have hal' : a < A.length := by omega
    rw [getD_app hal'] at hkp ⊢
    exact List.mem_append_left _ (h.cl a ha hal' j hj hkp)
theorem bfN_pop (h : bfN ls n g A k) (hk : k < A.length) (hq : ∀ j, j < n → kpN ls (flN (A.getD k 0) j) = true → flN (A.getD k 0) j ∈ A) : bfN ls n g A (k + 1) where
  g0 := h.g0
  rg := h.rg
  nd := h.nd
  st := h.st
  up := fun h1 a ha => by have := h.up hk a ha; have := h.st k (k + 1) (by omega) h1; omega
  cl := fun i hi hil j hj hkp => by
    by_cases e : i < k
    · exact h.cl i e hil j hj hkp
    · rw [show i = k by omega] at hkp ⊢; exact hq j hj hkp
theorem bfN_len (h : bfN ls n g A k) : A.length ≤ 2 ^ n := pigN _ A h.nd fun a ha => (h.rg a ha).1
end
/-- the moves from s to g: each time the first door that leads nearer -/
def dnP (ls : List (List Int)) (n s g : Nat) (i : Nat) : Bool := kpN ls (flN s i) && dfN s g i
def nxN (ls : List (List Int)) (n s g : Nat) : Nat := ((List.range n).find? (dnP ls n s g)).getD 0
def mvN (ls : List (List Int)) (n g : Nat) : Nat → Nat → List Nat
  | 0, _ => []
  | f + 1, s => if s = g then [] else nxN ls n s g :: mvN ls n g f (flN s (nxN ls n s g))
theorem nxN_p {ls : List (List Int)} {n s g : Nat} (hs : s < 2 ^ n) (hg : g < 2 ^ n) (ks : kpN ls s = true) (kg : kpN ls g = true) (h : ¬s = g) : nxN ls n s g < n ∧ dnP ls n s g (nxN ls n s g) = true ∧ ∀ j, j < nxN ls n s g → dnP ls n s g j = false := by
  have h1 : ¬hmN n s g = 0 := fun e => h (hmN_0 e hs hg)
  obtain ⟨i, hi, h2, h3⟩ := hmN_step (d := hmN n s g - 1) hs hg ks kg (by omega)
  unfold nxN
  cases e : (List.range n).find? (dnP ls n s g) with
  | none =>
    have := List.find?_range_eq_none.1 e i hi
    unfold dnP at this
    rw [h2, h3] at this; cases this
  | some j =>
    rw [List.find?_range_eq_some] at e
    exact ⟨by simpa using e.2.1, e.1, fun j hj => by simpa using e.2.2 j hj⟩
theorem nxN_at {ls : List (List Int)} {n s g i : Nat} (hi : i < n) (h1 : dnP ls n s g i = true) (h2 : ∀ j, j < i → dnP ls n s g j = false) : nxN ls n s g = i := by
  unfold nxN
  have : (List.range n).find? (dnP ls n s g) = some i := by
    rw [List.find?_range_eq_some]
    exact ⟨h1, by simpa using hi, fun j hj => by rw [h2 j hj]; rfl⟩
  rw [this]; rfl
end Go.Proofs.Ytpckcolkehgdaaa
