/- Contracts of functions of the program, and what they compute. Conditions: those that each theorem states. -/
import Derived.Test.YtfcnlpghdpfjkaaProg
import Derived.Test.YtfcnlpghdpfjkaaJ2
import Derived.Test.YtfcnlpghdpfjkaaH0
set_option linter.unusedVariables false
set_option linter.unusedSimpArgs false
namespace Go.Proofs.Ytfcnlpghdpfjkaa
open Go.Av
attribute [local irreducible] Go.IntKind.wrap leastI rdZ rd rootI rawA okMine treeC mshC
set_option maxRecDepth 20000
set_option maxHeartbeats 8000000

/-! Draughts of columns and along walks. Plain. -/
def wdI (t : Int) : Int := rdZ 3531183 (2731 + t)
theorem wdI_b {t : Int} (h : -301 ≤ t ∧ t ≤ 601) : 1000 ≤ wdI t ∧ wdI t ≤ 2000 :=
  ⟨rdZ_lo (by omega) (by omega), rdZ_hi (by omega) (by omega)⟩
def cdK (t : Int) : Int := 981 * (1200 - wdI t)
def cdI (r t : Int) : Int := rdZ (cdK t * r) 100000
theorem cdI_b {r t : Int} (hr : -6000 ≤ r ∧ r ≤ 6000) (ht : -301 ≤ t ∧ t ≤ 601) : (-784800 ≤ cdK t ∧ cdK t ≤ 784800) ∧ (-4708800000 ≤ cdK t * r ∧ cdK t * r ≤ 4708800000) ∧ -50000 ≤ cdI r t ∧ cdI r t ≤ 50000 := by
  have h1 := wdI_b ht
  have h0 : -784800 ≤ cdK t ∧ cdK t ≤ 784800 := by unfold cdK; omega
  have h2 : -4708800000 ≤ cdK t * r ∧ cdK t * r ≤ 4708800000 := by
    by_cases e : 0 ≤ r
    · have := mulB (a := cdK t) (b := r) (A := 784800) (B := 6000) h0 (by omega); omega
    · have := mulB (a := cdK t) (b := -r) (A := 784800) (B := 6000) h0 (by omega)
      rw [Int.mul_neg] at this; omega
  exact ⟨h0, h2, rdZ_lo (by omega) (by omega), rdZ_hi (by omega) (by omega)⟩
theorem rd_nr {x y : Int} (hx : 0 ≤ x) (hy : 0 < y) : -y ≤ 2 * (y * rd x y - x) ∧ 2 * (y * rd x y - x) ≤ y := by
  have h1 := Int.emod_nonneg x (show y ≠ 0 by omega); have h2 := Int.emod_lt_of_pos x hy
  have h3 := Int.mul_ediv_add_emod x y
  unfold rd
  split
  · rw [Int.mul_add, Int.mul_one]; omega
  · omega
theorem rdZ_nr {x y : Int} (hy : 0 < y) : -y ≤ 2 * (y * rdZ x y - x) ∧ 2 * (y * rdZ x y - x) ≤ y := by
  unfold rdZ
  split
  · rename_i h; exact rd_nr h hy
  · rename_i h
    have := rd_nr (x := -x) (y := y) (by omega) hy
    rw [Int.mul_neg]; omega
/-- the sum of numbers along a walk -/
def smL (f : Nat → Int) : List Int → Int
  | [] => 0
  | n :: w => sgW n * f (absI n - 1).toNat + smL f w
theorem smL_app {f : Nat → Int} : ∀ (u v : List Int), smL f (u ++ v) = smL f u + smL f v
  | [], v => by simp [smL]
  | n :: u, v => by rw [List.cons_append, smL, smL, smL_app u v]; omega
theorem smL_s {f : Nat → Int} {w : List Int} {i : Int} (h0 : 0 ≤ i) (hi : i < w.length) : smL f (w.take (i + 1).toNat) = smL f (w.take i.toNat) + sgW (w.getD i.toNat 0) * f (absI (w.getD i.toNat 0) - 1).toNat := by
  have hi2 : i.toNat < w.length := by omega
  rw [show (i + 1).toNat = i.toNat + 1 by omega, List.take_succ_eq_append_getElem hi2, smL_app, List.getD_eq_getElem?_getD, List.getElem?_eq_getElem hi2, Option.getD_some]
  simp [smL]
theorem sgW_b {n a A : Int} (h : -A ≤ a ∧ a ≤ A) : -A ≤ sgW n * a ∧ sgW n * a ≤ A := by
  unfold sgW; split <;> omega
theorem smL_b {f : Nat → Int} {A : Int} : ∀ (w : List Int), (∀ k : Nat, k < w.length → -A ≤ f (absI (w.getD k 0) - 1).toNat ∧ f (absI (w.getD k 0) - 1).toNat ≤ A) → -(w.length * A) ≤ smL f w ∧ smL f w ≤ w.length * A
  | [], _ => by simp [smL]
  | n :: w, h => by
    have h1 := sgW_b (n := n) (h 0 (by simp))
    have h2 := smL_b w fun k hk => by simpa using h (k + 1) (by simpa using hk)
    have e : ((w.length + 1 : Nat) : Int) * A = w.length * A + A := by rw [Int.natCast_add, Int.add_mul]; simp
    rw [smL, List.length_cons]
    simp only [List.getD_cons_zero] at h1
    omega
/-- a walk turned round -/
def rvW (w : List Int) : List Int := (w.map fun n => 0 - n).reverse
theorem rvW_len {w : List Int} : (rvW w).length = w.length := by simp [rvW]
theorem smL_rv {f : Nat → Int} : ∀ (w : List Int), (∀ k : Nat, k < w.length → 1 ≤ absI (w.getD k 0)) → smL f (rvW w) = -(smL f w)
  | [], _ => by simp [smL, rvW]
  | n :: w, h => by
    have h1 : 1 ≤ absI n := by simpa using h 0 (by simp)
    have h2 := smL_rv (f := f) w fun k hk => by simpa using h (k + 1) (by simpa using hk)
    have e : rvW (n :: w) = rvW w ++ [0 - n] := by simp [rvW]
    have e1 : absI (0 - n) = absI n := by unfold absI; omega
    have e2 : sgW (0 - n) = -(sgW n) := by
      have : absI n = max n (0 - n) := rfl
      unfold sgW
      by_cases c : 0 < n
      · rw [if_neg (by omega), if_pos c]
      · rw [if_pos (by omega), if_neg c]; rfl
    rw [e, smL_app, h2]
    simp only [smL]
    rw [e1, e2, Int.neg_mul]; omega
/-- where a number of a walk begins and ends -/
def begW (m : GMine) (n : Int) : Int := if 0 < n then (m.airways.getD (absI n - 1).toNat default).from_ else (m.airways.getD (absI n - 1).toNat default).to
def finW (m : GMine) (n : Int) : Int := if 0 < n then (m.airways.getD (absI n - 1).toNat default).to else (m.airways.getD (absI n - 1).toNat default).from_
/-- numbers that are a walk -/
def isW (m : GMine) (w : List Int) : Prop := ∀ k : Nat, k < w.length → (1 ≤ absI (w.getD k 0) ∧ absI (w.getD k 0) ≤ m.airways.length) ∧ (0 < k → begW m (w.getD k 0) = finW m (w.getD (k - 1) 0))
theorem wlk_st {m : GMine} {n a : Int} {w : List Int} (h : 0 ≤ wlk m (n :: w) a) : (1 ≤ absI n ∧ absI n ≤ m.airways.length) ∧ begW m n = a ∧ wlk m (n :: w) a = wlk m w (finW m n) := by
  rw [wlk_c] at h ⊢
  split at h
  · omega
  · rename_i h1
    have hx : 1 ≤ absI n ∧ absI n ≤ m.airways.length := by have : absI n = max n (0 - n) := rfl; omega
    rw [if_neg h1]
    unfold begW finW
    split at h
    · rename_i h2
      rw [if_pos h2, if_pos h2.1, if_pos h2.1]; exact ⟨hx, h2.2, rfl⟩
    · rename_i h2
      split at h
      · rename_i h3
        rw [if_neg h2, if_pos h3, if_neg (by omega), if_neg (by omega)]; exact ⟨hx, h3.2, rfl⟩
      · omega
theorem wlk_isW {m : GMine} : ∀ (w : List Int) (a : Int), 0 ≤ wlk m w a → isW m w ∧ (0 < w.length → begW m (w.getD 0 0) = a)
  | [], a, _ => ⟨fun k hk => absurd hk (by simp), fun h => absurd h (by simp)⟩
  | n :: w, a, h => by
    obtain ⟨h1, h2, h3⟩ := wlk_st h
    rw [h3] at h
    have ih := wlk_isW w _ h
    refine ⟨fun k hk => ?_, fun _ => by simpa using h2⟩
    cases k with
    | zero => exact ⟨by simpa using h1, fun e => absurd e (by omega)⟩
    | succ k =>
      rw [List.length_cons] at hk
      have := ih.1 k (by omega)
      refine ⟨by simpa using this.1, fun _ => ?_⟩
      rw [List.getD_cons_succ, Nat.add_sub_cancel]
      cases k with
      | zero => rw [List.getD_cons_zero]; exact ih.2 (by omega)
      | succ k => rw [List.getD_cons_succ]; exact this.2 (by omega)
theorem beg_neg {m : GMine} {n : Int} (h : 1 ≤ absI n) : begW m (0 - n) = finW m n ∧ finW m (0 - n) = begW m n := by
  have e : absI n = max n (0 - n) := rfl
  have e1 : absI (0 - n) = absI n := by unfold absI; omega
  unfold begW finW
  rw [e1]
  by_cases c : 0 < n
  · rw [if_neg (by omega), if_pos c, if_neg (by omega), if_pos c]; exact ⟨rfl, rfl⟩
  · rw [if_pos (by omega), if_neg c, if_pos (by omega), if_neg c]; exact ⟨rfl, rfl⟩
theorem rvW_get {w : List Int} {k : Nat} (h : k < w.length) : (rvW w).getD k 0 = 0 - w.getD (w.length - 1 - k) 0 := by
  unfold rvW
  rw [List.getD_eq_getElem?_getD, List.getElem?_reverse (by simpa using h), List.length_map, List.getElem?_map, List.getD_eq_getElem?_getD, List.getElem?_eq_getElem (by omega)]
  rfl
theorem isW_rv {m : GMine} {w : List Int} (h : isW m w) : isW m (rvW w) := by
  intro k hk
  rw [rvW_len] at hk
  have h1 := h (w.length - 1 - k) (by omega)
  rw [rvW_get hk]
  have e1 : absI (0 - w.getD (w.length - 1 - k) 0) = absI (w.getD (w.length - 1 - k) 0) := by unfold absI; omega
  refine ⟨by rw [e1]; exact h1.1, fun hk0 => ?_⟩
  rw [rvW_get (by omega), (beg_neg h1.1.1).1]
  have h2 := h (w.length - 1 - (k - 1)) (by omega)
  rw [(beg_neg h2.1.1).2, h2.2 (by omega)]
  congr 2; omega
/-- with one temperature, what is gathered along a walk is nearly what its ends tell -/
theorem sm_near {m : GMine} {lv : List Int} {t : Int} {f : Nat → Int} (hf : ∀ k : Nat, k < m.airways.length → f k = cdI (lv.getD (m.airways.getD k default).to.toNat 0 - lv.getD (m.airways.getD k default).from_.toNat 0) t) :
    ∀ (w : List Int) (a : Int), 0 ≤ wlk m w a → -(100000 * w.length) ≤ 2 * (100000 * smL f w - cdK t * (lv.getD (wlk m w a).toNat 0 - lv.getD a.toNat 0)) ∧ 2 * (100000 * smL f w - cdK t * (lv.getD (wlk m w a).toNat 0 - lv.getD a.toNat 0)) ≤ 100000 * w.length
  | [], a, _ => by
    have : wlk m [] a = a := rfl
    rw [this, Int.sub_self, Int.mul_zero]; simp [smL]
  | n :: w, a, h => by
    obtain ⟨h1, h2, h3⟩ := wlk_st h
    rw [h3] at h ⊢
    have ih := sm_near hf w _ h
    have hk := hf (absI n - 1).toNat (by omega)
    have key : -100000 ≤ 2 * (100000 * (sgW n * f (absI n - 1).toNat) - cdK t * (lv.getD (finW m n).toNat 0 - lv.getD a.toNat 0)) ∧ 2 * (100000 * (sgW n * f (absI n - 1).toNat) - cdK t * (lv.getD (finW m n).toNat 0 - lv.getD a.toNat 0)) ≤ 100000 := by
      rw [← h2, hk]
      unfold cdI begW finW sgW
      have q := rdZ_nr (x := cdK t * (lv.getD (m.airways.getD (absI n - 1).toNat default).to.toNat 0 - lv.getD (m.airways.getD (absI n - 1).toNat default).from_.toNat 0)) (y := 100000) (by omega)
      by_cases c : 0 < n
      · rw [if_pos c, if_pos c, if_pos c]; omega
      · rw [if_neg c, if_neg c, if_neg c]
        have e : cdK t * (lv.getD (m.airways.getD (absI n - 1).toNat default).from_.toNat 0 - lv.getD (m.airways.getD (absI n - 1).toNat default).to.toNat 0) = -(cdK t * (lv.getD (m.airways.getD (absI n - 1).toNat default).to.toNat 0 - lv.getD (m.airways.getD (absI n - 1).toNat default).from_.toNat 0)) := by
          rw [← Int.mul_neg]; congr 1; omega
        rw [e]; omega
    have e : cdK t * (lv.getD (wlk m w (finW m n)).toNat 0 - lv.getD a.toNat 0) = cdK t * (lv.getD (wlk m w (finW m n)).toNat 0 - lv.getD (finW m n).toNat 0) + cdK t * (lv.getD (finW m n).toNat 0 - lv.getD a.toNat 0) := by
      rw [← Int.mul_add]; congr 1; omega
    rw [smL, e, List.length_cons]
    omega
/-- a mesh has no draught but rounding -/
theorem sm_msh {m : GMine} {lv : List Int} {t : Int} {f : Nat → Int} (hf : ∀ k : Nat, k < m.airways.length → f k = cdI (lv.getD (m.airways.getD k default).to.toNat 0 - lv.getD (m.airways.getD k default).from_.toNat 0) t) {w : List Int} (h : mshG m w) : absI (smL f w) ≤ w.length := by
  have := sm_near hf w _ (by rw [h.p.wk]; exact h.st)
  rw [h.p.wk, Int.sub_self, Int.mul_zero] at this
  unfold absI
  omega
end Go.Proofs.Ytfcnlpghdpfjkaa
