/- Contracts of functions of the program, and what they compute. Conditions: those that each theorem states. -/
import Derived.Test.YtdhkpmaanegjkaaProg
import Derived.Test.YtdhkpmaanegjkaaK8
import Derived.Test.YtdhkpmaanegjkaaK3
set_option linter.unusedVariables false
set_option linter.unusedSimpArgs false
namespace Go.Proofs.Ytdhkpmaanegjkaa
open Go.Av
attribute [local irreducible] Go.IntKind.wrap okModes okMode
set_option maxRecDepth 20000
set_option maxHeartbeats 2000000

/-- a number up to a limit for each hour -/
def okHours (xs : List Int) (most : Int) : Bool := decide (xs.length = 24) && xs.all (inR · 0 most)
theorem okHours_iff {xs : List Int} {most : Int} : okHours xs most = true ↔ xs.length = 24 ∧ ∀ j : Nat, (j : Int) < 24 → 0 ≤ xs.getD j 0 ∧ xs.getD j 0 ≤ most := by
  unfold okHours
  rw [Bool.and_eq_true, decide_eq_true_eq, all_iff (d := 0)]
  constructor
  · rintro ⟨h1, h2⟩; exact ⟨h1, fun j hj => inR_iff.1 (h2 j (by omega))⟩
  · rintro ⟨h1, h2⟩; exact ⟨h1, fun j hj => inR_iff.2 (h2 j (by omega))⟩
theorem okModes_p {ms : List GMode} (h : okModes ms = true) : ms.length ≤ 8 ∧ ∀ j : Nat, (j : Int) < ms.length → okMode (ms.getD j default) = true := by
  unfold okModes okAll at h
  simp only [Bool.and_eq_true, decide_eq_true_eq] at h
  exact ⟨h.2, fun j hj => all_iff.1 h.1.1 j hj⟩
theorem okMode_b {x : GMode} (h : okMode x = true) : (0 ≤ x.flow ∧ x.flow ≤ 100000) ∧ 0 ≤ x.power ∧ x.power ≤ 10000000 := by
  simp only [okMode, Bool.and_eq_true, inR_iff] at h; omega
/-- the mode of an hour -/
def modeAt (ms : List GMode) (day : List Int) (j : Nat) : GMode := ms.getD (day.getD j 0).toNat default
theorem modeAt_b {ms : List GMode} {day : List Int} (h : okModes ms = true) (hd : okHours day (ms.length - 1) = true) {j : Nat} (hj : (j : Int) < 24) : (0 ≤ day.getD j 0 ∧ day.getD j 0 < ms.length) ∧ (0 ≤ (modeAt ms day j).flow ∧ (modeAt ms day j).flow ≤ 100000) ∧ 0 ≤ (modeAt ms day j).power ∧ (modeAt ms day j).power ≤ 10000000 := by
  have h1 := (okHours_iff.1 hd).2 j hj
  exact ⟨by omega, okMode_b ((okModes_p h).2 _ (by omega))⟩
def allN (n : Nat) (p : Nat → Bool) : Bool := (List.range n).all p
theorem allN_t {n : Nat} {p : Nat → Bool} {i : Int} (hi : (n : Int) ≤ i) (h : ∀ j : Nat, (j : Int) < i → p j = true) : allN n p = true :=
  List.all_eq_true.2 fun j hj => h j (by have := List.mem_range.1 hj; omega)
theorem allN_f {n : Nat} {p : Nat → Bool} {i : Int} (h0 : 0 ≤ i) (hi : i < n) (h : p i.toNat = false) : allN n p = false :=
  Bool.eq_false_iff.2 fun hh => by rw [List.all_eq_true.1 hh i.toNat (List.mem_range.2 (by omega))] at h; cases h
def fitsM (ms : List GMode) (needs day : List Int) (j : Nat) : Bool := decide (needs.getD j 0 ≤ (modeAt ms day j).flow)
def isDay (ms : List GMode) (needs day : List Int) : Bool := okModes ms && okHours needs 100000 && okHours day (ms.length - 1) && allN 24 (fitsM ms needs day)
theorem ok3 {ms : List GMode} {a b : Bool} (h : ¬(okModes ms = false ∨ a = false) ∧ b = true) : okModes ms = true ∧ a = true ∧ b = true := by
  cases a <;> cases b <;> simp_all
theorem isDay_all {ms : List GMode} {needs day : List Int} (h : okModes ms = true ∧ okHours needs 100000 = true ∧ okHours day (ms.length - 1) = true) : isDay ms needs day = allN 24 (fitsM ms needs day) := by
  unfold isDay; rw [h.1, h.2.1, h.2.2]; simp
theorem dayB {ms : List GMode} {day : List Int} (h : okHours day (ms.length - 1) = true) : day.length = 24 ∧ ∀ j : Nat, (j : Int) < 24 → 0 ≤ day.getD j 0 ∧ day.getD j 0 < ms.length := by
  have h1 := okHours_iff.1 h
  exact ⟨h1.1, fun j hj => by have := h1.2 j hj; omega⟩
end Go.Proofs.Ytdhkpmaanegjkaa
