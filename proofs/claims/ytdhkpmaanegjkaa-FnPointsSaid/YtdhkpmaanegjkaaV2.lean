/- Contracts of functions of the program, and what they compute. Conditions: those that each theorem states. -/
import Derived.Test.YtdhkpmaanegjkaaProg
import Derived.Test.YtdhkpmaanegjkaaV1
set_option linter.unusedVariables false
set_option linter.unusedSimpArgs false
namespace Go.Proofs.Ytdhkpmaanegjkaa
open Go.Av
attribute [local irreducible] Go.IntKind.wrap leastI rdZ rd rootI rawA okMine
set_option maxRecDepth 20000
set_option maxHeartbeats 8000000

/-! What is reached along some airways; a tree. -/
section
variable {m : GMine} {ls A : List Int} {f x : Int} {j k : Int}
/-- the first j airways lead from x into A only -/
def qjI (m : GMine) (ls A : List Int) (x j : Int) : Prop := ∀ i : Nat, (i : Int) < j → ∀ u, otherA (m.airways.getD (ls.getD i 0).toNat default) x = (u, true) → u ∈ A
theorem qj_0 : qjI m ls A x 0 := fun i hi => absurd hi (by omega)
theorem qj_add (h : qjI m ls A x j) (h0 : 0 ≤ j) {v : Int} (hv : v = (otherA (m.airways.getD (ls.getD j.toNat 0).toNat default) x).1) : qjI m ls (A ++ [v]) x (j + 1) := by
  intro i hi u hu
  by_cases e : (i : Int) = j
  · rw [show j.toNat = i by omega, hu] at hv
    rw [hv]; simp
  · exact List.mem_append_left _ (h i (by omega) u hu)
theorem qj_keep (h : qjI m ls A x j) (h0 : 0 ≤ j) (hk : (otherA (m.airways.getD (ls.getD j.toNat 0).toNat default) x).2 = true → (otherA (m.airways.getD (ls.getD j.toNat 0).toNat default) x).1 ∈ A) : qjI m ls A x (j + 1) := by
  intro i hi u hu
  by_cases e : (i : Int) = j
  · rw [show j.toNat = i by omega, hu] at hk
    exact hk rfl
  · exact h i (by omega) u hu
theorem qj_end (h : qjI m ls A x j) (hj : ls.length ≤ j) : ∀ u, stA m ls x u → u ∈ A := by
  rintro u ⟨i, h1, h2, h3⟩
  obtain ⟨p, hp, rfl⟩ := List.getElem_of_mem h1
  refine h p (by omega) u ?_
  rw [show ls.getD p 0 = ls[p] by rw [List.getD_eq_getElem?_getD, List.getElem?_eq_getElem hp]; rfl]
  exact h3
theorem oth_st (h0 : 0 ≤ j) (hj : j < ls.length) (hl : ∀ i ∈ ls, 0 ≤ i ∧ i < m.airways.length) (h : (otherA (m.airways.getD (ls.getD j.toNat 0).toNat default) x).2 = true) : stA m ls x (otherA (m.airways.getD (ls.getD j.toNat 0).toNat default) x).1 :=
  ⟨ls.getD j.toNat 0, getD_mem (by omega), hl _ (getD_mem (by omega)), by rw [← h]⟩
theorem lsB (hl : ∀ i ∈ ls, 0 ≤ i ∧ i < m.airways.length) (h0 : 0 ≤ j) (hj : j < ls.length) : 0 ≤ ls.getD j.toNat 0 ∧ ls.getD j.toNat 0 < m.airways.length := hl _ (getD_mem (by omega))
end
theorem take_all {A : List Int} {n : Nat} (h : n = A.length) : A.take n = A := by rw [h, List.take_length]
/-- a tree: airways, in order; what is joined without one is joined by others -/
structure trI (m : GMine) (T : List Int) (i : Int) : Prop where
  rg : ∀ x ∈ T, 0 ≤ x ∧ x < i
  so : T.Pairwise (· < ·)
  cn : ∀ x : Int, 0 ≤ x → x < i → x ∉ T → cnA m T (m.airways.getD x.toNat default).from_ (m.airways.getD x.toNat default).to
theorem trI_0 {m : GMine} : trI m [] 0 := ⟨by simp, by simp, fun x h0 h1 => by omega⟩
theorem trI_add {m : GMine} {T : List Int} {i : Int} (h : trI m T i) (h0 : 0 ≤ i) : trI m (T ++ [i]) (i + 1) where
  rg := fun x hx => by
    rcases List.mem_append.1 hx with hx | hx
    · have := h.rg x hx; omega
    · rw [List.mem_singleton.1 hx]; omega
  so := by
    rw [List.pairwise_append]
    exact ⟨h.so, by simp, fun a ha b hb => by rw [List.mem_singleton.1 hb]; exact (h.rg a ha).2⟩
  cn := fun x h1 h2 hx => by
    rw [List.mem_append, not_or] at hx
    have e : x ≠ i := fun e => hx.2 (by rw [e]; simp)
    obtain ⟨n, hn⟩ := h.cn x h1 (by omega) hx.1
    exact ⟨n, wkA_mono (fun y hy => List.mem_append_left _ hy) n _ _ hn⟩
theorem trI_keep {m : GMine} {T : List Int} {i : Int} (h : trI m T i) (h0 : 0 ≤ i) (hc : cnA m T (m.airways.getD i.toNat default).from_ (m.airways.getD i.toNat default).to) : trI m T (i + 1) where
  rg := fun x hx => by have := h.rg x hx; omega
  so := h.so
  cn := fun x h1 h2 hx => by
    by_cases e : x = i
    · rw [e]; exact hc
    · exact h.cn x h1 (by omega) hx
theorem trI_len {m : GMine} {T : List Int} {i : Int} (h : trI m T i) (h0 : 0 ≤ i) : (T.length : Int) ≤ i := by
  have := pigW i.toNat T (h.so.imp fun e => by omega) (fun x hx => by have := h.rg x hx; omega)
  omega
/-- all airways -/
theorem all_i {ys : List Int} {L : Nat} (h : ys.length = L) (h2 : ∀ j : Nat, (j : Int) < L → ys.getD j 0 = j) : ys = iotaI 0 L :=
  iota_of h fun j hj => by rw [h2 j (by omega)]; omega
end Go.Proofs.Ytdhkpmaanegjkaa
