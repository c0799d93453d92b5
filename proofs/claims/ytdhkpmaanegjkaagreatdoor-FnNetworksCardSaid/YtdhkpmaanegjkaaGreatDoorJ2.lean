/- Contracts of functions of the program, and what they compute. Conditions: those that each theorem states. -/
import Derived.Test.YtdhkpmaanegjkaaGreatDoorProg
import Derived.Test.YtdhkpmaanegjkaaGreatDoorB8
set_option linter.unusedVariables false
set_option linter.unusedSimpArgs false
namespace Go.Proofs.YtdhkpmaanegjkaaGreatDoor
open Go.Av
attribute [local irreducible] Go.IntKind.wrap okMine treeC mshC
set_option maxRecDepth 20000
set_option maxHeartbeats 8000000
section
variable {m : GMine} {T ls : List Int} {to : Int}
theorem WlkR.ex (hm : okMine m = true) : ∀ (n : Nat) (u : Int), dsA m ls n u to → ∃ ws, WlkR m ls to n u ws
  | 0, u, h => by
    obtain rfl : u = to := h.1
    exact ⟨[], .nil⟩
  | n + 1, u, h => by
    obtain ⟨x, ⟨i, h1, h2, h3⟩, hn⟩ := h.1
    have hd : dsA m ls n x to := ⟨hn, fun k hk => by have := h.2 (k + 1) ⟨x, ⟨i, h1, h2, h3⟩, hk⟩; omega⟩
    obtain ⟨q, hq, hg⟩ := List.getElem_of_mem h1
    have hg' : ls.getD q 0 = i := by rw [List.getD_eq_getElem?_getD, List.getElem?_eq_getElem hq]; exact hg
    have hx : ∃ q : Nat, q < ls.length ∧ ∃ v, otherA (m.airways.getD (ls.getD q 0).toNat default) u = (v, true) ∧ dsA m ls n v to := ⟨q, hq, x, by rw [hg']; exact h3, hd⟩
    obtain ⟨Q, ⟨a1, v, a2, a3⟩, a4⟩ : ∃ Q : Nat, (Q < ls.length ∧ ∃ v, otherA (m.airways.getD (ls.getD Q 0).toNat default) u = (v, true) ∧ dsA m ls n v to) ∧ ∀ i : Nat, i < Q → ¬(i < ls.length ∧ ∃ v, otherA (m.airways.getD (ls.getD i 0).toNat default) u = (v, true) ∧ dsA m ls n v to) := by
      obtain ⟨q0, hq0⟩ := hx
      clear hq hg hg' q
      induction q0 using Nat.strongRecOn with
      | _ q0 ih =>
        by_cases c : ∃ i : Nat, i < q0 ∧ (i < ls.length ∧ ∃ v, otherA (m.airways.getD (ls.getD i 0).toNat default) u = (v, true) ∧ dsA m ls n v to)
        · obtain ⟨i, hi, hp⟩ := c
          exact ih i hi hp
        · exact ⟨q0, hq0, fun i hi hp => c ⟨i, hi, hp⟩⟩
    obtain ⟨ws, hw⟩ := WlkR.ex hm n v a3
    exact ⟨_, .cons a1 a2 h (fun i hi e hd2 => a4 i hi ⟨by omega, (otherA (m.airways.getD (ls.getD i 0).toNat default) u).1, by rw [← e], hd2⟩) hw⟩
theorem cn_ds {u v : Int} (h : cnA m ls u v) : ∃ n, dsA m ls n u v := by
  obtain ⟨n, hn⟩ := h
  induction n using Nat.strongRecOn with
  | _ n ih =>
    by_cases c : ∃ k, k < n ∧ wkA m ls k u v
    · obtain ⟨k, hk, hp⟩ := c
      exact ih k hk hp
    · exact ⟨n, hn, fun k hk => by
        by_cases e : n ≤ k
        · exact e
        · exact absurd ⟨k, by omega, hk⟩ c⟩
theorem MshR.ex (hm : okMine m = true) (hT : T = treeC m m.airways.length) : ∀ i : Nat, i ≤ m.airways.length → ∃ ss, MshR m T i ss
  | 0, _ => ⟨[], .nil⟩
  | i + 1, hi => by
    obtain ⟨ss, h⟩ := MshR.ex hm hT i (by omega)
    by_cases c : (i : Int) ∈ T
    · exact ⟨ss, .tree h c⟩
    · have hc := tT_cn hm hT (i := i) (by omega) (by omega) c
      rw [Int.toNat_natCast] at hc
      obtain ⟨n, hn⟩ := cn_ds hc
      obtain ⟨ws, hw⟩ := WlkR.ex hm n _ hn
      exact ⟨_, .mesh h c hw⟩
theorem mshC_R (hm : okMine m = true) : MshR m (treeC m m.airways.length) m.airways.length (mshC m) := by
  obtain ⟨ss, h⟩ := MshR.ex hm rfl m.airways.length (Nat.le_refl _)
  exact (mshC_of h).2
def edW (m : GMine) (ls : List Int) (to x : Int) (d : Nat) : Prop := ∃ u v, x ≠ 0 ∧ (absI x - 1) ∈ ls ∧ otherA (m.airways.getD (absI x - 1).toNat default) u = (v, true) ∧ dsA m ls (d + 1) u to ∧ dsA m ls d v to
theorem absI_pr {i : Int} (h : 0 ≤ i) : absI (i + 1) = i + 1 := by unfold absI; omega
theorem absI_ng {i : Int} (h : 0 ≤ i) : absI (-i - 1) = i + 1 := by unfold absI; omega
theorem absI_s {a : Int} {i : Nat} : absI (spL m a i) = (i : Int) + 1 := by
  unfold spL
  split
  · exact absI_pr (by omega)
  · exact absI_ng (by omega)
theorem WlkR.nd (hm : okMine m = true) (hl : ∀ i ∈ ls, 0 ≤ i ∧ i < m.airways.length) {n : Nat} {u : Int} {ws : List Int} (h : WlkR m ls to n u ws) : (∀ x ∈ ws, ∃ d, d < n ∧ edW m ls to x d) ∧ (ws.map absI).Nodup := by
  induction h with
  | nil => exact ⟨fun x hx => by simp at hx, by simp⟩
  | @cons n u v q ws hq ho hd hf h ih =>
    have hr := hl (ls.getD q 0) (getD_mem hq)
    have e1 : absI (spL m u (ls.getD q 0).toNat) - 1 = ls.getD q 0 := by rw [absI_s]; omega
    refine ⟨fun x hx => ?_, ?_⟩
    · rcases List.mem_cons.1 hx with rfl | hx
      · refine ⟨n, by omega, u, v, fun e => ?_, by rw [e1]; exact getD_mem hq, by rw [e1]; exact ho, hd, h.ds⟩
        rw [e] at e1; unfold absI at e1; omega
      · obtain ⟨d, d1, d2⟩ := ih.1 x hx
        exact ⟨d, by omega, d2⟩
    · rw [List.map_cons]
      refine List.nodup_cons.2 ⟨fun hx => ?_, ih.2⟩
      obtain ⟨x, hx, ex⟩ := List.mem_map.1 hx
      obtain ⟨d, d1, u2, v2, d2, d3, d4, d5, d6⟩ := ih.1 x hx
      rw [ex, e1] at d4
      rcases oth_p hm hr ho with ⟨a1, a2⟩ | ⟨a1, a2⟩ <;> rcases oth_p hm hr d4 with ⟨b1, b2⟩ | ⟨b1, b2⟩
      · rw [b1, ← a1] at d5; have := dsA_fun hd d5; omega
      · rw [b2, ← a1] at d6; have := dsA_fun hd d6; omega
      · rw [b2, ← a1] at d6; have := dsA_fun hd d6; omega
      · rw [b1, ← a1] at d5; have := dsA_fun hd d5; omega
theorem MshR.nd (hm : okMine m = true) (hT : ∀ i ∈ T, 0 ≤ i ∧ i < m.airways.length) {i : Nat} {ss : List (List Int)} (h : MshR m T i ss) : ∀ w ∈ ss, (w.map absI).Nodup := by
  induction h with
  | nil => intro w hw; simp at hw
  | tree _ _ ih => exact ih
  | @mesh i n ss ws h hi hw ih =>
    intro w hw2
    rcases List.mem_append.1 hw2 with hw2 | hw2
    · exact ih w hw2
    · obtain rfl := List.mem_singleton.1 hw2
      have k := hw.nd hm hT
      rw [List.map_cons]
      refine List.nodup_cons.2 ⟨fun hx => ?_, k.2⟩
      obtain ⟨x, hx, ex⟩ := List.mem_map.1 hx
      obtain ⟨d, _, _, _, _, d3, _⟩ := k.1 x hx
      rw [ex, absI_pr (by omega), show (i : Int) + 1 - 1 = i by omega] at d3
      exact hi d3
end
abbrev ixW (n : Int) : Nat := (absI n - 1).toNat
end Go.Proofs.YtdhkpmaanegjkaaGreatDoor
