/- Contracts of functions of the program, and what they compute. Conditions: those that each theorem states. -/
import Derived.Test.YtfcnlpghdpfjkaaProg
import Derived.Test.YtfcnlpghdpfjkaaB8
set_option linter.unusedVariables false
set_option linter.unusedSimpArgs false
namespace Go.Proofs.Ytfcnlpghdpfjkaa
open Go.Av
attribute [local irreducible] Go.IntKind.wrap leastI rdZ rd rootI okMine treeC mshC
set_option maxRecDepth 20000
set_option maxHeartbeats 8000000

/-! Meshes exist, and pass each airway once at most; flows along walks, and what comes to junctions. Plain. -/
section
variable {m : GMine} {T ls : List Int} {to : Int}
theorem WlkR.ex (hm : okMine m = true) : ∀ (n : Nat) (u : Int), dsA m ls n u to → ∃ ws, WlkR m ls to n u ws
  | 0, u, h => by
    obtain rfl : u = to := h.1
    exact ⟨[], .nil⟩
  | n + 1, u, h => by
    obtain ⟨x, ⟨i, h1, h2, h3⟩, hn⟩ := h.1
    have hd : dsA m ls n x to := ⟨hn, fun k hk => by have := h.2 (k + 1) ⟨x, ⟨i, h1, h2, h3⟩, hk⟩; omega⟩
    obtain ⟨q, hq, hg⟩ := List.getElem_of_mem h1
    have hg' : ls.getD q 0 = i := by rw [List.getD_eq_getElem?_getD, List.getElem?_eq_getElem hq]; exact hg
    have hx : ∃ q : Nat, q < ls.length ∧ ∃ v, otherA (m.airways.getD (ls.getD q 0).toNat default) u = (v, true) ∧ dsA m ls n v to := ⟨q, hq, x, by rw [hg']; exact h3, hd⟩
    obtain ⟨Q, ⟨a1, v, a2, a3⟩, a4⟩ : ∃ Q : Nat, (Q < ls.length ∧ ∃ v, otherA (m.airways.getD (ls.getD Q 0).toNat default) u = (v, true) ∧ dsA m ls n v to) ∧ ∀ i : Nat, i < Q → ¬(i < ls.length ∧ ∃ v, otherA (m.airways.getD (ls.getD i 0).toNat default) u = (v, true) ∧ dsA m ls n v to) := by
      obtain ⟨q0, hq0⟩ := hx
      clear hq hg hg' q
      induction q0 using Nat.strongRecOn with
      | _ q0 ih =>
        by_cases c : ∃ i : Nat, i < q0 ∧ (i < ls.length ∧ ∃ v, otherA (m.airways.getD (ls.getD i 0).toNat default) u = (v, true) ∧ dsA m ls n v to)
        · obtain ⟨i, hi, hp⟩ := c
          exact ih i hi hp
        · exact ⟨q0, hq0, fun i hi hp => c ⟨i, hi, hp⟩⟩
    obtain ⟨ws, hw⟩ := WlkR.ex hm n v a3
    exact ⟨_, .cons a1 a2 h (fun i hi e hd2 => a4 i hi ⟨by omega, (otherA (m.airways.getD (ls.getD i 0).toNat default) u).1, by rw [← e], hd2⟩) hw⟩
theorem cn_ds {u v : Int} (h : cnA m ls u v) : ∃ n, dsA m ls n u v := by
  obtain ⟨n, hn⟩ := h
  induction n using Nat.strongRecOn with
  | _ n ih =>
    by_cases c : ∃ k, k < n ∧ wkA m ls k u v
    · obtain ⟨k, hk, hp⟩ := c
      exact ih k hk hp
    · exact ⟨n, hn, fun k hk => by
        by_cases e : n ≤ k
        · exact e
        · exact absurd ⟨k, by omega, hk⟩ c⟩
theorem MshR.ex (hm : okMine m = true) (hT : T = treeC m m.airways.length) : ∀ i : Nat, i ≤ m.airways.length → ∃ ss, MshR m T i ss
  | 0, _ => ⟨[], .nil⟩
  | i + 1, hi => by
    obtain ⟨ss, h⟩ := MshR.ex hm hT i (by omega)
    by_cases c : (i : Int) ∈ T
    · exact ⟨ss, .tree h c⟩
    · have hc := tT_cn hm hT (i := i) (by omega) (by omega) c
      rw [Int.toNat_natCast] at hc
      obtain ⟨n, hn⟩ := cn_ds hc
      obtain ⟨ws, hw⟩ := WlkR.ex hm n _ hn
      exact ⟨_, .mesh h c hw⟩
theorem mshC_R (hm : okMine m = true) : MshR m (treeC m m.airways.length) m.airways.length (mshC m) := by
  obtain ⟨ss, h⟩ := MshR.ex hm rfl m.airways.length (Nat.le_refl _)
  exact (mshC_of h).2
theorem mshC_I (hm : okMine m = true) : mshI m (mshC m) m.airways.length := (mshC_R hm).I hm (tT_rg rfl) (Nat.le_refl _)
/-- a number of a walk: its airway leads from one distance to the next -/
def edW (m : GMine) (ls : List Int) (to x : Int) (d : Nat) : Prop := ∃ u v, x ≠ 0 ∧ (absI x - 1) ∈ ls ∧ otherA (m.airways.getD (absI x - 1).toNat default) u = (v, true) ∧ dsA m ls (d + 1) u to ∧ dsA m ls d v to
theorem absI_pr {i : Int} (h : 0 ≤ i) : absI (i + 1) = i + 1 := by unfold absI; omega
theorem absI_ng {i : Int} (h : 0 ≤ i) : absI (-i - 1) = i + 1 := by unfold absI; omega
theorem absI_s {a : Int} {i : Nat} : absI (spL m a i) = (i : Int) + 1 := by
  unfold spL
  split
  · exact absI_pr (by omega)
  · exact absI_ng (by omega)
theorem WlkR.nd (hm : okMine m = true) (hl : ∀ i ∈ ls, 0 ≤ i ∧ i < m.airways.length) {n : Nat} {u : Int} {ws : List Int} (h : WlkR m ls to n u ws) : (∀ x ∈ ws, ∃ d, d < n ∧ edW m ls to x d) ∧ (ws.map absI).Nodup := by
  induction h with
  | nil => exact ⟨fun x hx => by simp at hx, by simp⟩
  | @cons n u v q ws hq ho hd hf h ih =>
    have hr := hl (ls.getD q 0) (getD_mem hq)
    have e1 : absI (spL m u (ls.getD q 0).toNat) - 1 = ls.getD q 0 := by rw [absI_s]; omega
    refine ⟨fun x hx => ?_, ?_⟩
    · rcases List.mem_cons.1 hx with rfl | hx
      · refine ⟨n, by omega, u, v, fun e => ?_, by rw [e1]; exact getD_mem hq, by rw [e1]; exact ho, hd, h.ds⟩
        rw [e] at e1; unfold absI at e1; omega
      · obtain ⟨d, d1, d2⟩ := ih.1 x hx
        exact ⟨d, by omega, d2⟩
    · rw [List.map_cons]
      refine List.nodup_cons.2 ⟨fun hx => ?_, ih.2⟩
      obtain ⟨x, hx, ex⟩ := List.mem_map.1 hx
      obtain ⟨d, d1, u2, v2, d2, d3, d4, d5, d6⟩ := ih.1 x hx
      rw [ex, e1] at d4
      rcases oth_p hm hr ho with ⟨a1, a2⟩ | ⟨a1, a2⟩ <;> rcases oth_p hm hr d4 with ⟨b1, b2⟩ | ⟨b1, b2⟩
      · rw [b1, ← a1] at d5; have := dsA_fun hd d5; omega
      · rw [b2, ← a1] at d6; have := dsA_fun hd d6; omega
      · rw [b2, ← a1] at d6; have := dsA_fun hd d6; omega
      · rw [b1, ← a1] at d5; have := dsA_fun hd d5; omega
theorem MshR.nd (hm : okMine m = true) (hT : ∀ i ∈ T, 0 ≤ i ∧ i < m.airways.length) {i : Nat} {ss : List (List Int)} (h : MshR m T i ss) : ∀ w ∈ ss, (w.map absI).Nodup := by
  induction h with
  | nil => intro w hw; simp at hw
  | tree _ _ ih => exact ih
  | @mesh i n ss ws h hi hw ih =>
    intro w hw2
    rcases List.mem_append.1 hw2 with hw2 | hw2
    · exact ih w hw2
    · obtain rfl := List.mem_singleton.1 hw2
      have k := hw.nd hm hT
      rw [List.map_cons]
      refine List.nodup_cons.2 ⟨fun hx => ?_, k.2⟩
      obtain ⟨x, hx, ex⟩ := List.mem_map.1 hx
      obtain ⟨d, _, _, _, _, d3, _⟩ := k.1 x hx
      rw [ex, absI_pr (by omega), show (i : Int) + 1 - 1 = i by omega] at d3
      exact hi d3
end
/-- what is known of a mesh -/
structure mshG (m : GMine) (w : List Int) : Prop where
  p : mshP m w
  nd : (w.map absI).Nodup
  st : 0 ≤ (m.airways.getD (w.getD 0 0 - 1).toNat default).from_
  ix : ∀ k : Nat, k < w.length → 1 ≤ absI (w.getD k 0) ∧ absI (w.getD k 0) ≤ m.airways.length
theorem wlk_ix {m : GMine} : ∀ (w : List Int) (a : Int), 0 ≤ wlk m w a → ∀ k : Nat, k < w.length → 1 ≤ absI (w.getD k 0) ∧ absI (w.getD k 0) ≤ m.airways.length
  | [], a, h, k, hk => absurd hk (by simp)
  | x :: w, a, h, k, hk => by
    rw [wlk_c] at h
    split at h
    · omega
    · rename_i h1
      have hx : 1 ≤ absI x ∧ absI x ≤ m.airways.length := by have : absI x = max x (0 - x) := rfl; omega
      cases k with
      | zero => simpa using hx
      | succ k =>
        rw [List.length_cons] at hk
        rw [List.getD_cons_succ]
        split at h
        · exact wlk_ix w _ h k (by omega)
        · split at h
          · exact wlk_ix w _ h k (by omega)
          · omega
theorem mshC_G {m : GMine} (hm : okMine m = true) {j : Nat} (hj : j < (mshC m).length) : mshG m ((mshC m).getD j []) := by
  have p := (mshC_I hm).at_ j hj
  have q := (okMine_p hm).2.2 (((mshC m).getD j []).getD 0 0 - 1).toNat (by have := p.hd; omega)
  exact ⟨p, (mshC_R hm).nd hm (tT_rg rfl) _ (getD_mem hj), q.2.1.1, wlk_ix _ _ (by rw [p.wk]; exact q.2.1.1)⟩
theorem mshC_len {m : GMine} (hm : okMine m = true) : (mshC m).length ≤ 24 := by
  have := (mshC_I hm).ln
  have := (okMine_p hm).2.1
  omega

/-! Flows along walks. -/
abbrev ixW (n : Int) : Nat := (absI n - 1).toNat
def sgW (n : Int) : Int := if 0 < n then 1 else -1
def addW (fl : List Int) : List Int → Int → List Int
  | [], _ => fl
  | n :: w, a => addW (fl.set (ixW n) (fl.getD (ixW n) 0 + sgW n * a)) w a
theorem addW_app (a : Int) : ∀ (u v fl : List Int), addW fl (u ++ v) a = addW (addW fl u a) v a
  | [], v, fl => rfl
  | n :: u, v, fl => by rw [List.cons_append, addW, addW, addW_app a u v]
theorem addW_len (a : Int) : ∀ (w fl : List Int), (addW fl w a).length = fl.length
  | [], fl => rfl
  | n :: w, fl => by rw [addW, addW_len a w, List.length_set]
theorem addW_s {a i : Int} {w fl : List Int} (h0 : 0 ≤ i) (hi : i < w.length) : addW fl (w.take (i + 1).toNat) a = (addW fl (w.take i.toNat) a).set (ixW (w.getD i.toNat 0)) ((addW fl (w.take i.toNat) a).getD (ixW (w.getD i.toNat 0)) 0 + sgW (w.getD i.toNat 0) * a) := by
  have hi2 : i.toNat < w.length := by omega
  rw [show (i + 1).toNat = i.toNat + 1 by omega, List.take_succ_eq_append_getElem hi2, addW_app, List.getD_eq_getElem?_getD (l := w), List.getElem?_eq_getElem hi2, Option.getD_some]
  rfl
/-- a coarse bound, while one goes along -/
theorem addW_b {a B A : Int} (hA : -A ≤ a ∧ a ≤ A) : ∀ (w fl : List Int), (∀ k : Nat, -B ≤ fl.getD k 0 ∧ fl.getD k 0 ≤ B) → ∀ k : Nat, -(B + w.length * A) ≤ (addW fl w a).getD k 0 ∧ (addW fl w a).getD k 0 ≤ B + w.length * A
  | [], fl, h, k => by have := h k; simpa [addW] using this
  | n :: w, fl, h, k => by
    have := addW_b (B := B + A) hA w (fl.set (ixW n) (fl.getD (ixW n) 0 + sgW n * a)) (fun j => by
      rw [getD_sI]
      have h1 := h (ixW n)
      have h2 := h j
      unfold sgW
      split
      · split <;> omega
      · omega) k
    rw [addW, List.length_cons]
    have e : ((w.length + 1 : Nat) : Int) * A = w.length * A + A := by rw [Int.natCast_add, Int.add_mul]; simp
    omega
theorem addW_no {a : Int} : ∀ (w fl : List Int) (k : Nat), (∀ x ∈ w, 1 ≤ absI x) → ((k : Int) + 1) ∉ w.map absI → (addW fl w a).getD k 0 = fl.getD k 0
  | [], fl, k, _, _ => rfl
  | n :: w, fl, k, hx, h => by
    rw [List.map_cons, List.mem_cons, not_or] at h
    have := hx n (by simp)
    have ix : ixW n = (absI n - 1).toNat := rfl
    rw [addW, addW_no w _ k (fun x h => hx x (by simp [h])) h.2, getD_sI, if_neg (fun q => h.1 (by have := q.1; omega))]
/-- each airway once: what is added is at most the amount -/
theorem addW_1 {a A : Int} (hA : -A ≤ a ∧ a ≤ A) : ∀ (w fl : List Int) (k : Nat), (∀ x ∈ w, 1 ≤ absI x) → (w.map absI).Nodup → -A ≤ (addW fl w a).getD k 0 - fl.getD k 0 ∧ (addW fl w a).getD k 0 - fl.getD k 0 ≤ A
  | [], fl, k, _, _ => by simp only [addW]; omega
  | n :: w, fl, k, hx, h => by
    rw [List.map_cons, List.nodup_cons] at h
    have h1 := hx n (by simp)
    have ix : ixW n = (absI n - 1).toNat := rfl
    by_cases e : ixW n = k
    · rw [addW, addW_no w _ k (fun x h => hx x (by simp [h])) (fun q => h.1 (by rw [show absI n = (k : Int) + 1 by omega]; exact q)), getD_sI]
      unfold sgW
      subst e
      split
      · split <;> omega
      · omega
    · have := addW_1 hA w (fl.set (ixW n) (fl.getD (ixW n) 0 + sgW n * a)) k (fun x h => hx x (by simp [h])) h.2
      rw [getD_sI, if_neg (fun q => e q.1)] at this
      rw [addW]; exact this
/-- what an airway with a flow brings to a junction -/
def incA (x : GAirway) (f j : Int) : Int := if j = x.to then f else if j = x.from_ then -f else 0
def imbI (m : GMine) (fl : List Int) (j : Int) : Nat → Int
  | 0 => 0
  | k + 1 => imbI m fl j k + incA (m.airways.getD k default) (fl.getD k 0) j
/-- what comes to a junction -/
abbrev imbA (m : GMine) (fl : List Int) (j : Int) : Int := imbI m fl j m.airways.length
theorem imbI_s {m : GMine} {fl : List Int} {j i : Int} (h : 0 ≤ i) : imbI m fl j (i + 1).toNat = imbI m fl j i.toNat + incA (m.airways.getD i.toNat default) (fl.getD i.toNat 0) j := by
  rw [show (i + 1).toNat = i.toNat + 1 by omega]; rfl
theorem imbI_b {m : GMine} {fl : List Int} {j B : Int} (hB : 0 ≤ B) (h : ∀ k : Nat, -B ≤ fl.getD k 0 ∧ fl.getD k 0 ≤ B) : ∀ k : Nat, -(k * B) ≤ imbI m fl j k ∧ imbI m fl j k ≤ k * B
  | 0 => by simp [imbI]
  | k + 1 => by
    have := imbI_b hB h k (m := m) (j := j)
    have h1 := h k
    have e : ((k + 1 : Nat) : Int) * B = k * B + B := by rw [Int.natCast_add, Int.add_mul]; simp
    rw [imbI]
    unfold incA
    split
    · omega
    · split <;> omega
theorem imbI_set {m : GMine} {fl : List Int} {j v : Int} {i : Nat} (hi : i < fl.length) : ∀ k : Nat, imbI m (fl.set i v) j k = imbI m fl j k + if i < k then incA (m.airways.getD i default) v j - incA (m.airways.getD i default) (fl.getD i 0) j else 0
  | 0 => by simp [imbI]
  | k + 1 => by
    rw [imbI, imbI, imbI_set hi k, getD_sI]
    by_cases e : i = k
    · subst e
      rw [if_neg (by omega), if_pos ⟨rfl, hi⟩, if_pos (by omega)]; omega
    · rw [if_neg (show ¬(i = k ∧ k < fl.length) from fun q => e q.1)]
      by_cases e2 : i < k
      · rw [if_pos e2, if_pos (show i < k + 1 by omega)]; omega
      · rw [if_neg e2, if_neg (show ¬i < k + 1 by omega)]; omega
theorem imb_wlk {m : GMine} (hm : okMine m = true) {x b j : Int} (hb : 0 ≤ b) : ∀ (w fl : List Int) (a : Int), fl.length = m.airways.length → wlk m w a = b → imbA m (addW fl w x) j = imbA m fl j + (if j = b then x else 0) - if j = a then x else 0
  | [], fl, a, _, h => by
    have : a = b := h
    subst this
    rw [addW]; omega
  | n :: w, fl, a, hl, h => by
    rw [wlk_c] at h
    split at h
    · omega
    · rename_i h1
      have hx : 1 ≤ absI n ∧ absI n ≤ m.airways.length := by have : absI n = max n (0 - n) := rfl; omega
      have ix : ixW n = (absI n - 1).toNat := rfl
      have qa := okAirway_b ((okMine_p hm).2.2 (ixW n) (by omega)).1
      have hs := imbI_set (m := m) (fl := fl) (j := j) (v := fl.getD (ixW n) 0 + sgW n * x) (i := ixW n) (by omega) m.airways.length
      rw [if_pos (by omega)] at hs
      change imbA m _ j = imbA m fl j + _ at hs
      rw [addW]
      split at h
      · rename_i h2
        rw [imb_wlk hm hb w _ _ (by rw [List.length_set]; exact hl) h, hs, sgW, if_pos h2.1]
        unfold incA
        rw [ix]
        have ea := h2.2
        subst ea
        have e1 : (m.airways.getD (absI n - 1).toNat default).from_ ≠ (m.airways.getD (absI n - 1).toNat default).to := qa.2.2.1
        generalize (m.airways.getD (absI n - 1).toNat default).from_ = F at *
        generalize (m.airways.getD (absI n - 1).toNat default).to = G at *
        by_cases c1 : j = G <;> by_cases c2 : j = F <;> simp only [c1, c2, if_true, if_false] <;> (try split) <;> (try split) <;> omega
      · split at h
        · rename_i h2
          rw [imb_wlk hm hb w _ _ (by rw [List.length_set]; exact hl) h, hs, sgW, if_neg (by omega)]
          unfold incA
          rw [ix]
          have ea := h2.2
          subst ea
          have e1 : (m.airways.getD (absI n - 1).toNat default).from_ ≠ (m.airways.getD (absI n - 1).toNat default).to := qa.2.2.1
          generalize (m.airways.getD (absI n - 1).toNat default).from_ = F at *
          generalize (m.airways.getD (absI n - 1).toNat default).to = G at *
          by_cases c1 : j = G <;> by_cases c2 : j = F <;> simp only [c1, c2, if_true, if_false] <;> (try split) <;> (try split) <;> omega
        · omega
/-- a mesh keeps what comes to each junction -/
theorem imb_msh {m : GMine} (hm : okMine m = true) {fl w : List Int} {x j : Int} (hl : fl.length = m.airways.length) (h : mshG m w) : imbA m (addW fl w x) j = imbA m fl j := by
  rw [imb_wlk hm h.st w fl _ hl h.p.wk]; omega
end Go.Proofs.Ytfcnlpghdpfjkaa

