/- Contracts of functions of the program, and what they compute. Conditions: those that each theorem states. -/
import Derived.Test.YtdhkpmaanegjkaaGreatProg
import Derived.Test.YtdhkpmaanegjkaaGreatB9
import Derived.Test.YtdhkpmaanegjkaaGreatH0
import Derived.Test.YtdhkpmaanegjkaaGreatV1
set_option linter.unusedVariables false
set_option linter.unusedSimpArgs false
namespace Go.Proofs.YtdhkpmaanegjkaaGreat
open Go.Av
attribute [local irreducible] Go.IntKind.wrap leastI rdZ rd rootI okMine treeC mshC
set_option maxRecDepth 20000
set_option maxHeartbeats 8000000
section
variable {m : GMine} {T ls : List Int} {to : Int}
theorem WlkR.ex (hm : okMine m = true) : ∀ (n : Nat) (u : Int), dsA m ls n u to → ∃ ws, WlkR m ls to n u ws
  | 0, u, h => by
    obtain rfl : u = to := h.1
    exact ⟨[], .nil⟩
  | n + 1, u, h => by
    obtain ⟨x, ⟨i, h1, h2, h3⟩, hn⟩ := h.1
    have hd : dsA m ls n x to := ⟨hn, fun k hk => by have := h.2 (k + 1) ⟨x, ⟨i, h1, h2, h3⟩, hk⟩; omega⟩
    obtain ⟨q, hq, hg⟩ := List.getElem_of_mem h1
    have hg' : ls.getD q 0 = i := by rw [List.getD_eq_getElem?_getD, List.getElem?_eq_getElem hq]; exact hg
    have hx : ∃ q : Nat, q < ls.length ∧ ∃ v, otherA (m.airways.getD (ls.getD q 0).toNat default) u = (v, true) ∧ dsA m ls n v to := ⟨q, hq, x, by rw [hg']; exact h3, hd⟩
    obtain ⟨Q, ⟨a1, v, a2, a3⟩, a4⟩ : ∃ Q : Nat, (Q < ls.length ∧ ∃ v, otherA (m.airways.getD (ls.getD Q 0).toNat default) u = (v, true) ∧ dsA m ls n v to) ∧ ∀ i : Nat, i < Q → ¬(i < ls.length ∧ ∃ v, otherA (m.airways.getD (ls.getD i 0).toNat default) u = (v, true) ∧ dsA m ls n v to) := by
      obtain ⟨q0, hq0⟩ := hx
      clear hq hg hg' q
      induction q0 using Nat.strongRecOn with
      | _ q0 ih =>
        by_cases c : ∃ i : Nat, i < q0 ∧ (i < ls.length ∧ ∃ v, otherA (m.airways.getD (ls.getD i 0).toNat default) u = (v, true) ∧ dsA m ls n v to)
        · obtain ⟨i, hi, hp⟩ := c
          exact ih i hi hp
        · exact ⟨q0, hq0, fun i hi hp => c ⟨i, hi, hp⟩⟩
    obtain ⟨ws, hw⟩ := WlkR.ex hm n v a3
    exact ⟨_, .cons a1 a2 h (fun i hi e hd2 => a4 i hi ⟨by omega, (otherA (m.airways.getD (ls.getD i 0).toNat default) u).1, by rw [← e], hd2⟩) hw⟩
theorem cn_ds {u v : Int} (h : cnA m ls u v) : ∃ n, dsA m ls n u v := by
  obtain ⟨n, hn⟩ := h
  induction n using Nat.strongRecOn with
  | _ n ih =>
    by_cases c : ∃ k, k < n ∧ wkA m ls k u v
    · obtain ⟨k, hk, hp⟩ := c
      exact ih k hk hp
    · exact ⟨n, hn, fun k hk => by
        by_cases e : n ≤ k
        · exact e
        · exact absurd ⟨k, by omega, hk⟩ c⟩
theorem MshR.ex (hm : okMine m = true) (hT : T = treeC m m.airways.length) : ∀ i : Nat, i ≤ m.airways.length → ∃ ss, MshR m T i ss
  | 0, _ => ⟨[], .nil⟩
  | i + 1, hi => by
    obtain ⟨ss, h⟩ := MshR.ex hm hT i (by omega)
    by_cases c : (i : Int) ∈ T
    · exact ⟨ss, .tree h c⟩
    · have hc := tT_cn hm hT (i := i) (by omega) (by omega) c
      rw [Int.toNat_natCast] at hc
      obtain ⟨n, hn⟩ := cn_ds hc
      obtain ⟨ws, hw⟩ := WlkR.ex hm n _ hn
      exact ⟨_, .mesh h c hw⟩
theorem mshC_R (hm : okMine m = true) : MshR m (treeC m m.airways.length) m.airways.length (mshC m) := by
  obtain ⟨ss, h⟩ := MshR.ex hm rfl m.airways.length (Nat.le_refl _)
  exact (mshC_of h).2
theorem mshC_I (hm : okMine m = true) : mshI m (mshC m) m.airways.length := (mshC_R hm).I hm (tT_rg rfl) (Nat.le_refl _)
def edW (m : GMine) (ls : List Int) (to x : Int) (d : Nat) : Prop := ∃ u v, x ≠ 0 ∧ (absI x - 1) ∈ ls ∧ otherA (m.airways.getD (absI x - 1).toNat default) u = (v, true) ∧ dsA m ls (d + 1) u to ∧ dsA m ls d v to
theorem absI_pr {i : Int} (h : 0 ≤ i) : absI (i + 1) = i + 1 := by unfold absI; omega
theorem absI_ng {i : Int} (h : 0 ≤ i) : absI (-i - 1) = i + 1 := by unfold absI; omega
theorem absI_s {a : Int} {i : Nat} : absI (spL m a i) = (i : Int) + 1 := by
  unfold spL
  split
  · exact absI_pr (by omega)
  · exact absI_ng (by omega)
theorem WlkR.nd (hm : okMine m = true) (hl : ∀ i ∈ ls, 0 ≤ i ∧ i < m.airways.length) {n : Nat} {u : Int} {ws : List Int} (h : WlkR m ls to n u ws) : (∀ x ∈ ws, ∃ d, d < n ∧ edW m ls to x d) ∧ (ws.map absI).Nodup := by
  induction h with
  | nil => exact ⟨fun x hx => by simp at hx, by simp⟩
  | @cons n u v q ws hq ho hd hf h ih =>
    have hr := hl (ls.getD q 0) (getD_mem hq)
    have e1 : absI (spL m u (ls.getD q 0).toNat) - 1 = ls.getD q 0 := by rw [absI_s]; omega
    refine ⟨fun x hx => ?_, ?_⟩
    · rcases List.mem_cons.1 hx with rfl | hx
      · refine ⟨n, by omega, u, v, fun e => ?_, by rw [e1]; exact getD_mem hq, by rw [e1]; exact ho, hd, h.ds⟩
        rw [e] at e1; unfold absI at e1; omega
      · obtain ⟨d, d1, d2⟩ := ih.1 x hx
        exact ⟨d, by omega, d2⟩
    · rw [List.map_cons]
      refine List.nodup_cons.2 ⟨fun hx => ?_, ih.2⟩
      obtain ⟨x, hx, ex⟩ := List.mem_map.1 hx
      obtain ⟨d, d1, u2, v2, d2, d3, d4, d5, d6⟩ := ih.1 x hx
      rw [ex, e1] at d4
      rcases oth_p hm hr ho with ⟨a1, a2⟩ | ⟨a1, a2⟩ <;> rcases oth_p hm hr d4 with ⟨b1, b2⟩ | ⟨b1, b2⟩
      · rw [b1, ← a1] at d5; have := dsA_fun hd d5; omega
      · rw [b2, ← a1] at d6; have := dsA_fun hd d6; omega
      · rw [b2, ← a1] at d6; have := dsA_fun hd d6; omega
      · rw [b1, ← a1] at d5; have := dsA_fun hd d5; omega
theorem MshR.nd (hm : okMine m = true) (hT : ∀ i ∈ T, 0 ≤ i ∧ i < m.airways.length) {i : Nat} {ss : List (List Int)} (h : MshR m T i ss) : ∀ w ∈ ss, (w.map absI).Nodup := by
  induction h with
  | nil => intro w hw; simp at hw
  | tree _ _ ih => exact ih
  | @mesh i n ss ws h hi hw ih =>
    intro w hw2
    rcases List.mem_append.1 hw2 with hw2 | hw2
    · exact ih w hw2
    · obtain rfl := List.mem_singleton.1 hw2
      have k := hw.nd hm hT
      rw [List.map_cons]
      refine List.nodup_cons.2 ⟨fun hx => ?_, k.2⟩
      obtain ⟨x, hx, ex⟩ := List.mem_map.1 hx
      obtain ⟨d, _, _, _, _, d3, _⟩ := k.1 x hx
      rw [ex, absI_pr (by omega), show (i : Int) + 1 - 1 = i by omega] at d3
      exact hi d3
end
structure mshG (m : GMine) (w : List Int) : Prop where
  p : mshP m w
  nd : (w.map absI).Nodup
  st : 0 ≤ (m.airways.getD (w.getD 0 0 - 1).toNat default).from_
  ix : ∀ k : Nat, k < w.length → 1 ≤ absI (w.getD k 0) ∧ absI (w.getD k 0) ≤ m.airways.length
theorem wlk_ix {m : GMine} : ∀ (w : List Int) (a : Int), 0 ≤ wlk m w a → ∀ k : Nat, k < w.length → 1 ≤ absI (w.getD k 0) ∧ absI (w.getD k 0) ≤ m.airways.length
  | [], a, h, k, hk => absurd hk (by simp)
  | x :: w, a, h, k, hk => by
    rw [wlk_c] at h
    split at h
    · omega
    · rename_i h1
      have hx : 1 ≤ absI x ∧ absI x ≤ m.airways.length := by have : absI x = max x (0 - x) := rfl; omega
      cases k with
      | zero => simpa using hx
      | succ k =>
        rw [List.length_cons] at hk
        rw [List.getD_cons_succ]
        split at h
        · exact wlk_ix w _ h k (by omega)
        · split at h
          · exact wlk_ix w _ h k (by omega)
          · omega
theorem mshC_G {m : GMine} (hm : okMine m = true) {j : Nat} (hj : j < (mshC m).length) : mshG m ((mshC m).getD j []) := by
  have p := (mshC_I hm).at_ j hj
  have q := (okMine_p hm).2.2 (((mshC m).getD j []).getD 0 0 - 1).toNat (by have := p.hd; omega)
  exact ⟨p, (mshC_R hm).nd hm (tT_rg rfl) _ (getD_mem hj), q.2.1.1, wlk_ix _ _ (by rw [p.wk]; exact q.2.1.1)⟩
theorem mshC_len {m : GMine} (hm : okMine m = true) : (mshC m).length ≤ 24 := by
  have := (mshC_I hm).ln
  have := (okMine_p hm).2.1
  omega
abbrev ixW (n : Int) : Nat := (absI n - 1).toNat
def sgW (n : Int) : Int := if 0 < n then 1 else -1
def addW (fl : List Int) : List Int → Int → List Int
  | [], _ => fl
  | n :: w, a => addW (fl.set (ixW n) (fl.getD (ixW n) 0 + sgW n * a)) w a
theorem addW_app (a : Int) : ∀ (u v fl : List Int), addW fl (u ++ v) a = addW (addW fl u a) v a
  | [], v, fl => rfl
  | n :: u, v, fl => by rw [List.cons_append, addW, addW, addW_app a u v]
theorem addW_len (a : Int) : ∀ (w fl : List Int), (addW fl w a).length = fl.length
  | [], fl => rfl
  | n :: w, fl => by rw [addW, addW_len a w, List.length_set]
theorem addW_s {a i : Int} {w fl : List Int} (h0 : 0 ≤ i) (hi : i < w.length) : addW fl (w.take (i + 1).toNat) a = (addW fl (w.take i.toNat) a).set (ixW (w.getD i.toNat 0)) ((addW fl (w.take i.toNat) a).getD (ixW (w.getD i.toNat 0)) 0 + sgW (w.getD i.toNat 0) * a) := by
  have hi2 : i.toNat < w.length := by omega
  rw [show (i + 1).toNat = i.toNat + 1 by omega, List.take_succ_eq_append_getElem hi2, addW_app, List.getD_eq_getElem?_getD (l := w), List.getElem?_eq_getElem hi2, Option.getD_some]
  rfl
theorem addW_b {a B A : Int} (hA : -A ≤ a ∧ a ≤ A) : ∀ (w fl : List Int), (∀ k : Nat, -B ≤ fl.getD k 0 ∧ fl.getD k 0 ≤ B) → ∀ k : Nat, -(B + w.length * A) ≤ (addW fl w a).getD k 0 ∧ (addW fl w a).getD k 0 ≤ B + w.length * A
  | [], fl, h, k => by have := h k; simpa [addW] using this
  | n :: w, fl, h, k => by
    have := addW_b (B := B + A) hA w (fl.set (ixW n) (fl.getD (ixW n) 0 + sgW n * a)) (fun j => by
      rw [getD_sI]
      have h1 := h (ixW n)
      have h2 := h j
      unfold sgW
      split
      · split <;> omega
      · omega) k
    rw [addW, List.length_cons]
    have e : ((w.length + 1 : Nat) : Int) * A = w.length * A + A := by rw [Int.natCast_add, Int.add_mul]; simp
    omega
def incA (x : GAirway) (f j : Int) : Int := if j = x.to then f else if j = x.from_ then -f else 0
def imbI (m : GMine) (fl : List Int) (j : Int) : Nat → Int
  | 0 => 0
  | k + 1 => imbI m fl j k + incA (m.airways.getD k default) (fl.getD k 0) j
abbrev imbA (m : GMine) (fl : List Int) (j : Int) : Int := imbI m fl j m.airways.length
theorem imbI_s {m : GMine} {fl : List Int} {j i : Int} (h : 0 ≤ i) : imbI m fl j (i + 1).toNat = imbI m fl j i.toNat + incA (m.airways.getD i.toNat default) (fl.getD i.toNat 0) j := by
  rw [show (i + 1).toNat = i.toNat + 1 by omega]; rfl
theorem imbI_b {m : GMine} {fl : List Int} {j B : Int} (hB : 0 ≤ B) (h : ∀ k : Nat, -B ≤ fl.getD k 0 ∧ fl.getD k 0 ≤ B) : ∀ k : Nat, -(k * B) ≤ imbI m fl j k ∧ imbI m fl j k ≤ k * B
  | 0 => by simp [imbI]
  | k + 1 => by
    have := imbI_b hB h k (m := m) (j := j)
    have h1 := h k
    have e : ((k + 1 : Nat) : Int) * B = k * B + B := by rw [Int.natCast_add, Int.add_mul]; simp
    rw [imbI]
    unfold incA
    split
    · omega
    · split <;> omega
theorem imbI_set {m : GMine} {fl : List Int} {j v : Int} {i : Nat} (hi : i < fl.length) : ∀ k : Nat, imbI m (fl.set i v) j k = imbI m fl j k + if i < k then incA (m.airways.getD i default) v j - incA (m.airways.getD i default) (fl.getD i 0) j else 0
  | 0 => by simp [imbI]
  | k + 1 => by
    rw [imbI, imbI, imbI_set hi k, getD_sI]
    by_cases e : i = k
    · subst e
      rw [if_neg (by omega), if_pos ⟨rfl, hi⟩, if_pos (by omega)]; omega
    · rw [if_neg (show ¬(i = k ∧ k < fl.length) from fun q => e q.1)]
      by_cases e2 : i < k
      · rw [if_pos e2, if_pos (show i < k + 1 by omega)]; omega
      · rw [if_neg e2, if_neg (show ¬i < k + 1 by omega)]; omega
theorem imb_wlk {m : GMine} (hm : okMine m = true) {x b j : Int} (hb : 0 ≤ b) : ∀ (w fl : List Int) (a : Int), fl.length = m.airways.length → wlk m w a = b → imbA m (addW fl w x) j = imbA m fl j + (if j = b then x else 0) - if j = a then x else 0
  | [], fl, a, _, h => by
    have : a = b := h
    subst this
    rw [addW]; omega
  | n :: w, fl, a, hl, h => by
    rw [wlk_c] at h
    split at h
    · omega
    · rename_i h1
      have hx : 1 ≤ absI n ∧ absI n ≤ m.airways.length := by have : absI n = max n (0 - n) := rfl; omega
      have ix : ixW n = (absI n - 1).toNat := rfl
      have qa := okAirway_b ((okMine_p hm).2.2 (ixW n) (by omega)).1
      have hs := imbI_set (m := m) (fl := fl) (j := j) (v := fl.getD (ixW n) 0 + sgW n * x) (i := ixW n) (by omega) m.airways.length
      rw [if_pos (by omega)] at hs
      change imbA m _ j = imbA m fl j + _ at hs
      rw [addW]
      split at h
      · rename_i h2
        rw [imb_wlk hm hb w _ _ (by rw [List.length_set]; exact hl) h, hs, sgW, if_pos h2.1]
        unfold incA
        rw [ix]
        have ea := h2.2
        subst ea
        have e1 : (m.airways.getD (absI n - 1).toNat default).from_ ≠ (m.airways.getD (absI n - 1).toNat default).to := qa.2.2.1
        generalize (m.airways.getD (absI n - 1).toNat default).from_ = F at *
        generalize (m.airways.getD (absI n - 1).toNat default).to = G at *
        by_cases c1 : j = G <;> by_cases c2 : j = F <;> simp only [c1, c2, if_true, if_false] <;> (try split) <;> (try split) <;> omega
      · split at h
        · rename_i h2
          rw [imb_wlk hm hb w _ _ (by rw [List.length_set]; exact hl) h, hs, sgW, if_neg (by omega)]
          unfold incA
          rw [ix]
          have ea := h2.2
          subst ea
          have e1 : (m.airways.getD (absI n - 1).toNat default).from_ ≠ (m.airways.getD (absI n - 1).toNat default).to := qa.2.2.1
          generalize (m.airways.getD (absI n - 1).toNat default).from_ = F at *
          generalize (m.airways.getD (absI n - 1).toNat default).to = G at *
          by_cases c1 : j = G <;> by_cases c2 : j = F <;> simp only [c1, c2, if_true, if_false] <;> (try split) <;> (try split) <;> omega
        · omega
theorem imb_msh {m : GMine} (hm : okMine m = true) {fl w : List Int} {x j : Int} (hl : fl.length = m.airways.length) (h : mshG m w) : imbA m (addW fl w x) j = imbA m fl j := by
  rw [imb_wlk hm h.st w fl _ hl h.p.wk]; omega
end Go.Proofs.YtdhkpmaanegjkaaGreat
/- Contracts of functions of the program, and what they compute. Conditions: those that each theorem states. -/
set_option linter.unusedVariables false
set_option linter.unusedSimpArgs false
namespace Go.Proofs.YtdhkpmaanegjkaaGreat
open Go.Av
attribute [local irreducible] Go.IntKind.wrap leastI rdZ rd rootI okMine treeC mshC
set_option maxRecDepth 20000
set_option maxHeartbeats 16000000
def lsO (m : GMine) (xs : List Int) (a b : Int) : Bool := decide (xs.length = m.airways.length) && xs.all (inR · a b)
theorem lsO_t {m : GMine} {xs : List Int} {a b : Int} (hl : xs.length = m.airways.length) (h : ∀ k : Nat, k < xs.length → a ≤ xs.getD k 0 ∧ xs.getD k 0 ≤ b) : lsO m xs a b = true := by
  unfold lsO
  rw [decide_eq_true hl, Bool.true_and, List.all_eq_true]
  intro x hx
  obtain ⟨k, hk, rfl⟩ := List.getElem_of_mem hx
  have := h k hk
  rw [List.getD_eq_getElem?_getD, List.getElem?_eq_getElem hk] at this
  exact inR_iff.2 this
theorem lsO_p {m : GMine} {xs : List Int} {a b : Int} (h : lsO m xs a b = true) : xs.length = m.airways.length ∧ ∀ k : Nat, k < xs.length → a ≤ xs.getD k 0 ∧ xs.getD k 0 ≤ b := by
  unfold lsO at h
  rw [Bool.and_eq_true, decide_eq_true_eq, List.all_eq_true] at h
  exact ⟨h.1, fun k hk => inR_iff.1 (h.2 _ (getD_mem hk))⟩
--@fn (impl.Mine).hasList
theorem hasL (m : GMine) (xs : List Int) (a b : Int) : FnSem Tryz.prog 22 [.p .any (.agg m.cells), Lx (LI xs), In a, In b] [] (Is [Bo (lsO m xs a b)] []) := by
  refine FnSem.walk (zs := zeroPV Tryz.prog) (by kernel_rfl) Tryz.func22 rfl Tryz.results22 (by kernel_rfl) (by kernel_rfl) (by kernel_rfl) fun hw hh => ?_
  obtain ⟨w0, w1, w2, w3, _⟩ := hw
  first | replace w0 := wf_Mine w0 | skip
  first | replace w1 := wf_LI w1 | skip
  first | replace w2 := wf_I w2 | skip
  first | replace w3 := wf_I w3 | skip
  repeat' first
    | refine And.intro rfl ?_
    | refine GdF.mk (fun h => h) ?_
    | refine And.intro (Nat.succ_ne_zero _) ?_
    | refine And.intro (Nat.le_of_ble_eq_true rfl) ?_
    | refine SeqF.run ?_
    | refine GhF.go ?_
    | refine GdS.keep ?_
    | refine BndF.mk (fun _ => by omega) ?_
    | refine BndF.mk (fun _ => by simp only [lnS]; omega) ?_
    | refine BndF.mk (fun hG => by simp only [forall_const, eq_self, not_true_eq_false, not_false_eq_true, or_false, false_or, or_self, or_true, true_or, and_true, true_and, and_false, false_and, decide_true, decide_false, Bool.not_true, Bool.not_false, decide_eq_true_eq, decide_eq_false_iff_not, ite_and_p, ite_or_p, Bool.decide_eq_true, Bool.and_eq_true, Bool.or_eq_true, Bool.not_eq_true', Bool.not_eq_false', Bool.and_eq_false_imp, Bool.or_eq_false_iff, bne_iff_ne, beq_iff_eq, bne_eq_false_iff_eq, beq_eq_false_iff_ne, gt_iff_lt, ge_iff_le, Int.not_lt, Int.not_le, ne_eq, Bool.true_eq_false, Bool.false_eq_true, reduceCtorEq, eta_Airway, eta_Fan, eta_Mine, bytes_nil] at hG; (try simp only [List.length_map]); omega) ?_
    | refine EqN.mk _ (ln GAirway.cells) ?_
    | refine EqN.mk _ (ln eI) ?_
    | refine EqL.mk _ (tk GAirway.cells (by first | rfl | assumption | omega | (simp only [lnS] <;> omega))) ?_
    | refine EqL.mk _ (tk eI (by first | rfl | assumption | omega | (simp only [lnS] <;> omega))) ?_
    | refine EqL.mk [] rfl ?_
    | refine EqL.mk [_] rfl ?_
    | refine EqL.mk _ rfl ?_
    | refine ArgF.is (c_impl_allWithin ..) ?_
    | refine ArgQ.is (fun hG => c_impl_allWithin ..) rfl rfl ?_
    | refine CallF.mk (CallW.is [] true rfl ?_)
    | refine CallG.mk ?_
    | (refine CondF.mk (fun hb => ?_) (fun hb => ?_) <;> try simp only [forall_const, eq_self, not_true_eq_false, not_false_eq_true, or_false, false_or, or_self, or_true, true_or, and_true, true_and, and_false, false_and, decide_true, decide_false, Bool.not_true, Bool.not_false, decide_eq_true_eq, decide_eq_false_iff_not, ite_and_p, ite_or_p, Bool.decide_eq_true, Bool.and_eq_true, Bool.or_eq_true, Bool.not_eq_true', Bool.not_eq_false', Bool.and_eq_false_imp, Bool.or_eq_false_iff, bne_iff_ne, beq_iff_eq, bne_eq_false_iff_eq, beq_eq_false_iff_ne, gt_iff_lt, ge_iff_le, Int.not_lt, Int.not_le, ne_eq, Bool.true_eq_false, Bool.false_eq_true, reduceCtorEq, eta_Airway, eta_Fan, eta_Mine] at hb)
    | refine RetF.auto (And.intro rfl ?_)
    | exact Is.mk rfl rfl
    | refine Is.mk ?_ rfl
    | refine Is.mk rfl ?_
    | refine Is.mk ?_ ?_
  all_goals try dsimp only
  all_goals try simp only [Bo, I, OB.row.injEq, AV.osl.injEq, eI_same,  List.cons.injEq, AV.p.injEq, PV.c.injEq, Value.int.injEq, Value.bool.injEq, and_true, true_and, ite_and_p, ite_or_p, Bool.decide_eq_true, eta_Airway, eta_Fan, eta_Mine, lsO]
  · congr 1; rw [Bool.eq_iff_iff]; simp; omega
--@fn (impl.Mine).hasFlows
theorem hasF (m : GMine) (xs : List Int) : FnSem Tryz.prog 53 [.p .any (.agg m.cells), Lx (LI xs)] [] (Is [Bo (lsO m xs (-100000) 100000)] []) := by
  refine FnSem.walk (zs := zeroPV Tryz.prog) (by kernel_rfl) Tryz.func53 rfl Tryz.results53 (by kernel_rfl) (by kernel_rfl) (by kernel_rfl) fun hw hh => ?_
  obtain ⟨w0, w1, _⟩ := hw
  first | replace w0 := wf_Mine w0 | skip
  first | replace w1 := wf_LI w1 | skip
  repeat' first
    | refine And.intro rfl ?_
    | refine GdF.mk (fun h => h) ?_
    | refine And.intro (Nat.succ_ne_zero _) ?_
    | refine And.intro (Nat.le_of_ble_eq_true rfl) ?_
    | refine SeqF.run ?_
    | refine ArgF.is (hasL m xs (-100000) 100000) ?_
    | refine ArgQ.is (fun hG => hasL m xs (-100000) 100000) rfl rfl ?_
    | refine GhF.go ?_
    | refine BndF.mk (fun _ => by omega) ?_
    | refine BndF.mk (fun _ => by simp only [lnS]; omega) ?_
    | refine EqL.mk _ (tk eI (by first | rfl | assumption | omega | (simp only [lnS] <;> omega))) ?_
    | refine EqL.mk [] rfl ?_
    | refine EqL.mk [_] rfl ?_
    | refine EqL.mk _ rfl ?_
    | refine ArgF.is (c_impl_Mine_hasList ⟨_, _⟩ _ _ _) ?_
    | refine ArgQ.is (fun hG => c_impl_Mine_hasList ⟨_, _⟩ _ _ _) rfl rfl ?_
    | refine CallF.mk (CallW.is [] true rfl ?_)
    | refine CallG.mk ?_
    | (refine CondF.mk (fun hb => ?_) (fun hb => ?_) <;> try simp only [forall_const, eq_self, not_true_eq_false, not_false_eq_true, or_false, false_or, or_self, or_true, true_or, and_true, true_and, and_false, false_and, decide_true, decide_false, Bool.not_true, Bool.not_false, decide_eq_true_eq, decide_eq_false_iff_not, ite_and_p, ite_or_p, Bool.decide_eq_true, Bool.and_eq_true, Bool.or_eq_true, Bool.not_eq_true', Bool.not_eq_false', Bool.and_eq_false_imp, Bool.or_eq_false_iff, bne_iff_ne, beq_iff_eq, bne_eq_false_iff_eq, beq_eq_false_iff_ne, gt_iff_lt, ge_iff_le, Int.not_lt, Int.not_le, ne_eq, Bool.true_eq_false, Bool.false_eq_true, reduceCtorEq, eta_Airway, eta_Fan, eta_Mine] at hb)
    | refine RetF.auto (And.intro rfl ?_)
    | exact Is.mk rfl rfl
    | refine Is.mk ?_ rfl
    | refine Is.mk rfl ?_
    | refine Is.mk ?_ ?_
  all_goals try dsimp only
  all_goals try simp only [Bo, I, OB.row.injEq, AV.osl.injEq, eI_same,  List.cons.injEq, AV.p.injEq, PV.c.injEq, Value.int.injEq, Value.bool.injEq, and_true, true_and, ite_and_p, ite_or_p, Bool.decide_eq_true, eta_Airway, eta_Fan, eta_Mine, lsO]
  all_goals skip
theorem c_impl_airwayOf (n : Int) (h : -1000000 ≤ n ∧ n ≤ 1000000) : FnSem Tryz.prog 78 [In n] [] (Is [In (absI n - 1), In (sgW n)] []) := by
  refine FnSem.walk (zs := zeroPV Tryz.prog) (by kernel_rfl) Tryz.func78 rfl Tryz.results78 (by kernel_rfl) (by kernel_rfl) (by kernel_rfl) fun hw hh => ?_
  obtain ⟨w0, _⟩ := hw
  first | replace w0 := wf_I w0 | skip
  repeat' first
    | refine And.intro rfl ?_
    | refine GdF.mk (fun h => h) ?_
    | refine And.intro (Nat.succ_ne_zero _) ?_
    | refine And.intro (Nat.le_of_ble_eq_true rfl) ?_
    | refine SeqF.run ?_
    | refine GhF.go ?_
    | refine EqI.mk _ (fun _ => wrapI (by omega) (by omega)) ?_
    | refine EqI.mk _ (fun _ => rfl) ?_
    | (refine CondF.mk (fun hb => ?_) (fun hb => ?_) <;> try simp only [forall_const, eq_self, not_true_eq_false, not_false_eq_true, or_false, false_or, or_self, or_true, true_or, and_true, true_and, and_false, false_and, decide_true, decide_false, Bool.not_true, Bool.not_false, decide_eq_true_eq, decide_eq_false_iff_not, ite_and_p, ite_or_p, Bool.decide_eq_true, Bool.and_eq_true, Bool.or_eq_true, Bool.not_eq_true', Bool.not_eq_false', Bool.and_eq_false_imp, Bool.or_eq_false_iff, bne_iff_ne, beq_iff_eq, bne_eq_false_iff_eq, beq_eq_false_iff_ne, gt_iff_lt, ge_iff_le, Int.not_lt, Int.not_le, ne_eq, Bool.true_eq_false, Bool.false_eq_true, reduceCtorEq, eta_Airway, eta_Fan, eta_Mine] at hb)
    | refine RetF.auto (And.intro rfl ?_)
    | exact Is.mk rfl rfl
    | refine Is.mk ?_ rfl
    | refine Is.mk rfl ?_
    | refine Is.mk ?_ ?_
  all_goals try dsimp only
  · rw [show absI n - 1 = n - 1 by unfold absI; omega, show sgW n = 1 from if_pos (by omega)]
  · rw [show absI n - 1 = 0 - n - 1 by unfold absI; omega, show sgW n = -1 from if_neg (by omega)]
theorem sg_b {n a A : Int} (h : -A ≤ a ∧ a ≤ A) : -A ≤ sgW n * a ∧ sgW n * a ≤ A := by
  unfold sgW; split <;> omega
def okWk (L : Nat) (w : List Int) : Prop := w.length ≤ 64 ∧ ∀ k : Nat, k < w.length → 1 ≤ absI (w.getD k 0) ∧ absI (w.getD k 0) ≤ L
theorem absI_bd {x B : Int} (h : absI x ≤ B) : -B ≤ x ∧ x ≤ B := by unfold absI at h; omega
theorem okWk_i {L : Nat} {w : List Int} {i : Int} (h : okWk L w) (h0 : 0 ≤ i) (hi : i < w.length) : (1 ≤ absI (w.getD i.toNat 0) ∧ absI (w.getD i.toNat 0) ≤ L) ∧ -(L : Int) ≤ w.getD i.toNat 0 ∧ w.getD i.toNat 0 ≤ L := by
  have := h.2 i.toNat (by omega)
  exact ⟨this, absI_bd this.2⟩
theorem addW_bi {a B A : Int} {i : Int} {w fl : List Int} (hA : -A ≤ a ∧ a ≤ A) (hA0 : 0 ≤ A) (hw : w.length ≤ 64) (hf : ∀ k : Nat, -B ≤ fl.getD k 0 ∧ fl.getD k 0 ≤ B) (k : Nat) : -(B + 64 * A) ≤ (addW fl (w.take i.toNat) a).getD k 0 ∧ (addW fl (w.take i.toNat) a).getD k 0 ≤ B + 64 * A := by
  have h1 := addW_b hA (w.take i.toNat) fl hf k
  have h2 : ((w.take i.toNat).length : Int) * A ≤ 64 * A := Int.mul_le_mul_of_nonneg_right (by rw [List.length_take]; omega) hA0
  omega
theorem c_impl_addAlong (n : Nat) (fl w : List Int) (a : Int) (hn : n = fl.length) (hl : fl.length ≤ 1000) (hw : okWk fl.length w) (hf : ∀ k : Nat, -100000000 ≤ fl.getD k 0 ∧ fl.getD k 0 ≤ 100000000) (ha : -1000000 ≤ a ∧ a ≤ 1000000) : FnSem Tryz.prog 51 [.osl 0 0 n, Lx (LI w), In a] [.row false .flat (eI 0) (fl.map eI)] (Is [] [.row false .flat (eI 0) ((addW fl w a).map eI)]) := by
  have hB := fun (i : Int) (g : List Int) (h : g = addW fl (w.take i.toNat) a) (k : Nat) => h ▸ addW_bi (i := i) ha (by omega) hw.1 hf k
  refine FnSem.walk (zs := zeroPV Tryz.prog) (by kernel_rfl) Tryz.func51 rfl Tryz.results51 (by kernel_rfl) (by kernel_rfl) (by kernel_rfl) fun hw hh => ?_
  obtain ⟨w0, w1, w2, _⟩ := hw
  first | replace w0 := wf_LI w0 | skip
  first | replace w1 := wf_LI w1 | skip
  first | replace w2 := wf_I w2 | skip
  repeat' first
    | refine And.intro rfl ?_
    | refine GdF.mk (fun h => h) ?_
    | refine And.intro (Nat.succ_ne_zero _) ?_
    | refine And.intro (Nat.le_of_ble_eq_true rfl) ?_
    | refine SeqF.run ?_
    | refine LoopF.at 1 rfl (LoopF.fix [0, 2, 10, 11] (Int × List Int) (fun (i, g) => 0 ≤ i ∧ i ≤ w.length ∧ g = addW fl (w.take i.toNat) a ∧ g.length = fl.length) (fun (i, g) => [(12, In i)]) (fun (i, g) => [(0, .row false .flat (eI 0) (g.map eI))]) (fun (i, g) => ((w.length - i).toNat)) ((0, fl)) ?_)
    | (refine LoopB.of (T := Int × List Int) ?_ ?_; rotate_left; rintro ⟨i, g⟩ ⟨i0, i1, i2, i3⟩; rotate_left)
    | refine ArgF.is (c_impl_airwayOf (w.getD i.toNat 0) (by have q := okWk_i hw i0 (by assumption); omega)) ?_
    | refine ArgQ.is (fun hG => c_impl_airwayOf (w.getD i.toNat 0) (by have q := okWk_i hw i0 (by assumption); omega)) rfl rfl ?_
    | refine BndF.mk (fun _ => by have q := okWk_i hw i0 (by assumption); first | omega | (simp only [List.length_map]; omega)) ?_
    | refine EqI.mk _ (fun _ => by have q := sg_b (n := w.getD i.toNat 0) ha; have q2 := hB i g i2 (absI (w.getD i.toNat 0) - 1).toNat; exact wrapI (by omega) (by omega)) ?_
    | refine GhF.go ?_
    | refine EqP.mk _ (gm eI 0 rfl) ?_
    | refine BndF.mk (fun _ => by omega) ?_
    | refine BndF.mk (fun _ => by simp only [lnS]; omega) ?_
    | refine EqI.mk _ (fun _ => wrapI (by omega) (by omega)) ?_
    | refine EqI.mk _ (fun _ => rfl) ?_
    | refine EqN.mk _ (ln eI) ?_
    | refine EqN.mk _ (Nat.zero_add _) ?_
    | refine EqN.mk _ (Int.toNat_natCast _) ?_
    | refine EqN.mk _ rfl ?_
    | refine EqL.mk _ (tk eI (by first | rfl | assumption | omega | (simp only [lnS] <;> omega))) ?_
    | refine EqL.mk _ (st eI) ?_
    | refine EqL.mk [] rfl ?_
    | refine EqL.mk [_] rfl ?_
    | refine EqL.mk _ rfl ?_
    | refine ArgF.is (c_impl_airwayOf _ (by first | assumption | omega)) ?_
    | refine ArgQ.is (fun hG => c_impl_airwayOf _ (by first | assumption | omega)) rfl rfl ?_
    | refine CallF.mk (CallW.is [] true rfl ?_)
    | refine CallG.mk ?_
    | (refine CondF.mk (fun hb => ?_) (fun hb => ?_) <;> try simp only [forall_const, eq_self, not_true_eq_false, not_false_eq_true, or_false, false_or, or_self, or_true, true_or, and_true, true_and, and_false, false_and, decide_true, decide_false, Bool.not_true, Bool.not_false, decide_eq_true_eq, decide_eq_false_iff_not, ite_and_p, ite_or_p, Bool.decide_eq_true, Bool.and_eq_true, Bool.or_eq_true, Bool.not_eq_true', Bool.not_eq_false', Bool.and_eq_false_imp, Bool.or_eq_false_iff, bne_iff_ne, beq_iff_eq, bne_eq_false_iff_eq, beq_eq_false_iff_ne, gt_iff_lt, ge_iff_le, Int.not_lt, Int.not_le, ne_eq, Bool.true_eq_false, Bool.false_eq_true, reduceCtorEq, eta_Airway, eta_Fan, eta_Mine] at hb)
    | apply BackF.auto2
    | refine BackB.mk ?_ ?_
    | refine RetF.auto (And.intro rfl ?_)
    | exact Is.mk rfl rfl
    | refine Is.mk ?_ rfl
    | refine Is.mk rfl ?_
    | refine Is.mk ?_ ?_
  all_goals try dsimp only
  all_goals first
    | omega
    | exact ⟨by omega, by omega, rfl, rfl⟩
    | exact ⟨by omega, by omega, by rw [i2]; exact (addW_s i0 (by assumption)).symm, by rw [List.length_set]; exact i3⟩
    | (rw [i2, show i.toNat = w.length by omega, List.take_length]; rfl)
    | skip
end Go.Proofs.YtdhkpmaanegjkaaGreat
/- Contracts of functions of the program, and what they compute. Conditions: those that each theorem states. -/
set_option linter.unusedVariables false
set_option linter.unusedSimpArgs false
namespace Go.Proofs.YtdhkpmaanegjkaaGreat
open Go.Av
attribute [local irreducible] Go.IntKind.wrap leastI rdZ rd rootI okMine treeC mshC okAw
set_option maxRecDepth 20000
set_option maxHeartbeats 16000000
theorem c_spec_l04Junction (m : GMine) (n : Int) (hj : 0 ≤ m.junctions ∧ m.junctions ≤ 1000) : FnSem Tryz.prog 58 [.p .any (.ref m.cells), In n] [] (Is [Bo (inJ m.junctions n)] []) := by
  refine FnSem.walk (zs := zeroPV Tryz.prog) (by kernel_rfl) Tryz.func58 rfl Tryz.results58 (by kernel_rfl) (by kernel_rfl) (by kernel_rfl) fun hw hh => ?_
  obtain ⟨w0, w1, _⟩ := hw
  first | replace w0 := wfr_Mine w0 | skip
  first | replace w1 := wf_I w1 | skip
  repeat' first
    | refine And.intro rfl ?_
    | refine GdF.mk (fun h => h) ?_
    | refine And.intro (Nat.succ_ne_zero _) ?_
    | refine And.intro (Nat.le_of_ble_eq_true rfl) ?_
    | refine SeqF.run ?_
    | refine GhF.go ?_
    | refine BndF.mk (fun _ => by omega) ?_
    | refine BndF.mk (fun _ => by simp only [lnS]; omega) ?_
    | refine EqI.mk _ (fun _ => wrapI (by omega) (by omega)) ?_
    | refine EqI.mk _ (fun _ => rfl) ?_
    | refine EqL.mk [] rfl ?_
    | refine EqL.mk [_] rfl ?_
    | refine EqL.mk _ rfl ?_
    | refine ArgF.is (c_spec_l00In ..) ?_
    | refine ArgQ.is (fun hG => c_spec_l00In ..) rfl rfl ?_
    | refine CallF.mk (CallW.is [] true rfl ?_)
    | refine CallG.mk ?_
    | (refine CondF.mk (fun hb => ?_) (fun hb => ?_) <;> try simp only [forall_const, eq_self, not_true_eq_false, not_false_eq_true, or_false, false_or, or_self, or_true, true_or, and_true, true_and, and_false, false_and, decide_true, decide_false, Bool.not_true, Bool.not_false, decide_eq_true_eq, decide_eq_false_iff_not, ite_and_p, ite_or_p, Bool.decide_eq_true, Bool.and_eq_true, Bool.or_eq_true, Bool.not_eq_true', Bool.not_eq_false', Bool.and_eq_false_imp, Bool.or_eq_false_iff, bne_iff_ne, beq_iff_eq, bne_eq_false_iff_eq, beq_eq_false_iff_ne, gt_iff_lt, ge_iff_le, Int.not_lt, Int.not_le, ne_eq, Bool.true_eq_false, Bool.false_eq_true, reduceCtorEq, eta_Airway, eta_Fan, eta_Mine] at hb)
    | refine RetF.auto (And.intro rfl ?_)
    | exact Is.mk rfl rfl
    | refine Is.mk ?_ rfl
    | refine Is.mk rfl ?_
    | refine Is.mk ?_ ?_
  all_goals try dsimp only
  all_goals try simp only [Bo, I, OB.row.injEq, AV.osl.injEq, eI_same,  List.cons.injEq, AV.p.injEq, PV.c.injEq, Value.int.injEq, Value.bool.injEq, and_true, true_and, ite_and_p, ite_or_p, Bool.decide_eq_true, eta_Airway, eta_Fan, eta_Mine, inJ]
theorem c_spec_l04Ok (m : GMine) : FnSem Tryz.prog 26 [.p .any (.ref m.cells)] [] (Is [Bo (okMine m)] []) := by
  refine FnSem.walk (zs := zeroPV Tryz.prog) (by kernel_rfl) Tryz.func26 rfl Tryz.results26 (by kernel_rfl) (by kernel_rfl) (by kernel_rfl) fun hw hh => ?_
  obtain ⟨w0, _⟩ := hw
  first | replace w0 := wfr_Mine w0 | skip
  have hwl := w0.2.1
  repeat' first
    | refine And.intro rfl ?_
    | refine GdF.mk (fun h => h) ?_
    | refine And.intro (Nat.succ_ne_zero _) ?_
    | refine And.intro (Nat.le_of_ble_eq_true rfl) ?_
    | refine SeqF.run ?_
    | refine ArgF.is (c_spec_l04Junction m _ (by assumption)) ?_
    | refine ArgQ.is (fun hG => c_spec_l04Junction m _ (by assumption)) rfl rfl ?_
    | refine ArgF.is (c_spec_l03Ok (m.airways.getD i.toNat default)) ?_
    | refine ArgQ.is (fun hG => c_spec_l03Ok (m.airways.getD i.toNat default)) rfl rfl ?_
    | refine LoopF.at 4 rfl (LoopF.fix [0] (Int) (fun i => 0 ≤ i ∧ i ≤ m.airways.length ∧ (0 ≤ m.junctions ∧ m.junctions ≤ 1000) ∧ inR m.junctions 1 16 = true ∧ okTo (okAw m.junctions) (fun a b => sLt a.id b.id) default m.airways i) (fun i => [(3, In i)]) (fun i => []) (fun i => ((m.airways.length - i).toNat)) (0) ?_)
    | (refine LoopB.of (T := Int) ?_ ?_; rotate_left; rintro i ⟨h0, h1, h3, h4, h5⟩; rotate_left)
    | refine GhF.go ?_
    | refine GdS.keep ?_
    | refine DrawG.old (DrawF.lex (by decide +kernel) ?_)
    | refine EqP.mk _ (gm GAirway.cells default rfl) ?_
    | refine BndF.mk (fun _ => by omega) ?_
    | refine BndF.mk (fun _ => by simp only [lnS]; omega) ?_
    | refine BndF.mk (fun hG => by simp only [forall_const, eq_self, not_true_eq_false, not_false_eq_true, or_false, false_or, or_self, or_true, true_or, and_true, true_and, and_false, false_and, decide_true, decide_false, Bool.not_true, Bool.not_false, decide_eq_true_eq, decide_eq_false_iff_not, ite_and_p, ite_or_p, Bool.decide_eq_true, Bool.and_eq_true, Bool.or_eq_true, Bool.not_eq_true', Bool.not_eq_false', Bool.and_eq_false_imp, Bool.or_eq_false_iff, bne_iff_ne, beq_iff_eq, bne_eq_false_iff_eq, beq_eq_false_iff_ne, gt_iff_lt, ge_iff_le, Int.not_lt, Int.not_le, ne_eq, Bool.true_eq_false, Bool.false_eq_true, reduceCtorEq, eta_Airway, eta_Fan, eta_Mine, bytes_nil] at hG; (try simp only [List.length_map]); omega) ?_
    | refine EqI.mk _ (fun _ => wrapI (by omega) (by omega)) ?_
    | refine EqI.mk _ (fun _ => rfl) ?_
    | refine EqN.mk _ (ln GAirway.cells) ?_
    | refine EqN.mk _ (Nat.zero_add _) ?_
    | refine EqN.mk _ (Int.toNat_natCast _) ?_
    | refine EqN.mk _ rfl ?_
    | refine EqL.mk _ (tk GAirway.cells (by first | rfl | assumption | omega | (simp only [lnS] <;> omega))) ?_
    | refine EqL.mk [] rfl ?_
    | refine EqL.mk [_] rfl ?_
    | refine EqL.mk _ rfl ?_
    | refine ArgF.is (c_spec_l00In ..) ?_
    | refine ArgQ.is (fun hG => c_spec_l00In ..) rfl rfl ?_
    | refine ArgF.is (c_spec_l03Ok ⟨_, _, _, _, _, _, _⟩) ?_
    | refine ArgQ.is (fun hG => c_spec_l03Ok ⟨_, _, _, _, _, _, _⟩) rfl rfl ?_
    | refine ArgF.is (c_spec_l04Junction ⟨_, _⟩ _ (by first | assumption | omega)) ?_
    | refine ArgQ.is (fun hG => c_spec_l04Junction ⟨_, _⟩ _ (by first | assumption | omega)) rfl rfl ?_
    | refine ArgQ.is (fun hG => c_spec_l04Junction ⟨_, _⟩ _ (by simp only [forall_const, eq_self, not_true_eq_false, not_false_eq_true, or_false, false_or, or_self, or_true, true_or, and_true, true_and, and_false, false_and, decide_true, decide_false, Bool.not_true, Bool.not_false, decide_eq_true_eq, decide_eq_false_iff_not, ite_and_p, ite_or_p, Bool.decide_eq_true, Bool.and_eq_true, Bool.or_eq_true, Bool.not_eq_true', Bool.not_eq_false', Bool.and_eq_false_imp, Bool.or_eq_false_iff, bne_iff_ne, beq_iff_eq, bne_eq_false_iff_eq, beq_eq_false_iff_ne, gt_iff_lt, ge_iff_le, Int.not_lt, Int.not_le, ne_eq, Bool.true_eq_false, Bool.false_eq_true, reduceCtorEq, eta_Airway, eta_Fan, eta_Mine, bytes_nil] at hG; omega)) rfl rfl ?_
    | refine CallF.mk (CallW.is [] true rfl ?_)
    | refine CallG.mk ?_
    | (refine CondF.mk (fun hb => ?_) (fun hb => ?_) <;> try simp only [forall_const, eq_self, not_true_eq_false, not_false_eq_true, or_false, false_or, or_self, or_true, true_or, and_true, true_and, and_false, false_and, decide_true, decide_false, Bool.not_true, Bool.not_false, decide_eq_true_eq, decide_eq_false_iff_not, ite_and_p, ite_or_p, Bool.decide_eq_true, Bool.and_eq_true, Bool.or_eq_true, Bool.not_eq_true', Bool.not_eq_false', Bool.and_eq_false_imp, Bool.or_eq_false_iff, bne_iff_ne, beq_iff_eq, bne_eq_false_iff_eq, beq_eq_false_iff_ne, gt_iff_lt, ge_iff_le, Int.not_lt, Int.not_le, ne_eq, Bool.true_eq_false, Bool.false_eq_true, reduceCtorEq, eta_Airway, eta_Fan, eta_Mine] at hb)
    | apply BackF.auto
    | refine BackB.mk ?_ ?_
    | refine RetF.auto (And.intro rfl ?_)
    | exact Is.mk rfl rfl
    | refine Is.mk ?_ rfl
    | refine Is.mk rfl ?_
    | refine Is.mk ?_ ?_
  all_goals try dsimp only
  all_goals try simp only [Bo, I, OB.row.injEq, AV.osl.injEq, eI_same,  List.cons.injEq, AV.p.injEq, PV.c.injEq, Value.int.injEq, Value.bool.injEq, and_true, true_and, ite_and_p, ite_or_p, Bool.decide_eq_true, eta_Airway, eta_Fan, eta_Mine]
  · unfold okMine; rw [hb]; rfl
  · have := inR_iff.1 hb; exact ⟨by omega, by omega, by omega, hb, okTo_0⟩
  · unfold okMine
    rw [okAll_f h0 (by omega) (d := default), Bool.and_false]
    rcases hb with hb | hb
    · left; unfold okAw endsA; rcases hb with (hb | hb) | hb <;> rw [hb] <;> simp
    · right; exact hb
  · refine ⟨by omega, by omega, h3, h4, okTo_s h0 h5 ?_ (fun h => hb.2 h)⟩
    have h6 := hb.1
    simp only [not_or, Bool.not_eq_false] at h6
    unfold okAw endsA
    rw [h6.1.1, h6.1.2, h6.2]; rfl
  · omega
  · unfold okMine
    rw [okAll_t (by omega) h5, h4]
    rw [Bool.true_and, Bool.and_true]; congr 1; rw [eq_iff_iff]; omega
--@fn spec.l04Ok
theorem okT (m : GMine) (hm : okMine m = true) : FnSem Tryz.prog 26 [.p .any (.ref m.cells)] [] (Is [Bo true] []) := by
  have := c_spec_l04Ok m
  rwa [hm] at this
--@fn impl.ValidMine
structure blF (m : GMine) (fl : List Int) (B : Int) : Prop where
  ln : fl.length = m.airways.length
  bd : ∀ k : Nat, -B ≤ fl.getD k 0 ∧ fl.getD k 0 ≤ B
  im : ∀ j : Int, imbA m fl j = 0
theorem mshG.ok {m : GMine} {w : List Int} (h : mshG m w) : okWk m.airways.length w := ⟨by have := h.p.ln; omega, h.ix⟩
theorem blF.lo {m : GMine} {fl : List Int} (h : blF m fl 100000) : lsO m fl (-100000) 100000 = true := lsO_t h.ln fun k _ => h.bd k
theorem c_spec_l07Add (n : Nat) (fl w : List Int) (a : Int) (hn : n = fl.length) (hl : fl.length ≤ 1000) (hw : okWk fl.length w) (hf : ∀ k : Nat, -100000000 ≤ fl.getD k 0 ∧ fl.getD k 0 ≤ 100000000) (ha : -1000000 ≤ a ∧ a ≤ 1000000) : FnSem Tryz.prog 66 [.osl 0 0 n, Lx (LI w), In a] [.row false .flat (eI 0) (fl.map eI)] (Is [] [.row false .flat (eI 0) ((addW fl w a).map eI)]) := by
  have hB := fun (i : Int) (g : List Int) (h : g = addW fl (w.take i.toNat) a) (k : Nat) => h ▸ addW_bi (i := i) ha (by omega) hw.1 hf k
  refine FnSem.walk (zs := zeroPV Tryz.prog) (by kernel_rfl) Tryz.func66 rfl Tryz.results66 (by kernel_rfl) (by kernel_rfl) (by kernel_rfl) fun hw hh => ?_
  obtain ⟨w0, w1, w2, _⟩ := hw
  first | replace w0 := wf_LI w0 | skip
  first | replace w1 := wf_LI w1 | skip
  first | replace w2 := wf_I w2 | skip
  repeat' first
    | refine And.intro rfl ?_
    | refine GdF.mk (fun h => h) ?_
    | refine And.intro (Nat.succ_ne_zero _) ?_
    | refine And.intro (Nat.le_of_ble_eq_true rfl) ?_
    | refine SeqF.run ?_
    | refine LoopF.at 1 rfl (LoopF.fix [0, 1, 2] (Int × List Int) (fun (i, g) => 0 ≤ i ∧ i ≤ w.length ∧ g = addW fl (w.take i.toNat) a ∧ g.length = fl.length) (fun (i, g) => [(6, In i)]) (fun (i, g) => [(0, .row false .flat (eI 0) (g.map eI))]) (fun (i, g) => ((w.length - i).toNat)) ((0, fl)) ?_)
    | (refine LoopB.of (T := Int × List Int) ?_ ?_; rotate_left; rintro ⟨i, g⟩ ⟨i0, i1, i2, i3⟩; rotate_left)
    | refine BndF.mk (fun _ => by have q := okWk_i hw i0 (by assumption); have e : absI (w.getD i.toNat 0) = max (w.getD i.toNat 0) (0 - w.getD i.toNat 0) := rfl; first | omega | (simp only [List.length_map]; omega)) ?_
    | refine EqI.mk _ (fun _ => by have q := okWk_i hw i0 (by assumption); exact wrapI (by omega) (by omega)) ?_
    | refine EqI.mk _ (fun _ => by have q := okWk_i hw i0 (by assumption); have q2 := hB i g i2 (w.getD i.toNat 0 - 1).toNat; have q3 := hB i g i2 (0 - w.getD i.toNat 0 - 1).toNat; exact wrapI (by omega) (by omega)) ?_
    | refine GhF.go ?_
    | refine EqP.mk _ (gm eI 0 rfl) ?_
    | refine BndF.mk (fun _ => by omega) ?_
    | refine BndF.mk (fun _ => by simp only [lnS]; omega) ?_
    | refine EqI.mk _ (fun _ => wrapI (by omega) (by omega)) ?_
    | refine EqI.mk _ (fun _ => rfl) ?_
    | refine EqN.mk _ (ln eI) ?_
    | refine EqN.mk _ (Nat.zero_add _) ?_
    | refine EqN.mk _ (Int.toNat_natCast _) ?_
    | refine EqN.mk _ rfl ?_
    | refine EqL.mk _ (st eI) ?_
    | refine EqL.mk [] rfl ?_
    | refine EqL.mk [_] rfl ?_
    | refine EqL.mk _ rfl ?_
    | (refine CondF.mk (fun hb => ?_) (fun hb => ?_) <;> try simp only [forall_const, eq_self, not_true_eq_false, not_false_eq_true, or_false, false_or, or_self, or_true, true_or, and_true, true_and, and_false, false_and, decide_true, decide_false, Bool.not_true, Bool.not_false, decide_eq_true_eq, decide_eq_false_iff_not, ite_and_p, ite_or_p, Bool.decide_eq_true, Bool.and_eq_true, Bool.or_eq_true, Bool.not_eq_true', Bool.not_eq_false', Bool.and_eq_false_imp, Bool.or_eq_false_iff, bne_iff_ne, beq_iff_eq, bne_eq_false_iff_eq, beq_eq_false_iff_ne, gt_iff_lt, ge_iff_le, Int.not_lt, Int.not_le, ne_eq, Bool.true_eq_false, Bool.false_eq_true, reduceCtorEq, eta_Airway, eta_Fan, eta_Mine] at hb)
    | apply BackF.auto2
    | refine BackB.mk ?_ ?_
    | refine RetF.auto (And.intro rfl ?_)
    | exact Is.mk rfl rfl
    | refine Is.mk ?_ rfl
    | refine Is.mk rfl ?_
    | refine Is.mk ?_ ?_
  all_goals try dsimp only
  all_goals first
    | omega
    | exact ⟨by omega, by omega, rfl, rfl⟩
    | (refine ⟨by omega, by omega, ?_, by rw [List.length_set]; exact i3⟩
       rw [i2, addW_s i0 (by assumption), show ixW (w.getD i.toNat 0) = (w.getD i.toNat 0 - 1).toNat by unfold ixW absI; omega, sgW, if_pos (by omega), Int.one_mul])
    | (refine ⟨by omega, by omega, ?_, by rw [List.length_set]; exact i3⟩
       have q := okWk_i hw i0 (by assumption)
       have e : absI (w.getD i.toNat 0) = max (w.getD i.toNat 0) (0 - w.getD i.toNat 0) := rfl
       rw [i2, addW_s i0 (by assumption), show ixW (w.getD i.toNat 0) = (0 - w.getD i.toNat 0 - 1).toNat by unfold ixW absI; omega, sgW, if_neg (by omega), Int.neg_one_mul]; rfl)
    | (rw [i2, show i.toNat = w.length by omega, List.take_length]; rfl)
    | skip
end Go.Proofs.YtdhkpmaanegjkaaGreat
