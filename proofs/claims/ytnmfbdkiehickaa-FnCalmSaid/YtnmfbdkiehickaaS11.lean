/- Contracts of functions of the program, and what they compute. Conditions: those that each theorem states. -/
import Derived.Test.YtnmfbdkiehickaaProg
import Derived.Test.YtnmfbdkiehickaaS7
import Derived.Test.YtnmfbdkiehickaaS10
set_option linter.unusedVariables false
set_option linter.unusedSimpArgs false
namespace Go.Proofs.Ytnmfbdkiehickaa
open Go.Av
attribute [local irreducible] Go.IntKind.wrap okModes okMode bestT argT costM leastV leftS okHours restF freeN dayN pathM costTo valT minC rowT tblN bestD askD stepW bestA
set_option maxRecDepth 20000
set_option maxHeartbeats 8000000

/-! The calm day. -/
section
variable {ms : List GMode} {needs prices : List Int} {sw h k b l c : Int}
/-- the step's value for an hour of the best day -/
def stepC (ms : List GMode) (needs prices : List Int) (sw h : Int) : Nat → Int := stepW ms needs prices 10000000 (leastV ms needs prices 10000000 (23 - h.toNat)) h (pathM ms needs prices 10000000 sw h.toNat).1 (pathM ms needs prices 10000000 sw h.toNat).2
theorem calm_skip {g : Nat → Int} (h0 : 0 ≤ k) (hb : b = bestA g k.toNat) (hl : 0 ≤ b → l = bestT g k.toNat) (hc : g k.toNat = -1) : b = bestA g (k + 1).toNat ∧ (0 ≤ b → l = bestT g (k + 1).toNat) :=
  ⟨bestA_skip h0 hb hc, fun h => by rw [bestT_k h0 (by omega)]; exact hl h⟩
theorem calm_take {g : Nat → Int} (h0 : 0 ≤ k) (hb : b = bestA g k.toNat) (hl : 0 ≤ b → l = bestT g k.toNat) (hc : g k.toNat = c) (hn : 0 ≤ c) (ht : b < 0 ∨ c < l) : k = bestA g (k + 1).toNat ∧ (0 ≤ k → c = bestT g (k + 1).toNat) := by
  have q := bestA_n hb
  have hw : 0 ≤ g k.toNat ∧ (bestT g k.toNat < 0 ∨ g k.toNat < bestT g k.toNat) := by
    refine ⟨by omega, ?_⟩
    by_cases h2 : b < 0
    · exact .inl (q.1.1 h2)
    · have := hl (by omega); omega
  refine ⟨bestA_take h0 hb hc hn ?_, fun _ => by rw [bestT_s h0 hw, hc]⟩
  by_cases h2 : b < 0
  · exact .inl h2
  · have := hl (by omega); have := q.2.2 (by omega); omega
theorem calm_keep {g : Nat → Int} (h0 : 0 ≤ k) (hb : b = bestA g k.toNat) (hl : 0 ≤ b → l = bestT g k.toNat) (hc : g k.toNat = c) (ht : ¬(0 ≤ c ∧ (b < 0 ∨ c < l))) : b = bestA g (k + 1).toNat ∧ (0 ≤ b → l = bestT g (k + 1).toNat) := by
  have q := bestA_n hb
  have hw : ¬(0 ≤ g k.toNat ∧ (bestT g k.toNat < 0 ∨ g k.toNat < bestT g k.toNat)) := by
    rintro ⟨a1, a2⟩
    refine ht ⟨by omega, ?_⟩
    by_cases h2 : b < 0
    · exact .inl h2
    · have := hl (by omega); have := q.2.2 (by omega); omega
  refine ⟨?_, fun h => by rw [bestT_k h0 hw]; exact hl h⟩
  unfold bestA at *
  rw [bestT_k h0 hw, argT_k h0 hw]; exact hb
/-- the mode before an hour -/
theorem path_0 : (pathM ms needs prices 10000000 sw (Int.toNat 0)).1 = -1 ∧ (pathM ms needs prices 10000000 sw (Int.toNat 0)).2 = sw := by unfold pathM; exact ⟨rfl, rfl⟩
theorem day_prev (h0 : 0 < h) : (dayN ms needs prices 10000000 sw h.toNat).getD (h - 1).toNat 0 = (pathM ms needs prices 10000000 sw h.toNat).1 := by
  rw [dayN_get (by omega), show (h - 1).toNat + 1 = h.toNat by omega]
end
abbrev eLLI (xss : List (List Int)) : List PV := [.lst zL (xss.map eLI)]
/-- the tables from an hour on -/
def tabsT (ms : List GMode) (needs prices : List Int) (h : Int) (es : List (List PV)) : Prop := es.length = 24 ∧ (∀ j : Nat, h < (j : Int) → j < 24 → es.getD j zL = eLLI (tblN ms needs prices j ms.length)) ∧ ∀ j : Nat, (j : Int) ≤ h → es.getD j zL = zL
theorem tabs_s {ms : List GMode} {needs prices : List Int} {h : Int} {es : List (List PV)} (h0 : 0 ≤ h) (h1 : h < 24) (ht : tabsT ms needs prices h es) : tabsT ms needs prices (h - 1) (es.set h.toNat (eLLI (tblN ms needs prices h ms.length))) := by
  refine ⟨by simp [ht.1], fun j hj hj2 => ?_, fun j hj => ?_⟩
  · simp only [List.getD_eq_getElem?_getD, List.getElem?_set]
    by_cases e : h.toNat = j
    · rw [if_pos e, if_pos (by rw [ht.1]; omega), show h = (j : Int) by omega]; rfl
    · rw [if_neg e, ← List.getD_eq_getElem?_getD]
      exact ht.2.1 j (by omega) hj2
  · simp only [List.getD_eq_getElem?_getD, List.getElem?_set]
    rw [if_neg (by omega), ← List.getD_eq_getElem?_getD]
    exact ht.2.2 j (by omega)
theorem tabs_z {ms : List GMode} {needs prices : List Int} {h : Int} {es : List (List PV)} (ht : tabsT ms needs prices h es) (h0 : 0 ≤ h) : es.getD h.toNat zL = zL := ht.2.2 h.toNat (by omega)
theorem tabs_0 {ms : List GMode} {needs prices : List Int} : tabsT ms needs prices 23 (List.replicate 24 zL) := ⟨by simp, fun j hj hj2 => absurd hj2 (by omega), fun j hj => by simp only [List.getD_eq_getElem?_getD, List.getElem?_replicate]; split <;> rfl⟩
theorem tabs_at {ms : List GMode} {needs prices : List Int} {h t : Int} {es : List (List PV)} (ht : tabsT ms needs prices h es) (h0 : 0 ≤ t) (h1 : h < t) (h2 : t < 24) : es.getD t.toNat zL = eLLI (tblN ms needs prices t ms.length) := by
  have q := ht.2.1 t.toNat (by omega) (by omega)
  rwa [show ((t.toNat : Nat) : Int) = t by omega] at q
section
variable {ms : List GMode} {needs prices : List Int} {sw t k b l s c left sum : Int} {xs : List Int}
theorem tab_get (hk0 : 0 ≤ k) (hk : k < ms.length) (h0 : 0 ≤ s) (h1 : s ≤ 24) : ((tblN ms needs prices t ms.length).getD k.toNat []).length = 25 ∧ ((tblN ms needs prices t ms.length).getD k.toNat []).getD s.toNat 0 = valT ms needs prices t k.toNat s := by
  rw [tblN_get (by omega), rowT_len]
  exact ⟨rfl, rowT_get h0 (by omega)⟩
theorem calm_m (h0 : 0 < t) : 0 ≤ (pathM ms needs prices 10000000 sw t.toNat).1 := by
  rw [show t.toNat = (t - 1).toNat + 1 by omega, path_m]; omega
theorem calm_a (h3 : xs = dayN ms needs prices 10000000 sw t.toNat) (hl : left = (pathM ms needs prices 10000000 sw t.toNat).2) (hb : 0 < t ∧ ¬xs.getD (t - 1).toNat 0 = k) : left - 1 = leftS (pathM ms needs prices 10000000 sw t.toNat).1 (pathM ms needs prices 10000000 sw t.toNat).2 k := by
  have hm := calm_m (ms := ms) (needs := needs) (prices := prices) (sw := sw) hb.1
  rw [h3, day_prev hb.1] at hb
  unfold leftS; rw [if_pos ⟨hm, hb.2⟩, hl]
theorem calm_b (h0 : 0 ≤ t) (h3 : xs = dayN ms needs prices 10000000 sw t.toNat) (hl : left = (pathM ms needs prices 10000000 sw t.toNat).2) (hb : 0 < t → xs.getD (t - 1).toNat 0 = k) : left = leftS (pathM ms needs prices 10000000 sw t.toNat).1 (pathM ms needs prices 10000000 sw t.toNat).2 k := by
  unfold leftS
  rw [if_neg, hl]
  rintro ⟨a1, a2⟩
  by_cases ht : 0 < t
  · have := hb ht
    rw [h3, day_prev ht] at this
    exact a2 this
  · have e : t = 0 := by omega
    subst e
    rw [path_0.1] at a1; omega
theorem calm_c (ho : okModes ms = true) (h0 : 0 ≤ t) (hk0 : 0 ≤ k) (hk : k < ms.length) (hs : s = leftS (pathM ms needs prices 10000000 sw t.toNat).1 (pathM ms needs prices 10000000 sw t.toNat).2 k) (h1 : 0 ≤ s) (h2 : s ≤ 24) : stepC ms needs prices sw t k.toNat = ((tblN ms needs prices t ms.length).getD k.toNat []).getD s.toNat 0 := by
  rw [(tab_get hk0 hk h1 h2).2]
  unfold stepC
  rw [step_val ho h0 (by omega), show ((k.toNat : Nat) : Int) = k by omega, ← hs, if_pos h1]
theorem calm_n (ho : okModes ms = true) (h0 : 0 ≤ t) (hk0 : 0 ≤ k) (hk : k < ms.length) (hs : s = leftS (pathM ms needs prices 10000000 sw t.toNat).1 (pathM ms needs prices 10000000 sw t.toNat).2 k) (h1 : s < 0) : stepC ms needs prices sw t k.toNat = -1 := by
  unfold stepC
  rw [step_val ho h0 (by omega), show ((k.toNat : Nat) : Int) = k by omega, ← hs, if_neg (by omega)]
theorem calm_least (h0 : 0 ≤ t) (h1 : t < 24) : leastV ms needs prices 10000000 (24 - t.toNat) (pathM ms needs prices 10000000 sw t.toNat).1 (pathM ms needs prices 10000000 sw t.toNat).2 = bestT (stepC ms needs prices sw t) ms.length := least_t h0 h1
theorem calm_first : leastV ms needs prices 10000000 24 (-1) sw = bestT (stepC ms needs prices sw 0) ms.length := by
  have := calm_least (ms := ms) (needs := needs) (prices := prices) (sw := sw) (t := 0) (by omega) (by omega)
  rw [path_0.1, path_0.2] at this
  exact this
theorem calm_none (ha : askD ms needs prices = 0) (hs : 0 ≤ sw ∧ sw ≤ 24) (h0 : 0 ≤ t) (h1 : t < 24) (h5 : 0 < t → 0 ≤ leastV ms needs prices 10000000 24 (-1) sw ∧ sum = leastV ms needs prices 10000000 24 (-1) sw) (g2 : b = bestA (stepC ms needs prices sw t) k.toNat) (hk : k.toNat = ms.length) (hb : b < 0) : bestD ms needs prices sw 10000000 = ([], 0, 3) := by
  have q := (bestA_n g2).1.1 hb
  rw [hk] at q
  by_cases ht : 0 < t
  · have := (path_ok (h5 ht).1 hs.1 t.toNat (by omega)).1
    rw [calm_least h0 h1] at this
    omega
  · have e : t = 0 := by omega
    subst e
    obtain ⟨ho, hn, hp⟩ := ask_0 ha
    rw [← calm_first] at q
    unfold bestD
    rw [if_pos ho, if_pos ⟨hn, hp, inR_iff.2 hs⟩, if_pos q]
theorem calm_next (hs : 0 ≤ sw ∧ sw ≤ 24) (h0 : 0 ≤ t) (h1 : t < 24) (hl : left = (pathM ms needs prices 10000000 sw t.toNat).2) (hl2 : left ≤ 24) (g2 : b = bestA (stepC ms needs prices sw t) k.toNat) (g5 : 0 ≤ b → l = bestT (stepC ms needs prices sw t) k.toNat) (hk : k.toNat = ms.length) (hb : 0 ≤ b) (h5 : 0 < t → 0 ≤ leastV ms needs prices 10000000 24 (-1) sw ∧ sum = leastV ms needs prices 10000000 24 (-1) sw) :
    dayN ms needs prices 10000000 sw (t + 1).toNat = dayN ms needs prices 10000000 sw t.toNat ++ [b] ∧ (pathM ms needs prices 10000000 sw (t + 1).toNat).2 = leftS (pathM ms needs prices 10000000 sw t.toNat).1 (pathM ms needs prices 10000000 sw t.toNat).2 b ∧ (0 ≤ leftS (pathM ms needs prices 10000000 sw t.toNat).1 (pathM ms needs prices 10000000 sw t.toNat).2 b ∧ leftS (pathM ms needs prices 10000000 sw t.toNat).1 (pathM ms needs prices 10000000 sw t.toNat).2 b ≤ 24) ∧ 0 ≤ leastV ms needs prices 10000000 24 (-1) sw ∧ (t = 0 → l = leastV ms needs prices 10000000 24 (-1) sw) := by
  have q := (bestA_n g2).2.2 hb
  have e5 := g5 hb
  rw [hk] at q e5
  obtain ⟨p1, p2⟩ := path_t (ms := ms) (needs := needs) (prices := prices) (peak := 10000000) (sw := sw) h0 rfl rfl
  have pb : (pathM ms needs prices 10000000 sw (t + 1).toNat).1 = b := by rw [p1]; exact q.2.2.symm
  rw [pb] at p2
  have hst : 0 ≤ stepC ms needs prices sw t b.toNat := by rw [q.2.1]; have := bestT_ge (g := stepC ms needs prices sw t) ms.length; have := (bestA_n g2).1; rw [hk] at this; omega
  have hi := (stepW_inv hst).1.1
  rw [show ((b.toNat : Nat) : Int) = b by omega] at hi
  refine ⟨?_, p2, ⟨hi, Int.le_trans left_le (by rw [← hl]; exact hl2)⟩, ?_, fun e => ?_⟩
  · rw [show (t + 1).toNat = t.toNat + 1 by omega, dayN_s, ← pb, show (t + 1).toNat = t.toNat + 1 by omega]
  · by_cases ht : 0 < t
    · exact (h5 ht).1
    · have e : t = 0 := by omega
      subst e
      rw [calm_first, ← q.2.1]; exact hst
  · subst e
    rw [calm_first]; exact e5
theorem calm_end (ha : askD ms needs prices = 0) (hs : 0 ≤ sw ∧ sw ≤ 24) (h0 : ¬t < 24) (h1 : t ≤ 24) (h5 : 0 < t → 0 ≤ leastV ms needs prices 10000000 24 (-1) sw ∧ sum = leastV ms needs prices 10000000 24 (-1) sw) : bestD ms needs prices sw 10000000 = (dayN ms needs prices 10000000 sw t.toNat, sum, 0) := by
  obtain ⟨ho, hn, hp⟩ := ask_0 ha
  have q := h5 (by omega)
  unfold bestD
  rw [if_pos ho, if_pos ⟨hn, hp, inR_iff.2 hs⟩, if_neg (by omega), q.2, show t.toNat = 24 by omega]
theorem calm_r (ha : askD ms needs prices = 0 ∧ inR sw 0 24 = false) : bestD ms needs prices sw 10000000 = ([], 0, 2) := bestD_2 (ask_0 ha.1).1 (.inr ha.2)
end
attribute [local irreducible] stepC
theorem c_spec_CalmDay (ms : List GMode) (needs prices : List Int) (sw : Int) : FnSem Try.prog 48 [.p .any (.lst (GMode.cells default) (ms.map GMode.cells)), Lx (LI needs), Lx (LI prices), In sw] [] (Is [.osl 0 0 (bestD ms needs prices sw 10000000).1.length, In (bestD ms needs prices sw 10000000).2.1, In (bestD ms needs prices sw 10000000).2.2] [Rw .flat (eI 0) ((bestD ms needs prices sw 10000000).1.map eI)]) := by
  refine FnSem.walk (zs := zeroPV Try.prog) (by kernel_rfl) Try.func48 rfl Try.results48 (by kernel_rfl) (by kernel_rfl) (by kernel_rfl) fun hw hh => ?_
  obtain ⟨w0, w1, w2, w3, _⟩ := hw
  first | replace w0 := wf_LMode w0 | skip
  first | replace w1 := wf_I w1 | replace w1 := wf_Y w1 | replace w1 := wf_S w1 | replace w1 := wf_LI w1 | replace w1 := wf_LY w1 | replace w1 := wf_LLI w1 | replace w1 := wf_Ls w1 | skip
  first | replace w2 := wf_I w2 | replace w2 := wf_Y w2 | replace w2 := wf_S w2 | replace w2 := wf_LI w2 | replace w2 := wf_LY w2 | replace w2 := wf_LLI w2 | replace w2 := wf_Ls w2 | skip
  first | replace w3 := wf_I w3 | replace w3 := wf_Y w3 | replace w3 := wf_S w3 | replace w3 := wf_LI w3 | replace w3 := wf_LY w3 | replace w3 := wf_LLI w3 | replace w3 := wf_Ls w3 | skip
  repeat' first
    | refine And.intro rfl ?_
    | refine GdF.mk (fun h => h) ?_
    | refine And.intro (Nat.succ_ne_zero _) ?_
    | refine And.intro (Nat.le_of_ble_eq_true rfl) ?_
    | refine SeqF.run ?_
    | (refine CondF.mk (fun hb => ?_) (fun hb => absurd hb (by decide)) <;> try simp only [] at hb)
    | refine LoopF.at 8 rfl (LoopF.fixw [0] [0, 1, 2, 3, 12] (Int × List (List PV)) (fun (h, es) => -1 ≤ h ∧ h ≤ 23 ∧ tabsT ms needs prices h es ∧ askD ms needs prices = 0 ∧ 0 ≤ sw ∧ sw ≤ 24) (fun (h, es) => [(13, In h)]) (fun (h, es) => [(0, .row true .fresh zL es)]) (fun (h, es) => ((h + 1).toNat)) ((23, List.replicate 24 zL)) ?_)
    | (refine LoopB.of (T := Int × List (List PV)) ?_ ?_; rotate_left; rintro ⟨h, es⟩ ⟨h0, h1, h2, h3, h4, h5⟩; rotate_left)
    | refine LoopF.at 18 rfl (LoopF.fix [0, 12] (Int × Int × Int × Nat × List Int) (fun (t, left, sum, n, xs) => 0 ≤ t ∧ t ≤ 24 ∧ (n = xs.length ∧ (n : Int) = t) ∧ xs = dayN ms needs prices 10000000 sw t.toNat ∧ left = (pathM ms needs prices 10000000 sw t.toNat).2 ∧ (0 < t → 0 ≤ leastV ms needs prices 10000000 24 (-1) sw ∧ sum = leastV ms needs prices 10000000 24 (-1) sw) ∧ (0 ≤ left ∧ left ≤ 24) ∧ h < 0) (fun (t, left, sum, n, xs) => [(18, In t), (16, In left), (17, In sum), (15, .osl 1 0 n)]) (fun (t, left, sum, n, xs) => [(1, Rw .flat (eI 0) (xs.map eI))]) (fun (t, left, sum, n, xs) => ((24 - t).toNat)) ((0, sw, 0, 0, [])) ?_)
    | (refine LoopB.of (T := Int × Int × Int × Nat × List Int) ?_ ?_; rotate_left; rintro ⟨t, left, sum, n, xs⟩ ⟨f0, f1, f2, f3, f4, f5, f6, f7⟩; rotate_left)
    | refine LoopF.at 23 rfl (LoopF.fix [0, 12, 15, 16, 17, 18] (Int × Int × Int) (fun (k, b, l) => 0 ≤ k ∧ k ≤ ms.length ∧ b = bestA (stepC ms needs prices sw t) k.toNat ∧ (0 ≤ b → l = bestT (stepC ms needs prices sw t) k.toNat) ∧ t < 24) (fun (k, b, l) => [(21, In k), (19, In b), (20, In l)]) (fun (k, b, l) => []) (fun (k, b, l) => ((ms.length - k).toNat)) ((0, -1, 0)) ?_)
    | (refine LoopB.of (T := Int × Int × Int) ?_ ?_; rotate_left; rintro ⟨k, b, l⟩ ⟨g0, g1, g2, g3, g4⟩; rotate_left)
    | refine BndF.mk (fun hG => by have hg' := of_decide_eq_true hg; rw [List.length_map]; omega) ?_
    | refine BndF.mk (fun hG => by have hg' := of_decide_eq_true hg; omega) ?_
    | refine BndF.mk (fun _ => by have := h2.1; omega) ?_
    | refine BndF.mk (fun _ => by rw [List.length_map, tblN_len]; omega) ?_
    | refine BndF.mk (fun _ => by rw [List.length_map, (tab_get (s := 0) g0 (by omega) (by omega) (by omega)).1]; omega) ?_
    | refine EqP.mk (eLLI (tblN ms needs prices (h + 1) ms.length)) (tabs_at h2 (by omega) (by omega) (by omega)) ?_
    | refine EqP.mk (eLLI (tblN ms needs prices t ms.length)) (tabs_at h2 (by omega) (by omega) (by omega)) ?_
    | refine EqP.mk zL (tabs_z h2 (by omega)) ?_
    | refine EqL.mk (es.set h.toNat (eLLI (tblN ms needs prices h ms.length))) rfl ?_
    | refine GdS.tt (by first | rfl | assumption) ?_
    | refine GdS.ff (by first | rfl | assumption) ?_
    | refine GdS.split (G := decide (t > 0)) (fun hg => ?_) (fun hg => ?_)
    | refine GdF.mk (fun h => by first | exact h | rfl | assumption | (rw [hg] at h; exact h)) ?_
    | refine EqP.mk _ (gmb eLI [] (by rw [tblN_len]; omega)) ?_
    | refine ArgF.is (c_spec_l22Table ms needs prices h (tblN ms needs prices (h + 1) ms.length) (ask_0 h3).1 (okHours_iff.1 (ask_0 h3).2.1).1 (ask_0 h3).2.2 (by omega) (by omega) (fun _ => rfl)) ?_
    | refine ArgQ.is (fun hG => c_spec_l22Table ms needs prices h (tblN ms needs prices (h + 1) ms.length) (ask_0 h3).1 (okHours_iff.1 (ask_0 h3).2.1).1 (ask_0 h3).2.2 (by omega) (by omega) (fun _ => rfl)) rfl rfl ?_
    | refine ArgF.is (c_spec_l22Table ms needs prices h [] (ask_0 h3).1 (okHours_iff.1 (ask_0 h3).2.1).1 (ask_0 h3).2.2 (by omega) (by omega) (fun hx => absurd hx (by omega))) ?_
    | refine ArgQ.is (fun hG => c_spec_l22Table ms needs prices h [] (ask_0 h3).1 (okHours_iff.1 (ask_0 h3).2.1).1 (ask_0 h3).2.2 (by omega) (by omega) (fun hx => absurd hx (by omega))) rfl rfl ?_
    | refine GhF.go ?_
    | refine GdS.keep ?_
    | refine MkF.row ?_
    | refine EqP.mk _ (gm eI 0 rfl) ?_
    | refine EqP.mk _ (gm GMode.cells default rfl) ?_
    | refine EqP.mk _ (gmb eLI [] (by omega)) ?_
    | refine BndF.mk (fun _ => by omega) ?_
    | refine BndF.mk (fun _ => by simp only [List.length_map, List.length_cons, List.length_nil, List.length_append, List.length_set, List.length_replicate, iotaI_len]; omega) ?_
    | refine BndF.mk (fun hG => by simp only [forall_const, eq_self, not_true_eq_false, not_false_eq_true, or_false, false_or, or_self, or_true, true_or, and_true, true_and, and_false, false_and, decide_true, decide_false, Bool.not_true, Bool.not_false, decide_eq_true_eq, decide_eq_false_iff_not, ite_and_p, ite_or_p, Bool.decide_eq_true, Bool.and_eq_true, Bool.or_eq_true, Bool.not_eq_true', Bool.not_eq_false', Bool.and_eq_false_imp, Bool.or_eq_false_iff, bne_iff_ne, beq_iff_eq, bne_eq_false_iff_eq, beq_eq_false_iff_ne, gt_iff_lt, ge_iff_le, Int.not_lt, Int.not_le, ne_eq, Bool.true_eq_false, Bool.false_eq_true, reduceCtorEq, eta_Airway, eta_Door, eta_Dusting, eta_Fan, eta_Mine, eta_Mode, bytes_nil] at hG; (try simp only [List.length_map]); omega) ?_
    | refine EqI.mk _ (fun _ => wrapI (by omega) (by omega)) ?_
    | refine EqI.mk _ (fun _ => rfl) ?_
    | refine FlF.keep ?_
    | refine EqN.mk _ (ln eI) ?_
    | refine EqN.mk _ (ln GMode.cells) ?_
    | refine EqN.mk _ (ln eLI) ?_
    | refine EqN.mk _ (Nat.zero_add _) ?_
    | refine EqN.mk (_ + 1) rfl ?_
    | refine EqN.mk _ (Int.toNat_natCast _) ?_
    | refine EqN.mk _ rfl ?_
    | refine EqL.mk _ (sn0 eI) ?_
    | refine EqL.mk _ (sn eI (by first | rfl | assumption | omega | (simp only [List.length_map, List.length_cons, List.length_nil, List.length_append, List.length_set, List.length_replicate, iotaI_len]; done) | (simp only [List.length_map, List.length_cons, List.length_nil, List.length_append, List.length_set, List.length_replicate, iotaI_len]; omega))) ?_
    | refine EqL.mk _ (ap0 eI) ?_
    | refine EqL.mk _ (ap eI (by first | rfl | assumption | omega | (simp only [List.length_map, List.length_cons, List.length_nil, List.length_append, List.length_set, List.length_replicate, iotaI_len]; done) | (simp only [List.length_map, List.length_cons, List.length_nil, List.length_append, List.length_set, List.length_replicate, iotaI_len]; omega))) ?_
    | refine EqL.mk _ (tk eI (by first | rfl | assumption | omega | (simp only [List.length_map, List.length_cons, List.length_nil, List.length_append, List.length_set, List.length_replicate, iotaI_len]; done) | (simp only [List.length_map, List.length_cons, List.length_nil, List.length_append, List.length_set, List.length_replicate, iotaI_len]; omega))) ?_
    | refine EqL.mk _ (st eI) ?_
    | refine EqL.mk _ (rp eI 0) ?_
    | refine EqL.mk _ (dt eI) ?_
    | refine EqL.mk _ (sn0 GMode.cells) ?_
    | refine EqL.mk _ (sn GMode.cells (by first | rfl | assumption | omega | (simp only [List.length_map, List.length_cons, List.length_nil, List.length_append, List.length_set, List.length_replicate, iotaI_len]; done) | (simp only [List.length_map, List.length_cons, List.length_nil, List.length_append, List.length_set, List.length_replicate, iotaI_len]; omega))) ?_
    | refine EqL.mk _ (ap0 GMode.cells) ?_
    | refine EqL.mk _ (ap GMode.cells (by first | rfl | assumption | omega | (simp only [List.length_map, List.length_cons, List.length_nil, List.length_append, List.length_set, List.length_replicate, iotaI_len]; done) | (simp only [List.length_map, List.length_cons, List.length_nil, List.length_append, List.length_set, List.length_replicate, iotaI_len]; omega))) ?_
    | refine EqL.mk _ (tk GMode.cells (by first | rfl | assumption | omega | (simp only [List.length_map, List.length_cons, List.length_nil, List.length_append, List.length_set, List.length_replicate, iotaI_len]; done) | (simp only [List.length_map, List.length_cons, List.length_nil, List.length_append, List.length_set, List.length_replicate, iotaI_len]; omega))) ?_
    | refine EqL.mk _ (st GMode.cells) ?_
    | refine EqL.mk _ (rp GMode.cells default) ?_
    | refine EqL.mk _ (dt GMode.cells) ?_
    | refine EqL.mk _ (sn0 eLI) ?_
    | refine EqL.mk _ (sn eLI (by first | rfl | assumption | omega | (simp only [List.length_map, List.length_cons, List.length_nil, List.length_append, List.length_set, List.length_replicate, iotaI_len]; done) | (simp only [List.length_map, List.length_cons, List.length_nil, List.length_append, List.length_set, List.length_replicate, iotaI_len]; omega))) ?_
    | refine EqL.mk _ (ap0 eLI) ?_
    | refine EqL.mk _ (ap eLI (by first | rfl | assumption | omega | (simp only [List.length_map, List.length_cons, List.length_nil, List.length_append, List.length_set, List.length_replicate, iotaI_len]; done) | (simp only [List.length_map, List.length_cons, List.length_nil, List.length_append, List.length_set, List.length_replicate, iotaI_len]; omega))) ?_
    | refine EqL.mk _ (tk eLI (by first | rfl | assumption | omega | (simp only [List.length_map, List.length_cons, List.length_nil, List.length_append, List.length_set, List.length_replicate, iotaI_len]; done) | (simp only [List.length_map, List.length_cons, List.length_nil, List.length_append, List.length_set, List.length_replicate, iotaI_len]; omega))) ?_
    | refine EqL.mk _ (st eLI) ?_
    | refine EqL.mk _ (rp eLI []) ?_
    | refine EqL.mk _ (dt eLI) ?_
    | refine EqL.mk [] rfl ?_
    | refine EqL.mk [_] rfl ?_
    | refine EqL.mk _ rfl ?_
    | refine ArgF.is (c_spec_l22Ask ..) ?_
    | refine ArgQ.is (fun hG => c_spec_l22Ask ..) rfl rfl ?_
    | refine ArgF.is (c_spec_l00In ..) ?_
    | refine ArgQ.is (fun hG => c_spec_l00In ..) rfl rfl ?_
    | refine ArgF.is (c_spec_l22Table _ _ _ (by first | assumption | omega) _ (by first | assumption | omega) (by first | assumption | omega) (by first | assumption | omega) (by first | assumption | omega) (by first | assumption | omega) (by first | assumption | omega)) ?_
    | refine ArgQ.is (fun hG => c_spec_l22Table _ _ _ (by first | assumption | omega) _ (by first | assumption | omega) (by first | assumption | omega) (by first | assumption | omega) (by first | assumption | omega) (by first | assumption | omega) (by first | assumption | omega)) rfl rfl ?_
    | refine ArgQ.is (fun hG => c_spec_l22Table _ _ _ (by simp only [forall_const, eq_self, not_true_eq_false, not_false_eq_true, or_false, false_or, or_self, or_true, true_or, and_true, true_and, and_false, false_and, decide_true, decide_false, Bool.not_true, Bool.not_false, decide_eq_true_eq, decide_eq_false_iff_not, ite_and_p, ite_or_p, Bool.decide_eq_true, Bool.and_eq_true, Bool.or_eq_true, Bool.not_eq_true', Bool.not_eq_false', Bool.and_eq_false_imp, Bool.or_eq_false_iff, bne_iff_ne, beq_iff_eq, bne_eq_false_iff_eq, beq_eq_false_iff_ne, gt_iff_lt, ge_iff_le, Int.not_lt, Int.not_le, ne_eq, Bool.true_eq_false, Bool.false_eq_true, reduceCtorEq, eta_Airway, eta_Door, eta_Dusting, eta_Fan, eta_Mine, eta_Mode, bytes_nil] at hG; omega) _ (by simp only [forall_const, eq_self, not_true_eq_false, not_false_eq_true, or_false, false_or, or_self, or_true, true_or, and_true, true_and, and_false, false_and, decide_true, decide_false, Bool.not_true, Bool.not_false, decide_eq_true_eq, decide_eq_false_iff_not, ite_and_p, ite_or_p, Bool.decide_eq_true, Bool.and_eq_true, Bool.or_eq_true, Bool.not_eq_true', Bool.not_eq_false', Bool.and_eq_false_imp, Bool.or_eq_false_iff, bne_iff_ne, beq_iff_eq, bne_eq_false_iff_eq, beq_eq_false_iff_ne, gt_iff_lt, ge_iff_le, Int.not_lt, Int.not_le, ne_eq, Bool.true_eq_false, Bool.false_eq_true, reduceCtorEq, eta_Airway, eta_Door, eta_Dusting, eta_Fan, eta_Mine, eta_Mode, bytes_nil] at hG; omega) (by simp only [forall_const, eq_self, not_true_eq_false, not_false_eq_true, or_false, false_or, or_self, or_true, true_or, and_true, true_and, and_false, false_and, decide_true, decide_false, Bool.not_true, Bool.not_false, decide_eq_true_eq, decide_eq_false_iff_not, ite_and_p, ite_or_p, Bool.decide_eq_true, Bool.and_eq_true, Bool.or_eq_true, Bool.not_eq_true', Bool.not_eq_false', Bool.and_eq_false_imp, Bool.or_eq_false_iff, bne_iff_ne, beq_iff_eq, bne_eq_false_iff_eq, beq_eq_false_iff_ne, gt_iff_lt, ge_iff_le, Int.not_lt, Int.not_le, ne_eq, Bool.true_eq_false, Bool.false_eq_true, reduceCtorEq, eta_Airway, eta_Door, eta_Dusting, eta_Fan, eta_Mine, eta_Mode, bytes_nil] at hG; omega) (by simp only [forall_const, eq_self, not_true_eq_false, not_false_eq_true, or_false, false_or, or_self, or_true, true_or, and_true, true_and, and_false, false_and, decide_true, decide_false, Bool.not_true, Bool.not_false, decide_eq_true_eq, decide_eq_false_iff_not, ite_and_p, ite_or_p, Bool.decide_eq_true, Bool.and_eq_true, Bool.or_eq_true, Bool.not_eq_true', Bool.not_eq_false', Bool.and_eq_false_imp, Bool.or_eq_false_iff, bne_iff_ne, beq_iff_eq, bne_eq_false_iff_eq, beq_eq_false_iff_ne, gt_iff_lt, ge_iff_le, Int.not_lt, Int.not_le, ne_eq, Bool.true_eq_false, Bool.false_eq_true, reduceCtorEq, eta_Airway, eta_Door, eta_Dusting, eta_Fan, eta_Mine, eta_Mode, bytes_nil] at hG; omega) (by simp only [forall_const, eq_self, not_true_eq_false, not_false_eq_true, or_false, false_or, or_self, or_true, true_or, and_true, true_and, and_false, false_and, decide_true, decide_false, Bool.not_true, Bool.not_false, decide_eq_true_eq, decide_eq_false_iff_not, ite_and_p, ite_or_p, Bool.decide_eq_true, Bool.and_eq_true, Bool.or_eq_true, Bool.not_eq_true', Bool.not_eq_false', Bool.and_eq_false_imp, Bool.or_eq_false_iff, bne_iff_ne, beq_iff_eq, bne_eq_false_iff_eq, beq_eq_false_iff_ne, gt_iff_lt, ge_iff_le, Int.not_lt, Int.not_le, ne_eq, Bool.true_eq_false, Bool.false_eq_true, reduceCtorEq, eta_Airway, eta_Door, eta_Dusting, eta_Fan, eta_Mine, eta_Mode, bytes_nil] at hG; omega) (by simp only [forall_const, eq_self, not_true_eq_false, not_false_eq_true, or_false, false_or, or_self, or_true, true_or, and_true, true_and, and_false, false_and, decide_true, decide_false, Bool.not_true, Bool.not_false, decide_eq_true_eq, decide_eq_false_iff_not, ite_and_p, ite_or_p, Bool.decide_eq_true, Bool.and_eq_true, Bool.or_eq_true, Bool.not_eq_true', Bool.not_eq_false', Bool.and_eq_false_imp, Bool.or_eq_false_iff, bne_iff_ne, beq_iff_eq, bne_eq_false_iff_eq, beq_eq_false_iff_ne, gt_iff_lt, ge_iff_le, Int.not_lt, Int.not_le, ne_eq, Bool.true_eq_false, Bool.false_eq_true, reduceCtorEq, eta_Airway, eta_Door, eta_Dusting, eta_Fan, eta_Mine, eta_Mode, bytes_nil] at hG; omega) (by simp only [forall_const, eq_self, not_true_eq_false, not_false_eq_true, or_false, false_or, or_self, or_true, true_or, and_true, true_and, and_false, false_and, decide_true, decide_false, Bool.not_true, Bool.not_false, decide_eq_true_eq, decide_eq_false_iff_not, ite_and_p, ite_or_p, Bool.decide_eq_true, Bool.and_eq_true, Bool.or_eq_true, Bool.not_eq_true', Bool.not_eq_false', Bool.and_eq_false_imp, Bool.or_eq_false_iff, bne_iff_ne, beq_iff_eq, bne_eq_false_iff_eq, beq_eq_false_iff_ne, gt_iff_lt, ge_iff_le, Int.not_lt, Int.not_le, ne_eq, Bool.true_eq_false, Bool.false_eq_true, reduceCtorEq, eta_Airway, eta_Door, eta_Dusting, eta_Fan, eta_Mine, eta_Mode, bytes_nil] at hG; omega)) rfl rfl ?_
    | refine CallF.mk (CallW.is [] true rfl ?_)
    | refine CallG.mk ?_
    | (refine CondF.mk (fun hb => ?_) (fun hb => ?_) <;> try simp only [forall_const, eq_self, not_true_eq_false, not_false_eq_true, or_false, false_or, or_self, or_true, true_or, and_true, true_and, and_false, false_and, decide_true, decide_false, Bool.not_true, Bool.not_false, decide_eq_true_eq, decide_eq_false_iff_not, ite_and_p, ite_or_p, Bool.decide_eq_true, Bool.and_eq_true, Bool.or_eq_true, Bool.not_eq_true', Bool.not_eq_false', Bool.and_eq_false_imp, Bool.or_eq_false_iff, bne_iff_ne, beq_iff_eq, bne_eq_false_iff_eq, beq_eq_false_iff_ne, gt_iff_lt, ge_iff_le, Int.not_lt, Int.not_le, ne_eq, Bool.true_eq_false, Bool.false_eq_true, reduceCtorEq, eta_Airway, eta_Door, eta_Dusting, eta_Fan, eta_Mine, eta_Mode] at hb)
    | apply BackF.auto5
    | apply BackF.auto3
    | apply BackF.auto2
    | refine BackB.mk ?_ ?_
    | refine RetF.auto (And.intro rfl ?_)
    | exact Is.mk rfl rfl
    | refine Is.mk ?_ rfl
    | refine Is.mk rfl ?_
    | refine Is.mk ?_ ?_
  all_goals try dsimp only
  all_goals first
    | omega
    | (rw [ask_c rfl (by assumption)] <;> rfl)
    | (rw [calm_r (by assumption)] <;> rfl)
    | exact ⟨by omega, by omega, tabs_0, by assumption, by simp_all [inR_iff], by simp_all [inR_iff]⟩
    | exact ⟨by omega, by omega, tabs_s (by omega) (by omega) h2, h3, h4, h5⟩
    | exact ⟨by omega, by omega, ⟨rfl, rfl⟩, by unfold dayN; rfl, path_0.2.symm, fun q => absurd q (by omega), ⟨h4, h5⟩, by omega⟩
    | exact ⟨by omega, by omega, by unfold bestA bestT; rfl, fun q => absurd q (by omega), by omega⟩
    | (rw [calm_none h3 ⟨h4, h5⟩ f0 g4 f5 g2 (by omega) hb] <;> rfl)
    | (rw [calm_end h3 ⟨h4, h5⟩ (by omega) f1 f5, ← f3, f2.1] <;> rfl)
    | (rw [calm_end h3 ⟨h4, h5⟩ (by omega) f1 f5, ← f3] <;> rfl)
    | (have hL := calm_a (k := k) f3 f4 (by assumption)
       first
       | exact ⟨by omega, by omega, (calm_skip g0 g2 g3 (calm_n (ask_0 h3).1 f0 g0 (by omega) hL hb)).1, (calm_skip g0 g2 g3 (calm_n (ask_0 h3).1 f0 g0 (by omega) hL hb)).2, g4⟩
       | (have q := calm_take g0 g2 g3 (calm_c (ask_0 h3).1 f0 g0 (by omega) hL (by omega) (by omega)) hb.1 hb.2
          exact ⟨by omega, by omega, q.1, q.2, g4⟩)
       | (have q := calm_keep g0 g2 g3 (calm_c (ask_0 h3).1 f0 g0 (by omega) hL (by omega) (by omega)) (fun w => by have := hb w.1; omega)
          exact ⟨by omega, by omega, q.1, q.2, g4⟩))
    | (have hL := calm_b (k := k) f0 f3 f4 (by assumption)
       first
       | exact ⟨by omega, by omega, (calm_skip g0 g2 g3 (calm_n (ask_0 h3).1 f0 g0 (by omega) hL hb)).1, (calm_skip g0 g2 g3 (calm_n (ask_0 h3).1 f0 g0 (by omega) hL hb)).2, g4⟩
       | (have q := calm_take g0 g2 g3 (calm_c (ask_0 h3).1 f0 g0 (by omega) hL (by omega) (by omega)) hb.1 hb.2
          exact ⟨by omega, by omega, q.1, q.2, g4⟩)
       | (have q := calm_keep g0 g2 g3 (calm_c (ask_0 h3).1 f0 g0 (by omega) hL (by omega) (by omega)) (fun w => by have := hb w.1; omega)
          exact ⟨by omega, by omega, q.1, q.2, g4⟩))
    | (have hL := calm_b (k := k) f0 f3 f4 (fun q => absurd q (by have := of_decide_eq_false hg; omega))
       first
       | exact ⟨by omega, by omega, (calm_skip g0 g2 g3 (calm_n (ask_0 h3).1 f0 g0 (by omega) hL hb)).1, (calm_skip g0 g2 g3 (calm_n (ask_0 h3).1 f0 g0 (by omega) hL hb)).2, g4⟩
       | (have q := calm_take g0 g2 g3 (calm_c (ask_0 h3).1 f0 g0 (by omega) hL (by omega) (by omega)) hb.1 hb.2
          exact ⟨by omega, by omega, q.1, q.2, g4⟩)
       | (have q := calm_keep g0 g2 g3 (calm_c (ask_0 h3).1 f0 g0 (by omega) hL (by omega) (by omega)) (fun w => by have := hb w.1; omega)
          exact ⟨by omega, by omega, q.1, q.2, g4⟩))
    | (have q := calm_next ⟨h4, h5⟩ f0 g4 f4 f6.2 g2 g3 (by omega) (by assumption) f5
       first
       | exact ⟨by omega, by omega, ⟨by simp [f2.1], by omega⟩, by rw [q.1, ← f3], (calm_b (k := b) f0 f3 f4 (fun w => absurd w (by omega))).trans q.2.1.symm, fun _ => ⟨q.2.2.2.1, q.2.2.2.2 hb⟩, f6, f7⟩
       | (have e := calm_a (k := b) f3 f4 ⟨by omega, hb⟩
          exact ⟨by omega, by omega, ⟨by simp [f2.1], by omega⟩, by rw [q.1, ← f3], e.trans q.2.1.symm, fun _ => f5 (by omega), by rw [e]; exact q.2.2.1, f7⟩)
       | (have e := calm_b (k := b) f0 f3 f4 (fun _ => hb)
          exact ⟨by omega, by omega, ⟨by simp [f2.1], by omega⟩, by rw [q.1, ← f3], e.trans q.2.1.symm, fun _ => f5 (by omega), f6, f7⟩))
    | skip
theorem c_impl_CalmDay (ms : List GMode) (needs prices : List Int) (sw : Int) : FnSem Try.prog 23 [.p .any (.lst (GMode.cells default) (ms.map GMode.cells)), Lx (LI needs), Lx (LI prices), In sw] [] (Is [.osl 0 0 (bestD ms needs prices sw 10000000).1.length, In (bestD ms needs prices sw 10000000).2.1, In (bestD ms needs prices sw 10000000).2.2] [Rw .flat (eI 0) ((bestD ms needs prices sw 10000000).1.map eI)]) := by
  refine FnSem.walk (zs := zeroPV Try.prog) (by kernel_rfl) Try.func23 rfl Try.results23 (by kernel_rfl) (by kernel_rfl) (by kernel_rfl) fun hw hh => ?_
  obtain ⟨w0, w1, w2, w3, _⟩ := hw
  first | replace w0 := wf_LMode w0 | skip
  first | replace w1 := wf_I w1 | replace w1 := wf_Y w1 | replace w1 := wf_S w1 | replace w1 := wf_LI w1 | replace w1 := wf_LY w1 | replace w1 := wf_LLI w1 | replace w1 := wf_Ls w1 | skip
  first | replace w2 := wf_I w2 | replace w2 := wf_Y w2 | replace w2 := wf_S w2 | replace w2 := wf_LI w2 | replace w2 := wf_LY w2 | replace w2 := wf_LLI w2 | replace w2 := wf_Ls w2 | skip
  first | replace w3 := wf_I w3 | replace w3 := wf_Y w3 | replace w3 := wf_S w3 | replace w3 := wf_LI w3 | replace w3 := wf_LY w3 | replace w3 := wf_LLI w3 | replace w3 := wf_Ls w3 | skip
  repeat' first
    | refine And.intro rfl ?_
    | refine GdF.mk (fun h => h) ?_
    | refine And.intro (Nat.succ_ne_zero _) ?_
    | refine And.intro (Nat.le_of_ble_eq_true rfl) ?_
    | refine SeqF.run ?_
    | refine GhF.go ?_
    | refine MkF.row ?_
    | refine BndF.mk (fun _ => by omega) ?_
    | refine BndF.mk (fun _ => by simp only [List.length_map, List.length_cons, List.length_nil, List.length_append, List.length_set, List.length_replicate, iotaI_len]; omega) ?_
    | refine EqN.mk _ (Nat.zero_add _) ?_
    | refine EqN.mk _ (Int.toNat_natCast _) ?_
    | refine EqN.mk _ rfl ?_
    | refine EqL.mk _ (tk eI (by first | rfl | assumption | omega | (simp only [List.length_map, List.length_cons, List.length_nil, List.length_append, List.length_set, List.length_replicate, iotaI_len]; done) | (simp only [List.length_map, List.length_cons, List.length_nil, List.length_append, List.length_set, List.length_replicate, iotaI_len]; omega))) ?_
    | refine EqL.mk _ (dt eI) ?_
    | refine EqL.mk _ (tk GMode.cells (by first | rfl | assumption | omega | (simp only [List.length_map, List.length_cons, List.length_nil, List.length_append, List.length_set, List.length_replicate, iotaI_len]; done) | (simp only [List.length_map, List.length_cons, List.length_nil, List.length_append, List.length_set, List.length_replicate, iotaI_len]; omega))) ?_
    | refine EqL.mk _ (dt GMode.cells) ?_
    | refine EqL.mk [] rfl ?_
    | refine EqL.mk [_] rfl ?_
    | refine EqL.mk _ rfl ?_
    | refine ArgF.is (c_impl_bestDay _ _ _ _ _ (by first | assumption | omega)) ?_
    | refine ArgQ.is (fun hG => c_impl_bestDay _ _ _ _ _ (by first | assumption | omega)) rfl rfl ?_
    | refine ArgQ.is (fun hG => c_impl_bestDay _ _ _ _ _ (by simp only [forall_const, eq_self, not_true_eq_false, not_false_eq_true, or_false, false_or, or_self, or_true, true_or, and_true, true_and, and_false, false_and, decide_true, decide_false, Bool.not_true, Bool.not_false, decide_eq_true_eq, decide_eq_false_iff_not, ite_and_p, ite_or_p, Bool.decide_eq_true, Bool.and_eq_true, Bool.or_eq_true, Bool.not_eq_true', Bool.not_eq_false', Bool.and_eq_false_imp, Bool.or_eq_false_iff, bne_iff_ne, beq_iff_eq, bne_eq_false_iff_eq, beq_eq_false_iff_ne, gt_iff_lt, ge_iff_le, Int.not_lt, Int.not_le, ne_eq, Bool.true_eq_false, Bool.false_eq_true, reduceCtorEq, eta_Airway, eta_Door, eta_Dusting, eta_Fan, eta_Mine, eta_Mode, bytes_nil] at hG; omega)) rfl rfl ?_
    | refine CallF.mk (CallW.is [] true rfl ?_)
    | refine CallG.mk ?_
    | (refine CondF.mk (fun hb => ?_) (fun hb => ?_) <;> try simp only [forall_const, eq_self, not_true_eq_false, not_false_eq_true, or_false, false_or, or_self, or_true, true_or, and_true, true_and, and_false, false_and, decide_true, decide_false, Bool.not_true, Bool.not_false, decide_eq_true_eq, decide_eq_false_iff_not, ite_and_p, ite_or_p, Bool.decide_eq_true, Bool.and_eq_true, Bool.or_eq_true, Bool.not_eq_true', Bool.not_eq_false', Bool.and_eq_false_imp, Bool.or_eq_false_iff, bne_iff_ne, beq_iff_eq, bne_eq_false_iff_eq, beq_eq_false_iff_ne, gt_iff_lt, ge_iff_le, Int.not_lt, Int.not_le, ne_eq, Bool.true_eq_false, Bool.false_eq_true, reduceCtorEq, eta_Airway, eta_Door, eta_Dusting, eta_Fan, eta_Mine, eta_Mode] at hb)
    | refine RetF.auto (And.intro rfl ?_)
    | exact Is.mk rfl rfl
    | refine Is.mk ?_ rfl
    | refine Is.mk rfl ?_
    | refine Is.mk ?_ ?_
theorem c_laws_FnExactCalmDay (ms : List GMode) (needs prices : List Int) (sw : Int) : FnSem Try.prog 8 [.p .any (.lst (GMode.cells default) (ms.map GMode.cells)), Lx (LI needs), Lx (LI prices), In sw] [] (Is [Bo true] []) := by
  have hz := szR_le (n := 1048576) (t := ms.length + (ms.map GMode.sz).sum)
  have hn := bestD_len (ms := ms) (needs := needs) (prices := prices) (peak := 10000000) (sw := sw)
  refine FnSem.walk (zs := zeroPV Try.prog) (by kernel_rfl) Try.func8 rfl Try.results8 (by kernel_rfl) (by kernel_rfl) (by kernel_rfl) fun hw hh => ?_
  obtain ⟨w0, w1, w2, w3, _⟩ := hw
  first | replace w0 := wf_LMode w0 | skip
  first | replace w1 := wf_I w1 | replace w1 := wf_Y w1 | replace w1 := wf_S w1 | replace w1 := wf_LI w1 | replace w1 := wf_LY w1 | replace w1 := wf_LLI w1 | replace w1 := wf_Ls w1 | skip
  first | replace w2 := wf_I w2 | replace w2 := wf_Y w2 | replace w2 := wf_S w2 | replace w2 := wf_LI w2 | replace w2 := wf_LY w2 | replace w2 := wf_LLI w2 | replace w2 := wf_Ls w2 | skip
  first | replace w3 := wf_I w3 | replace w3 := wf_Y w3 | replace w3 := wf_S w3 | replace w3 := wf_LI w3 | replace w3 := wf_LY w3 | replace w3 := wf_LLI w3 | replace w3 := wf_Ls w3 | skip
  repeat' first
    | refine And.intro rfl ?_
    | refine GdF.mk (fun h => h) ?_
    | refine And.intro (Nat.succ_ne_zero _) ?_
    | refine And.intro (Nat.le_of_ble_eq_true rfl) ?_
    | refine SeqF.run ?_
    | (refine ArgF.ret (c_laws_markModeS ms ms.length 1 rfl (by omega) (by omega)) ?_; rintro us _)
    | refine GhF.go ?_
    | refine GdS.keep ?_
    | refine BndF.mk (fun _ => by omega) ?_
    | refine BndF.mk (fun _ => by simp only [List.length_map, List.length_cons, List.length_nil, List.length_append, List.length_set, List.length_replicate, iotaI_len]; omega) ?_
    | refine BndF.mk (fun hG => by simp only [forall_const, eq_self, not_true_eq_false, not_false_eq_true, or_false, false_or, or_self, or_true, true_or, and_true, true_and, and_false, false_and, decide_true, decide_false, Bool.not_true, Bool.not_false, decide_eq_true_eq, decide_eq_false_iff_not, ite_and_p, ite_or_p, Bool.decide_eq_true, Bool.and_eq_true, Bool.or_eq_true, Bool.not_eq_true', Bool.not_eq_false', Bool.and_eq_false_imp, Bool.or_eq_false_iff, bne_iff_ne, beq_iff_eq, bne_eq_false_iff_eq, beq_eq_false_iff_ne, gt_iff_lt, ge_iff_le, Int.not_lt, Int.not_le, ne_eq, Bool.true_eq_false, Bool.false_eq_true, reduceCtorEq, eta_Airway, eta_Door, eta_Dusting, eta_Fan, eta_Mine, eta_Mode, bytes_nil] at hG; (try simp only [List.length_map]); omega) ?_
    | refine EqN.mk _ (ln eI) ?_
    | refine EqN.mk _ (ln GMode.cells) ?_
    | refine EqL.mk _ (tk eI (by first | rfl | assumption | omega | (simp only [List.length_map, List.length_cons, List.length_nil, List.length_append, List.length_set, List.length_replicate, iotaI_len]; done) | (simp only [List.length_map, List.length_cons, List.length_nil, List.length_append, List.length_set, List.length_replicate, iotaI_len]; omega))) ?_
    | refine EqL.mk _ (tk GMode.cells (by first | rfl | assumption | omega | (simp only [List.length_map, List.length_cons, List.length_nil, List.length_append, List.length_set, List.length_replicate, iotaI_len]; done) | (simp only [List.length_map, List.length_cons, List.length_nil, List.length_append, List.length_set, List.length_replicate, iotaI_len]; omega))) ?_
    | refine EqL.mk [] rfl ?_
    | refine EqL.mk [_] rfl ?_
    | refine EqL.mk _ rfl ?_
    | refine ArgF.is (c_laws_szModeS _ _ (by first | assumption | omega)) ?_
    | refine ArgQ.is (fun hG => c_laws_szModeS _ _ (by first | assumption | omega)) rfl rfl ?_
    | refine ArgQ.is (fun hG => c_laws_szModeS _ _ (by simp only [forall_const, eq_self, not_true_eq_false, not_false_eq_true, or_false, false_or, or_self, or_true, true_or, and_true, true_and, and_false, false_and, decide_true, decide_false, Bool.not_true, Bool.not_false, decide_eq_true_eq, decide_eq_false_iff_not, ite_and_p, ite_or_p, Bool.decide_eq_true, Bool.and_eq_true, Bool.or_eq_true, Bool.not_eq_true', Bool.not_eq_false', Bool.and_eq_false_imp, Bool.or_eq_false_iff, bne_iff_ne, beq_iff_eq, bne_eq_false_iff_eq, beq_eq_false_iff_ne, gt_iff_lt, ge_iff_le, Int.not_lt, Int.not_le, ne_eq, Bool.true_eq_false, Bool.false_eq_true, reduceCtorEq, eta_Airway, eta_Door, eta_Dusting, eta_Fan, eta_Mine, eta_Mode, bytes_nil] at hG; omega)) rfl rfl ?_
    | refine ArgF.is (c_laws_toModeS _ (by first | assumption | omega)) ?_
    | refine ArgQ.is (fun hG => c_laws_toModeS _ (by first | assumption | omega)) rfl rfl ?_
    | refine ArgQ.is (fun hG => c_laws_toModeS _ (by simp only [forall_const, eq_self, not_true_eq_false, not_false_eq_true, or_false, false_or, or_self, or_true, true_or, and_true, true_and, and_false, false_and, decide_true, decide_false, Bool.not_true, Bool.not_false, decide_eq_true_eq, decide_eq_false_iff_not, ite_and_p, ite_or_p, Bool.decide_eq_true, Bool.and_eq_true, Bool.or_eq_true, Bool.not_eq_true', Bool.not_eq_false', Bool.and_eq_false_imp, Bool.or_eq_false_iff, bne_iff_ne, beq_iff_eq, bne_eq_false_iff_eq, beq_eq_false_iff_ne, gt_iff_lt, ge_iff_le, Int.not_lt, Int.not_le, ne_eq, Bool.true_eq_false, Bool.false_eq_true, reduceCtorEq, eta_Airway, eta_Door, eta_Dusting, eta_Fan, eta_Mine, eta_Mode, bytes_nil] at hG; omega)) rfl rfl ?_
    | refine ArgF.is (c_laws_toInt64S _ (by first | assumption | omega)) ?_
    | refine ArgQ.is (fun hG => c_laws_toInt64S _ (by first | assumption | omega)) rfl rfl ?_
    | refine ArgQ.is (fun hG => c_laws_toInt64S _ (by simp only [forall_const, eq_self, not_true_eq_false, not_false_eq_true, or_false, false_or, or_self, or_true, true_or, and_true, true_and, and_false, false_and, decide_true, decide_false, Bool.not_true, Bool.not_false, decide_eq_true_eq, decide_eq_false_iff_not, ite_and_p, ite_or_p, Bool.decide_eq_true, Bool.and_eq_true, Bool.or_eq_true, Bool.not_eq_true', Bool.not_eq_false', Bool.and_eq_false_imp, Bool.or_eq_false_iff, bne_iff_ne, beq_iff_eq, bne_eq_false_iff_eq, beq_eq_false_iff_ne, gt_iff_lt, ge_iff_le, Int.not_lt, Int.not_le, ne_eq, Bool.true_eq_false, Bool.false_eq_true, reduceCtorEq, eta_Airway, eta_Door, eta_Dusting, eta_Fan, eta_Mine, eta_Mode, bytes_nil] at hG; omega)) rfl rfl ?_
    | refine ArgF.is (c_spec_CalmDay ..) ?_
    | refine ArgQ.is (fun hG => c_spec_CalmDay ..) rfl rfl ?_
    | refine ArgF.is (c_impl_CalmDay ..) ?_
    | refine ArgQ.is (fun hG => c_impl_CalmDay ..) rfl rfl ?_
    | refine ArgF.is (c_laws_eqInt64S ..) ?_
    | refine ArgQ.is (fun hG => c_laws_eqInt64S ..) rfl rfl ?_
    | refine ArgF.is (c_laws_eqModeS ..) ?_
    | refine ArgQ.is (fun hG => c_laws_eqModeS ..) rfl rfl ?_
    | refine ArgF.is (c_laws_markModeS _ _ _ (by first | assumption | omega) (by first | assumption | omega) (by first | assumption | omega)) ?_
    | refine ArgQ.is (fun hG => c_laws_markModeS _ _ _ (by first | assumption | omega) (by first | assumption | omega) (by first | assumption | omega)) rfl rfl ?_
    | refine ArgQ.is (fun hG => c_laws_markModeS _ _ _ (by simp only [forall_const, eq_self, not_true_eq_false, not_false_eq_true, or_false, false_or, or_self, or_true, true_or, and_true, true_and, and_false, false_and, decide_true, decide_false, Bool.not_true, Bool.not_false, decide_eq_true_eq, decide_eq_false_iff_not, ite_and_p, ite_or_p, Bool.decide_eq_true, Bool.and_eq_true, Bool.or_eq_true, Bool.not_eq_true', Bool.not_eq_false', Bool.and_eq_false_imp, Bool.or_eq_false_iff, bne_iff_ne, beq_iff_eq, bne_eq_false_iff_eq, beq_eq_false_iff_ne, gt_iff_lt, ge_iff_le, Int.not_lt, Int.not_le, ne_eq, Bool.true_eq_false, Bool.false_eq_true, reduceCtorEq, eta_Airway, eta_Door, eta_Dusting, eta_Fan, eta_Mine, eta_Mode, bytes_nil] at hG; omega) (by simp only [forall_const, eq_self, not_true_eq_false, not_false_eq_true, or_false, false_or, or_self, or_true, true_or, and_true, true_and, and_false, false_and, decide_true, decide_false, Bool.not_true, Bool.not_false, decide_eq_true_eq, decide_eq_false_iff_not, ite_and_p, ite_or_p, Bool.decide_eq_true, Bool.and_eq_true, Bool.or_eq_true, Bool.not_eq_true', Bool.not_eq_false', Bool.and_eq_false_imp, Bool.or_eq_false_iff, bne_iff_ne, beq_iff_eq, bne_eq_false_iff_eq, beq_eq_false_iff_ne, gt_iff_lt, ge_iff_le, Int.not_lt, Int.not_le, ne_eq, Bool.true_eq_false, Bool.false_eq_true, reduceCtorEq, eta_Airway, eta_Door, eta_Dusting, eta_Fan, eta_Mine, eta_Mode, bytes_nil] at hG; omega) (by simp only [forall_const, eq_self, not_true_eq_false, not_false_eq_true, or_false, false_or, or_self, or_true, true_or, and_true, true_and, and_false, false_and, decide_true, decide_false, Bool.not_true, Bool.not_false, decide_eq_true_eq, decide_eq_false_iff_not, ite_and_p, ite_or_p, Bool.decide_eq_true, Bool.and_eq_true, Bool.or_eq_true, Bool.not_eq_true', Bool.not_eq_false', Bool.and_eq_false_imp, Bool.or_eq_false_iff, bne_iff_ne, beq_iff_eq, bne_eq_false_iff_eq, beq_eq_false_iff_ne, gt_iff_lt, ge_iff_le, Int.not_lt, Int.not_le, ne_eq, Bool.true_eq_false, Bool.false_eq_true, reduceCtorEq, eta_Airway, eta_Door, eta_Dusting, eta_Fan, eta_Mine, eta_Mode, bytes_nil] at hG; omega)) rfl rfl ?_
    | refine ArgF.is (c_laws_markInt64S _ _ _ (by first | assumption | omega) (by first | assumption | omega) (by first | assumption | omega)) ?_
    | refine ArgQ.is (fun hG => c_laws_markInt64S _ _ _ (by first | assumption | omega) (by first | assumption | omega) (by first | assumption | omega)) rfl rfl ?_
    | refine ArgQ.is (fun hG => c_laws_markInt64S _ _ _ (by simp only [forall_const, eq_self, not_true_eq_false, not_false_eq_true, or_false, false_or, or_self, or_true, true_or, and_true, true_and, and_false, false_and, decide_true, decide_false, Bool.not_true, Bool.not_false, decide_eq_true_eq, decide_eq_false_iff_not, ite_and_p, ite_or_p, Bool.decide_eq_true, Bool.and_eq_true, Bool.or_eq_true, Bool.not_eq_true', Bool.not_eq_false', Bool.and_eq_false_imp, Bool.or_eq_false_iff, bne_iff_ne, beq_iff_eq, bne_eq_false_iff_eq, beq_eq_false_iff_ne, gt_iff_lt, ge_iff_le, Int.not_lt, Int.not_le, ne_eq, Bool.true_eq_false, Bool.false_eq_true, reduceCtorEq, eta_Airway, eta_Door, eta_Dusting, eta_Fan, eta_Mine, eta_Mode, bytes_nil] at hG; omega) (by simp only [forall_const, eq_self, not_true_eq_false, not_false_eq_true, or_false, false_or, or_self, or_true, true_or, and_true, true_and, and_false, false_and, decide_true, decide_false, Bool.not_true, Bool.not_false, decide_eq_true_eq, decide_eq_false_iff_not, ite_and_p, ite_or_p, Bool.decide_eq_true, Bool.and_eq_true, Bool.or_eq_true, Bool.not_eq_true', Bool.not_eq_false', Bool.and_eq_false_imp, Bool.or_eq_false_iff, bne_iff_ne, beq_iff_eq, bne_eq_false_iff_eq, beq_eq_false_iff_ne, gt_iff_lt, ge_iff_le, Int.not_lt, Int.not_le, ne_eq, Bool.true_eq_false, Bool.false_eq_true, reduceCtorEq, eta_Airway, eta_Door, eta_Dusting, eta_Fan, eta_Mine, eta_Mode, bytes_nil] at hG; omega) (by simp only [forall_const, eq_self, not_true_eq_false, not_false_eq_true, or_false, false_or, or_self, or_true, true_or, and_true, true_and, and_false, false_and, decide_true, decide_false, Bool.not_true, Bool.not_false, decide_eq_true_eq, decide_eq_false_iff_not, ite_and_p, ite_or_p, Bool.decide_eq_true, Bool.and_eq_true, Bool.or_eq_true, Bool.not_eq_true', Bool.not_eq_false', Bool.and_eq_false_imp, Bool.or_eq_false_iff, bne_iff_ne, beq_iff_eq, bne_eq_false_iff_eq, beq_eq_false_iff_ne, gt_iff_lt, ge_iff_le, Int.not_lt, Int.not_le, ne_eq, Bool.true_eq_false, Bool.false_eq_true, reduceCtorEq, eta_Airway, eta_Door, eta_Dusting, eta_Fan, eta_Mine, eta_Mode, bytes_nil] at hG; omega)) rfl rfl ?_
    | refine ArgF.is (c_laws_heldInt64S _ _ (by first | assumption | omega) (by first | assumption | omega)) ?_
    | refine ArgQ.is (fun hG => c_laws_heldInt64S _ _ (by first | assumption | omega) (by first | assumption | omega)) rfl rfl ?_
    | refine ArgQ.is (fun hG => c_laws_heldInt64S _ _ (by simp only [forall_const, eq_self, not_true_eq_false, not_false_eq_true, or_false, false_or, or_self, or_true, true_or, and_true, true_and, and_false, false_and, decide_true, decide_false, Bool.not_true, Bool.not_false, decide_eq_true_eq, decide_eq_false_iff_not, ite_and_p, ite_or_p, Bool.decide_eq_true, Bool.and_eq_true, Bool.or_eq_true, Bool.not_eq_true', Bool.not_eq_false', Bool.and_eq_false_imp, Bool.or_eq_false_iff, bne_iff_ne, beq_iff_eq, bne_eq_false_iff_eq, beq_eq_false_iff_ne, gt_iff_lt, ge_iff_le, Int.not_lt, Int.not_le, ne_eq, Bool.true_eq_false, Bool.false_eq_true, reduceCtorEq, eta_Airway, eta_Door, eta_Dusting, eta_Fan, eta_Mine, eta_Mode, bytes_nil] at hG; omega) (by simp only [forall_const, eq_self, not_true_eq_false, not_false_eq_true, or_false, false_or, or_self, or_true, true_or, and_true, true_and, and_false, false_and, decide_true, decide_false, Bool.not_true, Bool.not_false, decide_eq_true_eq, decide_eq_false_iff_not, ite_and_p, ite_or_p, Bool.decide_eq_true, Bool.and_eq_true, Bool.or_eq_true, Bool.not_eq_true', Bool.not_eq_false', Bool.and_eq_false_imp, Bool.or_eq_false_iff, bne_iff_ne, beq_iff_eq, bne_eq_false_iff_eq, beq_eq_false_iff_ne, gt_iff_lt, ge_iff_le, Int.not_lt, Int.not_le, ne_eq, Bool.true_eq_false, Bool.false_eq_true, reduceCtorEq, eta_Airway, eta_Door, eta_Dusting, eta_Fan, eta_Mine, eta_Mode, bytes_nil] at hG; omega)) rfl rfl ?_
    | refine CallF.own (f := 34) [0] true ?_
    | refine CallF.own (f := 35) [0] true ?_
    | refine CallF.mk (CallW.is [] true rfl ?_)
    | refine CallG.mk ?_
    | (refine CondF.mk (fun hb => ?_) (fun hb => ?_) <;> try simp only [forall_const, eq_self, not_true_eq_false, not_false_eq_true, or_false, false_or, or_self, or_true, true_or, and_true, true_and, and_false, false_and, decide_true, decide_false, Bool.not_true, Bool.not_false, decide_eq_true_eq, decide_eq_false_iff_not, ite_and_p, ite_or_p, Bool.decide_eq_true, Bool.and_eq_true, Bool.or_eq_true, Bool.not_eq_true', Bool.not_eq_false', Bool.and_eq_false_imp, Bool.or_eq_false_iff, bne_iff_ne, beq_iff_eq, bne_eq_false_iff_eq, beq_eq_false_iff_ne, gt_iff_lt, ge_iff_le, Int.not_lt, Int.not_le, ne_eq, Bool.true_eq_false, Bool.false_eq_true, reduceCtorEq, eta_Airway, eta_Door, eta_Dusting, eta_Fan, eta_Mine, eta_Mode] at hb)
    | refine RetF.auto (And.intro rfl ?_)
    | exact Is.mk rfl rfl
    | refine Is.mk ?_ rfl
    | refine Is.mk rfl ?_
    | refine Is.mk ?_ ?_
  all_goals (exfalso; first | omega | (simp at hb; omega) | (simp at hb))
end Go.Proofs.Ytnmfbdkiehickaa
