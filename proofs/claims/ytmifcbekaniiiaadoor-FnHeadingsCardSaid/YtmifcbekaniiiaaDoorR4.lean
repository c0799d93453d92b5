/- Contracts of functions of the program, and what they compute. Conditions: those that each theorem states. -/
import Derived.Test.YtmifcbekaniiiaaDoorProg
import Derived.Test.YtmifcbekaniiiaaDoorR3
set_option linter.unusedVariables false
set_option linter.unusedSimpArgs false
namespace Go.Proofs.YtmifcbekaniiiaaDoor
open Go.Av
attribute [local irreducible] Go.IntKind.wrap clearI gasN mostG stepG leastI askG
set_option maxRecDepth 20000
set_option maxHeartbeats 4000000

theorem askG_ok {x : GHeading} {gas flow share : Int} (hv : okHeading x = true) (hg : 0 ≤ gas ∧ gas ≤ x.volume * 1000000) (hf : 0 ≤ flow ∧ flow ≤ 100000) (hs : 0 ≤ share ∧ share ≤ 1000000) : askG x gas flow share = 0 := by
  unfold askG; rw [if_pos hv, inR_iff.2 hg, inR_iff.2 hf, inR_iff.2 hs]; rfl
theorem clearI_spec {x : GHeading} {gas flow most secs : Int} (hs : 0 ≤ secs) : (0 ≤ clearI x gas flow most secs → clearI x gas flow most secs ≤ secs ∧ gasN x gas flow (clearI x gas flow most secs).toNat ≤ most ∧ ∀ j : Nat, (j : Int) < clearI x gas flow most secs → most < gasN x gas flow j) ∧ (clearI x gas flow most secs < 0 → clearI x gas flow most secs = -1 ∧ ∀ j : Nat, (j : Int) ≤ secs → most < gasN x gas flow j) := by
  unfold clearI
  split
  · rename_i k hk
    rw [List.find?_range_eq_some] at hk
    refine ⟨fun _ => ⟨by have := hk.2.1; simp at this; omega, by simpa using hk.1, fun j hj => ?_⟩, fun h => by omega⟩
    have := hk.2.2 j (by omega)
    simpa using this
  · rename_i hk
    rw [List.find?_range_eq_none] at hk
    refine ⟨fun h => by omega, fun _ => ⟨rfl, fun j hj => ?_⟩⟩
    have := hk j (by omega)
    simpa using this
theorem gasAfter_ok {x : GHeading} {gas flow secs : Int} (hv : okHeading x = true) (hg : 0 ≤ gas ∧ gas ≤ x.volume * 1000000) (hf : 0 ≤ flow ∧ flow ≤ 100000) (hs : 0 ≤ secs ∧ secs ≤ 36000) : gasAfter x gas flow secs = (gasN x gas flow secs.toNat, 0) := by
  unfold gasAfter; rw [if_pos (askG_ok hv hg hf (by omega)), if_pos (inR_iff.2 hs)]
/-- ClearTime: what is told of it -/
theorem ct_all {x : GHeading} {gas q share : Int} (hv : okHeading x = true) (hg : 0 ≤ gas ∧ gas ≤ x.volume * 1000000) (hf : 0 ≤ q ∧ q ≤ 100000) (hs : 0 ≤ share ∧ share ≤ 1000000) : clearTime x gas q share = (if clearI x gas q (mostG x share) 36000 < 0 then (0, 3) else (clearI x gas q (mostG x share) 36000, 0)) := by
  unfold clearTime; rw [if_pos (askG_ok hv hg hf hs)]
theorem cl1 {x : GHeading} {g q s : Int} (hv : okHeading x = true) (hg : 0 ≤ g ∧ g ≤ x.volume * 1000000) (hf : 0 ≤ q ∧ q ≤ 100000) (hs : 0 ≤ s ∧ s ≤ 1000000) : ((clearTime x g q s).2 = 0 ∧ (gasAfter x g q (clearTime x g q s).1).2 = 0 ∧ (gasAfter x g q (clearTime x g q s).1).1 ≤ mostG x s ∧ ((clearTime x g q s).1 ≤ 0 ∨ (gasAfter x g q (IntKind.i64.wrap ((clearTime x g q s).1 - 1))).2 = 0 ∧ mostG x s < (gasAfter x g q (IntKind.i64.wrap ((clearTime x g q s).1 - 1))).1)) ∨ (clearTime x g q s).2 = 3 := by
  rw [ct_all hv hg hf hs]
  obtain ⟨k1, k2⟩ := clearI_spec (x := x) (gas := g) (flow := q) (most := mostG x s) (secs := 36000) (by omega)
  generalize clearI x g q (mostG x s) 36000 = n at *
  by_cases h : n < 0
  · rw [if_pos h]; exact .inr rfl
  · rw [if_neg h]; obtain ⟨a1, a2, a3⟩ := k1 (by omega)
    left; dsimp only
    rw [gasAfter_ok hv hg hf ⟨by omega, a1⟩]
    refine ⟨rfl, rfl, a2, ?_⟩
    by_cases h0 : n ≤ 0
    · exact .inl h0
    · right; rw [wrapI (by omega) (by omega), gasAfter_ok hv hg hf ⟨by omega, by omega⟩]
      exact ⟨rfl, a3 (n - 1).toNat (by omega)⟩
theorem gas1 {x : GHeading} {g q : Int} : gasN x g q (Int.toNat 1) = stepG x g q := by
  show gasN x g q (0 + 1) = _
  unfold gasN; unfold gasN; rfl
theorem cl2 {x : GHeading} {s : Int} (hv : okHeading x = true) (hs : 0 ≤ s ∧ s ≤ 1000000) : ((holdFlow x s).2 = 0 ∧ (gasAfter x (mostG x s) (holdFlow x s).1 1).2 = 0 ∧ (gasAfter x (mostG x s) (holdFlow x s).1 1).1 ≤ mostG x s ∧ ((holdFlow x s).1 ≤ 0 ∨ (gasAfter x (mostG x s) (IntKind.i64.wrap ((holdFlow x s).1 - 1)) 1).2 = 0 ∧ mostG x s < (gasAfter x (mostG x s) (IntKind.i64.wrap ((holdFlow x s).1 - 1)) 1).1)) ∨ (holdFlow x s).2 = 3 := by
  have hb := okHeading_b hv
  have hm := mostB hv hs
  unfold holdFlow
  rw [if_pos (askG_ok hv (by omega) (by omega) hs)]
  have hl := leastI_hit (p := fun q => decide (stepG x (mostG x s) q ≤ mostG x s)) (lo := 0) (hi := 100000)
  generalize leastI (fun q => decide (stepG x (mostG x s) q ≤ mostG x s)) 0 100000 = n at *
  by_cases h : n ≤ 100000
  · rw [if_pos h]
    obtain ⟨a1, a2, a3⟩ := hl h (by omega)
    left; dsimp only
    rw [gasAfter_ok hv hm ⟨a1, h⟩ (by omega), gas1]
    refine ⟨rfl, rfl, by simpa using a2, ?_⟩
    by_cases h0 : n ≤ 0
    · exact .inl h0
    · right; rw [wrapI (by omega) (by omega), gasAfter_ok hv hm ⟨by omega, by omega⟩ (by omega), gas1]
      have := a3 (n - 1) (by omega) (by omega)
      exact ⟨rfl, by simpa using this⟩
  · rw [if_neg h]; exact .inr rfl
theorem cl3 {x : GHeading} {g s t : Int} (hv : okHeading x = true) (hg : 0 ≤ g ∧ g ≤ x.volume * 1000000) (hs : 0 ≤ s ∧ s ≤ 1000000) (ht : 0 ≤ t ∧ t ≤ 3600) : ((clearFlow x g s t).2 = 0 ∧ (clearTime x g (clearFlow x g s t).1 s).2 = 0 ∧ (clearTime x g (clearFlow x g s t).1 s).1 ≤ t ∧ 0 ≤ (clearFlow x g s t).1 ∧ ((clearFlow x g s t).1 = 0 ∨ (clearTime x g (IntKind.i64.wrap ((clearFlow x g s t).1 - 1)) s).2 = 3 ∨ (clearTime x g (IntKind.i64.wrap ((clearFlow x g s t).1 - 1)) s).2 = 0 ∧ t < (clearTime x g (IntKind.i64.wrap ((clearFlow x g s t).1 - 1)) s).1)) ∨ (clearFlow x g s t).2 = 3 := by
  unfold clearFlow
  rw [if_pos (askG_ok hv hg (by omega) hs), if_pos (inR_iff.2 ht)]
  have hl := leastI_hit (p := clearP x g s t) (lo := 0) (hi := 100000)
  generalize leastI (clearP x g s t) 0 100000 = n at *
  by_cases h : n ≤ 100000
  · rw [if_pos h]
    obtain ⟨a1, a2, a3⟩ := hl h (by omega)
    left; dsimp only
    obtain ⟨c1, c2⟩ := clearI_spec (x := x) (gas := g) (flow := n) (most := mostG x s) (secs := t) ht.1
    obtain ⟨d1, d2⟩ := clearI_spec (x := x) (gas := g) (flow := n) (most := mostG x s) (secs := 36000) (by omega)
    obtain ⟨e1, e2, e3⟩ := c1 (of_decide_eq_true a2)
    have a2 := of_decide_eq_true a2
    rw [ct_all hv hg ⟨a1, h⟩ hs]
    generalize clearI x g n (mostG x s) t = k at *
    generalize clearI x g n (mostG x s) 36000 = k' at *
    have hk : 0 ≤ k' := by
      apply Int.not_lt.1; intro hlt
      have := (d2 hlt).2 k.toNat (by omega)
      omega
    have hk' : k' ≤ k := by
      apply Int.not_lt.1; intro hlt
      have := (d1 hk).2.2 k.toNat (by omega)
      omega
    rw [if_neg (by omega)]
    refine ⟨rfl, rfl, by dsimp only; omega, a1, ?_⟩
    by_cases h0 : n = 0
    · exact .inl h0
    · right
      have a4 := a3 (n - 1) (by omega) (by omega)
      have a4 := of_decide_eq_false a4
      obtain ⟨_, f2⟩ := clearI_spec (x := x) (gas := g) (flow := n - 1) (most := mostG x s) (secs := t) ht.1
      obtain ⟨g1, _⟩ := clearI_spec (x := x) (gas := g) (flow := n - 1) (most := mostG x s) (secs := 36000) (by omega)
      have f3 := (f2 (by omega)).2
      rw [wrapI (by omega) (by omega), ct_all hv hg ⟨by omega, by omega⟩ hs]
      generalize clearI x g (n - 1) (mostG x s) 36000 = m at *
      by_cases hm : m < 0
      · rw [if_pos hm]; exact .inl rfl
      · rw [if_neg hm]
        refine .inr ⟨rfl, ?_⟩
        obtain ⟨_, q2, _⟩ := g1 (by omega)
        apply Int.not_le.1; intro hle
        have := f3 m.toNat (by dsimp only at hle; omega)
        omega
  · rw [if_neg h]; exact .inr rfl
theorem peakN_b {x : GHeading} {flow stop start : Int} (hv : okHeading x = true) (hf : 0 ≤ flow ∧ flow ≤ 100000) : ∀ n : Nat, (0 ≤ (peakN x flow stop start n).1 ∧ (peakN x flow stop start n).1 ≤ x.volume * 1000000) ∧ 0 ≤ (peakN x flow stop start n).2 ∧ (peakN x flow stop start n).2 ≤ x.volume * 1000000
  | 0 => by have hb := okHeading_b hv; simp only [peakN]; omega
  | n + 1 => by
    obtain ⟨h1, h2⟩ := peakN_b (stop := stop) (start := start) hv hf n
    have h3 := stepB (flow := if stop ≤ (n : Int) ∧ (n : Int) < start then 0 else flow) hv h1 (by split <;> omega)
    simp only [peakN]; omega
theorem cl4 {x : GHeading} {q : Int} (hv : okHeading x = true) (hf : 0 ≤ q ∧ q ≤ 100000) : (peakShare x q 10 20 30).2 = 0 ∧ 0 ≤ (peakShare x q 10 20 30).1 ∧ (peakShare x q 10 20 30).1 ≤ 1000000 := by
  have hb := okHeading_b hv
  have h1 := (peakN_b (stop := 10) (start := 20) hv hf (Int.toNat 30)).2
  unfold peakShare
  rw [if_pos (askG_ok hv (by omega) hf (by omega)), if_pos (by decide)]
  refine ⟨rfl, ?_⟩
  dsimp only
  rw [Int.tdiv_eq_ediv_of_nonneg h1.1]
  exact ⟨Int.ediv_nonneg h1.1 (by omega), Int.ediv_le_of_le_mul (by omega) (by rw [Int.mul_comm]; exact h1.2)⟩
attribute [local irreducible] clearTime gasAfter holdFlow clearFlow peakShare
end Go.Proofs.YtmifcbekaniiiaaDoor
