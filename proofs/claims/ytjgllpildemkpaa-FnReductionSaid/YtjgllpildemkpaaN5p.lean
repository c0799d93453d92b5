/- Contracts of functions of the program, and what they compute. Conditions: those that each theorem states. -/
import Derived.Test.YtjgllpildemkpaaProg
import Derived.Test.YtjgllpildemkpaaN4
import Derived.Test.YtjgllpildemkpaaQ2
import Derived.Test.YtjgllpildemkpaaD5
set_option linter.unusedVariables false
set_option linter.unusedSimpArgs false
namespace Go.Proofs.Ytjgllpildemkpaa
open Go.Av
attribute [local irreducible] Go.IntKind.wrap leastI rdZ rd rootI sumT selI lostE deadE cutE parI joinsE atE
set_option maxRecDepth 20000
set_option maxHeartbeats 8000000

/-! The reduction of a mine: plain facts of airways end to end. -/
theorem selI_get2 {p : Int → Bool} : ∀ {n : Nat}, ∀ x ∈ selI p n, 0 ≤ x ∧ x < n ∧ p x = true
  | 0, x, h => by rw [selI_0] at h; cases h
  | n + 1, x, h => by
    rw [selI_succ] at h
    by_cases e : p n = true
    · rw [if_pos e, List.mem_append] at h
      rcases h with h | h
      · have := selI_get2 x h; exact ⟨this.1, by omega, this.2.2⟩
      · rw [List.mem_singleton] at h; subst h; exact ⟨by omega, by omega, e⟩
    · rw [if_neg e] at h
      have := selI_get2 x h; exact ⟨this.1, by omega, this.2.2⟩
theorem at_b {es : List GEdge} {j : Int} (h : (atE es j).length = 2) (k : Nat) (hk : k < 2) : 0 ≤ (atE es j).getD k 0 ∧ (atE es j).getD k 0 < es.length ∧ ((gE es ((atE es j).getD k 0)).a = j ∨ (gE es ((atE es j).getD k 0)).b = j) := by
  have hm : (atE es j).getD k 0 ∈ atE es j := getD_mem (by omega)
  generalize (atE es j).getD k 0 = v at hm ⊢
  unfold atE at hm
  have := selI_get2 _ hm
  refine ⟨this.1, this.2.1, ?_⟩
  have h3 := this.2.2
  unfold touch at h3
  simpa using h3
def enS (t : Int → Bool) (J : Int) (f : Bool) (es : List GEdge) : Bool × Bool × List GEdge := if endI t es J ≤ J - 1 then (true, endF es (endI t es J), endS es (endI t es J)) else (false, f, es)
theorem enS_t {t : Int → Bool} {J j : Int} {f : Bool} {es : List GEdge} (h0 : 0 ≤ j) (h1 : j < J) (h2 : endP t es j = true) (h3 : ∀ m, 0 ≤ m → m < j → endP t es m = false) : enS t J f es = (true, endF es j, endS es j) := by
  have e : endI t es J = j := by unfold endI; exact leastI_at h0 (by omega) h2 h3
  unfold enS; rw [e, if_pos (by omega)]
theorem enS_f {t : Int → Bool} {J : Int} {f : Bool} {es : List GEdge} (hJ : 0 ≤ J) (h3 : ∀ m, 0 ≤ m → m < J → endP t es m = false) : enS t J f es = (false, f, es) := by
  have e : ¬endI t es J ≤ J - 1 := by unfold endI; rw [leastI_no fun m a b => h3 m a (by omega)]; omega
  unfold enS; rw [if_neg e]
theorem endP_t {x y : Int} {es : List GEdge} {j : Int} (h : (¬j = x ∧ ¬j = y) ∧ (atE es j).length = 2) : endP (termT x y) es j = true := by
  unfold endP termT
  rw [decide_eq_false h.1.1, decide_eq_false h.1.2, decide_eq_true h.2]; rfl
theorem endP_f {x y : Int} {es : List GEdge} {j : Int} (h : ¬((¬j = x ∧ ¬j = y) ∧ (atE es j).length = 2)) : endP (termT x y) es j = false := by
  unfold endP termT
  by_cases e1 : j = x
  · rw [decide_eq_true e1]; rfl
  · by_cases e2 : j = y
    · rw [decide_eq_true e2]; simp
    · rw [decide_eq_false (p := (atE es j).length = 2) (fun e => h ⟨⟨e1, e2⟩, e⟩)]; simp
end Go.Proofs.Ytjgllpildemkpaa
namespace Go.Proofs.Ytjgllpildemkpaa
open Go.Av
attribute [local irreducible] Go.IntKind.wrap leastI rdZ rd rootI sumT selI lostE deadE cutE parI joinsE atE okMine oneI sideI endI sideS endS endF
set_option maxRecDepth 20000
set_option maxHeartbeats 8000000

/-! The reduction of a mine. -/
theorem cutE_len {es : List GEdge} {i : Int} (h0 : 0 ≤ i) (h1 : i < es.length) : (cutE es i).length + 1 = es.length := by
  unfold cutE
  simp only [List.length_append, List.length_take, List.length_drop]; omega
theorem cutE_mem {es : List GEdge} {i : Int} : ∀ e ∈ cutE es i, e ∈ es := fun e he => by
  unfold cutE at he
  rcases List.mem_append.1 he with h | h
  · exact List.mem_of_mem_take h
  · exact List.mem_of_mem_drop h
theorem okE_cut {J : Int} {es : List GEdge} {i : Int} (h : okE J es) (h0 : 0 ≤ i) (h1 : i < es.length) : okE J (cutE es i) :=
  ⟨by have := cutE_len h0 h1; have := h.1; omega, fun e he => h.2 e (cutE_mem e he)⟩
theorem okE_set {J : Int} {es : List GEdge} {k : Nat} {v : GEdge} (h : okE J es) (hv : (0 ≤ v.a ∧ v.a < J) ∧ (0 ≤ v.b ∧ v.b < J) ∧ 1 ≤ v.resistance ∧ v.resistance ≤ 1000000) : okE J (es.set k v) :=
  ⟨by rw [List.length_set]; exact h.1, fun e he => by
    rcases List.mem_or_eq_of_mem_set he with h1 | h1
    · exact h.2 e h1
    · rw [h1]; exact hv⟩
theorem one_b {t : Int → Bool} {es : List GEdge} (h : oneI t es ≤ es.length - 1) : 0 ≤ oneI t es := by
  unfold oneI at h ⊢
  exact (leastI_hit h (by omega)).1
theorem side_b {es : List GEdge} (h : sideI es ≤ es.length - 1) : 0 ≤ sideI es ∧ sideI es + 1 ≤ sideK es (sideI es) ∧ sideK es (sideI es) < es.length := by
  have q : 0 ≤ sideI es ∧ sideK es (sideI es) ≤ es.length - 1 := by
    unfold sideI at h ⊢
    have := leastI_hit h (by omega)
    exact ⟨this.1, of_decide_eq_true this.2.1⟩
  refine ⟨q.1, ?_, by omega⟩
  have q2 := q.2
  unfold sideK at q2 ⊢
  exact (leastI_hit q2 (by omega)).1
theorem sideS_ok {J : Int} {es : List GEdge} (ho : okE J es) (h : sideI es ≤ es.length - 1) : (sideS es).length + 1 = es.length ∧ okE J (sideS es) := by
  have q := side_b h
  have a1 := okE_at ho q.1 (by omega)
  have a2 := okE_at ho (i := sideK es (sideI es)) (by omega) (by omega)
  have p := parI_b (resOk_2 a1.2.2 a2.2.2) (by simp)
  unfold sideS
  refine ⟨?_, okE_cut (okE_set ho ⟨a1.1, a1.2.1, p⟩) (by omega) (by rw [List.length_set]; omega)⟩
  have := cutE_len (es := es.set (sideI es).toNat ⟨(gE es (sideI es)).a, (gE es (sideI es)).b, parI [(gE es (sideI es)).resistance, (gE es (sideK es (sideI es))).resistance]⟩) (i := sideK es (sideI es)) (by omega) (by rw [List.length_set]; omega)
  rw [List.length_set] at this
  exact this
theorem end_b {t : Int → Bool} {es : List GEdge} {J : Int} (hJ : 0 ≤ J) (h : endI t es J ≤ J - 1) : 0 ≤ endI t es J ∧ (atE es (endI t es J)).length = 2 := by
  unfold endI at h ⊢
  have := leastI_hit h (by omega)
  refine ⟨this.1, ?_⟩
  have q := this.2.1
  unfold endP at q
  rw [Bool.and_eq_true] at q
  exact of_decide_eq_true q.2
theorem endS_ok {J j : Int} {es : List GEdge} (ho : okE J es) (h0 : 0 ≤ j) (h : (atE es j).length = 2) : (endS es j).length + 1 = es.length ∧ (endF es j = false → okE J (endS es j)) := by
  have b0 := at_b h 0 (by omega)
  have b1 := at_b h 1 (by omega)
  have a0 := okE_at ho b0.1 b0.2.1
  have a1 := okE_at ho b1.1 b1.2.1
  unfold endS endF endX endY
  refine ⟨?_, fun hf => ?_⟩
  · have := cutE_len (es := es.set ((atE es j).getD 0 0).toNat ⟨(gE es ((atE es j).getD 0 0)).a + (gE es ((atE es j).getD 0 0)).b - j, (gE es ((atE es j).getD 1 0)).a + (gE es ((atE es j).getD 1 0)).b - j, (gE es ((atE es j).getD 0 0)).resistance + (gE es ((atE es j).getD 1 0)).resistance⟩) (i := (atE es j).getD 1 0) b1.1 (by rw [List.length_set]; exact b1.2.1)
    rw [List.length_set] at this
    exact this
  · have hf := of_decide_eq_false hf
    have c0 := b0.2.2
    have c1 := b1.2.2
    refine okE_cut (okE_set ho ⟨?_, ?_, ?_⟩) b1.1 (by rw [List.length_set]; exact b1.2.1)
    · dsimp only; rcases c0 with c | c <;> omega
    · dsimp only; rcases c1 with c | c <;> omega
    · dsimp only; omega
/-- the three kinds of steps, one behind the other -/
theorem step_1 {t : Int → Bool} {J : Int} {es : List GEdge} {f : Bool} {L : List GEdge} (h : (true, f, L) = rmS t false es) : stepE t J es = some (f, L) ∧ f = false ∧ ∀ J', okE J' es → okE J' L ∧ L.length + 1 = es.length := by
  unfold rmS at h
  unfold stepE
  by_cases hc : oneI t es ≤ es.length - 1
  · rw [if_pos hc] at h ⊢
    injection h with _ h; injection h with h1 h2
    rw [h1, h2]
    exact ⟨rfl, rfl, fun J' ho => ⟨okE_cut ho (one_b hc) (by omega), cutE_len (one_b hc) (by omega)⟩⟩
  · rw [if_neg hc] at h; injection h with h _; cases h
theorem step_1f {t : Int → Bool} {es : List GEdge} {f : Bool} {L : List GEdge} (h : (false, f, L) = rmS t false es) : (¬oneI t es ≤ es.length - 1) ∧ f = false ∧ L = es := by
  unfold rmS at h
  by_cases hc : oneI t es ≤ es.length - 1
  · rw [if_pos hc] at h; injection h with h _; cases h
  · rw [if_neg hc] at h
    injection h with _ h; injection h with h1 h2
    exact ⟨hc, h1, h2⟩
theorem step_2 {t : Int → Bool} {J : Int} {es : List GEdge} {f : Bool} {L : List GEdge} (h0 : ¬oneI t es ≤ es.length - 1) (h : (true, f, L) = sdS false es) : stepE t J es = some (f, L) ∧ f = false ∧ ∀ J', okE J' es → okE J' L ∧ L.length + 1 = es.length := by
  unfold sdS at h
  unfold stepE
  by_cases hc : sideI es ≤ es.length - 1
  · rw [if_pos hc] at h; rw [if_neg h0, if_pos hc]
    injection h with _ h; injection h with h1 h2
    rw [h1, h2]
    exact ⟨rfl, rfl, fun J' ho => ⟨(sideS_ok ho hc).2, (sideS_ok ho hc).1⟩⟩
  · rw [if_neg hc] at h; injection h with h _; cases h
theorem step_2f {es : List GEdge} {f : Bool} {L : List GEdge} (h : (false, f, L) = sdS false es) : (¬sideI es ≤ es.length - 1) ∧ f = false ∧ L = es := by
  unfold sdS at h
  by_cases hc : sideI es ≤ es.length - 1
  · rw [if_pos hc] at h; injection h with h _; cases h
  · rw [if_neg hc] at h
    injection h with _ h; injection h with h1 h2
    exact ⟨hc, h1, h2⟩
theorem step_3 {t : Int → Bool} {J : Int} {es : List GEdge} {f : Bool} {L : List GEdge} (hJ : 0 ≤ J) (ho : okE J es) (h0 : ¬oneI t es ≤ es.length - 1) (h1 : ¬sideI es ≤ es.length - 1) (h : (true, f, L) = enS t J false es) : stepE t J es = some (f, L) ∧ L.length + 1 = es.length ∧ (f = false → okE J L) := by
  unfold enS at h
  unfold stepE
  by_cases hc : endI t es J ≤ J - 1
  · rw [if_pos hc] at h; rw [if_neg h0, if_neg h1, if_pos hc]
    injection h with _ h; injection h with h1 h2
    have b := end_b hJ hc
    have q := endS_ok ho b.1 b.2
    rw [h1, h2]
    exact ⟨rfl, q.1, q.2⟩
  · rw [if_neg hc] at h; injection h with h _; cases h
theorem step_3f {t : Int → Bool} {J : Int} {es : List GEdge} {f : Bool} {L : List GEdge} (h0 : ¬oneI t es ≤ es.length - 1) (h1 : ¬sideI es ≤ es.length - 1) (h : (false, f, L) = enS t J false es) : stepE t J es = none ∧ f = false ∧ L = es := by
  unfold enS at h
  unfold stepE
  by_cases hc : endI t es J ≤ J - 1
  · rw [if_pos hc] at h; injection h with h _; cases h
  · rw [if_neg hc] at h; rw [if_neg h0, if_neg h1, if_neg hc]
    injection h with _ h; injection h with h1 h2
    exact ⟨rfl, h1, h2⟩
end Go.Proofs.Ytjgllpildemkpaa
