/- Contracts of functions of the program, and what they compute. Conditions: those that each theorem states. -/
import Derived.Test.YtfcnlpghdpfjkaaProg
import Derived.Test.YtfcnlpghdpfjkaaL1
import Derived.Test.YtfcnlpghdpfjkaaK3
set_option linter.unusedVariables false
set_option linter.unusedSimpArgs false
namespace Go.Proofs.Ytfcnlpghdpfjkaa
open Go.Av
attribute [local irreducible] Go.IntKind.wrap
set_option maxRecDepth 20000
set_option maxHeartbeats 4000000

/-! The search for the first set of the fewest numbers that is right. -/
def extL (f : Nat → Int → List Int → Bool × Int × List Int) (L : List Int) : Nat → Nat → Int → List Int → Bool × Int × List Int
  | 0, _, b, s => (false, b, s)
  | k + 1, i, b, s => if (f (i + 1) b (s ++ [L.getD i 0])).1 = true then f (i + 1) b (s ++ [L.getD i 0]) else
      if (f (i + 1) b (s ++ [L.getD i 0])).2.1 < 0 then (false, (f (i + 1) b (s ++ [L.getD i 0])).2.1, s) else extL f L k (i + 1) (f (i + 1) b (s ++ [L.getD i 0])).2.1 s
def ext (L : List Int) (right : List Int → Bool) : Nat → Nat → Int → List Int → Bool × Int × List Int
  | 0, _, b, s => (decide (0 ≤ b - 1) && right s, b - 1, s)
  | m + 1, i, b, s => extL (ext L right m) L (L.length - m - i) i b s
theorem extL_p {f : Nat → Int → List Int → Bool × Int × List Int} {L : List Int} (hf : ∀ i b s, 0 ≤ b → -1 ≤ (f i b s).2.1 ∧ (f i b s).2.1 ≤ b ∧ ((f i b s).1 = false → (f i b s).2.2 = s)) : ∀ (k i : Nat) (b : Int) (s : List Int), 0 ≤ b → -1 ≤ (extL f L k i b s).2.1 ∧ (extL f L k i b s).2.1 ≤ b ∧ ((extL f L k i b s).1 = false → (extL f L k i b s).2.2 = s)
  | 0, _, b, s, hb => by simp [extL]; omega
  | k + 1, i, b, s, hb => by
    have h1 := hf (i + 1) b (s ++ [L.getD i 0]) hb
    unfold extL
    split
    · rename_i h2; exact ⟨h1.1, h1.2.1, fun h => by rw [h] at h2; cases h2⟩
    · split
      · exact ⟨h1.1, h1.2.1, fun _ => rfl⟩
      · rename_i h3
        have := extL_p (L := L) hf k (i + 1) _ s (Int.not_lt.1 h3)
        exact ⟨this.1, by omega, this.2.2⟩
theorem ext_p {L : List Int} {right : List Int → Bool} : ∀ (m i : Nat) (b : Int) (s : List Int), 0 ≤ b → -1 ≤ (ext L right m i b s).2.1 ∧ (ext L right m i b s).2.1 ≤ b ∧ ((ext L right m i b s).1 = false → (ext L right m i b s).2.2 = s)
  | 0, _, b, s, hb => by simp [ext]; omega
  | m + 1, i, b, s, hb => extL_p (fun i b s hb => ext_p m i b s hb) _ _ _ _ hb
theorem extL_0 {f : Nat → Int → List Int → Bool × Int × List Int} {L : List Int} {i : Nat} {b : Int} {s : List Int} {k : Nat} (h : k = 0) : extL f L k i b s = (false, b, s) := by subst h; rfl
theorem extL_s {f : Nat → Int → List Int → Bool × Int × List Int} {L : List Int} {i : Nat} {b : Int} {s : List Int} {k : Nat} (h : 0 < k) : extL f L k i b s = if (f (i + 1) b (s ++ [L.getD i 0])).1 = true then f (i + 1) b (s ++ [L.getD i 0]) else
      if (f (i + 1) b (s ++ [L.getD i 0])).2.1 < 0 then (false, (f (i + 1) b (s ++ [L.getD i 0])).2.1, s) else extL f L (k - 1) (i + 1) (f (i + 1) b (s ++ [L.getD i 0])).2.1 s := by
  obtain ⟨k, rfl⟩ : ∃ j, k = j + 1 := ⟨k - 1, by omega⟩
  rfl
theorem tkT {ys s : List Int} {n : Nat} (h : ys.take n = s) : ((ys.map eI).drop 0).take n = s.map eI := by rw [← h]; simp
theorem snT {ys s : List Int} {n : Nat} {v : Int} (h : ys.take n = s) : ((ys.map eI).drop 0).take n ++ [eI v] = (s ++ [v]).map eI := by rw [← h]; simp
/-- what the search from a set on hands back: whether it is found, the set, the budget that is left -/
inductive ExtR (L : List Int) (fv : PV) (r : Bool × Int × List Int) (rs : List AV) (ho : List OB) : Prop
  | mk (n : Nat) (ys : List Int) (b : Bool) (l : Int) (h1 : rs = [Bo b]) (h2 : ho = [.fix [Lx (LI L), .p .any fv, In l, .osl 2 0 n], .dead, .row false .flat (eI 0) (ys.map eI)]) (h3 : b = r.1) (h4 : l = r.2.1) (h5 : n ≤ ys.length) (h6 : ys.take n = r.2.2)
theorem ArgF.ext {L : List Int} {fv : PV} {r : Bool × Int × List Int} {n : Nat} {P : Program} [Kn P] {f : FuncId} {args : List AV} {hin : List OB} {K : List AV → List OB → Prop} (h : FnSem P f args hin (ExtR L fv r))
    (hk : ∀ (n : Nat) (ys : List Int) (b : Bool) (l : Int), b = r.1 → l = r.2.1 → n ≤ ys.length → ys.take n = r.2.2 → K [Bo b] [.fix [Lx (LI L), .p .any fv, In l, .osl 2 0 n], .dead, .row false .flat (eI 0) (ys.map eI)]) : ArgF n P f args hin K :=
  ⟨_, h, fun rs ho hR _ => by obtain ⟨n, ys, b, l, rfl, rfl, h3, h4, h5, h6⟩ := hR; exact hk n ys b l h3 h4 h5 h6⟩
theorem ext_len {L : List Int} {right : List Int → Bool} {m i n2 : Nat} {b l : Int} {s ys : List Int} {v : Int} {b2 : Bool} (h0 : 0 ≤ b) (e1 : b2 = (ext L right m i b (s ++ [v])).1) (e2 : l = (ext L right m i b (s ++ [v])).2.1) (e3 : n2 ≤ ys.length) (e4 : ys.take n2 = (ext L right m i b (s ++ [v])).2.2) (h : b2 = false) : n2 = s.length + 1 ∧ ys.take s.length = s ∧ -1 ≤ l ∧ l ≤ b := by
  obtain ⟨p1, p2, p3⟩ := ext_p (L := L) (right := right) m i b (s ++ [v]) h0
  rw [p3 (by rw [← e1]; exact h)] at e4
  have hl := congrArg List.length e4
  rw [List.length_take, List.length_append] at hl
  simp only [List.length_singleton] at hl
  have hn : n2 = s.length + 1 := by omega
  refine ⟨hn, ?_, by omega, by omega⟩
  have := congrArg (List.take s.length) e4
  rw [List.take_take, hn, Nat.min_eq_left (by omega)] at this
  rw [this]; simp
theorem ext_0 {L : List Int} {right : List Int → Bool} {m i : Nat} {b : Int} {s : List Int} (h : m = 0) : ext L right m i b s = (decide (0 ≤ b - 1) && right s, b - 1, s) := by subst h; rfl
theorem ext_s {L : List Int} {right : List Int → Bool} {m i : Nat} {b : Int} {s : List Int} (h : 0 < m) : ext L right m i b s = extL (ext L right (m - 1)) L (L.length - (m - 1) - i) i b s := by
  obtain ⟨k, rfl⟩ : ∃ j, m = j + 1 := ⟨m - 1, by omega⟩
  rfl
section
variable {L : List Int} {right : List Int → Bool} {m i : Nat} {b c l2 j : Int} {s : List Int} {b2 : Bool} {x : Bool × Int × List Int}
theorem ext_t (h7 : x = extL (ext L right (m - 1)) L (L.length - (m - 1) - j.toNat) j.toNat c s) (h0 : 0 ≤ j) (hm : 0 < m) (hj : j + m ≤ L.length) (e1 : b2 = (ext L right (m - 1) (j + 1).toNat c (s ++ [L.getD j.toNat 0])).1) (hb : b2 = true) : x = ext L right (m - 1) (j + 1).toNat c (s ++ [L.getD j.toNat 0]) := by
  rw [show (j + 1).toNat = j.toNat + 1 by omega] at e1 ⊢
  rw [h7, extL_s (by omega), if_pos (by rw [← e1]; exact hb)]
theorem ext_f (h7 : x = extL (ext L right (m - 1)) L (L.length - (m - 1) - j.toNat) j.toNat c s) (h0 : 0 ≤ j) (hm : 0 < m) (hj : j + m ≤ L.length) (e1 : b2 = (ext L right (m - 1) (j + 1).toNat c (s ++ [L.getD j.toNat 0])).1) (e2 : l2 = (ext L right (m - 1) (j + 1).toNat c (s ++ [L.getD j.toNat 0])).2.1) (hb : b2 = false) (hl : l2 < 0) : x = (false, l2, s) := by
  rw [show (j + 1).toNat = j.toNat + 1 by omega] at e1 e2
  rw [h7, extL_s (by omega), if_neg (by rw [← e1, hb]; decide), if_pos (by rw [← e2]; exact hl), ← e2]
theorem ext_n (h7 : x = extL (ext L right (m - 1)) L (L.length - (m - 1) - j.toNat) j.toNat c s) (h0 : 0 ≤ j) (hm : 0 < m) (hj : j + m ≤ L.length) (e1 : b2 = (ext L right (m - 1) (j + 1).toNat c (s ++ [L.getD j.toNat 0])).1) (e2 : l2 = (ext L right (m - 1) (j + 1).toNat c (s ++ [L.getD j.toNat 0])).2.1) (hb : b2 = false) (hl : ¬l2 < 0) : x = extL (ext L right (m - 1)) L (L.length - (m - 1) - (j + 1).toNat) (j + 1).toNat l2 s := by
  rw [show (j + 1).toNat = j.toNat + 1 by omega] at e1 e2 ⊢
  rw [h7, extL_s (by omega), if_neg (by rw [← e1, hb]; decide), if_neg (by rw [← e2]; exact hl), ← e2]
  congr 1
theorem ext_e (h7 : x = extL (ext L right (m - 1)) L (L.length - (m - 1) - j.toNat) j.toNat c s) (h0 : 0 ≤ j) (hm : 0 < m) (hj : ¬j + m ≤ L.length) : x = (false, c, s) := by
  rw [h7, extL_0 (by omega)]
end
attribute [local irreducible] ext extL
theorem mem_snoc {L s : List Int} {j : Int} (h : ∀ x ∈ s, x ∈ L) (hj : 0 ≤ j ∧ j < L.length) : ∀ x ∈ s ++ [L.getD j.toNat 0], x ∈ L := by
  intro x hx
  rcases List.mem_append.1 hx with hx | hx
  · exact h x hx
  · rw [List.mem_singleton.1 hx]; exact getD_mem (by omega)
/-- the search by rising numbers of members -/
def fstL (L : List Int) (right : List Int → Bool) : Nat → Nat → Int → List Int × Int
  | 0, _, _ => ([], 3)
  | k + 1, n, b => if (ext L right n 0 b []).1 = true then ((ext L right n 0 b []).2.2, 0) else if (ext L right n 0 b []).2.1 < 0 then ([], 5) else fstL L right k (n + 1) (ext L right n 0 b []).2.1
def fstSet (L : List Int) (right : List Int → Bool) (b : Int) : List Int × Int := fstL L right (L.length + 1) 0 b
theorem fstL_s {L : List Int} {right : List Int → Bool} {k n : Nat} {b : Int} (h : 0 < k) : fstL L right k n b = if (ext L right n 0 b []).1 = true then ((ext L right n 0 b []).2.2, 0) else if (ext L right n 0 b []).2.1 < 0 then ([], 5) else fstL L right (k - 1) (n + 1) (ext L right n 0 b []).2.1 := by
  obtain ⟨k, rfl⟩ : ∃ j, k = j + 1 := ⟨k - 1, by omega⟩
  rfl
theorem fstL_0 {L : List Int} {right : List Int → Bool} {k n : Nat} {b : Int} (h : k = 0) : fstL L right k n b = ([], 3) := by subst h; rfl
/-- what the search hands back -/
inductive FstR (L : List Int) (fv : PV) (r : List Int × Int) (rs : List AV) (ho : List OB) : Prop
  | ok (n : Nat) (ys : List Int) (l : Int) (h1 : rs = [.osl 2 0 n, In 0]) (h2 : ho = [.fix [Lx (LI L), .p .any fv, In l, .osl 2 0 n], .dead, .row false .flat (eI 0) (ys.map eI)]) (h5 : n ≤ ys.length) (h6 : r = (ys.take n, 0))
  | no (c : Int) (n : Nat) (ys : List Int) (l : Int) (h1 : rs = [.osl 2 0 0, In c]) (h2 : ho = [.fix [Lx (LI L), .p .any fv, In l, .osl 3 0 n], .dead, Rw .flat (eI 0) [], .row false .flat (eI 0) (ys.map eI)]) (h6 : r = ([], c)) (h7 : c ≠ 0)
theorem ArgF.fst {L : List Int} {fv : PV} {r : List Int × Int} {n : Nat} {P : Program} [Kn P] {f : FuncId} {args : List AV} {hin : List OB} {K : List AV → List OB → Prop} (h : FnSem P f args hin (FstR L fv r))
    (hk : ∀ (n : Nat) (ys : List Int) (l : Int), n ≤ ys.length → r = (ys.take n, 0) → K [.osl 2 0 n, In 0] [.fix [Lx (LI L), .p .any fv, In l, .osl 2 0 n], .dead, .row false .flat (eI 0) (ys.map eI)])
    (hn : ∀ (c : Int) (n : Nat) (ys : List Int) (l : Int), r = ([], c) → c ≠ 0 → K [.osl 2 0 0, In c] [.fix [Lx (LI L), .p .any fv, In l, .osl 3 0 n], .dead, Rw .flat (eI 0) [], .row false .flat (eI 0) (ys.map eI)]) : ArgF n P f args hin K :=
  ⟨_, h, fun rs ho hR _ => by
    rcases hR with ⟨n, ys, l, rfl, rfl, h5, h6⟩ | ⟨c, n, ys, l, rfl, rfl, h6, h7⟩
    · exact hk n ys l h5 h6
    · exact hn c n ys l h6 h7⟩
theorem ext_emp {L : List Int} {right : List Int → Bool} {m n2 : Nat} {b l : Int} {ys : List Int} {b2 : Bool} (h0 : 0 ≤ b) (e1 : b2 = (ext L right m 0 b []).1) (e2 : l = (ext L right m 0 b []).2.1) (e3 : n2 ≤ ys.length) (e4 : ys.take n2 = (ext L right m 0 b []).2.2) (h : b2 = false) : n2 = 0 ∧ -1 ≤ l ∧ l ≤ b := by
  obtain ⟨p1, p2, p3⟩ := ext_p (L := L) (right := right) m 0 b [] h0
  rw [p3 (by rw [← e1]; exact h)] at e4
  have hl := congrArg List.length e4
  rw [List.length_take] at hl
  simp only [List.length_nil] at hl
  omega
section
variable {L : List Int} {right : List Int → Bool} {n2 : Nat} {b c l2 j : Int} {ys : List Int} {b2 : Bool} {x : List Int × Int}
theorem fst_t (h5 : x = fstL L right (L.length + 1 - j.toNat) j.toNat c) (h0 : 0 ≤ j) (hj : j < L.length + 1) (e1 : b2 = (ext L right j.toNat 0 c []).1) (e4 : ys.take n2 = (ext L right j.toNat 0 c []).2.2) (hb : b2 = true) : x = (ys.take n2, 0) := by
  rw [h5, fstL_s (by omega), if_pos (by rw [← e1]; exact hb), e4]
theorem fst_f (h5 : x = fstL L right (L.length + 1 - j.toNat) j.toNat c) (h0 : 0 ≤ j) (hj : j < L.length + 1) (e1 : b2 = (ext L right j.toNat 0 c []).1) (e2 : l2 = (ext L right j.toNat 0 c []).2.1) (hb : b2 = false) (hl : l2 < 0) : x = ([], 5) := by
  rw [h5, fstL_s (by omega), if_neg (by rw [← e1, hb]; decide), if_pos (by rw [← e2]; exact hl)]
theorem fst_n (h5 : x = fstL L right (L.length + 1 - j.toNat) j.toNat c) (h0 : 0 ≤ j) (hj : j < L.length + 1) (e1 : b2 = (ext L right j.toNat 0 c []).1) (e2 : l2 = (ext L right j.toNat 0 c []).2.1) (hb : b2 = false) (hl : ¬l2 < 0) : x = fstL L right (L.length + 1 - (j + 1).toNat) (j + 1).toNat l2 := by
  rw [h5, fstL_s (by omega), if_neg (by rw [← e1, hb]; decide), if_neg (by rw [← e2]; exact hl), ← e2, show (j + 1).toNat = j.toNat + 1 by omega]
  congr 1
theorem fst_e (h5 : x = fstL L right (L.length + 1 - j.toNat) j.toNat c) (h0 : 0 ≤ j) (hj : ¬j < L.length + 1) : x = ([], 3) := by
  rw [h5, fstL_0 (by omega)]
end
end Go.Proofs.Ytfcnlpghdpfjkaa
