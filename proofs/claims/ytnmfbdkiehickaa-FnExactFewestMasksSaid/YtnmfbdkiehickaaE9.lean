/- Contracts of functions of the program, and what they compute. Conditions: those that each theorem states. -/
import Derived.Test.YtnmfbdkiehickaaProg
import Derived.Test.YtnmfbdkiehickaaE8
import Derived.Test.YtnmfbdkiehickaaE3
import Derived.Test.YtnmfbdkiehickaaE6
set_option linter.unusedVariables false
set_option linter.unusedSimpArgs false
namespace Go.Proofs.Ytnmfbdkiehickaa
open Go.Av
attribute [local irreducible] Go.IntKind.wrap dTo okDusts okStays okDust okStay dS dAt expo sumI lessI
set_option maxRecDepth 20000
set_option maxHeartbeats 8000000

/-! The reference's search for the fewest masks. -/
theorem extL_long {n m : Nat} {right : List Int → Bool} : ∀ (K i : Nat) (b : Int) (s : List Int), 0 ≤ b → K = n - i → extL (ext (iotaI 0 n) right m) (iotaI 0 n) K i b s = extL (ext (iotaI 0 n) right m) (iotaI 0 n) (n - m - i) i b s
  | 0, i, b, s, _, hK => by rw [show n - m - i = 0 by omega]
  | K + 1, i, b, s, hb, hK => by
    have hp := ext_p (L := iotaI 0 n) (right := right) m (i + 1) b (s ++ [(iotaI 0 n).getD i 0]) hb
    rw [extL_s (by omega)]
    by_cases hc : n - m - i = 0
    · rw [hc, extL_0 (k := 0) rfl]
      have e : ext (iotaI 0 n) right m (i + 1) b (s ++ [(iotaI 0 n).getD i 0]) = (false, b, s ++ [(iotaI 0 n).getD i 0]) := by
        rw [ext_s (by omega), iotaI_len, extL_0 (by omega)]
      rw [e, if_neg (by simp), if_neg (show ¬(false, b, s ++ [(iotaI 0 n).getD i 0]).2.1 < 0 by dsimp only; omega)]
      dsimp only
      rw [Nat.add_sub_cancel, extL_long K (i + 1) b s hb (by omega), extL_0 (by omega)]
    · rw [extL_s (k := n - m - i) (by omega)]
      by_cases h1 : (ext (iotaI 0 n) right m (i + 1) b (s ++ [(iotaI 0 n).getD i 0])).1 = true
      · rw [if_pos h1, if_pos h1]
      · rw [if_neg h1, if_neg h1]
        by_cases h2 : (ext (iotaI 0 n) right m (i + 1) b (s ++ [(iotaI 0 n).getD i 0])).2.1 < 0
        · rw [if_pos h2, if_pos h2]
        · rw [if_neg h2, if_neg h2, Nat.add_sub_cancel, extL_long K (i + 1) _ s (by omega) (by omega), show n - m - i - 1 = n - m - (i + 1) by omega]
theorem ext_tb {L : List Int} {right : List Int → Bool} : ∀ (m i : Nat) (b : Int) (s : List Int), (ext L right m i b s).1 = true → 0 ≤ (ext L right m i b s).2.1
  | 0, i, b, s, h => by
    rw [ext_0 rfl] at h ⊢
    simp only [Bool.and_eq_true, decide_eq_true_eq] at h
    exact h.1
  | m + 1, i, b, s, h => by
    rw [ext_s (by omega)] at h ⊢
    simp only [Nat.add_sub_cancel] at h ⊢
    generalize L.length - m - i = k at h ⊢
    induction k generalizing i b with
    | zero => rw [extL_0 rfl] at h; cases h
    | succ k ihk =>
      rw [extL_s (by omega)] at h ⊢
      by_cases h1 : (ext L right m (i + 1) b (s ++ [L.getD i 0])).1 = true
      · rw [if_pos h1]; exact ext_tb m (i + 1) b _ h1
      · rw [if_neg h1] at h ⊢
        by_cases h2 : (ext L right m (i + 1) b (s ++ [L.getD i 0])).2.1 < 0
        · rw [if_pos h2] at h; cases h
        · rw [if_neg h2] at h ⊢
          exact ihk _ _ h
theorem upF_mono {n n' : Int} (hn : n ≤ n') : ∀ {lo : Int} {xs : List Int}, upF n lo xs → upF n' lo xs
  | _, [], _ => trivial
  | _, x :: r, h => ⟨h.1, by have := h.2.1; omega, upF_mono hn h.2.2⟩
theorem upF_snoc {j : Int} : ∀ {lo : Int} {xs : List Int}, lo ≤ j → upF j lo xs → upF (j + 1) lo (xs ++ [j])
  | _, [], h, _ => ⟨h, by omega, trivial⟩
  | _, x :: r, _, h => ⟨h.1, by have := h.2.1; omega, upF_snoc (by have := h.2.1; omega) h.2.2⟩
theorem upF_lt {n : Int} : ∀ {lo : Int} {xs : List Int}, upF n lo xs → ∀ x ∈ xs, lo ≤ x ∧ x < n
  | _, [], _, x, hx => by simp at hx
  | _, y :: r, h, x, hx => by
    rcases List.mem_cons.1 hx with e | hx
    · subst e; exact ⟨h.1, h.2.1⟩
    · have := upF_lt h.2.2 x hx; have := h.1; omega
/-- the leaf's sum -/
def leafS (ps ms s : List Int) : Nat → Int
  | 0 => 0
  | k + 1 => leafS ps ms s k + (if (k : Int) ∈ s then ms.getD k 0 else ps.getD k 0)
theorem leafS_s {ps ms s : List Int} {i : Int} (h : 0 ≤ i) : leafS ps ms s (i + 1).toNat = leafS ps ms s i.toNat + (if i ∈ s then ms.getD i.toNat 0 else ps.getD i.toNat 0) := by
  rw [show (i + 1).toNat = i.toNat + 1 by omega]
  simp only [leafS]; rw [show ((i.toNat : Nat) : Int) = i by omega]
theorem leafS_b {ps ms s : List Int} (h1 : inE ps) (h2 : inE ms) : ∀ k : Nat, 0 ≤ leafS ps ms s k ∧ leafS ps ms s k ≤ 17280000000 * k
  | 0 => by simp [leafS]
  | k + 1 => by
    have ih := leafS_b (s := s) h1 h2 k
    have := inE_at h1 k
    have := inE_at h2 k
    simp only [leafS]; split <;> omega
def dI (ps ms : List Int) (x : Int) : Int := ms.getD x.toNat 0 - ps.getD x.toNat 0
def sumD (ps ms : List Int) : List Int → Int
  | [] => 0
  | x :: r => dI ps ms x + sumD ps ms r
def selS (ps ms s : List Int) : Nat → Int
  | 0 => 0
  | k + 1 => selS ps ms s k + (if (k : Int) ∈ s then dI ps ms k else 0)
theorem leaf_sel {ps ms s : List Int} : ∀ k : Nat, leafS ps ms s k = sumI ps k + selS ps ms s k
  | 0 => by unfold sumI; simp [leafS, selS]
  | k + 1 => by
    unfold sumI
    simp only [leafS, selS, leaf_sel k, dI, Int.toNat_natCast]
    split <;> omega
theorem selS_cons {ps ms r : List Int} {x : Int} (hx : x ∉ r) (h0 : 0 ≤ x) : ∀ k : Nat, selS ps ms (x :: r) k = selS ps ms r k + (if x < k then dI ps ms x else 0)
  | 0 => by simp [selS]; omega
  | k + 1 => by
    simp only [selS, selS_cons hx h0 k, List.mem_cons]
    by_cases e : (k : Int) = x
    · subst e
      rw [if_neg (show ¬(k : Int) < k by omega), if_pos (show (k : Int) = k ∨ (k : Int) ∈ r from .inl rfl), if_neg hx, if_pos (show (k : Int) < ((k + 1 : Nat) : Int) by omega)] <;> omega
    · have e2 : ((k : Int) = x ∨ (k : Int) ∈ r) ↔ (k : Int) ∈ r := ⟨fun h => h.resolve_left e, .inr⟩
      simp only [e2]
      by_cases h3 : x < (k : Int)
      · rw [if_pos h3, if_pos (show x < ((k + 1 : Nat) : Int) by omega)]; omega
      · rw [if_neg h3, if_neg (show ¬x < ((k + 1 : Nat) : Int) by omega)]; omega
theorem selS_nil {ps ms : List Int} : ∀ k : Nat, selS ps ms [] k = 0
  | 0 => rfl
  | k + 1 => by simp [selS, selS_nil k]
theorem sel_sum {ps ms : List Int} {n : Nat} : ∀ {lo : Int} {s : List Int}, 0 ≤ lo → upF n lo s → selS ps ms s n = sumD ps ms s
  | _, [], _, _ => selS_nil n
  | lo, x :: r, h0, h => by
    have h1 := h.1; have h2 := h.2.1
    rw [selS_cons (fun hx => by have := upF_lt h.2.2 x hx; omega) (by omega), if_pos h2, sel_sum (lo := x + 1) (by omega) h.2.2]
    simp only [sumD]; omega
theorem sumD_snoc {ps ms : List Int} {x : Int} : ∀ {s : List Int}, sumD ps ms (s ++ [x]) = sumD ps ms s + dI ps ms x
  | [] => by simp [sumD]
  | y :: r => by simp only [List.cons_append, sumD, sumD_snoc (s := r)]; omega
theorem less_sum {ps ms s : List Int} : ∀ k : Nat, k ≤ s.length → lessI ps ms s k = sumD ps ms (s.take k)
  | 0, _ => by unfold lessI; simp [sumD]
  | k + 1, h => by
    unfold lessI
    rw [less_sum k (by omega), List.take_succ_eq_append_getElem (by omega), sumD_snoc]
    simp only [dI, List.getD_eq_getElem?_getD, List.getElem?_eq_getElem (show k < s.length by omega), Option.getD_some]
theorem leaf_eq {ps ms s : List Int} (h : upF ps.length 0 s) : leafS ps ms s ps.length = sumI ps ps.length + lessI ps ms s s.length := by
  rw [leaf_sel, sel_sum (Int.le_refl 0) h, less_sum _ (Nat.le_refl _), List.take_length]
/-- what the search from a number on hands back -/
inductive RunR (P Q : Nat) (ps ms : List Int) (limit N B : Int) (r : Bool × Int × List Int) (rs : List AV) (ho : List OB) : Prop
  | mk (n : Nat) (ys : List Int) (b fu : Bool) (nd : Int) (h1 : rs = [Bo b]) (h2 : ho = [.fix [.osl 1 0 P, .osl 2 0 Q, In limit, In N, .osl 4 0 n, In nd, In B, Bo fu], .row false .flat (eI 0) (ps.map eI), .row false .flat (eI 0) (ms.map eI), .dead, .row false .flat (eI 0) (ys.map eI)]) (h3 : b = r.1) (h4 : nd = B - max r.2.1 0) (h5 : fu = decide (r.2.1 < 0)) (h6 : n ≤ ys.length) (h7 : ys.take n = r.2.2)
theorem ArgF.run {P Q : Nat} {ps ms : List Int} {limit N B : Int} {r : Bool × Int × List Int} {k : Nat} {Pr : Program} {f : FuncId} {args : List AV} {hin : List OB} {K : List AV → List OB → Prop} (h : FnSem Pr f args hin (RunR P Q ps ms limit N B r))
    (hk : ∀ (n : Nat) (ys : List Int) (b fu : Bool) (nd : Int), b = r.1 → nd = B - max r.2.1 0 → fu = decide (r.2.1 < 0) → n ≤ ys.length → ys.take n = r.2.2 → K [Bo b] [.fix [.osl 1 0 P, .osl 2 0 Q, In limit, In N, .osl 4 0 n, In nd, In B, Bo fu], .row false .flat (eI 0) (ps.map eI), .row false .flat (eI 0) (ms.map eI), .dead, .row false .flat (eI 0) (ys.map eI)]) : ArgF k Pr f args hin K :=
  ⟨_, h, fun rs ho hR _ => by obtain ⟨n, ys, b, fu, nd, rfl, rfl, h3, h4, h5, h6, h7⟩ := hR; exact hk n ys b fu nd h3 h4 h5 h6 h7⟩
section
variable {n m : Nat} {right : List Int → Bool} {c j : Int} {s : List Int} {x : Bool × Int × List Int}
theorem run_t (h : x = extL (ext (iotaI 0 n) right (m - 1)) (iotaI 0 n) (n - j.toNat) j.toNat c s) (h0 : 0 ≤ j) (hj : j < n) (hb : (ext (iotaI 0 n) right (m - 1) (j + 1).toNat c (s ++ [j])).1 = true) : x = ext (iotaI 0 n) right (m - 1) (j + 1).toNat c (s ++ [j]) := by
  have hg : (iotaI 0 n).getD j.toNat 0 = j := by rw [iotaI_get (by omega)]; omega
  rw [show (j + 1).toNat = j.toNat + 1 by omega] at hb ⊢
  rw [h, extL_s (by omega), hg, if_pos hb]
theorem run_f (h : x = extL (ext (iotaI 0 n) right (m - 1)) (iotaI 0 n) (n - j.toNat) j.toNat c s) (h0 : 0 ≤ j) (hj : j < n) (hb : (ext (iotaI 0 n) right (m - 1) (j + 1).toNat c (s ++ [j])).1 = false) (hl : (ext (iotaI 0 n) right (m - 1) (j + 1).toNat c (s ++ [j])).2.1 < 0) (hl2 : -1 ≤ (ext (iotaI 0 n) right (m - 1) (j + 1).toNat c (s ++ [j])).2.1) : x = (false, -1, s) := by
  have hg : (iotaI 0 n).getD j.toNat 0 = j := by rw [iotaI_get (by omega)]; omega
  rw [show (j + 1).toNat = j.toNat + 1 by omega] at hb hl hl2
  rw [h, extL_s (by omega), hg, if_neg (by rw [hb]; decide), if_pos hl]
  rw [show (ext (iotaI 0 n) right (m - 1) (j.toNat + 1) c (s ++ [j])).2.1 = -1 by omega]
theorem run_n (h : x = extL (ext (iotaI 0 n) right (m - 1)) (iotaI 0 n) (n - j.toNat) j.toNat c s) (h0 : 0 ≤ j) (hj : j < n) (hb : (ext (iotaI 0 n) right (m - 1) (j + 1).toNat c (s ++ [j])).1 = false) (hl : ¬(ext (iotaI 0 n) right (m - 1) (j + 1).toNat c (s ++ [j])).2.1 < 0) : x = extL (ext (iotaI 0 n) right (m - 1)) (iotaI 0 n) (n - (j + 1).toNat) (j + 1).toNat (ext (iotaI 0 n) right (m - 1) (j + 1).toNat c (s ++ [j])).2.1 s := by
  have hg : (iotaI 0 n).getD j.toNat 0 = j := by rw [iotaI_get (by omega)]; omega
  rw [show (j + 1).toNat = j.toNat + 1 by omega] at hb hl ⊢
  rw [h, extL_s (by omega), hg, if_neg (by rw [hb]; decide), if_neg hl, show n - j.toNat - 1 = n - (j.toNat + 1) by omega]
theorem run_e (h : x = extL (ext (iotaI 0 n) right (m - 1)) (iotaI 0 n) (n - j.toNat) j.toNat c s) (hj : ¬j < n) : x = (false, c, s) := by
  rw [h, extL_0 (by omega)]
theorem run_0 {i : Int} {b nd B : Int} (hm : 0 < m) (hi : 0 ≤ i) (hb : 0 ≤ b) (hnd : nd = B - b) : ext (iotaI 0 n) right m i.toNat b s = extL (ext (iotaI 0 n) right (m - 1)) (iotaI 0 n) (n - i.toNat) i.toNat (B - nd) s := by
  rw [ext_s hm, iotaI_len, extL_long _ _ _ _ (by omega) rfl, show B - nd = b by omega]
end
attribute [local irreducible] ext extL leafS masked upF
--@fn (*spec.l14Search).run
theorem run1 (P Q : Nat) (ps ms : List Int) (limit N B : Int) (hp : inE ps) (hm : inE ms) (hl : ps.length ≤ 12) (hP : P = ps.length) (hQ : Q = ps.length) (hlm : ms.length = ps.length) (hB : 1 ≤ B ∧ B ≤ 20000)
    (m : Nat) (ih : ∀ (m' : Nat), m' < m → ∀ (i b nd : Int) (fu : Bool) (s ys : List Int) (n : Nat), 0 ≤ i → i ≤ ps.length → (0 ≤ b ∧ b ≤ B) → nd = B - b → fu = false → n ≤ ys.length → ys.take n = s → upF i 0 s → N = s.length + m' → s.length ≤ i →
      FnSem Try.prog 135 [.own 0 0, In i] [.fix [.osl 1 0 P, .osl 2 0 Q, In limit, In N, .osl 3 0 n, In nd, In B, Bo fu], .row false .flat (eI 0) (ps.map eI), .row false .flat (eI 0) (ms.map eI), .row false .flat (eI 0) (ys.map eI)] (RunR P Q ps ms limit N B (ext (iotaI 0 ps.length) (masked ps ms limit) m' i.toNat b s)))
    (i b nd : Int) (fu : Bool) (s ys : List Int) (n : Nat) (hi : 0 ≤ i) (hi' : i ≤ ps.length) (hb0 : 0 ≤ b ∧ b ≤ B) (hnd : nd = B - b) (hfu : fu = false) (hn : n ≤ ys.length) (hs : ys.take n = s) (hup : upF i 0 s) (hN : N = s.length + m) (hsi : s.length ≤ i) :
    FnSem Try.prog 135 [.own 0 0, In i] [.fix [.osl 1 0 P, .osl 2 0 Q, In limit, In N, .osl 3 0 n, In nd, In B, Bo fu], .row false .flat (eI 0) (ps.map eI), .row false .flat (eI 0) (ms.map eI), .row false .flat (eI 0) (ys.map eI)] (RunR P Q ps ms limit N B (ext (iotaI 0 ps.length) (masked ps ms limit) m i.toNat b s)) := by
  have hsn : s.length = n := by rw [← hs, List.length_take]; omega
  have gp := fun j => inE_at hp j
  have gm2 := fun j => inE_at hm j
  have gl := fun k => leafS_b (s := s) hp hm k
  refine FnSem.walk (zs := zeroPV Try.prog) (by kernel_rfl) Try.func135 rfl Try.results135 (by kernel_rfl) (by kernel_rfl) (by kernel_rfl) fun hw hh => ?_
  obtain ⟨w0, w1, _⟩ := hw
  first | replace w0 := wfr_L14Search w0 | skip
  first | replace w1 := wf_I w1 | replace w1 := wf_Y w1 | replace w1 := wf_S w1 | replace w1 := wf_LI w1 | replace w1 := wf_LY w1 | replace w1 := wf_LLI w1 | replace w1 := wf_Ls w1 | skip
  repeat' first
    | refine And.intro rfl ?_
    | refine GdF.mk (fun h => h) ?_
    | refine And.intro (Nat.succ_ne_zero _) ?_
    | refine And.intro (Nat.le_of_ble_eq_true rfl) ?_
    | refine SeqF.run ?_
    | refine GhF.at 0 rfl [.mv 3] ?_
    | refine EqL.mk _ (tkT hs) ?_
    | refine EqI.mk _ (fun _ => wrapI (by have := gp v.toNat; have := gm2 v.toNat; have := gl v.toNat; omega) (by have := gp v.toNat; have := gm2 v.toNat; have := gl v.toNat; omega)) ?_
    | refine LoopF.at 8 rfl (LoopF.fix [0] (Int × Int) (fun (x, v) => 0 ≤ v ∧ v ≤ ps.length ∧ x = leafS ps ms s v.toNat) (fun (x, v) => [(5, In x), (6, In v)]) (fun (x, v) => []) (fun (x, v) => ((ps.length - v).toNat)) ((0, 0)) ?_)
    | (refine LoopB.of (T := Int × Int) ?_ ?_; rotate_left; rintro ⟨x, v⟩ ⟨k0, k1, k2⟩; rotate_left)
    | refine LoopF.at 15 rfl (LoopF.fix [0] (Int × Bool × Int × Nat × List Int) (fun (j, fu', nd', n', zs) => i ≤ j ∧ j ≤ ps.length ∧ n' ≤ zs.length ∧ zs.take n' = s ∧ n' = s.length ∧ 0 < m ∧ (fu' = false → (0 ≤ B - nd' ∧ B - nd' ≤ b) ∧ ext (iotaI 0 ps.length) (masked ps ms limit) m i.toNat b s = extL (ext (iotaI 0 ps.length) (masked ps ms limit) (m - 1)) (iotaI 0 ps.length) (ps.length - j.toNat) j.toNat (B - nd') s) ∧ (fu' = true → nd' = B ∧ ext (iotaI 0 ps.length) (masked ps ms limit) m i.toNat b s = (false, -1, s))) (fun (j, fu', nd', n', zs) => [(7, In j)]) (fun (j, fu', nd', n', zs) => [(0, .fix [.osl 1 0 P, .osl 2 0 Q, In limit, In N, .osl 4 0 n', In nd', In B, Bo fu']), (4, .row false .flat (eI 0) (zs.map eI))]) (fun (j, fu', nd', n', zs) => ((ps.length - j).toNat)) ((i, fu, nd, n, ys)) ?_)
    | (refine LoopB.of (T := Int × Bool × Int × Nat × List Int) ?_ ?_; rotate_left; rintro ⟨j, fu', nd', n', zs⟩ ⟨h0, h1, h2, h3, h4, h5, h6, h7⟩; rotate_left)
    | refine EqL.mk _ (snT h3) ?_
    | refine CallF.own (f := 135) [0] false ?_
    | (refine ArgF.run (ih (m - 1) (by omega) (j + 1) (B - nd') nd' fu' (s ++ [j]) (s ++ [j]) (n' + 1) (by omega) (by omega) (by have := (h6 hb.2).1; omega) (by omega) hb.2 (by simp; omega) (List.take_of_length_le (by simp; omega)) (upF_snoc (by omega) (upF_mono h0 hup)) (by simp; omega) (by simp; omega)) ?_; intro n2 ys2 b2 fu2 nd2 e1 e2 e3 e4 e5; have e6 := ext_len (h6 hb.2).1.1 e1 rfl e4 e5)
    | refine EqI.mk _ (fun _ => wrapI (by have := e6 hb; omega) (by have := e6 hb; omega)) ?_
    | refine BndF.mk (fun _ => by have := e6 hb; first | omega | (simp only [List.length_map]; omega)) ?_
    | refine EqN.mk n' (by have := e6 hb; omega) ?_
    | refine RunR.mk _ _ _ _ _ rfl rfl ?_ ?_ ?_ ?_ ?_
    | refine GhF.go ?_
    | refine GdS.keep ?_
    | refine DrawG.old (DrawF.lex (by decide +kernel) ?_)
    | refine MkF.row ?_
    | refine EqP.mk _ (gm eI 0 rfl) ?_
    | refine BndF.mk (fun _ => by omega) ?_
    | refine BndF.mk (fun _ => by simp only [List.length_map, List.length_cons, List.length_nil, List.length_append, List.length_set, List.length_replicate, iotaI_len]; omega) ?_
    | refine BndF.mk (fun hG => by simp only [forall_const, eq_self, not_true_eq_false, not_false_eq_true, or_false, false_or, or_self, or_true, true_or, and_true, true_and, and_false, false_and, decide_true, decide_false, Bool.not_true, Bool.not_false, decide_eq_true_eq, decide_eq_false_iff_not, ite_and_p, ite_or_p, Bool.decide_eq_true, Bool.and_eq_true, Bool.or_eq_true, Bool.not_eq_true', Bool.not_eq_false', Bool.and_eq_false_imp, Bool.or_eq_false_iff, bne_iff_ne, beq_iff_eq, bne_eq_false_iff_eq, beq_eq_false_iff_ne, gt_iff_lt, ge_iff_le, Int.not_lt, Int.not_le, ne_eq, Bool.true_eq_false, Bool.false_eq_true, reduceCtorEq, eta_Airway, eta_Door, eta_Dusting, eta_Fan, eta_Mine, eta_Mode, bytes_nil] at hG; (try simp only [List.length_map]); omega) ?_
    | refine EqI.mk _ (fun _ => wrapI (by omega) (by omega)) ?_
    | refine EqI.mk _ (fun _ => rfl) ?_
    | refine FlF.keep ?_
    | refine EqN.mk _ (ln eI) ?_
    | refine EqN.mk _ (Nat.zero_add _) ?_
    | refine EqN.mk (_ + 1) rfl ?_
    | refine EqN.mk _ (Int.toNat_natCast _) ?_
    | refine EqN.mk _ rfl ?_
    | refine EqL.mk _ (sn0 eI) ?_
    | refine EqL.mk _ (sn eI (by first | rfl | assumption | omega | (simp only [List.length_map, List.length_cons, List.length_nil, List.length_append, List.length_set, List.length_replicate, iotaI_len]; done) | (simp only [List.length_map, List.length_cons, List.length_nil, List.length_append, List.length_set, List.length_replicate, iotaI_len]; omega))) ?_
    | refine EqL.mk _ (ap0 eI) ?_
    | refine EqL.mk _ (ap eI (by first | rfl | assumption | omega | (simp only [List.length_map, List.length_cons, List.length_nil, List.length_append, List.length_set, List.length_replicate, iotaI_len]; done) | (simp only [List.length_map, List.length_cons, List.length_nil, List.length_append, List.length_set, List.length_replicate, iotaI_len]; omega))) ?_
    | refine EqL.mk _ (tk eI (by first | rfl | assumption | omega | (simp only [List.length_map, List.length_cons, List.length_nil, List.length_append, List.length_set, List.length_replicate, iotaI_len]; done) | (simp only [List.length_map, List.length_cons, List.length_nil, List.length_append, List.length_set, List.length_replicate, iotaI_len]; omega))) ?_
    | refine EqL.mk _ (st eI) ?_
    | refine EqL.mk _ (dt eI) ?_
    | refine EqL.mk [] rfl ?_
    | refine EqL.mk [_] rfl ?_
    | refine EqL.mk _ rfl ?_
    | refine ArgF.is (c_spec_l00Has ..) ?_
    | refine ArgQ.is (fun hG => c_spec_l00Has ..) rfl rfl ?_
    | refine ArgF.is (c_spec_l14Search_run ..) ?_
    | refine ArgQ.is (fun hG => c_spec_l14Search_run ..) rfl rfl ?_
    | refine CallF.mk (CallW.is [] true rfl ?_)
    | refine CallG.mk ?_
    | (refine CondF.mk (fun hb => ?_) (fun hb => ?_) <;> try simp only [forall_const, eq_self, not_true_eq_false, not_false_eq_true, or_false, false_or, or_self, or_true, true_or, and_true, true_and, and_false, false_and, decide_true, decide_false, Bool.not_true, Bool.not_false, decide_eq_true_eq, decide_eq_false_iff_not, ite_and_p, ite_or_p, Bool.decide_eq_true, Bool.and_eq_true, Bool.or_eq_true, Bool.not_eq_true', Bool.not_eq_false', Bool.and_eq_false_imp, Bool.or_eq_false_iff, bne_iff_ne, beq_iff_eq, bne_eq_false_iff_eq, beq_eq_false_iff_ne, gt_iff_lt, ge_iff_le, Int.not_lt, Int.not_le, ne_eq, Bool.true_eq_false, Bool.false_eq_true, reduceCtorEq, eta_Airway, eta_Door, eta_Dusting, eta_Fan, eta_Mine, eta_Mode] at hb)
    | apply BackF.auto5
    | apply BackF.auto2
    | refine BackB.mk ?_ ?_
    | refine RetF.auto (And.intro rfl ?_)
    | exact Is.mk rfl rfl
    | refine Is.mk ?_ rfl
    | refine Is.mk rfl ?_
    | refine Is.mk ?_ ?_
  all_goals try dsimp only
  all_goals first
    | omega
    | exact hn
    | (rw [ext_0 (by omega)]; exact hs)
    | (rw [ext_0 (by omega)]; dsimp only; first | omega | (rw [decide_eq_false (by omega)]; rfl) | (rw [decide_eq_true (by omega)]))
    | exact ⟨by omega, by omega, by unfold leafS; rfl⟩
    | exact ⟨by omega, by omega, by rw [leafS_s k0, k2, if_pos (by assumption)]⟩
    | exact ⟨by omega, by omega, by rw [leafS_s k0, k2, if_neg (by assumption)]⟩
    | (rw [ext_0 (by omega)]; dsimp only; rw [decide_eq_true (show 0 ≤ b - 1 by omega), Bool.true_and]; unfold masked; rw [← leaf_eq (upF_mono hi' hup), k2, show v.toNat = ps.length by omega])
    | (rw [ext_0 (by omega), hfu]; exact (decide_eq_false (by dsimp only; omega)).symm)
    | exact ⟨Int.le_refl _, hi', hn, hs, by omega, by omega, fun _ => ⟨by omega, run_0 (by omega) hi hb0.1 hnd⟩, fun h => by rw [hfu] at h; cases h⟩
    | (rename_i hc; rw [run_t (h6 hc.2).2 (by omega) (by have := hc.1; omega) (by rw [← e1]; exact hb)]; first | exact e2 | exact e3 | exact e5 | (rw [← e1]; exact hb.symm))
    | (rename_i hc; have q := e6 hb; have f1 : (ext (iotaI 0 ps.length) (masked ps ms limit) (m - 1) (j + 1).toNat (B - nd') (s ++ [j])).1 = false := by rw [← e1]; exact hb
       refine ⟨by omega, by omega, by omega, by rw [h4]; exact q.2.1, h4, h5, fun hf => ?_, fun hf => ?_⟩
       · rw [hf] at e3
         have g := of_decide_eq_false e3.symm
         have e7 : B - nd2 = (ext (iotaI 0 ps.length) (masked ps ms limit) (m - 1) (j + 1).toNat (B - nd') (s ++ [j])).2.1 := by omega
         have := (h6 hc.2).1
         exact ⟨by omega, by rw [e7]; exact run_n (h6 hc.2).2 (by omega) (by have := hc.1; omega) f1 g⟩
       · rw [hf] at e3
         have g := of_decide_eq_true e3.symm
         exact ⟨by omega, run_f (h6 hc.2).2 (by omega) (by have := hc.1; omega) f1 g q.2.2.1⟩)
    | (cases hf : fu' with
       | true =>
         have q := h7 hf
         rw [q.2] <;> first | rfl | (dsimp only; omega) | exact h3
       | false =>
         have q := h6 hf
         have g : ¬j < ps.length := fun hh => by have := hb (by omega); rw [hf] at this; cases this
         have := q.1
         rw [run_e q.2 g] <;> first | rfl | (dsimp only; omega) | exact (decide_eq_false (by dsimp only; omega)).symm | exact h3)
    | skip
theorem runC (P Q : Nat) (ps ms : List Int) (limit N B : Int) (hp : inE ps) (hm : inE ms) (hl : ps.length ≤ 12) (hP : P = ps.length) (hQ : Q = ps.length) (hlm : ms.length = ps.length) (hB : 1 ≤ B ∧ B ≤ 20000)
    (m : Nat) : ∀ (i b nd : Int) (fu : Bool) (s ys : List Int) (n : Nat), 0 ≤ i → i ≤ ps.length → (0 ≤ b ∧ b ≤ B) → nd = B - b → fu = false → n ≤ ys.length → ys.take n = s → upF i 0 s → N = s.length + m → s.length ≤ i →
      FnSem Try.prog 135 [.own 0 0, In i] [.fix [.osl 1 0 P, .osl 2 0 Q, In limit, In N, .osl 3 0 n, In nd, In B, Bo fu], .row false .flat (eI 0) (ps.map eI), .row false .flat (eI 0) (ms.map eI), .row false .flat (eI 0) (ys.map eI)] (RunR P Q ps ms limit N B (ext (iotaI 0 ps.length) (masked ps ms limit) m i.toNat b s)) := by
  induction m using Nat.strongRecOn with
  | _ m ih => exact run1 P Q ps ms limit N B hp hm hl hP hQ hlm hB m (fun m' hm' => ih m' hm')
end Go.Proofs.Ytnmfbdkiehickaa
