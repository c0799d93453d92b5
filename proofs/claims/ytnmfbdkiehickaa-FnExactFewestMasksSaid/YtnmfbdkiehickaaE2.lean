/- Contracts of functions of the program, and what they compute. Conditions: those that each theorem states. -/
import Derived.Test.YtnmfbdkiehickaaProg
import Derived.Test.YtnmfbdkiehickaaL1
import Derived.Test.YtnmfbdkiehickaaK3
set_option linter.unusedVariables false
set_option linter.unusedSimpArgs false
namespace Go.Proofs.Ytnmfbdkiehickaa
open Go.Av
attribute [local irreducible] Go.IntKind.wrap
set_option maxRecDepth 20000
set_option maxHeartbeats 4000000

/-! The search for the first set of the fewest numbers that is right. -/
def extL (f : Nat → Int → List Int → Bool × Int × List Int) (L : List Int) : Nat → Nat → Int → List Int → Bool × Int × List Int
  | 0, _, b, s => (false, b, s)
  | k + 1, i, b, s => if (f (i + 1) b (s ++ [L.getD i 0])).1 = true then f (i + 1) b (s ++ [L.getD i 0]) else
      if (f (i + 1) b (s ++ [L.getD i 0])).2.1 < 0 then (false, (f (i + 1) b (s ++ [L.getD i 0])).2.1, s) else extL f L k (i + 1) (f (i + 1) b (s ++ [L.getD i 0])).2.1 s
def ext (L : List Int) (right : List Int → Bool) : Nat → Nat → Int → List Int → Bool × Int × List Int
  | 0, _, b, s => (decide (0 ≤ b - 1) && right s, b - 1, s)
  | m + 1, i, b, s => extL (ext L right m) L (L.length - m - i) i b s
theorem extL_p {f : Nat → Int → List Int → Bool × Int × List Int} {L : List Int} (hf : ∀ i b s, 0 ≤ b → -1 ≤ (f i b s).2.1 ∧ (f i b s).2.1 ≤ b ∧ ((f i b s).1 = false → (f i b s).2.2 = s)) : ∀ (k i : Nat) (b : Int) (s : List Int), 0 ≤ b → -1 ≤ (extL f L k i b s).2.1 ∧ (extL f L k i b s).2.1 ≤ b ∧ ((extL f L k i b s).1 = false → (extL f L k i b s).2.2 = s)
  | 0, _, b, s, hb => by simp [extL]; omega
  | k + 1, i, b, s, hb => by
    have h1 := hf (i + 1) b (s ++ [L.getD i 0]) hb
    unfold extL
    split
    · rename_i h2; exact ⟨h1.1, h1.2.1, fun h => by rw [h] at h2; cases h2⟩
    · split
      · exact ⟨h1.1, h1.2.1, fun _ => rfl⟩
      · rename_i h3
        have := extL_p (L := L) hf k (i + 1) _ s (Int.not_lt.1 h3)
        exact ⟨this.1, by omega, this.2.2⟩
theorem ext_p {L : List Int} {right : List Int → Bool} : ∀ (m i : Nat) (b : Int) (s : List Int), 0 ≤ b → -1 ≤ (ext L right m i b s).2.1 ∧ (ext L right m i b s).2.1 ≤ b ∧ ((ext L right m i b s).1 = false → (ext L right m i b s).2.2 = s)
  | 0, _, b, s, hb => by simp [ext]; omega
  | m + 1, i, b, s, hb => extL_p (fun i b s hb => ext_p m i b s hb) _ _ _ _ hb
theorem extL_0 {f : Nat → Int → List Int → Bool × Int × List Int} {L : List Int} {i : Nat} {b : Int} {s : List Int} {k : Nat} (h : k = 0) : extL f L k i b s = (false, b, s) := by subst h; rfl
theorem extL_s {f : Nat → Int → List Int → Bool × Int × List Int} {L : List Int} {i : Nat} {b : Int} {s : List Int} {k : Nat} (h : 0 < k) : extL f L k i b s = if (f (i + 1) b (s ++ [L.getD i 0])).1 = true then f (i + 1) b (s ++ [L.getD i 0]) else
      if (f (i + 1) b (s ++ [L.getD i 0])).2.1 < 0 then (false, (f (i + 1) b (s ++ [L.getD i 0])).2.1, s) else extL f L (k - 1) (i + 1) (f (i + 1) b (s ++ [L.getD i 0])).2.1 s := by
  obtain ⟨k, rfl⟩ : ∃ j, k = j + 1 := ⟨k - 1, by omega⟩
  rfl
theorem tkT {ys s : List Int} {n : Nat} (h : ys.take n = s) : ((ys.map eI).drop 0).take n = s.map eI := by rw [← h]; simp
theorem snT {ys s : List Int} {n : Nat} {v : Int} (h : ys.take n = s) : ((ys.map eI).drop 0).take n ++ [eI v] = (s ++ [v]).map eI := by rw [← h]; simp
/-- what the search from a set on hands back: whether it is found, the set, the budget that is left -/
inductive ExtR (L : List Int) (fv : PV) (r : Bool × Int × List Int) (rs : List AV) (ho : List OB) : Prop
  | mk (n : Nat) (ys : List Int) (b : Bool) (l : Int) (h1 : rs = [Bo b]) (h2 : ho = [.fix [Lx (LI L), .p .any fv, In l, .osl 2 0 n], .dead, .row false .flat (eI 0) (ys.map eI)]) (h3 : b = r.1) (h4 : l = r.2.1) (h5 : n ≤ ys.length) (h6 : ys.take n = r.2.2)
theorem ArgF.ext {L : List Int} {fv : PV} {r : Bool × Int × List Int} {n : Nat} {P : Program} {f : FuncId} {args : List AV} {hin : List OB} {K : List AV → List OB → Prop} (h : FnSem P f args hin (ExtR L fv r))
    (hk : ∀ (n : Nat) (ys : List Int) (b : Bool) (l : Int), b = r.1 → l = r.2.1 → n ≤ ys.length → ys.take n = r.2.2 → K [Bo b] [.fix [Lx (LI L), .p .any fv, In l, .osl 2 0 n], .dead, .row false .flat (eI 0) (ys.map eI)]) : ArgF n P f args hin K :=
  ⟨_, h, fun rs ho hR _ => by obtain ⟨n, ys, b, l, rfl, rfl, h3, h4, h5, h6⟩ := hR; exact hk n ys b l h3 h4 h5 h6⟩
theorem ext_len {L : List Int} {right : List Int → Bool} {m i n2 : Nat} {b l : Int} {s ys : List Int} {v : Int} {b2 : Bool} (h0 : 0 ≤ b) (e1 : b2 = (ext L right m i b (s ++ [v])).1) (e2 : l = (ext L right m i b (s ++ [v])).2.1) (e3 : n2 ≤ ys.length) (e4 : ys.take n2 = (ext L right m i b (s ++ [v])).2.2) (h : b2 = false) : n2 = s.length + 1 ∧ ys.take s.length = s ∧ -1 ≤ l ∧ l ≤ b := by
  obtain ⟨p1, p2, p3⟩ := ext_p (L := L) (right := right) m i b (s ++ [v]) h0
  rw [p3 (by rw [← e1]; exact h)] at e4
  have hl := congrArg List.length e4
  rw [List.length_take, List.length_append] at hl
  simp only [List.length_singleton] at hl
  have hn : n2 = s.length + 1 := by omega
  refine ⟨hn, ?_, by omega, by omega⟩
  have := congrArg (List.take s.length) e4
  rw [List.take_take, hn, Nat.min_eq_left (by omega)] at this
  rw [this]; simp
theorem ext_0 {L : List Int} {right : List Int → Bool} {m i : Nat} {b : Int} {s : List Int} (h : m = 0) : ext L right m i b s = (decide (0 ≤ b - 1) && right s, b - 1, s) := by subst h; rfl
theorem ext_s {L : List Int} {right : List Int → Bool} {m i : Nat} {b : Int} {s : List Int} (h : 0 < m) : ext L right m i b s = extL (ext L right (m - 1)) L (L.length - (m - 1) - i) i b s := by
  obtain ⟨k, rfl⟩ : ∃ j, m = j + 1 := ⟨m - 1, by omega⟩
  rfl
section
variable {L : List Int} {right : List Int → Bool} {m i : Nat} {b c l2 j : Int} {s : List Int} {b2 : Bool} {x : Bool × Int × List Int}
theorem ext_t (h7 : x = extL (ext L right (m - 1)) L (L.length - (m - 1) - j.toNat) j.toNat c s) (h0 : 0 ≤ j) (hm : 0 < m) (hj : j + m ≤ L.length) (e1 : b2 = (ext L right (m - 1) (j + 1).toNat c (s ++ [L.getD j.toNat 0])).1) (hb : b2 = true) : x = ext L right (m - 1) (j + 1).toNat c (s ++ [L.getD j.toNat 0]) := by
  rw [show (j + 1).toNat = j.toNat + 1 by omega] at e1 ⊢
  rw [h7, extL_s (by omega), if_pos (by rw [← e1]; exact hb)]
theorem ext_f (h7 : x = extL (ext L right (m - 1)) L (L.length - (m - 1) - j.toNat) j.toNat c s) (h0 : 0 ≤ j) (hm : 0 < m) (hj : j + m ≤ L.length) (e1 : b2 = (ext L right (m - 1) (j + 1).toNat c (s ++ [L.getD j.toNat 0])).1) (e2 : l2 = (ext L right (m - 1) (j + 1).toNat c (s ++ [L.getD j.toNat 0])).2.1) (hb : b2 = false) (hl : l2 < 0) : x = (false, l2, s) := by
  rw [show (j + 1).toNat = j.toNat + 1 by omega] at e1 e2
  rw [h7, extL_s (by omega), if_neg (by rw [← e1, hb]; decide), if_pos (by rw [← e2]; exact hl), ← e2]
theorem ext_n (h7 : x = extL (ext L right (m - 1)) L (L.length - (m - 1) - j.toNat) j.toNat c s) (h0 : 0 ≤ j) (hm : 0 < m) (hj : j + m ≤ L.length) (e1 : b2 = (ext L right (m - 1) (j + 1).toNat c (s ++ [L.getD j.toNat 0])).1) (e2 : l2 = (ext L right (m - 1) (j + 1).toNat c (s ++ [L.getD j.toNat 0])).2.1) (hb : b2 = false) (hl : ¬l2 < 0) : x = extL (ext L right (m - 1)) L (L.length - (m - 1) - (j + 1).toNat) (j + 1).toNat l2 s := by
  rw [show (j + 1).toNat = j.toNat + 1 by omega] at e1 e2 ⊢
  rw [h7, extL_s (by omega), if_neg (by rw [← e1, hb]; decide), if_neg (by rw [← e2]; exact hl), ← e2]
  congr 1
theorem ext_e (h7 : x = extL (ext L right (m - 1)) L (L.length - (m - 1) - j.toNat) j.toNat c s) (h0 : 0 ≤ j) (hm : 0 < m) (hj : ¬j + m ≤ L.length) : x = (false, c, s) := by
  rw [h7, extL_0 (by omega)]
end
attribute [local irreducible] ext extL
theorem mem_snoc {L s : List Int} {j : Int} (h : ∀ x ∈ s, x ∈ L) (hj : 0 ≤ j ∧ j < L.length) : ∀ x ∈ s ++ [L.getD j.toNat 0], x ∈ L := by
  intro x hx
  rcases List.mem_append.1 hx with hx | hx
  · exact h x hx
  · rw [List.mem_singleton.1 hx]; exact getD_mem (by omega)
--@fn (*impl.setSearch).extend
theorem ext1 (L : List Int) (right : List Int → Bool) (f : Nat) (c1 c2 c3 : List PV) (hL : L.length ≤ 1000000) (hr : ∀ xs : List Int, xs.length ≤ L.length → (∀ x ∈ xs, x ∈ L) → FnSem Try.prog f [Lx (LI xs), .p .any (.ref c1), .p .any (.ref c2), .p .any (.ref c3)] [] (Is [Bo (right xs)] []))
    (m : Nat) (ih : ∀ (m' : Nat) (k : Int), k = m' → m' < m → ∀ (i : Int) (b : Int) (s ys : List Int) (n : Nat), 0 ≤ i → i ≤ L.length → (0 ≤ b ∧ b ≤ 1000000) → n ≤ ys.length → ys.take n = s → (∀ x ∈ s, x ∈ L) → s.length + m' ≤ L.length →
      FnSem Try.prog 209 [.own 0 0, In i, In k] [.fix [Lx (LI L), .p .any (.fn f [.ref c1, .ref c2, .ref c3]), In b, .osl 1 0 n], .row false .flat (eI 0) (ys.map eI)] (ExtR L (.fn f [.ref c1, .ref c2, .ref c3]) (ext L right m' i.toNat b s)))
    (i : Int) (b : Int) (s ys : List Int) (n : Nat) (hi : 0 ≤ i) (hi' : i ≤ L.length) (hb0 : 0 ≤ b ∧ b ≤ 1000000) (hn : n ≤ ys.length) (hs : ys.take n = s) (hsL : ∀ x ∈ s, x ∈ L) (hm : s.length + m ≤ L.length) :
    FnSem Try.prog 209 [.own 0 0, In i, In m] [.fix [Lx (LI L), .p .any (.fn f [.ref c1, .ref c2, .ref c3]), In b, .osl 1 0 n], .row false .flat (eI 0) (ys.map eI)] (ExtR L (.fn f [.ref c1, .ref c2, .ref c3]) (ext L right m i.toNat b s)) := by
  have hsn : s.length = n := by rw [← hs, List.length_take]; omega
  refine FnSem.walk (zs := zeroPV Try.prog) (by kernel_rfl) Try.func209 rfl Try.results209 (by kernel_rfl) (by kernel_rfl) (by kernel_rfl) fun hw hh => ?_
  obtain ⟨w0, w1, w2, _⟩ := hw
  first | replace w0 := wfr_SetSearch w0 | skip
  first | replace w1 := wf_I w1 | replace w1 := wf_Y w1 | replace w1 := wf_S w1 | replace w1 := wf_LI w1 | replace w1 := wf_LY w1 | replace w1 := wf_LLI w1 | replace w1 := wf_Ls w1 | skip
  first | replace w2 := wf_I w2 | replace w2 := wf_Y w2 | replace w2 := wf_S w2 | replace w2 := wf_LI w2 | replace w2 := wf_LY w2 | replace w2 := wf_LLI w2 | replace w2 := wf_Ls w2 | skip
  repeat' first
    | refine And.intro rfl ?_
    | refine GdF.mk (fun h => h) ?_
    | refine And.intro (Nat.succ_ne_zero _) ?_
    | refine And.intro (Nat.le_of_ble_eq_true rfl) ?_
    | refine SeqF.run ?_
    | refine GhF.at 0 rfl [.mv 1] ?_
    | refine EqL.mk _ (tkT hs) ?_
    | refine ArgF.is (hr s (by omega) hsL) ?_
    | refine ArgQ.is (fun hG => hr s (by omega) hsL) rfl rfl ?_
    | refine LoopF.at 5 rfl (LoopF.fix [0, 2] (Int × Int × Nat × List Int) (fun (j, c, n', zs) => i ≤ j ∧ j ≤ L.length ∧ 0 ≤ c ∧ c ≤ b ∧ n' ≤ zs.length ∧ zs.take n' = s ∧ n' = s.length ∧ 0 < m ∧ ext L right m i.toNat b s = extL (ext L right (m - 1)) L (L.length - (m - 1) - j.toNat) j.toNat c s) (fun (j, c, n', zs) => [(7, In j)]) (fun (j, c, n', zs) => [(0, .fix [Lx (LI L), .p .any (.fn f [.ref c1, .ref c2, .ref c3]), In c, .osl 2 0 n']), (2, .row false .flat (eI 0) (zs.map eI))]) (fun (j, c, n', zs) => ((L.length - j).toNat)) ((i, b, n, ys)) ?_)
    | (refine LoopB.of (T := Int × Int × Nat × List Int) ?_ ?_; rotate_left; rintro ⟨j, c, n', zs⟩ ⟨h0, h1, h2, h3, h4, h5, h8, h6, h7⟩; rotate_left)
    | refine EqL.mk _ (snT h5) ?_
    | refine CallF.own (f := 209) [0] false ?_
    | (refine ArgF.ext (ih (m - 1) (m - 1) (by omega) (by omega) (j + 1) c (s ++ [L.getD j.toNat 0]) (s ++ [L.getD j.toNat 0]) (n' + 1) (by omega) (by omega) (by omega) (by simp; omega) (List.take_of_length_le (by simp; omega)) (mem_snoc hsL (by omega)) (by simp; omega)) ?_; intro n2 ys2 b2 l2 e1 e2 e3 e4; have e5 := ext_len h2 e1 e2 e3 e4)
    | refine EqI.mk _ (fun _ => wrapI (by have := e5 hb; omega) (by have := e5 hb; omega)) ?_
    | refine BndF.mk (fun _ => by have := e5 hb; first | omega | (simp only [List.length_map]; omega)) ?_
    | refine EqN.mk n' (by have := e5 hb; omega) ?_
    | refine ExtR.mk _ _ _ _ rfl rfl ?_ ?_ ?_ ?_
    | refine GhF.go ?_
    | refine GdS.keep ?_
    | refine DrawG.old (DrawF.lex (by decide +kernel) ?_)
    | refine DrawG.old (DrawF.any ?_)
    | refine OrdF.take 0 (by decide +kernel) ?_
    | refine OrdF.take 1 (by decide +kernel) ?_
    | refine OrdF.take 2 (by decide +kernel) ?_
    | refine OrdF.take 3 (by decide +kernel) ?_
    | refine OrdF.take 5 (by decide +kernel) ?_
    | refine OrdF.take 6 (by decide +kernel) ?_
    | refine OrdF.take 7 (by decide +kernel) ?_
    | refine OrdF.take 9 (by decide +kernel) ?_
    | refine OrdF.take 10 (by decide +kernel) ?_
    | refine OrdF.take 14 (by decide +kernel) ?_
    | refine OrdF.take 15 (by decide +kernel) ?_
    | refine OrdF.all [16] (by decide +kernel) ?_
    | refine OrdF.all [13] (by decide +kernel) ?_
    | refine OrdF.all [4] (by decide +kernel) ?_
    | refine OrdF.all [12] (by decide +kernel) ?_
    | refine OrdF.all [4, 12] (by decide +kernel) ?_
    | refine OrdF.all [11] (by decide +kernel) ?_
    | refine OrdF.all [4, 11] (by decide +kernel) ?_
    | refine OrdF.all [8] (by decide +kernel) ?_
    | refine OrdF.all [4, 8] (by decide +kernel) ?_
    | refine OrdF.fin (by decide +kernel) ?_
    | refine AllF.one _ ?_
    | refine AllF.cons _ _ ?_ ?_
    | refine MkF.row ?_
    | refine EqP.mk _ (gm eI 0 rfl) ?_
    | refine BndF.mk (fun _ => by omega) ?_
    | refine BndF.mk (fun _ => by simp only [List.length_map, List.length_cons, List.length_nil, List.length_append, List.length_set, List.length_replicate, iotaI_len]; omega) ?_
    | refine BndF.mk (fun hG => by simp only [forall_const, eq_self, not_true_eq_false, not_false_eq_true, or_false, false_or, or_self, or_true, true_or, and_true, true_and, and_false, false_and, decide_true, decide_false, Bool.not_true, Bool.not_false, decide_eq_true_eq, decide_eq_false_iff_not, ite_and_p, ite_or_p, Bool.decide_eq_true, Bool.and_eq_true, Bool.or_eq_true, Bool.not_eq_true', Bool.not_eq_false', Bool.and_eq_false_imp, Bool.or_eq_false_iff, bne_iff_ne, beq_iff_eq, bne_eq_false_iff_eq, beq_eq_false_iff_ne, gt_iff_lt, ge_iff_le, Int.not_lt, Int.not_le, ne_eq, Bool.true_eq_false, Bool.false_eq_true, reduceCtorEq, eta_Airway, eta_Door, eta_Dusting, eta_Fan, eta_Mine, eta_Mode, bytes_nil] at hG; (try simp only [List.length_map]); omega) ?_
    | refine EqI.mk _ (fun _ => wrapI (by omega) (by omega)) ?_
    | refine EqI.mk _ (fun _ => rfl) ?_
    | refine FlF.keep ?_
    | refine EqN.mk _ (ln eI) ?_
    | refine EqN.mk _ (Nat.zero_add _) ?_
    | refine EqN.mk (_ + 1) rfl ?_
    | refine EqN.mk _ (Int.toNat_natCast _) ?_
    | refine EqN.mk _ rfl ?_
    | refine EqL.mk _ (sn0 eI) ?_
    | refine EqL.mk _ (sn eI (by first | rfl | assumption | omega | (simp only [List.length_map, List.length_cons, List.length_nil, List.length_append, List.length_set, List.length_replicate, iotaI_len]; done) | (simp only [List.length_map, List.length_cons, List.length_nil, List.length_append, List.length_set, List.length_replicate, iotaI_len]; omega))) ?_
    | refine EqL.mk _ (ap0 eI) ?_
    | refine EqL.mk _ (ap eI (by first | rfl | assumption | omega | (simp only [List.length_map, List.length_cons, List.length_nil, List.length_append, List.length_set, List.length_replicate, iotaI_len]; done) | (simp only [List.length_map, List.length_cons, List.length_nil, List.length_append, List.length_set, List.length_replicate, iotaI_len]; omega))) ?_
    | refine EqL.mk _ (tk eI (by first | rfl | assumption | omega | (simp only [List.length_map, List.length_cons, List.length_nil, List.length_append, List.length_set, List.length_replicate, iotaI_len]; done) | (simp only [List.length_map, List.length_cons, List.length_nil, List.length_append, List.length_set, List.length_replicate, iotaI_len]; omega))) ?_
    | refine EqL.mk _ (st eI) ?_
    | refine EqL.mk _ (dt eI) ?_
    | refine EqL.mk [] rfl ?_
    | refine EqL.mk [_] rfl ?_
    | refine EqL.mk _ rfl ?_
    | refine ArgF.is (c_impl_setSearch_extend ..) ?_
    | refine ArgQ.is (fun hG => c_impl_setSearch_extend ..) rfl rfl ?_
    | refine CallF.mk (CallW.is [] true rfl ?_)
    | refine CallG.mk ?_
    | (refine CondF.mk (fun hb => ?_) (fun hb => ?_) <;> try simp only [forall_const, eq_self, not_true_eq_false, not_false_eq_true, or_false, false_or, or_self, or_true, true_or, and_true, true_and, and_false, false_and, decide_true, decide_false, Bool.not_true, Bool.not_false, decide_eq_true_eq, decide_eq_false_iff_not, ite_and_p, ite_or_p, Bool.decide_eq_true, Bool.and_eq_true, Bool.or_eq_true, Bool.not_eq_true', Bool.not_eq_false', Bool.and_eq_false_imp, Bool.or_eq_false_iff, bne_iff_ne, beq_iff_eq, bne_eq_false_iff_eq, beq_eq_false_iff_ne, gt_iff_lt, ge_iff_le, Int.not_lt, Int.not_le, ne_eq, Bool.true_eq_false, Bool.false_eq_true, reduceCtorEq, eta_Airway, eta_Door, eta_Dusting, eta_Fan, eta_Mine, eta_Mode] at hb)
    | apply BackF.auto4
    | refine BackB.mk ?_ ?_
    | refine RetF.auto (And.intro rfl ?_)
    | exact Is.mk rfl rfl
    | refine Is.mk ?_ rfl
    | refine Is.mk rfl ?_
    | refine Is.mk ?_ ?_
  all_goals try dsimp only
  all_goals first
    | omega
    | exact ⟨by omega, by omega, by omega, by omega, hn, hs, by omega, by omega, ext_s (by omega)⟩
    | (rw [ext_0 (by omega)] <;> first | rfl | exact hs | (by_cases hq : b - 1 ≥ 0 <;> simp [hq] <;> omega))
    | (rw [ext_e h7 (by omega) h6 (by omega)] <;> first | rfl | exact h5)
    | (rw [ext_t h7 (by omega) h6 (by omega) e1 (by assumption)] <;> first | exact e2 | exact e4 | (rw [← e1]; exact Eq.symm (by assumption)))
    | (rw [ext_f h7 (by omega) h6 (by omega) e1 e2 (by assumption) (by omega)] <;> first | rfl | (have := e5 (by assumption); rw [h8]; exact this.2.1))
    | (have := e5 (by assumption); rw [h8]; omega)
    | (have q := e5 (by assumption); exact ⟨by omega, by omega, by omega, by omega, by omega, by rw [h8]; exact q.2.1, h8, h6, ext_n h7 (by omega) h6 (by omega) e1 e2 (by assumption) (by omega)⟩)
    | skip
theorem extC (L : List Int) (right : List Int → Bool) (f : Nat) (c1 c2 c3 : List PV) (hL : L.length ≤ 1000000) (hr : ∀ xs : List Int, xs.length ≤ L.length → (∀ x ∈ xs, x ∈ L) → FnSem Try.prog f [Lx (LI xs), .p .any (.ref c1), .p .any (.ref c2), .p .any (.ref c3)] [] (Is [Bo (right xs)] []))
    (m : Nat) : ∀ (k : Int), k = m → ∀ (i : Int) (b : Int) (s ys : List Int) (n : Nat), 0 ≤ i → i ≤ L.length → (0 ≤ b ∧ b ≤ 1000000) → n ≤ ys.length → ys.take n = s → (∀ x ∈ s, x ∈ L) → s.length + m ≤ L.length →
      FnSem Try.prog 209 [.own 0 0, In i, In k] [.fix [Lx (LI L), .p .any (.fn f [.ref c1, .ref c2, .ref c3]), In b, .osl 1 0 n], .row false .flat (eI 0) (ys.map eI)] (ExtR L (.fn f [.ref c1, .ref c2, .ref c3]) (ext L right m i.toNat b s)) := by
  induction m using Nat.strongRecOn with
  | _ m ih =>
    intro k hk
    subst hk
    exact ext1 L right f c1 c2 c3 hL hr m (fun m' k hk hm => ih m' hm k hk)
/-- the search by rising numbers of members -/
def fstL (L : List Int) (right : List Int → Bool) : Nat → Nat → Int → List Int × Int
  | 0, _, _ => ([], 3)
  | k + 1, n, b => if (ext L right n 0 b []).1 = true then ((ext L right n 0 b []).2.2, 0) else if (ext L right n 0 b []).2.1 < 0 then ([], 5) else fstL L right k (n + 1) (ext L right n 0 b []).2.1
def fstSet (L : List Int) (right : List Int → Bool) (b : Int) : List Int × Int := fstL L right (L.length + 1) 0 b
theorem fstL_s {L : List Int} {right : List Int → Bool} {k n : Nat} {b : Int} (h : 0 < k) : fstL L right k n b = if (ext L right n 0 b []).1 = true then ((ext L right n 0 b []).2.2, 0) else if (ext L right n 0 b []).2.1 < 0 then ([], 5) else fstL L right (k - 1) (n + 1) (ext L right n 0 b []).2.1 := by
  obtain ⟨k, rfl⟩ : ∃ j, k = j + 1 := ⟨k - 1, by omega⟩
  rfl
theorem fstL_0 {L : List Int} {right : List Int → Bool} {k n : Nat} {b : Int} (h : k = 0) : fstL L right k n b = ([], 3) := by subst h; rfl
/-- what the search hands back -/
inductive FstR (L : List Int) (fv : PV) (r : List Int × Int) (rs : List AV) (ho : List OB) : Prop
  | ok (n : Nat) (ys : List Int) (l : Int) (h1 : rs = [.osl 2 0 n, In 0]) (h2 : ho = [.fix [Lx (LI L), .p .any fv, In l, .osl 2 0 n], .dead, .row false .flat (eI 0) (ys.map eI)]) (h5 : n ≤ ys.length) (h6 : r = (ys.take n, 0))
  | no (c : Int) (n : Nat) (ys : List Int) (l : Int) (h1 : rs = [.osl 2 0 0, In c]) (h2 : ho = [.fix [Lx (LI L), .p .any fv, In l, .osl 3 0 n], .dead, Rw .flat (eI 0) [], .row false .flat (eI 0) (ys.map eI)]) (h6 : r = ([], c)) (h7 : c ≠ 0)
theorem ArgF.fst {L : List Int} {fv : PV} {r : List Int × Int} {n : Nat} {P : Program} {f : FuncId} {args : List AV} {hin : List OB} {K : List AV → List OB → Prop} (h : FnSem P f args hin (FstR L fv r))
    (hk : ∀ (n : Nat) (ys : List Int) (l : Int), n ≤ ys.length → r = (ys.take n, 0) → K [.osl 2 0 n, In 0] [.fix [Lx (LI L), .p .any fv, In l, .osl 2 0 n], .dead, .row false .flat (eI 0) (ys.map eI)])
    (hn : ∀ (c : Int) (n : Nat) (ys : List Int) (l : Int), r = ([], c) → c ≠ 0 → K [.osl 2 0 0, In c] [.fix [Lx (LI L), .p .any fv, In l, .osl 3 0 n], .dead, Rw .flat (eI 0) [], .row false .flat (eI 0) (ys.map eI)]) : ArgF n P f args hin K :=
  ⟨_, h, fun rs ho hR _ => by
    rcases hR with ⟨n, ys, l, rfl, rfl, h5, h6⟩ | ⟨c, n, ys, l, rfl, rfl, h6, h7⟩
    · exact hk n ys l h5 h6
    · exact hn c n ys l h6 h7⟩
theorem ext_emp {L : List Int} {right : List Int → Bool} {m n2 : Nat} {b l : Int} {ys : List Int} {b2 : Bool} (h0 : 0 ≤ b) (e1 : b2 = (ext L right m 0 b []).1) (e2 : l = (ext L right m 0 b []).2.1) (e3 : n2 ≤ ys.length) (e4 : ys.take n2 = (ext L right m 0 b []).2.2) (h : b2 = false) : n2 = 0 ∧ -1 ≤ l ∧ l ≤ b := by
  obtain ⟨p1, p2, p3⟩ := ext_p (L := L) (right := right) m 0 b [] h0
  rw [p3 (by rw [← e1]; exact h)] at e4
  have hl := congrArg List.length e4
  rw [List.length_take] at hl
  simp only [List.length_nil] at hl
  omega
section
variable {L : List Int} {right : List Int → Bool} {n2 : Nat} {b c l2 j : Int} {ys : List Int} {b2 : Bool} {x : List Int × Int}
theorem fst_t (h5 : x = fstL L right (L.length + 1 - j.toNat) j.toNat c) (h0 : 0 ≤ j) (hj : j < L.length + 1) (e1 : b2 = (ext L right j.toNat 0 c []).1) (e4 : ys.take n2 = (ext L right j.toNat 0 c []).2.2) (hb : b2 = true) : x = (ys.take n2, 0) := by
  rw [h5, fstL_s (by omega), if_pos (by rw [← e1]; exact hb), e4]
theorem fst_f (h5 : x = fstL L right (L.length + 1 - j.toNat) j.toNat c) (h0 : 0 ≤ j) (hj : j < L.length + 1) (e1 : b2 = (ext L right j.toNat 0 c []).1) (e2 : l2 = (ext L right j.toNat 0 c []).2.1) (hb : b2 = false) (hl : l2 < 0) : x = ([], 5) := by
  rw [h5, fstL_s (by omega), if_neg (by rw [← e1, hb]; decide), if_pos (by rw [← e2]; exact hl)]
theorem fst_n (h5 : x = fstL L right (L.length + 1 - j.toNat) j.toNat c) (h0 : 0 ≤ j) (hj : j < L.length + 1) (e1 : b2 = (ext L right j.toNat 0 c []).1) (e2 : l2 = (ext L right j.toNat 0 c []).2.1) (hb : b2 = false) (hl : ¬l2 < 0) : x = fstL L right (L.length + 1 - (j + 1).toNat) (j + 1).toNat l2 := by
  rw [h5, fstL_s (by omega), if_neg (by rw [← e1, hb]; decide), if_neg (by rw [← e2]; exact hl), ← e2, show (j + 1).toNat = j.toNat + 1 by omega]
  congr 1
theorem fst_e (h5 : x = fstL L right (L.length + 1 - j.toNat) j.toNat c) (h0 : 0 ≤ j) (hj : ¬j < L.length + 1) : x = ([], 3) := by
  rw [h5, fstL_0 (by omega)]
end
attribute [local irreducible] fstL
--@fn (*impl.setSearch).first
theorem fstC (L : List Int) (right : List Int → Bool) (f : Nat) (c1 c2 c3 : List PV) (b : Int) (hL : L.length ≤ 1000000) (hb0 : 0 ≤ b ∧ b ≤ 1000000) (hr : ∀ xs : List Int, xs.length ≤ L.length → (∀ x ∈ xs, x ∈ L) → FnSem Try.prog f [Lx (LI xs), .p .any (.ref c1), .p .any (.ref c2), .p .any (.ref c3)] [] (Is [Bo (right xs)] [])) :
    FnSem Try.prog 145 [.own 0 0] [.fix [Lx (LI L), .p .any (.fn f [.ref c1, .ref c2, .ref c3]), In b, .osl 1 0 0], .row false .flat (eI 0) (([] : List Int).map eI)] (FstR L (.fn f [.ref c1, .ref c2, .ref c3]) (fstSet L right b)) := by
  refine FnSem.walk (zs := zeroPV Try.prog) (by kernel_rfl) Try.func145 rfl Try.results145 (by kernel_rfl) (by kernel_rfl) (by kernel_rfl) fun hw hh => ?_
  obtain ⟨w0, _⟩ := hw
  first | replace w0 := wfr_SetSearch w0 | skip
  repeat' first
    | refine And.intro rfl ?_
    | refine GdF.mk (fun h => h) ?_
    | refine And.intro (Nat.succ_ne_zero _) ?_
    | refine And.intro (Nat.le_of_ble_eq_true rfl) ?_
    | refine SeqF.run ?_
    | refine GhF.at 0 rfl [.mv 1] ?_
    | refine CallF.own (f := 209) [0] false ?_
    | (refine ArgF.ext (extC L right f c1 c2 c3 hL hr j.toNat j (by omega) 0 c [] zs n' (by omega) (by omega) (by omega) (by omega) (by rw [h4]; rfl) (by simp) (by simp; omega)) ?_; intro n2 ys2 b2 l2 e1 e2 e3 e4; have e5 := ext_emp h2 e1 e2 e3 e4)
    | refine LoopF.at 2 rfl (LoopF.fix [0, 10] (Int × Int × Nat × List Int) (fun (j, c, n', zs) => 0 ≤ j ∧ j ≤ L.length + 1 ∧ 0 ≤ c ∧ c ≤ b ∧ n' = 0 ∧ fstSet L right b = fstL L right (L.length + 1 - j.toNat) j.toNat c) (fun (j, c, n', zs) => [(11, In j)]) (fun (j, c, n', zs) => [(0, .fix [Lx (LI L), .p .any (.fn f [.ref c1, .ref c2, .ref c3]), In c, .osl 2 0 n']), (2, .row false .flat (eI 0) (zs.map eI))]) (fun (j, c, n', zs) => ((L.length + 1 - j).toNat)) ((0, b, 0, [])) ?_)
    | (refine LoopB.of (T := Int × Int × Nat × List Int) ?_ ?_; rotate_left; rintro ⟨j, c, n', zs⟩ ⟨h0, h1, h2, h3, h4, h5⟩; rotate_left)
    | refine FstR.ok _ _ _ rfl rfl ?_ ?_
    | refine FstR.no _ _ _ _ rfl rfl ?_ ?_
    | refine GhF.go ?_
    | refine MkF.row ?_
    | refine BndF.mk (fun _ => by omega) ?_
    | refine BndF.mk (fun _ => by simp only [List.length_map, List.length_cons, List.length_nil, List.length_append, List.length_set, List.length_replicate, iotaI_len]; omega) ?_
    | refine EqI.mk _ (fun _ => wrapI (by omega) (by omega)) ?_
    | refine EqI.mk _ (fun _ => rfl) ?_
    | refine EqN.mk _ (ln eI) ?_
    | refine EqN.mk _ (Nat.zero_add _) ?_
    | refine EqN.mk _ (Int.toNat_natCast _) ?_
    | refine EqN.mk _ rfl ?_
    | refine EqL.mk _ (tk eI (by first | rfl | assumption | omega | (simp only [List.length_map, List.length_cons, List.length_nil, List.length_append, List.length_set, List.length_replicate, iotaI_len]; done) | (simp only [List.length_map, List.length_cons, List.length_nil, List.length_append, List.length_set, List.length_replicate, iotaI_len]; omega))) ?_
    | refine EqL.mk _ (dt eI) ?_
    | refine EqL.mk [] rfl ?_
    | refine EqL.mk [_] rfl ?_
    | refine EqL.mk _ rfl ?_
    | refine ArgF.is (c_impl_setSearch_extend ..) ?_
    | refine ArgQ.is (fun hG => c_impl_setSearch_extend ..) rfl rfl ?_
    | refine CallF.mk (CallW.is [] true rfl ?_)
    | refine CallG.mk ?_
    | (refine CondF.mk (fun hb => ?_) (fun hb => ?_) <;> try simp only [forall_const, eq_self, not_true_eq_false, not_false_eq_true, or_false, false_or, or_self, or_true, true_or, and_true, true_and, and_false, false_and, decide_true, decide_false, Bool.not_true, Bool.not_false, decide_eq_true_eq, decide_eq_false_iff_not, ite_and_p, ite_or_p, Bool.decide_eq_true, Bool.and_eq_true, Bool.or_eq_true, Bool.not_eq_true', Bool.not_eq_false', Bool.and_eq_false_imp, Bool.or_eq_false_iff, bne_iff_ne, beq_iff_eq, bne_eq_false_iff_eq, beq_eq_false_iff_ne, gt_iff_lt, ge_iff_le, Int.not_lt, Int.not_le, ne_eq, Bool.true_eq_false, Bool.false_eq_true, reduceCtorEq, eta_Airway, eta_Door, eta_Dusting, eta_Fan, eta_Mine, eta_Mode] at hb)
    | apply BackF.auto4
    | refine BackB.mk ?_ ?_
    | refine RetF.auto (And.intro rfl ?_)
    | exact Is.mk rfl rfl
    | refine Is.mk ?_ rfl
    | refine Is.mk rfl ?_
    | refine Is.mk ?_ ?_
  all_goals try dsimp only
  all_goals first
    | omega
    | exact ⟨by omega, by omega, by omega, by omega, rfl, by unfold fstSet; rfl⟩
    | exact fst_e h5 h0 (by omega)
    | exact fst_t h5 h0 (by omega) e1 e4 (by assumption)
    | exact fst_f h5 h0 (by omega) e1 e2 (by assumption) (by omega)
    | (have q := e5 (by assumption); exact ⟨by omega, by omega, by omega, by omega, q.1, fst_n h5 h0 (by omega) e1 e2 (by assumption) (by omega)⟩)
    | skip
end Go.Proofs.Ytnmfbdkiehickaa
