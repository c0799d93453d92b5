/- Contracts of functions of the program, and what they compute. Conditions: those that each theorem states. -/
import Derived.Test.YtpckcolkehgdaaaProg
import Derived.Test.YtpckcolkehgdaaaC3
import Derived.Test.YtpckcolkehgdaaaE2p
import Derived.Maps.Keyed
set_option linter.unusedVariables false
set_option linter.unusedSimpArgs false
namespace Go.Proofs.Ytpckcolkehgdaaa
open Go.Av
attribute [local irreducible] Go.IntKind.wrap bitI kpN hmN dfN flN bitsN okLk leastI updM arL
set_option maxRecDepth 20000
set_option maxHeartbeats 40000000

/-! Sets of doors: the search in breadth, as the program does it. -/
theorem osLaw : Go.Maps.Keyed Try.prog 130 := Go.Maps.int_keyed (q := .i64) (by kernel_rfl)
theorem osKey (n : Int) (h : -9223372036854775808 ≤ n ∧ n ≤ 9223372036854775807) : isKey Try.prog 130 (.int .i64 n) :=
  ⟨_, Go.Maps.keyOf_int_mk (q := .i64) (by kernel_rfl) (by
    have e1 : IntKind.i64.wrap n = n := wrapI (by omega) (by omega)
    have cm : IntKind.i64.min = -9223372036854775808 := by rfl
    have cx : IntKind.i64.max = 9223372036854775807 := by rfl
    simp [Lit.wf, e1, cm, cx]; omega)⟩
abbrev osIs : Value → Prop := isKey Try.prog 130
def moF (F : Int → Option Int) : Value → Option Int
  | .int .i64 n => F n
  | _ => none
theorem moF_at {F : Int → Option Int} {n : Int} : moF F (.int .i64 n) = F n := rfl
def uoF (F : Int → Option Int) (x d : Int) : Int → Option Int := fun v => if v = x then some d else F v
theorem moF_upd {F : Int → Option Int} {x d : Int} : updM (moF F) (.int .i64 x) d = moF (uoF F x d) := by
  funext v
  by_cases h : v = .int .i64 x
  · subst h
    rw [updM_eq, moF_at]
    unfold uoF
    rw [if_pos rfl]
  · rw [updM_ne _ _ h]
    unfold moF
    split
    · unfold uoF
      rw [if_neg]
      rintro rfl; exact h rfl
    · rfl
theorem moF_0 {to : Int} : updM (fun _ => none) (.int .i64 to) 0 = moF (uoF (fun _ => none) to 0) := by
  have := moF_upd (F := fun _ => none) (x := to) (d := 0)
  rwa [show moF (fun _ => none) = fun _ => none by funext v; unfold moF; split <;> rfl] at this
/-- the map holds how far all of A lie from g -/
def frN (n g : Nat) (A : List Nat) (F : Int → Option Int) : Prop := ∀ v : Int, F v = if 0 ≤ v ∧ v.toNat ∈ A then some ((hmN n v.toNat g : Nat) : Int) else none
theorem frN_0 {n g : Nat} : frN n g [g] (uoF (fun _ => none) (g : Int) 0) := fun v => by
  unfold uoF
  by_cases e : v = (g : Int)
  · subst e
    rw [if_pos rfl, if_pos ⟨by omega, by simp⟩]
    rw [show ((g : Int)).toNat = g by omega, hmN_self]; rfl
  · rw [if_neg e, if_neg]
    rintro ⟨h1, h2⟩
    exact e (by have := List.mem_singleton.1 h2; omega)
theorem frN_add {n g : Nat} {A : List Nat} {F : Int → Option Int} (h : frN n g A F) {s : Nat} {d : Int} (hd : d = ((hmN n s g : Nat) : Int)) : frN n g (A ++ [s]) (uoF F (s : Int) d) := fun v => by
  unfold uoF
  by_cases e : v = (s : Int)
  · subst e
    rw [if_pos rfl, if_pos ⟨by omega, by simp⟩, hd]
    rw [show ((s : Int)).toNat = s by omega]
  · rw [if_neg e, h v]
    by_cases c : 0 ≤ v ∧ v.toNat ∈ A
    · rw [if_pos c, if_pos ⟨c.1, List.mem_append_left _ c.2⟩]
    · rw [if_neg c, if_neg]
      rintro ⟨h1, h2⟩
      rcases List.mem_append.1 h2 with h2 | h2
      · exact c ⟨h1, h2⟩
      · exact e (by have := List.mem_singleton.1 h2; omega)
theorem frN_in {n g s : Nat} {A : List Nat} {F : Int → Option Int} (h : frN n g A F) (hs : s ∈ A) : F (s : Int) = some ((hmN n s g : Nat) : Int) := by
  rw [h, if_pos ⟨by omega, by rwa [show ((s : Int)).toNat = s by omega]⟩, show ((s : Int)).toNat = s by omega]
theorem frN_is {n g s : Nat} {A : List Nat} {F : Int → Option Int} (h : frN n g A F) : (F (s : Int)).isSome = decide (s ∈ A) := by
  rw [h, show ((s : Int)).toNat = s by omega]
  by_cases e : s ∈ A
  · rw [if_pos ⟨by omega, e⟩, decide_eq_true e]; rfl
  · rw [if_neg (fun q => e q.2), decide_eq_false e]; rfl
/-- all sets of doors that keep the locks are in the map -/
structure fullN (ls : List (List Int)) (n g : Nat) (F : Int → Option Int) : Prop where
  at_ : ∀ s : Nat, s < 2 ^ n → kpN ls s = true → F (s : Int) = some ((hmN n s g : Nat) : Int)
theorem fullN_of {ls : List (List Int)} {n g : Nat} {A : List Nat} {F : Int → Option Int} (h : bfN ls n g A A.length) (hF : frN n g A F) (hg : g < 2 ^ n) (kg : kpN ls g = true) : fullN ls n g F := ⟨fun s h1 h2 => frN_in hF (bfN_all h hg kg h1 h2)⟩
/-- the door leads nearer -/
theorem dn_at {ls : List (List Int)} {n g s i : Nat} {F : Int → Option Int} (h : fullN ls n g F) (hi : i < n) (hs : s < 2 ^ n) (ks : kpN ls s = true) : (kpN ls (flN s i) && decide ((F ((flN s i : Nat) : Int)).getD 0 = (F (s : Int)).getD 0 - 1)) = dnP ls n s g i := by
  unfold dnP
  cases e : kpN ls (flN s i) with
  | false => rfl
  | true =>
    rw [Bool.true_and, Bool.true_and, h.at_ s hs ks, h.at_ _ (flN_lt hs hi) e]
    simp only [Option.getD_some]
    cases e2 : dfN s g i with
    | true => have := hmN_dn hi e2; exact decide_eq_true (by omega)
    | false => have := hmN_up hi e2; exact decide_eq_false (by omega)
--@fn (impl.openSet).locked
theorem lockX (x : Int) (s : Nat) (ls : List (List Int)) (hx : x = (s : Int)) (hl : ∀ l ∈ ls, l.length = 2 ∧ (0 ≤ l.getD 0 0 ∧ l.getD 0 0 < 10) ∧ 0 ≤ l.getD 1 0 ∧ l.getD 1 0 < 10) (hs : s < 1024) : FnSem Try.prog 121 [In x, Lx (LLI ls)] [] (Is [Bo (kpN ls s)] []) := by
  subst hx; exact c_impl_openSet_locked s ls hl hs
--@fn impl.FewestMoves$1
theorem fewM1 (i : Int) (ls : List (List Int)) (n g s : Nat) (F : Int → Option Int) (hF : fullN ls n g F) (hi : 0 ≤ i ∧ i < n) (hn : n ≤ 8) (hs : s < 2 ^ n) (ks : kpN ls s = true) (hl : ∀ l ∈ ls, l.length = 2 ∧ (0 ≤ l.getD 0 0 ∧ l.getD 0 0 < 10) ∧ 0 ≤ l.getD 1 0 ∧ l.getD 1 0 < 10) :
    FnSem Try.prog 123 [In i, .own 0 0, .own 1 0, .own 2 0] [.fix [In (s : Int)], .fix [Lx (LLI ls)], .fix [.amap 3], .mp false osIs (moF F)] (Is [Bo (dnP ls n s g i.toNat)] [.fix [In (s : Int)], .fix [Lx (LLI ls)], .fix [.amap 3], .mp false osIs (moF F)]) := by
  have hp := pow_le8 hn
  have hx := flN_lt hs (show i.toNat < n by omega)
  have e1 : bitI .xor .i64 (s : Int) ((2 ^ i.toNat : Nat) : Int) = ((flN s i.toNat : Nat) : Int) := by
    have := p2_lt (i := i.toNat) (by omega)
    rw [bx_xor s _ (by omega) this]; unfold flN; rfl
  have hw : IntKind.i64.wrap ((F (s : Int)).getD 0 - 1) = (F (s : Int)).getD 0 - 1 := by
    have := hmN_le (n := n) (s := s) (g := g)
    rw [hF.at_ s hs ks]
    exact wrapI (by simp only [Option.getD_some]; omega) (by simp only [Option.getD_some]; omega)
  refine FnSem.walk (zs := zeroPV Try.prog) (by kernel_rfl) Try.func123 rfl Try.results123 (by kernel_rfl) (by kernel_rfl) (by kernel_rfl) fun hw hh => ?_
  obtain ⟨w0, w1, w2, w3, _⟩ := hw
  first | replace w0 := wf_I w0 | skip
  first | replace w1 := wf_I w1 | replace w1 := wf_Y w1 | replace w1 := wf_S w1 | replace w1 := wf_LI w1 | replace w1 := wf_LY w1 | replace w1 := wf_LLI w1 | replace w1 := wf_Ls w1 | skip
  first | replace w2 := wf_I w2 | replace w2 := wf_Y w2 | replace w2 := wf_S w2 | replace w2 := wf_LI w2 | replace w2 := wf_LY w2 | replace w2 := wf_LLI w2 | replace w2 := wf_Ls w2 | skip
  first | replace w3 := wf_I w3 | replace w3 := wf_Y w3 | replace w3 := wf_S w3 | replace w3 := wf_LI w3 | replace w3 := wf_LY w3 | replace w3 := wf_LLI w3 | replace w3 := wf_Ls w3 | skip
  repeat' first
    | refine And.intro rfl ?_
    | refine GdF.mk (fun h => h) ?_
    | refine And.intro (Nat.succ_ne_zero _) ?_
    | refine And.intro (Nat.le_of_ble_eq_true rfl) ?_
    | refine SeqF.run ?_
    | refine EqI.mk _ (fun _ => shl1 (by omega)) ?_
    | refine KeyF.mk osLaw rfl (fun _ => osKey _ (by first | omega | (rw [e1]; omega))) ?_
    | refine EqO.mk _ moF_at ?_
    | refine ArgF.is (lockX _ (flN s i.toNat) ls e1 hl (by omega)) ?_
    | refine ArgQ.is (fun hG => lockX _ (flN s i.toNat) ls e1 hl (by omega)) rfl rfl ?_
    | refine GhF.go ?_
    | refine GdS.keep ?_
    | refine DrawG.old (DrawF.lex (by decide +kernel) ?_)
    | refine BndF.mk (fun _ => by omega) ?_
    | refine BndF.mk (fun _ => by simp only [List.length_map, List.length_cons, List.length_nil, List.length_append, List.length_set, List.length_replicate, iotaI_len]; omega) ?_
    | refine BndF.mk (fun hG => by simp only [forall_const, eq_self, not_true_eq_false, not_false_eq_true, or_false, false_or, or_self, or_true, true_or, and_true, true_and, and_false, false_and, decide_true, decide_false, Bool.not_true, Bool.not_false, decide_eq_true_eq, decide_eq_false_iff_not, ite_and_p, ite_or_p, Bool.decide_eq_true, Bool.and_eq_true, Bool.or_eq_true, Bool.not_eq_true', Bool.not_eq_false', Bool.and_eq_false_imp, Bool.or_eq_false_iff, bne_iff_ne, beq_iff_eq, bne_eq_false_iff_eq, beq_eq_false_iff_ne, gt_iff_lt, ge_iff_le, Int.not_lt, Int.not_le, ne_eq, Bool.true_eq_false, Bool.false_eq_true, reduceCtorEq, eta_Airway, eta_Fan, eta_Mine, bytes_nil] at hG; (try simp only [List.length_map]); omega) ?_
    | refine EqI.mk _ (fun _ => wrapI (by omega) (by omega)) ?_
    | refine EqI.mk _ (fun _ => rfl) ?_
    | refine EqL.mk _ (tk eLI (by first | rfl | assumption | omega | (simp only [List.length_map, List.length_cons, List.length_nil, List.length_append, List.length_set, List.length_replicate, iotaI_len]; done) | (simp only [List.length_map, List.length_cons, List.length_nil, List.length_append, List.length_set, List.length_replicate, iotaI_len]; omega))) ?_
    | refine EqL.mk [] rfl ?_
    | refine EqL.mk [_] rfl ?_
    | refine EqL.mk _ rfl ?_
    | refine ArgF.is (c_impl_openSet_locked _ _ (by first | assumption | omega) (by first | assumption | omega)) ?_
    | refine ArgQ.is (fun hG => c_impl_openSet_locked _ _ (by first | assumption | omega) (by first | assumption | omega)) rfl rfl ?_
    | refine ArgQ.is (fun hG => c_impl_openSet_locked _ _ (by simp only [forall_const, eq_self, not_true_eq_false, not_false_eq_true, or_false, false_or, or_self, or_true, true_or, and_true, true_and, and_false, false_and, decide_true, decide_false, Bool.not_true, Bool.not_false, decide_eq_true_eq, decide_eq_false_iff_not, ite_and_p, ite_or_p, Bool.decide_eq_true, Bool.and_eq_true, Bool.or_eq_true, Bool.not_eq_true', Bool.not_eq_false', Bool.and_eq_false_imp, Bool.or_eq_false_iff, bne_iff_ne, beq_iff_eq, bne_eq_false_iff_eq, beq_eq_false_iff_ne, gt_iff_lt, ge_iff_le, Int.not_lt, Int.not_le, ne_eq, Bool.true_eq_false, Bool.false_eq_true, reduceCtorEq, eta_Airway, eta_Fan, eta_Mine, bytes_nil] at hG; omega) (by simp only [forall_const, eq_self, not_true_eq_false, not_false_eq_true, or_false, false_or, or_self, or_true, true_or, and_true, true_and, and_false, false_and, decide_true, decide_false, Bool.not_true, Bool.not_false, decide_eq_true_eq, decide_eq_false_iff_not, ite_and_p, ite_or_p, Bool.decide_eq_true, Bool.and_eq_true, Bool.or_eq_true, Bool.not_eq_true', Bool.not_eq_false', Bool.and_eq_false_imp, Bool.or_eq_false_iff, bne_iff_ne, beq_iff_eq, bne_eq_false_iff_eq, beq_eq_false_iff_ne, gt_iff_lt, ge_iff_le, Int.not_lt, Int.not_le, ne_eq, Bool.true_eq_false, Bool.false_eq_true, reduceCtorEq, eta_Airway, eta_Fan, eta_Mine, bytes_nil] at hG; omega)) rfl rfl ?_
    | refine CallF.mk (CallW.is [] true rfl ?_)
    | refine CallG.mk ?_
    | (refine CondF.mk (fun hb => ?_) (fun hb => ?_) <;> try simp only [forall_const, eq_self, not_true_eq_false, not_false_eq_true, or_false, false_or, or_self, or_true, true_or, and_true, true_and, and_false, false_and, decide_true, decide_false, Bool.not_true, Bool.not_false, decide_eq_true_eq, decide_eq_false_iff_not, ite_and_p, ite_or_p, Bool.decide_eq_true, Bool.and_eq_true, Bool.or_eq_true, Bool.not_eq_true', Bool.not_eq_false', Bool.and_eq_false_imp, Bool.or_eq_false_iff, bne_iff_ne, beq_iff_eq, bne_eq_false_iff_eq, beq_eq_false_iff_ne, gt_iff_lt, ge_iff_le, Int.not_lt, Int.not_le, ne_eq, Bool.true_eq_false, Bool.false_eq_true, reduceCtorEq, eta_Airway, eta_Fan, eta_Mine] at hb)
    | refine RetF.auto (And.intro rfl ?_)
    | exact Is.mk rfl rfl
    | refine Is.mk ?_ rfl
    | refine Is.mk rfl ?_
    | refine Is.mk ?_ ?_
  all_goals (rw [e1, hw, ← dn_at hF (show i.toNat < n by omega) hs ks]; cases kpN ls (flN s i.toNat) <;> rfl)
/-- the least door that leads nearer -/
def lsN (ls : List (List Int)) (n g s : Nat) : Int := leastI (fun i => dnP ls n s g i.toNat) 0 ((n : Int) - 1)
theorem lsN_nx {ls : List (List Int)} {n g s : Nat} (hs : s < 2 ^ n) (hg : g < 2 ^ n) (ks : kpN ls s = true) (kg : kpN ls g = true) (h : ¬s = g) : lsN ls n g s = (nxN ls n s g : Nat) ∧ nxN ls n s g < n := by
  obtain ⟨h1, h2, h3⟩ := nxN_p hs hg ks kg h
  refine ⟨?_, h1⟩
  unfold lsN
  exact leastI_at (by omega) (by omega) (by simpa using h2) fun m a b => h3 m.toNat (by omega)
abbrev blN (ls : List (List Int)) (s : Nat) (F : Int → Option Int) : List OB := [.fix [In (s : Int)], .fix [Lx (LLI ls)], .fix [.amap 3], .mp false osIs (moF F)]
--@fn impl.least
theorem leastM (f : Nat) (ls : List (List Int)) (n g s : Nat) (F : Int → Option Int) (hf : ∀ i : Int, 0 ≤ i → i < n → FnSem Try.prog f [In i, .own 0 0, .own 1 0, .own 2 0] (blN ls s F) (Is [Bo (dnP ls n s g i.toNat)] (blN ls s F))) (hs : s < 2 ^ n) (hg : g < 2 ^ n) (ks : kpN ls s = true) (kg : kpN ls g = true) (h : ¬s = g) (hn : n ≤ 8) :
    FnSem Try.prog 122 [In 0, In ((n : Int) - 1), .afn f [.own 0 0, .own 1 0, .own 2 0]] (blN ls s F) (Is [In ((nxN ls n s g : Nat) : Int), Bo true] (blN ls s F)) := by
  obtain ⟨h1, h2, h3⟩ := nxN_p hs hg ks kg h
  refine FnSem.walk (zs := zeroPV Try.prog) (by kernel_rfl) Try.func122 rfl Try.results122 (by kernel_rfl) (by kernel_rfl) (by kernel_rfl) fun hw hh => ?_
  obtain ⟨w0, w1, w2, _⟩ := hw
  first | replace w0 := wf_I w0 | skip
  first | replace w1 := wf_I w1 | skip
  repeat' first
    | refine And.intro rfl ?_
    | refine GdF.mk (fun h => h) ?_
    | refine And.intro (Nat.succ_ne_zero _) ?_
    | refine And.intro (Nat.le_of_ble_eq_true rfl) ?_
    | refine SeqF.run ?_
    | refine CallF.mk (f := f) (CallW.is [0, 1, 2, 3] false rfl ?_)
    | refine ArgF.is (hf i (by omega) (by omega)) ?_
    | refine ArgQ.is (fun hG => hf i (by omega) (by omega)) rfl rfl ?_
    | refine LoopF.at 2 rfl (LoopF.fix [1, 2] (Int × Unit) (fun (i, _) => 0 ≤ i ∧ i ≤ nxN ls n s g) (fun (i, _) => [(8, In i)]) (fun (i, _) => []) (fun (i, _) => ((n - i).toNat)) ((0, ())) ?_)
    | (refine LoopB.of (T := Int × Unit) ?_ ?_; rotate_left; rintro ⟨i, _⟩ ⟨i0, i1⟩; rotate_left)
    | refine GhF.go ?_
    | refine EqI.mk _ (fun _ => wrapI (by omega) (by omega)) ?_
    | refine EqI.mk _ (fun _ => rfl) ?_
    | refine CallF.mk (CallW.is [] true rfl ?_)
    | refine CallG.mk ?_
    | (refine CondF.mk (fun hb => ?_) (fun hb => ?_) <;> try simp only [forall_const, eq_self, not_true_eq_false, not_false_eq_true, or_false, false_or, or_self, or_true, true_or, and_true, true_and, and_false, false_and, decide_true, decide_false, Bool.not_true, Bool.not_false, decide_eq_true_eq, decide_eq_false_iff_not, ite_and_p, ite_or_p, Bool.decide_eq_true, Bool.and_eq_true, Bool.or_eq_true, Bool.not_eq_true', Bool.not_eq_false', Bool.and_eq_false_imp, Bool.or_eq_false_iff, bne_iff_ne, beq_iff_eq, bne_eq_false_iff_eq, beq_eq_false_iff_ne, gt_iff_lt, ge_iff_le, Int.not_lt, Int.not_le, ne_eq, Bool.true_eq_false, Bool.false_eq_true, reduceCtorEq, eta_Airway, eta_Fan, eta_Mine] at hb)
    | apply BackF.auto2
    | refine BackB.mk ?_ ?_
    | refine RetF.auto (And.intro rfl ?_)
    | exact Is.mk rfl rfl
    | refine Is.mk ?_ rfl
    | refine Is.mk rfl ?_
    | refine Is.mk ?_ ?_
  all_goals try dsimp only
  all_goals first
    | omega
    | exact ⟨by omega, by omega⟩
    | (have e : ¬i.toNat < nxN ls n s g := fun q => by rw [h3 _ q] at hb; cases hb
       rw [show i = ((nxN ls n s g : Nat) : Int) by omega]; rfl)
    | (have e : ¬i.toNat = nxN ls n s g := fun q => by rw [q, h2] at hb; cases hb
       exact ⟨by omega, by omega⟩)
    | (exfalso; omega)
end Go.Proofs.Ytpckcolkehgdaaa
