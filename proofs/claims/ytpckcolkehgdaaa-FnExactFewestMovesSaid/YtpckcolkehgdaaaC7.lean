/- Contracts of functions of the program, and what they compute. Conditions: those that each theorem states. -/
import Derived.Test.YtpckcolkehgdaaaProg
import Derived.Test.YtpckcolkehgdaaaC4
import Derived.Test.YtpckcolkehgdaaaC6
set_option linter.unusedVariables false
set_option linter.unusedSimpArgs false
namespace Go.Proofs.Ytpckcolkehgdaaa
open Go.Av
attribute [local irreducible] Go.IntKind.wrap bitI kpN hmN dfN flN bitsN okLk leastI updM arL nxN mvN stsN kpS
set_option maxRecDepth 20000
set_option maxHeartbeats 40000000

/-! Sets of doors: the fewest moves, as the reference finds them. -/
/-- what the reference's table holds behind so many steps -/
def fsV (ls : List (List Int)) (n g : Nat) (b : Int) (s : Nat) : Int := if kpN ls s = true ∧ ((hmN n s g : Nat) : Int) ≤ b then ((hmN n s g : Nat) : Int) else -1
structure fsT (ls : List (List Int)) (n g : Nat) (b : Int) (xs : List Int) : Prop where
  ln : xs.length = 2 ^ n
  at_ : ∀ s : Nat, s < 2 ^ n → xs.getD s 0 = fsV ls n g b s
/-- within a step: some of those one farther are in -/
structure fsM (ls : List (List Int)) (n g : Nat) (b : Int) (xs : List Int) : Prop where
  ln : xs.length = 2 ^ n
  at_ : ∀ s : Nat, s < 2 ^ n → xs.getD s 0 = fsV ls n g b s ∨ (kpN ls s = true ∧ ((hmN n s g : Nat) : Int) = b + 1 ∧ xs.getD s 0 = b + 1)
/-- all doors below j of t have been tried -/
def fsQ (ls : List (List Int)) (n g : Nat) (b : Int) (xs : List Int) (t : Nat) (j : Int) : Prop := ∀ i : Nat, (i : Int) < j → i < n → kpN ls (flN t i) = true → ((hmN n (flN t i) g : Nat) : Int) = b + 1 → xs.getD (flN t i) 0 = b + 1
def fsC (ls : List (List Int)) (n g : Nat) (b : Int) (xs : List Int) (c : Int) : Prop := ∀ t : Nat, (t : Int) < c → t < 2 ^ n → kpN ls t = true → ((hmN n t g : Nat) : Int) = b → fsQ ls n g b xs t n
section
variable {ls : List (List Int)} {n g s : Nat} {b c j v : Int} {xs : List Int}
theorem fsV_y (h : kpN ls s = true) (h2 : ((hmN n s g : Nat) : Int) ≤ b) : fsV ls n g b s = ((hmN n s g : Nat) : Int) := by unfold fsV; rw [if_pos ⟨h, h2⟩]
theorem fsV_n (h : ¬(kpN ls s = true ∧ ((hmN n s g : Nat) : Int) ≤ b)) : fsV ls n g b s = -1 := by unfold fsV; rw [if_neg h]
theorem fsT_0 (hg : g < 2 ^ n) (kg : kpN ls g = true) (h : xs = List.replicate (2 ^ n) (-1)) : fsT ls n g 0 (xs.set g 0) := by
  subst h
  refine ⟨by simp, fun s hs => ?_⟩
  rw [List.getD_eq_getElem?_getD, List.getElem?_set]
  by_cases e : g = s
  · subst e
    rw [if_pos rfl, if_pos (by simpa using hg), fsV_y kg (by rw [hmN_self]; exact Int.le_refl _), hmN_self]; rfl
  · rw [if_neg e, List.getElem?_replicate, if_pos hs, fsV_n]
    · rfl
    · rintro ⟨_, h2⟩
      exact e (hmN_0 (show hmN n s g = 0 by omega) hs hg).symm
theorem fsM_T (h : fsT ls n g b xs) : fsM ls n g b xs := ⟨h.ln, fun s hs => .inl (h.at_ s hs)⟩
theorem fsC_0 : fsC ls n g b xs 0 := fun t ht => absurd ht (by omega)
theorem fsQ_0 {t : Nat} : fsQ ls n g b xs t 0 := fun i hi => absurd hi (by omega)
/-- one not at the step's distance -/
theorem fsC_k (hb : 0 ≤ b) (hM : fsM ls n g b xs) (hC : fsC ls n g b xs c) (h0 : 0 ≤ c) (hv : ¬xs.getD c.toNat 0 = b) : fsC ls n g b xs (c + 1) := fun t ht h1 h2 h3 => by
  by_cases e : (t : Int) = c
  · exfalso
    rw [show c.toNat = t by omega] at hv
    rcases hM.at_ t h1 with q | q
    · rw [q, fsV_y h2 (by omega)] at hv; exact hv h3
    · omega
  · exact hC t (by omega) h1 h2 h3
/-- one at the step's distance -/
theorem fs_hit (hb : 0 ≤ b) (hM : fsM ls n g b xs) (h0 : 0 ≤ c) (hc : c.toNat < 2 ^ n) (hv : xs.getD c.toNat 0 = b) : kpN ls c.toNat = true ∧ ((hmN n c.toNat g : Nat) : Int) = b := by
  rcases hM.at_ c.toNat hc with q | q
  · rw [q] at hv
    by_cases h : kpN ls c.toNat = true ∧ ((hmN n c.toNat g : Nat) : Int) ≤ b
    · rw [fsV_y h.1 h.2] at hv; exact ⟨h.1, hv⟩
    · rw [fsV_n h] at hv; omega
  · omega
theorem fsC_s (hC : fsC ls n g b xs c) (h0 : 0 ≤ c) (hj : (n : Int) ≤ j) (hQ : fsQ ls n g b xs c.toNat j) : fsC ls n g b xs (c + 1) := fun t ht h1 h2 h3 => by
  by_cases e : (t : Int) = c
  · intro i hi h4 h5 h6
    rw [show t = c.toNat by omega] at h5 h6 ⊢
    exact hQ i (by omega) h4 h5 h6
  · exact hC t (by omega) h1 h2 h3
theorem gdSetO {p : List Int} {k j : Nat} {x : Int} (h : k < p.length) : (p.set k x).getD j 0 = if k = j then x else p.getD j 0 := by
  rw [List.getD_eq_getElem?_getD, List.getD_eq_getElem?_getD, List.getElem?_set]
  by_cases e : k = j
  · subst e
    rw [if_pos rfl, if_pos h, if_pos rfl]; rfl
  · rw [if_neg e, if_neg e]
/-- a new one is put in -/
theorem fs_put (hb : 0 ≤ b) (hM : fsM ls n g b xs) (hC : fsC ls n g b xs c) (h0 : 0 ≤ c) (hc : c.toNat < 2 ^ n) (hj0 : 0 ≤ j) (hj : j < n) (hk : kpN ls c.toNat = true) (hh : ((hmN n c.toNat g : Nat) : Int) = b) (hQ : fsQ ls n g b xs c.toNat j)
    (hx : xs.getD (flN c.toNat j.toNat) 0 < 0) (hkp : kpN ls (flN c.toNat j.toNat) = true) :
    fsM ls n g b (xs.set (flN c.toNat j.toNat) (b + 1)) ∧ fsC ls n g b (xs.set (flN c.toNat j.toNat) (b + 1)) c ∧ fsQ ls n g b (xs.set (flN c.toNat j.toNat) (b + 1)) c.toNat (j + 1) := by
  have hl := flN_lt hc (show j.toNat < n by omega)
  have hx2 : flN c.toNat j.toNat < xs.length := by rw [hM.ln]; exact hl
  have hm : ((hmN n (flN c.toNat j.toNat) g : Nat) : Int) = b + 1 := by
    rcases hM.at_ _ hl with q | q
    · cases e : dfN c.toNat g j.toNat with
      | true =>
        exfalso
        have := hmN_dn (show j.toNat < n by omega) e
        rw [q, fsV_y hkp (by omega)] at hx; omega
      | false => have := hmN_up (show j.toNat < n by omega) e; omega
    · exact q.2.1
  have keep : ∀ s : Nat, xs.getD s 0 = b + 1 → (xs.set (flN c.toNat j.toNat) (b + 1)).getD s 0 = b + 1 := fun s hs => by rw [gdSetO hx2]; split; rfl; exact hs
  refine ⟨⟨by rw [List.length_set]; exact hM.ln, fun s hs => ?_⟩, fun t ht h1 h2 h3 i hi h4 h5 h6 => keep _ (hC t ht h1 h2 h3 i hi h4 h5 h6), fun i hi h4 h5 h6 => ?_⟩
  · rw [gdSetO hx2]
    by_cases e : flN c.toNat j.toNat = s
    · subst e; right; exact ⟨hkp, hm, by rw [if_pos rfl]⟩
    · rw [if_neg e]; exact hM.at_ s hs
  · by_cases e : (i : Int) = j
    · rw [gdSetO hx2, if_pos (by rw [show j.toNat = i by omega])]
    · exact keep _ (hQ i (by omega) h4 h5 h6)
theorem fs_not (hb : 0 ≤ b) (hM : fsM ls n g b xs) (hc : c.toNat < 2 ^ n) (hj0 : 0 ≤ j) (hj : j < n) (hQ : fsQ ls n g b xs c.toNat j) (hx : xs.getD (flN c.toNat j.toNat) 0 < 0 → kpN ls (flN c.toNat j.toNat) = false) : fsQ ls n g b xs c.toNat (j + 1) := fun i hi h4 h5 h6 => by
  by_cases e : (i : Int) = j
  · rw [show i = j.toNat by omega] at h5 h6 ⊢
    rcases hM.at_ _ (flN_lt hc (show j.toNat < n by omega)) with q | q
    · rw [q, fsV_n (by omega)] at hx
      rw [hx (by omega)] at h5; cases h5
    · exact q.2.2
  · exact hQ i (by omega) h4 h5 h6
theorem fsT_s (hb : 0 ≤ b) (hg : g < 2 ^ n) (kg : kpN ls g = true) (hM : fsM ls n g b xs) (hC : fsC ls n g b xs c) (hc : ((2 ^ n : Nat) : Int) ≤ c) : fsT ls n g (b + 1) xs := by
  refine ⟨hM.ln, fun s hs => ?_⟩
  rcases hM.at_ s hs with q | q
  · by_cases h : kpN ls s = true ∧ ((hmN n s g : Nat) : Int) ≤ b
    · rw [q, fsV_y h.1 h.2, fsV_y h.1 (by omega)]
    · by_cases h2 : kpN ls s = true ∧ ((hmN n s g : Nat) : Int) = b + 1
      · exfalso
        obtain ⟨i, hi, h3, h4⟩ := hmN_step (d := b.toNat) hs hg h2.1 kg (by omega)
        have h5 := hmN_dn hi h3
        have h6 := flN_lt hs hi
        have back : flN (flN s i) i = s := by
          apply Nat.eq_of_testBit_eq
          intro j
          rw [flN_at, flN_at]
          by_cases e : i = j
          · rw [if_pos e, if_pos e]; simp
          · rw [if_neg e, if_neg e]
        have := hC (flN s i) (by omega) h6 h4 (by omega) i (by omega) hi (by rw [back]; exact h2.1) (by rw [back]; exact h2.2)
        rw [back, q, fsV_n h] at this; omega
      · rw [q, fsV_n h, fsV_n (fun e => by
          by_cases e2 : ((hmN n s g : Nat) : Int) = b + 1
          · exact h2 ⟨e.1, e2⟩
          · exact h ⟨e.1, by omega⟩)]
  · rw [q.2.2, fsV_y q.1 (by omega)]; omega
/-- all steps done -/
theorem fs_end (h : fsT ls n g b xs) (hb : ((2 ^ n : Nat) : Int) ≤ b) (hs : s < 2 ^ n) : xs.getD s 0 = if kpN ls s = true then ((hmN n s g : Nat) : Int) else -1 := by
  have h1 : n < 2 ^ n := Nat.lt_two_pow_self
  have h2 := hmN_le (n := n) (s := s) (g := g)
  rw [h.at_ s hs]
  unfold fsV
  by_cases e : kpN ls s = true
  · rw [if_pos ⟨e, by omega⟩, if_pos e]
  · rw [if_neg (fun q => e q.1), if_neg e]
end
section
variable {ls : List (List Int)} {n g s : Nat} {xs : List Int}
/-- the table when all steps are done -/
def fsE (ls : List (List Int)) (n g : Nat) (xs : List Int) : Prop := xs.length = 2 ^ n ∧ ∀ s : Nat, s < 2 ^ n → xs.getD s 0 = if kpN ls s = true then ((hmN n s g : Nat) : Int) else -1
theorem fsE_of {b : Int} (h : fsT ls n g b xs) (hb : ((2 ^ n : Nat) : Int) ≤ b) : fsE ls n g xs := ⟨h.ln, fun _ hs => fs_end h hb hs⟩
theorem fsE_y (h : fsE ls n g xs) (hs : s < 2 ^ n) (ks : kpN ls s = true) : xs.getD s 0 = ((hmN n s g : Nat) : Int) := by rw [h.2 s hs, if_pos ks]
theorem fsE_b (h : fsE ls n g xs) (hs : s < 2 ^ n) (ks : kpN ls s = true) (hn : n ≤ 8) : 0 ≤ xs.getD s 0 ∧ xs.getD s 0 ≤ 8 := by
  have := hmN_le (n := n) (s := s) (g := g)
  rw [fsE_y h hs ks]; omega
theorem fsE_p (h : fsE ls n g xs) (hs : s < 2 ^ n) (ks : kpN ls s = true) (hp : 0 < xs.getD s 0) : ¬s = g := fun e => by
  rw [fsE_y h hs ks, e, hmN_self] at hp; omega
theorem fsE_z (h : fsE ls n g xs) (hs : s < 2 ^ n) (hg : g < 2 ^ n) (ks : kpN ls s = true) (hp : xs.getD s 0 ≤ 0) : s = g := by
  rw [fsE_y h hs ks] at hp; exact hmN_0 (by omega) hs hg
theorem fsE_d {i : Nat} (h : fsE ls n g xs) (hs : s < 2 ^ n) (hg : g < 2 ^ n) (ks : kpN ls s = true) (hne : ¬s = g) (hi : i < n) : decide (xs.getD (flN s i) 0 = xs.getD s 0 - 1) = dnP ls n s g i := by
  have h0 : ¬hmN n s g = 0 := fun e => hne (hmN_0 e hs hg)
  rw [fsE_y h hs ks, h.2 _ (flN_lt hs hi)]
  unfold dnP
  cases e : kpN ls (flN s i) with
  | false => rw [if_neg (by decide), Bool.false_and]; exact decide_eq_false (by omega)
  | true =>
    rw [if_pos rfl, Bool.true_and]
    cases e2 : dfN s g i with
    | true => have := hmN_dn hi e2; exact decide_eq_true (by omega)
    | false => have := hmN_up hi e2; exact decide_eq_false (by omega)
theorem fs_no (hs : s < 2 ^ n) (hg : g < 2 ^ n) (ks : kpN ls s = true) (kg : kpN ls g = true) (hne : ¬s = g) {i : Int} (hi : (n : Int) ≤ i) (h : ∀ j : Nat, (j : Int) < i → dnP ls n s g j = false) : False := by
  obtain ⟨h1, h2, _⟩ := nxN_p hs hg ks kg hne
  rw [h _ (by omega)] at h2; cases h2
end
--@fn spec.l10States
theorem stsX (n : Nat) (x : Int) (s : Nat) (hx : x = (s : Int)) (hn : n ≤ 8) (hs : s < 1024) : FnSem Try.prog 118 [In (n : Int), In x] [] (Is [.osl 0 0 n] [Rw .flat (eB false) ((stsN n s).map eB)]) := by
  subst hx; exact c_spec_l10States n s hn hs
--@fn spec.l10Keeps
theorem keepX (n s : Nat) (ls : List (List Int)) (h : okLk n ls = true) : FnSem Try.prog 117 [Lx (LB (stsN n s)), Lx (LLI ls)] [] (Is [Bo (kpN ls s)] []) := by
  rw [← kpS_sts h]
  exact c_spec_l10Keeps (stsN n s) ls (fun i h0 h1 => by have q := (okLk_p h).2.2 i.toNat (by omega); rw [stsN_len]; omega)
theorem keyC {N M : Nat} {c j : Int} (hM : M = 2 ^ N) (hN : N ≤ 8) (h0 : 0 ≤ c) (hc : c.toNat < M) (hj0 : 0 ≤ j) (hj : j < N) : bitI .xor .i64 c ((2 ^ j.toNat : Nat) : Int) = ((flN c.toNat j.toNat : Nat) : Int) ∧ flN c.toNat j.toNat < M := by
  have h2 := pow_le8 hN
  subst hM
  have e := bx_xor c.toNat (2 ^ j.toNat) (by omega) (p2_lt (by omega))
  rw [show ((c.toNat : Nat) : Int) = c by omega] at e
  exact ⟨by rw [e]; unfold flN; rfl, flN_lt hc (by omega)⟩
section
variable {ls : List (List Int)} {n g M : Nat} {b c : Int} {xs : List Int}
theorem fsT.lm (h : fsT ls n g b xs) (hM : M = 2 ^ n) : xs.length = M := by rw [hM]; exact h.ln
theorem fsM.lm (h : fsM ls n g b xs) (hM : M = 2 ^ n) : xs.length = M := by rw [hM]; exact h.ln
theorem fsE_l (h : fsE ls n g xs) (hM : M = 2 ^ n) : xs.length = M := by rw [hM]; exact h.1
end
theorem tkB {xs : List Bool} {n : Nat} (h : n = xs.length) : ((xs.map eB).drop 0).take n = xs.map eB := by
  subst h; rw [List.drop_zero, List.take_of_length_le (by simp)]
structure stP (fr to : List Bool) (ls : List (List Int)) (M : Nat) : Prop where
  o : stO fr to ls
  m : M ≤ 256
  s : bitsN fr fr.length < M
  g : bitsN to to.length < M
theorem stP_of {fr to : List Bool} {ls : List (List Int)} {M : Nat} (hM : M = 2 ^ fr.length) (h : stO fr to ls) : stP fr to ls M := ⟨h, by rw [hM]; exact pow_le8 h.n, by rw [hM]; exact h.s, by rw [hM]; exact h.g⟩
theorem shlM {n M : Nat} (hM : M = 2 ^ n) (hn : n ≤ 8) : IntKind.i64.wrap (1 * 2 ^ (min (((n : Nat) : Int)).toNat IntKind.i64.bits)) = ((M : Nat) : Int) := by
  subst hM; exact shl1 (i := ((n : Nat) : Int)) (by omega)
theorem c_spec_FewestMoves (ls : List (List Int)) (fr to : List Bool) : FnSem Try.prog 29 [Lx (LLI ls), Lx (LB fr), Lx (LB to)] [] (MovR (movV ls fr to)) := by
  obtain ⟨M, hM⟩ : ∃ M : Nat, M = 2 ^ fr.length := ⟨_, rfl⟩
  refine FnSem.old ?_
  refine FnSem.walk (zs := zeroPV Try.prog) (by kernel_rfl) Try.func29 rfl Try.results29 (by kernel_rfl) (by kernel_rfl) (by kernel_rfl) fun hw hh => ?_
  obtain ⟨w0, w1, w2, _⟩ := hw
  first | replace w0 := wf_LLI w0 | skip
  first | replace w1 := wf_I w1 | replace w1 := wf_Y w1 | replace w1 := wf_S w1 | replace w1 := wf_LI w1 | replace w1 := wf_LY w1 | replace w1 := wf_LLI w1 | replace w1 := wf_Ls w1 | skip
  first | replace w2 := wf_I w2 | replace w2 := wf_Y w2 | replace w2 := wf_S w2 | replace w2 := wf_LI w2 | replace w2 := wf_LY w2 | replace w2 := wf_LLI w2 | replace w2 := wf_Ls w2 | skip
  repeat' first
    | refine And.intro rfl ?_
    | refine GdF.mk (fun h => h) ?_
    | refine And.intro (Nat.succ_ne_zero _) ?_
    | refine And.intro (Nat.le_of_ble_eq_true rfl) ?_
    | refine SeqF.run ?_
    | refine GdS.tt (by first | rfl | assumption) ?_
    | refine GdS.ff (by first | rfl | assumption) ?_
    | refine GdS.split (G := decide (List.getD _ (flN _ _) _ < 0)) (fun hg => ?_) (fun hg => ?_)
    | refine ArgF.is (c_spec_l10Bits to (arL_p (ar_p (by assumption)).2).1) ?_
    | refine ArgQ.is (fun hG => c_spec_l10Bits to (arL_p (ar_p (by assumption)).2).1) rfl rfl ?_
    | refine ArgF.is (c_spec_l10Bits fr (arL_p (ar_p (by assumption)).1).1) ?_
    | refine ArgQ.is (fun hG => c_spec_l10Bits fr (arL_p (ar_p (by assumption)).1).1) rfl rfl ?_
    | refine MovR.mk 0 [] _ rfl rfl ?_ ?_
    | refine EqI.mk (M : Int) (fun _ => shlM hM (arL_p (ar_p (by assumption)).1).1) ?_
    | refine EqI.mk _ (fun _ => shl1 (by have := c0.o.n; omega)) ?_
    | refine BndF.mk (fun _ => by have := a2.m; have := a2.g; first | omega | (simp only [List.length_map]; omega)) ?_
    | refine BndF.mk (fun _ => by have := c0.s; have := b2.lm hM; first | omega | (simp only [List.length_map]; omega)) ?_
    | refine BndF.mk (fun _ => by have := d2.lm hM; first | omega | (simp only [List.length_map]; omega)) ?_
    | refine EqI.mk (b + 1) (fun _ => by have := a2.m; exact wrapI (by omega) (by omega)) ?_
    | refine EqI.mk (c + 1) (fun _ => by have := a2.m; exact wrapI (by omega) (by omega)) ?_
    | refine EqN.mk (flN c.toNat j.toNat) (by rw [(keyC hM c0.o.n d0 (by omega) e0 (by assumption)).1]; omega) ?_
    | refine BndF.mk (fun _ => by have q := keyC hM c0.o.n d0 (by omega) e0 (by assumption); rw [q.1]; omega) ?_
    | refine BndF.mk (fun _ => by have q := keyC hM c0.o.n d0 (by omega) e0 (by assumption); have := e2.lm hM; first | omega | (simp only [List.length_map]; omega)) ?_
    | refine ArgF.is (stsX fr.length _ (flN c.toNat j.toNat) (keyC hM c0.o.n d0 (by omega) e0 (by assumption)).1 c0.o.n (by have := keyC hM c0.o.n d0 (by omega) e0 (by assumption); have := a2.m; omega)) ?_
    | refine ArgQ.is (fun hG => stsX fr.length _ (flN c.toNat j.toNat) (keyC hM c0.o.n d0 (by omega) e0 (by assumption)).1 c0.o.n (by have := keyC hM c0.o.n d0 (by omega) e0 (by assumption); have := a2.m; omega)) rfl rfl ?_
    | refine GdF.mk (fun h => by simp only [Bool.true_and, Bool.and_true] at h; first | exact h | (rw [hg] at h; cases h)) ?_
    | refine BndF.mk (fun _ => by rw [List.length_map, stsN_len]; omega) ?_
    | refine EqL.mk _ (tkB stsN_len.symm) ?_
    | refine ArgF.is (keepX fr.length (flN c.toNat j.toNat) ls c0.o.ok) ?_
    | refine ArgQ.is (fun hG => keepX fr.length (flN c.toNat j.toNat) ls c0.o.ok) rfl rfl ?_
    | refine LoopF.at 8 rfl (LoopF.fix [0, 1, 2, 8] (Nat × List Int × Int) (fun (k, xs, b) => 0 ≤ b ∧ b ≤ M ∧ stP fr to ls M ∧ k = xs.length ∧ xs = List.replicate b.toNat (-1) ∧ (k : Int) = b) (fun (k, xs, b) => [(9, .osl 0 0 k), (10, In b)]) (fun (k, xs, b) => [(0, Rw .flat (eI 0) (xs.map eI))]) (fun (k, xs, b) => ((M - b).toNat)) ((0, [], 0)) ?_)
    | (refine LoopB.of (T := Nat × List Int × Int) ?_ ?_; rotate_left; rintro ⟨k, xs, b⟩ ⟨a0, a1, a2, a3, a4, a5⟩; rotate_left)
    | refine LoopF.at 13 rfl (LoopF.fix [0, 1, 8, 9] (Int × List Int) (fun (b, xs) => stP fr to ls M ∧ 0 ≤ b ∧ b ≤ M ∧ fsT ls fr.length (bitsN to to.length) b xs) (fun (b, xs) => [(11, In b)]) (fun (b, xs) => [(0, Rw .flat (eI 0) (xs.map eI))]) (fun (b, xs) => ((M - b).toNat)) ((0, xs.set (bitsN to to.length) 0)) ?_)
    | (refine LoopB.of (T := Int × List Int) ?_ ?_; rotate_left; rintro ⟨b, xs⟩ ⟨c0, b0, b1, b2⟩; rotate_left)
    | refine LoopF.at 16 rfl (LoopF.fix [0, 1, 8, 9, 11] (Int × List Int × Unit) (fun (c, xs2, _) => 0 ≤ c ∧ c ≤ M ∧ fsM ls fr.length (bitsN to to.length) b xs2 ∧ fsC ls fr.length (bitsN to to.length) b xs2 c) (fun (c, xs2, _) => [(12, In c)]) (fun (c, xs2, _) => [(0, Rw .flat (eI 0) (xs2.map eI))]) (fun (c, xs2, _) => ((M - c).toNat)) ((0, xs, ())) ?_)
    | (refine LoopB.of (T := Int × List Int × Unit) ?_ ?_; rotate_left; rintro ⟨c, xs2, _⟩ ⟨d0, d1, d2, d3⟩; rotate_left)
    | refine LoopF.at 20 rfl (LoopF.fix [0, 1, 8, 9, 11, 12] (Int × List Int × Unit × Unit) (fun (j, xs3, _, _) => 0 ≤ j ∧ j ≤ fr.length ∧ fsM ls fr.length (bitsN to to.length) b xs3 ∧ fsC ls fr.length (bitsN to to.length) b xs3 c ∧ fsQ ls fr.length (bitsN to to.length) b xs3 c.toNat j ∧ kpN ls c.toNat = true ∧ ((hmN fr.length c.toNat (bitsN to to.length) : Nat) : Int) = b) (fun (j, xs3, _, _) => [(13, In j)]) (fun (j, xs3, _, _) => [(0, Rw .flat (eI 0) (xs3.map eI))]) (fun (j, xs3, _, _) => ((fr.length - j).toNat)) ((0, xs2, (), ())) ?_)
    | (refine LoopB.of (T := Int × List Int × Unit × Unit) ?_ ?_; rotate_left; rintro ⟨j, xs3, _, _⟩ ⟨e0, e1, e2, e3, e4, e5, e6⟩; rotate_left)
    | refine EqI.mk _ (fun _ => shl1 (by have := f0.o.n; omega)) ?_
    | refine EqN.mk (flN x.toNat i.toNat) (by rw [(keyC hM f0.o.n f1 f2 g0 (by assumption)).1]; omega) ?_
    | refine BndF.mk (fun _ => by have q := keyC hM f0.o.n f1 f2 g0 (by assumption); rw [q.1]; omega) ?_
    | refine BndF.mk (fun _ => by have q := keyC hM f0.o.n f1 f2 g0 (by assumption); have := fsE_l f6 hM; first | omega | (simp only [List.length_map]; omega)) ?_
    | refine BndF.mk (fun _ => by have := fsE_l f6 hM; first | omega | (simp only [List.length_map]; omega)) ?_
    | refine BndF.mk (fun _ => by have := mv_b f5 f0.o.n; omega) ?_
    | refine EqI.mk (xs.getD x.toNat 0 - 1) (fun _ => by have := fsE_b f6 (hM ▸ f2) f3 f0.o.n; exact wrapI (by omega) (by omega)) ?_
    | refine LoopF.at 29 rfl (LoopF.fix [8, 9] (Int × Nat × List Int) (fun (x, n2, ws) => stP fr to ls M ∧ 0 ≤ x ∧ x.toNat < M ∧ kpN ls x.toNat = true ∧ n2 = ws.length ∧ ws ++ mvA ls fr.length (bitsN to to.length) x.toNat = mvA ls fr.length (bitsN to to.length) (bitsN fr fr.length) ∧ fsE ls fr.length (bitsN to to.length) xs) (fun (x, n2, ws) => [(15, In x), (16, .osl 1 0 n2)]) (fun (x, n2, ws) => [(1, Rw .flat (eI 0) (ws.map eI))]) (fun (x, n2, ws) => (hmN fr.length x.toNat (bitsN to to.length))) ((((bitsN fr fr.length : Nat) : Int), 0, [])) ?_)
    | (refine LoopB.of (T := Int × Nat × List Int) ?_ ?_; rotate_left; rintro ⟨x, n2, ws⟩ ⟨f0, f1, f2, f3, f4, f5, f6⟩; rotate_left)
    | refine LoopF.at 31 rfl (LoopF.fix [8, 9] (Int × Unit) (fun (i, _) => 0 ≤ i ∧ i ≤ fr.length ∧ ¬x.toNat = bitsN to to.length ∧ ∀ j : Nat, (j : Int) < i → dnP ls fr.length x.toNat (bitsN to to.length) j = false) (fun (i, _) => [(17, In i), (15, In x), (16, .osl 1 0 n2)]) (fun (i, _) => []) (fun (i, _) => ((fr.length - i).toNat)) ((0, ())) ?_)
    | (refine LoopB.of (T := Int × Unit) ?_ ?_; rotate_left; rintro ⟨i, _⟩ ⟨g0, g1, g2, g3⟩; rotate_left)
    | (exfalso; exact fs_no (i := i) (hM ▸ f2) f0.o.g f3 f0.o.kg g2 hb g3)
    | refine MovR.mk _ _ _ rfl rfl ?_ ?_
    | refine GhF.go ?_
    | refine GdS.keep ?_
    | refine DrawG.old (DrawF.lex (by decide +kernel) ?_)
    | refine MkF.row ?_
    | refine EqP.mk _ (gm eI 0 rfl) ?_
    | refine EqP.mk _ (gmb eLI [] (by omega)) ?_
    | refine EqP.mk _ (gm eB false rfl) ?_
    | refine BndF.mk (fun _ => by omega) ?_
    | refine BndF.mk (fun _ => by simp only [List.length_map, List.length_cons, List.length_nil, List.length_append, List.length_set, List.length_replicate, iotaI_len]; omega) ?_
    | refine BndF.mk (fun hG => by simp only [forall_const, eq_self, not_true_eq_false, not_false_eq_true, or_false, false_or, or_self, or_true, true_or, and_true, true_and, and_false, false_and, decide_true, decide_false, Bool.not_true, Bool.not_false, decide_eq_true_eq, decide_eq_false_iff_not, ite_and_p, ite_or_p, Bool.decide_eq_true, Bool.and_eq_true, Bool.or_eq_true, Bool.not_eq_true', Bool.not_eq_false', Bool.and_eq_false_imp, Bool.or_eq_false_iff, bne_iff_ne, beq_iff_eq, bne_eq_false_iff_eq, beq_eq_false_iff_ne, gt_iff_lt, ge_iff_le, Int.not_lt, Int.not_le, ne_eq, Bool.true_eq_false, Bool.false_eq_true, reduceCtorEq, eta_Airway, eta_Fan, eta_Mine, bytes_nil] at hG; (try simp only [List.length_map]); omega) ?_
    | refine EqI.mk _ (fun _ => wrapI (by omega) (by omega)) ?_
    | refine EqI.mk _ (fun _ => rfl) ?_
    | refine FlF.keep ?_
    | refine EqN.mk _ (ln eI) ?_
    | refine EqN.mk _ (ln eLI) ?_
    | refine EqN.mk _ (ln eB) ?_
    | refine EqN.mk _ (Nat.zero_add _) ?_
    | refine EqN.mk (_ + 1) rfl ?_
    | refine EqN.mk _ (Int.toNat_natCast _) ?_
    | refine EqN.mk _ rfl ?_
    | refine EqL.mk _ (sn0 eI) ?_
    | refine EqL.mk _ (sn eI (by first | rfl | assumption | omega | (simp only [List.length_map, List.length_cons, List.length_nil, List.length_append, List.length_set, List.length_replicate, iotaI_len]; done) | (simp only [List.length_map, List.length_cons, List.length_nil, List.length_append, List.length_set, List.length_replicate, iotaI_len]; omega))) ?_
    | refine EqL.mk _ (ap0 eI) ?_
    | refine EqL.mk _ (ap eI (by first | rfl | assumption | omega | (simp only [List.length_map, List.length_cons, List.length_nil, List.length_append, List.length_set, List.length_replicate, iotaI_len]; done) | (simp only [List.length_map, List.length_cons, List.length_nil, List.length_append, List.length_set, List.length_replicate, iotaI_len]; omega))) ?_
    | refine EqL.mk _ (tk eI (by first | rfl | assumption | omega | (simp only [List.length_map, List.length_cons, List.length_nil, List.length_append, List.length_set, List.length_replicate, iotaI_len]; done) | (simp only [List.length_map, List.length_cons, List.length_nil, List.length_append, List.length_set, List.length_replicate, iotaI_len]; omega))) ?_
    | refine EqL.mk _ (st eI) ?_
    | refine EqL.mk _ (dt eI) ?_
    | refine EqL.mk _ (sn0 eLI) ?_
    | refine EqL.mk _ (sn eLI (by first | rfl | assumption | omega | (simp only [List.length_map, List.length_cons, List.length_nil, List.length_append, List.length_set, List.length_replicate, iotaI_len]; done) | (simp only [List.length_map, List.length_cons, List.length_nil, List.length_append, List.length_set, List.length_replicate, iotaI_len]; omega))) ?_
    | refine EqL.mk _ (ap0 eLI) ?_
    | refine EqL.mk _ (ap eLI (by first | rfl | assumption | omega | (simp only [List.length_map, List.length_cons, List.length_nil, List.length_append, List.length_set, List.length_replicate, iotaI_len]; done) | (simp only [List.length_map, List.length_cons, List.length_nil, List.length_append, List.length_set, List.length_replicate, iotaI_len]; omega))) ?_
    | refine EqL.mk _ (tk eLI (by first | rfl | assumption | omega | (simp only [List.length_map, List.length_cons, List.length_nil, List.length_append, List.length_set, List.length_replicate, iotaI_len]; done) | (simp only [List.length_map, List.length_cons, List.length_nil, List.length_append, List.length_set, List.length_replicate, iotaI_len]; omega))) ?_
    | refine EqL.mk _ (st eLI) ?_
    | refine EqL.mk _ (dt eLI) ?_
    | refine EqL.mk _ (sn0 eB) ?_
    | refine EqL.mk _ (sn eB (by first | rfl | assumption | omega | (simp only [List.length_map, List.length_cons, List.length_nil, List.length_append, List.length_set, List.length_replicate, iotaI_len]; done) | (simp only [List.length_map, List.length_cons, List.length_nil, List.length_append, List.length_set, List.length_replicate, iotaI_len]; omega))) ?_
    | refine EqL.mk _ (ap0 eB) ?_
    | refine EqL.mk _ (ap eB (by first | rfl | assumption | omega | (simp only [List.length_map, List.length_cons, List.length_nil, List.length_append, List.length_set, List.length_replicate, iotaI_len]; done) | (simp only [List.length_map, List.length_cons, List.length_nil, List.length_append, List.length_set, List.length_replicate, iotaI_len]; omega))) ?_
    | refine EqL.mk _ (tk eB (by first | rfl | assumption | omega | (simp only [List.length_map, List.length_cons, List.length_nil, List.length_append, List.length_set, List.length_replicate, iotaI_len]; done) | (simp only [List.length_map, List.length_cons, List.length_nil, List.length_append, List.length_set, List.length_replicate, iotaI_len]; omega))) ?_
    | refine EqL.mk _ (st eB) ?_
    | refine EqL.mk _ (dt eB) ?_
    | refine EqL.mk [] rfl ?_
    | refine EqL.mk [_] rfl ?_
    | refine EqL.mk _ rfl ?_
    | refine ArgF.is (c_spec_l10Locked ..) ?_
    | refine ArgQ.is (fun hG => c_spec_l10Locked ..) rfl rfl ?_
    | refine ArgF.is (c_spec_l10Bits _ (by first | assumption | omega)) ?_
    | refine ArgQ.is (fun hG => c_spec_l10Bits _ (by first | assumption | omega)) rfl rfl ?_
    | refine ArgQ.is (fun hG => c_spec_l10Bits _ (by simp only [forall_const, eq_self, not_true_eq_false, not_false_eq_true, or_false, false_or, or_self, or_true, true_or, and_true, true_and, and_false, false_and, decide_true, decide_false, Bool.not_true, Bool.not_false, decide_eq_true_eq, decide_eq_false_iff_not, ite_and_p, ite_or_p, Bool.decide_eq_true, Bool.and_eq_true, Bool.or_eq_true, Bool.not_eq_true', Bool.not_eq_false', Bool.and_eq_false_imp, Bool.or_eq_false_iff, bne_iff_ne, beq_iff_eq, bne_eq_false_iff_eq, beq_eq_false_iff_ne, gt_iff_lt, ge_iff_le, Int.not_lt, Int.not_le, ne_eq, Bool.true_eq_false, Bool.false_eq_true, reduceCtorEq, eta_Airway, eta_Fan, eta_Mine, bytes_nil] at hG; omega)) rfl rfl ?_
    | refine ArgF.is (c_spec_l10States _ _ (by first | assumption | omega) (by first | assumption | omega)) ?_
    | refine ArgQ.is (fun hG => c_spec_l10States _ _ (by first | assumption | omega) (by first | assumption | omega)) rfl rfl ?_
    | refine ArgQ.is (fun hG => c_spec_l10States _ _ (by simp only [forall_const, eq_self, not_true_eq_false, not_false_eq_true, or_false, false_or, or_self, or_true, true_or, and_true, true_and, and_false, false_and, decide_true, decide_false, Bool.not_true, Bool.not_false, decide_eq_true_eq, decide_eq_false_iff_not, ite_and_p, ite_or_p, Bool.decide_eq_true, Bool.and_eq_true, Bool.or_eq_true, Bool.not_eq_true', Bool.not_eq_false', Bool.and_eq_false_imp, Bool.or_eq_false_iff, bne_iff_ne, beq_iff_eq, bne_eq_false_iff_eq, beq_eq_false_iff_ne, gt_iff_lt, ge_iff_le, Int.not_lt, Int.not_le, ne_eq, Bool.true_eq_false, Bool.false_eq_true, reduceCtorEq, eta_Airway, eta_Fan, eta_Mine, bytes_nil] at hG; omega) (by simp only [forall_const, eq_self, not_true_eq_false, not_false_eq_true, or_false, false_or, or_self, or_true, true_or, and_true, true_and, and_false, false_and, decide_true, decide_false, Bool.not_true, Bool.not_false, decide_eq_true_eq, decide_eq_false_iff_not, ite_and_p, ite_or_p, Bool.decide_eq_true, Bool.and_eq_true, Bool.or_eq_true, Bool.not_eq_true', Bool.not_eq_false', Bool.and_eq_false_imp, Bool.or_eq_false_iff, bne_iff_ne, beq_iff_eq, bne_eq_false_iff_eq, beq_eq_false_iff_ne, gt_iff_lt, ge_iff_le, Int.not_lt, Int.not_le, ne_eq, Bool.true_eq_false, Bool.false_eq_true, reduceCtorEq, eta_Airway, eta_Fan, eta_Mine, bytes_nil] at hG; omega)) rfl rfl ?_
    | refine ArgF.is (c_spec_l10Keeps _ _ (by first | assumption | omega)) ?_
    | refine ArgQ.is (fun hG => c_spec_l10Keeps _ _ (by first | assumption | omega)) rfl rfl ?_
    | refine ArgQ.is (fun hG => c_spec_l10Keeps _ _ (by simp only [forall_const, eq_self, not_true_eq_false, not_false_eq_true, or_false, false_or, or_self, or_true, true_or, and_true, true_and, and_false, false_and, decide_true, decide_false, Bool.not_true, Bool.not_false, decide_eq_true_eq, decide_eq_false_iff_not, ite_and_p, ite_or_p, Bool.decide_eq_true, Bool.and_eq_true, Bool.or_eq_true, Bool.not_eq_true', Bool.not_eq_false', Bool.and_eq_false_imp, Bool.or_eq_false_iff, bne_iff_ne, beq_iff_eq, bne_eq_false_iff_eq, beq_eq_false_iff_ne, gt_iff_lt, ge_iff_le, Int.not_lt, Int.not_le, ne_eq, Bool.true_eq_false, Bool.false_eq_true, reduceCtorEq, eta_Airway, eta_Fan, eta_Mine, bytes_nil] at hG; omega)) rfl rfl ?_
    | refine CallF.mk (CallW.is [] true rfl ?_)
    | refine CallG.mk ?_
    | (refine CondF.mk (fun hb => ?_) (fun hb => ?_) <;> try simp only [forall_const, eq_self, not_true_eq_false, not_false_eq_true, or_false, false_or, or_self, or_true, true_or, and_true, true_and, and_false, false_and, decide_true, decide_false, Bool.not_true, Bool.not_false, decide_eq_true_eq, decide_eq_false_iff_not, ite_and_p, ite_or_p, Bool.decide_eq_true, Bool.and_eq_true, Bool.or_eq_true, Bool.not_eq_true', Bool.not_eq_false', Bool.and_eq_false_imp, Bool.or_eq_false_iff, bne_iff_ne, beq_iff_eq, bne_eq_false_iff_eq, beq_eq_false_iff_ne, gt_iff_lt, ge_iff_le, Int.not_lt, Int.not_le, ne_eq, Bool.true_eq_false, Bool.false_eq_true, reduceCtorEq, eta_Airway, eta_Fan, eta_Mine] at hb)
    | apply BackF.auto4
    | apply BackF.auto3
    | apply BackF.auto2
    | refine BackB.mk ?_ ?_
    | refine RetF.auto (And.intro rfl ?_)
    | exact Is.mk rfl rfl
    | refine Is.mk ?_ rfl
    | refine Is.mk rfl ?_
    | refine Is.mk ?_ ?_
  all_goals try exact ()
  all_goals try dsimp only
  all_goals first
    | rfl
    | omega
    | exact movV_1 hb
    | exact movV_6 (by assumption) hb
    | (have q := stP_of hM (stO_of (by assumption) hb); exact ⟨by omega, by omega, q, rfl, rfl, rfl⟩)
    | exact ⟨by omega, by omega, a2, by simp [a3], by rw [a4, show (b + 1).toNat = b.toNat + 1 by omega, List.replicate_succ'], by omega⟩
    | exact ⟨a2, by omega, by omega, fsT_0 (hM ▸ a2.g) a2.o.kg (by rw [a4, ← hM, show b.toNat = M by omega])⟩
    | exact ⟨by omega, by omega, fsM_T b2, fsC_0⟩
    | exact ⟨by omega, by omega, d2, fsC_k b0 d2 d3 d0 hb⟩
    | (have q := fs_hit b0 d2 d0 (by rw [← hM]; omega) hb
       exact ⟨by omega, by omega, d2, d3, fsQ_0, q.1, q.2⟩)
    | exact ⟨by omega, by omega, e2, fsC_s e3 d0 hb e4⟩
    | exact ⟨c0, by omega, by omega, fsT_s b0 c0.o.g c0.o.kg d2 d3 (by rw [← hM]; omega)⟩
    | (exfalso; have q := fsE_b (fsE_of b2 (by rw [← hM]; omega)) c0.o.s c0.o.ks c0.o.n; have hb : xs.getD (bitsN fr fr.length) 0 < 0 := hb; omega)
    | exact ⟨c0, by omega, by have := c0.s; omega, c0.o.ks, rfl, rfl, fsE_of b2 (by rw [← hM]; omega)⟩
    | exact ⟨by omega, by omega, fsE_p f6 (hM ▸ f2) f3 hb, fun j hj => absurd hj (by omega)⟩
    | (have hd := fsE_d f6 (hM ▸ f2) f0.o.g f3 g2 (show i.toNat < fr.length by omega)
       rw [decide_eq_true hb] at hd
       have hx := nxN_at (show i.toNat < fr.length by omega) hd.symm (fun j hj => g3 j (by omega))
       have q := mvX f0.o.n f0.o.g f0.o.kg f1 (hM ▸ f2) f3 f5 (show ¬x = ((bitsN to to.length : Nat) : Int) by omega)
       rw [hx, show ((i.toNat : Nat) : Int) = i by omega] at q
       rw [q.1]
       first
         | exact q.2.2.2.2
         | exact ⟨f0, by omega, hM ▸ q.2.1, q.2.2.1, by simp [f4], q.2.2.2.1, f6⟩)
    | (have hd := fsE_d f6 (hM ▸ f2) f0.o.g f3 g2 (show i.toNat < fr.length by omega)
       rw [decide_eq_false hb] at hd
       exact ⟨by omega, by omega, g2, all_s (P := fun j => dnP ls fr.length x.toNat (bitsN to to.length) j = false) g0 g3 hd.symm⟩)
    | (rw [movV_0 f0.o, ← f5, mvA_e (fsE_z f6 (hM ▸ f2) f0.o.g f3 hb), List.append_nil])
    | exact ⟨by omega, by omega, e2, e3, fs_not b0 e2 (hM ▸ (by omega)) e0 (by assumption) e4 (fun h => by simpa using hb h), e5, e6⟩
    | (have q := fs_put b0 e2 e3 d0 (by rw [← hM]; omega) e0 (by assumption) e5 e6 e4 hb.1 hb.2
       exact ⟨by omega, by omega, q.1, q.2.1, q.2.2, e5, e6⟩)
    | (have h1 := of_decide_eq_false hg; exact ⟨by omega, by omega, e2, e3, fs_not b0 e2 (by rw [← hM]; omega) e0 (by assumption) e4 (fun h => absurd h h1), e5, e6⟩)
    | skip
end Go.Proofs.Ytpckcolkehgdaaa
