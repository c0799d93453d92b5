/- Contracts of functions of the program, and what they compute. Conditions: those that each theorem states. -/
import Derived.Test.YtpckcolkehgdaaaProg
import Derived.Test.YtpckcolkehgdaaaC5
set_option linter.unusedVariables false
set_option linter.unusedSimpArgs false
namespace Go.Proofs.Ytpckcolkehgdaaa
open Go.Av
attribute [local irreducible] Go.IntKind.wrap bitI kpN hmN dfN flN bitsN okLk leastI updM arL nxN mvN
set_option maxRecDepth 20000
set_option maxHeartbeats 40000000

/-! Sets of doors: the fewest moves, as the program finds them. -/
def mvA (ls : List (List Int)) (n g s : Nat) : List Int := (mvN ls n g (hmN n s g) s).map (fun k : Nat => (k : Int))
def movV (ls : List (List Int)) (fr to : List Bool) : List Int × Int := if (arL fr ls && arL to ls) = true then (if fr.length = to.length then (mvA ls fr.length (bitsN to to.length) (bitsN fr fr.length), 0) else ([], 6)) else ([], 1)
inductive MovR (r : List Int × Int) (rs : List AV) (ho : List OB) : Prop
  | mk (n : Nat) (ys : List Int) (c : Int) (h1 : rs = [.osl 0 0 n, In c]) (h2 : ho = [.row false .flat (eI 0) (ys.map eI)]) (h3 : n = ys.length) (h4 : r = (ys, c))
theorem arL_p {bs : List Bool} {ls : List (List Int)} (h : arL bs ls = true) : bs.length ≤ 8 ∧ okLk bs.length ls = true ∧ kpN ls (bitsN bs bs.length) = true := by
  unfold arL at h
  rw [Bool.and_eq_true] at h
  have := (okLk_p h.1).1
  exact ⟨by omega, h.1, h.2⟩
theorem ar_p {a b : Bool} (h : ¬a = false ∧ b = true) : a = true ∧ b = true := ⟨by simpa using h.1, h.2⟩
theorem mvA_e {ls : List (List Int)} {n g s : Nat} (h : s = g) : mvA ls n g s = [] := by
  subst h; unfold mvA; rw [hmN_self, mvN]; rfl
theorem mvA_s {ls : List (List Int)} {n g s : Nat} (hs : s < 2 ^ n) (hg : g < 2 ^ n) (ks : kpN ls s = true) (kg : kpN ls g = true) (h : ¬s = g) : mvA ls n g s = ((nxN ls n s g : Nat) : Int) :: mvA ls n g (flN s (nxN ls n s g)) ∧ hmN n s g = hmN n (flN s (nxN ls n s g)) g + 1 ∧ kpN ls (flN s (nxN ls n s g)) = true ∧ nxN ls n s g < n := by
  obtain ⟨h1, h2, _⟩ := nxN_p hs hg ks kg h
  unfold dnP at h2
  rw [Bool.and_eq_true] at h2
  have e := hmN_dn h1 h2.2
  refine ⟨?_, e, h2.1, h1⟩
  unfold mvA
  rw [e, mvN, if_neg h]; rfl
theorem leastX (f : Nat) (ls : List (List Int)) (n g s : Nat) (x : Int) (F : Int → Option Int) (hx : x = (s : Int)) (hf : ∀ i : Int, 0 ≤ i → i < n → FnSem Try.prog f [In i, .own 0 0, .own 1 0, .own 2 0] (blN ls s F) (Is [Bo (dnP ls n s g i.toNat)] (blN ls s F))) (hs : s < 2 ^ n) (hg : g < 2 ^ n) (ks : kpN ls s = true) (kg : kpN ls g = true) (h : ¬s = g) (hn : n ≤ 8) :
    FnSem Try.prog 122 [In 0, In ((n : Int) - 1), .afn f [.own 0 0, .own 1 0, .own 2 0]] [.fix [In x], .fix [Lx (LLI ls)], .fix [.amap 3], .mp false osIs (moF F)] (Is [In ((nxN ls n s g : Nat) : Int), Bo true] [.fix [In x], .fix [Lx (LLI ls)], .fix [.amap 3], .mp false osIs (moF F)]) := by
  subst hx; exact leastM f ls n g s F hf hs hg ks kg h hn
section
variable {A : List Nat} {zs : List Int} {lo n k N g : Nat} {ls : List (List Int)} {j : Int} {F : Int → Option Int}
abbrev cN (a : Nat) : Int := (a : Int)
theorem hdO (h : (zs.drop lo).take n = (A.drop k).map cN) (hn : n + k = A.length) (hk : k < A.length) : zs.getD lo 0 = ((A.getD k 0 : Nat) : Int) := by
  have := congrArg (fun l => l.getD 0 0) h
  simp only [List.getD_eq_getElem?_getD, List.getElem?_take, List.getElem?_drop, Nat.add_zero, if_pos (show 0 < n by omega), List.getElem?_map] at this
  rw [List.getD_eq_getElem?_getD, this, List.getD_eq_getElem?_getD, List.getElem?_eq_getElem hk]; rfl
theorem popO (h : (zs.drop lo).take n = (A.drop k).map cN) : (zs.drop (lo + 1)).take (n - (0 + 1)) = (A.drop (k + 1)).map cN := by
  have := congrArg (List.drop 1) h
  rw [List.drop_take, List.drop_drop, ← List.map_drop, List.drop_drop] at this
  exact this
theorem snO {v : Int} {s : List Int} (h : (zs.drop lo).take n = s) : ((zs.map eI).drop lo).take n ++ [eI v] = (s ++ [v]).map eI := by rw [← h]; simp
theorem addO {v : Int} {a : Nat} (hv : v = (a : Int)) (hn : n + k = A.length) : (((A.drop k).map cN ++ [v]).drop 0).take (n + 1) = ((A ++ [a]).drop k).map cN := by
  rw [List.drop_zero, List.take_of_length_le (by simp; omega), List.drop_append_of_le_length (by omega), List.map_append, hv]; rfl
theorem keyO (hN : N ≤ 8) (h : (zs.drop lo).take n = (A.drop k).map cN) (hn : n + k = A.length) (hk : k < A.length) (hb : bfN ls N g A k) (h0 : 0 ≤ j) (hj : j < N) : bitI .xor .i64 (zs.getD lo 0) ((2 ^ j.toNat : Nat) : Int) = ((flN (A.getD k 0) j.toNat : Nat) : Int) ∧ flN (A.getD k 0) j.toNat < 256 ∧ A.getD k 0 < 256 := by
  have h1 := (hb.rg _ (D_mem hk)).1
  have h2 := pow_le8 hN
  have h3 := flN_lt h1 (show j.toNat < N by omega)
  refine ⟨?_, by omega, by omega⟩
  rw [hdO h hn hk, bx_xor _ _ (by omega) (p2_lt (by omega))]; unfold flN; rfl
/-- what has been tried of the doors -/
def qkO (ls : List (List Int)) (A : List Nat) (x : Nat) (j : Int) : Prop := ∀ i : Nat, (i : Int) < j → kpN ls (flN x i) = true → flN x i ∈ A
theorem qkO_s {x : Nat} (h : qkO ls A x j) (h0 : 0 ≤ j) (hx : kpN ls (flN x j.toNat) = true → flN x j.toNat ∈ A) : qkO ls A x (j + 1) := fun i hi hk => by
  by_cases e : (i : Int) = j
  · rw [show i = j.toNat by omega] at hk ⊢; exact hx hk
  · exact h i (by omega) hk
theorem qkO_a {x a : Nat} (h : qkO ls A x j) : qkO ls (A ++ [a]) x j := fun i hi hk => List.mem_append_left _ (h i hi hk)
end
structure stO (fr to : List Bool) (ls : List (List Int)) : Prop where
  g : bitsN to to.length < 2 ^ fr.length
  kg : kpN ls (bitsN to to.length) = true
  s : bitsN fr fr.length < 2 ^ fr.length
  ks : kpN ls (bitsN fr fr.length) = true
  n : fr.length ≤ 8
  ok : okLk fr.length ls = true
  a : arL fr ls = true ∧ arL to ls = true ∧ fr.length = to.length
theorem stO_of {fr to : List Bool} {ls : List (List Int)} (h : ¬arL fr ls = false ∧ arL to ls = true) (h3 : (fr.length : Int) = to.length) : stO fr to ls := by
  have h1 := arL_p (ar_p h).1
  have h2 := arL_p (ar_p h).2
  have e : fr.length = to.length := by omega
  exact ⟨by rw [e]; exact bitsN_lt _ _, h2.2.2, bitsN_lt _ _, h1.2.2, h1.1, h1.2.1, (ar_p h).1, (ar_p h).2, e⟩
section
variable {A : List Nat} {zs : List Int} {lo n k N g : Nat} {ls : List (List Int)} {j : Int} {F : Int → Option Int}
theorem addF (hN : N ≤ 8) (hg : g < 2 ^ N) (kg : kpN ls g = true) (h : (zs.drop lo).take n = (A.drop k).map cN) (hn : n + k = A.length) (hk : k < A.length) (hb : bfN ls N g A k) (hF : frN N g A F) (h0 : 0 ≤ j) (hj : j < N)
    (hc : (F (bitI .xor .i64 (zs.getD lo 0) ((2 ^ j.toNat : Nat) : Int))).isSome = false ∧ kpN ls (flN (A.getD k 0) j.toNat) = true) :
    bfN ls N g (A ++ [flN (A.getD k 0) j.toNat]) k ∧ frN N g (A ++ [flN (A.getD k 0) j.toNat]) (uoF F (bitI .xor .i64 (zs.getD lo 0) ((2 ^ j.toNat : Nat) : Int)) ((F (zs.getD lo 0)).getD 0 + 1)) := by
  have q := keyO hN h hn hk hb h0 hj
  rw [q.1] at hc ⊢
  have hni : flN (A.getD k 0) j.toNat ∉ A := fun hm => by rw [frN_is hF, decide_eq_true hm] at hc; cases hc.1
  have e := bfN_next hb hg kg hk (show j.toNat < N by omega) hc.2 hni
  refine ⟨bfN_add hb hg kg hk (by omega) hc.2 hni, frN_add hF ?_⟩
  rw [hdO h hn hk, frN_in hF (D_mem hk), e]; simp
theorem keepF (hN : N ≤ 8) (h : (zs.drop lo).take n = (A.drop k).map cN) (hn : n + k = A.length) (hk : k < A.length) (hb : bfN ls N g A k) (hF : frN N g A F) (h0 : 0 ≤ j) (hj : j < N)
    (hc : (F (bitI .xor .i64 (zs.getD lo 0) ((2 ^ j.toNat : Nat) : Int))).isSome = false → kpN ls (flN (A.getD k 0) j.toNat) = false) : kpN ls (flN (A.getD k 0) j.toNat) = true → flN (A.getD k 0) j.toNat ∈ A := fun hkp => by
  have q := keyO hN h hn hk hb h0 hj
  rw [q.1, frN_is hF] at hc
  refine Decidable.byContradiction fun hm => ?_
  rw [decide_eq_false hm] at hc
  rw [hc rfl] at hkp; cases hkp
theorem getA {x : Nat} (hk : k < A.length) : (A ++ [x]).getD k 0 = A.getD k 0 := getD_app hk
end
theorem mvN_len {ls : List (List Int)} {n g : Nat} : ∀ (f s : Nat), (mvN ls n g f s).length ≤ f
  | 0, s => by simp [mvN]
  | f + 1, s => by
    rw [mvN]; split
    · simp
    · rw [List.length_cons]; have := mvN_len (ls := ls) (n := n) (g := g) f (flN s (nxN ls n s g)); omega
theorem mv_b {ls : List (List Int)} {n g s t : Nat} {ws : List Int} (h : ws ++ mvA ls n g s = mvA ls n g t) (hn : n ≤ 8) : ws.length ≤ 8 := by
  have e := congrArg List.length h
  have a := mvN_len (ls := ls) (n := n) (g := g) (hmN n t g) t
  have b := hmN_le (n := n) (s := t) (g := g)
  rw [List.length_append] at e
  unfold mvA at e
  rw [List.length_map, List.length_map] at e
  omega
theorem mvX {ls : List (List Int)} {N g t : Nat} {x : Int} {ws : List Int} (hN : N ≤ 8) (hg : g < 2 ^ N) (kg : kpN ls g = true) (l1 : 0 ≤ x) (l2 : x.toNat < 2 ^ N) (l3 : kpN ls x.toNat = true) (l5 : ws ++ mvA ls N g x.toNat = mvA ls N g t) (hb : ¬x = (g : Int)) :
    bitI .xor .i64 x ((2 ^ (((nxN ls N x.toNat g : Nat) : Int)).toNat : Nat) : Int) = ((flN x.toNat (nxN ls N x.toNat g) : Nat) : Int) ∧ flN x.toNat (nxN ls N x.toNat g) < 2 ^ N ∧ kpN ls (flN x.toNat (nxN ls N x.toNat g)) = true ∧ (ws ++ [((nxN ls N x.toNat g : Nat) : Int)]) ++ mvA ls N g (flN x.toNat (nxN ls N x.toNat g)) = mvA ls N g t ∧ hmN N (flN x.toNat (nxN ls N x.toNat g)) g < hmN N x.toNat g := by
  obtain ⟨q1, q2, q3, q4⟩ := mvA_s l2 hg l3 kg (show ¬x.toNat = g by omega)
  have h2 := pow_le8 hN
  refine ⟨?_, flN_lt l2 q4, q3, ?_, by omega⟩
  · have e := bx_xor x.toNat (2 ^ nxN ls N x.toNat g) (by omega) (p2_lt (by omega))
    rw [show ((x.toNat : Nat) : Int) = x by omega] at e
    rw [show ((nxN ls N x.toNat g : Nat) : Int).toNat = nxN ls N x.toNat g by omega, e]; unfold flN; rfl
  · rw [List.append_assoc, List.singleton_append, ← q1, l5]
theorem movV_0 {fr to : List Bool} {ls : List (List Int)} (h : stO fr to ls) : movV ls fr to = (mvA ls fr.length (bitsN to to.length) (bitsN fr fr.length), 0) := by
  unfold movV; rw [h.a.1, h.a.2.1, if_pos (show (true && true) = true from rfl), if_pos h.a.2.2]
theorem movV_6 {fr to : List Bool} {ls : List (List Int)} (h : ¬arL fr ls = false ∧ arL to ls = true) (h2 : ¬(fr.length : Int) = to.length) : movV ls fr to = ([], 6) := by
  unfold movV; rw [(ar_p h).1, (ar_p h).2, if_pos (show (true && true) = true from rfl), if_neg (by omega)]
theorem movV_1 {fr to : List Bool} {ls : List (List Int)} (h : arL fr ls = false ∨ arL to ls = false) : movV ls fr to = ([], 1) := by
  unfold movV; rw [if_neg]; rintro e; rw [Bool.and_eq_true] at e
  rcases h with h | h
  · rw [e.1] at h; cases h
  · rw [e.2] at h; cases h
theorem c_impl_FewestMoves (ls : List (List Int)) (fr to : List Bool) : FnSem Try.prog 32 [Lx (LLI ls), Lx (LB fr), Lx (LB to)] [] (MovR (movV ls fr to)) := by
  refine FnSem.old ?_
  refine FnSem.walk (zs := zeroPV Try.prog) (by kernel_rfl) Try.func32 rfl Try.results32 (by kernel_rfl) (by kernel_rfl) (by kernel_rfl) fun hw hh => ?_
  obtain ⟨w0, w1, w2, _⟩ := hw
  first | replace w0 := wf_LLI w0 | skip
  first | replace w1 := wf_I w1 | replace w1 := wf_Y w1 | replace w1 := wf_S w1 | replace w1 := wf_LI w1 | replace w1 := wf_LY w1 | replace w1 := wf_LLI w1 | replace w1 := wf_Ls w1 | skip
  first | replace w2 := wf_I w2 | replace w2 := wf_Y w2 | replace w2 := wf_S w2 | replace w2 := wf_LI w2 | replace w2 := wf_LY w2 | replace w2 := wf_LLI w2 | replace w2 := wf_Ls w2 | skip
  repeat' first
    | refine And.intro rfl ?_
    | refine GdF.mk (fun h => h) ?_
    | refine And.intro (Nat.succ_ne_zero _) ?_
    | refine And.intro (Nat.le_of_ble_eq_true rfl) ?_
    | refine SeqF.run ?_
    | refine ArgF.is (c_impl_doorSet fr (arL_p (ar_p (by assumption)).1).1) ?_
    | refine ArgQ.is (fun hG => c_impl_doorSet fr (arL_p (ar_p (by assumption)).1).1) rfl rfl ?_
    | refine ArgF.is (c_impl_doorSet to (arL_p (ar_p (by assumption)).2).1) ?_
    | refine ArgQ.is (fun hG => c_impl_doorSet to (arL_p (ar_p (by assumption)).2).1) rfl rfl ?_
    | refine EqM.mk _ moF_0 ?_
    | refine KeyF.mk osLaw rfl (fun _ => osKey _ (by have := bitsN_8 (bs := to) (n := to.length) (arL_p (ar_p (by assumption)).2).1; omega)) ?_
    | refine MovR.mk 0 [] _ rfl rfl ?_ ?_
    | refine EqI.mk _ (fun _ => shl1 (by have := k0.n; omega)) ?_
    | refine EqN.mk lo' rfl ?_
    | refine KeyF.mk osLaw rfl (fun _ => osKey _ (by have q := keyO k0.n j4 j3 j2 j6 j0 (by assumption); first | (rw [q.1]; omega) | (have q2 := hdO j4 j3 j2; show -9223372036854775808 ≤ zs'.getD lo' 0 ∧ zs'.getD lo' 0 ≤ 9223372036854775807; rw [q2]; omega))) ?_
    | refine EqM.mk _ moF_upd ?_
    | refine EqO.mk _ moF_at ?_
    | refine ArgF.is (lockX _ (flN (A'.getD k 0) j.toNat) ls (keyO k0.n j4 j3 j2 j6 j0 (by assumption)).1 (lk_ms k0.ok) (by have := (keyO k0.n j4 j3 j2 j6 j0 (by assumption)).2; omega)) ?_
    | refine ArgQ.is (fun hG => lockX _ (flN (A'.getD k 0) j.toNat) ls (keyO k0.n j4 j3 j2 j6 j0 (by assumption)).1 (lk_ms k0.ok) (by have := (keyO k0.n j4 j3 j2 j6 j0 (by assumption)).2; omega)) rfl rfl ?_
    | refine EqI.mk ((F' (zs'.getD lo' 0)).getD 0 + 1) (fun _ => by rw [hdO j4 j3 j2, frN_in j7 (D_mem j2)]; have := hmN_le (n := fr.length) (s := A'.getD k 0) (g := bitsN to to.length); have := k0.n; exact wrapI (by simp only [Option.getD_some]; omega) (by simp only [Option.getD_some]; omega)) ?_
    | refine EqL.mk _ (snO j4) ?_
    | refine GhF.held 23 rfl [(4, [1])] ?_
    | refine GhF.held 16 rfl [(8, [3])] ?_
    | refine LoopF.at 8 rfl (LoopF.fixw [1003,1004] [1, 3, 8, 9, 10] (Nat × Nat × Nat × List Nat × List Int × (Int → Option Int)) (fun (k, lo, n, A, zs, F) => stO fr to ls ∧ n + k = A.length ∧ (zs.drop lo).take n = (A.drop k).map cN ∧ lo + n ≤ zs.length ∧ bfN ls fr.length (bitsN to to.length) A k ∧ frN fr.length (bitsN to to.length) A F) (fun (k, lo, n, A, zs, F) => [(11, .osl 4 lo n)]) (fun (k, lo, n, A, zs, F) => [(3, .mp false osIs (moF F)), (4, .row false .flat (eI 0) (zs.map eI))]) (fun (k, lo, n, A, zs, F) => (2 ^ fr.length - k)) ((0, 0, 1, [bitsN to to.length], [((bitsN to to.length : Nat) : Int)], uoF (fun _ => none) ((bitsN to to.length : Nat) : Int) 0)) ?_)
    | (refine LoopB.of (T := Nat × Nat × Nat × List Nat × List Int × (Int → Option Int)) ?_ ?_; rotate_left; rintro ⟨k, lo, n, A, zs, F⟩ ⟨k0, k1, k2, k3, k4, k5⟩; rotate_left)
    | refine LoopF.at 11 rfl (LoopF.fix [1, 3, 8, 9, 10, 51] (Int × List Nat × List Int × Nat × Nat × (Int → Option Int)) (fun (j, A', zs', n', lo', F') => 0 ≤ j ∧ j ≤ fr.length ∧ k < A'.length ∧ n' + k = A'.length ∧ (zs'.drop lo').take n' = (A'.drop k).map cN ∧ lo' + n' ≤ zs'.length ∧ bfN ls fr.length (bitsN to to.length) A' k ∧ frN fr.length (bitsN to to.length) A' F' ∧ qkO ls A' (A'.getD k 0) j) (fun (j, A', zs', n', lo', F') => [(52, In j), (11, .osl 4 lo' n')]) (fun (j, A', zs', n', lo', F') => [(3, .mp false osIs (moF F')), (4, .row false .flat (eI 0) (zs'.map eI))]) (fun (j, A', zs', n', lo', F') => ((fr.length - j).toNat)) ((0, A, zs, n, lo, F)) ?_)
    | (refine LoopB.of (T := Int × List Nat × List Int × Nat × Nat × (Int → Option Int)) ?_ ?_; rotate_left; rintro ⟨j, A', zs', n', lo', F'⟩ ⟨j0, j1, j2, j3, j4, j5, j6, j7, j8⟩; rotate_left)
    | refine BackF.auto (k + 1, lo' + 1, n' - (0 + 1), A', zs', F') ?_
    | (have hc := hb.2; refine BackF.auto (j + 1, A' ++ [flN (A'.getD k 0) j.toNat], (A'.drop k).map cN ++ [bitI .xor .i64 (zs'.getD lo' 0) ((2 ^ j.toNat : Nat) : Int)], n' + 1, 0, uoF F' (bitI .xor .i64 (zs'.getD lo' 0) ((2 ^ j.toNat : Nat) : Int)) ((F' (zs'.getD lo' 0)).getD 0 + 1)) ?_)
    | refine BackF.auto (j + 1, A', zs', n', lo', F') ?_
    | refine CallF.mk (f := 122) (CallW.is [1, 0, 2, 3] false rfl ?_)
    | refine EqI.mk ((fr.length : Int) - 1) (fun _ => wrapI (by omega) (by have := k0.n; omega)) ?_
    | refine ArgF.is (leastX _ ls fr.length (bitsN to to.length) x.toNat x F (by omega) (fun i h0 h1 => fewM1 i ls fr.length (bitsN to to.length) x.toNat F l0 ⟨h0, h1⟩ k0.n l2 l3 (lk_ms k0.ok)) l2 k0.g l3 k0.kg (by omega) k0.n) ?_
    | refine ArgQ.is (fun hG => leastX _ ls fr.length (bitsN to to.length) x.toNat x F (by omega) (fun i h0 h1 => fewM1 i ls fr.length (bitsN to to.length) x.toNat F l0 ⟨h0, h1⟩ k0.n l2 l3 (lk_ms k0.ok)) l2 k0.g l3 k0.kg (by omega) k0.n) rfl rfl ?_
    | refine EqI.mk ((2 ^ (((nxN ls fr.length x.toNat (bitsN to to.length) : Nat) : Int)).toNat : Nat) : Int) (fun _ => shl1 (i := ((nxN ls fr.length x.toNat (bitsN to to.length) : Nat) : Int)) (by have := (mvA_s l2 k0.g l3 k0.kg (by omega)).2.2.2; have := k0.n; omega)) ?_
    | refine LoopF.at 20 rfl (LoopF.fix [1, 3, 8, 9, 10] (Int × Nat × List Int) (fun (x, n2, ws) => fullN ls fr.length (bitsN to to.length) F ∧ 0 ≤ x ∧ x.toNat < 2 ^ fr.length ∧ kpN ls x.toNat = true ∧ n2 = ws.length ∧ ws ++ mvA ls fr.length (bitsN to to.length) x.toNat = mvA ls fr.length (bitsN to to.length) (bitsN fr fr.length)) (fun (x, n2, ws) => [(16, .osl 4 0 n2)]) (fun (x, n2, ws) => [(1, .fix [In x]), (4, .row true .flat (eI 0) (ws.map eI))]) (fun (x, n2, ws) => (hmN fr.length x.toNat (bitsN to to.length))) ((((bitsN fr fr.length : Nat) : Int), 0, [])) ?_)
    | (refine LoopB.of (T := Int × Nat × List Int) ?_ ?_; rotate_left; rintro ⟨x, n2, ws⟩ ⟨l0, l1, l2, l3, l4, l5⟩; rotate_left)
    | refine BndF.mk (fun _ => by have := mv_b l5 k0.n; omega) ?_
    | refine BndF.mk (fun _ => by have := bfN_len j6; have := pow_le8 k0.n; omega) ?_
    | refine MovR.mk _ _ _ rfl rfl ?_ ?_
    | refine HdF.at 4 rfl 0 [3, 4] (And.intro (by decide +kernel) (And.intro rfl ?_))
    | refine HdF.at 3 rfl 1 [] (And.intro (by decide +kernel) (And.intro rfl ?_))
    | refine HdF.at 2 rfl 2 [] (And.intro (by decide +kernel) (And.intro rfl ?_))
    | refine HdF.at 1 rfl 3 [] (And.intro (by decide +kernel) (And.intro rfl ?_))
    | refine HdF.goAt 0 rfl ?_
    | refine OrdL.ord ?_
    | refine OrdF.all [4] (by decide +kernel) ?_
    | refine OrdF.fin (by decide +kernel) ?_
    | refine AllF.one _ ?_
    | refine AllF.cons _ _ ?_ ?_
    | refine OpH.quiet rfl ?_
    | refine OpH.heap ?_
    | refine HdF.at 8 rfl 0 [8] (And.intro (by decide +kernel) (And.intro rfl ?_))
    | refine HdF.at 7 rfl 1 [] (And.intro (by decide +kernel) (And.intro rfl ?_))
    | refine HdF.at 6 rfl 2 [6, 7, 8] (And.intro (by decide +kernel) (And.intro rfl ?_))
    | refine HdF.at 5 rfl 3 [] (And.intro (by decide +kernel) (And.intro rfl ?_))
    | refine HdF.at 4 rfl 4 [] (And.intro (by decide +kernel) (And.intro rfl ?_))
    | refine HdF.at 3 rfl 5 [6, 7, 8] (And.intro (by decide +kernel) (And.intro rfl ?_))
    | refine HdF.goAt 2 rfl ?_
    | refine OrdL.ord ?_
    | refine OrdF.take 7 (by decide +kernel) (And.intro rfl ?_)
    | refine OrdF.all [8] (by decide +kernel) ?_
    | refine OrdF.all [6] (by decide +kernel) ?_
    | refine OrdF.fin (by decide +kernel) ?_
    | refine AllF.one _ ?_
    | refine AllF.cons _ _ ?_ ?_
    | refine OpH.quiet rfl ?_
    | refine OpH.heap ?_
    | refine GhF.go ?_
    | refine GdS.keep ?_
    | refine DrawG.old (DrawF.lex (by decide +kernel) ?_)
    | refine MkF.row ?_
    | refine EqP.mk _ (gm eI 0 rfl) ?_
    | refine EqP.mk _ (gmb eLI [] (by omega)) ?_
    | refine EqP.mk _ (gm eB false rfl) ?_
    | refine BndF.mk (fun _ => by omega) ?_
    | refine BndF.mk (fun _ => by simp only [List.length_map, List.length_cons, List.length_nil, List.length_append, List.length_set, List.length_replicate, iotaI_len]; omega) ?_
    | refine BndF.mk (fun hG => by simp only [forall_const, eq_self, not_true_eq_false, not_false_eq_true, or_false, false_or, or_self, or_true, true_or, and_true, true_and, and_false, false_and, decide_true, decide_false, Bool.not_true, Bool.not_false, decide_eq_true_eq, decide_eq_false_iff_not, ite_and_p, ite_or_p, Bool.decide_eq_true, Bool.and_eq_true, Bool.or_eq_true, Bool.not_eq_true', Bool.not_eq_false', Bool.and_eq_false_imp, Bool.or_eq_false_iff, bne_iff_ne, beq_iff_eq, bne_eq_false_iff_eq, beq_eq_false_iff_ne, gt_iff_lt, ge_iff_le, Int.not_lt, Int.not_le, ne_eq, Bool.true_eq_false, Bool.false_eq_true, reduceCtorEq, eta_Airway, eta_Fan, eta_Mine, bytes_nil] at hG; (try simp only [List.length_map]); omega) ?_
    | refine EqI.mk _ (fun _ => wrapI (by omega) (by omega)) ?_
    | refine EqI.mk _ (fun _ => rfl) ?_
    | refine FlF.keep ?_
    | refine EqN.mk _ (ln eI) ?_
    | refine EqN.mk _ (ln eLI) ?_
    | refine EqN.mk _ (ln eB) ?_
    | refine EqN.mk _ (Nat.zero_add _) ?_
    | refine EqN.mk (_ + 1) rfl ?_
    | refine EqN.mk _ (Int.toNat_natCast _) ?_
    | refine EqN.mk _ rfl ?_
    | refine EqL.mk _ (sn0 eI) ?_
    | refine EqL.mk _ (sn eI (by first | rfl | assumption | omega | (simp only [List.length_map, List.length_cons, List.length_nil, List.length_append, List.length_set, List.length_replicate, iotaI_len]; done) | (simp only [List.length_map, List.length_cons, List.length_nil, List.length_append, List.length_set, List.length_replicate, iotaI_len]; omega))) ?_
    | refine EqL.mk _ (ap0 eI) ?_
    | refine EqL.mk _ (ap eI (by first | rfl | assumption | omega | (simp only [List.length_map, List.length_cons, List.length_nil, List.length_append, List.length_set, List.length_replicate, iotaI_len]; done) | (simp only [List.length_map, List.length_cons, List.length_nil, List.length_append, List.length_set, List.length_replicate, iotaI_len]; omega))) ?_
    | refine EqL.mk _ (tk eI (by first | rfl | assumption | omega | (simp only [List.length_map, List.length_cons, List.length_nil, List.length_append, List.length_set, List.length_replicate, iotaI_len]; done) | (simp only [List.length_map, List.length_cons, List.length_nil, List.length_append, List.length_set, List.length_replicate, iotaI_len]; omega))) ?_
    | refine EqL.mk _ (st eI) ?_
    | refine EqL.mk _ (dt eI) ?_
    | refine EqL.mk _ (sn0 eLI) ?_
    | refine EqL.mk _ (sn eLI (by first | rfl | assumption | omega | (simp only [List.length_map, List.length_cons, List.length_nil, List.length_append, List.length_set, List.length_replicate, iotaI_len]; done) | (simp only [List.length_map, List.length_cons, List.length_nil, List.length_append, List.length_set, List.length_replicate, iotaI_len]; omega))) ?_
    | refine EqL.mk _ (ap0 eLI) ?_
    | refine EqL.mk _ (ap eLI (by first | rfl | assumption | omega | (simp only [List.length_map, List.length_cons, List.length_nil, List.length_append, List.length_set, List.length_replicate, iotaI_len]; done) | (simp only [List.length_map, List.length_cons, List.length_nil, List.length_append, List.length_set, List.length_replicate, iotaI_len]; omega))) ?_
    | refine EqL.mk _ (tk eLI (by first | rfl | assumption | omega | (simp only [List.length_map, List.length_cons, List.length_nil, List.length_append, List.length_set, List.length_replicate, iotaI_len]; done) | (simp only [List.length_map, List.length_cons, List.length_nil, List.length_append, List.length_set, List.length_replicate, iotaI_len]; omega))) ?_
    | refine EqL.mk _ (st eLI) ?_
    | refine EqL.mk _ (dt eLI) ?_
    | refine EqL.mk _ (sn0 eB) ?_
    | refine EqL.mk _ (sn eB (by first | rfl | assumption | omega | (simp only [List.length_map, List.length_cons, List.length_nil, List.length_append, List.length_set, List.length_replicate, iotaI_len]; done) | (simp only [List.length_map, List.length_cons, List.length_nil, List.length_append, List.length_set, List.length_replicate, iotaI_len]; omega))) ?_
    | refine EqL.mk _ (ap0 eB) ?_
    | refine EqL.mk _ (ap eB (by first | rfl | assumption | omega | (simp only [List.length_map, List.length_cons, List.length_nil, List.length_append, List.length_set, List.length_replicate, iotaI_len]; done) | (simp only [List.length_map, List.length_cons, List.length_nil, List.length_append, List.length_set, List.length_replicate, iotaI_len]; omega))) ?_
    | refine EqL.mk _ (tk eB (by first | rfl | assumption | omega | (simp only [List.length_map, List.length_cons, List.length_nil, List.length_append, List.length_set, List.length_replicate, iotaI_len]; done) | (simp only [List.length_map, List.length_cons, List.length_nil, List.length_append, List.length_set, List.length_replicate, iotaI_len]; omega))) ?_
    | refine EqL.mk _ (st eB) ?_
    | refine EqL.mk _ (dt eB) ?_
    | refine EqL.mk [] rfl ?_
    | refine EqL.mk [_] rfl ?_
    | refine EqL.mk _ rfl ?_
    | refine ArgF.is (c_impl_AreLocked ..) ?_
    | refine ArgQ.is (fun hG => c_impl_AreLocked ..) rfl rfl ?_
    | refine ArgF.is (c_impl_doorSet _ (by first | assumption | omega)) ?_
    | refine ArgQ.is (fun hG => c_impl_doorSet _ (by first | assumption | omega)) rfl rfl ?_
    | refine ArgQ.is (fun hG => c_impl_doorSet _ (by simp only [forall_const, eq_self, not_true_eq_false, not_false_eq_true, or_false, false_or, or_self, or_true, true_or, and_true, true_and, and_false, false_and, decide_true, decide_false, Bool.not_true, Bool.not_false, decide_eq_true_eq, decide_eq_false_iff_not, ite_and_p, ite_or_p, Bool.decide_eq_true, Bool.and_eq_true, Bool.or_eq_true, Bool.not_eq_true', Bool.not_eq_false', Bool.and_eq_false_imp, Bool.or_eq_false_iff, bne_iff_ne, beq_iff_eq, bne_eq_false_iff_eq, beq_eq_false_iff_ne, gt_iff_lt, ge_iff_le, Int.not_lt, Int.not_le, ne_eq, Bool.true_eq_false, Bool.false_eq_true, reduceCtorEq, eta_Airway, eta_Fan, eta_Mine, bytes_nil] at hG; omega)) rfl rfl ?_
    | refine ArgF.is (c_impl_openSet_locked _ _ (by first | assumption | omega) (by first | assumption | omega)) ?_
    | refine ArgQ.is (fun hG => c_impl_openSet_locked _ _ (by first | assumption | omega) (by first | assumption | omega)) rfl rfl ?_
    | refine ArgQ.is (fun hG => c_impl_openSet_locked _ _ (by simp only [forall_const, eq_self, not_true_eq_false, not_false_eq_true, or_false, false_or, or_self, or_true, true_or, and_true, true_and, and_false, false_and, decide_true, decide_false, Bool.not_true, Bool.not_false, decide_eq_true_eq, decide_eq_false_iff_not, ite_and_p, ite_or_p, Bool.decide_eq_true, Bool.and_eq_true, Bool.or_eq_true, Bool.not_eq_true', Bool.not_eq_false', Bool.and_eq_false_imp, Bool.or_eq_false_iff, bne_iff_ne, beq_iff_eq, bne_eq_false_iff_eq, beq_eq_false_iff_ne, gt_iff_lt, ge_iff_le, Int.not_lt, Int.not_le, ne_eq, Bool.true_eq_false, Bool.false_eq_true, reduceCtorEq, eta_Airway, eta_Fan, eta_Mine, bytes_nil] at hG; omega) (by simp only [forall_const, eq_self, not_true_eq_false, not_false_eq_true, or_false, false_or, or_self, or_true, true_or, and_true, true_and, and_false, false_and, decide_true, decide_false, Bool.not_true, Bool.not_false, decide_eq_true_eq, decide_eq_false_iff_not, ite_and_p, ite_or_p, Bool.decide_eq_true, Bool.and_eq_true, Bool.or_eq_true, Bool.not_eq_true', Bool.not_eq_false', Bool.and_eq_false_imp, Bool.or_eq_false_iff, bne_iff_ne, beq_iff_eq, bne_eq_false_iff_eq, beq_eq_false_iff_ne, gt_iff_lt, ge_iff_le, Int.not_lt, Int.not_le, ne_eq, Bool.true_eq_false, Bool.false_eq_true, reduceCtorEq, eta_Airway, eta_Fan, eta_Mine, bytes_nil] at hG; omega)) rfl rfl ?_
    | refine ArgF.is (c_impl_least ..) ?_
    | refine ArgQ.is (fun hG => c_impl_least ..) rfl rfl ?_
    | refine CallF.mk (CallW.is [] true rfl ?_)
    | refine CallG.mk ?_
    | (refine CondF.mk (fun hb => ?_) (fun hb => ?_) <;> try simp only [forall_const, eq_self, not_true_eq_false, not_false_eq_true, or_false, false_or, or_self, or_true, true_or, and_true, true_and, and_false, false_and, decide_true, decide_false, Bool.not_true, Bool.not_false, decide_eq_true_eq, decide_eq_false_iff_not, ite_and_p, ite_or_p, Bool.decide_eq_true, Bool.and_eq_true, Bool.or_eq_true, Bool.not_eq_true', Bool.not_eq_false', Bool.and_eq_false_imp, Bool.or_eq_false_iff, bne_iff_ne, beq_iff_eq, bne_eq_false_iff_eq, beq_eq_false_iff_ne, gt_iff_lt, ge_iff_le, Int.not_lt, Int.not_le, ne_eq, Bool.true_eq_false, Bool.false_eq_true, reduceCtorEq, eta_Airway, eta_Fan, eta_Mine] at hb)
    | apply BackF.auto6
    | apply BackF.auto3
    | refine BackB.mk ?_ ?_
    | refine RetF.auto (And.intro rfl ?_)
    | exact Is.mk rfl rfl
    | refine Is.mk ?_ rfl
    | refine Is.mk rfl ?_
    | refine Is.mk ?_ ?_
  all_goals try dsimp only
  all_goals first
    | rfl
    | omega
    | exact movV_1 hb
    | exact movV_6 (by assumption) hb
    | (have q := stO_of (by assumption) hb; exact ⟨q, rfl, rfl, by simp, bfN_0 q.g q.kg, frN_0⟩)
    | exact ⟨by omega, by omega, by omega, k1, k2, k3, k4, k5, fun i hi => absurd hi (by omega)⟩
    | exact ⟨by omega, by omega, j2, j3, j4, j5, j6, j7, qkO_s j8 j0 (keepF k0.n j4 j3 j2 j6 j7 j0 (by assumption) hb)⟩
    | (have q := addF k0.n k0.g k0.kg j4 j3 j2 j6 j7 j0 (by assumption) hb
       refine ⟨by omega, by omega, by simp; omega, by simp; omega, addO (keyO k0.n j4 j3 j2 j6 j0 (by assumption)).1 j3, by simp; omega, q.1, q.2, ?_⟩
       rw [getA j2]; exact qkO_s (qkO_a j8) j0 (fun _ => by simp))
    | exact ⟨k0, by omega, popO j4, by omega, bfN_pop j6 j2 (fun i hi hk => j8 i (by omega) hk), j7⟩
    | (have := bfN_len j6; omega)
    | (have e : k = A.length := by omega
       exact ⟨fullN_of (e ▸ k4) k5 k0.g k0.kg, by omega, k0.s, k0.ks, rfl, rfl⟩)
    | (have q := mvX k0.n k0.g k0.kg l1 l2 l3 l5 hb
       rw [q.1]
       exact ⟨l0, by omega, q.2.1, q.2.2.1, by simp [l4], q.2.2.2.1⟩)
    | (have q := mvX k0.n k0.g k0.kg l1 l2 l3 l5 hb
       rw [q.1]; exact q.2.2.2.2)
    | exact l4
    | (rw [movV_0 k0, ← l5, mvA_e (show x.toNat = bitsN to to.length by omega), List.append_nil])
    | skip
end Go.Proofs.Ytpckcolkehgdaaa
