/- Contracts of functions of the program, and what they compute. Conditions: those that each theorem states. -/
import Derived.Test.YtfcnlpghdpfjkaaProg
import Derived.Test.YtfcnlpghdpfjkaaD2
import Derived.Test.YtfcnlpghdpfjkaaD4
set_option linter.unusedVariables false
set_option linter.unusedSimpArgs false
namespace Go.Proofs.Ytfcnlpghdpfjkaa
open Go.Av
attribute [local irreducible] Go.IntKind.wrap leastI rdZ rd rootI okAirway
set_option maxRecDepth 20000
set_option maxHeartbeats 16000000

/-! Mines that are drawn valid. -/
--@fn spec.l03DrawOk
theorem drawAwV (c : List Int) (p s : Int) (id : ByteArray) (a b : Int) (hc : bytes c) (hp : 0 ≤ p ∧ p ≤ 50000000) : FnSem Try.prog 143 [.own 0 0, Str id, In a, In b] [srcO c p s] (SrcV (fun x : GAirway => [.p .flat (.agg x.cells)]) (fun x => (x.id = id ∧ x.from_ = a ∧ x.to = b) ∧ (20 ≤ x.length ∧ x.length ≤ 919) ∧ (300 ≤ x.section_ ∧ x.section_ ≤ 1799) ∧ (20 ≤ x.friction ∧ x.friction ≤ 219) ∧ 0 ≤ x.shock ∧ x.shock ≤ 59) c 8 p) := by
  refine FnSem.walk (zs := zeroPV Try.prog) (by kernel_rfl) Try.func143 rfl Try.results143 (by kernel_rfl) (by kernel_rfl) (by kernel_rfl) fun hw hh => ?_
  obtain ⟨w0, w1, w2, w3, _⟩ := hw
  first | replace w0 := wfr_L00Src w0 | skip
  first | replace w1 := wf_S w1 | skip
  first | replace w2 := wf_I w2 | skip
  first | replace w3 := wf_I w3 | skip
  repeat' first
    | refine And.intro rfl ?_
    | refine GdF.mk (fun h => h) ?_
    | refine And.intro (Nat.succ_ne_zero _) ?_
    | refine And.intro (Nat.le_of_ble_eq_true rfl) ?_
    | refine SeqF.run ?_
    | refine SrcV.mk (α := GAirway) ⟨_, _, _, _, _, _, _⟩ _ _ rfl rfl ?_ ?_
    | refine GhF.go ?_
    | refine BndF.mk (fun _ => by omega) ?_
    | refine BndF.mk (fun _ => by simp only [List.length_map, List.length_cons, List.length_nil, List.length_append, List.length_set, List.length_replicate, iotaI_len]; omega) ?_
    | refine EqI.mk _ (fun _ => wrapI (by omega) (by omega)) ?_
    | refine EqI.mk _ (fun _ => rfl) ?_
    | refine EqL.mk [] rfl ?_
    | refine EqL.mk [_] rfl ?_
    | refine EqL.mk _ rfl ?_
    | (refine ArgF.src (c_spec_l00Src_pick _ _ _ _ (by first | assumption | omega | rfl | (simp only [List.length_cons, List.length_nil]; omega)) (by first | assumption | omega | rfl | (simp only [List.length_cons, List.length_nil]; omega)) (by first | assumption | omega | rfl | (simp only [List.length_cons, List.length_nil]; omega))) ?_; intro _ _ _ _ _)
    | refine CallF.own (f := 76) [0] false ?_
    | refine CallF.mk (CallW.is [] true rfl ?_)
    | refine CallG.mk ?_
    | (refine CondF.mk (fun hb => ?_) (fun hb => ?_) <;> try simp only [forall_const, eq_self, not_true_eq_false, not_false_eq_true, or_false, false_or, or_self, or_true, true_or, and_true, true_and, and_false, false_and, decide_true, decide_false, Bool.not_true, Bool.not_false, decide_eq_true_eq, decide_eq_false_iff_not, ite_and_p, ite_or_p, Bool.decide_eq_true, Bool.and_eq_true, Bool.or_eq_true, Bool.not_eq_true', Bool.not_eq_false', Bool.and_eq_false_imp, Bool.or_eq_false_iff, bne_iff_ne, beq_iff_eq, bne_eq_false_iff_eq, beq_eq_false_iff_ne, gt_iff_lt, ge_iff_le, Int.not_lt, Int.not_le, ne_eq, Bool.true_eq_false, Bool.false_eq_true, reduceCtorEq, eta_Airway, eta_Fan, eta_Mine] at hb)
    | refine RetF.auto (And.intro rfl ?_)
    | exact Is.mk rfl rfl
    | refine Is.mk ?_ rfl
    | refine Is.mk rfl ?_
    | refine Is.mk ?_ ?_
  all_goals try dsimp only
  all_goals first | omega | (refine ⟨⟨rfl, rfl, rfl⟩, ?_⟩; omega) | skip
/-- the names of drawn airways -/
def nmA (i : Nat) : ByteArray := ⟨#[UInt8.ofNat (97 + i)]⟩
theorem nmA_ok : ∀ i : Nat, i < 8 → isName (nmA i) = true := by decide
theorem nmA_lt : ∀ i : Nat, i < 8 → ∀ j : Nat, j < 8 → i < j → sLt (nmA i) (nmA j) = true := by decide +kernel
theorem nmA_eq : ∀ i : Nat, i < 8 → ([⟨#[97]⟩, ⟨#[98]⟩, ⟨#[99]⟩, ⟨#[100]⟩, ⟨#[101]⟩, ⟨#[102]⟩, ⟨#[103]⟩, ⟨#[104]⟩] : List ByteArray).getD i ⟨#[]⟩ = nmA i := by decide
/-- what is drawn so far -/
structure dvI (J : Int) (k : Int) (xs : List GAirway) : Prop where
  ok : okTo (okAw J) (fun a b => sLt a.id b.id) default xs xs.length
  nm : 0 < xs.length → ∃ i : Nat, (i : Int) < k ∧ (xs.getD (xs.length - 1) default).id = nmA i
theorem dvI_0 {J : Int} : dvI J 0 [] := ⟨okTo_0, fun h => absurd h (by simp)⟩
theorem dvI_k {J k : Int} {xs : List GAirway} (h : dvI J k xs) : dvI J (k + 1) xs := ⟨h.ok, fun h0 => by obtain ⟨i, h1, h2⟩ := h.nm h0; exact ⟨i, by omega, h2⟩⟩
theorem getA {xs : List GAirway} {x : GAirway} {j : Nat} (h : j < xs.length) : (xs ++ [x]).getD j default = xs.getD j default := by
  rw [List.getD_eq_getElem?_getD, List.getD_eq_getElem?_getD, List.getElem?_append_left h]
theorem getAE {xs : List GAirway} {x : GAirway} : (xs ++ [x]).getD xs.length default = x := by simp [List.getD_eq_getElem?_getD]
theorem dvI_a {J k a b : Int} {xs : List GAirway} {x : GAirway} (h : dvI J k xs) (hk : 0 ≤ k ∧ k < 8) (hJ : 2 ≤ J ∧ J ≤ 6) (hx : (x.id = nmA k.toNat ∧ x.from_ = a ∧ x.to = b) ∧ (20 ≤ x.length ∧ x.length ≤ 919) ∧ (300 ≤ x.section_ ∧ x.section_ ≤ 1799) ∧ (20 ≤ x.friction ∧ x.friction ≤ 219) ∧ 0 ≤ x.shock ∧ x.shock ≤ 59)
    (ha : 0 ≤ a ∧ a < J) (hb : 0 ≤ b ∧ b < J) (hab : a ≠ b) : dvI J (k + 1) (xs ++ [x]) := by
  obtain ⟨⟨h1, h2, h3⟩, h4⟩ := hx
  have hok : okAw J x = true := by
    unfold okAw endsA inJ okAirway
    simp only [Bool.and_eq_true, inR_iff, bne_iff_ne, ne_eq]
    rw [h1, h2, h3]
    exact ⟨⟨⟨⟨⟨⟨⟨⟨nmA_ok _ (by omega), by omega⟩, by omega⟩, hab⟩, by omega⟩, by omega⟩, by omega⟩, by omega⟩, by omega, by omega⟩
  refine ⟨⟨fun j hj => ?_, fun j hj => ?_⟩, fun _ => ⟨k.toNat, by omega, ?_⟩⟩
  · rw [List.length_append, List.length_singleton] at hj
    by_cases e : j < xs.length
    · rw [getA e]; exact h.ok.1 j (by omega)
    · rw [show j = xs.length by omega, getAE]; exact hok
  · rw [List.length_append, List.length_singleton] at hj
    by_cases e : j < xs.length
    · rcases h.ok.2 j (by omega) with h0 | h0
      · exact .inl h0
      · rw [getA e, getA (by omega)]; exact .inr h0
    · by_cases e0 : j = 0
      · exact .inl e0
      · right
        rw [show j = xs.length by omega, getAE, getA (by omega)]
        obtain ⟨i, i1, i2⟩ := h.nm (by omega)
        show sLt (xs.getD (xs.length - 1) default).id x.id = true
        rw [i2, h1]; exact nmA_lt i (by omega) _ (by omega) (by omega)
  · rw [List.length_append, List.length_singleton, Nat.add_sub_cancel, getAE]; exact h1
theorem dvI_ok {J k : Int} {xs : List GAirway} (h : dvI J k xs) (hJ : 2 ≤ J ∧ J ≤ 6) (hl : xs.length ≤ 8) : okMine ⟨J, xs⟩ = true := by
  unfold okMine
  dsimp only
  rw [okAll_t (Int.le_refl _) h.ok, inR_iff.2 (by omega), decide_eq_true (by omega)]; rfl
theorem mod_bd {x J : Int} (hJ : 2 ≤ J) : 0 ≤ x % J ∧ x % J < J := ⟨Int.emod_nonneg _ (by omega), Int.emod_lt_of_pos _ (by omega)⟩
theorem mod_ne {a r J : Int} (hJ : 2 ≤ J) (ha : 0 ≤ a ∧ a < J) (hr : 0 ≤ r ∧ r < J - 1) : a ≠ (a + 1 + r) % J := fun e => by
  by_cases h : a + 1 + r < J
  · rw [Int.emod_eq_of_lt (by omega) h] at e; omega
  · rw [← Int.sub_emod_right, Int.emod_eq_of_lt (by omega) (by omega)] at e; omega
--@fn spec.l04DrawOk
theorem drawMnV (c : List Int) (p s : Int) (hc : bytes c) (hp : 0 ≤ p ∧ p ≤ 10000000) : FnSem Try.prog 75 [.own 0 0] [srcO c p s] (SrcX mineR (fun v => [RwA v.2.2]) (fun v => 2 ≤ v.1 ∧ v.1 ≤ 6 ∧ v.2.1 = v.2.2.length ∧ v.2.1 ≤ 8 ∧ okMine ⟨v.1, v.2.2⟩ = true) c 300 p) := by
  refine FnSem.old ?_
  refine FnSem.walk (zs := zeroPV Try.prog) (by kernel_rfl) Try.func75 rfl Try.results75 (by kernel_rfl) (by kernel_rfl) (by kernel_rfl) fun hw hh => ?_
  obtain ⟨w0, _⟩ := hw
  first | replace w0 := wfr_L00Src w0 | skip
  repeat' first
    | refine And.intro rfl ?_
    | refine GdF.mk (fun h => h) ?_
    | refine And.intro (Nat.succ_ne_zero _) ?_
    | refine And.intro (Nat.le_of_ble_eq_true rfl) ?_
    | refine SeqF.run ?_
    | refine GdS.tt (by first | rfl | assumption) ?_
    | refine GdS.ff (by first | rfl | assumption) ?_
    | refine GdS.split (fun hg => ?_) (fun hg => ?_)
    | refine GdF.mk (fun h => by first | exact h | rfl | (rw [hg] at h; exact h)) ?_
    | refine OpH.heap ?_
    | refine GhF.at 3 rfl [.old 3] ?_
    | refine GhF.held 10 rfl [(6, [0])] ?_
    | refine GhF.held 14 rfl [(9, [0]), (10, []), (11, [4]), (13, [3])] ?_
    | (refine SeqF.cutfix (a := codeF _ _ _ (.cond (.tmp 52) _ _)) [0, 2, 3, 4, 5] [0, 1, 2, 3, 4] (Int × Int × Int × Int) (fun (a, b, q2, t2) => q ≤ q2 ∧ q2 ≤ q + 12 ∧ (0 ≤ a ∧ a < 2 + v) ∧ (0 ≤ b ∧ b < 2 + v) ∧ a ≠ b) (fun (a, b, q2, t2) => [(6, In a), (7, In b)]) (fun (a, b, q2, t2) => [srcO c q2 t2, .fix [In 0, .p .flat (.c (.slice none 0 0))], Rw .flat (eS ⟨#[]⟩) (List.map eS _), .fix [In (2 + v), .osl 4 0 n], RwA xs]) ?_ ?_; rotate_left; rintro ⟨a, b, q2, t2⟩ ⟨g0, g1, g2, g3, g4⟩; rotate_left)
    | refine FitF.auto4 _ _ _ _ ?_
    | refine EqI.mk _ (fun _ => by have q1 := mod_bd (x := k) (J := 2 + v) (by omega); exact wrapI (by omega) (by omega)) ?_
    | refine EqI.mk _ (fun _ => by have q1 := mod_bd (x := k) (J := 2 + v) (by omega); exact modE (by omega)) ?_
    | (refine ArgF.src (drawAwV _ _ _ _ _ _ hc (by omega)) ?_; intro x p2 s2 hx hp2)
    | (rename_i v p1 s1 _ _; refine LoopF.at 4 rfl (LoopF.fix [0, 2, 3, 4] (Int × Nat × List GAirway × Int × Int) (fun (k, n, xs, q, t) => 0 ≤ k ∧ k ≤ 8 ∧ n = xs.length ∧ (n : Int) ≤ k ∧ p ≤ q ∧ q ≤ p + 2 + 30 * k ∧ dvI (2 + v) k xs) (fun (k, n, xs, q, t) => [(5, In k)]) (fun (k, n, xs, q, t) => [(0, srcO c q t), (3, .fix [In (2 + v), .osl 4 0 n]), (4, RwA xs)]) (fun (k, n, xs, q, t) => ((8 - k).toNat)) ((0, 0, [], p1, s1)) ?_))
    | (refine LoopB.of (T := Int × Nat × List GAirway × Int × Int) ?_ ?_; rotate_left; rintro ⟨k, n, xs, q, t⟩ ⟨h0, h1, h2, h3, h4, h5, h6⟩; rotate_left)
    | refine EqL.mk _ (sn GAirway.cells (v := _) (by first | rfl | assumption | omega | (simp only [List.length_append, List.length_cons, List.length_nil]; omega))) ?_
    | refine SrcX.mk (α := Int × Nat × List GAirway) (_, _, _) _ _ rfl rfl ?_ ?_
    | refine HdF.at 11 rfl 0 [] (And.intro (by decide +kernel) (And.intro rfl ?_))
    | refine HdF.at 10 rfl 1 [] (And.intro (by decide +kernel) (And.intro rfl ?_))
    | refine HdF.at 9 rfl 2 [] (And.intro (by decide +kernel) (And.intro rfl ?_))
    | refine HdF.at 8 rfl 3 [] (And.intro (by decide +kernel) (And.intro rfl ?_))
    | refine HdF.at 7 rfl 4 [5, 6, 7, 10, 11] (And.intro (by decide +kernel) (And.intro rfl ?_))
    | refine HdF.at 6 rfl 5 [] (And.intro (by decide +kernel) (And.intro rfl ?_))
    | refine HdF.at 5 rfl 8 [] (And.intro (by decide +kernel) (And.intro rfl ?_))
    | refine HdF.at 4 rfl 9 [10, 11] (And.intro (by decide +kernel) (And.intro rfl ?_))
    | refine HdF.goAt 3 rfl ?_
    | refine OrdL.ord ?_
    | refine OrdF.take 7 (by decide +kernel) (And.intro rfl ?_)
    | refine OrdF.take 10 (by decide +kernel) (And.intro rfl ?_)
    | refine OrdF.take 11 (by decide +kernel) (And.intro rfl ?_)
    | refine OrdF.all [6] (by decide +kernel) ?_
    | refine OrdF.fin (by decide +kernel) ?_
    | refine AllF.one _ ?_
    | refine AllF.cons _ _ ?_ ?_
    | refine OpH.quiet rfl ?_
    | refine OpH.heap ?_
    | refine HdF.at 13 rfl 0 [] (And.intro (by decide +kernel) (And.intro rfl ?_))
    | refine HdF.at 12 rfl 1 [11, 12, 13] (And.intro (by decide +kernel) (And.intro rfl ?_))
    | refine HdF.at 11 rfl 2 [] (And.intro (by decide +kernel) (And.intro rfl ?_))
    | refine HdF.at 10 rfl 3 [] (And.intro (by decide +kernel) (And.intro rfl ?_))
    | refine HdF.at 9 rfl 4 [] (And.intro (by decide +kernel) (And.intro rfl ?_))
    | refine HdF.at 8 rfl 5 [] (And.intro (by decide +kernel) (And.intro rfl ?_))
    | refine HdF.at 7 rfl 6 [9, 10, 11, 12, 13] (And.intro (by decide +kernel) (And.intro rfl ?_))
    | refine HdF.at 6 rfl 7 [] (And.intro (by decide +kernel) (And.intro rfl ?_))
    | refine HdF.at 5 rfl 8 [] (And.intro (by decide +kernel) (And.intro rfl ?_))
    | refine HdF.goAt 4 rfl ?_
    | refine OrdL.ord ?_
    | refine OrdF.take 12 (by decide +kernel) (And.intro rfl ?_)
    | refine OrdF.all [13] (by decide +kernel) ?_
    | refine OrdF.all [11] (by decide +kernel) ?_
    | refine OrdF.all [10] (by decide +kernel) ?_
    | refine OrdF.all [9] (by decide +kernel) ?_
    | refine OrdF.fin (by decide +kernel) ?_
    | refine AllF.one _ ?_
    | refine AllF.cons _ _ ?_ ?_
    | refine OpH.quiet rfl ?_
    | refine OpH.heap ?_
    | refine GhF.go ?_
    | refine GdS.keep ?_
    | refine DrawG.old (DrawF.lex (by decide +kernel) ?_)
    | refine DrawG.old (DrawF.any ?_)
    | refine OrdF.take 0 (by decide +kernel) ?_
    | refine OrdF.take 2 (by decide +kernel) ?_
    | refine OrdF.take 3 (by decide +kernel) ?_
    | refine OrdF.take 4 (by decide +kernel) ?_
    | refine OrdF.take 5 (by decide +kernel) ?_
    | refine OrdF.take 7 (by decide +kernel) ?_
    | refine OrdF.take 8 (by decide +kernel) ?_
    | refine OrdF.take 12 (by decide +kernel) ?_
    | refine OrdF.all [13] (by decide +kernel) ?_
    | refine OrdF.all [11] (by decide +kernel) ?_
    | refine OrdF.all [1] (by decide +kernel) ?_
    | refine OrdF.all [10] (by decide +kernel) ?_
    | refine OrdF.all [1, 10] (by decide +kernel) ?_
    | refine OrdF.all [9] (by decide +kernel) ?_
    | refine OrdF.all [1, 9] (by decide +kernel) ?_
    | refine OrdF.all [6] (by decide +kernel) ?_
    | refine OrdF.all [1, 6] (by decide +kernel) ?_
    | refine OrdF.fin (by decide +kernel) ?_
    | refine AllF.one _ ?_
    | refine AllF.cons _ _ ?_ ?_
    | refine MkF.row ?_
    | refine EqP.mk _ (gm GAirway.cells default rfl) ?_
    | refine EqP.mk _ (gm eS ⟨#[]⟩ rfl) ?_
    | refine BndF.mk (fun _ => by omega) ?_
    | refine BndF.mk (fun _ => by simp only [List.length_map, List.length_cons, List.length_nil, List.length_append, List.length_set, List.length_replicate, iotaI_len]; omega) ?_
    | refine BndF.mk (fun hG => by simp only [forall_const, eq_self, not_true_eq_false, not_false_eq_true, or_false, false_or, or_self, or_true, true_or, and_true, true_and, and_false, false_and, decide_true, decide_false, Bool.not_true, Bool.not_false, decide_eq_true_eq, decide_eq_false_iff_not, ite_and_p, ite_or_p, Bool.decide_eq_true, Bool.and_eq_true, Bool.or_eq_true, Bool.not_eq_true', Bool.not_eq_false', Bool.and_eq_false_imp, Bool.or_eq_false_iff, bne_iff_ne, beq_iff_eq, bne_eq_false_iff_eq, beq_eq_false_iff_ne, gt_iff_lt, ge_iff_le, Int.not_lt, Int.not_le, ne_eq, Bool.true_eq_false, Bool.false_eq_true, reduceCtorEq, eta_Airway, eta_Fan, eta_Mine, bytes_nil] at hG; (try simp only [List.length_map]); omega) ?_
    | refine EqI.mk _ (fun _ => wrapI (by omega) (by omega)) ?_
    | refine EqI.mk _ (fun _ => modE (by omega)) ?_
    | refine EqI.mk _ (fun _ => rfl) ?_
    | refine FlF.keep ?_
    | refine EqN.mk _ (ln GAirway.cells) ?_
    | refine EqN.mk _ (ln eS) ?_
    | refine EqN.mk _ (Nat.zero_add _) ?_
    | refine EqN.mk (_ + 1) rfl ?_
    | refine EqN.mk _ (Int.toNat_natCast _) ?_
    | refine EqN.mk _ rfl ?_
    | refine EqL.mk _ (sn0 GAirway.cells) ?_
    | refine EqL.mk _ (sn GAirway.cells (by first | rfl | assumption | omega | (simp only [List.length_map, List.length_cons, List.length_nil, List.length_append, List.length_set, List.length_replicate, iotaI_len]; done) | (simp only [List.length_map, List.length_cons, List.length_nil, List.length_append, List.length_set, List.length_replicate, iotaI_len]; omega))) ?_
    | refine EqL.mk _ (ap0 GAirway.cells) ?_
    | refine EqL.mk _ (ap GAirway.cells (by first | rfl | assumption | omega | (simp only [List.length_map, List.length_cons, List.length_nil, List.length_append, List.length_set, List.length_replicate, iotaI_len]; done) | (simp only [List.length_map, List.length_cons, List.length_nil, List.length_append, List.length_set, List.length_replicate, iotaI_len]; omega))) ?_
    | refine EqL.mk _ (tk GAirway.cells (by first | rfl | assumption | omega | (simp only [List.length_map, List.length_cons, List.length_nil, List.length_append, List.length_set, List.length_replicate, iotaI_len]; done) | (simp only [List.length_map, List.length_cons, List.length_nil, List.length_append, List.length_set, List.length_replicate, iotaI_len]; omega))) ?_
    | refine EqL.mk _ (st GAirway.cells) ?_
    | refine EqL.mk _ (sn0 eS) ?_
    | refine EqL.mk _ (sn eS (by first | rfl | assumption | omega | (simp only [List.length_map, List.length_cons, List.length_nil, List.length_append, List.length_set, List.length_replicate, iotaI_len]; done) | (simp only [List.length_map, List.length_cons, List.length_nil, List.length_append, List.length_set, List.length_replicate, iotaI_len]; omega))) ?_
    | refine EqL.mk _ (ap0 eS) ?_
    | refine EqL.mk _ (ap eS (by first | rfl | assumption | omega | (simp only [List.length_map, List.length_cons, List.length_nil, List.length_append, List.length_set, List.length_replicate, iotaI_len]; done) | (simp only [List.length_map, List.length_cons, List.length_nil, List.length_append, List.length_set, List.length_replicate, iotaI_len]; omega))) ?_
    | refine EqL.mk _ (tk eS (by first | rfl | assumption | omega | (simp only [List.length_map, List.length_cons, List.length_nil, List.length_append, List.length_set, List.length_replicate, iotaI_len]; done) | (simp only [List.length_map, List.length_cons, List.length_nil, List.length_append, List.length_set, List.length_replicate, iotaI_len]; omega))) ?_
    | refine EqL.mk _ (st eS) ?_
    | refine EqL.mk (List.map eS [_, _, _, _, _, _, _, _]) rfl ?_
    | refine EqL.mk [] rfl ?_
    | refine EqL.mk [_] rfl ?_
    | refine EqL.mk _ rfl ?_
    | (refine ArgF.src (c_spec_l00Src_pick _ _ _ _ (by first | assumption | omega | rfl | (simp only [List.length_cons, List.length_nil]; omega)) (by first | assumption | omega | rfl | (simp only [List.length_cons, List.length_nil]; omega)) (by first | assumption | omega | rfl | (simp only [List.length_cons, List.length_nil]; omega))) ?_; intro _ _ _ _ _)
    | (refine ArgF.src (c_spec_l00Src_one _ _ _ _ (by first | assumption | omega | rfl | (simp only [List.length_cons, List.length_nil]; omega)) (by first | assumption | omega | rfl | (simp only [List.length_cons, List.length_nil]; omega)) (by first | assumption | omega | rfl | (simp only [List.length_cons, List.length_nil]; omega))) ?_; intro _ _ _ _ _)
    | (refine ArgF.src (c_spec_l03DrawOk _ _ _ _ _ _ (by first | assumption | omega | rfl | (simp only [List.length_cons, List.length_nil]; omega)) (by first | assumption | omega | rfl | (simp only [List.length_cons, List.length_nil]; omega))) ?_; intro _ _ _ _ _)
    | refine CallF.own (f := 76) [0] false ?_
    | refine CallF.own (f := 107) [0] false ?_
    | refine CallF.own (f := 143) [0] false ?_
    | refine CallF.mk (CallW.is [] true rfl ?_)
    | refine CallG.mk ?_
    | (refine CondF.mk (fun hb => ?_) (fun hb => ?_) <;> try simp only [forall_const, eq_self, not_true_eq_false, not_false_eq_true, or_false, false_or, or_self, or_true, true_or, and_true, true_and, and_false, false_and, decide_true, decide_false, Bool.not_true, Bool.not_false, decide_eq_true_eq, decide_eq_false_iff_not, ite_and_p, ite_or_p, Bool.decide_eq_true, Bool.and_eq_true, Bool.or_eq_true, Bool.not_eq_true', Bool.not_eq_false', Bool.and_eq_false_imp, Bool.or_eq_false_iff, bne_iff_ne, beq_iff_eq, bne_eq_false_iff_eq, beq_eq_false_iff_ne, gt_iff_lt, ge_iff_le, Int.not_lt, Int.not_le, ne_eq, Bool.true_eq_false, Bool.false_eq_true, reduceCtorEq, eta_Airway, eta_Fan, eta_Mine] at hb)
    | apply BackF.auto5
    | refine BackB.mk ?_ ?_
    | refine RetF.auto (And.intro rfl ?_)
    | exact Is.mk rfl rfl
    | refine Is.mk ?_ rfl
    | refine Is.mk rfl ?_
    | refine Is.mk ?_ ?_
  all_goals try dsimp only
  all_goals first
    | omega
    | exact ⟨by omega, by omega, rfl, by simp, by omega, by omega, dvI_0⟩
    | exact ⟨by omega, by omega, h2, by omega, by omega, by omega, dvI_k h6⟩
    | exact ⟨by omega, by omega, h2, by omega, dvI_ok h6 (by omega) (by omega)⟩
    | (refine ⟨by omega, by omega, by rw [List.length_append, List.length_singleton]; omega, by omega, by omega, by omega, ?_⟩
       have e := nmA_eq k.toNat (by omega)
       exact dvI_a h6 ⟨h0, by omega⟩ (by omega) ⟨⟨hx.1.1.trans e, hx.1.2.1, hx.1.2.2⟩, hx.2⟩ (by first | omega | exact mod_bd (by omega)) (by first | omega | exact mod_bd (by omega)) (by first | omega | exact mod_ne (by omega) (by first | omega | exact mod_bd (by omega)) (by omega)))
    | skip
end Go.Proofs.Ytfcnlpghdpfjkaa

