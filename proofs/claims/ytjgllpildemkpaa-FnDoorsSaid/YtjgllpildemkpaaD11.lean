/- Contracts of functions of the program, and what they compute. Conditions: those that each theorem states. -/
import Derived.Test.YtjgllpildemkpaaProg
import Derived.Test.YtjgllpildemkpaaD10
import Derived.Test.YtjgllpildemkpaaM2
set_option linter.unusedVariables false
set_option linter.unusedSimpArgs false
namespace Go.Proofs.Ytjgllpildemkpaa
open Go.Av
attribute [local irreducible] Go.IntKind.wrap leastI rdZ rd rootI rawA resL dropI binI doorsN openD shareI okDoors openOk openL openErr regI regOk shaI shaOk
set_option maxRecDepth 20000
set_option maxHeartbeats 8000000

/-! The law of doors. -/
theorem openErr_ne {m : GMine} {ds : List GDoor} {st : List Bool} : ¬openErr m ds st = 0 := by unfold openErr; split <;> (try split) <;> decide
/-- what OpenDoors tells, in one form -/
inductive OpenR (m : GMine) (ds : List GDoor) (st : List Bool) (rs : List AV) (ho : List OB) : Prop
  | mk (c : Int) (ys : List Int) (h1 : rs = [.osl 0 0 ys.length, In c]) (h2 : ho = [Rw .flat (eI 0) (ys.map eI)]) (h3 : c = 0 → openOk m ds st = true ∧ ys = openL m ds st) (h4 : openOk m ds st = true → c = 0)
theorem openR (m : GMine) (ds : List GDoor) (st : List Bool) : FnSem Try.prog 17 [.p .any (.agg m.cells), Lx (.lst (GDoor.cells default) (ds.map GDoor.cells)), Lx (LB st)] [] (OpenR m ds st) := by
  refine (c_impl_OpenDoors m ds st).mono ?_
  rintro rs ho (⟨h, h1, h2⟩ | ⟨h, h1, h2⟩)
  · exact .mk (openErr m ds st) [] h1 h2 (fun e => absurd e openErr_ne) (fun e => by rw [h] at e; cases e)
  · exact .mk 0 (openL m ds st) h1 h2 (fun _ => ⟨h, rfl⟩) (fun _ => rfl)
inductive RegR (r q d : Int) (rs : List AV) (ho : List OB) : Prop
  | mk (x c : Int) (h2 : rs = [In x, In c]) (h3 : ho = []) (h : c = 0 → (1 ≤ r ∧ 0 ≤ x ∧ r + x ≤ 1000000) ∧ (1 ≤ q ∧ q ≤ 100000) ∧ d ≤ dropI (r + x) q ∧ (0 < x → dropI (r + x - 1) q < d))
theorem regR (r q d : Int) : FnSem Try.prog 20 [In r, In q, In d] [] (RegR r q d) := by
  refine (c_impl_RegulatorFor r q d).mono ?_
  rintro rs ho ⟨rfl, rfl⟩
  refine .mk _ _ rfl rfl fun e => ?_
  by_cases h : regOk r q d = true
  · rw [if_neg (by rw [h]; decide)] at e
    by_cases h1 : regI r q d ≤ 1000000 - r
    · rw [h, decide_eq_true h1]; exact reg_law h h1
    · rw [if_neg h1] at e; cases e
  · rw [Bool.not_eq_true] at h
    rw [if_pos h] at e; cases e
inductive ShaR (a b s : Int) (rs : List AV) (ho : List OB) : Prop
  | mk (x c : Int) (h2 : rs = [In x, In c]) (h3 : ho = []) (h4 : c = 0 ∨ x = 0) (h : c = 0 → (1 ≤ a ∧ 0 ≤ x ∧ a + x ≤ 1000000) ∧ (1 ≤ b ∧ b ≤ 1000000) ∧ shareI (a + x) b ≤ s ∧ (-1 ≤ shareI (a + x) b + shareI b (a + x) - 1000 ∧ shareI (a + x) b + shareI b (a + x) - 1000 ≤ 1) ∧ (0 ≤ shareI (a + x) b ∧ shareI (a + x) b ≤ 1000) ∧ 0 ≤ shareI b (a + x) ∧ shareI b (a + x) ≤ 1000)
theorem shareI_b {a b : Int} (hr : 1 ≤ a ∧ a ≤ 1000000) (hq : 1 ≤ b ∧ b ≤ 1000000) : 0 ≤ shareI a b ∧ shareI a b ≤ 1000 := by
  have h1 := root_b hr
  have h2 := root_b hq
  unfold shareI
  rw [rdZ_p (by omega)]
  exact ⟨rd_lo (by omega) (by omega) (by omega), rd_hi (by omega) (by omega) (by omega)⟩
theorem shaR (r q d : Int) : FnSem Try.prog 23 [In r, In q, In d] [] (ShaR r q d) := by
  refine (c_impl_RegulatorForShare r q d).mono ?_
  rintro rs ho ⟨rfl, rfl⟩
  refine .mk _ _ rfl rfl ?_ fun e => ?_
  · by_cases h : shaOk r q d = true
    · by_cases h1 : shaI r q d ≤ 1000000 - r
      · left; rw [if_neg (by rw [h]; decide), if_pos h1]
      · right; rw [h, decide_eq_false h1]; rfl
    · rw [Bool.not_eq_true] at h
      right; rw [h]; rfl
  by_cases h : shaOk r q d = true
  · rw [if_neg (by rw [h]; decide)] at e
    by_cases h1 : shaI r q d ≤ 1000000 - r
    · rw [h, decide_eq_true h1]
      have h2 := sha_law h h1
      have h3 := shareI_b (a := r + shaI r q d) (b := q) (by omega) (by omega)
      have h4 := shareI_b (a := q) (b := r + shaI r q d) (by omega) (by omega)
      exact ⟨h2.1, h2.2.1, h2.2.2.1, h2.2.2.2, h3, h4⟩
    · rw [if_neg h1] at e; cases e
  · rw [Bool.not_eq_true] at h
    rw [if_pos h] at e; cases e
theorem dropOk (r q : Int) (hr : 1 ≤ r ∧ r ≤ 1000000) (hq : -100000 ≤ q ∧ q ≤ 100000) : FnSem Try.prog 21 [In r, In q] [] (Is [In (dropI r q), In 0] []) := by
  have h := c_spec_DropOf r q
  rw [inR_iff.2 hr, inR_iff.2 hq] at h
  exact h
theorem shareOk (a b : Int) (hr : 1 ≤ a ∧ a ≤ 1000000) (hq : 1 ≤ b ∧ b ≤ 1000000) : FnSem Try.prog 24 [In a, In b] [] (Is [In (shareI a b), In 0] []) := by
  have h := c_impl_ShareBeside a b
  rw [inR_iff.2 hr, inR_iff.2 hq] at h
  exact h
theorem stB {xs : List Bool} {k : Nat} {v w : Bool} {c : Nat} (hc : c = 1) : (xs.map eB).set k (List.take 0 (eB w) ++ pvCells (.c (.bool v)) ++ List.drop (0 + c) (eB w)) = (xs.set k v).map eB := by
  subst hc; exact st eB
theorem c_laws_FnDoors (c1 c2 : List Int) : FnSem Try.prog 3 [Lx (LY c1), Lx (LY c2)] [] (Is [Bo true] []) := by
  refine FnSem.walk (zs := zeroPV Try.prog) (by kernel_rfl) Try.func3 rfl Try.results3 (by kernel_rfl) (by kernel_rfl) (by kernel_rfl) fun hw hh => ?_
  obtain ⟨w0, w1, _⟩ := hw
  first | replace w0 := wf_I w0 | replace w0 := wf_Y w0 | replace w0 := wf_S w0 | replace w0 := wf_LI w0 | replace w0 := wf_LY w0 | replace w0 := wf_LLI w0 | replace w0 := wf_Ls w0 | skip
  first | replace w1 := wf_I w1 | replace w1 := wf_Y w1 | replace w1 := wf_S w1 | replace w1 := wf_LI w1 | replace w1 := wf_LY w1 | replace w1 := wf_LLI w1 | replace w1 := wf_Ls w1 | skip
  repeat' first
    | refine And.intro rfl ?_
    | refine GdF.mk (fun h => h) ?_
    | refine And.intro (Nat.succ_ne_zero _) ?_
    | refine And.intro (Nat.le_of_ble_eq_true rfl) ?_
    | refine SeqF.run ?_
    | refine EqL.mk _ (stB (by kernel_rfl)) ?_
    | (refine ArgF.mk _ (c_spec_DrawOpenDoors _) (fun rs ho hR _ => ?_); obtain ⟨⟨j, n, xs, k, ds, l, st⟩, rfl, rfl, e1, e2, e3, hl, hn⟩ := hR; dsimp only at e1 e2 e3 hl hn ⊢; subst e1; subst e2; subst e3)
    | (refine ArgF.mk _ (openR ⟨j, xs⟩ ds st) (fun rs ho hR _ => ?_); obtain ⟨c, ys, rfl, rfl, hs, _⟩ := hR)
    | (refine ArgF.ret (c_laws_b10At _ _ _ (by omega)) ?_; intro v hv; simp only [List.length_map] at hv; have hq := open_law v.toNat (hs (And.left (by assumption))).1)
    | (refine ArgF.mk _ (openR ⟨j, xs⟩ ds (st.set v.toNat true)) (fun rs ho hR _ => ?_); obtain ⟨c', zs, rfl, rfl, ht, hu⟩ := hR; obtain rfl := hu hq.1; obtain ⟨_, rfl⟩ := ht rfl; obtain ⟨_, rfl⟩ := hs (And.left (by assumption)))
    | (refine ArgF.ret (c_spec_DrawRegulatorFor _) ?_; rintro ⟨r, q, d⟩ _; dsimp only)
    | (refine ArgF.mk _ (regR r q d) (fun rs ho hR _ => ?_); obtain ⟨x, c, rfl, rfl, hR⟩ := hR)
    | refine ArgF.is (dropOk (r + x) q (by have := hR (by assumption); omega) (by have := hR (by assumption); omega)) ?_
    | refine ArgQ.is (fun hG => dropOk (r + x) q (by have := hR (by assumption); omega) (by have := hR (by assumption); omega)) rfl rfl ?_
    | refine ArgF.is (dropOk (r + x - 1) q (by have := hR (by assumption); omega) (by have := hR (by assumption); omega)) ?_
    | refine ArgQ.is (fun hG => dropOk (r + x - 1) q (by have := hR (by assumption); omega) (by have := hR (by assumption); omega)) rfl rfl ?_
    | refine EqI.mk _ (fun _ => by have := hR (by assumption); exact wrapI (by omega) (by omega)) ?_
    | (refine ArgF.ret (c_spec_DrawRegulatorForShare _) ?_; rintro ⟨a, b, s⟩ _; dsimp only)
    | (refine ArgF.mk _ (shaR a b s) (fun rs ho hR _ => ?_); obtain ⟨x, c, rfl, rfl, h4, hS⟩ := hR)
    | refine EqI.mk _ (fun _ => by have := hS (by assumption); exact wrapI (by omega) (by omega)) ?_
    | refine ArgF.is (shareOk (a + x) b (by have := hS (by assumption); omega) (by have := hS (by assumption); omega)) ?_
    | refine ArgQ.is (fun hG => shareOk (a + x) b (by have := hS (by assumption); omega) (by have := hS (by assumption); omega)) rfl rfl ?_
    | refine ArgF.is (shareOk b (a + x) (by have := hS (by assumption); omega) (by have := hS (by assumption); omega)) ?_
    | refine ArgQ.is (fun hG => shareOk b (a + x) (by have := hS (by assumption); omega) (by have := hS (by assumption); omega)) rfl rfl ?_
    | refine ArgF.is (c_laws_b10Abs (shareI (a + x) b + shareI b (a + x) - 1000) (by have := hS (by assumption); omega)) ?_
    | refine ArgQ.is (fun hG => c_laws_b10Abs (shareI (a + x) b + shareI b (a + x) - 1000) (by have := hS (by assumption); omega)) rfl rfl ?_
    | refine LoopF.at 13 rfl (LoopF.fix [0, 1, 8, 12] (Int) (fun i => 0 ≤ i ∧ i ≤ (openL ⟨j, xs⟩ ds st).length) (fun i => [(14, In i)]) (fun i => []) (fun i => (((openL ⟨j, xs⟩ ds st).length - i).toNat)) (0) ?_)
    | (refine LoopB.of (T := Int) ?_ ?_; rotate_left; rintro i ⟨h0, h1⟩; rotate_left)
    | refine GhF.go ?_
    | refine GdS.keep ?_
    | refine DrawG.old (DrawF.lex (by decide +kernel) ?_)
    | refine MkF.row ?_
    | refine EqP.mk _ (gm eY 0 rfl) ?_
    | refine EqP.mk _ (gm GAirway.cells default rfl) ?_
    | refine EqP.mk _ (gm GDoor.cells default rfl) ?_
    | refine EqP.mk _ (gm eB false rfl) ?_
    | refine EqP.mk _ (gm eI 0 rfl) ?_
    | refine BndF.mk (fun _ => by omega) ?_
    | refine BndF.mk (fun _ => by simp only [List.length_map, List.length_cons, List.length_nil, List.length_append, List.length_set, List.length_replicate, iotaI_len]; omega) ?_
    | refine BndF.mk (fun hG => by simp only [forall_const, eq_self, not_true_eq_false, not_false_eq_true, or_false, false_or, or_self, or_true, true_or, and_true, true_and, and_false, false_and, decide_true, decide_false, Bool.not_true, Bool.not_false, decide_eq_true_eq, decide_eq_false_iff_not, ite_and_p, ite_or_p, Bool.decide_eq_true, Bool.and_eq_true, Bool.or_eq_true, Bool.not_eq_true', Bool.not_eq_false', Bool.and_eq_false_imp, Bool.or_eq_false_iff, bne_iff_ne, beq_iff_eq, bne_eq_false_iff_eq, beq_eq_false_iff_ne, gt_iff_lt, ge_iff_le, Int.not_lt, Int.not_le, ne_eq, Bool.true_eq_false, Bool.false_eq_true, reduceCtorEq, eta_Airway, eta_Door, eta_Fan, eta_Mine, bytes_nil] at hG; (try simp only [List.length_map]); omega) ?_
    | refine EqI.mk _ (fun _ => wrapI (by omega) (by omega)) ?_
    | refine EqI.mk _ (fun _ => rfl) ?_
    | refine FlF.keep ?_
    | refine EqN.mk _ (ln eY) ?_
    | refine EqN.mk _ (ln GAirway.cells) ?_
    | refine EqN.mk _ (ln GDoor.cells) ?_
    | refine EqN.mk _ (ln eB) ?_
    | refine EqN.mk _ (ln eI) ?_
    | refine EqN.mk _ (Nat.zero_add _) ?_
    | refine EqN.mk (_ + 1) rfl ?_
    | refine EqN.mk _ (Int.toNat_natCast _) ?_
    | refine EqN.mk _ rfl ?_
    | refine EqL.mk _ (sn0 eY) ?_
    | refine EqL.mk _ (sn eY (by first | rfl | assumption | omega | (simp only [List.length_map, List.length_cons, List.length_nil, List.length_append, List.length_set, List.length_replicate, iotaI_len]; done) | (simp only [List.length_map, List.length_cons, List.length_nil, List.length_append, List.length_set, List.length_replicate, iotaI_len]; omega))) ?_
    | refine EqL.mk _ (ap0 eY) ?_
    | refine EqL.mk _ (ap eY (by first | rfl | assumption | omega | (simp only [List.length_map, List.length_cons, List.length_nil, List.length_append, List.length_set, List.length_replicate, iotaI_len]; done) | (simp only [List.length_map, List.length_cons, List.length_nil, List.length_append, List.length_set, List.length_replicate, iotaI_len]; omega))) ?_
    | refine EqL.mk _ (tk eY (by first | rfl | assumption | omega | (simp only [List.length_map, List.length_cons, List.length_nil, List.length_append, List.length_set, List.length_replicate, iotaI_len]; done) | (simp only [List.length_map, List.length_cons, List.length_nil, List.length_append, List.length_set, List.length_replicate, iotaI_len]; omega))) ?_
    | refine EqL.mk _ (st eY) ?_
    | refine EqL.mk _ (sn0 GAirway.cells) ?_
    | refine EqL.mk _ (sn GAirway.cells (by first | rfl | assumption | omega | (simp only [List.length_map, List.length_cons, List.length_nil, List.length_append, List.length_set, List.length_replicate, iotaI_len]; done) | (simp only [List.length_map, List.length_cons, List.length_nil, List.length_append, List.length_set, List.length_replicate, iotaI_len]; omega))) ?_
    | refine EqL.mk _ (ap0 GAirway.cells) ?_
    | refine EqL.mk _ (ap GAirway.cells (by first | rfl | assumption | omega | (simp only [List.length_map, List.length_cons, List.length_nil, List.length_append, List.length_set, List.length_replicate, iotaI_len]; done) | (simp only [List.length_map, List.length_cons, List.length_nil, List.length_append, List.length_set, List.length_replicate, iotaI_len]; omega))) ?_
    | refine EqL.mk _ (tk GAirway.cells (by first | rfl | assumption | omega | (simp only [List.length_map, List.length_cons, List.length_nil, List.length_append, List.length_set, List.length_replicate, iotaI_len]; done) | (simp only [List.length_map, List.length_cons, List.length_nil, List.length_append, List.length_set, List.length_replicate, iotaI_len]; omega))) ?_
    | refine EqL.mk _ (st GAirway.cells) ?_
    | refine EqL.mk _ (sn0 GDoor.cells) ?_
    | refine EqL.mk _ (sn GDoor.cells (by first | rfl | assumption | omega | (simp only [List.length_map, List.length_cons, List.length_nil, List.length_append, List.length_set, List.length_replicate, iotaI_len]; done) | (simp only [List.length_map, List.length_cons, List.length_nil, List.length_append, List.length_set, List.length_replicate, iotaI_len]; omega))) ?_
    | refine EqL.mk _ (ap0 GDoor.cells) ?_
    | refine EqL.mk _ (ap GDoor.cells (by first | rfl | assumption | omega | (simp only [List.length_map, List.length_cons, List.length_nil, List.length_append, List.length_set, List.length_replicate, iotaI_len]; done) | (simp only [List.length_map, List.length_cons, List.length_nil, List.length_append, List.length_set, List.length_replicate, iotaI_len]; omega))) ?_
    | refine EqL.mk _ (tk GDoor.cells (by first | rfl | assumption | omega | (simp only [List.length_map, List.length_cons, List.length_nil, List.length_append, List.length_set, List.length_replicate, iotaI_len]; done) | (simp only [List.length_map, List.length_cons, List.length_nil, List.length_append, List.length_set, List.length_replicate, iotaI_len]; omega))) ?_
    | refine EqL.mk _ (st GDoor.cells) ?_
    | refine EqL.mk _ (sn0 eB) ?_
    | refine EqL.mk _ (sn eB (by first | rfl | assumption | omega | (simp only [List.length_map, List.length_cons, List.length_nil, List.length_append, List.length_set, List.length_replicate, iotaI_len]; done) | (simp only [List.length_map, List.length_cons, List.length_nil, List.length_append, List.length_set, List.length_replicate, iotaI_len]; omega))) ?_
    | refine EqL.mk _ (ap0 eB) ?_
    | refine EqL.mk _ (ap eB (by first | rfl | assumption | omega | (simp only [List.length_map, List.length_cons, List.length_nil, List.length_append, List.length_set, List.length_replicate, iotaI_len]; done) | (simp only [List.length_map, List.length_cons, List.length_nil, List.length_append, List.length_set, List.length_replicate, iotaI_len]; omega))) ?_
    | refine EqL.mk _ (tk eB (by first | rfl | assumption | omega | (simp only [List.length_map, List.length_cons, List.length_nil, List.length_append, List.length_set, List.length_replicate, iotaI_len]; done) | (simp only [List.length_map, List.length_cons, List.length_nil, List.length_append, List.length_set, List.length_replicate, iotaI_len]; omega))) ?_
    | refine EqL.mk _ (st eB) ?_
    | refine EqL.mk _ (sn0 eI) ?_
    | refine EqL.mk _ (sn eI (by first | rfl | assumption | omega | (simp only [List.length_map, List.length_cons, List.length_nil, List.length_append, List.length_set, List.length_replicate, iotaI_len]; done) | (simp only [List.length_map, List.length_cons, List.length_nil, List.length_append, List.length_set, List.length_replicate, iotaI_len]; omega))) ?_
    | refine EqL.mk _ (ap0 eI) ?_
    | refine EqL.mk _ (ap eI (by first | rfl | assumption | omega | (simp only [List.length_map, List.length_cons, List.length_nil, List.length_append, List.length_set, List.length_replicate, iotaI_len]; done) | (simp only [List.length_map, List.length_cons, List.length_nil, List.length_append, List.length_set, List.length_replicate, iotaI_len]; omega))) ?_
    | refine EqL.mk _ (tk eI (by first | rfl | assumption | omega | (simp only [List.length_map, List.length_cons, List.length_nil, List.length_append, List.length_set, List.length_replicate, iotaI_len]; done) | (simp only [List.length_map, List.length_cons, List.length_nil, List.length_append, List.length_set, List.length_replicate, iotaI_len]; omega))) ?_
    | refine EqL.mk _ (st eI) ?_
    | refine EqL.mk [] rfl ?_
    | refine EqL.mk [_] rfl ?_
    | refine EqL.mk _ rfl ?_
    | refine ArgF.is (c_laws_b10Long ..) ?_
    | refine ArgQ.is (fun hG => c_laws_b10Long ..) rfl rfl ?_
    | refine ArgF.is (c_spec_DrawOpenDoors ..) ?_
    | refine ArgQ.is (fun hG => c_spec_DrawOpenDoors ..) rfl rfl ?_
    | refine ArgF.is (c_impl_OpenDoors ⟨_, _⟩ _ _) ?_
    | refine ArgQ.is (fun hG => c_impl_OpenDoors ⟨_, _⟩ _ _) rfl rfl ?_
    | refine ArgF.is (c_laws_b10At _ _ _ (by first | assumption | omega)) ?_
    | refine ArgQ.is (fun hG => c_laws_b10At _ _ _ (by first | assumption | omega)) rfl rfl ?_
    | refine ArgQ.is (fun hG => c_laws_b10At _ _ _ (by simp only [forall_const, eq_self, not_true_eq_false, not_false_eq_true, or_false, false_or, or_self, or_true, true_or, and_true, true_and, and_false, false_and, decide_true, decide_false, Bool.not_true, Bool.not_false, decide_eq_true_eq, decide_eq_false_iff_not, ite_and_p, ite_or_p, Bool.decide_eq_true, Bool.and_eq_true, Bool.or_eq_true, Bool.not_eq_true', Bool.not_eq_false', Bool.and_eq_false_imp, Bool.or_eq_false_iff, bne_iff_ne, beq_iff_eq, bne_eq_false_iff_eq, beq_eq_false_iff_ne, gt_iff_lt, ge_iff_le, Int.not_lt, Int.not_le, ne_eq, Bool.true_eq_false, Bool.false_eq_true, reduceCtorEq, eta_Airway, eta_Door, eta_Fan, eta_Mine, bytes_nil] at hG; omega)) rfl rfl ?_
    | refine ArgF.is (c_spec_DrawRegulatorFor ..) ?_
    | refine ArgQ.is (fun hG => c_spec_DrawRegulatorFor ..) rfl rfl ?_
    | refine ArgF.is (c_impl_RegulatorFor ..) ?_
    | refine ArgQ.is (fun hG => c_impl_RegulatorFor ..) rfl rfl ?_
    | refine ArgF.is (c_spec_DropOf ..) ?_
    | refine ArgQ.is (fun hG => c_spec_DropOf ..) rfl rfl ?_
    | refine ArgF.is (c_spec_DrawRegulatorForShare ..) ?_
    | refine ArgQ.is (fun hG => c_spec_DrawRegulatorForShare ..) rfl rfl ?_
    | refine ArgF.is (c_impl_RegulatorForShare ..) ?_
    | refine ArgQ.is (fun hG => c_impl_RegulatorForShare ..) rfl rfl ?_
    | refine ArgF.is (c_impl_ShareBeside ..) ?_
    | refine ArgQ.is (fun hG => c_impl_ShareBeside ..) rfl rfl ?_
    | refine ArgF.is (c_laws_b10Abs _ (by first | assumption | omega)) ?_
    | refine ArgQ.is (fun hG => c_laws_b10Abs _ (by first | assumption | omega)) rfl rfl ?_
    | refine ArgQ.is (fun hG => c_laws_b10Abs _ (by simp only [forall_const, eq_self, not_true_eq_false, not_false_eq_true, or_false, false_or, or_self, or_true, true_or, and_true, true_and, and_false, false_and, decide_true, decide_false, Bool.not_true, Bool.not_false, decide_eq_true_eq, decide_eq_false_iff_not, ite_and_p, ite_or_p, Bool.decide_eq_true, Bool.and_eq_true, Bool.or_eq_true, Bool.not_eq_true', Bool.not_eq_false', Bool.and_eq_false_imp, Bool.or_eq_false_iff, bne_iff_ne, beq_iff_eq, bne_eq_false_iff_eq, beq_eq_false_iff_ne, gt_iff_lt, ge_iff_le, Int.not_lt, Int.not_le, ne_eq, Bool.true_eq_false, Bool.false_eq_true, reduceCtorEq, eta_Airway, eta_Door, eta_Fan, eta_Mine, bytes_nil] at hG; omega)) rfl rfl ?_
    | refine CallF.mk (CallW.is [] true rfl ?_)
    | refine CallG.mk ?_
    | (refine CondF.mk (fun hb => ?_) (fun hb => ?_) <;> try simp only [forall_const, eq_self, not_true_eq_false, not_false_eq_true, or_false, false_or, or_self, or_true, true_or, and_true, true_and, and_false, false_and, decide_true, decide_false, Bool.not_true, Bool.not_false, decide_eq_true_eq, decide_eq_false_iff_not, ite_and_p, ite_or_p, Bool.decide_eq_true, Bool.and_eq_true, Bool.or_eq_true, Bool.not_eq_true', Bool.not_eq_false', Bool.and_eq_false_imp, Bool.or_eq_false_iff, bne_iff_ne, beq_iff_eq, bne_eq_false_iff_eq, beq_eq_false_iff_ne, gt_iff_lt, ge_iff_le, Int.not_lt, Int.not_le, ne_eq, Bool.true_eq_false, Bool.false_eq_true, reduceCtorEq, eta_Airway, eta_Door, eta_Fan, eta_Mine] at hb)
    | apply BackF.auto
    | refine BackB.mk ?_ ?_
    | refine RetF.auto (And.intro rfl ?_)
    | exact Is.mk rfl rfl
    | refine Is.mk ?_ rfl
    | refine Is.mk rfl ?_
    | refine Is.mk ?_ ?_
  all_goals try dsimp only at hq ⊢
  all_goals try omega
  all_goals try (exfalso; have := hq.2.2.2 i.toNat (by omega); omega)
  all_goals try (exfalso; have := hR (by assumption); omega)
  all_goals try (have e : x = 0 := by omega
                 rw [e]; rfl)
  all_goals try (have q := hS (by assumption)
                 rw [decide_eq_true q.2.2.1, decide_eq_true (show absI (shareI (a + x) b + shareI b (a + x) - 1000) ≤ 1 by unfold absI; omega)]
                 rfl)
end Go.Proofs.Ytjgllpildemkpaa
