/- Contracts of functions of the program, and what they compute. Conditions: those that each theorem states. -/
import Derived.Test.YtfeebelnpibppaaProg
import Derived.Test.YtfeebelnpibppaaP1
import Derived.Test.YtfeebelnpibppaaK20
import Derived.Test.YtfeebelnpibppaaE2p
set_option linter.unusedVariables false
set_option linter.unusedSimpArgs false
namespace Go.Proofs.Ytfeebelnpibppaa
open Go.Av
attribute [local irreducible] Go.IntKind.wrap leastI rdZ rd rootI rawA okMine loopN loopS goB goS okL
set_option maxRecDepth 20000
set_option maxHeartbeats 40000000

/-! Loops whose sum is less than 0: the program's search, its parts. -/
def otherA (a : GAirway) (j : Int) : Int × Bool := if j = a.from_ then (a.to, true) else if j = a.to then (a.from_, true) else (0, false)
theorem c_impl_Airway_other (a : GAirway) (j : Int) : FnSem Try.prog 215 [.p .any (.agg a.cells), In j] [] (Is [In (otherA a j).1, Bo (otherA a j).2] []) := by
  refine FnSem.walk (zs := zeroPV Try.prog) (by kernel_rfl) Try.func215 rfl Try.results215 (by kernel_rfl) (by kernel_rfl) (by kernel_rfl) fun hw hh => ?_
  obtain ⟨w0, w1, _⟩ := hw
  first | replace w0 := wf_Airway w0 | skip
  first | replace w1 := wf_I w1 | skip
  repeat' first
    | refine And.intro rfl ?_
    | refine GdF.mk (fun h => h) ?_
    | refine And.intro (Nat.succ_ne_zero _) ?_
    | refine And.intro (Nat.le_of_ble_eq_true rfl) ?_
    | refine SeqF.run ?_
    | refine GhF.go ?_
    | (refine CondF.mk (fun hb => ?_) (fun hb => ?_) <;> try simp only [forall_const, eq_self, not_true_eq_false, not_false_eq_true, or_false, false_or, or_self, or_true, true_or, and_true, true_and, and_false, false_and, decide_true, decide_false, Bool.not_true, Bool.not_false, decide_eq_true_eq, decide_eq_false_iff_not, ite_and_p, ite_or_p, Bool.decide_eq_true, Bool.and_eq_true, Bool.or_eq_true, Bool.not_eq_true', Bool.not_eq_false', Bool.and_eq_false_imp, Bool.or_eq_false_iff, bne_iff_ne, beq_iff_eq, bne_eq_false_iff_eq, beq_eq_false_iff_ne, gt_iff_lt, ge_iff_le, Int.not_lt, Int.not_le, ne_eq, Bool.true_eq_false, Bool.false_eq_true, reduceCtorEq, eta_Airway, eta_Fan, eta_Mine] at hb)
    | refine RetF.auto (And.intro rfl ?_)
    | exact Is.mk rfl rfl
    | refine Is.mk ?_ rfl
    | refine Is.mk rfl ?_
    | refine Is.mk ?_ ?_
  all_goals try dsimp only
  all_goals try simp only [Bo, I, OB.row.injEq, AV.osl.injEq, eI_same,  List.cons.injEq, AV.p.injEq, PV.c.injEq, Value.int.injEq, Value.bool.injEq, and_true, true_and, ite_and_p, ite_or_p, Bool.decide_eq_true, eta_Airway, eta_Fan, eta_Mine]
  all_goals unfold otherA
  · rw [if_pos hb]; exact ⟨rfl, rfl⟩
  · rename_i hc; rw [if_neg hc, if_pos hb]; exact ⟨rfl, rfl⟩
  · rename_i hc; rw [if_neg hc, if_neg hb]; exact ⟨rfl, rfl⟩
theorem c_impl_Mine_step (m : GMine) (i j : Int) (h : 0 ≤ i ∧ i < m.airways.length) (hm : m.airways.length ≤ 1000) : FnSem Try.prog 217 [.p .any (.agg m.cells), In i, In j] [] (Is [In (spL m j i.toNat)] []) := by
  refine FnSem.walk (zs := zeroPV Try.prog) (by kernel_rfl) Try.func217 rfl Try.results217 (by kernel_rfl) (by kernel_rfl) (by kernel_rfl) fun hw hh => ?_
  obtain ⟨w0, w1, w2, _⟩ := hw
  first | replace w0 := wf_Mine w0 | skip
  first | replace w1 := wf_I w1 | skip
  first | replace w2 := wf_I w2 | skip
  repeat' first
    | refine And.intro rfl ?_
    | refine GdF.mk (fun h => h) ?_
    | refine And.intro (Nat.succ_ne_zero _) ?_
    | refine And.intro (Nat.le_of_ble_eq_true rfl) ?_
    | refine SeqF.run ?_
    | refine GhF.go ?_
    | refine EqP.mk _ (gm GAirway.cells default rfl) ?_
    | refine BndF.mk (fun _ => by omega) ?_
    | refine BndF.mk (fun _ => by simp only [List.length_map, List.length_cons, List.length_nil, List.length_append, List.length_set, List.length_replicate, iotaI_len]; omega) ?_
    | refine EqI.mk _ (fun _ => wrapI (by omega) (by omega)) ?_
    | refine EqI.mk _ (fun _ => rfl) ?_
    | refine EqN.mk _ (Nat.zero_add _) ?_
    | refine EqN.mk _ (Int.toNat_natCast _) ?_
    | refine EqN.mk _ rfl ?_
    | (refine CondF.mk (fun hb => ?_) (fun hb => ?_) <;> try simp only [forall_const, eq_self, not_true_eq_false, not_false_eq_true, or_false, false_or, or_self, or_true, true_or, and_true, true_and, and_false, false_and, decide_true, decide_false, Bool.not_true, Bool.not_false, decide_eq_true_eq, decide_eq_false_iff_not, ite_and_p, ite_or_p, Bool.decide_eq_true, Bool.and_eq_true, Bool.or_eq_true, Bool.not_eq_true', Bool.not_eq_false', Bool.and_eq_false_imp, Bool.or_eq_false_iff, bne_iff_ne, beq_iff_eq, bne_eq_false_iff_eq, beq_eq_false_iff_ne, gt_iff_lt, ge_iff_le, Int.not_lt, Int.not_le, ne_eq, Bool.true_eq_false, Bool.false_eq_true, reduceCtorEq, eta_Airway, eta_Fan, eta_Mine] at hb)
    | refine RetF.auto (And.intro rfl ?_)
    | exact Is.mk rfl rfl
    | refine Is.mk ?_ rfl
    | refine Is.mk rfl ?_
    | refine Is.mk ?_ ?_
  all_goals try dsimp only
  all_goals try simp only [Bo, I, OB.row.injEq, AV.osl.injEq, eI_same,  List.cons.injEq, AV.p.injEq, PV.c.injEq, Value.int.injEq, Value.bool.injEq, and_true, true_and, ite_and_p, ite_or_p, Bool.decide_eq_true, eta_Airway, eta_Fan, eta_Mine]
  all_goals (unfold spL awI; first | (rw [if_pos hb]; omega) | (rw [if_neg hb]; omega))
theorem c_slices_Index_int64_int64 (xs : List Int) (x : Int) : FnSem Try.prog 267 [Lx (LI xs), In x] [] (Is [In (idxG (fun y => decide (x = y)) xs)] []) := by
  refine FnSem.walk (zs := zeroPV Try.prog) (by kernel_rfl) Try.func267 rfl Try.results267 (by kernel_rfl) (by kernel_rfl) (by kernel_rfl) fun hw hh => ?_
  obtain ⟨w0, w1, _⟩ := hw
  first | replace w0 := wf_LI w0 | skip
  first | replace w1 := wf_I w1 | skip
  repeat' first
    | refine And.intro rfl ?_
    | refine GdF.mk (fun h => h) ?_
    | refine And.intro (Nat.succ_ne_zero _) ?_
    | refine And.intro (Nat.le_of_ble_eq_true rfl) ?_
    | refine SeqF.run ?_
    | refine LoopF.at 2 rfl (LoopF.fix [0, 1, 7] (Int) (fun i => 0 ≤ i ∧ i ≤ xs.length ∧ ∀ j : Nat, (j : Int) < i → decide (x = xs.getD j 0) = false) (fun i => [(8, In i)]) (fun i => []) (fun i => ((xs.length - i).toNat)) (0) ?_)
    | (refine LoopB.of (T := Int) ?_ ?_; rotate_left; rintro i ⟨h0, h1, h2⟩; rotate_left)
    | refine GhF.go ?_
    | refine EqP.mk _ (gm eI 0 rfl) ?_
    | refine BndF.mk (fun _ => by omega) ?_
    | refine BndF.mk (fun _ => by simp only [List.length_map, List.length_cons, List.length_nil, List.length_append, List.length_set, List.length_replicate, iotaI_len]; omega) ?_
    | refine EqI.mk _ (fun _ => wrapI (by omega) (by omega)) ?_
    | refine EqI.mk _ (fun _ => rfl) ?_
    | refine EqN.mk _ (ln eI) ?_
    | refine EqN.mk _ (Nat.zero_add _) ?_
    | refine EqN.mk _ (Int.toNat_natCast _) ?_
    | refine EqN.mk _ rfl ?_
    | (refine CondF.mk (fun hb => ?_) (fun hb => ?_) <;> try simp only [forall_const, eq_self, not_true_eq_false, not_false_eq_true, or_false, false_or, or_self, or_true, true_or, and_true, true_and, and_false, false_and, decide_true, decide_false, Bool.not_true, Bool.not_false, decide_eq_true_eq, decide_eq_false_iff_not, ite_and_p, ite_or_p, Bool.decide_eq_true, Bool.and_eq_true, Bool.or_eq_true, Bool.not_eq_true', Bool.not_eq_false', Bool.and_eq_false_imp, Bool.or_eq_false_iff, bne_iff_ne, beq_iff_eq, bne_eq_false_iff_eq, beq_eq_false_iff_ne, gt_iff_lt, ge_iff_le, Int.not_lt, Int.not_le, ne_eq, Bool.true_eq_false, Bool.false_eq_true, reduceCtorEq, eta_Airway, eta_Fan, eta_Mine] at hb)
    | apply BackF.auto
    | refine BackB.mk ?_ ?_
    | refine RetF.auto (And.intro rfl ?_)
    | exact Is.mk rfl rfl
    | refine Is.mk ?_ rfl
    | refine Is.mk rfl ?_
    | refine Is.mk ?_ ?_
  all_goals try dsimp only
  all_goals try simp only [Bo, I, OB.row.injEq, AV.osl.injEq, eI_same,  List.cons.injEq, AV.p.injEq, PV.c.injEq, Value.int.injEq, Value.bool.injEq, and_true, true_and, ite_and_p, ite_or_p, Bool.decide_eq_true, eta_Airway, eta_Fan, eta_Mine]
  all_goals first
    | omega
    | exact ⟨by omega, by omega, all_0⟩
    | exact ⟨by omega, by omega, all_s (P := fun j => decide (x = xs.getD j 0) = false) h0 h2 (by simpa using hb)⟩
    | exact idxG_at (d := 0) h0 (by omega) (by simpa using hb) h2
    | exact idxG_none (d := 0) (by omega) h2
    | skip
theorem c_slices_Contains_int64_int64 (xs : List Int) (x : Int) : FnSem Try.prog 216 [Lx (LI xs), In x] [] (Is [Bo (decide (x ∈ xs))] []) := by
  refine FnSem.walk (zs := zeroPV Try.prog) (by kernel_rfl) Try.func216 rfl Try.results216 (by kernel_rfl) (by kernel_rfl) (by kernel_rfl) fun hw hh => ?_
  obtain ⟨w0, w1, _⟩ := hw
  first | replace w0 := wf_LI w0 | skip
  first | replace w1 := wf_I w1 | skip
  repeat' first
    | refine And.intro rfl ?_
    | refine GdF.mk (fun h => h) ?_
    | refine And.intro (Nat.succ_ne_zero _) ?_
    | refine And.intro (Nat.le_of_ble_eq_true rfl) ?_
    | refine SeqF.run ?_
    | refine ArgF.is (c_slices_Index_int64_int64 xs x) ?_
    | refine ArgQ.is (fun hG => c_slices_Index_int64_int64 xs x) rfl rfl ?_
    | refine GhF.go ?_
    | refine BndF.mk (fun _ => by omega) ?_
    | refine BndF.mk (fun _ => by simp only [List.length_map, List.length_cons, List.length_nil, List.length_append, List.length_set, List.length_replicate, iotaI_len]; omega) ?_
    | refine EqL.mk _ (tk eI (by first | rfl | assumption | omega | (simp only [List.length_map, List.length_cons, List.length_nil, List.length_append, List.length_set, List.length_replicate, iotaI_len]; done) | (simp only [List.length_map, List.length_cons, List.length_nil, List.length_append, List.length_set, List.length_replicate, iotaI_len]; omega))) ?_
    | refine EqL.mk [] rfl ?_
    | refine EqL.mk [_] rfl ?_
    | refine EqL.mk _ rfl ?_
    | refine ArgF.is (c_slices_Index_int64_int64 ..) ?_
    | refine ArgQ.is (fun hG => c_slices_Index_int64_int64 ..) rfl rfl ?_
    | refine CallF.mk (CallW.is [] true rfl ?_)
    | refine CallG.mk ?_
    | (refine CondF.mk (fun hb => ?_) (fun hb => ?_) <;> try simp only [forall_const, eq_self, not_true_eq_false, not_false_eq_true, or_false, false_or, or_self, or_true, true_or, and_true, true_and, and_false, false_and, decide_true, decide_false, Bool.not_true, Bool.not_false, decide_eq_true_eq, decide_eq_false_iff_not, ite_and_p, ite_or_p, Bool.decide_eq_true, Bool.and_eq_true, Bool.or_eq_true, Bool.not_eq_true', Bool.not_eq_false', Bool.and_eq_false_imp, Bool.or_eq_false_iff, bne_iff_ne, beq_iff_eq, bne_eq_false_iff_eq, beq_eq_false_iff_ne, gt_iff_lt, ge_iff_le, Int.not_lt, Int.not_le, ne_eq, Bool.true_eq_false, Bool.false_eq_true, reduceCtorEq, eta_Airway, eta_Fan, eta_Mine] at hb)
    | refine RetF.auto (And.intro rfl ?_)
    | exact Is.mk rfl rfl
    | refine Is.mk ?_ rfl
    | refine Is.mk rfl ?_
    | refine Is.mk ?_ ?_
  all_goals try dsimp only
  all_goals try simp only [Bo, I, OB.row.injEq, AV.osl.injEq, eI_same,  List.cons.injEq, AV.p.injEq, PV.c.injEq, Value.int.injEq, Value.bool.injEq, and_true, true_and, ite_and_p, ite_or_p, Bool.decide_eq_true, eta_Airway, eta_Fan, eta_Mine]
  · rw [show decide (x ∈ xs) = xs.any (fun y => decide (x = y)) by
      rw [Bool.eq_iff_iff, List.any_eq_true, decide_eq_true_eq]
      exact ⟨fun h => ⟨x, h, decide_eq_true rfl⟩, fun ⟨y, h, e⟩ => by rw [of_decide_eq_true e]; exact h⟩]
    exact idxG_any
abbrev loC (m : GMine) (g : List Int) (rg : List Bool) (start len : Int) (k n q p : Nat) (sum : Int) : OB := .fix [In m.junctions, Lx (.lst (GAirway.cells default) (m.airways.map GAirway.cells)), .osl 1 0 g.length, Lx (LB rg), In start, In len, .osl k 0 n, .osl q 0 p, In sum]
abbrev RwG (g : List Int) : OB := .row false .flat (eI 0) (g.map eI)
inductive LoopR (m : GMine) (g : List Int) (rg : List Bool) (start len : Int) (r : Option (List Int × Int)) (walk passed : List Int) (rs : List AV) (ho : List OB) : Prop
  | mk (n p : Nat) (ys zs : List Int) (b : Bool) (s : Int) (h1 : rs = [Bo b]) (h2 : ho = [loC m g rg start len 4 n 5 p s, RwG g, .dead, .dead, .row false .flat (eI 0) (ys.map eI), .row false .flat (eI 0) (zs.map eI)])
    (h3 : b = r.isSome) (h4 : n ≤ ys.length ∧ p ≤ zs.length) (h5 : ∀ x, r = some x → ys.take n = x.1 ∧ s = x.2) (h6 : r = none → ys.take n = walk ∧ zs.take p = passed)
theorem ArgF.loop {m : GMine} {g : List Int} {rg : List Bool} {start len : Int} {r : Option (List Int × Int)} {walk passed : List Int} {k : Nat} {Pr : Program} [Kn Pr] {f : FuncId} {args : List AV} {hin : List OB} {K : List AV → List OB → Prop} (h : FnSem Pr f args hin (LoopR m g rg start len r walk passed))
    (hk : ∀ (n p : Nat) (ys zs : List Int) (b : Bool) (s : Int), b = r.isSome → (n ≤ ys.length ∧ p ≤ zs.length) → (∀ x, r = some x → ys.take n = x.1 ∧ s = x.2) → (r = none → ys.take n = walk ∧ zs.take p = passed) →
      K [Bo b] [loC m g rg start len 4 n 5 p s, RwG g, .dead, .dead, .row false .flat (eI 0) (ys.map eI), .row false .flat (eI 0) (zs.map eI)]) : ArgF k Pr f args hin K :=
  ⟨_, h, fun rs ho hR _ => by obtain ⟨n, p, ys, zs, b, s, rfl, rfl, h3, h4, h5, h6⟩ := hR; exact hk n p ys zs b s h3 h4 h5 h6⟩
abbrev stepF (m : GMine) (g : List Int) (rg : List Bool) (start : Int) (r : Nat) (at_ sum : Int) (walk passed : List Int) (i : Nat) : Option (List Int × Int) := if goB m rg start at_ r (passed ++ [at_]) i = true then loopN m g rg start r (nxL m at_ i) (sum + gnL m g at_ i) (walk ++ [spL m at_ i]) (passed ++ [at_]) else none
section
variable {m : GMine} {g : List Int} {rg : List Bool} {start at_ sum len : Int} {r r' : Nat} {walk passed ps : List Int} {i : Int}
theorem go_T (hm : okMine m = true) (h0 : 0 ≤ i) (hi : i < m.airways.length) (ht : (m.airways.getD i.toNat default).to = at_) : otherA (m.airways.getD i.toNat default) at_ = (nxL m at_ i.toNat, true) ∧ okL m rg at_ i.toNat = !rg.getD i.toNat false ∧ gnL m g at_ i.toNat = -g.getD i.toNat 0 := by
  have q := okAirway_b ((okMine_p hm).2.2 i.toNat (by omega)).1
  unfold otherA nxL okL gnL awI
  rw [if_neg (by omega), if_pos ht.symm, if_neg (by omega), decide_eq_false (by omega), decide_eq_true ht, if_pos ht]
  simp
theorem go_F (ht : ¬(m.airways.getD i.toNat default).to = at_) : (otherA (m.airways.getD i.toNat default) at_).2 = okL m rg at_ i.toNat ∧ ((otherA (m.airways.getD i.toNat default) at_).2 = true → (otherA (m.airways.getD i.toNat default) at_).1 = nxL m at_ i.toNat) ∧ gnL m g at_ i.toNat = g.getD i.toNat 0 := by
  unfold otherA nxL okL gnL awI
  rw [decide_eq_false ht, if_neg ht]
  by_cases h : at_ = (m.airways.getD i.toNat default).from_
  · rw [if_pos h, if_pos h.symm, decide_eq_true h.symm]; simp
  · rw [if_neg h, if_neg (fun e => ht e.symm), decide_eq_false (fun e => h e.symm)]; simp
theorem oth_b {a : GAirway} {J : Int} (h1 : 0 ≤ a.from_ ∧ a.from_ < J) (h2 : 0 ≤ a.to ∧ a.to < J) : 0 ≤ (otherA a at_).1 ∧ (otherA a at_).1 < J := by
  unfold otherA
  split
  · exact h2
  · split
    · exact h1
    · dsimp only; omega
theorem goB_f {x nn : Int} {ok : Bool} {k : Nat} (hr : r = 0 ↔ nn = len - 1) (hk : ok = okL m rg at_ k) (hx : ok = true → x = nxL m at_ k) (hb : (ok = false ∨ ¬(nn == len - 1) = (x == start)) ∨ ¬nn = len - 1 ∧ (x < start ∨ x ∈ ps)) : goB m rg start at_ r ps k = false := by
  rw [Bool.eq_false_iff]
  intro h
  unfold goB at h
  simp only [Bool.and_eq_true, Bool.or_eq_true, decide_eq_true_eq, Bool.not_eq_true', decide_eq_false_iff_not] at h
  obtain ⟨⟨h1, h2⟩, h3⟩ := h
  have e := hx (by rw [hk]; exact h1)
  rcases hb with (hb | hb) | ⟨hb, hc⟩
  · rw [hk, h1] at hb; cases hb
  · apply hb
    rw [beq_iff_eq] at h2
    rw [e, Bool.eq_iff_iff, beq_iff_eq, beq_iff_eq, ← hr, ← decide_eq_true_eq (p := r = 0), h2, decide_eq_true_eq]
  · rcases h3 with h3 | h3
    · exact hb (hr.1 h3)
    · rw [e] at hc
      rcases hc with hc | hc
      · omega
      · exact h3.2 hc
theorem goB_t {x nn : Int} {ok : Bool} {k : Nat} (hr : r = 0 ↔ nn = len - 1) (hk : ok = okL m rg at_ k) (hx : ok = true → x = nxL m at_ k) (hb : ¬(ok = false ∨ ¬(nn == len - 1) = (x == start)) ∧ (¬nn = len - 1 → start ≤ x ∧ ¬x ∈ ps)) : goB m rg start at_ r ps k = true ∧ x = nxL m at_ k := by
  obtain ⟨h1, h2⟩ := hb
  rw [not_or, Classical.not_not] at h1
  have ho : ok = true := by simpa using h1.1
  have e := hx ho
  refine ⟨?_, e⟩
  unfold goB
  rw [← hk, ho, ← e]
  have h3 := h1.2
  by_cases hz : r = 0
  · have hn := hr.1 hz
    rw [Bool.eq_iff_iff, beq_iff_eq, beq_iff_eq] at h3
    simp [hz, h3.1 hn]
  · have hn : ¬nn = len - 1 := fun e => hz (hr.2 e)
    have h4 := h2 hn
    rw [Bool.eq_iff_iff, beq_iff_eq, beq_iff_eq] at h3
    have hs : ¬x = start := fun e => hn (h3.2 e)
    simp [hz, hs, h4.1, h4.2]
theorem st_eq {x v : Int} {k : Nat} (hgo : goB m rg start at_ r (passed ++ [at_]) k = true ∧ x = nxL m at_ k) (hv : v = gnL m g at_ k) : stepF m g rg start r at_ sum walk passed k = loopN m g rg start r x (sum + v) (walk ++ [spL m at_ k]) (passed ++ [at_]) := by
  show (if _ then _ else _) = _
  rw [if_pos hgo.1, hgo.2, hv]
theorem st_no {k : Nat} (hgo : goB m rg start at_ r (passed ++ [at_]) k = false) : stepF m g rg start r at_ sum walk passed k = none := by
  show (if _ then _ else _) = _
  rw [if_neg (by rw [hgo]; decide)]
theorem lp_0 (h : r' = 0) : loopN m g rg start r' at_ sum walk passed = if at_ = start ∧ sum < 0 then some (walk, sum) else none := by
  subst h; rw [loopN]
theorem lp_s (h : 0 < r') : loopN m g rg start r' at_ sum walk passed = loopT (stepF m g rg start (r' - 1) at_ sum walk passed) m.airways.length 0 := by
  obtain ⟨k, rfl⟩ : ∃ k, r' = k + 1 := ⟨r' - 1, by omega⟩
  rw [loopN]; rfl
theorem lp_n (h0 : 0 ≤ i) (hi : i < m.airways.length) (h : stepF m g rg start r at_ sum walk passed i.toNat = none) : loopT (stepF m g rg start r at_ sum walk passed) (m.airways.length - i.toNat) i.toNat = loopT (stepF m g rg start r at_ sum walk passed) (m.airways.length - (i + 1).toNat) (i + 1).toNat := by
  obtain ⟨k, hk⟩ : ∃ k, m.airways.length - i.toNat = k + 1 := ⟨m.airways.length - i.toNat - 1, by omega⟩
  rw [hk, loopT, h, show m.airways.length - (i + 1).toNat = k by omega, show (i + 1).toNat = i.toNat + 1 by omega]
theorem lp_t {x : List Int × Int} (h0 : 0 ≤ i) (hi : i < m.airways.length) (h : stepF m g rg start r at_ sum walk passed i.toNat = some x) : loopT (stepF m g rg start r at_ sum walk passed) (m.airways.length - i.toNat) i.toNat = some x := by
  obtain ⟨k, hk⟩ : ∃ k, m.airways.length - i.toNat = k + 1 := ⟨m.airways.length - i.toNat - 1, by omega⟩
  rw [hk, loopT, h]
theorem n2_len {α : Type} {X : Option α} {b2 : Bool} {n2 p2 : Nat} {ys2 zs2 w z : List Int} (hb : b2 = false) (e1 : b2 = X.isSome) (e2 : n2 ≤ ys2.length ∧ p2 ≤ zs2.length) (e4 : X = none → ys2.take n2 = w ∧ zs2.take p2 = z) : X = none ∧ (ys2.take n2 = w ∧ zs2.take p2 = z) ∧ n2 = w.length ∧ p2 = z.length := by
  have hX : X = none := by
    cases X with
    | none => rfl
    | some x => rw [hb] at e1; cases e1
  obtain ⟨q1, q2⟩ := e4 hX
  refine ⟨hX, ⟨q1, q2⟩, ?_, ?_⟩
  · rw [← q1, List.length_take]; omega
  · rw [← q2, List.length_take]; omega
theorem take_pred {ys w : List Int} {v : Int} {n : Nat} (h : ys.take n = w ++ [v]) (hn : n = w.length + 1) : ys.take (n - 1) = w := by
  have := congrArg (List.take (n - 1)) h
  rw [List.take_take, show min (n - 1) n = n - 1 by omega, hn, Nat.add_sub_cancel, List.take_append_of_le_length (Nat.le_refl _), List.take_length] at this
  rw [hn, Nat.add_sub_cancel]; exact this
end
end Go.Proofs.Ytfeebelnpibppaa
