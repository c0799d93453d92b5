/- Contracts of functions of the program, and what they compute. Conditions: those that each theorem states. -/
import Derived.Test.YtfcnlpghdpfjkaaProg
import Derived.Test.YtfcnlpghdpfjkaaQ2
import Derived.Test.YtfcnlpghdpfjkaaR8
import Derived.Test.YtfcnlpghdpfjkaaG4
set_option linter.unusedVariables false
set_option linter.unusedSimpArgs false
namespace Go.Proofs.Ytfcnlpghdpfjkaa
open Go.Av
attribute [local irreducible] Go.IntKind.wrap leastI rdZ rd rootI rawA okMine mixT heatF heatY warmN clampW
set_option maxRecDepth 20000
set_option maxHeartbeats 8000000

/-! Temperatures at junctions: the air that comes in. -/
--@fn impl.abs
theorem absY (x : Int) (h : -1000000 ≤ x ∧ x ≤ 1000000) : FnSem Try.prog 104 [In x] [] (Is [In (max x (-x))] []) := by
  have := c_impl_abs x
  rw [wrapI (by omega) (by omega), show (0 : Int) - x = -x by omega] at this
  exact this
theorem divW {a b : Int} (ha : 0 ≤ a ∧ a ≤ 100000000) (hb : 1 ≤ b ∧ b ≤ 1000000) : Go.IntKind.i64.wrap ((a + b - 1).tdiv b) = (a + b - 1) / b := by
  rw [Int.tdiv_eq_ediv_of_nonneg (by omega)]
  have h0 : 0 ≤ (a + b - 1) / b := Int.ediv_nonneg (by omega) (by omega)
  have h1 : (a + b - 1) / b ≤ a + b - 1 := Int.ediv_le_self _ (by omega)
  exact wrapI (by omega) (by omega)
theorem c_impl_divUp (a b : Int) (ha : 0 ≤ a ∧ a ≤ 100000000) (hb : 1 ≤ b ∧ b ≤ 1000000) : FnSem Try.prog 195 [In a, In b] [] (Is [In ((a + b - 1) / b)] []) := by
  refine FnSem.walk (zs := zeroPV Try.prog) (by kernel_rfl) Try.func195 rfl Try.results195 (by kernel_rfl) (by kernel_rfl) (by kernel_rfl) fun hw hh => ?_
  obtain ⟨w0, w1, _⟩ := hw
  first | replace w0 := wf_I w0 | skip
  first | replace w1 := wf_I w1 | skip
  repeat' first
    | refine And.intro rfl ?_
    | refine GdF.mk (fun h => h) ?_
    | refine And.intro (Nat.succ_ne_zero _) ?_
    | refine And.intro (Nat.le_of_ble_eq_true rfl) ?_
    | refine SeqF.run ?_
    | refine EqI.mk ((a + b - 1) / b) (fun _ => divW ha hb) ?_
    | refine GhF.go ?_
    | refine BndF.mk (fun _ => by omega) ?_
    | refine BndF.mk (fun _ => by simp only [List.length_map, List.length_cons, List.length_nil, List.length_append, List.length_set, List.length_replicate, iotaI_len]; omega) ?_
    | refine EqI.mk _ (fun _ => wrapI (by omega) (by omega)) ?_
    | refine EqI.mk _ (fun _ => wrapD (by omega) (by omega) (by omega)) ?_
    | refine EqI.mk _ (fun _ => rfl) ?_
    | (refine CondF.mk (fun hb => ?_) (fun hb => ?_) <;> try simp only [forall_const, eq_self, not_true_eq_false, not_false_eq_true, or_false, false_or, or_self, or_true, true_or, and_true, true_and, and_false, false_and, decide_true, decide_false, Bool.not_true, Bool.not_false, decide_eq_true_eq, decide_eq_false_iff_not, ite_and_p, ite_or_p, Bool.decide_eq_true, Bool.and_eq_true, Bool.or_eq_true, Bool.not_eq_true', Bool.not_eq_false', Bool.and_eq_false_imp, Bool.or_eq_false_iff, bne_iff_ne, beq_iff_eq, bne_eq_false_iff_eq, beq_eq_false_iff_ne, gt_iff_lt, ge_iff_le, Int.not_lt, Int.not_le, ne_eq, Bool.true_eq_false, Bool.false_eq_true, reduceCtorEq, eta_Airway, eta_Fan, eta_Mine] at hb)
    | refine RetF.auto (And.intro rfl ?_)
    | exact Is.mk rfl rfl
    | refine Is.mk ?_ rfl
    | refine Is.mk rfl ?_
    | refine Is.mk ?_ ?_
theorem heatW_b {power flow : Int} (hp : -300000000 ≤ power ∧ power ≤ 300000000) (hf : 1 ≤ flow ∧ flow ≤ 100000) : -600000000000 ≤ heatF power flow 1200 ∧ heatF power flow 1200 ≤ 600000000000 := by
  unfold heatF
  exact rdZ_abs (by have := heatY_b hf (show (1:Int) ≤ 1200 ∧ 1200 ≤ 5000 by omega); omega) (by omega)
--@fn impl.heatFrom
theorem heatW (power flow : Int) (hp : -300000000 ≤ power ∧ power ≤ 300000000) (hf : 1 ≤ flow ∧ flow ≤ 100000) : FnSem Try.prog 197 [In power, In flow, In 1200] [] (Is [In (heatF power flow 1200)] []) := by
  obtain ⟨h1, h2, h3⟩ := heatY_b hf (show (1:Int) ≤ 1200 ∧ 1200 ≤ 5000 by omega)
  unfold heatF heatY at *
  refine FnSem.walk (zs := zeroPV Try.prog) (by kernel_rfl) Try.func197 rfl Try.results197 (by kernel_rfl) (by kernel_rfl) (by kernel_rfl) fun hw hh => ?_
  obtain ⟨w0, w1, w2, _⟩ := hw
  first | replace w0 := wf_I w0 | skip
  first | replace w1 := wf_I w1 | skip
  first | replace w2 := wf_I w2 | skip
  repeat' first
    | refine And.intro rfl ?_
    | refine GdF.mk (fun h => h) ?_
    | refine And.intro (Nat.succ_ne_zero _) ?_
    | refine And.intro (Nat.le_of_ble_eq_true rfl) ?_
    | refine SeqF.run ?_
    | refine ArgF.is (divRoundZ _ _ (by omega) (by omega) (by omega)) ?_
    | refine ArgQ.is (fun hG => divRoundZ _ _ (by omega) (by omega) (by omega)) rfl rfl ?_
    | refine GhF.go ?_
    | refine BndF.mk (fun _ => by omega) ?_
    | refine BndF.mk (fun _ => by simp only [List.length_map, List.length_cons, List.length_nil, List.length_append, List.length_set, List.length_replicate, iotaI_len]; omega) ?_
    | refine EqI.mk _ (fun _ => wrapI (by omega) (by omega)) ?_
    | refine EqI.mk _ (fun _ => rfl) ?_
    | refine EqL.mk [] rfl ?_
    | refine EqL.mk [_] rfl ?_
    | refine EqL.mk _ rfl ?_
    | refine ArgF.is (c_impl_divRound _ _ (by first | assumption | omega) (by first | assumption | omega) (by first | assumption | omega) (by first | assumption | omega)) ?_
    | refine ArgQ.is (fun hG => c_impl_divRound _ _ (by first | assumption | omega) (by first | assumption | omega) (by first | assumption | omega) (by first | assumption | omega)) rfl rfl ?_
    | refine CallF.mk (CallW.is [] true rfl ?_)
    | refine CallG.mk ?_
    | (refine CondF.mk (fun hb => ?_) (fun hb => ?_) <;> try simp only [forall_const, eq_self, not_true_eq_false, not_false_eq_true, or_false, false_or, or_self, or_true, true_or, and_true, true_and, and_false, false_and, decide_true, decide_false, Bool.not_true, Bool.not_false, decide_eq_true_eq, decide_eq_false_iff_not, ite_and_p, ite_or_p, Bool.decide_eq_true, Bool.and_eq_true, Bool.or_eq_true, Bool.not_eq_true', Bool.not_eq_false', Bool.and_eq_false_imp, Bool.or_eq_false_iff, bne_iff_ne, beq_iff_eq, bne_eq_false_iff_eq, beq_eq_false_iff_ne, gt_iff_lt, ge_iff_le, Int.not_lt, Int.not_le, ne_eq, Bool.true_eq_false, Bool.false_eq_true, reduceCtorEq, eta_Airway, eta_Fan, eta_Mine] at hb)
    | refine RetF.auto (And.intro rfl ?_)
    | exact Is.mk rfl rfl
    | refine Is.mk ?_ rfl
    | refine Is.mk rfl ?_
    | refine Is.mk ?_ ?_
theorem c_impl_Airway_ways (x : GAirway) (q : Int) : FnSem Try.prog 193 [.p .any (.agg x.cells), In q] [] (Is [In (if q < 0 then x.to else x.from_), In (if q < 0 then x.from_ else x.to)] []) := by
  refine FnSem.walk (zs := zeroPV Try.prog) (by kernel_rfl) Try.func193 rfl Try.results193 (by kernel_rfl) (by kernel_rfl) (by kernel_rfl) fun hw hh => ?_
  obtain ⟨w0, w1, _⟩ := hw
  first | replace w0 := wf_Airway w0 | skip
  first | replace w1 := wf_I w1 | skip
  repeat' first
    | refine And.intro rfl ?_
    | refine GdF.mk (fun h => h) ?_
    | refine And.intro (Nat.succ_ne_zero _) ?_
    | refine And.intro (Nat.le_of_ble_eq_true rfl) ?_
    | refine SeqF.run ?_
    | refine GhF.go ?_
    | refine DrawG.old (DrawF.lex (by decide +kernel) ?_)
    | (refine CondF.mk (fun hb => ?_) (fun hb => ?_) <;> try simp only [forall_const, eq_self, not_true_eq_false, not_false_eq_true, or_false, false_or, or_self, or_true, true_or, and_true, true_and, and_false, false_and, decide_true, decide_false, Bool.not_true, Bool.not_false, decide_eq_true_eq, decide_eq_false_iff_not, ite_and_p, ite_or_p, Bool.decide_eq_true, Bool.and_eq_true, Bool.or_eq_true, Bool.not_eq_true', Bool.not_eq_false', Bool.and_eq_false_imp, Bool.or_eq_false_iff, bne_iff_ne, beq_iff_eq, bne_eq_false_iff_eq, beq_eq_false_iff_ne, gt_iff_lt, ge_iff_le, Int.not_lt, Int.not_le, ne_eq, Bool.true_eq_false, Bool.false_eq_true, reduceCtorEq, eta_Airway, eta_Fan, eta_Mine] at hb)
    | refine RetF.auto (And.intro rfl ?_)
    | exact Is.mk rfl rfl
    | refine Is.mk ?_ rfl
    | refine Is.mk rfl ?_
    | refine Is.mk ?_ ?_
  all_goals first
    | rw [if_pos hb, if_pos hb]
    | rw [if_neg (by omega), if_neg (by omega)]
section
variable (m : GMine) (fs rs ps ls : List Int) (rate j : Int)
def stW (i : Nat) : Int := if fs.getD i 0 < 0 then (m.airways.getD i default).to else (m.airways.getD i default).from_
def enA (i : Nat) : Int := if fs.getD i 0 < 0 then (m.airways.getD i default).from_ else (m.airways.getD i default).to
def tiW (i : Nat) : Int := min (((m.airways.getD i default).length * (m.airways.getD i default).section_ + max (fs.getD i 0) (-fs.getD i 0) - 1) / max (fs.getD i 0) (-fs.getD i 0)) 100000
def tmW (i : Nat) : Int := clampW (warmN (rs.getD i 0) rate (ls.getD (stW m fs i).toNat 0) (tiW m fs i / 10).toNat + heatF (ps.getD i 0) (max (fs.getD i 0) (-fs.getD i 0)) 1200)
def cmF : Nat → Option (List Int × List Int)
  | 0 => some ([], [])
  | i + 1 => match cmF i with
    | none => none
    | some x => if fs.getD i 0 = 0 ∨ ¬enA m fs i = j then some x else if ls.getD (stW m fs i).toNat 0 = -1000 then none else some (x.1 ++ [max (fs.getD i 0) (-fs.getD i 0)], x.2 ++ [tmW m fs rs ps ls rate i])
def cmI : Int × Bool := match cmF m fs rs ps ls rate j m.airways.length with
  | none => (0, false)
  | some x => if x.1.length = 0 then (0, false) else (mixT x.1 x.2, true)
/-- what is asked of the lists -/
structure htP : Prop where
  mine : okMine m = true
  fl : fs.length = m.airways.length ∧ rs.length = m.airways.length ∧ ps.length = m.airways.length
  fs : ∀ i : Nat, -100000 ≤ fs.getD i 0 ∧ fs.getD i 0 ≤ 100000
  rs : ∀ i : Nat, 0 ≤ rs.getD i 0 ∧ rs.getD i 0 ≤ 900
  ps : ∀ i : Nat, -300000000 ≤ ps.getD i 0 ∧ ps.getD i 0 ≤ 300000000
  rt : 0 ≤ rate ∧ rate ≤ 1000
/-- what the temperatures are -/
structure lsP : Prop where
  ln : ls.length = m.junctions.toNat
  at_ : ∀ i : Nat, i < ls.length → ls.getD i 0 = -1000 ∨ (-100 ≤ ls.getD i 0 ∧ ls.getD i 0 ≤ 600)
end
section
variable {m : GMine} {fs rs ps ls : List Int} {rate j : Int}
theorem cmF_no {i : Nat} : ∀ k : Nat, cmF m fs rs ps ls rate j i = none → cmF m fs rs ps ls rate j (i + k) = none
  | 0, h => h
  | k + 1, h => by rw [← Nat.add_assoc, cmF, cmF_no k h]
theorem cmI_no {i : Int} (h0 : 0 ≤ i) (hi : i < m.airways.length) {x : List Int × List Int} (h : cmF m fs rs ps ls rate j i.toNat = some x) (h1 : ¬(fs.getD i.toNat 0 = 0 ∨ ¬enA m fs i.toNat = j)) (h2 : ls.getD (stW m fs i.toNat).toNat 0 = -1000) : cmI m fs rs ps ls rate j = (0, false) := by
  have e : cmF m fs rs ps ls rate j (i.toNat + 1) = none := by rw [cmF, h]; dsimp only; rw [if_neg h1, if_pos h2]
  have := cmF_no (m.airways.length - (i.toNat + 1)) e
  rw [show i.toNat + 1 + (m.airways.length - (i.toNat + 1)) = m.airways.length by omega] at this
  unfold cmI; rw [this]
theorem cmF_k {i : Int} (h0 : 0 ≤ i) {x : List Int × List Int} (h : cmF m fs rs ps ls rate j i.toNat = some x) (h1 : fs.getD i.toNat 0 = 0 ∨ ¬enA m fs i.toNat = j) : cmF m fs rs ps ls rate j (i + 1).toNat = some x := by
  rw [show (i + 1).toNat = i.toNat + 1 by omega, cmF, h]; dsimp only; rw [if_pos h1]
theorem cmF_a {i : Int} (h0 : 0 ≤ i) {x : List Int × List Int} (h : cmF m fs rs ps ls rate j i.toNat = some x) (h1 : ¬(fs.getD i.toNat 0 = 0 ∨ ¬enA m fs i.toNat = j)) (h2 : ¬ls.getD (stW m fs i.toNat).toNat 0 = -1000) : cmF m fs rs ps ls rate j (i + 1).toNat = some (x.1 ++ [max (fs.getD i.toNat 0) (-fs.getD i.toNat 0)], x.2 ++ [tmW m fs rs ps ls rate i.toNat]) := by
  rw [show (i + 1).toNat = i.toNat + 1 by omega, cmF, h]; dsimp only; rw [if_neg h1, if_neg h2]
theorem stV (h : okMine m = true) {i : Nat} (hi : i < m.airways.length) : 0 ≤ stW m fs i ∧ stW m fs i < m.junctions.toNat := by
  have q := (okMine_p h).2.2 i (by omega)
  unfold stW; split <;> omega
theorem clW (n : Int) : -100 ≤ clampW n ∧ clampW n ≤ 600 := by unfold clampW; omega
theorem okMix_of {xs ys : List Int} (h1 : 1 ≤ xs.length ∧ xs.length ≤ 24) (h2 : ys.length = xs.length) (h3 : ∀ x ∈ xs, 1 ≤ x ∧ x ≤ 100000) (h4 : ∀ y ∈ ys, -100 ≤ y ∧ y ≤ 600) : okMix xs ys = true := by
  unfold okMix
  rw [decide_eq_true ⟨h1.1, h1.2, h2⟩, show xs.all (inR · 1 100000) = true from List.all_eq_true.2 fun x hx => inR_iff.2 (h3 x hx), show ys.all (inR · (-100) 600) = true from List.all_eq_true.2 fun x hx => inR_iff.2 (h4 x hx)]; rfl
theorem cmF_p (hH : htP m fs rs ps rate) : ∀ (i : Nat) (x : List Int × List Int), cmF m fs rs ps ls rate j i = some x → x.1.length ≤ i ∧ x.2.length = x.1.length ∧ (∀ v ∈ x.1, 1 ≤ v ∧ v ≤ 100000) ∧ ∀ v ∈ x.2, -100 ≤ v ∧ v ≤ 600
  | 0, x, h => by
    simp only [cmF, Option.some.injEq] at h
    subst h
    simp
  | i + 1, x, h => by
    rw [cmF] at h
    split at h
    · cases h
    · rename_i y hy
      have ih := cmF_p hH i y hy
      split at h
      · cases h; exact ⟨by omega, ih.2.1, ih.2.2.1, ih.2.2.2⟩
      · rename_i hn
        split at h
        · cases h
        · cases h
          have := hH.fs i
          refine ⟨by simp; omega, by simp; omega, fun v hv => ?_, fun v hv => ?_⟩
          · rcases List.mem_append.1 hv with hv | hv
            · exact ih.2.2.1 v hv
            · rw [List.mem_singleton.1 hv]
              omega
          · rcases List.mem_append.1 hv with hv | hv
            · exact ih.2.2.2 v hv
            · rw [List.mem_singleton.1 hv]
              unfold tmW
              exact clW _
theorem cmI_v (hH : htP m fs rs ps rate) (h : (cmI m fs rs ps ls rate j).2 = true) : -100 ≤ (cmI m fs rs ps ls rate j).1 ∧ (cmI m fs rs ps ls rate j).1 ≤ 600 := by
  unfold cmI at h ⊢
  split at h
  · cases h
  · rename_i x hx
    split at h
    · cases h
    · rename_i hn
      rw [if_neg hn]
      dsimp only
      have q := cmF_p hH _ _ hx
      have hl := (okMine_p hH.mine).2.1
      have hk := okMix_b (okMix_of ⟨by omega, by omega⟩ q.2.1 q.2.2.1 q.2.2.2)
      have hs := sumI_b hk.2.1 x.1.length (by omega)
      have hm := mixS_b hk.2.1 hk.2.2 x.1.length (by omega)
      have e1 : x.1.length ≠ 0 := hn
      unfold mixT
      exact ⟨rdZ_lo (by omega) hm.1, rdZ_hi (by omega) hm.2⟩
end
end Go.Proofs.Ytfcnlpghdpfjkaa
