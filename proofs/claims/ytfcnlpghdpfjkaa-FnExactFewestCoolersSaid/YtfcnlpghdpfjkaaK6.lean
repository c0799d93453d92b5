/- Contracts of functions of the program, and what they compute. Conditions: those that each theorem states. -/
import Derived.Test.YtfcnlpghdpfjkaaProg
import Derived.Test.YtfcnlpghdpfjkaaK3
set_option linter.unusedVariables false
set_option linter.unusedSimpArgs false
namespace Go.Proofs.Ytfcnlpghdpfjkaa
open Go.Av
attribute [local irreducible] Go.IntKind.wrap
set_option maxRecDepth 20000
set_option maxHeartbeats 2000000

def okTimes (xs : List Int) : Bool := xs.all (inR · (-1) 1000000000000) && decide (xs.length ≤ 16)
theorem c_impl_increasing (xs : List Int) : FnSem Try.prog 191 [Lx (LI xs)] [] (Is [Bo (rising xs)] []) := by
  refine FnSem.walk (zs := zeroPV Try.prog) (by kernel_rfl) Try.func191 rfl Try.results191 (by kernel_rfl) (by kernel_rfl) (by kernel_rfl) fun hw hh => ?_
  obtain ⟨w0, _⟩ := hw
  first | replace w0 := wf_LI w0 | skip
  repeat' first
    | refine And.intro rfl ?_
    | refine GdF.mk (fun h => h) ?_
    | refine And.intro (Nat.succ_ne_zero _) ?_
    | refine And.intro (Nat.le_of_ble_eq_true rfl) ?_
    | refine SeqF.run ?_
    | refine LoopF.at 2 rfl (LoopF.fix [0] (Int) (fun i => 1 ≤ i ∧ (i ≤ xs.length ∨ i = 1) ∧ ∀ j : Nat, (j : Int) < i → j = 0 ∨ xs.getD (j - 1) 0 < xs.getD j 0) (fun i => [(3, In i)]) (fun i => []) (fun i => ((xs.length - i).toNat)) (1) ?_)
    | (refine LoopB.of (T := Int) ?_ ?_; rotate_left; rintro i ⟨h0, h1, h2⟩; rotate_left)
    | refine GhF.go ?_
    | refine DrawG.old (DrawF.lex (by decide +kernel) ?_)
    | refine EqP.mk _ (gm eI 0 rfl) ?_
    | refine BndF.mk (fun _ => by omega) ?_
    | refine BndF.mk (fun _ => by simp only [List.length_map, List.length_cons, List.length_nil, List.length_append, List.length_set, List.length_replicate, iotaI_len]; omega) ?_
    | refine EqI.mk _ (fun _ => wrapI (by omega) (by omega)) ?_
    | refine EqI.mk _ (fun _ => rfl) ?_
    | refine EqN.mk _ (ln eI) ?_
    | refine EqN.mk _ (Nat.zero_add _) ?_
    | refine EqN.mk _ (Int.toNat_natCast _) ?_
    | refine EqN.mk _ rfl ?_
    | (refine CondF.mk (fun hb => ?_) (fun hb => ?_) <;> try simp only [forall_const, eq_self, not_true_eq_false, not_false_eq_true, or_false, false_or, or_self, or_true, true_or, and_true, true_and, and_false, false_and, decide_true, decide_false, Bool.not_true, Bool.not_false, decide_eq_true_eq, decide_eq_false_iff_not, ite_and_p, ite_or_p, Bool.decide_eq_true, Bool.and_eq_true, Bool.or_eq_true, Bool.not_eq_true', Bool.not_eq_false', Bool.and_eq_false_imp, Bool.or_eq_false_iff, bne_iff_ne, beq_iff_eq, bne_eq_false_iff_eq, beq_eq_false_iff_ne, gt_iff_lt, ge_iff_le, Int.not_lt, Int.not_le, ne_eq, Bool.true_eq_false, Bool.false_eq_true, reduceCtorEq, eta_Airway, eta_Fan, eta_Mine] at hb)
    | apply BackF.auto
    | refine BackB.mk ?_ ?_
    | refine RetF.auto (And.intro rfl ?_)
    | exact Is.mk rfl rfl
    | refine Is.mk ?_ rfl
    | refine Is.mk rfl ?_
    | refine Is.mk ?_ ?_
  all_goals try dsimp only
  all_goals try simp only [Bo, I, OB.row.injEq, AV.osl.injEq, eI_same,  List.cons.injEq, AV.p.injEq, PV.c.injEq, Value.int.injEq, Value.bool.injEq, and_true, true_and, ite_and_p, ite_or_p, Bool.decide_eq_true, eta_Airway, eta_Fan, eta_Mine]
  · exact ⟨by omega, by simp, fun j hj => by omega⟩
  · rw [rising_f (by omega) (by omega) hb]
  · exact ⟨by omega, by omega, all_s (P := fun j => j = 0 ∨ xs.getD (j - 1) 0 < xs.getD j 0) (by omega) h2 (.inr (by rw [show i.toNat - 1 = (i - 1).toNat by omega]; exact hb))⟩
  · omega
  · exact (rising_iff.2 fun j hj => h2 j (by omega)).symm
theorem c_spec_l00Rises (xs : List Int) (a b : Int) : FnSem Try.prog 131 [Lx (LI xs), In a, In b] [] (Is [Bo (xs.all (inR · a b) && rising xs)] []) := by
  refine FnSem.walk (zs := zeroPV Try.prog) (by kernel_rfl) Try.func131 rfl Try.results131 (by kernel_rfl) (by kernel_rfl) (by kernel_rfl) fun hw hh => ?_
  obtain ⟨w0, w1, w2, _⟩ := hw
  first | replace w0 := wf_LI w0 | skip
  first | replace w1 := wf_I w1 | skip
  first | replace w2 := wf_I w2 | skip
  repeat' first
    | refine And.intro rfl ?_
    | refine GdF.mk (fun h => h) ?_
    | refine And.intro (Nat.succ_ne_zero _) ?_
    | refine And.intro (Nat.le_of_ble_eq_true rfl) ?_
    | refine SeqF.run ?_
    | refine LoopF.at 2 rfl (LoopF.fix [0, 1, 2] (Int) (fun i => 0 ≤ i ∧ i ≤ xs.length ∧ (∀ j : Nat, (j : Int) < i → inR (xs.getD j 0) a b = true) ∧ ∀ j : Nat, (j : Int) < i → j = 0 ∨ xs.getD (j - 1) 0 < xs.getD j 0) (fun i => [(7, In i)]) (fun i => []) (fun i => ((xs.length - i).toNat)) (0) ?_)
    | (refine LoopB.of (T := Int) ?_ ?_; rotate_left; rintro i ⟨h0, h1, h2, h3⟩; rotate_left)
    | refine GhF.go ?_
    | refine GdS.keep ?_
    | refine DrawG.old (DrawF.lex (by decide +kernel) ?_)
    | refine EqP.mk _ (gm eI 0 rfl) ?_
    | refine BndF.mk (fun _ => by omega) ?_
    | refine BndF.mk (fun _ => by simp only [List.length_map, List.length_cons, List.length_nil, List.length_append, List.length_set, List.length_replicate, iotaI_len]; omega) ?_
    | refine BndF.mk (fun hG => by simp only [forall_const, eq_self, not_true_eq_false, not_false_eq_true, or_false, false_or, or_self, or_true, true_or, and_true, true_and, and_false, false_and, decide_true, decide_false, Bool.not_true, Bool.not_false, decide_eq_true_eq, decide_eq_false_iff_not, ite_and_p, ite_or_p, Bool.decide_eq_true, Bool.and_eq_true, Bool.or_eq_true, Bool.not_eq_true', Bool.not_eq_false', Bool.and_eq_false_imp, Bool.or_eq_false_iff, bne_iff_ne, beq_iff_eq, bne_eq_false_iff_eq, beq_eq_false_iff_ne, gt_iff_lt, ge_iff_le, Int.not_lt, Int.not_le, ne_eq, Bool.true_eq_false, Bool.false_eq_true, reduceCtorEq, eta_Airway, eta_Fan, eta_Mine, bytes_nil] at hG; (try simp only [List.length_map]); omega) ?_
    | refine EqI.mk _ (fun _ => wrapI (by omega) (by omega)) ?_
    | refine EqI.mk _ (fun _ => rfl) ?_
    | refine EqN.mk _ (ln eI) ?_
    | refine EqN.mk _ (Nat.zero_add _) ?_
    | refine EqN.mk _ (Int.toNat_natCast _) ?_
    | refine EqN.mk _ rfl ?_
    | refine EqL.mk _ (tk eI (by first | rfl | assumption | omega | (simp only [List.length_map, List.length_cons, List.length_nil, List.length_append, List.length_set, List.length_replicate, iotaI_len]; done) | (simp only [List.length_map, List.length_cons, List.length_nil, List.length_append, List.length_set, List.length_replicate, iotaI_len]; omega))) ?_
    | refine EqL.mk [] rfl ?_
    | refine EqL.mk [_] rfl ?_
    | refine EqL.mk _ rfl ?_
    | refine ArgF.is (c_spec_l00In ..) ?_
    | refine ArgQ.is (fun hG => c_spec_l00In ..) rfl rfl ?_
    | refine CallF.mk (CallW.is [] true rfl ?_)
    | refine CallG.mk ?_
    | (refine CondF.mk (fun hb => ?_) (fun hb => ?_) <;> try simp only [forall_const, eq_self, not_true_eq_false, not_false_eq_true, or_false, false_or, or_self, or_true, true_or, and_true, true_and, and_false, false_and, decide_true, decide_false, Bool.not_true, Bool.not_false, decide_eq_true_eq, decide_eq_false_iff_not, ite_and_p, ite_or_p, Bool.decide_eq_true, Bool.and_eq_true, Bool.or_eq_true, Bool.not_eq_true', Bool.not_eq_false', Bool.and_eq_false_imp, Bool.or_eq_false_iff, bne_iff_ne, beq_iff_eq, bne_eq_false_iff_eq, beq_eq_false_iff_ne, gt_iff_lt, ge_iff_le, Int.not_lt, Int.not_le, ne_eq, Bool.true_eq_false, Bool.false_eq_true, reduceCtorEq, eta_Airway, eta_Fan, eta_Mine] at hb)
    | apply BackF.auto
    | refine BackB.mk ?_ ?_
    | refine RetF.auto (And.intro rfl ?_)
    | exact Is.mk rfl rfl
    | refine Is.mk ?_ rfl
    | refine Is.mk rfl ?_
    | refine Is.mk ?_ ?_
  all_goals try dsimp only
  all_goals try simp only [Bo, I, OB.row.injEq, AV.osl.injEq, eI_same,  List.cons.injEq, AV.p.injEq, PV.c.injEq, Value.int.injEq, Value.bool.injEq, and_true, true_and, ite_and_p, ite_or_p, Bool.decide_eq_true, eta_Airway, eta_Fan, eta_Mine]
  · exact ⟨by omega, by omega, all_0, all_0⟩
  · rcases hb with h | ⟨h, h'⟩
    · rw [← all_f (p := (inR · a b)) h0 (by omega) h]; rfl
    · rw [rising_f h (by omega) h', Bool.and_false]
  · exact ⟨by omega, by omega, all_s h0 h2 (by simpa using hb.1), all_s (P := fun j => j = 0 ∨ xs.getD (j - 1) 0 < xs.getD j 0) h0 h3 (by
      by_cases e : 0 < i
      · exact .inr (by rw [show i.toNat - 1 = (i - 1).toNat by omega]; exact hb.2 e)
      · exact .inl (by omega))⟩
  · omega
  · rw [← all_t (p := (inR · a b)) (d := 0) hb h2, rising_iff.2 fun j hj => h3 j (by omega)]; rfl
/-- the least time of those that are chosen; none: -1 -/
def detF (times : List Int) (b k : Int) : Int := if times.getD k.toNat 0 ≥ 0 ∧ (b < 0 ∨ times.getD k.toNat 0 < b) then times.getD k.toNat 0 else b
def firF (times : List Int) (b k : Int) : Int := if times.getD k.toNat 0 ≥ 0 ∧ (b < 0 ∨ times.getD k.toNat 0 < times.getD b.toNat 0) then k else b
theorem fir_inv {times set : List Int} (hs : ∀ k ∈ set, 0 ≤ k ∧ k < times.length) {i : Int} (h0 : 0 ≤ i) (h1 : i ≤ set.length) : (foldT (firF times) (-1) set i = -1 ∧ foldT (detF times) (-1) set i = -1) ∨ (0 ≤ foldT (firF times) (-1) set i ∧ foldT (firF times) (-1) set i < times.length ∧ 0 ≤ foldT (detF times) (-1) set i ∧ times.getD (foldT (firF times) (-1) set i).toNat 0 = foldT (detF times) (-1) set i) := by
  obtain ⟨n, rfl⟩ := Int.eq_ofNat_of_zero_le h0
  induction n with
  | zero => left; exact ⟨rfl, rfl⟩
  | succ n ih =>
    have e : ((n + 1 : Nat) : Int) = (n : Int) + 1 := by omega
    have hk := hs (set.getD (n : Int).toNat 0) (getD_mem (by omega))
    rw [e, foldT_s (by omega) (by omega) 0, foldT_s (by omega) (by omega) 0]
    have := ih (by omega) (by omega)
    generalize foldT (firF times) (-1) set n = b at *
    generalize foldT (detF times) (-1) set n = v at *
    generalize set.getD (n : Int).toNat 0 = k at *
    simp only [firF, detF]
    grind
def detect (times set : List Int) : Int × Int := if okTimes times && (set.all (inR · 0 (times.length - 1)) && rising set) then (if set.foldl (detF times) (-1) < 0 then (0, 3) else (set.foldl (detF times) (-1), 0)) else (0, 2)
theorem set_in {times set : List Int} (h : (set.all (inR · 0 (times.length - 1))) = true) : ∀ k ∈ set, 0 ≤ k ∧ k < times.length := fun k hk => by
  have := inR_iff.1 (List.all_eq_true.1 h k hk); omega
theorem det_all {times set : List Int} (h : (set.all (inR · 0 (times.length - 1))) = true) : (set.foldl (firF times) (-1) = -1 ∧ set.foldl (detF times) (-1) = -1) ∨ (0 ≤ set.foldl (firF times) (-1) ∧ set.foldl (firF times) (-1) < times.length ∧ 0 ≤ set.foldl (detF times) (-1) ∧ times.getD (set.foldl (firF times) (-1)).toNat 0 = set.foldl (detF times) (-1)) := by
  have := fir_inv (set_in h) (i := set.length) (by omega) (by omega)
  rwa [foldT_e (Int.le_refl _), foldT_e (Int.le_refl _)] at this
end Go.Proofs.Ytfcnlpghdpfjkaa
