/- Contracts of functions of the program, and what they compute. Conditions: those that each theorem states. -/
import Derived.Test.YtjgllpildemkpaaProg
import Derived.Test.YtjgllpildemkpaaD4
import Derived.Test.YtjgllpildemkpaaK20
import Derived.Test.YtjgllpildemkpaaH3
set_option linter.unusedVariables false
set_option linter.unusedSimpArgs false
namespace Go.Proofs.Ytjgllpildemkpaa
open Go.Av
attribute [local irreducible] Go.IntKind.wrap leastI rdZ rd rootI rawA
set_option maxRecDepth 20000
set_option maxHeartbeats 8000000

/-! The resistances of a mine; doors. -/
def resA (a : GAirway) : Int := max (rawA a a.section_) 1
def resL (m : GMine) : List Int := m.airways.map resA
/-- what hands back a list or an error -/
inductive LstR (ok : Bool) (e : Int) (xs : List Int) (rs : List AV) (ho : List OB) : Prop
  | bad (h : ok = false) (h1 : rs = [.osl 0 0 0, In e]) (h2 : ho = [Rw .flat (eI 0) []])
  | good (h : ok = true) (h1 : rs = [.osl 0 0 xs.length, In 0]) (h2 : ho = [Rw .flat (eI 0) (xs.map eI)])
def resOkM (m : GMine) : Bool := okMine m && (resL m).all (inR · 1 1000000)
def resErr (m : GMine) : Int := if okMine m then 6 else 1
theorem getD_mapT {α β : Type} {f : α → β} {xs : List α} {j : Nat} (hj : j < xs.length) (d : α) (z : β) : (xs.map f).getD j z = f (xs.getD j d) := by
  rw [List.getD_eq_getElem?_getD, List.getD_eq_getElem?_getD, List.getElem?_map, List.getElem?_eq_getElem hj]; rfl
theorem takeS {α : Type} {xs : List α} {i : Int} (h0 : 0 ≤ i) (h1 : i < xs.length) (d : α) : xs.take (i + 1).toNat = xs.take i.toNat ++ [xs.getD i.toNat d] := by
  have hi : i.toNat < xs.length := by omega
  rw [show (i + 1).toNat = i.toNat + 1 by omega, List.take_add_one, List.getD_eq_getElem?_getD, List.getElem?_eq_getElem hi]; rfl
theorem c_impl_ResistancesOf (m : GMine) : FnSem Try.prog 96 [.p .any (.agg m.cells)] [] (LstR (resOkM m) (resErr m) (resL m)) := by
  refine FnSem.walk (zs := zeroPV Try.prog) (by kernel_rfl) Try.func96 rfl Try.results96 (by kernel_rfl) (by kernel_rfl) (by kernel_rfl) fun hw hh => ?_
  obtain ⟨w0, _⟩ := hw
  first | replace w0 := wf_Mine w0 | skip
  repeat' first
    | refine And.intro rfl ?_
    | refine GdF.mk (fun h => h) ?_
    | refine And.intro (Nat.succ_ne_zero _) ?_
    | refine And.intro (Nat.le_of_ble_eq_true rfl) ?_
    | refine SeqF.run ?_
    | refine ArgF.is (c_impl_ValidMine m) ?_
    | refine ArgQ.is (fun hG => c_impl_ValidMine m) rfl rfl ?_
    | refine ArgF.is (c_impl_Airway_resistance (m.airways.getD i.toNat default) (hA i.toNat (by omega)).1) ?_
    | refine ArgQ.is (fun hG => c_impl_Airway_resistance (m.airways.getD i.toNat default) (hA i.toNat (by omega)).1) rfl rfl ?_
    | refine ArgF.is (c_impl_allWithin ys _ _) ?_
    | refine ArgQ.is (fun hG => c_impl_allWithin ys _ _) rfl rfl ?_
    | refine LoopF.at 5 rfl (LoopF.fix [11, 12] (Nat × Int × List Int) (fun (n, i, ys) => 0 ≤ i ∧ i ≤ m.airways.length ∧ n = ys.length ∧ (n : Int) = i ∧ ys = (resL m).take i.toNat ∧ okMine m = true ∧ m.airways.length ≤ 24 ∧ (∀ j : Nat, (j : Int) < m.airways.length → okAirway (m.airways.getD j default) = true ∧ (0 ≤ (m.airways.getD j default).from_ ∧ (m.airways.getD j default).from_ < m.junctions) ∧ 0 ≤ (m.airways.getD j default).to ∧ (m.airways.getD j default).to < m.junctions)) (fun (n, i, ys) => [(4, .osl 0 0 n), (13, In i)]) (fun (n, i, ys) => [(0, Rw .flat (eI 0) (ys.map eI))]) (fun (n, i, ys) => ((m.airways.length - i).toNat)) ((0, 0, [])) ?_)
    | (refine LoopB.of (T := Nat × Int × List Int) ?_ ?_; rotate_left; rintro ⟨n, i, ys⟩ ⟨h0, h1, h2, h3, h4, h5, h6, hA⟩; rotate_left)
    | refine LstR.bad ?_ (by first | rfl | (rw [resErr, if_neg (by simpa using hb)]) | (rw [resErr, if_pos h5])) rfl
    | refine LstR.good ?_ ?_ ?_
    | refine GhF.go ?_
    | refine MkF.row ?_
    | refine EqP.mk _ (gm GAirway.cells default rfl) ?_
    | refine EqP.mk _ (gm eI 0 rfl) ?_
    | refine BndF.mk (fun _ => by omega) ?_
    | refine BndF.mk (fun _ => by simp only [List.length_map, List.length_cons, List.length_nil, List.length_append, List.length_set, List.length_replicate, iotaI_len]; omega) ?_
    | refine EqI.mk _ (fun _ => wrapI (by omega) (by omega)) ?_
    | refine EqI.mk _ (fun _ => rfl) ?_
    | refine FlF.keep ?_
    | refine EqN.mk _ (ln GAirway.cells) ?_
    | refine EqN.mk _ (ln eI) ?_
    | refine EqN.mk _ (Nat.zero_add _) ?_
    | refine EqN.mk (_ + 1) rfl ?_
    | refine EqN.mk _ (Int.toNat_natCast _) ?_
    | refine EqN.mk _ rfl ?_
    | refine EqL.mk _ (sn0 GAirway.cells) ?_
    | refine EqL.mk _ (sn GAirway.cells (by first | rfl | assumption | omega | (simp only [List.length_map, List.length_cons, List.length_nil, List.length_append, List.length_set, List.length_replicate, iotaI_len]; done) | (simp only [List.length_map, List.length_cons, List.length_nil, List.length_append, List.length_set, List.length_replicate, iotaI_len]; omega))) ?_
    | refine EqL.mk _ (ap0 GAirway.cells) ?_
    | refine EqL.mk _ (ap GAirway.cells (by first | rfl | assumption | omega | (simp only [List.length_map, List.length_cons, List.length_nil, List.length_append, List.length_set, List.length_replicate, iotaI_len]; done) | (simp only [List.length_map, List.length_cons, List.length_nil, List.length_append, List.length_set, List.length_replicate, iotaI_len]; omega))) ?_
    | refine EqL.mk _ (tk GAirway.cells (by first | rfl | assumption | omega | (simp only [List.length_map, List.length_cons, List.length_nil, List.length_append, List.length_set, List.length_replicate, iotaI_len]; done) | (simp only [List.length_map, List.length_cons, List.length_nil, List.length_append, List.length_set, List.length_replicate, iotaI_len]; omega))) ?_
    | refine EqL.mk _ (st GAirway.cells) ?_
    | refine EqL.mk _ (dt GAirway.cells) ?_
    | refine EqL.mk _ (sn0 eI) ?_
    | refine EqL.mk _ (sn eI (by first | rfl | assumption | omega | (simp only [List.length_map, List.length_cons, List.length_nil, List.length_append, List.length_set, List.length_replicate, iotaI_len]; done) | (simp only [List.length_map, List.length_cons, List.length_nil, List.length_append, List.length_set, List.length_replicate, iotaI_len]; omega))) ?_
    | refine EqL.mk _ (ap0 eI) ?_
    | refine EqL.mk _ (ap eI (by first | rfl | assumption | omega | (simp only [List.length_map, List.length_cons, List.length_nil, List.length_append, List.length_set, List.length_replicate, iotaI_len]; done) | (simp only [List.length_map, List.length_cons, List.length_nil, List.length_append, List.length_set, List.length_replicate, iotaI_len]; omega))) ?_
    | refine EqL.mk _ (tk eI (by first | rfl | assumption | omega | (simp only [List.length_map, List.length_cons, List.length_nil, List.length_append, List.length_set, List.length_replicate, iotaI_len]; done) | (simp only [List.length_map, List.length_cons, List.length_nil, List.length_append, List.length_set, List.length_replicate, iotaI_len]; omega))) ?_
    | refine EqL.mk _ (st eI) ?_
    | refine EqL.mk _ (dt eI) ?_
    | refine EqL.mk [] rfl ?_
    | refine EqL.mk [_] rfl ?_
    | refine EqL.mk _ rfl ?_
    | refine ArgF.is (c_impl_ValidMine ⟨_, _⟩) ?_
    | refine ArgQ.is (fun hG => c_impl_ValidMine ⟨_, _⟩) rfl rfl ?_
    | refine ArgF.is (c_impl_Airway_resistance ⟨_, _, _, _, _, _, _⟩ (by first | assumption | omega)) ?_
    | refine ArgQ.is (fun hG => c_impl_Airway_resistance ⟨_, _, _, _, _, _, _⟩ (by first | assumption | omega)) rfl rfl ?_
    | refine ArgF.is (c_impl_allWithin ..) ?_
    | refine ArgQ.is (fun hG => c_impl_allWithin ..) rfl rfl ?_
    | refine CallF.mk (CallW.is [] true rfl ?_)
    | refine CallG.mk ?_
    | (refine CondF.mk (fun hb => ?_) (fun hb => ?_) <;> try simp only [forall_const, eq_self, not_true_eq_false, not_false_eq_true, or_false, false_or, or_self, or_true, true_or, and_true, true_and, and_false, false_and, decide_true, decide_false, Bool.not_true, Bool.not_false, decide_eq_true_eq, decide_eq_false_iff_not, ite_and_p, ite_or_p, Bool.decide_eq_true, Bool.and_eq_true, Bool.or_eq_true, Bool.not_eq_true', Bool.not_eq_false', Bool.and_eq_false_imp, Bool.or_eq_false_iff, bne_iff_ne, beq_iff_eq, bne_eq_false_iff_eq, beq_eq_false_iff_ne, gt_iff_lt, ge_iff_le, Int.not_lt, Int.not_le, ne_eq, Bool.true_eq_false, Bool.false_eq_true, reduceCtorEq, eta_Airway, eta_Door, eta_Fan, eta_Mine] at hb)
    | apply BackF.auto3
    | refine BackB.mk ?_ ?_
    | refine RetF.auto (And.intro rfl ?_)
    | exact Is.mk rfl rfl
    | refine Is.mk ?_ rfl
    | refine Is.mk rfl ?_
    | refine Is.mk ?_ ?_
  all_goals try dsimp only
  · simp [resOkM, hb]
  · have hp := okMine_p hb
    exact ⟨by omega, by omega, rfl, rfl, by simp, hb, hp.2.1, hp.2.2⟩
  · exact ⟨by omega, by omega, by simp [h2], by omega, by rw [h4, takeS h0 (by simp [resL]; omega) 0]; congr 2; exact (getD_mapT (f := resA) (by omega) default 0).symm, h5, h6, hA⟩
  · omega
  all_goals try (have e : ys = resL m := by rw [h4, List.take_of_length_le (by simp [resL]; omega)])
  all_goals try subst e
  · simp [resOkM, hb]
  · simp only [resOkM, h5, Bool.true_and]; simpa using hb
  · rw [h2]
  · rfl
end Go.Proofs.Ytjgllpildemkpaa
