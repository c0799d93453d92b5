/- Contracts of functions of the program, and what they compute. Conditions: those that each theorem states. -/
import Derived.Test.YtmifcbekaniiiaaGreatDoorProg
import Derived.Test.YtmifcbekaniiiaaGreatDoorT9
set_option linter.unusedVariables false
set_option linter.unusedSimpArgs false
namespace Go.Proofs.YtmifcbekaniiiaaGreatDoor
open Go.Av
attribute [local irreducible] Go.IntKind.wrap listS decS isName
set_option maxRecDepth 20000
set_option maxHeartbeats 8000000

/-! A name and a list of numbers: written and read. -/
theorem cut_at {l r : List UInt8} {c : UInt8} (h : c ∉ l) : Lib.cut (l ++ c :: r) [c] = (l, r, true) := by
  unfold Lib.cut
  rw [Lib.index_one, idx_at h, if_pos (by omega)]
  simp
theorem name_size {s : ByteArray} (h : isName s = true) : 1 ≤ s.size ∧ s.size ≤ 10 := by
  unfold isName at h
  simp only [Bool.and_eq_true, decide_eq_true_eq] at h
  exact h.1.1
theorem name_free {s : ByteArray} (h : isName s = true) {c : UInt8} (hc : nameB (c.toNat : Int) = false) : c ∉ s.data.toList := by
  intro hm
  unfold isName at h
  simp only [Bool.and_eq_true] at h
  have h2 := allB_iff.1 h.2
  obtain ⟨j, hj, e⟩ := List.getElem_of_mem hm
  have h3 := h2 j (by
    have : s.size = s.data.toList.length := by rw [Array.length_toList]; rfl
    omega)
  unfold byteAt at h3
  rw [List.getD_eq_getElem?_getD, List.getElem?_eq_getElem hj, Option.getD_some, e, hc] at h3
  cases h3
/-- a name, a blank, numbers -/
def idS (id : ByteArray) (xs : List Int) : ByteArray := id ++ ⟨#[32]⟩ ++ listS xs
theorem idS_list {id : ByteArray} {xs : List Int} : (idS id xs).data.toList = id.data.toList ++ 32 :: (listS xs).data.toList := by
  unfold idS
  simp [ByteArray.data_append]
theorem idS_size {id : ByteArray} {xs : List Int} : (idS id xs).size = id.size + 1 + (listS xs).size := by
  unfold idS
  rw [ByteArray.size_append, ByteArray.size_append]; rfl
theorem idS_cut {id : ByteArray} {xs : List Int} (h : isName id = true) : Lib.cut (idS id xs).data.toList (⟨#[32]⟩ : ByteArray).data.toList = (id.data.toList, (listS xs).data.toList, true) := by
  rw [idS_list]
  exact cut_at (name_free h (by decide))
theorem c_impl_withId (id : ByteArray) (xs : List Int) (h : okL xs) (hid : isName id = true) : FnSem Tryz.prog 79 [Str id, Lx (LI xs)] [] (Is [Str (idS id xs)] []) := by
  have h1 := name_size hid
  have h2 := listS_size h
  refine FnSem.walk (zs := zeroPV Tryz.prog) (by kernel_rfl) Tryz.func79 rfl Tryz.results79 (by kernel_rfl) (by kernel_rfl) (by kernel_rfl) fun hw hh => ?_
  obtain ⟨w0, w1, _⟩ := hw
  first | replace w0 := wf_S w0 | skip
  first | replace w1 := wf_LI w1 | skip
  repeat' first
    | refine And.intro rfl ?_
    | refine GdF.mk (fun h => h) ?_
    | refine And.intro (Nat.succ_ne_zero _) ?_
    | refine And.intro (Nat.le_of_ble_eq_true rfl) ?_
    | refine SeqF.run ?_
    | refine ArgF.is (ltxT xs h) ?_
    | refine ArgQ.is (fun hG => ltxT xs h) rfl rfl ?_
    | refine BndF.mk (fun _ => by simp only [cat_size, one_size]; omega) ?_
    | refine GhF.go ?_
    | refine BndF.mk (fun _ => by omega) ?_
    | refine BndF.mk (fun _ => by simp only [List.length_map, List.length_cons, List.length_nil, List.length_append, List.length_set, List.length_replicate, iotaI_len]; omega) ?_
    | refine EqI.mk _ (fun _ => wrapI (by omega) (by omega)) ?_
    | refine EqI.mk _ (fun _ => rfl) ?_
    | refine EqL.mk _ (tk eI (by first | rfl | assumption | omega | (simp only [List.length_map, List.length_cons, List.length_nil, List.length_append, List.length_set, List.length_replicate, iotaI_len]; done) | (simp only [List.length_map, List.length_cons, List.length_nil, List.length_append, List.length_set, List.length_replicate, iotaI_len]; omega))) ?_
    | refine EqL.mk [] rfl ?_
    | refine EqL.mk [_] rfl ?_
    | refine EqL.mk _ rfl ?_
    | refine ArgF.is (c_impl_ListText ..) ?_
    | refine ArgQ.is (fun hG => c_impl_ListText ..) rfl rfl ?_
    | refine CallF.mk (CallW.is [] true rfl ?_)
    | refine CallG.mk ?_
    | (refine CondF.mk (fun hb => ?_) (fun hb => ?_) <;> try simp only [forall_const, eq_self, not_true_eq_false, not_false_eq_true, or_false, false_or, or_self, or_true, true_or, and_true, true_and, and_false, false_and, decide_true, decide_false, Bool.not_true, Bool.not_false, decide_eq_true_eq, decide_eq_false_iff_not, ite_and_p, ite_or_p, Bool.decide_eq_true, Bool.and_eq_true, Bool.or_eq_true, Bool.not_eq_true', Bool.not_eq_false', Bool.and_eq_false_imp, Bool.or_eq_false_iff, bne_iff_ne, beq_iff_eq, bne_eq_false_iff_eq, beq_eq_false_iff_ne, gt_iff_lt, ge_iff_le, Int.not_lt, Int.not_le, ne_eq, Bool.true_eq_false, Bool.false_eq_true, reduceCtorEq, eta_Airway, eta_Duct, eta_Fan, eta_Mine, eta_Survey] at hb)
    | refine RetF.auto (And.intro rfl ?_)
    | exact Is.mk rfl rfl
    | refine Is.mk ?_ rfl
    | refine Is.mk rfl ?_
    | refine Is.mk ?_ ?_
  all_goals skip
theorem c_impl_readWithId (id : ByteArray) (xs : List Int) (k : Int) (h : okL xs) (hid : isName id = true) (hk : k = xs.length) : FnSem Tryz.prog 78 [Str (idS id xs), In k] [] (Is [Str id, .osl 0 0 xs.length, Bo true] [Rw .flat (eI 0) (xs.map eI)]) := by
  have h1 := name_size hid
  have h2 := listS_size h
  have h3 := idS_size (id := id) (xs := xs)
  subst hk
  refine FnSem.walk (zs := zeroPV Tryz.prog) (by kernel_rfl) Tryz.func78 rfl Tryz.results78 (by kernel_rfl) (by kernel_rfl) (by kernel_rfl) fun hw hh => ?_
  obtain ⟨w0, w1, _⟩ := hw
  first | replace w0 := wf_S w0 | skip
  first | replace w1 := wf_I w1 | skip
  repeat' first
    | refine And.intro rfl ?_
    | refine GdF.mk (fun h => h) ?_
    | refine And.intro (Nat.succ_ne_zero _) ?_
    | refine And.intro (Nat.le_of_ble_eq_true rfl) ?_
    | refine SeqF.run ?_
    | refine ArgF.is (cutT (idS id xs) ⟨#[32]⟩ id (listS xs) true (by omega) (idS_cut hid) (by unfold maxLen; omega) (by unfold maxLen; omega)) ?_
    | refine ArgQ.is (fun hG => cutT (idS id xs) ⟨#[32]⟩ id (listS xs) true (by omega) (idS_cut hid) (by unfold maxLen; omega) (by unfold maxLen; omega)) rfl rfl ?_
    | refine ArgF.is (rlsT xs h) ?_
    | refine ArgQ.is (fun hG => rlsT xs h) rfl rfl ?_
    | refine GhF.go ?_
    | refine GdS.keep ?_
    | refine DrawG.old (DrawF.lex (by decide +kernel) ?_)
    | refine DrawG.old (DrawF.any ?_)
    | refine OrdF.take 0 (by decide +kernel) ?_
    | refine OrdF.take 2 (by decide +kernel) ?_
    | refine OrdF.take 3 (by decide +kernel) ?_
    | refine OrdF.take 4 (by decide +kernel) ?_
    | refine OrdF.all [1] (by decide +kernel) ?_
    | refine OrdF.fin (by decide +kernel) ?_
    | refine AllF.one _ ?_
    | refine AllF.cons _ _ ?_ ?_
    | refine MkF.row ?_
    | refine BndF.mk (fun _ => by omega) ?_
    | refine BndF.mk (fun _ => by simp only [List.length_map, List.length_cons, List.length_nil, List.length_append, List.length_set, List.length_replicate, iotaI_len]; omega) ?_
    | refine BndF.mk (fun hG => by simp only [forall_const, eq_self, not_true_eq_false, not_false_eq_true, or_false, false_or, or_self, or_true, true_or, and_true, true_and, and_false, false_and, decide_true, decide_false, Bool.not_true, Bool.not_false, decide_eq_true_eq, decide_eq_false_iff_not, ite_and_p, ite_or_p, Bool.decide_eq_true, Bool.and_eq_true, Bool.or_eq_true, Bool.not_eq_true', Bool.not_eq_false', Bool.and_eq_false_imp, Bool.or_eq_false_iff, bne_iff_ne, beq_iff_eq, bne_eq_false_iff_eq, beq_eq_false_iff_ne, gt_iff_lt, ge_iff_le, Int.not_lt, Int.not_le, ne_eq, Bool.true_eq_false, Bool.false_eq_true, reduceCtorEq, eta_Airway, eta_Duct, eta_Fan, eta_Mine, eta_Survey, bytes_nil] at hG; (try simp only [List.length_map]); omega) ?_
    | refine EqN.mk _ (ln eI) ?_
    | refine EqN.mk _ (Nat.zero_add _) ?_
    | refine EqN.mk _ (Int.toNat_natCast _) ?_
    | refine EqN.mk _ rfl ?_
    | refine EqL.mk _ (tk eI (by first | rfl | assumption | omega | (simp only [List.length_map, List.length_cons, List.length_nil, List.length_append, List.length_set, List.length_replicate, iotaI_len]; done) | (simp only [List.length_map, List.length_cons, List.length_nil, List.length_append, List.length_set, List.length_replicate, iotaI_len]; omega))) ?_
    | refine EqL.mk _ (rp eI 0) ?_
    | refine EqL.mk _ (dt eI) ?_
    | refine EqL.mk [] rfl ?_
    | refine EqL.mk [_] rfl ?_
    | refine EqL.mk _ rfl ?_
    | refine ArgF.is (c_strings_Cut ..) ?_
    | refine ArgQ.is (fun hG => c_strings_Cut ..) rfl rfl ?_
    | refine ArgF.is (c_impl_ReadList ..) ?_
    | refine ArgQ.is (fun hG => c_impl_ReadList ..) rfl rfl ?_
    | refine CallF.mk (CallW.is [] true rfl ?_)
    | refine CallG.mk ?_
    | (refine CondF.mk (fun hb => ?_) (fun hb => ?_) <;> try simp only [forall_const, eq_self, not_true_eq_false, not_false_eq_true, or_false, false_or, or_self, or_true, true_or, and_true, true_and, and_false, false_and, decide_true, decide_false, Bool.not_true, Bool.not_false, decide_eq_true_eq, decide_eq_false_iff_not, ite_and_p, ite_or_p, Bool.decide_eq_true, Bool.and_eq_true, Bool.or_eq_true, Bool.not_eq_true', Bool.not_eq_false', Bool.and_eq_false_imp, Bool.or_eq_false_iff, bne_iff_ne, beq_iff_eq, bne_eq_false_iff_eq, beq_eq_false_iff_ne, gt_iff_lt, ge_iff_le, Int.not_lt, Int.not_le, ne_eq, Bool.true_eq_false, Bool.false_eq_true, reduceCtorEq, eta_Airway, eta_Duct, eta_Fan, eta_Mine, eta_Survey] at hb)
    | refine RetF.auto (And.intro rfl ?_)
    | exact Is.mk rfl rfl
    | refine Is.mk ?_ rfl
    | refine Is.mk rfl ?_
    | refine Is.mk ?_ ?_
  all_goals try dsimp only
  all_goals first
    | omega
    | skip
end Go.Proofs.YtmifcbekaniiiaaGreatDoor
