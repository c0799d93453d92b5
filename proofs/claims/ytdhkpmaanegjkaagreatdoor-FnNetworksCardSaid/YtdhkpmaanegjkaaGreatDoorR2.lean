/- Contracts of functions of the program, and what they compute. Conditions: those that each theorem states. -/
import Derived.Test.YtdhkpmaanegjkaaGreatDoorProg
import Derived.Test.YtdhkpmaanegjkaaGreatDoorT8
import Derived.Test.YtdhkpmaanegjkaaGreatDoorL1
set_option linter.unusedVariables false
set_option linter.unusedSimpArgs false
namespace Go.Proofs.YtdhkpmaanegjkaaGreatDoor
open Go.Av
attribute [local irreducible] Go.IntKind.wrap
set_option maxRecDepth 20000
set_option maxHeartbeats 8000000
theorem decS_free {n : Int} : (44 : UInt8) ∉ (decS n).data.toList := by
  rw [decS_list]
  intro h
  have := itoa_ch _ h
  simp at this
theorem listS_split {xs : List Int} (h : okLs xs) {k : Nat} (hk : xs.length ≤ k + 1) : Lib.splitB ⟨#[44]⟩ 0 k (listS xs) = xs.map decS := by
  unfold listS
  exact split_join k (xs.map decS) (by intro e; have h9 := h.1; simp only [List.map_eq_nil_iff] at e; rw [e] at h9; exact absurd h9 (by decide)) (by simpa using hk) (fun x hx => by
    simp only [List.mem_map] at hx
    obtain ⟨n, _, rfl⟩ := hx
    exact decS_free)
theorem join_ge {c : UInt8} : ∀ xs : List (List UInt8), xs ≠ [] → xs.length ≤ (Lib.join xs [c]).length + 1
  | [], h => absurd rfl h
  | [x], _ => by simp
  | x :: y :: r, _ => by
    rw [join_2]
    have h2 := join_ge (c := c) (y :: r) (by simp)
    simp only [List.length_append, List.length_cons] at h2 ⊢
    omega
theorem listS_ge {xs : List Int} (h : okLs xs) : xs.length ≤ (listS xs).size + 1 := by
  have h1 := join_ge (c := 44) ((xs.map decS).map (·.data.toList)) (by intro e; have h9 := h.1; simp only [List.map_eq_nil_iff] at e; rw [e] at h9; exact absurd h9 (by decide))
  have h2 : (listS xs).size = (listS xs).data.toList.length := by rw [Array.length_toList]; rfl
  unfold listS at h2 ⊢
  rw [joinS_list] at h2
  rw [h2]
  simpa using h1
theorem listS_ne {xs : List Int} (h : okLs xs) : listS xs ≠ ⟨#[45]⟩ := by
  intro e
  have e1 : Lib.join ((xs.map decS).map (·.data.toList)) [44] = [45] := by
    rw [← joinS_list]; show (listS xs).data.toList = [45]; rw [e]
  match xs, h, e1 with
  | [], h, _ => exact absurd h.1 (by decide)
  | [x], h, e1 =>
    have e2 : Lib.join [(decS x).data.toList] [44] = (decS x).data.toList := by simp [Lib.join, List.intercalate]
    simp only [List.map_cons, List.map_nil] at e1
    rw [e2, decS_list] at e1
    have h1 := atoi_itoa (n := x) (by have := h.2.2 x (by simp); omega)
    rw [e1] at h1
    have h2 : (match Lib.atoiAll [45] with | .ok _ => true | _ => false) = false := by rfl
    rw [h1] at h2; cases h2
  | x :: y :: r, h, e1 =>
    simp only [List.map_cons] at e1
    rw [join_2] at e1
    generalize (decS x).data.toList = l at e1
    cases l with
    | nil => simp at e1
    | cons a l => have := congrArg List.length e1; simp at this
--@fn impl.ReadDecimal
theorem rdcE (s : ByteArray) (n : Int) (hs : s = decS n) (h : -1000000000000000000 < n ∧ n < 1000000000000000000) : FnSem Tryz.prog 58 [Str s] [] (Is [In n, Bo true] []) := by
  subst hs; exact rdcT n h
theorem row_get {xs : List Int} {r : List ByteArray} {i : Int} {d : ByteArray} (h0 : 0 ≤ i) (h1 : i < xs.length) : (xs.map decS ++ r).getD i.toNat d = decS (xs.getD i.toNat 0) := by
  have h2 : i.toNat < xs.length := by omega
  simp [List.getD_eq_getElem?_getD, List.getElem?_append, h2]
--@fn impl.ReadList
theorem rlsT (xs : List Int) (h : okLs xs) : FnSem Tryz.prog 120 [Str (listS xs)] [] (Is [.osl 0 0 xs.length, Bo true] [Rw .flat (eI 0) (xs.map eI)]) := by
  have hp := h.1
  have hl := h.2.1
  have hz := listS_size h
  have hg := listS_ge h
  have hne := listS_ne h
  have hlm : (xs.map decS).length = xs.length := List.length_map _
  refine FnSem.walk (zs := zeroPV Tryz.prog) (by kernel_rfl) Tryz.func120 rfl Tryz.results120 (by kernel_rfl) (by kernel_rfl) (by kernel_rfl) fun hw hh => ?_
  obtain ⟨w0, _⟩ := hw
  first | replace w0 := wf_S w0 | skip
  repeat' first
    | refine And.intro rfl ?_
    | refine GdF.mk (fun h => h) ?_
    | refine And.intro (Nat.succ_ne_zero _) ?_
    | refine And.intro (Nat.le_of_ble_eq_true rfl) ?_
    | refine SeqF.run ?_
    | refine ArgF.is (splitT (listS xs) _ 65 (xs.map decS) (by omega) (by decide) (by omega) (by omega) (by exact listS_split h (by omega)) (by rw [List.length_map]; omega) (by intro y hy; obtain ⟨n, hn, rfl⟩ := List.mem_map.1 hy; have := decS_size (n := n) (by have := h.2.2 n hn; omega); unfold maxLen; omega)) ?_
    | refine ArgQ.is (fun hG => splitT (listS xs) _ 65 (xs.map decS) (by omega) (by decide) (by omega) (by omega) (by exact listS_split h (by omega)) (by rw [List.length_map]; omega) (by intro y hy; obtain ⟨n, hn, rfl⟩ := List.mem_map.1 hy; have := decS_size (n := n) (by have := h.2.2 n hn; omega); unfold maxLen; omega)) rfl rfl ?_
    | refine ArgF.is (rdcE _ (xs.getD i.toNat 0) (by exact row_get h0 (by rw [List.length_map] at hb; exact hb)) (by rw [List.length_map] at hb; have := h.nth h0 hb; omega)) ?_
    | refine ArgQ.is (fun hG => rdcE _ (xs.getD i.toNat 0) (by exact row_get h0 (by rw [List.length_map] at hb; exact hb)) (by rw [List.length_map] at hb; have := h.nth h0 hb; omega)) rfl rfl ?_
    | refine ArgF.is (ltxT ys (by rw [h3, List.take_of_length_le (by rw [List.length_map] at hb; omega)]; exact h)) ?_
    | refine ArgQ.is (fun hG => ltxT ys (by rw [h3, List.take_of_length_le (by rw [List.length_map] at hb; omega)]; exact h)) rfl rfl ?_
    | refine LoopF.at 5 rfl (LoopF.fix [0, 12, 13] (Int × Nat × List Int) (fun (i, n, ys) => 0 ≤ i ∧ i ≤ xs.length ∧ (n = ys.length ∧ (n : Int) = i) ∧ ys = xs.take i.toNat) (fun (i, n, ys) => [(14, In i), (4, .osl 1 0 n)]) (fun (i, n, ys) => [(1, Rw .flat (eI 0) (ys.map eI))]) (fun (i, n, ys) => (((xs.length : Int) - i).toNat)) ((0, 0, [])) ?_)
    | (refine LoopB.of (T := Int × Nat × List Int) ?_ ?_; rotate_left; rintro ⟨i, n, ys⟩ ⟨h0, h1, h2, h3⟩; rotate_left)
    | refine GhF.go ?_
    | refine MkF.row ?_
    | refine EqP.mk _ (gm eI 0 rfl) ?_
    | refine EqP.mk _ (gm eS ⟨#[]⟩ rfl) ?_
    | refine BndF.mk (fun _ => by omega) ?_
    | refine BndF.mk (fun _ => by simp only [lnS]; omega) ?_
    | refine EqI.mk _ (fun _ => wrapI (by omega) (by omega)) ?_
    | refine EqI.mk _ (fun _ => rfl) ?_
    | refine FlF.keep ?_
    | refine EqN.mk _ (ln eI) ?_
    | refine EqN.mk _ (ln eS) ?_
    | refine EqN.mk _ (Nat.zero_add _) ?_
    | refine EqN.mk (_ + 1) rfl ?_
    | refine EqN.mk _ (Int.toNat_natCast _) ?_
    | refine EqN.mk _ rfl ?_
    | refine EqL.mk _ (sn0 eI) ?_
    | refine EqL.mk _ (sn eI (by first | rfl | assumption | omega | (simp only [lnS] <;> omega))) ?_
    | refine EqL.mk _ (ap0 eI) ?_
    | refine EqL.mk _ (ap eI (by first | rfl | assumption | omega | (simp only [lnS] <;> omega))) ?_
    | refine EqL.mk _ (tk eI (by first | rfl | assumption | omega | (simp only [lnS] <;> omega))) ?_
    | refine EqL.mk _ (dt eI) ?_
    | refine EqL.mk _ (sn0 eS) ?_
    | refine EqL.mk _ (sn eS (by first | rfl | assumption | omega | (simp only [lnS] <;> omega))) ?_
    | refine EqL.mk _ (ap0 eS) ?_
    | refine EqL.mk _ (ap eS (by first | rfl | assumption | omega | (simp only [lnS] <;> omega))) ?_
    | refine EqL.mk _ (tk eS (by first | rfl | assumption | omega | (simp only [lnS] <;> omega))) ?_
    | refine EqL.mk _ (dt eS) ?_
    | refine EqL.mk [] rfl ?_
    | refine EqL.mk [_] rfl ?_
    | refine EqL.mk _ rfl ?_
    | refine ArgF.is (c_strings_SplitN ..) ?_
    | refine ArgQ.is (fun hG => c_strings_SplitN ..) rfl rfl ?_
    | refine ArgF.is (c_impl_ReadDecimal ..) ?_
    | refine ArgQ.is (fun hG => c_impl_ReadDecimal ..) rfl rfl ?_
    | refine ArgF.is (c_impl_ListText ..) ?_
    | refine ArgQ.is (fun hG => c_impl_ListText ..) rfl rfl ?_
    | refine CallF.mk (CallW.is [] true rfl ?_)
    | refine CallG.mk ?_
    | (refine CondF.mk (fun hb => ?_) (fun hb => ?_) <;> try simp only [forall_const, eq_self, not_true_eq_false, not_false_eq_true, or_false, false_or, or_self, or_true, true_or, and_true, true_and, and_false, false_and, decide_true, decide_false, Bool.not_true, Bool.not_false, decide_eq_true_eq, decide_eq_false_iff_not, ite_and_p, ite_or_p, Bool.decide_eq_true, Bool.and_eq_true, Bool.or_eq_true, Bool.not_eq_true', Bool.not_eq_false', Bool.and_eq_false_imp, Bool.or_eq_false_iff, bne_iff_ne, beq_iff_eq, bne_eq_false_iff_eq, beq_eq_false_iff_ne, gt_iff_lt, ge_iff_le, Int.not_lt, Int.not_le, ne_eq, Bool.true_eq_false, Bool.false_eq_true, reduceCtorEq, eta_Airway, eta_Fan, eta_Mine] at hb)
    | apply BackF.auto3
    | refine BackB.mk ?_ ?_
    | refine RetF.auto (And.intro rfl ?_)
    | exact Is.mk rfl rfl
    | refine Is.mk ?_ rfl
    | refine Is.mk rfl ?_
    | refine Is.mk ?_ ?_
  all_goals try dsimp only
  all_goals first
    | omega
    | exact ⟨by omega, by omega, ⟨rfl, by omega⟩, by simp⟩
    | exact absurd hb hne
    | exact ⟨by omega, by omega, ⟨by simp [h2.1], by omega⟩, by rw [h3, take_snoc h0 (by omega) 0]⟩
    | (have he : ys = xs := by
         rw [h3, List.take_of_length_le (by omega)]
       first
         | exact absurd (by rw [he]) hb
         | (rw [h2.1, he]; rfl)
         | (rw [he]; rfl))
    | skip
end Go.Proofs.YtdhkpmaanegjkaaGreatDoor

set_option linter.unusedVariables false
set_option linter.unusedSimpArgs false
namespace Go.Proofs.YtdhkpmaanegjkaaGreatDoor
open Go.Av
attribute [local irreducible] Go.IntKind.wrap listS decS isName
set_option maxRecDepth 20000
set_option maxHeartbeats 8000000
theorem cut_at {l r : List UInt8} {c : UInt8} (h : c ∉ l) : Lib.cut (l ++ c :: r) [c] = (l, r, true) := by
  unfold Lib.cut
  rw [Lib.index_one, idx_at h, if_pos (by omega)]
  simp
theorem name_size {s : ByteArray} (h : isName s = true) : 1 ≤ s.size ∧ s.size ≤ 10 := by
  unfold isName at h
  simp only [Bool.and_eq_true, decide_eq_true_eq] at h
  exact h.1.1
theorem name_free {s : ByteArray} (h : isName s = true) {c : UInt8} (hc : nameB (c.toNat : Int) = false) : c ∉ s.data.toList := by
  intro hm
  unfold isName at h
  simp only [Bool.and_eq_true] at h
  have h2 := allB_iff.1 h.2
  obtain ⟨j, hj, e⟩ := List.getElem_of_mem hm
  have h3 := h2 j (by
    have : s.size = s.data.toList.length := by rw [Array.length_toList]; rfl
    omega)
  unfold byteAt at h3
  rw [List.getD_eq_getElem?_getD, List.getElem?_eq_getElem hj, Option.getD_some, e, hc] at h3
  cases h3
def idS (id : ByteArray) (xs : List Int) : ByteArray := id ++ ⟨#[32]⟩ ++ listS xs
theorem idS_list {id : ByteArray} {xs : List Int} : (idS id xs).data.toList = id.data.toList ++ 32 :: (listS xs).data.toList := by
  unfold idS
  simp [ByteArray.data_append]
theorem idS_size {id : ByteArray} {xs : List Int} : (idS id xs).size = id.size + 1 + (listS xs).size := by
  unfold idS
  rw [ByteArray.size_append, ByteArray.size_append]; rfl
theorem idS_cut {id : ByteArray} {xs : List Int} (h : isName id = true) : Lib.cut (idS id xs).data.toList (⟨#[32]⟩ : ByteArray).data.toList = (id.data.toList, (listS xs).data.toList, true) := by
  rw [idS_list]
  exact cut_at (name_free h (by decide))
theorem c_impl_withId (id : ByteArray) (xs : List Int) (h : okLs xs) (hid : isName id = true) : FnSem Tryz.prog 96 [Str id, Lx (LI xs)] [] (Is [Str (idS id xs)] []) := by
  have h1 := name_size hid
  have h2 := listS_size h
  refine FnSem.walk (zs := zeroPV Tryz.prog) (by kernel_rfl) Tryz.func96 rfl Tryz.results96 (by kernel_rfl) (by kernel_rfl) (by kernel_rfl) fun hw hh => ?_
  obtain ⟨w0, w1, _⟩ := hw
  first | replace w0 := wf_S w0 | skip
  first | replace w1 := wf_LI w1 | skip
  repeat' first
    | refine And.intro rfl ?_
    | refine GdF.mk (fun h => h) ?_
    | refine And.intro (Nat.succ_ne_zero _) ?_
    | refine And.intro (Nat.le_of_ble_eq_true rfl) ?_
    | refine SeqF.run ?_
    | refine ArgF.is (ltxT xs h) ?_
    | refine ArgQ.is (fun hG => ltxT xs h) rfl rfl ?_
    | refine BndF.mk (fun _ => by simp only [cat_size, one_size]; omega) ?_
    | refine GhF.go ?_
    | refine BndF.mk (fun _ => by omega) ?_
    | refine BndF.mk (fun _ => by simp only [lnS]; omega) ?_
    | refine EqI.mk _ (fun _ => wrapI (by omega) (by omega)) ?_
    | refine EqI.mk _ (fun _ => rfl) ?_
    | refine EqL.mk _ (tk eI (by first | rfl | assumption | omega | (simp only [lnS] <;> omega))) ?_
    | refine EqL.mk [] rfl ?_
    | refine EqL.mk [_] rfl ?_
    | refine EqL.mk _ rfl ?_
    | refine ArgF.is (c_impl_ListText ..) ?_
    | refine ArgQ.is (fun hG => c_impl_ListText ..) rfl rfl ?_
    | refine CallF.mk (CallW.is [] true rfl ?_)
    | refine CallG.mk ?_
    | (refine CondF.mk (fun hb => ?_) (fun hb => ?_) <;> try simp only [forall_const, eq_self, not_true_eq_false, not_false_eq_true, or_false, false_or, or_self, or_true, true_or, and_true, true_and, and_false, false_and, decide_true, decide_false, Bool.not_true, Bool.not_false, decide_eq_true_eq, decide_eq_false_iff_not, ite_and_p, ite_or_p, Bool.decide_eq_true, Bool.and_eq_true, Bool.or_eq_true, Bool.not_eq_true', Bool.not_eq_false', Bool.and_eq_false_imp, Bool.or_eq_false_iff, bne_iff_ne, beq_iff_eq, bne_eq_false_iff_eq, beq_eq_false_iff_ne, gt_iff_lt, ge_iff_le, Int.not_lt, Int.not_le, ne_eq, Bool.true_eq_false, Bool.false_eq_true, reduceCtorEq, eta_Airway, eta_Fan, eta_Mine] at hb)
    | refine RetF.auto (And.intro rfl ?_)
    | exact Is.mk rfl rfl
    | refine Is.mk ?_ rfl
    | refine Is.mk rfl ?_
    | refine Is.mk ?_ ?_
  all_goals skip
theorem c_impl_readWithId (id : ByteArray) (xs : List Int) (k : Int) (h : okLs xs) (hid : isName id = true) (hk : k = xs.length) : FnSem Tryz.prog 94 [Str (idS id xs), In k] [] (Is [Str id, .osl 0 0 xs.length, Bo true] [Rw .flat (eI 0) (xs.map eI)]) := by
  have h1 := name_size hid
  have h2 := listS_size h
  have h3 := idS_size (id := id) (xs := xs)
  subst hk
  refine FnSem.walk (zs := zeroPV Tryz.prog) (by kernel_rfl) Tryz.func94 rfl Tryz.results94 (by kernel_rfl) (by kernel_rfl) (by kernel_rfl) fun hw hh => ?_
  obtain ⟨w0, w1, _⟩ := hw
  first | replace w0 := wf_S w0 | skip
  first | replace w1 := wf_I w1 | skip
  repeat' first
    | refine And.intro rfl ?_
    | refine GdF.mk (fun h => h) ?_
    | refine And.intro (Nat.succ_ne_zero _) ?_
    | refine And.intro (Nat.le_of_ble_eq_true rfl) ?_
    | refine SeqF.run ?_
    | refine ArgF.is (cutT (idS id xs) ⟨#[32]⟩ id (listS xs) true (by omega) (idS_cut hid) (by unfold maxLen; omega) (by unfold maxLen; omega)) ?_
    | refine ArgQ.is (fun hG => cutT (idS id xs) ⟨#[32]⟩ id (listS xs) true (by omega) (idS_cut hid) (by unfold maxLen; omega) (by unfold maxLen; omega)) rfl rfl ?_
    | refine ArgF.is (rlsT xs h) ?_
    | refine ArgQ.is (fun hG => rlsT xs h) rfl rfl ?_
    | refine GhF.go ?_
    | refine GdS.keep ?_
    | refine DrawG.old (DrawF.lex (by decide +kernel) ?_)
    | refine DrawG.old (DrawF.any ?_)
    | refine OrdF.take 0 (by decide +kernel) ?_
    | refine OrdF.take 2 (by decide +kernel) ?_
    | refine OrdF.take 3 (by decide +kernel) ?_
    | refine OrdF.take 4 (by decide +kernel) ?_
    | refine OrdF.all [1] (by decide +kernel) ?_
    | refine OrdF.fin (by decide +kernel) ?_
    | refine AllF.one _ ?_
    | refine AllF.cons _ _ ?_ ?_
    | refine MkF.row ?_
    | refine BndF.mk (fun _ => by omega) ?_
    | refine BndF.mk (fun _ => by simp only [lnS]; omega) ?_
    | refine BndF.mk (fun hG => by simp only [forall_const, eq_self, not_true_eq_false, not_false_eq_true, or_false, false_or, or_self, or_true, true_or, and_true, true_and, and_false, false_and, decide_true, decide_false, Bool.not_true, Bool.not_false, decide_eq_true_eq, decide_eq_false_iff_not, ite_and_p, ite_or_p, Bool.decide_eq_true, Bool.and_eq_true, Bool.or_eq_true, Bool.not_eq_true', Bool.not_eq_false', Bool.and_eq_false_imp, Bool.or_eq_false_iff, bne_iff_ne, beq_iff_eq, bne_eq_false_iff_eq, beq_eq_false_iff_ne, gt_iff_lt, ge_iff_le, Int.not_lt, Int.not_le, ne_eq, Bool.true_eq_false, Bool.false_eq_true, reduceCtorEq, eta_Airway, eta_Fan, eta_Mine, bytes_nil] at hG; (try simp only [List.length_map]); omega) ?_
    | refine EqN.mk _ (ln eI) ?_
    | refine EqN.mk _ (Nat.zero_add _) ?_
    | refine EqN.mk _ (Int.toNat_natCast _) ?_
    | refine EqN.mk _ rfl ?_
    | refine EqL.mk _ (tk eI (by first | rfl | assumption | omega | (simp only [lnS] <;> omega))) ?_
    | refine EqL.mk _ (rp eI 0) ?_
    | refine EqL.mk _ (dt eI) ?_
    | refine EqL.mk [] rfl ?_
    | refine EqL.mk [_] rfl ?_
    | refine EqL.mk _ rfl ?_
    | refine ArgF.is (c_strings_Cut ..) ?_
    | refine ArgQ.is (fun hG => c_strings_Cut ..) rfl rfl ?_
    | refine ArgF.is (c_impl_ReadList ..) ?_
    | refine ArgQ.is (fun hG => c_impl_ReadList ..) rfl rfl ?_
    | refine CallF.mk (CallW.is [] true rfl ?_)
    | refine CallG.mk ?_
    | (refine CondF.mk (fun hb => ?_) (fun hb => ?_) <;> try simp only [forall_const, eq_self, not_true_eq_false, not_false_eq_true, or_false, false_or, or_self, or_true, true_or, and_true, true_and, and_false, false_and, decide_true, decide_false, Bool.not_true, Bool.not_false, decide_eq_true_eq, decide_eq_false_iff_not, ite_and_p, ite_or_p, Bool.decide_eq_true, Bool.and_eq_true, Bool.or_eq_true, Bool.not_eq_true', Bool.not_eq_false', Bool.and_eq_false_imp, Bool.or_eq_false_iff, bne_iff_ne, beq_iff_eq, bne_eq_false_iff_eq, beq_eq_false_iff_ne, gt_iff_lt, ge_iff_le, Int.not_lt, Int.not_le, ne_eq, Bool.true_eq_false, Bool.false_eq_true, reduceCtorEq, eta_Airway, eta_Fan, eta_Mine] at hb)
    | refine RetF.auto (And.intro rfl ?_)
    | exact Is.mk rfl rfl
    | refine Is.mk ?_ rfl
    | refine Is.mk rfl ?_
    | refine Is.mk ?_ ?_
  all_goals try dsimp only
  all_goals first
    | omega
    | skip
end Go.Proofs.YtdhkpmaanegjkaaGreatDoor

set_option linter.unusedVariables false
set_option linter.unusedSimpArgs false
namespace Go.Proofs.YtdhkpmaanegjkaaGreatDoor
open Go.Av
end Go.Proofs.YtdhkpmaanegjkaaGreatDoor

set_option linter.unusedVariables false
set_option linter.unusedSimpArgs false
namespace Go.Proofs.YtdhkpmaanegjkaaGreatDoor
open Go.Av
attribute [local irreducible] Go.IntKind.wrap
set_option maxRecDepth 20000
set_option maxHeartbeats 2000000
theorem c_spec_l00Src_text (c : List Int) (p s : Int) (xs : List ByteArray) (k : Nat) (hc : bytes c) (hp : 0 ≤ p ∧ p ≤ 100000000) (h1 : 1 ≤ k) (h2 : k = xs.length) : FnSem Tryz.prog 46 [.own 0 0, .osl 1 0 k] [srcO c p s, .row false .flat (eS ⟨#[]⟩) (xs.map eS)] (SrcW (fun n : ByteArray => [Str n]) (fun n => n ∈ xs) c 2 p (.row false .flat (eS ⟨#[]⟩) (xs.map eS))) := by
  refine FnSem.walk (zs := zeroPV Tryz.prog) (by kernel_rfl) Tryz.func46 rfl Tryz.results46 (by kernel_rfl) (by kernel_rfl) (by kernel_rfl) fun hw hh => ?_
  obtain ⟨w0, w1, _⟩ := hw
  first | replace w0 := wfr_L00Src w0 | skip
  first | replace w1 := wf_I w1 | replace w1 := wf_Y w1 | replace w1 := wf_S w1 | replace w1 := wf_LI w1 | replace w1 := wf_LY w1 | replace w1 := wf_LLI w1 | replace w1 := wf_Ls w1 | skip
  repeat' first
    | refine And.intro rfl ?_
    | refine GdF.mk (fun h => h) ?_
    | refine And.intro (Nat.succ_ne_zero _) ?_
    | refine And.intro (Nat.le_of_ble_eq_true rfl) ?_
    | refine SeqF.run ?_
    | refine SrcW.mk (α := ByteArray) _ _ _ rfl rfl ?_ ?_
    | refine GhF.go ?_
    | refine EqP.mk _ (gm eS ⟨#[]⟩ rfl) ?_
    | refine BndF.mk (fun _ => by omega) ?_
    | refine BndF.mk (fun _ => by simp only [lnS]; omega) ?_
    | refine EqN.mk _ (ln eS) ?_
    | refine EqN.mk _ (Nat.zero_add _) ?_
    | refine EqN.mk _ (Int.toNat_natCast _) ?_
    | refine EqN.mk _ rfl ?_
    | refine EqL.mk _ (tk eS (by first | rfl | assumption | omega | (simp only [lnS] <;> omega))) ?_
    | refine EqL.mk [] rfl ?_
    | refine EqL.mk [_] rfl ?_
    | refine EqL.mk _ rfl ?_
    | (refine ArgF.src (c_spec_l00Src_pick _ _ _ _ (by first | assumption | omega | rfl | (simp only [List.length_cons, List.length_nil]; omega)) (by first | assumption | omega | rfl | (simp only [List.length_cons, List.length_nil]; omega)) (by first | assumption | omega | rfl | (simp only [List.length_cons, List.length_nil]; omega))) ?_; intro _ _ _ _ _)
    | refine CallF.own (f := 44) [0] false ?_
    | refine CallF.mk (CallW.is [] true rfl ?_)
    | refine CallG.mk ?_
    | (refine CondF.mk (fun hb => ?_) (fun hb => ?_) <;> try simp only [forall_const, eq_self, not_true_eq_false, not_false_eq_true, or_false, false_or, or_self, or_true, true_or, and_true, true_and, and_false, false_and, decide_true, decide_false, Bool.not_true, Bool.not_false, decide_eq_true_eq, decide_eq_false_iff_not, ite_and_p, ite_or_p, Bool.decide_eq_true, Bool.and_eq_true, Bool.or_eq_true, Bool.not_eq_true', Bool.not_eq_false', Bool.and_eq_false_imp, Bool.or_eq_false_iff, bne_iff_ne, beq_iff_eq, bne_eq_false_iff_eq, beq_eq_false_iff_ne, gt_iff_lt, ge_iff_le, Int.not_lt, Int.not_le, ne_eq, Bool.true_eq_false, Bool.false_eq_true, reduceCtorEq, eta_Airway, eta_Fan, eta_Mine] at hb)
    | refine RetF.auto (And.intro rfl ?_)
    | exact Is.mk rfl rfl
    | refine Is.mk ?_ rfl
    | refine Is.mk rfl ?_
    | refine Is.mk ?_ ?_
  all_goals try omega
  · rename_i v _ _ _ _
    have hv : v.toNat < xs.length := by omega
    rw [List.getD_eq_getElem?_getD, List.getElem?_eq_getElem hv]; exact List.getElem_mem hv
end Go.Proofs.YtdhkpmaanegjkaaGreatDoor
