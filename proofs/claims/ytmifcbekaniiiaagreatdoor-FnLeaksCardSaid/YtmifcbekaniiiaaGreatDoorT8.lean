/- Contracts of functions of the program, and what they compute. Conditions: those that each theorem states. -/
import Derived.Test.YtmifcbekaniiiaaGreatDoorProg
import Derived.Test.YtmifcbekaniiiaaGreatDoorT7
set_option linter.unusedVariables false
set_option linter.unusedSimpArgs false
namespace Go.Proofs.YtmifcbekaniiiaaGreatDoor
open Go.Av
attribute [local irreducible] Go.IntKind.wrap
set_option maxRecDepth 20000
set_option maxHeartbeats 8000000

theorem join_len {c : UInt8} : ∀ xs : List (List UInt8), (∀ x ∈ xs, x.length ≤ 20) → (Lib.join xs [c]).length ≤ 21 * xs.length
  | [], _ => by simp [Lib.join_nil]
  | [x], h => by
    have := h x (by simp)
    have e : Lib.join [x] [c] = x := by simp [Lib.join, List.intercalate]
    rw [e]; simp; omega
  | x :: y :: r, h => by
    rw [join_2]
    have h1 := h x (by simp)
    have h2 := join_len (c := c) (y :: r) (fun z hz => h z (List.mem_cons_of_mem _ hz))
    simp only [List.length_append, List.length_cons] at h2 ⊢
    omega
def okL (xs : List Int) : Prop := 0 < xs.length ∧ xs.length ≤ 64 ∧ ∀ x ∈ xs, -1000000000000 ≤ x ∧ x ≤ 1000000000000
theorem okL.nth {xs : List Int} (h : okL xs) {i : Int} (h0 : 0 ≤ i) (h1 : i < xs.length) : -1000000000000 ≤ xs.getD i.toNat 0 ∧ xs.getD i.toNat 0 ≤ 1000000000000 := by
  apply h.2.2
  rw [List.getD_eq_getElem?_getD, List.getElem?_eq_getElem (by omega), Option.getD_some]
  exact List.getElem_mem _
def listS (xs : List Int) : ByteArray := joinS 44 (xs.map decS)
theorem listS_size {xs : List Int} (h : okL xs) : (listS xs).size ≤ 1344 := by
  have h1 := join_len (c := 44) ((xs.map decS).map (·.data.toList)) (fun x hx => by
    simp only [List.mem_map] at hx
    obtain ⟨y, ⟨n, hn, rfl⟩, rfl⟩ := hx
    have := decS_size (n := n) (by have := h.2.2 n hn; omega)
    rw [Array.length_toList]; exact this)
  have h2 : (listS xs).size = (listS xs).data.toList.length := by rw [Array.length_toList]; rfl
  unfold listS at h2 ⊢
  rw [joinS_list] at h2
  rw [h2]
  simp only [List.length_map] at h1
  have := h.2.1
  omega
theorem listS_join {xs : List Int} {ys : List ByteArray} {i : Int} (hi : xs.length ≤ i) (h : ys = (xs.take i.toNat).map decS) : Lib.join (ys.map (·.data.toList)) [44] = (listS xs).data.toList := by
  rw [h, List.take_of_length_le (by omega)]; unfold listS; exact joinS_list.symm
--@fn impl.ListText
theorem ltxT (xs : List Int) (h : okL xs) : FnSem Tryz.prog 154 [Lx (LI xs)] [] (Is [Str (listS xs)] []) := by
  have hp := h.1
  have hl := h.2.1
  have hz := listS_size h
  refine FnSem.walk (zs := zeroPV Tryz.prog) (by kernel_rfl) Tryz.func154 rfl Tryz.results154 (by kernel_rfl) (by kernel_rfl) (by kernel_rfl) fun hw hh => ?_
  obtain ⟨w0, _⟩ := hw
  first | replace w0 := wf_LI w0 | skip
  repeat' first
    | refine And.intro rfl ?_
    | refine GdF.mk (fun h => h) ?_
    | refine And.intro (Nat.succ_ne_zero _) ?_
    | refine And.intro (Nat.le_of_ble_eq_true rfl) ?_
    | refine SeqF.run ?_
    | refine ArgF.is (decT (xs.getD i.toNat 0) (by have := h.nth h0 (by assumption); omega)) ?_
    | refine ArgQ.is (fun hG => decT (xs.getD i.toNat 0) (by have := h.nth h0 (by assumption); omega)) rfl rfl ?_
    | refine ArgF.is (joinT .any _ ys _ (listS xs) rfl (by exact listS_join (by omega) h3) (by omega) (by omega)) ?_
    | refine ArgQ.is (fun hG => joinT .any _ ys _ (listS xs) rfl (by exact listS_join (by omega) h3) (by omega) (by omega)) rfl rfl ?_
    | refine LoopF.at 7 rfl (LoopF.fix [15, 16] (Int × Nat × List ByteArray) (fun (i, n, ys) => 0 ≤ i ∧ i ≤ xs.length ∧ (n = ys.length ∧ (n : Int) = i) ∧ ys = (xs.take i.toNat).map decS) (fun (i, n, ys) => [(17, In i), (3, .osl 0 0 n)]) (fun (i, n, ys) => [(0, Rw .flat (eS ByteArray.empty) (ys.map eS))]) (fun (i, n, ys) => (((xs.length : Int) - i).toNat)) ((0, 0, [])) ?_)
    | (refine LoopB.of (T := Int × Nat × List ByteArray) ?_ ?_; rotate_left; rintro ⟨i, n, ys⟩ ⟨h0, h1, h2, h3⟩; rotate_left)
    | refine GhF.go ?_
    | refine MkF.row ?_
    | refine EqP.mk _ (gm eI 0 rfl) ?_
    | refine EqP.mk _ (gm eS ⟨#[]⟩ rfl) ?_
    | refine BndF.mk (fun _ => by omega) ?_
    | refine BndF.mk (fun _ => by simp only [List.length_map, List.length_cons, List.length_nil, List.length_append, List.length_set, List.length_replicate, iotaI_len]; omega) ?_
    | refine EqI.mk _ (fun _ => wrapI (by omega) (by omega)) ?_
    | refine EqI.mk _ (fun _ => rfl) ?_
    | refine FlF.keep ?_
    | refine EqN.mk _ (ln eI) ?_
    | refine EqN.mk _ (ln eS) ?_
    | refine EqN.mk _ (Nat.zero_add _) ?_
    | refine EqN.mk (_ + 1) rfl ?_
    | refine EqN.mk _ (Int.toNat_natCast _) ?_
    | refine EqN.mk _ rfl ?_
    | refine EqL.mk _ (sn0 eI) ?_
    | refine EqL.mk _ (sn eI (by first | rfl | assumption | omega | (simp only [List.length_map, List.length_cons, List.length_nil, List.length_append, List.length_set, List.length_replicate, iotaI_len]; done) | (simp only [List.length_map, List.length_cons, List.length_nil, List.length_append, List.length_set, List.length_replicate, iotaI_len]; omega))) ?_
    | refine EqL.mk _ (ap0 eI) ?_
    | refine EqL.mk _ (ap eI (by first | rfl | assumption | omega | (simp only [List.length_map, List.length_cons, List.length_nil, List.length_append, List.length_set, List.length_replicate, iotaI_len]; done) | (simp only [List.length_map, List.length_cons, List.length_nil, List.length_append, List.length_set, List.length_replicate, iotaI_len]; omega))) ?_
    | refine EqL.mk _ (tk eI (by first | rfl | assumption | omega | (simp only [List.length_map, List.length_cons, List.length_nil, List.length_append, List.length_set, List.length_replicate, iotaI_len]; done) | (simp only [List.length_map, List.length_cons, List.length_nil, List.length_append, List.length_set, List.length_replicate, iotaI_len]; omega))) ?_
    | refine EqL.mk _ (rp eI 0) ?_
    | refine EqL.mk _ (sn0 eS) ?_
    | refine EqL.mk _ (sn eS (by first | rfl | assumption | omega | (simp only [List.length_map, List.length_cons, List.length_nil, List.length_append, List.length_set, List.length_replicate, iotaI_len]; done) | (simp only [List.length_map, List.length_cons, List.length_nil, List.length_append, List.length_set, List.length_replicate, iotaI_len]; omega))) ?_
    | refine EqL.mk _ (ap0 eS) ?_
    | refine EqL.mk _ (ap eS (by first | rfl | assumption | omega | (simp only [List.length_map, List.length_cons, List.length_nil, List.length_append, List.length_set, List.length_replicate, iotaI_len]; done) | (simp only [List.length_map, List.length_cons, List.length_nil, List.length_append, List.length_set, List.length_replicate, iotaI_len]; omega))) ?_
    | refine EqL.mk _ (tk eS (by first | rfl | assumption | omega | (simp only [List.length_map, List.length_cons, List.length_nil, List.length_append, List.length_set, List.length_replicate, iotaI_len]; done) | (simp only [List.length_map, List.length_cons, List.length_nil, List.length_append, List.length_set, List.length_replicate, iotaI_len]; omega))) ?_
    | refine EqL.mk _ (rp eS ⟨#[]⟩) ?_
    | refine EqL.mk [] rfl ?_
    | refine EqL.mk [_] rfl ?_
    | refine EqL.mk _ rfl ?_
    | refine ArgF.is (c_impl_within ..) ?_
    | refine ArgQ.is (fun hG => c_impl_within ..) rfl rfl ?_
    | refine ArgF.is (c_impl_Decimal _ (by first | assumption | omega)) ?_
    | refine ArgQ.is (fun hG => c_impl_Decimal _ (by first | assumption | omega)) rfl rfl ?_
    | refine ArgF.is (c_strings_Join ..) ?_
    | refine ArgQ.is (fun hG => c_strings_Join ..) rfl rfl ?_
    | refine CallF.mk (CallW.is [] true rfl ?_)
    | refine CallG.mk ?_
    | (refine CondF.mk (fun hb => ?_) (fun hb => ?_) <;> try simp only [forall_const, eq_self, not_true_eq_false, not_false_eq_true, or_false, false_or, or_self, or_true, true_or, and_true, true_and, and_false, false_and, decide_true, decide_false, Bool.not_true, Bool.not_false, decide_eq_true_eq, decide_eq_false_iff_not, ite_and_p, ite_or_p, Bool.decide_eq_true, Bool.and_eq_true, Bool.or_eq_true, Bool.not_eq_true', Bool.not_eq_false', Bool.and_eq_false_imp, Bool.or_eq_false_iff, bne_iff_ne, beq_iff_eq, bne_eq_false_iff_eq, beq_eq_false_iff_ne, gt_iff_lt, ge_iff_le, Int.not_lt, Int.not_le, ne_eq, Bool.true_eq_false, Bool.false_eq_true, reduceCtorEq, eta_Airway, eta_Duct, eta_Fan, eta_Mine, eta_Survey] at hb)
    | apply BackF.auto3
    | refine BackB.mk ?_ ?_
    | refine RetF.auto (And.intro rfl ?_)
    | exact Is.mk rfl rfl
    | refine Is.mk ?_ rfl
    | refine Is.mk rfl ?_
    | refine Is.mk ?_ ?_
  all_goals try dsimp only
  all_goals first
    | omega
    | exact ⟨by omega, by omega, ⟨rfl, by omega⟩, by simp⟩
    | exact ⟨by omega, by omega, ⟨by simp [h2.1], by omega⟩, by rw [h3, take_snoc h0 (by assumption) 0, List.map_append]; rfl⟩
    | (exfalso
       have hq := h.nth h0 (by assumption)
       have h4 := inR_f.1 hb
       omega)
    | skip
end Go.Proofs.YtmifcbekaniiiaaGreatDoor
