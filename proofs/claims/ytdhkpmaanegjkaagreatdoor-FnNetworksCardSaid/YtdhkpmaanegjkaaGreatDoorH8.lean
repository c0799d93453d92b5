/- Contracts of functions of the program, and what they compute. Conditions: those that each theorem states. -/
import Derived.Test.YtdhkpmaanegjkaaGreatDoorProg
import Derived.Test.YtdhkpmaanegjkaaGreatDoorH7
import Derived.Test.YtdhkpmaanegjkaaGreatDoorA8t
import Derived.Test.YtdhkpmaanegjkaaGreatDoorT14a
set_option linter.unusedVariables false
set_option linter.unusedSimpArgs false
namespace Go.Proofs.YtdhkpmaanegjkaaGreatDoor
open Go.Av
attribute [local irreducible] Go.IntKind.wrap listS decS idS isName okMine okAirway airwS
set_option maxRecDepth 20000
set_option maxHeartbeats 16000000
theorem join_mem {c d : UInt8} : ∀ xs : List (List UInt8), c ∈ Lib.join xs [d] → c = d ∨ ∃ x ∈ xs, c ∈ x
  | [], h => by simp [Lib.join_nil] at h
  | [x], h => by
    have e : Lib.join [x] [d] = x := by simp [Lib.join, List.intercalate]
    rw [e] at h
    exact .inr ⟨x, by simp, h⟩
  | x :: y :: r, h => by
    rw [join_2, List.mem_append, List.mem_cons] at h
    rcases h with h | h | h
    · exact .inr ⟨x, by simp, h⟩
    · exact .inl h
    · rcases join_mem (y :: r) h with h | ⟨z, h1, h2⟩
      · exact .inl h
      · exact .inr ⟨z, List.mem_cons_of_mem _ h1, h2⟩
theorem listS_free {xs : List Int} {c : UInt8} (h : c.toNat < 44 ∨ 57 < c.toNat ∨ c.toNat = 46 ∨ c.toNat = 47) : c ∉ (listS xs).data.toList := by
  unfold listS
  rw [joinS_list]
  intro hm
  rcases join_mem _ hm with e | ⟨x, h1, h2⟩
  · rw [e] at h; exact absurd h (by decide)
  · rw [List.map_map] at h1
    obtain ⟨n, _, rfl⟩ := List.mem_map.1 h1
    exact ch_free (by omega) h2
theorem airw_free {x : GAirway} (h : okAirway x = true) : (47 : UInt8) ∉ (airwS x).data.toList := by
  unfold airwS
  rw [idS_list]
  intro hm
  rcases List.mem_append.1 hm with hm | hm
  · exact name_free (okAirway_n h) (by decide) hm
  · rcases List.mem_cons.1 hm with hm | hm
    · exact absurd hm (by decide)
    · exact listS_free (by decide) hm
theorem airw_size {x : GAirway} (h : okAirway x = true) : (airwS x).size ≤ 1400 := by
  have h1 := name_size (okAirway_n h)
  have h2 := listS_size (okAirway_l h)
  unfold airwS
  rw [idS_size]
  omega
def minW (m : GMine) (k : Nat) : List ByteArray := decS m.junctions :: (m.airways.take k).map airwS
def minT (m : GMine) (k : Nat) : ByteArray := joinS 47 (minW m k)
def minS (m : GMine) : ByteArray := minT m m.airways.length
theorem minT_0 {m : GMine} : decS m.junctions = minT m 0 := ba_ext (by
  unfold minT
  rw [joinS_list]
  unfold minW
  rw [List.take_zero, List.map_nil, List.map_cons, List.map_nil]
  simp [Lib.join, List.intercalate])
theorem minT_s {m : GMine} {k : Nat} (hk : k < m.airways.length) : minT m k ++ (⟨#[47]⟩ ++ airwS (m.airways.getD k default)) = minT m (k + 1) := ba_ext (by
  have e : minW m (k + 1) = minW m k ++ [airwS (m.airways.getD k default)] := by
    unfold minW
    rw [List.take_succ_eq_append_getElem hk, List.map_append, List.getD_eq_getElem?_getD, List.getElem?_eq_getElem hk]
    rfl
  unfold minT
  rw [ByteArray.data_append, Array.toList_append, joinS_list, joinS_list, e, List.map_append]
  rw [show List.map (fun x : ByteArray => x.data.toList) [airwS (m.airways.getD k default)] = [(airwS (m.airways.getD k default)).data.toList] from rfl, join_snoc _ (by unfold minW; simp)]
  simp [ByteArray.data_append])
theorem awy {m : GMine} (h : okMine m = true) {k : Int} (h0 : 0 ≤ k) (h1 : k < m.airways.length) : okAirway (m.airways.getD k.toNat default) = true := ((okMine_p h).2.2 k.toNat (by omega)).1
--@fn impl.MineText
theorem mnTx (m : GMine) (h : okMine m = true) : FnSem Tryz.prog 18 [.p .any (.agg m.cells)] [] (Is [Str (minS m)] []) := by
  have hp := okMine_p h
  have hJ := decS_sz (n := m.junctions) (by omega)
  have hv := c_impl_ValidMine m
  rw [h] at hv
  refine FnSem.walk (zs := zeroPV Tryz.prog) (by kernel_rfl) Tryz.func18 rfl Tryz.results18 (by kernel_rfl) (by kernel_rfl) (by kernel_rfl) fun hw hh => ?_
  obtain ⟨w0, _⟩ := hw
  first | replace w0 := wf_Mine w0 | skip
  repeat' first
    | refine And.intro rfl ?_
    | refine GdF.mk (fun h => h) ?_
    | refine And.intro (Nat.succ_ne_zero _) ?_
    | refine And.intro (Nat.le_of_ble_eq_true rfl) ?_
    | refine SeqF.run ?_
    | refine ArgF.is (hv) ?_
    | refine ArgQ.is (fun hG => hv) rfl rfl ?_
    | refine ArgF.is (decT m.junctions (by omega)) ?_
    | refine ArgQ.is (fun hG => decT m.junctions (by omega)) rfl rfl ?_
    | refine ArgF.is (c_impl_AirwayText (m.airways.getD i.toNat default) (awy h i0 (by omega))) ?_
    | refine ArgQ.is (fun hG => c_impl_AirwayText (m.airways.getD i.toNat default) (awy h i0 (by omega))) rfl rfl ?_
    | refine BndF.mk (fun _ => by have q := airw_size (awy h i0 (by omega)); simp only [cat_size, one_size]; omega) ?_
    | refine LoopF.at 5 rfl (LoopF.fix [13, 14] (Int × ByteArray) (fun (i, t) => 0 ≤ i ∧ i ≤ m.airways.length ∧ (t = minT m i.toNat) ∧ (t.size : Int) ≤ 20 + 1401 * i) (fun (i, t) => [(15, In i), (3, Str t)]) (fun (i, t) => []) (fun (i, t) => ((m.airways.length - i).toNat)) ((0, decS m.junctions)) ?_)
    | (refine LoopB.of (T := Int × ByteArray) ?_ ?_; rotate_left; rintro ⟨i, t⟩ ⟨i0, i1, i2, i3⟩; rotate_left)
    | refine GhF.go ?_
    | refine EqP.mk _ (gm GAirway.cells default rfl) ?_
    | refine BndF.mk (fun _ => by omega) ?_
    | refine BndF.mk (fun _ => by simp only [lnS]; omega) ?_
    | refine EqI.mk _ (fun _ => wrapI (by omega) (by omega)) ?_
    | refine EqI.mk _ (fun _ => rfl) ?_
    | refine EqN.mk _ (ln GAirway.cells) ?_
    | refine EqN.mk _ (Nat.zero_add _) ?_
    | refine EqN.mk _ (Int.toNat_natCast _) ?_
    | refine EqN.mk _ rfl ?_
    | refine EqL.mk _ (tk GAirway.cells (by first | rfl | assumption | omega | (simp only [lnS] <;> omega))) ?_
    | refine EqL.mk _ (st GAirway.cells) ?_
    | refine EqL.mk [] rfl ?_
    | refine EqL.mk [_] rfl ?_
    | refine EqL.mk _ rfl ?_
    | refine ArgF.is (c_impl_ValidMine ⟨_, _⟩) ?_
    | refine ArgQ.is (fun hG => c_impl_ValidMine ⟨_, _⟩) rfl rfl ?_
    | refine ArgF.is (c_impl_Decimal _ (by first | assumption | omega)) ?_
    | refine ArgQ.is (fun hG => c_impl_Decimal _ (by first | assumption | omega)) rfl rfl ?_
    | refine ArgF.is (c_impl_AirwayText ⟨_, _, _, _, _, _, _⟩ (by first | assumption | omega)) ?_
    | refine ArgQ.is (fun hG => c_impl_AirwayText ⟨_, _, _, _, _, _, _⟩ (by first | assumption | omega)) rfl rfl ?_
    | refine CallF.mk (CallW.is [] true rfl ?_)
    | refine CallG.mk ?_
    | (refine CondF.mk (fun hb => ?_) (fun hb => ?_) <;> try simp only [forall_const, eq_self, not_true_eq_false, not_false_eq_true, or_false, false_or, or_self, or_true, true_or, and_true, true_and, and_false, false_and, decide_true, decide_false, Bool.not_true, Bool.not_false, decide_eq_true_eq, decide_eq_false_iff_not, ite_and_p, ite_or_p, Bool.decide_eq_true, Bool.and_eq_true, Bool.or_eq_true, Bool.not_eq_true', Bool.not_eq_false', Bool.and_eq_false_imp, Bool.or_eq_false_iff, bne_iff_ne, beq_iff_eq, bne_eq_false_iff_eq, beq_eq_false_iff_ne, gt_iff_lt, ge_iff_le, Int.not_lt, Int.not_le, ne_eq, Bool.true_eq_false, Bool.false_eq_true, reduceCtorEq, eta_Airway, eta_Fan, eta_Mine] at hb)
    | apply BackF.auto2
    | refine BackB.mk ?_ ?_
    | refine RetF.auto (And.intro rfl ?_)
    | exact Is.mk rfl rfl
    | refine Is.mk ?_ rfl
    | refine Is.mk rfl ?_
    | refine Is.mk ?_ ?_
  all_goals try dsimp only
  all_goals first
    | omega
    | exact ⟨by omega, by omega, minT_0, by omega⟩
    | (have q := airw_size (awy h i0 (by omega))
       refine ⟨by omega, by omega, ?_, by simp only [cat_size, one_size]; omega⟩
       rw [i2, show (i + 1).toNat = i.toNat + 1 by omega]
       exact minT_s (by omega))
    | (rw [i2, show i.toNat = m.airways.length by omega]; rfl)
    | skip
theorem minW_len {m : GMine} : (minW m m.airways.length).length = m.airways.length + 1 := by unfold minW; simp
theorem minS_len {m : GMine} : m.airways.length + 1 ≤ (minS m).size + 1 := by
  have h1 := join_ge (c := 47) ((minW m m.airways.length).map (·.data.toList)) (by unfold minW; simp)
  have h2 : (minS m).size = (minS m).data.toList.length := by rw [Array.length_toList]; rfl
  unfold minS minT at h2 ⊢
  rw [joinS_list] at h2
  rw [h2]
  rw [List.length_map, minW_len] at h1
  exact h1
theorem minS_split {m : GMine} (h : okMine m = true) {k : Nat} (hk : m.airways.length ≤ k) : Lib.splitB ⟨#[47]⟩ 0 k (minS m) = minW m m.airways.length := by
  unfold minS minT
  refine split_join k _ (by unfold minW; simp) (by rw [minW_len]; omega) fun x hx => ?_
  unfold minW at hx
  simp only [List.mem_cons, List.mem_map] at hx
  rcases hx with rfl | ⟨y, hy, rfl⟩
  · exact ch_free (by decide)
  · rw [List.take_length] at hy
    obtain ⟨k, hk, rfl⟩ := List.getElem_of_mem hy
    have q := ((okMine_p h).2.2 k (by omega)).1
    rw [List.getD_eq_getElem?_getD, List.getElem?_eq_getElem hk] at q
    exact airw_free q
theorem minS_size {m : GMine} (h : okMine m = true) : (minS m).size ≤ 40000 := by
  have hp := okMine_p h
  have key : ∀ k : Nat, k ≤ m.airways.length → (minT m k).size ≤ 20 + 1401 * k := by
    intro k
    induction k with
    | zero => intro _; rw [← minT_0]; have := decS_sz (n := m.junctions) (by omega); omega
    | succ k ih =>
      intro hk
      have ih := ih (by omega)
      have q := airw_size ((hp.2.2 k (by omega)).1)
      rw [← minT_s (by omega)]
      simp only [cat_size, one_size]; omega
  have := key m.airways.length (Nat.le_refl _)
  unfold minS
  omega
theorem minW_sz {m : GMine} (h : okMine m = true) : ∀ y ∈ minW m m.airways.length, y.size ≤ maxLen := fun y hy => by
  have hp := okMine_p h
  unfold minW at hy
  simp only [List.mem_cons, List.mem_map] at hy
  unfold maxLen
  rcases hy with rfl | ⟨x, hx, rfl⟩
  · have := decS_sz (n := m.junctions) (by omega); omega
  · rw [List.take_length] at hx
    obtain ⟨k, hk, rfl⟩ := List.getElem_of_mem hx
    have q := ((okMine_p h).2.2 k (by omega)).1
    rw [List.getD_eq_getElem?_getD, List.getElem?_eq_getElem hk] at q
    have := airw_size q
    show (airwS m.airways[k]).size ≤ _
    have e : (airwS m.airways[k]).size ≤ 1400 := this
    omega
theorem minW_0 {m : GMine} {r : List ByteArray} {d : ByteArray} {k : Nat} : (minW m k ++ r).getD 0 d = decS m.junctions := rfl
theorem minW_k {m : GMine} {r : List ByteArray} {d : ByteArray} {k : Nat} (h : k < m.airways.length) : (minW m m.airways.length ++ r).getD (1 + k) d = airwS (m.airways.getD k default) := by
  unfold minW
  rw [List.take_length, show 1 + k = k + 1 by omega, List.cons_append, List.getD_cons_succ, List.getD_eq_getElem?_getD, List.getElem?_append_left (by rw [List.length_map]; exact h), List.getElem?_map, List.getD_eq_getElem?_getD, List.getElem?_eq_getElem h]; rfl
--@fn impl.ReadAirway
theorem rdAw (s : ByteArray) (x : GAirway) (hs : s = airwS x) (h : okAirway x = true) : FnSem Tryz.prog 59 [Str s] [] (Is [.p .flat (.agg x.cells), Bo true] []) := by
  subst hs; exact c_impl_ReadAirway x h
theorem frzT_mn {m : GMine} {n : Nat} {xs : List GAirway} (hn : n = xs.length) (hx : xs = m.airways) : frzT 0 (fun vs ho => Is [.p .fresh (.agg m.cells), Bo true] [] (aggL vs) ho) [.aagg [In m.junctions, .osl 0 0 n], Bo true] [.row true .flat (GAirway.cells default) (xs.map GAirway.cells)] := by
  subst hx
  exact ⟨0, _, by simp, rfl, Nat.le_refl _, rfl, rfl, by simp [hn], _, tk GAirway.cells hn, Is.mk rfl rfl⟩
--@fn impl.ReadMine
theorem rdMn (m : GMine) (h : okMine m = true) : FnSem Tryz.prog 17 [Str (minS m)] [] (Is [.p .fresh (.agg m.cells), Bo true] []) := by
  have hp := okMine_p h
  have hz := minS_size h
  have hg := minS_len (m := m)
  have hwl := minW_len (m := m)
  refine semAgg (semFrzT ?_)
  refine FnSem.walk (zs := zeroPV Tryz.prog) (by kernel_rfl) Tryz.func17 rfl Tryz.results17 (by kernel_rfl) (by kernel_rfl) (by kernel_rfl) fun hw hh => ?_
  obtain ⟨w0, _⟩ := hw
  first | replace w0 := wf_S w0 | skip
  repeat' first
    | refine And.intro rfl ?_
    | refine GdF.mk (fun h => h) ?_
    | refine And.intro (Nat.succ_ne_zero _) ?_
    | refine And.intro (Nat.le_of_ble_eq_true rfl) ?_
    | refine SeqF.run ?_
    | refine GhF.at 4 rfl [.nils 2 1 (GAirway.cells default)] ?_
    | refine ArgF.is (splitT (minS m) _ 26 (minW m m.airways.length) (by omega) (by decide) (by omega) (by omega) (by exact minS_split h (by omega)) (by rw [hwl]; omega) (minW_sz h)) ?_
    | refine ArgQ.is (fun hG => splitT (minS m) _ 26 (minW m m.airways.length) (by omega) (by decide) (by omega) (by omega) (by exact minS_split h (by omega)) (by rw [hwl]; omega) (minW_sz h)) rfl rfl ?_
    | refine ArgF.is (rdcE _ m.junctions (by exact minW_0) (by omega)) ?_
    | refine ArgQ.is (fun hG => rdcE _ m.junctions (by exact minW_0) (by omega)) rfl rfl ?_
    | refine ArgF.is (rdAw _ (m.airways.getD i.toNat default) (by exact minW_k (by omega)) (awy h i0 (by omega))) ?_
    | refine ArgQ.is (fun hG => rdAw _ (m.airways.getD i.toNat default) (by exact minW_k (by omega)) (awy h i0 (by omega))) rfl rfl ?_
    | refine ArgF.is (mnTx m h) ?_
    | refine ArgQ.is (fun hG => mnTx m h) rfl rfl ?_
    | refine EqL.mk ((m.airways.take (i + 1).toNat).map GAirway.cells) (by rw [take_snoc i0 (by omega) default]; exact sn GAirway.cells (by rw [List.length_take]; omega)) ?_
    | refine BndF.mk (fun _ => by first | omega | (simp only [List.length_map, List.length_take]; omega)) ?_
    | refine EqL.mk (m.airways.map GAirway.cells) (by rw [List.take_of_length_le (show m.airways.length ≤ i.toNat by omega)]; exact tk GAirway.cells (by omega)) ?_
    | refine Or.inr (frzT_mn (m := m) (by rw [List.length_take]; omega) (List.take_of_length_le (by omega)))
    | refine LoopF.at 5 rfl (LoopF.fix [0, 2, 6, 7, 24, 25] (Int × Nat) (fun (i, n) => 0 ≤ i ∧ i ≤ m.airways.length ∧ (n : Int) = i) (fun (i, n) => [(26, In i)]) (fun (i, n) => [(1, .fix [In m.junctions, .osl 2 0 n]), (2, .row true .flat (GAirway.cells default) ((m.airways.take i.toNat).map GAirway.cells))]) (fun (i, n) => ((m.airways.length - i).toNat)) ((0, 0)) ?_)
    | (refine LoopB.of (T := Int × Nat) ?_ ?_; rotate_left; rintro ⟨i, n⟩ ⟨i0, i1, i2⟩; rotate_left)
    | refine GhF.go ?_
    | refine GdS.keep ?_
    | refine MkF.row ?_
    | refine EqP.mk _ (gm GAirway.cells default rfl) ?_
    | refine EqP.mk _ (gm eS ⟨#[]⟩ rfl) ?_
    | refine BndF.mk (fun _ => by omega) ?_
    | refine BndF.mk (fun _ => by simp only [lnS]; omega) ?_
    | refine BndF.mk (fun hG => by simp only [forall_const, eq_self, not_true_eq_false, not_false_eq_true, or_false, false_or, or_self, or_true, true_or, and_true, true_and, and_false, false_and, decide_true, decide_false, Bool.not_true, Bool.not_false, decide_eq_true_eq, decide_eq_false_iff_not, ite_and_p, ite_or_p, Bool.decide_eq_true, Bool.and_eq_true, Bool.or_eq_true, Bool.not_eq_true', Bool.not_eq_false', Bool.and_eq_false_imp, Bool.or_eq_false_iff, bne_iff_ne, beq_iff_eq, bne_eq_false_iff_eq, beq_eq_false_iff_ne, gt_iff_lt, ge_iff_le, Int.not_lt, Int.not_le, ne_eq, Bool.true_eq_false, Bool.false_eq_true, reduceCtorEq, eta_Airway, eta_Fan, eta_Mine, bytes_nil] at hG; (try simp only [List.length_map]); omega) ?_
    | refine EqI.mk _ (fun _ => wrapI (by omega) (by omega)) ?_
    | refine EqI.mk _ (fun _ => rfl) ?_
    | refine FlF.keep ?_
    | refine EqN.mk _ (ln GAirway.cells) ?_
    | refine EqN.mk _ (ln eS) ?_
    | refine EqN.mk _ (Nat.zero_add _) ?_
    | refine EqN.mk (_ + 1) rfl ?_
    | refine EqN.mk _ (Int.toNat_natCast _) ?_
    | refine EqN.mk _ rfl ?_
    | refine EqL.mk _ (sn0 GAirway.cells) ?_
    | refine EqL.mk _ (sn GAirway.cells (by first | rfl | assumption | omega | (simp only [lnS] <;> omega))) ?_
    | refine EqL.mk _ (ap0 GAirway.cells) ?_
    | refine EqL.mk _ (ap GAirway.cells (by first | rfl | assumption | omega | (simp only [lnS] <;> omega))) ?_
    | refine EqL.mk _ (tk GAirway.cells (by first | rfl | assumption | omega | (simp only [lnS] <;> omega))) ?_
    | refine EqL.mk _ (st GAirway.cells) ?_
    | refine EqL.mk _ (dt GAirway.cells) ?_
    | refine EqL.mk _ (sn0 eS) ?_
    | refine EqL.mk _ (sn eS (by first | rfl | assumption | omega | (simp only [lnS] <;> omega))) ?_
    | refine EqL.mk _ (ap0 eS) ?_
    | refine EqL.mk _ (ap eS (by first | rfl | assumption | omega | (simp only [lnS] <;> omega))) ?_
    | refine EqL.mk _ (tk eS (by first | rfl | assumption | omega | (simp only [lnS] <;> omega))) ?_
    | refine EqL.mk _ (st eS) ?_
    | refine EqL.mk _ (dt eS) ?_
    | refine EqL.mk [] rfl ?_
    | refine EqL.mk [_] rfl ?_
    | refine EqL.mk _ rfl ?_
    | refine ArgF.is (c_strings_SplitN ..) ?_
    | refine ArgQ.is (fun hG => c_strings_SplitN ..) rfl rfl ?_
    | refine ArgF.is (c_impl_ReadDecimal ..) ?_
    | refine ArgQ.is (fun hG => c_impl_ReadDecimal ..) rfl rfl ?_
    | refine ArgF.is (c_impl_ReadAirway ⟨_, _, _, _, _, _, _⟩ (by first | assumption | omega)) ?_
    | refine ArgQ.is (fun hG => c_impl_ReadAirway ⟨_, _, _, _, _, _, _⟩ (by first | assumption | omega)) rfl rfl ?_
    | refine ArgQ.is (fun hG => c_impl_ReadAirway ⟨_, _, _, _, _, _, _⟩ (by simp only [forall_const, eq_self, not_true_eq_false, not_false_eq_true, or_false, false_or, or_self, or_true, true_or, and_true, true_and, and_false, false_and, decide_true, decide_false, Bool.not_true, Bool.not_false, decide_eq_true_eq, decide_eq_false_iff_not, ite_and_p, ite_or_p, Bool.decide_eq_true, Bool.and_eq_true, Bool.or_eq_true, Bool.not_eq_true', Bool.not_eq_false', Bool.and_eq_false_imp, Bool.or_eq_false_iff, bne_iff_ne, beq_iff_eq, bne_eq_false_iff_eq, beq_eq_false_iff_ne, gt_iff_lt, ge_iff_le, Int.not_lt, Int.not_le, ne_eq, Bool.true_eq_false, Bool.false_eq_true, reduceCtorEq, eta_Airway, eta_Fan, eta_Mine, bytes_nil] at hG; omega)) rfl rfl ?_
    | refine ArgF.is (c_impl_MineText ..) ?_
    | refine ArgQ.is (fun hG => c_impl_MineText ..) rfl rfl ?_
    | refine CallF.mk (CallW.is [] true rfl ?_)
    | refine CallG.mk ?_
    | (refine CondF.mk (fun hb => ?_) (fun hb => ?_) <;> try simp only [forall_const, eq_self, not_true_eq_false, not_false_eq_true, or_false, false_or, or_self, or_true, true_or, and_true, true_and, and_false, false_and, decide_true, decide_false, Bool.not_true, Bool.not_false, decide_eq_true_eq, decide_eq_false_iff_not, ite_and_p, ite_or_p, Bool.decide_eq_true, Bool.and_eq_true, Bool.or_eq_true, Bool.not_eq_true', Bool.not_eq_false', Bool.and_eq_false_imp, Bool.or_eq_false_iff, bne_iff_ne, beq_iff_eq, bne_eq_false_iff_eq, beq_eq_false_iff_ne, gt_iff_lt, ge_iff_le, Int.not_lt, Int.not_le, ne_eq, Bool.true_eq_false, Bool.false_eq_true, reduceCtorEq, eta_Airway, eta_Fan, eta_Mine] at hb)
    | apply BackF.auto2
    | refine BackB.mk ?_ ?_
    | refine RetF.auto (And.intro rfl ?_)
    | exact Is.mk rfl rfl
    | refine Is.mk ?_ rfl
    | refine Is.mk rfl ?_
    | refine Is.mk ?_ ?_
  all_goals try dsimp only
  all_goals first
    | omega
    | exact ⟨by omega, by omega, rfl⟩
    | exact ⟨by omega, by omega, by omega⟩
    | skip
--@fn spec.SameMine
theorem smMn (m : GMine) (h : m.airways.length ≤ 1000) : FnSem Tryz.prog 19 [.p .any (.agg m.cells), .p .any (.agg m.cells)] [] (Is [Bo true] []) := by
  refine FnSem.walk (zs := zeroPV Tryz.prog) (by kernel_rfl) Tryz.func19 rfl Tryz.results19 (by kernel_rfl) (by kernel_rfl) (by kernel_rfl) fun hw hh => ?_
  obtain ⟨w0, w1, _⟩ := hw
  first | replace w0 := wf_Mine w0 | skip
  first | replace w1 := wf_Mine w1 | skip
  repeat' first
    | refine And.intro rfl ?_
    | refine GdF.mk (fun h => h) ?_
    | refine And.intro (Nat.succ_ne_zero _) ?_
    | refine And.intro (Nat.le_of_ble_eq_true rfl) ?_
    | refine SeqF.run ?_
    | refine LoopF.at 4 rfl (LoopF.fix [2, 3] (Int) (fun i => 0 ≤ i ∧ i ≤ m.airways.length) (fun i => [(5, In i)]) (fun i => []) (fun i => ((m.airways.length - i).toNat)) (0) ?_)
    | (refine LoopB.of (T := Int) ?_ ?_; rotate_left; rintro i ⟨i0, i1⟩; rotate_left)
    | exact absurd rfl hb
    | refine GhF.go ?_
    | refine GdS.keep ?_
    | refine DrawG.old (DrawF.lex (by decide +kernel) ?_)
    | refine AggN.mk true (by kernel_rfl) (iff_of_true rfl rfl) ?_
    | refine AggE.mk true (by kernel_rfl) (iff_of_true rfl rfl) ?_
    | refine EqP.mk _ (gm GAirway.cells default rfl) ?_
    | refine BndF.mk (fun _ => by omega) ?_
    | refine BndF.mk (fun _ => by simp only [lnS]; omega) ?_
    | refine BndF.mk (fun hG => by simp only [forall_const, eq_self, not_true_eq_false, not_false_eq_true, or_false, false_or, or_self, or_true, true_or, and_true, true_and, and_false, false_and, decide_true, decide_false, Bool.not_true, Bool.not_false, decide_eq_true_eq, decide_eq_false_iff_not, ite_and_p, ite_or_p, Bool.decide_eq_true, Bool.and_eq_true, Bool.or_eq_true, Bool.not_eq_true', Bool.not_eq_false', Bool.and_eq_false_imp, Bool.or_eq_false_iff, bne_iff_ne, beq_iff_eq, bne_eq_false_iff_eq, beq_eq_false_iff_ne, gt_iff_lt, ge_iff_le, Int.not_lt, Int.not_le, ne_eq, Bool.true_eq_false, Bool.false_eq_true, reduceCtorEq, eta_Airway, eta_Fan, eta_Mine, bytes_nil] at hG; (try simp only [List.length_map]); omega) ?_
    | refine EqI.mk _ (fun _ => wrapI (by omega) (by omega)) ?_
    | refine EqI.mk _ (fun _ => rfl) ?_
    | refine EqN.mk _ (ln GAirway.cells) ?_
    | refine EqN.mk _ (Nat.zero_add _) ?_
    | refine EqN.mk _ (Int.toNat_natCast _) ?_
    | refine EqN.mk _ rfl ?_
    | (refine CondF.mk (fun hb => ?_) (fun hb => ?_) <;> try simp only [forall_const, eq_self, not_true_eq_false, not_false_eq_true, or_false, false_or, or_self, or_true, true_or, and_true, true_and, and_false, false_and, decide_true, decide_false, Bool.not_true, Bool.not_false, decide_eq_true_eq, decide_eq_false_iff_not, ite_and_p, ite_or_p, Bool.decide_eq_true, Bool.and_eq_true, Bool.or_eq_true, Bool.not_eq_true', Bool.not_eq_false', Bool.and_eq_false_imp, Bool.or_eq_false_iff, bne_iff_ne, beq_iff_eq, bne_eq_false_iff_eq, beq_eq_false_iff_ne, gt_iff_lt, ge_iff_le, Int.not_lt, Int.not_le, ne_eq, Bool.true_eq_false, Bool.false_eq_true, reduceCtorEq, eta_Airway, eta_Fan, eta_Mine] at hb)
    | apply BackF.auto
    | refine BackB.mk ?_ ?_
    | refine RetF.auto (And.intro rfl ?_)
    | exact Is.mk rfl rfl
    | refine Is.mk ?_ rfl
    | refine Is.mk rfl ?_
    | refine Is.mk ?_ ?_
  all_goals try dsimp only
  all_goals first
    | omega
    | exact ⟨by omega, by omega⟩
    | skip
end Go.Proofs.YtdhkpmaanegjkaaGreatDoor
