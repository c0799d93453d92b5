/- Contracts of functions of the program, and what they compute. Conditions: those that each theorem states. -/
import Derived.Test.YtdhkpmaanegjkaaGreatDoorProg
import Derived.Test.YtdhkpmaanegjkaaGreatDoorT11b
import Derived.Test.YtdhkpmaanegjkaaGreatDoorI8
import Derived.Test.YtdhkpmaanegjkaaGreatDoorK25
import Derived.Test.YtdhkpmaanegjkaaGreatDoorI5
set_option linter.unusedVariables false
set_option linter.unusedSimpArgs false
namespace Go.Proofs.YtdhkpmaanegjkaaGreatDoor
open Go.Av
attribute [local irreducible] Go.IntKind.wrap decS isName leastI rdZ rd rootI rawA prI okFanB
set_option maxRecDepth 20000
set_option maxHeartbeats 16000000
def wS (x : List Int) : ByteArray := decS (x.getD 0 0) ++ ⟨#[58]⟩ ++ decS (x.getD 1 0)
def fanW (f : GFan) (k : Nat) : List ByteArray := f.id :: decS f.airway :: (f.curve.take k).map wS
def fanT (f : GFan) (k : Nat) : ByteArray := joinS 32 (fanW f k)
def fanS (f : GFan) : ByteArray := fanT f f.curve.length
theorem join_snoc {c : UInt8} {y : List UInt8} : ∀ xs : List (List UInt8), xs ≠ [] → Lib.join (xs ++ [y]) [c] = Lib.join xs [c] ++ c :: y
  | [], h => absurd rfl h
  | [x], _ => by
    show Lib.join (x :: y :: []) [c] = _
    rw [join_2]
    simp [Lib.join, List.intercalate]
  | x :: z :: r, _ => by
    show Lib.join (x :: z :: (r ++ [y])) [c] = _
    rw [join_2, show z :: (r ++ [y]) = (z :: r) ++ [y] from rfl, join_snoc (z :: r) (by simp), join_2]
    simp
theorem fanT_0 {f : GFan} : f.id ++ ⟨#[32]⟩ ++ decS f.airway = fanT f 0 := ba_ext (by
  unfold fanT
  rw [joinS_list]
  unfold fanW
  rw [List.take_zero, List.map_nil, List.map_cons, List.map_cons, List.map_nil, join_2]
  simp [ByteArray.data_append, Lib.join, List.intercalate])
theorem fanT_s {f : GFan} {k : Nat} (hk : k < f.curve.length) : fanT f k ++ (⟨#[32]⟩ ++ decS ((f.curve.getD k []).getD 0 0) ++ ⟨#[58]⟩ ++ decS ((f.curve.getD k []).getD 1 0)) = fanT f (k + 1) := ba_ext (by
  have e : fanW f (k + 1) = fanW f k ++ [wS (f.curve.getD k [])] := by
    unfold fanW
    rw [List.take_succ_eq_append_getElem hk, List.map_append, List.getD_eq_getElem?_getD, List.getElem?_eq_getElem hk]
    rfl
  unfold fanT
  rw [ByteArray.data_append, Array.toList_append, joinS_list, joinS_list, e, List.map_append]
  rw [show List.map (fun x : ByteArray => x.data.toList) [wS (f.curve.getD k [])] = [(wS (f.curve.getD k [])).data.toList] from rfl, join_snoc _ (by unfold fanW; simp)]
  rfl)
theorem pt_b {f : GFan} (h : okFan f) {k : Int} (h0 : 0 ≤ k) (h1 : k < f.curve.length) : (f.curve.getD k.toNat []).length = 2 ∧ (0 ≤ (f.curve.getD k.toNat []).getD 0 0 ∧ (f.curve.getD k.toNat []).getD 0 0 ≤ 100000) ∧ (0 ≤ (f.curve.getD k.toNat []).getD 1 0 ∧ (f.curve.getD k.toNat []).getD 1 0 ≤ 10000) := h.cu.pt k.toNat (by omega)
theorem decS_sz {n : Int} (h : -1000000 ≤ n ∧ n ≤ 1000000) : (decS n).size ≤ 20 := decS_size (by omega)
--@fn impl.FanText
theorem fanTx (f : GFan) (h : okFan f) : FnSem Tryz.prog 25 [.p .any (.agg f.cells)] [] (Is [Str (fanS f)] []) := by
  have hl := h.cu.ln
  have hid := name_size h.nm
  have haw := h.aw
  have hda := decS_sz (n := f.airway) (by omega)
  refine FnSem.walk (zs := zeroPV Tryz.prog) (by kernel_rfl) Tryz.func25 rfl Tryz.results25 (by kernel_rfl) (by kernel_rfl) (by kernel_rfl) fun hw hh => ?_
  obtain ⟨w0, _⟩ := hw
  first | replace w0 := wf_Fan w0 | skip
  repeat' first
    | refine And.intro rfl ?_
    | refine GdF.mk (fun h => h) ?_
    | refine And.intro (Nat.succ_ne_zero _) ?_
    | refine And.intro (Nat.le_of_ble_eq_true rfl) ?_
    | refine SeqF.run ?_
    | refine ArgF.is (vFanT f h) ?_
    | refine ArgQ.is (fun hG => vFanT f h) rfl rfl ?_
    | refine ArgF.is (decT f.airway (by omega)) ?_
    | refine ArgQ.is (fun hG => decT f.airway (by omega)) rfl rfl ?_
    | refine ArgF.is (decT ((f.curve.getD i.toNat []).getD 0 0) (by have := pt_b h i0 (by omega); omega)) ?_
    | refine ArgQ.is (fun hG => decT ((f.curve.getD i.toNat []).getD 0 0) (by have := pt_b h i0 (by omega); omega)) rfl rfl ?_
    | refine ArgF.is (decT ((f.curve.getD i.toNat []).getD 1 0) (by have := pt_b h i0 (by omega); omega)) ?_
    | refine ArgQ.is (fun hG => decT ((f.curve.getD i.toNat []).getD 1 0) (by have := pt_b h i0 (by omega); omega)) rfl rfl ?_
    | refine BndF.mk (fun _ => by simp only [cat_size, one_size]; omega) ?_
    | refine BndF.mk (fun _ => by have q := pt_b h i0 (by omega); have q1 := decS_sz (n := (f.curve.getD i.toNat []).getD 0 0) (by omega); have q2 := decS_sz (n := (f.curve.getD i.toNat []).getD 1 0) (by omega); simp only [cat_size, one_size]; omega) ?_
    | refine BndF.mk (fun hG => by have q1 := pt_b h i0 (by omega); first | omega | (simp only [List.length_map]; omega)) ?_
    | refine LoopF.at 5 rfl (LoopF.fix [17, 18] (Int × ByteArray) (fun (i, t) => 0 ≤ i ∧ i ≤ f.curve.length ∧ (t = fanT f i.toNat) ∧ (t.size : Int) ≤ 40 + 42 * i) (fun (i, t) => [(19, In i), (3, Str t)]) (fun (i, t) => []) (fun (i, t) => ((f.curve.length - i).toNat)) ((0, f.id ++ ⟨#[32]⟩ ++ decS f.airway)) ?_)
    | (refine LoopB.of (T := Int × ByteArray) ?_ ?_; rotate_left; rintro ⟨i, t⟩ ⟨i0, i1, i2, i3⟩; rotate_left)
    | refine GhF.go ?_
    | refine DrawG.old (DrawF.lex (by decide +kernel) ?_)
    | refine EqP.mk _ (gm eI 0 rfl) ?_
    | refine EqP.mk _ (gmb eLI [] (by omega)) ?_
    | refine BndF.mk (fun _ => by omega) ?_
    | refine BndF.mk (fun _ => by simp only [lnS]; omega) ?_
    | refine EqI.mk _ (fun _ => wrapI (by omega) (by omega)) ?_
    | refine EqI.mk _ (fun _ => rfl) ?_
    | refine EqN.mk _ (ln eI) ?_
    | refine EqN.mk _ (ln eLI) ?_
    | refine EqN.mk _ (Nat.zero_add _) ?_
    | refine EqN.mk _ (Int.toNat_natCast _) ?_
    | refine EqN.mk _ rfl ?_
    | refine EqL.mk _ (tk eI (by first | rfl | assumption | omega | (simp only [lnS] <;> omega))) ?_
    | refine EqL.mk _ (tk eLI (by first | rfl | assumption | omega | (simp only [lnS] <;> omega))) ?_
    | refine EqL.mk [] rfl ?_
    | refine EqL.mk [_] rfl ?_
    | refine EqL.mk _ rfl ?_
    | refine ArgF.is (c_impl_ValidFan ..) ?_
    | refine ArgQ.is (fun hG => c_impl_ValidFan ..) rfl rfl ?_
    | refine ArgF.is (c_impl_Decimal _ (by first | assumption | omega)) ?_
    | refine ArgQ.is (fun hG => c_impl_Decimal _ (by first | assumption | omega)) rfl rfl ?_
    | refine CallF.mk (CallW.is [] true rfl ?_)
    | refine CallG.mk ?_
    | (refine CondF.mk (fun hb => ?_) (fun hb => ?_) <;> try simp only [forall_const, eq_self, not_true_eq_false, not_false_eq_true, or_false, false_or, or_self, or_true, true_or, and_true, true_and, and_false, false_and, decide_true, decide_false, Bool.not_true, Bool.not_false, decide_eq_true_eq, decide_eq_false_iff_not, ite_and_p, ite_or_p, Bool.decide_eq_true, Bool.and_eq_true, Bool.or_eq_true, Bool.not_eq_true', Bool.not_eq_false', Bool.and_eq_false_imp, Bool.or_eq_false_iff, bne_iff_ne, beq_iff_eq, bne_eq_false_iff_eq, beq_eq_false_iff_ne, gt_iff_lt, ge_iff_le, Int.not_lt, Int.not_le, ne_eq, Bool.true_eq_false, Bool.false_eq_true, reduceCtorEq, eta_Airway, eta_Fan, eta_Mine] at hb)
    | apply BackF.auto2
    | refine BackB.mk ?_ ?_
    | refine RetF.auto (And.intro rfl ?_)
    | exact Is.mk rfl rfl
    | refine Is.mk ?_ rfl
    | refine Is.mk rfl ?_
    | refine Is.mk ?_ ?_
  all_goals try dsimp only
  all_goals first
    | omega
    | exact ⟨by omega, by omega, fanT_0, by simp only [cat_size, one_size]; omega⟩
    | (have q := pt_b h i0 (by omega)
       have q1 := decS_sz (n := (f.curve.getD i.toNat []).getD 0 0) (by omega)
       have q2 := decS_sz (n := (f.curve.getD i.toNat []).getD 1 0) (by omega)
       refine ⟨by omega, by omega, ?_, by simp only [cat_size, one_size]; omega⟩
       rw [i2, show (i + 1).toNat = i.toNat + 1 by omega]
       exact fanT_s (by omega))
    | (rw [i2, show i.toNat = f.curve.length by omega]; rfl)
    | skip
theorem frzT_fn {f : GFan} {n : Nat} {cs : List (List Int)} (hn : n = cs.length) (hc : cs = f.curve) : frzT 0 (fun vs ho => Is [.p .fresh (.agg f.cells), Bo true] [] (aggL vs) ho) [.aagg [Str f.id, In f.airway, .osl 0 0 n], Bo true] [.rows true .flat (eI 0) (cs.map eR) none] := by
  subst hc
  exact ⟨0, _, by simp, rfl, Nat.le_refl _, rfl, rfl, fun _ => by simp only [List.length_map]; omega, _, tkRows hn, Is.mk rfl rfl⟩
theorem takeP {cs : List (List Int)} {i : Int} {x y : Int} (h0 : 0 ≤ i) (hi : i < cs.length) (he : [x, y] = cs.getD i.toNat []) : cs.take i.toNat ++ [[x, y]] = cs.take (i + 1).toNat := by
  have hi2 : i.toNat < cs.length := by omega
  rw [show (i + 1).toNat = i.toNat + 1 by omega, List.take_succ_eq_append_getElem hi2, he, List.getD_eq_getElem?_getD, List.getElem?_eq_getElem hi2]; rfl
theorem twoP {xs : List Int} (h : xs.length = 2) : [xs.getD 0 0, xs.getD 1 0] = xs := by
  match xs, h with
  | [a, b], _ => rfl
theorem ch_free {n : Int} {c : UInt8} (h : c.toNat < 45 ∨ 57 < c.toNat ∨ (45 < c.toNat ∧ c.toNat < 48)) : c ∉ (decS n).data.toList := by
  rw [decS_list]
  intro hm
  have := itoa_ch _ hm
  omega
theorem wS_free {x : List Int} : (32 : UInt8) ∉ (wS x).data.toList := by
  unfold wS
  rw [ByteArray.data_append, ByteArray.data_append, Array.toList_append, Array.toList_append, List.mem_append, List.mem_append]
  rintro ((h | h) | h)
  · exact ch_free (by decide) h
  · exact absurd h (by decide)
  · exact ch_free (by decide) h
theorem wS_cut {x : List Int} : Lib.cut (wS x).data.toList (⟨#[58]⟩ : ByteArray).data.toList = ((decS (x.getD 0 0)).data.toList, (decS (x.getD 1 0)).data.toList, true) := by
  unfold wS
  rw [ByteArray.data_append, ByteArray.data_append, Array.toList_append, Array.toList_append, List.append_assoc]
  exact cut_at (ch_free (by decide))
--@fn strings.Cut
theorem cutP (s : ByteArray) (x : List Int) (hs : s = wS x) (h0 : (decS (x.getD 0 0)).size ≤ 20) (h1 : (decS (x.getD 1 0)).size ≤ 20) : FnSem Tryz.prog 69 [Str s, Str ⟨#[58]⟩] [] (Is [Str (decS (x.getD 0 0)), Str (decS (x.getD 1 0)), Bo true] []) := by
  subst hs
  exact cutT (wS x) ⟨#[58]⟩ (decS (x.getD 0 0)) (decS (x.getD 1 0)) true (by unfold wS; simp only [cat_size, one_size]; omega) wS_cut (by unfold maxLen; omega) (by unfold maxLen; omega)
theorem fanW_len {f : GFan} : (fanW f f.curve.length).length = f.curve.length + 2 := by unfold fanW; simp
theorem fanS_len {f : GFan} : f.curve.length + 2 ≤ (fanS f).size + 1 := by
  have h1 := join_ge (c := 32) ((fanW f f.curve.length).map (·.data.toList)) (by unfold fanW; simp)
  have h2 : (fanS f).size = (fanS f).data.toList.length := by rw [Array.length_toList]; rfl
  unfold fanS fanT at h2 ⊢
  rw [joinS_list] at h2
  rw [h2]
  rw [List.length_map, fanW_len] at h1
  exact h1
theorem fanS_split {f : GFan} (h : okFan f) {k : Nat} (hk : f.curve.length + 1 ≤ k) : Lib.splitB ⟨#[32]⟩ 0 k (fanS f) = fanW f f.curve.length := by
  unfold fanS fanT
  refine split_join k _ (by unfold fanW; simp) (by rw [fanW_len]; omega) fun x hx => ?_
  unfold fanW at hx
  simp only [List.mem_cons, List.mem_map] at hx
  rcases hx with rfl | rfl | ⟨y, _, rfl⟩
  · exact name_free h.nm (by decide)
  · exact ch_free (by decide)
  · exact wS_free
theorem fanS_size {f : GFan} (h : okFan f) : (fanS f).size ≤ 400 := by
  have hl := h.cu.ln
  have hid := name_size h.nm
  have haw := h.aw
  have hda := decS_sz (n := f.airway) (by omega)
  have key : ∀ k : Nat, k ≤ f.curve.length → (fanT f k).size ≤ 40 + 42 * k := by
    intro k
    induction k with
    | zero => intro _; rw [← fanT_0]; simp only [cat_size, one_size]; omega
    | succ k ih =>
      intro hk
      have ih := ih (by omega)
      have q := h.cu.pt k (by omega)
      have q1 := decS_sz (n := (f.curve.getD k []).getD 0 0) (by omega)
      have q2 := decS_sz (n := (f.curve.getD k []).getD 1 0) (by omega)
      rw [← fanT_s (by omega)]
      simp only [cat_size, one_size]; omega
  have := key f.curve.length (Nat.le_refl _)
  unfold fanS
  omega
theorem fanW_sz {f : GFan} (h : okFan f) : ∀ y ∈ fanW f f.curve.length, y.size ≤ maxLen := fun y hy => by
  unfold fanW at hy
  simp only [List.mem_cons, List.mem_map] at hy
  have hid := name_size h.nm
  have haw := h.aw
  unfold maxLen
  rcases hy with rfl | rfl | ⟨x, hx, rfl⟩
  · omega
  · have hda := decS_sz (n := f.airway) (by omega); omega
  · rw [List.take_length] at hx
    obtain ⟨k, hk, rfl⟩ := List.getElem_of_mem hx
    have q := h.cu.pt k (by omega)
    have e : f.curve.getD k [] = f.curve[k] := by rw [List.getD_eq_getElem?_getD, List.getElem?_eq_getElem hk]; rfl
    rw [e] at q
    have q1 := decS_sz (n := (f.curve[k]).getD 0 0) (by omega)
    have q2 := decS_sz (n := (f.curve[k]).getD 1 0) (by omega)
    unfold wS
    simp only [cat_size, one_size]; omega
theorem fanW_0 {f : GFan} {r : List ByteArray} {d : ByteArray} {k : Nat} : (fanW f k ++ r).getD 0 d = f.id := rfl
theorem fanW_1 {f : GFan} {r : List ByteArray} {d : ByteArray} {k : Nat} : (fanW f k ++ r).getD 1 d = decS f.airway := rfl
theorem fanW_k {f : GFan} {r : List ByteArray} {d : ByteArray} {k : Nat} (h : k < f.curve.length) : (fanW f f.curve.length ++ r).getD (2 + k) d = wS (f.curve.getD k []) := by
  unfold fanW
  rw [List.take_length, show 2 + k = k + 1 + 1 by omega, List.cons_append, List.cons_append, List.getD_cons_succ, List.getD_cons_succ, List.getD_eq_getElem?_getD, List.getElem?_append_left (by rw [List.length_map]; exact h), List.getElem?_map, List.getD_eq_getElem?_getD, List.getElem?_eq_getElem h]; rfl
--@fn impl.ReadFan
theorem rdF (f : GFan) (h : okFan f) : FnSem Tryz.prog 24 [Str (fanS f)] [] (Is [.p .fresh (.agg f.cells), Bo true] []) := by
  have hl := h.cu.ln
  have haw := h.aw
  have hz := fanS_size h
  have hg := fanS_len (f := f)
  have hwl := fanW_len (f := f)
  refine semAgg (semFrzT ?_)
  refine FnSem.walk (zs := zeroPV Tryz.prog) (by kernel_rfl) Tryz.func24 rfl Tryz.results24 (by kernel_rfl) (by kernel_rfl) (by kernel_rfl) fun hw hh => ?_
  obtain ⟨w0, _⟩ := hw
  first | replace w0 := wf_S w0 | skip
  repeat' first
    | refine And.intro rfl ?_
    | refine GdF.mk (fun h => h) ?_
    | refine And.intro (Nat.succ_ne_zero _) ?_
    | refine And.intro (Nat.le_of_ble_eq_true rfl) ?_
    | refine SeqF.run ?_
    | refine GhF.at 6 rfl [.nilr 2 2 (eI 0)] ?_
    | refine MkF.rows ?_
    | refine ArgF.is (splitT (fanS f) _ 11 (fanW f f.curve.length) (by omega) (by decide) (by omega) (by omega) (by exact fanS_split h (by omega)) (by rw [hwl]; omega) (fanW_sz h)) ?_
    | refine ArgQ.is (fun hG => splitT (fanS f) _ 11 (fanW f f.curve.length) (by omega) (by decide) (by omega) (by omega) (by exact fanS_split h (by omega)) (by rw [hwl]; omega) (fanW_sz h)) rfl rfl ?_
    | refine ArgF.is (rdcE _ f.airway (by exact fanW_1) (by omega)) ?_
    | refine ArgQ.is (fun hG => rdcE _ f.airway (by exact fanW_1) (by omega)) rfl rfl ?_
    | refine ArgF.is (cutP _ (f.curve.getD i.toNat []) (by exact fanW_k (by omega)) (by have := pt_b h i0 (by omega); exact decS_sz (by omega)) (by have := pt_b h i0 (by omega); exact decS_sz (by omega))) ?_
    | refine ArgQ.is (fun hG => cutP _ (f.curve.getD i.toNat []) (by exact fanW_k (by omega)) (by have := pt_b h i0 (by omega); exact decS_sz (by omega)) (by have := pt_b h i0 (by omega); exact decS_sz (by omega))) rfl rfl ?_
    | refine ArgF.is (rdcT ((f.curve.getD i.toNat []).getD 0 0) (by have := pt_b h i0 (by omega); omega)) ?_
    | refine ArgQ.is (fun hG => rdcT ((f.curve.getD i.toNat []).getD 0 0) (by have := pt_b h i0 (by omega); omega)) rfl rfl ?_
    | refine ArgF.is (rdcT ((f.curve.getD i.toNat []).getD 1 0) (by have := pt_b h i0 (by omega); omega)) ?_
    | refine ArgQ.is (fun hG => rdcT ((f.curve.getD i.toNat []).getD 1 0) (by have := pt_b h i0 (by omega); omega)) rfl rfl ?_
    | refine ArgF.is (fanTx f h) ?_
    | refine ArgQ.is (fun hG => fanTx f h) rfl rfl ?_
    | refine BndF.mk (fun _ => ⟨rfl, by rw [List.length_map, List.length_take]; omega⟩) ?_
    | refine EqR.mk [] rfl ?_
    | refine EqR.mk (List.map eR (f.curve.take (i + 1).toNat)) (apR.trans (congrArg (List.map eR) (takeP i0 (by omega) (twoP (pt_b h i0 (by omega)).1)))) ?_
    | refine EqL.mk (List.map eI [(f.curve.getD i.toNat []).getD 0 0, (f.curve.getD i.toNat []).getD 1 0]) rfl ?_
    | refine EqR.mk (List.map eR [[(f.curve.getD i.toNat []).getD 0 0, (f.curve.getD i.toNat []).getD 1 0]]) rfl ?_
    | refine EqR.mk (List.map eR [[(f.curve.getD i.toNat []).getD 0 0, (f.curve.getD i.toNat []).getD 1 0]]) (by simp) ?_
    | refine BndF.mk (fun hG => by have q1 := pt_b h i0 (by omega); first | omega | (simp only [List.length_map]; omega)) ?_
    | refine BndF.mk (fun _ => by simp only [List.length_map, List.length_take]; omega) ?_
    | refine EqL.mk (f.curve.map eLI) (by rw [List.take_of_length_le (show f.curve.length ≤ i.toNat by omega)]; exact tkRows (by omega)) ?_
    | refine Or.inr (frzT_fn (f := f) (by rw [List.length_take]; omega) (List.take_of_length_le (by omega)))
    | refine LoopF.at 7 rfl (LoopF.fix [0, 2, 6, 7, 36, 37] (Int × Nat) (fun (i, n) => 0 ≤ i ∧ i ≤ f.curve.length ∧ (n : Int) = i) (fun (i, n) => [(38, In i)]) (fun (i, n) => [(1, .fix [Str f.id, In f.airway, .osl 2 0 n]), (2, .rows true .flat (eI 0) ((f.curve.take i.toNat).map eR) none)]) (fun (i, n) => ((f.curve.length - i).toNat)) ((0, 0)) ?_)
    | (refine LoopB.of (T := Int × Nat) ?_ ?_; rotate_left; rintro ⟨i, n⟩ ⟨i0, i1, i2⟩; rotate_left)
    | refine GhF.go ?_
    | refine GdS.keep ?_
    | refine BndF.mk (fun _ => ⟨rfl, by first | rfl | omega | (simp only [List.length_map, List.length_cons, List.length_nil, List.length_append, List.length_set, List.length_replicate]; first | done | omega)⟩) ?_
    | refine MkF.row ?_
    | refine EqP.mk _ (gm eI 0 rfl) ?_
    | refine EqP.mk _ (gmb eLI [] (by omega)) ?_
    | refine EqP.mk _ (gm eS ⟨#[]⟩ rfl) ?_
    | refine BndF.mk (fun _ => by omega) ?_
    | refine BndF.mk (fun _ => by simp only [lnS]; omega) ?_
    | refine BndF.mk (fun hG => by simp only [forall_const, eq_self, not_true_eq_false, not_false_eq_true, or_false, false_or, or_self, or_true, true_or, and_true, true_and, and_false, false_and, decide_true, decide_false, Bool.not_true, Bool.not_false, decide_eq_true_eq, decide_eq_false_iff_not, ite_and_p, ite_or_p, Bool.decide_eq_true, Bool.and_eq_true, Bool.or_eq_true, Bool.not_eq_true', Bool.not_eq_false', Bool.and_eq_false_imp, Bool.or_eq_false_iff, bne_iff_ne, beq_iff_eq, bne_eq_false_iff_eq, beq_eq_false_iff_ne, gt_iff_lt, ge_iff_le, Int.not_lt, Int.not_le, ne_eq, Bool.true_eq_false, Bool.false_eq_true, reduceCtorEq, eta_Airway, eta_Fan, eta_Mine, bytes_nil] at hG; (try simp only [List.length_map]); omega) ?_
    | refine EqI.mk _ (fun _ => wrapI (by omega) (by omega)) ?_
    | refine EqI.mk _ (fun _ => rfl) ?_
    | refine FlF.keep ?_
    | refine EqN.mk _ (ln eI) ?_
    | refine EqN.mk _ (ln eLI) ?_
    | refine EqN.mk _ (ln eS) ?_
    | refine EqN.mk _ (Nat.zero_add _) ?_
    | refine EqN.mk (_ + 1) rfl ?_
    | refine EqN.mk _ (Int.toNat_natCast _) ?_
    | refine EqN.mk _ rfl ?_
    | refine EqL.mk _ (sn0 eI) ?_
    | refine EqL.mk _ (sn eI (by first | rfl | assumption | omega | (simp only [lnS] <;> omega))) ?_
    | refine EqL.mk _ (ap0 eI) ?_
    | refine EqL.mk _ (ap eI (by first | rfl | assumption | omega | (simp only [lnS] <;> omega))) ?_
    | refine EqL.mk _ (tk eI (by first | rfl | assumption | omega | (simp only [lnS] <;> omega))) ?_
    | refine EqL.mk _ (st eI) ?_
    | refine EqL.mk _ (dt eI) ?_
    | refine EqL.mk _ (sn0 eLI) ?_
    | refine EqL.mk _ (sn eLI (by first | rfl | assumption | omega | (simp only [lnS] <;> omega))) ?_
    | refine EqL.mk _ (ap0 eLI) ?_
    | refine EqL.mk _ (ap eLI (by first | rfl | assumption | omega | (simp only [lnS] <;> omega))) ?_
    | refine EqL.mk _ (tk eLI (by first | rfl | assumption | omega | (simp only [lnS] <;> omega))) ?_
    | refine EqL.mk _ (st eLI) ?_
    | refine EqL.mk _ (dt eLI) ?_
    | refine EqL.mk _ (sn0 eS) ?_
    | refine EqL.mk _ (sn eS (by first | rfl | assumption | omega | (simp only [lnS] <;> omega))) ?_
    | refine EqL.mk _ (ap0 eS) ?_
    | refine EqL.mk _ (ap eS (by first | rfl | assumption | omega | (simp only [lnS] <;> omega))) ?_
    | refine EqL.mk _ (tk eS (by first | rfl | assumption | omega | (simp only [lnS] <;> omega))) ?_
    | refine EqL.mk _ (st eS) ?_
    | refine EqL.mk _ (dt eS) ?_
    | refine EqL.mk (List.map eI [_, _]) rfl ?_
    | refine EqL.mk [] rfl ?_
    | refine EqL.mk [_] rfl ?_
    | refine EqL.mk _ rfl ?_
    | refine ArgF.is (c_strings_SplitN ..) ?_
    | refine ArgQ.is (fun hG => c_strings_SplitN ..) rfl rfl ?_
    | refine ArgF.is (c_impl_ReadDecimal ..) ?_
    | refine ArgQ.is (fun hG => c_impl_ReadDecimal ..) rfl rfl ?_
    | refine ArgF.is (c_strings_Cut ..) ?_
    | refine ArgQ.is (fun hG => c_strings_Cut ..) rfl rfl ?_
    | refine ArgF.is (c_impl_FanText ..) ?_
    | refine ArgQ.is (fun hG => c_impl_FanText ..) rfl rfl ?_
    | refine CallF.mk (CallW.is [] true rfl ?_)
    | refine CallG.mk ?_
    | (refine CondF.mk (fun hb => ?_) (fun hb => ?_) <;> try simp only [forall_const, eq_self, not_true_eq_false, not_false_eq_true, or_false, false_or, or_self, or_true, true_or, and_true, true_and, and_false, false_and, decide_true, decide_false, Bool.not_true, Bool.not_false, decide_eq_true_eq, decide_eq_false_iff_not, ite_and_p, ite_or_p, Bool.decide_eq_true, Bool.and_eq_true, Bool.or_eq_true, Bool.not_eq_true', Bool.not_eq_false', Bool.and_eq_false_imp, Bool.or_eq_false_iff, bne_iff_ne, beq_iff_eq, bne_eq_false_iff_eq, beq_eq_false_iff_ne, gt_iff_lt, ge_iff_le, Int.not_lt, Int.not_le, ne_eq, Bool.true_eq_false, Bool.false_eq_true, reduceCtorEq, eta_Airway, eta_Fan, eta_Mine] at hb)
    | apply BackF.auto2
    | refine BackB.mk ?_ ?_
    | refine RetF.auto (And.intro rfl ?_)
    | exact Is.mk rfl rfl
    | refine Is.mk ?_ rfl
    | refine Is.mk rfl ?_
    | refine Is.mk ?_ ?_
  all_goals try dsimp only
  all_goals first
    | omega
    | exact ⟨by omega, by omega, rfl⟩
    | exact ⟨by omega, by omega, by omega⟩
    | skip
end Go.Proofs.YtdhkpmaanegjkaaGreatDoor

set_option linter.unusedVariables false
set_option linter.unusedSimpArgs false
namespace Go.Proofs.YtdhkpmaanegjkaaGreatDoor
open Go.Av
attribute [local irreducible] Go.IntKind.wrap leastI rdZ rd rootI rawA
set_option maxRecDepth 20000
set_option maxHeartbeats 16000000
--@fn spec.l03DrawFlow
theorem flowD (c : List Int) (p s : Int) (hc : bytes c) (hp : 0 ≤ p ∧ p ≤ 50000000) : FnSem Tryz.prog 63 [.own 0 0] [srcO c p s] (SrcR c 4 p (-100000) 100001) := by
  refine FnSem.walk (zs := zeroPV Tryz.prog) (by kernel_rfl) Tryz.func63 rfl Tryz.results63 (by kernel_rfl) (by kernel_rfl) (by kernel_rfl) fun hw hh => ?_
  obtain ⟨w0, _⟩ := hw
  first | replace w0 := wfr_L00Src w0 | skip
  repeat' first
    | refine And.intro rfl ?_
    | refine GdF.mk (fun h => h) ?_
    | refine And.intro (Nat.succ_ne_zero _) ?_
    | refine And.intro (Nat.le_of_ble_eq_true rfl) ?_
    | refine SeqF.run ?_
    | refine SrcV.mk (α := Int) _ _ _ rfl rfl ?_ ?_
    | refine GhF.go ?_
    | refine MkF.row ?_
    | refine BndF.mk (fun _ => by omega) ?_
    | refine BndF.mk (fun _ => by simp only [lnS]; omega) ?_
    | refine EqI.mk _ (fun _ => wrapI (by omega) (by omega)) ?_
    | refine EqI.mk _ (fun _ => rfl) ?_
    | refine EqL.mk _ (tk eI (by first | rfl | assumption | omega | (simp only [lnS] <;> omega))) ?_
    | refine EqL.mk (List.map eI [_, _, _, _, _, _, _, _]) rfl ?_
    | refine EqL.mk [] rfl ?_
    | refine EqL.mk [_] rfl ?_
    | refine EqL.mk _ rfl ?_
    | (refine ArgF.src (c_spec_l00Src_pick _ _ _ _ (by first | assumption | omega | rfl | (simp only [List.length_cons, List.length_nil]; omega)) (by first | assumption | omega | rfl | (simp only [List.length_cons, List.length_nil]; omega)) (by first | assumption | omega | rfl | (simp only [List.length_cons, List.length_nil]; omega))) ?_; intro _ _ _ _ _)
    | (refine ArgF.srw (c_spec_l00Src_among _ _ _ _ _ (by first | assumption | omega | rfl | (simp only [List.length_cons, List.length_nil]; omega)) (by first | assumption | omega | rfl | (simp only [List.length_cons, List.length_nil]; omega)) (by first | assumption | omega | rfl | (simp only [List.length_cons, List.length_nil]; omega)) (by first | assumption | omega | rfl | (simp only [List.length_cons, List.length_nil]; omega))) ?_; intro _ _ _ _ _)
    | refine CallF.own (f := 44) [0] false ?_
    | refine CallF.own (f := 77) [0, 1] false ?_
    | refine CallF.mk (CallW.is [] true rfl ?_)
    | refine CallG.mk ?_
    | (refine CondF.mk (fun hb => ?_) (fun hb => ?_) <;> try simp only [forall_const, eq_self, not_true_eq_false, not_false_eq_true, or_false, false_or, or_self, or_true, true_or, and_true, true_and, and_false, false_and, decide_true, decide_false, Bool.not_true, Bool.not_false, decide_eq_true_eq, decide_eq_false_iff_not, ite_and_p, ite_or_p, Bool.decide_eq_true, Bool.and_eq_true, Bool.or_eq_true, Bool.not_eq_true', Bool.not_eq_false', Bool.and_eq_false_imp, Bool.or_eq_false_iff, bne_iff_ne, beq_iff_eq, bne_eq_false_iff_eq, beq_eq_false_iff_ne, gt_iff_lt, ge_iff_le, Int.not_lt, Int.not_le, ne_eq, Bool.true_eq_false, Bool.false_eq_true, reduceCtorEq, eta_Airway, eta_Fan, eta_Mine] at hb)
    | refine RetF.auto (And.intro rfl ?_)
    | exact Is.mk rfl rfl
    | refine Is.mk ?_ rfl
    | refine Is.mk rfl ?_
    | refine Is.mk ?_ ?_
  all_goals first | omega | (simp only [List.mem_cons, List.not_mem_nil, or_false] at *; omega) | skip
theorem c_spec_DrawPressureAt (c : List Int) (hc : bytes c) : FnSem Tryz.prog 20 [Lx (LY c)] [] (RetV (fun v : GFan × Int => [.p .fresh (.agg v.1.cells), In v.2]) (fun _ => []) (fun v => -100000 ≤ v.2 ∧ v.2 ≤ 100001)) := by
  refine FnSem.walk (zs := zeroPV Tryz.prog) (by kernel_rfl) Tryz.func20 rfl Tryz.results20 (by kernel_rfl) (by kernel_rfl) (by kernel_rfl) fun hw hh => ?_
  obtain ⟨w0, _⟩ := hw
  first | replace w0 := wf_LY w0 | skip
  repeat' first
    | refine And.intro rfl ?_
    | refine GdF.mk (fun h => h) ?_
    | refine And.intro (Nat.succ_ne_zero _) ?_
    | refine And.intro (Nat.le_of_ble_eq_true rfl) ?_
    | refine SeqF.run ?_
    | refine CallF.own (f := 62) [0] false ?_
    | (refine ArgF.src (c_spec_l06Draw c _ _ hc (by omega)) ?_; intro f p1 s1 hv1 hp1)
    | (refine ArgF.src (flowD c _ _ hc (by omega)) ?_; intro q p2 s2 hq hp2)
    | refine RetV.mk (α := GFan × Int) (f, _) rfl rfl ?_
    | refine GhF.go ?_
    | refine DrawG.old (DrawF.lex (by decide +kernel) ?_)
    | refine DrawG.old (DrawF.any ?_)
    | refine OrdF.take 1 (by decide +kernel) ?_
    | refine OrdF.take 4 (by decide +kernel) ?_
    | refine OrdF.all [3] (by decide +kernel) ?_
    | refine OrdF.all [0] (by decide +kernel) ?_
    | refine OrdF.all [2] (by decide +kernel) ?_
    | refine OrdF.all [0, 2] (by decide +kernel) ?_
    | refine OrdF.fin (by decide +kernel) ?_
    | refine AllF.one _ ?_
    | refine AllF.cons _ _ ?_ ?_
    | refine BndF.mk (fun _ => by omega) ?_
    | refine BndF.mk (fun _ => by simp only [lnS]; omega) ?_
    | refine EqL.mk _ (tk eY (by first | rfl | assumption | omega | (simp only [lnS] <;> omega))) ?_
    | refine EqL.mk _ (st eY) ?_
    | refine EqL.mk [] rfl ?_
    | refine EqL.mk [_] rfl ?_
    | refine EqL.mk _ rfl ?_
    | refine ArgF.is (c_spec_l00From ..) ?_
    | refine ArgQ.is (fun hG => c_spec_l00From ..) rfl rfl ?_
    | (refine ArgF.src (c_spec_l06Draw _ _ _ (by first | assumption | omega | rfl | (simp only [List.length_cons, List.length_nil]; omega)) (by first | assumption | omega | rfl | (simp only [List.length_cons, List.length_nil]; omega))) ?_; intro _ _ _ _ _)
    | (refine ArgF.src (c_spec_l03DrawFlow _ _ _ (by first | assumption | omega | rfl | (simp only [List.length_cons, List.length_nil]; omega)) (by first | assumption | omega | rfl | (simp only [List.length_cons, List.length_nil]; omega))) ?_; intro _ _ _ _ _)
    | refine CallF.own (f := 62) [0] false ?_
    | refine CallF.own (f := 63) [0] false ?_
    | refine CallF.mk (f := 31) (CallW.is [] false rfl ?_)
    | refine CallF.mk (CallW.is [] true rfl ?_)
    | refine CallG.mk ?_
    | (refine CondF.mk (fun hb => ?_) (fun hb => ?_) <;> try simp only [forall_const, eq_self, not_true_eq_false, not_false_eq_true, or_false, false_or, or_self, or_true, true_or, and_true, true_and, and_false, false_and, decide_true, decide_false, Bool.not_true, Bool.not_false, decide_eq_true_eq, decide_eq_false_iff_not, ite_and_p, ite_or_p, Bool.decide_eq_true, Bool.and_eq_true, Bool.or_eq_true, Bool.not_eq_true', Bool.not_eq_false', Bool.and_eq_false_imp, Bool.or_eq_false_iff, bne_iff_ne, beq_iff_eq, bne_eq_false_iff_eq, beq_eq_false_iff_ne, gt_iff_lt, ge_iff_le, Int.not_lt, Int.not_le, ne_eq, Bool.true_eq_false, Bool.false_eq_true, reduceCtorEq, eta_Airway, eta_Fan, eta_Mine] at hb)
    | refine RetF.auto (And.intro rfl ?_)
    | exact Is.mk rfl rfl
    | refine Is.mk ?_ rfl
    | refine Is.mk rfl ?_
    | refine Is.mk ?_ ?_
  all_goals try dsimp only
  all_goals first
    | omega
    | exact ⟨by omega, by omega⟩
    | skip
end Go.Proofs.YtdhkpmaanegjkaaGreatDoor
