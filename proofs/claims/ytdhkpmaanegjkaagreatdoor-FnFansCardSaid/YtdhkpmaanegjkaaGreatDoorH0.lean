/- Contracts of functions of the program, and what they compute. Conditions: those that each theorem states. -/
import Derived.Test.YtdhkpmaanegjkaaGreatDoorProg
import Derived.Test.YtdhkpmaanegjkaaGreatDoorV3
import Derived.Test.YtdhkpmaanegjkaaGreatDoorW2
import Derived.Test.YtdhkpmaanegjkaaGreatDoorJ0
import Derived.Test.YtdhkpmaanegjkaaGreatDoorK15
set_option linter.unusedVariables false
set_option linter.unusedSimpArgs false
namespace Go.Proofs.YtdhkpmaanegjkaaGreatDoor
open Go.Av
attribute [local irreducible] Go.IntKind.wrap leastI rdZ rd rootI rawA okMine wlk
set_option maxRecDepth 20000
set_option maxHeartbeats 40000000
section
variable {m : GMine} {T : List Int}
theorem cnA_sym (hm : okMine m = true) {u v : Int} (h : cnA m T u v) : cnA m T v u := by
  obtain ⟨n, hn⟩ := h
  exact ⟨n, wkA_sym hm n u v hn⟩
structure mshP (m : GMine) (w : List Int) : Prop where
  ln : 2 ≤ w.length ∧ w.length ≤ 17
  hd : 1 ≤ w.getD 0 0 ∧ w.getD 0 0 ≤ m.airways.length
  wk : wlk m w (m.airways.getD (w.getD 0 0 - 1).toNat default).from_ = (m.airways.getD (w.getD 0 0 - 1).toNat default).from_
  bd : bdL 24 w
structure mshI (m : GMine) (ss : List (List Int)) (i : Int) : Prop where
  at_ : ∀ j : Nat, j < ss.length → mshP m (ss.getD j [])
  inc : ∀ j : Nat, 0 < j → j < ss.length → (ss.getD (j - 1) []).getD 0 0 < (ss.getD j []).getD 0 0
  le : ∀ j : Nat, j < ss.length → (ss.getD j []).getD 0 0 ≤ i
  ln : (ss.length : Int) ≤ i
theorem mshI_0 : mshI m [] 0 := ⟨fun j h => by simp at h, fun j _ h => by simp at h, fun j h => by simp at h, by simp⟩
theorem mshI_k {ss : List (List Int)} {i : Int} (h : mshI m ss i) : mshI m ss (i + 1) := ⟨h.at_, h.inc, fun j hj => by have := h.le j hj; omega, by have := h.ln; omega⟩
theorem getS {ss : List (List Int)} {w : List Int} {j : Nat} (h : j < ss.length) : (ss ++ [w]).getD j [] = ss.getD j [] := by
  rw [List.getD_eq_getElem?_getD, List.getD_eq_getElem?_getD, List.getElem?_append_left h]
theorem getE {ss : List (List Int)} {w : List Int} : (ss ++ [w]).getD ss.length [] = w := by simp [List.getD_eq_getElem?_getD]
theorem mshI_a {ss : List (List Int)} {i : Int} {w : List Int} (h : mshI m ss i) (hw : mshP m w) (h0 : w.getD 0 0 = i + 1) : mshI m (ss ++ [w]) (i + 1) := by
  refine ⟨fun j hj => ?_, fun j hj0 hj => ?_, fun j hj => ?_, by have := h.ln; simp; omega⟩
  all_goals rw [List.length_append, List.length_singleton] at hj
  · by_cases e : j < ss.length
    · rw [getS e]; exact h.at_ j e
    · rw [show j = ss.length by omega, getE]; exact hw
  · by_cases e : j < ss.length
    · rw [getS e, getS (by omega)]; exact h.inc j hj0 e
    · rw [show j = ss.length by omega, getE, getS (by omega)]
      have := h.le (ss.length - 1) (by omega)
      omega
  · by_cases e : j < ss.length
    · rw [getS e]; have := h.le j e; omega
    · rw [show j = ss.length by omega, getE]; omega
theorem spL_b {a : Int} {i : Nat} (hi : i < m.airways.length) (hl : m.airways.length ≤ 24) : -24 ≤ spL m a i ∧ spL m a i ≤ 24 := by
  unfold spL; split <;> omega
theorem spW_b (hl : m.airways.length ≤ 24) : ∀ (es : List Nat) (a : Int), okW m [] a es → bdL 24 (spW m a es)
  | [], a, _ => fun j => by simp [spW]
  | i :: es, a, ho => fun j => by
    have ih := spW_b hl es _ ho.2.2
    cases j with
    | zero => simpa [spW] using spL_b ho.1 hl
    | succ j => simpa [spW] using ih j
theorem bd_c {x : Int} {w : List Int} (h : bdL 24 w) (hx : -24 ≤ x ∧ x ≤ 24) : bdL 24 (x :: w) := fun j => by
  cases j with
  | zero => simpa using hx
  | succ j => simpa using h j
theorem msh_of (hm : okMine m = true) {i : Int} (h0 : 0 ≤ i) (hi : i < m.airways.length) {es : List Nat} {ws : List Int} {n : Nat} (hw : wayI m T (m.airways.getD i.toNat default).to (m.airways.getD i.toNat default).from_ es ws) (h3 : n = ws.length) (h4 : n = es.length) (h5 : dsA m T n (m.airways.getD i.toNat default).to (m.airways.getD i.toNat default).from_) (h6 : n ≤ 16) : mshP m ((i + 1) :: ws) := by
  have q := okMine_p hm
  have qa := okAirway_b (q.2.2 i.toNat (by omega)).1
  have hn : 0 < n := by
    cases n with
    | zero => have := h5.1; exact absurd (show (m.airways.getD i.toNat default).to = (m.airways.getD i.toNat default).from_ from this) (by omega)
    | succ n => omega
  refine ⟨by simp; omega, by simp; omega, ?_, bd_c ?_ (by omega)⟩
  · rw [List.getD_cons_zero, show i + 1 - 1 = i by omega, wlk_c]
    have ea : absI (i + 1) = i + 1 := absI_p (by omega)
    rw [ea, if_neg (by omega), show i + 1 - 1 = i by omega, if_pos ⟨by omega, rfl⟩, hw.sp, wlk_sp hm es _ hw.ok, hw.en]
  · rw [hw.sp]; exact spW_b q.2.1 es _ hw.ok
end
theorem capT {x : Int} {ws : List Int} {n : Nat} (h : ws.length + 1 ≤ n) : ((List.map eI (x :: ws)).drop 0).take n = List.map eI (x :: ws) := by
  rw [List.drop_zero, List.take_of_length_le (by simp; omega)]
theorem c_impl_Mine_meshes (m : GMine) (hm : okMine m = true) : FnSem Tryz.prog 35 [.p .any (.agg m.cells)] [] (RetV (fun v : List (List Int) => [.p .fresh (LLI v)]) (fun _ => []) (fun v => mshI m v m.airways.length)) := by
  have hmp := okMine_p hm
  refine FnSem.walk (zs := zeroPV Tryz.prog) (by kernel_rfl) Tryz.func35 rfl Tryz.results35 (by kernel_rfl) (by kernel_rfl) (by kernel_rfl) fun hw hh => ?_
  obtain ⟨w0, _⟩ := hw
  first | replace w0 := wf_Mine w0 | skip
  have hwl := w0.2.1
  repeat' first
    | refine And.intro rfl ?_
    | refine GdF.mk (fun h => h) ?_
    | refine And.intro (Nat.succ_ne_zero _) ?_
    | refine And.intro (Nat.le_of_ble_eq_true rfl) ?_
    | refine SeqF.run ?_
    | refine GhF.at 10 rfl [.fz 2 4] ?_
    | (refine ArgF.ret (c_impl_Mine_tree m hm) ?_; rintro ⟨t, T⟩ ⟨t1, t2⟩; dsimp only at t1 t2)
    | refine EqL.mk _ (tkT (take_all t1)) ?_
    | (refine ArgF.mk _ (c_impl_Mine_path m (m.airways.getD i.toNat default).to (m.airways.getD i.toNat default).from_ T hm (hmp.2.2 i.toNat (by omega)).2.2 (hmp.2.2 i.toNat (by omega)).2.1 t2.rg (by have := trI_len t2 (by omega); omega)) (fun rs ho hR _ => ?_); rcases hR with ⟨rfl, rfl, hno⟩ | ⟨k, ws, es, rfl, rfl, p3, p4, p5, p6, p7⟩)
    | (exfalso; exact hno (cnA_sym hm (t2.cn i i0 (by assumption) (by assumption))))
    | refine MkF.rows ?_
    | refine EqL.mk (List.map eI ((i + 1) :: ws)) rfl ?_
    | refine EqL.mk (List.map eI ((i + 1) :: ws)) (capT (by simp; omega)) ?_
    | refine BndF.mk (fun _ => by simp; omega) ?_
    | refine BndF.mk (fun _ => by have := i3.ln; omega) ?_
    | refine EqR.mk (List.map eR [(i + 1) :: ws]) rfl ?_
    | refine EqR.mk [] rfl ?_
    | refine EqR.mk _ apR ?_
    | refine EqR.mk (List.map eR [(i + 1) :: ws]) (by simp) ?_
    | refine EqL.mk (ss.map eLI) (tkRows i2) ?_
    | refine LoopF.at 4 rfl (LoopF.fix [1, 3, 12, 13] (Int × Nat × List (List Int)) (fun (i, n, ss) => 0 ≤ i ∧ i ≤ m.airways.length ∧ n = ss.length ∧ mshI m ss i) (fun (i, n, ss) => [(14, In i), (4, .osl 2 0 n)]) (fun (i, n, ss) => [(2, .rows true .flat (eI 0) (ss.map eR) none)]) (fun (i, n, ss) => ((m.airways.length - i).toNat)) ((0, 0, [])) ?_)
    | (refine LoopB.of (T := Int × Nat × List (List Int)) ?_ ?_; rotate_left; rintro ⟨i, n, ss⟩ ⟨i0, i1, i2, i3⟩; rotate_left)
    | refine RetV.mk (α := List (List Int)) ss rfl rfl ?_
    | refine GhF.go ?_
    | refine BndF.mk (fun _ => ⟨rfl, by first | rfl | omega | (simp only [List.length_map, List.length_cons, List.length_nil, List.length_append, List.length_set, List.length_replicate]; first | done | omega)⟩) ?_
    | refine MkF.row ?_
    | refine EqP.mk _ (gm GAirway.cells default rfl) ?_
    | refine EqP.mk _ (gm eI 0 rfl) ?_
    | refine EqP.mk _ (gmb eLI [] (by omega)) ?_
    | refine BndF.mk (fun _ => by omega) ?_
    | refine BndF.mk (fun _ => by simp only [lnS]; omega) ?_
    | refine EqI.mk _ (fun _ => wrapI (by omega) (by omega)) ?_
    | refine EqI.mk _ (fun _ => rfl) ?_
    | refine FlF.keep ?_
    | refine EqN.mk _ (ln GAirway.cells) ?_
    | refine EqN.mk _ (ln eI) ?_
    | refine EqN.mk _ (ln eLI) ?_
    | refine EqN.mk _ (Nat.zero_add _) ?_
    | refine EqN.mk (_ + 1) rfl ?_
    | refine EqN.mk _ (Int.toNat_natCast _) ?_
    | refine EqN.mk _ rfl ?_
    | refine EqL.mk _ (sn0 GAirway.cells) ?_
    | refine EqL.mk _ (sn GAirway.cells (by first | rfl | assumption | omega | (simp only [lnS] <;> omega))) ?_
    | refine EqL.mk _ (ap0 GAirway.cells) ?_
    | refine EqL.mk _ (ap GAirway.cells (by first | rfl | assumption | omega | (simp only [lnS] <;> omega))) ?_
    | refine EqL.mk _ (tk GAirway.cells (by first | rfl | assumption | omega | (simp only [lnS] <;> omega))) ?_
    | refine EqL.mk _ (st GAirway.cells) ?_
    | refine EqL.mk _ (dt GAirway.cells) ?_
    | refine EqL.mk _ (sn0 eI) ?_
    | refine EqL.mk _ (sn eI (by first | rfl | assumption | omega | (simp only [lnS] <;> omega))) ?_
    | refine EqL.mk _ (ap0 eI) ?_
    | refine EqL.mk _ (ap eI (by first | rfl | assumption | omega | (simp only [lnS] <;> omega))) ?_
    | refine EqL.mk _ (tk eI (by first | rfl | assumption | omega | (simp only [lnS] <;> omega))) ?_
    | refine EqL.mk _ (st eI) ?_
    | refine EqL.mk _ (dt eI) ?_
    | refine EqL.mk _ (sn0 eLI) ?_
    | refine EqL.mk _ (sn eLI (by first | rfl | assumption | omega | (simp only [lnS] <;> omega))) ?_
    | refine EqL.mk _ (ap0 eLI) ?_
    | refine EqL.mk _ (ap eLI (by first | rfl | assumption | omega | (simp only [lnS] <;> omega))) ?_
    | refine EqL.mk _ (tk eLI (by first | rfl | assumption | omega | (simp only [lnS] <;> omega))) ?_
    | refine EqL.mk _ (st eLI) ?_
    | refine EqL.mk _ (dt eLI) ?_
    | refine EqL.mk [] rfl ?_
    | refine EqL.mk [_] rfl ?_
    | refine EqL.mk _ rfl ?_
    | refine ArgF.is (c_impl_Mine_tree ⟨_, _⟩ (by first | assumption | omega)) ?_
    | refine ArgQ.is (fun hG => c_impl_Mine_tree ⟨_, _⟩ (by first | assumption | omega)) rfl rfl ?_
    | refine ArgF.is (c_slices_Contains_int64_int64 ..) ?_
    | refine ArgQ.is (fun hG => c_slices_Contains_int64_int64 ..) rfl rfl ?_
    | refine ArgF.is (c_impl_Mine_path ⟨_, _⟩ _ _ _ (by first | assumption | omega) (by first | assumption | omega) (by first | assumption | omega) (by first | assumption | omega) (by first | assumption | omega)) ?_
    | refine ArgQ.is (fun hG => c_impl_Mine_path ⟨_, _⟩ _ _ _ (by first | assumption | omega) (by first | assumption | omega) (by first | assumption | omega) (by first | assumption | omega) (by first | assumption | omega)) rfl rfl ?_
    | refine CallF.mk (CallW.is [] true rfl ?_)
    | refine CallG.mk ?_
    | (refine CondF.mk (fun hb => ?_) (fun hb => ?_) <;> try simp only [forall_const, eq_self, not_true_eq_false, not_false_eq_true, or_false, false_or, or_self, or_true, true_or, and_true, true_and, and_false, false_and, decide_true, decide_false, Bool.not_true, Bool.not_false, decide_eq_true_eq, decide_eq_false_iff_not, ite_and_p, ite_or_p, Bool.decide_eq_true, Bool.and_eq_true, Bool.or_eq_true, Bool.not_eq_true', Bool.not_eq_false', Bool.and_eq_false_imp, Bool.or_eq_false_iff, bne_iff_ne, beq_iff_eq, bne_eq_false_iff_eq, beq_eq_false_iff_ne, gt_iff_lt, ge_iff_le, Int.not_lt, Int.not_le, ne_eq, Bool.true_eq_false, Bool.false_eq_true, reduceCtorEq, eta_Airway, eta_Fan, eta_Mine] at hb)
    | apply BackF.auto3
    | refine BackB.mk ?_ ?_
    | refine RetF.auto (And.intro rfl ?_)
    | exact Is.mk rfl rfl
    | refine Is.mk ?_ rfl
    | refine Is.mk rfl ?_
    | refine Is.mk ?_ ?_
  all_goals try dsimp only
  all_goals first
    | omega
    | exact ⟨by omega, by omega, rfl, mshI_0⟩
    | exact ⟨by omega, by omega, i2, mshI_k i3⟩
    | exact ⟨by omega, by omega, by simp [i2], mshI_a i3 (msh_of hm i0 (by assumption) p5 p3 p4 p6 p7) rfl⟩
    | (rw [show (m.airways.length : Int) = i by omega]; exact i3)
    | exact ⟨i2, by rw [show (m.airways.length : Int) = i by omega]; exact i3⟩
    | skip
inductive MsR (m : GMine) (rs : List AV) (ho : List OB) : Prop
  | no (h1 : rs = [.osl 0 0 0, In 1]) (h2 : ho = [.rows false .flat (eI 0) [] none])
  | ok (ss : List (List Int)) (h1 : rs = [.p .fresh (LLI ss), In 0]) (h2 : ho = []) (h : okMine m = true) (h3 : mshI m ss m.airways.length)
theorem c_impl_MeshesOf (m : GMine) : FnSem Tryz.prog 8 [.p .any (.agg m.cells)] [] (MsR m) := by
  refine FnSem.old ?_
  refine FnSem.walk (zs := zeroPV Tryz.prog) (by kernel_rfl) Tryz.func8 rfl Tryz.results8 (by kernel_rfl) (by kernel_rfl) (by kernel_rfl) fun hw hh => ?_
  obtain ⟨w0, _⟩ := hw
  first | replace w0 := wf_Mine w0 | skip
  repeat' first
    | refine And.intro rfl ?_
    | refine GdF.mk (fun h => h) ?_
    | refine And.intro (Nat.succ_ne_zero _) ?_
    | refine And.intro (Nat.le_of_ble_eq_true rfl) ?_
    | refine SeqF.run ?_
    | refine ArgF.is (c_impl_ValidMine m) ?_
    | refine ArgQ.is (fun hG => c_impl_ValidMine m) rfl rfl ?_
    | (refine ArgF.ret (c_impl_Mine_meshes m (by assumption)) ?_; rintro ss q2; try dsimp only at q2)
    | refine MkF.rows ?_
    | exact MsR.no rfl rfl
    | exact MsR.ok ss rfl rfl (by assumption) q2
    | refine GhF.go ?_
    | refine BndF.mk (fun _ => ⟨rfl, by first | rfl | omega | (simp only [List.length_map, List.length_cons, List.length_nil, List.length_append, List.length_set, List.length_replicate]; first | done | omega)⟩) ?_
    | refine MkF.row ?_
    | refine BndF.mk (fun _ => by omega) ?_
    | refine BndF.mk (fun _ => by simp only [lnS]; omega) ?_
    | refine EqN.mk _ (Nat.zero_add _) ?_
    | refine EqN.mk _ (Int.toNat_natCast _) ?_
    | refine EqN.mk _ rfl ?_
    | refine EqL.mk [] rfl ?_
    | refine EqL.mk [_] rfl ?_
    | refine EqL.mk _ rfl ?_
    | refine ArgF.is (c_impl_ValidMine ⟨_, _⟩) ?_
    | refine ArgQ.is (fun hG => c_impl_ValidMine ⟨_, _⟩) rfl rfl ?_
    | refine ArgF.is (c_impl_Mine_meshes ⟨_, _⟩ (by first | assumption | omega)) ?_
    | refine ArgQ.is (fun hG => c_impl_Mine_meshes ⟨_, _⟩ (by first | assumption | omega)) rfl rfl ?_
    | refine CallF.mk (CallW.is [] true rfl ?_)
    | refine CallG.mk ?_
    | (refine CondF.mk (fun hb => ?_) (fun hb => ?_) <;> try simp only [forall_const, eq_self, not_true_eq_false, not_false_eq_true, or_false, false_or, or_self, or_true, true_or, and_true, true_and, and_false, false_and, decide_true, decide_false, Bool.not_true, Bool.not_false, decide_eq_true_eq, decide_eq_false_iff_not, ite_and_p, ite_or_p, Bool.decide_eq_true, Bool.and_eq_true, Bool.or_eq_true, Bool.not_eq_true', Bool.not_eq_false', Bool.and_eq_false_imp, Bool.or_eq_false_iff, bne_iff_ne, beq_iff_eq, bne_eq_false_iff_eq, beq_eq_false_iff_ne, gt_iff_lt, ge_iff_le, Int.not_lt, Int.not_le, ne_eq, Bool.true_eq_false, Bool.false_eq_true, reduceCtorEq, eta_Airway, eta_Fan, eta_Mine] at hb)
    | refine RetF.auto (And.intro rfl ?_)
    | exact Is.mk rfl rfl
    | refine Is.mk ?_ rfl
    | refine Is.mk rfl ?_
    | refine Is.mk ?_ ?_
  all_goals skip
theorem inJ_V {m : GMine} {n : Int} (h : inJ m.junctions n = true) : inV m n := by
  have := inR_iff.1 h
  unfold inV; omega
theorem V_inJ {m : GMine} {n : Int} (h : inV m n) : inJ m.junctions n = true := by
  unfold inV at h
  exact inR_iff.2 (by omega)
theorem iota_r {L : Nat} : ∀ i ∈ iotaI 0 L, 0 ≤ i ∧ i < (L : Int) := by
  intro i hi
  unfold iotaI at hi
  obtain ⟨j, h1, rfl⟩ := List.mem_map.1 hi
  have := List.mem_range.1 h1
  omega
inductive PofR (m : GMine) (f to : Int) (rs : List AV) (ho : List OB) : Prop
  | mk (n : Nat) (ws : List Int) (c : Int) (h1 : rs = [.osl 0 0 n, In c]) (h2 : ho = [.row false .flat (eI 0) (ws.map eI)]) (h3 : n = ws.length) (h4 : c ≠ 0 → n = 0 ∧ c ∈ [1, 2, 3])
      (h : c = 0 → okMine m = true ∧ inV m f ∧ inV m to ∧ n ≤ 16 ∧ dsA m (iotaI 0 m.airways.length) n f to ∧ ∃ es : List Nat, wayI m (iotaI 0 m.airways.length) f to es ws)
      (h5 : okMine m = true → inV m f → inV m to → cnA m (iotaI 0 m.airways.length) f to → c = 0)
end Go.Proofs.YtdhkpmaanegjkaaGreatDoor

set_option linter.unusedVariables false
set_option linter.unusedSimpArgs false
namespace Go.Proofs.YtdhkpmaanegjkaaGreatDoor
open Go.Av
attribute [local irreducible] Go.IntKind.wrap leastI rdZ rd rootI
set_option maxRecDepth 20000
set_option maxHeartbeats 4000000
theorem mulB {a b A B : Int} (h1 : -A ≤ a ∧ a ≤ A) (h3 : 0 ≤ b ∧ b ≤ B) : -(A * B) ≤ a * b ∧ a * b ≤ A * B := by
  have g1 := Int.mul_le_mul_of_nonneg_left h3.2 (show 0 ≤ A by omega)
  have g2 := Int.mul_le_mul_of_nonneg_right h1.2 h3.1
  have g3 := Int.mul_le_mul_of_nonneg_right h1.1 h3.1
  rw [Int.neg_mul] at g3
  omega
def dropI (r q : Int) : Int := rdZ (r * q * max q (-q)) 10000000000
theorem dropI_b {r q : Int} (hr : 1 ≤ r ∧ r ≤ 1000000) (hq : -100000 ≤ q ∧ q ≤ 100000) : (-100000000000 ≤ r * q ∧ r * q ≤ 100000000000) ∧ (-10000000000000000 ≤ r * q * max q (-q) ∧ r * q * max q (-q) ≤ 10000000000000000) ∧ -1000000 ≤ dropI r q ∧ dropI r q ≤ 1000000 := by
  have h1 := mulB (a := q) (b := r) (A := 100000) (B := 1000000) hq (by omega)
  rw [Int.mul_comm q r] at h1
  have h2 := mulB (a := r * q) (b := max q (-q)) (A := 100000000000) (B := 100000) (by omega) (by omega)
  have h3 := rdZ_lo (a := -1000000) (x := r * q * max q (-q)) (y := 10000000000) (by omega) (by omega)
  have h4 := rdZ_hi (b := 1000000) (x := r * q * max q (-q)) (y := 10000000000) (by omega) (by omega)
  unfold dropI
  omega
theorem c_slices_Min_int64_int64 (xs : List Int) (hl : 1 ≤ xs.length) : FnSem Tryz.prog 36 [Lx (LI xs)] [] (RetV (fun v : Int => [In v]) (fun _ => []) (fun v => (∃ j : Nat, j < xs.length ∧ v = xs.getD j 0) ∧ ∀ j : Nat, (j : Int) < xs.length → v ≤ xs.getD j 0)) := by
  refine FnSem.walk (zs := zeroPV Tryz.prog) (by kernel_rfl) Tryz.func36 rfl Tryz.results36 (by kernel_rfl) (by kernel_rfl) (by kernel_rfl) fun hw hh => ?_
  obtain ⟨w0, _⟩ := hw
  first | replace w0 := wf_LI w0 | skip
  repeat' first
    | refine And.intro rfl ?_
    | refine GdF.mk (fun h => h) ?_
    | refine And.intro (Nat.succ_ne_zero _) ?_
    | refine And.intro (Nat.le_of_ble_eq_true rfl) ?_
    | refine SeqF.run ?_
    | exact absurd hb (by omega)
    | refine LoopF.at 5 rfl (LoopF.fix [0] (Int × Int) (fun (v, i) => 1 ≤ i ∧ i ≤ xs.length ∧ (∃ j : Nat, j < xs.length ∧ v = xs.getD j 0) ∧ (∀ j : Nat, (j : Int) < i → v ≤ xs.getD j 0)) (fun (v, i) => [(3, In v), (4, In i)]) (fun (v, i) => []) (fun (v, i) => ((xs.length - i).toNat)) ((xs.getD 0 0, 1)) ?_)
    | (refine LoopB.of (T := Int × Int) ?_ ?_; rotate_left; rintro ⟨v, i⟩ ⟨h0, h1, h2, h3⟩; rotate_left)
    | refine RetV.mk (α := Int) _ rfl rfl ?_
    | refine GhF.go ?_
    | refine EqP.mk _ (gm eI 0 rfl) ?_
    | refine BndF.mk (fun _ => by omega) ?_
    | refine BndF.mk (fun _ => by simp only [lnS]; omega) ?_
    | refine EqI.mk _ (fun _ => wrapI (by omega) (by omega)) ?_
    | refine EqI.mk _ (fun _ => rfl) ?_
    | refine EqN.mk _ (ln eI) ?_
    | refine EqN.mk _ (Nat.zero_add _) ?_
    | refine EqN.mk _ (Int.toNat_natCast _) ?_
    | refine EqN.mk _ rfl ?_
    | (refine CondF.mk (fun hb => ?_) (fun hb => ?_) <;> try simp only [forall_const, eq_self, not_true_eq_false, not_false_eq_true, or_false, false_or, or_self, or_true, true_or, and_true, true_and, and_false, false_and, decide_true, decide_false, Bool.not_true, Bool.not_false, decide_eq_true_eq, decide_eq_false_iff_not, ite_and_p, ite_or_p, Bool.decide_eq_true, Bool.and_eq_true, Bool.or_eq_true, Bool.not_eq_true', Bool.not_eq_false', Bool.and_eq_false_imp, Bool.or_eq_false_iff, bne_iff_ne, beq_iff_eq, bne_eq_false_iff_eq, beq_eq_false_iff_ne, gt_iff_lt, ge_iff_le, Int.not_lt, Int.not_le, ne_eq, Bool.true_eq_false, Bool.false_eq_true, reduceCtorEq, eta_Airway, eta_Fan, eta_Mine] at hb)
    | apply BackF.auto2
    | refine BackB.mk ?_ ?_
    | refine RetF.auto (And.intro rfl ?_)
    | exact Is.mk rfl rfl
    | refine Is.mk ?_ rfl
    | refine Is.mk rfl ?_
    | refine Is.mk ?_ ?_
  all_goals try dsimp only
  all_goals try omega
  · exact ⟨by omega, by omega, ⟨0, by omega, rfl⟩, fun j hj => by rw [show j = 0 by omega]; exact Int.le_refl _⟩
  · refine ⟨by omega, by omega, ?_, all_s (P := fun j => min v (xs.getD i.toNat 0) ≤ xs.getD j 0) (by omega) (fun j hj => by have := h3 j hj; omega) (by omega)⟩
    obtain ⟨j, hj, e⟩ := h2
    rcases Int.le_total v (xs.getD i.toNat 0) with h | h
    · exact ⟨j, hj, by omega⟩
    · exact ⟨i.toNat, by omega, by omega⟩
  · exact ⟨h2, fun j hj => h3 j (by omega)⟩
end Go.Proofs.YtdhkpmaanegjkaaGreatDoor
