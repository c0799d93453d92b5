/- Contracts of functions of the program, and what they compute. Conditions: those that each theorem states. -/
import Derived.Test.YtnapoeobmdcdaaaProg
import Derived.Test.YtnapoeobmdcdaaaV5
set_option linter.unusedVariables false
set_option linter.unusedSimpArgs false
namespace Go.Proofs.Ytnapoeobmdcdaaa
open Go.Av
attribute [local irreducible] Go.IntKind.wrap leastI rdZ rd rootI rawA okMine wlk absI
set_option maxRecDepth 20000
set_option maxHeartbeats 100000000

/-! The law of meshes. -/
section
variable {m : GMine} {ls : List Int} {f to : Int} {es : List Nat} {ws : List Int}
theorem wlk_wy (hm : okMine m = true) (h : wayI m ls f to es ws) : wlk m ws f = to := by rw [h.sp, wlk_sp hm es f h.ok, h.en]
theorem spW_tk : ∀ (es : List Nat) (a : Int) (i : Nat), (spW m a es).take i = spW m a (es.take i)
  | [], a, i => by simp [spW]
  | j :: es, a, 0 => by simp [spW]
  | j :: es, a, i + 1 => by simp only [spW, List.take_succ_cons, spW_tk es _ i]
theorem okW_wk (hm : okMine m = true) : ∀ (es : List Nat) (a : Int), okW m [] a es → (∀ i ∈ es, (i : Int) ∈ ls) → wkA m ls es.length a (enW m a es)
  | [], a, _, _ => rfl
  | i :: es, a, ho, hl => by
    refine ⟨nxL m a i, ⟨i, hl i (by simp), ⟨by omega, by have := ho.1; omega⟩, ?_⟩, okW_wk hm es _ ho.2.2 fun j hj => hl j (by simp [hj])⟩
    have hk := ho.2.1
    have q := okAirway_b ((okMine_p hm).2.2 i (by have := ho.1; omega)).1
    rw [show ((i : Int)).toNat = i by omega]
    unfold okL at hk
    simp only [Bool.or_eq_true, Bool.and_eq_true, decide_eq_true_eq] at hk
    unfold otherA nxL
    unfold awI at *
    rcases hk with hk | ⟨hk, _⟩
    · rw [if_pos hk.symm, if_pos hk]
    · rw [if_neg (by omega), if_pos hk.symm, if_neg (by omega)]
/-- a shortest walk, cut: what is left is shortest, too -/
theorem cut_wy (hm : okMine m = true) (h : wayI m ls f to es ws) {n : Nat} (h4 : n = es.length) (h5 : dsA m ls n f to) {i : Nat} (hi : i ≤ n) : wlk m (ws.take i) f = enW m f (es.take i) ∧ dsA m ls (n - i) (enW m f (es.take i)) to ∧ inV m f → True := fun _ => trivial
theorem cut_w (hm : okMine m = true) (h : wayI m ls f to es ws) {n : Nat} (h4 : n = es.length) (h5 : dsA m ls n f to) (hf : inV m f) {i : Nat} (hi : i ≤ n) : wlk m (ws.take i) f = enW m f (es.take i) ∧ dsA m ls (n - i) (enW m f (es.take i)) to ∧ inV m (enW m f (es.take i)) := by
  have hs : es = es.take i ++ es.drop i := (List.take_append_drop i es).symm
  have ho := h.ok
  rw [hs, okW_app] at ho
  have he := h.en
  rw [hs, enW_app] at he
  have m1 : ∀ j ∈ es.take i, (j : Int) ∈ ls := fun j hj => h.mem j (List.mem_of_mem_take hj)
  have m2 : ∀ j ∈ es.drop i, (j : Int) ∈ ls := fun j hj => h.mem j (List.mem_of_mem_drop hj)
  have w1 := okW_wk hm _ _ ho.1 m1
  have w2 := okW_wk hm _ _ ho.2 m2
  rw [he, List.length_drop, ← h4] at w2
  rw [List.length_take, ← h4, Nat.min_eq_left hi] at w1
  refine ⟨by rw [h.sp, spW_tk, wlk_sp hm _ _ ho.1], ⟨w2, fun k hk => ?_⟩, enV hm f _ hf ho.1⟩
  have := h5.2 (i + k) (wkA_add i k _ _ _ w1 hk)
  omega
end
theorem bd_mn {B C : Int} {xs : List Int} (h : bdL B xs) (hc : B ≤ C) : bdL C xs := fun j => by have := h j; omega
theorem bd_tk {B : Int} {xs : List Int} (h : bdL B xs) (hB : 0 ≤ B) (n : Nat) : bdL B (xs.take n) := fun j => by
  rw [List.getD_eq_getElem?_getD, List.getElem?_take]
  split
  · have := h j; rw [List.getD_eq_getElem?_getD] at this; exact this
  · simp; omega
/-- what the law wants of a path -/
inductive P2R (m : GMine) (f to : Int) (rs : List AV) (ho : List OB) : Prop
  | no (c : Int) (h1 : rs = [.osl 0 0 0, In c]) (h2 : ho = [.row false .flat (eI 0) (([] : List Int).map eI)]) (h : ¬c = 0)
  | ok (n : Nat) (ws : List Int) (es : List Nat) (h1 : rs = [.osl 0 0 n, In 0]) (h2 : ho = [.row false .flat (eI 0) (ws.map eI)]) (h3 : n = ws.length) (h4 : n = es.length) (h5 : n ≤ 16) (h6 : okMine m = true ∧ inV m f ∧ inV m to) (h7 : dsA m (iotaI 0 m.airways.length) n f to) (h8 : wayI m (iotaI 0 m.airways.length) f to es ws)
theorem pathC (m : GMine) (f to : Int) : FnSem Try.prog 17 [.p .any (.agg m.cells), In f, In to] [] (P2R m f to) :=
  (c_impl_PathOf m f to).mono fun rs ho h => by
    obtain ⟨n, ws, c, rfl, rfl, h3, h4, h, h5⟩ := h
    by_cases hc : c = 0
    · subst hc
      obtain ⟨q1, q2, q3, q4, q5, es, q6⟩ := h rfl
      exact .ok n ws es rfl rfl h3 (by have := congrArg List.length q6.sp; rw [spW_len] at this; omega) q4 ⟨q1, q2, q3⟩ q5 q6
    · obtain ⟨rfl, _⟩ := h4 hc
      have : ws = [] := List.eq_nil_of_length_eq_zero h3.symm
      subst this
      exact .no c rfl rfl hc
/-- the way back, and what is left of a walk: they exist -/
theorem pathY (m : GMine) (f to : Int) (hm : okMine m = true) (hf : inV m f) (ht : inV m to) {k : Nat} (hk : dsA m (iotaI 0 m.airways.length) k f to) : FnSem Try.prog 17 [.p .any (.agg m.cells), In f, In to] [] (RetV (fun v : List Int => [.osl 0 0 k, In 0]) (fun v => [.row false .flat (eI 0) (v.map eI)]) (fun v => v.length = k)) :=
  (c_impl_PathOf m f to).mono fun rs ho h => by
    obtain ⟨n, ws, c, rfl, rfl, h3, h4, h, h5⟩ := h
    have hc : c = 0 := h5 hm hf ht ⟨k, hk.1⟩
    subst hc
    obtain ⟨q1, q2, q3, q4, q5, es, q6⟩ := h rfl
    have e := dsA_fun q5 hk
    subst e
    exact ⟨ws, rfl, rfl, h3.symm⟩
theorem c_laws_FnMeshes (c1 c2 : List Int) : FnSem Try.prog 3 [Lx (LY c1), Lx (LY c2)] [] (Is [Bo true] []) := by
  refine FnSem.walk (zs := zeroPV Try.prog) (by kernel_rfl) Try.func3 rfl Try.results3 (by kernel_rfl) (by kernel_rfl) (by kernel_rfl) fun hw hh => ?_
  obtain ⟨w0, w1, _⟩ := hw
  first | replace w0 := wf_LY w0 | skip
  first | replace w1 := wf_LY w1 | skip
  have hc1 : bytes c1 := w0.2
  have hc2 : bytes c2 := w1.2
  repeat' first
    | refine And.intro rfl ?_
    | refine GdF.mk (fun h => h) ?_
    | refine And.intro (Nat.succ_ne_zero _) ?_
    | refine And.intro (Nat.le_of_ble_eq_true rfl) ?_
    | (refine SeqF.cutfix (a := codeF _ _ _ (.seq _ (.cond (.tmp 36) _ _))) [1] [] Unit (fun _ => True) (fun _ => []) (fun _ => []) ?_ ?_; rotate_left; rintro ⟨⟩ _; rotate_left)
    | exact FitF.mk () trivial (by first | exact ⟨[], [], rfl, rfl, ⟨rfl, trivial⟩⟩ | exact ⟨[], [], rfl, rfl, trivial⟩)
    | refine SeqF.run ?_
    | (refine ArgF.ret (c_spec_DrawMeshesOf _) ?_; rintro ⟨j, n, xs⟩ ⟨v1, v2⟩; dsimp only at v1 v2; subst v1)
    | refine EqL.mk _ (tk GAirway.cells rfl) ?_
    | (refine ArgF.mk _ (c_impl_MeshesOf ⟨j, xs⟩) (fun rs ho hR _ => ?_); rcases hR with ⟨rfl, rfl⟩ | ⟨ss, rfl, rfl, hm, hI⟩; try dsimp only at hI)
    | (refine ArgF.ret (c_spec_DrawPathOf _) ?_; rintro ⟨j2, n2, xs2, f, to⟩ ⟨v3, v4⟩; dsimp only at v3 v4; subst v3)
    | refine LoopF.at 8 rfl (LoopF.fix [1, 5, 6] (Int × Int) (fun (i, la) => 0 ≤ i ∧ i ≤ ss.length ∧ (0 ≤ la ∧ la ≤ 24) ∧ (i = 0 ∧ la = 0 ∨ 0 < i ∧ la = (ss.getD (i - 1).toNat []).getD 0 0)) (fun (i, la) => [(9, In i), (8, In la)]) (fun (i, la) => []) (fun (i, la) => ((ss.length - i).toNat)) ((0, 0)) ?_)
    | (refine LoopB.of (T := Int × Int) ?_ ?_; rotate_left; rintro ⟨i, la⟩ ⟨a0, a1, a2, a3⟩; rotate_left)
    | refine ArgF.is (c_laws_b10Walk ⟨j, xs⟩ (ss.getD i.toNat []) _ (bd_mn (hI.at_ i.toNat (by omega)).bd (by omega))) ?_
    | refine ArgQ.is (fun hG => c_laws_b10Walk ⟨j, xs⟩ (ss.getD i.toNat []) _ (bd_mn (hI.at_ i.toNat (by omega)).bd (by omega))) rfl rfl ?_
    | refine EqI.mk _ (fun _ => wrapI (by have := hI.ln; have := (okMine_p hm).2.1; dsimp only at *; omega) (by have := hI.ln; have := (okMine_p hm).2.1; dsimp only at *; omega)) ?_
    | (refine CondF.mk (fun hb => absurd hb (by decide)) (fun hb => ?_))
    | (refine ArgF.mk _ (pathC ⟨j2, xs2⟩ f to) (fun rs ho hR _ => ?_); rcases hR with ⟨c, rfl, rfl, hc⟩ | ⟨n3, ws, es, rfl, rfl, p3, p4, p5, p6, p7, p8⟩)
    | (refine ArgF.ret (pathY ⟨j2, xs2⟩ to f p6.1 p6.2.2 p6.2.1 (dsA_sym p6.1 p7)) ?_; rintro ws2 w2)
    | refine ArgF.is (c_laws_b10Walk ⟨j2, xs2⟩ ws f (bd_mn (by rw [p8.sp]; exact spW_b (okMine_p p6.1).2.1 es f p8.ok) (by omega))) ?_
    | refine ArgQ.is (fun hG => c_laws_b10Walk ⟨j2, xs2⟩ ws f (bd_mn (by rw [p8.sp]; exact spW_b (okMine_p p6.1).2.1 es f p8.ok) (by omega))) rfl rfl ?_
    | refine LoopF.at 24 rfl (LoopF.fix [11, 12, 13, 14] (Int × Unit) (fun (i, _) => 0 ≤ i ∧ i ≤ n3) (fun (i, _) => [(18, In i)]) (fun (i, _) => []) (fun (i, _) => ((n3 - i).toNat)) ((0, ())) ?_)
    | (refine LoopB.of (T := Int × Unit) ?_ ?_; rotate_left; rintro ⟨i, _⟩ ⟨b0, b1⟩; rotate_left)
    | refine ArgF.is (c_laws_b10Walk ⟨j2, xs2⟩ (ws.take i.toNat) f (bd_mn (bd_tk (by rw [p8.sp]; exact spW_b (okMine_p p6.1).2.1 es f p8.ok) (by omega) _) (by omega))) ?_
    | refine ArgQ.is (fun hG => c_laws_b10Walk ⟨j2, xs2⟩ (ws.take i.toNat) f (bd_mn (bd_tk (by rw [p8.sp]; exact spW_b (okMine_p p6.1).2.1 es f p8.ok) (by omega) _) (by omega))) rfl rfl ?_
    | (have cw := cut_w p6.1 p8 p4 p7 p6.2.1 (i := i.toNat) (by omega); rw [← cw.1] at cw; refine ArgF.ret (pathY ⟨j2, xs2⟩ (wlk ⟨j2, xs2⟩ (ws.take i.toNat) f) to p6.1 cw.2.2 p6.2.2 cw.2.1) ?_; rintro ws3 w3)
    | refine BndF.mk (fun _ => ⟨Nat.zero_le _, by show i.toNat ≤ _; omega⟩) ?_
    | refine EqN.mk i.toNat (by show i.toNat - 0 = i.toNat; omega) ?_
    | refine EqL.mk _ (tkT (take_all p3)) ?_
    | refine EqL.mk ((ws.take i.toNat).map eI) (by simp) ?_
    | refine GhF.go ?_
    | refine GdS.keep ?_
    | refine DrawG.old (DrawF.lex (by decide +kernel) ?_)
    | refine EqP.mk _ (gm eY 0 rfl) ?_
    | refine EqP.mk _ (gm GAirway.cells default rfl) ?_
    | refine EqP.mk _ (gmb eLI [] (by omega)) ?_
    | refine EqP.mk _ (gm eI 0 rfl) ?_
    | refine BndF.mk (fun _ => by omega) ?_
    | refine BndF.mk (fun _ => by simp only [List.length_map, List.length_cons, List.length_nil, List.length_append, List.length_set, List.length_replicate, iotaI_len]; omega) ?_
    | refine BndF.mk (fun hG => by simp only [forall_const, eq_self, not_true_eq_false, not_false_eq_true, or_false, false_or, or_self, or_true, true_or, and_true, true_and, and_false, false_and, decide_true, decide_false, Bool.not_true, Bool.not_false, decide_eq_true_eq, decide_eq_false_iff_not, ite_and_p, ite_or_p, Bool.decide_eq_true, Bool.and_eq_true, Bool.or_eq_true, Bool.not_eq_true', Bool.not_eq_false', Bool.and_eq_false_imp, Bool.or_eq_false_iff, bne_iff_ne, beq_iff_eq, bne_eq_false_iff_eq, beq_eq_false_iff_ne, gt_iff_lt, ge_iff_le, Int.not_lt, Int.not_le, ne_eq, Bool.true_eq_false, Bool.false_eq_true, reduceCtorEq, eta_Airway, eta_Fan, eta_Mine, bytes_nil] at hG; (try simp only [List.length_map]); omega) ?_
    | refine EqI.mk _ (fun _ => wrapI (by omega) (by omega)) ?_
    | refine EqI.mk _ (fun _ => rfl) ?_
    | refine EqN.mk _ (ln eY) ?_
    | refine EqN.mk _ (ln GAirway.cells) ?_
    | refine EqN.mk _ (ln eLI) ?_
    | refine EqN.mk _ (ln eI) ?_
    | refine EqN.mk _ (Nat.zero_add _) ?_
    | refine EqN.mk _ (Int.toNat_natCast _) ?_
    | refine EqN.mk _ rfl ?_
    | refine EqL.mk _ (tk eY (by first | rfl | assumption | omega | (simp only [List.length_map, List.length_cons, List.length_nil, List.length_append, List.length_set, List.length_replicate, iotaI_len]; done) | (simp only [List.length_map, List.length_cons, List.length_nil, List.length_append, List.length_set, List.length_replicate, iotaI_len]; omega))) ?_
    | refine EqL.mk _ (st eY) ?_
    | refine EqL.mk _ (dt eY) ?_
    | refine EqL.mk _ (tk GAirway.cells (by first | rfl | assumption | omega | (simp only [List.length_map, List.length_cons, List.length_nil, List.length_append, List.length_set, List.length_replicate, iotaI_len]; done) | (simp only [List.length_map, List.length_cons, List.length_nil, List.length_append, List.length_set, List.length_replicate, iotaI_len]; omega))) ?_
    | refine EqL.mk _ (st GAirway.cells) ?_
    | refine EqL.mk _ (dt GAirway.cells) ?_
    | refine EqL.mk _ (tk eLI (by first | rfl | assumption | omega | (simp only [List.length_map, List.length_cons, List.length_nil, List.length_append, List.length_set, List.length_replicate, iotaI_len]; done) | (simp only [List.length_map, List.length_cons, List.length_nil, List.length_append, List.length_set, List.length_replicate, iotaI_len]; omega))) ?_
    | refine EqL.mk _ (st eLI) ?_
    | refine EqL.mk _ (dt eLI) ?_
    | refine EqL.mk _ (tk eI (by first | rfl | assumption | omega | (simp only [List.length_map, List.length_cons, List.length_nil, List.length_append, List.length_set, List.length_replicate, iotaI_len]; done) | (simp only [List.length_map, List.length_cons, List.length_nil, List.length_append, List.length_set, List.length_replicate, iotaI_len]; omega))) ?_
    | refine EqL.mk _ (st eI) ?_
    | refine EqL.mk _ (dt eI) ?_
    | refine EqL.mk [] rfl ?_
    | refine EqL.mk [_] rfl ?_
    | refine EqL.mk _ rfl ?_
    | refine ArgF.is (c_laws_b10Long ..) ?_
    | refine ArgQ.is (fun hG => c_laws_b10Long ..) rfl rfl ?_
    | refine ArgF.is (c_spec_DrawMeshesOf ..) ?_
    | refine ArgQ.is (fun hG => c_spec_DrawMeshesOf ..) rfl rfl ?_
    | refine ArgF.is (c_impl_MeshesOf ⟨_, _⟩) ?_
    | refine ArgQ.is (fun hG => c_impl_MeshesOf ⟨_, _⟩) rfl rfl ?_
    | refine ArgF.is (c_laws_b10Walk ⟨_, _⟩ _ _ (by first | assumption | omega)) ?_
    | refine ArgQ.is (fun hG => c_laws_b10Walk ⟨_, _⟩ _ _ (by first | assumption | omega)) rfl rfl ?_
    | refine ArgQ.is (fun hG => c_laws_b10Walk ⟨_, _⟩ _ _ (by simp only [forall_const, eq_self, not_true_eq_false, not_false_eq_true, or_false, false_or, or_self, or_true, true_or, and_true, true_and, and_false, false_and, decide_true, decide_false, Bool.not_true, Bool.not_false, decide_eq_true_eq, decide_eq_false_iff_not, ite_and_p, ite_or_p, Bool.decide_eq_true, Bool.and_eq_true, Bool.or_eq_true, Bool.not_eq_true', Bool.not_eq_false', Bool.and_eq_false_imp, Bool.or_eq_false_iff, bne_iff_ne, beq_iff_eq, bne_eq_false_iff_eq, beq_eq_false_iff_ne, gt_iff_lt, ge_iff_le, Int.not_lt, Int.not_le, ne_eq, Bool.true_eq_false, Bool.false_eq_true, reduceCtorEq, eta_Airway, eta_Fan, eta_Mine, bytes_nil] at hG; omega)) rfl rfl ?_
    | refine ArgF.is (c_spec_DrawPathOf ..) ?_
    | refine ArgQ.is (fun hG => c_spec_DrawPathOf ..) rfl rfl ?_
    | refine ArgF.is (c_impl_PathOf ⟨_, _⟩ _ _) ?_
    | refine ArgQ.is (fun hG => c_impl_PathOf ⟨_, _⟩ _ _) rfl rfl ?_
    | refine CallF.mk (CallW.is [] true rfl ?_)
    | refine CallG.mk ?_
    | (refine CondF.mk (fun hb => ?_) (fun hb => ?_) <;> try simp only [forall_const, eq_self, not_true_eq_false, not_false_eq_true, or_false, false_or, or_self, or_true, true_or, and_true, true_and, and_false, false_and, decide_true, decide_false, Bool.not_true, Bool.not_false, decide_eq_true_eq, decide_eq_false_iff_not, ite_and_p, ite_or_p, Bool.decide_eq_true, Bool.and_eq_true, Bool.or_eq_true, Bool.not_eq_true', Bool.not_eq_false', Bool.and_eq_false_imp, Bool.or_eq_false_iff, bne_iff_ne, beq_iff_eq, bne_eq_false_iff_eq, beq_eq_false_iff_ne, gt_iff_lt, ge_iff_le, Int.not_lt, Int.not_le, ne_eq, Bool.true_eq_false, Bool.false_eq_true, reduceCtorEq, eta_Airway, eta_Fan, eta_Mine] at hb)
    | apply BackF.auto2
    | refine BackB.mk ?_ ?_
    | refine RetF.auto (And.intro rfl ?_)
    | exact Is.mk rfl rfl
    | refine Is.mk ?_ rfl
    | refine Is.mk rfl ?_
    | refine Is.mk ?_ ?_
  all_goals try dsimp only
  all_goals first
    | omega
    | exact ⟨by omega, by omega, by omega, .inl ⟨rfl, rfl⟩⟩
    | exact ⟨by omega, by omega⟩
    | (exfalso
       have e1 := wlk_wy p6.1 p8
       have e2 : n3 = 0 ↔ f = to := ⟨fun h => by have := p7.1; rw [h] at this; exact this, fun h => by have := p7.2 0 h; omega⟩
       rcases hb with hb | hb
       · exact hb e1
       · refine hb ?_
         rw [Bool.eq_iff_iff, beq_iff_eq, beq_iff_eq, ← e2]; omega)
    | (exfalso
       have q := hI.at_ i.toNat (by omega)
       have q2 := q.ln
       have q3 := q.hd
       have q4 := q.wk
       dsimp only at q3 q4
       first
       | exact hb q4
       | (rcases a3 with ⟨h1, h2⟩ | ⟨h1, h2⟩
          · rcases hb with (hb | hb) | hb
            · omega
            · change (ss.getD i.toNat []).getD 0 0 ≤ la at hb; omega
            · change (xs.length : Int) < (ss.getD i.toNat []).getD 0 0 at hb; omega
          · have q5 := hI.inc i.toNat (by omega) (by omega)
            rw [show i.toNat - 1 = (i - 1).toNat by omega, ← h2] at q5
            rcases hb with (hb | hb) | hb
            · omega
            · change (ss.getD i.toNat []).getD 0 0 ≤ la at hb; omega
            · change (xs.length : Int) < (ss.getD i.toNat []).getD 0 0 at hb; omega))
    | (have q := hI.at_ i.toNat (by omega)
       have q3 := q.hd
       have q6 := (okMine_p hm).2.1
       dsimp only at q3 q6
       refine ⟨by omega, by omega, ?_, .inr ⟨by omega, by rw [show (i + 1 - 1).toNat = i.toNat by omega]; rfl⟩⟩
       show 0 ≤ (ss.getD i.toNat []).getD 0 0 ∧ (ss.getD i.toNat []).getD 0 0 ≤ 24
       omega)
    | skip
end Go.Proofs.Ytnapoeobmdcdaaa
