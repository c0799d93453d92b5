/- Contracts of functions of the program, and what they compute. Conditions: those that each theorem states. -/
import Derived.Test.YtdhkpmaanegjkaaGreatDoorProg
import Derived.Test.YtdhkpmaanegjkaaGreatDoorH9
set_option linter.unusedVariables false
set_option linter.unusedSimpArgs false
namespace Go.Proofs.YtdhkpmaanegjkaaGreatDoor
open Go.Av
attribute [local irreducible] Go.IntKind.wrap treeC mshC isName okAirway
set_option maxRecDepth 20000
set_option maxHeartbeats 16000000
theorem bl_trans : ∀ x y z : List UInt8, Op.bytesLess x y = true → Op.bytesLess y z = true → Op.bytesLess x z = true
  | _, [], _, h, _ => by unfold Op.bytesLess at h; cases h
  | [], _ :: _, [], _, h => by unfold Op.bytesLess at h; cases h
  | [], _ :: _, _ :: _, _, _ => by unfold Op.bytesLess; rfl
  | _ :: _, _ :: _, [], _, h => by unfold Op.bytesLess at h; cases h
  | a :: x, b :: y, c :: z, h, g => by
    unfold Op.bytesLess at h g ⊢
    simp only [Bool.or_eq_true, Bool.and_eq_true, decide_eq_true_eq, beq_iff_eq] at h g ⊢
    rcases h with h | ⟨rfl, h⟩
    · rcases g with g | ⟨rfl, _⟩
      · exact .inl (UInt8.lt_trans h g)
      · exact .inl h
    · rcases g with g | ⟨rfl, g⟩
      · exact .inl g
      · exact .inr ⟨rfl, bl_trans x y z h g⟩
theorem sLt_trans {a b c : ByteArray} (h : sLt a b = true) (g : sLt b c = true) : sLt a c = true := bl_trans _ _ _ h g
theorem cmpS_neg {x y : ByteArray} (h : cmpS x y < 0) : sLt x y = true := by
  unfold cmpS at h
  split at h
  · assumption
  · split at h
    · exact absurd h (by decide)
    · exact absurd h (by decide)
theorem cmpS_pos {x y : ByteArray} (h : 0 ≤ cmpS x y) (h0 : ¬cmpS x y = 0) : sLt y x = true := by
  unfold cmpS at h h0
  split at h
  · exact absurd h (by decide)
  · rename_i h1
    rw [if_neg h1] at h0
    split at h0
    · exact absurd rfl h0
    · rename_i h2
      exact sLt_t.2 ⟨Bool.eq_false_iff.2 h1, h2⟩
def insA (xs : List GAirway) (k : Nat) (a : GAirway) : List GAirway := xs.take k ++ [a] ++ xs.drop k
section
variable {xs : List GAirway} {k j : Nat} {a : GAirway}
theorem ins_len (hk : k ≤ xs.length) : (insA xs k a).length = xs.length + 1 := by
  unfold insA
  simp only [List.length_append, List.length_take, List.length_drop, List.length_singleton]; omega
theorem ins_lo (h : j < k) (hk : k ≤ xs.length) : (insA xs k a).getD j default = xs.getD j default := by
  unfold insA
  rw [List.getD_eq_getElem?_getD, List.append_assoc, List.getElem?_append_left (by rw [List.length_take]; omega), List.getElem?_take, if_pos h, ← List.getD_eq_getElem?_getD]
theorem ins_at (hk : k ≤ xs.length) : (insA xs k a).getD k default = a := by
  unfold insA
  rw [List.getD_eq_getElem?_getD, List.append_assoc, List.getElem?_append_right (by rw [List.length_take]; omega), List.length_take, show k - min k xs.length = 0 by omega]; rfl
theorem ins_hi (h : k < j) (hk : k ≤ xs.length) : (insA xs k a).getD j default = xs.getD (j - 1) default := by
  unfold insA
  rw [List.getD_eq_getElem?_getD, List.getElem?_append_right (by simp only [List.length_append, List.length_take, List.length_singleton]; omega), List.getElem?_drop, List.length_append, List.length_take, List.length_singleton, show k + (j - (min k xs.length + 1)) = j - 1 by omega, ← List.getD_eq_getElem?_getD]
theorem ins_cut (hk : k ≤ xs.length) : cutA (insA xs k a) k = xs := by
  unfold cutA insA
  rw [Int.toNat_natCast, List.append_assoc, List.take_append_of_le_length (by rw [List.length_take]; omega), List.take_take, Nat.min_self, List.drop_append, List.drop_eq_nil_of_le (by rw [List.length_take]; omega), List.length_take, show k + 1 - min k xs.length = 1 by omega, List.nil_append]
  show xs.take k ++ xs.drop k = xs
  exact List.take_append_drop k xs
end
theorem okMine_adj {m : GMine} (h : okMine m = true) : (∀ j : Nat, (j : Int) < m.airways.length → okAw m.junctions (m.airways.getD j default) = true) ∧ ∀ j : Nat, 0 < j → (j : Int) < m.airways.length → sLt (m.airways.getD (j - 1) default).id (m.airways.getD j default).id = true := by
  simp only [okMine, Bool.and_eq_true] at h
  have h2 := h.2
  unfold okAll at h2
  rw [Bool.and_eq_true] at h2
  refine ⟨fun j hj => List.all_eq_true.1 h2.1 _ (getD_mem (by omega)), fun j h0 hj => ?_⟩
  rcases adjB_iff.1 h2.2 j hj with e | e
  · omega
  · exact e
structure fitA (m : GMine) (a : GAirway) (k : Int) : Prop where
  ok : okMine m = true
  aw : okAw m.junctions a = true
  rg : 0 ≤ k ∧ k ≤ m.airways.length
  ln : m.airways.length < 24
  lo : 0 < k → sLt (m.airways.getD (k - 1).toNat default).id a.id = true
  hi : k < m.airways.length → sLt a.id (m.airways.getD k.toNat default).id = true
abbrev addM (m : GMine) (a : GAirway) (k : Int) : GMine := ⟨m.junctions, insA m.airways k.toNat a⟩
section
variable {m : GMine} {a : GAirway} {k : Int}
theorem fitA_of (h : okMine m = true) (ha : okAw m.junctions a = true) (hl : ¬(m.airways.length : Int) = 24) (b : bsP m.airways a k false) : fitA m a k := by
  have hp := okMine_p h
  refine ⟨h, ha, b.rg, by omega, fun h0 => cmpS_neg (b.lo h0), fun h1 => cmpS_pos (b.hi h1) fun e => ?_⟩
  have := b.eq
  rw [decide_eq_true h1, e] at this
  cases this
theorem fitA.ok2 (h : fitA m a k) : okMine (addM m a k) = true := by
  have hp := okMine_p h.ok
  have ha := okMine_adj h.ok
  have hr := h.rg
  have hk : k.toNat ≤ m.airways.length := by omega
  have hl := ins_len (a := a) hk
  have ho := h.ok
  simp only [okMine, Bool.and_eq_true] at ho ⊢
  refine ⟨⟨ho.1.1, decide_eq_true (by show (insA m.airways k.toNat a).length ≤ 24; have := h.ln; omega)⟩, ?_⟩
  have key : okTo (okAw m.junctions) (fun a b => sLt a.id b.id) default (insA m.airways k.toNat a) (insA m.airways k.toNat a).length := by
    refine ⟨fun j hj => ?_, fun j hj => ?_⟩
    · rcases Nat.lt_trichotomy j k.toNat with c | c | c
      · rw [ins_lo c hk]; exact ha.1 j (by omega)
      · rw [c, ins_at hk]; exact h.aw
      · rw [ins_hi c hk]; exact ha.1 (j - 1) (by omega)
    · by_cases e : j = 0
      · exact .inl e
      · right
        rcases Nat.lt_trichotomy j k.toNat with c | c | c
        · rw [ins_lo c hk, ins_lo (by omega) hk]; exact ha.2 j (by omega) (by omega)
        · rw [c, ins_at hk, ins_lo (by omega) hk]
          have := h.lo (by omega)
          rw [show (k - 1).toNat = k.toNat - 1 by omega] at this
          exact this
        · rw [ins_hi c hk]
          by_cases e2 : j - 1 = k.toNat
          · rw [e2, ins_at hk]; exact h.hi (by omega)
          · rw [ins_hi (by omega) hk]; exact ha.2 (j - 1) (by omega) (by omega)
  exact okAll_t (Int.le_refl _) key
theorem fitA.below (h : fitA m a k) : ∀ d j : Nat, j + d + 1 = k.toNat → sLt (m.airways.getD j default).id a.id = true := by
  have hr := h.rg
  have ha := okMine_adj h.ok
  intro d
  induction d with
  | zero =>
    intro j hj
    have := h.lo (by omega)
    rwa [show (k - 1).toNat = j by omega] at this
  | succ d ih =>
    intro j hj
    have h1 := ih (j + 1) (by omega)
    have h2 := ha.2 (j + 1) (by omega) (by omega)
    rw [show j + 1 - 1 = j by omega] at h2
    exact sLt_trans h2 h1
theorem fitA.nam (h : fitA m a k) : namI (addM m a k) a.id = k := by
  have hr := h.rg
  have hk : k.toNat ≤ m.airways.length := by omega
  have hl := ins_len (a := a) hk
  unfold namI
  refine (idxG_at (d := default) hr.1 (by show k < ((insA m.airways k.toNat a).length : Int); omega) ?_ fun j hj => ?_).symm
  · show decide (((insA m.airways k.toNat a).getD k.toNat default).id = a.id) = true
    rw [ins_at hk]; exact decide_eq_true rfl
  · show decide (((insA m.airways k.toNat a).getD j default).id = a.id) = false
    rw [ins_lo (by omega) hk]
    have := h.below (k.toNat - j - 1) j (by omega)
    exact decide_eq_false fun e => (sLt_t.1 this).2 e.symm
theorem fitA.cut (h : fitA m a k) : cutA (addM m a k).airways k = m.airways := by
  have hr := h.rg
  have e := ins_cut (a := a) (xs := m.airways) (k := k.toNat) (by omega)
  rw [show ((k.toNat : Nat) : Int) = k by omega] at e
  exact e
end
theorem frzT_mc {J : Int} {n : Nat} {zs xs : List GAirway} (hn : n ≤ zs.length) (hx : zs.take n = xs) : frzT 0 (fun vs ho => Is [.p .fresh (.agg (GMine.cells ⟨J, xs⟩)), In 0] [] (aggL vs) ho) [.aagg [In J, .osl 0 0 n], In 0] [.row true .flat (GAirway.cells default) (zs.map GAirway.cells)] := by
  subst hx
  exact ⟨0, _, by simp, rfl, Nat.le_refl _, rfl, rfl, by simp [hn], _, by rw [List.drop_zero, ← List.map_take], Is.mk rfl rfl⟩
--@fn impl.DropAirway
theorem drpT (m : GMine) (id : ByteArray) (h : okMine m = true) (hk : 0 ≤ namI m id) (hk2 : namI m id < m.airways.length) : FnSem Tryz.prog 15 [.p .any (.agg m.cells), Str id] [] (Is [.p .fresh (.agg (GMine.cells ⟨m.junctions, cutA m.airways (namI m id)⟩)), In 0] []) := by
  have hp := okMine_p h
  have hv := c_impl_ValidMine m
  rw [h] at hv
  refine semAgg (semFrzT ?_)
  refine FnSem.walk (zs := zeroPV Tryz.prog) (by kernel_rfl) Tryz.func15 rfl Tryz.results15 (by kernel_rfl) (by kernel_rfl) (by kernel_rfl) fun hw hh => ?_
  obtain ⟨w0, w1, _⟩ := hw
  first | replace w0 := wf_Mine w0 | skip
  first | replace w1 := wf_S w1 | skip
  repeat' first
    | refine And.intro rfl ?_
    | refine GdF.mk (fun h => h) ?_
    | refine And.intro (Nat.succ_ne_zero _) ?_
    | refine And.intro (Nat.le_of_ble_eq_true rfl) ?_
    | refine SeqF.run ?_
    | refine ArgF.is (nam2 m id) ?_
    | refine ArgQ.is (fun hG => nam2 m id) rfl rfl ?_
    | refine ArgF.is (hv) ?_
    | refine ArgQ.is (fun hG => hv) rfl rfl ?_
    | refine ArgF.is (cloA m.airways (by omega)) ?_
    | refine ArgQ.is (fun hG => cloA m.airways (by omega)) rfl rfl ?_
    | refine CallF.own (f := 55) [0] true ?_
    | refine EqI.mk (namI m id + 1) (fun _ => wrapI (by omega) (by omega)) ?_
    | (refine ArgF.ret (c_slices_Delete_impl_Airway_impl_Airway m.airways.length (namI m id) m.airways hk hk2 (Nat.le_refl _) (by omega)) ?_; rintro zs ⟨e1, e2⟩; rw [List.take_length] at e2)
    | refine Or.inr (frzT_mc (by omega) e2)
    | refine GhF.go ?_
    | refine DrawG.old (DrawF.lex (by decide +kernel) ?_)
    | refine DrawG.old (DrawF.any ?_)
    | refine OrdF.take 0 (by decide +kernel) ?_
    | refine OrdF.take 2 (by decide +kernel) ?_
    | refine OrdF.take 5 (by decide +kernel) ?_
    | refine OrdF.take 6 (by decide +kernel) ?_
    | refine OrdF.take 7 (by decide +kernel) ?_
    | refine OrdF.take 9 (by decide +kernel) ?_
    | refine OrdF.take 11 (by decide +kernel) ?_
    | refine OrdF.all [10] (by decide +kernel) ?_
    | refine OrdF.all [1] (by decide +kernel) ?_
    | refine OrdF.all [8] (by decide +kernel) ?_
    | refine OrdF.all [1, 8] (by decide +kernel) ?_
    | refine OrdF.all [4] (by decide +kernel) ?_
    | refine OrdF.all [1, 4] (by decide +kernel) ?_
    | refine OrdF.all [3] (by decide +kernel) ?_
    | refine OrdF.all [1, 3] (by decide +kernel) ?_
    | refine OrdF.fin (by decide +kernel) ?_
    | refine AllF.one _ ?_
    | refine AllF.cons _ _ ?_ ?_
    | refine BndF.mk (fun _ => by omega) ?_
    | refine BndF.mk (fun _ => by simp only [lnS]; omega) ?_
    | refine EqI.mk _ (fun _ => wrapI (by omega) (by omega)) ?_
    | refine EqI.mk _ (fun _ => rfl) ?_
    | refine EqL.mk _ (tk GAirway.cells (by first | rfl | assumption | omega | (simp only [lnS] <;> omega))) ?_
    | refine EqL.mk _ (st GAirway.cells) ?_
    | refine EqL.mk [] rfl ?_
    | refine EqL.mk [_] rfl ?_
    | refine EqL.mk _ rfl ?_
    | refine ArgF.is (c_impl_Mine_airwayNamed ..) ?_
    | refine ArgQ.is (fun hG => c_impl_Mine_airwayNamed ..) rfl rfl ?_
    | refine ArgF.is (c_impl_ValidMine ⟨_, _⟩) ?_
    | refine ArgQ.is (fun hG => c_impl_ValidMine ⟨_, _⟩) rfl rfl ?_
    | refine ArgF.is (c_slices_Clone_impl_Airway_impl_Airway ..) ?_
    | refine ArgQ.is (fun hG => c_slices_Clone_impl_Airway_impl_Airway ..) rfl rfl ?_
    | refine ArgF.is (c_slices_Delete_impl_Airway_impl_Airway _ _ _ (by first | assumption | omega) (by first | assumption | omega) (by first | assumption | omega) (by first | assumption | omega)) ?_
    | refine ArgQ.is (fun hG => c_slices_Delete_impl_Airway_impl_Airway _ _ _ (by first | assumption | omega) (by first | assumption | omega) (by first | assumption | omega) (by first | assumption | omega)) rfl rfl ?_
    | refine CallF.own (f := 55) [0] true ?_
    | refine CallF.mk (CallW.is [] true rfl ?_)
    | refine CallG.mk ?_
    | (refine CondF.mk (fun hb => ?_) (fun hb => ?_) <;> try simp only [forall_const, eq_self, not_true_eq_false, not_false_eq_true, or_false, false_or, or_self, or_true, true_or, and_true, true_and, and_false, false_and, decide_true, decide_false, Bool.not_true, Bool.not_false, decide_eq_true_eq, decide_eq_false_iff_not, ite_and_p, ite_or_p, Bool.decide_eq_true, Bool.and_eq_true, Bool.or_eq_true, Bool.not_eq_true', Bool.not_eq_false', Bool.and_eq_false_imp, Bool.or_eq_false_iff, bne_iff_ne, beq_iff_eq, bne_eq_false_iff_eq, beq_eq_false_iff_ne, gt_iff_lt, ge_iff_le, Int.not_lt, Int.not_le, ne_eq, Bool.true_eq_false, Bool.false_eq_true, reduceCtorEq, eta_Airway, eta_Fan, eta_Mine] at hb)
    | refine RetF.auto (And.intro rfl ?_)
    | exact Is.mk rfl rfl
    | refine Is.mk ?_ rfl
    | refine Is.mk rfl ?_
    | refine Is.mk ?_ ?_
  all_goals try dsimp only
  all_goals first
    | omega
    | skip
end Go.Proofs.YtdhkpmaanegjkaaGreatDoor
