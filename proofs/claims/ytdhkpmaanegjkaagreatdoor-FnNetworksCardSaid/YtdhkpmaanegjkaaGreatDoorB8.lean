/- Contracts of functions of the program, and what they compute. Conditions: those that each theorem states. -/
import Derived.Test.YtdhkpmaanegjkaaGreatDoorProg
import Derived.Test.YtdhkpmaanegjkaaGreatDoorB5
set_option linter.unusedVariables false
set_option linter.unusedSimpArgs false
namespace Go.Proofs.YtdhkpmaanegjkaaGreatDoor
open Go.Av
attribute [local irreducible] Go.IntKind.wrap okMine treeC
set_option maxRecDepth 20000
set_option maxHeartbeats 40000000
section
variable {m : GMine} {ls ws : List Int} {F : Int → Option Int} {to a q f : Int} {n : Nat}
theorem wf_add (hm : okMine m = true) (hl : ∀ i ∈ ls, 0 ≤ i ∧ i < m.airways.length) (q0 : 0 ≤ q) (hq : q < ls.length) (l3 : (F a).isSome = true) (hfar : farI m ls to F)
    (q3 : ∀ i : Nat, (i : Int) < q → (otherA (m.airways.getD (ls.getD i 0).toNat default) a).2 = true → ¬(F (otherA (m.airways.getD (ls.getD i 0).toNat default) a).1).getD 0 = (F a).getD 0 - 1)
    (hb : (otherA (m.airways.getD (ls.getD q.toNat 0).toNat default) a).2 = true ∧ (F (otherA (m.airways.getD (ls.getD q.toNat 0).toNat default) a).1).getD 0 = (F a).getD 0 - 1) (h : wxI m ls to f a ws) :
    wxI m ls to f (otherA (m.airways.getD (ls.getD q.toNat 0).toNat default) a).1 (ws ++ [spL m a (ls.getD q.toNat 0).toNat]) := by
  intro n2 ws2 hw
  have hn := way_nx hm hl q0 hq l3 hfar hb.1
  have dv := hfar.ds hm (some_fv hn.1)
  have da := hfar.ds hm (some_fv l3)
  have na := hfar.nn a _ (some_fv l3)
  unfold fv at dv da na
  have e := dsA_fun hw.ds dv
  have g2 := hb.2
  have key : WlkR m ls to (n2 + 1) a (spL m a (ls.getD q.toNat 0).toNat :: ws2) := by
    refine .cons (by omega) (by rw [← hb.1]) (by rw [show n2 + 1 = ((F a).getD 0).toNat by omega]; exact da) (fun i hi hx hd => ?_) hw
    have hnx := way_nx (q := (i : Int)) hm hl (by omega) (by omega) l3 hfar hx
    have dx := hfar.ds hm (some_fv hnx.1)
    unfold fv at dx
    have ex := dsA_fun hd dx
    have h0 := hnx.2
    rw [Int.toNat_natCast] at ex h0
    exact q3 i (by omega) hx (by omega)
  have := h (n2 + 1) _ key
  rw [List.length_append, List.length_singleton, List.append_assoc]
  rw [show ws.length + 1 + n2 = ws.length + (n2 + 1) by omega]
  exact this
theorem wf_all (hm : okMine m = true) (hl : ∀ i ∈ ls, 0 ≤ i ∧ i < m.airways.length) (q0 : 0 ≤ q) (hq : q < ls.length) (l1 : n = ws.length) (l3 : (F a).isSome = true) (l4 : (ws.length : Int) + (F a).getD 0 = (F f).getD 0) (hfar : farI m ls to F) (l6 : (F f).isSome = true) (l7 : wxI m ls to f a ws)
    (q3 : ∀ i : Nat, (i : Int) < q → (otherA (m.airways.getD (ls.getD i 0).toNat default) a).2 = true → ¬(F (otherA (m.airways.getD (ls.getD i 0).toNat default) a).1).getD 0 = (F a).getD 0 - 1)
    (hb : (otherA (m.airways.getD (ls.getD q.toNat 0).toNat default) a).2 = true ∧ (F (otherA (m.airways.getD (ls.getD q.toNat 0).toNat default) a).1).getD 0 = (F a).getD 0 - 1) :
    (inV m (otherA (m.airways.getD (ls.getD q.toNat 0).toNat default) a).1 ∧ (otherA (m.airways.getD (ls.getD q.toNat 0).toNat default) a).1 < 16 ∧ 0 ≤ (otherA (m.airways.getD (ls.getD q.toNat 0).toNat default) a).1) ∧ n + 1 = (ws ++ [spL m a (ls.getD q.toNat 0).toNat]).length ∧ (F (otherA (m.airways.getD (ls.getD q.toNat 0).toNat default) a).1).isSome = true ∧ ((ws ++ [spL m a (ls.getD q.toNat 0).toNat]).length : Int) + (F (otherA (m.airways.getD (ls.getD q.toNat 0).toNat default) a).1).getD 0 = (F f).getD 0 ∧ farI m ls to F ∧ (F f).isSome = true ∧ wxI m ls to f (otherA (m.airways.getD (ls.getD q.toNat 0).toNat default) a).1 (ws ++ [spL m a (ls.getD q.toNat 0).toNat]) := by
  have hst := oth_st q0 hq hl hb.1
  have hr := oth_r (x := a) hm (lsB hl q0 hq)
  have hn := way_nx hm hl q0 hq l3 hfar hb.1
  refine ⟨⟨(stA_V hm hst).2, hr.2, hr.1⟩, by simp [l1], hn.1, ?_, hfar, l6, wf_add hm hl q0 hq l3 hfar q3 hb l7⟩
  rw [hb.2, List.length_append, List.length_singleton]; omega
end
--@fn (impl.Mine).path
theorem pathX (m : GMine) (f to : Int) (ls : List Int) (hm : okMine m = true) (hf : inV m f) (ht : inV m to) (hl : ∀ i ∈ ls, 0 ≤ i ∧ i < m.airways.length) (hll : ls.length ≤ 1000) : FnSem Tryz.prog 78 [.p .any (.agg m.cells), In f, In to, Lx (LI ls)] [] (PthX m ls f to) := by
  have hmp := okMine_p hm
  have hJ := hmp.1
  have hf2 : 0 ≤ f ∧ f < m.junctions := hf
  have ht2 : 0 ≤ to ∧ to < m.junctions := ht
  refine FnSem.old ?_
  refine FnSem.walk (zs := zeroPV Tryz.prog) (by kernel_rfl) Tryz.func78 rfl Tryz.results78 (by kernel_rfl) (by kernel_rfl) (by kernel_rfl) fun hw hh => ?_
  obtain ⟨w0, w1, w2, w3, _⟩ := hw
  first | replace w0 := wf_Mine w0 | skip
  first | replace w1 := wf_I w1 | skip
  first | replace w2 := wf_I w2 | skip
  first | replace w3 := wf_LI w3 | skip
  repeat' first
    | refine And.intro rfl ?_
    | refine GdF.mk (fun h => h) ?_
    | refine And.intro (Nat.succ_ne_zero _) ?_
    | refine And.intro (Nat.le_of_ble_eq_true rfl) ?_
    | refine SeqF.run ?_
    | refine OpH.heap ?_
    | refine GhF.held 8 rfl [(8, [])] ?_
    | refine KeyF.mk i64Law rfl (fun _ => i64Key _ (by first | omega | (have b := oth_r (x := zs'.getD lo' 0) hm (lsB hl j0 (by assumption)); omega) | (have b := oth_r (x := a) hm (lsB hl q0 (by assumption)); omega) | (show -9223372036854775808 ≤ zs'.getD lo' 0 ∧ zs'.getD lo' 0 ≤ 9223372036854775807; have b := bf_b (x := A'.getD k.toNat 0) hm j6 (getD_mem j2N); rw [← hdD j4 (by omega) j2N] at b; omega))) ?_
    | refine EqM.mk _ mpF_0 ?_
    | refine EqM.mk _ mpF_upd ?_
    | refine EqO.mk _ mpF_at ?_
    | refine LoopF.at 3 rfl (LoopF.fixw [1001,1002] [1, 2, 3, 4, 10] (Int × Nat × Nat × List Int × List Int × (Int → Option Int)) (fun (k, lo, n, A, zs, F) => 0 ≤ k ∧ k ≤ A.length ∧ (n : Int) = A.length - k ∧ (zs.drop lo).take n = A.drop k.toNat ∧ lo + n ≤ zs.length ∧ bfI m ls to A k.toNat F) (fun (k, lo, n, A, zs, F) => [(11, .osl 2 lo n)]) (fun (k, lo, n, A, zs, F) => [(1, .mp false i64Is (mpF F)), (2, .row false .flat (eI 0) (zs.map eI))]) (fun (k, lo, n, A, zs, F) => ((m.junctions - k).toNat)) ((0, 0, 1, [to], [to], F0 to)) ?_)
    | (refine LoopB.of (T := Int × Nat × Nat × List Int × List Int × (Int → Option Int)) ?_ ?_; rotate_left; rintro ⟨k, lo, n, A, zs, F⟩ ⟨k0, k1, k2, k3, k4, k5⟩; rotate_left)
    | refine LoopF.at 6 rfl (LoopF.fix [1, 2, 3, 4, 10, 36, 37] (Int × List Int × List Int × Nat × Nat × (Int → Option Int)) (fun (j, A', zs', n', lo', F') => 0 ≤ j ∧ j ≤ ls.length ∧ k.toNat < A'.length ∧ (n' : Int) = A'.length - k ∧ (zs'.drop lo').take n' = A'.drop k.toNat ∧ lo' + n' ≤ zs'.length ∧ bfI m ls to A' k.toNat F' ∧ qkI m ls F' (A'.getD k.toNat 0) j) (fun (j, A', zs', n', lo', F') => [(38, In j), (11, .osl 2 lo' n')]) (fun (j, A', zs', n', lo', F') => [(1, .mp false i64Is (mpF F')), (2, .row false .flat (eI 0) (zs'.map eI))]) (fun (j, A', zs', n', lo', F') => ((ls.length - j).toNat)) ((0, A, zs, n, lo, F)) ?_)
    | (refine LoopB.of (T := Int × List Int × List Int × Nat × Nat × (Int → Option Int)) ?_ ?_; rotate_left; rintro ⟨j, A', zs', n', lo', F'⟩ ⟨j0, j1, j2N, j3, j4, j5, j6, j7⟩; rotate_left)
    | refine ArgF.is (c_impl_Airway_other (m.airways.getD (ls.getD j.toNat 0).toNat default) (zs'.getD lo' 0)) ?_
    | refine ArgQ.is (fun hG => c_impl_Airway_other (m.airways.getD (ls.getD j.toNat 0).toNat default) (zs'.getD lo' 0)) rfl rfl ?_
    | refine BndF.mk (fun _ => by first | (have a := lsB hl j0 (by assumption); have b := bfI_len hm j6; first | omega | (simp only [List.length_map]; omega)) | (have a := lsB hl q0 (by assumption); first | omega | (simp only [List.length_map]; omega))) ?_
    | refine EqL.mk _ (snD j4) ?_
    | refine EqI.mk ((F' (zs'.getD lo' 0)).getD 0 + 1) (fun _ => pth_w hm j2N j3 j4 j6 k0) ?_
    | refine EqI.mk _ (fun _ => by have b := hfar.nn a _ (some_fv l3); unfold fv at b; exact wrapI (by omega) (by omega)) ?_
    | refine BndF.mk (fun _ => by have b := hfar.nn f _ (some_fv l6); have b2 := hfar.nn a _ (some_fv l3); unfold fv at b b2; omega) ?_
    | refine BackF.auto (k + 1, lo' + 1, n' - (0 + 1), A', zs', F') ?_
    | (have hc := hb.2; refine BackF.auto (j + 1, A' ++ [(otherA (m.airways.getD (ls.getD j.toNat 0).toNat default) (zs'.getD lo' 0)).1], A'.drop k.toNat ++ [(otherA (m.airways.getD (ls.getD j.toNat 0).toNat default) (zs'.getD lo' 0)).1], n' + 1, 0, updF F' (otherA (m.airways.getD (ls.getD j.toNat 0).toNat default) (zs'.getD lo' 0)).1 ((F' (zs'.getD lo' 0)).getD 0 + 1)) ?_)
    | refine BackF.auto (j + 1, A', zs', n', lo', F') ?_
    | (have hc := hb.2; refine BackF.auto ((otherA (m.airways.getD (ls.getD q.toNat 0).toNat default) a).1, n + 1, ws ++ [spL m a (ls.getD q.toNat 0).toNat]) ?_)
    | (exfalso; exact no_way hm hl q2 q3 hb l3 hfar)
    | refine LoopF.at 19 rfl (LoopF.fix [2, 3, 4, 10] (Int × Nat × List Int) (fun (a, n, ws) => (inV m a ∧ a < 16 ∧ 0 ≤ a) ∧ n = ws.length ∧ (F a).isSome = true ∧ (ws.length : Int) + (F a).getD 0 = (F f).getD 0 ∧ farI m ls to F ∧ (F f).isSome = true ∧ wxI m ls to f a ws) (fun (a, n, ws) => [(21, In a), (20, .osl 2 0 n)]) (fun (a, n, ws) => [(2, .row true .flat (eI 0) (ws.map eI))]) (fun (a, n, ws) => (((F a).getD 0).toNat)) ((f, 0, [])) ?_)
    | (refine LoopB.of (T := Int × Nat × List Int) ?_ ?_; rotate_left; rintro ⟨a, n, ws⟩ ⟨l0, l1, l3, l4, hfar, l6, l7⟩; rotate_left)
    | refine LoopF.at 21 rfl (LoopF.fix [2, 3, 4, 10, 90, 91] (Int × Unit) (fun (q, _) => 0 ≤ q ∧ q ≤ ls.length ∧ ¬a = to ∧ ∀ i : Nat, (i : Int) < q → (otherA (m.airways.getD (ls.getD i 0).toNat default) a).2 = true → ¬(F (otherA (m.airways.getD (ls.getD i 0).toNat default) a).1).getD 0 = (F a).getD 0 - 1) (fun (q, _) => [(92, In q), (20, .osl 2 0 n), (21, In a)]) (fun (q, _) => []) (fun (q, _) => ((ls.length - q).toNat)) ((0, ())) ?_)
    | (refine LoopB.of (T := Int × Unit) ?_ ?_; rotate_left; rintro ⟨q, _⟩ ⟨q0, q1, q2, q3⟩; rotate_left)
    | refine ArgF.is (c_impl_Airway_other (m.airways.getD (ls.getD q.toNat 0).toNat default) a) ?_
    | refine ArgQ.is (fun hG => c_impl_Airway_other (m.airways.getD (ls.getD q.toNat 0).toNat default) a) rfl rfl ?_
    | refine ArgF.is (c_impl_Mine_step m (ls.getD q.toNat 0) a (lsB hl q0 (by assumption)) (by omega)) ?_
    | refine ArgQ.is (fun hG => c_impl_Mine_step m (ls.getD q.toNat 0) a (lsB hl q0 (by assumption)) (by omega)) rfl rfl ?_
    | refine EqL.mk _ (snT (take_all l1)) ?_
    | refine PthX.no rfl rfl ?_
    | refine PthX.ok n ws rfl rfl ?_ ?_ ?_
    | refine HdF.at 13 rfl 0 [] (And.intro (by decide +kernel) (And.intro rfl ?_))
    | refine HdF.at 12 rfl 1 [3, 4, 8, 9, 10, 11, 12, 13] (And.intro (by decide +kernel) (And.intro rfl ?_))
    | refine HdF.at 11 rfl 2 [] (And.intro (by decide +kernel) (And.intro rfl ?_))
    | refine HdF.at 10 rfl 3 [] (And.intro (by decide +kernel) (And.intro rfl ?_))
    | refine HdF.at 9 rfl 4 [8, 9, 10, 11, 12, 13] (And.intro (by decide +kernel) (And.intro rfl ?_))
    | refine HdF.at 8 rfl 5 [] (And.intro (by decide +kernel) (And.intro rfl ?_))
    | refine HdF.at 7 rfl 6 [] (And.intro (by decide +kernel) (And.intro rfl ?_))
    | refine HdF.at 6 rfl 7 [8, 9, 10, 11, 12, 13] (And.intro (by decide +kernel) (And.intro rfl ?_))
    | refine HdF.goAt 5 rfl ?_
    | refine OrdL.ord ?_
    | refine OrdF.take 9 (by decide +kernel) (And.intro rfl ?_)
    | refine OrdF.take 10 (by decide +kernel) (And.intro rfl ?_)
    | refine OrdF.take 11 (by decide +kernel) (And.intro rfl ?_)
    | refine OrdF.take 12 (by decide +kernel) (And.intro rfl ?_)
    | refine OrdF.take 13 (by decide +kernel) (And.intro rfl ?_)
    | refine OrdF.all [8] (by decide +kernel) ?_
    | refine OrdF.fin (by decide +kernel) ?_
    | refine AllF.one _ ?_
    | refine AllF.cons _ _ ?_ ?_
    | refine OpH.quiet rfl ?_
    | refine OpH.heap ?_
    | refine GhF.go ?_
    | refine GdS.keep ?_
    | refine DrawG.old (DrawF.lex (by decide +kernel) ?_)
    | refine MkF.row ?_
    | refine EqP.mk _ (gm GAirway.cells default rfl) ?_
    | refine EqP.mk _ (gm eI 0 rfl) ?_
    | refine BndF.mk (fun _ => by omega) ?_
    | refine BndF.mk (fun _ => by simp only [lnS]; omega) ?_
    | refine BndF.mk (fun hG => by simp only [forall_const, eq_self, not_true_eq_false, not_false_eq_true, or_false, false_or, or_self, or_true, true_or, and_true, true_and, and_false, false_and, decide_true, decide_false, Bool.not_true, Bool.not_false, decide_eq_true_eq, decide_eq_false_iff_not, ite_and_p, ite_or_p, Bool.decide_eq_true, Bool.and_eq_true, Bool.or_eq_true, Bool.not_eq_true', Bool.not_eq_false', Bool.and_eq_false_imp, Bool.or_eq_false_iff, bne_iff_ne, beq_iff_eq, bne_eq_false_iff_eq, beq_eq_false_iff_ne, gt_iff_lt, ge_iff_le, Int.not_lt, Int.not_le, ne_eq, Bool.true_eq_false, Bool.false_eq_true, reduceCtorEq, eta_Airway, eta_Fan, eta_Mine, bytes_nil] at hG; (try simp only [List.length_map]); omega) ?_
    | refine EqI.mk _ (fun _ => wrapI (by omega) (by omega)) ?_
    | refine EqI.mk _ (fun _ => rfl) ?_
    | refine FlF.keep ?_
    | refine EqN.mk _ (ln GAirway.cells) ?_
    | refine EqN.mk _ (ln eI) ?_
    | refine EqN.mk _ (Nat.zero_add _) ?_
    | refine EqN.mk (_ + 1) rfl ?_
    | refine EqN.mk _ (Int.toNat_natCast _) ?_
    | refine EqN.mk _ rfl ?_
    | refine EqL.mk _ (sn0 GAirway.cells) ?_
    | refine EqL.mk _ (sn GAirway.cells (by first | rfl | assumption | omega | (simp only [lnS] <;> omega))) ?_
    | refine EqL.mk _ (ap0 GAirway.cells) ?_
    | refine EqL.mk _ (ap GAirway.cells (by first | rfl | assumption | omega | (simp only [lnS] <;> omega))) ?_
    | refine EqL.mk _ (tk GAirway.cells (by first | rfl | assumption | omega | (simp only [lnS] <;> omega))) ?_
    | refine EqL.mk _ (dt GAirway.cells) ?_
    | refine EqL.mk _ (sn0 eI) ?_
    | refine EqL.mk _ (sn eI (by first | rfl | assumption | omega | (simp only [lnS] <;> omega))) ?_
    | refine EqL.mk _ (ap0 eI) ?_
    | refine EqL.mk _ (ap eI (by first | rfl | assumption | omega | (simp only [lnS] <;> omega))) ?_
    | refine EqL.mk _ (tk eI (by first | rfl | assumption | omega | (simp only [lnS] <;> omega))) ?_
    | refine EqL.mk _ (dt eI) ?_
    | refine EqL.mk [] rfl ?_
    | refine EqL.mk [_] rfl ?_
    | refine EqL.mk _ rfl ?_
    | refine ArgF.is (c_impl_Airway_other ⟨_, _, _, _, _, _, _⟩ _) ?_
    | refine ArgQ.is (fun hG => c_impl_Airway_other ⟨_, _, _, _, _, _, _⟩ _) rfl rfl ?_
    | refine ArgF.is (c_impl_Mine_step ⟨_, _⟩ _ _ (by first | assumption | omega) (by first | assumption | omega)) ?_
    | refine ArgQ.is (fun hG => c_impl_Mine_step ⟨_, _⟩ _ _ (by first | assumption | omega) (by first | assumption | omega)) rfl rfl ?_
    | refine ArgQ.is (fun hG => c_impl_Mine_step ⟨_, _⟩ _ _ (by simp only [forall_const, eq_self, not_true_eq_false, not_false_eq_true, or_false, false_or, or_self, or_true, true_or, and_true, true_and, and_false, false_and, decide_true, decide_false, Bool.not_true, Bool.not_false, decide_eq_true_eq, decide_eq_false_iff_not, ite_and_p, ite_or_p, Bool.decide_eq_true, Bool.and_eq_true, Bool.or_eq_true, Bool.not_eq_true', Bool.not_eq_false', Bool.and_eq_false_imp, Bool.or_eq_false_iff, bne_iff_ne, beq_iff_eq, bne_eq_false_iff_eq, beq_eq_false_iff_ne, gt_iff_lt, ge_iff_le, Int.not_lt, Int.not_le, ne_eq, Bool.true_eq_false, Bool.false_eq_true, reduceCtorEq, eta_Airway, eta_Fan, eta_Mine, bytes_nil] at hG; omega) (by simp only [forall_const, eq_self, not_true_eq_false, not_false_eq_true, or_false, false_or, or_self, or_true, true_or, and_true, true_and, and_false, false_and, decide_true, decide_false, Bool.not_true, Bool.not_false, decide_eq_true_eq, decide_eq_false_iff_not, ite_and_p, ite_or_p, Bool.decide_eq_true, Bool.and_eq_true, Bool.or_eq_true, Bool.not_eq_true', Bool.not_eq_false', Bool.and_eq_false_imp, Bool.or_eq_false_iff, bne_iff_ne, beq_iff_eq, bne_eq_false_iff_eq, beq_eq_false_iff_ne, gt_iff_lt, ge_iff_le, Int.not_lt, Int.not_le, ne_eq, Bool.true_eq_false, Bool.false_eq_true, reduceCtorEq, eta_Airway, eta_Fan, eta_Mine, bytes_nil] at hG; omega)) rfl rfl ?_
    | refine CallF.mk (CallW.is [] true rfl ?_)
    | refine CallG.mk ?_
    | (refine CondF.mk (fun hb => ?_) (fun hb => ?_) <;> try simp only [forall_const, eq_self, not_true_eq_false, not_false_eq_true, or_false, false_or, or_self, or_true, true_or, and_true, true_and, and_false, false_and, decide_true, decide_false, Bool.not_true, Bool.not_false, decide_eq_true_eq, decide_eq_false_iff_not, ite_and_p, ite_or_p, Bool.decide_eq_true, Bool.and_eq_true, Bool.or_eq_true, Bool.not_eq_true', Bool.not_eq_false', Bool.and_eq_false_imp, Bool.or_eq_false_iff, bne_iff_ne, beq_iff_eq, bne_eq_false_iff_eq, beq_eq_false_iff_ne, gt_iff_lt, ge_iff_le, Int.not_lt, Int.not_le, ne_eq, Bool.true_eq_false, Bool.false_eq_true, reduceCtorEq, eta_Airway, eta_Fan, eta_Mine] at hb)
    | apply BackF.auto6
    | apply BackF.auto3
    | apply BackF.auto2
    | refine BackB.mk ?_ ?_
    | refine RetF.auto (And.intro rfl ?_)
    | exact Is.mk rfl rfl
    | refine Is.mk ?_ rfl
    | refine Is.mk rfl ?_
    | refine Is.mk ?_ ?_
  all_goals try dsimp only
  all_goals first
    | omega
    | exact ⟨by omega, by simp, by simp, rfl, by simp, bfI_0 ht⟩
    | exact ⟨by omega, by omega, by omega, k2, k3, k4, k5, qk_0⟩
    | exact pth_add hm hl j0 (by assumption) j2N j3 j4 j5 j6 j7 hb k0
    | exact ⟨by omega, by omega, j2N, j3, j4, j5, j6, qk_keep j7 j0 (by rw [← hdD j4 (by omega) j2N]; exact hb)⟩
    | (refine ⟨by omega, by omega, by omega, ?_, by omega, ?_⟩
       · rw [show (k + 1).toNat = k.toNat + 1 by omega]; exact popD j4
       · rw [show (k + 1).toNat = k.toNat + 1 by omega]; exact bfI_s j6 j2N (qk_end j7 hb j6.dm))
    | (have b := bfI_len hm j6; omega)
    | exact (bfI_end hm k5 (by omega)).no hm (no_some hb)
    | exact ⟨⟨hf, by omega, by omega⟩, rfl, hb, by simp, bfI_end hm k5 (by omega), hb, wxI_0⟩
    | exact ⟨by omega, by omega, hb, fun i hi => absurd hi (by omega)⟩
    | exact wf_all hm hl q0 (by assumption) l1 l3 l4 hfar l6 l7 q3 hb
    | exact way_less hm hl q0 (by assumption) l3 hfar hb
    | exact ⟨by omega, by omega, q2, way_keep q0 q3 hb⟩
    | exact wxI_end l7 hb
    | (have b2 := hfar.nn f _ (some_fv l6); have b3 := hfar.p1; rw [hb, b3] at l4; unfold fv at b2; simp only [Option.getD_some] at l4; omega)
    | skip
end Go.Proofs.YtdhkpmaanegjkaaGreatDoor

set_option linter.unusedVariables false
set_option linter.unusedSimpArgs false
namespace Go.Proofs.YtdhkpmaanegjkaaGreatDoor
open Go.Av
attribute [local irreducible] Go.IntKind.wrap okMine treeC
set_option maxRecDepth 20000
set_option maxHeartbeats 8000000
inductive MshR (m : GMine) (T : List Int) : Nat → List (List Int) → Prop
  | nil : MshR m T 0 []
  | tree {i : Nat} {ss : List (List Int)} (h : MshR m T i ss) (hi : (i : Int) ∈ T) : MshR m T (i + 1) ss
  | mesh {i n : Nat} {ss : List (List Int)} {ws : List Int} (h : MshR m T i ss) (hi : (i : Int) ∉ T) (hw : WlkR m T (m.airways.getD i default).from_ n (m.airways.getD i default).to ws) : MshR m T (i + 1) (ss ++ [((i : Int) + 1) :: ws])
section
variable {m : GMine} {T : List Int}
theorem MshR.fun_ {i : Nat} {ss : List (List Int)} (h : MshR m T i ss) : ∀ {ss' : List (List Int)}, MshR m T i ss' → ss = ss' := by
  induction h with
  | nil => intro ss' h'; cases h'; rfl
  | tree h hi ih =>
    intro ss' h'
    cases h' with
    | tree h2 _ => exact ih h2
    | mesh h2 hj _ => exact absurd hi hj
  | mesh h hi hw ih =>
    intro ss' h'
    cases h' with
    | tree h2 hj => exact absurd hj hi
    | mesh h2 hj hw2 =>
      have e := dsA_fun hw.ds hw2.ds
      subst e
      rw [ih h2, hw.fun_ hw2]
theorem MshR.inn {i : Int} {ss : List (List Int)} (h : MshR m T i.toNat ss) (h0 : 0 ≤ i) (hi : i ∈ T) : MshR m T (i + 1).toNat ss := by
  rw [show (i + 1).toNat = i.toNat + 1 by omega]
  exact .tree h (by rw [show ((i.toNat : Nat) : Int) = i by omega]; exact hi)
theorem MshR.out {i : Int} {n : Nat} {ss : List (List Int)} {ws : List Int} (h : MshR m T i.toNat ss) (h0 : 0 ≤ i) (hi : i ∉ T) (hw : WlkR m T (m.airways.getD i.toNat default).from_ n (m.airways.getD i.toNat default).to ws) : MshR m T (i + 1).toNat (ss ++ [(i + 1) :: ws]) := by
  rw [show (i + 1).toNat = i.toNat + 1 by omega]
  have := MshR.mesh h (by rw [show ((i.toNat : Nat) : Int) = i by omega]; exact hi) hw
  rwa [show ((i.toNat : Nat) : Int) = i by omega] at this
theorem ds_16 (hm : okMine m = true) {n : Nat} {u v : Int} (hv : inV m v) (h : dsA m T n u v) : n ≤ 16 := by
  have hJ := (okMine_p hm).1
  have hv2 : 0 ≤ v ∧ v < m.junctions := hv
  have key : ∀ (n : Nat) (u : Int), inV m u → dsA m T n u v → ∃ A : List Int, A.length = n + 1 ∧ A.Nodup ∧ ∀ x ∈ A, inV m x ∧ ∃ k, k ≤ n ∧ dsA m T k x v := by
    intro n
    induction n with
    | zero => intro u hu h; exact ⟨[u], rfl, by simp, fun x hx => by rw [List.mem_singleton.1 hx]; exact ⟨hu, 0, Nat.le_refl 0, h⟩⟩
    | succ n ih =>
      intro u hu h
      obtain ⟨x, hx, hn⟩ := h.1
      have hd : dsA m T n x v := ⟨hn, fun k hk => by have := h.2 (k + 1) ⟨x, hx, hk⟩; omega⟩
      obtain ⟨A, b1, b2, b3⟩ := ih x (stA_V hm hx).2 hd
      refine ⟨u :: A, by simp [b1], List.nodup_cons.2 ⟨fun hu => ?_, b2⟩, fun y hy => ?_⟩
      · obtain ⟨_, k, k1, k2⟩ := b3 u hu
        have := dsA_fun h k2; omega
      · rcases List.mem_cons.1 hy with rfl | hy
        · exact ⟨hu, n + 1, Nat.le_refl _, h⟩
        · obtain ⟨c1, k, k1, k2⟩ := b3 y hy
          exact ⟨c1, k, by omega, k2⟩
  cases n with
  | zero => omega
  | succ n =>
    obtain ⟨x, hx, _⟩ := h.1
    obtain ⟨A, b1, b2, b3⟩ := key (n + 1) u (stA_V hm hx).1 h
    have := pigW m.junctions.toNat A b2 (fun x hx => by have := (b3 x hx).1; unfold inV at this; omega)
    omega
theorem MshR.I (hm : okMine m = true) (hT : ∀ i ∈ T, 0 ≤ i ∧ i < m.airways.length) {i : Nat} {ss : List (List Int)} (h : MshR m T i ss) : i ≤ m.airways.length → mshI m ss i := by
  induction h with
  | nil => intro _; exact mshI_0
  | tree h hi ih => intro hl; exact mshI_k (ih (by omega))
  | @mesh i n ss ws h hi hw ih =>
    intro hl
    obtain ⟨es, e1, e2, e3⟩ := hw.way hT
    have q := ((okMine_p hm).2.2 i (by omega)).2
    have := msh_of (m := m) (T := T) hm (i := i) (by omega) (by omega) (es := es) (ws := ws) (n := n) e1 (by omega) (by omega) hw.ds (ds_16 hm q.1 hw.ds)
    exact mshI_a (ih (by omega)) this rfl
end
noncomputable def mshC (m : GMine) : List (List Int) :=
  haveI := Classical.propDecidable (∃ ss, MshR m (treeC m m.airways.length) m.airways.length ss)
  if h : ∃ ss, MshR m (treeC m m.airways.length) m.airways.length ss then h.choose else []
theorem mshC_of {m : GMine} {ss : List (List Int)} (h : MshR m (treeC m m.airways.length) m.airways.length ss) : ss = mshC m ∧ MshR m (treeC m m.airways.length) m.airways.length (mshC m) := by
  have hx : ∃ ss, MshR m (treeC m m.airways.length) m.airways.length ss := ⟨ss, h⟩
  have e : mshC m = hx.choose := dif_pos hx
  have k := hx.choose_spec
  rw [e]
  exact ⟨h.fun_ k, k⟩
end Go.Proofs.YtdhkpmaanegjkaaGreatDoor

set_option linter.unusedVariables false
set_option linter.unusedSimpArgs false
namespace Go.Proofs.YtdhkpmaanegjkaaGreatDoor
open Go.Av
attribute [local irreducible] Go.IntKind.wrap okMine treeC mshC
set_option maxRecDepth 20000
set_option maxHeartbeats 40000000
section
variable {m : GMine} {T : List Int} {i : Int}
theorem tT_rg (h : T = treeC m m.airways.length) : ∀ x ∈ T, 0 ≤ x ∧ x < m.airways.length := fun x hx => by
  have := (treeC_I (m := m) m.airways.length).rg x (by rw [← h]; exact hx); omega
theorem tT_len (h : T = treeC m m.airways.length) : (T.length : Int) ≤ m.airways.length := by
  have := trI_len (treeC_I (m := m) m.airways.length) (by omega); rw [← h] at this; omega
theorem tT_cn (hm : okMine m = true) (h : T = treeC m m.airways.length) (h0 : 0 ≤ i) (hi : i < m.airways.length) (hn : i ∉ T) : cnA m T (m.airways.getD i.toNat default).to (m.airways.getD i.toNat default).from_ := by
  have := (treeC_I (m := m) m.airways.length).cn i h0 hi (by rw [← h]; exact hn)
  rw [← h] at this
  exact cnA_sym hm this
theorem mshX_end {ss : List (List Int)} (hT : T = treeC m m.airways.length) (h : MshR m T i.toNat ss) (hi : i = m.airways.length) : ss = mshC m := by
  rw [hT, hi, Int.toNat_natCast] at h
  exact (mshC_of h).1
end
--@fn (impl.Mine).meshes
theorem meshX (m : GMine) (hm : okMine m = true) : FnSem Tryz.prog 35 [.p .any (.agg m.cells)] [] (Is [.p .fresh (LLI (mshC m))] []) := by
  have hmp := okMine_p hm
  refine FnSem.walk (zs := zeroPV Tryz.prog) (by kernel_rfl) Tryz.func35 rfl Tryz.results35 (by kernel_rfl) (by kernel_rfl) (by kernel_rfl) fun hw hh => ?_
  obtain ⟨w0, _⟩ := hw
  first | replace w0 := wf_Mine w0 | skip
  have hwl := w0.2.1
  repeat' first
    | refine And.intro rfl ?_
    | refine GdF.mk (fun h => h) ?_
    | refine And.intro (Nat.succ_ne_zero _) ?_
    | refine And.intro (Nat.le_of_ble_eq_true rfl) ?_
    | refine SeqF.run ?_
    | refine GhF.at 10 rfl [.fz 2 4] ?_
    | (refine ArgF.ret (treeX m hm) ?_; rintro ⟨t, T⟩ ⟨t1, t2⟩; dsimp only at t1 t2)
    | refine EqL.mk _ (tkT (take_all t1)) ?_
    | (refine ArgF.mk _ (pathX m (m.airways.getD i.toNat default).to (m.airways.getD i.toNat default).from_ T hm (hmp.2.2 i.toNat (by omega)).2.2 (hmp.2.2 i.toNat (by omega)).2.1 (tT_rg t2) (by have := tT_len t2; omega)) (fun rs ho hR _ => ?_); rcases hR with ⟨rfl, rfl, hno⟩ | ⟨k, ws, rfl, rfl, p3, p5, p7⟩)
    | (exfalso; exact hno (tT_cn hm t2 i0 (by assumption) (by assumption)))
    | refine MkF.rows ?_
    | refine EqL.mk (List.map eI ((i + 1) :: ws)) rfl ?_
    | refine EqL.mk (List.map eI ((i + 1) :: ws)) (capT (by simp; omega)) ?_
    | refine BndF.mk (fun _ => by simp; omega) ?_
    | refine BndF.mk (fun _ => by have := i4; omega) ?_
    | refine EqR.mk (List.map eR [(i + 1) :: ws]) rfl ?_
    | refine EqR.mk [] rfl ?_
    | refine EqR.mk _ apR ?_
    | refine EqR.mk (List.map eR [(i + 1) :: ws]) (by simp) ?_
    | refine EqL.mk (List.map eLI (mshC m)) (by rw [← mshX_end t2 i3 (by omega)]; exact tkRows i2) ?_
    | refine LoopF.at 4 rfl (LoopF.fix [1, 3, 12, 13] (Int × Nat × List (List Int)) (fun (i, n, ss) => 0 ≤ i ∧ i ≤ m.airways.length ∧ n = ss.length ∧ MshR m T i.toNat ss ∧ (n : Int) ≤ i) (fun (i, n, ss) => [(14, In i), (4, .osl 2 0 n)]) (fun (i, n, ss) => [(2, .rows true .flat (eI 0) (ss.map eR) none)]) (fun (i, n, ss) => ((m.airways.length - i).toNat)) ((0, 0, [])) ?_)
    | (refine LoopB.of (T := Int × Nat × List (List Int)) ?_ ?_; rotate_left; rintro ⟨i, n, ss⟩ ⟨i0, i1, i2, i3, i4⟩; rotate_left)
    | refine GhF.go ?_
    | refine BndF.mk (fun _ => ⟨rfl, by first | rfl | omega | (simp only [List.length_map, List.length_cons, List.length_nil, List.length_append, List.length_set, List.length_replicate]; first | done | omega)⟩) ?_
    | refine MkF.row ?_
    | refine EqP.mk _ (gm GAirway.cells default rfl) ?_
    | refine EqP.mk _ (gm eI 0 rfl) ?_
    | refine EqP.mk _ (gmb eLI [] (by omega)) ?_
    | refine BndF.mk (fun _ => by omega) ?_
    | refine BndF.mk (fun _ => by simp only [lnS]; omega) ?_
    | refine EqI.mk _ (fun _ => wrapI (by omega) (by omega)) ?_
    | refine EqI.mk _ (fun _ => rfl) ?_
    | refine FlF.keep ?_
    | refine EqN.mk _ (ln GAirway.cells) ?_
    | refine EqN.mk _ (ln eI) ?_
    | refine EqN.mk _ (ln eLI) ?_
    | refine EqN.mk _ (Nat.zero_add _) ?_
    | refine EqN.mk (_ + 1) rfl ?_
    | refine EqN.mk _ (Int.toNat_natCast _) ?_
    | refine EqN.mk _ rfl ?_
    | refine EqL.mk _ (sn0 GAirway.cells) ?_
    | refine EqL.mk _ (sn GAirway.cells (by first | rfl | assumption | omega | (simp only [lnS] <;> omega))) ?_
    | refine EqL.mk _ (ap0 GAirway.cells) ?_
    | refine EqL.mk _ (ap GAirway.cells (by first | rfl | assumption | omega | (simp only [lnS] <;> omega))) ?_
    | refine EqL.mk _ (tk GAirway.cells (by first | rfl | assumption | omega | (simp only [lnS] <;> omega))) ?_
    | refine EqL.mk _ (st GAirway.cells) ?_
    | refine EqL.mk _ (dt GAirway.cells) ?_
    | refine EqL.mk _ (sn0 eI) ?_
    | refine EqL.mk _ (sn eI (by first | rfl | assumption | omega | (simp only [lnS] <;> omega))) ?_
    | refine EqL.mk _ (ap0 eI) ?_
    | refine EqL.mk _ (ap eI (by first | rfl | assumption | omega | (simp only [lnS] <;> omega))) ?_
    | refine EqL.mk _ (tk eI (by first | rfl | assumption | omega | (simp only [lnS] <;> omega))) ?_
    | refine EqL.mk _ (st eI) ?_
    | refine EqL.mk _ (dt eI) ?_
    | refine EqL.mk _ (sn0 eLI) ?_
    | refine EqL.mk _ (sn eLI (by first | rfl | assumption | omega | (simp only [lnS] <;> omega))) ?_
    | refine EqL.mk _ (ap0 eLI) ?_
    | refine EqL.mk _ (ap eLI (by first | rfl | assumption | omega | (simp only [lnS] <;> omega))) ?_
    | refine EqL.mk _ (tk eLI (by first | rfl | assumption | omega | (simp only [lnS] <;> omega))) ?_
    | refine EqL.mk _ (st eLI) ?_
    | refine EqL.mk _ (dt eLI) ?_
    | refine EqL.mk [] rfl ?_
    | refine EqL.mk [_] rfl ?_
    | refine EqL.mk _ rfl ?_
    | refine ArgF.is (c_impl_Mine_tree ⟨_, _⟩ (by first | assumption | omega)) ?_
    | refine ArgQ.is (fun hG => c_impl_Mine_tree ⟨_, _⟩ (by first | assumption | omega)) rfl rfl ?_
    | refine ArgF.is (c_slices_Contains_int64_int64 ..) ?_
    | refine ArgQ.is (fun hG => c_slices_Contains_int64_int64 ..) rfl rfl ?_
    | refine ArgF.is (c_impl_Mine_path ⟨_, _⟩ _ _ _ (by first | assumption | omega) (by first | assumption | omega) (by first | assumption | omega) (by first | assumption | omega) (by first | assumption | omega)) ?_
    | refine ArgQ.is (fun hG => c_impl_Mine_path ⟨_, _⟩ _ _ _ (by first | assumption | omega) (by first | assumption | omega) (by first | assumption | omega) (by first | assumption | omega) (by first | assumption | omega)) rfl rfl ?_
    | refine CallF.mk (CallW.is [] true rfl ?_)
    | refine CallG.mk ?_
    | (refine CondF.mk (fun hb => ?_) (fun hb => ?_) <;> try simp only [forall_const, eq_self, not_true_eq_false, not_false_eq_true, or_false, false_or, or_self, or_true, true_or, and_true, true_and, and_false, false_and, decide_true, decide_false, Bool.not_true, Bool.not_false, decide_eq_true_eq, decide_eq_false_iff_not, ite_and_p, ite_or_p, Bool.decide_eq_true, Bool.and_eq_true, Bool.or_eq_true, Bool.not_eq_true', Bool.not_eq_false', Bool.and_eq_false_imp, Bool.or_eq_false_iff, bne_iff_ne, beq_iff_eq, bne_eq_false_iff_eq, beq_eq_false_iff_ne, gt_iff_lt, ge_iff_le, Int.not_lt, Int.not_le, ne_eq, Bool.true_eq_false, Bool.false_eq_true, reduceCtorEq, eta_Airway, eta_Fan, eta_Mine] at hb)
    | apply BackF.auto3
    | refine BackB.mk ?_ ?_
    | refine RetF.auto (And.intro rfl ?_)
    | exact Is.mk rfl rfl
    | refine Is.mk ?_ rfl
    | refine Is.mk rfl ?_
    | refine Is.mk ?_ ?_
  all_goals try dsimp only
  all_goals try simp only [Bo, I, OB.row.injEq, AV.osl.injEq, eI_same,  List.cons.injEq, AV.p.injEq, PV.c.injEq, Value.int.injEq, Value.bool.injEq, and_true, true_and, ite_and_p, ite_or_p, Bool.decide_eq_true, eta_Airway, eta_Fan, eta_Mine]
  all_goals try dsimp only
  all_goals first
    | omega
    | exact ⟨by omega, by omega, rfl, .nil, by omega⟩
    | exact ⟨by omega, by omega, i2, i3.inn i0 (by assumption), by omega⟩
    | exact ⟨by omega, by omega, by simp [i2], i3.out i0 (by assumption) p5, by omega⟩
    | skip
end Go.Proofs.YtdhkpmaanegjkaaGreatDoor
