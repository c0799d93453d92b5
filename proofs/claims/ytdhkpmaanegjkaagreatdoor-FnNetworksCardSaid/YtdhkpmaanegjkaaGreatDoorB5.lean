/- Contracts of functions of the program, and what they compute. Conditions: those that each theorem states. -/
import Derived.Test.YtdhkpmaanegjkaaGreatDoorProg
import Derived.Test.YtdhkpmaanegjkaaGreatDoorV4
import Derived.Test.YtdhkpmaanegjkaaGreatDoorL3
set_option linter.unusedVariables false
set_option linter.unusedSimpArgs false
namespace Go.Proofs.YtdhkpmaanegjkaaGreatDoor
open Go.Av
attribute [local irreducible] Go.IntKind.wrap okMine
set_option maxRecDepth 20000
set_option maxHeartbeats 8000000
section
variable {m : GMine} {ls : List Int}
theorem cnA_refl {u : Int} : cnA m ls u u := ⟨0, rfl⟩
theorem cnA_tr {u x v : Int} (h : cnA m ls u x) (h2 : cnA m ls x v) : cnA m ls u v := by
  obtain ⟨a, ha⟩ := h
  obtain ⟨b, hb⟩ := h2
  exact ⟨a + b, wkA_add a b u x v ha hb⟩
theorem cnA_mono {bs : List Int} (h : ∀ i ∈ ls, i ∈ bs) {u v : Int} (hc : cnA m ls u v) : cnA m bs u v := by
  obtain ⟨n, hn⟩ := hc
  exact ⟨n, wkA_mono h n u v hn⟩
theorem cnA_nil {u v : Int} (h : cnA m [] u v) : u = v := by
  obtain ⟨n, hn⟩ := h
  cases n with
  | zero => exact hn
  | succ n => obtain ⟨x, ⟨k, hk, _⟩, _⟩ := hn; cases hk
theorem cnA_snoc (hm : okMine m = true) {i : Int} (hi : 0 ≤ i ∧ i < m.airways.length) {u v : Int} :
    cnA m (ls ++ [i]) u v ↔ cnA m ls u v ∨ ((cnA m ls u (m.airways.getD i.toNat default).from_ ∨ cnA m ls u (m.airways.getD i.toNat default).to) ∧ (cnA m ls v (m.airways.getD i.toNat default).from_ ∨ cnA m ls v (m.airways.getD i.toNat default).to)) := by
  constructor
  · rintro ⟨n, hn⟩
    induction n generalizing u with
    | zero => left; rw [show u = v from hn]; exact cnA_refl
    | succ n ih =>
      obtain ⟨x, ⟨k, hk, hr, ho⟩, hn⟩ := hn
      have q := ih hn
      rcases List.mem_append.1 hk with hk | hk
      · have c : cnA m ls u x := ⟨1, wkA_one ⟨k, hk, hr, ho⟩⟩
        rcases q with q | ⟨q1, q2⟩
        · exact .inl (cnA_tr c q)
        · exact .inr ⟨q1.imp (cnA_tr c) (cnA_tr c), q2⟩
      · have e : k = i := by simpa using hk
        subst e
        have ab : (cnA m ls u (m.airways.getD k.toNat default).from_ ∨ cnA m ls u (m.airways.getD k.toNat default).to) ∧ (cnA m ls x (m.airways.getD k.toNat default).from_ ∨ cnA m ls x (m.airways.getD k.toNat default).to) := by
          rcases oth_p hm hr ho with ⟨e1, e2⟩ | ⟨e1, e2⟩
          · exact ⟨.inl (by rw [e1]; exact cnA_refl), .inr (by rw [e2]; exact cnA_refl)⟩
          · exact ⟨.inr (by rw [e1]; exact cnA_refl), .inl (by rw [e2]; exact cnA_refl)⟩
        rcases q with q | ⟨q1, q2⟩
        · exact .inr ⟨ab.1, ab.2.imp (cnA_tr (cnA_sym hm q)) (cnA_tr (cnA_sym hm q))⟩
        · exact .inr ⟨ab.1, q2⟩
  · have mo : ∀ {u v : Int}, cnA m ls u v → cnA m (ls ++ [i]) u v := fun h => cnA_mono (fun j hj => List.mem_append_left _ hj) h
    rintro (h | ⟨h1, h2⟩)
    · exact mo h
    · have e : cnA m (ls ++ [i]) (m.airways.getD i.toNat default).from_ (m.airways.getD i.toNat default).to := ⟨1, wkA_one ⟨i, by simp, hi, (oth_f hm hi).1⟩⟩
      have es := cnA_sym hm e
      have p : cnA m (ls ++ [i]) u (m.airways.getD i.toNat default).from_ := h1.elim mo fun h => cnA_tr (mo h) es
      have q : cnA m (ls ++ [i]) v (m.airways.getD i.toNat default).from_ := h2.elim mo fun h => cnA_tr (mo h) es
      exact cnA_tr p (cnA_sym hm q)
end
section
variable {m : GMine} {ls o o' : List Int} {h l j : Int}
end
noncomputable def treeC (m : GMine) : Nat → List Int
  | 0 => []
  | i + 1 => haveI := Classical.propDecidable (cnA m (treeC m i) (m.airways.getD i default).from_ (m.airways.getD i default).to)
    if cnA m (treeC m i) (m.airways.getD i default).from_ (m.airways.getD i default).to then treeC m i else treeC m i ++ [(i : Int)]
section
variable {m : GMine} {i : Int}
theorem treeC_k (h0 : 0 ≤ i) (h : cnA m (treeC m i.toNat) (m.airways.getD i.toNat default).from_ (m.airways.getD i.toNat default).to) : treeC m (i + 1).toNat = treeC m i.toNat := by
  rw [show (i + 1).toNat = i.toNat + 1 by omega]
  rw [treeC, if_pos h]
theorem treeC_a (h0 : 0 ≤ i) (h : ¬cnA m (treeC m i.toNat) (m.airways.getD i.toNat default).from_ (m.airways.getD i.toNat default).to) : treeC m (i + 1).toNat = treeC m i.toNat ++ [i] := by
  rw [show (i + 1).toNat = i.toNat + 1 by omega]
  rw [treeC, if_neg h, show ((i.toNat : Nat) : Int) = i by omega]
theorem treeC_I : ∀ n : Nat, trI m (treeC m n) n
  | 0 => trI_0
  | n + 1 => by
    have h := treeC_I n
    by_cases c : cnA m (treeC m n) (m.airways.getD n default).from_ (m.airways.getD n default).to
    · have e := treeC_k (m := m) (i := n) (by omega) c
      rw [show ((n : Int) + 1).toNat = n + 1 by omega] at e
      rw [e]; exact trI_keep h (by omega) c
    · have e := treeC_a (m := m) (i := n) (by omega) c
      rw [show ((n : Int) + 1).toNat = n + 1 by omega] at e
      rw [e]; exact trI_add h (by omega)
end
end Go.Proofs.YtdhkpmaanegjkaaGreatDoor

set_option linter.unusedVariables false
set_option linter.unusedSimpArgs false
namespace Go.Proofs.YtdhkpmaanegjkaaGreatDoor
open Go.Av
attribute [local irreducible] Go.IntKind.wrap okMine treeC
set_option maxRecDepth 20000
set_option maxHeartbeats 40000000
end Go.Proofs.YtdhkpmaanegjkaaGreatDoor

set_option linter.unusedVariables false
set_option linter.unusedSimpArgs false
namespace Go.Proofs.YtdhkpmaanegjkaaGreatDoor
open Go.Av
attribute [local irreducible] Go.IntKind.wrap okMine treeC
set_option maxRecDepth 20000
set_option maxHeartbeats 40000000
section
variable {m : GMine} {T : List Int} {i : Int}
theorem treeC_0 : treeC m (Int.toNat 0) = [] := by rw [show Int.toNat 0 = 0 from rfl, treeC]
theorem tree_lt (h : T = treeC m i.toNat) (h0 : 0 ≤ i) (hi : i ≤ m.airways.length) : ∀ x ∈ T, 0 ≤ x ∧ x < m.airways.length := fun x hx => by
  have := (treeC_I (m := m) i.toNat).rg x (by rw [← h]; exact hx); omega
theorem tree_len (h : T = treeC m i.toNat) (h0 : 0 ≤ i) : (T.length : Int) ≤ i := by
  have := trI_len (treeC_I (m := m) i.toNat) (by omega); rw [← h] at this; omega
end
--@fn (impl.Mine).tree
theorem treeX (m : GMine) (hm : okMine m = true) : FnSem Tryz.prog 34 [.p .any (.agg m.cells)] [] (RetV (fun v : Nat × List Int => [.osl 0 0 v.1]) (fun v => [.row false .flat (eI 0) (v.2.map eI)]) (fun v => v.1 = v.2.length ∧ v.2 = treeC m m.airways.length)) := by
  have hmp := okMine_p hm
  refine FnSem.old ?_
  refine FnSem.walk (zs := zeroPV Tryz.prog) (by kernel_rfl) Tryz.func34 rfl Tryz.results34 (by kernel_rfl) (by kernel_rfl) (by kernel_rfl) fun hw hh => ?_
  obtain ⟨w0, _⟩ := hw
  first | replace w0 := wf_Mine w0 | skip
  have hwl := w0.2.1
  repeat' first
    | refine And.intro rfl ?_
    | refine GdF.mk (fun h => h) ?_
    | refine And.intro (Nat.succ_ne_zero _) ?_
    | refine And.intro (Nat.le_of_ble_eq_true rfl) ?_
    | refine SeqF.run ?_
    | refine GhF.at 2 rfl [.old 2] ?_
    | refine OpH.heap ?_
    | refine GhF.held 5 rfl [(4, [1]), (7, [])] ?_
    | refine BndF.mk (fun _ => by have := tree_len i3 i0; omega) ?_
    | (refine ArgF.ret (c_impl_Mine_reached m (m.airways.getD i.toNat default).from_ T hm ((hmp.2.2 i.toNat (by omega)).2.1) (tree_lt i3 i0 (by omega)) (by have := tree_len i3 i0; omega)) ?_; rintro ⟨k, ys⟩ ⟨q1, q2, q3⟩; dsimp only at q1 q2 q3)
    | refine LoopF.at 3 rfl (LoopF.fix [1, 7, 8] (Int × Nat × List Int) (fun (i, n, T) => 0 ≤ i ∧ i ≤ m.airways.length ∧ n = T.length ∧ T = treeC m i.toNat) (fun (i, n, T) => [(9, In i), (3, .osl 1 0 n)]) (fun (i, n, T) => [(1, .row false .flat (eI 0) (T.map eI))]) (fun (i, n, T) => ((m.airways.length - i).toNat)) ((0, 0, [])) ?_)
    | (refine LoopB.of (T := Int × Nat × List Int) ?_ ?_; rotate_left; rintro ⟨i, n, T⟩ ⟨i0, i1, i2, i3⟩; rotate_left)
    | refine EqL.mk _ (tkT (take_all i2)) ?_
    | refine EqL.mk _ (snT (take_all i2)) ?_
    | refine EqL.mk _ (tkT (take_all q1)) ?_
    | refine RetV.mk (α := Nat × List Int) (_, _) rfl rfl ?_
    | refine HdF.at 8 rfl 0 [4, 7, 8] (And.intro (by decide +kernel) (And.intro rfl ?_))
    | refine HdF.at 7 rfl 1 [] (And.intro (by decide +kernel) (And.intro rfl ?_))
    | refine HdF.at 6 rfl 2 [4, 7, 8] (And.intro (by decide +kernel) (And.intro rfl ?_))
    | refine HdF.at 5 rfl 3 [] (And.intro (by decide +kernel) (And.intro rfl ?_))
    | refine HdF.at 4 rfl 5 [] (And.intro (by decide +kernel) (And.intro rfl ?_))
    | refine HdF.at 3 rfl 6 [7, 8] (And.intro (by decide +kernel) (And.intro rfl ?_))
    | refine HdF.goAt 2 rfl ?_
    | refine OrdL.ord ?_
    | refine OrdF.take 8 (by decide +kernel) (And.intro rfl ?_)
    | refine OrdF.all [7] (by decide +kernel) ?_
    | refine OrdF.all [4] (by decide +kernel) ?_
    | refine OrdF.fin (by decide +kernel) ?_
    | refine AllF.one _ ?_
    | refine AllF.cons _ _ ?_ ?_
    | refine OpH.quiet rfl ?_
    | refine OpH.heap ?_
    | refine GhF.go ?_
    | refine DrawG.old (DrawF.lex (by decide +kernel) ?_)
    | refine MkF.row ?_
    | refine EqP.mk _ (gm GAirway.cells default rfl) ?_
    | refine EqP.mk _ (gm eI 0 rfl) ?_
    | refine BndF.mk (fun _ => by omega) ?_
    | refine BndF.mk (fun _ => by simp only [lnS]; omega) ?_
    | refine EqI.mk _ (fun _ => wrapI (by omega) (by omega)) ?_
    | refine EqI.mk _ (fun _ => rfl) ?_
    | refine FlF.keep ?_
    | refine EqN.mk _ (ln GAirway.cells) ?_
    | refine EqN.mk _ (ln eI) ?_
    | refine EqN.mk _ (Nat.zero_add _) ?_
    | refine EqN.mk (_ + 1) rfl ?_
    | refine EqN.mk _ (Int.toNat_natCast _) ?_
    | refine EqN.mk _ rfl ?_
    | refine EqL.mk _ (sn0 GAirway.cells) ?_
    | refine EqL.mk _ (sn GAirway.cells (by first | rfl | assumption | omega | (simp only [lnS] <;> omega))) ?_
    | refine EqL.mk _ (ap0 GAirway.cells) ?_
    | refine EqL.mk _ (ap GAirway.cells (by first | rfl | assumption | omega | (simp only [lnS] <;> omega))) ?_
    | refine EqL.mk _ (tk GAirway.cells (by first | rfl | assumption | omega | (simp only [lnS] <;> omega))) ?_
    | refine EqL.mk _ (st GAirway.cells) ?_
    | refine EqL.mk _ (dt GAirway.cells) ?_
    | refine EqL.mk _ (sn0 eI) ?_
    | refine EqL.mk _ (sn eI (by first | rfl | assumption | omega | (simp only [lnS] <;> omega))) ?_
    | refine EqL.mk _ (ap0 eI) ?_
    | refine EqL.mk _ (ap eI (by first | rfl | assumption | omega | (simp only [lnS] <;> omega))) ?_
    | refine EqL.mk _ (tk eI (by first | rfl | assumption | omega | (simp only [lnS] <;> omega))) ?_
    | refine EqL.mk _ (st eI) ?_
    | refine EqL.mk _ (dt eI) ?_
    | refine EqL.mk [] rfl ?_
    | refine EqL.mk [_] rfl ?_
    | refine EqL.mk _ rfl ?_
    | refine ArgF.is (c_impl_Mine_reached ⟨_, _⟩ _ _ (by first | assumption | omega) (by first | assumption | omega) (by first | assumption | omega) (by first | assumption | omega)) ?_
    | refine ArgQ.is (fun hG => c_impl_Mine_reached ⟨_, _⟩ _ _ (by first | assumption | omega) (by first | assumption | omega) (by first | assumption | omega) (by first | assumption | omega)) rfl rfl ?_
    | refine ArgF.is (c_slices_Contains_int64_int64 ..) ?_
    | refine ArgQ.is (fun hG => c_slices_Contains_int64_int64 ..) rfl rfl ?_
    | refine CallF.mk (CallW.is [] true rfl ?_)
    | refine CallG.mk ?_
    | (refine CondF.mk (fun hb => ?_) (fun hb => ?_) <;> try simp only [forall_const, eq_self, not_true_eq_false, not_false_eq_true, or_false, false_or, or_self, or_true, true_or, and_true, true_and, and_false, false_and, decide_true, decide_false, Bool.not_true, Bool.not_false, decide_eq_true_eq, decide_eq_false_iff_not, ite_and_p, ite_or_p, Bool.decide_eq_true, Bool.and_eq_true, Bool.or_eq_true, Bool.not_eq_true', Bool.not_eq_false', Bool.and_eq_false_imp, Bool.or_eq_false_iff, bne_iff_ne, beq_iff_eq, bne_eq_false_iff_eq, beq_eq_false_iff_ne, gt_iff_lt, ge_iff_le, Int.not_lt, Int.not_le, ne_eq, Bool.true_eq_false, Bool.false_eq_true, reduceCtorEq, eta_Airway, eta_Fan, eta_Mine] at hb)
    | apply BackF.auto3
    | refine BackB.mk ?_ ?_
    | refine RetF.auto (And.intro rfl ?_)
    | exact Is.mk rfl rfl
    | refine Is.mk ?_ rfl
    | refine Is.mk rfl ?_
    | refine Is.mk ?_ ?_
  all_goals try dsimp only
  all_goals first
    | omega
    | exact ⟨by omega, by omega, rfl, treeC_0.symm⟩
    | (refine ⟨by omega, by omega, by simp [i2], ?_⟩
       rw [treeC_a i0 (by rw [← i3]; exact fun e => hb ((q3 _).2 e)), ← i3])
    | (refine ⟨by omega, by omega, i2, ?_⟩
       rw [treeC_k i0 (by rw [← i3]; exact (q3 _).1 hb), ← i3])
    | exact ⟨i2, by rw [i3, show i.toNat = m.airways.length by omega]⟩
    | skip
end Go.Proofs.YtdhkpmaanegjkaaGreatDoor

set_option linter.unusedVariables false
set_option linter.unusedSimpArgs false
namespace Go.Proofs.YtdhkpmaanegjkaaGreatDoor
open Go.Av
attribute [local irreducible] Go.IntKind.wrap okMine treeC
set_option maxRecDepth 20000
set_option maxHeartbeats 8000000
section
variable {m : GMine} {ls o : List Int} {to s b j u v : Int}
end
inductive WlkR (m : GMine) (ls : List Int) (to : Int) : Nat → Int → List Int → Prop
  | nil : WlkR m ls to 0 to []
  | cons {n : Nat} {u v : Int} {q : Nat} {ws : List Int} (hq : q < ls.length) (ho : otherA (m.airways.getD (ls.getD q 0).toNat default) u = (v, true)) (hd : dsA m ls (n + 1) u to)
      (fst : ∀ i : Nat, i < q → (otherA (m.airways.getD (ls.getD i 0).toNat default) u).2 = true → ¬dsA m ls n (otherA (m.airways.getD (ls.getD i 0).toNat default) u).1 to) (h : WlkR m ls to n v ws) : WlkR m ls to (n + 1) u (spL m u (ls.getD q 0).toNat :: ws)
section
variable {m : GMine} {ls : List Int} {to : Int}
theorem dsA_0 {u : Int} : dsA m ls 0 u u := ⟨rfl, fun k _ => Nat.zero_le k⟩
theorem WlkR.ds {n : Nat} {u : Int} {ws : List Int} (h : WlkR m ls to n u ws) : dsA m ls n u to := by
  cases h with
  | nil => exact dsA_0
  | cons _ _ hd _ _ => exact hd
theorem WlkR.fun_ {n : Nat} {u : Int} {ws : List Int} (h : WlkR m ls to n u ws) : ∀ {ws' : List Int}, WlkR m ls to n u ws' → ws = ws' := by
  induction h with
  | nil => intro ws' h'; cases h'; rfl
  | @cons n u v q ws hq ho hd hf h ih =>
    intro ws' h'
    cases h' with
    | @cons _ _ v' q' ws2 hq' ho' hd' hf' h2 =>
      have e : q = q' := by
        rcases Nat.lt_trichotomy q q' with c | c | c
        · exact absurd (by rw [ho]; exact h.ds) (hf' q c (by rw [ho]))
        · exact c
        · exact absurd (by rw [ho']; exact h2.ds) (hf q' c (by rw [ho']))
      subst e
      rw [ho] at ho'
      obtain rfl : v = v' := congrArg Prod.fst ho'
      rw [ih h2]
theorem WlkR.way (hl : ∀ i ∈ ls, 0 ≤ i ∧ i < m.airways.length) {n : Nat} {u : Int} {ws : List Int} (h : WlkR m ls to n u ws) : ∃ es, wayI m ls u to es ws ∧ es.length = n ∧ ws.length = n := by
  induction h with
  | nil => exact ⟨[], wayI_0, rfl, rfl⟩
  | @cons n u v q ws hq ho hd hf h ih =>
    obtain ⟨es, h1, h2, h3⟩ := ih
    have hb := hl (ls.getD q 0) (getD_mem hq)
    have k := oth_ok ho
    have hm' : ((ls.getD q 0).toNat : Int) = ls.getD q 0 := by omega
    refine ⟨(ls.getD q 0).toNat :: es, ⟨⟨by omega, k.1, by rw [k.2]; exact h1.ok⟩, ?_, ?_, fun i hi => ?_⟩, by simp [h2], by simp [h3]⟩
    · show enW m (nxL m u _) es = _
      rw [k.2]; exact h1.en
    · show _ = spL m u _ :: spW m (nxL m u _) es
      rw [k.2, ← h1.sp]
    · rcases List.mem_cons.1 hi with rfl | hi
      · rw [hm']; exact getD_mem hq
      · exact h1.mem i hi
end
end Go.Proofs.YtdhkpmaanegjkaaGreatDoor

set_option linter.unusedVariables false
set_option linter.unusedSimpArgs false
namespace Go.Proofs.YtdhkpmaanegjkaaGreatDoor
open Go.Av
attribute [local irreducible] Go.IntKind.wrap okMine treeC
set_option maxRecDepth 20000
set_option maxHeartbeats 100000000
def wxI (m : GMine) (ls : List Int) (to f a : Int) (ws : List Int) : Prop := ∀ n2 ws2, WlkR m ls to n2 a ws2 → WlkR m ls to (ws.length + n2) f (ws ++ ws2)
section
variable {m : GMine} {ls o ws : List Int} {to f a v q s : Int}
theorem wxI_0 : wxI m ls to f f [] := fun n2 ws2 h => by simpa using h
theorem wxI_end (h : wxI m ls to f a ws) (e : a = to) : WlkR m ls to ws.length f ws := by
  have := h 0 [] (by rw [e]; exact .nil)
  simpa using this
end
inductive PthX (m : GMine) (ls : List Int) (f to : Int) (rs : List AV) (ho : List OB) : Prop
  | no (h1 : rs = [.osl 0 0 0, Bo false]) (h2 : ho = [.row false .flat (eI 0) []]) (h : ¬cnA m ls f to)
  | ok (n : Nat) (ws : List Int) (h1 : rs = [.osl 0 0 n, Bo true]) (h2 : ho = [.row false .flat (eI 0) (ws.map eI)]) (h3 : n = ws.length) (h : WlkR m ls to ws.length f ws) (h6 : n ≤ 16)
end Go.Proofs.YtdhkpmaanegjkaaGreatDoor
