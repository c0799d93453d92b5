/- Contracts of functions of the program, and what they compute. Conditions: those that each theorem states. -/
import Derived.Test.YtfcnlpghdpfjkaaProg
import Derived.Test.YtfcnlpghdpfjkaaB4
set_option linter.unusedVariables false
set_option linter.unusedSimpArgs false
namespace Go.Proofs.Ytfcnlpghdpfjkaa
open Go.Av
attribute [local irreducible] Go.IntKind.wrap leastI rdZ rd rootI okMine treeC
set_option maxRecDepth 20000
set_option maxHeartbeats 100000000

/-! The reference's walk. -/
/-- what is walked so far, and what it wants -/
def wxI (m : GMine) (ls : List Int) (to f a : Int) (ws : List Int) : Prop := ∀ n2 ws2, WlkR m ls to n2 a ws2 → WlkR m ls to (ws.length + n2) f (ws ++ ws2)
/-- an airway of the list leads one nearer -/
def gdI (m : GMine) (ls o : List Int) (a : Int) (i : Nat) (v : Int) : Prop := otherA (m.airways.getD (ls.getD i 0).toNat default) a = (v, true) ∧ o.getD v.toNat 0 = o.getD a.toNat 0 - 1
section
variable {m : GMine} {ls o ws : List Int} {to f a v q s : Int}
theorem air_st (hm : okMine m = true) (hl : ∀ i ∈ ls, 0 ≤ i ∧ i < m.airways.length) (q0 : 0 ≤ q) (hq : q < ls.length) : stA m ls (m.airways.getD (ls.getD q.toNat 0).toNat default).from_ (m.airways.getD (ls.getD q.toNat 0).toNat default).to ∧ stA m ls (m.airways.getD (ls.getD q.toNat 0).toNat default).to (m.airways.getD (ls.getD q.toNat 0).toNat default).from_ :=
  ⟨⟨ls.getD q.toNat 0, getD_mem (by omega), lsB hl q0 hq, (oth_f hm (lsB hl q0 hq)).1⟩, ⟨ls.getD q.toNat 0, getD_mem (by omega), lsB hl q0 hq, (oth_f hm (lsB hl q0 hq)).2⟩⟩
theorem set_at {xs : List Int} {k : Nat} {v : Int} (h : k < xs.length) : (xs.set k v).getD k 0 = v := by rw [getD_sI, if_pos ⟨rfl, h⟩]
theorem lv_a (hm : okMine m = true) (hl : ∀ i ∈ ls, 0 ≤ i ∧ i < m.airways.length) (h : lvI m ls to s (s + 1) o) (k : qlI m ls s q o) (s0 : 0 ≤ s) (q0 : 0 ≤ q) (hq : q < ls.length)
    (hb : o.getD (m.airways.getD (ls.getD q.toNat 0).toNat default).from_.toNat 0 = s ∧ o.getD (m.airways.getD (ls.getD q.toNat 0).toNat default).to.toNat 0 < 0) :
    lvI m ls to s (s + 1) (o.set (m.airways.getD (ls.getD q.toNat 0).toNat default).to.toNat (s + 1)) ∧ qlI m ls s q (o.set (m.airways.getD (ls.getD q.toNat 0).toNat default).to.toNat (s + 1)) ∧ ((o.set (m.airways.getD (ls.getD q.toNat 0).toNat default).to.toNat (s + 1)).getD (m.airways.getD (ls.getD q.toNat 0).toNat default).from_.toNat 0 = s → 0 ≤ (o.set (m.airways.getD (ls.getD q.toNat 0).toNat default).to.toNat (s + 1)).getD (m.airways.getD (ls.getD q.toNat 0).toNat default).to.toNat 0) := by
  have st := air_st hm hl q0 hq
  have a := lv_set hm h k s0 st.2 hb.1 hb.2
  have hr := stA_2 hm st.1
  have hln := h.ln
  exact ⟨a.1, a.2, fun _ => by rw [set_at (by omega)]; omega⟩
theorem lv_b (hm : okMine m = true) (hl : ∀ i ∈ ls, 0 ≤ i ∧ i < m.airways.length) (h : lvI m ls to s (s + 1) o) (k : qlI m ls s q o) (s0 : 0 ≤ s) (q0 : 0 ≤ q) (hq : q < ls.length)
    (hb : o.getD (m.airways.getD (ls.getD q.toNat 0).toNat default).to.toNat 0 = s ∧ o.getD (m.airways.getD (ls.getD q.toNat 0).toNat default).from_.toNat 0 < 0) :
    lvI m ls to s (s + 1) (o.set (m.airways.getD (ls.getD q.toNat 0).toNat default).from_.toNat (s + 1)) ∧ qlI m ls s (q + 1) (o.set (m.airways.getD (ls.getD q.toNat 0).toNat default).from_.toNat (s + 1)) := by
  have st := air_st hm hl q0 hq
  have a := lv_set hm h k s0 st.1 hb.1 hb.2
  have hr := stA_2 hm st.1
  have hln := h.ln
  refine ⟨a.1, ql_s hm hl a.2 q0 hq (fun e => ?_) (fun _ => by rw [set_at (by omega)]; omega)⟩
  rw [set_at (by omega)] at e; omega
theorem wxI_0 : wxI m ls to f f [] := fun n2 ws2 h => by simpa using h
theorem wxI_end (h : wxI m ls to f a ws) (e : a = to) : WlkR m ls to ws.length f ws := by
  have := h 0 [] (by rw [e]; exact .nil)
  simpa using this
theorem far_at (hm : okMine m = true) (far : farI m ls to (FO m o)) (hv : inV m v) (h0 : 0 ≤ o.getD v.toNat 0) : dsA m ls (o.getD v.toNat 0).toNat v to ∧ o.getD v.toNat 0 ≤ m.junctions :=
  ⟨far.ds hm (FO_of hv h0), (far.nn v _ (FO_of hv h0)).2⟩
theorem far_nb (hm : okMine m = true) (far : farI m ls to (FO m o)) (ha : inV m a) (h0 : 0 ≤ o.getD a.toNat 0) (hs : stA m ls a v) : inV m v ∧ 0 ≤ o.getD v.toNat 0 := by
  obtain ⟨e, h1, _⟩ := far.p3 a _ v (FO_of ha h0) hs
  have := FO_some h1
  exact ⟨this.1, by omega⟩
theorem wx_add (hm : okMine m = true) (hl : ∀ i ∈ ls, 0 ≤ i ∧ i < m.airways.length) (far : farI m ls to (FO m o)) (ha : inV m a) (h0 : 0 ≤ o.getD a.toNat 0) (q0 : 0 ≤ q) (hq : q < ls.length) (hn : ∀ i : Nat, (i : Int) < q → ∀ v, ¬gdI m ls o a i v) (g : gdI m ls o a q.toNat v) (h : wxI m ls to f a ws) :
    wxI m ls to f v (ws ++ [spL m a (ls.getD q.toNat 0).toNat]) ∧ inV m v ∧ 0 ≤ o.getD v.toNat 0 := by
  have hs : stA m ls a v := ⟨ls.getD q.toNat 0, getD_mem (by omega), hl _ (getD_mem (d := 0) (by omega)), g.1⟩
  have nb := far_nb hm far ha h0 hs
  refine ⟨fun n2 ws2 hw => ?_, nb⟩
  have e : n2 = (o.getD v.toNat 0).toNat := dsA_fun hw.ds (far_at hm far nb.1 nb.2).1
  have g2 := g.2
  have key : WlkR m ls to (n2 + 1) a (spL m a (ls.getD q.toNat 0).toNat :: ws2) := by
    refine .cons (by omega) g.1 (by rw [show n2 + 1 = (o.getD a.toNat 0).toNat by omega]; exact (far_at hm far ha h0).1) (fun i hi hx hd => ?_) hw
    have hsx : stA m ls a (otherA (m.airways.getD (ls.getD i 0).toNat default) a).1 := ⟨ls.getD i 0, getD_mem (by omega), hl _ (getD_mem (d := 0) (by omega)), by rw [← hx]⟩
    have nbx := far_nb hm far ha h0 hsx
    have ex := dsA_fun hd (far_at hm far nbx.1 nbx.2).1
    exact hn i (by omega) (otherA (m.airways.getD (ls.getD i 0).toNat default) a).1 ⟨by rw [← hx], by omega⟩
  have := h (n2 + 1) _ key
  rw [List.length_append, List.length_singleton, List.append_assoc]
  rw [show ws.length + 1 + n2 = ws.length + (n2 + 1) by omega]
  exact this
theorem gd_no (hm : okMine m = true) (hl : ∀ i ∈ ls, 0 ≤ i ∧ i < m.airways.length) (far : farI m ls to (FO m o)) (ha : inV m a) (h0 : 0 ≤ o.getD a.toNat 0) (hq : ls.length ≤ q) (hn : ∀ i : Nat, (i : Int) < q → ∀ v, ¬gdI m ls o a i v) : a = to := by
  rcases far.p2 a _ (FO_of ha h0) with h | ⟨u, ⟨i, h1, h2, h3⟩, h4⟩
  · exact h.1
  · obtain ⟨p, hp, rfl⟩ := List.getElem_of_mem h1
    have hg : ls.getD p 0 = ls[p] := by rw [List.getD_eq_getElem?_getD, List.getElem?_eq_getElem hp]; rfl
    have := FO_some h4
    exact absurd ⟨by rw [hg]; exact h3, this.2.2⟩ (hn p (by omega) u)
theorem gd_f (hm : okMine m = true) (hl : ∀ i ∈ ls, 0 ≤ i ∧ i < m.airways.length) (q0 : 0 ≤ q) (hq : q < ls.length) (e : (m.airways.getD (ls.getD q.toNat 0).toNat default).from_ = a) (h : o.getD (m.airways.getD (ls.getD q.toNat 0).toNat default).to.toNat 0 = o.getD a.toNat 0 - 1) : gdI m ls o a q.toNat (m.airways.getD (ls.getD q.toNat 0).toNat default).to ∧ ls.getD q.toNat 0 + 1 = spL m a (ls.getD q.toNat 0).toNat := by
  have hr := lsB hl q0 hq
  refine ⟨⟨by rw [← e]; exact (oth_f hm hr).1, h⟩, ?_⟩
  unfold spL awI
  rw [if_pos e]; omega
theorem gd_t (hm : okMine m = true) (hl : ∀ i ∈ ls, 0 ≤ i ∧ i < m.airways.length) (q0 : 0 ≤ q) (hq : q < ls.length) (e : (m.airways.getD (ls.getD q.toNat 0).toNat default).to = a) (h : o.getD (m.airways.getD (ls.getD q.toNat 0).toNat default).from_.toNat 0 = o.getD a.toNat 0 - 1) : gdI m ls o a q.toNat (m.airways.getD (ls.getD q.toNat 0).toNat default).from_ ∧ -ls.getD q.toNat 0 - 1 = spL m a (ls.getD q.toNat 0).toNat := by
  have hr := lsB hl q0 hq
  refine ⟨⟨by rw [← e]; exact (oth_f hm hr).2, h⟩, ?_⟩
  unfold spL awI
  rw [if_neg (fun e2 => by rw [e2] at h; omega)]; omega
theorem gd_s (hm : okMine m = true) (hl : ∀ i ∈ ls, 0 ≤ i ∧ i < m.airways.length) (q0 : 0 ≤ q) (hq : q < ls.length) (hn : ∀ i : Nat, (i : Int) < q → ∀ v, ¬gdI m ls o a i v)
    (h1 : (m.airways.getD (ls.getD q.toNat 0).toNat default).from_ = a → ¬o.getD (m.airways.getD (ls.getD q.toNat 0).toNat default).to.toNat 0 = o.getD a.toNat 0 - 1)
    (h2 : (m.airways.getD (ls.getD q.toNat 0).toNat default).to = a → ¬o.getD (m.airways.getD (ls.getD q.toNat 0).toNat default).from_.toNat 0 = o.getD a.toNat 0 - 1) : ∀ i : Nat, (i : Int) < q + 1 → ∀ v, ¬gdI m ls o a i v := by
  intro i hi v g
  by_cases e : (i : Int) = q
  · have e2 : q.toNat = i := by omega
    rw [e2] at h1 h2
    have hr := lsB hl q0 hq
    rw [e2] at hr
    rcases oth_p hm hr g.1 with ⟨e3, rfl⟩ | ⟨e3, rfl⟩
    · exact h1 e3.symm g.2
    · exact h2 e3.symm g.2
  · exact hn i (by omega) v g
end
/-- the walk that is found, told exactly -/
inductive PthX (m : GMine) (ls : List Int) (f to : Int) (rs : List AV) (ho : List OB) : Prop
  | no (h1 : rs = [.osl 0 0 0, Bo false]) (h2 : ho = [.row false .flat (eI 0) []]) (h : ¬cnA m ls f to)
  | ok (n : Nat) (ws : List Int) (h1 : rs = [.osl 0 0 n, Bo true]) (h2 : ho = [.row false .flat (eI 0) (ws.map eI)]) (h3 : n = ws.length) (h : WlkR m ls to ws.length f ws) (h6 : n ≤ 16)
theorem c_spec_l04Walk (m : GMine) (ls : List Int) (f to : Int) (hm : okMine m = true) (hf : inV m f) (ht : inV m to) (hl : ∀ i ∈ ls, 0 ≤ i ∧ i < m.airways.length) (hll : ls.length ≤ 1000) : FnSem Try.prog 151 [.p .any (.ref m.cells), Lx (LI ls), In f, In to] [] (PthX m ls f to) := by
  have hmp := okMine_p hm
  have hJ := hmp.1
  have hf2 : 0 ≤ f ∧ f < m.junctions := hf
  have ht2 : 0 ≤ to ∧ to < m.junctions := ht
  refine FnSem.old ?_
  refine FnSem.walk (zs := zeroPV Try.prog) (by kernel_rfl) Try.func151 rfl Try.results151 (by kernel_rfl) (by kernel_rfl) (by kernel_rfl) fun hw hh => ?_
  obtain ⟨w0, w1, w2, w3, _⟩ := hw
  first | replace w0 := wfr_Mine w0 | skip
  first | replace w1 := wf_LI w1 | skip
  first | replace w2 := wf_I w2 | skip
  first | replace w3 := wf_I w3 | skip
  repeat' first
    | refine And.intro rfl ?_
    | refine GdF.mk (fun h => h) ?_
    | refine And.intro (Nat.succ_ne_zero _) ?_
    | refine And.intro (Nat.le_of_ble_eq_true rfl) ?_
    | refine SeqF.run ?_
    | refine LoopF.at 3 rfl (LoopF.fix [0, 1, 2, 3] (Int × Nat × List Int) (fun (j, n, o0) => 0 ≤ j ∧ j ≤ m.junctions ∧ (n : Int) = j ∧ o0 = List.replicate n (-1)) (fun (j, n, o0) => [(11, In j), (10, .osl 0 0 n)]) (fun (j, n, o0) => [(0, .row true .flat (eI 0) (o0.map eI))]) (fun (j, n, o0) => ((m.junctions - j).toNat)) ((0, 0, [])) ?_)
    | (refine LoopB.of (T := Int × Nat × List Int) ?_ ?_; rotate_left; rintro ⟨j, n, o0⟩ ⟨a0, a1, a2, a3⟩; rotate_left)
    | refine LoopF.at 8 rfl (LoopF.fix [0, 1, 2, 3, 10] (Int × List Int) (fun (s, o) => 0 ≤ s ∧ s ≤ m.junctions ∧ o.length = n ∧ lvI m ls to s s o) (fun (s, o) => [(12, In s)]) (fun (s, o) => [(0, .row true .flat (eI 0) (o.map eI))]) (fun (s, o) => ((m.junctions - s).toNat)) ((0, o0.set to.toNat 0)) ?_)
    | (refine LoopB.of (T := Int × List Int) ?_ ?_; rotate_left; rintro ⟨s, o⟩ ⟨s0, s1, s2, s3⟩; rotate_left)
    | refine LoopF.at 11 rfl (LoopF.fix [0, 1, 2, 3, 10, 12] (Int × List Int × Unit) (fun (i, o', _) => 0 ≤ i ∧ i ≤ ls.length ∧ o'.length = n ∧ lvI m ls to s (s + 1) o' ∧ qlI m ls s i o') (fun (i, o', _) => [(13, In i)]) (fun (i, o', _) => [(0, .row true .flat (eI 0) (o'.map eI))]) (fun (i, o', _) => ((ls.length - i).toNat)) ((0, o, ())) ?_)
    | (refine LoopB.of (T := Int × List Int × Unit) ?_ ?_; rotate_left; rintro ⟨i, o', _⟩ ⟨i0, i1, i2, i3, i4⟩; rotate_left)
    | refine LoopF.at 22 rfl (LoopF.fix [0, 1, 3, 10] (Int × Nat × List Int × Unit) (fun (a, k, ws, _) => inV m a ∧ 0 ≤ o.getD a.toNat 0 ∧ k = ws.length ∧ (ws.length : Int) + o.getD a.toNat 0 = o.getD f.toNat 0 ∧ wxI m ls to f a ws ∧ farI m ls to (FO m o) ∧ o.getD f.toNat 0 ≤ 16) (fun (a, k, ws, _) => [(16, In a), (15, .osl 1 0 k)]) (fun (a, k, ws, _) => [(1, .row true .flat (eI 0) (ws.map eI))]) (fun (a, k, ws, _) => ((o.getD a.toNat 0).toNat)) ((f, 0, [], ())) ?_)
    | (refine LoopB.of (T := Int × Nat × List Int × Unit) ?_ ?_; rotate_left; rintro ⟨a, k, ws, _⟩ ⟨l0, l1, l2, l3, l4, far, l6⟩; rotate_left)
    | refine LoopF.at 24 rfl (LoopF.fix [0, 1, 3, 10] (Int × Unit) (fun (q, _) => 0 ≤ q ∧ q ≤ ls.length ∧ ∀ i : Nat, (i : Int) < q → ∀ v, ¬gdI m ls o a i v) (fun (q, _) => [(17, In q), (15, .osl 1 0 k), (16, In a)]) (fun (q, _) => []) (fun (q, _) => ((ls.length - q).toNat)) ((0, ())) ?_)
    | (refine LoopB.of (T := Int × Unit) ?_ ?_; rotate_left; rintro ⟨q, _⟩ ⟨q0, q1, q2⟩; rotate_left)
    | refine BndF.mk (fun _ => by rw [a3]; simp only [List.length_map, List.length_replicate]; omega) ?_
    | refine BndF.mk (fun _ => by have a := lsB hl i0 (by assumption); have b := (hmp.2.2 (ls.getD i.toNat 0).toNat (by omega)).2; first | omega | (simp only [List.length_map, List.length_set]; omega)) ?_
    | refine BndF.mk (fun _ => by have aq := lsB hl q0 (by assumption); have b := (hmp.2.2 (ls.getD q.toNat 0).toNat (by omega)).2; have c : 0 ≤ a ∧ a < m.junctions := l0; first | omega | (simp only [List.length_map]; omega)) ?_
    | refine EqL.mk _ (snT (take_all (by rw [a3]; simp))) ?_
    | refine EqL.mk _ (snT (take_all l2)) ?_
    | refine PthX.no rfl rfl ?_
    | refine PthX.ok k ws rfl rfl ?_ ?_ ?_
    | refine GhF.go ?_
    | refine GdS.keep ?_
    | refine DrawG.old (DrawF.lex (by decide +kernel) ?_)
    | refine MkF.row ?_
    | refine EqP.mk _ (gm eI 0 rfl) ?_
    | refine EqP.mk _ (gm GAirway.cells default rfl) ?_
    | refine BndF.mk (fun _ => by omega) ?_
    | refine BndF.mk (fun _ => by simp only [List.length_map, List.length_cons, List.length_nil, List.length_append, List.length_set, List.length_replicate, iotaI_len]; omega) ?_
    | refine BndF.mk (fun hG => by simp only [forall_const, eq_self, not_true_eq_false, not_false_eq_true, or_false, false_or, or_self, or_true, true_or, and_true, true_and, and_false, false_and, decide_true, decide_false, Bool.not_true, Bool.not_false, decide_eq_true_eq, decide_eq_false_iff_not, ite_and_p, ite_or_p, Bool.decide_eq_true, Bool.and_eq_true, Bool.or_eq_true, Bool.not_eq_true', Bool.not_eq_false', Bool.and_eq_false_imp, Bool.or_eq_false_iff, bne_iff_ne, beq_iff_eq, bne_eq_false_iff_eq, beq_eq_false_iff_ne, gt_iff_lt, ge_iff_le, Int.not_lt, Int.not_le, ne_eq, Bool.true_eq_false, Bool.false_eq_true, reduceCtorEq, eta_Airway, eta_Fan, eta_Mine, bytes_nil] at hG; (try simp only [List.length_map]); omega) ?_
    | refine EqI.mk _ (fun _ => wrapI (by omega) (by omega)) ?_
    | refine EqI.mk _ (fun _ => rfl) ?_
    | refine FlF.keep ?_
    | refine EqN.mk _ (ln eI) ?_
    | refine EqN.mk _ (ln GAirway.cells) ?_
    | refine EqN.mk _ (Nat.zero_add _) ?_
    | refine EqN.mk (_ + 1) rfl ?_
    | refine EqN.mk _ (Int.toNat_natCast _) ?_
    | refine EqN.mk _ rfl ?_
    | refine EqL.mk _ (sn0 eI) ?_
    | refine EqL.mk _ (sn eI (by first | rfl | assumption | omega | (simp only [List.length_map, List.length_cons, List.length_nil, List.length_append, List.length_set, List.length_replicate, iotaI_len]; done) | (simp only [List.length_map, List.length_cons, List.length_nil, List.length_append, List.length_set, List.length_replicate, iotaI_len]; omega))) ?_
    | refine EqL.mk _ (ap0 eI) ?_
    | refine EqL.mk _ (ap eI (by first | rfl | assumption | omega | (simp only [List.length_map, List.length_cons, List.length_nil, List.length_append, List.length_set, List.length_replicate, iotaI_len]; done) | (simp only [List.length_map, List.length_cons, List.length_nil, List.length_append, List.length_set, List.length_replicate, iotaI_len]; omega))) ?_
    | refine EqL.mk _ (tk eI (by first | rfl | assumption | omega | (simp only [List.length_map, List.length_cons, List.length_nil, List.length_append, List.length_set, List.length_replicate, iotaI_len]; done) | (simp only [List.length_map, List.length_cons, List.length_nil, List.length_append, List.length_set, List.length_replicate, iotaI_len]; omega))) ?_
    | refine EqL.mk _ (st eI) ?_
    | refine EqL.mk _ (dt eI) ?_
    | refine EqL.mk _ (sn0 GAirway.cells) ?_
    | refine EqL.mk _ (sn GAirway.cells (by first | rfl | assumption | omega | (simp only [List.length_map, List.length_cons, List.length_nil, List.length_append, List.length_set, List.length_replicate, iotaI_len]; done) | (simp only [List.length_map, List.length_cons, List.length_nil, List.length_append, List.length_set, List.length_replicate, iotaI_len]; omega))) ?_
    | refine EqL.mk _ (ap0 GAirway.cells) ?_
    | refine EqL.mk _ (ap GAirway.cells (by first | rfl | assumption | omega | (simp only [List.length_map, List.length_cons, List.length_nil, List.length_append, List.length_set, List.length_replicate, iotaI_len]; done) | (simp only [List.length_map, List.length_cons, List.length_nil, List.length_append, List.length_set, List.length_replicate, iotaI_len]; omega))) ?_
    | refine EqL.mk _ (tk GAirway.cells (by first | rfl | assumption | omega | (simp only [List.length_map, List.length_cons, List.length_nil, List.length_append, List.length_set, List.length_replicate, iotaI_len]; done) | (simp only [List.length_map, List.length_cons, List.length_nil, List.length_append, List.length_set, List.length_replicate, iotaI_len]; omega))) ?_
    | refine EqL.mk _ (st GAirway.cells) ?_
    | refine EqL.mk _ (dt GAirway.cells) ?_
    | refine EqL.mk [] rfl ?_
    | refine EqL.mk [_] rfl ?_
    | refine EqL.mk _ rfl ?_
    | (refine CondF.mk (fun hb => ?_) (fun hb => ?_) <;> try simp only [forall_const, eq_self, not_true_eq_false, not_false_eq_true, or_false, false_or, or_self, or_true, true_or, and_true, true_and, and_false, false_and, decide_true, decide_false, Bool.not_true, Bool.not_false, decide_eq_true_eq, decide_eq_false_iff_not, ite_and_p, ite_or_p, Bool.decide_eq_true, Bool.and_eq_true, Bool.or_eq_true, Bool.not_eq_true', Bool.not_eq_false', Bool.and_eq_false_imp, Bool.or_eq_false_iff, bne_iff_ne, beq_iff_eq, bne_eq_false_iff_eq, beq_eq_false_iff_ne, gt_iff_lt, ge_iff_le, Int.not_lt, Int.not_le, ne_eq, Bool.true_eq_false, Bool.false_eq_true, reduceCtorEq, eta_Airway, eta_Fan, eta_Mine] at hb)
    | apply BackF.auto4
    | apply BackF.auto3
    | apply BackF.auto2
    | refine BackB.mk ?_ ?_
    | refine RetF.auto (And.intro rfl ?_)
    | exact Is.mk rfl rfl
    | refine Is.mk ?_ rfl
    | refine Is.mk rfl ?_
    | refine Is.mk ?_ ?_
  all_goals try dsimp only
  all_goals first
    | omega
    | exact ⟨by omega, by omega, rfl, rfl⟩
    | exact ⟨by omega, by omega, by omega, by rw [a3, List.replicate_succ']⟩
    | (refine ⟨by omega, by omega, by rw [List.length_set, a3, List.length_replicate], lvI_0 ht (by rw [a3, List.length_replicate]; omega) (fun k hk => ?_)⟩
       rw [a3, List.length_replicate] at hk
       rw [a3, List.getD_eq_getElem?_getD, List.getElem?_replicate, if_pos hk]; rfl)
    | exact ⟨by omega, by omega, s2, lvI_up s3, qlI_0⟩
    | (rename_i h1 h2
       obtain ⟨e1, e2, e3⟩ := lv_a hm hl i3 i4 s0 i0 (by assumption) h2
       obtain ⟨e4, e5⟩ := lv_b hm hl e1 e2 s0 i0 (by assumption) hb
       exact ⟨by omega, by omega, by rw [List.length_set, List.length_set]; exact i2, e4, e5⟩)
    | (rename_i h1 h2
       obtain ⟨e1, e2, e3⟩ := lv_a hm hl i3 i4 s0 i0 (by assumption) h2
       exact ⟨by omega, by omega, by rw [List.length_set]; exact i2, e1, ql_s hm hl e2 i0 (by assumption) e3 hb⟩)
    | (obtain ⟨e4, e5⟩ := lv_b hm hl i3 i4 s0 i0 (by assumption) hb
       exact ⟨by omega, by omega, by rw [List.length_set]; exact i2, e4, e5⟩)
    | (rename_i h1 h2
       exact ⟨by omega, by omega, i2, i3, ql_s hm hl i4 i0 (by assumption) h2 hb⟩)
    | exact ⟨by omega, by omega, i2, lv_s hm i3 i4 hb⟩
    | exact (lv_end hm ht s3 (by assumption)).no hm (if_neg (fun c => by omega))
    | (have e := lv_end hm ht s3 (by assumption)
       exact ⟨hf, hb, rfl, by simp, wxI_0, e, by have := (far_at hm e hf hb).2; omega⟩)
    | exact ⟨by omega, by omega, fun i hi => absurd hi (by omega)⟩
    | (exfalso; exact absurd (gd_no hm hl far l0 l1 hb q2) (by assumption))
    | exact wxI_end l4 hb
    | (obtain ⟨g1, g2⟩ := gd_f hm hl q0 (by assumption) hb.1 hb.2
       have r := wx_add hm hl far l0 l1 q0 (by assumption) q2 g1 l4
       have b := lsB hl q0 (by assumption)
       rw [wrapI (by omega) (by omega), g2]
       have hb2 := hb.2
       exact ⟨r.2.1, r.2.2, by simp [l2], by rw [List.length_append, List.length_singleton]; omega, r.1, far, l6⟩)
    | (obtain ⟨g1, g2⟩ := gd_f hm hl q0 (by assumption) hb.1 hb.2
       have r := wx_add hm hl far l0 l1 q0 (by assumption) q2 g1 l4
       omega)
    | (obtain ⟨g1, g2⟩ := gd_t hm hl q0 (by assumption) hb.1 hb.2
       have r := wx_add hm hl far l0 l1 q0 (by assumption) q2 g1 l4
       have b := lsB hl q0 (by assumption)
       rw [show IntKind.i64.wrap (0 - ls.getD q.toNat 0) = 0 - ls.getD q.toNat 0 from wrapI (by omega) (by omega), show IntKind.i64.wrap (0 - ls.getD q.toNat 0 - 1) = 0 - ls.getD q.toNat 0 - 1 from wrapI (by omega) (by omega), show 0 - ls.getD q.toNat 0 - 1 = -ls.getD q.toNat 0 - 1 by omega, g2]
       have hb2 := hb.2
       exact ⟨r.2.1, r.2.2, by simp [l2], by rw [List.length_append, List.length_singleton]; omega, r.1, far, l6⟩)
    | (obtain ⟨g1, g2⟩ := gd_t hm hl q0 (by assumption) hb.1 hb.2
       have r := wx_add hm hl far l0 l1 q0 (by assumption) q2 g1 l4
       omega)
    | (rename_i h1; exact ⟨by omega, by omega, gd_s hm hl q0 (by assumption) q2 h1 hb⟩)
    | skip
end Go.Proofs.Ytfcnlpghdpfjkaa

