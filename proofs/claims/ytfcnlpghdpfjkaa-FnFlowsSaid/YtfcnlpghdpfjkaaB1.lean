/- Contracts of functions of the program, and what they compute. Conditions: those that each theorem states. -/
import Derived.Test.YtfcnlpghdpfjkaaProg
import Derived.Test.YtfcnlpghdpfjkaaV4
set_option linter.unusedVariables false
set_option linter.unusedSimpArgs false
namespace Go.Proofs.Ytfcnlpghdpfjkaa
open Go.Av
attribute [local irreducible] Go.IntKind.wrap leastI rdZ rd rootI okMine
set_option maxRecDepth 20000
set_option maxHeartbeats 8000000

/-! What is joined: labels; the tree, told exactly. Plain. -/
section
variable {m : GMine} {ls : List Int}
theorem cnA_refl {u : Int} : cnA m ls u u := ⟨0, rfl⟩
theorem cnA_tr {u x v : Int} (h : cnA m ls u x) (h2 : cnA m ls x v) : cnA m ls u v := by
  obtain ⟨a, ha⟩ := h
  obtain ⟨b, hb⟩ := h2
  exact ⟨a + b, wkA_add a b u x v ha hb⟩
theorem cnA_mono {bs : List Int} (h : ∀ i ∈ ls, i ∈ bs) {u v : Int} (hc : cnA m ls u v) : cnA m bs u v := by
  obtain ⟨n, hn⟩ := hc
  exact ⟨n, wkA_mono h n u v hn⟩
theorem cnA_nil {u v : Int} (h : cnA m [] u v) : u = v := by
  obtain ⟨n, hn⟩ := h
  cases n with
  | zero => exact hn
  | succ n => obtain ⟨x, ⟨k, hk, _⟩, _⟩ := hn; cases hk
/-- one airway more -/
theorem cnA_snoc (hm : okMine m = true) {i : Int} (hi : 0 ≤ i ∧ i < m.airways.length) {u v : Int} :
    cnA m (ls ++ [i]) u v ↔ cnA m ls u v ∨ ((cnA m ls u (m.airways.getD i.toNat default).from_ ∨ cnA m ls u (m.airways.getD i.toNat default).to) ∧ (cnA m ls v (m.airways.getD i.toNat default).from_ ∨ cnA m ls v (m.airways.getD i.toNat default).to)) := by
  constructor
  · rintro ⟨n, hn⟩
    induction n generalizing u with
    | zero => left; rw [show u = v from hn]; exact cnA_refl
    | succ n ih =>
      obtain ⟨x, ⟨k, hk, hr, ho⟩, hn⟩ := hn
      have q := ih hn
      rcases List.mem_append.1 hk with hk | hk
      · have c : cnA m ls u x := ⟨1, wkA_one ⟨k, hk, hr, ho⟩⟩
        rcases q with q | ⟨q1, q2⟩
        · exact .inl (cnA_tr c q)
        · exact .inr ⟨q1.imp (cnA_tr c) (cnA_tr c), q2⟩
      · have e : k = i := by simpa using hk
        subst e
        have ab : (cnA m ls u (m.airways.getD k.toNat default).from_ ∨ cnA m ls u (m.airways.getD k.toNat default).to) ∧ (cnA m ls x (m.airways.getD k.toNat default).from_ ∨ cnA m ls x (m.airways.getD k.toNat default).to) := by
          rcases oth_p hm hr ho with ⟨e1, e2⟩ | ⟨e1, e2⟩
          · exact ⟨.inl (by rw [e1]; exact cnA_refl), .inr (by rw [e2]; exact cnA_refl)⟩
          · exact ⟨.inr (by rw [e1]; exact cnA_refl), .inl (by rw [e2]; exact cnA_refl)⟩
        rcases q with q | ⟨q1, q2⟩
        · exact .inr ⟨ab.1, ab.2.imp (cnA_tr (cnA_sym hm q)) (cnA_tr (cnA_sym hm q))⟩
        · exact .inr ⟨ab.1, q2⟩
  · have mo : ∀ {u v : Int}, cnA m ls u v → cnA m (ls ++ [i]) u v := fun h => cnA_mono (fun j hj => List.mem_append_left _ hj) h
    rintro (h | ⟨h1, h2⟩)
    · exact mo h
    · have e : cnA m (ls ++ [i]) (m.airways.getD i.toNat default).from_ (m.airways.getD i.toNat default).to := ⟨1, wkA_one ⟨i, by simp, hi, (oth_f hm hi).1⟩⟩
      have es := cnA_sym hm e
      have p : cnA m (ls ++ [i]) u (m.airways.getD i.toNat default).from_ := h1.elim mo fun h => cnA_tr (mo h) es
      have q : cnA m (ls ++ [i]) v (m.airways.getD i.toNat default).from_ := h2.elim mo fun h => cnA_tr (mo h) es
      exact cnA_tr p (cnA_sym hm q)
end
/-- labels: equal where one is joined to the other -/
structure prtI (m : GMine) (ls o : List Int) : Prop where
  ln : (o.length : Int) = m.junctions
  rg : ∀ j : Nat, j < o.length → 0 ≤ o.getD j 0 ∧ o.getD j 0 < m.junctions
  eq : ∀ u v : Int, inV m u → inV m v → (o.getD u.toNat 0 = o.getD v.toNat 0 ↔ cnA m ls u v)
/-- the first j labels are told anew -/
structure rpI (o : List Int) (h l j : Int) (o' : List Int) : Prop where
  ln : o'.length = o.length
  lo : ∀ k : Nat, (k : Int) < j → o'.getD k 0 = if o.getD k 0 = h then l else o.getD k 0
  hi : ∀ k : Nat, j ≤ (k : Int) → o'.getD k 0 = o.getD k 0
section
variable {m : GMine} {ls o o' : List Int} {h l j : Int}
theorem prtI_0 (hj : 0 ≤ m.junctions) : prtI m [] (iotaI 0 m.junctions.toNat) where
  ln := by rw [iotaI_len]; omega
  rg := fun j hj => by rw [iotaI_len] at hj; rw [iotaI_get hj]; omega
  eq := fun u v hu hv => by
    have hu2 : 0 ≤ u ∧ u < m.junctions := hu
    have hv2 : 0 ≤ v ∧ v < m.junctions := hv
    rw [iotaI_get (by omega), iotaI_get (by omega)]
    exact ⟨fun e => by rw [show u = v by omega]; exact cnA_refl, fun e => by rw [cnA_nil e]⟩
theorem rpI_0 : rpI o h l 0 o := ⟨rfl, fun k hk => by omega, fun k _ => rfl⟩
theorem rpI_set (r : rpI o h l j o') (h0 : 0 ≤ j) (hj : j < o'.length) (e : o'.getD j.toNat 0 = h) : rpI o h l (j + 1) (o'.set j.toNat l) where
  ln := by rw [List.length_set]; exact r.ln
  lo := fun k hk => by
    by_cases ek : k = j.toNat
    · subst ek
      rw [List.getD_eq_getElem?_getD, List.getElem?_set_self (by omega), Option.getD_some, if_pos (by rw [← r.hi _ (by omega)]; exact e)]
    · rw [List.getD_eq_getElem?_getD, List.getElem?_set_ne (by omega), ← List.getD_eq_getElem?_getD]
      exact r.lo k (by omega)
  hi := fun k hk => by
    rw [List.getD_eq_getElem?_getD, List.getElem?_set_ne (by omega), ← List.getD_eq_getElem?_getD]
    exact r.hi k (by omega)
theorem rpI_keep (r : rpI o h l j o') (h0 : 0 ≤ j) (e : ¬o'.getD j.toNat 0 = h) : rpI o h l (j + 1) o' where
  ln := r.ln
  lo := fun k hk => by
    by_cases ek : k = j.toNat
    · subst ek
      rw [r.hi _ (by omega)] at e ⊢
      rw [if_neg e]
    · exact r.lo k (by omega)
  hi := fun k hk => r.hi k (by omega)
theorem mm_eq {a b x y : Int} : ((if x = max a b then min a b else x) = (if y = max a b then min a b else y)) ↔ (x = y ∨ ((x = a ∨ x = b) ∧ (y = a ∨ y = b))) := by
  split <;> split <;> omega
theorem prt_add (hm : okMine m = true) {i : Int} (hi : 0 ≤ i ∧ i < m.airways.length) (p : prtI m ls o)
    (r : rpI o (max (o.getD (m.airways.getD i.toNat default).from_.toNat 0) (o.getD (m.airways.getD i.toNat default).to.toNat 0)) (min (o.getD (m.airways.getD i.toNat default).from_.toNat 0) (o.getD (m.airways.getD i.toNat default).to.toNat 0)) j o') (hj : o'.length ≤ j) : prtI m (ls ++ [i]) o' := by
  have q := (okMine_p hm).2.2 i.toNat (by omega)
  have hF : inV m (m.airways.getD i.toNat default).from_ := q.2.1
  have hT : inV m (m.airways.getD i.toNat default).to := q.2.2
  have hF2 : 0 ≤ (m.airways.getD i.toNat default).from_ ∧ (m.airways.getD i.toNat default).from_ < m.junctions := hF
  have hT2 : 0 ≤ (m.airways.getD i.toNat default).to ∧ (m.airways.getD i.toNat default).to < m.junctions := hT
  have hln := p.ln
  have hrn := r.ln
  refine ⟨by omega, fun k hk => ?_, fun u v hu hv => ?_⟩
  · have a := p.rg k (by omega)
    have b := p.rg (m.airways.getD i.toNat default).from_.toNat (by omega)
    have c := p.rg (m.airways.getD i.toNat default).to.toNat (by omega)
    rw [r.lo k (by omega)]
    split <;> omega
  · have hu2 : 0 ≤ u ∧ u < m.junctions := hu
    have hv2 : 0 ≤ v ∧ v < m.junctions := hv
    rw [r.lo _ (by omega), r.lo _ (by omega), mm_eq, cnA_snoc hm hi, ← p.eq u v hu hv, ← p.eq u _ hu hF, ← p.eq u _ hu hT, ← p.eq v _ hv hF, ← p.eq v _ hv hT]
end
theorem take_s {ls : List Int} {i : Int} (h0 : 0 ≤ i) (hi : i < ls.length) : ls.take (i + 1).toNat = ls.take i.toNat ++ [ls.getD i.toNat 0] := by
  rw [show (i + 1).toNat = i.toNat + 1 by omega, List.take_add_one, List.getD_eq_getElem?_getD, List.getElem?_eq_getElem (by omega)]; rfl
/-- the tree that both find -/
noncomputable def treeC (m : GMine) : Nat → List Int
  | 0 => []
  | i + 1 => haveI := Classical.propDecidable (cnA m (treeC m i) (m.airways.getD i default).from_ (m.airways.getD i default).to)
    if cnA m (treeC m i) (m.airways.getD i default).from_ (m.airways.getD i default).to then treeC m i else treeC m i ++ [(i : Int)]
section
variable {m : GMine} {i : Int}
theorem treeC_k (h0 : 0 ≤ i) (h : cnA m (treeC m i.toNat) (m.airways.getD i.toNat default).from_ (m.airways.getD i.toNat default).to) : treeC m (i + 1).toNat = treeC m i.toNat := by
  rw [show (i + 1).toNat = i.toNat + 1 by omega]
  rw [treeC, if_pos h]
theorem treeC_a (h0 : 0 ≤ i) (h : ¬cnA m (treeC m i.toNat) (m.airways.getD i.toNat default).from_ (m.airways.getD i.toNat default).to) : treeC m (i + 1).toNat = treeC m i.toNat ++ [i] := by
  rw [show (i + 1).toNat = i.toNat + 1 by omega]
  rw [treeC, if_neg h, show ((i.toNat : Nat) : Int) = i by omega]
theorem treeC_I : ∀ n : Nat, trI m (treeC m n) n
  | 0 => trI_0
  | n + 1 => by
    have h := treeC_I n
    by_cases c : cnA m (treeC m n) (m.airways.getD n default).from_ (m.airways.getD n default).to
    · have e := treeC_k (m := m) (i := n) (by omega) c
      rw [show ((n : Int) + 1).toNat = n + 1 by omega] at e
      rw [e]; exact trI_keep h (by omega) c
    · have e := treeC_a (m := m) (i := n) (by omega) c
      rw [show ((n : Int) + 1).toNat = n + 1 by omega] at e
      rw [e]; exact trI_add h (by omega)
end
end Go.Proofs.Ytfcnlpghdpfjkaa

