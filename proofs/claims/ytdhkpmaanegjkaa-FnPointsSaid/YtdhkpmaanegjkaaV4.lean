/- Contracts of functions of the program, and what they compute. Conditions: those that each theorem states. -/
import Derived.Test.YtdhkpmaanegjkaaProg
import Derived.Test.YtdhkpmaanegjkaaV3
import Derived.Test.YtdhkpmaanegjkaaW2
import Derived.Test.YtdhkpmaanegjkaaK16
set_option linter.unusedVariables false
set_option linter.unusedSimpArgs false
namespace Go.Proofs.Ytdhkpmaanegjkaa
open Go.Av
attribute [local irreducible] Go.IntKind.wrap leastI rdZ rd rootI rawA okMine wlk
set_option maxRecDepth 20000
set_option maxHeartbeats 40000000

/-! Meshes; the shortest path. -/
section
variable {m : GMine} {T : List Int}
theorem cnA_sym (hm : okMine m = true) {u v : Int} (h : cnA m T u v) : cnA m T v u := by
  obtain ⟨n, hn⟩ := h
  exact ⟨n, wkA_sym hm n u v hn⟩
/-- one mesh -/
structure mshP (m : GMine) (w : List Int) : Prop where
  ln : 2 ≤ w.length ∧ w.length ≤ 17
  hd : 1 ≤ w.getD 0 0 ∧ w.getD 0 0 ≤ m.airways.length
  wk : wlk m w (m.airways.getD (w.getD 0 0 - 1).toNat default).from_ = (m.airways.getD (w.getD 0 0 - 1).toNat default).from_
  bd : bdL 24 w
/-- the meshes of the first i airways -/
structure mshI (m : GMine) (ss : List (List Int)) (i : Int) : Prop where
  at_ : ∀ j : Nat, j < ss.length → mshP m (ss.getD j [])
  inc : ∀ j : Nat, 0 < j → j < ss.length → (ss.getD (j - 1) []).getD 0 0 < (ss.getD j []).getD 0 0
  le : ∀ j : Nat, j < ss.length → (ss.getD j []).getD 0 0 ≤ i
  ln : (ss.length : Int) ≤ i
theorem mshI_0 : mshI m [] 0 := ⟨fun j h => by simp at h, fun j _ h => by simp at h, fun j h => by simp at h, by simp⟩
theorem mshI_k {ss : List (List Int)} {i : Int} (h : mshI m ss i) : mshI m ss (i + 1) := ⟨h.at_, h.inc, fun j hj => by have := h.le j hj; omega, by have := h.ln; omega⟩
theorem getS {ss : List (List Int)} {w : List Int} {j : Nat} (h : j < ss.length) : (ss ++ [w]).getD j [] = ss.getD j [] := by
  rw [List.getD_eq_getElem?_getD, List.getD_eq_getElem?_getD, List.getElem?_append_left h]
theorem getE {ss : List (List Int)} {w : List Int} : (ss ++ [w]).getD ss.length [] = w := by simp [List.getD_eq_getElem?_getD]
theorem mshI_a {ss : List (List Int)} {i : Int} {w : List Int} (h : mshI m ss i) (hw : mshP m w) (h0 : w.getD 0 0 = i + 1) : mshI m (ss ++ [w]) (i + 1) := by
  refine ⟨fun j hj => ?_, fun j hj0 hj => ?_, fun j hj => ?_, by have := h.ln; simp; omega⟩
  all_goals rw [List.length_append, List.length_singleton] at hj
  · by_cases e : j < ss.length
    · rw [getS e]; exact h.at_ j e
    · rw [show j = ss.length by omega, getE]; exact hw
  · by_cases e : j < ss.length
    · rw [getS e, getS (by omega)]; exact h.inc j hj0 e
    · rw [show j = ss.length by omega, getE, getS (by omega)]
      have := h.le (ss.length - 1) (by omega)
      omega
  · by_cases e : j < ss.length
    · rw [getS e]; have := h.le j e; omega
    · rw [show j = ss.length by omega, getE]; omega
theorem spL_b {a : Int} {i : Nat} (hi : i < m.airways.length) (hl : m.airways.length ≤ 24) : -24 ≤ spL m a i ∧ spL m a i ≤ 24 := by
  unfold spL; split <;> omega
theorem spW_b (hl : m.airways.length ≤ 24) : ∀ (es : List Nat) (a : Int), okW m [] a es → bdL 24 (spW m a es)
  | [], a, _ => fun j => by simp [spW]
  | i :: es, a, ho => fun j => by
    have ih := spW_b hl es _ ho.2.2
    cases j with
    | zero => simpa [spW] using spL_b ho.1 hl
    | succ j => simpa [spW] using ih j
theorem bd_c {x : Int} {w : List Int} (h : bdL 24 w) (hx : -24 ≤ x ∧ x ≤ 24) : bdL 24 (x :: w) := fun j => by
  cases j with
  | zero => simpa using hx
  | succ j => simpa using h j
/-- the mesh of an airway that is not in the tree -/
theorem msh_of (hm : okMine m = true) {i : Int} (h0 : 0 ≤ i) (hi : i < m.airways.length) {es : List Nat} {ws : List Int} {n : Nat} (hw : wayI m T (m.airways.getD i.toNat default).to (m.airways.getD i.toNat default).from_ es ws) (h3 : n = ws.length) (h4 : n = es.length) (h5 : dsA m T n (m.airways.getD i.toNat default).to (m.airways.getD i.toNat default).from_) (h6 : n ≤ 16) : mshP m ((i + 1) :: ws) := by
  have q := okMine_p hm
  have qa := okAirway_b (q.2.2 i.toNat (by omega)).1
  have hn : 0 < n := by
    cases n with
    | zero => have := h5.1; exact absurd (show (m.airways.getD i.toNat default).to = (m.airways.getD i.toNat default).from_ from this) (by omega)
    | succ n => omega
  refine ⟨by simp; omega, by simp; omega, ?_, bd_c ?_ (by omega)⟩
  · rw [List.getD_cons_zero, show i + 1 - 1 = i by omega, wlk_c]
    have ea : absI (i + 1) = i + 1 := absI_p (by omega)
    rw [ea, if_neg (by omega), show i + 1 - 1 = i by omega, if_pos ⟨by omega, rfl⟩, hw.sp, wlk_sp hm es _ hw.ok, hw.en]
  · rw [hw.sp]; exact spW_b q.2.1 es _ hw.ok
end
theorem capT {x : Int} {ws : List Int} {n : Nat} (h : ws.length + 1 ≤ n) : ((List.map eI (x :: ws)).drop 0).take n = List.map eI (x :: ws) := by
  rw [List.drop_zero, List.take_of_length_le (by simp; omega)]
inductive MsR (m : GMine) (rs : List AV) (ho : List OB) : Prop
  | no (h1 : rs = [.osl 0 0 0, In 1]) (h2 : ho = [.rows false .flat (eI 0) [] none])
  | ok (ss : List (List Int)) (h1 : rs = [.p .fresh (LLI ss), In 0]) (h2 : ho = []) (h : okMine m = true) (h3 : mshI m ss m.airways.length)
theorem inJ_V {m : GMine} {n : Int} (h : inJ m.junctions n = true) : inV m n := by
  have := inR_iff.1 h
  unfold inV; omega
theorem V_inJ {m : GMine} {n : Int} (h : inV m n) : inJ m.junctions n = true := by
  unfold inV at h
  exact inR_iff.2 (by omega)
theorem iota_r {L : Nat} : ∀ i ∈ iotaI 0 L, 0 ≤ i ∧ i < (L : Int) := by
  intro i hi
  unfold iotaI at hi
  obtain ⟨j, h1, rfl⟩ := List.mem_map.1 hi
  have := List.mem_range.1 h1
  omega
/-- the shortest path, in one form -/
inductive PofR (m : GMine) (f to : Int) (rs : List AV) (ho : List OB) : Prop
  | mk (n : Nat) (ws : List Int) (c : Int) (h1 : rs = [.osl 0 0 n, In c]) (h2 : ho = [.row false .flat (eI 0) (ws.map eI)]) (h3 : n = ws.length) (h4 : c ≠ 0 → n = 0 ∧ c ∈ [1, 2, 3])
      (h : c = 0 → okMine m = true ∧ inV m f ∧ inV m to ∧ n ≤ 16 ∧ dsA m (iotaI 0 m.airways.length) n f to ∧ ∃ es : List Nat, wayI m (iotaI 0 m.airways.length) f to es ws)
      (h5 : okMine m = true → inV m f → inV m to → cnA m (iotaI 0 m.airways.length) f to → c = 0)
end Go.Proofs.Ytdhkpmaanegjkaa
