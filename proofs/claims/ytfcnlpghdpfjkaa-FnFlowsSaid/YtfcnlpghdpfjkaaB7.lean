/- Contracts of functions of the program, and what they compute. Conditions: those that each theorem states. -/
import Derived.Test.YtfcnlpghdpfjkaaProg
import Derived.Test.YtfcnlpghdpfjkaaB5
set_option linter.unusedVariables false
set_option linter.unusedSimpArgs false
namespace Go.Proofs.Ytfcnlpghdpfjkaa
open Go.Av
attribute [local irreducible] Go.IntKind.wrap leastI rdZ rd rootI okMine treeC
set_option maxRecDepth 20000
set_option maxHeartbeats 8000000

/-! The meshes, told exactly. Plain. -/
inductive MshR (m : GMine) (T : List Int) : Nat → List (List Int) → Prop
  | nil : MshR m T 0 []
  | tree {i : Nat} {ss : List (List Int)} (h : MshR m T i ss) (hi : (i : Int) ∈ T) : MshR m T (i + 1) ss
  | mesh {i n : Nat} {ss : List (List Int)} {ws : List Int} (h : MshR m T i ss) (hi : (i : Int) ∉ T) (hw : WlkR m T (m.airways.getD i default).from_ n (m.airways.getD i default).to ws) : MshR m T (i + 1) (ss ++ [((i : Int) + 1) :: ws])
section
variable {m : GMine} {T : List Int}
theorem MshR.fun_ {i : Nat} {ss : List (List Int)} (h : MshR m T i ss) : ∀ {ss' : List (List Int)}, MshR m T i ss' → ss = ss' := by
  induction h with
  | nil => intro ss' h'; cases h'; rfl
  | tree h hi ih =>
    intro ss' h'
    cases h' with
    | tree h2 _ => exact ih h2
    | mesh h2 hj _ => exact absurd hi hj
  | mesh h hi hw ih =>
    intro ss' h'
    cases h' with
    | tree h2 hj => exact absurd hj hi
    | mesh h2 hj hw2 =>
      have e := dsA_fun hw.ds hw2.ds
      subst e
      rw [ih h2, hw.fun_ hw2]
theorem MshR.inn {i : Int} {ss : List (List Int)} (h : MshR m T i.toNat ss) (h0 : 0 ≤ i) (hi : i ∈ T) : MshR m T (i + 1).toNat ss := by
  rw [show (i + 1).toNat = i.toNat + 1 by omega]
  exact .tree h (by rw [show ((i.toNat : Nat) : Int) = i by omega]; exact hi)
theorem MshR.out {i : Int} {n : Nat} {ss : List (List Int)} {ws : List Int} (h : MshR m T i.toNat ss) (h0 : 0 ≤ i) (hi : i ∉ T) (hw : WlkR m T (m.airways.getD i.toNat default).from_ n (m.airways.getD i.toNat default).to ws) : MshR m T (i + 1).toNat (ss ++ [(i + 1) :: ws]) := by
  rw [show (i + 1).toNat = i.toNat + 1 by omega]
  have := MshR.mesh h (by rw [show ((i.toNat : Nat) : Int) = i by omega]; exact hi) hw
  rwa [show ((i.toNat : Nat) : Int) = i by omega] at this
/-- how long the walk in the tree may be -/
theorem ds_16 (hm : okMine m = true) {n : Nat} {u v : Int} (hv : inV m v) (h : dsA m T n u v) : n ≤ 16 := by
  have hJ := (okMine_p hm).1
  have hv2 : 0 ≤ v ∧ v < m.junctions := hv
  have key : ∀ (n : Nat) (u : Int), inV m u → dsA m T n u v → ∃ A : List Int, A.length = n + 1 ∧ A.Nodup ∧ ∀ x ∈ A, inV m x ∧ ∃ k, k ≤ n ∧ dsA m T k x v := by
    intro n
    induction n with
    | zero => intro u hu h; exact ⟨[u], rfl, by simp, fun x hx => by rw [List.mem_singleton.1 hx]; exact ⟨hu, 0, Nat.le_refl 0, h⟩⟩
    | succ n ih =>
      intro u hu h
      obtain ⟨x, hx, hn⟩ := h.1
      have hd : dsA m T n x v := ⟨hn, fun k hk => by have := h.2 (k + 1) ⟨x, hx, hk⟩; omega⟩
      obtain ⟨A, b1, b2, b3⟩ := ih x (stA_V hm hx).2 hd
      refine ⟨u :: A, by simp [b1], List.nodup_cons.2 ⟨fun hu => ?_, b2⟩, fun y hy => ?_⟩
      · obtain ⟨_, k, k1, k2⟩ := b3 u hu
        have := dsA_fun h k2; omega
      · rcases List.mem_cons.1 hy with rfl | hy
        · exact ⟨hu, n + 1, Nat.le_refl _, h⟩
        · obtain ⟨c1, k, k1, k2⟩ := b3 y hy
          exact ⟨c1, k, by omega, k2⟩
  cases n with
  | zero => omega
  | succ n =>
    obtain ⟨x, hx, _⟩ := h.1
    obtain ⟨A, b1, b2, b3⟩ := key (n + 1) u (stA_V hm hx).1 h
    have := pigW m.junctions.toNat A b2 (fun x hx => by have := (b3 x hx).1; unfold inV at this; omega)
    omega
theorem MshR.I (hm : okMine m = true) (hT : ∀ i ∈ T, 0 ≤ i ∧ i < m.airways.length) {i : Nat} {ss : List (List Int)} (h : MshR m T i ss) : i ≤ m.airways.length → mshI m ss i := by
  induction h with
  | nil => intro _; exact mshI_0
  | tree h hi ih => intro hl; exact mshI_k (ih (by omega))
  | @mesh i n ss ws h hi hw ih =>
    intro hl
    obtain ⟨es, e1, e2, e3⟩ := hw.way hT
    have q := ((okMine_p hm).2.2 i (by omega)).2
    have := msh_of (m := m) (T := T) hm (i := i) (by omega) (by omega) (es := es) (ws := ws) (n := n) e1 (by omega) (by omega) hw.ds (ds_16 hm q.1 hw.ds)
    exact mshI_a (ih (by omega)) this rfl
end
/-- the meshes that both find -/
noncomputable def mshC (m : GMine) : List (List Int) :=
  haveI := Classical.propDecidable (∃ ss, MshR m (treeC m m.airways.length) m.airways.length ss)
  if h : ∃ ss, MshR m (treeC m m.airways.length) m.airways.length ss then h.choose else []
theorem mshC_of {m : GMine} {ss : List (List Int)} (h : MshR m (treeC m m.airways.length) m.airways.length ss) : ss = mshC m ∧ MshR m (treeC m m.airways.length) m.airways.length (mshC m) := by
  have hx : ∃ ss, MshR m (treeC m m.airways.length) m.airways.length ss := ⟨ss, h⟩
  have e : mshC m = hx.choose := dif_pos hx
  have k := hx.choose_spec
  rw [e]
  exact ⟨h.fun_ k, k⟩
end Go.Proofs.Ytfcnlpghdpfjkaa

