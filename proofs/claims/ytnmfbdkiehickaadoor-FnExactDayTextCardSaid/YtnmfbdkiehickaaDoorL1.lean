/- Contracts of functions of the program, and what they compute. Conditions: those that each theorem states. -/
import Derived.Test.YtnmfbdkiehickaaDoorProg
import Derived.Test.YtnmfbdkiehickaaDoorM1
set_option linter.unusedVariables false
set_option linter.unusedSimpArgs false
namespace Go.Proofs.YtnmfbdkiehickaaDoor
open Go.Av
attribute [local irreducible] Go.IntKind.wrap
set_option maxRecDepth 20000
set_option maxHeartbeats 2000000

/-- the source of draws: the code, the place, the seed -/
abbrev srcO (c : List Int) (at_ s : Int) : OB := .fix [Lx (LY c), In at_, I .u64 s]
def bytes (c : List Int) : Prop := ∀ x ∈ c, 0 ≤ x ∧ x ≤ 255
theorem bytes_getD {c : List Int} (h : bytes c) (n : Nat) : 0 ≤ c.getD n 0 ∧ c.getD n 0 ≤ 255 := by
  rw [List.getD_eq_getElem?_getD]
  cases hx : c[n]? with
  | none => simp
  | some x => exact h x (List.mem_of_getElem? hx)
/-- what a function hands back, blocks of its own with it -/
inductive RetV {α : Type} (f : α → List AV) (g : α → List OB) (φ : α → Prop) (rs : List AV) (ho : List OB) : Prop
  | mk (v : α) (h1 : rs = f v) (h2 : ho = g v) (h3 : φ v)
theorem ArgF.ret {α : Type} {g : α → List AV} {o : α → List OB} {φ : α → Prop} {n : Nat} {P : Program} {f : FuncId} {args : List AV} {hin : List OB} {K : List AV → List OB → Prop} (h : FnSem P f args hin (RetV g o φ)) (hk : ∀ v, φ v → K (g v) (o v)) : ArgF n P f args hin K :=
  ⟨_, h, fun rs ho hR _ => by obtain ⟨v, rfl, rfl, h3⟩ := hR; exact hk v h3⟩
/-- a draw: what comes back, and the place moved on by at most k -/
inductive SrcV {α : Type} (f : α → List AV) (φ : α → Prop) (c : List Int) (k p : Int) (rs : List AV) (ho : List OB) : Prop
  | mk (v : α) (p' s' : Int) (h1 : rs = f v) (h2 : ho = [srcO c p' s']) (h3 : φ v) (h4 : p ≤ p' ∧ p' ≤ p + k)
abbrev SrcR (c : List Int) (k p lo hi : Int) : List AV → List OB → Prop := SrcV (fun n : Int => [In n]) (fun n => lo ≤ n ∧ n ≤ hi) c k p
abbrev SrcB (c : List Int) (k p : Int) : List AV → List OB → Prop := SrcV (fun b : Bool => [Bo b]) (fun _ => True) c k p
/-- the same, where a row of the caller's lies beside it -/
inductive SrcW {α : Type} (f : α → List AV) (φ : α → Prop) (c : List Int) (k p : Int) (ob : OB) (rs : List AV) (ho : List OB) : Prop
  | mk (v : α) (p' s' : Int) (h1 : rs = f v) (h2 : ho = [srcO c p' s', ob]) (h3 : φ v) (h4 : p ≤ p' ∧ p' ≤ p + k)
theorem ArgF.src {α : Type} {g : α → List AV} {φ : α → Prop} {c : List Int} {k p : Int} {n : Nat} {P : Program} {f : FuncId} {args : List AV} {hin : List OB} {K : List AV → List OB → Prop} (h : FnSem P f args hin (SrcV g φ c k p)) (hk : ∀ v p' s', φ v → p ≤ p' ∧ p' ≤ p + k → K (g v) [srcO c p' s']) : ArgF n P f args hin K :=
  ⟨_, h, fun rs ho hR _ => by obtain ⟨v, p', s', rfl, rfl, h3, h4⟩ := hR; exact hk v p' s' h3 h4⟩
theorem ArgF.srw {α : Type} {g : α → List AV} {φ : α → Prop} {c : List Int} {k p : Int} {ob : OB} {n : Nat} {P : Program} {f : FuncId} {args : List AV} {hin : List OB} {K : List AV → List OB → Prop} (h : FnSem P f args hin (SrcW g φ c k p ob)) (hk : ∀ v p' s', φ v → p ≤ p' ∧ p' ≤ p + k → K (g v) [srcO c p' s', ob]) : ArgF n P f args hin K :=
  ⟨_, h, fun rs ho hR _ => by obtain ⟨v, p', s', rfl, rfl, h3, h4⟩ := hR; exact hk v p' s' h3 h4⟩
theorem and255 {x : Int} : 0 ≤ bitI .and .u64 x 255 ∧ bitI .and .u64 x 255 ≤ 255 := by
  have h : (BitVec.ofInt 64 x &&& BitVec.ofInt 64 255).toNat ≤ 255 := by
    rw [BitVec.toNat_and]; exact Nat.and_le_right
  have e : bitI .and .u64 x 255 = ((BitVec.ofInt 64 x &&& BitVec.ofInt 64 255).toNat : Int) := (wrap_eq_iff .u64 _).2 (by change (0 : Int) ≤ ((BitVec.ofInt 64 x &&& BitVec.ofInt 64 255).toNat : Int) ∧ ((BitVec.ofInt 64 x &&& BitVec.ofInt 64 255).toNat : Int) ≤ 18446744073709551615; omega)
  rw [e]; omega
end Go.Proofs.YtnmfbdkiehickaaDoor
