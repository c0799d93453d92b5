/- Contracts of functions of the program, and what they compute. Conditions: those that each theorem states. -/
import Derived.Test.YtfeebelnpibppaaProg
import Derived.Test.YtfeebelnpibppaaD4
import Derived.Test.YtfeebelnpibppaaK20
import Derived.Test.YtfeebelnpibppaaH3
set_option linter.unusedVariables false
set_option linter.unusedSimpArgs false
namespace Go.Proofs.Ytfeebelnpibppaa
open Go.Av
attribute [local irreducible] Go.IntKind.wrap leastI rdZ rd rootI rawA
set_option maxRecDepth 20000
set_option maxHeartbeats 8000000

/-! The resistances of a mine; doors. -/
def resA (a : GAirway) : Int := max (rawA a a.section_) 1
def resL (m : GMine) : List Int := m.airways.map resA
/-- what hands back a list or an error -/
inductive LstR (ok : Bool) (e : Int) (xs : List Int) (rs : List AV) (ho : List OB) : Prop
  | bad (h : ok = false) (h1 : rs = [.osl 0 0 0, In e]) (h2 : ho = [Rw .flat (eI 0) []])
  | good (h : ok = true) (h1 : rs = [.osl 0 0 xs.length, In 0]) (h2 : ho = [Rw .flat (eI 0) (xs.map eI)])
def resOkM (m : GMine) : Bool := okMine m && (resL m).all (inR · 1 1000000)
def resErr (m : GMine) : Int := if okMine m then 6 else 1
theorem getD_mapT {α β : Type} {f : α → β} {xs : List α} {j : Nat} (hj : j < xs.length) (d : α) (z : β) : (xs.map f).getD j z = f (xs.getD j d) := by
  rw [List.getD_eq_getElem?_getD, List.getD_eq_getElem?_getD, List.getElem?_map, List.getElem?_eq_getElem hj]; rfl
theorem takeS {α : Type} {xs : List α} {i : Int} (h0 : 0 ≤ i) (h1 : i < xs.length) (d : α) : xs.take (i + 1).toNat = xs.take i.toNat ++ [xs.getD i.toNat d] := by
  have hi : i.toNat < xs.length := by omega
  rw [show (i + 1).toNat = i.toNat + 1 by omega, List.take_add_one, List.getD_eq_getElem?_getD, List.getElem?_eq_getElem hi]; rfl
end Go.Proofs.Ytfeebelnpibppaa
