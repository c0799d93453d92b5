/- Contracts of functions of the program, and what they compute. Conditions: those that each theorem states. -/
import Derived.Test.YtdhkpmaanegjkaaProg
import Derived.Test.YtdhkpmaanegjkaaK2
set_option linter.unusedVariables false
set_option linter.unusedSimpArgs false
namespace Go.Proofs.Ytdhkpmaanegjkaa
open Go.Av
attribute [local irreducible] Go.IntKind.wrap
set_option maxRecDepth 20000
set_option maxHeartbeats 4000000

/-- a row of numbers, as a row of its own -/
abbrev eR (xs : List Int) : List (List PV) := xs.map eI
theorem tkRows {xs : List (List Int)} {n : Nat} (h : n = xs.length) : ((((xs.map eR).drop 0).take n).map fun e => [PV.lst [.c (.int .i64 0)] e]) = xs.map eLI := by
  subst h
  rw [List.drop_zero, List.take_of_length_le (by simp), List.map_map]; rfl
theorem getR {xs : List (List Int)} {i : Nat} : (List.map eR xs).getD i [] = eR (xs.getD i []) := by
  simp only [List.getD_eq_getElem?_getD, List.getElem?_map]
  cases xs[i]? <;> rfl
theorem stR {xs : List (List Int)} {i : Nat} {v : List Int} : (List.map eR xs).set i (List.map eI v) = List.map eR (xs.set i v) := by rw [List.map_set]
theorem rpR {n : Nat} : (List.replicate n [] : List (List (List PV))) = List.map eR (List.replicate n []) := by simp
theorem apR {xs ys : List (List Int)} : List.map eR xs ++ List.map eR ys = List.map eR (xs ++ ys) := by simp
theorem getR_len {xs : List (List Int)} {i : Nat} : ((List.map eR xs).getD i []).length = (xs.getD i []).length := by rw [getR]; simp
theorem setR_same {xs : List (List Int)} {i : Nat} (h : i < xs.length) : (List.map eR xs).set i ((xs.getD i []).map eI) = List.map eR xs := by
  rw [stR]
  congr 1
  refine ext_getD [] (by simp) fun j hj => ?_
  rw [getD_set]
  split
  · rename_i e; rw [e.1]
  · rfl
/-- marks, one behind the other through all rows -/
def markI (k : Int) (xs : List (List Int)) : List (List Int) := (List.range xs.length).map fun (j : Nat) => iotaI (k + sumT List.length xs j) (xs.getD j []).length
theorem markI_len {k : Int} {xs : List (List Int)} : (markI k xs).length = xs.length := by simp [markI]
theorem markI_get {k : Int} {xs : List (List Int)} {j : Nat} (h : j < xs.length) : (markI k xs).getD j [] = iotaI (k + sumT List.length xs j) (xs.getD j []).length := by
  simp [markI, List.getD_eq_getElem?_getD, h]
def totI (xs : List (List Int)) : Nat := (xs.map List.length).sum
theorem sumT_tot {xs : List (List Int)} {i : Int} : sumT List.length xs i ≤ totI xs := sumT_le
theorem tot_e {xs : List (List Int)} {i : Int} (h : xs.length ≤ i) : sumT List.length xs i = totI xs := sumT_e h
theorem markI_tot {k : Int} {xs : List (List Int)} : totI (markI k xs) = totI xs := by
  have h : (markI k xs).map List.length = xs.map List.length := by
    refine List.ext_getElem (by simp [markI]) fun j h1 h2 => ?_
    have hj : j < xs.length := by simpa using h2
    simp [markI, iotaI_len, List.getD_eq_getElem?_getD, hj]
  unfold totI; rw [h]
theorem row_tot {xs : List (List Int)} {i : Int} (h0 : 0 ≤ i) (h : i < xs.length) : sumT List.length xs (i + 1) = sumT List.length xs i + (xs.getD i.toNat []).length ∧ (xs.getD i.toNat []).length ≤ totI xs := by
  have e := sumT_s (f := List.length) h0 h []
  have := sumT_tot (xs := xs) (i := i + 1)
  exact ⟨e, by omega⟩
end Go.Proofs.Ytdhkpmaanegjkaa
