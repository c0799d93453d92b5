/- Contracts of functions of the program, and what they compute. Conditions: those that each theorem states. -/
import Derived.Test.YtfcnlpghdpfjkaaProg
import Derived.Test.YtfcnlpghdpfjkaaM1
set_option linter.unusedVariables false
set_option linter.unusedSimpArgs false
namespace Go.Proofs.Ytfcnlpghdpfjkaa
open Go.Av
attribute [local irreducible] Go.IntKind.wrap
set_option maxRecDepth 20000
set_option maxHeartbeats 4000000

/-- a row of numbers, as a row of its own -/
abbrev eR (xs : List Int) : List (List PV) := xs.map eI
theorem tkRows {xs : List (List Int)} {n : Nat} (h : n = xs.length) : ((((xs.map eR).drop 0).take n).map fun e => [PV.lst [.c (.int .i64 0)] e]) = xs.map eLI := by
  subst h
  rw [List.drop_zero, List.take_of_length_le (by simp), List.map_map]; rfl
theorem apR {xs ys : List (List Int)} : List.map eR xs ++ List.map eR ys = List.map eR (xs ++ ys) := by simp
end Go.Proofs.Ytfcnlpghdpfjkaa

