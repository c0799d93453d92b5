/-
  No cell of these rows narrows 'for every input' (looked for: loops, veiled, ifaces, maps, wideKeys, modest, calm, conditions, laid).
  DERIVED. THE GIVEN ROWS OF THIS SEAT. 11 by the template 'for every input the law returns true; each argument reads behind the call as it read before'; 0 by the template 'total and deterministic' (their statements: YtnmfbdkiehickaaTotals.lean).
  GIVEN WITH THE SEED: the statements are not yours to turn. If you find one false, say at which input.
  Laid BY PROGRAM, IN A SANDBOX (cutbox-rows.mjs): the forced cells as the released guide's own fill.sh prints them over the translation 4e554fbb63810508… (all of the seat's roots in one cut). By AI agents, Wed Nov 11 2026. No macro, syntax, notation, axiom, sorry.
-/
import Derived.Test.YtnmfbdkiehickaaChecked
import GoSem.Claim
import GoSem.ClaimJoined
import GoSem.ClaimMapViews
import Derived.JoinedTies
import Derived.KernelRfl
namespace Go.Proofs.Ytnmfbdkiehickaa
/- THE CELL 'sum', in the pinned program and in every row, IS THE sha256 OF THE DUMP (.gsa) THAT YtnmfbdkiehickaaProg.lean LOADS. Nothing in Lean hashes anything: it is a label: what it is worth is what the hold of that sum in a sandbox is worth. -/
noncomputable def Try.pinned : Pinned := { name := "ytnmfbdkiehickaa", sum := "4e554fbb638105083bfb1895fb9bc221a0fc157fe0b5ad83e755824257a0a022", checked := Try.checked }
namespace Rows
def none {H : Type} : Left H := { results := [], args := [] }

/-- 'laws.FnSplits': WHATEVER THE INPUT: true; the input reads as it did. -/
def fnSplitsSpec : ChangeSpec := { name := "fnSplits", fn := fun _ => fun
  | [d1, d2] => { results := [.lit (.bool true)], args := [d1, d2] }
  | _ => none }
def fnSplitsRow : OpenClaim := { program := "ytnmfbdkiehickaa", sum := "4e554fbb638105083bfb1895fb9bc221a0fc157fe0b5ad83e755824257a0a022", func := "loop.example/g01021/laws.FnSplits", spec := "fnSplits", unfollowed := true, recurses := true, plainKeys := false, apart := false }
def FnSplitsSaid : Prop := fnSplitsRow.holds Try.pinned (OpenSpec.ofChange fnSplitsSpec)

/-- ITS FALSE NEIGHBOUR: 'it returns false'. Refute it at one input. -/
def fnSplitsWrong : ChangeSpec := { name := "fnSplits", fn := fun _ => fun
  | [d1, d2] => { results := [.lit (.bool false)], args := [d1, d2] }
  | _ => none }
def FnSplitsWrongFalsely : Prop := fnSplitsRow.holds Try.pinned (OpenSpec.ofChange fnSplitsWrong)

/-- 'laws.FnCalm': WHATEVER THE INPUT: true; the input reads as it did. -/
def fnCalmSpec : ChangeSpec := { name := "fnCalm", fn := fun _ => fun
  | [d] => { results := [.lit (.bool true)], args := [d] }
  | _ => none }
def fnCalmRow : OpenClaim := { program := "ytnmfbdkiehickaa", sum := "4e554fbb638105083bfb1895fb9bc221a0fc157fe0b5ad83e755824257a0a022", func := "loop.example/g01021/laws.FnCalm", spec := "fnCalm", unfollowed := true, recurses := true, plainKeys := false, apart := false }
def FnCalmSaid : Prop := fnCalmRow.holds Try.pinned (OpenSpec.ofChange fnCalmSpec)

/-- ITS FALSE NEIGHBOUR: 'it returns false'. Refute it at one input. -/
def fnCalmWrong : ChangeSpec := { name := "fnCalm", fn := fun _ => fun
  | [d] => { results := [.lit (.bool false)], args := [d] }
  | _ => none }
def FnCalmWrongFalsely : Prop := fnCalmRow.holds Try.pinned (OpenSpec.ofChange fnCalmWrong)

/-- 'laws.FnExactCheapestDay': WHATEVER THE INPUT: true; the input reads as it did. -/
def fnExactCheapestDaySpec : ChangeSpec := { name := "fnExactCheapestDay", fn := fun _ => fun
  | [d1, d2, d3] => { results := [.lit (.bool true)], args := [d1, d2, d3] }
  | _ => none }
def fnExactCheapestDayRow : OpenClaim := { program := "ytnmfbdkiehickaa", sum := "4e554fbb638105083bfb1895fb9bc221a0fc157fe0b5ad83e755824257a0a022", func := "loop.example/g01021/laws.FnExactCheapestDay", spec := "fnExactCheapestDay", unfollowed := true, recurses := true, plainKeys := false, apart := false }
def FnExactCheapestDaySaid : Prop := fnExactCheapestDayRow.holds Try.pinned (OpenSpec.ofChange fnExactCheapestDaySpec)

/-- ITS FALSE NEIGHBOUR: 'it returns false'. Refute it at one input. -/
def fnExactCheapestDayWrong : ChangeSpec := { name := "fnExactCheapestDay", fn := fun _ => fun
  | [d1, d2, d3] => { results := [.lit (.bool false)], args := [d1, d2, d3] }
  | _ => none }
def FnExactCheapestDayWrongFalsely : Prop := fnExactCheapestDayRow.holds Try.pinned (OpenSpec.ofChange fnExactCheapestDayWrong)

/-- 'laws.FnExactFewestMoves': WHATEVER THE INPUT: true; the input reads as it did. -/
def fnExactFewestMovesSpec : ChangeSpec := { name := "fnExactFewestMoves", fn := fun _ => fun
  | [d1, d2, d3] => { results := [.lit (.bool true)], args := [d1, d2, d3] }
  | _ => none }
def fnExactFewestMovesRow : OpenClaim := { program := "ytnmfbdkiehickaa", sum := "4e554fbb638105083bfb1895fb9bc221a0fc157fe0b5ad83e755824257a0a022", func := "loop.example/g01021/laws.FnExactFewestMoves", spec := "fnExactFewestMoves", unfollowed := true, recurses := true, plainKeys := false, apart := false }
def FnExactFewestMovesSaid : Prop := fnExactFewestMovesRow.holds Try.pinned (OpenSpec.ofChange fnExactFewestMovesSpec)

/-- ITS FALSE NEIGHBOUR: 'it returns false'. Refute it at one input. -/
def fnExactFewestMovesWrong : ChangeSpec := { name := "fnExactFewestMoves", fn := fun _ => fun
  | [d1, d2, d3] => { results := [.lit (.bool false)], args := [d1, d2, d3] }
  | _ => none }
def FnExactFewestMovesWrongFalsely : Prop := fnExactFewestMovesRow.holds Try.pinned (OpenSpec.ofChange fnExactFewestMovesWrong)

/-- 'laws.FnExactFlattestDay': WHATEVER THE INPUT: true; the input reads as it did. -/
def fnExactFlattestDaySpec : ChangeSpec := { name := "fnExactFlattestDay", fn := fun _ => fun
  | [d1, d2, d3] => { results := [.lit (.bool true)], args := [d1, d2, d3] }
  | _ => none }
def fnExactFlattestDayRow : OpenClaim := { program := "ytnmfbdkiehickaa", sum := "4e554fbb638105083bfb1895fb9bc221a0fc157fe0b5ad83e755824257a0a022", func := "loop.example/g01021/laws.FnExactFlattestDay", spec := "fnExactFlattestDay", unfollowed := true, recurses := true, plainKeys := false, apart := false }
def FnExactFlattestDaySaid : Prop := fnExactFlattestDayRow.holds Try.pinned (OpenSpec.ofChange fnExactFlattestDaySpec)

/-- ITS FALSE NEIGHBOUR: 'it returns false'. Refute it at one input. -/
def fnExactFlattestDayWrong : ChangeSpec := { name := "fnExactFlattestDay", fn := fun _ => fun
  | [d1, d2, d3] => { results := [.lit (.bool false)], args := [d1, d2, d3] }
  | _ => none }
def FnExactFlattestDayWrongFalsely : Prop := fnExactFlattestDayRow.holds Try.pinned (OpenSpec.ofChange fnExactFlattestDayWrong)

/-- 'laws.FnExactCalmDay': WHATEVER THE INPUT: true; the input reads as it did. -/
def fnExactCalmDaySpec : ChangeSpec := { name := "fnExactCalmDay", fn := fun _ => fun
  | [d1, d2, d3, d4] => { results := [.lit (.bool true)], args := [d1, d2, d3, d4] }
  | _ => none }
def fnExactCalmDayRow : OpenClaim := { program := "ytnmfbdkiehickaa", sum := "4e554fbb638105083bfb1895fb9bc221a0fc157fe0b5ad83e755824257a0a022", func := "loop.example/g01021/laws.FnExactCalmDay", spec := "fnExactCalmDay", unfollowed := true, recurses := true, plainKeys := false, apart := false }
def FnExactCalmDaySaid : Prop := fnExactCalmDayRow.holds Try.pinned (OpenSpec.ofChange fnExactCalmDaySpec)

/-- ITS FALSE NEIGHBOUR: 'it returns false'. Refute it at one input. -/
def fnExactCalmDayWrong : ChangeSpec := { name := "fnExactCalmDay", fn := fun _ => fun
  | [d1, d2, d3, d4] => { results := [.lit (.bool false)], args := [d1, d2, d3, d4] }
  | _ => none }
def FnExactCalmDayWrongFalsely : Prop := fnExactCalmDayRow.holds Try.pinned (OpenSpec.ofChange fnExactCalmDayWrong)

/-- 'laws.FnExactFewestMasks': WHATEVER THE INPUT: true; the input reads as it did. -/
def fnExactFewestMasksSpec : ChangeSpec := { name := "fnExactFewestMasks", fn := fun _ => fun
  | [d1, d2, d3, d4, d5] => { results := [.lit (.bool true)], args := [d1, d2, d3, d4, d5] }
  | _ => none }
def fnExactFewestMasksRow : OpenClaim := { program := "ytnmfbdkiehickaa", sum := "4e554fbb638105083bfb1895fb9bc221a0fc157fe0b5ad83e755824257a0a022", func := "loop.example/g01021/laws.FnExactFewestMasks", spec := "fnExactFewestMasks", unfollowed := true, recurses := true, plainKeys := false, apart := false }
def FnExactFewestMasksSaid : Prop := fnExactFewestMasksRow.holds Try.pinned (OpenSpec.ofChange fnExactFewestMasksSpec)

/-- ITS FALSE NEIGHBOUR: 'it returns false'. Refute it at one input. -/
def fnExactFewestMasksWrong : ChangeSpec := { name := "fnExactFewestMasks", fn := fun _ => fun
  | [d1, d2, d3, d4, d5] => { results := [.lit (.bool false)], args := [d1, d2, d3, d4, d5] }
  | _ => none }
def FnExactFewestMasksWrongFalsely : Prop := fnExactFewestMasksRow.holds Try.pinned (OpenSpec.ofChange fnExactFewestMasksWrong)

/-- 'laws.FnPoints': WHATEVER THE INPUT: true; the input reads as it did. -/
def fnPointsSpec : ChangeSpec := { name := "fnPoints", fn := fun _ => fun
  | [d1, d2] => { results := [.lit (.bool true)], args := [d1, d2] }
  | _ => none }
def fnPointsRow : OpenClaim := { program := "ytnmfbdkiehickaa", sum := "4e554fbb638105083bfb1895fb9bc221a0fc157fe0b5ad83e755824257a0a022", func := "loop.example/g01021/laws.FnPoints", spec := "fnPoints", unfollowed := true, recurses := true, plainKeys := false, apart := false }
def FnPointsSaid : Prop := fnPointsRow.holds Try.pinned (OpenSpec.ofChange fnPointsSpec)

/-- ITS FALSE NEIGHBOUR: 'it returns false'. Refute it at one input. -/
def fnPointsWrong : ChangeSpec := { name := "fnPoints", fn := fun _ => fun
  | [d1, d2] => { results := [.lit (.bool false)], args := [d1, d2] }
  | _ => none }
def FnPointsWrongFalsely : Prop := fnPointsRow.holds Try.pinned (OpenSpec.ofChange fnPointsWrong)

/-- 'laws.FnPotentials': WHATEVER THE INPUT: true; the input reads as it did. -/
def fnPotentialsSpec : ChangeSpec := { name := "fnPotentials", fn := fun _ => fun
  | [d] => { results := [.lit (.bool true)], args := [d] }
  | _ => none }
def fnPotentialsRow : OpenClaim := { program := "ytnmfbdkiehickaa", sum := "4e554fbb638105083bfb1895fb9bc221a0fc157fe0b5ad83e755824257a0a022", func := "loop.example/g01021/laws.FnPotentials", spec := "fnPotentials", unfollowed := true, recurses := true, plainKeys := false, apart := false }
def FnPotentialsSaid : Prop := fnPotentialsRow.holds Try.pinned (OpenSpec.ofChange fnPotentialsSpec)

/-- ITS FALSE NEIGHBOUR: 'it returns false'. Refute it at one input. -/
def fnPotentialsWrong : ChangeSpec := { name := "fnPotentials", fn := fun _ => fun
  | [d] => { results := [.lit (.bool false)], args := [d] }
  | _ => none }
def FnPotentialsWrongFalsely : Prop := fnPotentialsRow.holds Try.pinned (OpenSpec.ofChange fnPotentialsWrong)

/-- 'laws.FnDoors': WHATEVER THE INPUT: true; the input reads as it did. -/
def fnDoorsSpec : ChangeSpec := { name := "fnDoors", fn := fun _ => fun
  | [d1, d2] => { results := [.lit (.bool true)], args := [d1, d2] }
  | _ => none }
def fnDoorsRow : OpenClaim := { program := "ytnmfbdkiehickaa", sum := "4e554fbb638105083bfb1895fb9bc221a0fc157fe0b5ad83e755824257a0a022", func := "loop.example/g01021/laws.FnDoors", spec := "fnDoors", unfollowed := true, recurses := true, plainKeys := false, apart := false }
def FnDoorsSaid : Prop := fnDoorsRow.holds Try.pinned (OpenSpec.ofChange fnDoorsSpec)

/-- ITS FALSE NEIGHBOUR: 'it returns false'. Refute it at one input. -/
def fnDoorsWrong : ChangeSpec := { name := "fnDoors", fn := fun _ => fun
  | [d1, d2] => { results := [.lit (.bool false)], args := [d1, d2] }
  | _ => none }
def FnDoorsWrongFalsely : Prop := fnDoorsRow.holds Try.pinned (OpenSpec.ofChange fnDoorsWrong)

/-- 'laws.FnReduction': WHATEVER THE INPUT: true; the input reads as it did. -/
def fnReductionSpec : ChangeSpec := { name := "fnReduction", fn := fun _ => fun
  | [d1, d2] => { results := [.lit (.bool true)], args := [d1, d2] }
  | _ => none }
def fnReductionRow : OpenClaim := { program := "ytnmfbdkiehickaa", sum := "4e554fbb638105083bfb1895fb9bc221a0fc157fe0b5ad83e755824257a0a022", func := "loop.example/g01021/laws.FnReduction", spec := "fnReduction", unfollowed := true, recurses := true, plainKeys := false, apart := false }
def FnReductionSaid : Prop := fnReductionRow.holds Try.pinned (OpenSpec.ofChange fnReductionSpec)

/-- ITS FALSE NEIGHBOUR: 'it returns false'. Refute it at one input. -/
def fnReductionWrong : ChangeSpec := { name := "fnReduction", fn := fun _ => fun
  | [d1, d2] => { results := [.lit (.bool false)], args := [d1, d2] }
  | _ => none }
def FnReductionWrongFalsely : Prop := fnReductionRow.holds Try.pinned (OpenSpec.ofChange fnReductionWrong)

/- THE SECOND FORM. 'bulk': how many values and letters a reading holds, each counted each time it is reached (what is shared counts as often as it is met; a slice's spare places count too). A statement '..UptoSaid' is the law's where the arguments, and the package variables that the reading takes, are together of bulk at most 1048576: NARROWER than '..Said'. Prove '..Said' where nothing that the law and all that it calls make is longer than what came in: it says more and counts as full. Else prove '..UptoSaid'. A law counts once. -/
mutual
def uptoBulk {H : Type} : DataW H → Nat
  | .lit (.string bytes) => bytes.length + 1
  | .lit _ => 1
  | .nil => 1
  | .ptr d => uptoBulk d + 1
  | .slice elems spare => uptoBulkAll elems + uptoBulkAll spare + 1
  | .agg parts => uptoBulkAll parts + 1
  | .iface _ d => uptoBulk d + 1
  | .map entries => uptoBulkEntries entries + 1
  | .held _ => 1
def uptoBulkAll {H : Type} : List (DataW H) → Nat
  | [] => 0
  | d :: r => uptoBulk d + uptoBulkAll r
def uptoBulkEntries {H : Type} : List (Lit × DataW H) → Nat
  | [] => 0
  | x :: r => uptoBulkEntry x + uptoBulkEntries r
def uptoBulkEntry {H : Type} : Lit × DataW H → Nat
  | (.string bytes, d) => bytes.length + uptoBulk d + 1
  | (_, d) => uptoBulk d + 1
 end
def uptoSmall : (H : Type) → List (DataW H) → Bool := fun _ ds => decide (uptoBulkAll ds ≤ 1048576)
def OpenSpec.upto (s : _root_.Go.ChangeSpec) : _root_.Go.OpenSpec := { _root_.Go.OpenSpec.ofChange s with cond := some uptoSmall }

/-- 'laws.FnSplits', WHERE WHAT IT READS IS OF BULK AT MOST 1048576: true; the input reads as it did. -/
def fnSplitsUptoRow : OpenClaim := { program := "ytnmfbdkiehickaa", sum := "4e554fbb638105083bfb1895fb9bc221a0fc157fe0b5ad83e755824257a0a022", func := "loop.example/g01021/laws.FnSplits", spec := "fnSplits", unfollowed := true, recurses := true, plainKeys := false, apart := false, narrowed := true }
def FnSplitsUptoSaid : Prop := fnSplitsUptoRow.holds Try.pinned (OpenSpec.upto fnSplitsSpec)

/-- 'laws.FnCalm', WHERE WHAT IT READS IS OF BULK AT MOST 1048576: true; the input reads as it did. -/
def fnCalmUptoRow : OpenClaim := { program := "ytnmfbdkiehickaa", sum := "4e554fbb638105083bfb1895fb9bc221a0fc157fe0b5ad83e755824257a0a022", func := "loop.example/g01021/laws.FnCalm", spec := "fnCalm", unfollowed := true, recurses := true, plainKeys := false, apart := false, narrowed := true }
def FnCalmUptoSaid : Prop := fnCalmUptoRow.holds Try.pinned (OpenSpec.upto fnCalmSpec)

/-- 'laws.FnExactCheapestDay', WHERE WHAT IT READS IS OF BULK AT MOST 1048576: true; the input reads as it did. -/
def fnExactCheapestDayUptoRow : OpenClaim := { program := "ytnmfbdkiehickaa", sum := "4e554fbb638105083bfb1895fb9bc221a0fc157fe0b5ad83e755824257a0a022", func := "loop.example/g01021/laws.FnExactCheapestDay", spec := "fnExactCheapestDay", unfollowed := true, recurses := true, plainKeys := false, apart := false, narrowed := true }
def FnExactCheapestDayUptoSaid : Prop := fnExactCheapestDayUptoRow.holds Try.pinned (OpenSpec.upto fnExactCheapestDaySpec)

/-- 'laws.FnExactFewestMoves', WHERE WHAT IT READS IS OF BULK AT MOST 1048576: true; the input reads as it did. -/
def fnExactFewestMovesUptoRow : OpenClaim := { program := "ytnmfbdkiehickaa", sum := "4e554fbb638105083bfb1895fb9bc221a0fc157fe0b5ad83e755824257a0a022", func := "loop.example/g01021/laws.FnExactFewestMoves", spec := "fnExactFewestMoves", unfollowed := true, recurses := true, plainKeys := false, apart := false, narrowed := true }
def FnExactFewestMovesUptoSaid : Prop := fnExactFewestMovesUptoRow.holds Try.pinned (OpenSpec.upto fnExactFewestMovesSpec)

/-- 'laws.FnExactFlattestDay', WHERE WHAT IT READS IS OF BULK AT MOST 1048576: true; the input reads as it did. -/
def fnExactFlattestDayUptoRow : OpenClaim := { program := "ytnmfbdkiehickaa", sum := "4e554fbb638105083bfb1895fb9bc221a0fc157fe0b5ad83e755824257a0a022", func := "loop.example/g01021/laws.FnExactFlattestDay", spec := "fnExactFlattestDay", unfollowed := true, recurses := true, plainKeys := false, apart := false, narrowed := true }
def FnExactFlattestDayUptoSaid : Prop := fnExactFlattestDayUptoRow.holds Try.pinned (OpenSpec.upto fnExactFlattestDaySpec)

/-- 'laws.FnExactCalmDay', WHERE WHAT IT READS IS OF BULK AT MOST 1048576: true; the input reads as it did. -/
def fnExactCalmDayUptoRow : OpenClaim := { program := "ytnmfbdkiehickaa", sum := "4e554fbb638105083bfb1895fb9bc221a0fc157fe0b5ad83e755824257a0a022", func := "loop.example/g01021/laws.FnExactCalmDay", spec := "fnExactCalmDay", unfollowed := true, recurses := true, plainKeys := false, apart := false, narrowed := true }
def FnExactCalmDayUptoSaid : Prop := fnExactCalmDayUptoRow.holds Try.pinned (OpenSpec.upto fnExactCalmDaySpec)

/-- 'laws.FnExactFewestMasks', WHERE WHAT IT READS IS OF BULK AT MOST 1048576: true; the input reads as it did. -/
def fnExactFewestMasksUptoRow : OpenClaim := { program := "ytnmfbdkiehickaa", sum := "4e554fbb638105083bfb1895fb9bc221a0fc157fe0b5ad83e755824257a0a022", func := "loop.example/g01021/laws.FnExactFewestMasks", spec := "fnExactFewestMasks", unfollowed := true, recurses := true, plainKeys := false, apart := false, narrowed := true }
def FnExactFewestMasksUptoSaid : Prop := fnExactFewestMasksUptoRow.holds Try.pinned (OpenSpec.upto fnExactFewestMasksSpec)

/-- 'laws.FnPoints', WHERE WHAT IT READS IS OF BULK AT MOST 1048576: true; the input reads as it did. -/
def fnPointsUptoRow : OpenClaim := { program := "ytnmfbdkiehickaa", sum := "4e554fbb638105083bfb1895fb9bc221a0fc157fe0b5ad83e755824257a0a022", func := "loop.example/g01021/laws.FnPoints", spec := "fnPoints", unfollowed := true, recurses := true, plainKeys := false, apart := false, narrowed := true }
def FnPointsUptoSaid : Prop := fnPointsUptoRow.holds Try.pinned (OpenSpec.upto fnPointsSpec)

/-- 'laws.FnPotentials', WHERE WHAT IT READS IS OF BULK AT MOST 1048576: true; the input reads as it did. -/
def fnPotentialsUptoRow : OpenClaim := { program := "ytnmfbdkiehickaa", sum := "4e554fbb638105083bfb1895fb9bc221a0fc157fe0b5ad83e755824257a0a022", func := "loop.example/g01021/laws.FnPotentials", spec := "fnPotentials", unfollowed := true, recurses := true, plainKeys := false, apart := false, narrowed := true }
def FnPotentialsUptoSaid : Prop := fnPotentialsUptoRow.holds Try.pinned (OpenSpec.upto fnPotentialsSpec)

/-- 'laws.FnDoors', WHERE WHAT IT READS IS OF BULK AT MOST 1048576: true; the input reads as it did. -/
def fnDoorsUptoRow : OpenClaim := { program := "ytnmfbdkiehickaa", sum := "4e554fbb638105083bfb1895fb9bc221a0fc157fe0b5ad83e755824257a0a022", func := "loop.example/g01021/laws.FnDoors", spec := "fnDoors", unfollowed := true, recurses := true, plainKeys := false, apart := false, narrowed := true }
def FnDoorsUptoSaid : Prop := fnDoorsUptoRow.holds Try.pinned (OpenSpec.upto fnDoorsSpec)

/-- 'laws.FnReduction', WHERE WHAT IT READS IS OF BULK AT MOST 1048576: true; the input reads as it did. -/
def fnReductionUptoRow : OpenClaim := { program := "ytnmfbdkiehickaa", sum := "4e554fbb638105083bfb1895fb9bc221a0fc157fe0b5ad83e755824257a0a022", func := "loop.example/g01021/laws.FnReduction", spec := "fnReduction", unfollowed := true, recurses := true, plainKeys := false, apart := false, narrowed := true }
def FnReductionUptoSaid : Prop := fnReductionUptoRow.holds Try.pinned (OpenSpec.upto fnReductionSpec)

end Rows
end Go.Proofs.Ytnmfbdkiehickaa
