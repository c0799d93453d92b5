/-
  No cell of these rows narrows 'for every input' (looked for: loops, veiled, ifaces, maps, wideKeys, modest, calm, conditions, laid).
  DERIVED. THE GIVEN ROWS OF THIS SEAT. 12 by the template 'for every input the law returns true; each argument reads behind the call as it read before'; 0 by the template 'total and deterministic' (their statements: YtldmnanlaofbiaaTotals.lean).
  GIVEN WITH THE SEED: the statements are not yours to turn. If you find one false, say at which input.
  Laid BY PROGRAM, IN A SANDBOX (cutbox-rows.mjs): the forced cells as the released guide's own fill.sh prints them over the translation b3824c6413bff1e5… (all of the seat's roots in one cut). By AI agents, Wed Nov 11 2026. No macro, syntax, notation, axiom, sorry.
-/
import Derived.Test.YtldmnanlaofbiaaChecked
import GoSem.Claim
import GoSem.ClaimJoined
import GoSem.ClaimMapViews
import Derived.JoinedTies
import Derived.KernelRfl
namespace Go.Proofs.Ytldmnanlaofbiaa
/- THE CELL 'sum', in the pinned program and in every row, IS THE sha256 OF THE DUMP (.gsa) THAT YtldmnanlaofbiaaProg.lean LOADS. Nothing in Lean hashes anything: it is a label: what it is worth is what the hold of that sum in a sandbox is worth. -/
noncomputable def Try.pinned : Pinned := { name := "ytldmnanlaofbiaa", sum := "b3824c6413bff1e5bfe4c884a34a6b5c4829b34e5d100338a80d557435ada2a0", checked := Try.checked }
namespace Rows
def none {H : Type} : Left H := { results := [], args := [] }

/-- 'laws.FnTemperatures': WHATEVER THE INPUT: true; the input reads as it did. -/
def fnTemperaturesSpec : ChangeSpec := { name := "fnTemperatures", fn := fun _ => fun
  | [d] => { results := [.lit (.bool true)], args := [d] }
  | _ => none }
def fnTemperaturesRow : OpenClaim := { program := "ytldmnanlaofbiaa", sum := "b3824c6413bff1e5bfe4c884a34a6b5c4829b34e5d100338a80d557435ada2a0", func := "loop.example/g01021/laws.FnTemperatures", spec := "fnTemperatures", unfollowed := true, recurses := true, apart := false }
def FnTemperaturesSaid : Prop := fnTemperaturesRow.holds Try.pinned (OpenSpec.ofChange fnTemperaturesSpec)

/-- ITS FALSE NEIGHBOUR: 'it returns false'. Refute it at one input. -/
def fnTemperaturesWrong : ChangeSpec := { name := "fnTemperatures", fn := fun _ => fun
  | [d] => { results := [.lit (.bool false)], args := [d] }
  | _ => none }
def FnTemperaturesWrongFalsely : Prop := fnTemperaturesRow.holds Try.pinned (OpenSpec.ofChange fnTemperaturesWrong)

/-- 'laws.FnExactStuckTimes': WHATEVER THE INPUT: true; the input reads as it did. -/
def fnExactStuckTimesSpec : ChangeSpec := { name := "fnExactStuckTimes", fn := fun _ => fun
  | [d1, d2] => { results := [.lit (.bool true)], args := [d1, d2] }
  | _ => none }
def fnExactStuckTimesRow : OpenClaim := { program := "ytldmnanlaofbiaa", sum := "b3824c6413bff1e5bfe4c884a34a6b5c4829b34e5d100338a80d557435ada2a0", func := "loop.example/g01021/laws.FnExactStuckTimes", spec := "fnExactStuckTimes", unfollowed := true, recurses := true, apart := false }
def FnExactStuckTimesSaid : Prop := fnExactStuckTimesRow.holds Try.pinned (OpenSpec.ofChange fnExactStuckTimesSpec)

/-- ITS FALSE NEIGHBOUR: 'it returns false'. Refute it at one input. -/
def fnExactStuckTimesWrong : ChangeSpec := { name := "fnExactStuckTimes", fn := fun _ => fun
  | [d1, d2] => { results := [.lit (.bool false)], args := [d1, d2] }
  | _ => none }
def FnExactStuckTimesWrongFalsely : Prop := fnExactStuckTimesRow.holds Try.pinned (OpenSpec.ofChange fnExactStuckTimesWrong)

/-- 'laws.FnDust': WHATEVER THE INPUT: true; the input reads as it did. -/
def fnDustSpec : ChangeSpec := { name := "fnDust", fn := fun _ => fun
  | [d1, d2] => { results := [.lit (.bool true)], args := [d1, d2] }
  | _ => none }
def fnDustRow : OpenClaim := { program := "ytldmnanlaofbiaa", sum := "b3824c6413bff1e5bfe4c884a34a6b5c4829b34e5d100338a80d557435ada2a0", func := "loop.example/g01021/laws.FnDust", spec := "fnDust", unfollowed := true, recurses := true, apart := false }
def FnDustSaid : Prop := fnDustRow.holds Try.pinned (OpenSpec.ofChange fnDustSpec)

/-- ITS FALSE NEIGHBOUR: 'it returns false'. Refute it at one input. -/
def fnDustWrong : ChangeSpec := { name := "fnDust", fn := fun _ => fun
  | [d1, d2] => { results := [.lit (.bool false)], args := [d1, d2] }
  | _ => none }
def FnDustWrongFalsely : Prop := fnDustRow.holds Try.pinned (OpenSpec.ofChange fnDustWrong)

/-- 'laws.FnExactValidSensors': WHATEVER THE INPUT: true; the input reads as it did. -/
def fnExactValidSensorsSpec : ChangeSpec := { name := "fnExactValidSensors", fn := fun _ => fun
  | [d] => { results := [.lit (.bool true)], args := [d] }
  | _ => none }
def fnExactValidSensorsRow : OpenClaim := { program := "ytldmnanlaofbiaa", sum := "b3824c6413bff1e5bfe4c884a34a6b5c4829b34e5d100338a80d557435ada2a0", func := "loop.example/g01021/laws.FnExactValidSensors", spec := "fnExactValidSensors", apart := false }
def FnExactValidSensorsSaid : Prop := fnExactValidSensorsRow.holds Try.pinned (OpenSpec.ofChange fnExactValidSensorsSpec)

/-- ITS FALSE NEIGHBOUR: 'it returns false'. Refute it at one input. -/
def fnExactValidSensorsWrong : ChangeSpec := { name := "fnExactValidSensors", fn := fun _ => fun
  | [d] => { results := [.lit (.bool false)], args := [d] }
  | _ => none }
def FnExactValidSensorsWrongFalsely : Prop := fnExactValidSensorsRow.holds Try.pinned (OpenSpec.ofChange fnExactValidSensorsWrong)

/-- 'laws.FnExactPeakShare': WHATEVER THE INPUT: true; the input reads as it did. -/
def fnExactPeakShareSpec : ChangeSpec := { name := "fnExactPeakShare", fn := fun _ => fun
  | [d1, d2, d3, d4, d5] => { results := [.lit (.bool true)], args := [d1, d2, d3, d4, d5] }
  | _ => none }
def fnExactPeakShareRow : OpenClaim := { program := "ytldmnanlaofbiaa", sum := "b3824c6413bff1e5bfe4c884a34a6b5c4829b34e5d100338a80d557435ada2a0", func := "loop.example/g01021/laws.FnExactPeakShare", spec := "fnExactPeakShare", apart := false }
def FnExactPeakShareSaid : Prop := fnExactPeakShareRow.holds Try.pinned (OpenSpec.ofChange fnExactPeakShareSpec)

/-- ITS FALSE NEIGHBOUR: 'it returns false'. Refute it at one input. -/
def fnExactPeakShareWrong : ChangeSpec := { name := "fnExactPeakShare", fn := fun _ => fun
  | [d1, d2, d3, d4, d5] => { results := [.lit (.bool false)], args := [d1, d2, d3, d4, d5] }
  | _ => none }
def FnExactPeakShareWrongFalsely : Prop := fnExactPeakShareRow.holds Try.pinned (OpenSpec.ofChange fnExactPeakShareWrong)

/-- 'laws.FnFaults': WHATEVER THE INPUT: true; the input reads as it did. -/
def fnFaultsSpec : ChangeSpec := { name := "fnFaults", fn := fun _ => fun
  | [d1, d2] => { results := [.lit (.bool true)], args := [d1, d2] }
  | _ => none }
def fnFaultsRow : OpenClaim := { program := "ytldmnanlaofbiaa", sum := "b3824c6413bff1e5bfe4c884a34a6b5c4829b34e5d100338a80d557435ada2a0", func := "loop.example/g01021/laws.FnFaults", spec := "fnFaults", unfollowed := true, recurses := true, apart := false }
def FnFaultsSaid : Prop := fnFaultsRow.holds Try.pinned (OpenSpec.ofChange fnFaultsSpec)

/-- ITS FALSE NEIGHBOUR: 'it returns false'. Refute it at one input. -/
def fnFaultsWrong : ChangeSpec := { name := "fnFaults", fn := fun _ => fun
  | [d1, d2] => { results := [.lit (.bool false)], args := [d1, d2] }
  | _ => none }
def FnFaultsWrongFalsely : Prop := fnFaultsRow.holds Try.pinned (OpenSpec.ofChange fnFaultsWrong)

/-- 'laws.FnExactClearTime': WHATEVER THE INPUT: true; the input reads as it did. -/
def fnExactClearTimeSpec : ChangeSpec := { name := "fnExactClearTime", fn := fun _ => fun
  | [d1, d2, d3, d4] => { results := [.lit (.bool true)], args := [d1, d2, d3, d4] }
  | _ => none }
def fnExactClearTimeRow : OpenClaim := { program := "ytldmnanlaofbiaa", sum := "b3824c6413bff1e5bfe4c884a34a6b5c4829b34e5d100338a80d557435ada2a0", func := "loop.example/g01021/laws.FnExactClearTime", spec := "fnExactClearTime", apart := false }
def FnExactClearTimeSaid : Prop := fnExactClearTimeRow.holds Try.pinned (OpenSpec.ofChange fnExactClearTimeSpec)

/-- ITS FALSE NEIGHBOUR: 'it returns false'. Refute it at one input. -/
def fnExactClearTimeWrong : ChangeSpec := { name := "fnExactClearTime", fn := fun _ => fun
  | [d1, d2, d3, d4] => { results := [.lit (.bool false)], args := [d1, d2, d3, d4] }
  | _ => none }
def FnExactClearTimeWrongFalsely : Prop := fnExactClearTimeRow.holds Try.pinned (OpenSpec.ofChange fnExactClearTimeWrong)

/-- 'laws.FnExactHoldFlow': WHATEVER THE INPUT: true; the input reads as it did. -/
def fnExactHoldFlowSpec : ChangeSpec := { name := "fnExactHoldFlow", fn := fun _ => fun
  | [d1, d2] => { results := [.lit (.bool true)], args := [d1, d2] }
  | _ => none }
def fnExactHoldFlowRow : OpenClaim := { program := "ytldmnanlaofbiaa", sum := "b3824c6413bff1e5bfe4c884a34a6b5c4829b34e5d100338a80d557435ada2a0", func := "loop.example/g01021/laws.FnExactHoldFlow", spec := "fnExactHoldFlow", unfollowed := true, recurses := true, apart := false }
def FnExactHoldFlowSaid : Prop := fnExactHoldFlowRow.holds Try.pinned (OpenSpec.ofChange fnExactHoldFlowSpec)

/-- ITS FALSE NEIGHBOUR: 'it returns false'. Refute it at one input. -/
def fnExactHoldFlowWrong : ChangeSpec := { name := "fnExactHoldFlow", fn := fun _ => fun
  | [d1, d2] => { results := [.lit (.bool false)], args := [d1, d2] }
  | _ => none }
def FnExactHoldFlowWrongFalsely : Prop := fnExactHoldFlowRow.holds Try.pinned (OpenSpec.ofChange fnExactHoldFlowWrong)

/-- 'laws.FnFlows': WHATEVER THE INPUT: true; the input reads as it did. -/
def fnFlowsSpec : ChangeSpec := { name := "fnFlows", fn := fun _ => fun
  | [d1, d2] => { results := [.lit (.bool true)], args := [d1, d2] }
  | _ => none }
def fnFlowsRow : OpenClaim := { program := "ytldmnanlaofbiaa", sum := "b3824c6413bff1e5bfe4c884a34a6b5c4829b34e5d100338a80d557435ada2a0", func := "loop.example/g01021/laws.FnFlows", spec := "fnFlows", unfollowed := true, recurses := true, apart := false }
def FnFlowsSaid : Prop := fnFlowsRow.holds Try.pinned (OpenSpec.ofChange fnFlowsSpec)

/-- ITS FALSE NEIGHBOUR: 'it returns false'. Refute it at one input. -/
def fnFlowsWrong : ChangeSpec := { name := "fnFlows", fn := fun _ => fun
  | [d1, d2] => { results := [.lit (.bool false)], args := [d1, d2] }
  | _ => none }
def FnFlowsWrongFalsely : Prop := fnFlowsRow.holds Try.pinned (OpenSpec.ofChange fnFlowsWrong)

/-- 'laws.FnHumidity': WHATEVER THE INPUT: true; the input reads as it did. -/
def fnHumiditySpec : ChangeSpec := { name := "fnHumidity", fn := fun _ => fun
  | [d1, d2] => { results := [.lit (.bool true)], args := [d1, d2] }
  | _ => none }
def fnHumidityRow : OpenClaim := { program := "ytldmnanlaofbiaa", sum := "b3824c6413bff1e5bfe4c884a34a6b5c4829b34e5d100338a80d557435ada2a0", func := "loop.example/g01021/laws.FnHumidity", spec := "fnHumidity", unfollowed := true, recurses := true, apart := false }
def FnHumiditySaid : Prop := fnHumidityRow.holds Try.pinned (OpenSpec.ofChange fnHumiditySpec)

/-- ITS FALSE NEIGHBOUR: 'it returns false'. Refute it at one input. -/
def fnHumidityWrong : ChangeSpec := { name := "fnHumidity", fn := fun _ => fun
  | [d1, d2] => { results := [.lit (.bool false)], args := [d1, d2] }
  | _ => none }
def FnHumidityWrongFalsely : Prop := fnHumidityRow.holds Try.pinned (OpenSpec.ofChange fnHumidityWrong)

/-- 'laws.FnExactWidenFor': WHATEVER THE INPUT: true; the input reads as it did. -/
def fnExactWidenForSpec : ChangeSpec := { name := "fnExactWidenFor", fn := fun _ => fun
  | [d1, d2] => { results := [.lit (.bool true)], args := [d1, d2] }
  | _ => none }
def fnExactWidenForRow : OpenClaim := { program := "ytldmnanlaofbiaa", sum := "b3824c6413bff1e5bfe4c884a34a6b5c4829b34e5d100338a80d557435ada2a0", func := "loop.example/g01021/laws.FnExactWidenFor", spec := "fnExactWidenFor", unfollowed := true, recurses := true, apart := false }
def FnExactWidenForSaid : Prop := fnExactWidenForRow.holds Try.pinned (OpenSpec.ofChange fnExactWidenForSpec)

/-- ITS FALSE NEIGHBOUR: 'it returns false'. Refute it at one input. -/
def fnExactWidenForWrong : ChangeSpec := { name := "fnExactWidenFor", fn := fun _ => fun
  | [d1, d2] => { results := [.lit (.bool false)], args := [d1, d2] }
  | _ => none }
def FnExactWidenForWrongFalsely : Prop := fnExactWidenForRow.holds Try.pinned (OpenSpec.ofChange fnExactWidenForWrong)

/-- 'laws.FnExactAirwaysFor': WHATEVER THE INPUT: true; the input reads as it did. -/
def fnExactAirwaysForSpec : ChangeSpec := { name := "fnExactAirwaysFor", fn := fun _ => fun
  | [d1, d2] => { results := [.lit (.bool true)], args := [d1, d2] }
  | _ => none }
def fnExactAirwaysForRow : OpenClaim := { program := "ytldmnanlaofbiaa", sum := "b3824c6413bff1e5bfe4c884a34a6b5c4829b34e5d100338a80d557435ada2a0", func := "loop.example/g01021/laws.FnExactAirwaysFor", spec := "fnExactAirwaysFor", unfollowed := true, recurses := true, apart := false }
def FnExactAirwaysForSaid : Prop := fnExactAirwaysForRow.holds Try.pinned (OpenSpec.ofChange fnExactAirwaysForSpec)

/-- ITS FALSE NEIGHBOUR: 'it returns false'. Refute it at one input. -/
def fnExactAirwaysForWrong : ChangeSpec := { name := "fnExactAirwaysFor", fn := fun _ => fun
  | [d1, d2] => { results := [.lit (.bool false)], args := [d1, d2] }
  | _ => none }
def FnExactAirwaysForWrongFalsely : Prop := fnExactAirwaysForRow.holds Try.pinned (OpenSpec.ofChange fnExactAirwaysForWrong)

/- THE SECOND FORM. 'bulk': how many values and letters a reading holds, each counted each time it is reached (what is shared counts as often as it is met; a slice's spare places count too). A statement '..UptoSaid' is the law's where the arguments, and the package variables that the reading takes, are together of bulk at most 1048576: NARROWER than '..Said'. Prove '..Said' where nothing that the law and all that it calls make is longer than what came in: it says more and counts as full. Else prove '..UptoSaid'. A law counts once. -/
mutual
def uptoBulk {H : Type} : DataW H → Nat
  | .lit (.string bytes) => bytes.length + 1
  | .lit _ => 1
  | .nil => 1
  | .ptr d => uptoBulk d + 1
  | .slice elems spare => uptoBulkAll elems + uptoBulkAll spare + 1
  | .agg parts => uptoBulkAll parts + 1
  | .iface _ d => uptoBulk d + 1
  | .map entries => uptoBulkEntries entries + 1
  | .held _ => 1
def uptoBulkAll {H : Type} : List (DataW H) → Nat
  | [] => 0
  | d :: r => uptoBulk d + uptoBulkAll r
def uptoBulkEntries {H : Type} : List (Lit × DataW H) → Nat
  | [] => 0
  | x :: r => uptoBulkEntry x + uptoBulkEntries r
def uptoBulkEntry {H : Type} : Lit × DataW H → Nat
  | (.string bytes, d) => bytes.length + uptoBulk d + 1
  | (_, d) => uptoBulk d + 1
 end
def uptoSmall : (H : Type) → List (DataW H) → Bool := fun _ ds => decide (uptoBulkAll ds ≤ 1048576)
def OpenSpec.upto (s : _root_.Go.ChangeSpec) : _root_.Go.OpenSpec := { _root_.Go.OpenSpec.ofChange s with cond := some uptoSmall }

/-- 'laws.FnTemperatures', WHERE WHAT IT READS IS OF BULK AT MOST 1048576: true; the input reads as it did. -/
def fnTemperaturesUptoRow : OpenClaim := { program := "ytldmnanlaofbiaa", sum := "b3824c6413bff1e5bfe4c884a34a6b5c4829b34e5d100338a80d557435ada2a0", func := "loop.example/g01021/laws.FnTemperatures", spec := "fnTemperatures", unfollowed := true, recurses := true, apart := false, narrowed := true }
def FnTemperaturesUptoSaid : Prop := fnTemperaturesUptoRow.holds Try.pinned (OpenSpec.upto fnTemperaturesSpec)

/-- 'laws.FnExactStuckTimes', WHERE WHAT IT READS IS OF BULK AT MOST 1048576: true; the input reads as it did. -/
def fnExactStuckTimesUptoRow : OpenClaim := { program := "ytldmnanlaofbiaa", sum := "b3824c6413bff1e5bfe4c884a34a6b5c4829b34e5d100338a80d557435ada2a0", func := "loop.example/g01021/laws.FnExactStuckTimes", spec := "fnExactStuckTimes", unfollowed := true, recurses := true, apart := false, narrowed := true }
def FnExactStuckTimesUptoSaid : Prop := fnExactStuckTimesUptoRow.holds Try.pinned (OpenSpec.upto fnExactStuckTimesSpec)

/-- 'laws.FnDust', WHERE WHAT IT READS IS OF BULK AT MOST 1048576: true; the input reads as it did. -/
def fnDustUptoRow : OpenClaim := { program := "ytldmnanlaofbiaa", sum := "b3824c6413bff1e5bfe4c884a34a6b5c4829b34e5d100338a80d557435ada2a0", func := "loop.example/g01021/laws.FnDust", spec := "fnDust", unfollowed := true, recurses := true, apart := false, narrowed := true }
def FnDustUptoSaid : Prop := fnDustUptoRow.holds Try.pinned (OpenSpec.upto fnDustSpec)

/-- 'laws.FnExactValidSensors', WHERE WHAT IT READS IS OF BULK AT MOST 1048576: true; the input reads as it did. -/
def fnExactValidSensorsUptoRow : OpenClaim := { program := "ytldmnanlaofbiaa", sum := "b3824c6413bff1e5bfe4c884a34a6b5c4829b34e5d100338a80d557435ada2a0", func := "loop.example/g01021/laws.FnExactValidSensors", spec := "fnExactValidSensors", apart := false, narrowed := true }
def FnExactValidSensorsUptoSaid : Prop := fnExactValidSensorsUptoRow.holds Try.pinned (OpenSpec.upto fnExactValidSensorsSpec)

/-- 'laws.FnExactPeakShare', WHERE WHAT IT READS IS OF BULK AT MOST 1048576: true; the input reads as it did. -/
def fnExactPeakShareUptoRow : OpenClaim := { program := "ytldmnanlaofbiaa", sum := "b3824c6413bff1e5bfe4c884a34a6b5c4829b34e5d100338a80d557435ada2a0", func := "loop.example/g01021/laws.FnExactPeakShare", spec := "fnExactPeakShare", apart := false, narrowed := true }
def FnExactPeakShareUptoSaid : Prop := fnExactPeakShareUptoRow.holds Try.pinned (OpenSpec.upto fnExactPeakShareSpec)

/-- 'laws.FnFaults', WHERE WHAT IT READS IS OF BULK AT MOST 1048576: true; the input reads as it did. -/
def fnFaultsUptoRow : OpenClaim := { program := "ytldmnanlaofbiaa", sum := "b3824c6413bff1e5bfe4c884a34a6b5c4829b34e5d100338a80d557435ada2a0", func := "loop.example/g01021/laws.FnFaults", spec := "fnFaults", unfollowed := true, recurses := true, apart := false, narrowed := true }
def FnFaultsUptoSaid : Prop := fnFaultsUptoRow.holds Try.pinned (OpenSpec.upto fnFaultsSpec)

/-- 'laws.FnExactClearTime', WHERE WHAT IT READS IS OF BULK AT MOST 1048576: true; the input reads as it did. -/
def fnExactClearTimeUptoRow : OpenClaim := { program := "ytldmnanlaofbiaa", sum := "b3824c6413bff1e5bfe4c884a34a6b5c4829b34e5d100338a80d557435ada2a0", func := "loop.example/g01021/laws.FnExactClearTime", spec := "fnExactClearTime", apart := false, narrowed := true }
def FnExactClearTimeUptoSaid : Prop := fnExactClearTimeUptoRow.holds Try.pinned (OpenSpec.upto fnExactClearTimeSpec)

/-- 'laws.FnExactHoldFlow', WHERE WHAT IT READS IS OF BULK AT MOST 1048576: true; the input reads as it did. -/
def fnExactHoldFlowUptoRow : OpenClaim := { program := "ytldmnanlaofbiaa", sum := "b3824c6413bff1e5bfe4c884a34a6b5c4829b34e5d100338a80d557435ada2a0", func := "loop.example/g01021/laws.FnExactHoldFlow", spec := "fnExactHoldFlow", unfollowed := true, recurses := true, apart := false, narrowed := true }
def FnExactHoldFlowUptoSaid : Prop := fnExactHoldFlowUptoRow.holds Try.pinned (OpenSpec.upto fnExactHoldFlowSpec)

/-- 'laws.FnFlows', WHERE WHAT IT READS IS OF BULK AT MOST 1048576: true; the input reads as it did. -/
def fnFlowsUptoRow : OpenClaim := { program := "ytldmnanlaofbiaa", sum := "b3824c6413bff1e5bfe4c884a34a6b5c4829b34e5d100338a80d557435ada2a0", func := "loop.example/g01021/laws.FnFlows", spec := "fnFlows", unfollowed := true, recurses := true, apart := false, narrowed := true }
def FnFlowsUptoSaid : Prop := fnFlowsUptoRow.holds Try.pinned (OpenSpec.upto fnFlowsSpec)

/-- 'laws.FnHumidity', WHERE WHAT IT READS IS OF BULK AT MOST 1048576: true; the input reads as it did. -/
def fnHumidityUptoRow : OpenClaim := { program := "ytldmnanlaofbiaa", sum := "b3824c6413bff1e5bfe4c884a34a6b5c4829b34e5d100338a80d557435ada2a0", func := "loop.example/g01021/laws.FnHumidity", spec := "fnHumidity", unfollowed := true, recurses := true, apart := false, narrowed := true }
def FnHumidityUptoSaid : Prop := fnHumidityUptoRow.holds Try.pinned (OpenSpec.upto fnHumiditySpec)

/-- 'laws.FnExactWidenFor', WHERE WHAT IT READS IS OF BULK AT MOST 1048576: true; the input reads as it did. -/
def fnExactWidenForUptoRow : OpenClaim := { program := "ytldmnanlaofbiaa", sum := "b3824c6413bff1e5bfe4c884a34a6b5c4829b34e5d100338a80d557435ada2a0", func := "loop.example/g01021/laws.FnExactWidenFor", spec := "fnExactWidenFor", unfollowed := true, recurses := true, apart := false, narrowed := true }
def FnExactWidenForUptoSaid : Prop := fnExactWidenForUptoRow.holds Try.pinned (OpenSpec.upto fnExactWidenForSpec)

/-- 'laws.FnExactAirwaysFor', WHERE WHAT IT READS IS OF BULK AT MOST 1048576: true; the input reads as it did. -/
def fnExactAirwaysForUptoRow : OpenClaim := { program := "ytldmnanlaofbiaa", sum := "b3824c6413bff1e5bfe4c884a34a6b5c4829b34e5d100338a80d557435ada2a0", func := "loop.example/g01021/laws.FnExactAirwaysFor", spec := "fnExactAirwaysFor", unfollowed := true, recurses := true, apart := false, narrowed := true }
def FnExactAirwaysForUptoSaid : Prop := fnExactAirwaysForUptoRow.holds Try.pinned (OpenSpec.upto fnExactAirwaysForSpec)

end Rows
end Go.Proofs.Ytldmnanlaofbiaa
