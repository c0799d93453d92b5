/-
  No cell of these rows narrows 'for every input' (looked for: loops, veiled, ifaces, maps, wideKeys, modest, calm, conditions, laid).
  DERIVED. THE GIVEN ROWS OF THIS SEAT. 10 by the template 'for every input the law returns true; each argument reads behind the call as it read before'; 0 by the template 'total and deterministic' (their statements: YtlcpjlmhfhiggaaTotals.lean).
  GIVEN WITH THE SEED: the statements are not yours to turn. If you find one false, say at which input.
  Laid BY PROGRAM, IN A SANDBOX (cutbox-rows.mjs): the forced cells as the released guide's own fill.sh prints them over the translation b74223fd9ab6f2d9… (all of the seat's roots in one cut). By AI agents, Wed Nov 11 2026. No macro, syntax, notation, axiom, sorry.
-/
import Derived.Test.YtlcpjlmhfhiggaaChecked
import GoSem.Claim
import GoSem.ClaimJoined
import GoSem.ClaimMapViews
import Derived.JoinedTies
import Derived.KernelRfl
namespace Go.Proofs.Ytlcpjlmhfhiggaa
/- THE CELL 'sum', in the pinned program and in every row, IS THE sha256 OF THE DUMP (.gsa) THAT YtlcpjlmhfhiggaaProg.lean LOADS. Nothing in Lean hashes anything: it is a label: what it is worth is what the hold of that sum in a sandbox is worth. -/
noncomputable def Try.pinned : Pinned := { name := "ytlcpjlmhfhiggaa", sum := "b74223fd9ab6f2d90830ccdb96215879d041308cfa9c2bccf6db0ca3ec7bbe06", checked := Try.checked }
namespace Rows
def none {H : Type} : Left H := { results := [], args := [] }

/-- 'laws.FnExactClearFlow': WHATEVER THE INPUT: true; the input reads as it did. -/
def fnExactClearFlowSpec : ChangeSpec := { name := "fnExactClearFlow", fn := fun _ => fun
  | [d1, d2, d3, d4] => { results := [.lit (.bool true)], args := [d1, d2, d3, d4] }
  | _ => none }
def fnExactClearFlowRow : OpenClaim := { program := "ytlcpjlmhfhiggaa", sum := "b74223fd9ab6f2d90830ccdb96215879d041308cfa9c2bccf6db0ca3ec7bbe06", func := "loop.example/g01021/laws.FnExactClearFlow", spec := "fnExactClearFlow", unfollowed := true, recurses := true, apart := false }
def FnExactClearFlowSaid : Prop := fnExactClearFlowRow.holds Try.pinned (OpenSpec.ofChange fnExactClearFlowSpec)

/-- ITS FALSE NEIGHBOUR: 'it returns false'. Refute it at one input. -/
def fnExactClearFlowWrong : ChangeSpec := { name := "fnExactClearFlow", fn := fun _ => fun
  | [d1, d2, d3, d4] => { results := [.lit (.bool false)], args := [d1, d2, d3, d4] }
  | _ => none }
def FnExactClearFlowWrongFalsely : Prop := fnExactClearFlowRow.holds Try.pinned (OpenSpec.ofChange fnExactClearFlowWrong)

/-- 'laws.FnExactIsDay': WHATEVER THE INPUT: true; the input reads as it did. -/
def fnExactIsDaySpec : ChangeSpec := { name := "fnExactIsDay", fn := fun _ => fun
  | [d1, d2, d3] => { results := [.lit (.bool true)], args := [d1, d2, d3] }
  | _ => none }
def fnExactIsDayRow : OpenClaim := { program := "ytlcpjlmhfhiggaa", sum := "b74223fd9ab6f2d90830ccdb96215879d041308cfa9c2bccf6db0ca3ec7bbe06", func := "loop.example/g01021/laws.FnExactIsDay", spec := "fnExactIsDay", unfollowed := true, recurses := true, apart := false }
def FnExactIsDaySaid : Prop := fnExactIsDayRow.holds Try.pinned (OpenSpec.ofChange fnExactIsDaySpec)

/-- ITS FALSE NEIGHBOUR: 'it returns false'. Refute it at one input. -/
def fnExactIsDayWrong : ChangeSpec := { name := "fnExactIsDay", fn := fun _ => fun
  | [d1, d2, d3] => { results := [.lit (.bool false)], args := [d1, d2, d3] }
  | _ => none }
def FnExactIsDayWrongFalsely : Prop := fnExactIsDayRow.holds Try.pinned (OpenSpec.ofChange fnExactIsDayWrong)

/-- 'laws.FnExactInAlarm': WHATEVER THE INPUT: true; the input reads as it did. -/
def fnExactInAlarmSpec : ChangeSpec := { name := "fnExactInAlarm", fn := fun _ => fun
  | [d1, d2, d3] => { results := [.lit (.bool true)], args := [d1, d2, d3] }
  | _ => none }
def fnExactInAlarmRow : OpenClaim := { program := "ytlcpjlmhfhiggaa", sum := "b74223fd9ab6f2d90830ccdb96215879d041308cfa9c2bccf6db0ca3ec7bbe06", func := "loop.example/g01021/laws.FnExactInAlarm", spec := "fnExactInAlarm", unfollowed := true, recurses := true, apart := false }
def FnExactInAlarmSaid : Prop := fnExactInAlarmRow.holds Try.pinned (OpenSpec.ofChange fnExactInAlarmSpec)

/-- ITS FALSE NEIGHBOUR: 'it returns false'. Refute it at one input. -/
def fnExactInAlarmWrong : ChangeSpec := { name := "fnExactInAlarm", fn := fun _ => fun
  | [d1, d2, d3] => { results := [.lit (.bool false)], args := [d1, d2, d3] }
  | _ => none }
def FnExactInAlarmWrongFalsely : Prop := fnExactInAlarmRow.holds Try.pinned (OpenSpec.ofChange fnExactInAlarmWrong)

/-- 'laws.FnExactPeakPower': WHATEVER THE INPUT: true; the input reads as it did. -/
def fnExactPeakPowerSpec : ChangeSpec := { name := "fnExactPeakPower", fn := fun _ => fun
  | [d1, d2] => { results := [.lit (.bool true)], args := [d1, d2] }
  | _ => none }
def fnExactPeakPowerRow : OpenClaim := { program := "ytlcpjlmhfhiggaa", sum := "b74223fd9ab6f2d90830ccdb96215879d041308cfa9c2bccf6db0ca3ec7bbe06", func := "loop.example/g01021/laws.FnExactPeakPower", spec := "fnExactPeakPower", unfollowed := true, recurses := true, apart := false }
def FnExactPeakPowerSaid : Prop := fnExactPeakPowerRow.holds Try.pinned (OpenSpec.ofChange fnExactPeakPowerSpec)

/-- ITS FALSE NEIGHBOUR: 'it returns false'. Refute it at one input. -/
def fnExactPeakPowerWrong : ChangeSpec := { name := "fnExactPeakPower", fn := fun _ => fun
  | [d1, d2] => { results := [.lit (.bool false)], args := [d1, d2] }
  | _ => none }
def FnExactPeakPowerWrongFalsely : Prop := fnExactPeakPowerRow.holds Try.pinned (OpenSpec.ofChange fnExactPeakPowerWrong)

/-- 'laws.FnExactDayCost': WHATEVER THE INPUT: true; the input reads as it did. -/
def fnExactDayCostSpec : ChangeSpec := { name := "fnExactDayCost", fn := fun _ => fun
  | [d1, d2, d3] => { results := [.lit (.bool true)], args := [d1, d2, d3] }
  | _ => none }
def fnExactDayCostRow : OpenClaim := { program := "ytlcpjlmhfhiggaa", sum := "b74223fd9ab6f2d90830ccdb96215879d041308cfa9c2bccf6db0ca3ec7bbe06", func := "loop.example/g01021/laws.FnExactDayCost", spec := "fnExactDayCost", unfollowed := true, recurses := true, apart := false }
def FnExactDayCostSaid : Prop := fnExactDayCostRow.holds Try.pinned (OpenSpec.ofChange fnExactDayCostSpec)

/-- ITS FALSE NEIGHBOUR: 'it returns false'. Refute it at one input. -/
def fnExactDayCostWrong : ChangeSpec := { name := "fnExactDayCost", fn := fun _ => fun
  | [d1, d2, d3] => { results := [.lit (.bool false)], args := [d1, d2, d3] }
  | _ => none }
def FnExactDayCostWrongFalsely : Prop := fnExactDayCostRow.holds Try.pinned (OpenSpec.ofChange fnExactDayCostWrong)

/-- 'laws.FnHeat': WHATEVER THE INPUT: true; the input reads as it did. -/
def fnHeatSpec : ChangeSpec := { name := "fnHeat", fn := fun _ => fun
  | [d1, d2] => { results := [.lit (.bool true)], args := [d1, d2] }
  | _ => none }
def fnHeatRow : OpenClaim := { program := "ytlcpjlmhfhiggaa", sum := "b74223fd9ab6f2d90830ccdb96215879d041308cfa9c2bccf6db0ca3ec7bbe06", func := "loop.example/g01021/laws.FnHeat", spec := "fnHeat", unfollowed := true, recurses := true, apart := false }
def FnHeatSaid : Prop := fnHeatRow.holds Try.pinned (OpenSpec.ofChange fnHeatSpec)

/-- ITS FALSE NEIGHBOUR: 'it returns false'. Refute it at one input. -/
def fnHeatWrong : ChangeSpec := { name := "fnHeat", fn := fun _ => fun
  | [d1, d2] => { results := [.lit (.bool false)], args := [d1, d2] }
  | _ => none }
def FnHeatWrongFalsely : Prop := fnHeatRow.holds Try.pinned (OpenSpec.ofChange fnHeatWrong)

/-- 'laws.FnClearing': WHATEVER THE INPUT: true; the input reads as it did. -/
def fnClearingSpec : ChangeSpec := { name := "fnClearing", fn := fun _ => fun
  | [d1, d2] => { results := [.lit (.bool true)], args := [d1, d2] }
  | _ => none }
def fnClearingRow : OpenClaim := { program := "ytlcpjlmhfhiggaa", sum := "b74223fd9ab6f2d90830ccdb96215879d041308cfa9c2bccf6db0ca3ec7bbe06", func := "loop.example/g01021/laws.FnClearing", spec := "fnClearing", unfollowed := true, recurses := true, apart := false }
def FnClearingSaid : Prop := fnClearingRow.holds Try.pinned (OpenSpec.ofChange fnClearingSpec)

/-- ITS FALSE NEIGHBOUR: 'it returns false'. Refute it at one input. -/
def fnClearingWrong : ChangeSpec := { name := "fnClearing", fn := fun _ => fun
  | [d1, d2] => { results := [.lit (.bool false)], args := [d1, d2] }
  | _ => none }
def FnClearingWrongFalsely : Prop := fnClearingRow.holds Try.pinned (OpenSpec.ofChange fnClearingWrong)

/-- 'laws.FnExposure': WHATEVER THE INPUT: true; the input reads as it did. -/
def fnExposureSpec : ChangeSpec := { name := "fnExposure", fn := fun _ => fun
  | [d1, d2] => { results := [.lit (.bool true)], args := [d1, d2] }
  | _ => none }
def fnExposureRow : OpenClaim := { program := "ytlcpjlmhfhiggaa", sum := "b74223fd9ab6f2d90830ccdb96215879d041308cfa9c2bccf6db0ca3ec7bbe06", func := "loop.example/g01021/laws.FnExposure", spec := "fnExposure", unfollowed := true, recurses := true, apart := false }
def FnExposureSaid : Prop := fnExposureRow.holds Try.pinned (OpenSpec.ofChange fnExposureSpec)

/-- ITS FALSE NEIGHBOUR: 'it returns false'. Refute it at one input. -/
def fnExposureWrong : ChangeSpec := { name := "fnExposure", fn := fun _ => fun
  | [d1, d2] => { results := [.lit (.bool false)], args := [d1, d2] }
  | _ => none }
def FnExposureWrongFalsely : Prop := fnExposureRow.holds Try.pinned (OpenSpec.ofChange fnExposureWrong)

/-- 'laws.FnLocks': WHATEVER THE INPUT: true; the input reads as it did. -/
def fnLocksSpec : ChangeSpec := { name := "fnLocks", fn := fun _ => fun
  | [d1, d2] => { results := [.lit (.bool true)], args := [d1, d2] }
  | _ => none }
def fnLocksRow : OpenClaim := { program := "ytlcpjlmhfhiggaa", sum := "b74223fd9ab6f2d90830ccdb96215879d041308cfa9c2bccf6db0ca3ec7bbe06", func := "loop.example/g01021/laws.FnLocks", spec := "fnLocks", unfollowed := true, recurses := true, apart := false }
def FnLocksSaid : Prop := fnLocksRow.holds Try.pinned (OpenSpec.ofChange fnLocksSpec)

/-- ITS FALSE NEIGHBOUR: 'it returns false'. Refute it at one input. -/
def fnLocksWrong : ChangeSpec := { name := "fnLocks", fn := fun _ => fun
  | [d1, d2] => { results := [.lit (.bool false)], args := [d1, d2] }
  | _ => none }
def FnLocksWrongFalsely : Prop := fnLocksRow.holds Try.pinned (OpenSpec.ofChange fnLocksWrong)

/-- 'laws.FnMeshes': WHATEVER THE INPUT: true; the input reads as it did. -/
def fnMeshesSpec : ChangeSpec := { name := "fnMeshes", fn := fun _ => fun
  | [d1, d2] => { results := [.lit (.bool true)], args := [d1, d2] }
  | _ => none }
def fnMeshesRow : OpenClaim := { program := "ytlcpjlmhfhiggaa", sum := "b74223fd9ab6f2d90830ccdb96215879d041308cfa9c2bccf6db0ca3ec7bbe06", func := "loop.example/g01021/laws.FnMeshes", spec := "fnMeshes", apart := false }
def FnMeshesSaid : Prop := fnMeshesRow.holds Try.pinned (OpenSpec.ofChange fnMeshesSpec)

/-- ITS FALSE NEIGHBOUR: 'it returns false'. Refute it at one input. -/
def fnMeshesWrong : ChangeSpec := { name := "fnMeshes", fn := fun _ => fun
  | [d1, d2] => { results := [.lit (.bool false)], args := [d1, d2] }
  | _ => none }
def FnMeshesWrongFalsely : Prop := fnMeshesRow.holds Try.pinned (OpenSpec.ofChange fnMeshesWrong)

/- THE SECOND FORM. 'bulk': how many values and letters a reading holds, each counted each time it is reached (what is shared counts as often as it is met; a slice's spare places count too). A statement '..UptoSaid' is the law's where the arguments, and the package variables that the reading takes, are together of bulk at most 1048576: NARROWER than '..Said'. Prove '..Said' where nothing that the law and all that it calls make is longer than what came in: it says more and counts as full. Else prove '..UptoSaid'. A law counts once. -/
mutual
def uptoBulk {H : Type} : DataW H → Nat
  | .lit (.string bytes) => bytes.length + 1
  | .lit _ => 1
  | .nil => 1
  | .ptr d => uptoBulk d + 1
  | .slice elems spare => uptoBulkAll elems + uptoBulkAll spare + 1
  | .agg parts => uptoBulkAll parts + 1
  | .iface _ d => uptoBulk d + 1
  | .map entries => uptoBulkEntries entries + 1
  | .held _ => 1
def uptoBulkAll {H : Type} : List (DataW H) → Nat
  | [] => 0
  | d :: r => uptoBulk d + uptoBulkAll r
def uptoBulkEntries {H : Type} : List (Lit × DataW H) → Nat
  | [] => 0
  | x :: r => uptoBulkEntry x + uptoBulkEntries r
def uptoBulkEntry {H : Type} : Lit × DataW H → Nat
  | (.string bytes, d) => bytes.length + uptoBulk d + 1
  | (_, d) => uptoBulk d + 1
 end
def uptoSmall : (H : Type) → List (DataW H) → Bool := fun _ ds => decide (uptoBulkAll ds ≤ 1048576)
def OpenSpec.upto (s : _root_.Go.ChangeSpec) : _root_.Go.OpenSpec := { _root_.Go.OpenSpec.ofChange s with cond := some uptoSmall }

/-- 'laws.FnExactClearFlow', WHERE WHAT IT READS IS OF BULK AT MOST 1048576: true; the input reads as it did. -/
def fnExactClearFlowUptoRow : OpenClaim := { program := "ytlcpjlmhfhiggaa", sum := "b74223fd9ab6f2d90830ccdb96215879d041308cfa9c2bccf6db0ca3ec7bbe06", func := "loop.example/g01021/laws.FnExactClearFlow", spec := "fnExactClearFlow", unfollowed := true, recurses := true, apart := false, narrowed := true }
def FnExactClearFlowUptoSaid : Prop := fnExactClearFlowUptoRow.holds Try.pinned (OpenSpec.upto fnExactClearFlowSpec)

/-- 'laws.FnExactIsDay', WHERE WHAT IT READS IS OF BULK AT MOST 1048576: true; the input reads as it did. -/
def fnExactIsDayUptoRow : OpenClaim := { program := "ytlcpjlmhfhiggaa", sum := "b74223fd9ab6f2d90830ccdb96215879d041308cfa9c2bccf6db0ca3ec7bbe06", func := "loop.example/g01021/laws.FnExactIsDay", spec := "fnExactIsDay", unfollowed := true, recurses := true, apart := false, narrowed := true }
def FnExactIsDayUptoSaid : Prop := fnExactIsDayUptoRow.holds Try.pinned (OpenSpec.upto fnExactIsDaySpec)

/-- 'laws.FnExactInAlarm', WHERE WHAT IT READS IS OF BULK AT MOST 1048576: true; the input reads as it did. -/
def fnExactInAlarmUptoRow : OpenClaim := { program := "ytlcpjlmhfhiggaa", sum := "b74223fd9ab6f2d90830ccdb96215879d041308cfa9c2bccf6db0ca3ec7bbe06", func := "loop.example/g01021/laws.FnExactInAlarm", spec := "fnExactInAlarm", unfollowed := true, recurses := true, apart := false, narrowed := true }
def FnExactInAlarmUptoSaid : Prop := fnExactInAlarmUptoRow.holds Try.pinned (OpenSpec.upto fnExactInAlarmSpec)

/-- 'laws.FnExactPeakPower', WHERE WHAT IT READS IS OF BULK AT MOST 1048576: true; the input reads as it did. -/
def fnExactPeakPowerUptoRow : OpenClaim := { program := "ytlcpjlmhfhiggaa", sum := "b74223fd9ab6f2d90830ccdb96215879d041308cfa9c2bccf6db0ca3ec7bbe06", func := "loop.example/g01021/laws.FnExactPeakPower", spec := "fnExactPeakPower", unfollowed := true, recurses := true, apart := false, narrowed := true }
def FnExactPeakPowerUptoSaid : Prop := fnExactPeakPowerUptoRow.holds Try.pinned (OpenSpec.upto fnExactPeakPowerSpec)

/-- 'laws.FnExactDayCost', WHERE WHAT IT READS IS OF BULK AT MOST 1048576: true; the input reads as it did. -/
def fnExactDayCostUptoRow : OpenClaim := { program := "ytlcpjlmhfhiggaa", sum := "b74223fd9ab6f2d90830ccdb96215879d041308cfa9c2bccf6db0ca3ec7bbe06", func := "loop.example/g01021/laws.FnExactDayCost", spec := "fnExactDayCost", unfollowed := true, recurses := true, apart := false, narrowed := true }
def FnExactDayCostUptoSaid : Prop := fnExactDayCostUptoRow.holds Try.pinned (OpenSpec.upto fnExactDayCostSpec)

/-- 'laws.FnHeat', WHERE WHAT IT READS IS OF BULK AT MOST 1048576: true; the input reads as it did. -/
def fnHeatUptoRow : OpenClaim := { program := "ytlcpjlmhfhiggaa", sum := "b74223fd9ab6f2d90830ccdb96215879d041308cfa9c2bccf6db0ca3ec7bbe06", func := "loop.example/g01021/laws.FnHeat", spec := "fnHeat", unfollowed := true, recurses := true, apart := false, narrowed := true }
def FnHeatUptoSaid : Prop := fnHeatUptoRow.holds Try.pinned (OpenSpec.upto fnHeatSpec)

/-- 'laws.FnClearing', WHERE WHAT IT READS IS OF BULK AT MOST 1048576: true; the input reads as it did. -/
def fnClearingUptoRow : OpenClaim := { program := "ytlcpjlmhfhiggaa", sum := "b74223fd9ab6f2d90830ccdb96215879d041308cfa9c2bccf6db0ca3ec7bbe06", func := "loop.example/g01021/laws.FnClearing", spec := "fnClearing", unfollowed := true, recurses := true, apart := false, narrowed := true }
def FnClearingUptoSaid : Prop := fnClearingUptoRow.holds Try.pinned (OpenSpec.upto fnClearingSpec)

/-- 'laws.FnExposure', WHERE WHAT IT READS IS OF BULK AT MOST 1048576: true; the input reads as it did. -/
def fnExposureUptoRow : OpenClaim := { program := "ytlcpjlmhfhiggaa", sum := "b74223fd9ab6f2d90830ccdb96215879d041308cfa9c2bccf6db0ca3ec7bbe06", func := "loop.example/g01021/laws.FnExposure", spec := "fnExposure", unfollowed := true, recurses := true, apart := false, narrowed := true }
def FnExposureUptoSaid : Prop := fnExposureUptoRow.holds Try.pinned (OpenSpec.upto fnExposureSpec)

/-- 'laws.FnLocks', WHERE WHAT IT READS IS OF BULK AT MOST 1048576: true; the input reads as it did. -/
def fnLocksUptoRow : OpenClaim := { program := "ytlcpjlmhfhiggaa", sum := "b74223fd9ab6f2d90830ccdb96215879d041308cfa9c2bccf6db0ca3ec7bbe06", func := "loop.example/g01021/laws.FnLocks", spec := "fnLocks", unfollowed := true, recurses := true, apart := false, narrowed := true }
def FnLocksUptoSaid : Prop := fnLocksUptoRow.holds Try.pinned (OpenSpec.upto fnLocksSpec)

/-- 'laws.FnMeshes', WHERE WHAT IT READS IS OF BULK AT MOST 1048576: true; the input reads as it did. -/
def fnMeshesUptoRow : OpenClaim := { program := "ytlcpjlmhfhiggaa", sum := "b74223fd9ab6f2d90830ccdb96215879d041308cfa9c2bccf6db0ca3ec7bbe06", func := "loop.example/g01021/laws.FnMeshes", spec := "fnMeshes", apart := false, narrowed := true }
def FnMeshesUptoSaid : Prop := fnMeshesUptoRow.holds Try.pinned (OpenSpec.upto fnMeshesSpec)

end Rows
end Go.Proofs.Ytlcpjlmhfhiggaa
