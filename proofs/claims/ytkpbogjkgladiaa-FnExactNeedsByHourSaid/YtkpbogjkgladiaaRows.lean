/-
  No cell of these rows narrows 'for every input' (looked for: loops, veiled, ifaces, maps, wideKeys, modest, calm, conditions, laid).
  DERIVED. THE GIVEN ROWS OF THIS SEAT. 6 by the template 'for every input the law returns true; each argument reads behind the call as it read before'; 0 by the template 'total and deterministic' (their statements: YtkpbogjkgladiaaTotals.lean).
  GIVEN WITH THE SEED: the statements are not yours to turn. If you find one false, say at which input.
  Laid BY PROGRAM, IN A SANDBOX (cutbox-rows.mjs): the forced cells as the released guide's own fill.sh prints them over the translation c52971392d0d0ab2… (all of the seat's roots in one cut). By AI agents, Wed Nov 11 2026. No macro, syntax, notation, axiom, sorry.
-/
import Derived.Test.YtkpbogjkgladiaaChecked
import GoSem.Claim
import GoSem.ClaimJoined
import GoSem.ClaimMapViews
import Derived.JoinedTies
import Derived.KernelRfl
namespace Go.Proofs.Ytkpbogjkgladiaa
/- THE CELL 'sum', in the pinned program and in every row, IS THE sha256 OF THE DUMP (.gsa) THAT YtkpbogjkgladiaaProg.lean LOADS. Nothing in Lean hashes anything: it is a label: what it is worth is what the hold of that sum in a sandbox is worth. -/
noncomputable def Try.pinned : Pinned := { name := "ytkpbogjkgladiaa", sum := "c52971392d0d0ab2ca3cfe4ddbe1cb1f3ff134f43f9a25069dd8f3369215196c", checked := Try.checked }
namespace Rows
def none {H : Type} : Left H := { results := [], args := [] }

/-- 'laws.FnExactValidSensor': WHATEVER THE INPUT: true; the input reads as it did. -/
def fnExactValidSensorSpec : ChangeSpec := { name := "fnExactValidSensor", fn := fun _ => fun
  | [d] => { results := [.lit (.bool true)], args := [d] }
  | _ => none }
def fnExactValidSensorRow : OpenClaim := { program := "ytkpbogjkgladiaa", sum := "c52971392d0d0ab2ca3cfe4ddbe1cb1f3ff134f43f9a25069dd8f3369215196c", func := "loop.example/g01021/laws.FnExactValidSensor", spec := "fnExactValidSensor", apart := false }
def FnExactValidSensorSaid : Prop := fnExactValidSensorRow.holds Try.pinned (OpenSpec.ofChange fnExactValidSensorSpec)

/-- ITS FALSE NEIGHBOUR: 'it returns false'. Refute it at one input. -/
def fnExactValidSensorWrong : ChangeSpec := { name := "fnExactValidSensor", fn := fun _ => fun
  | [d] => { results := [.lit (.bool false)], args := [d] }
  | _ => none }
def FnExactValidSensorWrongFalsely : Prop := fnExactValidSensorRow.holds Try.pinned (OpenSpec.ofChange fnExactValidSensorWrong)

/-- 'laws.FnExactJumpsOf': WHATEVER THE INPUT: true; the input reads as it did. -/
def fnExactJumpsOfSpec : ChangeSpec := { name := "fnExactJumpsOf", fn := fun _ => fun
  | [d1, d2] => { results := [.lit (.bool true)], args := [d1, d2] }
  | _ => none }
def fnExactJumpsOfRow : OpenClaim := { program := "ytkpbogjkgladiaa", sum := "c52971392d0d0ab2ca3cfe4ddbe1cb1f3ff134f43f9a25069dd8f3369215196c", func := "loop.example/g01021/laws.FnExactJumpsOf", spec := "fnExactJumpsOf", unfollowed := true, recurses := true, apart := false }
def FnExactJumpsOfSaid : Prop := fnExactJumpsOfRow.holds Try.pinned (OpenSpec.ofChange fnExactJumpsOfSpec)

/-- ITS FALSE NEIGHBOUR: 'it returns false'. Refute it at one input. -/
def fnExactJumpsOfWrong : ChangeSpec := { name := "fnExactJumpsOf", fn := fun _ => fun
  | [d1, d2] => { results := [.lit (.bool false)], args := [d1, d2] }
  | _ => none }
def FnExactJumpsOfWrongFalsely : Prop := fnExactJumpsOfRow.holds Try.pinned (OpenSpec.ofChange fnExactJumpsOfWrong)

/-- 'laws.FnExactDetectTime': WHATEVER THE INPUT: true; the input reads as it did. -/
def fnExactDetectTimeSpec : ChangeSpec := { name := "fnExactDetectTime", fn := fun _ => fun
  | [d1, d2] => { results := [.lit (.bool true)], args := [d1, d2] }
  | _ => none }
def fnExactDetectTimeRow : OpenClaim := { program := "ytkpbogjkgladiaa", sum := "c52971392d0d0ab2ca3cfe4ddbe1cb1f3ff134f43f9a25069dd8f3369215196c", func := "loop.example/g01021/laws.FnExactDetectTime", spec := "fnExactDetectTime", unfollowed := true, recurses := true, apart := false }
def FnExactDetectTimeSaid : Prop := fnExactDetectTimeRow.holds Try.pinned (OpenSpec.ofChange fnExactDetectTimeSpec)

/-- ITS FALSE NEIGHBOUR: 'it returns false'. Refute it at one input. -/
def fnExactDetectTimeWrong : ChangeSpec := { name := "fnExactDetectTime", fn := fun _ => fun
  | [d1, d2] => { results := [.lit (.bool false)], args := [d1, d2] }
  | _ => none }
def FnExactDetectTimeWrongFalsely : Prop := fnExactDetectTimeRow.holds Try.pinned (OpenSpec.ofChange fnExactDetectTimeWrong)

/-- 'laws.FnExactValidModes': WHATEVER THE INPUT: true; the input reads as it did. -/
def fnExactValidModesSpec : ChangeSpec := { name := "fnExactValidModes", fn := fun _ => fun
  | [d] => { results := [.lit (.bool true)], args := [d] }
  | _ => none }
def fnExactValidModesRow : OpenClaim := { program := "ytkpbogjkgladiaa", sum := "c52971392d0d0ab2ca3cfe4ddbe1cb1f3ff134f43f9a25069dd8f3369215196c", func := "loop.example/g01021/laws.FnExactValidModes", spec := "fnExactValidModes", apart := false }
def FnExactValidModesSaid : Prop := fnExactValidModesRow.holds Try.pinned (OpenSpec.ofChange fnExactValidModesSpec)

/-- ITS FALSE NEIGHBOUR: 'it returns false'. Refute it at one input. -/
def fnExactValidModesWrong : ChangeSpec := { name := "fnExactValidModes", fn := fun _ => fun
  | [d] => { results := [.lit (.bool false)], args := [d] }
  | _ => none }
def FnExactValidModesWrongFalsely : Prop := fnExactValidModesRow.holds Try.pinned (OpenSpec.ofChange fnExactValidModesWrong)

/-- 'laws.FnExactGasAfter': WHATEVER THE INPUT: true; the input reads as it did. -/
def fnExactGasAfterSpec : ChangeSpec := { name := "fnExactGasAfter", fn := fun _ => fun
  | [d1, d2, d3, d4] => { results := [.lit (.bool true)], args := [d1, d2, d3, d4] }
  | _ => none }
def fnExactGasAfterRow : OpenClaim := { program := "ytkpbogjkgladiaa", sum := "c52971392d0d0ab2ca3cfe4ddbe1cb1f3ff134f43f9a25069dd8f3369215196c", func := "loop.example/g01021/laws.FnExactGasAfter", spec := "fnExactGasAfter", apart := false }
def FnExactGasAfterSaid : Prop := fnExactGasAfterRow.holds Try.pinned (OpenSpec.ofChange fnExactGasAfterSpec)

/-- ITS FALSE NEIGHBOUR: 'it returns false'. Refute it at one input. -/
def fnExactGasAfterWrong : ChangeSpec := { name := "fnExactGasAfter", fn := fun _ => fun
  | [d1, d2, d3, d4] => { results := [.lit (.bool false)], args := [d1, d2, d3, d4] }
  | _ => none }
def FnExactGasAfterWrongFalsely : Prop := fnExactGasAfterRow.holds Try.pinned (OpenSpec.ofChange fnExactGasAfterWrong)

/-- 'laws.FnExactNeedsByHour': WHATEVER THE INPUT: true; the input reads as it did. -/
def fnExactNeedsByHourSpec : ChangeSpec := { name := "fnExactNeedsByHour", fn := fun _ => fun
  | [d] => { results := [.lit (.bool true)], args := [d] }
  | _ => none }
def fnExactNeedsByHourRow : OpenClaim := { program := "ytkpbogjkgladiaa", sum := "c52971392d0d0ab2ca3cfe4ddbe1cb1f3ff134f43f9a25069dd8f3369215196c", func := "loop.example/g01021/laws.FnExactNeedsByHour", spec := "fnExactNeedsByHour", apart := false }
def FnExactNeedsByHourSaid : Prop := fnExactNeedsByHourRow.holds Try.pinned (OpenSpec.ofChange fnExactNeedsByHourSpec)

/-- ITS FALSE NEIGHBOUR: 'it returns false'. Refute it at one input. -/
def fnExactNeedsByHourWrong : ChangeSpec := { name := "fnExactNeedsByHour", fn := fun _ => fun
  | [d] => { results := [.lit (.bool false)], args := [d] }
  | _ => none }
def FnExactNeedsByHourWrongFalsely : Prop := fnExactNeedsByHourRow.holds Try.pinned (OpenSpec.ofChange fnExactNeedsByHourWrong)

/- THE SECOND FORM. 'bulk': how many values and letters a reading holds, each counted each time it is reached (what is shared counts as often as it is met; a slice's spare places count too). A statement '..UptoSaid' is the law's where the arguments, and the package variables that the reading takes, are together of bulk at most 1048576: NARROWER than '..Said'. Prove '..Said' where nothing that the law and all that it calls make is longer than what came in: it says more and counts as full. Else prove '..UptoSaid'. A law counts once. -/
mutual
def uptoBulk {H : Type} : DataW H → Nat
  | .lit (.string bytes) => bytes.length + 1
  | .lit _ => 1
  | .nil => 1
  | .ptr d => uptoBulk d + 1
  | .slice elems spare => uptoBulkAll elems + uptoBulkAll spare + 1
  | .agg parts => uptoBulkAll parts + 1
  | .iface _ d => uptoBulk d + 1
  | .map entries => uptoBulkEntries entries + 1
  | .held _ => 1
def uptoBulkAll {H : Type} : List (DataW H) → Nat
  | [] => 0
  | d :: r => uptoBulk d + uptoBulkAll r
def uptoBulkEntries {H : Type} : List (Lit × DataW H) → Nat
  | [] => 0
  | x :: r => uptoBulkEntry x + uptoBulkEntries r
def uptoBulkEntry {H : Type} : Lit × DataW H → Nat
  | (.string bytes, d) => bytes.length + uptoBulk d + 1
  | (_, d) => uptoBulk d + 1
 end
def uptoSmall : (H : Type) → List (DataW H) → Bool := fun _ ds => decide (uptoBulkAll ds ≤ 1048576)
def OpenSpec.upto (s : _root_.Go.ChangeSpec) : _root_.Go.OpenSpec := { _root_.Go.OpenSpec.ofChange s with cond := some uptoSmall }

/-- 'laws.FnExactValidSensor', WHERE WHAT IT READS IS OF BULK AT MOST 1048576: true; the input reads as it did. -/
def fnExactValidSensorUptoRow : OpenClaim := { program := "ytkpbogjkgladiaa", sum := "c52971392d0d0ab2ca3cfe4ddbe1cb1f3ff134f43f9a25069dd8f3369215196c", func := "loop.example/g01021/laws.FnExactValidSensor", spec := "fnExactValidSensor", apart := false, narrowed := true }
def FnExactValidSensorUptoSaid : Prop := fnExactValidSensorUptoRow.holds Try.pinned (OpenSpec.upto fnExactValidSensorSpec)

/-- 'laws.FnExactJumpsOf', WHERE WHAT IT READS IS OF BULK AT MOST 1048576: true; the input reads as it did. -/
def fnExactJumpsOfUptoRow : OpenClaim := { program := "ytkpbogjkgladiaa", sum := "c52971392d0d0ab2ca3cfe4ddbe1cb1f3ff134f43f9a25069dd8f3369215196c", func := "loop.example/g01021/laws.FnExactJumpsOf", spec := "fnExactJumpsOf", unfollowed := true, recurses := true, apart := false, narrowed := true }
def FnExactJumpsOfUptoSaid : Prop := fnExactJumpsOfUptoRow.holds Try.pinned (OpenSpec.upto fnExactJumpsOfSpec)

/-- 'laws.FnExactDetectTime', WHERE WHAT IT READS IS OF BULK AT MOST 1048576: true; the input reads as it did. -/
def fnExactDetectTimeUptoRow : OpenClaim := { program := "ytkpbogjkgladiaa", sum := "c52971392d0d0ab2ca3cfe4ddbe1cb1f3ff134f43f9a25069dd8f3369215196c", func := "loop.example/g01021/laws.FnExactDetectTime", spec := "fnExactDetectTime", unfollowed := true, recurses := true, apart := false, narrowed := true }
def FnExactDetectTimeUptoSaid : Prop := fnExactDetectTimeUptoRow.holds Try.pinned (OpenSpec.upto fnExactDetectTimeSpec)

/-- 'laws.FnExactValidModes', WHERE WHAT IT READS IS OF BULK AT MOST 1048576: true; the input reads as it did. -/
def fnExactValidModesUptoRow : OpenClaim := { program := "ytkpbogjkgladiaa", sum := "c52971392d0d0ab2ca3cfe4ddbe1cb1f3ff134f43f9a25069dd8f3369215196c", func := "loop.example/g01021/laws.FnExactValidModes", spec := "fnExactValidModes", apart := false, narrowed := true }
def FnExactValidModesUptoSaid : Prop := fnExactValidModesUptoRow.holds Try.pinned (OpenSpec.upto fnExactValidModesSpec)

/-- 'laws.FnExactGasAfter', WHERE WHAT IT READS IS OF BULK AT MOST 1048576: true; the input reads as it did. -/
def fnExactGasAfterUptoRow : OpenClaim := { program := "ytkpbogjkgladiaa", sum := "c52971392d0d0ab2ca3cfe4ddbe1cb1f3ff134f43f9a25069dd8f3369215196c", func := "loop.example/g01021/laws.FnExactGasAfter", spec := "fnExactGasAfter", apart := false, narrowed := true }
def FnExactGasAfterUptoSaid : Prop := fnExactGasAfterUptoRow.holds Try.pinned (OpenSpec.upto fnExactGasAfterSpec)

/-- 'laws.FnExactNeedsByHour', WHERE WHAT IT READS IS OF BULK AT MOST 1048576: true; the input reads as it did. -/
def fnExactNeedsByHourUptoRow : OpenClaim := { program := "ytkpbogjkgladiaa", sum := "c52971392d0d0ab2ca3cfe4ddbe1cb1f3ff134f43f9a25069dd8f3369215196c", func := "loop.example/g01021/laws.FnExactNeedsByHour", spec := "fnExactNeedsByHour", apart := false, narrowed := true }
def FnExactNeedsByHourUptoSaid : Prop := fnExactNeedsByHourUptoRow.holds Try.pinned (OpenSpec.upto fnExactNeedsByHourSpec)

end Rows
end Go.Proofs.Ytkpbogjkgladiaa
