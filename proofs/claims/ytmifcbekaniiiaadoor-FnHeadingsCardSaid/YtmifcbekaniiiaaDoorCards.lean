/-
  DERIVED. GIVEN WITH THE SEED: THE CARDS: each row of YtmifcbekaniiiaaDoorRows.lean that lists a variable, with what it lists TIED to the program's text (the seventh form; the later family's looks); each row that meets fmt, with fmt's text TOLD by the authors' own Lean function (tested against real Go, not proved from fmt's source: count such statements apart). THE CARD IS WHAT COUNTS. Prove the row's statement (the work); the ties are given (YtmifcbekaniiiaaDoorTie.lean); close each card by the builder's one call (the guide's Derived/Test/ToyasCard.lean, 'card_holds'). Laid BY PROGRAM, IN A SANDBOX (cutbox-door.mjs). By AI agents, Wed Nov 11 2026. No macro, syntax, notation, axiom, sorry.
-/
import Derived.Test.YtmifcbekaniiiaaDoorRows
import GoSem.ClaimSeven
namespace Go.Proofs.YtmifcbekaniiiaaDoor
namespace Rows

/-- THE TIED CARD OF 'laws.FnBasics'. -/
def fnBasicsCard : Claim7 := { stood := { row := fnBasicsRow, standIns := [], harness := (true, "6d58ad12430bacd71cace94fd13e5b37b97d78f932d1eac1fdb2392f8415ad8b"), looks := true }, kinds := [], alts := [], laidByText := true, laidKinds := [.data, .data, .data, .data, .sentinel, .sentinel, .pinned], laidTests := true, laidLooks := .later }
def FnBasicsCardSaid : Prop := Claim7.holds Tryd.pinned (.plain (OpenSpec.ofChange fnBasicsSpec)) fnBasicsCard

/-- THE TIED CARD OF 'laws.FnHeadings'. -/
def fnHeadingsCard : Claim7 := { stood := { row := fnHeadingsRow, standIns := [], harness := (true, "6d58ad12430bacd71cace94fd13e5b37b97d78f932d1eac1fdb2392f8415ad8b"), looks := true }, kinds := [], alts := [], laidByText := true, laidKinds := [.data, .data, .data, .data, .sentinel, .sentinel, .pinned], laidTests := true, laidLooks := .later }
def FnHeadingsCardSaid : Prop := Claim7.holds Tryd.pinned (.plain (OpenSpec.ofChange fnHeadingsSpec)) fnHeadingsCard

/-- THE TIED CARD OF 'laws.FnAir'. -/
def fnAirCard : Claim7 := { stood := { row := fnAirRow, standIns := [], harness := (true, "6d58ad12430bacd71cace94fd13e5b37b97d78f932d1eac1fdb2392f8415ad8b"), looks := true }, kinds := [], alts := [], laidByText := true, laidKinds := [.data, .data, .data, .data, .sentinel, .sentinel, .pinned], laidTests := true, laidLooks := .later }
def FnAirCardSaid : Prop := Claim7.holds Tryd.pinned (.plain (OpenSpec.ofChange fnAirSpec)) fnAirCard

/-- THE SECOND FORM's CARD OF 'laws.FnBasics'. -/
def fnBasicsUptoCard : Claim7 := { stood := { row := fnBasicsUptoRow, standIns := [], harness := (true, "6d58ad12430bacd71cace94fd13e5b37b97d78f932d1eac1fdb2392f8415ad8b"), looks := true }, kinds := [], alts := [], laidByText := true, laidKinds := [.data, .data, .data, .data, .sentinel, .sentinel, .pinned], laidTests := true, laidLooks := .later }
def FnBasicsUptoCardSaid : Prop := Claim7.holds Tryd.pinned (.plain (OpenSpec.upto fnBasicsSpec)) fnBasicsUptoCard

/-- THE SECOND FORM's CARD OF 'laws.FnHeadings'. -/
def fnHeadingsUptoCard : Claim7 := { stood := { row := fnHeadingsUptoRow, standIns := [], harness := (true, "6d58ad12430bacd71cace94fd13e5b37b97d78f932d1eac1fdb2392f8415ad8b"), looks := true }, kinds := [], alts := [], laidByText := true, laidKinds := [.data, .data, .data, .data, .sentinel, .sentinel, .pinned], laidTests := true, laidLooks := .later }
def FnHeadingsUptoCardSaid : Prop := Claim7.holds Tryd.pinned (.plain (OpenSpec.upto fnHeadingsSpec)) fnHeadingsUptoCard

/-- THE SECOND FORM's CARD OF 'laws.FnAir'. -/
def fnAirUptoCard : Claim7 := { stood := { row := fnAirUptoRow, standIns := [], harness := (true, "6d58ad12430bacd71cace94fd13e5b37b97d78f932d1eac1fdb2392f8415ad8b"), looks := true }, kinds := [], alts := [], laidByText := true, laidKinds := [.data, .data, .data, .data, .sentinel, .sentinel, .pinned], laidTests := true, laidLooks := .later }
def FnAirUptoCardSaid : Prop := Claim7.holds Tryd.pinned (.plain (OpenSpec.upto fnAirSpec)) fnAirUptoCard
end Rows
end Go.Proofs.YtmifcbekaniiiaaDoor
