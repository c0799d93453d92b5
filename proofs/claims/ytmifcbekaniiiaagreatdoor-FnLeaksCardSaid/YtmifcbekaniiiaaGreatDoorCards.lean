/-
  DERIVED. GIVEN WITH THE SEED: THE CARDS: each row of YtmifcbekaniiiaaGreatDoorRows.lean that lists a variable, with what it lists TIED to the program's text (the seventh form; the later family's looks); each row that meets fmt, with fmt's text TOLD by the authors' own Lean function (tested against real Go, not proved from fmt's source: count such statements apart). THE CARD IS WHAT COUNTS. Prove the row's statement (the work); the ties are given (YtmifcbekaniiiaaGreatDoorTie.lean); close each card by the builder's one call (the guide's Derived/Test/ToyasCard.lean, 'card_holds'). Laid BY PROGRAM, IN A SANDBOX (cutbox-door.mjs). By AI agents, Wed Nov 11 2026. No macro, syntax, notation, axiom, sorry.
-/
import Derived.Test.YtmifcbekaniiiaaGreatDoorRows
import GoSem.ClaimSeven
namespace Go.Proofs.YtmifcbekaniiiaaGreatDoor
namespace Rows

/-- THE TIED CARD OF 'laws.FnSurveys'. -/
def fnSurveysCard : Claim7 := { stood := { row := fnSurveysRow, standIns := [], harness := (true, "168aedcd0a625ab4b476401b3858c40849b2405ea8d312edc4de5b2b8f39d50b"), looks := true }, kinds := [], alts := [], laidByText := true, laidKinds := [.data, .data, .data, .data, .sentinel, .sentinel, .pinned], laidTests := true, laidLooks := .later }
def FnSurveysCardSaid : Prop := Claim7.holds Tryz.pinned (.plain (OpenSpec.ofChange fnSurveysSpec)) fnSurveysCard

/-- THE TIED CARD OF 'laws.FnAirways'. -/
def fnAirwaysCard : Claim7 := { stood := { row := fnAirwaysRow, standIns := [], harness := (true, "168aedcd0a625ab4b476401b3858c40849b2405ea8d312edc4de5b2b8f39d50b"), looks := true }, kinds := [], alts := [], laidByText := true, laidKinds := [.data, .data, .data, .data, .sentinel, .sentinel, .pinned], laidTests := true, laidLooks := .later }
def FnAirwaysCardSaid : Prop := Claim7.holds Tryz.pinned (.plain (OpenSpec.ofChange fnAirwaysSpec)) fnAirwaysCard

/-- THE TIED CARD OF 'laws.FnLeaks'. -/
def fnLeaksCard : Claim7 := { stood := { row := fnLeaksRow, standIns := [], harness := (true, "168aedcd0a625ab4b476401b3858c40849b2405ea8d312edc4de5b2b8f39d50b"), looks := true }, kinds := [], alts := [], laidByText := true, laidKinds := [.data, .data, .data, .data, .sentinel, .sentinel, .pinned], laidTests := true, laidLooks := .later }
def FnLeaksCardSaid : Prop := Claim7.holds Tryz.pinned (.plain (OpenSpec.ofChange fnLeaksSpec)) fnLeaksCard

/-- THE TIED CARD OF 'laws.FnNetworks'. -/
def fnNetworksCard : Claim7 := { stood := { row := fnNetworksRow, standIns := [], harness := (true, "168aedcd0a625ab4b476401b3858c40849b2405ea8d312edc4de5b2b8f39d50b"), looks := true }, kinds := [], alts := [], laidByText := true, laidKinds := [.data, .data, .data, .data, .sentinel, .sentinel, .pinned], laidTests := true, laidLooks := .later }
def FnNetworksCardSaid : Prop := Claim7.holds Tryz.pinned (.plain (OpenSpec.ofChange fnNetworksSpec)) fnNetworksCard

/-- THE TIED CARD OF 'laws.FnFans'. -/
def fnFansCard : Claim7 := { stood := { row := fnFansRow, standIns := [], harness := (true, "168aedcd0a625ab4b476401b3858c40849b2405ea8d312edc4de5b2b8f39d50b"), looks := true }, kinds := [], alts := [], laidByText := true, laidKinds := [.data, .data, .data, .data, .sentinel, .sentinel, .pinned], laidTests := true, laidLooks := .later }
def FnFansCardSaid : Prop := Claim7.holds Tryz.pinned (.plain (OpenSpec.ofChange fnFansSpec)) fnFansCard

/-- THE SECOND FORM's CARD OF 'laws.FnSurveys'. -/
def fnSurveysUptoCard : Claim7 := { stood := { row := fnSurveysUptoRow, standIns := [], harness := (true, "168aedcd0a625ab4b476401b3858c40849b2405ea8d312edc4de5b2b8f39d50b"), looks := true }, kinds := [], alts := [], laidByText := true, laidKinds := [.data, .data, .data, .data, .sentinel, .sentinel, .pinned], laidTests := true, laidLooks := .later }
def FnSurveysUptoCardSaid : Prop := Claim7.holds Tryz.pinned (.plain (OpenSpec.upto fnSurveysSpec)) fnSurveysUptoCard

/-- THE SECOND FORM's CARD OF 'laws.FnAirways'. -/
def fnAirwaysUptoCard : Claim7 := { stood := { row := fnAirwaysUptoRow, standIns := [], harness := (true, "168aedcd0a625ab4b476401b3858c40849b2405ea8d312edc4de5b2b8f39d50b"), looks := true }, kinds := [], alts := [], laidByText := true, laidKinds := [.data, .data, .data, .data, .sentinel, .sentinel, .pinned], laidTests := true, laidLooks := .later }
def FnAirwaysUptoCardSaid : Prop := Claim7.holds Tryz.pinned (.plain (OpenSpec.upto fnAirwaysSpec)) fnAirwaysUptoCard

/-- THE SECOND FORM's CARD OF 'laws.FnLeaks'. -/
def fnLeaksUptoCard : Claim7 := { stood := { row := fnLeaksUptoRow, standIns := [], harness := (true, "168aedcd0a625ab4b476401b3858c40849b2405ea8d312edc4de5b2b8f39d50b"), looks := true }, kinds := [], alts := [], laidByText := true, laidKinds := [.data, .data, .data, .data, .sentinel, .sentinel, .pinned], laidTests := true, laidLooks := .later }
def FnLeaksUptoCardSaid : Prop := Claim7.holds Tryz.pinned (.plain (OpenSpec.upto fnLeaksSpec)) fnLeaksUptoCard

/-- THE SECOND FORM's CARD OF 'laws.FnNetworks'. -/
def fnNetworksUptoCard : Claim7 := { stood := { row := fnNetworksUptoRow, standIns := [], harness := (true, "168aedcd0a625ab4b476401b3858c40849b2405ea8d312edc4de5b2b8f39d50b"), looks := true }, kinds := [], alts := [], laidByText := true, laidKinds := [.data, .data, .data, .data, .sentinel, .sentinel, .pinned], laidTests := true, laidLooks := .later }
def FnNetworksUptoCardSaid : Prop := Claim7.holds Tryz.pinned (.plain (OpenSpec.upto fnNetworksSpec)) fnNetworksUptoCard

/-- THE SECOND FORM's CARD OF 'laws.FnFans'. -/
def fnFansUptoCard : Claim7 := { stood := { row := fnFansUptoRow, standIns := [], harness := (true, "168aedcd0a625ab4b476401b3858c40849b2405ea8d312edc4de5b2b8f39d50b"), looks := true }, kinds := [], alts := [], laidByText := true, laidKinds := [.data, .data, .data, .data, .sentinel, .sentinel, .pinned], laidTests := true, laidLooks := .later }
def FnFansUptoCardSaid : Prop := Claim7.holds Tryz.pinned (.plain (OpenSpec.upto fnFansSpec)) fnFansUptoCard
end Rows
end Go.Proofs.YtmifcbekaniiiaaGreatDoor
