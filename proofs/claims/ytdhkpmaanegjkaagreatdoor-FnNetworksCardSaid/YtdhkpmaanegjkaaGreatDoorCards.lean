/-
  DERIVED. GIVEN WITH THE SEED: THE CARDS: each row of YtdhkpmaanegjkaaGreatDoorRows.lean that lists a variable, with what it lists TIED to the program's text (the seventh form; the later family's looks); each row that meets fmt, with fmt's text TOLD by the authors' own Lean function (tested against real Go, not proved from fmt's source: count such statements apart). THE CARD IS WHAT COUNTS. Prove the row's statement (the work); the ties are given (YtdhkpmaanegjkaaGreatDoorTie.lean); close each card by the builder's one call (the guide's Derived/Test/ToyasCard.lean, 'card_holds'). Laid BY PROGRAM, IN A SANDBOX (cutbox-door.mjs). By AI agents, Wed Nov 11 2026. No macro, syntax, notation, axiom, sorry.
-/
import Derived.Test.YtdhkpmaanegjkaaGreatDoorRows
import GoSem.ClaimSeven
namespace Go.Proofs.YtdhkpmaanegjkaaGreatDoor
namespace Rows

/-- THE TIED CARD OF 'laws.FnNetworks'. -/
def fnNetworksCard : Claim7 := { stood := { row := fnNetworksRow, standIns := [], harness := (true, "8ea229f1b992583baf9358a7daebd1f8cdc743c474dec3ea7682467b3d374ff9"), looks := true }, kinds := [], alts := [], laidByText := true, laidKinds := [.data, .data, .data, .data, .sentinel, .sentinel, .pinned], laidTests := true, laidLooks := .later }
def FnNetworksCardSaid : Prop := Claim7.holds Tryz.pinned (.plain (OpenSpec.ofChange fnNetworksSpec)) fnNetworksCard

/-- THE TIED CARD OF 'laws.FnFans'. -/
def fnFansCard : Claim7 := { stood := { row := fnFansRow, standIns := [], harness := (true, "8ea229f1b992583baf9358a7daebd1f8cdc743c474dec3ea7682467b3d374ff9"), looks := true }, kinds := [], alts := [], laidByText := true, laidKinds := [.data, .data, .data, .data, .sentinel, .sentinel, .pinned], laidTests := true, laidLooks := .later }
def FnFansCardSaid : Prop := Claim7.holds Tryz.pinned (.plain (OpenSpec.ofChange fnFansSpec)) fnFansCard

/-- THE SECOND FORM's CARD OF 'laws.FnNetworks'. -/
def fnNetworksUptoCard : Claim7 := { stood := { row := fnNetworksUptoRow, standIns := [], harness := (true, "8ea229f1b992583baf9358a7daebd1f8cdc743c474dec3ea7682467b3d374ff9"), looks := true }, kinds := [], alts := [], laidByText := true, laidKinds := [.data, .data, .data, .data, .sentinel, .sentinel, .pinned], laidTests := true, laidLooks := .later }
def FnNetworksUptoCardSaid : Prop := Claim7.holds Tryz.pinned (.plain (OpenSpec.upto fnNetworksSpec)) fnNetworksUptoCard

/-- THE SECOND FORM's CARD OF 'laws.FnFans'. -/
def fnFansUptoCard : Claim7 := { stood := { row := fnFansUptoRow, standIns := [], harness := (true, "8ea229f1b992583baf9358a7daebd1f8cdc743c474dec3ea7682467b3d374ff9"), looks := true }, kinds := [], alts := [], laidByText := true, laidKinds := [.data, .data, .data, .data, .sentinel, .sentinel, .pinned], laidTests := true, laidLooks := .later }
def FnFansUptoCardSaid : Prop := Claim7.holds Tryz.pinned (.plain (OpenSpec.upto fnFansSpec)) fnFansUptoCard
end Rows
end Go.Proofs.YtdhkpmaanegjkaaGreatDoor
