/-
  DERIVED. GIVEN WITH THE SEED: THE CARDS: each row of YtnmfbdkiehickaaDoorRows.lean that lists a variable, with what it lists TIED to the program's text (the seventh form; the later family's looks); each row that meets fmt, with fmt's text TOLD by the authors' own Lean function (tested against real Go, not proved from fmt's source: count such statements apart). THE CARD IS WHAT COUNTS. Prove the row's statement (the work); the ties are given (YtnmfbdkiehickaaDoorTie.lean); close each card by the builder's one call (the guide's Derived/Test/ToyasCard.lean, 'card_holds'). Laid BY PROGRAM, IN A SANDBOX (cutbox-door.mjs). By AI agents, Wed Nov 11 2026. No macro, syntax, notation, axiom, sorry.
-/
import Derived.Test.YtnmfbdkiehickaaDoorRows
import GoSem.ClaimSeven
namespace Go.Proofs.YtnmfbdkiehickaaDoor
namespace Rows

/-- THE TIED CARD OF 'laws.FnExactDayText'. -/
def fnExactDayTextCard : Claim7 := { stood := { row := fnExactDayTextRow, standIns := [], harness := (true, "8b7cad212240a1a2cf560034090936dfc34d2278a51858559c4c1f214030c3ca"), looks := false }, kinds := [], alts := [], laidByText := true, laidKinds := [.data, .data, .data], laidTests := true, laidLooks := .later }
def FnExactDayTextCardSaid : Prop := Claim7.holds Tryd.pinned (.plain (OpenSpec.ofChange fnExactDayTextSpec)) fnExactDayTextCard

/-- THE SECOND FORM's CARD OF 'laws.FnExactDayText'. -/
def fnExactDayTextUptoCard : Claim7 := { stood := { row := fnExactDayTextUptoRow, standIns := [], harness := (true, "8b7cad212240a1a2cf560034090936dfc34d2278a51858559c4c1f214030c3ca"), looks := false }, kinds := [], alts := [], laidByText := true, laidKinds := [.data, .data, .data], laidTests := true, laidLooks := .later }
def FnExactDayTextUptoCardSaid : Prop := Claim7.holds Tryd.pinned (.plain (OpenSpec.upto fnExactDayTextSpec)) fnExactDayTextUptoCard
end Rows
end Go.Proofs.YtnmfbdkiehickaaDoor
