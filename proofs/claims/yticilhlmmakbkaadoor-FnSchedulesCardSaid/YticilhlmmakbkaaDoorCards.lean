/-
  DERIVED. GIVEN WITH THE SEED: THE CARDS: each row of YticilhlmmakbkaaDoorRows.lean that lists a variable, with what it lists TIED to the program's text (the seventh form; the later family's looks); each row that meets fmt, with fmt's text TOLD by the authors' own Lean function (tested against real Go, not proved from fmt's source: count such statements apart). THE CARD IS WHAT COUNTS. Prove the row's statement (the work); the ties are given (YticilhlmmakbkaaDoorTie.lean); close each card by the builder's one call (the guide's Derived/Test/ToyasCard.lean, 'card_holds'). Laid BY PROGRAM, IN A SANDBOX (cutbox-door.mjs). By AI agents, Wed Nov 11 2026. No macro, syntax, notation, axiom, sorry.
-/
import Derived.Test.YticilhlmmakbkaaDoorRows
import GoSem.ClaimSeven
namespace Go.Proofs.YticilhlmmakbkaaDoor
namespace Rows

/-- THE TIED CARD OF 'laws.FnExactReadDay'. -/
def fnExactReadDayCard : Claim7 := { stood := { row := fnExactReadDayRow, standIns := [], harness := (true, "fa3127a3f0fdbccd6e9c7e5a5b8a7fbebc4dcd26252ef6a9f90308539fea8a3c"), looks := false }, kinds := [], alts := [], laidByText := true, laidKinds := [.data, .data, .data], laidTests := true, laidLooks := .later }
def FnExactReadDayCardSaid : Prop := Claim7.holds Tryd.pinned (.plain (OpenSpec.ofChange fnExactReadDaySpec)) fnExactReadDayCard

/-- THE TIED CARD OF 'laws.FnSchedules'. -/
def fnSchedulesCard : Claim7 := { stood := { row := fnSchedulesRow, standIns := [], harness := (true, "fa3127a3f0fdbccd6e9c7e5a5b8a7fbebc4dcd26252ef6a9f90308539fea8a3c"), looks := false }, kinds := [], alts := [], laidByText := true, laidKinds := [.data, .data, .data], laidTests := true, laidLooks := .later }
def FnSchedulesCardSaid : Prop := Claim7.holds Tryd.pinned (.plain (OpenSpec.ofChange fnSchedulesSpec)) fnSchedulesCard

/-- THE SECOND FORM's CARD OF 'laws.FnExactReadDay'. -/
def fnExactReadDayUptoCard : Claim7 := { stood := { row := fnExactReadDayUptoRow, standIns := [], harness := (true, "fa3127a3f0fdbccd6e9c7e5a5b8a7fbebc4dcd26252ef6a9f90308539fea8a3c"), looks := false }, kinds := [], alts := [], laidByText := true, laidKinds := [.data, .data, .data], laidTests := true, laidLooks := .later }
def FnExactReadDayUptoCardSaid : Prop := Claim7.holds Tryd.pinned (.plain (OpenSpec.upto fnExactReadDaySpec)) fnExactReadDayUptoCard

/-- THE SECOND FORM's CARD OF 'laws.FnSchedules'. -/
def fnSchedulesUptoCard : Claim7 := { stood := { row := fnSchedulesUptoRow, standIns := [], harness := (true, "fa3127a3f0fdbccd6e9c7e5a5b8a7fbebc4dcd26252ef6a9f90308539fea8a3c"), looks := false }, kinds := [], alts := [], laidByText := true, laidKinds := [.data, .data, .data], laidTests := true, laidLooks := .later }
def FnSchedulesUptoCardSaid : Prop := Claim7.holds Tryd.pinned (.plain (OpenSpec.upto fnSchedulesSpec)) fnSchedulesUptoCard
end Rows
end Go.Proofs.YticilhlmmakbkaaDoor
