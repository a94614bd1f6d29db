/-
  DERIVED. GIVEN WITH THE SEED: THE CARDS: each row of YteflgldonmgejaaGreatDoorRows.lean that lists a variable, with what it lists TIED to the program's text (the seventh form; the later family's looks); each row that meets fmt, with fmt's text TOLD by the authors' own Lean function (tested against real Go, not proved from fmt's source: count such statements apart). THE CARD IS WHAT COUNTS. Prove the row's statement (the work); the ties are given (YteflgldonmgejaaGreatDoorTie.lean); close each card by the builder's one call (the guide's Derived/Test/ToyasCard.lean, 'card_holds'). Laid BY PROGRAM, IN A SANDBOX (cutbox-door.mjs). By AI agents, Wed Nov 11 2026. No macro, syntax, notation, axiom, sorry.
-/
import Derived.Test.YteflgldonmgejaaGreatDoorRows
import GoSem.ClaimSeven
namespace Go.Proofs.YteflgldonmgejaaGreatDoor
namespace Rows

/-- THE TIED CARD OF 'laws.FnExactEngineLine'. -/
def fnExactEngineLineCard : Claim7 := { stood := { row := fnExactEngineLineRow, standIns := [], harness := (true, "57e19c358f1e2050e81b6f66d8b458ae9564707de85ec5984ecdcc409f63db67"), looks := true }, kinds := [], alts := [], laidByText := true, laidKinds := [.data, .data, .data], laidTests := true, laidLooks := .later }
def FnExactEngineLineCardSaid : Prop := Claim7.holds Tryz.pinned (.plain (OpenSpec.ofChange fnExactEngineLineSpec)) fnExactEngineLineCard

/-- THE TIED CARD OF 'laws.FnExactActiveLines'. -/
def fnExactActiveLinesCard : Claim7 := { stood := { row := fnExactActiveLinesRow, standIns := [], harness := (true, "57e19c358f1e2050e81b6f66d8b458ae9564707de85ec5984ecdcc409f63db67"), looks := true }, kinds := [], alts := [], laidByText := true, laidKinds := [.data, .data, .data], laidTests := true, laidLooks := .later }
def FnExactActiveLinesCardSaid : Prop := Claim7.holds Tryz.pinned (.plain (OpenSpec.ofChange fnExactActiveLinesSpec)) fnExactActiveLinesCard

/-- THE TIED CARD OF 'laws.FnExactParseEvent'. -/
def fnExactParseEventCard : Claim7 := { stood := { row := fnExactParseEventRow, standIns := [], harness := (true, "57e19c358f1e2050e81b6f66d8b458ae9564707de85ec5984ecdcc409f63db67"), looks := true }, kinds := [], alts := [], laidByText := true, laidKinds := [.data, .data, .data, .data, .sentinel, .sentinel, .pinned], laidTests := true, laidLooks := .later }
def FnExactParseEventCardSaid : Prop := Claim7.holds Tryz.pinned (.plain (OpenSpec.ofChange fnExactParseEventSpec)) fnExactParseEventCard

/-- THE TIED CARD OF 'laws.FnExactRunConsole'. -/
def fnExactRunConsoleCard : Claim7 := { stood := { row := fnExactRunConsoleRow, standIns := [], harness := (true, "57e19c358f1e2050e81b6f66d8b458ae9564707de85ec5984ecdcc409f63db67"), looks := true }, kinds := [], alts := [], laidByText := true, laidKinds := [.data, .data, .data, .data, .sentinel, .sentinel, .pinned], laidTests := true, laidLooks := .later }
def FnExactRunConsoleCardSaid : Prop := Claim7.holds Tryz.pinned (.plain (OpenSpec.ofChange fnExactRunConsoleSpec)) fnExactRunConsoleCard

/-- THE SECOND FORM's CARD OF 'laws.FnExactEngineLine'. -/
def fnExactEngineLineUptoCard : Claim7 := { stood := { row := fnExactEngineLineUptoRow, standIns := [], harness := (true, "57e19c358f1e2050e81b6f66d8b458ae9564707de85ec5984ecdcc409f63db67"), looks := true }, kinds := [], alts := [], laidByText := true, laidKinds := [.data, .data, .data], laidTests := true, laidLooks := .later }
def FnExactEngineLineUptoCardSaid : Prop := Claim7.holds Tryz.pinned (.plain (OpenSpec.upto fnExactEngineLineSpec)) fnExactEngineLineUptoCard

/-- THE SECOND FORM's CARD OF 'laws.FnExactActiveLines'. -/
def fnExactActiveLinesUptoCard : Claim7 := { stood := { row := fnExactActiveLinesUptoRow, standIns := [], harness := (true, "57e19c358f1e2050e81b6f66d8b458ae9564707de85ec5984ecdcc409f63db67"), looks := true }, kinds := [], alts := [], laidByText := true, laidKinds := [.data, .data, .data], laidTests := true, laidLooks := .later }
def FnExactActiveLinesUptoCardSaid : Prop := Claim7.holds Tryz.pinned (.plain (OpenSpec.upto fnExactActiveLinesSpec)) fnExactActiveLinesUptoCard

/-- THE SECOND FORM's CARD OF 'laws.FnExactParseEvent'. -/
def fnExactParseEventUptoCard : Claim7 := { stood := { row := fnExactParseEventUptoRow, standIns := [], harness := (true, "57e19c358f1e2050e81b6f66d8b458ae9564707de85ec5984ecdcc409f63db67"), looks := true }, kinds := [], alts := [], laidByText := true, laidKinds := [.data, .data, .data, .data, .sentinel, .sentinel, .pinned], laidTests := true, laidLooks := .later }
def FnExactParseEventUptoCardSaid : Prop := Claim7.holds Tryz.pinned (.plain (OpenSpec.upto fnExactParseEventSpec)) fnExactParseEventUptoCard

/-- THE SECOND FORM's CARD OF 'laws.FnExactRunConsole'. -/
def fnExactRunConsoleUptoCard : Claim7 := { stood := { row := fnExactRunConsoleUptoRow, standIns := [], harness := (true, "57e19c358f1e2050e81b6f66d8b458ae9564707de85ec5984ecdcc409f63db67"), looks := true }, kinds := [], alts := [], laidByText := true, laidKinds := [.data, .data, .data, .data, .sentinel, .sentinel, .pinned], laidTests := true, laidLooks := .later }
def FnExactRunConsoleUptoCardSaid : Prop := Claim7.holds Tryz.pinned (.plain (OpenSpec.upto fnExactRunConsoleSpec)) fnExactRunConsoleUptoCard
end Rows
end Go.Proofs.YteflgldonmgejaaGreatDoor
