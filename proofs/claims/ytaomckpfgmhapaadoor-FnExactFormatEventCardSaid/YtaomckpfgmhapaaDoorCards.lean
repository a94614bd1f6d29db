/-
  DERIVED. GIVEN WITH THE SEED: THE CARDS: each row of YtaomckpfgmhapaaDoorRows.lean that lists a variable, with what it lists TIED to the program's text (the seventh form; the later family's looks); each row that meets fmt, with fmt's text TOLD by the authors' own Lean function (tested against real Go, not proved from fmt's source: count such statements apart). THE CARD IS WHAT COUNTS. Prove the row's statement (the work); the ties are given (YtaomckpfgmhapaaDoorTie.lean); close each card by the builder's one call (the guide's Derived/Test/ToyasCard.lean, 'card_holds'). Laid BY PROGRAM, IN A SANDBOX (cutbox-door.mjs). By AI agents, Wed Nov 11 2026. No macro, syntax, notation, axiom, sorry.
-/
import Derived.Test.YtaomckpfgmhapaaDoorRows
import GoSem.ClaimSeven
namespace Go.Proofs.YtaomckpfgmhapaaDoor
namespace Rows

/-- THE TIED CARD OF 'laws.FnExactTenantLine'. -/
def fnExactTenantLineCard : Claim7 := { stood := { row := fnExactTenantLineRow, standIns := [], harness := (true, "a99339bd759284898c455ccb3af0d7828d451f1e09eb10345d1bfc3c69a77b0e"), looks := false }, kinds := [], alts := [], laidByText := true, laidKinds := [.data, .data, .data], laidTests := true, laidLooks := .later }
def FnExactTenantLineCardSaid : Prop := Claim7.holds Tryd.pinned (.plain (OpenSpec.ofChange fnExactTenantLineSpec)) fnExactTenantLineCard

/-- THE TIED CARD OF 'laws.FnExactSegmentLine'. -/
def fnExactSegmentLineCard : Claim7 := { stood := { row := fnExactSegmentLineRow, standIns := [], harness := (true, "a99339bd759284898c455ccb3af0d7828d451f1e09eb10345d1bfc3c69a77b0e"), looks := false }, kinds := [], alts := [], laidByText := true, laidKinds := [.data, .data, .data], laidTests := true, laidLooks := .later }
def FnExactSegmentLineCardSaid : Prop := Claim7.holds Tryd.pinned (.plain (OpenSpec.ofChange fnExactSegmentLineSpec)) fnExactSegmentLineCard

/-- THE TIED CARD OF 'laws.FnExactResultLine'. -/
def fnExactResultLineCard : Claim7 := { stood := { row := fnExactResultLineRow, standIns := [], harness := (true, "a99339bd759284898c455ccb3af0d7828d451f1e09eb10345d1bfc3c69a77b0e"), looks := false }, kinds := [], alts := [], laidByText := true, laidKinds := [.data, .data, .data], laidTests := true, laidLooks := .later }
def FnExactResultLineCardSaid : Prop := Claim7.holds Tryd.pinned (.plain (OpenSpec.ofChange fnExactResultLineSpec)) fnExactResultLineCard

/-- THE TIED CARD OF 'laws.FnExactFormatEvent'. -/
def fnExactFormatEventCard : Claim7 := { stood := { row := fnExactFormatEventRow, standIns := [], harness := (true, "a99339bd759284898c455ccb3af0d7828d451f1e09eb10345d1bfc3c69a77b0e"), looks := false }, kinds := [], alts := [], laidByText := true, laidKinds := [.data, .data, .data], laidTests := true, laidLooks := .later }
def FnExactFormatEventCardSaid : Prop := Claim7.holds Tryd.pinned (.plain (OpenSpec.ofChange fnExactFormatEventSpec)) fnExactFormatEventCard

/-- THE SECOND FORM's CARD OF 'laws.FnExactTenantLine'. -/
def fnExactTenantLineUptoCard : Claim7 := { stood := { row := fnExactTenantLineUptoRow, standIns := [], harness := (true, "a99339bd759284898c455ccb3af0d7828d451f1e09eb10345d1bfc3c69a77b0e"), looks := false }, kinds := [], alts := [], laidByText := true, laidKinds := [.data, .data, .data], laidTests := true, laidLooks := .later }
def FnExactTenantLineUptoCardSaid : Prop := Claim7.holds Tryd.pinned (.plain (OpenSpec.upto fnExactTenantLineSpec)) fnExactTenantLineUptoCard

/-- THE SECOND FORM's CARD OF 'laws.FnExactSegmentLine'. -/
def fnExactSegmentLineUptoCard : Claim7 := { stood := { row := fnExactSegmentLineUptoRow, standIns := [], harness := (true, "a99339bd759284898c455ccb3af0d7828d451f1e09eb10345d1bfc3c69a77b0e"), looks := false }, kinds := [], alts := [], laidByText := true, laidKinds := [.data, .data, .data], laidTests := true, laidLooks := .later }
def FnExactSegmentLineUptoCardSaid : Prop := Claim7.holds Tryd.pinned (.plain (OpenSpec.upto fnExactSegmentLineSpec)) fnExactSegmentLineUptoCard

/-- THE SECOND FORM's CARD OF 'laws.FnExactResultLine'. -/
def fnExactResultLineUptoCard : Claim7 := { stood := { row := fnExactResultLineUptoRow, standIns := [], harness := (true, "a99339bd759284898c455ccb3af0d7828d451f1e09eb10345d1bfc3c69a77b0e"), looks := false }, kinds := [], alts := [], laidByText := true, laidKinds := [.data, .data, .data], laidTests := true, laidLooks := .later }
def FnExactResultLineUptoCardSaid : Prop := Claim7.holds Tryd.pinned (.plain (OpenSpec.upto fnExactResultLineSpec)) fnExactResultLineUptoCard

/-- THE SECOND FORM's CARD OF 'laws.FnExactFormatEvent'. -/
def fnExactFormatEventUptoCard : Claim7 := { stood := { row := fnExactFormatEventUptoRow, standIns := [], harness := (true, "a99339bd759284898c455ccb3af0d7828d451f1e09eb10345d1bfc3c69a77b0e"), looks := false }, kinds := [], alts := [], laidByText := true, laidKinds := [.data, .data, .data], laidTests := true, laidLooks := .later }
def FnExactFormatEventUptoCardSaid : Prop := Claim7.holds Tryd.pinned (.plain (OpenSpec.upto fnExactFormatEventSpec)) fnExactFormatEventUptoCard
end Rows
end Go.Proofs.YtaomckpfgmhapaaDoor
