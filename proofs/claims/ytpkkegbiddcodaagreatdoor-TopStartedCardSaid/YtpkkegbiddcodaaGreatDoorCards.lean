/-
  DERIVED. GIVEN WITH THE SEED: THE CARDS: each row of YtpkkegbiddcodaaGreatDoorRows.lean that lists a variable, with what it lists TIED to the program's text (the seventh form; the later family's looks); each row that meets fmt, with fmt's text TOLD by the authors' own Lean function (tested against real Go, not proved from fmt's source: count such statements apart). THE CARD IS WHAT COUNTS. Prove the row's statement (the work); the ties are given (YtpkkegbiddcodaaGreatDoorTie.lean); close each card by the builder's one call (the guide's Derived/Test/ToyasCard.lean, 'card_holds'). Laid BY PROGRAM, IN A SANDBOX (cutbox-door.mjs). By AI agents, Wed Nov 11 2026. No macro, syntax, notation, axiom, sorry.
-/
import Derived.Test.YtpkkegbiddcodaaGreatDoorRows
import GoSem.ClaimSeven
namespace Go.Proofs.YtpkkegbiddcodaaGreatDoor
namespace Rows

/-- THE TIED CARD OF 'bateriatop.TopStarted'. -/
def topStartedCard : Claim7 := { stood := { row := topStartedRow, standIns := [], harness := (true, "ed2a7a2dd28182f598c7e68d09992f8c917b62b4f7cc91f60c0fab9390c22103"), looks := true }, kinds := [], alts := [], laidByText := true, laidKinds := [.data, .data, .data, .data, .sentinel, .sentinel, .data, .pinned], laidTests := true, laidLooks := .later }
def TopStartedCardSaid : Prop := Claim7.holds Tryz.pinned (.plain (OpenSpec.ofChange topStartedSpec)) topStartedCard

/-- THE TIED CARD OF 'bateriatop.TopLogs'. -/
def topLogsCard : Claim7 := { stood := { row := topLogsRow, standIns := [], harness := (true, "ed2a7a2dd28182f598c7e68d09992f8c917b62b4f7cc91f60c0fab9390c22103"), looks := true }, kinds := [], alts := [], laidByText := true, laidKinds := [.data, .data, .data, .data, .sentinel, .sentinel, .data, .pinned], laidTests := true, laidLooks := .later }
def TopLogsCardSaid : Prop := Claim7.holds Tryz.pinned (.plain (OpenSpec.ofChange topLogsSpec)) topLogsCard

/-- THE SECOND FORM's CARD OF 'bateriatop.TopStarted'. -/
def topStartedUptoCard : Claim7 := { stood := { row := topStartedUptoRow, standIns := [], harness := (true, "ed2a7a2dd28182f598c7e68d09992f8c917b62b4f7cc91f60c0fab9390c22103"), looks := true }, kinds := [], alts := [], laidByText := true, laidKinds := [.data, .data, .data, .data, .sentinel, .sentinel, .data, .pinned], laidTests := true, laidLooks := .later }
def TopStartedUptoCardSaid : Prop := Claim7.holds Tryz.pinned (.plain (OpenSpec.upto topStartedSpec)) topStartedUptoCard

/-- THE SECOND FORM's CARD OF 'bateriatop.TopLogs'. -/
def topLogsUptoCard : Claim7 := { stood := { row := topLogsUptoRow, standIns := [], harness := (true, "ed2a7a2dd28182f598c7e68d09992f8c917b62b4f7cc91f60c0fab9390c22103"), looks := true }, kinds := [], alts := [], laidByText := true, laidKinds := [.data, .data, .data, .data, .sentinel, .sentinel, .data, .pinned], laidTests := true, laidLooks := .later }
def TopLogsUptoCardSaid : Prop := Claim7.holds Tryz.pinned (.plain (OpenSpec.upto topLogsSpec)) topLogsUptoCard
end Rows
end Go.Proofs.YtpkkegbiddcodaaGreatDoor
