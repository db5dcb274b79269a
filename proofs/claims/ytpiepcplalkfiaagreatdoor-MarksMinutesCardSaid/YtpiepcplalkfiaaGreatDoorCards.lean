/-
  DERIVED. GIVEN WITH THE SEED: THE CARDS: each row of YtpiepcplalkfiaaGreatDoorRows.lean that lists a variable, with what it lists TIED to the program's text (the seventh form; the later family's looks); each row that meets fmt, with fmt's text TOLD by the authors' own Lean function (tested against real Go, not proved from fmt's source: count such statements apart). THE CARD IS WHAT COUNTS. Prove the row's statement (the work); the ties are given (YtpiepcplalkfiaaGreatDoorTie.lean); close each card by the builder's one call (the guide's Derived/Test/ToyasCard.lean, 'card_holds'). Laid BY PROGRAM, IN A SANDBOX (cutbox-door.mjs). By AI agents, Wed Nov 11 2026. No macro, syntax, notation, axiom, sorry.
-/
import Derived.Test.YtpiepcplalkfiaaGreatDoorRows
import GoSem.ClaimSeven
namespace Go.Proofs.YtpiepcplalkfiaaGreatDoor
namespace Rows

/-- THE TIED CARD OF 'baterialaw05.MarksKnown'. -/
def marksKnownCard : Claim7 := { stood := { row := marksKnownRow, standIns := [], harness := (true, "cab0c22f0b46c07bc07997e3a0057b9cf7a4ccef9a40c24b3ed5f114cd2325d4"), looks := true }, kinds := [], alts := [], laidByText := true, laidKinds := [.data, .data, .data], laidTests := true, laidLooks := .later }
def MarksKnownCardSaid : Prop := Claim7.holds Tryz.pinned (.plain (OpenSpec.ofChange marksKnownSpec)) marksKnownCard

/-- THE TIED CARD OF 'baterialaw05.MarksMinutes'. -/
def marksMinutesCard : Claim7 := { stood := { row := marksMinutesRow, standIns := [], harness := (true, "cab0c22f0b46c07bc07997e3a0057b9cf7a4ccef9a40c24b3ed5f114cd2325d4"), looks := true }, kinds := [], alts := [], laidByText := true, laidKinds := [.data, .data, .data, .data, .sentinel, .sentinel, .pinned], laidTests := true, laidLooks := .later }
def MarksMinutesCardSaid : Prop := Claim7.holds Tryz.pinned (.plain (OpenSpec.ofChange marksMinutesSpec)) marksMinutesCard

/-- THE TIED CARD OF 'baterialaw05.MarksRead'. -/
def marksReadCard : Claim7 := { stood := { row := marksReadRow, standIns := [], harness := (true, "cab0c22f0b46c07bc07997e3a0057b9cf7a4ccef9a40c24b3ed5f114cd2325d4"), looks := true }, kinds := [], alts := [], laidByText := true, laidKinds := [.data, .data, .data, .data, .sentinel, .sentinel, .pinned], laidTests := true, laidLooks := .later }
def MarksReadCardSaid : Prop := Claim7.holds Tryz.pinned (.plain (OpenSpec.ofChange marksReadSpec)) marksReadCard

/-- THE SECOND FORM's CARD OF 'baterialaw05.MarksKnown'. -/
def marksKnownUptoCard : Claim7 := { stood := { row := marksKnownUptoRow, standIns := [], harness := (true, "cab0c22f0b46c07bc07997e3a0057b9cf7a4ccef9a40c24b3ed5f114cd2325d4"), looks := true }, kinds := [], alts := [], laidByText := true, laidKinds := [.data, .data, .data], laidTests := true, laidLooks := .later }
def MarksKnownUptoCardSaid : Prop := Claim7.holds Tryz.pinned (.plain (OpenSpec.upto marksKnownSpec)) marksKnownUptoCard

/-- THE SECOND FORM's CARD OF 'baterialaw05.MarksMinutes'. -/
def marksMinutesUptoCard : Claim7 := { stood := { row := marksMinutesUptoRow, standIns := [], harness := (true, "cab0c22f0b46c07bc07997e3a0057b9cf7a4ccef9a40c24b3ed5f114cd2325d4"), looks := true }, kinds := [], alts := [], laidByText := true, laidKinds := [.data, .data, .data, .data, .sentinel, .sentinel, .pinned], laidTests := true, laidLooks := .later }
def MarksMinutesUptoCardSaid : Prop := Claim7.holds Tryz.pinned (.plain (OpenSpec.upto marksMinutesSpec)) marksMinutesUptoCard

/-- THE SECOND FORM's CARD OF 'baterialaw05.MarksRead'. -/
def marksReadUptoCard : Claim7 := { stood := { row := marksReadUptoRow, standIns := [], harness := (true, "cab0c22f0b46c07bc07997e3a0057b9cf7a4ccef9a40c24b3ed5f114cd2325d4"), looks := true }, kinds := [], alts := [], laidByText := true, laidKinds := [.data, .data, .data, .data, .sentinel, .sentinel, .pinned], laidTests := true, laidLooks := .later }
def MarksReadUptoCardSaid : Prop := Claim7.holds Tryz.pinned (.plain (OpenSpec.upto marksReadSpec)) marksReadUptoCard
end Rows
end Go.Proofs.YtpiepcplalkfiaaGreatDoor
