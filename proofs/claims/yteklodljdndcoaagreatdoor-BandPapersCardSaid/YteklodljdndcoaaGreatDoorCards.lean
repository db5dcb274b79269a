/-
  DERIVED. GIVEN WITH THE SEED: THE CARDS: each row of YteklodljdndcoaaGreatDoorRows.lean that lists a variable, with what it lists TIED to the program's text (the seventh form; the later family's looks); each row that meets fmt, with fmt's text TOLD by the authors' own Lean function (tested against real Go, not proved from fmt's source: count such statements apart). THE CARD IS WHAT COUNTS. Prove the row's statement (the work); the ties are given (YteklodljdndcoaaGreatDoorTie.lean); close each card by the builder's one call (the guide's Derived/Test/ToyasCard.lean, 'card_holds'). Laid BY PROGRAM, IN A SANDBOX (cutbox-door.mjs). By AI agents, Wed Nov 11 2026. No macro, syntax, notation, axiom, sorry.
-/
import Derived.Test.YteklodljdndcoaaGreatDoorRows
import GoSem.ClaimSeven
namespace Go.Proofs.YteklodljdndcoaaGreatDoor
namespace Rows

/-- THE TIED CARD OF 'baterialaw07.BandPapers'. -/
def bandPapersCard : Claim7 := { stood := { row := bandPapersRow, standIns := [], harness := (true, "994316ce5b2c2a013c0e22805ce6b389aa29ea4b4d778e3f752d42e2e1e3db5b"), looks := true }, kinds := [], alts := [], laidByText := true, laidKinds := [.data, .data, .data, .data, .sentinel, .sentinel, .pinned], laidTests := true, laidLooks := .later }
def BandPapersCardSaid : Prop := Claim7.holds Tryz.pinned (.plain (OpenSpec.ofChange bandPapersSpec)) bandPapersCard

/-- THE TIED CARD OF 'baterialaw07.BandRead'. -/
def bandReadCard : Claim7 := { stood := { row := bandReadRow, standIns := [], harness := (true, "994316ce5b2c2a013c0e22805ce6b389aa29ea4b4d778e3f752d42e2e1e3db5b"), looks := true }, kinds := [], alts := [], laidByText := true, laidKinds := [.data, .data, .data, .data, .sentinel, .sentinel, .pinned], laidTests := true, laidLooks := .later }
def BandReadCardSaid : Prop := Claim7.holds Tryz.pinned (.plain (OpenSpec.ofChange bandReadSpec)) bandReadCard

/-- THE SECOND FORM's CARD OF 'baterialaw07.BandPapers'. -/
def bandPapersUptoCard : Claim7 := { stood := { row := bandPapersUptoRow, standIns := [], harness := (true, "994316ce5b2c2a013c0e22805ce6b389aa29ea4b4d778e3f752d42e2e1e3db5b"), looks := true }, kinds := [], alts := [], laidByText := true, laidKinds := [.data, .data, .data, .data, .sentinel, .sentinel, .pinned], laidTests := true, laidLooks := .later }
def BandPapersUptoCardSaid : Prop := Claim7.holds Tryz.pinned (.plain (OpenSpec.upto bandPapersSpec)) bandPapersUptoCard

/-- THE SECOND FORM's CARD OF 'baterialaw07.BandRead'. -/
def bandReadUptoCard : Claim7 := { stood := { row := bandReadUptoRow, standIns := [], harness := (true, "994316ce5b2c2a013c0e22805ce6b389aa29ea4b4d778e3f752d42e2e1e3db5b"), looks := true }, kinds := [], alts := [], laidByText := true, laidKinds := [.data, .data, .data, .data, .sentinel, .sentinel, .pinned], laidTests := true, laidLooks := .later }
def BandReadUptoCardSaid : Prop := Claim7.holds Tryz.pinned (.plain (OpenSpec.upto bandReadSpec)) bandReadUptoCard
end Rows
end Go.Proofs.YteklodljdndcoaaGreatDoor
