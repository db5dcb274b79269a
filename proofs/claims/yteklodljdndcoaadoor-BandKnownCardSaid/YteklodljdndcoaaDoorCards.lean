/-
  DERIVED. GIVEN WITH THE SEED: THE CARDS: each row of YteklodljdndcoaaDoorRows.lean that lists a variable, with what it lists TIED to the program's text (the seventh form; the later family's looks); each row that meets fmt, with fmt's text TOLD by the authors' own Lean function (tested against real Go, not proved from fmt's source: count such statements apart). THE CARD IS WHAT COUNTS. Prove the row's statement (the work); the ties are given (YteklodljdndcoaaDoorTie.lean); close each card by the builder's one call (the guide's Derived/Test/ToyasCard.lean, 'card_holds'). Laid BY PROGRAM, IN A SANDBOX (cutbox-door.mjs). By AI agents, Wed Nov 11 2026. No macro, syntax, notation, axiom, sorry.
-/
import Derived.Test.YteklodljdndcoaaDoorRows
import GoSem.ClaimSeven
namespace Go.Proofs.YteklodljdndcoaaDoor
namespace Rows

/-- THE TIED CARD OF 'baterialaw07.BandKnown'. -/
def bandKnownCard : Claim7 := { stood := { row := bandKnownRow, standIns := [], harness := (true, "1adea547daf2dcc37601b55d16db175b61b650d4fbc5444cce2680d7016865e9"), looks := false }, kinds := [], alts := [], laidByText := true, laidKinds := [.data, .data, .data], laidTests := true, laidLooks := .later }
def BandKnownCardSaid : Prop := Claim7.holds Tryd.pinned (.plain (OpenSpec.ofChange bandKnownSpec)) bandKnownCard

/-- THE SECOND FORM's CARD OF 'baterialaw07.BandKnown'. -/
def bandKnownUptoCard : Claim7 := { stood := { row := bandKnownUptoRow, standIns := [], harness := (true, "1adea547daf2dcc37601b55d16db175b61b650d4fbc5444cce2680d7016865e9"), looks := false }, kinds := [], alts := [], laidByText := true, laidKinds := [.data, .data, .data], laidTests := true, laidLooks := .later }
def BandKnownUptoCardSaid : Prop := Claim7.holds Tryd.pinned (.plain (OpenSpec.upto bandKnownSpec)) bandKnownUptoCard
end Rows
end Go.Proofs.YteklodljdndcoaaDoor
