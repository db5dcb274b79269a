/-
  DERIVED. GIVEN WITH THE SEED: THE CARDS: each row of YtdoohibbfjdblaaGreatDoorRows.lean that lists a variable, with what it lists TIED to the program's text (the seventh form; the later family's looks); each row that meets fmt, with fmt's text TOLD by the authors' own Lean function (tested against real Go, not proved from fmt's source: count such statements apart). THE CARD IS WHAT COUNTS. Prove the row's statement (the work); the ties are given (YtdoohibbfjdblaaGreatDoorTie.lean); close each card by the builder's one call (the guide's Derived/Test/ToyasCard.lean, 'card_holds'). Laid BY PROGRAM, IN A SANDBOX (cutbox-door.mjs). By AI agents, Wed Nov 11 2026. No macro, syntax, notation, axiom, sorry.
-/
import Derived.Test.YtdoohibbfjdblaaGreatDoorRows
import GoSem.ClaimSeven
namespace Go.Proofs.YtdoohibbfjdblaaGreatDoor
namespace Rows

/-- THE TIED CARD OF 'baterialaw04.SongKnown'. -/
def songKnownCard : Claim7 := { stood := { row := songKnownRow, standIns := [], harness := (true, "bb6d2d635ccbf7f5fdd5ae32709b77c78406249e2e4078a571a44bebd5b279fa"), looks := true }, kinds := [], alts := [], laidByText := true, laidKinds := [.data, .data, .data], laidTests := true, laidLooks := .later }
def SongKnownCardSaid : Prop := Claim7.holds Tryz.pinned (.plain (OpenSpec.ofChange songKnownSpec)) songKnownCard

/-- THE TIED CARD OF 'baterialaw04.SongUrns'. -/
def songUrnsCard : Claim7 := { stood := { row := songUrnsRow, standIns := [], harness := (true, "bb6d2d635ccbf7f5fdd5ae32709b77c78406249e2e4078a571a44bebd5b279fa"), looks := true }, kinds := [], alts := [], laidByText := true, laidKinds := [.data, .data, .data, .data, .sentinel, .sentinel, .pinned], laidTests := true, laidLooks := .later }
def SongUrnsCardSaid : Prop := Claim7.holds Tryz.pinned (.plain (OpenSpec.ofChange songUrnsSpec)) songUrnsCard

/-- THE TIED CARD OF 'baterialaw04.SongTape'. -/
def songTapeCard : Claim7 := { stood := { row := songTapeRow, standIns := [], harness := (true, "bb6d2d635ccbf7f5fdd5ae32709b77c78406249e2e4078a571a44bebd5b279fa"), looks := true }, kinds := [], alts := [], laidByText := true, laidKinds := [.data, .data, .data, .data, .sentinel, .sentinel, .pinned], laidTests := true, laidLooks := .later }
def SongTapeCardSaid : Prop := Claim7.holds Tryz.pinned (.plain (OpenSpec.ofChange songTapeSpec)) songTapeCard

/-- THE SECOND FORM's CARD OF 'baterialaw04.SongKnown'. -/
def songKnownUptoCard : Claim7 := { stood := { row := songKnownUptoRow, standIns := [], harness := (true, "bb6d2d635ccbf7f5fdd5ae32709b77c78406249e2e4078a571a44bebd5b279fa"), looks := true }, kinds := [], alts := [], laidByText := true, laidKinds := [.data, .data, .data], laidTests := true, laidLooks := .later }
def SongKnownUptoCardSaid : Prop := Claim7.holds Tryz.pinned (.plain (OpenSpec.upto songKnownSpec)) songKnownUptoCard

/-- THE SECOND FORM's CARD OF 'baterialaw04.SongUrns'. -/
def songUrnsUptoCard : Claim7 := { stood := { row := songUrnsUptoRow, standIns := [], harness := (true, "bb6d2d635ccbf7f5fdd5ae32709b77c78406249e2e4078a571a44bebd5b279fa"), looks := true }, kinds := [], alts := [], laidByText := true, laidKinds := [.data, .data, .data, .data, .sentinel, .sentinel, .pinned], laidTests := true, laidLooks := .later }
def SongUrnsUptoCardSaid : Prop := Claim7.holds Tryz.pinned (.plain (OpenSpec.upto songUrnsSpec)) songUrnsUptoCard

/-- THE SECOND FORM's CARD OF 'baterialaw04.SongTape'. -/
def songTapeUptoCard : Claim7 := { stood := { row := songTapeUptoRow, standIns := [], harness := (true, "bb6d2d635ccbf7f5fdd5ae32709b77c78406249e2e4078a571a44bebd5b279fa"), looks := true }, kinds := [], alts := [], laidByText := true, laidKinds := [.data, .data, .data, .data, .sentinel, .sentinel, .pinned], laidTests := true, laidLooks := .later }
def SongTapeUptoCardSaid : Prop := Claim7.holds Tryz.pinned (.plain (OpenSpec.upto songTapeSpec)) songTapeUptoCard
end Rows
end Go.Proofs.YtdoohibbfjdblaaGreatDoor
