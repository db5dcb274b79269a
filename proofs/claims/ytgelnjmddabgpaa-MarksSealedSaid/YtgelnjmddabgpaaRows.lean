/-
  No cell of these rows narrows 'for every input' (looked for: loops, veiled, ifaces, maps, wideKeys, modest, calm, conditions, laid).
  DERIVED. THE GIVEN ROWS OF THIS SEAT. 6 by the template 'for every input the law returns true; each argument reads behind the call as it read before'; 0 by the template 'total and deterministic' (their statements: YtgelnjmddabgpaaTotals.lean).
  GIVEN WITH THE SEED: the statements are not yours to turn. If you find one false, say at which input.
  Laid BY PROGRAM, IN A SANDBOX (cutbox-rows.mjs): the forced cells as the released guide's own fill.sh prints them over the translation 797e948ced57866e… (all of the seat's roots in one cut). By AI agents, Wed Nov 11 2026. No macro, syntax, notation, axiom, sorry.
-/
import Derived.Test.YtgelnjmddabgpaaChecked
import GoSem.Claim
import GoSem.ClaimJoined
import GoSem.ClaimMapViews
import Derived.JoinedTies
import Derived.KernelRfl
namespace Go.Proofs.Ytgelnjmddabgpaa
/- THE CELL 'sum', in the pinned program and in every row, IS THE sha256 OF THE DUMP (.gsa) THAT YtgelnjmddabgpaaProg.lean LOADS. Nothing in Lean hashes anything: it is a label: what it is worth is what the hold of that sum in a sandbox is worth. -/
noncomputable def Try.pinned : Pinned := { name := "ytgelnjmddabgpaa", sum := "797e948ced57866e4fabcc28571165fe37b7653dc190651d06e6fbfa2851ae47", checked := Try.checked }
namespace Rows
def none {H : Type} : Left H := { results := [], args := [] }

/-- 'baterialaw05.MarksOrder': WHATEVER THE INPUT: true; the input reads as it did. -/
def marksOrderSpec : ChangeSpec := { name := "marksOrder", fn := fun _ => fun
  | [d] => { results := [.lit (.bool true)], args := [d] }
  | _ => none }
def marksOrderRow : OpenClaim := { program := "ytgelnjmddabgpaa", sum := "797e948ced57866e4fabcc28571165fe37b7653dc190651d06e6fbfa2851ae47", func := "bateria/baterialaw05.MarksOrder", spec := "marksOrder", unfollowed := true, recurses := true, plainKeys := false, apart := false }
def MarksOrderSaid : Prop := marksOrderRow.holds Try.pinned (OpenSpec.ofChange marksOrderSpec)

/-- ITS FALSE NEIGHBOUR: 'it returns false'. Refute it at one input. -/
def marksOrderWrong : ChangeSpec := { name := "marksOrder", fn := fun _ => fun
  | [d] => { results := [.lit (.bool false)], args := [d] }
  | _ => none }
def MarksOrderWrongFalsely : Prop := marksOrderRow.holds Try.pinned (OpenSpec.ofChange marksOrderWrong)

/-- 'baterialaw05.MarksAhead': WHATEVER THE INPUT: true; the input reads as it did. -/
def marksAheadSpec : ChangeSpec := { name := "marksAhead", fn := fun _ => fun
  | [d] => { results := [.lit (.bool true)], args := [d] }
  | _ => none }
def marksAheadRow : OpenClaim := { program := "ytgelnjmddabgpaa", sum := "797e948ced57866e4fabcc28571165fe37b7653dc190651d06e6fbfa2851ae47", func := "bateria/baterialaw05.MarksAhead", spec := "marksAhead", unfollowed := true, recurses := true, plainKeys := false, apart := false }
def MarksAheadSaid : Prop := marksAheadRow.holds Try.pinned (OpenSpec.ofChange marksAheadSpec)

/-- ITS FALSE NEIGHBOUR: 'it returns false'. Refute it at one input. -/
def marksAheadWrong : ChangeSpec := { name := "marksAhead", fn := fun _ => fun
  | [d] => { results := [.lit (.bool false)], args := [d] }
  | _ => none }
def MarksAheadWrongFalsely : Prop := marksAheadRow.holds Try.pinned (OpenSpec.ofChange marksAheadWrong)

/-- 'baterialaw05.MarksWins': WHATEVER THE INPUT: true; the input reads as it did. -/
def marksWinsSpec : ChangeSpec := { name := "marksWins", fn := fun _ => fun
  | [d] => { results := [.lit (.bool true)], args := [d] }
  | _ => none }
def marksWinsRow : OpenClaim := { program := "ytgelnjmddabgpaa", sum := "797e948ced57866e4fabcc28571165fe37b7653dc190651d06e6fbfa2851ae47", func := "bateria/baterialaw05.MarksWins", spec := "marksWins", unfollowed := true, recurses := true, plainKeys := false, apart := false }
def MarksWinsSaid : Prop := marksWinsRow.holds Try.pinned (OpenSpec.ofChange marksWinsSpec)

/-- ITS FALSE NEIGHBOUR: 'it returns false'. Refute it at one input. -/
def marksWinsWrong : ChangeSpec := { name := "marksWins", fn := fun _ => fun
  | [d] => { results := [.lit (.bool false)], args := [d] }
  | _ => none }
def MarksWinsWrongFalsely : Prop := marksWinsRow.holds Try.pinned (OpenSpec.ofChange marksWinsWrong)

/-- 'baterialaw05.MarksSealed': WHATEVER THE INPUT: true; the input reads as it did. -/
def marksSealedSpec : ChangeSpec := { name := "marksSealed", fn := fun _ => fun
  | [d] => { results := [.lit (.bool true)], args := [d] }
  | _ => none }
def marksSealedRow : OpenClaim := { program := "ytgelnjmddabgpaa", sum := "797e948ced57866e4fabcc28571165fe37b7653dc190651d06e6fbfa2851ae47", func := "bateria/baterialaw05.MarksSealed", spec := "marksSealed", unfollowed := true, recurses := true, plainKeys := false, apart := false }
def MarksSealedSaid : Prop := marksSealedRow.holds Try.pinned (OpenSpec.ofChange marksSealedSpec)

/-- ITS FALSE NEIGHBOUR: 'it returns false'. Refute it at one input. -/
def marksSealedWrong : ChangeSpec := { name := "marksSealed", fn := fun _ => fun
  | [d] => { results := [.lit (.bool false)], args := [d] }
  | _ => none }
def MarksSealedWrongFalsely : Prop := marksSealedRow.holds Try.pinned (OpenSpec.ofChange marksSealedWrong)

/-- 'baterialaw05.MarksMoves': WHATEVER THE INPUT: true; the input reads as it did. -/
def marksMovesSpec : ChangeSpec := { name := "marksMoves", fn := fun _ => fun
  | [d1, d2, d3] => { results := [.lit (.bool true)], args := [d1, d2, d3] }
  | _ => none }
def marksMovesRow : OpenClaim := { program := "ytgelnjmddabgpaa", sum := "797e948ced57866e4fabcc28571165fe37b7653dc190651d06e6fbfa2851ae47", func := "bateria/baterialaw05.MarksMoves", spec := "marksMoves", unfollowed := true, recurses := true, plainKeys := false, apart := false }
def MarksMovesSaid : Prop := marksMovesRow.holds Try.pinned (OpenSpec.ofChange marksMovesSpec)

/-- ITS FALSE NEIGHBOUR: 'it returns false'. Refute it at one input. -/
def marksMovesWrong : ChangeSpec := { name := "marksMoves", fn := fun _ => fun
  | [d1, d2, d3] => { results := [.lit (.bool false)], args := [d1, d2, d3] }
  | _ => none }
def MarksMovesWrongFalsely : Prop := marksMovesRow.holds Try.pinned (OpenSpec.ofChange marksMovesWrong)

/-- 'baterialaw05.MarksLeagues': WHATEVER THE INPUT: true; the input reads as it did. -/
def marksLeaguesSpec : ChangeSpec := { name := "marksLeagues", fn := fun _ => fun
  | [d] => { results := [.lit (.bool true)], args := [d] }
  | _ => none }
def marksLeaguesRow : OpenClaim := { program := "ytgelnjmddabgpaa", sum := "797e948ced57866e4fabcc28571165fe37b7653dc190651d06e6fbfa2851ae47", func := "bateria/baterialaw05.MarksLeagues", spec := "marksLeagues", unfollowed := true, recurses := true, plainKeys := false, apart := false }
def MarksLeaguesSaid : Prop := marksLeaguesRow.holds Try.pinned (OpenSpec.ofChange marksLeaguesSpec)

/-- ITS FALSE NEIGHBOUR: 'it returns false'. Refute it at one input. -/
def marksLeaguesWrong : ChangeSpec := { name := "marksLeagues", fn := fun _ => fun
  | [d] => { results := [.lit (.bool false)], args := [d] }
  | _ => none }
def MarksLeaguesWrongFalsely : Prop := marksLeaguesRow.holds Try.pinned (OpenSpec.ofChange marksLeaguesWrong)

/- THE SECOND FORM. 'bulk': how many values and letters a reading holds, each counted each time it is reached (what is shared counts as often as it is met; a slice's spare places count too). A statement '..UptoSaid' is the law's where the arguments, and the package variables that the reading takes, are together of bulk at most 1048576: NARROWER than '..Said'. Prove '..Said' where nothing that the law and all that it calls make is longer than what came in: it says more and counts as full. Else prove '..UptoSaid'. A law counts once. -/
mutual
def uptoBulk {H : Type} : DataW H → Nat
  | .lit (.string bytes) => bytes.length + 1
  | .lit _ => 1
  | .nil => 1
  | .ptr d => uptoBulk d + 1
  | .slice elems spare => uptoBulkAll elems + uptoBulkAll spare + 1
  | .agg parts => uptoBulkAll parts + 1
  | .iface _ d => uptoBulk d + 1
  | .map entries => uptoBulkEntries entries + 1
  | .held _ => 1
def uptoBulkAll {H : Type} : List (DataW H) → Nat
  | [] => 0
  | d :: r => uptoBulk d + uptoBulkAll r
def uptoBulkEntries {H : Type} : List (Lit × DataW H) → Nat
  | [] => 0
  | x :: r => uptoBulkEntry x + uptoBulkEntries r
def uptoBulkEntry {H : Type} : Lit × DataW H → Nat
  | (.string bytes, d) => bytes.length + uptoBulk d + 1
  | (_, d) => uptoBulk d + 1
 end
def uptoSmall : (H : Type) → List (DataW H) → Bool := fun _ ds => decide (uptoBulkAll ds ≤ 1048576)
def OpenSpec.upto (s : _root_.Go.ChangeSpec) : _root_.Go.OpenSpec := { _root_.Go.OpenSpec.ofChange s with cond := some uptoSmall }

/-- 'baterialaw05.MarksOrder', WHERE WHAT IT READS IS OF BULK AT MOST 1048576: true; the input reads as it did. -/
def marksOrderUptoRow : OpenClaim := { program := "ytgelnjmddabgpaa", sum := "797e948ced57866e4fabcc28571165fe37b7653dc190651d06e6fbfa2851ae47", func := "bateria/baterialaw05.MarksOrder", spec := "marksOrder", unfollowed := true, recurses := true, plainKeys := false, apart := false, narrowed := true }
def MarksOrderUptoSaid : Prop := marksOrderUptoRow.holds Try.pinned (OpenSpec.upto marksOrderSpec)

/-- 'baterialaw05.MarksAhead', WHERE WHAT IT READS IS OF BULK AT MOST 1048576: true; the input reads as it did. -/
def marksAheadUptoRow : OpenClaim := { program := "ytgelnjmddabgpaa", sum := "797e948ced57866e4fabcc28571165fe37b7653dc190651d06e6fbfa2851ae47", func := "bateria/baterialaw05.MarksAhead", spec := "marksAhead", unfollowed := true, recurses := true, plainKeys := false, apart := false, narrowed := true }
def MarksAheadUptoSaid : Prop := marksAheadUptoRow.holds Try.pinned (OpenSpec.upto marksAheadSpec)

/-- 'baterialaw05.MarksWins', WHERE WHAT IT READS IS OF BULK AT MOST 1048576: true; the input reads as it did. -/
def marksWinsUptoRow : OpenClaim := { program := "ytgelnjmddabgpaa", sum := "797e948ced57866e4fabcc28571165fe37b7653dc190651d06e6fbfa2851ae47", func := "bateria/baterialaw05.MarksWins", spec := "marksWins", unfollowed := true, recurses := true, plainKeys := false, apart := false, narrowed := true }
def MarksWinsUptoSaid : Prop := marksWinsUptoRow.holds Try.pinned (OpenSpec.upto marksWinsSpec)

/-- 'baterialaw05.MarksSealed', WHERE WHAT IT READS IS OF BULK AT MOST 1048576: true; the input reads as it did. -/
def marksSealedUptoRow : OpenClaim := { program := "ytgelnjmddabgpaa", sum := "797e948ced57866e4fabcc28571165fe37b7653dc190651d06e6fbfa2851ae47", func := "bateria/baterialaw05.MarksSealed", spec := "marksSealed", unfollowed := true, recurses := true, plainKeys := false, apart := false, narrowed := true }
def MarksSealedUptoSaid : Prop := marksSealedUptoRow.holds Try.pinned (OpenSpec.upto marksSealedSpec)

/-- 'baterialaw05.MarksMoves', WHERE WHAT IT READS IS OF BULK AT MOST 1048576: true; the input reads as it did. -/
def marksMovesUptoRow : OpenClaim := { program := "ytgelnjmddabgpaa", sum := "797e948ced57866e4fabcc28571165fe37b7653dc190651d06e6fbfa2851ae47", func := "bateria/baterialaw05.MarksMoves", spec := "marksMoves", unfollowed := true, recurses := true, plainKeys := false, apart := false, narrowed := true }
def MarksMovesUptoSaid : Prop := marksMovesUptoRow.holds Try.pinned (OpenSpec.upto marksMovesSpec)

/-- 'baterialaw05.MarksLeagues', WHERE WHAT IT READS IS OF BULK AT MOST 1048576: true; the input reads as it did. -/
def marksLeaguesUptoRow : OpenClaim := { program := "ytgelnjmddabgpaa", sum := "797e948ced57866e4fabcc28571165fe37b7653dc190651d06e6fbfa2851ae47", func := "bateria/baterialaw05.MarksLeagues", spec := "marksLeagues", unfollowed := true, recurses := true, plainKeys := false, apart := false, narrowed := true }
def MarksLeaguesUptoSaid : Prop := marksLeaguesUptoRow.holds Try.pinned (OpenSpec.upto marksLeaguesSpec)

end Rows
end Go.Proofs.Ytgelnjmddabgpaa
