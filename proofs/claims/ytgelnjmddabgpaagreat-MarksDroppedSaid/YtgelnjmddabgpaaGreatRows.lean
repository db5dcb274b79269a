/-
  No cell of these rows narrows 'for every input' (looked for: loops, veiled, ifaces, maps, wideKeys, modest, calm, conditions, laid).
  DERIVED. THE GIVEN ROWS OF THIS SEAT. 6 by the template 'for every input the law returns true; each argument reads behind the call as it read before'; 0 by the template 'total and deterministic' (their statements: YtgelnjmddabgpaaGreatTotals.lean).
  GIVEN WITH THE SEED: the statements are not yours to turn. If you find one false, say at which input.
  Laid BY PROGRAM, IN A SANDBOX (cutbox-rows.mjs): the forced cells as the released guide's own fill.sh prints them over the translation 81733d29087a90c6… (all of the seat's roots in one cut). By AI agents, Wed Nov 11 2026. No macro, syntax, notation, axiom, sorry.
-/
import Derived.Test.YtgelnjmddabgpaaGreatChecked
import GoSem.Claim
import GoSem.ClaimJoined
import GoSem.ClaimMapViews
import Derived.JoinedTies
import Derived.KernelRfl
namespace Go.Proofs.YtgelnjmddabgpaaGreat
/- THE CELL 'sum', in the pinned program and in every row, IS THE sha256 OF THE DUMP (.gsa) THAT YtgelnjmddabgpaaGreatProg.lean LOADS. Nothing in Lean hashes anything: it is a label: what it is worth is what the hold of that sum in a sandbox is worth. -/
noncomputable def Tryz.pinned : Pinned := { name := "ytgelnjmddabgpaagreat", sum := "81733d29087a90c6dea58c6b06adab5d3abecfaa302f7b2d657ab37aff955e6f", checked := Tryz.checked }
namespace Rows
def none {H : Type} : Left H := { results := [], args := [] }

/-- 'baterialaw05.MarksTables': WHATEVER THE INPUT: true; the input reads as it did. -/
def marksTablesSpec : ChangeSpec := { name := "marksTables", fn := fun _ => fun
  | [d1, d2, d3] => { results := [.lit (.bool true)], args := [d1, d2, d3] }
  | _ => none }
def marksTablesRow : OpenClaim := { program := "ytgelnjmddabgpaagreat", sum := "81733d29087a90c6dea58c6b06adab5d3abecfaa302f7b2d657ab37aff955e6f", func := "bateria/baterialaw05.MarksTables", spec := "marksTables", unfollowed := true, recurses := true, plainKeys := false, apart := false }
def MarksTablesSaid : Prop := marksTablesRow.holds Tryz.pinned (OpenSpec.ofChange marksTablesSpec)

/-- ITS FALSE NEIGHBOUR: 'it returns false'. Refute it at one input. -/
def marksTablesWrong : ChangeSpec := { name := "marksTables", fn := fun _ => fun
  | [d1, d2, d3] => { results := [.lit (.bool false)], args := [d1, d2, d3] }
  | _ => none }
def MarksTablesWrongFalsely : Prop := marksTablesRow.holds Tryz.pinned (OpenSpec.ofChange marksTablesWrong)

/-- 'baterialaw05.MarksDropped': WHATEVER THE INPUT: true; the input reads as it did. -/
def marksDroppedSpec : ChangeSpec := { name := "marksDropped", fn := fun _ => fun
  | [d] => { results := [.lit (.bool true)], args := [d] }
  | _ => none }
def marksDroppedRow : OpenClaim := { program := "ytgelnjmddabgpaagreat", sum := "81733d29087a90c6dea58c6b06adab5d3abecfaa302f7b2d657ab37aff955e6f", func := "bateria/baterialaw05.MarksDropped", spec := "marksDropped", unfollowed := true, recurses := true, plainKeys := false, apart := false }
def MarksDroppedSaid : Prop := marksDroppedRow.holds Tryz.pinned (OpenSpec.ofChange marksDroppedSpec)

/-- ITS FALSE NEIGHBOUR: 'it returns false'. Refute it at one input. -/
def marksDroppedWrong : ChangeSpec := { name := "marksDropped", fn := fun _ => fun
  | [d] => { results := [.lit (.bool false)], args := [d] }
  | _ => none }
def MarksDroppedWrongFalsely : Prop := marksDroppedRow.holds Tryz.pinned (OpenSpec.ofChange marksDroppedWrong)

/-- 'baterialaw05.MarksPlaces': WHATEVER THE INPUT: true; the input reads as it did. -/
def marksPlacesSpec : ChangeSpec := { name := "marksPlaces", fn := fun _ => fun
  | [d1, d2, d3, d4] => { results := [.lit (.bool true)], args := [d1, d2, d3, d4] }
  | _ => none }
def marksPlacesRow : OpenClaim := { program := "ytgelnjmddabgpaagreat", sum := "81733d29087a90c6dea58c6b06adab5d3abecfaa302f7b2d657ab37aff955e6f", func := "bateria/baterialaw05.MarksPlaces", spec := "marksPlaces", unfollowed := true, recurses := true, plainKeys := false, apart := false }
def MarksPlacesSaid : Prop := marksPlacesRow.holds Tryz.pinned (OpenSpec.ofChange marksPlacesSpec)

/-- ITS FALSE NEIGHBOUR: 'it returns false'. Refute it at one input. -/
def marksPlacesWrong : ChangeSpec := { name := "marksPlaces", fn := fun _ => fun
  | [d1, d2, d3, d4] => { results := [.lit (.bool false)], args := [d1, d2, d3, d4] }
  | _ => none }
def MarksPlacesWrongFalsely : Prop := marksPlacesRow.holds Tryz.pinned (OpenSpec.ofChange marksPlacesWrong)

/-- 'baterialaw05.MarksTrue': WHATEVER THE INPUT: true; the input reads as it did. -/
def marksTrueSpec : ChangeSpec := { name := "marksTrue", fn := fun _ => fun
  | [d] => { results := [.lit (.bool true)], args := [d] }
  | _ => none }
def marksTrueRow : OpenClaim := { program := "ytgelnjmddabgpaagreat", sum := "81733d29087a90c6dea58c6b06adab5d3abecfaa302f7b2d657ab37aff955e6f", func := "bateria/baterialaw05.MarksTrue", spec := "marksTrue", unfollowed := true, recurses := true, plainKeys := false, apart := false }
def MarksTrueSaid : Prop := marksTrueRow.holds Tryz.pinned (OpenSpec.ofChange marksTrueSpec)

/-- ITS FALSE NEIGHBOUR: 'it returns false'. Refute it at one input. -/
def marksTrueWrong : ChangeSpec := { name := "marksTrue", fn := fun _ => fun
  | [d] => { results := [.lit (.bool false)], args := [d] }
  | _ => none }
def MarksTrueWrongFalsely : Prop := marksTrueRow.holds Tryz.pinned (OpenSpec.ofChange marksTrueWrong)

/-- 'baterialaw05.MarksOpened': WHATEVER THE INPUT: true; the input reads as it did. -/
def marksOpenedSpec : ChangeSpec := { name := "marksOpened", fn := fun _ => fun
  | [d] => { results := [.lit (.bool true)], args := [d] }
  | _ => none }
def marksOpenedRow : OpenClaim := { program := "ytgelnjmddabgpaagreat", sum := "81733d29087a90c6dea58c6b06adab5d3abecfaa302f7b2d657ab37aff955e6f", func := "bateria/baterialaw05.MarksOpened", spec := "marksOpened", unfollowed := true, recurses := true, plainKeys := false, apart := false }
def MarksOpenedSaid : Prop := marksOpenedRow.holds Tryz.pinned (OpenSpec.ofChange marksOpenedSpec)

/-- ITS FALSE NEIGHBOUR: 'it returns false'. Refute it at one input. -/
def marksOpenedWrong : ChangeSpec := { name := "marksOpened", fn := fun _ => fun
  | [d] => { results := [.lit (.bool false)], args := [d] }
  | _ => none }
def MarksOpenedWrongFalsely : Prop := marksOpenedRow.holds Tryz.pinned (OpenSpec.ofChange marksOpenedWrong)

/-- 'baterialaw05.MarksChecks': WHATEVER THE INPUT: true; the input reads as it did. -/
def marksChecksSpec : ChangeSpec := { name := "marksChecks", fn := fun _ => fun
  | [d1, d2, d3, d4, d5, d6, d7] => { results := [.lit (.bool true)], args := [d1, d2, d3, d4, d5, d6, d7] }
  | _ => none }
def marksChecksRow : OpenClaim := { program := "ytgelnjmddabgpaagreat", sum := "81733d29087a90c6dea58c6b06adab5d3abecfaa302f7b2d657ab37aff955e6f", func := "bateria/baterialaw05.MarksChecks", spec := "marksChecks", unfollowed := true, recurses := true, plainKeys := false, apart := false }
def MarksChecksSaid : Prop := marksChecksRow.holds Tryz.pinned (OpenSpec.ofChange marksChecksSpec)

/-- ITS FALSE NEIGHBOUR: 'it returns false'. Refute it at one input. -/
def marksChecksWrong : ChangeSpec := { name := "marksChecks", fn := fun _ => fun
  | [d1, d2, d3, d4, d5, d6, d7] => { results := [.lit (.bool false)], args := [d1, d2, d3, d4, d5, d6, d7] }
  | _ => none }
def MarksChecksWrongFalsely : Prop := marksChecksRow.holds Tryz.pinned (OpenSpec.ofChange marksChecksWrong)

/- THE SECOND FORM. 'bulk': how many values and letters a reading holds, each counted each time it is reached (what is shared counts as often as it is met; a slice's spare places count too). A statement '..UptoSaid' is the law's where the arguments, and the package variables that the reading takes, are together of bulk at most 1048576: NARROWER than '..Said'. Prove '..Said' where nothing that the law and all that it calls make is longer than what came in: it says more and counts as full. Else prove '..UptoSaid'. A law counts once. -/
mutual
def uptoBulk {H : Type} : DataW H → Nat
  | .lit (.string bytes) => bytes.length + 1
  | .lit _ => 1
  | .nil => 1
  | .ptr d => uptoBulk d + 1
  | .slice elems spare => uptoBulkAll elems + uptoBulkAll spare + 1
  | .agg parts => uptoBulkAll parts + 1
  | .iface _ d => uptoBulk d + 1
  | .map entries => uptoBulkEntries entries + 1
  | .held _ => 1
def uptoBulkAll {H : Type} : List (DataW H) → Nat
  | [] => 0
  | d :: r => uptoBulk d + uptoBulkAll r
def uptoBulkEntries {H : Type} : List (Lit × DataW H) → Nat
  | [] => 0
  | x :: r => uptoBulkEntry x + uptoBulkEntries r
def uptoBulkEntry {H : Type} : Lit × DataW H → Nat
  | (.string bytes, d) => bytes.length + uptoBulk d + 1
  | (_, d) => uptoBulk d + 1
 end
def uptoSmall : (H : Type) → List (DataW H) → Bool := fun _ ds => decide (uptoBulkAll ds ≤ 1048576)
def OpenSpec.upto (s : _root_.Go.ChangeSpec) : _root_.Go.OpenSpec := { _root_.Go.OpenSpec.ofChange s with cond := some uptoSmall }

/-- 'baterialaw05.MarksTables', WHERE WHAT IT READS IS OF BULK AT MOST 1048576: true; the input reads as it did. -/
def marksTablesUptoRow : OpenClaim := { program := "ytgelnjmddabgpaagreat", sum := "81733d29087a90c6dea58c6b06adab5d3abecfaa302f7b2d657ab37aff955e6f", func := "bateria/baterialaw05.MarksTables", spec := "marksTables", unfollowed := true, recurses := true, plainKeys := false, apart := false, narrowed := true }
def MarksTablesUptoSaid : Prop := marksTablesUptoRow.holds Tryz.pinned (OpenSpec.upto marksTablesSpec)

/-- 'baterialaw05.MarksDropped', WHERE WHAT IT READS IS OF BULK AT MOST 1048576: true; the input reads as it did. -/
def marksDroppedUptoRow : OpenClaim := { program := "ytgelnjmddabgpaagreat", sum := "81733d29087a90c6dea58c6b06adab5d3abecfaa302f7b2d657ab37aff955e6f", func := "bateria/baterialaw05.MarksDropped", spec := "marksDropped", unfollowed := true, recurses := true, plainKeys := false, apart := false, narrowed := true }
def MarksDroppedUptoSaid : Prop := marksDroppedUptoRow.holds Tryz.pinned (OpenSpec.upto marksDroppedSpec)

/-- 'baterialaw05.MarksPlaces', WHERE WHAT IT READS IS OF BULK AT MOST 1048576: true; the input reads as it did. -/
def marksPlacesUptoRow : OpenClaim := { program := "ytgelnjmddabgpaagreat", sum := "81733d29087a90c6dea58c6b06adab5d3abecfaa302f7b2d657ab37aff955e6f", func := "bateria/baterialaw05.MarksPlaces", spec := "marksPlaces", unfollowed := true, recurses := true, plainKeys := false, apart := false, narrowed := true }
def MarksPlacesUptoSaid : Prop := marksPlacesUptoRow.holds Tryz.pinned (OpenSpec.upto marksPlacesSpec)

/-- 'baterialaw05.MarksTrue', WHERE WHAT IT READS IS OF BULK AT MOST 1048576: true; the input reads as it did. -/
def marksTrueUptoRow : OpenClaim := { program := "ytgelnjmddabgpaagreat", sum := "81733d29087a90c6dea58c6b06adab5d3abecfaa302f7b2d657ab37aff955e6f", func := "bateria/baterialaw05.MarksTrue", spec := "marksTrue", unfollowed := true, recurses := true, plainKeys := false, apart := false, narrowed := true }
def MarksTrueUptoSaid : Prop := marksTrueUptoRow.holds Tryz.pinned (OpenSpec.upto marksTrueSpec)

/-- 'baterialaw05.MarksOpened', WHERE WHAT IT READS IS OF BULK AT MOST 1048576: true; the input reads as it did. -/
def marksOpenedUptoRow : OpenClaim := { program := "ytgelnjmddabgpaagreat", sum := "81733d29087a90c6dea58c6b06adab5d3abecfaa302f7b2d657ab37aff955e6f", func := "bateria/baterialaw05.MarksOpened", spec := "marksOpened", unfollowed := true, recurses := true, plainKeys := false, apart := false, narrowed := true }
def MarksOpenedUptoSaid : Prop := marksOpenedUptoRow.holds Tryz.pinned (OpenSpec.upto marksOpenedSpec)

/-- 'baterialaw05.MarksChecks', WHERE WHAT IT READS IS OF BULK AT MOST 1048576: true; the input reads as it did. -/
def marksChecksUptoRow : OpenClaim := { program := "ytgelnjmddabgpaagreat", sum := "81733d29087a90c6dea58c6b06adab5d3abecfaa302f7b2d657ab37aff955e6f", func := "bateria/baterialaw05.MarksChecks", spec := "marksChecks", unfollowed := true, recurses := true, plainKeys := false, apart := false, narrowed := true }
def MarksChecksUptoSaid : Prop := marksChecksUptoRow.holds Tryz.pinned (OpenSpec.upto marksChecksSpec)

end Rows
end Go.Proofs.YtgelnjmddabgpaaGreat
