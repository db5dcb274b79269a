/-
  No cell of these rows narrows 'for every input' (looked for: loops, veiled, ifaces, maps, wideKeys, modest, calm, conditions, laid).
  DERIVED. THE GIVEN ROWS OF THIS SEAT. 7 by the template 'for every input the law returns true; each argument reads behind the call as it read before'; 0 by the template 'total and deterministic' (their statements: YtnolifglhhjdnaaTotals.lean).
  GIVEN WITH THE SEED: the statements are not yours to turn. If you find one false, say at which input.
  Laid BY PROGRAM, IN A SANDBOX (cutbox-rows.mjs): the forced cells as the released guide's own fill.sh prints them over the translation 2239884e5e990f30… (all of the seat's roots in one cut). By AI agents, Wed Nov 11 2026. No macro, syntax, notation, axiom, sorry.
-/
import Derived.Test.YtnolifglhhjdnaaChecked
import GoSem.Claim
import GoSem.ClaimJoined
import GoSem.ClaimMapViews
import Derived.JoinedTies
import Derived.KernelRfl
namespace Go.Proofs.Ytnolifglhhjdnaa
/- THE CELL 'sum', in the pinned program and in every row, IS THE sha256 OF THE DUMP (.gsa) THAT YtnolifglhhjdnaaProg.lean LOADS. Nothing in Lean hashes anything: it is a label: what it is worth is what the hold of that sum in a sandbox is worth. -/
noncomputable def Try.pinned : Pinned := { name := "ytnolifglhhjdnaa", sum := "2239884e5e990f304e15232dc3ca703d8872a0e4e7978a680886a4efde9bbada", checked := Try.checked }
namespace Rows
def none {H : Type} : Left H := { results := [], args := [] }

/-- 'baterialaw04.SongRules': WHATEVER THE INPUT: true; the input reads as it did. -/
def songRulesSpec : ChangeSpec := { name := "songRules", fn := fun _ => fun
  | [d] => { results := [.lit (.bool true)], args := [d] }
  | _ => none }
def songRulesRow : OpenClaim := { program := "ytnolifglhhjdnaa", sum := "2239884e5e990f304e15232dc3ca703d8872a0e4e7978a680886a4efde9bbada", func := "bateria/baterialaw04.SongRules", spec := "songRules", unfollowed := true, recurses := true, plainKeys := false, apart := false }
def SongRulesSaid : Prop := songRulesRow.holds Try.pinned (OpenSpec.ofChange songRulesSpec)

/-- ITS FALSE NEIGHBOUR: 'it returns false'. Refute it at one input. -/
def songRulesWrong : ChangeSpec := { name := "songRules", fn := fun _ => fun
  | [d] => { results := [.lit (.bool false)], args := [d] }
  | _ => none }
def SongRulesWrongFalsely : Prop := songRulesRow.holds Try.pinned (OpenSpec.ofChange songRulesWrong)

/-- 'baterialaw04.SongRunoff': WHATEVER THE INPUT: true; the input reads as it did. -/
def songRunoffSpec : ChangeSpec := { name := "songRunoff", fn := fun _ => fun
  | [d] => { results := [.lit (.bool true)], args := [d] }
  | _ => none }
def songRunoffRow : OpenClaim := { program := "ytnolifglhhjdnaa", sum := "2239884e5e990f304e15232dc3ca703d8872a0e4e7978a680886a4efde9bbada", func := "bateria/baterialaw04.SongRunoff", spec := "songRunoff", unfollowed := true, recurses := true, plainKeys := false, apart := false }
def SongRunoffSaid : Prop := songRunoffRow.holds Try.pinned (OpenSpec.ofChange songRunoffSpec)

/-- ITS FALSE NEIGHBOUR: 'it returns false'. Refute it at one input. -/
def songRunoffWrong : ChangeSpec := { name := "songRunoff", fn := fun _ => fun
  | [d] => { results := [.lit (.bool false)], args := [d] }
  | _ => none }
def SongRunoffWrongFalsely : Prop := songRunoffRow.holds Try.pinned (OpenSpec.ofChange songRunoffWrong)

/-- 'baterialaw04.SongOrder': WHATEVER THE INPUT: true; the input reads as it did. -/
def songOrderSpec : ChangeSpec := { name := "songOrder", fn := fun _ => fun
  | [d] => { results := [.lit (.bool true)], args := [d] }
  | _ => none }
def songOrderRow : OpenClaim := { program := "ytnolifglhhjdnaa", sum := "2239884e5e990f304e15232dc3ca703d8872a0e4e7978a680886a4efde9bbada", func := "bateria/baterialaw04.SongOrder", spec := "songOrder", unfollowed := true, recurses := true, plainKeys := false, apart := false }
def SongOrderSaid : Prop := songOrderRow.holds Try.pinned (OpenSpec.ofChange songOrderSpec)

/-- ITS FALSE NEIGHBOUR: 'it returns false'. Refute it at one input. -/
def songOrderWrong : ChangeSpec := { name := "songOrder", fn := fun _ => fun
  | [d] => { results := [.lit (.bool false)], args := [d] }
  | _ => none }
def SongOrderWrongFalsely : Prop := songOrderRow.holds Try.pinned (OpenSpec.ofChange songOrderWrong)

/-- 'baterialaw04.SongTwice': WHATEVER THE INPUT: true; the input reads as it did. -/
def songTwiceSpec : ChangeSpec := { name := "songTwice", fn := fun _ => fun
  | [d] => { results := [.lit (.bool true)], args := [d] }
  | _ => none }
def songTwiceRow : OpenClaim := { program := "ytnolifglhhjdnaa", sum := "2239884e5e990f304e15232dc3ca703d8872a0e4e7978a680886a4efde9bbada", func := "bateria/baterialaw04.SongTwice", spec := "songTwice", unfollowed := true, recurses := true, plainKeys := false, apart := false }
def SongTwiceSaid : Prop := songTwiceRow.holds Try.pinned (OpenSpec.ofChange songTwiceSpec)

/-- ITS FALSE NEIGHBOUR: 'it returns false'. Refute it at one input. -/
def songTwiceWrong : ChangeSpec := { name := "songTwice", fn := fun _ => fun
  | [d] => { results := [.lit (.bool false)], args := [d] }
  | _ => none }
def SongTwiceWrongFalsely : Prop := songTwiceRow.holds Try.pinned (OpenSpec.ofChange songTwiceWrong)

/-- 'baterialaw04.SongMore': WHATEVER THE INPUT: true; the input reads as it did. -/
def songMoreSpec : ChangeSpec := { name := "songMore", fn := fun _ => fun
  | [d] => { results := [.lit (.bool true)], args := [d] }
  | _ => none }
def songMoreRow : OpenClaim := { program := "ytnolifglhhjdnaa", sum := "2239884e5e990f304e15232dc3ca703d8872a0e4e7978a680886a4efde9bbada", func := "bateria/baterialaw04.SongMore", spec := "songMore", unfollowed := true, recurses := true, plainKeys := false, apart := false }
def SongMoreSaid : Prop := songMoreRow.holds Try.pinned (OpenSpec.ofChange songMoreSpec)

/-- ITS FALSE NEIGHBOUR: 'it returns false'. Refute it at one input. -/
def songMoreWrong : ChangeSpec := { name := "songMore", fn := fun _ => fun
  | [d] => { results := [.lit (.bool false)], args := [d] }
  | _ => none }
def SongMoreWrongFalsely : Prop := songMoreRow.holds Try.pinned (OpenSpec.ofChange songMoreWrong)

/-- 'baterialaw04.SongPrefs': WHATEVER THE INPUT: true; the input reads as it did. -/
def songPrefsSpec : ChangeSpec := { name := "songPrefs", fn := fun _ => fun
  | [d1, d2, d3] => { results := [.lit (.bool true)], args := [d1, d2, d3] }
  | _ => none }
def songPrefsRow : OpenClaim := { program := "ytnolifglhhjdnaa", sum := "2239884e5e990f304e15232dc3ca703d8872a0e4e7978a680886a4efde9bbada", func := "bateria/baterialaw04.SongPrefs", spec := "songPrefs", unfollowed := true, recurses := true, plainKeys := false, apart := false }
def SongPrefsSaid : Prop := songPrefsRow.holds Try.pinned (OpenSpec.ofChange songPrefsSpec)

/-- ITS FALSE NEIGHBOUR: 'it returns false'. Refute it at one input. -/
def songPrefsWrong : ChangeSpec := { name := "songPrefs", fn := fun _ => fun
  | [d1, d2, d3] => { results := [.lit (.bool false)], args := [d1, d2, d3] }
  | _ => none }
def SongPrefsWrongFalsely : Prop := songPrefsRow.holds Try.pinned (OpenSpec.ofChange songPrefsWrong)

/-- 'baterialaw04.SongDuels': WHATEVER THE INPUT: true; the input reads as it did. -/
def songDuelsSpec : ChangeSpec := { name := "songDuels", fn := fun _ => fun
  | [d] => { results := [.lit (.bool true)], args := [d] }
  | _ => none }
def songDuelsRow : OpenClaim := { program := "ytnolifglhhjdnaa", sum := "2239884e5e990f304e15232dc3ca703d8872a0e4e7978a680886a4efde9bbada", func := "bateria/baterialaw04.SongDuels", spec := "songDuels", unfollowed := true, recurses := true, plainKeys := false, apart := false }
def SongDuelsSaid : Prop := songDuelsRow.holds Try.pinned (OpenSpec.ofChange songDuelsSpec)

/-- ITS FALSE NEIGHBOUR: 'it returns false'. Refute it at one input. -/
def songDuelsWrong : ChangeSpec := { name := "songDuels", fn := fun _ => fun
  | [d] => { results := [.lit (.bool false)], args := [d] }
  | _ => none }
def SongDuelsWrongFalsely : Prop := songDuelsRow.holds Try.pinned (OpenSpec.ofChange songDuelsWrong)

/- THE SECOND FORM. 'bulk': how many values and letters a reading holds, each counted each time it is reached (what is shared counts as often as it is met; a slice's spare places count too). A statement '..UptoSaid' is the law's where the arguments, and the package variables that the reading takes, are together of bulk at most 1048576: NARROWER than '..Said'. Prove '..Said' where nothing that the law and all that it calls make is longer than what came in: it says more and counts as full. Else prove '..UptoSaid'. A law counts once. -/
mutual
def uptoBulk {H : Type} : DataW H → Nat
  | .lit (.string bytes) => bytes.length + 1
  | .lit _ => 1
  | .nil => 1
  | .ptr d => uptoBulk d + 1
  | .slice elems spare => uptoBulkAll elems + uptoBulkAll spare + 1
  | .agg parts => uptoBulkAll parts + 1
  | .iface _ d => uptoBulk d + 1
  | .map entries => uptoBulkEntries entries + 1
  | .held _ => 1
def uptoBulkAll {H : Type} : List (DataW H) → Nat
  | [] => 0
  | d :: r => uptoBulk d + uptoBulkAll r
def uptoBulkEntries {H : Type} : List (Lit × DataW H) → Nat
  | [] => 0
  | x :: r => uptoBulkEntry x + uptoBulkEntries r
def uptoBulkEntry {H : Type} : Lit × DataW H → Nat
  | (.string bytes, d) => bytes.length + uptoBulk d + 1
  | (_, d) => uptoBulk d + 1
 end
def uptoSmall : (H : Type) → List (DataW H) → Bool := fun _ ds => decide (uptoBulkAll ds ≤ 1048576)
def OpenSpec.upto (s : _root_.Go.ChangeSpec) : _root_.Go.OpenSpec := { _root_.Go.OpenSpec.ofChange s with cond := some uptoSmall }

/-- 'baterialaw04.SongRules', WHERE WHAT IT READS IS OF BULK AT MOST 1048576: true; the input reads as it did. -/
def songRulesUptoRow : OpenClaim := { program := "ytnolifglhhjdnaa", sum := "2239884e5e990f304e15232dc3ca703d8872a0e4e7978a680886a4efde9bbada", func := "bateria/baterialaw04.SongRules", spec := "songRules", unfollowed := true, recurses := true, plainKeys := false, apart := false, narrowed := true }
def SongRulesUptoSaid : Prop := songRulesUptoRow.holds Try.pinned (OpenSpec.upto songRulesSpec)

/-- 'baterialaw04.SongRunoff', WHERE WHAT IT READS IS OF BULK AT MOST 1048576: true; the input reads as it did. -/
def songRunoffUptoRow : OpenClaim := { program := "ytnolifglhhjdnaa", sum := "2239884e5e990f304e15232dc3ca703d8872a0e4e7978a680886a4efde9bbada", func := "bateria/baterialaw04.SongRunoff", spec := "songRunoff", unfollowed := true, recurses := true, plainKeys := false, apart := false, narrowed := true }
def SongRunoffUptoSaid : Prop := songRunoffUptoRow.holds Try.pinned (OpenSpec.upto songRunoffSpec)

/-- 'baterialaw04.SongOrder', WHERE WHAT IT READS IS OF BULK AT MOST 1048576: true; the input reads as it did. -/
def songOrderUptoRow : OpenClaim := { program := "ytnolifglhhjdnaa", sum := "2239884e5e990f304e15232dc3ca703d8872a0e4e7978a680886a4efde9bbada", func := "bateria/baterialaw04.SongOrder", spec := "songOrder", unfollowed := true, recurses := true, plainKeys := false, apart := false, narrowed := true }
def SongOrderUptoSaid : Prop := songOrderUptoRow.holds Try.pinned (OpenSpec.upto songOrderSpec)

/-- 'baterialaw04.SongTwice', WHERE WHAT IT READS IS OF BULK AT MOST 1048576: true; the input reads as it did. -/
def songTwiceUptoRow : OpenClaim := { program := "ytnolifglhhjdnaa", sum := "2239884e5e990f304e15232dc3ca703d8872a0e4e7978a680886a4efde9bbada", func := "bateria/baterialaw04.SongTwice", spec := "songTwice", unfollowed := true, recurses := true, plainKeys := false, apart := false, narrowed := true }
def SongTwiceUptoSaid : Prop := songTwiceUptoRow.holds Try.pinned (OpenSpec.upto songTwiceSpec)

/-- 'baterialaw04.SongMore', WHERE WHAT IT READS IS OF BULK AT MOST 1048576: true; the input reads as it did. -/
def songMoreUptoRow : OpenClaim := { program := "ytnolifglhhjdnaa", sum := "2239884e5e990f304e15232dc3ca703d8872a0e4e7978a680886a4efde9bbada", func := "bateria/baterialaw04.SongMore", spec := "songMore", unfollowed := true, recurses := true, plainKeys := false, apart := false, narrowed := true }
def SongMoreUptoSaid : Prop := songMoreUptoRow.holds Try.pinned (OpenSpec.upto songMoreSpec)

/-- 'baterialaw04.SongPrefs', WHERE WHAT IT READS IS OF BULK AT MOST 1048576: true; the input reads as it did. -/
def songPrefsUptoRow : OpenClaim := { program := "ytnolifglhhjdnaa", sum := "2239884e5e990f304e15232dc3ca703d8872a0e4e7978a680886a4efde9bbada", func := "bateria/baterialaw04.SongPrefs", spec := "songPrefs", unfollowed := true, recurses := true, plainKeys := false, apart := false, narrowed := true }
def SongPrefsUptoSaid : Prop := songPrefsUptoRow.holds Try.pinned (OpenSpec.upto songPrefsSpec)

/-- 'baterialaw04.SongDuels', WHERE WHAT IT READS IS OF BULK AT MOST 1048576: true; the input reads as it did. -/
def songDuelsUptoRow : OpenClaim := { program := "ytnolifglhhjdnaa", sum := "2239884e5e990f304e15232dc3ca703d8872a0e4e7978a680886a4efde9bbada", func := "bateria/baterialaw04.SongDuels", spec := "songDuels", unfollowed := true, recurses := true, plainKeys := false, apart := false, narrowed := true }
def SongDuelsUptoSaid : Prop := songDuelsUptoRow.holds Try.pinned (OpenSpec.upto songDuelsSpec)

end Rows
end Go.Proofs.Ytnolifglhhjdnaa
