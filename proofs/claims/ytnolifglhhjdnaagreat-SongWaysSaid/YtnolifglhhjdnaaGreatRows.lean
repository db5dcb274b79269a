/-
  No cell of these rows narrows 'for every input' (looked for: loops, veiled, ifaces, maps, wideKeys, modest, calm, conditions, laid).
  DERIVED. THE GIVEN ROWS OF THIS SEAT. 4 by the template 'for every input the law returns true; each argument reads behind the call as it read before'; 0 by the template 'total and deterministic' (their statements: YtnolifglhhjdnaaGreatTotals.lean).
  GIVEN WITH THE SEED: the statements are not yours to turn. If you find one false, say at which input.
  Laid BY PROGRAM, IN A SANDBOX (cutbox-rows.mjs): the forced cells as the released guide's own fill.sh prints them over the translation b8bb86d987c4fb8e… (all of the seat's roots in one cut). By AI agents, Wed Nov 11 2026. No macro, syntax, notation, axiom, sorry.
-/
import Derived.Test.YtnolifglhhjdnaaGreatChecked
import GoSem.Claim
import GoSem.ClaimJoined
import GoSem.ClaimMapViews
import Derived.JoinedTies
import Derived.KernelRfl
namespace Go.Proofs.YtnolifglhhjdnaaGreat
/- THE CELL 'sum', in the pinned program and in every row, IS THE sha256 OF THE DUMP (.gsa) THAT YtnolifglhhjdnaaGreatProg.lean LOADS. Nothing in Lean hashes anything: it is a label: what it is worth is what the hold of that sum in a sandbox is worth. -/
noncomputable def Tryz.pinned : Pinned := { name := "ytnolifglhhjdnaagreat", sum := "b8bb86d987c4fb8e63d92ba2f917a0bd2d78dc5272f2c00ff7081dc0e274be5c", checked := Tryz.checked }
namespace Rows
def none {H : Type} : Left H := { results := [], args := [] }

/-- 'baterialaw04.SongWays': WHATEVER THE INPUT: true; the input reads as it did. -/
def songWaysSpec : ChangeSpec := { name := "songWays", fn := fun _ => fun
  | [d] => { results := [.lit (.bool true)], args := [d] }
  | _ => none }
def songWaysRow : OpenClaim := { program := "ytnolifglhhjdnaagreat", sum := "b8bb86d987c4fb8e63d92ba2f917a0bd2d78dc5272f2c00ff7081dc0e274be5c", func := "bateria/baterialaw04.SongWays", spec := "songWays", unfollowed := true, recurses := true, plainKeys := false, apart := false }
def SongWaysSaid : Prop := songWaysRow.holds Tryz.pinned (OpenSpec.ofChange songWaysSpec)

/-- ITS FALSE NEIGHBOUR: 'it returns false'. Refute it at one input. -/
def songWaysWrong : ChangeSpec := { name := "songWays", fn := fun _ => fun
  | [d] => { results := [.lit (.bool false)], args := [d] }
  | _ => none }
def SongWaysWrongFalsely : Prop := songWaysRow.holds Tryz.pinned (OpenSpec.ofChange songWaysWrong)

/-- 'baterialaw04.SongRounds': WHATEVER THE INPUT: true; the input reads as it did. -/
def songRoundsSpec : ChangeSpec := { name := "songRounds", fn := fun _ => fun
  | [d1, d2, d3, d4] => { results := [.lit (.bool true)], args := [d1, d2, d3, d4] }
  | _ => none }
def songRoundsRow : OpenClaim := { program := "ytnolifglhhjdnaagreat", sum := "b8bb86d987c4fb8e63d92ba2f917a0bd2d78dc5272f2c00ff7081dc0e274be5c", func := "bateria/baterialaw04.SongRounds", spec := "songRounds", unfollowed := true, recurses := true, plainKeys := false, apart := false }
def SongRoundsSaid : Prop := songRoundsRow.holds Tryz.pinned (OpenSpec.ofChange songRoundsSpec)

/-- ITS FALSE NEIGHBOUR: 'it returns false'. Refute it at one input. -/
def songRoundsWrong : ChangeSpec := { name := "songRounds", fn := fun _ => fun
  | [d1, d2, d3, d4] => { results := [.lit (.bool false)], args := [d1, d2, d3, d4] }
  | _ => none }
def SongRoundsWrongFalsely : Prop := songRoundsRow.holds Tryz.pinned (OpenSpec.ofChange songRoundsWrong)

/-- 'baterialaw04.SongStill': WHATEVER THE INPUT: true; the input reads as it did. -/
def songStillSpec : ChangeSpec := { name := "songStill", fn := fun _ => fun
  | [d1, d2, d3, d4, d5] => { results := [.lit (.bool true)], args := [d1, d2, d3, d4, d5] }
  | _ => none }
def songStillRow : OpenClaim := { program := "ytnolifglhhjdnaagreat", sum := "b8bb86d987c4fb8e63d92ba2f917a0bd2d78dc5272f2c00ff7081dc0e274be5c", func := "bateria/baterialaw04.SongStill", spec := "songStill", unfollowed := true, recurses := true, plainKeys := false, apart := false }
def SongStillSaid : Prop := songStillRow.holds Tryz.pinned (OpenSpec.ofChange songStillSpec)

/-- ITS FALSE NEIGHBOUR: 'it returns false'. Refute it at one input. -/
def songStillWrong : ChangeSpec := { name := "songStill", fn := fun _ => fun
  | [d1, d2, d3, d4, d5] => { results := [.lit (.bool false)], args := [d1, d2, d3, d4, d5] }
  | _ => none }
def SongStillWrongFalsely : Prop := songStillRow.holds Tryz.pinned (OpenSpec.ofChange songStillWrong)

/-- 'baterialaw04.SongNeeds': WHATEVER THE INPUT: true; the input reads as it did. -/
def songNeedsSpec : ChangeSpec := { name := "songNeeds", fn := fun _ => fun
  | [d] => { results := [.lit (.bool true)], args := [d] }
  | _ => none }
def songNeedsRow : OpenClaim := { program := "ytnolifglhhjdnaagreat", sum := "b8bb86d987c4fb8e63d92ba2f917a0bd2d78dc5272f2c00ff7081dc0e274be5c", func := "bateria/baterialaw04.SongNeeds", spec := "songNeeds", unfollowed := true, recurses := true, plainKeys := false, apart := false }
def SongNeedsSaid : Prop := songNeedsRow.holds Tryz.pinned (OpenSpec.ofChange songNeedsSpec)

/-- ITS FALSE NEIGHBOUR: 'it returns false'. Refute it at one input. -/
def songNeedsWrong : ChangeSpec := { name := "songNeeds", fn := fun _ => fun
  | [d] => { results := [.lit (.bool false)], args := [d] }
  | _ => none }
def SongNeedsWrongFalsely : Prop := songNeedsRow.holds Tryz.pinned (OpenSpec.ofChange songNeedsWrong)

/- THE SECOND FORM. 'bulk': how many values and letters a reading holds, each counted each time it is reached (what is shared counts as often as it is met; a slice's spare places count too). A statement '..UptoSaid' is the law's where the arguments, and the package variables that the reading takes, are together of bulk at most 1048576: NARROWER than '..Said'. Prove '..Said' where nothing that the law and all that it calls make is longer than what came in: it says more and counts as full. Else prove '..UptoSaid'. A law counts once. -/
mutual
def uptoBulk {H : Type} : DataW H → Nat
  | .lit (.string bytes) => bytes.length + 1
  | .lit _ => 1
  | .nil => 1
  | .ptr d => uptoBulk d + 1
  | .slice elems spare => uptoBulkAll elems + uptoBulkAll spare + 1
  | .agg parts => uptoBulkAll parts + 1
  | .iface _ d => uptoBulk d + 1
  | .map entries => uptoBulkEntries entries + 1
  | .held _ => 1
def uptoBulkAll {H : Type} : List (DataW H) → Nat
  | [] => 0
  | d :: r => uptoBulk d + uptoBulkAll r
def uptoBulkEntries {H : Type} : List (Lit × DataW H) → Nat
  | [] => 0
  | x :: r => uptoBulkEntry x + uptoBulkEntries r
def uptoBulkEntry {H : Type} : Lit × DataW H → Nat
  | (.string bytes, d) => bytes.length + uptoBulk d + 1
  | (_, d) => uptoBulk d + 1
 end
def uptoSmall : (H : Type) → List (DataW H) → Bool := fun _ ds => decide (uptoBulkAll ds ≤ 1048576)
def OpenSpec.upto (s : _root_.Go.ChangeSpec) : _root_.Go.OpenSpec := { _root_.Go.OpenSpec.ofChange s with cond := some uptoSmall }

/-- 'baterialaw04.SongWays', WHERE WHAT IT READS IS OF BULK AT MOST 1048576: true; the input reads as it did. -/
def songWaysUptoRow : OpenClaim := { program := "ytnolifglhhjdnaagreat", sum := "b8bb86d987c4fb8e63d92ba2f917a0bd2d78dc5272f2c00ff7081dc0e274be5c", func := "bateria/baterialaw04.SongWays", spec := "songWays", unfollowed := true, recurses := true, plainKeys := false, apart := false, narrowed := true }
def SongWaysUptoSaid : Prop := songWaysUptoRow.holds Tryz.pinned (OpenSpec.upto songWaysSpec)

/-- 'baterialaw04.SongRounds', WHERE WHAT IT READS IS OF BULK AT MOST 1048576: true; the input reads as it did. -/
def songRoundsUptoRow : OpenClaim := { program := "ytnolifglhhjdnaagreat", sum := "b8bb86d987c4fb8e63d92ba2f917a0bd2d78dc5272f2c00ff7081dc0e274be5c", func := "bateria/baterialaw04.SongRounds", spec := "songRounds", unfollowed := true, recurses := true, plainKeys := false, apart := false, narrowed := true }
def SongRoundsUptoSaid : Prop := songRoundsUptoRow.holds Tryz.pinned (OpenSpec.upto songRoundsSpec)

/-- 'baterialaw04.SongStill', WHERE WHAT IT READS IS OF BULK AT MOST 1048576: true; the input reads as it did. -/
def songStillUptoRow : OpenClaim := { program := "ytnolifglhhjdnaagreat", sum := "b8bb86d987c4fb8e63d92ba2f917a0bd2d78dc5272f2c00ff7081dc0e274be5c", func := "bateria/baterialaw04.SongStill", spec := "songStill", unfollowed := true, recurses := true, plainKeys := false, apart := false, narrowed := true }
def SongStillUptoSaid : Prop := songStillUptoRow.holds Tryz.pinned (OpenSpec.upto songStillSpec)

/-- 'baterialaw04.SongNeeds', WHERE WHAT IT READS IS OF BULK AT MOST 1048576: true; the input reads as it did. -/
def songNeedsUptoRow : OpenClaim := { program := "ytnolifglhhjdnaagreat", sum := "b8bb86d987c4fb8e63d92ba2f917a0bd2d78dc5272f2c00ff7081dc0e274be5c", func := "bateria/baterialaw04.SongNeeds", spec := "songNeeds", unfollowed := true, recurses := true, plainKeys := false, apart := false, narrowed := true }
def SongNeedsUptoSaid : Prop := songNeedsUptoRow.holds Tryz.pinned (OpenSpec.upto songNeedsSpec)

end Rows
end Go.Proofs.YtnolifglhhjdnaaGreat
