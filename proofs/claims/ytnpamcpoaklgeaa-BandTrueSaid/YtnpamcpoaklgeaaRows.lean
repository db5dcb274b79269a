/-
  No cell of these rows narrows 'for every input' (looked for: loops, veiled, ifaces, maps, wideKeys, modest, calm, conditions, laid).
  DERIVED. THE GIVEN ROWS OF THIS SEAT. 12 by the template 'for every input the law returns true; each argument reads behind the call as it read before'; 0 by the template 'total and deterministic' (their statements: YtnpamcpoaklgeaaTotals.lean).
  GIVEN WITH THE SEED: the statements are not yours to turn. If you find one false, say at which input.
  Laid BY PROGRAM, IN A SANDBOX (cutbox-rows.mjs): the forced cells as the released guide's own fill.sh prints them over the translation 87f57bce4f884adc… (all of the seat's roots in one cut). By AI agents, Wed Nov 11 2026. No macro, syntax, notation, axiom, sorry.
-/
import Derived.Test.YtnpamcpoaklgeaaChecked
import GoSem.Claim
import GoSem.ClaimJoined
import GoSem.ClaimMapViews
import Derived.JoinedTies
import Derived.KernelRfl
namespace Go.Proofs.Ytnpamcpoaklgeaa
/- THE CELL 'sum', in the pinned program and in every row, IS THE sha256 OF THE DUMP (.gsa) THAT YtnpamcpoaklgeaaProg.lean LOADS. Nothing in Lean hashes anything: it is a label: what it is worth is what the hold of that sum in a sandbox is worth. -/
noncomputable def Try.pinned : Pinned := { name := "ytnpamcpoaklgeaa", sum := "87f57bce4f884adcd3f7696d72cbf28b428e2a520eecef28640473fbca520f20", checked := Try.checked }
namespace Rows
def none {H : Type} : Left H := { results := [], args := [] }

/-- 'baterialaw07.BandCrosses': WHATEVER THE INPUT: true; the input reads as it did. -/
def bandCrossesSpec : ChangeSpec := { name := "bandCrosses", fn := fun _ => fun
  | [d1, d2, d3, d4, d5, d6] => { results := [.lit (.bool true)], args := [d1, d2, d3, d4, d5, d6] }
  | _ => none }
def bandCrossesRow : OpenClaim := { program := "ytnpamcpoaklgeaa", sum := "87f57bce4f884adcd3f7696d72cbf28b428e2a520eecef28640473fbca520f20", func := "bateria/baterialaw07.BandCrosses", spec := "bandCrosses", unfollowed := true, recurses := true, apart := false }
def BandCrossesSaid : Prop := bandCrossesRow.holds Try.pinned (OpenSpec.ofChange bandCrossesSpec)

/-- ITS FALSE NEIGHBOUR: 'it returns false'. Refute it at one input. -/
def bandCrossesWrong : ChangeSpec := { name := "bandCrosses", fn := fun _ => fun
  | [d1, d2, d3, d4, d5, d6] => { results := [.lit (.bool false)], args := [d1, d2, d3, d4, d5, d6] }
  | _ => none }
def BandCrossesWrongFalsely : Prop := bandCrossesRow.holds Try.pinned (OpenSpec.ofChange bandCrossesWrong)

/-- 'baterialaw07.BandTurn': WHATEVER THE INPUT: true; the input reads as it did. -/
def bandTurnSpec : ChangeSpec := { name := "bandTurn", fn := fun _ => fun
  | [d] => { results := [.lit (.bool true)], args := [d] }
  | _ => none }
def bandTurnRow : OpenClaim := { program := "ytnpamcpoaklgeaa", sum := "87f57bce4f884adcd3f7696d72cbf28b428e2a520eecef28640473fbca520f20", func := "bateria/baterialaw07.BandTurn", spec := "bandTurn", unfollowed := true, recurses := true, apart := false }
def BandTurnSaid : Prop := bandTurnRow.holds Try.pinned (OpenSpec.ofChange bandTurnSpec)

/-- ITS FALSE NEIGHBOUR: 'it returns false'. Refute it at one input. -/
def bandTurnWrong : ChangeSpec := { name := "bandTurn", fn := fun _ => fun
  | [d] => { results := [.lit (.bool false)], args := [d] }
  | _ => none }
def BandTurnWrongFalsely : Prop := bandTurnRow.holds Try.pinned (OpenSpec.ofChange bandTurnWrong)

/-- 'baterialaw07.BandNarrow': WHATEVER THE INPUT: true; the input reads as it did. -/
def bandNarrowSpec : ChangeSpec := { name := "bandNarrow", fn := fun _ => fun
  | [d] => { results := [.lit (.bool true)], args := [d] }
  | _ => none }
def bandNarrowRow : OpenClaim := { program := "ytnpamcpoaklgeaa", sum := "87f57bce4f884adcd3f7696d72cbf28b428e2a520eecef28640473fbca520f20", func := "bateria/baterialaw07.BandNarrow", spec := "bandNarrow", unfollowed := true, recurses := true, apart := false }
def BandNarrowSaid : Prop := bandNarrowRow.holds Try.pinned (OpenSpec.ofChange bandNarrowSpec)

/-- ITS FALSE NEIGHBOUR: 'it returns false'. Refute it at one input. -/
def bandNarrowWrong : ChangeSpec := { name := "bandNarrow", fn := fun _ => fun
  | [d] => { results := [.lit (.bool false)], args := [d] }
  | _ => none }
def BandNarrowWrongFalsely : Prop := bandNarrowRow.holds Try.pinned (OpenSpec.ofChange bandNarrowWrong)

/-- 'baterialaw07.BandMeets': WHATEVER THE INPUT: true; the input reads as it did. -/
def bandMeetsSpec : ChangeSpec := { name := "bandMeets", fn := fun _ => fun
  | [d] => { results := [.lit (.bool true)], args := [d] }
  | _ => none }
def bandMeetsRow : OpenClaim := { program := "ytnpamcpoaklgeaa", sum := "87f57bce4f884adcd3f7696d72cbf28b428e2a520eecef28640473fbca520f20", func := "bateria/baterialaw07.BandMeets", spec := "bandMeets", unfollowed := true, recurses := true, apart := false }
def BandMeetsSaid : Prop := bandMeetsRow.holds Try.pinned (OpenSpec.ofChange bandMeetsSpec)

/-- ITS FALSE NEIGHBOUR: 'it returns false'. Refute it at one input. -/
def bandMeetsWrong : ChangeSpec := { name := "bandMeets", fn := fun _ => fun
  | [d] => { results := [.lit (.bool false)], args := [d] }
  | _ => none }
def BandMeetsWrongFalsely : Prop := bandMeetsRow.holds Try.pinned (OpenSpec.ofChange bandMeetsWrong)

/-- 'baterialaw07.BandNever': WHATEVER THE INPUT: true; the input reads as it did. -/
def bandNeverSpec : ChangeSpec := { name := "bandNever", fn := fun _ => fun
  | [d] => { results := [.lit (.bool true)], args := [d] }
  | _ => none }
def bandNeverRow : OpenClaim := { program := "ytnpamcpoaklgeaa", sum := "87f57bce4f884adcd3f7696d72cbf28b428e2a520eecef28640473fbca520f20", func := "bateria/baterialaw07.BandNever", spec := "bandNever", unfollowed := true, recurses := true, apart := false }
def BandNeverSaid : Prop := bandNeverRow.holds Try.pinned (OpenSpec.ofChange bandNeverSpec)

/-- ITS FALSE NEIGHBOUR: 'it returns false'. Refute it at one input. -/
def bandNeverWrong : ChangeSpec := { name := "bandNever", fn := fun _ => fun
  | [d] => { results := [.lit (.bool false)], args := [d] }
  | _ => none }
def BandNeverWrongFalsely : Prop := bandNeverRow.holds Try.pinned (OpenSpec.ofChange bandNeverWrong)

/-- 'baterialaw07.BandGrants': WHATEVER THE INPUT: true; the input reads as it did. -/
def bandGrantsSpec : ChangeSpec := { name := "bandGrants", fn := fun _ => fun
  | [d1, d2, d3] => { results := [.lit (.bool true)], args := [d1, d2, d3] }
  | _ => none }
def bandGrantsRow : OpenClaim := { program := "ytnpamcpoaklgeaa", sum := "87f57bce4f884adcd3f7696d72cbf28b428e2a520eecef28640473fbca520f20", func := "bateria/baterialaw07.BandGrants", spec := "bandGrants", unfollowed := true, recurses := true, apart := false }
def BandGrantsSaid : Prop := bandGrantsRow.holds Try.pinned (OpenSpec.ofChange bandGrantsSpec)

/-- ITS FALSE NEIGHBOUR: 'it returns false'. Refute it at one input. -/
def bandGrantsWrong : ChangeSpec := { name := "bandGrants", fn := fun _ => fun
  | [d1, d2, d3] => { results := [.lit (.bool false)], args := [d1, d2, d3] }
  | _ => none }
def BandGrantsWrongFalsely : Prop := bandGrantsRow.holds Try.pinned (OpenSpec.ofChange bandGrantsWrong)

/-- 'baterialaw07.BandBest': WHATEVER THE INPUT: true; the input reads as it did. -/
def bandBestSpec : ChangeSpec := { name := "bandBest", fn := fun _ => fun
  | [d] => { results := [.lit (.bool true)], args := [d] }
  | _ => none }
def bandBestRow : OpenClaim := { program := "ytnpamcpoaklgeaa", sum := "87f57bce4f884adcd3f7696d72cbf28b428e2a520eecef28640473fbca520f20", func := "bateria/baterialaw07.BandBest", spec := "bandBest", unfollowed := true, recurses := true, apart := false }
def BandBestSaid : Prop := bandBestRow.holds Try.pinned (OpenSpec.ofChange bandBestSpec)

/-- ITS FALSE NEIGHBOUR: 'it returns false'. Refute it at one input. -/
def bandBestWrong : ChangeSpec := { name := "bandBest", fn := fun _ => fun
  | [d] => { results := [.lit (.bool false)], args := [d] }
  | _ => none }
def BandBestWrongFalsely : Prop := bandBestRow.holds Try.pinned (OpenSpec.ofChange bandBestWrong)

/-- 'baterialaw07.BandRoutes': WHATEVER THE INPUT: true; the input reads as it did. -/
def bandRoutesSpec : ChangeSpec := { name := "bandRoutes", fn := fun _ => fun
  | [d1, d2, d3, d4, d5] => { results := [.lit (.bool true)], args := [d1, d2, d3, d4, d5] }
  | _ => none }
def bandRoutesRow : OpenClaim := { program := "ytnpamcpoaklgeaa", sum := "87f57bce4f884adcd3f7696d72cbf28b428e2a520eecef28640473fbca520f20", func := "bateria/baterialaw07.BandRoutes", spec := "bandRoutes", unfollowed := true, recurses := true, apart := false }
def BandRoutesSaid : Prop := bandRoutesRow.holds Try.pinned (OpenSpec.ofChange bandRoutesSpec)

/-- ITS FALSE NEIGHBOUR: 'it returns false'. Refute it at one input. -/
def bandRoutesWrong : ChangeSpec := { name := "bandRoutes", fn := fun _ => fun
  | [d1, d2, d3, d4, d5] => { results := [.lit (.bool false)], args := [d1, d2, d3, d4, d5] }
  | _ => none }
def BandRoutesWrongFalsely : Prop := bandRoutesRow.holds Try.pinned (OpenSpec.ofChange bandRoutesWrong)

/-- 'baterialaw07.BandGoes': WHATEVER THE INPUT: true; the input reads as it did. -/
def bandGoesSpec : ChangeSpec := { name := "bandGoes", fn := fun _ => fun
  | [d] => { results := [.lit (.bool true)], args := [d] }
  | _ => none }
def bandGoesRow : OpenClaim := { program := "ytnpamcpoaklgeaa", sum := "87f57bce4f884adcd3f7696d72cbf28b428e2a520eecef28640473fbca520f20", func := "bateria/baterialaw07.BandGoes", spec := "bandGoes", unfollowed := true, recurses := true, apart := false }
def BandGoesSaid : Prop := bandGoesRow.holds Try.pinned (OpenSpec.ofChange bandGoesSpec)

/-- ITS FALSE NEIGHBOUR: 'it returns false'. Refute it at one input. -/
def bandGoesWrong : ChangeSpec := { name := "bandGoes", fn := fun _ => fun
  | [d] => { results := [.lit (.bool false)], args := [d] }
  | _ => none }
def BandGoesWrongFalsely : Prop := bandGoesRow.holds Try.pinned (OpenSpec.ofChange bandGoesWrong)

/-- 'baterialaw07.BandAsleep': WHATEVER THE INPUT: true; the input reads as it did. -/
def bandAsleepSpec : ChangeSpec := { name := "bandAsleep", fn := fun _ => fun
  | [d] => { results := [.lit (.bool true)], args := [d] }
  | _ => none }
def bandAsleepRow : OpenClaim := { program := "ytnpamcpoaklgeaa", sum := "87f57bce4f884adcd3f7696d72cbf28b428e2a520eecef28640473fbca520f20", func := "bateria/baterialaw07.BandAsleep", spec := "bandAsleep", unfollowed := true, recurses := true, apart := false }
def BandAsleepSaid : Prop := bandAsleepRow.holds Try.pinned (OpenSpec.ofChange bandAsleepSpec)

/-- ITS FALSE NEIGHBOUR: 'it returns false'. Refute it at one input. -/
def bandAsleepWrong : ChangeSpec := { name := "bandAsleep", fn := fun _ => fun
  | [d] => { results := [.lit (.bool false)], args := [d] }
  | _ => none }
def BandAsleepWrongFalsely : Prop := bandAsleepRow.holds Try.pinned (OpenSpec.ofChange bandAsleepWrong)

/-- 'baterialaw07.BandChecks': WHATEVER THE INPUT: true; the input reads as it did. -/
def bandChecksSpec : ChangeSpec := { name := "bandChecks", fn := fun _ => fun
  | [d1, d2, d3, d4, d5] => { results := [.lit (.bool true)], args := [d1, d2, d3, d4, d5] }
  | _ => none }
def bandChecksRow : OpenClaim := { program := "ytnpamcpoaklgeaa", sum := "87f57bce4f884adcd3f7696d72cbf28b428e2a520eecef28640473fbca520f20", func := "bateria/baterialaw07.BandChecks", spec := "bandChecks", unfollowed := true, recurses := true, apart := false }
def BandChecksSaid : Prop := bandChecksRow.holds Try.pinned (OpenSpec.ofChange bandChecksSpec)

/-- ITS FALSE NEIGHBOUR: 'it returns false'. Refute it at one input. -/
def bandChecksWrong : ChangeSpec := { name := "bandChecks", fn := fun _ => fun
  | [d1, d2, d3, d4, d5] => { results := [.lit (.bool false)], args := [d1, d2, d3, d4, d5] }
  | _ => none }
def BandChecksWrongFalsely : Prop := bandChecksRow.holds Try.pinned (OpenSpec.ofChange bandChecksWrong)

/-- 'baterialaw07.BandTrue': WHATEVER THE INPUT: true; the input reads as it did. -/
def bandTrueSpec : ChangeSpec := { name := "bandTrue", fn := fun _ => fun
  | [d] => { results := [.lit (.bool true)], args := [d] }
  | _ => none }
def bandTrueRow : OpenClaim := { program := "ytnpamcpoaklgeaa", sum := "87f57bce4f884adcd3f7696d72cbf28b428e2a520eecef28640473fbca520f20", func := "bateria/baterialaw07.BandTrue", spec := "bandTrue", unfollowed := true, recurses := true, apart := false }
def BandTrueSaid : Prop := bandTrueRow.holds Try.pinned (OpenSpec.ofChange bandTrueSpec)

/-- ITS FALSE NEIGHBOUR: 'it returns false'. Refute it at one input. -/
def bandTrueWrong : ChangeSpec := { name := "bandTrue", fn := fun _ => fun
  | [d] => { results := [.lit (.bool false)], args := [d] }
  | _ => none }
def BandTrueWrongFalsely : Prop := bandTrueRow.holds Try.pinned (OpenSpec.ofChange bandTrueWrong)

/- THE SECOND FORM. 'bulk': how many values and letters a reading holds, each counted each time it is reached (what is shared counts as often as it is met; a slice's spare places count too). A statement '..UptoSaid' is the law's where the arguments, and the package variables that the reading takes, are together of bulk at most 1048576: NARROWER than '..Said'. Prove '..Said' where nothing that the law and all that it calls make is longer than what came in: it says more and counts as full. Else prove '..UptoSaid'. A law counts once. -/
mutual
def uptoBulk {H : Type} : DataW H → Nat
  | .lit (.string bytes) => bytes.length + 1
  | .lit _ => 1
  | .nil => 1
  | .ptr d => uptoBulk d + 1
  | .slice elems spare => uptoBulkAll elems + uptoBulkAll spare + 1
  | .agg parts => uptoBulkAll parts + 1
  | .iface _ d => uptoBulk d + 1
  | .map entries => uptoBulkEntries entries + 1
  | .held _ => 1
def uptoBulkAll {H : Type} : List (DataW H) → Nat
  | [] => 0
  | d :: r => uptoBulk d + uptoBulkAll r
def uptoBulkEntries {H : Type} : List (Lit × DataW H) → Nat
  | [] => 0
  | x :: r => uptoBulkEntry x + uptoBulkEntries r
def uptoBulkEntry {H : Type} : Lit × DataW H → Nat
  | (.string bytes, d) => bytes.length + uptoBulk d + 1
  | (_, d) => uptoBulk d + 1
 end
def uptoSmall : (H : Type) → List (DataW H) → Bool := fun _ ds => decide (uptoBulkAll ds ≤ 1048576)
def OpenSpec.upto (s : _root_.Go.ChangeSpec) : _root_.Go.OpenSpec := { _root_.Go.OpenSpec.ofChange s with cond := some uptoSmall }

/-- 'baterialaw07.BandCrosses', WHERE WHAT IT READS IS OF BULK AT MOST 1048576: true; the input reads as it did. -/
def bandCrossesUptoRow : OpenClaim := { program := "ytnpamcpoaklgeaa", sum := "87f57bce4f884adcd3f7696d72cbf28b428e2a520eecef28640473fbca520f20", func := "bateria/baterialaw07.BandCrosses", spec := "bandCrosses", unfollowed := true, recurses := true, apart := false, narrowed := true }
def BandCrossesUptoSaid : Prop := bandCrossesUptoRow.holds Try.pinned (OpenSpec.upto bandCrossesSpec)

/-- 'baterialaw07.BandTurn', WHERE WHAT IT READS IS OF BULK AT MOST 1048576: true; the input reads as it did. -/
def bandTurnUptoRow : OpenClaim := { program := "ytnpamcpoaklgeaa", sum := "87f57bce4f884adcd3f7696d72cbf28b428e2a520eecef28640473fbca520f20", func := "bateria/baterialaw07.BandTurn", spec := "bandTurn", unfollowed := true, recurses := true, apart := false, narrowed := true }
def BandTurnUptoSaid : Prop := bandTurnUptoRow.holds Try.pinned (OpenSpec.upto bandTurnSpec)

/-- 'baterialaw07.BandNarrow', WHERE WHAT IT READS IS OF BULK AT MOST 1048576: true; the input reads as it did. -/
def bandNarrowUptoRow : OpenClaim := { program := "ytnpamcpoaklgeaa", sum := "87f57bce4f884adcd3f7696d72cbf28b428e2a520eecef28640473fbca520f20", func := "bateria/baterialaw07.BandNarrow", spec := "bandNarrow", unfollowed := true, recurses := true, apart := false, narrowed := true }
def BandNarrowUptoSaid : Prop := bandNarrowUptoRow.holds Try.pinned (OpenSpec.upto bandNarrowSpec)

/-- 'baterialaw07.BandMeets', WHERE WHAT IT READS IS OF BULK AT MOST 1048576: true; the input reads as it did. -/
def bandMeetsUptoRow : OpenClaim := { program := "ytnpamcpoaklgeaa", sum := "87f57bce4f884adcd3f7696d72cbf28b428e2a520eecef28640473fbca520f20", func := "bateria/baterialaw07.BandMeets", spec := "bandMeets", unfollowed := true, recurses := true, apart := false, narrowed := true }
def BandMeetsUptoSaid : Prop := bandMeetsUptoRow.holds Try.pinned (OpenSpec.upto bandMeetsSpec)

/-- 'baterialaw07.BandNever', WHERE WHAT IT READS IS OF BULK AT MOST 1048576: true; the input reads as it did. -/
def bandNeverUptoRow : OpenClaim := { program := "ytnpamcpoaklgeaa", sum := "87f57bce4f884adcd3f7696d72cbf28b428e2a520eecef28640473fbca520f20", func := "bateria/baterialaw07.BandNever", spec := "bandNever", unfollowed := true, recurses := true, apart := false, narrowed := true }
def BandNeverUptoSaid : Prop := bandNeverUptoRow.holds Try.pinned (OpenSpec.upto bandNeverSpec)

/-- 'baterialaw07.BandGrants', WHERE WHAT IT READS IS OF BULK AT MOST 1048576: true; the input reads as it did. -/
def bandGrantsUptoRow : OpenClaim := { program := "ytnpamcpoaklgeaa", sum := "87f57bce4f884adcd3f7696d72cbf28b428e2a520eecef28640473fbca520f20", func := "bateria/baterialaw07.BandGrants", spec := "bandGrants", unfollowed := true, recurses := true, apart := false, narrowed := true }
def BandGrantsUptoSaid : Prop := bandGrantsUptoRow.holds Try.pinned (OpenSpec.upto bandGrantsSpec)

/-- 'baterialaw07.BandBest', WHERE WHAT IT READS IS OF BULK AT MOST 1048576: true; the input reads as it did. -/
def bandBestUptoRow : OpenClaim := { program := "ytnpamcpoaklgeaa", sum := "87f57bce4f884adcd3f7696d72cbf28b428e2a520eecef28640473fbca520f20", func := "bateria/baterialaw07.BandBest", spec := "bandBest", unfollowed := true, recurses := true, apart := false, narrowed := true }
def BandBestUptoSaid : Prop := bandBestUptoRow.holds Try.pinned (OpenSpec.upto bandBestSpec)

/-- 'baterialaw07.BandRoutes', WHERE WHAT IT READS IS OF BULK AT MOST 1048576: true; the input reads as it did. -/
def bandRoutesUptoRow : OpenClaim := { program := "ytnpamcpoaklgeaa", sum := "87f57bce4f884adcd3f7696d72cbf28b428e2a520eecef28640473fbca520f20", func := "bateria/baterialaw07.BandRoutes", spec := "bandRoutes", unfollowed := true, recurses := true, apart := false, narrowed := true }
def BandRoutesUptoSaid : Prop := bandRoutesUptoRow.holds Try.pinned (OpenSpec.upto bandRoutesSpec)

/-- 'baterialaw07.BandGoes', WHERE WHAT IT READS IS OF BULK AT MOST 1048576: true; the input reads as it did. -/
def bandGoesUptoRow : OpenClaim := { program := "ytnpamcpoaklgeaa", sum := "87f57bce4f884adcd3f7696d72cbf28b428e2a520eecef28640473fbca520f20", func := "bateria/baterialaw07.BandGoes", spec := "bandGoes", unfollowed := true, recurses := true, apart := false, narrowed := true }
def BandGoesUptoSaid : Prop := bandGoesUptoRow.holds Try.pinned (OpenSpec.upto bandGoesSpec)

/-- 'baterialaw07.BandAsleep', WHERE WHAT IT READS IS OF BULK AT MOST 1048576: true; the input reads as it did. -/
def bandAsleepUptoRow : OpenClaim := { program := "ytnpamcpoaklgeaa", sum := "87f57bce4f884adcd3f7696d72cbf28b428e2a520eecef28640473fbca520f20", func := "bateria/baterialaw07.BandAsleep", spec := "bandAsleep", unfollowed := true, recurses := true, apart := false, narrowed := true }
def BandAsleepUptoSaid : Prop := bandAsleepUptoRow.holds Try.pinned (OpenSpec.upto bandAsleepSpec)

/-- 'baterialaw07.BandChecks', WHERE WHAT IT READS IS OF BULK AT MOST 1048576: true; the input reads as it did. -/
def bandChecksUptoRow : OpenClaim := { program := "ytnpamcpoaklgeaa", sum := "87f57bce4f884adcd3f7696d72cbf28b428e2a520eecef28640473fbca520f20", func := "bateria/baterialaw07.BandChecks", spec := "bandChecks", unfollowed := true, recurses := true, apart := false, narrowed := true }
def BandChecksUptoSaid : Prop := bandChecksUptoRow.holds Try.pinned (OpenSpec.upto bandChecksSpec)

/-- 'baterialaw07.BandTrue', WHERE WHAT IT READS IS OF BULK AT MOST 1048576: true; the input reads as it did. -/
def bandTrueUptoRow : OpenClaim := { program := "ytnpamcpoaklgeaa", sum := "87f57bce4f884adcd3f7696d72cbf28b428e2a520eecef28640473fbca520f20", func := "bateria/baterialaw07.BandTrue", spec := "bandTrue", unfollowed := true, recurses := true, apart := false, narrowed := true }
def BandTrueUptoSaid : Prop := bandTrueUptoRow.holds Try.pinned (OpenSpec.upto bandTrueSpec)

end Rows
end Go.Proofs.Ytnpamcpoaklgeaa
