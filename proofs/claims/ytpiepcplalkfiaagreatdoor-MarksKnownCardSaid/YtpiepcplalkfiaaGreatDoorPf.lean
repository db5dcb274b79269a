/-
  awake, run.
-/
import Derived.Test.YtpiepcplalkfiaaGreatDoorPe
import Derived.CallsIn
import Derived.RangeFuncLeaves
import Derived.RangeFuncRecord
import Derived.OrdersIn
import Derived.Below
import Derived.Laws.World
import Derived.Laws.StructEq
import Derived.Laws.BytesString
import Derived.Laws.Append
import Derived.MapKept
import Derived.ProofKit
import Derived.Carry
import Derived.Handed
import Derived.ChangeCalls
import Derived.Stop.Joined
import Derived.Lib.LaidTab
import Derived.Shelf.Strconv.Itoa3
import Derived.RangeFuncIn
import Derived.RangeFuncNested
import Derived.Sort.OwnSortedInts
import Derived.Lib.SlicesCompact
import Derived.Test.YtpiepcplalkfiaaGreatDoorProg
import Derived.KernelRfl
import Derived.IntWalk
import Derived.Shelf.Sort.Plain
import Derived.Shelf.Slices.In.SortNone
import Derived.Shelf.Small.Bits
import Derived.Shelf.Strings.Builder1
import Derived.Test.YtpiepcplalkfiaaGreatDoorCards
import Derived.Test.YtpiepcplalkfiaaGreatDoorTie
import Derived.JoinedOf
import Derived.LaidMore
import Derived.LaidSub
import Derived.Lay
import Derived.SevenTiedAt
import Derived.Lib.LaidU8
import Derived.Shelf.Vars
set_option linter.unusedSimpArgs false
set_option linter.unusedVariables false
namespace Go.Proofs.YtpiepcplalkfiaaGreatDoor
open Go Go.RowKit
set_option maxRecDepth 1000000
def modesK : List (Nat × Nat) := [(16008, 1), (32008, 1), (10001, 2), (10011, 2), (10013, 2), (10015, 2), (25007, 8)]
theorem awake_says : saysTrue (callK Tryz.prog (aidOf planT orcD modesK) 100000 noYF 7 [] ⟨[], [], []⟩) = true := by kernel_rfl
theorem awake_pc (Y : YEnv) (σ : Sg) : PC Tryz.prog Y 7 [] σ (.bool true) σ := PC_run mixed orcD_ok awake_says Y σ
end Go.Proofs.YtpiepcplalkfiaaGreatDoor
