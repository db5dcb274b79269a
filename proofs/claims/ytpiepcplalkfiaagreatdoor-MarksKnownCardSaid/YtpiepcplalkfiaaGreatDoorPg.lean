/-
  moved, run.
-/
import Derived.Test.YtpiepcplalkfiaaGreatDoorPf
import Derived.CallsIn
import Derived.RangeFuncLeaves
import Derived.RangeFuncRecord
import Derived.OrdersIn
import Derived.Below
import Derived.Laws.World
import Derived.Laws.StructEq
import Derived.Laws.BytesString
import Derived.Laws.Append
import Derived.MapKept
import Derived.ProofKit
import Derived.Carry
import Derived.Handed
import Derived.ChangeCalls
import Derived.Stop.Joined
import Derived.Lib.LaidTab
import Derived.Shelf.Strconv.Itoa3
import Derived.RangeFuncIn
import Derived.RangeFuncNested
import Derived.Sort.OwnSortedInts
import Derived.Lib.SlicesCompact
import Derived.Test.YtpiepcplalkfiaaGreatDoorProg
import Derived.KernelRfl
import Derived.IntWalk
import Derived.Shelf.Sort.Plain
import Derived.Shelf.Slices.In.SortNone
import Derived.Shelf.Small.Bits
import Derived.Shelf.Strings.Builder1
import Derived.Test.YtpiepcplalkfiaaGreatDoorCards
import Derived.Test.YtpiepcplalkfiaaGreatDoorTie
import Derived.JoinedOf
import Derived.LaidMore
import Derived.LaidSub
import Derived.Lay
import Derived.SevenTiedAt
import Derived.Lib.LaidU8
import Derived.Shelf.Vars
set_option linter.unusedSimpArgs false
set_option linter.unusedVariables false
namespace Go.Proofs.YtpiepcplalkfiaaGreatDoor
open Go Go.RowKit
set_option maxRecDepth 1000000
theorem moved_says : saysTrue (callK Tryz.prog (aidOf planT orcD modesK) 100000 noYF 19 [] ⟨[], [], []⟩) = true := by kernel_rfl
theorem moved_pc (Y : YEnv) (σ : Sg) : PC Tryz.prog Y 19 [] σ (.bool true) σ := PC_run mixed orcD_ok moved_says Y σ
end Go.Proofs.YtpiepcplalkfiaaGreatDoor
