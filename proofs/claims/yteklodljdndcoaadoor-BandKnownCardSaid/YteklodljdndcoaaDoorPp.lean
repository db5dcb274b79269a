/-
  Calls of function 32, remembered.
-/
import Derived.Test.YteklodljdndcoaaDoorPo
import Derived.CallsIn
import Derived.RangeFuncLeaves
import Derived.RangeFuncRecord
import Derived.OrdersIn
import Derived.Below
import Derived.Laws.World
import Derived.Laws.StructEq
import Derived.Laws.Append
import Derived.MapKept
import Derived.ProofKit
import Derived.Carry
import Derived.Handed
import Derived.ChangeCalls
import Derived.Stop.Joined
import Derived.Lib.LaidTab
import Derived.Shelf.Strconv.Itoa3
import Derived.RangeFuncIn
import Derived.RangeFuncNested
import Derived.Sort.OwnSortedInts
import Derived.Lib.SlicesCompact
import Derived.Test.YteklodljdndcoaaDoorProg
import Derived.KernelRfl
import Derived.Shelf.Sort.Plain
import Derived.Shelf.Slices.In.SortNone
import Derived.Shelf.Slices.CompactI
import Derived.IntWalk
import Derived.Shelf.Strings.Builder1
import Derived.Test.YteklodljdndcoaaDoorCards
import Derived.Test.YteklodljdndcoaaDoorTie
import Derived.JoinedOf
import Derived.LaidMore
import Derived.LaidSub
import Derived.Lay
import Derived.SevenTiedAt
set_option linter.unusedSimpArgs false
set_option linter.unusedVariables false
namespace Go.Proofs.YteklodljdndcoaaDoor
open Go Go.RowKit
set_option maxRecDepth 1000000
def vsc0 : PV := .agg [.isl [I (110), I (80), I (50)] .ro, .isl [.agg [I (0), I (1)], .agg [I (1), I (2)], .agg [I (0), I (2)]] .ro, .isl [] .ro, I (6), I (5), .isl [I (590), I (500), I (0)] .ro]
def vs1_l : List Memo := [
  ⟨32, [vsc0, .isl [.agg [I (2), .isl [I (1)] .ro, I (120), I (120), I (30), I (40)]] .ro, I (1)], .tuple [I (180), I (540)]⟩,
  ⟨32, [vsc0, .isl [] .ro, I (0)], .tuple [I (0), I (720)]⟩]
theorem vs1_b : vs1_l.all (memoB Tryd.prog (aidOf planT orcD)) = true := by kernel_rfl
theorem vs1_ok : ∀ m, m ∈ vs1_l → MemoOK Tryd.prog m := memos_all mixed orcD_ok vs1_b
end Go.Proofs.YteklodljdndcoaaDoor
