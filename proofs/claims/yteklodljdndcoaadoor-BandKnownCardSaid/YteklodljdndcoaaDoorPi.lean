/-
  Calls of function 32, remembered.
-/
import Derived.Test.YteklodljdndcoaaDoorPh
import Derived.CallsIn
import Derived.RangeFuncLeaves
import Derived.RangeFuncRecord
import Derived.OrdersIn
import Derived.Below
import Derived.Laws.World
import Derived.Laws.StructEq
import Derived.Laws.Append
import Derived.MapKept
import Derived.ProofKit
import Derived.Carry
import Derived.Handed
import Derived.ChangeCalls
import Derived.Stop.Joined
import Derived.Lib.LaidTab
import Derived.Shelf.Strconv.Itoa3
import Derived.RangeFuncIn
import Derived.RangeFuncNested
import Derived.Sort.OwnSortedInts
import Derived.Lib.SlicesCompact
import Derived.Test.YteklodljdndcoaaDoorProg
import Derived.KernelRfl
import Derived.Shelf.Sort.Plain
import Derived.Shelf.Slices.In.SortNone
import Derived.Shelf.Slices.CompactI
import Derived.IntWalk
import Derived.Shelf.Strings.Builder1
import Derived.Test.YteklodljdndcoaaDoorCards
import Derived.Test.YteklodljdndcoaaDoorTie
import Derived.JoinedOf
import Derived.LaidMore
import Derived.LaidSub
import Derived.Lay
import Derived.SevenTiedAt
set_option linter.unusedSimpArgs false
set_option linter.unusedVariables false
namespace Go.Proofs.YteklodljdndcoaaDoor
open Go Go.RowKit
set_option maxRecDepth 1000000
def vm3_l : List Memo := [
  ⟨32, [vmc0, .isl [vmc3, .agg [I (0), .isl [] .ro, I (650), I (650), I (10), I (1)]] .ro, I (1)], .tuple [I (180), I (540)]⟩,
  ⟨32, [vmc0, .isl [vmc3, .agg [I (0), .isl [] .ro, I (650), I (650), I (10), I (1)]] .ro, I (2)], .tuple [I (150), I (570)]⟩,
  ⟨32, [vmc0, .isl [vmc3] .ro, I (0)], .tuple [I (0), I (720)]⟩,
  ⟨32, [vmc0, .isl [vmc3] .ro, I (1)], .tuple [I (180), I (540)]⟩,
  ⟨32, [vmc0, .isl [vmc3] .ro, I (2)], .tuple [I (150), I (570)]⟩,
  ⟨32, [vmc0, .isl [vmc2, .agg [I (0), .isl [] .ro, I (650), I (650), I (10), I (1)]] .ro, I (0)], .tuple [I (0), I (650)]⟩]
theorem vm3_b : vm3_l.all (memoB Tryd.prog (aidOf planT noOrc)) = true := by kernel_rfl
theorem vm3_ok : ∀ m, m ∈ vm3_l → MemoOK Tryd.prog m := memos_all mixed noOrc_ok vm3_b
end Go.Proofs.YteklodljdndcoaaDoor
