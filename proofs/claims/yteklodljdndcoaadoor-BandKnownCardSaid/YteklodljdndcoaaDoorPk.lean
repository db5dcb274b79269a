/-
  Calls of sleep, remembered: all of them.
-/
import Derived.Test.YteklodljdndcoaaDoorPj
import Derived.CallsIn
import Derived.RangeFuncLeaves
import Derived.RangeFuncRecord
import Derived.OrdersIn
import Derived.Below
import Derived.Laws.World
import Derived.Laws.StructEq
import Derived.Laws.Append
import Derived.MapKept
import Derived.ProofKit
import Derived.Carry
import Derived.Handed
import Derived.ChangeCalls
import Derived.Stop.Joined
import Derived.Lib.LaidTab
import Derived.Shelf.Strconv.Itoa3
import Derived.RangeFuncIn
import Derived.RangeFuncNested
import Derived.Sort.OwnSortedInts
import Derived.Lib.SlicesCompact
import Derived.Test.YteklodljdndcoaaDoorProg
import Derived.KernelRfl
import Derived.Shelf.Sort.Plain
import Derived.Shelf.Slices.In.SortNone
import Derived.Shelf.Slices.CompactI
import Derived.IntWalk
import Derived.Shelf.Strings.Builder1
import Derived.Test.YteklodljdndcoaaDoorCards
import Derived.Test.YteklodljdndcoaaDoorTie
import Derived.JoinedOf
import Derived.LaidMore
import Derived.LaidSub
import Derived.Lay
import Derived.SevenTiedAt
set_option linter.unusedSimpArgs false
set_option linter.unusedVariables false
namespace Go.Proofs.YteklodljdndcoaaDoor
open Go Go.RowKit
def memosS : List Memo := vm1_l ++ (vm2_l ++ (vm3_l ++ vm4_l))
theorem memosS_ok : ∀ m, m ∈ memosS → MemoOK Tryd.prog m := memos_app vm1_ok (memos_app vm2_ok (memos_app vm3_ok vm4_ok))
noncomputable def orcS : Orc := orcMemo memosS orcD
theorem orcS_ok : ∀ f args σ v σ', orcS f args σ = some (v, σ') → ∀ Y, PC Tryd.prog Y f args σ v σ' := orcMemo_ok memosS_ok orcD_ok
end Go.Proofs.YteklodljdndcoaaDoor
