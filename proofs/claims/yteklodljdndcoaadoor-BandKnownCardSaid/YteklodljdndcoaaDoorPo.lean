/-
  chosen, run.
-/
import Derived.Test.YteklodljdndcoaaDoorPn
import Derived.CallsIn
import Derived.RangeFuncLeaves
import Derived.RangeFuncRecord
import Derived.OrdersIn
import Derived.Below
import Derived.Laws.World
import Derived.Laws.StructEq
import Derived.Laws.Append
import Derived.MapKept
import Derived.ProofKit
import Derived.Carry
import Derived.Handed
import Derived.ChangeCalls
import Derived.Stop.Joined
import Derived.Lib.LaidTab
import Derived.Shelf.Strconv.Itoa3
import Derived.RangeFuncIn
import Derived.RangeFuncNested
import Derived.Sort.OwnSortedInts
import Derived.Lib.SlicesCompact
import Derived.Test.YteklodljdndcoaaDoorProg
import Derived.KernelRfl
import Derived.Shelf.Sort.Plain
import Derived.Shelf.Slices.In.SortNone
import Derived.Shelf.Slices.CompactI
import Derived.IntWalk
import Derived.Shelf.Strings.Builder1
import Derived.Test.YteklodljdndcoaaDoorCards
import Derived.Test.YteklodljdndcoaaDoorTie
import Derived.JoinedOf
import Derived.LaidMore
import Derived.LaidSub
import Derived.Lay
import Derived.SevenTiedAt
set_option linter.unusedSimpArgs false
set_option linter.unusedVariables false
namespace Go.Proofs.YteklodljdndcoaaDoor
open Go Go.RowKit
set_option maxRecDepth 1000000
def modesD : List (Nat × Nat) := [(10006, 1), (5011, 2), (35007, 8)]
def memosD : List Memo := vq1_l ++ (vq2_l ++ vq3_l)
theorem memosD_ok : ∀ m, m ∈ memosD → MemoOK Tryd.prog m := memos_app vq1_ok (memos_app vq2_ok vq3_ok)
noncomputable def orcM : Orc := orcMemo memosD orcD
theorem orcM_ok : ∀ f args σ v σ', orcM f args σ = some (v, σ') → ∀ Y, PC Tryd.prog Y f args σ v σ' := orcMemo_ok memosD_ok orcD_ok
theorem chosen_says : saysTrue (callK Tryd.prog (aidOf planT orcM modesD) 100000 noYF 14 [] ⟨[], [], []⟩) = true := by kernel_rfl
theorem chosen_pc (Y : YEnv) (σ : Sg) : PC Tryd.prog Y 14 [] σ (.bool true) σ := PC_run mixed orcM_ok chosen_says Y σ
end Go.Proofs.YteklodljdndcoaaDoor
