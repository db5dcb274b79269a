/-
  BandKnown, run.
-/
import Derived.Test.YteklodljdndcoaaDoorPp
import Derived.CallsIn
import Derived.RangeFuncLeaves
import Derived.RangeFuncRecord
import Derived.OrdersIn
import Derived.Below
import Derived.Laws.World
import Derived.Laws.StructEq
import Derived.Laws.Append
import Derived.MapKept
import Derived.ProofKit
import Derived.Carry
import Derived.Handed
import Derived.ChangeCalls
import Derived.Stop.Joined
import Derived.Lib.LaidTab
import Derived.Shelf.Strconv.Itoa3
import Derived.RangeFuncIn
import Derived.RangeFuncNested
import Derived.Sort.OwnSortedInts
import Derived.Lib.SlicesCompact
import Derived.Test.YteklodljdndcoaaDoorProg
import Derived.KernelRfl
import Derived.Shelf.Sort.Plain
import Derived.Shelf.Slices.In.SortNone
import Derived.Shelf.Slices.CompactI
import Derived.IntWalk
import Derived.Shelf.Strings.Builder1
import Derived.Test.YteklodljdndcoaaDoorCards
import Derived.Test.YteklodljdndcoaaDoorTie
import Derived.JoinedOf
import Derived.LaidMore
import Derived.LaidSub
import Derived.Lay
import Derived.SevenTiedAt
set_option linter.unusedSimpArgs false
set_option linter.unusedVariables false
namespace Go.Proofs.YteklodljdndcoaaDoor
open Go Go.RowKit
set_option maxRecDepth 1000000
/-- awake and chosen are known. -/
noncomputable def orcE : Orc := fun f args σ => match Nat.beq f 6 with
  | true => match args with
    | [] => some (.bool true, σ)
    | _ => none
  | false => match Nat.beq f 14 with
    | true => match args with
      | [] => some (.bool true, σ)
      | _ => none
    | false => orcMemo vs1_l orcD f args σ
theorem orcE_ok : ∀ f args σ v σ', orcE f args σ = some (v, σ') → ∀ Y, PC Tryd.prog Y f args σ v σ' := by
  intro f args σ v σ' h Y
  unfold orcE at h
  split at h
  · rename_i e
    rw [beq_eq.1 e]
    split at h
    · injection h with h; injection h with h1 h2; subst h1 h2; exact awake_pc Y _
    · cases h
  · split at h
    · rename_i e
      rw [beq_eq.1 e]
      split at h
      · injection h with h; injection h with h1 h2; subst h1 h2; exact chosen_pc Y _
      · cases h
    · exact orcMemo_ok vs1_ok orcD_ok f args σ v σ' h Y
theorem known_says : saysTrue (callK Tryd.prog (aidOf planT orcE [(10006, 1), (35007, 8), (26999, 1)]) 100000 noYF 3 [] ⟨[], [], []⟩) = true := by kernel_rfl
theorem BandKnown_pc (Y : YEnv) (σ : Sg) : PC Tryd.prog Y 3 [] σ (.bool true) σ := PC_run mixed orcE_ok known_says Y σ
end Go.Proofs.YteklodljdndcoaaDoor
