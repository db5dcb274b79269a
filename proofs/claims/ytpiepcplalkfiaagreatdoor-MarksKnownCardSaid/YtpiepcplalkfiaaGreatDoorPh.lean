/-
  MarksKnown, run.
-/
import Derived.Test.YtpiepcplalkfiaaGreatDoorPg
import Derived.CallsIn
import Derived.RangeFuncLeaves
import Derived.RangeFuncRecord
import Derived.OrdersIn
import Derived.Below
import Derived.Laws.World
import Derived.Laws.StructEq
import Derived.Laws.BytesString
import Derived.Laws.Append
import Derived.MapKept
import Derived.ProofKit
import Derived.Carry
import Derived.Handed
import Derived.ChangeCalls
import Derived.Stop.Joined
import Derived.Lib.LaidTab
import Derived.Shelf.Strconv.Itoa3
import Derived.RangeFuncIn
import Derived.RangeFuncNested
import Derived.Sort.OwnSortedInts
import Derived.Lib.SlicesCompact
import Derived.Test.YtpiepcplalkfiaaGreatDoorProg
import Derived.KernelRfl
import Derived.IntWalk
import Derived.Shelf.Sort.Plain
import Derived.Shelf.Slices.In.SortNone
import Derived.Shelf.Small.Bits
import Derived.Shelf.Strings.Builder1
import Derived.Test.YtpiepcplalkfiaaGreatDoorCards
import Derived.Test.YtpiepcplalkfiaaGreatDoorTie
import Derived.JoinedOf
import Derived.LaidMore
import Derived.LaidSub
import Derived.Lay
import Derived.SevenTiedAt
import Derived.Lib.LaidU8
import Derived.Shelf.Vars
set_option linter.unusedSimpArgs false
set_option linter.unusedVariables false
namespace Go.Proofs.YtpiepcplalkfiaaGreatDoor
open Go Go.RowKit
set_option maxRecDepth 1000000
/-- awake and moved are known. -/
noncomputable def orcE : Orc := fun f args σ => match Nat.beq f 7 with
  | true => match args with
    | [] => some (.bool true, σ)
    | _ => none
  | false => match Nat.beq f 19 with
    | true => match args with
      | [] => some (.bool true, σ)
      | _ => none
    | false => orcD f args σ
theorem orcE_ok : ∀ f args σ v σ', orcE f args σ = some (v, σ') → ∀ Y, PC Tryz.prog Y f args σ v σ' := by
  intro f args σ v σ' h Y
  unfold orcE at h
  split at h
  · rename_i e
    rw [beq_eq.1 e]
    split at h
    · injection h with h; injection h with h1 h2; subst h1 h2; exact awake_pc Y _
    · cases h
  · split at h
    · rename_i e
      rw [beq_eq.1 e]
      split at h
      · injection h with h; injection h with h1 h2; subst h1 h2; exact moved_pc Y _
      · cases h
    · exact orcD_ok f args σ v σ' h Y
theorem known_says : saysTrue (callK Tryz.prog (aidOf planT orcE modesK) 100000 noYF 3 [] ⟨[], [], []⟩) = true := by kernel_rfl
theorem MarksKnown_pc (Y : YEnv) (σ : Sg) : PC Tryz.prog Y 3 [] σ (.bool true) σ := PC_run mixed orcE_ok known_says Y σ
end Go.Proofs.YtpiepcplalkfiaaGreatDoor
