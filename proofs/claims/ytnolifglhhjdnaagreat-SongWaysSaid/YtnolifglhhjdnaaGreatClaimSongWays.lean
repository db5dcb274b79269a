/-
  The law SongWays: whatever comes in, it answers true and leaves what came in as it was.
-/
import Derived.Test.YtnolifglhhjdnaaGreatPg
import Derived.CallsIn
import Derived.RangeFuncLeaves
import Derived.RangeFuncRecord
import Derived.OrdersIn
import Derived.Below
import Derived.Laws.World
import Derived.Laws.StructEq
import Derived.Laws.Append
import Derived.MapKept
import Derived.ProofKit
import Derived.Carry
import Derived.Handed
import Derived.ChangeCalls
import Derived.RangeFuncIn
import Derived.RangeFuncNested
import Derived.Test.YtnolifglhhjdnaaGreatProg
import Derived.KernelRfl
import Derived.IntWalk
import Derived.Sort.OwnSortedInts
import Derived.Lib.SlicesCompact
import Derived.Test.YtnolifglhhjdnaaGreatRows
import Derived.Shelf.Sort.Plain
import Derived.Shelf.Slices.In.SortNone
import Derived.Shelf.Small.Bits
import Derived.JoinedOf
set_option linter.unusedSimpArgs false
set_option linter.unusedVariables false
namespace Go.Proofs.YtnolifglhhjdnaaGreat
open Go Go.RowKit
theorem rdSongWaysArgs : All2 (fun t R => Rd Tryz.prog t R) Tryz.f3.params.toList [fun p => ∃ xs : List Int, p = ints xs ∧ intsSz xs] :=
 .cons rdInts .nil
set_option maxHeartbeats 4000000 in
theorem SongWays_walk : ∀ qs, AllR [fun p => ∃ xs : List Int, p = ints xs ∧ intsSz xs] qs → ∃ σ', PC Tryz.prog noY 3 qs Sg.zero (.bool true) σ' := by
 intro qs hq
 obtain ⟨px0, qs, rfl, ⟨x0, hx0, sx0⟩, hq⟩ := allR_cons hq
 obtain rfl := allR_nil hq
 subst hx0
 exact ⟨_, SongWays_pc noY _ x0 (by unfold intsSz at sx0; omega)⟩
theorem SongWays_lifted (os : Os) (started : os.Started) (H : Type) (enc : TypeId × Value → H) :
  ReturnsInHanded {} Tryz.checked os 3 .any (Rows.songWaysSpec.pre6 enc Tryz.prog Tryz.f3 Rows.songWaysRow.domain false) (Rows.songWaysSpec.post enc Tryz.prog Tryz.f3 false true false false) :=
 law_lifted (C := Tryz.checked) own started (by kernel_rfl) Tryz.func3 rfl laidOut (by kernel_rfl) rdSongWaysArgs rfl Tryz.underlying4
  (fun ds h => match ds, h with | [_], _ => rfl)
  (ChangeSpec.witness6 (enc := enc) (C := Tryz.checked) false ⟨#[], #[.slice none 0 0], []⟩ 8 (by kernel_rfl) (by kernel_rfl) (by kernel_rfl) (by kernel_rfl))
  SongWays_walk
theorem SongWays_holds : Rows.SongWaysSaid :=
 OpenClaim.holds_of_wide 3 Tryz.f3 rfl rfl rfl rfl rfl rfl rfl ⟨rfl, rfl, rfl, rfl, rfl⟩ rfl rfl rfl rfl rfl (by kernel_rfl) Tryz.func3 (by kernel_rfl)
  (of_decide_eq_true (by kernel_rfl)) (by unfold Func.isWrapper; first | (rw [if_pos (by decide +kernel)]; kernel_rfl) | (rw [if_neg (by decide +kernel)]; exact ⟨rfl, rfl⟩))
  (fun os started H enc _ => SongWays_lifted os started H enc)
end Go.Proofs.YtnolifglhhjdnaaGreat
