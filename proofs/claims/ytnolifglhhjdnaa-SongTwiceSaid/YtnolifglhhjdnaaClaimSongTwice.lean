/-
  The law SongTwice: whatever comes in, it answers true and leaves what came in as it was.
-/
import Derived.Test.YtnolifglhhjdnaaPf
import Derived.CallsIn
import Derived.RangeFuncLeaves
import Derived.RangeFuncRecord
import Derived.OrdersIn
import Derived.Below
import Derived.Laws.World
import Derived.Laws.StructEq
import Derived.Laws.Append
import Derived.MapKept
import Derived.ProofKit
import Derived.Carry
import Derived.Handed
import Derived.ChangeCalls
import Derived.RangeFuncIn
import Derived.RangeFuncNested
import Derived.Test.YtnolifglhhjdnaaProg
import Derived.KernelRfl
import Derived.IntWalk
import Derived.Sort.OwnSortedInts
import Derived.Lib.SlicesCompact
import Derived.Test.YtnolifglhhjdnaaRows
import Derived.Shelf.Sort.Plain
import Derived.Shelf.Slices.In.SortNone
import Derived.Shelf.Small.Bits
import Derived.JoinedOf
set_option linter.unusedSimpArgs false
set_option linter.unusedVariables false
namespace Go.Proofs.Ytnolifglhhjdnaa
open Go Go.RowKit
theorem rdSongTwiceArgs : All2 (fun t R => Rd Try.prog t R) Try.f6.params.toList [fun p => ∃ xs : List Int, p = ints xs ∧ intsSz xs] :=
  .cons rdInts .nil
set_option maxHeartbeats 4000000 in
theorem SongTwice_walk : ∀ qs, AllR [fun p => ∃ xs : List Int, p = ints xs ∧ intsSz xs] qs → ∃ σ', PC Try.prog noY 6 qs Sg.zero (.bool true) σ' := by
  intro qs hq
  obtain ⟨px0, qs, rfl, ⟨x0, hx0, sx0⟩, hq⟩ := allR_cons hq
  obtain rfl := allR_nil hq
  subst hx0
  exact ⟨_, SongTwice_pc noY _ x0 (by unfold intsSz at sx0; omega)⟩
theorem SongTwice_lifted (os : Os) (started : os.Started) (H : Type) (enc : TypeId × Value → H) :
    ReturnsInHanded {} Try.checked os 6 .any (Rows.songTwiceSpec.pre6 enc Try.prog Try.f6 Rows.songTwiceRow.domain false) (Rows.songTwiceSpec.post enc Try.prog Try.f6 false true false false) :=
  law_lifted (C := Try.checked) own started (by kernel_rfl) Try.func6 rfl laidOut (by kernel_rfl) rdSongTwiceArgs rfl Try.underlying4
    (fun ds h => match ds, h with | [_], _ => rfl)
    (ChangeSpec.witness6 (enc := enc) (C := Try.checked) false ⟨#[], #[.slice none 0 0], []⟩ 8 (by kernel_rfl) (by kernel_rfl) (by kernel_rfl) (by kernel_rfl))
    SongTwice_walk
theorem SongTwice_holds : Rows.SongTwiceSaid :=
  OpenClaim.holds_of_wide 6 Try.f6 rfl rfl rfl rfl rfl rfl rfl ⟨rfl, rfl, rfl, rfl, rfl⟩ rfl rfl rfl rfl rfl (by kernel_rfl) Try.func6 (by kernel_rfl)
    (of_decide_eq_true (by kernel_rfl)) (by unfold Func.isWrapper; first | (rw [if_pos (by decide +kernel)]; kernel_rfl) | (rw [if_neg (by decide +kernel)]; exact ⟨rfl, rfl⟩))
    (fun os started H enc _ => SongTwice_lifted os started H enc)
end Go.Proofs.Ytnolifglhhjdnaa
