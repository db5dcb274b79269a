/-
  The law MarksPlaces: whatever comes in, it answers true and leaves what came in as it was.
-/
import Derived.Test.YtgelnjmddabgpaaGreatPf
import Derived.CallsIn
import Derived.RangeFuncLeaves
import Derived.RangeFuncRecord
import Derived.OrdersIn
import Derived.Below
import Derived.Laws.World
import Derived.Laws.StructEq
import Derived.Laws.Append
import Derived.MapKept
import Derived.ProofKit
import Derived.Carry
import Derived.Handed
import Derived.ChangeCalls
import Derived.RangeFuncIn
import Derived.RangeFuncNested
import Derived.Test.YtgelnjmddabgpaaGreatProg
import Derived.KernelRfl
import Derived.IntWalk
import Derived.Test.YtgelnjmddabgpaaGreatRows
import Derived.Sort.OwnSortedInts
import Derived.Lib.SlicesCompact
import Derived.Shelf.Sort.Plain
import Derived.Shelf.Slices.In.SortNone
import Derived.Shelf.Small.Bits
import Derived.JoinedOf
set_option linter.unusedSimpArgs false
set_option linter.unusedVariables false
namespace Go.Proofs.YtgelnjmddabgpaaGreat
open Go Go.RowKit
theorem rdMarksPlacesArgs : All2 (fun t R => Rd Tryz.prog t R) Tryz.f5.params.toList [fun p => ∃ s : Scale, p = scPV s ∧ scaleSz s, fun p => ∃ n : Night, p = ngPV n ∧ nightSz n, fun p => ∃ n : Int, p = I n, fun p => ∃ xs : List Int, p = ints xs ∧ intsSz xs] :=
  .cons rdScale (.cons rdNight (.cons rdInt (.cons rdInts .nil)))
set_option maxHeartbeats 4000000 in
theorem MarksPlaces_walk : ∀ qs, AllR [fun p => ∃ s : Scale, p = scPV s ∧ scaleSz s, fun p => ∃ n : Night, p = ngPV n ∧ nightSz n, fun p => ∃ n : Int, p = I n, fun p => ∃ xs : List Int, p = ints xs ∧ intsSz xs] qs → ∃ σ', PC Tryz.prog noY 5 qs Sg.zero (.bool true) σ' := by
  intro qs hq
  obtain ⟨px0, qs, rfl, ⟨x0, hx0, sx0⟩, hq⟩ := allR_cons hq
  obtain ⟨px1, qs, rfl, ⟨x1, hx1, sx1⟩, hq⟩ := allR_cons hq
  obtain ⟨px2, qs, rfl, ⟨x2, hx2⟩, hq⟩ := allR_cons hq
  obtain ⟨px3, qs, rfl, ⟨x3, hx3, sx3⟩, hq⟩ := allR_cons hq
  obtain rfl := allR_nil hq
  subst hx0 hx1 hx2 hx3
  exact ⟨_, MarksPlaces_pc noY _ x0 x1 x2 x3 ⟨by unfold scaleSz intsSz at sx0; omega, by have := sx1.so; omega, by have := sx1.sa; omega, by have := sx1.sf; omega, fun x hx => by have := sx1.sm x hx; unfold envSz intsSz at this; omega⟩ (by unfold intsSz at sx3; omega)⟩
theorem MarksPlaces_lifted (os : Os) (started : os.Started) (H : Type) (enc : TypeId × Value → H) :
    ReturnsInHanded {} Tryz.checked os 5 .any (Rows.marksPlacesSpec.pre6 enc Tryz.prog Tryz.f5 Rows.marksPlacesRow.domain false) (Rows.marksPlacesSpec.post enc Tryz.prog Tryz.f5 false true false false) :=
  law_lifted (C := Tryz.checked) own started (by kernel_rfl) Tryz.func5 rfl laidOut (by kernel_rfl) rdMarksPlacesArgs rfl Tryz.underlying4
    (fun ds h => match ds, h with | [_, _, _, _], _ => rfl)
    (ChangeSpec.witness6 (enc := enc) (C := Tryz.checked) false ⟨#[], #[Value.agg #[.int .i64 0, .int .i64 0, .int .i64 0, .int .i64 0, .int .i64 0, .int .i64 0, .slice none 0 0], Value.agg #[.slice none 0 0, .slice none 0 0, .slice none 0 0], .int .i64 0, .slice none 0 0], []⟩ 8 (by kernel_rfl) (by kernel_rfl) (by kernel_rfl) (by kernel_rfl))
    MarksPlaces_walk
theorem MarksPlaces_holds : Rows.MarksPlacesSaid :=
  OpenClaim.holds_of_wide 5 Tryz.f5 rfl rfl rfl rfl rfl rfl rfl ⟨rfl, rfl, rfl, rfl, rfl⟩ rfl rfl rfl rfl rfl (by kernel_rfl) Tryz.func5 (by kernel_rfl)
    (of_decide_eq_true (by kernel_rfl)) (by unfold Func.isWrapper; first | (rw [if_pos (by decide +kernel)]; kernel_rfl) | (rw [if_neg (by decide +kernel)]; exact ⟨rfl, rfl⟩))
    (fun os started H enc _ => MarksPlaces_lifted os started H enc)
end Go.Proofs.YtgelnjmddabgpaaGreat
