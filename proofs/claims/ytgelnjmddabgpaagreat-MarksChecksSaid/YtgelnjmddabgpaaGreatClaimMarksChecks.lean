/-
  The law MarksChecks: whatever comes in, it answers true and leaves what came in as it was.
-/
import Derived.Test.YtgelnjmddabgpaaGreatPf
import Derived.CallsIn
import Derived.RangeFuncLeaves
import Derived.RangeFuncRecord
import Derived.OrdersIn
import Derived.Below
import Derived.Laws.World
import Derived.Laws.StructEq
import Derived.Laws.Append
import Derived.MapKept
import Derived.ProofKit
import Derived.Carry
import Derived.Handed
import Derived.ChangeCalls
import Derived.RangeFuncIn
import Derived.RangeFuncNested
import Derived.Test.YtgelnjmddabgpaaGreatProg
import Derived.KernelRfl
import Derived.IntWalk
import Derived.Test.YtgelnjmddabgpaaGreatRows
import Derived.Sort.OwnSortedInts
import Derived.Lib.SlicesCompact
import Derived.Shelf.Sort.Plain
import Derived.Shelf.Slices.In.SortNone
import Derived.Shelf.Small.Bits
import Derived.JoinedOf
set_option linter.unusedSimpArgs false
set_option linter.unusedVariables false
namespace Go.Proofs.YtgelnjmddabgpaaGreat
open Go Go.RowKit
theorem rdMarksChecksArgs : All2 (fun t R => Rd Tryz.prog t R) Tryz.f8.params.toList [fun p => ∃ s : Scale, p = scPV s ∧ scaleSz s, fun p => ∃ n : Night, p = ngPV n ∧ nightSz n, fun p => ∃ n : Int, p = I n, fun p => ∃ n : Int, p = I n, fun p => ∃ xs : List Int, p = ints xs ∧ intsSz xs, fun p => ∃ x : Envl, p = evPV x ∧ envSz x, fun p => ∃ xs : List Int, p = ints xs ∧ intsSz xs] :=
  .cons rdScale (.cons rdNight (.cons rdInt (.cons rdInt (.cons rdInts (.cons rdEnv (.cons rdInts .nil))))))
set_option maxHeartbeats 4000000 in
theorem MarksChecks_walk : ∀ qs, AllR [fun p => ∃ s : Scale, p = scPV s ∧ scaleSz s, fun p => ∃ n : Night, p = ngPV n ∧ nightSz n, fun p => ∃ n : Int, p = I n, fun p => ∃ n : Int, p = I n, fun p => ∃ xs : List Int, p = ints xs ∧ intsSz xs, fun p => ∃ x : Envl, p = evPV x ∧ envSz x, fun p => ∃ xs : List Int, p = ints xs ∧ intsSz xs] qs → ∃ σ', PC Tryz.prog noY 8 qs Sg.zero (.bool true) σ' := by
  intro qs hq
  obtain ⟨px0, qs, rfl, ⟨x0, hx0, sx0⟩, hq⟩ := allR_cons hq
  obtain ⟨px1, qs, rfl, ⟨x1, hx1, sx1⟩, hq⟩ := allR_cons hq
  obtain ⟨px2, qs, rfl, ⟨x2, hx2⟩, hq⟩ := allR_cons hq
  obtain ⟨px3, qs, rfl, ⟨x3, hx3⟩, hq⟩ := allR_cons hq
  obtain ⟨px4, qs, rfl, ⟨x4, hx4, sx4⟩, hq⟩ := allR_cons hq
  obtain ⟨px5, qs, rfl, ⟨x5, hx5, sx5⟩, hq⟩ := allR_cons hq
  obtain ⟨px6, qs, rfl, ⟨x6, hx6, sx6⟩, hq⟩ := allR_cons hq
  obtain rfl := allR_nil hq
  subst hx0 hx1 hx2 hx3 hx4 hx5 hx6
  exact ⟨_, MarksChecks_pc noY _ x0 x1 x2 x3 x4 x5 x6 ⟨by unfold scaleSz intsSz at sx0; omega, by have := sx1.so; omega, by have := sx1.sa; omega, by have := sx1.sf; omega, fun x hx => by have := sx1.sm x hx; unfold envSz intsSz at this; omega, by unfold envSz intsSz at sx5; omega⟩ (by unfold intsSz at sx4; omega) (by unfold intsSz at sx6; omega)⟩
theorem MarksChecks_lifted (os : Os) (started : os.Started) (H : Type) (enc : TypeId × Value → H) :
    ReturnsInHanded {} Tryz.checked os 8 .any (Rows.marksChecksSpec.pre6 enc Tryz.prog Tryz.f8 Rows.marksChecksRow.domain false) (Rows.marksChecksSpec.post enc Tryz.prog Tryz.f8 false true false false) :=
  law_lifted (C := Tryz.checked) own started (by kernel_rfl) Tryz.func8 rfl laidOut (by kernel_rfl) rdMarksChecksArgs rfl Tryz.underlying4
    (fun ds h => match ds, h with | [_, _, _, _, _, _, _], _ => rfl)
    (ChangeSpec.witness6 (enc := enc) (C := Tryz.checked) false ⟨#[], #[Value.agg #[.int .i64 0, .int .i64 0, .int .i64 0, .int .i64 0, .int .i64 0, .int .i64 0, .slice none 0 0], Value.agg #[.slice none 0 0, .slice none 0 0, .slice none 0 0], .int .i64 0, .int .i64 0, .slice none 0 0, Value.agg #[.int .i64 0, .int .i64 0, .slice none 0 0, .int .i64 0], .slice none 0 0], []⟩ 8 (by kernel_rfl) (by kernel_rfl) (by kernel_rfl) (by kernel_rfl))
    MarksChecks_walk
theorem MarksChecks_holds : Rows.MarksChecksSaid :=
  OpenClaim.holds_of_wide 8 Tryz.f8 rfl rfl rfl rfl rfl rfl rfl ⟨rfl, rfl, rfl, rfl, rfl⟩ rfl rfl rfl rfl rfl (by kernel_rfl) Tryz.func8 (by kernel_rfl)
    (of_decide_eq_true (by kernel_rfl)) (by unfold Func.isWrapper; first | (rw [if_pos (by decide +kernel)]; kernel_rfl) | (rw [if_neg (by decide +kernel)]; exact ⟨rfl, rfl⟩))
    (fun os started H enc _ => MarksChecks_lifted os started H enc)
end Go.Proofs.YtgelnjmddabgpaaGreat
