/-
  The law BandKnown: whatever comes in, it answers true and leaves what came in as it was.
-/
import Derived.Test.YteklodljdndcoaaDoorPq
import Derived.CallsIn
import Derived.RangeFuncLeaves
import Derived.RangeFuncRecord
import Derived.OrdersIn
import Derived.Below
import Derived.Laws.World
import Derived.Laws.StructEq
import Derived.Laws.Append
import Derived.MapKept
import Derived.ProofKit
import Derived.Carry
import Derived.Handed
import Derived.ChangeCalls
import Derived.Stop.Joined
import Derived.Lib.LaidTab
import Derived.Shelf.Strconv.Itoa3
import Derived.RangeFuncIn
import Derived.RangeFuncNested
import Derived.Sort.OwnSortedInts
import Derived.Lib.SlicesCompact
import Derived.Test.YteklodljdndcoaaDoorProg
import Derived.KernelRfl
import Derived.Shelf.Sort.Plain
import Derived.Shelf.Slices.In.SortNone
import Derived.Shelf.Slices.CompactI
import Derived.IntWalk
import Derived.Shelf.Strings.Builder1
import Derived.Test.YteklodljdndcoaaDoorCards
import Derived.Test.YteklodljdndcoaaDoorTie
import Derived.JoinedOf
import Derived.LaidMore
import Derived.LaidSub
import Derived.Lay
import Derived.SevenTiedAt
set_option linter.unusedSimpArgs false
set_option linter.unusedVariables false
namespace Go.Proofs.YteklodljdndcoaaDoor
open Go Go.RowKit
set_option maxRecDepth 100000
theorem own : ownKnob Tryd.prog.godebug = none := by kernel_rfl
theorem laidOut : laidOutB Tryd.prog = true := by kernel_rfl
/-- What the listed variables give. -/
theorem known (W : World) (hsh : W.ShapedOpen Tryd.prog) (h : laidMetH Tryd.prog Rows.bandKnownRow.laid W) : Known Tryd.prog W := by
  rw [MakeChecks.laidMetH_plain _ _ _ (by kernel_rfl)] at h
  have hg : Tryd.prog.globalNamed "internal/strconv.uint64pow10" = some 0 := by kernel_rfl
  have h2 := h.filter (fun x => x.1 == "internal/strconv.uint64pow10")
  rw [show (Rows.bandKnownRow.laid.filter fun x => x.1 == "internal/strconv.uint64pow10") = [("internal/strconv.uint64pow10", Lib.tabData .u64 Lib.pow10Tab)] by kernel_rfl] at h2
  obtain ⟨t, f, hh⟩ := known_tab (Lib.tabIs_of_head (t := 156) (e := 129) (n := 20) hg (by kernel_rfl) (by kernel_rfl) (by kernel_rfl) (by kernel_rfl) (by kernel_rfl) h2) hg
  have _ := hsh
  refine ⟨[(0, .whole pow10A)], fun b s hb => ?_, fun k hk => ?_, fun k hk => ?_, fun n hn k hk => ?_⟩
  · simp only [List.mem_singleton, Prod.mk.injEq] at hb
    obtain ⟨rfl, rfl⟩ := hb
    exact ⟨(Array.getElem?_eq_some_iff.1 hh).1, t, f, hh⟩
  · obtain rfl := Option.some.inj (hg.symm.trans hk)
    exact List.mem_singleton.2 rfl
  · exact absurd ((show Tryd.prog.globalNamed "internal/bytealg.MaxLen" = none by kernel_rfl).symm.trans hk) (by simp)
  · simp only [List.mem_cons, List.not_mem_nil, or_false] at hn
    rcases hn with rfl | rfl
    · exact absurd ((show Tryd.prog.globalNamed "strconv.ErrSyntax" = none by kernel_rfl).symm.trans hk) (by simp)
    · exact absurd ((show Tryd.prog.globalNamed "strconv.ErrRange" = none by kernel_rfl).symm.trans hk) (by simp)
theorem rdBandKnownArgs : All2 (fun t R => Rd Tryd.prog t R) Tryd.f3.params.toList [] :=
  .nil
set_option maxHeartbeats 4000000 in
theorem BandKnown_walk : ∀ qs, AllR [] qs → ∃ σ', PC Tryd.prog noY 3 qs Sg.zero (.bool true) σ' := by
  intro qs hq
  obtain rfl := allR_nil hq
  exact ⟨_, BandKnown_pc noY _ ⟩
theorem BandKnown_lifted (os : Os) (started : os.Started) (H : Type) (enc : TypeId × Value → H) :
    ReturnsInHanded {} Tryd.checked os 3 .any (fun w args => (Rows.bandKnownSpec.pre enc Tryd.prog Tryd.f3 Rows.bandKnownRow.domain false w args ∧ laidMetH Tryd.prog Rows.bandKnownRow.laid w) ∧ sizedMet enc Tryd.prog Tryd.f3 (OpenSpec.ofChange Rows.bandKnownSpec) false w args)
      (Rows.bandKnownSpec.post enc Tryd.prog Tryd.f3 false true false false) :=
  law_laid (C := Tryd.checked) own started (by kernel_rfl) Tryd.func3 rfl laidOut (by kernel_rfl) rdBandKnownArgs rfl Tryd.underlying4
    (fun ds h => match ds, h with | [], _ => rfl)
    (ChangeSpec.witness_shaped (enc := enc) (C := Tryd.checked) (os := os) (X := fun w _ => laidMetH Tryd.prog Rows.bandKnownRow.laid w) false (World.laidAll Tryd.prog os Rows.bandKnownRow.laid) #[] 8 (World.laidAll_os _ _ _)
      (World.shaped_of_ZipB (by kernel_rfl) (by kernel_rfl)) (by kernel_rfl) (by kernel_rfl) (by kernel_rfl)
      (by rw [MakeChecks.laidMetH_plain _ _ _ (by kernel_rfl)]; exact laidMet_laidAll _ (by kernel_rfl) (by kernel_rfl)))
    known BandKnown_walk
theorem BandKnown_row : Rows.BandKnownSaid :=
  OpenClaim.holds_of_wide 3 Tryd.f3 rfl rfl rfl rfl rfl rfl rfl ⟨rfl, rfl, rfl, rfl, rfl⟩ rfl rfl rfl rfl rfl (by kernel_rfl) Tryd.func3 (by kernel_rfl)
    (of_decide_eq_true (by kernel_rfl)) (by unfold Func.isWrapper; first | (rw [if_pos (by decide +kernel)]; kernel_rfl) | (rw [if_neg (by decide +kernel)]; exact ⟨rfl, rfl⟩))
    (fun os started H enc _ => BandKnown_lifted os started H enc)
theorem BandKnown_holds : Rows.BandKnownCardSaid :=
  Claim7.holds_tied_plain_at .later [] [.data, .data, .data] true (true, "1adea547daf2dcc37601b55d16db175b61b650d4fbc5444cce2680d7016865e9") false
    BandKnown_row (fun _ h => by cases h) (by kernel_rfl) (fun _ h => by cases h) bandKnown_row_tie rfl ⟨rfl, rfl⟩ (by kernel_rfl) rfl
    (fun f fn hf hfn => by
      obtain rfl : f = 3 := Option.some.inj (hf.symm.trans (by kernel_rfl))
      obtain rfl : fn = Tryd.f3 := (Option.some.inj (Tryd.func3.symm.trans hfn)).symm
      refine ⟨by kernel_rfl, fun j t ht => ?_⟩
      have hall : (Tryd.f3.params.toList.all fun t => !(Tryd.prog.wantsStandIn t)) = true := by kernel_rfl
      have hm : t ∈ Tryd.f3.params.toList := Array.mem_toList_iff.2 (Array.mem_of_getElem? ht)
      show Tryd.prog.wantsStandIn t = false
      simpa using List.all_eq_true.1 hall t hm)
    (by kernel_rfl)
end Go.Proofs.YteklodljdndcoaaDoor
