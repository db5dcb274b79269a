/-
  Facts of this seat's types for slices that grow in place.
  Conversions at this seat's types; shifts; pointers that are not nil.
  Parts of slices at this seat's types.
  Facts of this seat's types for maps and made slices.
  Walks: scales, judges, marks, seals (marks).
  Walks: scales and seals, as the document has them.
  Walks: what is known of judges (marks).
  What is known of a night: by its envelopes and its absences. The plain law.
  A slice of numbers that grows in place in a variable's cell, is sorted, compacted, and read at last.
  Walks: what is known of a night, or its first error (marks).
-/
import Derived.Test.YtgelnjmddabgpaaGreatPc
import Derived.CallsIn
import Derived.RangeFuncLeaves
import Derived.RangeFuncRecord
import Derived.OrdersIn
import Derived.Below
import Derived.Laws.World
import Derived.Laws.StructEq
import Derived.Laws.Append
import Derived.MapKept
import Derived.ProofKit
import Derived.Carry
import Derived.Handed
import Derived.ChangeCalls
import Derived.RangeFuncIn
import Derived.RangeFuncNested
import Derived.Test.YtgelnjmddabgpaaGreatProg
import Derived.KernelRfl
import Derived.IntWalk
import Derived.Test.YtgelnjmddabgpaaGreatRows
import Derived.Sort.OwnSortedInts
import Derived.Lib.SlicesCompact
import Derived.Shelf.Sort.Plain
import Derived.Shelf.Slices.In.SortNone
import Derived.Shelf.Small.Bits
import Derived.JoinedOf
set_option linter.unusedSimpArgs false
set_option linter.unusedVariables false
namespace Go.Proofs.YtgelnjmddabgpaaGreat
open Go Go.RowKit
theorem appg22 {σ : Sg} {x : PV} {m : List PV} {own : Own} : appendG Tryz.prog σ 22 22 x (.isl m own) = appG 1 8 σ x m := appG_of Tryz.underlying22 Tryz.underlying3 cells3 bytes3 (by decide) (by decide) zero3 rfl
theorem iag22 {id len es : Nat} {k : IntKind} {i : Int} : indexAddrPV Tryz.prog 22 (.gsl id len es) (.int k i) = iaM 1 id 0 len i := iaG_of Tryz.underlying22 Tryz.underlying3 cells3 k len i
theorem leng22 {id n es : Nat} : lenPV Tryz.prog 22 (.gsl id n es) = some (.int .i64 n) := lenG_of Tryz.underlying22 n
theorem lenn22 : lenPV Tryz.prog 22 .gnil = some (.int .i64 0) := lenN_of Tryz.underlying22
theorem appg25 {σ : Sg} {x : PV} {m : List PV} {own : Own} : appendG Tryz.prog σ 25 25 x (.isl m own) = appG 4 48 σ x m := appG_of Tryz.underlying25 Tryz.underlying51 cells51 bytes51 (by decide) (by decide) zero51 rfl
theorem iag25 {id len es : Nat} {k : IntKind} {i : Int} : indexAddrPV Tryz.prog 25 (.gsl id len es) (.int k i) = iaM 4 id 0 len i := iaG_of Tryz.underlying25 Tryz.underlying51 cells51 k len i
theorem leng25 {id n es : Nat} : lenPV Tryz.prog 25 (.gsl id n es) = some (.int .i64 n) := lenG_of Tryz.underlying25 n
theorem lenn25 : lenPV Tryz.prog 25 .gnil = some (.int .i64 0) := lenN_of Tryz.underlying25
theorem appg26 {σ : Sg} {x : PV} {m : List PV} {own : Own} : appendG Tryz.prog σ 26 26 x (.isl m own) = appG 2 16 σ x m := appG_of Tryz.underlying26 Tryz.underlying94 cells94 bytes94 (by decide) (by decide) zero94 rfl
theorem iag26 {id len es : Nat} {k : IntKind} {i : Int} : indexAddrPV Tryz.prog 26 (.gsl id len es) (.int k i) = iaM 2 id 0 len i := iaG_of Tryz.underlying26 Tryz.underlying94 cells94 k len i
theorem leng26 {id n es : Nat} : lenPV Tryz.prog 26 (.gsl id n es) = some (.int .i64 n) := lenG_of Tryz.underlying26 n
theorem lenn26 : lenPV Tryz.prog 26 .gnil = some (.int .i64 0) := lenN_of Tryz.underlying26
theorem appg27 {σ : Sg} {x : PV} {m : List PV} {own : Own} : appendG Tryz.prog σ 27 27 x (.isl m own) = appG 2 16 σ x m := appG_of Tryz.underlying27 Tryz.underlying97 cells97 bytes97 (by decide) (by decide) zero97 rfl
theorem iag27 {id len es : Nat} {k : IntKind} {i : Int} : indexAddrPV Tryz.prog 27 (.gsl id len es) (.int k i) = iaM 2 id 0 len i := iaG_of Tryz.underlying27 Tryz.underlying97 cells97 k len i
theorem leng27 {id n es : Nat} : lenPV Tryz.prog 27 (.gsl id n es) = some (.int .i64 n) := lenG_of Tryz.underlying27 n
theorem lenn27 : lenPV Tryz.prog 27 .gnil = some (.int .i64 0) := lenN_of Tryz.underlying27
theorem appg35 {σ : Sg} {x : PV} {m : List PV} {own : Own} : appendG Tryz.prog σ 35 35 x (.isl m own) = appG 7 72 σ x m := appG_of Tryz.underlying35 Tryz.underlying24 cells24 bytes24 (by decide) (by decide) zero24 rfl
theorem iag35 {id len es : Nat} {k : IntKind} {i : Int} : indexAddrPV Tryz.prog 35 (.gsl id len es) (.int k i) = iaM 7 id 0 len i := iaG_of Tryz.underlying35 Tryz.underlying24 cells24 k len i
theorem leng35 {id n es : Nat} : lenPV Tryz.prog 35 (.gsl id n es) = some (.int .i64 n) := lenG_of Tryz.underlying35 n
theorem lenn35 : lenPV Tryz.prog 35 .gnil = some (.int .i64 0) := lenN_of Tryz.underlying35
theorem appg38 {σ : Sg} {x : PV} {m : List PV} {own : Own} : appendG Tryz.prog σ 38 38 x (.isl m own) = appG 3 72 σ x m := appG_of Tryz.underlying38 Tryz.underlying29 cells29 bytes29 (by decide) (by decide) zero29 rfl
theorem iag38 {id len es : Nat} {k : IntKind} {i : Int} : indexAddrPV Tryz.prog 38 (.gsl id len es) (.int k i) = iaM 3 id 0 len i := iaG_of Tryz.underlying38 Tryz.underlying29 cells29 k len i
theorem leng38 {id n es : Nat} : lenPV Tryz.prog 38 (.gsl id n es) = some (.int .i64 n) := lenG_of Tryz.underlying38 n
theorem lenn38 : lenPV Tryz.prog 38 .gnil = some (.int .i64 0) := lenN_of Tryz.underlying38
theorem appg41 {σ : Sg} {x : PV} {m : List PV} {own : Own} : appendG Tryz.prog σ 41 41 x (.isl m own) = appG 3 40 σ x m := appG_of Tryz.underlying41 Tryz.underlying55 cells55 bytes55 (by decide) (by decide) zero55 rfl
theorem iag41 {id len es : Nat} {k : IntKind} {i : Int} : indexAddrPV Tryz.prog 41 (.gsl id len es) (.int k i) = iaM 3 id 0 len i := iaG_of Tryz.underlying41 Tryz.underlying55 cells55 k len i
theorem leng41 {id n es : Nat} : lenPV Tryz.prog 41 (.gsl id n es) = some (.int .i64 n) := lenG_of Tryz.underlying41 n
theorem lenn41 : lenPV Tryz.prog 41 .gnil = some (.int .i64 0) := lenN_of Tryz.underlying41
theorem appg59 {σ : Sg} {x : PV} {m : List PV} {own : Own} : appendG Tryz.prog σ 59 59 x (.isl m own) = appG 2 16 σ x m := appG_of Tryz.underlying59 Tryz.underlying63 cells63 bytes63 (by decide) (by decide) zero63 rfl
theorem iag59 {id len es : Nat} {k : IntKind} {i : Int} : indexAddrPV Tryz.prog 59 (.gsl id len es) (.int k i) = iaM 2 id 0 len i := iaG_of Tryz.underlying59 Tryz.underlying63 cells63 k len i
theorem leng59 {id n es : Nat} : lenPV Tryz.prog 59 (.gsl id n es) = some (.int .i64 n) := lenG_of Tryz.underlying59 n
theorem lenn59 : lenPV Tryz.prog 59 .gnil = some (.int .i64 0) := lenN_of Tryz.underlying59
theorem appg75 {σ : Sg} {x : PV} {m : List PV} {own : Own} : appendG Tryz.prog σ 75 75 x (.isl m own) = appG 1 24 σ x m := appG_of Tryz.underlying75 Tryz.underlying22 cells22 bytes22 (by decide) (by decide) zero22 rfl
theorem iag75 {id len es : Nat} {k : IntKind} {i : Int} : indexAddrPV Tryz.prog 75 (.gsl id len es) (.int k i) = iaM 1 id 0 len i := iaG_of Tryz.underlying75 Tryz.underlying22 cells22 k len i
theorem leng75 {id n es : Nat} : lenPV Tryz.prog 75 (.gsl id n es) = some (.int .i64 n) := lenG_of Tryz.underlying75 n
theorem lenn75 : lenPV Tryz.prog 75 .gnil = some (.int .i64 0) := lenN_of Tryz.underlying75
theorem appg125 {σ : Sg} {x : PV} {m : List PV} {own : Own} : appendG Tryz.prog σ 125 125 x (.isl m own) = appG 1 1 σ x m := appG_of Tryz.underlying125 Tryz.underlying4 cells4 bytes4 (by decide) (by decide) zero4 rfl
theorem iag125 {id len es : Nat} {k : IntKind} {i : Int} : indexAddrPV Tryz.prog 125 (.gsl id len es) (.int k i) = iaM 1 id 0 len i := iaG_of Tryz.underlying125 Tryz.underlying4 cells4 k len i
theorem leng125 {id n es : Nat} : lenPV Tryz.prog 125 (.gsl id n es) = some (.int .i64 n) := lenG_of Tryz.underlying125 n
theorem lenn125 : lenPV Tryz.prog 125 .gnil = some (.int .i64 0) := lenN_of Tryz.underlying125
theorem appg132 {σ : Sg} {x : PV} {m : List PV} {own : Own} : appendG Tryz.prog σ 132 132 x (.isl m own) = appG 1 8 σ x m := appG_of Tryz.underlying132 Tryz.underlying131 cells131 bytes131 (by decide) (by decide) zero131 rfl
theorem iag132 {id len es : Nat} {k : IntKind} {i : Int} : indexAddrPV Tryz.prog 132 (.gsl id len es) (.int k i) = iaM 1 id 0 len i := iaG_of Tryz.underlying132 Tryz.underlying131 cells131 k len i
theorem leng132 {id n es : Nat} : lenPV Tryz.prog 132 (.gsl id n es) = some (.int .i64 n) := lenG_of Tryz.underlying132 n
theorem lenn132 : lenPV Tryz.prog 132 .gnil = some (.int .i64 0) := lenN_of Tryz.underlying132
attribute [go_sem] appg22 iag22 leng22 lenn22 appg25 iag25 leng25 lenn25 appg26 iag26 leng26 lenn26 appg27 iag27 leng27 lenn27 appg35 iag35 leng35 lenn35 appg38 iag38 leng38 lenn38 appg41 iag41 leng41 lenn41 appg59 iag59 leng59 lenn59 appg75 iag75 leng75 lenn75 appg125 iag125 leng125 lenn125 appg132 iag132 leng132 lenn132
end Go.Proofs.YtgelnjmddabgpaaGreat
namespace Go.Proofs.YtgelnjmddabgpaaGreat
open Go
set_option maxRecDepth 100000
theorem wrapU {n : Int} (h1 : 0 ≤ n) (h2 : n ≤ 18446744073709551615) : IntKind.u64.wrap n = n := IntWalk.u64_in n ⟨h1, h2⟩
theorem sv_ext_sv {σ : Sg} {d : Nat} {cs cs0 : List PV} {l : List (Option (List PV))} {rm : List Nat} {ys : List LState} (h : d < σ.store.length) : ((σ.setVar d cs0).ext l rm ys).setVar d cs = (σ.setVar d cs).ext l rm ys := by
  rw [sv_ext (by rw [sv_len]; exact h), sv_sv]
theorem sv_self {σ : Sg} {d : Nat} {cs : List PV} (h : σ.store[d]? = some (some cs)) : σ.setVar d cs = σ := by
  have : σ.store.set d (some cs) = σ.store := by
    refine List.ext_getElem? fun i => ?_
    rw [List.getElem?_set]
    by_cases e : d = i
    · subst e; rw [if_pos rfl, if_pos (List.getElem?_eq_some_iff.1 h).1, h]
    · rw [if_neg e]
  unfold Sg.setVar
  rw [this]
theorem get_svx {σ : Sg} {d : Nat} {cs : List PV} {l : List (Option (List PV))} {rm : List Nat} {ys : List LState} (h : d < σ.store.length) : ((σ.setVar d cs).ext l rm ys).store[d]? = some (some cs) := by
  rw [ext_get (by rw [sv_len]; exact h)]; exact sv_get h
theorem get_extx {σ : Sg} {d : Nat} {cs : List PV} {l : List (Option (List PV))} {rm : List Nat} {ys : List LState} (hd : σ.store[d]? = some (some cs)) : (σ.ext l rm ys).store[d]? = some (some cs) := by
  rw [ext_get (lt_of_get hd)]; exact hd
theorem shr1 {a : Int} : shiftPV .shr .u64 a 1 = some (.int .u64 (a.fdiv 2)) := rfl
theorem shr32 {a : Int} : shiftPV .shr .u64 a 32 = some (.int .u64 (a.fdiv 4294967296)) := rfl
theorem cv3_87 {k : IntKind} {n : Int} : convPV Tryz.prog 3 87 (.int k n) = some (.int .u64 (IntKind.u64.wrap n)) := by kernel_rfl
theorem cv3_112 {k : IntKind} {n : Int} : convPV Tryz.prog 3 112 (.int k n) = some (.int .u64 (IntKind.u64.wrap n)) := by kernel_rfl
theorem cv3_161 {k : IntKind} {n : Int} : convPV Tryz.prog 3 161 (.int k n) = some (.int .u64 (IntKind.u64.wrap n)) := by kernel_rfl
theorem cv5_3 {k : IntKind} {n : Int} : convPV Tryz.prog 5 3 (.int k n) = some (.int .i64 (IntKind.i64.wrap n)) := by kernel_rfl
theorem cv87_3 {k : IntKind} {n : Int} : convPV Tryz.prog 87 3 (.int k n) = some (.int .i64 (IntKind.i64.wrap n)) := by kernel_rfl
theorem cv87_5 {k : IntKind} {n : Int} : convPV Tryz.prog 87 5 (.int k n) = some (.int .u8 (IntKind.u8.wrap n)) := by kernel_rfl
theorem cv112_3 {k : IntKind} {n : Int} : convPV Tryz.prog 112 3 (.int k n) = some (.int .i64 (IntKind.i64.wrap n)) := by kernel_rfl
theorem cv112_156 {k : IntKind} {n : Int} : convPV Tryz.prog 112 156 (.int k n) = some (.int .u32 (IntKind.u32.wrap n)) := by kernel_rfl
theorem cv156_5 {k : IntKind} {n : Int} : convPV Tryz.prog 156 5 (.int k n) = some (.int .u8 (IntKind.u8.wrap n)) := by kernel_rfl
attribute [go_sem] cv3_87 cv3_112 cv3_161 cv5_3 cv87_3 cv87_5 cv112_3 cv112_156 cv156_5 nilCheckPV shr1 shr32 Sg.ext_nil
end Go.Proofs.YtgelnjmddabgpaaGreat
namespace Go.Proofs.YtgelnjmddabgpaaGreat
open Go
set_option maxRecDepth 100000
theorem slh22 {l : List PV} {own : Own} {k : IntKind} {n : Int} : slicePV Tryz.prog 22 (.isl l own) none (some (.int k n)) none = if 0 ≤ n then if n.toNat ≤ l.length then some (.isl (l.take n.toNat) (sliceOwn own 0 n.toNat l.length)) else none else none := slHi_of Tryz.underlying22 Tryz.underlying3 l own k n
theorem slh25 {l : List PV} {own : Own} {k : IntKind} {n : Int} : slicePV Tryz.prog 25 (.isl l own) none (some (.int k n)) none = if 0 ≤ n then if n.toNat ≤ l.length then some (.isl (l.take n.toNat) (sliceOwn own 0 n.toNat l.length)) else none else none := slHi_of Tryz.underlying25 Tryz.underlying51 l own k n
theorem slh41 {l : List PV} {own : Own} {k : IntKind} {n : Int} : slicePV Tryz.prog 41 (.isl l own) none (some (.int k n)) none = if 0 ≤ n then if n.toNat ≤ l.length then some (.isl (l.take n.toNat) (sliceOwn own 0 n.toNat l.length)) else none else none := slHi_of Tryz.underlying41 Tryz.underlying55 l own k n
attribute [go_sem] slh22 slh25 slh41
end Go.Proofs.YtgelnjmddabgpaaGreat
namespace Go.Proofs.YtgelnjmddabgpaaGreat
open Go Go.RowKit
theorem mk125 {σ : Sg} {k : Nat} (hk : k < 2 ^ 44) : makePV Tryz.prog σ 125 (.int .i64 (k : Int)) (.int .i64 (k : Int)) = some (.msl σ.store.length 0 k, σ.push ((List.replicate k false).map PV.bool)) := by
  rw [mk_of Tryz.underlying125 zero4 bytes4 cells4 (by omega) (by omega), repB]
theorem keyInt : KeyOK Tryz.prog 3 I := fun a b => by
  simp only [I, keyEq, if_true]
  congr 1
theorem intsEq2 {a b c d : Int} : intsEq [.int .i64 a, .int .i64 b] [.int .i64 c, .int .i64 d] = some ((a == c) && ((b == d) && true)) := rfl
theorem eqF116 {a b c d : Int} : eqFieldsPV Tryz.prog [.int .i64 a, .int .i64 b] [.int .i64 c, .int .i64 d] (Tryz.prog.fieldsOf 116).toList = some ((a == c) && ((b == d) && true)) := by kernel_rfl
theorem keySt : KeyOK Tryz.prog 116 stPV := fun x y => by
  obtain ⟨a, b⟩ := x
  obtain ⟨c, d⟩ := y
  have hf : ∃ fs, Tryz.prog.underlying 116 = some (.struct fs) := ⟨_, Tryz.underlying116⟩
  obtain ⟨fs, hf⟩ := hf
  have e : Tryz.prog.fieldsOf 116 = fs := by simp [Program.fieldsOf, hf]
  have := eqF116 (a := a) (b := b) (c := c) (d := d)
  rw [e] at this
  simp only [stPV, I, keyEq, hf, intsEq2, this]
  rw [if_pos ⟨by kernel_rfl, trivial⟩]
  refine congrArg some ?_
  rw [Bool.and_true]
  by_cases h1 : a = c
  · by_cases h2 : b = d
    · subst h1 h2; simp only [beq_self_eq_true, Bool.and_true, decide_true]
    · rw [beq_eq_false_iff_ne.2 h2, Bool.and_false, decide_eq_false (fun h => h2 (Prod.mk.inj h).2)]
  · rw [beq_eq_false_iff_ne.2 h1, Bool.false_and, decide_eq_false (fun h => h1 (Prod.mk.inj h).1)]
theorem lk99 {σ : Sg} {id : Nat} {a b : Int} {ok : Bool} : lookupPV Tryz.prog σ 99 (.map id) (.agg [.int .i64 a, .int .i64 b]) ok = lkX Tryz.prog 116 .nilsl σ id (.agg [.int .i64 a, .int .i64 b]) ok := lk_of Tryz.underlying99 Tryz.underlying116 (by kernel_rfl) (by kernel_rfl) σ id ok
theorem up99 {σ : Sg} {id : Nat} {a b : Int} {v : PV} : updatePV Tryz.prog σ 99 (.map id) (.agg [.int .i64 a, .int .i64 b]) v = upX Tryz.prog 116 σ id (.agg [.int .i64 a, .int .i64 b]) v := up_of Tryz.underlying99 Tryz.underlying116 (by kernel_rfl) v σ id
theorem lkK {k : Kn} {a b : Int} {ok : Bool} : lkM Tryz.prog 116 .nilsl (some (some (.mark :: knE k))) (.agg [.int .i64 a, .int .i64 b]) ok = some (packPV ok (mkPV ((aget (a, b) k).getD [])) (aget (a, b) k).isSome) := by
  have := lkM_map (z := .nilsl) keySt mkPV k (a, b) ok
  simp only [stPV, knE] at this ⊢
  rw [this]
  cases aget (a, b) k <;> rfl
theorem upKn {k : Kn} {a b : Int} : upM Tryz.prog 116 (some (some (.mark :: knE k))) (.agg [.int .i64 a, .int .i64 b]) .nilsl = some (.mark :: knE (aput (a, b) [] k)) := upM_map keySt mkPV k (a, b) []
theorem upKs {k : Kn} {a b x : Int} {l : List Int} : upM Tryz.prog 116 (some (some (.mark :: knE k))) (.agg [.int .i64 a, .int .i64 b]) (.isl (.int .i64 x :: l.map I) .ro) = some (.mark :: knE (aput (a, b) (x :: l) k)) := upM_map keySt mkPV k (a, b) (x :: l)
theorem upKs0 {a b x : Int} {l : List Int} : upM Tryz.prog 116 (some (some [.mark])) (.agg [.int .i64 a, .int .i64 b]) (.isl (.int .i64 x :: l.map I) .ro) = some (.mark :: knE (aput (a, b) (x :: l) [])) := upM_map keySt mkPV [] (a, b) (x :: l)
theorem mkPV_ne {l : List Int} (h : l ≠ []) : mkPV l = ints l := by cases l with | nil => exact absurd rfl h | cons => rfl
theorem mkPV_nil : mkPV [] = .nilsl := rfl
theorem nilmk {l : List Int} : nilPV Tryz.prog 22 (mkPV l) = some l.isEmpty := by
  cases l with
  | nil => simp only [nilPV, Tryz.underlying22, mkPV, List.isEmpty_nil]
  | cons x l => simp only [nilPV, Tryz.underlying22, mkPV]; rfl
theorem lkB {m : List (Int × Bool)} {k : Int} {ok : Bool} : lkM Tryz.prog 3 (.bool false) (some (some (.mark :: mapE I PV.bool m))) (.int .i64 k) ok = some (packPV ok (.bool ((aget k m).getD false)) (aget k m).isSome) := by
  have := lkM_map (z := .bool false) keyInt PV.bool m k ok
  simp only [I] at this ⊢
  rw [this]
  cases aget k m <;> rfl
theorem upB {m : List (Int × Bool)} {k : Int} {v : Bool} : upM Tryz.prog 3 (some (some (.mark :: mapE I PV.bool m))) (.int .i64 k) (.bool v) = some (.mark :: mapE I PV.bool (aput k v m)) := upM_map keyInt PV.bool m k v
theorem CleanAll_mapB {a b c : Nat} {l : List (Int × Bool)} : CleanAll a b c (mapE I PV.bool l) = True := CleanAll_mapE (fun _ => .int _ _) (fun _ => .bool _)
theorem packT {v : PV} {b : Bool} : packPV true v b = .tuple [v, .bool b] := rfl
theorem packF {v : PV} {b : Bool} : packPV false v b = v := rfl
theorem evN_tmp {E : Env} {t : Nat} : evN E (.tmp t) = E.get t := rfl
theorem evN_int {E : Env} {k : IntKind} {n : Int} : evN E (.const (.int k n)) = .int k n := rfl
theorem evN_bool {E : Env} {b : Bool} : evN E (.const (.bool b)) = .bool b := rfl
theorem evN_nil {E : Env} : evN E (.const (.slice none 0 0)) = .nilsl := rfl
theorem sll22 {xs : List Int} {own : Own} {k : IntKind} {n : Int} : slicePV Tryz.prog 22 (.isl (xs.map I) own) (some (.int k n)) none none = if 0 ≤ n then if n.toNat ≤ xs.length then some (.isl ((xs.drop n.toNat).map I) own) else none else none := slLo_of Tryz.underlying22 Tryz.underlying3 cells3 (fun _ => rfl) xs own k n
theorem slb22 {xs : List Int} {own : Own} {k k' : IntKind} {n m : Int} : slicePV Tryz.prog 22 (.isl (xs.map I) own) (some (.int k n)) (some (.int k' m)) none = if 0 ≤ n then if 0 ≤ m then if n.toNat ≤ m.toNat ∧ m.toNat ≤ xs.length then some (.isl (((xs.drop n.toNat).take (m.toNat - n.toNat)).map I) (sliceOwn own n.toNat m.toNat xs.length)) else none else none else none := slBoth_of Tryz.underlying22 Tryz.underlying3 cells3 (fun _ => rfl) xs own k k' n m
theorem sl142 {id : Nat} {k : IntKind} {n : Int} : slicePV Tryz.prog 142 (.ptr id 0) none (some (.int k n)) none = if 0 ≤ n then if n.toNat ≤ 5 then (if 0 = n.toNat then some (.isl [] .ro) else some (.msl id 0 n.toNat)) else none else none := by
  unfold slicePV
  rw [Tryz.underlying142]
  simp only [Tryz.underlying3, bnd]
  by_cases hn : 0 ≤ n
  · simp [hn]
  · simp [hn]
attribute [go_sem] sll22 slb22 lk99 up99 lkK upKn upKs upKs0 nilmk lkB upB CleanAll_mapB packT packF evN_tmp evN_int evN_bool evN_nil lkX_ext lkX_ext0 upX_ext upX_ext0 lkX_svx Cl_map Cl_nilmap Cl_mark Cl_gsl Cl_gnil setI setB mkPV_nil
end Go.Proofs.YtgelnjmddabgpaaGreat
namespace Go.Proofs.YtgelnjmddabgpaaGreat
open Go Go.RowKit
set_option maxRecDepth 100000
theorem ncmp_neq {l : List Int} : nilCmp Tryz.prog .neq 22 (mkPV l) = some (.bool (!l.isEmpty)) := by simp only [nilCmp, nilmk, Option.map_some]
theorem ncmp_eql {l : List Int} : nilCmp Tryz.prog .eql 22 (mkPV l) = some (.bool l.isEmpty) := by simp only [nilCmp, nilmk, Option.map_some]
attribute [go_sem] ncmp_neq ncmp_eql
theorem inR_true {n lo hi : Int} : inR n lo hi = true ↔ lo ≤ n ∧ n ≤ hi := by simp [inR]
theorem ofSc_true {s : Scale} {j : Int × Int} : ofSc s j = true ↔ (0 ≤ j.1 ∧ j.1 ≤ s.matters - 1) ∧ (0 ≤ j.2 ∧ j.2 ≤ s.judges - 1) := by simp [ofSc, inR_true]
structure Scale.V (s : Scale) : Prop where
  sc : 1 ≤ s.schools ∧ s.schools ≤ 8
  mt : 1 ≤ s.matters ∧ s.matters ≤ 6
  jd : 1 ≤ s.judges ∧ s.judges ≤ 5
  dr : 0 ≤ s.drop ∧ s.drop ≤ s.judges - 1
  lo : 0 ≤ s.low ∧ s.low ≤ 100
  hi : 0 ≤ s.high ∧ s.high ≤ 100
  lh : s.low ≤ s.high
  ol : (s.order.length : Int) = s.matters
  od : chkOrd s.matters [] s.order = 0
  c : chkSc s = 0
structure Scale.Ok (s : Scale) : Prop where
  ho : s.order.length < 2 ^ 40
theorem Scale.v {s : Scale} (h : chkSc s = 0) : s.V := by
  have h0 := h
  unfold chkSc at h
  by_cases h1 : scRange s = true
  · rw [h1] at h
    simp only [Bool.not_true, Bool.false_eq_true, if_false] at h
    split at h
    · omega
    · split at h
      · omega
      · rename_i h2 h3
        simp only [scRange, Bool.and_eq_true, inR_true] at h1
        exact ⟨h1.1, h1.2.1, h1.2.2.1, h1.2.2.2.1, h1.2.2.2.2.1, h1.2.2.2.2.2, by omega, by simpa using h3, h, h0⟩
  · have : scRange s = false := by simpa using h1
    rw [this] at h
    simp at h
theorem marked_ok {s : Scale} {j : Int × Int} {l : List Int} (h : marked s j l = 0) : ofSc s j = true ∧ (l.length : Int) = s.schools ∧ ∀ x, x ∈ l → s.low ≤ x ∧ x ≤ s.high := by
  unfold marked at h
  by_cases h1 : ofSc s j = true
  · rw [h1] at h
    simp only [Bool.not_true, Bool.false_eq_true, if_false] at h
    split at h
    · omega
    · split at h
      · omega
      · rename_i h2 h3
        refine ⟨h1, by simpa using h2, fun x hx => ?_⟩
        simp only [outMarks, List.any_eq_true, not_exists, not_and, Bool.not_eq_true', Bool.not_eq_false] at h3
        exact inR_true.1 (h3 x hx)
  · have : ofSc s j = false := by simpa using h1
    rw [this] at h
    simp at h
theorem marked_of {s : Scale} {j : Int × Int} {l : List Int} (h1 : ofSc s j = true) (h2 : (l.length : Int) = s.schools) (h3 : ∀ x, x ∈ l → s.low ≤ x ∧ x ≤ s.high) : marked s j l = 0 := by
  unfold marked
  rw [h1, if_neg (by simp), if_neg (by omega), if_neg]
  simp only [outMarks, List.any_eq_true, not_exists, not_and, Bool.not_eq_true', Bool.not_eq_false]
  exact fun x hx => inR_true.2 (h3 x hx)
/-- The first place of a number, or -1. -/
def fIdx {α : Type} (q : α → Bool) : Nat → List α → Int
  | _, [] => -1
  | i, x :: l => if q x then (i : Int) else fIdx q (i + 1) l
theorem fIdx_anyi {α : Type} (q : α → Bool) : ∀ (l : List α) (i : Nat), decide (0 ≤ fIdx q i l) = l.any q := by
  intro l
  induction l with
  | nil => intro i; simp [fIdx]
  | cons x l ih =>
    intro i
    by_cases h : q x = true
    · have e : fIdx q i (x :: l) = (i : Int) := by simp only [fIdx]; rw [if_pos h]
      rw [e]; simp [h]
    · have e : fIdx q i (x :: l) = fIdx q (i + 1) l := by simp only [fIdx]; rw [if_neg h]
      rw [e, ih (i + 1), List.any_cons]
      have h' : q x = false := by simpa using h
      rw [h', Bool.false_or]
theorem has_comm (l : List Int) (v : Int) : (l.any fun x => decide (v = x)) = has l v := by
  unfold has
  congr 1
  funext x
  rw [Bool.eq_iff_iff]
  simp [eq_comm]
theorem fIdx_any {α : Type} (q : α → Bool) (l : List α) : decide (0 ≤ fIdx q 0 l) = l.any q := fIdx_anyi q l 0
theorem beqB {a b : Bool} : eqPV Tryz.prog 4 (.bool a) (.bool b) = some (decide (a = b)) := by cases a <;> cases b <;> kernel_rfl
set_option maxHeartbeats 2000000 in
theorem in_pc (Y : YEnv) (σ : Sg) (n lo hi : Int) :
    PC Tryz.prog Y 64 [I n, I lo, I hi] σ (.bool (inR n lo hi)) (σ) := by
  refine PC_of_W Tryz.func64 rfl (by kernel_rfl) Tryz.ntmps64 (by simp) fun hcl hca => ?_
  refine W_seq fun kz1 kq1 => ?_
  refine W_region [0, 1, 2] fun R hR => ?_   -- r0
  simp only [go_sem]
  refine hR _ _ (kq1 _ _ ?_); clear hR R; try clear kq1 kz1
  try simp only [go_sem]
  refine W_seq fun kz2 kq2 => ?_
  refine W_region [6] fun R hR => ?_   -- r1
  simp only [go_sem]
  refine GWant_split (fun g1 => ?_) (fun g1 => ?_)
  · try simp only [Bool.not_eq_true', Bool.not_eq_false'] at g1
    have n1 := g1; try simp only [nrm] at n1
    simp only [go_sem, g1]
    refine hR _ _ (kq2 _ _ ?_); clear hR R; try clear kq2 kz2
    try simp only [go_sem]
    refine W_ret ?_
    simp only [go_sem]
    refine ⟨.inr (by trivial), ?_⟩
    first | refine Fin_same hcl rfl (Wk_eq ?_ (by simp only [go_sem])) | refine Fin_self hcl rfl (Wk_eq ?_ (by simp only [go_sem]))
    try simp only [go_sem]
    all_goals
      simp [inR, *]
  · try simp only [Bool.not_eq_true', Bool.not_eq_false'] at g1
    have n1 := g1; try simp only [nrm] at n1
    simp only [go_sem, g1]
    refine hR _ _ (kq2 _ _ ?_); clear hR R; try clear kq2 kz2
    try simp only [go_sem]
    refine W_ret ?_
    simp only [go_sem]
    refine ⟨.inr (by trivial), ?_⟩
    first | refine Fin_same hcl rfl (Wk_eq ?_ (by simp only [go_sem])) | refine Fin_self hcl rfl (Wk_eq ?_ (by simp only [go_sem]))
    try simp only [go_sem]
    all_goals
      simp [inR, *]
set_option maxHeartbeats 2000000 in
theorem index_pc (Y : YEnv) (σ : Sg) (l : List Int) (o : Own) (v : Int) (hl : l.length < 2 ^ 62) :
    PC Tryz.prog Y 94 [intsO o l, I v] σ (I (fIdx (fun x => decide (v = x)) 0 l)) (σ) := by
  refine PC_of_W Tryz.func94 rfl (by kernel_rfl) Tryz.ntmps94 (by simp) fun hcl hca => ?_
  refine W_seq fun kz1 kq1 => ?_
  refine W_region [0, 1] fun R hR => ?_   -- r0
  simp only [go_sem]
  refine hR _ _ (kq1 _ _ ?_); clear hR R; try clear kq1 kz1
  try simp only [go_sem]
  refine W_seq fun kz2 kq2 => ?_
  refine W_seq fun kz3 kq3 => ?_
  refine W_region [0, 1, 7, 8] fun R hR => ?_   -- r1
  simp only [go_sem]
  refine hR _ _ (kq3 _ _ ?_); clear hR R; try clear kq3 kz3
  try simp only [go_sem]
  refine W_block ?_
  refine W_loopS (α := Nat) (fun (i : Nat) => [(8, I i)]) (fun (i : Nat) => i ≤ l.length ∧ fIdx (fun x => decide (v = x)) i (l.drop i) = fIdx (fun x => decide (v = x)) 0 l) (fun (i : Nat) => l.length - i) (0) rfl (⟨Nat.zero_le _, rfl⟩) ?_
  rintro i ⟨hi, hinv⟩
  refine W_seq fun kz4 kq4 => ?_
  refine W_region [0, 1, 7, 8, 9] fun R hR => ?_   -- r2
  simp only [go_sem]
  refine hR _ _ (kq4 _ _ ?_); clear hR R; try clear kq4 kz4
  try simp only [go_sem]
  refine W_seq fun kz5 kq5 => ?_
  refine W_cond rfl (fun c1 => ?_) (fun c1 => ?_)
  · -- c1 true
    try simp only [nrm] at c1
    have hi' : i < l.length := by first | assumption | omega
    obtain ⟨x, hx⟩ : ∃ x, l[i]? = some x := ⟨l[i], by simp [hi']⟩
    have hdrop : l.drop i = x :: l.drop (i + 1) := by
      rw [List.drop_eq_getElem_cons hi']; congr 1; exact (List.getElem?_eq_some_iff.1 hx).2
    rw [hdrop] at hinv
    simp only [fIdx] at hinv
    refine W_skip (kq5 _ _ ?_)
    refine W_seq fun kz6 kq6 => ?_
    refine W_block ?_
    refine W_seq fun kz7 kq7 => ?_
    refine W_region [0, 1, 5, 7, 8] fun R hR => ?_   -- r3
    simp only [go_sem, hx]
    refine hR _ _ (kq7 _ _ ?_); clear hR R; try clear kq7 kz7
    try simp only [go_sem, hx]
    refine W_seq fun kz8 kq8 => ?_
    refine W_region [0, 1, 5, 7, 8, 16] fun R hR => ?_   -- r4
    simp only [go_sem, hx]
    refine hR _ _ (kq8 _ _ ?_); clear hR R; try clear kq8 kz8
    try simp only [go_sem, hx]
    refine W_cond rfl (fun c2 => ?_) (fun c2 => ?_)
    · -- c2 true
      try simp only [nrm] at c2
      refine W_seq fun kz9 kq9 => ?_
      refine W_region [4] fun R hR => ?_   -- r5
      simp only [go_sem, hx]
      refine hR _ _ (kq9 _ _ ?_); clear hR R; try clear kq9 kz9
      try simp only [go_sem, hx]
      refine W_ret ?_
      simp only [go_sem, hx]
      refine ⟨.inr (by trivial), ?_⟩
      first | refine Fin_same hcl rfl (Wk_eq ?_ (by simp only [go_sem])) | refine Fin_self hcl rfl (Wk_eq ?_ (by simp only [go_sem]))
      try simp only [go_sem]
      all_goals
        first | rfl | (simp_all; done) | (simp_all; omega)
    · -- c2 false
      try simp only [nrm] at c2
      refine W_skip (kq6 _ _ ?_)
      refine W_region [0, 1, 7, 8] fun R hR => ?_   -- r6
      simp only [go_sem, hx]
      try simp (disch := omega) only [wrapI, wrapU]
      refine hR _ _ ?_; clear hR R
      try simp only [go_sem, hx]
      refine ⟨i + 1, ?_, by (try simp only []); omega, ?_⟩
      · first | exact Weak.refl | exact Weak.eq (by first | rfl | (simp only [go_sem]; done) | (simp only [go_sem]; rfl) | (simp [go_sem]; done) | (simp [go_sem]; omega)) (by first | rfl | (simp only [go_sem]; done) | (simp [go_sem]; done))
      · try dsimp only
        exact ⟨hi', by simp_all⟩
  · -- c1 false
    try simp only [nrm] at c1
    have hdrop : l.drop i = [] := List.drop_eq_nil_of_le (by omega)
    rw [hdrop] at hinv
    simp only [fIdx] at hinv
    refine W_exit ?_
    simp only [go_sem]
    refine kq2 _ _ ?_
    refine W_seq fun kz10 kq10 => ?_
    refine W_region [4] fun R hR => ?_   -- r7
    simp only [go_sem]
    refine hR _ _ (kq10 _ _ ?_); clear hR R; try clear kq10 kz10
    try simp only [go_sem]
    refine W_ret ?_
    simp only [go_sem]
    refine ⟨.inr (by trivial), ?_⟩
    first | refine Fin_same hcl rfl (Wk_eq ?_ (by simp only [go_sem])) | refine Fin_self hcl rfl (Wk_eq ?_ (by simp only [go_sem]))
    try simp only [go_sem]
    all_goals
      first | rfl | (simp_all; done) | (simp_all; omega)
set_option maxHeartbeats 2000000 in
theorem contains_pc (Y : YEnv) (σ : Sg) (l : List Int) (o : Own) (v : Int) (hl : l.length < 2 ^ 62) :
    PC Tryz.prog Y 73 [intsO o l, I v] σ (.bool (has l v)) (σ) := by
  refine PC_of_W Tryz.func73 rfl (by kernel_rfl) Tryz.ntmps73 (by simp) fun hcl hca => ?_
  refine W_seq fun kz1 kq1 => ?_
  refine W_region [0, 1] fun R hR => ?_   -- r0
  simp only [go_sem]
  refine hR _ _ (kq1 _ _ ?_); clear hR R; try clear kq1 kz1
  try simp only [go_sem]
  refine W_seq fun kz2 kq2 => ?_
  refine W_region [4] fun R hR => ?_   -- r1
  simp only [go_sem]
  refine GCall_of (index_pc Y _ l o v hl) ?_   -- t7
  simp only [go_sem]
  refine hR _ _ (kq2 _ _ ?_); clear hR R; try clear kq2 kz2
  try simp only [go_sem]
  refine W_ret ?_
  simp only [go_sem]
  refine ⟨.inr (by trivial), ?_⟩
  first | refine Fin_same hcl rfl (Wk_eq ?_ (by simp only [go_sem])) | refine Fin_self hcl rfl (Wk_eq ?_ (by simp only [go_sem]))
  try simp only [go_sem]
  all_goals
    simp only [fIdx_any, has_comm, go_sem]
set_option maxHeartbeats 4000000 in
theorem Check_pc (Y : YEnv) (σ : Sg) (s : Scale) (hs : s.Ok) :
    PC Tryz.prog Y 43 [scPV s] σ (I (chkSc s)) (σ) := by
  refine PC_of_W Tryz.func43 rfl (by kernel_rfl) Tryz.ntmps43 (by simp) fun hcl hca => ?_
  have ho := hs.ho
  obtain ⟨res, hres⟩ : ∃ r, chkSc s = r := ⟨_, rfl⟩
  rw [hres]
  refine W_seq fun kz1 kq1 => ?_
  refine W_region [1] fun R hR => ?_   -- r0
  simp only [go_sem]
  refine hR _ _ (kq1 _ _ ?_); clear hR R; try clear kq1 kz1
  try simp only [go_sem]
  refine W_seq fun kz2 kq2 => ?_
  refine W_block ?_
  refine W_seq fun kz3 kq3 => ?_
  refine W_seq fun kz4 kq4 => ?_
  refine W_region [1, 5] fun R hR => ?_   -- r1
  simp only [go_sem]
  refine GCall_of (in_pc Y _ s.schools 1 8) ?_   -- t8
  simp only [go_sem]
  refine hR _ _ (kq4 _ _ ?_); clear hR R; try clear kq4 kz4
  try simp only [go_sem]
  refine W_cond rfl (fun c1 => ?_) (fun c1 => ?_)
  · -- c1 true
    try simp only [nrm] at c1
    refine W_skip (kq3 _ _ ?_)
    refine W_cond_true (by first | rfl | (simp only [go_sem]; simp [c1])) ?_
    refine W_seq fun kz5 kq5 => ?_
    refine W_region [2] fun R hR => ?_   -- r7
    simp only [go_sem]
    refine hR _ _ (kq5 _ _ ?_); clear hR R; try clear kq5 kz5
    try simp only [go_sem]
    refine W_ret ?_
    simp only [go_sem]
    refine ⟨.inr (by trivial), ?_⟩
    first | refine Fin_same hcl rfl (Wk_eq ?_ (by simp only [go_sem])) | refine Fin_self hcl rfl (Wk_eq ?_ (by simp only [go_sem]))
    try simp only [go_sem]
    all_goals
      first | rfl | (simp_all; done) | (rw [← hres]; simp [chkSc, scRange, *]; done) | (rw [← hres]; simp [chkSc, scRange, *]; omega) | (simp_all; omega)
  · -- c1 false
    try simp only [nrm] at c1
    refine W_seq fun kz6 kq6 => ?_
    refine W_region [1, 5] fun R hR => ?_   -- r2
    simp only [go_sem]
    refine GCall_of (in_pc Y _ s.matters 1 6) ?_   -- t12
    simp only [go_sem]
    refine hR _ _ (kq6 _ _ ?_); clear hR R; try clear kq6 kz6
    try simp only [go_sem]
    refine W_cond rfl (fun c2 => ?_) (fun c2 => ?_)
    · -- c2 true
      try simp only [nrm] at c2
      refine W_skip (kq3 _ _ ?_)
      refine W_cond_true (by first | rfl | (simp only [go_sem]; simp [c2])) ?_
      refine W_seq fun kz7 kq7 => ?_
      refine W_region [2] fun R hR => ?_   -- r7
      simp only [go_sem]
      refine hR _ _ (kq7 _ _ ?_); clear hR R; try clear kq7 kz7
      try simp only [go_sem]
      refine W_ret ?_
      simp only [go_sem]
      refine ⟨.inr (by trivial), ?_⟩
      first | refine Fin_same hcl rfl (Wk_eq ?_ (by simp only [go_sem])) | refine Fin_self hcl rfl (Wk_eq ?_ (by simp only [go_sem]))
      try simp only [go_sem]
      all_goals
        first | rfl | (simp_all; done) | (rw [← hres]; simp [chkSc, scRange, *]; done) | (rw [← hres]; simp [chkSc, scRange, *]; omega) | (simp_all; omega)
    · -- c2 false
      try simp only [nrm] at c2
      refine W_seq fun kz8 kq8 => ?_
      refine W_region [1, 5] fun R hR => ?_   -- r3
      simp only [go_sem]
      refine GCall_of (in_pc Y _ s.judges 1 5) ?_   -- t16
      simp only [go_sem]
      refine hR _ _ (kq8 _ _ ?_); clear hR R; try clear kq8 kz8
      try simp only [go_sem]
      refine W_cond rfl (fun c3 => ?_) (fun c3 => ?_)
      · -- c3 true
        try simp only [nrm] at c3
        refine W_skip (kq3 _ _ ?_)
        refine W_cond_true (by first | rfl | (simp only [go_sem]; simp [c3])) ?_
        refine W_seq fun kz9 kq9 => ?_
        refine W_region [2] fun R hR => ?_   -- r7
        simp only [go_sem]
        refine hR _ _ (kq9 _ _ ?_); clear hR R; try clear kq9 kz9
        try simp only [go_sem]
        refine W_ret ?_
        simp only [go_sem]
        refine ⟨.inr (by trivial), ?_⟩
        first | refine Fin_same hcl rfl (Wk_eq ?_ (by simp only [go_sem])) | refine Fin_self hcl rfl (Wk_eq ?_ (by simp only [go_sem]))
        try simp only [go_sem]
        all_goals
          first | rfl | (simp_all; done) | (rw [← hres]; simp [chkSc, scRange, *]; done) | (rw [← hres]; simp [chkSc, scRange, *]; omega) | (simp_all; omega)
      · -- c3 false
        try simp only [nrm] at c3
        have d3 : inR s.judges 1 5 = true := by simp_all
        simp only [inR_true] at d3
        refine W_seq fun kz10 kq10 => ?_
        refine W_region [1, 5] fun R hR => ?_   -- r4
        simp only [go_sem]
        skip
        try simp (disch := omega) only [wrapI, wrapU]
        refine GCall_of (in_pc Y _ s.drop 0 _) ?_   -- t23
        simp only [go_sem]
        try simp (disch := omega) only [wrapI, wrapU]
        refine hR _ _ (kq10 _ _ ?_); clear hR R; try clear kq10 kz10
        try simp only [go_sem]
        refine W_cond rfl (fun c4 => ?_) (fun c4 => ?_)
        · -- c4 true
          try simp only [nrm] at c4
          refine W_skip (kq3 _ _ ?_)
          refine W_cond_true (by first | rfl | (simp only [go_sem]; simp [c4])) ?_
          refine W_seq fun kz11 kq11 => ?_
          refine W_region [2] fun R hR => ?_   -- r7
          simp only [go_sem]
          refine hR _ _ (kq11 _ _ ?_); clear hR R; try clear kq11 kz11
          try simp only [go_sem]
          refine W_ret ?_
          simp only [go_sem]
          refine ⟨.inr (by trivial), ?_⟩
          first | refine Fin_same hcl rfl (Wk_eq ?_ (by simp only [go_sem])) | refine Fin_self hcl rfl (Wk_eq ?_ (by simp only [go_sem]))
          try simp only [go_sem]
          all_goals
            first | rfl | (simp_all; done) | (rw [← hres]; simp [chkSc, scRange, *]; done) | (rw [← hres]; simp [chkSc, scRange, *]; omega) | (simp_all; omega)
        · -- c4 false
          try simp only [nrm] at c4
          refine W_seq fun kz12 kq12 => ?_
          refine W_region [1, 5] fun R hR => ?_   -- r5
          simp only [go_sem]
          refine GCall_of (in_pc Y _ s.low 0 100) ?_   -- t27
          simp only [go_sem]
          refine hR _ _ (kq12 _ _ ?_); clear hR R; try clear kq12 kz12
          try simp only [go_sem]
          refine W_cond rfl (fun c5 => ?_) (fun c5 => ?_)
          · -- c5 true
            try simp only [nrm] at c5
            refine W_skip (kq3 _ _ ?_)
            refine W_cond_true (by first | rfl | (simp only [go_sem]; simp [c5])) ?_
            refine W_seq fun kz13 kq13 => ?_
            refine W_region [2] fun R hR => ?_   -- r7
            simp only [go_sem]
            refine hR _ _ (kq13 _ _ ?_); clear hR R; try clear kq13 kz13
            try simp only [go_sem]
            refine W_ret ?_
            simp only [go_sem]
            refine ⟨.inr (by trivial), ?_⟩
            first | refine Fin_same hcl rfl (Wk_eq ?_ (by simp only [go_sem])) | refine Fin_self hcl rfl (Wk_eq ?_ (by simp only [go_sem]))
            try simp only [go_sem]
            all_goals
              first | rfl | (simp_all; done) | (rw [← hres]; simp [chkSc, scRange, *]; done) | (rw [← hres]; simp [chkSc, scRange, *]; omega) | (simp_all; omega)
          · -- c5 false
            try simp only [nrm] at c5
            refine W_region [1, 5] fun R hR => ?_   -- r6
            simp only [go_sem]
            refine GCall_of (in_pc Y _ s.high 0 100) ?_   -- t31
            simp only [go_sem]
            refine hR _ _ (kq3 _ _ ?_); clear hR R; try clear kq3 kz3
            try simp only [go_sem]
            refine W_cond rfl (fun c6 => ?_) (fun c6 => ?_)
            · -- c6 true
              try simp only [nrm] at c6
              refine W_seq fun kz14 kq14 => ?_
              refine W_region [2] fun R hR => ?_   -- r7
              simp only [go_sem]
              refine hR _ _ (kq14 _ _ ?_); clear hR R; try clear kq14 kz14
              try simp only [go_sem]
              refine W_ret ?_
              simp only [go_sem]
              refine ⟨.inr (by trivial), ?_⟩
              first | refine Fin_same hcl rfl (Wk_eq ?_ (by simp only [go_sem])) | refine Fin_self hcl rfl (Wk_eq ?_ (by simp only [go_sem]))
              try simp only [go_sem]
              all_goals
                first | rfl | (simp_all; done) | (rw [← hres]; simp [chkSc, scRange, *]; done) | (rw [← hres]; simp [chkSc, scRange, *]; omega) | (simp_all; omega)
            · -- c6 false
              try simp only [nrm] at c6
              refine W_seq fun kz15 kq15 => ?_
              refine W_region [1, 33] fun R hR => ?_   -- r8
              simp only [go_sem]
              refine hR _ _ (kq15 _ _ ?_); clear hR R; try clear kq15 kz15
              try simp only [go_sem]
              refine W_cond rfl (fun c7 => ?_) (fun c7 => ?_)
              · -- c7 true
                try simp only [nrm] at c7
                refine W_seq fun kz16 kq16 => ?_
                refine W_region [2] fun R hR => ?_   -- r9
                simp only [go_sem]
                refine hR _ _ (kq16 _ _ ?_); clear hR R; try clear kq16 kz16
                try simp only [go_sem]
                refine W_ret ?_
                simp only [go_sem]
                refine ⟨.inr (by trivial), ?_⟩
                first | refine Fin_same hcl rfl (Wk_eq ?_ (by simp only [go_sem])) | refine Fin_self hcl rfl (Wk_eq ?_ (by simp only [go_sem]))
                try simp only [go_sem]
                all_goals
                  first | rfl | (simp_all; done) | (rw [← hres]; simp [chkSc, scRange, *]; done) | (rw [← hres]; simp [chkSc, scRange, *]; omega) | (simp_all; omega)
              · -- c7 false
                try simp only [nrm] at c7
                refine W_seq fun kz17 kq17 => ?_
                refine W_region [1, 39] fun R hR => ?_   -- r10
                simp only [go_sem]
                refine hR _ _ (kq17 _ _ ?_); clear hR R; try clear kq17 kz17
                try simp only [go_sem]
                refine W_cond rfl (fun c8 => ?_) (fun c8 => ?_)
                · -- c8 true
                  try simp only [nrm] at c8
                  refine W_seq fun kz18 kq18 => ?_
                  refine W_region [2] fun R hR => ?_   -- r11
                  simp only [go_sem]
                  refine hR _ _ (kq18 _ _ ?_); clear hR R; try clear kq18 kz18
                  try simp only [go_sem]
                  refine W_ret ?_
                  simp only [go_sem]
                  refine ⟨.inr (by trivial), ?_⟩
                  first | refine Fin_same hcl rfl (Wk_eq ?_ (by simp only [go_sem])) | refine Fin_self hcl rfl (Wk_eq ?_ (by simp only [go_sem]))
                  try simp only [go_sem]
                  all_goals
                    first | rfl | (simp_all; done) | (rw [← hres]; simp [chkSc, scRange, *]; done) | (rw [← hres]; simp [chkSc, scRange, *]; omega) | (simp_all; omega)
                · -- c8 false
                  try simp only [nrm] at c8
                  refine W_skip (kq2 _ _ ?_)
                  refine W_seq fun kz19 kq19 => ?_
                  refine W_seq fun kz20 kq20 => ?_
                  refine W_region [1, 47, 48, 49] fun R hR => ?_   -- r12
                  simp only [go_sem]
                  refine hR _ _ (kq20 _ _ ?_); clear hR R; try clear kq20 kz20
                  try simp only [go_sem]
                  refine W_block ?_
                  refine W_loopS (α := Nat) (fun (i : Nat) => [(49, I i)]) (fun (i : Nat) => i ≤ s.order.length ∧ res = chkOrd s.matters (s.order.take i) (s.order.drop i)) (fun (i : Nat) => s.order.length - i) (0) rfl (⟨Nat.zero_le _, by rw [← hres]; simp [chkSc, scRange, *] <;> omega⟩) ?_
                  rintro i ⟨hi, hinv⟩
                  refine W_seq fun kz21 kq21 => ?_
                  refine W_region [1, 47, 48, 49, 50] fun R hR => ?_   -- r13
                  simp only [go_sem]
                  refine hR _ _ (kq21 _ _ ?_); clear hR R; try clear kq21 kz21
                  try simp only [go_sem]
                  refine W_seq fun kz22 kq22 => ?_
                  refine W_cond rfl (fun c9 => ?_) (fun c9 => ?_)
                  · -- c9 true
                    try simp only [nrm] at c9
                    have hi' : i < s.order.length := by first | assumption | omega
                    obtain ⟨x, hx⟩ : ∃ x, s.order[i]? = some x := ⟨s.order[i], by simp [hi']⟩
                    have hdrop : s.order.drop i = x :: s.order.drop (i + 1) := by
                      rw [List.drop_eq_getElem_cons hi']; congr 1; exact (List.getElem?_eq_some_iff.1 hx).2
                    rw [hdrop] at hinv
                    simp only [chkOrd] at hinv
                    have htk : s.order.take i ++ [x] = s.order.take (i + 1) := by rw [List.take_add_one, hx]; rfl
                    rw [htk] at hinv
                    refine W_skip (kq22 _ _ ?_)
                    refine W_seq fun kz23 kq23 => ?_
                    refine W_block ?_
                    refine W_seq fun kz24 kq24 => ?_
                    refine W_region [1, 3, 4, 47, 48, 49] fun R hR => ?_   -- r14
                    simp only [go_sem, hx]
                    refine hR _ _ (kq24 _ _ ?_); clear hR R; try clear kq24 kz24
                    try simp only [go_sem, hx]
                    refine W_block ?_
                    refine W_seq fun kz25 kq25 => ?_
                    refine W_region [1, 3, 4, 47, 48, 49, 54] fun R hR => ?_   -- r15
                    simp only [go_sem, hx]
                    try simp (disch := omega) only [wrapI, wrapU]
                    refine GCall_of (in_pc Y _ x 0 _) ?_   -- t59
                    simp only [go_sem, hx]
                    try simp (disch := omega) only [wrapI, wrapU]
                    refine hR _ _ (kq25 _ _ ?_); clear hR R; try clear kq25 kz25
                    try simp only [go_sem, hx]
                    refine W_cond rfl (fun c10 => ?_) (fun c10 => ?_)
                    · -- c10 true
                      try simp only [nrm] at c10
                      refine W_seq fun kz26 kq26 => ?_
                      refine W_region [2] fun R hR => ?_   -- r16
                      simp only [go_sem, hx]
                      refine hR _ _ (kq26 _ _ ?_); clear hR R; try clear kq26 kz26
                      try simp only [go_sem, hx]
                      refine W_ret ?_
                      simp only [go_sem, hx]
                      refine ⟨.inr (by trivial), ?_⟩
                      first | refine Fin_same hcl rfl (Wk_eq ?_ (by simp only [go_sem])) | refine Fin_self hcl rfl (Wk_eq ?_ (by simp only [go_sem]))
                      try simp only [go_sem]
                      all_goals
                        first | rfl | (simp_all; done) | (rw [← hres]; simp [chkSc, scRange, *]; done) | (rw [← hres]; simp [chkSc, scRange, *]; omega) | (simp_all; omega)
                    · -- c10 false
                      try simp only [nrm] at c10
                      refine W_seq fun kz27 kq27 => ?_
                      refine W_region [1, 47, 48, 49, 61] fun R hR => ?_   -- r17
                      simp only [go_sem, hx, hi, ← List.map_take]
                      refine GCall_of (contains_pc Y _ (s.order.take i) _ x (by rw [List.length_take]; omega)) ?_   -- t67
                      simp only [go_sem, hx, hi, ← List.map_take]
                      refine hR _ _ (kq27 _ _ ?_); clear hR R; try clear kq27 kz27
                      try simp only [go_sem, hx]
                      refine W_cond rfl (fun c11 => ?_) (fun c11 => ?_)
                      · -- c11 true
                        try simp only [nrm] at c11
                        refine W_seq fun kz28 kq28 => ?_
                        refine W_region [2] fun R hR => ?_   -- r18
                        simp only [go_sem, hx]
                        refine hR _ _ (kq28 _ _ ?_); clear hR R; try clear kq28 kz28
                        try simp only [go_sem, hx]
                        refine W_ret ?_
                        simp only [go_sem, hx]
                        refine ⟨.inr (by trivial), ?_⟩
                        first | refine Fin_same hcl rfl (Wk_eq ?_ (by simp only [go_sem])) | refine Fin_self hcl rfl (Wk_eq ?_ (by simp only [go_sem]))
                        try simp only [go_sem]
                        all_goals
                          first | rfl | (simp_all; done) | (rw [← hres]; simp [chkSc, scRange, *]; done) | (rw [← hres]; simp [chkSc, scRange, *]; omega) | (simp_all; omega)
                      · -- c11 false
                        try simp only [nrm] at c11
                        refine W_skip (kq23 _ _ ?_)
                        refine W_region [1, 47, 48, 49] fun R hR => ?_   -- r19
                        simp only [go_sem, hx]
                        try simp (disch := omega) only [wrapI, wrapU]
                        refine hR _ _ ?_; clear hR R
                        try simp only [go_sem, hx]
                        refine ⟨i + 1, ?_, by (try simp only []); omega, ?_⟩
                        · first | exact Weak.refl | exact Weak.eq (by first | rfl | (simp only [go_sem]; done) | (simp only [go_sem]; rfl) | (simp [go_sem]; done) | (simp [go_sem]; omega)) (by first | rfl | (simp only [go_sem]; done) | (simp [go_sem]; done))
                        · try dsimp only
                          exact ⟨hi', by simp_all⟩
                  · -- c9 false
                    try simp only [nrm] at c9
                    have hdrop : s.order.drop i = [] := List.drop_eq_nil_of_le (by omega)
                    rw [hdrop] at hinv
                    simp only [chkOrd] at hinv
                    refine W_exit ?_
                    simp only [go_sem]
                    refine kq19 _ _ ?_
                    refine W_seq fun kz29 kq29 => ?_
                    refine W_region [2] fun R hR => ?_   -- r20
                    simp only [go_sem]
                    refine hR _ _ (kq29 _ _ ?_); clear hR R; try clear kq29 kz29
                    try simp only [go_sem]
                    refine W_ret ?_
                    simp only [go_sem]
                    refine ⟨.inr (by trivial), ?_⟩
                    first | refine Fin_same hcl rfl (Wk_eq ?_ (by simp only [go_sem])) | refine Fin_self hcl rfl (Wk_eq ?_ (by simp only [go_sem]))
                    try simp only [go_sem]
                    all_goals
                      first | rfl | (simp_all; done) | (rw [← hres]; simp [chkSc, scRange, *]; done) | (rw [← hres]; simp [chkSc, scRange, *]; omega) | (simp_all; omega)
set_option maxHeartbeats 2000000 in
theorem of_pc (Y : YEnv) (σ : Sg) (s : Scale) (j : Int × Int) (h : s.V) :
    PC Tryz.prog Y 91 [stPV j, scPV s] σ (.bool (ofSc s j)) (σ) := by
  refine PC_of_W Tryz.func91 rfl (by kernel_rfl) Tryz.ntmps91 (by simp) fun hcl hca => ?_
  have h1 := h.mt
  have h2 := h.jd
  refine W_seq fun kz1 kq1 => ?_
  refine W_region [2, 3] fun R hR => ?_   -- r0
  simp only [go_sem]
  refine hR _ _ (kq1 _ _ ?_); clear hR R; try clear kq1 kz1
  try simp only [go_sem]
  refine W_seq fun kz2 kq2 => ?_
  refine W_region [4] fun R hR => ?_   -- r1
  simp only [go_sem]
  try simp (disch := omega) only [wrapI, wrapU]
  refine GCall_of (in_pc Y _ j.1 0 _) ?_   -- t10
  simp only [go_sem]
  refine GWant_split (fun g1 => ?_) (fun g1 => ?_)
  · try simp only [Bool.not_eq_true', Bool.not_eq_false'] at g1
    have n1 := g1; try simp only [nrm] at n1
    try simp (disch := omega) only [wrapI, wrapU] at n1
    simp only [go_sem, g1]
    try simp (disch := omega) only [wrapI, wrapU]
    refine GCall_of (in_pc Y _ j.2 0 _) ?_   -- t17
    simp only [go_sem, g1]
    try simp (disch := omega) only [wrapI, wrapU]
    refine hR _ _ (kq2 _ _ ?_); clear hR R; try clear kq2 kz2
    try simp only [go_sem]
    refine W_ret ?_
    simp only [go_sem]
    refine ⟨.inr (by trivial), ?_⟩
    first | refine Fin_same hcl rfl (Wk_eq ?_ (by simp only [go_sem])) | refine Fin_self hcl rfl (Wk_eq ?_ (by simp only [go_sem]))
    try simp only [go_sem]
    all_goals
      simp [ofSc, *]
  · try simp only [Bool.not_eq_true', Bool.not_eq_false'] at g1
    have n1 := g1; try simp only [nrm] at n1
    try simp (disch := omega) only [wrapI, wrapU] at n1
    simp only [go_sem, g1]
    try simp (disch := omega) only [wrapI, wrapU]
    refine hR _ _ (kq2 _ _ ?_); clear hR R; try clear kq2 kz2
    try simp only [go_sem]
    refine W_ret ?_
    simp only [go_sem]
    refine ⟨.inr (by trivial), ?_⟩
    first | refine Fin_same hcl rfl (Wk_eq ?_ (by simp only [go_sem])) | refine Fin_self hcl rfl (Wk_eq ?_ (by simp only [go_sem]))
    try simp only [go_sem]
    all_goals
      simp [ofSc, *]
set_option maxHeartbeats 2000000 in
theorem indexF_pc (Y : YEnv) (σ : Sg) (l : List Int) (o : Own) (hl : l.length < 2 ^ 62) (g : FuncId) (p : PV) (q : Int → Bool) (hq : ∀ (x : Int), PC Tryz.prog Y g [I x, p] σ (.bool (q x)) σ) :
    PC Tryz.prog Y 113 [intsO o l, .func (.func g) [] [p]] σ (I (fIdx q 0 l)) (σ) := by
  refine PC_of_W Tryz.func113 rfl (by kernel_rfl) Tryz.ntmps113 (by simp) fun hcl hca => ?_
  refine W_seq fun kz1 kq1 => ?_
  refine W_region [0, 1] fun R hR => ?_   -- r0
  simp only [go_sem]
  refine hR _ _ (kq1 _ _ ?_); clear hR R; try clear kq1 kz1
  try simp only [go_sem]
  refine W_seq fun kz2 kq2 => ?_
  refine W_seq fun kz3 kq3 => ?_
  refine W_region [0, 1, 7, 8] fun R hR => ?_   -- r1
  simp only [go_sem]
  refine hR _ _ (kq3 _ _ ?_); clear hR R; try clear kq3 kz3
  try simp only [go_sem]
  refine W_block ?_
  refine W_loopS (α := Nat) (fun (i : Nat) => [(8, I i)]) (fun (i : Nat) => i ≤ l.length ∧ fIdx q i (l.drop i) = fIdx q 0 l) (fun (i : Nat) => l.length - i) (0) rfl (⟨Nat.zero_le _, rfl⟩) ?_
  rintro i ⟨hi, hinv⟩
  refine W_seq fun kz4 kq4 => ?_
  refine W_region [0, 1, 7, 8, 9] fun R hR => ?_   -- r2
  simp only [go_sem]
  refine hR _ _ (kq4 _ _ ?_); clear hR R; try clear kq4 kz4
  try simp only [go_sem]
  refine W_seq fun kz5 kq5 => ?_
  refine W_cond rfl (fun c1 => ?_) (fun c1 => ?_)
  · -- c1 true
    try simp only [nrm] at c1
    have hi' : i < l.length := by first | assumption | omega
    obtain ⟨x, hx⟩ : ∃ x, l[i]? = some x := ⟨l[i], by simp [hi']⟩
    have hdrop : l.drop i = x :: l.drop (i + 1) := by
      rw [List.drop_eq_getElem_cons hi']; congr 1; exact (List.getElem?_eq_some_iff.1 hx).2
    rw [hdrop] at hinv
    simp only [fIdx] at hinv
    refine W_skip (kq5 _ _ ?_)
    refine W_seq fun kz6 kq6 => ?_
    refine W_block ?_
    refine W_seq fun kz7 kq7 => ?_
    refine W_region [0, 1, 5, 7, 8] fun R hR => ?_   -- r3
    simp only [go_sem, hx]
    refine hR _ _ (kq7 _ _ ?_); clear hR R; try clear kq7 kz7
    try simp only [go_sem, hx]
    refine W_seq fun kz8 kq8 => ?_
    refine W_region [0, 1, 5, 7, 8, 16] fun R hR => ?_   -- r4
    simp only [go_sem, hx]
    refine GCall_of (hq x) ?_   -- t16
    simp only [go_sem, hx]
    refine hR _ _ (kq8 _ _ ?_); clear hR R; try clear kq8 kz8
    try simp only [go_sem, hx]
    refine W_cond rfl (fun c2 => ?_) (fun c2 => ?_)
    · -- c2 true
      try simp only [nrm] at c2
      refine W_seq fun kz9 kq9 => ?_
      refine W_region [4] fun R hR => ?_   -- r5
      simp only [go_sem, hx]
      refine hR _ _ (kq9 _ _ ?_); clear hR R; try clear kq9 kz9
      try simp only [go_sem, hx]
      refine W_ret ?_
      simp only [go_sem, hx]
      refine ⟨.inr (by trivial), ?_⟩
      first | refine Fin_same hcl rfl (Wk_eq ?_ (by simp only [go_sem])) | refine Fin_self hcl rfl (Wk_eq ?_ (by simp only [go_sem]))
      try simp only [go_sem]
      all_goals
        first | rfl | (simp_all; done) | (simp_all; omega)
    · -- c2 false
      try simp only [nrm] at c2
      refine W_skip (kq6 _ _ ?_)
      refine W_region [0, 1, 7, 8] fun R hR => ?_   -- r6
      simp only [go_sem, hx]
      try simp (disch := omega) only [wrapI, wrapU]
      refine hR _ _ ?_; clear hR R
      try simp only [go_sem, hx]
      refine ⟨i + 1, ?_, by (try simp only []); omega, ?_⟩
      · first | exact Weak.refl | exact Weak.eq (by first | rfl | (simp only [go_sem]; done) | (simp only [go_sem]; rfl) | (simp [go_sem]; done) | (simp [go_sem]; omega)) (by first | rfl | (simp only [go_sem]; done) | (simp [go_sem]; done))
      · try dsimp only
        exact ⟨hi', by simp_all⟩
  · -- c1 false
    try simp only [nrm] at c1
    have hdrop : l.drop i = [] := List.drop_eq_nil_of_le (by omega)
    rw [hdrop] at hinv
    simp only [fIdx] at hinv
    refine W_exit ?_
    simp only [go_sem]
    refine kq2 _ _ ?_
    refine W_seq fun kz10 kq10 => ?_
    refine W_region [4] fun R hR => ?_   -- r7
    simp only [go_sem]
    refine hR _ _ (kq10 _ _ ?_); clear hR R; try clear kq10 kz10
    try simp only [go_sem]
    refine W_ret ?_
    simp only [go_sem]
    refine ⟨.inr (by trivial), ?_⟩
    first | refine Fin_same hcl rfl (Wk_eq ?_ (by simp only [go_sem])) | refine Fin_self hcl rfl (Wk_eq ?_ (by simp only [go_sem]))
    try simp only [go_sem]
    all_goals
      first | rfl | (simp_all; done) | (simp_all; omega)
set_option maxHeartbeats 2000000 in
theorem containsF_pc (Y : YEnv) (σ : Sg) (l : List Int) (o : Own) (hl : l.length < 2 ^ 62) (g : FuncId) (p : PV) (q : Int → Bool) (hq : ∀ (x : Int), PC Tryz.prog Y g [I x, p] σ (.bool (q x)) σ) :
    PC Tryz.prog Y 92 [intsO o l, .func (.func g) [] [p]] σ (.bool (l.any q)) (σ) := by
  refine PC_of_W Tryz.func92 rfl (by kernel_rfl) Tryz.ntmps92 (by simp) fun hcl hca => ?_
  refine W_seq fun kz1 kq1 => ?_
  refine W_region [0, 1] fun R hR => ?_   -- r0
  simp only [go_sem]
  refine hR _ _ (kq1 _ _ ?_); clear hR R; try clear kq1 kz1
  try simp only [go_sem]
  refine W_seq fun kz2 kq2 => ?_
  refine W_region [4] fun R hR => ?_   -- r1
  simp only [go_sem]
  refine GCall_of (indexF_pc Y _ l o hl g p q hq) ?_   -- t7
  simp only [go_sem]
  refine hR _ _ (kq2 _ _ ?_); clear hR R; try clear kq2 kz2
  try simp only [go_sem]
  refine W_ret ?_
  simp only [go_sem]
  refine ⟨.inr (by trivial), ?_⟩
  first | refine Fin_same hcl rfl (Wk_eq ?_ (by simp only [go_sem])) | refine Fin_self hcl rfl (Wk_eq ?_ (by simp only [go_sem]))
  try simp only [go_sem]
  all_goals
    simp only [fIdx_any, go_sem]
set_option maxHeartbeats 2000000 in
theorem marked1_pc (Y : YEnv) (σ : Sg) (id : Nat) (s : Scale) (hd : σ.store[id]? = some (some (scCells s))) (n : Int) :
    PC Tryz.prog Y 93 [I n, .ptr id 0] σ (.bool (!(inR n s.low s.high))) (σ) := by
  refine PC_of_W Tryz.func93 rfl (by kernel_rfl) Tryz.ntmps93 (by simp) fun hcl hca => ?_
  refine W_seq fun kz1 kq1 => ?_
  refine W_region [0, 1] fun R hR => ?_   -- r0
  simp only [go_sem, ldS_at hd]
  refine hR _ _ (kq1 _ _ ?_); clear hR R; try clear kq1 kz1
  try simp only [go_sem, ldS_at hd]
  refine W_seq fun kz2 kq2 => ?_
  refine W_region [3] fun R hR => ?_   -- r1
  simp only [go_sem, ldS_at hd]
  refine GCall_of (in_pc Y _ n s.low s.high) ?_   -- t9
  simp only [go_sem, ldS_at hd]
  refine hR _ _ (kq2 _ _ ?_); clear hR R; try clear kq2 kz2
  try simp only [go_sem, ldS_at hd]
  refine W_ret ?_
  simp only [go_sem, ldS_at hd]
  refine ⟨.inr (by trivial), ?_⟩
  first | refine Fin_same hcl rfl (Wk_eq ?_ (by simp only [go_sem])) | refine Fin_self hcl rfl (Wk_eq ?_ (by simp only [go_sem]))
  try simp only [go_sem]
  all_goals
    first | rfl | (simp_all; done) | (simp_all; omega)
set_option maxHeartbeats 2000000 in
theorem marked_pc (Y : YEnv) (σ : Sg) (s : Scale) (j : Int × Int) (l : List Int) (o : Own) (hl : l.length < 2 ^ 40) (h : s.V) :
    PC Tryz.prog Y 68 [scPV s, stPV j, intsO o l] σ (I (marked s j l)) (σ) := by
  refine PC_of_W Tryz.func68 rfl (by kernel_rfl) Tryz.ntmps68 (by simp) fun hcl hca => ?_
  refine W_seq fun kz1 kq1 => ?_
  refine W_region [2, 3, 4] fun R hR => ?_   -- r0
  simp only [go_sem]
  refine hR _ _ (kq1 _ _ ?_); clear hR R; try clear kq1 kz1
  try simp only [go_sem]
  refine W_seq fun kz2 kq2 => ?_
  refine W_block ?_
  refine W_seq fun kz3 kq3 => ?_
  refine W_region [2, 3, 7] fun R hR => ?_   -- r1
  simp only [go_sem]
  refine GCall_of (of_pc Y _ s j h) ?_   -- t10
  simp only [go_sem]
  refine hR _ _ (kq3 _ _ ?_); clear hR R; try clear kq3 kz3
  try simp only [go_sem]
  refine W_cond rfl (fun c1 => ?_) (fun c1 => ?_)
  · -- c1 true
    try simp only [nrm] at c1
    refine W_seq fun kz4 kq4 => ?_
    refine W_region [6] fun R hR => ?_   -- r2
    simp only [go_sem]
    refine hR _ _ (kq4 _ _ ?_); clear hR R; try clear kq4 kz4
    try simp only [go_sem]
    refine W_ret ?_
    simp only [go_sem]
    refine ⟨.inr (by trivial), ?_⟩
    first | refine Fin_same hcl rfl (Wk_eq ?_ (by simp only [go_sem])) | refine Fin_self hcl rfl (Wk_eq ?_ (by simp only [go_sem]))
    try simp only [go_sem]
    all_goals
      simp [marked, outMarks, *]
  · -- c1 false
    try simp only [nrm] at c1
    refine W_seq fun kz5 kq5 => ?_
    refine W_region [2, 3, 12] fun R hR => ?_   -- r3
    simp only [go_sem]
    refine hR _ _ (kq5 _ _ ?_); clear hR R; try clear kq5 kz5
    try simp only [go_sem]
    refine W_cond rfl (fun c2 => ?_) (fun c2 => ?_)
    · -- c2 true
      try simp only [nrm] at c2
      refine W_seq fun kz6 kq6 => ?_
      refine W_region [6] fun R hR => ?_   -- r4
      simp only [go_sem]
      refine hR _ _ (kq6 _ _ ?_); clear hR R; try clear kq6 kz6
      try simp only [go_sem]
      refine W_ret ?_
      simp only [go_sem]
      refine ⟨.inr (by trivial), ?_⟩
      first | refine Fin_same hcl rfl (Wk_eq ?_ (by simp only [go_sem])) | refine Fin_self hcl rfl (Wk_eq ?_ (by simp only [go_sem]))
      try simp only [go_sem]
      all_goals
        simp [marked, outMarks, *]
    · -- c2 false
      try simp only [nrm] at c2
      refine W_seq fun kz7 kq7 => ?_
      refine W_region [18] fun R hR => ?_   -- r5
      simp only [go_sem]
      refine GCall_of (containsF_pc Y _ l o (by omega) 93 (.ptr σ.store.length 0) (fun n => !(inR n s.low s.high)) (fun x => marked1_pc Y _ σ.store.length s (Sg.get_ext0 ..) x)) ?_   -- t21
      simp only [go_sem]
      refine hR _ _ (kq7 _ _ ?_); clear hR R; try clear kq7 kz7
      try simp only [go_sem]
      refine W_cond rfl (fun c3 => ?_) (fun c3 => ?_)
      · -- c3 true
        try simp only [nrm] at c3
        refine W_seq fun kz8 kq8 => ?_
        refine W_region [6] fun R hR => ?_   -- r6
        simp only [go_sem]
        refine hR _ _ (kq8 _ _ ?_); clear hR R; try clear kq8 kz8
        try simp only [go_sem]
        refine W_ret ?_
        simp only [go_sem]
        refine ⟨.inr (by trivial), ?_⟩
        first | refine Fin_same hcl rfl (Wk_eq ?_ (by simp only [go_sem])) | refine Fin_self hcl rfl (Wk_eq ?_ (by simp only [go_sem]))
        try simp only [go_sem]
        all_goals
          simp [marked, outMarks, *]
      · -- c3 false
        try simp only [nrm] at c3
        refine W_skip (kq2 _ _ ?_)
        refine W_seq fun kz9 kq9 => ?_
        refine W_region [6] fun R hR => ?_   -- r7
        simp only [go_sem]
        refine hR _ _ (kq9 _ _ ?_); clear hR R; try clear kq9 kz9
        try simp only [go_sem]
        refine W_ret ?_
        simp only [go_sem]
        refine ⟨.inr (by trivial), ?_⟩
        first | refine Fin_same hcl rfl (Wk_eq ?_ (by simp only [go_sem])) | refine Fin_self hcl rfl (Wk_eq ?_ (by simp only [go_sem]))
        try simp only [go_sem]
        all_goals
          simp [marked, outMarks, *]
set_option maxHeartbeats 2000000 in
theorem seal_pc (Y : YEnv) (σ : Sg) (j : Int × Int) (l : List Int) (o : Own) (h1 : 0 ≤ j.1 ∧ j.1 ≤ 5) (h2 : 0 ≤ j.2 ∧ j.2 ≤ 4) (h3 : l.length ≤ 8) (h4 : ∀ x, x ∈ l → 0 ≤ x ∧ x ≤ 100) :
    PC Tryz.prog Y 69 [stPV j, intsO o l] σ (I (sealOf j l)) (σ) := by
  refine PC_of_W Tryz.func69 rfl (by kernel_rfl) Tryz.ntmps69 (by simp) fun hcl hca => ?_
  obtain ⟨res, hres⟩ : ∃ r, sealOf j l = r := ⟨_, rfl⟩
  rw [hres]
  have hz : ¬ ((997 : Int) = 0) := by omega
  refine W_seq fun kz1 kq1 => ?_
  refine W_region [1, 2] fun R hR => ?_   -- r0
  simp only [go_sem, hz]
  refine hR _ _ (kq1 _ _ ?_); clear hR R; try clear kq1 kz1
  try simp only [go_sem, hz]
  refine W_seq fun kz2 kq2 => ?_
  refine W_region [1, 5] fun R hR => ?_   -- r1
  simp only [go_sem, hz]
  try simp (disch := omega) only [wrapI, wrapU]
  refine hR _ _ (kq2 _ _ ?_); clear hR R; try clear kq2 kz2
  try simp only [go_sem, hz]
  refine W_seq fun kz3 kq3 => ?_
  refine W_seq fun kz4 kq4 => ?_
  refine W_region [5, 17, 18, 19] fun R hR => ?_   -- r2
  simp only [go_sem, hz]
  refine hR _ _ (kq4 _ _ ?_); clear hR R; try clear kq4 kz4
  try simp only [go_sem, hz]
  refine W_block ?_
  refine W_loopS (α := Nat × Int) (fun ⟨i, n⟩ => [(5, I n), (19, I i)]) (fun ⟨i, n⟩ => i ≤ l.length ∧ res = (n + sealSum i (l.drop i)).tmod 997 ∧ 0 ≤ n ∧ n ≤ 10000 + i * 800) (fun ⟨i, n⟩ => l.length - i) ((0, (j.1 + 1) * 101 + (j.2 + 1) * 1009)) rfl (⟨Nat.zero_le _, by rw [← hres]; simp [sealOf], by omega, by simp; omega⟩) ?_
  rintro ⟨i, n⟩ ⟨hi, hinv, hn1, hn2⟩
  have hi8 : i ≤ 8 := by omega
  refine W_seq fun kz5 kq5 => ?_
  refine W_region [5, 17, 18, 19, 20] fun R hR => ?_   -- r3
  simp only [go_sem, hz]
  refine hR _ _ (kq5 _ _ ?_); clear hR R; try clear kq5 kz5
  try simp only [go_sem, hz]
  refine W_seq fun kz6 kq6 => ?_
  refine W_cond rfl (fun c1 => ?_) (fun c1 => ?_)
  · -- c1 true
    try simp only [nrm] at c1
    have hi' : i < l.length := by first | assumption | omega
    obtain ⟨x, hx⟩ : ∃ x, l[i]? = some x := ⟨l[i], by simp [hi']⟩
    have hdrop : l.drop i = x :: l.drop (i + 1) := by
      rw [List.drop_eq_getElem_cons hi']; congr 1; exact (List.getElem?_eq_some_iff.1 hx).2
    rw [hdrop] at hinv
    simp only [sealSum] at hinv
    have hxb := h4 x (List.mem_of_getElem? hx)
    have hp1 : 0 ≤ ((i : Int) + 1) * x := Int.mul_nonneg (by omega) hxb.1
    have hp2 : ((i : Int) + 1) * x ≤ ((i : Int) + 1) * 100 := Int.mul_le_mul_of_nonneg_left hxb.2 (by omega)
    refine W_skip (kq6 _ _ ?_)
    refine W_seq fun kz7 kq7 => ?_
    refine W_block ?_
    refine W_seq fun kz8 kq8 => ?_
    refine W_region [5, 6, 7, 17, 18, 19] fun R hR => ?_   -- r4
    simp only [go_sem, hz, hx]
    refine hR _ _ (kq8 _ _ ?_); clear hR R; try clear kq8 kz8
    try simp only [go_sem, hz, hx]
    refine W_region [5, 17, 18, 19] fun R hR => ?_   -- r5
    simp only [go_sem, hz, hx]
    try simp (disch := omega) only [wrapI, wrapU]
    refine hR _ _ (kq7 _ _ ?_); clear hR R; try clear kq7 kz7
    try simp only [go_sem, hz, hx]
    refine W_region [5, 17, 18, 19] fun R hR => ?_   -- r6
    simp only [go_sem, hz, hx]
    try simp (disch := omega) only [wrapI, wrapU]
    refine hR _ _ ?_; clear hR R
    try simp only [go_sem, hz, hx]
    refine ⟨(i + 1, n + ((i : Int) + 1) * x), ?_, by (try simp only []); omega, ?_⟩
    · first | exact Weak.refl | exact Weak.eq (by first | rfl | (simp only [go_sem]; done) | (simp only [go_sem]; rfl) | (simp [go_sem]; done) | (simp [go_sem]; omega)) (by first | rfl | (simp only [go_sem]; done) | (simp [go_sem]; done))
    · try dsimp only
      refine ⟨hi', ?_, by omega, by simp; omega⟩
      rw [hinv]; congr 1; omega
  · -- c1 false
    try simp only [nrm] at c1
    have hdrop : l.drop i = [] := List.drop_eq_nil_of_le (by omega)
    rw [hdrop] at hinv
    simp only [sealSum] at hinv
    refine W_exit ?_
    simp only [go_sem, hz]
    refine kq3 _ _ ?_
    refine W_seq fun kz9 kq9 => ?_
    refine W_region [4] fun R hR => ?_   -- r7
    simp only [go_sem, hz]
    try simp (disch := omega) only [wrapI, wrapU]
    refine hR _ _ (kq9 _ _ ?_); clear hR R; try clear kq9 kz9
    try simp only [go_sem, hz]
    refine W_ret ?_
    simp only [go_sem, hz]
    refine ⟨.inr (by trivial), ?_⟩
    first | refine Fin_same hcl rfl (Wk_eq ?_ (by simp only [go_sem])) | refine Fin_self hcl rfl (Wk_eq ?_ (by simp only [go_sem]))
    try simp only [go_sem]
    all_goals
      rw [hinv, Int.add_zero]
set_option maxHeartbeats 2000000 in
theorem Equal_pc (Y : YEnv) (σ : Sg) (xs ys : List Int) (o o2 : Own) (hx : xs.length < 2 ^ 50) :
    PC Tryz.prog Y 97 [intsO o xs, intsO o2 ys] σ (.bool (decide (xs = ys))) (σ) := by
  refine PC_of_W Tryz.func97 rfl (by kernel_rfl) Tryz.ntmps97 (by simp) fun hcl hca => ?_
  obtain ⟨res, hres⟩ : ∃ r, decide (xs = ys) = r := ⟨_, rfl⟩
  rw [hres]
  refine W_seq fun kz1 kq1 => ?_
  refine W_region [0, 1] fun R hR => ?_   -- r0
  simp only [go_sem]
  refine hR _ _ (kq1 _ _ ?_); clear hR R; try clear kq1 kz1
  try simp only [go_sem]
  refine W_seq fun kz2 kq2 => ?_
  refine W_seq fun kz3 kq3 => ?_
  refine W_region [0, 1, 10] fun R hR => ?_   -- r1
  simp only [go_sem]
  refine hR _ _ (kq3 _ _ ?_); clear hR R; try clear kq3 kz3
  try simp only [go_sem]
  refine W_cond rfl (fun c1 => ?_) (fun c1 => ?_)
  · -- c1 true
    try simp only [nrm] at c1
    refine W_seq fun kz4 kq4 => ?_
    refine W_region [4] fun R hR => ?_   -- r2
    simp only [go_sem]
    refine hR _ _ (kq4 _ _ ?_); clear hR R; try clear kq4 kz4
    try simp only [go_sem]
    refine W_ret ?_
    simp only [go_sem]
    refine ⟨.inr (by trivial), ?_⟩
    first | refine Fin_same hcl rfl (Wk_eq ?_ (by simp only [go_sem])) | refine Fin_self hcl rfl (Wk_eq ?_ (by simp only [go_sem]))
    try simp only [go_sem]
    all_goals
      rw [← hres]; congr 1; symm; rw [decide_eq_false_iff_not]; intro e; subst e; simp_all
  · -- c1 false
    try simp only [nrm] at c1
    have hll : xs.length = ys.length := by first | omega | simpa using c1
    refine W_skip (kq2 _ _ ?_)
    refine W_seq fun kz5 kq5 => ?_
    refine W_seq fun kz6 kq6 => ?_
    refine W_region [0, 1, 12, 13] fun R hR => ?_   -- r3
    simp only [go_sem]
    refine hR _ _ (kq6 _ _ ?_); clear hR R; try clear kq6 kz6
    try simp only [go_sem]
    refine W_block ?_
    refine W_loopS (α := Nat) (fun (i : Nat) => [(13, I i)]) (fun (i : Nat) => i ≤ xs.length ∧ res = decide (xs.drop i = ys.drop i)) (fun (i : Nat) => xs.length - i) (0) rfl (⟨Nat.zero_le _, by rw [← hres]; rfl⟩) ?_
    rintro i ⟨hi, hinv⟩
    refine W_seq fun kz7 kq7 => ?_
    refine W_region [0, 1, 12, 13, 14] fun R hR => ?_   -- r4
    simp only [go_sem]
    refine hR _ _ (kq7 _ _ ?_); clear hR R; try clear kq7 kz7
    try simp only [go_sem]
    refine W_seq fun kz8 kq8 => ?_
    refine W_cond rfl (fun c2 => ?_) (fun c2 => ?_)
    · -- c2 true
      try simp only [nrm] at c2
      have hi' : i < xs.length := by first | assumption | omega
      obtain ⟨x, hx⟩ : ∃ x, xs[i]? = some x := ⟨xs[i], by simp [hi']⟩
      obtain ⟨y, hy⟩ : ∃ y, ys[i]? = some y := ⟨ys[i]'(by omega), by simp⟩
      have d1 : xs.drop i = x :: xs.drop (i + 1) := by
        rw [List.drop_eq_getElem_cons hi']; congr 1; exact (List.getElem?_eq_some_iff.1 hx).2
      have d2 : ys.drop i = y :: ys.drop (i + 1) := by
        rw [List.drop_eq_getElem_cons (by omega)]; congr 1; exact (List.getElem?_eq_some_iff.1 hy).2
      rw [d1, d2] at hinv
      refine W_skip (kq8 _ _ ?_)
      refine W_seq fun kz9 kq9 => ?_
      refine W_block ?_
      refine W_seq fun kz10 kq10 => ?_
      refine W_region [0, 1, 5, 12, 13] fun R hR => ?_   -- r5
      simp only [go_sem, hx, hy]
      refine hR _ _ (kq10 _ _ ?_); clear hR R; try clear kq10 kz10
      try simp only [go_sem, hx, hy]
      refine W_seq fun kz11 kq11 => ?_
      refine W_draw [0, 1, 12, 13, 24] [0, 1, 2, 3, 4, 5, 6, 7, 8] [] [[], [], [0, 1], [0, 1, 2], [], [], [4, 5], [4, 5, 6], [0, 1, 2, 3, 4, 5, 6, 7]] mixed (by kernel_rfl) fun R hR => ?_   -- r6
      simp only [go_sem, hx, hy]
      try refine And.intro (by repeat' (first | refine And.intro ?_ ?_ | exact GOr_right (fun _ => by simp only [go_sem, hx, hy]))) ?_
      refine hR _ _ (kq11 _ _ ?_); clear hR R; try clear kq11 kz11
      try simp only [go_sem, hx, hy]
      refine W_cond rfl (fun c3 => ?_) (fun c3 => ?_)
      · -- c3 true
        try simp only [nrm] at c3
        refine W_seq fun kz12 kq12 => ?_
        refine W_region [4] fun R hR => ?_   -- r7
        simp only [go_sem, hx, hy]
        refine hR _ _ (kq12 _ _ ?_); clear hR R; try clear kq12 kz12
        try simp only [go_sem, hx, hy]
        refine W_ret ?_
        simp only [go_sem, hx, hy]
        refine ⟨.inr (by trivial), ?_⟩
        first | refine Fin_same hcl rfl (Wk_eq ?_ (by simp only [go_sem])) | refine Fin_self hcl rfl (Wk_eq ?_ (by simp only [go_sem]))
        try simp only [go_sem]
        all_goals
          rw [hinv]; simp_all
      · -- c3 false
        try simp only [nrm] at c3
        refine W_skip (kq9 _ _ ?_)
        refine W_region [0, 1, 12, 13] fun R hR => ?_   -- r8
        simp only [go_sem, hx, hy]
        try simp (disch := omega) only [wrapI, wrapU]
        refine hR _ _ ?_; clear hR R
        try simp only [go_sem, hx, hy]
        refine ⟨i + 1, ?_, by (try simp only []); omega, ?_⟩
        · first | exact Weak.refl | exact Weak.eq (by first | rfl | (simp only [go_sem]; done) | (simp only [go_sem]; rfl) | (simp [go_sem]; done) | (simp [go_sem]; omega)) (by first | rfl | (simp only [go_sem]; done) | (simp [go_sem]; done))
        · try dsimp only
          refine ⟨hi', ?_⟩
          rw [hinv]; simp_all
    · -- c2 false
      try simp only [nrm] at c2
      have d1 : xs.drop i = [] := List.drop_eq_nil_of_le (by omega)
      have d2 : ys.drop i = [] := List.drop_eq_nil_of_le (by omega)
      rw [d1, d2] at hinv
      refine W_exit ?_
      simp only [go_sem]
      refine kq5 _ _ ?_
      refine W_seq fun kz13 kq13 => ?_
      refine W_region [4] fun R hR => ?_   -- r9
      simp only [go_sem]
      refine hR _ _ (kq13 _ _ ?_); clear hR R; try clear kq13 kz13
      try simp only [go_sem]
      refine W_ret ?_
      simp only [go_sem]
      refine ⟨.inr (by trivial), ?_⟩
      first | refine Fin_same hcl rfl (Wk_eq ?_ (by simp only [go_sem])) | refine Fin_self hcl rfl (Wk_eq ?_ (by simp only [go_sem]))
      try simp only [go_sem]
      all_goals
        rw [hinv]; simp_all
set_option maxHeartbeats 2000000 in
theorem Ints_pc (Y : YEnv) (σ : Sg) (xs : List Int) (o : Own) (h : xs.length < 2 ^ 40) :
    PC Tryz.prog Y 38 [intsO o xs] σ (ints xs) (σ) := by
  refine PC_of_W Tryz.func38 rfl (by kernel_rfl) Tryz.ntmps38 (by simp) fun hcl hca => ?_
  refine W_seq fun kz1 kq1 => ?_
  refine W_region [0] fun R hR => ?_   -- r0
  simp only [go_sem]
  refine hR _ _ (kq1 _ _ ?_); clear hR R; try clear kq1 kz1
  try simp only [go_sem]
  refine W_seq fun kz2 kq2 => ?_
  refine W_region [2] fun R hR => ?_   -- r1
  simp only [go_sem]
  try simp (disch := first | omega | (simp only [go_sem] <;> omega)) only [wrapI, wrapU, appX_exact, appX_tok]
  try simp only [go_sem]
  refine hR _ _ (kq2 _ _ ?_); clear hR R; try clear kq2 kz2
  try simp only [go_sem]
  refine W_ret ?_
  simp only [go_sem]
  refine ⟨.inr (by trivial), ?_⟩
  refine Fin_same hcl rfl (Wk.ro (by simp only [go_sem]) ?_)
  try simp only [go_sem]
  all_goals
    first | rfl | (simp [PV.ro, PV.roL]; done)
end Go.Proofs.YtgelnjmddabgpaaGreat
namespace Go.Proofs.YtgelnjmddabgpaaGreat
open Go Go.RowKit
set_option maxRecDepth 100000
def rJudge (s : Scale) (j : Int × Int) : Int := if ofSc s j then 0 else 7
def rMarks (s : Scale) (l : List Int) : Int := if (l.length : Int) ≠ s.schools then 1 else if outMarks s l then 2 else 0
theorem marked_r (s : Scale) (j : Int × Int) (l : List Int) : marked s j l = if rJudge s j ≠ 0 then rJudge s j else rMarks s l := by
  unfold marked rJudge rMarks
  cases ofSc s j <;> simp
theorem has_take {l : List Int} {k : Nat} {z v : Int} (h : l[k]? = some z) : has (l.take (k + 1)) v = (has (l.take k) v || decide (z = v)) := by
  rw [List.take_add_one, h]
  simp [has, List.any_append]
theorem outMarks_cons (s : Scale) (x : Int) (l : List Int) : outMarks s (x :: l) = (!(inR x s.low s.high) || outMarks s l) := rfl
theorem outMarks_nil (s : Scale) : outMarks s [] = false := rfl
set_option maxHeartbeats 2000000 in
theorem rin_pc (Y : YEnv) (σ : Sg) (n lo hi : Int) :
    PC Tryz.prog Y 66 [I n, I lo, I hi] σ (.bool (inR n lo hi)) (σ) := by
  refine PC_of_W Tryz.func66 rfl (by kernel_rfl) Tryz.ntmps66 (by simp) fun hcl hca => ?_
  refine W_seq fun kz1 kq1 => ?_
  refine W_region [0, 1, 2] fun R hR => ?_   -- r0
  simp only [go_sem]
  refine hR _ _ (kq1 _ _ ?_); clear hR R; try clear kq1 kz1
  try simp only [go_sem]
  refine W_seq fun kz2 kq2 => ?_
  refine W_region [6] fun R hR => ?_   -- r1
  simp only [go_sem]
  refine GWant_split (fun g1 => ?_) (fun g1 => ?_)
  · try simp only [Bool.not_eq_true', Bool.not_eq_false'] at g1
    have n1 := g1; try simp only [nrm] at n1
    simp only [go_sem, g1]
    refine hR _ _ (kq2 _ _ ?_); clear hR R; try clear kq2 kz2
    try simp only [go_sem]
    refine W_ret ?_
    simp only [go_sem]
    refine ⟨.inr (by trivial), ?_⟩
    first | refine Fin_same hcl rfl (Wk_eq ?_ (by simp only [go_sem])) | refine Fin_self hcl rfl (Wk_eq ?_ (by simp only [go_sem]))
    try simp only [go_sem]
    all_goals
      simp [inR, *]
  · try simp only [Bool.not_eq_true', Bool.not_eq_false'] at g1
    have n1 := g1; try simp only [nrm] at n1
    simp only [go_sem, g1]
    refine hR _ _ (kq2 _ _ ?_); clear hR R; try clear kq2 kz2
    try simp only [go_sem]
    refine W_ret ?_
    simp only [go_sem]
    refine ⟨.inr (by trivial), ?_⟩
    first | refine Fin_same hcl rfl (Wk_eq ?_ (by simp only [go_sem])) | refine Fin_self hcl rfl (Wk_eq ?_ (by simp only [go_sem]))
    try simp only [go_sem]
    all_goals
      simp [inR, *]
set_option maxHeartbeats 4000000 in
theorem rCheck_pc (Y : YEnv) (σ : Sg) (s : Scale) (hs : s.Ok) :
    PC Tryz.prog Y 44 [scPV s] σ (I (chkSc s)) (σ) := by
  refine PC_of_W Tryz.func44 rfl (by kernel_rfl) Tryz.ntmps44 (by simp) fun hcl hca => ?_
  have ho := hs.ho
  obtain ⟨res, hres⟩ : ∃ r, chkSc s = r := ⟨_, rfl⟩
  rw [hres]
  refine W_seq fun kz1 kq1 => ?_
  refine W_region [1] fun R hR => ?_   -- r0
  simp only [go_sem]
  refine hR _ _ (kq1 _ _ ?_); clear hR R; try clear kq1 kz1
  try simp only [go_sem]
  refine W_seq fun kz2 kq2 => ?_
  refine W_seq fun kz3 kq3 => ?_
  refine W_regionJ [1, 41] [(41, .bool (!scRange s))] ?_ fun R hR => ?_   -- r1
  · refine kq3 _ _ ?_
    simp only [go_sem]
    refine W_cond rfl (fun c1 => ?_) (fun c1 => ?_)
    · -- c1 true
      try simp only [nrm] at c1
      refine W_seq fun kz4 kq4 => ?_
      refine W_region [2] fun R hR => ?_   -- r2
      simp only [go_sem]
      refine hR _ _ (kq4 _ _ ?_); clear hR R; try clear kq4 kz4
      try simp only [go_sem]
      refine W_ret ?_
      simp only [go_sem]
      refine ⟨.inr (by trivial), ?_⟩
      first | refine Fin_same hcl rfl (Wk_eq ?_ (by simp only [go_sem])) | refine Fin_self hcl rfl (Wk_eq ?_ (by simp only [go_sem]))
      try simp only [go_sem]
      all_goals
        first | rfl | (simp_all; done) | (simp_all; omega) | (rw [← hres]; simp only [chkSc]; (repeat' split) <;> ((first | rfl | omega | (simp_all; done) | (simp_all; omega))))
    · -- c1 false
      try simp only [nrm] at c1
      have d2 : scRange s = true := by simpa using c1
      have d4 := d2
      simp only [scRange, Bool.and_eq_true, inR_true] at d4
      refine W_skip (kq2 _ _ ?_)
      refine W_seq fun kz5 kq5 => ?_
      refine W_seq fun kz6 kq6 => ?_
      refine W_region [1, 46] fun R hR => ?_   -- r3
      simp only [go_sem]
      refine hR _ _ (kq6 _ _ ?_); clear hR R; try clear kq6 kz6
      try simp only [go_sem]
      refine W_cond rfl (fun c2 => ?_) (fun c2 => ?_)
      · -- c2 true
        try simp only [nrm] at c2
        refine W_seq fun kz7 kq7 => ?_
        refine W_region [2] fun R hR => ?_   -- r4
        simp only [go_sem]
        refine hR _ _ (kq7 _ _ ?_); clear hR R; try clear kq7 kz7
        try simp only [go_sem]
        refine W_ret ?_
        simp only [go_sem]
        refine ⟨.inr (by trivial), ?_⟩
        first | refine Fin_same hcl rfl (Wk_eq ?_ (by simp only [go_sem])) | refine Fin_self hcl rfl (Wk_eq ?_ (by simp only [go_sem]))
        try simp only [go_sem]
        all_goals
          first | rfl | (simp_all; done) | (simp_all; omega) | (rw [← hres]; simp only [chkSc]; (repeat' split) <;> ((first | rfl | omega | (simp_all; done) | (simp_all; omega))))
      · -- c2 false
        try simp only [nrm] at c2
        refine W_skip (kq5 _ _ ?_)
        refine W_seq fun kz8 kq8 => ?_
        refine W_seq fun kz9 kq9 => ?_
        refine W_region [1, 52] fun R hR => ?_   -- r5
        simp only [go_sem]
        refine hR _ _ (kq9 _ _ ?_); clear hR R; try clear kq9 kz9
        try simp only [go_sem]
        refine W_cond rfl (fun c3 => ?_) (fun c3 => ?_)
        · -- c3 true
          try simp only [nrm] at c3
          refine W_seq fun kz10 kq10 => ?_
          refine W_region [2] fun R hR => ?_   -- r6
          simp only [go_sem]
          refine hR _ _ (kq10 _ _ ?_); clear hR R; try clear kq10 kz10
          try simp only [go_sem]
          refine W_ret ?_
          simp only [go_sem]
          refine ⟨.inr (by trivial), ?_⟩
          first | refine Fin_same hcl rfl (Wk_eq ?_ (by simp only [go_sem])) | refine Fin_self hcl rfl (Wk_eq ?_ (by simp only [go_sem]))
          try simp only [go_sem]
          all_goals
            first | rfl | (simp_all; done) | (simp_all; omega) | (rw [← hres]; simp only [chkSc]; (repeat' split) <;> ((first | rfl | omega | (simp_all; done) | (simp_all; omega))))
        · -- c3 false
          try simp only [nrm] at c3
          refine W_skip (kq8 _ _ ?_)
          refine W_seq fun kz11 kq11 => ?_
          refine W_seq fun kz12 kq12 => ?_
          refine W_region [1, 3] fun R hR => ?_   -- r7
          simp only [go_sem]
          refine hR _ _ (kq12 _ _ ?_); clear hR R; try clear kq12 kz12
          try simp only [go_sem]
          refine W_block ?_
          refine W_loopS (α := Nat) (fun (i : Nat) => [(3, I i)]) (fun (i : Nat) => i ≤ s.order.length ∧ res = chkOrd s.matters (s.order.take i) (s.order.drop i)) (fun (i : Nat) => s.order.length - i) (0) rfl (⟨Nat.zero_le _, by rw [← hres]; simp [chkSc, *] <;> omega⟩) ?_
          rintro i ⟨hi, hinv⟩
          refine W_seq fun kz13 kq13 => ?_
          refine W_seq fun kz14 kq14 => ?_
          refine W_region [1, 3, 57] fun R hR => ?_   -- r8
          simp only [go_sem]
          refine hR _ _ (kq14 _ _ ?_); clear hR R; try clear kq14 kz14
          try simp only [go_sem]
          refine W_cond rfl (fun c4 => ?_) (fun c4 => ?_)
          · -- c4 true
            try simp only [nrm] at c4
            have hi' : i < s.order.length := by first | assumption | omega
            obtain ⟨x, hx⟩ : ∃ x, s.order[i]? = some x := ⟨s.order[i], by simp [hi']⟩
            have hdrop : s.order.drop i = x :: s.order.drop (i + 1) := by
              rw [List.drop_eq_getElem_cons hi']; congr 1; exact (List.getElem?_eq_some_iff.1 hx).2
            rw [hdrop] at hinv
            simp only [chkOrd] at hinv
            have htk : s.order.take i ++ [x] = s.order.take (i + 1) := by rw [List.take_add_one, hx]; rfl
            rw [htk] at hinv
            refine W_skip (kq13 _ _ ?_)
            refine W_seq fun kz15 kq15 => ?_
            refine W_block ?_
            refine W_seq fun kz16 kq16 => ?_
            refine W_seq fun kz17 kq17 => ?_
            refine W_draw [1, 3, 69] [0, 1, 2, 3, 4, 5, 6, 7, 8, 9] [] [[], [0], [], [0, 1, 2], [0, 1, 2, 3], [], [5], [5, 6], [0, 1, 2, 3, 4, 5, 6, 7], [0, 1, 2, 3, 4, 5, 6, 7, 8]] mixed (by kernel_rfl) fun R hR => ?_   -- r10
            simp only [go_sem, hx]
            try simp (disch := omega) only [wrapI, wrapU]
            refine GCall_of (rin_pc Y _ x 0 _) ?_   -- t68
            simp only [go_sem, hx]
            try simp (disch := omega) only [wrapI, wrapU]
            try refine And.intro (by repeat' (first | refine And.intro ?_ ?_ | exact GOr_right (fun _ => by simp only [go_sem, hx]))) ?_
            refine hR _ _ (kq17 _ _ ?_); clear hR R; try clear kq17 kz17
            try simp only [go_sem, hx]
            refine W_cond rfl (fun c5 => ?_) (fun c5 => ?_)
            · -- c5 true
              try simp only [nrm] at c5
              refine W_seq fun kz18 kq18 => ?_
              refine W_region [2] fun R hR => ?_   -- r11
              simp only [go_sem, hx]
              refine hR _ _ (kq18 _ _ ?_); clear hR R; try clear kq18 kz18
              try simp only [go_sem, hx]
              refine W_ret ?_
              simp only [go_sem, hx]
              refine ⟨.inr (by trivial), ?_⟩
              first | refine Fin_same hcl rfl (Wk_eq ?_ (by simp only [go_sem])) | refine Fin_self hcl rfl (Wk_eq ?_ (by simp only [go_sem]))
              try simp only [go_sem]
              all_goals
                first | rfl | (simp_all; done) | (simp_all; omega) | (rw [← hres]; simp only [chkSc]; (repeat' split) <;> ((first | rfl | omega | (simp_all; done) | (simp_all; omega))))
            · -- c5 false
              try simp only [nrm] at c5
              refine W_skip (kq16 _ _ ?_)
              refine W_seq fun kz19 kq19 => ?_
              refine W_region [1, 3, 4] fun R hR => ?_   -- r12
              simp only [go_sem, hx]
              refine hR _ _ (kq19 _ _ ?_); clear hR R; try clear kq19 kz19
              try simp only [go_sem, hx]
              refine W_block ?_
              refine W_loopS (α := Nat) (fun (k : Nat) => [(4, I k)]) (fun (k : Nat) => k ≤ i ∧ has (s.order.take k) x = false) (fun (k : Nat) => i - k) (0) rfl (⟨Nat.zero_le _, rfl⟩) ?_
              rintro k ⟨hk, hh⟩
              refine W_seq fun kz20 kq20 => ?_
              refine W_seq fun kz21 kq21 => ?_
              refine W_region [1, 3, 4, 72] fun R hR => ?_   -- r13
              simp only [go_sem, hx]
              refine hR _ _ (kq21 _ _ ?_); clear hR R; try clear kq21 kz21
              try simp only [go_sem, hx]
              refine W_cond rfl (fun c6 => ?_) (fun c6 => ?_)
              · -- c6 true
                try simp only [nrm] at c6
                have hk' : k < i := by first | assumption | omega | (simp at c6; omega)
                obtain ⟨z, hz⟩ : ∃ z, s.order[k]? = some z := ⟨s.order[k]'(by omega), by simp⟩
                have hht := has_take hz (v := x)
                refine W_skip (kq20 _ _ ?_)
                refine W_seq fun kz22 kq22 => ?_
                refine W_block ?_
                refine W_seq fun kz23 kq23 => ?_
                refine W_draw [1, 3, 4, 85] [0, 1, 2, 3, 4, 5, 6, 7, 8, 9, 10] [] [[], [0], [], [0, 1, 2], [0, 1, 2, 3], [], [5], [], [5, 6, 7], [5, 6, 7, 8], [0, 1, 2, 3, 4, 5, 6, 7, 8, 9]] mixed (by kernel_rfl) fun R hR => ?_   -- r15
                simp only [go_sem, hx, hz]
                try refine And.intro (by repeat' (first | refine And.intro ?_ ?_ | exact GOr_right (fun _ => by simp only [go_sem, hx, hz]))) ?_
                refine hR _ _ (kq23 _ _ ?_); clear hR R; try clear kq23 kz23
                try simp only [go_sem, hx, hz]
                refine W_cond rfl (fun c7 => ?_) (fun c7 => ?_)
                · -- c7 true
                  try simp only [nrm] at c7
                  refine W_seq fun kz24 kq24 => ?_
                  refine W_region [2] fun R hR => ?_   -- r16
                  simp only [go_sem, hx, hz]
                  refine hR _ _ (kq24 _ _ ?_); clear hR R; try clear kq24 kz24
                  try simp only [go_sem, hx, hz]
                  refine W_ret ?_
                  simp only [go_sem, hx, hz]
                  refine ⟨.inr (by trivial), ?_⟩
                  first | refine Fin_same hcl rfl (Wk_eq ?_ (by simp only [go_sem])) | refine Fin_self hcl rfl (Wk_eq ?_ (by simp only [go_sem]))
                  try simp only [go_sem]
                  all_goals
                    have hall : has (s.order.take i) x = true := by
                      rw [has_iff]
                      have h1 : z = x := by first | exact c7 | simpa using c7
                      rw [← h1]
                      refine List.mem_of_getElem? (i := k) ?_
                      rw [List.getElem?_take_of_lt hk']; exact hz
                    simp_all
                · -- c7 false
                  try simp only [nrm] at c7
                  refine W_skip (kq22 _ _ ?_)
                  refine W_region [1, 3, 4] fun R hR => ?_   -- r14
                  simp only [go_sem, hx, hz]
                  try simp (disch := omega) only [wrapI, wrapU]
                  refine hR _ _ ?_; clear hR R
                  try simp only [go_sem, hx, hz]
                  refine ⟨k + 1, ?_, by (try simp only []); omega, ?_⟩
                  · first | exact Weak.refl | exact Weak.eq (by first | rfl | (simp only [go_sem]; done) | (simp only [go_sem]; rfl) | (simp [go_sem]; done) | (simp [go_sem]; omega)) (by first | rfl | (simp only [go_sem]; done) | (simp [go_sem]; done))
                  · try dsimp only
                    exact ⟨hk', by rw [hht, hh]; simp [*]⟩
              · -- c6 false
                try simp only [nrm] at c6
                have hke : i = k := by first | omega | (simp at c6; omega)
                have hhi : has (s.order.take i) x = false := by rw [hke]; exact hh
                refine W_exit ?_
                simp only [go_sem, hx]
                refine kq15 _ _ ?_
                refine W_region [1, 3] fun R hR => ?_   -- r9
                simp only [go_sem, hx]
                try simp (disch := omega) only [wrapI, wrapU]
                refine hR _ _ ?_; clear hR R
                try simp only [go_sem, hx]
                refine ⟨i + 1, ?_, by (try simp only []); omega, ?_⟩
                · first | exact Weak.refl | exact Weak.eq (by first | rfl | (simp only [go_sem]; done) | (simp only [go_sem]; rfl) | (simp [go_sem]; done) | (simp [go_sem]; omega)) (by first | rfl | (simp only [go_sem]; done) | (simp [go_sem]; done))
                · try dsimp only
                  exact ⟨hi', by simp_all⟩
          · -- c4 false
            try simp only [nrm] at c4
            have hdrop : s.order.drop i = [] := List.drop_eq_nil_of_le (by omega)
            rw [hdrop] at hinv
            simp only [chkOrd] at hinv
            refine W_exit ?_
            simp only [go_sem]
            refine kq11 _ _ ?_
            refine W_seq fun kz25 kq25 => ?_
            refine W_region [2] fun R hR => ?_   -- r17
            simp only [go_sem]
            refine hR _ _ (kq25 _ _ ?_); clear hR R; try clear kq25 kz25
            try simp only [go_sem]
            refine W_ret ?_
            simp only [go_sem]
            refine ⟨.inr (by trivial), ?_⟩
            first | refine Fin_same hcl rfl (Wk_eq ?_ (by simp only [go_sem])) | refine Fin_self hcl rfl (Wk_eq ?_ (by simp only [go_sem]))
            try simp only [go_sem]
            all_goals
              first | rfl | (simp_all; done) | (simp_all; omega) | (rw [← hres]; simp only [chkSc]; (repeat' split) <;> ((first | rfl | omega | (simp_all; done) | (simp_all; omega))))
  · simp only [go_sem]
    refine GCall_of (rin_pc Y _ s.schools 1 8) ?_   -- t7
    simp only [go_sem]
    refine GWant_split (fun g1 => ?_) (fun g1 => ?_)
    · try simp only [Bool.not_eq_true', Bool.not_eq_false'] at g1
      have n1 := g1; try simp only [nrm] at n1
      simp only [go_sem, g1]
      refine GCall_of (rin_pc Y _ s.matters 1 6) ?_   -- t12
      simp only [go_sem, g1]
      refine GWant_split (fun g2 => ?_) (fun g2 => ?_)
      · try simp only [Bool.not_eq_true', Bool.not_eq_false'] at g2
        have n2 := g2; try simp only [nrm] at n2
        simp only [go_sem, g1, g2]
        refine GCall_of (rin_pc Y _ s.judges 1 5) ?_   -- t18
        simp only [go_sem, g1, g2]
        refine GWant_split (fun g3 => ?_) (fun g3 => ?_)
        · try simp only [Bool.not_eq_true', Bool.not_eq_false'] at g3
          have n3 := g3; try simp only [nrm] at n3
          have d3 : inR s.judges 1 5 = true := by simp_all
          simp only [inR_true] at d3
          simp only [go_sem, g1, g2, g3]
          try simp (disch := omega) only [wrapI, wrapU]
          refine GCall_of (rin_pc Y _ s.drop 0 _) ?_   -- t27
          simp only [go_sem, g1, g2, g3]
          refine GWant_split (fun g4 => ?_) (fun g4 => ?_)
          · try simp only [Bool.not_eq_true', Bool.not_eq_false'] at g4
            have n4 := g4; try simp only [nrm] at n4
            try simp (disch := omega) only [wrapI, wrapU] at n4
            simp only [go_sem, g1, g2, g3, g4]
            try simp (disch := omega) only [wrapI, wrapU]
            refine GCall_of (rin_pc Y _ s.low 0 100) ?_   -- t33
            simp only [go_sem, g1, g2, g3, g4]
            refine GWant_split (fun g5 => ?_) (fun g5 => ?_)
            · try simp only [Bool.not_eq_true', Bool.not_eq_false'] at g5
              have n5 := g5; try simp only [nrm] at n5
              try simp (disch := omega) only [wrapI, wrapU] at n5
              simp only [go_sem, g1, g2, g3, g4, g5]
              try simp (disch := omega) only [wrapI, wrapU]
              refine GCall_of (rin_pc Y _ s.high 0 100) ?_   -- t39
              simp only [go_sem, g1, g2, g3, g4, g5]
              try simp (disch := omega) only [wrapI, wrapU]
              refine hR _ ?_
              all_goals try simp only [go_sem]
              all_goals
                simp [scRange, *]
            · try simp only [Bool.not_eq_true', Bool.not_eq_false'] at g5
              have n5 := g5; try simp only [nrm] at n5
              try simp (disch := omega) only [wrapI, wrapU] at n5
              simp only [go_sem, g1, g2, g3, g4, g5]
              try simp (disch := omega) only [wrapI, wrapU]
              refine hR _ ?_
              all_goals try simp only [go_sem]
              all_goals
                simp [scRange, *]
          · try simp only [Bool.not_eq_true', Bool.not_eq_false'] at g4
            have n4 := g4; try simp only [nrm] at n4
            try simp (disch := omega) only [wrapI, wrapU] at n4
            simp only [go_sem, g1, g2, g3, g4]
            try simp (disch := omega) only [wrapI, wrapU]
            refine hR _ ?_
            all_goals try simp only [go_sem]
            all_goals
              simp [scRange, *]
        · try simp only [Bool.not_eq_true', Bool.not_eq_false'] at g3
          have n3 := g3; try simp only [nrm] at n3
          simp only [go_sem, g1, g2, g3]
          try simp (disch := omega) only [wrapI, wrapU]
          refine hR _ ?_
          all_goals try simp only [go_sem]
          all_goals
            simp [scRange, *]
      · try simp only [Bool.not_eq_true', Bool.not_eq_false'] at g2
        have n2 := g2; try simp only [nrm] at n2
        simp only [go_sem, g1, g2]
        try simp (disch := omega) only [wrapI, wrapU]
        refine hR _ ?_
        all_goals try simp only [go_sem]
        all_goals
          simp [scRange, *]
    · try simp only [Bool.not_eq_true', Bool.not_eq_false'] at g1
      have n1 := g1; try simp only [nrm] at n1
      simp only [go_sem, g1]
      try simp (disch := omega) only [wrapI, wrapU]
      refine hR _ ?_
      all_goals try simp only [go_sem]
      all_goals
        simp [scRange, *]
set_option maxHeartbeats 2000000 in
theorem rJudge_pc (Y : YEnv) (σ : Sg) (s : Scale) (a b : Int) (h : s.V) :
    PC Tryz.prog Y 70 [scPV s, I a, I b] σ (I (rJudge s (a, b))) (σ) := by
  refine PC_of_W Tryz.func70 rfl (by kernel_rfl) Tryz.ntmps70 (by simp) fun hcl hca => ?_
  have h1 := h.mt
  have h2 := h.jd
  refine W_seq fun kz1 kq1 => ?_
  refine W_region [1, 2, 3] fun R hR => ?_   -- r0
  simp only [go_sem]
  refine hR _ _ (kq1 _ _ ?_); clear hR R; try clear kq1 kz1
  try simp only [go_sem]
  refine W_seq fun kz2 kq2 => ?_
  refine W_seq fun kz3 kq3 => ?_
  refine W_region [20] fun R hR => ?_   -- r1
  simp only [go_sem]
  try simp (disch := omega) only [wrapI, wrapU]
  refine GCall_of (rin_pc Y _ a 0 _) ?_   -- t11
  simp only [go_sem]
  refine GWant_split (fun g1 => ?_) (fun g1 => ?_)
  · try simp only [Bool.not_eq_true', Bool.not_eq_false'] at g1
    have n1 := g1; try simp only [nrm] at n1
    try simp (disch := omega) only [wrapI, wrapU] at n1
    simp only [go_sem, g1]
    try simp (disch := omega) only [wrapI, wrapU]
    refine GCall_of (rin_pc Y _ b 0 _) ?_   -- t18
    simp only [go_sem, g1]
    try simp (disch := omega) only [wrapI, wrapU]
    refine hR _ _ (kq3 _ _ ?_); clear hR R; try clear kq3 kz3
    try simp only [go_sem]
    refine W_cond rfl (fun c1 => ?_) (fun c1 => ?_)
    · -- c1 true
      try simp only [nrm] at c1
      refine W_seq fun kz4 kq4 => ?_
      refine W_region [6] fun R hR => ?_   -- r2
      simp only [go_sem]
      refine hR _ _ (kq4 _ _ ?_); clear hR R; try clear kq4 kz4
      try simp only [go_sem]
      refine W_ret ?_
      simp only [go_sem]
      refine ⟨.inr (by trivial), ?_⟩
      first | refine Fin_same hcl rfl (Wk_eq ?_ (by simp only [go_sem])) | refine Fin_self hcl rfl (Wk_eq ?_ (by simp only [go_sem]))
      try simp only [go_sem]
      all_goals
        simp [rJudge, ofSc, *]
    · -- c1 false
      try simp only [nrm] at c1
      refine W_skip (kq2 _ _ ?_)
      refine W_seq fun kz5 kq5 => ?_
      refine W_region [6] fun R hR => ?_   -- r3
      simp only [go_sem]
      refine hR _ _ (kq5 _ _ ?_); clear hR R; try clear kq5 kz5
      try simp only [go_sem]
      refine W_ret ?_
      simp only [go_sem]
      refine ⟨.inr (by trivial), ?_⟩
      first | refine Fin_same hcl rfl (Wk_eq ?_ (by simp only [go_sem])) | refine Fin_self hcl rfl (Wk_eq ?_ (by simp only [go_sem]))
      try simp only [go_sem]
      all_goals
        simp [rJudge, ofSc, *]
  · try simp only [Bool.not_eq_true', Bool.not_eq_false'] at g1
    have n1 := g1; try simp only [nrm] at n1
    try simp (disch := omega) only [wrapI, wrapU] at n1
    simp only [go_sem, g1]
    try simp (disch := omega) only [wrapI, wrapU]
    refine hR _ _ (kq3 _ _ ?_); clear hR R; try clear kq3 kz3
    try simp only [go_sem]
    refine W_cond_true rfl ?_
    refine W_seq fun kz6 kq6 => ?_
    refine W_region [6] fun R hR => ?_   -- r2
    simp only [go_sem]
    refine hR _ _ (kq6 _ _ ?_); clear hR R; try clear kq6 kz6
    try simp only [go_sem]
    refine W_ret ?_
    simp only [go_sem]
    refine ⟨.inr (by trivial), ?_⟩
    first | refine Fin_same hcl rfl (Wk_eq ?_ (by simp only [go_sem])) | refine Fin_self hcl rfl (Wk_eq ?_ (by simp only [go_sem]))
    try simp only [go_sem]
    all_goals
      simp [rJudge, ofSc, *]
set_option maxHeartbeats 2000000 in
theorem rMarks_pc (Y : YEnv) (σ : Sg) (s : Scale) (l : List Int) (o : Own) (hl : l.length < 2 ^ 40) :
    PC Tryz.prog Y 71 [scPV s, intsO o l] σ (I (rMarks s l)) (σ) := by
  refine PC_of_W Tryz.func71 rfl (by kernel_rfl) Tryz.ntmps71 (by simp) fun hcl hca => ?_
  obtain ⟨res, hres⟩ : ∃ r, rMarks s l = r := ⟨_, rfl⟩
  rw [hres]
  refine W_seq fun kz1 kq1 => ?_
  refine W_region [1, 2] fun R hR => ?_   -- r0
  simp only [go_sem]
  refine hR _ _ (kq1 _ _ ?_); clear hR R; try clear kq1 kz1
  try simp only [go_sem]
  refine W_seq fun kz2 kq2 => ?_
  refine W_seq fun kz3 kq3 => ?_
  refine W_region [1, 2, 10] fun R hR => ?_   -- r1
  simp only [go_sem]
  refine hR _ _ (kq3 _ _ ?_); clear hR R; try clear kq3 kz3
  try simp only [go_sem]
  refine W_cond rfl (fun c1 => ?_) (fun c1 => ?_)
  · -- c1 true
    try simp only [nrm] at c1
    refine W_seq fun kz4 kq4 => ?_
    refine W_region [4] fun R hR => ?_   -- r2
    simp only [go_sem]
    refine hR _ _ (kq4 _ _ ?_); clear hR R; try clear kq4 kz4
    try simp only [go_sem]
    refine W_ret ?_
    simp only [go_sem]
    refine ⟨.inr (by trivial), ?_⟩
    first | refine Fin_same hcl rfl (Wk_eq ?_ (by simp only [go_sem])) | refine Fin_self hcl rfl (Wk_eq ?_ (by simp only [go_sem]))
    try simp only [go_sem]
    all_goals
      rw [← hres]; simp [rMarks, *]
  · -- c1 false
    try simp only [nrm] at c1
    refine W_skip (kq2 _ _ ?_)
    refine W_seq fun kz5 kq5 => ?_
    refine W_seq fun kz6 kq6 => ?_
    refine W_region [1, 2, 5] fun R hR => ?_   -- r3
    simp only [go_sem]
    refine hR _ _ (kq6 _ _ ?_); clear hR R; try clear kq6 kz6
    try simp only [go_sem]
    refine W_block ?_
    refine W_loopS (α := Nat) (fun (i : Nat) => [(5, I i)]) (fun (i : Nat) => i ≤ l.length ∧ outMarks s l = outMarks s (l.drop i)) (fun (i : Nat) => l.length - i) (0) rfl (⟨Nat.zero_le _, rfl⟩) ?_
    rintro i ⟨hi, hinv⟩
    refine W_seq fun kz7 kq7 => ?_
    refine W_seq fun kz8 kq8 => ?_
    refine W_region [1, 2, 5, 14] fun R hR => ?_   -- r4
    simp only [go_sem]
    refine hR _ _ (kq8 _ _ ?_); clear hR R; try clear kq8 kz8
    try simp only [go_sem]
    refine W_cond rfl (fun c2 => ?_) (fun c2 => ?_)
    · -- c2 true
      try simp only [nrm] at c2
      have hi' : i < l.length := by first | assumption | omega
      obtain ⟨x, hx⟩ : ∃ x, l[i]? = some x := ⟨l[i], by simp [hi']⟩
      have hdrop : l.drop i = x :: l.drop (i + 1) := by
        rw [List.drop_eq_getElem_cons hi']; congr 1; exact (List.getElem?_eq_some_iff.1 hx).2
      rw [hdrop, outMarks_cons] at hinv
      refine W_skip (kq7 _ _ ?_)
      refine W_seq fun kz9 kq9 => ?_
      refine W_block ?_
      refine W_seq fun kz10 kq10 => ?_
      refine W_draw [1, 2, 5, 26] [0, 1, 2, 3, 4, 5, 6, 7, 8, 9] [] [[], [], [0, 1], [0, 1, 2], [], [4], [], [6], [0, 1, 2, 3, 4, 5, 6, 7], [0, 1, 2, 3, 4, 5, 6, 7, 8]] mixed (by kernel_rfl) fun R hR => ?_   -- r6
      simp only [go_sem, hx]
      refine GCall_of (rin_pc Y _ x s.low s.high) ?_   -- t25
      simp only [go_sem, hx]
      try refine And.intro (by repeat' (first | refine And.intro ?_ ?_ | exact GOr_right (fun _ => by simp only [go_sem, hx]))) ?_
      refine hR _ _ (kq10 _ _ ?_); clear hR R; try clear kq10 kz10
      try simp only [go_sem, hx]
      refine W_cond rfl (fun c3 => ?_) (fun c3 => ?_)
      · -- c3 true
        try simp only [nrm] at c3
        refine W_seq fun kz11 kq11 => ?_
        refine W_region [4] fun R hR => ?_   -- r7
        simp only [go_sem, hx]
        refine hR _ _ (kq11 _ _ ?_); clear hR R; try clear kq11 kz11
        try simp only [go_sem, hx]
        refine W_ret ?_
        simp only [go_sem, hx]
        refine ⟨.inr (by trivial), ?_⟩
        first | refine Fin_same hcl rfl (Wk_eq ?_ (by simp only [go_sem])) | refine Fin_self hcl rfl (Wk_eq ?_ (by simp only [go_sem]))
        try simp only [go_sem]
        all_goals
          rw [← hres]; simp [rMarks, *]
      · -- c3 false
        try simp only [nrm] at c3
        refine W_skip (kq9 _ _ ?_)
        refine W_region [1, 2, 5] fun R hR => ?_   -- r5
        simp only [go_sem, hx]
        try simp (disch := omega) only [wrapI, wrapU]
        refine hR _ _ ?_; clear hR R
        try simp only [go_sem, hx]
        refine ⟨i + 1, ?_, by (try simp only []); omega, ?_⟩
        · first | exact Weak.refl | exact Weak.eq (by first | rfl | (simp only [go_sem]; done) | (simp only [go_sem]; rfl) | (simp [go_sem]; done) | (simp [go_sem]; omega)) (by first | rfl | (simp only [go_sem]; done) | (simp [go_sem]; done))
        · try dsimp only
          exact ⟨hi', by simp_all⟩
    · -- c2 false
      try simp only [nrm] at c2
      have hdrop : l.drop i = [] := List.drop_eq_nil_of_le (by omega)
      rw [hdrop, outMarks_nil] at hinv
      refine W_exit ?_
      simp only [go_sem]
      refine kq5 _ _ ?_
      refine W_seq fun kz12 kq12 => ?_
      refine W_region [4] fun R hR => ?_   -- r8
      simp only [go_sem]
      refine hR _ _ (kq12 _ _ ?_); clear hR R; try clear kq12 kz12
      try simp only [go_sem]
      refine W_ret ?_
      simp only [go_sem]
      refine ⟨.inr (by trivial), ?_⟩
      first | refine Fin_same hcl rfl (Wk_eq ?_ (by simp only [go_sem])) | refine Fin_self hcl rfl (Wk_eq ?_ (by simp only [go_sem]))
      try simp only [go_sem]
      all_goals
        rw [← hres]; simp [rMarks, *]
set_option maxHeartbeats 2000000 in
theorem rseal_pc (Y : YEnv) (σ : Sg) (a b : Int) (l : List Int) (o : Own) (h1 : 0 ≤ a ∧ a ≤ 5) (h2 : 0 ≤ b ∧ b ≤ 4) (h3 : l.length ≤ 8) (h4 : ∀ x, x ∈ l → 0 ≤ x ∧ x ≤ 100) :
    PC Tryz.prog Y 72 [I a, I b, intsO o l] σ (I (sealOf (a, b) l)) (σ) := by
  refine PC_of_W Tryz.func72 rfl (by kernel_rfl) Tryz.ntmps72 (by simp) fun hcl hca => ?_
  obtain ⟨res, hres⟩ : ∃ r, sealOf (a, b) l = r := ⟨_, rfl⟩
  rw [hres]
  have hz : ¬ ((997 : Int) = 0) := by omega
  refine W_seq fun kz1 kq1 => ?_
  refine W_region [0, 1, 2] fun R hR => ?_   -- r0
  simp only [go_sem, hz]
  refine hR _ _ (kq1 _ _ ?_); clear hR R; try clear kq1 kz1
  try simp only [go_sem, hz]
  refine W_seq fun kz2 kq2 => ?_
  refine W_region [2, 7] fun R hR => ?_   -- r1
  simp only [go_sem, hz]
  try simp (disch := omega) only [wrapI, wrapU]
  refine hR _ _ (kq2 _ _ ?_); clear hR R; try clear kq2 kz2
  try simp only [go_sem, hz]
  refine W_seq fun kz3 kq3 => ?_
  refine W_seq fun kz4 kq4 => ?_
  refine W_region [2, 7, 8] fun R hR => ?_   -- r2
  simp only [go_sem, hz]
  refine hR _ _ (kq4 _ _ ?_); clear hR R; try clear kq4 kz4
  try simp only [go_sem, hz]
  refine W_block ?_
  refine W_loopS (α := Nat × Int) (fun ⟨i, n⟩ => [(7, I n), (8, I i)]) (fun ⟨i, n⟩ => i ≤ l.length ∧ res = (n + sealSum i (l.drop i)).tmod 997 ∧ 0 ≤ n ∧ n ≤ 10000 + i * 800) (fun ⟨i, n⟩ => l.length - i) ((0, (a + 1) * 101 + (b + 1) * 1009)) rfl (⟨Nat.zero_le _, by rw [← hres]; simp [sealOf], by omega, by simp; omega⟩) ?_
  rintro ⟨i, n⟩ ⟨hi, hinv, hn1, hn2⟩
  have hi8 : i ≤ 8 := by omega
  refine W_seq fun kz5 kq5 => ?_
  refine W_seq fun kz6 kq6 => ?_
  refine W_region [2, 7, 8, 19] fun R hR => ?_   -- r3
  simp only [go_sem, hz]
  refine hR _ _ (kq6 _ _ ?_); clear hR R; try clear kq6 kz6
  try simp only [go_sem, hz]
  refine W_cond rfl (fun c1 => ?_) (fun c1 => ?_)
  · -- c1 true
    try simp only [nrm] at c1
    have hi' : i < l.length := by first | assumption | omega
    obtain ⟨x, hx⟩ : ∃ x, l[i]? = some x := ⟨l[i], by simp [hi']⟩
    have hdrop : l.drop i = x :: l.drop (i + 1) := by
      rw [List.drop_eq_getElem_cons hi']; congr 1; exact (List.getElem?_eq_some_iff.1 hx).2
    rw [hdrop] at hinv
    simp only [sealSum] at hinv
    have hxb := h4 x (List.mem_of_getElem? hx)
    have hp1 : 0 ≤ ((i : Int) + 1) * x := Int.mul_nonneg (by omega) hxb.1
    have hp2 : ((i : Int) + 1) * x ≤ ((i : Int) + 1) * 100 := Int.mul_le_mul_of_nonneg_left hxb.2 (by omega)
    refine W_skip (kq5 _ _ ?_)
    refine W_seq fun kz7 kq7 => ?_
    refine W_block ?_
    refine W_region [2, 7, 8] fun R hR => ?_   -- r5
    simp only [go_sem, hz, hx]
    try simp (disch := omega) only [wrapI, wrapU]
    refine hR _ _ (kq7 _ _ ?_); clear hR R; try clear kq7 kz7
    try simp only [go_sem, hz, hx]
    refine W_region [2, 7, 8] fun R hR => ?_   -- r4
    simp only [go_sem, hz, hx]
    try simp (disch := omega) only [wrapI, wrapU]
    refine hR _ _ ?_; clear hR R
    try simp only [go_sem, hz, hx]
    refine ⟨(i + 1, n + ((i : Int) + 1) * x), ?_, by (try simp only []); omega, ?_⟩
    · first | exact Weak.refl | exact Weak.eq (by first | rfl | (simp only [go_sem]; done) | (simp only [go_sem]; rfl) | (simp [go_sem]; done) | (simp [go_sem]; omega)) (by first | rfl | (simp only [go_sem]; done) | (simp [go_sem]; done))
    · try dsimp only
      refine ⟨hi', ?_, by omega, by simp; omega⟩
      rw [hinv]; congr 1; omega
  · -- c1 false
    try simp only [nrm] at c1
    have hdrop : l.drop i = [] := List.drop_eq_nil_of_le (by omega)
    rw [hdrop] at hinv
    simp only [sealSum] at hinv
    refine W_exit ?_
    simp only [go_sem, hz]
    refine kq3 _ _ ?_
    refine W_seq fun kz8 kq8 => ?_
    refine W_region [6] fun R hR => ?_   -- r6
    simp only [go_sem, hz]
    try simp (disch := omega) only [wrapI, wrapU]
    refine hR _ _ (kq8 _ _ ?_); clear hR R; try clear kq8 kz8
    try simp only [go_sem, hz]
    refine W_ret ?_
    simp only [go_sem, hz]
    refine ⟨.inr (by trivial), ?_⟩
    first | refine Fin_same hcl rfl (Wk_eq ?_ (by simp only [go_sem])) | refine Fin_self hcl rfl (Wk_eq ?_ (by simp only [go_sem]))
    try simp only [go_sem]
    all_goals
      rw [hinv, Int.add_zero]
set_option maxHeartbeats 2000000 in
theorem rSeal_pc (Y : YEnv) (σ : Sg) (s : Scale) (a b : Int) (l : List Int) (o : Own) (hl : l.length < 2 ^ 40) (hs : s.Ok) :
    PC Tryz.prog Y 40 [scPV s, I a, I b, intsO o l] σ (.tuple [I (sealAns s (a, b) l).1, I (sealAns s (a, b) l).2]) (σ) := by
  refine PC_of_W Tryz.func40 rfl (by kernel_rfl) Tryz.ntmps40 (by simp) fun hcl hca => ?_
  refine W_seq fun kz1 kq1 => ?_
  refine W_region [1, 2, 3, 4] fun R hR => ?_   -- r0
  simp only [go_sem]
  refine hR _ _ (kq1 _ _ ?_); clear hR R; try clear kq1 kz1
  try simp only [go_sem]
  refine W_seq fun kz2 kq2 => ?_
  refine W_seq fun kz3 kq3 => ?_
  refine W_region [1, 2, 3, 4, 10] fun R hR => ?_   -- r1
  simp only [go_sem]
  refine GCall_of (rCheck_pc Y _ s hs) ?_   -- t14
  simp only [go_sem]
  refine hR _ _ (kq3 _ _ ?_); clear hR R; try clear kq3 kz3
  try simp only [go_sem]
  refine W_seq fun kz4 kq4 => ?_
  refine W_region [1, 2, 3, 4, 10, 16] fun R hR => ?_   -- r2
  simp only [go_sem]
  refine hR _ _ (kq4 _ _ ?_); clear hR R; try clear kq4 kz4
  try simp only [go_sem]
  refine W_cond rfl (fun c1 => ?_) (fun c1 => ?_)
  · -- c1 true
    try simp only [nrm] at c1
    refine W_seq fun kz5 kq5 => ?_
    refine W_region [8, 9] fun R hR => ?_   -- r3
    simp only [go_sem]
    refine hR _ _ (kq5 _ _ ?_); clear hR R; try clear kq5 kz5
    try simp only [go_sem]
    refine W_ret ?_
    simp only [go_sem]
    refine ⟨.inr (by trivial), ?_⟩
    first | refine Fin_same hcl rfl (Wk_eq ?_ (by simp only [go_sem])) | refine Fin_self hcl rfl (Wk_eq ?_ (by simp only [go_sem]))
    try simp only [go_sem]
    all_goals
      simp [sealAns, marked_r, *]
  · -- c1 false
    try simp only [nrm] at c1
    refine W_skip (kq2 _ _ ?_)
    refine W_seq fun kz6 kq6 => ?_
    refine W_seq fun kz7 kq7 => ?_
    refine W_region [1, 2, 3, 4, 11] fun R hR => ?_   -- r4
    simp only [go_sem]
    have hv := Scale.v c1
    refine GCall_of (rJudge_pc Y _ s a b hv) ?_   -- t21
    simp only [go_sem]
    refine hR _ _ (kq7 _ _ ?_); clear hR R; try clear kq7 kz7
    try simp only [go_sem]
    refine W_seq fun kz8 kq8 => ?_
    refine W_region [1, 2, 3, 4, 11, 23] fun R hR => ?_   -- r5
    simp only [go_sem]
    refine hR _ _ (kq8 _ _ ?_); clear hR R; try clear kq8 kz8
    try simp only [go_sem]
    refine W_cond rfl (fun c2 => ?_) (fun c2 => ?_)
    · -- c2 true
      try simp only [nrm] at c2
      refine W_seq fun kz9 kq9 => ?_
      refine W_region [8, 9] fun R hR => ?_   -- r6
      simp only [go_sem]
      refine hR _ _ (kq9 _ _ ?_); clear hR R; try clear kq9 kz9
      try simp only [go_sem]
      refine W_ret ?_
      simp only [go_sem]
      refine ⟨.inr (by trivial), ?_⟩
      first | refine Fin_same hcl rfl (Wk_eq ?_ (by simp only [go_sem])) | refine Fin_self hcl rfl (Wk_eq ?_ (by simp only [go_sem]))
      try simp only [go_sem]
      all_goals
        simp [sealAns, marked_r, *]
    · -- c2 false
      try simp only [nrm] at c2
      refine W_skip (kq6 _ _ ?_)
      refine W_seq fun kz10 kq10 => ?_
      refine W_seq fun kz11 kq11 => ?_
      refine W_region [1, 2, 3, 12] fun R hR => ?_   -- r7
      simp only [go_sem]
      refine GCall_of (rMarks_pc Y _ s l o hl) ?_   -- t27
      simp only [go_sem]
      refine hR _ _ (kq11 _ _ ?_); clear hR R; try clear kq11 kz11
      try simp only [go_sem]
      refine W_seq fun kz12 kq12 => ?_
      refine W_region [1, 2, 3, 12, 29] fun R hR => ?_   -- r8
      simp only [go_sem]
      refine hR _ _ (kq12 _ _ ?_); clear hR R; try clear kq12 kz12
      try simp only [go_sem]
      refine W_cond rfl (fun c3 => ?_) (fun c3 => ?_)
      · -- c3 true
        try simp only [nrm] at c3
        refine W_seq fun kz13 kq13 => ?_
        refine W_region [8, 9] fun R hR => ?_   -- r9
        simp only [go_sem]
        refine hR _ _ (kq13 _ _ ?_); clear hR R; try clear kq13 kz13
        try simp only [go_sem]
        refine W_ret ?_
        simp only [go_sem]
        refine ⟨.inr (by trivial), ?_⟩
        first | refine Fin_same hcl rfl (Wk_eq ?_ (by simp only [go_sem])) | refine Fin_self hcl rfl (Wk_eq ?_ (by simp only [go_sem]))
        try simp only [go_sem]
        all_goals
          simp [sealAns, marked_r, *]
      · -- c3 false
        try simp only [nrm] at c3
        refine W_skip (kq10 _ _ ?_)
        refine W_seq fun kz14 kq14 => ?_
        refine W_region [8, 9] fun R hR => ?_   -- r10
        simp only [go_sem]
        have hmk : marked s (a, b) l = 0 := by rw [marked_r]; simp [*]
        obtain ⟨k1, k2, k3⟩ := marked_ok hmk
        simp only [ofSc_true] at k1
        have q1 := hv.mt
        have q2 := hv.jd
        have q3 := hv.sc
        have q4 := hv.lo
        have q5 := hv.hi
        refine GCall_of (rseal_pc Y _ a b l o (by omega) (by omega) (by omega) (fun x hx => by have := k3 x hx; omega)) ?_   -- t34
        simp only [go_sem]
        refine hR _ _ (kq14 _ _ ?_); clear hR R; try clear kq14 kz14
        try simp only [go_sem]
        refine W_ret ?_
        simp only [go_sem]
        refine ⟨.inr (by trivial), ?_⟩
        first | refine Fin_same hcl rfl (Wk_eq ?_ (by simp only [go_sem])) | refine Fin_self hcl rfl (Wk_eq ?_ (by simp only [go_sem]))
        try simp only [go_sem]
        all_goals
          simp [sealAns, marked_r, *]
end Go.Proofs.YtgelnjmddabgpaaGreat
namespace Go.Proofs.YtgelnjmddabgpaaGreat
open Go Go.RowKit
set_option maxRecDepth 100000
theorem cells_map {a : Nat} : (PV.map a).cells = [PV.map a] := rfl
theorem cells_nilmap : PV.nilmap.cells = [PV.nilmap] := rfl
theorem cells_yield {a : Nat} : (PV.yield a).cells = [PV.yield a] := rfl
theorem cells_msl {a b c : Nat} : (PV.msl a b c).cells = [PV.msl a b c] := rfl
attribute [go_sem] cells_map cells_nilmap cells_yield cells_msl
theorem lkX_osv {P : Program} {kt : TypeId} {z : PV} {σ : Sg} {l : List (Option (List PV))} {rm : List Nat} {ys : List LState} {d : Nat} {cs : List PV} {k : PV} {ok : Bool} (h : d < σ.store.length) : lkX P kt z ((σ.setVar d cs).ext l rm ys) d k ok = lkM P kt z (some (some cs)) k ok := by
  simp only [lkX, get_svx h]
theorem upX_osv {P : Program} {kt : TypeId} {σ : Sg} {l : List (Option (List PV))} {rm : List Nat} {ys : List LState} {d : Nat} {cs : List PV} {k v : PV} (h : d < σ.store.length) : upX P kt ((σ.setVar d cs).ext l rm ys) d k v = (upM P kt (some (some cs)) k v).map fun cs' => (σ.setVar d cs').ext l rm ys := by
  simp only [upX, get_svx h]
  cases upM P kt (some (some cs)) k v with
  | none => rfl
  | some x => simp only [Option.map_some, sv_ext_sv h]
theorem upKm {k : Kn} {a b : Int} {v : List Int} (h : v ≠ []) : upM Tryz.prog 116 (some (some (.mark :: knE k))) (.agg [.int .i64 a, .int .i64 b]) (.isl (v.map I) .ro) = some (.mark :: knE (aput (a, b) v k)) := by
  cases v with
  | nil => exact absurd rfl h
  | cons x v => exact upKs
/-- No envelope without marks. -/
def KnPos (k : Kn) : Prop := ∀ e, e ∈ k → e.2 ≠ []
theorem KnPos.get {k : Kn} (h : KnPos k) {j : Int × Int} {l : List Int} (e : aget j k = some l) : l ≠ [] := h _ (aget_mem e)
theorem aput_mem {κ ν : Type} [DecidableEq κ] {j : κ} {v : ν} : ∀ {k : List (κ × ν)} {e : κ × ν}, e ∈ aput j v k → e = (j, v) ∨ e ∈ k := by
  intro k
  induction k with
  | nil => intro e h; simp [aput] at h; exact .inl h
  | cons x k ih =>
    intro e h
    simp only [aput] at h
    split at h
    · rcases List.mem_cons.1 h with h | h
      · exact .inl h
      · exact .inr (List.mem_cons_of_mem _ h)
    · rcases List.mem_cons.1 h with h | h
      · exact .inr (h ▸ List.mem_cons_self ..)
      · rcases ih h with h | h
        · exact .inl h
        · exact .inr (List.mem_cons_of_mem _ h)
theorem KnPos.put {k : Kn} (h : KnPos k) {j : Int × Int} {l : List Int} (hl : l ≠ []) : KnPos (aput j l k) := fun e he => by
  rcases aput_mem he with rfl | he
  · exact hl
  · exact h e he
structure Night.Ok (n : Night) : Prop where
  ho : n.opened.length < 2 ^ 40
  ha : n.absent.length < 2 ^ 40
  hf : n.fines.length < 2 ^ 40
  hm : ∀ x, x ∈ n.opened → x.marks.length < 2 ^ 40
set_option maxHeartbeats 2000000 in
theorem open_pc (Y : YEnv) (σ : Sg) (id : Nat) (k : Kn) (hd : σ.store[id]? = some (some (.mark :: knE k))) (s : Scale) (l : List Envl) (hv : s.V) (hk : KnPos k) (hk2 : ∀ e, e ∈ k → e.2.length < 2 ^ 40) (hl : l.length < 2 ^ 40) (hm : ∀ x, x ∈ l → x.marks.length < 2 ^ 40) :
    PC Tryz.prog Y 75 [.map id, scPV s, evs l] σ (I (openK s l k).1) (σ.setVar id (.mark :: knE (openK s l k).2)) := by
  refine PC_of_W Tryz.func75 rfl (by kernel_rfl) Tryz.ntmps75 (by simp) fun hcl hca => ?_
  have hlt := lt_of_get hd
  have q1 := hv.mt
  have q2 := hv.jd
  have q3 := hv.sc
  have q4 := hv.lo
  have q5 := hv.hi
  obtain ⟨res, hres⟩ : ∃ r, openK s l k = r := ⟨_, rfl⟩
  rw [hres]
  refine W_seq fun kz1 kq1 => ?_
  refine W_region [0, 2, 4] fun R hR => ?_   -- r0
  simp only [go_sem, ldS_at hd, stX_at hd, ldS_sv hlt, stX_sv hlt, sv_ext hlt, sv_ext_sv hlt, lkX_osv hlt, upX_osv hlt]
  refine hR _ _ (kq1 _ _ ?_); clear hR R; try clear kq1 kz1
  try simp only [go_sem, ldS_at hd, stX_at hd, ldS_sv hlt, stX_sv hlt, sv_ext hlt, sv_ext_sv hlt, lkX_osv hlt, upX_osv hlt]
  refine W_seq fun kz2 kq2 => ?_
  refine W_seq fun kz3 kq3 => ?_
  refine W_region [0, 4, 13, 14, 15] fun R hR => ?_   -- r1
  simp only [go_sem, ldS_at hd, stX_at hd, ldS_sv hlt, stX_sv hlt, sv_ext hlt, sv_ext_sv hlt, lkX_osv hlt, upX_osv hlt]
  refine hR _ _ (kq3 _ _ ?_); clear hR R; try clear kq3 kz3
  try simp only [go_sem, ldS_at hd, stX_at hd, ldS_sv hlt, stX_sv hlt, sv_ext hlt, sv_ext_sv hlt, lkX_osv hlt, upX_osv hlt]
  refine W_block ?_
  refine W_loopT (α := Nat × Kn) (fun ⟨i, kk⟩ => [(15, I i)]) (fun ⟨i, kk⟩ => (σ.setVar id (.mark :: knE kk)).ext [some (scCells s)] []) (fun ⟨i, kk⟩ => i ≤ l.length ∧ KnPos kk ∧ (∀ e, e ∈ kk → e.2.length < 2 ^ 40) ∧ res = openK s (l.drop i) kk) (fun ⟨i, kk⟩ => l.length - i) ((0, k)) rfl (by simp only [go_sem, sv_self hd]) (⟨Nat.zero_le _, hk, hk2, hres.symm⟩) ?_
  rintro ⟨i, kk⟩ ⟨hi, hkk, hkl, hinv⟩
  refine W_seq fun kz4 kq4 => ?_
  refine W_region [0, 4, 13, 14, 15, 16] fun R hR => ?_   -- r2
  simp only [go_sem, ldS_at hd, stX_at hd, ldS_sv hlt, stX_sv hlt, sv_ext hlt, sv_ext_sv hlt, lkX_osv hlt, upX_osv hlt]
  refine hR _ _ (kq4 _ _ ?_); clear hR R; try clear kq4 kz4
  try simp only [go_sem, ldS_at hd, stX_at hd, ldS_sv hlt, stX_sv hlt, sv_ext hlt, sv_ext_sv hlt, lkX_osv hlt, upX_osv hlt]
  refine W_seq fun kz5 kq5 => ?_
  refine W_cond rfl (fun c1 => ?_) (fun c1 => ?_)
  · -- c1 true
    try simp only [nrm] at c1
    have hi' : i < l.length := by first | assumption | omega
    obtain ⟨x, hx⟩ : ∃ x, l[i]? = some x := ⟨l[i], by simp [hi']⟩
    have hdrop : l.drop i = x :: l.drop (i + 1) := by
      rw [List.drop_eq_getElem_cons hi']; congr 1; exact (List.getElem?_eq_some_iff.1 hx).2
    have hxl : x ∈ l := List.mem_of_getElem? hx
    rw [hdrop] at hinv
    simp only [openK] at hinv
    refine W_skip (kq5 _ _ ?_)
    refine W_seq fun kz6 kq6 => ?_
    refine W_block ?_
    refine W_seq fun kz7 kq7 => ?_
    refine W_region [0, 4, 8, 13, 14, 15] fun R hR => ?_   -- r3
    simp only [go_sem, ldS_at hd, stX_at hd, ldS_sv hlt, stX_sv hlt, sv_ext hlt, sv_ext_sv hlt, lkX_osv hlt, upX_osv hlt, hx]
    refine hR _ _ (kq7 _ _ ?_); clear hR R; try clear kq7 kz7
    try simp only [go_sem, ldS_at hd, stX_at hd, ldS_sv hlt, stX_sv hlt, sv_ext hlt, sv_ext_sv hlt, lkX_osv hlt, upX_osv hlt, hx]
    refine W_seq fun kz8 kq8 => ?_
    refine W_region [0, 4, 8, 9, 13, 14, 15] fun R hR => ?_   -- r4
    simp only [go_sem, ldS_at hd, stX_at hd, ldS_sv hlt, stX_sv hlt, sv_ext hlt, sv_ext_sv hlt, lkX_osv hlt, upX_osv hlt, hx]
    refine hR _ _ (kq8 _ _ ?_); clear hR R; try clear kq8 kz8
    try simp only [go_sem, ldS_at hd, stX_at hd, ldS_sv hlt, stX_sv hlt, sv_ext hlt, sv_ext_sv hlt, lkX_osv hlt, upX_osv hlt, hx]
    refine W_seq fun kz9 kq9 => ?_
    refine W_seq fun kz10 kq10 => ?_
    refine W_region [0, 4, 8, 9, 10, 13, 14, 15] fun R hR => ?_   -- r5
    simp only [go_sem, ldS_at hd, stX_at hd, ldS_sv hlt, stX_sv hlt, sv_ext hlt, sv_ext_sv hlt, lkX_osv hlt, upX_osv hlt, hx]
    refine GCall_of (marked_pc Y _ s (x.matter, x.judge) x.marks .ro (hm x hxl) hv) ?_   -- t28
    simp only [go_sem, ldS_at hd, stX_at hd, ldS_sv hlt, stX_sv hlt, sv_ext hlt, sv_ext_sv hlt, lkX_osv hlt, upX_osv hlt, hx]
    refine hR _ _ (kq10 _ _ ?_); clear hR R; try clear kq10 kz10
    try simp only [go_sem, ldS_at hd, stX_at hd, ldS_sv hlt, stX_sv hlt, sv_ext hlt, sv_ext_sv hlt, lkX_osv hlt, upX_osv hlt, hx]
    refine W_seq fun kz11 kq11 => ?_
    refine W_region [0, 4, 8, 9, 10, 13, 14, 15, 30] fun R hR => ?_   -- r6
    simp only [go_sem, ldS_at hd, stX_at hd, ldS_sv hlt, stX_sv hlt, sv_ext hlt, sv_ext_sv hlt, lkX_osv hlt, upX_osv hlt, hx]
    refine hR _ _ (kq11 _ _ ?_); clear hR R; try clear kq11 kz11
    try simp only [go_sem, ldS_at hd, stX_at hd, ldS_sv hlt, stX_sv hlt, sv_ext hlt, sv_ext_sv hlt, lkX_osv hlt, upX_osv hlt, hx]
    refine W_cond rfl (fun c2 => ?_) (fun c2 => ?_)
    · -- c2 true
      try simp only [nrm] at c2
      refine W_seq fun kz12 kq12 => ?_
      refine W_region [6] fun R hR => ?_   -- r7
      simp only [go_sem, ldS_at hd, stX_at hd, ldS_sv hlt, stX_sv hlt, sv_ext hlt, sv_ext_sv hlt, lkX_osv hlt, upX_osv hlt, hx]
      refine hR _ _ (kq12 _ _ ?_); clear hR R; try clear kq12 kz12
      try simp only [go_sem, ldS_at hd, stX_at hd, ldS_sv hlt, stX_sv hlt, sv_ext hlt, sv_ext_sv hlt, lkX_osv hlt, upX_osv hlt, hx]
      refine W_ret ?_
      simp only [go_sem, ldS_at hd, stX_at hd, ldS_sv hlt, stX_sv hlt, sv_ext hlt, sv_ext_sv hlt, lkX_osv hlt, upX_osv hlt, hx]
      refine ⟨.inr (by trivial), ?_⟩
      have hr2 : res.2 = kk := by rw [hinv] <;> first | rfl | (simp [*]; done) | (simp_all; done)
      rw [hr2]
      first | refine Fin_set hcl (by simp only [go_sem]) rfl (Wk_eq ?_ (by simp only [go_sem])) | refine Fin_set0 hcl (by simp only [go_sem]) rfl (Wk_eq ?_ (by simp only [go_sem]))
      try simp only [go_sem]
      all_goals
        first | rfl | (simp_all; done) | (simp_all; omega)
    · -- c2 false
      try simp only [nrm] at c2
      obtain ⟨k1, k2, k3⟩ := marked_ok c2
      simp only [ofSc_true] at k1
      have hne : x.marks ≠ [] := fun e => by rw [e] at k2; simp at k2; omega
      refine W_skip (kq9 _ _ ?_)
      refine W_seq fun kz13 kq13 => ?_
      refine W_seq fun kz14 kq14 => ?_
      refine W_draw [0, 4, 8, 9, 13, 14, 15, 38] [0, 1, 2, 3, 4, 5, 6] [(0, 7), (1, 7)] [[], [0], [], [], [3], [2, 3, 4], [0, 1, 2, 3, 4, 5]] mixed (by kernel_rfl) fun R hR => ?_   -- r8
      simp only [go_sem, ldS_at hd, stX_at hd, ldS_sv hlt, stX_sv hlt, sv_ext hlt, sv_ext_sv hlt, lkX_osv hlt, upX_osv hlt, hx]
      refine GCall_of (seal_pc Y _ (x.matter, x.judge) x.marks .ro (by omega) (by omega) (by omega) (fun z hz => by have := k3 z hz; omega)) ?_   -- t37
      simp only [go_sem, ldS_at hd, stX_at hd, ldS_sv hlt, stX_sv hlt, sv_ext hlt, sv_ext_sv hlt, lkX_osv hlt, upX_osv hlt, hx]
      try refine And.intro (by repeat' (first | refine And.intro ?_ ?_ | exact GOr_right (fun _ => by simp only [go_sem, ldS_at hd, stX_at hd, ldS_sv hlt, stX_sv hlt, sv_ext hlt, sv_ext_sv hlt, lkX_osv hlt, upX_osv hlt, hx]))) ?_
      refine hR _ _ (kq14 _ _ ?_); clear hR R; try clear kq14 kz14
      try simp only [go_sem, ldS_at hd, stX_at hd, ldS_sv hlt, stX_sv hlt, sv_ext hlt, sv_ext_sv hlt, lkX_osv hlt, upX_osv hlt, hx]
      refine W_cond rfl (fun c3 => ?_) (fun c3 => ?_)
      · -- c3 true
        try simp only [nrm] at c3
        refine W_seq fun kz15 kq15 => ?_
        refine W_region [6] fun R hR => ?_   -- r9
        simp only [go_sem, ldS_at hd, stX_at hd, ldS_sv hlt, stX_sv hlt, sv_ext hlt, sv_ext_sv hlt, lkX_osv hlt, upX_osv hlt, hx]
        refine hR _ _ (kq15 _ _ ?_); clear hR R; try clear kq15 kz15
        try simp only [go_sem, ldS_at hd, stX_at hd, ldS_sv hlt, stX_sv hlt, sv_ext hlt, sv_ext_sv hlt, lkX_osv hlt, upX_osv hlt, hx]
        refine W_ret ?_
        simp only [go_sem, ldS_at hd, stX_at hd, ldS_sv hlt, stX_sv hlt, sv_ext hlt, sv_ext_sv hlt, lkX_osv hlt, upX_osv hlt, hx]
        refine ⟨.inr (by trivial), ?_⟩
        have hr2 : res.2 = kk := by rw [hinv] <;> first | rfl | (simp [*]; done) | (simp_all; done)
        rw [hr2]
        first | refine Fin_set hcl (by simp only [go_sem]) rfl (Wk_eq ?_ (by simp only [go_sem])) | refine Fin_set0 hcl (by simp only [go_sem]) rfl (Wk_eq ?_ (by simp only [go_sem]))
        try simp only [go_sem]
        all_goals
          first | rfl | (simp_all; done) | (simp_all; omega)
      · -- c3 false
        try simp only [nrm] at c3
        refine W_skip (kq13 _ _ ?_)
        refine W_seq fun kz16 kq16 => ?_
        refine W_seq fun kz17 kq17 => ?_
        refine W_region [0, 4, 8, 9, 11, 12, 13, 14, 15] fun R hR => ?_   -- r10
        simp only [go_sem, ldS_at hd, stX_at hd, ldS_sv hlt, stX_sv hlt, sv_ext hlt, sv_ext_sv hlt, lkX_osv hlt, upX_osv hlt, hx]
        refine hR _ _ (kq17 _ _ ?_); clear hR R; try clear kq17 kz17
        try simp only [go_sem, ldS_at hd, stX_at hd, ldS_sv hlt, stX_sv hlt, sv_ext hlt, sv_ext_sv hlt, lkX_osv hlt, upX_osv hlt, hx]
        refine W_seq fun kz18 kq18 => ?_
        refine W_region [0, 4, 8, 9, 13, 14, 15, 52] fun R hR => ?_   -- r11
        simp only [go_sem, ldS_at hd, stX_at hd, ldS_sv hlt, stX_sv hlt, sv_ext hlt, sv_ext_sv hlt, lkX_osv hlt, upX_osv hlt, hx]
        refine GWant_split (fun g1 => ?_) (fun g1 => ?_)
        · try simp only [Bool.not_eq_true', Bool.not_eq_false'] at g1
          have n1 := g1; try simp only [nrm] at n1
          simp only [go_sem, ldS_at hd, stX_at hd, ldS_sv hlt, stX_sv hlt, sv_ext hlt, sv_ext_sv hlt, lkX_osv hlt, upX_osv hlt, hx, g1]
          obtain ⟨old, hold⟩ : ∃ z, aget (x.matter, x.judge) kk = some z := Option.isSome_iff_exists.1 (by assumption)
          simp only [hold, Option.getD_some, mkPV_ne (KnPos.get hkk hold)]
          have holdl : old.length < 2 ^ 50 := by have := hkl _ (aget_mem hold); simp only at this; omega
          refine GCall_of (Equal_pc Y _ old x.marks _ _ holdl) ?_   -- t50
          simp only [go_sem, ldS_at hd, stX_at hd, ldS_sv hlt, stX_sv hlt, sv_ext hlt, sv_ext_sv hlt, lkX_osv hlt, upX_osv hlt, hx, g1]
          refine hR _ _ (kq18 _ _ ?_); clear hR R; try clear kq18 kz18
          try simp only [go_sem, ldS_at hd, stX_at hd, ldS_sv hlt, stX_sv hlt, sv_ext hlt, sv_ext_sv hlt, lkX_osv hlt, upX_osv hlt, hx]
          refine W_cond rfl (fun c4 => ?_) (fun c4 => ?_)
          · -- c4 true
            try simp only [nrm] at c4
            refine W_seq fun kz19 kq19 => ?_
            refine W_region [6] fun R hR => ?_   -- r12
            simp only [go_sem, ldS_at hd, stX_at hd, ldS_sv hlt, stX_sv hlt, sv_ext hlt, sv_ext_sv hlt, lkX_osv hlt, upX_osv hlt, hx]
            refine hR _ _ (kq19 _ _ ?_); clear hR R; try clear kq19 kz19
            try simp only [go_sem, ldS_at hd, stX_at hd, ldS_sv hlt, stX_sv hlt, sv_ext hlt, sv_ext_sv hlt, lkX_osv hlt, upX_osv hlt, hx]
            refine W_ret ?_
            simp only [go_sem, ldS_at hd, stX_at hd, ldS_sv hlt, stX_sv hlt, sv_ext hlt, sv_ext_sv hlt, lkX_osv hlt, upX_osv hlt, hx]
            refine ⟨.inr (by trivial), ?_⟩
            have hr2 : res.2 = kk := by rw [hinv] <;> first | rfl | (simp [*]; done) | (simp_all; done)
            rw [hr2]
            first | refine Fin_set hcl (by simp only [go_sem]) rfl (Wk_eq ?_ (by simp only [go_sem])) | refine Fin_set0 hcl (by simp only [go_sem]) rfl (Wk_eq ?_ (by simp only [go_sem]))
            try simp only [go_sem]
            all_goals
              first | rfl | (simp_all; done) | (simp_all; omega)
          · -- c4 false
            try simp only [nrm] at c4
            refine W_skip (kq16 _ _ ?_)
            refine W_region [0, 4, 13, 14, 15] fun R hR => ?_   -- r13
            simp only [go_sem, ldS_at hd, stX_at hd, ldS_sv hlt, stX_sv hlt, sv_ext hlt, sv_ext_sv hlt, lkX_osv hlt, upX_osv hlt, hx, upKm hne]
            refine hR _ _ (kq6 _ _ ?_); clear hR R; try clear kq6 kz6
            try simp only [go_sem, ldS_at hd, stX_at hd, ldS_sv hlt, stX_sv hlt, sv_ext hlt, sv_ext_sv hlt, lkX_osv hlt, upX_osv hlt, hx]
            refine W_region [0, 4, 13, 14, 15] fun R hR => ?_   -- r14
            simp only [go_sem, ldS_at hd, stX_at hd, ldS_sv hlt, stX_sv hlt, sv_ext hlt, sv_ext_sv hlt, lkX_osv hlt, upX_osv hlt, hx]
            try simp (disch := omega) only [wrapI, wrapU]
            refine hR _ _ ?_; clear hR R
            try simp only [go_sem, ldS_at hd, stX_at hd, ldS_sv hlt, stX_sv hlt, sv_ext hlt, sv_ext_sv hlt, lkX_osv hlt, upX_osv hlt, hx]
            refine ⟨(i + 1, aput (x.matter, x.judge) x.marks kk), ?_, by (try simp only []); omega, ?_⟩
            · refine Weak.trans (Weak.cutSV 1 0 (by omega) (by omega) hcl (by simp only [go_sem]) (by simp only [go_sem] <;> omega) (by simp only [go_sem] <;> omega)) ?_
              simp only [go_sem]
              exact Weak.eq (by first | rfl | (simp only [go_sem]; done) | (simp only [go_sem]; rfl) | (simp [go_sem]; done) | (simp [go_sem]; omega)) (by first | rfl | (simp only [go_sem]; done) | (simp [go_sem]; done))
            · try dsimp only
              refine ⟨hi', hkk.put hne, ?_, ?_⟩
              · intro e he
                rcases aput_mem he with rfl | he
                · exact hm x hxl
                · exact hkl e he
              · simp_all
        · try simp only [Bool.not_eq_true', Bool.not_eq_false'] at g1
          have n1 := g1; try simp only [nrm] at n1
          simp only [go_sem, ldS_at hd, stX_at hd, ldS_sv hlt, stX_sv hlt, sv_ext hlt, sv_ext_sv hlt, lkX_osv hlt, upX_osv hlt, hx, g1]
          refine hR _ _ (kq18 _ _ ?_); clear hR R; try clear kq18 kz18
          try simp only [go_sem, ldS_at hd, stX_at hd, ldS_sv hlt, stX_sv hlt, sv_ext hlt, sv_ext_sv hlt, lkX_osv hlt, upX_osv hlt, hx]
          refine W_cond_false rfl ?_
          refine W_skip (kq16 _ _ ?_)
          refine W_region [0, 4, 13, 14, 15] fun R hR => ?_   -- r13
          simp only [go_sem, ldS_at hd, stX_at hd, ldS_sv hlt, stX_sv hlt, sv_ext hlt, sv_ext_sv hlt, lkX_osv hlt, upX_osv hlt, hx, upKm hne]
          refine hR _ _ (kq6 _ _ ?_); clear hR R; try clear kq6 kz6
          try simp only [go_sem, ldS_at hd, stX_at hd, ldS_sv hlt, stX_sv hlt, sv_ext hlt, sv_ext_sv hlt, lkX_osv hlt, upX_osv hlt, hx]
          refine W_region [0, 4, 13, 14, 15] fun R hR => ?_   -- r14
          simp only [go_sem, ldS_at hd, stX_at hd, ldS_sv hlt, stX_sv hlt, sv_ext hlt, sv_ext_sv hlt, lkX_osv hlt, upX_osv hlt, hx]
          try simp (disch := omega) only [wrapI, wrapU]
          refine hR _ _ ?_; clear hR R
          try simp only [go_sem, ldS_at hd, stX_at hd, ldS_sv hlt, stX_sv hlt, sv_ext hlt, sv_ext_sv hlt, lkX_osv hlt, upX_osv hlt, hx]
          refine ⟨(i + 1, aput (x.matter, x.judge) x.marks kk), ?_, by (try simp only []); omega, ?_⟩
          · refine Weak.trans (Weak.cutSV 1 0 (by omega) (by omega) hcl (by simp only [go_sem]) (by simp only [go_sem] <;> omega) (by simp only [go_sem] <;> omega)) ?_
            simp only [go_sem]
            exact Weak.eq (by first | rfl | (simp only [go_sem]; done) | (simp only [go_sem]; rfl) | (simp [go_sem]; done) | (simp [go_sem]; omega)) (by first | rfl | (simp only [go_sem]; done) | (simp [go_sem]; done))
          · try dsimp only
            refine ⟨hi', hkk.put hne, ?_, ?_⟩
            · intro e he
              rcases aput_mem he with rfl | he
              · exact hm x hxl
              · exact hkl e he
            · simp_all
  · -- c1 false
    try simp only [nrm] at c1
    have hdrop : l.drop i = [] := List.drop_eq_nil_of_le (by omega)
    rw [hdrop] at hinv
    simp only [openK] at hinv
    refine W_exit ?_
    simp only [go_sem, ldS_at hd, stX_at hd, ldS_sv hlt, stX_sv hlt, sv_ext hlt, sv_ext_sv hlt, lkX_osv hlt, upX_osv hlt]
    refine kq2 _ _ ?_
    refine W_seq fun kz20 kq20 => ?_
    refine W_region [6] fun R hR => ?_   -- r15
    simp only [go_sem, ldS_at hd, stX_at hd, ldS_sv hlt, stX_sv hlt, sv_ext hlt, sv_ext_sv hlt, lkX_osv hlt, upX_osv hlt]
    refine hR _ _ (kq20 _ _ ?_); clear hR R; try clear kq20 kz20
    try simp only [go_sem, ldS_at hd, stX_at hd, ldS_sv hlt, stX_sv hlt, sv_ext hlt, sv_ext_sv hlt, lkX_osv hlt, upX_osv hlt]
    refine W_ret ?_
    simp only [go_sem, ldS_at hd, stX_at hd, ldS_sv hlt, stX_sv hlt, sv_ext hlt, sv_ext_sv hlt, lkX_osv hlt, upX_osv hlt]
    refine ⟨.inr (by trivial), ?_⟩
    have hr2 : res.2 = kk := by rw [hinv] <;> first | rfl | (simp [*]; done) | (simp_all; done)
    rw [hr2]
    first | refine Fin_set hcl (by simp only [go_sem]) rfl (Wk_eq ?_ (by simp only [go_sem])) | refine Fin_set0 hcl (by simp only [go_sem]) rfl (Wk_eq ?_ (by simp only [go_sem]))
    try simp only [go_sem]
    all_goals
      first | rfl | (simp_all; done) | (simp_all; omega)
set_option maxHeartbeats 2000000 in
theorem miss_pc (Y : YEnv) (σ : Sg) (id : Nat) (k : Kn) (hd : σ.store[id]? = some (some (.mark :: knE k))) (s : Scale) (l : List (Int × Int)) (hv : s.V) (hl : l.length < 2 ^ 40) :
    PC Tryz.prog Y 76 [.map id, scPV s, sts l] σ (I (missK s l k).1) (σ.setVar id (.mark :: knE (missK s l k).2)) := by
  refine PC_of_W Tryz.func76 rfl (by kernel_rfl) Tryz.ntmps76 (by simp) fun hcl hca => ?_
  have hlt := lt_of_get hd
  obtain ⟨res, hres⟩ : ∃ r, missK s l k = r := ⟨_, rfl⟩
  rw [hres]
  refine W_seq fun kz1 kq1 => ?_
  refine W_region [0, 2, 4] fun R hR => ?_   -- r0
  simp only [go_sem, ldS_at hd, stX_at hd, ldS_sv hlt, stX_sv hlt, sv_ext hlt, sv_ext_sv hlt, lkX_osv hlt, upX_osv hlt]
  refine hR _ _ (kq1 _ _ ?_); clear hR R; try clear kq1 kz1
  try simp only [go_sem, ldS_at hd, stX_at hd, ldS_sv hlt, stX_sv hlt, sv_ext hlt, sv_ext_sv hlt, lkX_osv hlt, upX_osv hlt]
  refine W_seq fun kz2 kq2 => ?_
  refine W_seq fun kz3 kq3 => ?_
  refine W_region [0, 4, 10, 11, 12] fun R hR => ?_   -- r1
  simp only [go_sem, ldS_at hd, stX_at hd, ldS_sv hlt, stX_sv hlt, sv_ext hlt, sv_ext_sv hlt, lkX_osv hlt, upX_osv hlt]
  refine hR _ _ (kq3 _ _ ?_); clear hR R; try clear kq3 kz3
  try simp only [go_sem, ldS_at hd, stX_at hd, ldS_sv hlt, stX_sv hlt, sv_ext hlt, sv_ext_sv hlt, lkX_osv hlt, upX_osv hlt]
  refine W_block ?_
  refine W_loopT (α := Nat × Kn) (fun ⟨i, kk⟩ => [(12, I i)]) (fun ⟨i, kk⟩ => (σ.setVar id (.mark :: knE kk)).ext [some (scCells s)] []) (fun ⟨i, kk⟩ => i ≤ l.length ∧ res = missK s (l.drop i) kk) (fun ⟨i, kk⟩ => l.length - i) ((0, k)) rfl (by simp only [go_sem, sv_self hd]) (⟨Nat.zero_le _, hres.symm⟩) ?_
  rintro ⟨i, kk⟩ ⟨hi, hinv⟩
  refine W_seq fun kz4 kq4 => ?_
  refine W_region [0, 4, 10, 11, 12, 13] fun R hR => ?_   -- r2
  simp only [go_sem, ldS_at hd, stX_at hd, ldS_sv hlt, stX_sv hlt, sv_ext hlt, sv_ext_sv hlt, lkX_osv hlt, upX_osv hlt]
  refine hR _ _ (kq4 _ _ ?_); clear hR R; try clear kq4 kz4
  try simp only [go_sem, ldS_at hd, stX_at hd, ldS_sv hlt, stX_sv hlt, sv_ext hlt, sv_ext_sv hlt, lkX_osv hlt, upX_osv hlt]
  refine W_seq fun kz5 kq5 => ?_
  refine W_cond rfl (fun c1 => ?_) (fun c1 => ?_)
  · -- c1 true
    try simp only [nrm] at c1
    have hi' : i < l.length := by first | assumption | omega
    obtain ⟨x, hx⟩ : ∃ x, l[i]? = some x := ⟨l[i], by simp [hi']⟩
    have hdrop : l.drop i = x :: l.drop (i + 1) := by
      rw [List.drop_eq_getElem_cons hi']; congr 1; exact (List.getElem?_eq_some_iff.1 hx).2
    rw [hdrop] at hinv
    simp only [missK] at hinv
    refine W_skip (kq5 _ _ ?_)
    refine W_seq fun kz6 kq6 => ?_
    refine W_block ?_
    refine W_seq fun kz7 kq7 => ?_
    refine W_region [0, 4, 8, 10, 11, 12] fun R hR => ?_   -- r3
    simp only [go_sem, ldS_at hd, stX_at hd, ldS_sv hlt, stX_sv hlt, sv_ext hlt, sv_ext_sv hlt, lkX_osv hlt, upX_osv hlt, hx]
    refine hR _ _ (kq7 _ _ ?_); clear hR R; try clear kq7 kz7
    try simp only [go_sem, ldS_at hd, stX_at hd, ldS_sv hlt, stX_sv hlt, sv_ext hlt, sv_ext_sv hlt, lkX_osv hlt, upX_osv hlt, hx]
    refine W_seq fun kz8 kq8 => ?_
    refine W_region [0, 4, 9, 10, 11, 12] fun R hR => ?_   -- r4
    simp only [go_sem, ldS_at hd, stX_at hd, ldS_sv hlt, stX_sv hlt, sv_ext hlt, sv_ext_sv hlt, lkX_osv hlt, upX_osv hlt, hx]
    refine hR _ _ (kq8 _ _ ?_); clear hR R; try clear kq8 kz8
    try simp only [go_sem, ldS_at hd, stX_at hd, ldS_sv hlt, stX_sv hlt, sv_ext hlt, sv_ext_sv hlt, lkX_osv hlt, upX_osv hlt, hx]
    refine W_seq fun kz9 kq9 => ?_
    refine W_block ?_
    refine W_seq fun kz10 kq10 => ?_
    refine W_region [0, 4, 9, 10, 11, 12, 21] fun R hR => ?_   -- r5
    simp only [go_sem, ldS_at hd, stX_at hd, ldS_sv hlt, stX_sv hlt, sv_ext hlt, sv_ext_sv hlt, lkX_osv hlt, upX_osv hlt, hx]
    refine GCall_of (of_pc Y _ s x hv) ?_   -- t24
    simp only [go_sem, ldS_at hd, stX_at hd, ldS_sv hlt, stX_sv hlt, sv_ext hlt, sv_ext_sv hlt, lkX_osv hlt, upX_osv hlt, hx]
    refine hR _ _ (kq10 _ _ ?_); clear hR R; try clear kq10 kz10
    try simp only [go_sem, ldS_at hd, stX_at hd, ldS_sv hlt, stX_sv hlt, sv_ext hlt, sv_ext_sv hlt, lkX_osv hlt, upX_osv hlt, hx]
    refine W_cond rfl (fun c2 => ?_) (fun c2 => ?_)
    · -- c2 true
      try simp only [nrm] at c2
      refine W_seq fun kz11 kq11 => ?_
      refine W_region [6] fun R hR => ?_   -- r6
      simp only [go_sem, ldS_at hd, stX_at hd, ldS_sv hlt, stX_sv hlt, sv_ext hlt, sv_ext_sv hlt, lkX_osv hlt, upX_osv hlt, hx]
      refine hR _ _ (kq11 _ _ ?_); clear hR R; try clear kq11 kz11
      try simp only [go_sem, ldS_at hd, stX_at hd, ldS_sv hlt, stX_sv hlt, sv_ext hlt, sv_ext_sv hlt, lkX_osv hlt, upX_osv hlt, hx]
      refine W_ret ?_
      simp only [go_sem, ldS_at hd, stX_at hd, ldS_sv hlt, stX_sv hlt, sv_ext hlt, sv_ext_sv hlt, lkX_osv hlt, upX_osv hlt, hx]
      refine ⟨.inr (by trivial), ?_⟩
      have hr2 : res.2 = kk := by rw [hinv] <;> first | rfl | (simp [*]; done) | (simp_all; done)
      rw [hr2]
      first | refine Fin_set hcl (by simp only [go_sem]) rfl (Wk_eq ?_ (by simp only [go_sem])) | refine Fin_set0 hcl (by simp only [go_sem]) rfl (Wk_eq ?_ (by simp only [go_sem]))
      try simp only [go_sem]
      all_goals
        first | rfl | (simp_all; done) | (simp_all; omega)
    · -- c2 false
      try simp only [nrm] at c2
      refine W_seq fun kz12 kq12 => ?_
      refine W_region [0, 4, 9, 10, 11, 12, 26] fun R hR => ?_   -- r7
      simp only [go_sem, ldS_at hd, stX_at hd, ldS_sv hlt, stX_sv hlt, sv_ext hlt, sv_ext_sv hlt, lkX_osv hlt, upX_osv hlt, hx]
      refine hR _ _ (kq12 _ _ ?_); clear hR R; try clear kq12 kz12
      try simp only [go_sem, ldS_at hd, stX_at hd, ldS_sv hlt, stX_sv hlt, sv_ext hlt, sv_ext_sv hlt, lkX_osv hlt, upX_osv hlt, hx]
      refine W_cond rfl (fun c3 => ?_) (fun c3 => ?_)
      · -- c3 true
        try simp only [nrm] at c3
        refine W_seq fun kz13 kq13 => ?_
        refine W_region [6] fun R hR => ?_   -- r8
        simp only [go_sem, ldS_at hd, stX_at hd, ldS_sv hlt, stX_sv hlt, sv_ext hlt, sv_ext_sv hlt, lkX_osv hlt, upX_osv hlt, hx]
        refine hR _ _ (kq13 _ _ ?_); clear hR R; try clear kq13 kz13
        try simp only [go_sem, ldS_at hd, stX_at hd, ldS_sv hlt, stX_sv hlt, sv_ext hlt, sv_ext_sv hlt, lkX_osv hlt, upX_osv hlt, hx]
        refine W_ret ?_
        simp only [go_sem, ldS_at hd, stX_at hd, ldS_sv hlt, stX_sv hlt, sv_ext hlt, sv_ext_sv hlt, lkX_osv hlt, upX_osv hlt, hx]
        refine ⟨.inr (by trivial), ?_⟩
        have hr2 : res.2 = kk := by rw [hinv] <;> first | rfl | (simp [*]; done) | (simp_all; done)
        rw [hr2]
        first | refine Fin_set hcl (by simp only [go_sem]) rfl (Wk_eq ?_ (by simp only [go_sem])) | refine Fin_set0 hcl (by simp only [go_sem]) rfl (Wk_eq ?_ (by simp only [go_sem]))
        try simp only [go_sem]
        all_goals
          first | rfl | (simp_all; done) | (simp_all; omega)
      · -- c3 false
        try simp only [nrm] at c3
        refine W_skip (kq9 _ _ ?_)
        refine W_region [0, 4, 10, 11, 12] fun R hR => ?_   -- r9
        simp only [go_sem, ldS_at hd, stX_at hd, ldS_sv hlt, stX_sv hlt, sv_ext hlt, sv_ext_sv hlt, lkX_osv hlt, upX_osv hlt, hx]
        refine hR _ _ (kq6 _ _ ?_); clear hR R; try clear kq6 kz6
        try simp only [go_sem, ldS_at hd, stX_at hd, ldS_sv hlt, stX_sv hlt, sv_ext hlt, sv_ext_sv hlt, lkX_osv hlt, upX_osv hlt, hx]
        refine W_region [0, 4, 10, 11, 12] fun R hR => ?_   -- r10
        simp only [go_sem, ldS_at hd, stX_at hd, ldS_sv hlt, stX_sv hlt, sv_ext hlt, sv_ext_sv hlt, lkX_osv hlt, upX_osv hlt, hx]
        try simp (disch := omega) only [wrapI, wrapU]
        refine hR _ _ ?_; clear hR R
        try simp only [go_sem, ldS_at hd, stX_at hd, ldS_sv hlt, stX_sv hlt, sv_ext hlt, sv_ext_sv hlt, lkX_osv hlt, upX_osv hlt, hx]
        refine ⟨(i + 1, aput x [] kk), ?_, by (try simp only []); omega, ?_⟩
        · refine Weak.trans (Weak.cutSV 1 0 (by omega) (by omega) hcl (by simp only [go_sem]) (by simp only [go_sem] <;> omega) (by simp only [go_sem] <;> omega)) ?_
          simp only [go_sem]
          exact Weak.eq (by first | rfl | (simp only [go_sem]; done) | (simp only [go_sem]; rfl) | (simp [go_sem]; done) | (simp [go_sem]; omega)) (by first | rfl | (simp only [go_sem]; done) | (simp [go_sem]; done))
        · try dsimp only
          refine ⟨hi', ?_⟩
          simp_all
  · -- c1 false
    try simp only [nrm] at c1
    have hdrop : l.drop i = [] := List.drop_eq_nil_of_le (by omega)
    rw [hdrop] at hinv
    simp only [missK] at hinv
    refine W_exit ?_
    simp only [go_sem, ldS_at hd, stX_at hd, ldS_sv hlt, stX_sv hlt, sv_ext hlt, sv_ext_sv hlt, lkX_osv hlt, upX_osv hlt]
    refine kq2 _ _ ?_
    refine W_seq fun kz14 kq14 => ?_
    refine W_region [6] fun R hR => ?_   -- r11
    simp only [go_sem, ldS_at hd, stX_at hd, ldS_sv hlt, stX_sv hlt, sv_ext hlt, sv_ext_sv hlt, lkX_osv hlt, upX_osv hlt]
    refine hR _ _ (kq14 _ _ ?_); clear hR R; try clear kq14 kz14
    try simp only [go_sem, ldS_at hd, stX_at hd, ldS_sv hlt, stX_sv hlt, sv_ext hlt, sv_ext_sv hlt, lkX_osv hlt, upX_osv hlt]
    refine W_ret ?_
    simp only [go_sem, ldS_at hd, stX_at hd, ldS_sv hlt, stX_sv hlt, sv_ext hlt, sv_ext_sv hlt, lkX_osv hlt, upX_osv hlt]
    refine ⟨.inr (by trivial), ?_⟩
    have hr2 : res.2 = kk := by rw [hinv] <;> first | rfl | (simp [*]; done) | (simp_all; done)
    rw [hr2]
    first | refine Fin_set hcl (by simp only [go_sem]) rfl (Wk_eq ?_ (by simp only [go_sem])) | refine Fin_set0 hcl (by simp only [go_sem]) rfl (Wk_eq ?_ (by simp only [go_sem]))
    try simp only [go_sem]
    all_goals
      first | rfl | (simp_all; done) | (simp_all; omega)
set_option maxHeartbeats 2000000 in
theorem judges_pc (Y : YEnv) (σ : Sg) (s : Scale) :
    PC Tryz.prog Y 77 [scPV s] σ (.func (.func 98) [] [.ptr σ.store.length 0]) (σ.ext [some (scCells s)] []) := by
  refine PC_of_W Tryz.func77 rfl (by kernel_rfl) Tryz.ntmps77 (by simp) fun hcl hca => ?_
  refine W_seq fun kz1 kq1 => ?_
  refine W_region [1] fun R hR => ?_   -- r0
  simp only [go_sem]
  refine hR _ _ (kq1 _ _ ?_); clear hR R; try clear kq1 kz1
  try simp only [go_sem]
  refine W_seq fun kz2 kq2 => ?_
  refine W_region [2] fun R hR => ?_   -- r1
  simp only [go_sem]
  refine hR _ _ (kq2 _ _ ?_); clear hR R; try clear kq2 kz2
  try simp only [go_sem]
  refine W_ret ?_
  simp only [go_sem]
  refine ⟨.inr (by trivial), ?_⟩
  exact Fin_ext 1 0 hcl rfl (Wk_eq rfl (by simp only [go_sem] <;> omega)) (by show CleanLs _ _ _ _; simp only [go_sem])
  try simp only [go_sem]
  all_goals
    skip
set_option maxHeartbeats 2000000 in
theorem sealed_pc (Y : YEnv) (σ : Sg) (id : Nat) (hid : id < σ.store.length) (s : Scale) :
    PC Tryz.prog Y 57 [.map id, scPV s] σ (.func (.func 81) [] [.ptr (σ.store.length + 1) 0, .ptr σ.store.length 0]) (σ.ext [some [.map id], some (scCells s)] []) := by
  refine PC_of_W Tryz.func57 rfl (by kernel_rfl) Tryz.ntmps57 (by simp) fun hcl hca => ?_
  refine W_seq fun kz1 kq1 => ?_
  refine W_region [2, 3] fun R hR => ?_   -- r0
  simp only [go_sem]
  refine hR _ _ (kq1 _ _ ?_); clear hR R; try clear kq1 kz1
  try simp only [go_sem]
  refine W_seq fun kz2 kq2 => ?_
  refine W_region [4] fun R hR => ?_   -- r1
  simp only [go_sem]
  refine hR _ _ (kq2 _ _ ?_); clear hR R; try clear kq2 kz2
  try simp only [go_sem]
  refine W_ret ?_
  simp only [go_sem]
  refine ⟨.inr (by trivial), ?_⟩
  refine Fin_ext 2 0 hcl rfl (Wk_eq rfl ?_) ?_
  · simp only [go_sem] <;> omega
  · show CleanLs _ _ _ _
    simp only [go_sem] <;> omega
  try simp only [go_sem]
  all_goals
    skip
set_option maxHeartbeats 2000000 in
theorem judges1_pc (Y : YEnv) (σ : Sg) (y id : Nat) (s : Scale) (τ : Nat → Sg) (M J e : Nat) (stop : Bool) (hM : s.matters = M) (hJ : s.judges = J) (hMb : M < 2 ^ 40) (hJb : J < 2 ^ 40)
    (hst : ∀ t, t ≤ e → (τ t).store[id]? = some (some (scCells s))) (he : e ≤ M * J) (hs0 : stop = false → e = M * J) (hs1 : stop = true → 0 < e)
    (hY : ∀ m n, m < M → n < J → m * J + n < e → Y y [.agg [I m, I n]] (τ (m * J + n)) (!(stop && decide (m * J + n + 1 = e))) (τ (m * J + n + 1)))
    (hlen : (τ e).store.length = (τ 0).store.length) (hr : (τ e).rooms.length = (τ 0).rooms.length) (hy : (τ e).ys.length = (τ 0).ys.length) (hcl' : CleanSg (τ 0) → CleanSg (τ e)) :
    PC Tryz.prog Y 98 [.yield y, .ptr id 0] (τ 0) (.tuple []) (τ e) := by
  refine PC_of_W Tryz.func98 rfl (by kernel_rfl) Tryz.ntmps98 (by simp) fun hcl hca => ?_
  have hs00 := hst 0 (Nat.zero_le _)
  refine W_seq fun kz1 kq1 => ?_
  refine W_region [0, 1, 6, 7] fun R hR => ?_   -- r0
  simp only [go_sem, ldS_at hs00, hM, hJ]
  refine hR _ _ (kq1 _ _ ?_); clear hR R; try clear kq1 kz1
  try simp only [go_sem, ldS_at hs00, hM, hJ]
  refine W_block ?_
  refine W_loopT (α := Nat) (fun (m : Nat) => [(7, I m)]) (fun (m : Nat) => τ (m * J)) (fun (m : Nat) => m ≤ M ∧ m * J ≤ e ∧ (stop = true → m * J < e)) (fun (m : Nat) => M - m) (0) rfl (by rw [Nat.zero_mul]) (⟨Nat.zero_le _, by simp, by simpa using hs1⟩) ?_
  rintro m ⟨hmi, hme, hms⟩
  have hsm := hst (m * J) hme
  refine W_seq fun kz2 kq2 => ?_
  refine W_region [0, 1, 6, 7, 8] fun R hR => ?_   -- r1
  simp only [go_sem, ldS_at hs00, hM, hJ]
  refine hR _ _ (kq2 _ _ ?_); clear hR R; try clear kq2 kz2
  try simp only [go_sem, ldS_at hs00, hM, hJ]
  refine W_seq fun kz3 kq3 => ?_
  refine W_cond rfl (fun c1 => ?_) (fun c1 => ?_)
  · -- c1 true
    try simp only [nrm] at c1
    have hm : m < M := by first | omega | (simp at c1; omega)
    have hmul : m * J + J ≤ M * J := by rw [← Nat.succ_mul]; exact Nat.mul_le_mul_right _ hm
    have hlt : ∀ p, p < M * J → p ≤ e → (stop = true → p < e) → p < e := fun p h1 h2 h3 => by
      cases hst' : stop with
      | true => exact h3 hst'
      | false => rw [hs0 hst']; exact h1
    refine W_skip (kq3 _ _ ?_)
    refine W_seq fun kz4 kq4 => ?_
    refine W_block ?_
    refine W_seq fun kz5 kq5 => ?_
    refine W_region [0, 1, 3, 6, 7] fun R hR => ?_   -- r2
    simp only [go_sem, ldS_at hs00, hM, hJ]
    refine hR _ _ (kq5 _ _ ?_); clear hR R; try clear kq5 kz5
    try simp only [go_sem, ldS_at hs00, hM, hJ]
    refine W_seq fun kz6 kq6 => ?_
    refine W_region [0, 1, 3, 6, 7, 11, 12] fun R hR => ?_   -- r3
    simp only [go_sem, ldS_at hs00, hM, hJ, ldS_at hsm]
    refine hR _ _ (kq6 _ _ ?_); clear hR R; try clear kq6 kz6
    try simp only [go_sem, ldS_at hs00, hM, hJ]
    refine W_block ?_
    refine W_loopT (α := Nat) (fun (n : Nat) => [(12, I n)]) (fun (n : Nat) => τ (m * J + n)) (fun (n : Nat) => n ≤ J ∧ m * J + n ≤ e ∧ (stop = true → m * J + n < e)) (fun (n : Nat) => J - n) (0) rfl (by rw [Nat.add_zero]) (⟨Nat.zero_le _, hme, hms⟩) ?_
    rintro n ⟨hni, hne, hns⟩
    refine W_seq fun kz7 kq7 => ?_
    refine W_region [0, 1, 3, 6, 7, 11, 12, 13] fun R hR => ?_   -- r4
    simp only [go_sem, ldS_at hs00, hM, hJ]
    refine hR _ _ (kq7 _ _ ?_); clear hR R; try clear kq7 kz7
    try simp only [go_sem, ldS_at hs00, hM, hJ]
    refine W_seq fun kz8 kq8 => ?_
    refine W_cond rfl (fun c2 => ?_) (fun c2 => ?_)
    · -- c2 true
      try simp only [nrm] at c2
      have hn : n < J := by first | omega | (simp at c2; omega)
      have hpe := hlt (m * J + n) (by omega) hne hns
      refine W_skip (kq8 _ _ ?_)
      refine W_seq fun kz9 kq9 => ?_
      refine W_block ?_
      refine W_seq fun kz10 kq10 => ?_
      refine W_region [0, 1, 3, 4, 6, 7, 11, 12] fun R hR => ?_   -- r5
      simp only [go_sem, ldS_at hs00, hM, hJ]
      refine hR _ _ (kq10 _ _ ?_); clear hR R; try clear kq10 kz10
      try simp only [go_sem, ldS_at hs00, hM, hJ]
      refine W_seq fun kz11 kq11 => ?_
      refine W_region [0, 1, 3, 6, 7, 11, 12, 20] fun R hR => ?_   -- r6
      simp only [go_sem, ldS_at hs00, hM, hJ]
      refine GYield_of (hY m n hm hn hpe) ?_
      simp only [go_sem, ldS_at hs00, hM, hJ]
      refine hR _ _ (kq11 _ _ ?_); clear hR R; try clear kq11 kz11
      try simp only [go_sem, ldS_at hs00, hM, hJ]
      refine W_cond rfl (fun c3 => ?_) (fun c3 => ?_)
      · -- c3 true
        try simp only [nrm] at c3
        refine W_ret ?_
        simp only [go_sem, ldS_at hs00, hM, hJ]
        refine ⟨.inr (by trivial), ?_⟩
        have hp2 : m * J + n + 1 = e := by simp at c3; exact c3.2
        subst hp2
        exact Fin_end (rs := []) (hcl' hcl) hlen hr hy rfl (Wk.of_clean (.tuple _ Clean.all_nil))
        try simp only [go_sem]
        all_goals
          skip
      · -- c3 false
        try simp only [nrm] at c3
        refine W_skip (kq9 _ _ ?_)
        refine W_region [0, 1, 3, 6, 7, 11, 12] fun R hR => ?_   -- r7
        simp only [go_sem, ldS_at hs00, hM, hJ]
        try simp (disch := omega) only [wrapI, wrapU]
        refine hR _ _ ?_; clear hR R
        try simp only [go_sem, ldS_at hs00, hM, hJ]
        refine ⟨n + 1, ?_, by (try simp only []); omega, ?_⟩
        · first | exact Weak.refl | exact Weak.eq (by first | rfl | (simp only [go_sem]; done) | (simp only [go_sem]; rfl) | (simp [go_sem]; done) | (simp [go_sem]; omega)) (by first | rfl | (simp only [go_sem]; done) | (simp [go_sem]; done))
        · try dsimp only
          refine ⟨hn, by omega, fun h => ?_⟩
          have : ¬ (m * J + n + 1 = e) := fun h2 => by simp [h, h2] at c3
          omega
    · -- c2 false
      try simp only [nrm] at c2
      have hnJ : n = J := by first | omega | (simp at c2; omega)
      subst hnJ
      refine W_exit ?_
      simp only [go_sem, ldS_at hs00, hM, hJ]
      refine kq4 _ _ ?_
      refine W_region [0, 1, 6, 7] fun R hR => ?_   -- r8
      simp only [go_sem, ldS_at hs00, hM, hJ]
      try simp (disch := omega) only [wrapI, wrapU]
      refine hR _ _ ?_; clear hR R
      try simp only [go_sem, ldS_at hs00, hM, hJ]
      refine ⟨m + 1, ?_, by (try simp only []); omega, ?_⟩
      · exact Weak.eq (by first | rfl | (simp only [go_sem]; done)) (by rw [Nat.succ_mul])
      · try dsimp only
        rw [Nat.succ_mul]
        exact ⟨hm, hne, hns⟩
  · -- c1 false
    try simp only [nrm] at c1
    have hmM : m = M := by first | omega | (simp at c1; omega)
    subst hmM
    have hsf : stop = false := by cases h : stop with
      | false => rfl
      | true => have := hms h; omega
    have hee : e = m * J := hs0 hsf
    subst hee
    refine W_exit ?_
    simp only [go_sem, ldS_at hs00, hM, hJ]
    try simp only [go_sem, ldS_at hs00, hM, hJ]
    refine ⟨.inl (by trivial), ?_⟩
    exact Fin_end (rs := []) (hcl' hcl) hlen hr hy rfl (Wk.of_clean (.tuple _ Clean.all_nil))
    try simp only [go_sem]
    all_goals
      skip
set_option maxHeartbeats 2000000 in
theorem absent_pc (Y : YEnv) (σ : Sg) (id : Nat) (k : Kn) (hd : σ.store[id]? = some (some (.mark :: knE k))) (j : Int × Int) :
    PC Tryz.prog Y 78 [.map id, stPV j] σ (.bool (absentK k j)) (σ) := by
  refine PC_of_W Tryz.func78 rfl (by kernel_rfl) Tryz.ntmps78 (by simp) fun hcl hca => ?_
  have hlt := lt_of_get hd
  refine W_seq fun kz1 kq1 => ?_
  refine W_region [0, 3] fun R hR => ?_   -- r0
  simp only [go_sem, lkX, get_extx hd, hd]
  refine hR _ _ (kq1 _ _ ?_); clear hR R; try clear kq1 kz1
  try simp only [go_sem, lkX, get_extx hd, hd]
  refine W_seq fun kz2 kq2 => ?_
  refine W_region [5, 6] fun R hR => ?_   -- r1
  simp only [go_sem, lkX, get_extx hd, hd]
  refine hR _ _ (kq2 _ _ ?_); clear hR R; try clear kq2 kz2
  try simp only [go_sem, lkX, get_extx hd, hd]
  refine W_seq fun kz3 kq3 => ?_
  refine W_region [4] fun R hR => ?_   -- r2
  simp only [go_sem, lkX, get_extx hd, hd]
  refine GWant_split (fun g1 => ?_) (fun g1 => ?_)
  · try simp only [Bool.not_eq_true', Bool.not_eq_false'] at g1
    have n1 := g1; try simp only [nrm] at n1
    simp only [go_sem, lkX, get_extx hd, hd, g1]
    refine hR _ _ (kq3 _ _ ?_); clear hR R; try clear kq3 kz3
    try simp only [go_sem, lkX, get_extx hd, hd]
    refine W_ret ?_
    simp only [go_sem, lkX, get_extx hd, hd]
    refine ⟨.inr (by trivial), ?_⟩
    first | refine Fin_same hcl rfl (Wk_eq ?_ (by simp only [go_sem])) | refine Fin_self hcl rfl (Wk_eq ?_ (by simp only [go_sem]))
    try simp only [go_sem]
    all_goals
      simp only [absentK]; cases hk : aget j k with | none => simp_all | some l => cases l <;> simp_all
  · try simp only [Bool.not_eq_true', Bool.not_eq_false'] at g1
    have n1 := g1; try simp only [nrm] at n1
    simp only [go_sem, lkX, get_extx hd, hd, g1]
    refine hR _ _ (kq3 _ _ ?_); clear hR R; try clear kq3 kz3
    try simp only [go_sem, lkX, get_extx hd, hd]
    refine W_ret ?_
    simp only [go_sem, lkX, get_extx hd, hd]
    refine ⟨.inr (by trivial), ?_⟩
    first | refine Fin_same hcl rfl (Wk_eq ?_ (by simp only [go_sem])) | refine Fin_self hcl rfl (Wk_eq ?_ (by simp only [go_sem]))
    try simp only [go_sem]
    all_goals
      simp only [absentK]; cases hk : aget j k with | none => simp_all | some l => cases l <;> simp_all
set_option maxHeartbeats 2000000 in
theorem fines_pc (Y : YEnv) (σ : Sg) (s : Scale) (l : List (Int × Int)) (h : s.V) (hl : l.length < 2 ^ 40) :
    PC Tryz.prog Y 80 [scPV s, sts l] σ (I (finesE s l)) (σ) := by
  refine PC_of_W Tryz.func80 rfl (by kernel_rfl) Tryz.ntmps80 (by simp) fun hcl hca => ?_
  have h1 := h.sc
  obtain ⟨res, hres⟩ : ∃ r, finesE s l = r := ⟨_, rfl⟩
  rw [hres]
  refine W_seq fun kz1 kq1 => ?_
  refine W_region [1, 2] fun R hR => ?_   -- r0
  simp only [go_sem]
  refine hR _ _ (kq1 _ _ ?_); clear hR R; try clear kq1 kz1
  try simp only [go_sem]
  refine W_seq fun kz2 kq2 => ?_
  refine W_seq fun kz3 kq3 => ?_
  refine W_region [1, 2, 9] fun R hR => ?_   -- r1
  simp only [go_sem]
  refine hR _ _ (kq3 _ _ ?_); clear hR R; try clear kq3 kz3
  try simp only [go_sem]
  refine W_cond rfl (fun c1 => ?_) (fun c1 => ?_)
  · -- c1 true
    try simp only [nrm] at c1
    refine W_seq fun kz4 kq4 => ?_
    refine W_region [4] fun R hR => ?_   -- r2
    simp only [go_sem]
    refine hR _ _ (kq4 _ _ ?_); clear hR R; try clear kq4 kz4
    try simp only [go_sem]
    refine W_ret ?_
    simp only [go_sem]
    refine ⟨.inr (by trivial), ?_⟩
    first | refine Fin_same hcl rfl (Wk_eq ?_ (by simp only [go_sem])) | refine Fin_self hcl rfl (Wk_eq ?_ (by simp only [go_sem]))
    try simp only [go_sem]
    all_goals
      rw [← hres]; simp [finesE, *]; try omega
  · -- c1 false
    try simp only [nrm] at c1
    refine W_skip (kq2 _ _ ?_)
    refine W_seq fun kz5 kq5 => ?_
    refine W_seq fun kz6 kq6 => ?_
    refine W_region [2, 10, 11, 12] fun R hR => ?_   -- r3
    simp only [go_sem]
    refine hR _ _ (kq6 _ _ ?_); clear hR R; try clear kq6 kz6
    try simp only [go_sem]
    refine W_block ?_
    refine W_loopS (α := Nat) (fun (i : Nat) => [(12, I i)]) (fun (i : Nat) => i ≤ l.length ∧ res = finesR s (l.drop i)) (fun (i : Nat) => l.length - i) (0) rfl (⟨Nat.zero_le _, by rw [← hres]; simp [finesE, *] <;> omega⟩) ?_
    rintro i ⟨hi, hinv⟩
    refine W_seq fun kz7 kq7 => ?_
    refine W_region [2, 10, 11, 12, 13] fun R hR => ?_   -- r4
    simp only [go_sem]
    refine hR _ _ (kq7 _ _ ?_); clear hR R; try clear kq7 kz7
    try simp only [go_sem]
    refine W_seq fun kz8 kq8 => ?_
    refine W_cond rfl (fun c2 => ?_) (fun c2 => ?_)
    · -- c2 true
      try simp only [nrm] at c2
      have hi' : i < l.length := by first | assumption | omega
      obtain ⟨x, hx⟩ : ∃ x, l[i]? = some x := ⟨l[i], by simp [hi']⟩
      have hdrop : l.drop i = x :: l.drop (i + 1) := by
        rw [List.drop_eq_getElem_cons hi']; congr 1; exact (List.getElem?_eq_some_iff.1 hx).2
      rw [hdrop] at hinv
      simp only [finesR] at hinv
      refine W_skip (kq8 _ _ ?_)
      refine W_seq fun kz9 kq9 => ?_
      refine W_block ?_
      refine W_seq fun kz10 kq10 => ?_
      refine W_region [2, 6, 10, 11, 12] fun R hR => ?_   -- r5
      simp only [go_sem, hx]
      refine hR _ _ (kq10 _ _ ?_); clear hR R; try clear kq10 kz10
      try simp only [go_sem, hx]
      refine W_block ?_
      refine W_seq fun kz11 kq11 => ?_
      refine W_region [2, 6, 10, 11, 12, 16] fun R hR => ?_   -- r6
      simp only [go_sem, hx]
      try simp (disch := omega) only [wrapI, wrapU]
      refine GCall_of (in_pc Y _ x.1 0 _) ?_   -- t22
      simp only [go_sem, hx]
      try simp (disch := omega) only [wrapI, wrapU]
      refine hR _ _ (kq11 _ _ ?_); clear hR R; try clear kq11 kz11
      try simp only [go_sem, hx]
      refine W_cond rfl (fun c3 => ?_) (fun c3 => ?_)
      · -- c3 true
        try simp only [nrm] at c3
        refine W_seq fun kz12 kq12 => ?_
        refine W_region [4] fun R hR => ?_   -- r7
        simp only [go_sem, hx]
        refine hR _ _ (kq12 _ _ ?_); clear hR R; try clear kq12 kz12
        try simp only [go_sem, hx]
        refine W_ret ?_
        simp only [go_sem, hx]
        refine ⟨.inr (by trivial), ?_⟩
        first | refine Fin_same hcl rfl (Wk_eq ?_ (by simp only [go_sem])) | refine Fin_self hcl rfl (Wk_eq ?_ (by simp only [go_sem]))
        try simp only [go_sem]
        all_goals
          first | rfl | (simp_all; done) | (simp_all; omega)
      · -- c3 false
        try simp only [nrm] at c3
        refine W_seq fun kz13 kq13 => ?_
        refine W_region [2, 10, 11, 12, 24] fun R hR => ?_   -- r8
        simp only [go_sem, hx]
        refine GCall_of (in_pc Y _ x.2 0 1000) ?_   -- t27
        simp only [go_sem, hx]
        refine hR _ _ (kq13 _ _ ?_); clear hR R; try clear kq13 kz13
        try simp only [go_sem, hx]
        refine W_cond rfl (fun c4 => ?_) (fun c4 => ?_)
        · -- c4 true
          try simp only [nrm] at c4
          refine W_seq fun kz14 kq14 => ?_
          refine W_region [4] fun R hR => ?_   -- r9
          simp only [go_sem, hx]
          refine hR _ _ (kq14 _ _ ?_); clear hR R; try clear kq14 kz14
          try simp only [go_sem, hx]
          refine W_ret ?_
          simp only [go_sem, hx]
          refine ⟨.inr (by trivial), ?_⟩
          first | refine Fin_same hcl rfl (Wk_eq ?_ (by simp only [go_sem])) | refine Fin_self hcl rfl (Wk_eq ?_ (by simp only [go_sem]))
          try simp only [go_sem]
          all_goals
            first | rfl | (simp_all; done) | (simp_all; omega)
        · -- c4 false
          try simp only [nrm] at c4
          refine W_skip (kq9 _ _ ?_)
          refine W_region [2, 10, 11, 12] fun R hR => ?_   -- r10
          simp only [go_sem, hx]
          try simp (disch := omega) only [wrapI, wrapU]
          refine hR _ _ ?_; clear hR R
          try simp only [go_sem, hx]
          refine ⟨i + 1, ?_, by (try simp only []); omega, ?_⟩
          · refine Weak.trans (Weak.cutX 1 0 (by omega) (by omega) hcl (by simp only [go_sem] <;> omega) (by simp only [go_sem] <;> omega)) ?_
            simp only [go_sem]
            exact Weak.eq (by first | rfl | (simp only [go_sem]; done) | (simp only [go_sem]; rfl) | (simp [go_sem]; done) | (simp [go_sem]; omega)) (by first | rfl | (simp only [go_sem]; done) | (simp [go_sem]; done))
          · try dsimp only
            exact ⟨hi', by simp_all⟩
    · -- c2 false
      try simp only [nrm] at c2
      have hdrop : l.drop i = [] := List.drop_eq_nil_of_le (by omega)
      rw [hdrop] at hinv
      simp only [finesR] at hinv
      refine W_exit ?_
      simp only [go_sem]
      refine kq5 _ _ ?_
      refine W_seq fun kz15 kq15 => ?_
      refine W_region [4] fun R hR => ?_   -- r11
      simp only [go_sem]
      refine hR _ _ (kq15 _ _ ?_); clear hR R; try clear kq15 kz15
      try simp only [go_sem]
      refine W_ret ?_
      simp only [go_sem]
      refine ⟨.inr (by trivial), ?_⟩
      first | refine Fin_same hcl rfl (Wk_eq ?_ (by simp only [go_sem])) | refine Fin_self hcl rfl (Wk_eq ?_ (by simp only [go_sem]))
      try simp only [go_sem]
      all_goals
        first | rfl | (simp_all; done) | (simp_all; omega)
end Go.Proofs.YtgelnjmddabgpaaGreat
namespace Go.Proofs.YtgelnjmddabgpaaGreat
set_option maxRecDepth 100000
def jdE (x : Envl) : Int × Int := (x.matter, x.judge)
structure GoodE (s : Scale) (x : Envl) : Prop where
  m : marked s (jdE x) x.marks = 0
  sl : x.sl = sealOf (jdE x) x.marks
def SameE (l : List Envl) : Prop := ∀ x, x ∈ l → ∀ y, y ∈ l → jdE x = jdE y → x.marks = y.marks
/-- The first envelope of a judge. -/
def findE (l : List Envl) (j : Int × Int) : Option (List Int) := (l.find? fun x => decide (jdE x = j)).map (·.marks)
theorem findE_nil (j : Int × Int) : findE [] j = none := rfl
theorem findE_cons (x : Envl) (l : List Envl) (j : Int × Int) : findE (x :: l) j = if jdE x = j then some x.marks else findE l j := by
  unfold findE
  rw [List.find?_cons]
  by_cases h : jdE x = j <;> simp [h]
theorem findE_some {l : List Envl} {j : Int × Int} {v : List Int} (h : findE l j = some v) : ∃ x, x ∈ l ∧ jdE x = j ∧ x.marks = v := by
  induction l with
  | nil => cases h
  | cons x l ih =>
    rw [findE_cons] at h
    split at h
    · cases h; exact ⟨x, by simp, by assumption, rfl⟩
    · obtain ⟨y, h1, h2⟩ := ih h; exact ⟨y, by simp [h1], h2⟩
theorem findE_none {l : List Envl} {j : Int × Int} : findE l j = none ↔ ∀ x, x ∈ l → jdE x ≠ j := by
  induction l with
  | nil => simp [findE_nil]
  | cons x l ih =>
    rw [findE_cons]
    split
    · constructor
      · intro h; cases h
      · intro h; exact absurd (by assumption) (h x (by simp))
    · rw [ih]
      constructor
      · intro h y hy
        rcases List.mem_cons.1 hy with rfl | hy
        · assumption
        · exact h y hy
      · intro h y hy; exact h y (by simp [hy])
theorem findE_mem {l : List Envl} (hs : SameE l) {x : Envl} (hx : x ∈ l) : findE l (jdE x) = some x.marks := by
  cases h : findE l (jdE x) with
  | none => exact absurd rfl (findE_none.1 h x hx)
  | some v =>
    obtain ⟨y, h1, h2, rfl⟩ := findE_some h
    rw [hs y h1 x hx h2]
theorem openK_zero {s : Scale} : ∀ {l : List Envl} {k : Kn}, (openK s l k).1 = 0 ↔ (∀ x, x ∈ l → GoodE s x) ∧ SameE l ∧ ∀ x, x ∈ l → ∀ o, aget (jdE x) k = some o → o = x.marks := by
  intro l
  induction l with
  | nil => intro k; simp [openK, SameE]
  | cons x l ih =>
    intro k
    have hj : (x.matter, x.judge) = jdE x := rfl
    simp only [openK, hj]
    by_cases h1 : marked s (jdE x) x.marks = 0
    · rw [if_neg (by simp [h1])]
      by_cases h2 : x.sl = sealOf (jdE x) x.marks
      · rw [if_neg (by simp [h2])]
        cases ho : aget (jdE x) k with
        | none =>
          simp only [Bool.false_eq_true, if_false]
          rw [ih]
          constructor
          · rintro ⟨a, b, c⟩
            refine ⟨fun y hy => ?_, fun y hy z hz e => ?_, fun y hy o hoo => ?_⟩
            · rcases List.mem_cons.1 hy with rfl | hy
              · exact ⟨h1, h2⟩
              · exact a y hy
            · rcases List.mem_cons.1 hy with rfl | hy'
              · rcases List.mem_cons.1 hz with rfl | hz
                · rfl
                · exact c z hz _ (by rw [aget_put, if_pos e.symm])
              · rcases List.mem_cons.1 hz with rfl | hz
                · exact (c y hy' _ (by rw [aget_put, if_pos e])).symm
                · exact b y hy' z hz e
            · rcases List.mem_cons.1 hy with rfl | hy
              · rw [ho] at hoo; cases hoo
              · by_cases e : jdE y = jdE x
                · rw [e, ho] at hoo; cases hoo
                · exact c y hy o (by rw [aget_put, if_neg e]; exact hoo)
          · rintro ⟨a, b, c⟩
            refine ⟨fun y hy => a y (by simp [hy]), fun y hy z hz e => b y (by simp [hy]) z (by simp [hz]) e, fun y hy o hoo => ?_⟩
            rw [aget_put] at hoo
            split at hoo
            · cases hoo; exact b x (by simp) y (by simp [hy]) (by symm; assumption)
            · exact c y (by simp [hy]) o hoo
        | some old =>
          by_cases h3 : old = x.marks
          · subst h3
            simp only [ne_eq, not_true_eq_false, decide_false, Bool.false_eq_true, if_false]
            rw [ih]
            constructor
            · rintro ⟨a, b, c⟩
              refine ⟨fun y hy => ?_, fun y hy z hz e => ?_, fun y hy o hoo => ?_⟩
              · rcases List.mem_cons.1 hy with rfl | hy
                · exact ⟨h1, h2⟩
                · exact a y hy
              · rcases List.mem_cons.1 hy with rfl | hy'
                · rcases List.mem_cons.1 hz with rfl | hz
                  · rfl
                  · exact c z hz _ (by rw [aget_put, if_pos e.symm])
                · rcases List.mem_cons.1 hz with rfl | hz
                  · exact (c y hy' _ (by rw [aget_put, if_pos e])).symm
                  · exact b y hy' z hz e
              · rcases List.mem_cons.1 hy with rfl | hy
                · rw [ho] at hoo; cases hoo; rfl
                · by_cases e : jdE y = jdE x
                  · rw [e, ho] at hoo; cases hoo; exact c y hy _ (by rw [aget_put, if_pos e])
                  · exact c y hy o (by rw [aget_put, if_neg e]; exact hoo)
            · rintro ⟨a, b, c⟩
              refine ⟨fun y hy => a y (by simp [hy]), fun y hy z hz e => b y (by simp [hy]) z (by simp [hz]) e, fun y hy o hoo => ?_⟩
              rw [aget_put] at hoo
              split at hoo
              · cases hoo; exact b x (by simp) y (by simp [hy]) (by symm; assumption)
              · exact c y (by simp [hy]) o hoo
          · simp only [ne_eq, h3, not_false_eq_true, decide_true, if_true]
            constructor
            · intro h; cases h
            · rintro ⟨_, _, c⟩; exact absurd (c x (by simp) old ho) h3
      · rw [if_pos (by simpa using h2)]
        constructor
        · intro h; cases h
        · rintro ⟨a, _⟩; exact absurd (a x (by simp)).sl h2
    · rw [if_pos (by simpa using h1)]
      constructor
      · intro h; exact absurd h h1
      · rintro ⟨a, _⟩; exact absurd (a x (by simp)).m h1
theorem openK_get {s : Scale} : ∀ {l : List Envl} {k : Kn}, (openK s l k).1 = 0 → ∀ j, aget j (openK s l k).2 = match findE l j with | some v => some v | none => aget j k := by
  intro l
  induction l with
  | nil => intro k _ j; rfl
  | cons x l ih =>
    intro k h j
    have hz := openK_zero.1 h
    have hj : (x.matter, x.judge) = jdE x := rfl
    simp only [openK, hj] at h ⊢
    obtain ⟨g1, g2⟩ := hz.1 x (by simp)
    rw [if_neg (by simp [g1]), if_neg (by simp [g2])] at h ⊢
    have key : (openK s l (aput (jdE x) x.marks k)).1 = 0 → aget j (openK s l (aput (jdE x) x.marks k)).2 = match findE (x :: l) j with | some v => some v | none => aget j k := by
      intro h
      rw [ih h j, findE_cons, aget_put]
      by_cases e : jdE x = j
      · subst e
        rw [if_pos rfl, if_pos rfl]
        cases hf : findE l (jdE x) with
        | none => rfl
        | some v =>
          obtain ⟨y, h1, h2, rfl⟩ := findE_some hf
          show some y.marks = some x.marks
          rw [hz.2.1 y (by simp [h1]) x (by simp) h2]
      · rw [if_neg e, if_neg (fun h => e h.symm)]
    cases ho : aget (jdE x) k with
    | none =>
      simp only [ho, Bool.false_eq_true, if_false] at h ⊢
      have := key h
      simpa only [ho] using this
    | some old =>
      have e := hz.2.2 x (by simp) old ho
      subst e
      simp only [ho, ne_eq, not_true_eq_false, decide_false, Bool.false_eq_true, if_false] at h ⊢
      have := key h
      simpa only [ho] using this
theorem missK_zero {s : Scale} : ∀ {l : List (Int × Int)} {k : Kn}, (missK s l k).1 = 0 ↔ ∀ j, j ∈ l → ofSc s j = true ∧ (aget j k).getD [] = [] := by
  intro l
  induction l with
  | nil => intro k; simp [missK]
  | cons x l ih =>
    intro k
    simp only [missK]
    by_cases h1 : ofSc s x = true
    · rw [h1]
      simp only [Bool.not_true, Bool.false_eq_true, if_false]
      by_cases h2 : (aget x k).getD [] = []
      · rw [if_neg (by simp [h2]), ih]
        constructor
        · intro a j hj
          rcases List.mem_cons.1 hj with rfl | hj
          · exact ⟨h1, h2⟩
          · refine ⟨(a j hj).1, ?_⟩
            have := (a j hj).2
            rw [aget_put] at this
            split at this
            · rename_i e; rw [e]; exact h2
            · exact this
        · intro a j hj
          refine ⟨(a j (by simp [hj])).1, ?_⟩
          rw [aget_put]
          split
          · rfl
          · exact (a j (by simp [hj])).2
      · rw [if_pos h2]
        constructor
        · intro h; cases h
        · intro a; exact absurd (a x (by simp)).2 h2
    · have : ofSc s x = false := by simpa using h1
      rw [this]
      constructor
      · intro h; cases h
      · intro a; exact absurd (a x (by simp)).1 h1
theorem missK_get {s : Scale} : ∀ {l : List (Int × Int)} {k : Kn}, (missK s l k).1 = 0 → ∀ j, aget j (missK s l k).2 = if j ∈ l then some [] else aget j k := by
  intro l
  induction l with
  | nil => intro k _ j; simp [missK]
  | cons x l ih =>
    intro k h j
    obtain ⟨g1, g2⟩ := missK_zero.1 h x (by simp)
    simp only [missK] at h ⊢
    rw [g1, if_neg (by simp), if_neg (by simp [g2])] at h ⊢
    rw [ih h j, aget_put]
    by_cases e : j ∈ l
    · rw [if_pos e, if_pos (by simp [e])]
    · rw [if_neg e]
      by_cases e2 : j = x
      · rw [if_pos e2, if_pos (by simp [e2])]
      · rw [if_neg e2, if_neg (by simp [e, e2])]
/-- What a night tells of a judge. -/
def kOf (n : Night) (j : Int × Int) : Option (List Int) := match findE n.opened j with
  | some v => some v
  | none => if j ∈ n.absent then some [] else none
structure NightV (s : Scale) (n : Night) : Prop where
  c : chkSc s = 0
  o60 : n.opened.length ≤ 60
  op : ∀ x, x ∈ n.opened → GoodE s x
  cs : SameE n.opened
  a60 : n.absent.length ≤ 60
  ab : ∀ j, j ∈ n.absent → ofSc s j = true ∧ ∀ x, x ∈ n.opened → jdE x ≠ j
  sh : ∀ m, 0 ≤ m → m < s.matters → ∃ q, (0 ≤ q ∧ q < s.judges) ∧ (m, q) ∉ n.absent
  fi : finesE s n.fines = 0
theorem GoodE.ne {s : Scale} (hv : s.V) {x : Envl} (h : GoodE s x) : x.marks ≠ [] := fun e => by
  obtain ⟨_, h2, _⟩ := marked_ok h.m
  have := hv.sc
  rw [e] at h2
  simp at h2
  omega
theorem mem_toI' {n x : Int} : x ∈ toI n ↔ 0 ≤ x ∧ x < n := by
  unfold toI
  rw [List.mem_map]
  constructor
  · rintro ⟨i, hi, rfl⟩
    have := List.mem_range.1 hi
    omega
  · rintro ⟨h1, h2⟩
    exact ⟨x.toNat, List.mem_range.2 (by omega), by omega⟩
theorem pre_get {s : Scale} {n : Night} (h1 : (openK s n.opened []).1 = 0) (h2 : (missK s n.absent (openK s n.opened []).2).1 = 0) (j : Int × Int) : aget j (knownK s n) = kOf n j := by
  unfold knownK kOf
  rw [missK_get h2, openK_get h1]
  have hm := missK_zero.1 h2
  cases hf : findE n.opened j with
  | none => rfl
  | some v =>
    simp only
    by_cases e : j ∈ n.absent
    · rw [if_pos e]
      have := (hm j e).2
      rw [openK_get h1, hf] at this
      simp at this
      rw [this]
    · rw [if_neg e]
theorem absentK_iff {k : Kn} {j : Int × Int} : absentK k j = true ↔ aget j k = some [] := by
  unfold absentK
  cases aget j k with
  | none => simp
  | some l => cases l <;> simp
theorem kOf_nil {s : Scale} (hv : s.V) {n : Night} (hop : ∀ x, x ∈ n.opened → GoodE s x) (hab : ∀ j, j ∈ n.absent → ∀ x, x ∈ n.opened → jdE x ≠ j) (j : Int × Int) : kOf n j = some [] ↔ j ∈ n.absent := by
  unfold kOf
  cases hf : findE n.opened j with
  | none => simp
  | some v =>
    obtain ⟨x, h1, h2, rfl⟩ := findE_some hf
    simp only [Option.some.injEq]
    constructor
    · intro e; exact absurd e ((hop x h1).ne hv)
    · intro e; exact absurd h2 (hab j e x h1)
theorem nightV_iff {s : Scale} {n : Night} : knownE s n = 0 ↔ NightV s n := by
  unfold knownE
  by_cases c1' : ¬ (chkSc s = 0)
  · have c1 := c1'
    rw [if_pos c1]
    exact ⟨fun h => absurd h c1, fun h => absurd h.c c1⟩
  have c1 := Classical.not_not.1 c1'
  rw [if_neg (by simp [c1])]
  by_cases c2' : ¬ (n.opened.length ≤ 60)
  · have c2 := c2'
    rw [if_pos (by omega)]
    exact ⟨fun h => absurd h (by decide), fun h => absurd h.o60 c2⟩
  have c2 := Classical.not_not.1 c2'
  rw [if_neg (by omega)]
  by_cases c3' : ¬ ((openK s n.opened []).1 = 0)
  · have c3 := c3'
    rw [if_pos c3]
    exact ⟨fun h => absurd h c3, fun h => absurd (openK_zero.2 ⟨h.op, h.cs, fun x _ o ho => by cases ho⟩) c3⟩
  have c3 := Classical.not_not.1 c3'
  rw [if_neg (by simp [c3])]
  by_cases c4' : ¬ (n.absent.length ≤ 60)
  · have c4 := c4'
    rw [if_pos (by omega)]
    exact ⟨fun h => absurd h (by decide), fun h => absurd h.a60 c4⟩
  have c4 := Classical.not_not.1 c4'
  rw [if_neg (by omega)]
  obtain ⟨o1, o2, _⟩ := openK_zero.1 c3
  have hv := Scale.v c1
  have hmi : (missK s n.absent (openK s n.opened []).2).1 = 0 ↔ ∀ j, j ∈ n.absent → ofSc s j = true ∧ ∀ x, x ∈ n.opened → jdE x ≠ j := by
    rw [missK_zero]
    constructor
    · intro h j hj
      refine ⟨(h j hj).1, fun x hx e => ?_⟩
      have := (h j hj).2
      rw [openK_get c3, ← e, findE_mem o2 hx] at this
      simp at this
      exact (o1 x hx).ne hv this
    · intro h j hj
      refine ⟨(h j hj).1, ?_⟩
      rw [openK_get c3, findE_none.2 (h j hj).2]
      rfl
  by_cases c5' : ¬ ((missK s n.absent (openK s n.opened []).2).1 = 0)
  · have c5 := c5'
    rw [if_pos c5]
    exact ⟨fun h => absurd h c5, fun h => absurd (hmi.2 h.ab) c5⟩
  have c5 := Classical.not_not.1 c5'
  rw [if_neg (by simp [c5])]
  have hab := hmi.1 c5
  have hk := pre_get c3 c5
  have hkn := kOf_nil hv o1 (fun j hj => (hab j hj).2)
  have hsh : shortK s (knownK s n) = false ↔ ∀ m, 0 ≤ m → m < s.matters → ∃ q, (0 ≤ q ∧ q < s.judges) ∧ (m, q) ∉ n.absent := by
    unfold shortK
    rw [List.any_eq_false]
    constructor
    · intro h m m0 m1
      have := h m (mem_toI'.2 ⟨m0, m1⟩)
      rw [List.all_eq_true] at this
      obtain ⟨q, hq⟩ := Classical.not_forall.1 this
      obtain ⟨hq1, hq2⟩ := Classical.not_imp.1 hq
      refine ⟨q, mem_toI'.1 hq1, fun e => hq2 ?_⟩
      rw [absentK_iff, hk, hkn]; exact e
    · intro h m hm
      obtain ⟨m0, m1⟩ := mem_toI'.1 hm
      obtain ⟨q, hq, hn⟩ := h m m0 m1
      rw [List.all_eq_true]
      intro ha
      have := ha q (mem_toI'.2 hq)
      rw [absentK_iff, hk, hkn] at this
      exact hn this
  by_cases c6 : shortK s (knownK s n) = true
  · rw [if_pos c6]
    exact ⟨fun h => absurd h (by decide), fun h => absurd (hsh.2 h.sh) (by rw [c6]; simp)⟩
  rw [if_neg c6]
  have c6' := hsh.1 (by simpa using c6)
  exact ⟨fun h => ⟨c1, c2, o1, o2, c4, hab, c6', h⟩, fun h => h.fi⟩
theorem NightV.get {s : Scale} {n : Night} (h : NightV s n) (j : Int × Int) : aget j (knownK s n) = kOf n j :=
  pre_get (openK_zero.2 ⟨h.op, h.cs, fun x _ o ho => by cases ho⟩) (missK_zero.2 fun j hj => ⟨(h.ab j hj).1, by
    rw [openK_get (openK_zero.2 ⟨h.op, h.cs, fun x _ o ho => by cases ho⟩), findE_none.2 (h.ab j hj).2]; rfl⟩) j
end Go.Proofs.YtgelnjmddabgpaaGreat
namespace Go.Proofs.YtgelnjmddabgpaaGreat
open Go Go.RowKit
/-- A slice of numbers that grows in place: nothing yet, or the last of a row of variables (those before it are gone). -/
def glI (n : Nat) (out : List Int) : PV := match out with
  | [] => .gnil
  | _ :: t => .gsl (n + t.length) (t.length + 1) 1
def gsI (out : List Int) : List (Option (List PV)) := match out with
  | [] => []
  | _ :: t => List.replicate t.length none ++ [some (out.map I)]
theorem gsI_len (out : List Int) : (gsI out).length = out.length := by cases out <;> simp [gsI]
theorem glI_cells (n : Nat) (out : List Int) : (glI n out).cells = [glI n out] := by cases out <;> rfl
theorem glI_scalar (n : Nat) (out : List Int) : (glI n out).scalar = true := by cases out <;> rfl
theorem glI_defd (n : Nat) (out : List Int) : defd (glI n out) = true := by cases out <;> rfl
theorem appendAny_gl {P : Program} {σ : Sg} {t t' : TypeId} {n : Nat} {out : List Int} {m : List PV} {o : Own} : appendAny P σ t t' (glI n out) (.isl m o) = appendG P σ t t' (glI n out) (.isl m o) := by cases out <;> rfl
theorem cells_gsl (a b c : Nat) : (PV.gsl a b c).cells = [PV.gsl a b c] := rfl
theorem cells_gnil : PV.gnil.cells = [PV.gnil] := rfl
attribute [go_sem] appendAny_gl cells_gsl cells_gnil
attribute [go_sem high] glI_cells glI_scalar glI_defd
theorem stX_glI {σ : Sg} {l : List (Option (List PV))} {rm : List Nat} {ys : List LState} {j off n : Nat} {out : List Int} : stX 1 (σ.ext l rm ys) (σ.store.length + j) off (glI n out) = match l[j]? with
    | some (some cs) => if off + 1 ≤ cs.length then some (σ.ext (l.set j (some (putCells cs off [glI n out]))) rm ys) else none
    | _ => none := by
  simp only [stX_ext, glI_defd, glI_cells, List.all_cons, List.all_nil, glI_scalar]
  rcases l[j]? with _ | _ | cs <;> simp
attribute [go_sem high] stX_glI
theorem glI_clean {a b c n : Nat} {out : List Int} (h : n + out.length ≤ a) : Clean a b c (glI n out) := by
  cases out with
  | nil => exact .gnil
  | cons x out => exact .gsl _ _ _ (by simp at h; omega)
theorem CleanLs_append {a b c : Nat} {l m : List (Option (List PV))} (h : CleanLs a b c l) (k : CleanLs a b c m) : CleanLs a b c (l ++ m) := fun cs hcs => by
  rcases List.mem_append.1 hcs with h' | h'
  · exact h cs h'
  · exact k cs h'
theorem CleanLs_rep {a b c : Nat} (n : Nat) : CleanLs a b c (List.replicate n none) := fun cs hcs => by
  have := List.eq_of_mem_replicate hcs
  cases this
theorem gsI_clean {a b c : Nat} (out : List Int) : CleanLs a b c (gsI out) := by
  cases out with
  | nil => simp only [gsI, CleanLs_nil]
  | cons x out =>
    refine CleanLs_append (CleanLs_rep _) ?_
    simp only [CleanLs_cons, CleanLs_nil, and_true]
    intro p hp
    obtain ⟨y, _, rfl⟩ := List.mem_map.1 hp
    exact .int _ _
section
variable {σ : Sg} {A : List (Option (List PV))} {rm : List Nat} {ys : List LState} {N : Nat} {lo : Nat × Nat} {E : Env} {out : List Int}
theorem get_mid {α : Type} {A B : List α} {x : α} : (A ++ x :: B)[A.length]? = some x := by simp
theorem set_mid {α : Type} {A B : List α} {x y : α} : (A ++ x :: B).set A.length y = A ++ y :: B := by simp
theorem gsI_get {x : Int} : (A ++ gsI (x :: out))[A.length + out.length]? = some (some ((x :: out).map I)) := by
  have : A.length + out.length = (A ++ List.replicate out.length (none : Option (List PV))).length := by simp
  rw [this, gsI, ← List.append_assoc]
  exact get_mid
theorem gsI_set {x : Int} {y : Option (List PV)} : (A ++ gsI (x :: out)).set (A.length + out.length) y = A ++ (List.replicate out.length none ++ [y]) := by
  have : A.length + out.length = (A ++ List.replicate out.length (none : Option (List PV))).length := by simp
  rw [this, gsI, ← List.append_assoc, ← List.append_assoc]
  exact set_mid
theorem appG_gl (x : Int) (h : (out.length + 1) * 8 ≤ 2 ^ 47) : appG 1 8 (σ.ext (A ++ gsI out) rm ys) (glI (σ.store.length + A.length) out) [I x] = some (glI (σ.store.length + A.length) (out ++ [x]), σ.ext (A ++ gsI (out ++ [x])) rm ys) := by
  cases out with
  | nil =>
    rw [glI, appG_nil (by rfl) (by simp) (by simp)]
    simp [gsI, glI, rowC, Sg.push_ext, Sg.len_ext]
  | cons y out =>
    simp only [glI]
    rw [appG_more (cs := (y :: out).map I) (by rw [Nat.add_assoc, Sg.get_ext]; exact gsI_get) (by simp) (by rfl) (by simp) (by simpa using h)]
    rw [Nat.add_assoc (Sg.store σ).length, Sg.drop_ext, gsI_set]
    simp only [Sg.push_ext, Sg.len_ext, rowC]
    have e : List.replicate (out ++ [x]).length (none : Option (List PV)) = List.replicate out.length none ++ [none] := by simp [List.replicate_succ']
    simp only [List.cons_append, gsI, e]
    simp [Nat.add_assoc]
theorem sortI_nil : sortI [] = [] := by simp [sortI]
theorem glI_sort (n : Nat) : glI n (sortI out) = glI n out := by
  have hl := sortI_len out
  cases h : sortI out with
  | nil =>
    rw [h] at hl
    cases out with
    | nil => rfl
    | cons x out => simp at hl
  | cons y s =>
    rw [h] at hl
    cases out with
    | nil => simp at hl
    | cons x out => simp only [List.length_cons] at hl; simp only [glI]; rw [show s.length = out.length by omega]
theorem sort_gl {P : Program} {Y : YEnv} {f : FuncId} (h : SortsI P f) (hl : out.length < 2 ^ 60) : PC P Y f [glI (σ.store.length + A.length) out] (σ.ext (A ++ gsI out) rm ys) (.tuple []) (σ.ext (A ++ gsI (sortI out)) rm ys) := by
  cases out with
  | nil => rw [sortI_nil]; exact PC_sort0 h
  | cons x out =>
    have h1 := PC_sortI (Y := Y) (σ := σ.ext (A ++ gsI (x :: out)) rm ys) (id := σ.store.length + A.length + out.length) (xs := x :: out) h (by rw [Nat.add_assoc, Sg.get_ext]; exact gsI_get) hl
    rw [Nat.add_assoc, Sg.set_ext, gsI_set] at h1
    have e : A ++ (List.replicate out.length none ++ [some ((sortI (x :: out)).map I)]) = A ++ gsI (sortI (x :: out)) := by
      have hs := sortI_len (x :: out)
      cases hc : sortI (x :: out) with
      | nil => rw [hc] at hs; simp at hs
      | cons y s =>
        rw [hc] at hs
        simp only [List.length_cons] at hs
        simp only [gsI]
        rw [show out.length = s.length by omega]
    rw [e] at h1
    simp only [glI]
    rw [Nat.add_assoc]
    exact h1
/-- Compacted. -/
def glC (n : Nat) (s : List Int) : PV := match s with
  | [] => .gnil
  | _ :: t => .gsl (n + t.length) (Lib.compact s).length 1
theorem glC_cells (n : Nat) (out : List Int) : (glC n out).cells = [glC n out] := by cases out <;> rfl
theorem glC_scalar (n : Nat) (out : List Int) : (glC n out).scalar = true := by cases out <;> rfl
theorem glC_defd (n : Nat) (out : List Int) : defd (glC n out) = true := by cases out <;> rfl
attribute [go_sem high] glC_cells glC_scalar glC_defd
theorem stX_glC {σ : Sg} {l : List (Option (List PV))} {rm : List Nat} {ys : List LState} {j off n : Nat} {out : List Int} : stX 1 (σ.ext l rm ys) (σ.store.length + j) off (glC n out) = match l[j]? with
    | some (some cs) => if off + 1 ≤ cs.length then some (σ.ext (l.set j (some (putCells cs off [glC n out]))) rm ys) else none
    | _ => none := by
  simp only [stX_ext, glC_defd, glC_cells, List.all_cons, List.all_nil, glC_scalar]
  rcases l[j]? with _ | _ | cs <;> simp
attribute [go_sem high] stX_glC
end
end Go.Proofs.YtgelnjmddabgpaaGreat
namespace Go.Proofs.YtgelnjmddabgpaaGreat
open Go Go.RowKit
set_option maxRecDepth 100000
/-- Is somebody there, matter by matter, after so many judges? -/
def thUp (k : Kn) (J M : Nat) : Nat → List Bool
  | 0 => List.replicate M false
  | t + 1 => (thUp k J M t).set (t / J) (((thUp k J M t)[t / J]?).getD false || !(absentK k ((t / J : Nat), (t % J : Nat))))
theorem thUp_len (k : Kn) (J M : Nat) : ∀ t, (thUp k J M t).length = M := by
  intro t
  induction t with
  | zero => simp [thUp]
  | succ t ih => simp [thUp, ih]
theorem idx_div {J m n : Nat} (hn : n < J) : (m * J + n) / J = m ∧ (m * J + n) % J = n := by
  have hJ : 0 < J := by omega
  constructor
  · rw [Nat.add_comm, Nat.add_mul_div_right _ _ hJ, Nat.div_eq_of_lt hn, Nat.zero_add]
  · rw [Nat.add_comm, Nat.add_mul_mod_self_right, Nat.mod_eq_of_lt hn]
theorem thUp_step (k : Kn) {J M m n : Nat} (hn : n < J) {b : Bool} (h : (thUp k J M (m * J + n))[m]? = some b) : thUp k J M (m * J + n + 1) = (thUp k J M (m * J + n)).set m (b || !(absentK k ((m : Int), (n : Int)))) := by
  obtain ⟨e1, e2⟩ := idx_div (m := m) hn
  simp only [thUp]
  rw [e1, e2, h]
  rfl
theorem thUp_get (k : Kn) {J M m : Nat} (hJ : 0 < J) (hm : m < M) : ∀ t, ∃ v, (thUp k J M t)[m]? = some v ∧ (v = true ↔ ∃ n, n < J ∧ m * J + n < t ∧ absentK k ((m : Int), (n : Int)) = false) := by
  intro t
  induction t with
  | zero => exact ⟨false, by simp [thUp, hm], by simp⟩
  | succ t ih =>
    obtain ⟨v, h1, h2⟩ := ih
    have ht : t = (t / J) * J + t % J := by rw [Nat.mul_comm]; exact (Nat.div_add_mod t J).symm
    have hmod : t % J < J := Nat.mod_lt _ hJ
    simp only [thUp]
    by_cases e : t / J = m
    · rw [e, h1]
      rw [e] at ht
      refine ⟨v || !(absentK k ((m : Int), ((t % J : Nat) : Int))), by rw [List.getElem?_set_self (by rw [thUp_len]; exact hm)]; rfl, ?_⟩
      rw [Bool.or_eq_true, h2]
      constructor
      · rintro (⟨n, a, b, c⟩ | h)
        · exact ⟨n, a, by omega, c⟩
        · exact ⟨t % J, hmod, by omega, by simpa using h⟩
      · rintro ⟨n, a, b, c⟩
        by_cases q : m * J + n < t
        · exact .inl ⟨n, a, q, c⟩
        · have : n = t % J := by omega
          subst this
          exact .inr (by rw [c]; rfl)
    · refine ⟨v, by rw [List.getElem?_set_ne e]; exact h1, ?_⟩
      rw [h2]
      constructor
      · rintro ⟨n, a, b, c⟩
        exact ⟨n, a, by omega, c⟩
      · rintro ⟨n, a, b, c⟩
        refine ⟨n, a, ?_, c⟩
        by_cases q : m * J + n = t
        · have := (idx_div (m := m) a).1
          rw [q] at this
          exact absurd this e
        · omega
theorem thUp_short (s : Scale) (k : Kn) {J M : Nat} (hM : s.matters = M) (hJ : s.judges = J) (hJ0 : 0 < J) : ((thUp k J M (M * J)).any fun x => decide (false = x)) = shortK s k := by
  rw [Bool.eq_iff_iff]
  simp only [shortK, toI, hM, hJ, Int.toNat_natCast, List.any_map, List.all_map, List.any_eq_true, List.all_eq_true, Function.comp, List.mem_range, decide_eq_true_eq]
  constructor
  · rintro ⟨x, hx, rfl⟩
    obtain ⟨m, hm⟩ := List.mem_iff_getElem?.1 hx
    have hlt : m < M := by rw [← thUp_len k J M (M * J)]; exact (List.getElem?_eq_some_iff.1 hm).1
    obtain ⟨v, h1, h2⟩ := thUp_get k hJ0 hlt (M * J)
    rw [h1] at hm
    injection hm with hm
    subst hm
    refine ⟨m, hlt, fun n hn => ?_⟩
    cases ha : absentK k ((m : Int), (n : Int)) with
    | true => rfl
    | false =>
      have : m * J + J ≤ M * J := by rw [← Nat.succ_mul]; exact Nat.mul_le_mul_right _ hlt
      have := h2.2 ⟨n, hn, by omega, ha⟩
      cases this
  · rintro ⟨m, hlt, h⟩
    obtain ⟨v, h1, h2⟩ := thUp_get k hJ0 hlt (M * J)
    refine ⟨v, List.mem_of_getElem? h1, ?_⟩
    cases v with
    | false => rfl
    | true =>
      obtain ⟨n, hn, _, ha⟩ := h2.1 rfl
      rw [h n hn] at ha
      cases ha
theorem knPos_nil : KnPos [] := fun e he => by cases he
theorem known_ok {s : Scale} {g : Night} (h : knownE s g = 0) : s.V ∧ ¬ (60 < (g.opened.length : Int)) ∧ (openK s g.opened []).1 = 0 ∧ ¬ (60 < (g.absent.length : Int)) ∧ (missK s g.absent (openK s g.opened []).2).1 = 0 ∧ shortK s (knownK s g) = false ∧ finesE s g.fines = 0 := by
  unfold knownE at h
  split at h
  · rename_i h1; exact absurd h h1
  · rename_i h1
    split at h
    · cases h
    · rename_i h2
      split at h
      · rename_i h3; exact absurd h h3
      · rename_i h3
        split at h
        · cases h
        · rename_i h4
          split at h
          · rename_i h5; exact absurd h h5
          · rename_i h5
            split at h
            · cases h
            · rename_i h6
              exact ⟨Scale.v (by omega), h2, by omega, h4, by omega, by simpa using h6, h⟩
set_option maxHeartbeats 2000000 in
theorem BindexM_pc (Y : YEnv) (σ : Sg) (l : List Bool) (v : Bool) (id n : Nat) (hd : σ.store[id]? = some (some (l.map PV.bool))) (hn : l.length = n) (hl : n < 2 ^ 40) :
    PC Tryz.prog Y 99 [.msl id 0 n, .bool v] σ (I (fIdx (fun x => decide (v = x)) 0 l)) (σ) := by
  refine PC_of_W Tryz.func99 rfl (by kernel_rfl) Tryz.ntmps99 (by simp) fun hcl hca => ?_
  obtain ⟨res, hres⟩ : ∃ r, fIdx (fun x => decide (v = x)) 0 l = r := ⟨_, rfl⟩
  rw [hres]
  refine W_seq fun kz1 kq1 => ?_
  refine W_region [0, 1] fun R hR => ?_   -- r0
  simp only [go_sem, beqB, ldS_at hd]
  refine hR _ _ (kq1 _ _ ?_); clear hR R; try clear kq1 kz1
  try simp only [go_sem, beqB, ldS_at hd]
  refine W_seq fun kz2 kq2 => ?_
  refine W_seq fun kz3 kq3 => ?_
  refine W_region [0, 1, 7, 8] fun R hR => ?_   -- r1
  simp only [go_sem, beqB, ldS_at hd]
  refine hR _ _ (kq3 _ _ ?_); clear hR R; try clear kq3 kz3
  try simp only [go_sem, beqB, ldS_at hd]
  refine W_block ?_
  refine W_loopS (α := Nat) (fun (i : Nat) => [(8, I i)]) (fun (i : Nat) => i ≤ l.length ∧ res = fIdx (fun x => decide (v = x)) i (l.drop i)) (fun (i : Nat) => l.length - i) (0) rfl (⟨Nat.zero_le _, hres.symm⟩) ?_
  rintro i ⟨hi, hinv⟩
  refine W_seq fun kz4 kq4 => ?_
  refine W_region [0, 1, 7, 8, 9] fun R hR => ?_   -- r2
  simp only [go_sem, beqB, ldS_at hd]
  refine hR _ _ (kq4 _ _ ?_); clear hR R; try clear kq4 kz4
  try simp only [go_sem, beqB, ldS_at hd]
  refine W_seq fun kz5 kq5 => ?_
  refine W_cond rfl (fun c1 => ?_) (fun c1 => ?_)
  · -- c1 true
    try simp only [nrm] at c1
    have hi' : i < l.length := by first | assumption | omega
    obtain ⟨x, hx⟩ : ∃ x, l[i]? = some x := ⟨l[i], by simp [hi']⟩
    have hdrop : l.drop i = x :: l.drop (i + 1) := by
      rw [List.drop_eq_getElem_cons hi']; congr 1; exact (List.getElem?_eq_some_iff.1 hx).2
    rw [hdrop] at hinv
    simp only [fIdx] at hinv
    have hin : (i : Int) < (n : Int) := by omega
    refine W_skip (kq5 _ _ ?_)
    refine W_seq fun kz6 kq6 => ?_
    refine W_block ?_
    refine W_seq fun kz7 kq7 => ?_
    refine W_region [0, 1, 5, 7, 8] fun R hR => ?_   -- r3
    simp only [go_sem, beqB, ldS_at hd, hx]
    refine hR _ _ (kq7 _ _ ?_); clear hR R; try clear kq7 kz7
    try simp only [go_sem, beqB, ldS_at hd, hx]
    refine W_seq fun kz8 kq8 => ?_
    refine W_region [0, 1, 5, 7, 8, 16] fun R hR => ?_   -- r4
    simp only [go_sem, beqB, ldS_at hd, hx, hin, iaM_nat (Int.ofNat_lt.1 hin), Nat.mul_one, Nat.zero_add, List.getElem?_map]
    refine hR _ _ (kq8 _ _ ?_); clear hR R; try clear kq8 kz8
    try simp only [go_sem, beqB, ldS_at hd, hx]
    refine W_cond rfl (fun c2 => ?_) (fun c2 => ?_)
    · -- c2 true
      try simp only [nrm] at c2
      refine W_seq fun kz9 kq9 => ?_
      refine W_region [4] fun R hR => ?_   -- r5
      simp only [go_sem, beqB, ldS_at hd, hx]
      refine hR _ _ (kq9 _ _ ?_); clear hR R; try clear kq9 kz9
      try simp only [go_sem, beqB, ldS_at hd, hx]
      refine W_ret ?_
      simp only [go_sem, beqB, ldS_at hd, hx]
      refine ⟨.inr (by trivial), ?_⟩
      first | refine Fin_same hcl rfl (Wk_eq ?_ (by simp only [go_sem])) | refine Fin_self hcl rfl (Wk_eq ?_ (by simp only [go_sem]))
      try simp only [go_sem]
      all_goals
        first | rfl | (simp_all; done) | (simp_all; omega)
    · -- c2 false
      try simp only [nrm] at c2
      refine W_skip (kq6 _ _ ?_)
      refine W_region [0, 1, 7, 8] fun R hR => ?_   -- r6
      simp only [go_sem, beqB, ldS_at hd, hx]
      try simp (disch := omega) only [wrapI, wrapU]
      refine hR _ _ ?_; clear hR R
      try simp only [go_sem, beqB, ldS_at hd, hx]
      refine ⟨i + 1, ?_, by (try simp only []); omega, ?_⟩
      · first | exact Weak.refl | exact Weak.eq (by first | rfl | (simp only [go_sem]; done) | (simp only [go_sem]; rfl) | (simp [go_sem]; done) | (simp [go_sem]; omega)) (by first | rfl | (simp only [go_sem]; done) | (simp [go_sem]; done))
      · try dsimp only
        exact ⟨hi', by simp_all⟩
  · -- c1 false
    try simp only [nrm] at c1
    have hdrop : l.drop i = [] := List.drop_eq_nil_of_le (by omega)
    rw [hdrop] at hinv
    simp only [fIdx] at hinv
    refine W_exit ?_
    simp only [go_sem, beqB, ldS_at hd]
    refine kq2 _ _ ?_
    refine W_seq fun kz10 kq10 => ?_
    refine W_region [4] fun R hR => ?_   -- r7
    simp only [go_sem, beqB, ldS_at hd]
    refine hR _ _ (kq10 _ _ ?_); clear hR R; try clear kq10 kz10
    try simp only [go_sem, beqB, ldS_at hd]
    refine W_ret ?_
    simp only [go_sem, beqB, ldS_at hd]
    refine ⟨.inr (by trivial), ?_⟩
    first | refine Fin_same hcl rfl (Wk_eq ?_ (by simp only [go_sem])) | refine Fin_self hcl rfl (Wk_eq ?_ (by simp only [go_sem]))
    try simp only [go_sem]
    all_goals
      first | rfl | (simp_all; done) | (simp_all; omega)
set_option maxHeartbeats 2000000 in
theorem BcontainsM_pc (Y : YEnv) (σ : Sg) (l : List Bool) (v : Bool) (id n : Nat) (hd : σ.store[id]? = some (some (l.map PV.bool))) (hn : l.length = n) (hl : n < 2 ^ 40) :
    PC Tryz.prog Y 79 [.msl id 0 n, .bool v] σ (.bool (l.any fun x => decide (v = x))) (σ) := by
  refine PC_of_W Tryz.func79 rfl (by kernel_rfl) Tryz.ntmps79 (by simp) fun hcl hca => ?_
  refine W_seq fun kz1 kq1 => ?_
  refine W_region [0, 1] fun R hR => ?_   -- r0
  simp only [go_sem]
  refine hR _ _ (kq1 _ _ ?_); clear hR R; try clear kq1 kz1
  try simp only [go_sem]
  refine W_seq fun kz2 kq2 => ?_
  refine W_region [4] fun R hR => ?_   -- r1
  simp only [go_sem]
  refine GCall_of (BindexM_pc Y _ l v id n hd hn hl) ?_   -- t7
  simp only [go_sem]
  refine hR _ _ (kq2 _ _ ?_); clear hR R; try clear kq2 kz2
  try simp only [go_sem]
  refine W_ret ?_
  simp only [go_sem]
  refine ⟨.inr (by trivial), ?_⟩
  first | refine Fin_same hcl rfl (Wk_eq ?_ (by simp only [go_sem])) | refine Fin_self hcl rfl (Wk_eq ?_ (by simp only [go_sem]))
  try simp only [go_sem]
  all_goals
    simp only [fIdx_any, go_sem]
set_option maxHeartbeats 2000000 in
theorem knownOf_ok (Y : YEnv) (σ : Sg) (s : Scale) (g : Night) (hs : s.Ok) (hg : g.Ok) (hE : knownE s g = 0) :
    PC Tryz.prog Y 56 [scPV s, ngPV g] σ (.tuple [.map (σ.store.length + 2), I 0]) (σ.ext [some (scCells s), some (ngCells g), some (.mark :: knE (knownK s g))] []) := by
  refine PC_of_W Tryz.func56 rfl (by kernel_rfl) Tryz.ntmps56 (by simp) fun hcl hca => ?_
  obtain ⟨hv, h1, h2, h3, h4, h5, h6⟩ := known_ok hE
  have hC := hv.c
  have q1 := hv.mt
  have q2 := hv.jd
  obtain ⟨K, hK⟩ : ∃ z, knownK s g = z := ⟨_, rfl⟩
  have hK2 : (missK s g.absent (openK s g.opened []).2).2 = K := hK
  rw [hK] at h5 ⊢
  refine W_seq fun kz1 kq1 => ?_
  refine W_region [2, 3] fun R hR => ?_   -- r0
  simp only [go_sem, hC, h1, h2, h3, h4, h6, hK2]
  refine hR _ _ (kq1 _ _ ?_); clear hR R; try clear kq1 kz1
  try simp only [go_sem, hC, h1, h2, h3, h4, h6, hK2]
  refine W_seq fun kz2 kq2 => ?_
  refine W_seq fun kz3 kq3 => ?_
  refine W_region [2, 3, 6] fun R hR => ?_   -- r1
  simp only [go_sem, hC, h1, h2, h3, h4, h6, hK2]
  refine GCall_of (Check_pc Y _ s hs) ?_   -- t14
  simp only [go_sem, hC, h1, h2, h3, h4, h6, hK2]
  refine hR _ _ (kq3 _ _ ?_); clear hR R; try clear kq3 kz3
  try simp only [go_sem, hC, h1, h2, h3, h4, h6, hK2]
  refine W_seq fun kz4 kq4 => ?_
  refine W_region [2, 3, 6, 16] fun R hR => ?_   -- r2
  simp only [go_sem, hC, h1, h2, h3, h4, h6, hK2]
  refine hR _ _ (kq4 _ _ ?_); clear hR R; try clear kq4 kz4
  try simp only [go_sem, hC, h1, h2, h3, h4, h6, hK2]
  refine W_cond_false rfl ?_
  refine W_skip (kq2 _ _ ?_)
  refine W_seq fun kz5 kq5 => ?_
  refine W_seq fun kz6 kq6 => ?_
  refine W_region [2, 3, 21] fun R hR => ?_   -- r4
  simp only [go_sem, hC, h1, h2, h3, h4, h6, hK2]
  refine hR _ _ (kq6 _ _ ?_); clear hR R; try clear kq6 kz6
  try simp only [go_sem, hC, h1, h2, h3, h4, h6, hK2]
  refine W_cond_false rfl ?_
  refine W_skip (kq5 _ _ ?_)
  refine W_seq fun kz7 kq7 => ?_
  refine W_region [2, 3, 7] fun R hR => ?_   -- r6
  simp only [go_sem, hC, h1, h2, h3, h4, h6, hK2]
  refine hR _ _ (kq7 _ _ ?_); clear hR R; try clear kq7 kz7
  try simp only [go_sem, hC, h1, h2, h3, h4, h6, hK2]
  refine W_seq fun kz8 kq8 => ?_
  refine W_seq fun kz9 kq9 => ?_
  refine W_region [2, 3, 7, 8] fun R hR => ?_   -- r7
  simp only [go_sem, hC, h1, h2, h3, h4, h6, hK2]
  refine GCall_of (open_pc Y _ (σ.store.length + 2) [] (Sg.get_ext ..) s g.opened hv knPos_nil (fun e he => by cases he) hg.ho hg.hm) ?_   -- t27
  simp only [go_sem, hC, h1, h2, h3, h4, h6, hK2]
  refine hR _ _ (kq9 _ _ ?_); clear hR R; try clear kq9 kz9
  try simp only [go_sem, hC, h1, h2, h3, h4, h6, hK2]
  refine W_seq fun kz10 kq10 => ?_
  refine W_region [2, 3, 7, 8, 29] fun R hR => ?_   -- r8
  simp only [go_sem, hC, h1, h2, h3, h4, h6, hK2]
  refine hR _ _ (kq10 _ _ ?_); clear hR R; try clear kq10 kz10
  try simp only [go_sem, hC, h1, h2, h3, h4, h6, hK2]
  refine W_cond_false rfl ?_
  refine W_skip (kq8 _ _ ?_)
  refine W_seq fun kz11 kq11 => ?_
  refine W_seq fun kz12 kq12 => ?_
  refine W_region [2, 3, 7, 34] fun R hR => ?_   -- r10
  simp only [go_sem, hC, h1, h2, h3, h4, h6, hK2]
  refine hR _ _ (kq12 _ _ ?_); clear hR R; try clear kq12 kz12
  try simp only [go_sem, hC, h1, h2, h3, h4, h6, hK2]
  refine W_cond_false rfl ?_
  refine W_skip (kq11 _ _ ?_)
  refine W_seq fun kz13 kq13 => ?_
  refine W_seq fun kz14 kq14 => ?_
  refine W_region [2, 3, 7, 9] fun R hR => ?_   -- r12
  simp only [go_sem, hC, h1, h2, h3, h4, h6, hK2]
  refine GCall_of (miss_pc Y _ (σ.store.length + 2) (openK s g.opened []).2 (Sg.get_ext ..) s g.absent hv hg.ha) ?_   -- t39
  simp only [go_sem, hC, h1, h2, h3, h4, h6, hK2]
  refine hR _ _ (kq14 _ _ ?_); clear hR R; try clear kq14 kz14
  try simp only [go_sem, hC, h1, h2, h3, h4, h6, hK2]
  refine W_seq fun kz15 kq15 => ?_
  refine W_region [2, 3, 7, 9, 41] fun R hR => ?_   -- r13
  simp only [go_sem, hC, h1, h2, h3, h4, h6, hK2]
  refine hR _ _ (kq15 _ _ ?_); clear hR R; try clear kq15 kz15
  try simp only [go_sem, hC, h1, h2, h3, h4, h6, hK2]
  refine W_cond_false rfl ?_
  refine W_skip (kq13 _ _ ?_)
  refine W_seq fun kz16 kq16 => ?_
  obtain ⟨M0, hM0⟩ : ∃ z : Nat, s.matters = z := ⟨s.matters.toNat, by omega⟩
  have mk112h : ∀ {τ : Sg}, makePV Tryz.prog τ 125 (I s.matters) (I s.matters) = some (.msl τ.store.length 0 s.matters.toNat, τ.push ((List.replicate s.matters.toNat false).map PV.bool)) := fun {τ} => by
    rw [hM0]; exact mk125 (by omega)
  refine W_region [2, 3, 7, 10] fun R hR => ?_   -- r15
  simp only [go_sem, hC, h1, h2, h3, h4, h6, hK2, mk112h]
  refine hR _ _ (kq16 _ _ ?_); clear hR R; try clear kq16 kz16
  try simp only [go_sem, hC, h1, h2, h3, h4, h6, hK2]
  refine W_seq fun kz17 kq17 => ?_
  refine W_seq fun kz18 kq18 => ?_
  refine W_region [2, 3, 7, 10, 47] fun R hR => ?_   -- r16
  simp only [go_sem, hC, h1, h2, h3, h4, h6, hK2]
  refine GCall_of (judges_pc Y _ s) ?_   -- t47
  simp only [go_sem, hC, h1, h2, h3, h4, h6, hK2]
  refine hR _ _ (kq18 _ _ ?_); clear hR R; try clear kq18 kz18
  try simp only [go_sem, hC, h1, h2, h3, h4, h6, hK2]
  refine W_block ?_
  obtain ⟨M, hM⟩ : ∃ z : Nat, s.matters = z := ⟨s.matters.toNat, by omega⟩
  obtain ⟨J, hJ⟩ : ∃ z : Nat, s.judges = z := ⟨s.judges.toNat, by omega⟩
  have hMt : s.matters.toNat = M := by omega
  have hMb : M < 2 ^ 40 := by omega
  have hJb : J < 2 ^ 40 := by omega
  let L : List Bool → List (Option (List PV)) := fun p => [some (scCells s), some (ngCells g), some (.mark :: knE K), some [.map (σ.store.length + 2)], some (p.map PV.bool), some [.msl (σ.store.length + 4) 0 M], some (scCells s)]
  let so : Nat → Sg := fun t => σ.ext (L (thUp K J M t)) [] [.ready]
  have hLc : ∀ p (n r y : Nat), σ.store.length + 7 ≤ n → CleanLs n r y (L p) := fun p n r y h1 => by
    have c1 := cleans_ng (a := n) (b := r) (c := y) g
    have c2 := cleans_sc (a := n) (b := r) (c := y) s
    refine CleanL_cons c2 (CleanL_cons c1 ?_)
    have c3 : CleanAll n r y (knE K) := cA_kn.mpr trivial
    have c4 : CleanAll n r y (p.map PV.bool) := fun q hq => by obtain ⟨x, _, rfl⟩ := List.mem_map.1 hq; exact .bool _
    show CleanLs _ _ _ _
    simp only [CleanLs_cons, CleanLs_nil, CleanAll_cons, CleanAll_nil, Cl_map, Cl_mark, Cl_msl, c3, c4, true_and, and_true]
    refine ⟨by omega, by omega, ?_⟩
    intro q hq
    exact c2 q hq
  try simp only [hMt]
  refine W_rangeFunc (gf := 98) (v := .tuple []) (s := .ready) (σ5 := so (M * J)) rfl (by simp) (fun args τ b' τ' => ∃ m n : Nat, m < M ∧ n < J ∧ args = [.agg [I m, I n]] ∧ b' = true ∧ τ = so (m * J + n) ∧ τ' = so (m * J + n + 1)) ?_ ?_ ?_ ?_ ?_
  · rintro args τ b τ' ⟨m, n, hm, hn, rfl, rfl, rfl, rfl⟩
    refine ⟨rfl, ?_, ?_⟩
    · simp only [so, go_sem]
    · simp only [so, L, go_sem]
      refine W_region [7, 10, 11] fun R hR => ?_   -- r17
      simp only [go_sem, hC, h1, h2, h3, h4, h6, hK2, putAll]
      refine hR _ _ ?_; clear hR R
      try simp only [go_sem, hC, h1, h2, h3, h4, h6, hK2, putAll]
      obtain ⟨tt, htt⟩ : ∃ z, thUp K J M (m * J + n) = z := ⟨_, rfl⟩
      have htl : tt.length = M := by rw [← htt]; exact thUp_len _ _ _ _
      obtain ⟨b0, hb0⟩ : ∃ z, tt[m]? = some z := ⟨tt[m]'(by omega), by simp⟩
      have hstep := thUp_step K (J := J) (M := M) (m := m) hn (b := b0) (by rw [htt]; exact hb0)
      rw [htt] at hstep
      try rw [hstep]
      try simp only [htt, hstep]
      have hm1 : m + 1 ≤ tt.length := by omega
      have hmI : (m : Int) < (M : Int) := by omega
      refine W_post_weak ?_
      refine W_block ?_
      refine W_draw [] [0, 1, 2, 3, 4, 5, 6, 7, 8, 9, 10, 11, 12, 13, 14, 15] [(0, 15), (1, 15), (2, 15)] [[], [], [1], [], [], [4], [3, 4, 5], [3, 4, 5, 6], [3, 4, 5, 6, 7], [3, 4, 5, 6, 7, 8], [3, 4, 5, 6, 7, 8], [3, 4, 5, 6, 7, 8, 9, 10], [3, 4, 5, 6, 7, 8, 9, 10, 11], [3, 4, 5, 6, 7, 8, 9, 10, 11, 12], [0, 1, 2, 3, 4, 5, 6, 7, 8, 9, 10, 11, 12, 13], [0, 1, 2, 3, 4, 5, 6, 7, 8, 9, 10, 11, 12, 13, 14]] mixed (by kernel_rfl) fun R hR => ?_   -- r18
      simp only [go_sem, hC, h1, h2, h3, h4, h6, hK2, putAll, hmI, iaM_nat hm, hb0, Nat.mul_one, Nat.zero_add, hm1, List.getElem?_map]
      refine GWant_split (fun g1 => ?_) (fun g1 => ?_)
      · try simp only [Bool.not_eq_true', Bool.not_eq_false'] at g1
        have n1 := g1; try simp only [nrm] at n1
        simp only [go_sem, hC, h1, h2, h3, h4, h6, hK2, putAll, hmI, iaM_nat hm, hb0, Nat.mul_one, Nat.zero_add, hm1, List.getElem?_map, g1]
        refine GCall_of (absent_pc Y _ (σ.store.length + 2) K (Sg.get_ext ..) ((m : Int), (n : Int))) ?_   -- t60
        simp only [go_sem, hC, h1, h2, h3, h4, h6, hK2, putAll, hmI, iaM_nat hm, hb0, Nat.mul_one, Nat.zero_add, hm1, List.getElem?_map, g1]
        try refine And.intro (by repeat' (first | refine And.intro ?_ ?_ | exact GOr_right (fun _ => by simp only [go_sem, hC, h1, h2, h3, h4, h6, hK2, putAll, hmI, iaM_nat hm, hb0, Nat.mul_one, Nat.zero_add, hm1, List.getElem?_map]))) ?_
        refine hR _ _ ?_; clear hR R
        try simp only [go_sem, hC, h1, h2, h3, h4, h6, hK2, putAll]
        refine ⟨[], _, Weak.cutExt 7 0 (Nat.le_refl _) (Nat.le_refl _) hcl ?_ Wk.nil_get, ?_⟩
        · exact hLc _ _ _ _ (by simp only [L, go_sem] <;> omega)
        · simp only [hstep, RoundEnd, go_sem]
          cases b0 <;> simp_all
      · try simp only [Bool.not_eq_true', Bool.not_eq_false'] at g1
        have n1 := g1; try simp only [nrm] at n1
        simp only [go_sem, hC, h1, h2, h3, h4, h6, hK2, putAll, hmI, iaM_nat hm, hb0, Nat.mul_one, Nat.zero_add, hm1, List.getElem?_map, g1]
        try refine And.intro (by repeat' (first | refine And.intro ?_ ?_ | exact GOr_right (fun _ => by simp only [go_sem, hC, h1, h2, h3, h4, h6, hK2, putAll, hmI, iaM_nat hm, hb0, Nat.mul_one, Nat.zero_add, hm1, List.getElem?_map]))) ?_
        refine hR _ _ ?_; clear hR R
        try simp only [go_sem, hC, h1, h2, h3, h4, h6, hK2, putAll]
        refine ⟨[], _, Weak.cutExt 7 0 (Nat.le_refl _) (Nat.le_refl _) hcl ?_ Wk.nil_get, ?_⟩
        · exact hLc _ _ _ _ (by simp only [L, go_sem] <;> omega)
        · simp only [hstep, RoundEnd, go_sem]
          cases b0 <;> simp_all
  · have hst := judges1_pc (Y.at σ.ys.length (fun args τ b' τ' => ∃ m n : Nat, m < M ∧ n < J ∧ args = [.agg [I m, I n]] ∧ b' = true ∧ τ = so (m * J + n) ∧ τ' = so (m * J + n + 1))) σ σ.ys.length (σ.store.length + 6) s so M J (M * J) false hM hJ hMb hJb
      (fun t _ => by simp only [so, L]; exact Sg.get_ext ..) (Nat.le_refl _) (fun _ => rfl) (fun h => by cases h)
      (fun m n h1 h2 _ => by rw [YEnv.at_self]; exact ⟨m, n, h1, h2, rfl, rfl, rfl, rfl⟩) (by simp only [so, L, go_sem]) (by simp only [so, L, go_sem]) (by simp only [so, L, go_sem])
      (fun _ => CleanSg_ext hcl (by refine hLc _ _ _ _ ?_; simp only [L, go_sem] <;> omega))
    have e0 : so 0 = σ.ext (L (List.replicate M false)) [] [.ready] := rfl
    rw [e0] at hst
    simp only [L, go_sem] at hst ⊢
    exact hst
  · simp only [so, L, go_sem]
  · simp only [go_sem]
    exact CleanCut_ext hcl (by simp only [so, L, go_sem] <;> omega) (by simp only [so, L, go_sem, Nat.le_add_right]) (by omega) (by refine hLc _ _ _ _ ?_; simp only [so, L, go_sem] <;> omega)
  · simp only [AfterLoop, so, L, go_sem]
    have hsh := thUp_short s K hM hJ (by omega)
    have htl := thUp_len K J M (M * J)
    generalize thUp K J M (M * J) = tt at hsh htl ⊢
    refine kq17 _ _ ?_
    refine W_seq fun kz19 kq19 => ?_
    refine W_seq fun kz20 kq20 => ?_
    refine W_region [2, 3, 7, 65] fun R hR => ?_   -- r19
    simp only [go_sem, hC, h1, h2, h3, h4, h6, hK2, hsh, h5]
    refine GCall_of (BcontainsM_pc Y _ tt false (σ.store.length + 4) M (Sg.get_ext ..) htl (by omega)) ?_   -- t65
    simp only [go_sem, hC, h1, h2, h3, h4, h6, hK2, hsh, h5]
    refine hR _ _ (kq20 _ _ ?_); clear hR R; try clear kq20 kz20
    try simp only [go_sem, hC, h1, h2, h3, h4, h6, hK2]
    refine W_cond_false rfl ?_
    refine W_skip (kq19 _ _ ?_)
    refine W_seq fun kz21 kq21 => ?_
    refine W_seq fun kz22 kq22 => ?_
    refine W_region [7, 12] fun R hR => ?_   -- r21
    simp only [go_sem, hC, h1, h2, h3, h4, h6, hK2]
    refine GCall_of (fines_pc Y _ s g.fines hv hg.hf) ?_   -- t69
    simp only [go_sem, hC, h1, h2, h3, h4, h6, hK2]
    refine hR _ _ (kq22 _ _ ?_); clear hR R; try clear kq22 kz22
    try simp only [go_sem, hC, h1, h2, h3, h4, h6, hK2]
    refine W_seq fun kz23 kq23 => ?_
    refine W_region [7, 12, 71] fun R hR => ?_   -- r22
    simp only [go_sem, hC, h1, h2, h3, h4, h6, hK2]
    refine hR _ _ (kq23 _ _ ?_); clear hR R; try clear kq23 kz23
    try simp only [go_sem, hC, h1, h2, h3, h4, h6, hK2]
    refine W_cond_false rfl ?_
    refine W_skip (kq21 _ _ ?_)
    refine W_seq fun kz24 kq24 => ?_
    refine W_region [4, 5] fun R hR => ?_   -- r24
    simp only [go_sem, hC, h1, h2, h3, h4, h6, hK2]
    refine hR _ _ (kq24 _ _ ?_); clear hR R; try clear kq24 kz24
    try simp only [go_sem, hC, h1, h2, h3, h4, h6, hK2]
    refine W_ret ?_
    simp only [go_sem, hC, h1, h2, h3, h4, h6, hK2]
    refine ⟨.inr (by trivial), ?_⟩
    exact Fin_ext 3 0 hcl rfl (Wk_eq rfl (by simp only [go_sem] <;> omega)) (by show CleanLs _ _ _ _; simp only [go_sem])
    try simp only [go_sem]
    all_goals
      skip
set_option maxHeartbeats 2000000 in
theorem knownOf_err (Y : YEnv) (σ : Sg) (s : Scale) (g : Night) (hs : s.Ok) (hg : g.Ok) (hE : knownE s g ≠ 0) :
    PC Tryz.prog Y 56 [scPV s, ngPV g] σ (.tuple [.nilmap, I (knownE s g)]) (σ) := by
  refine PC_of_W Tryz.func56 rfl (by kernel_rfl) Tryz.ntmps56 (by simp) fun hcl hca => ?_
  obtain ⟨res, hres⟩ : ∃ r, knownE s g = r := ⟨_, rfl⟩
  rw [hres]
  refine W_seq fun kz1 kq1 => ?_
  refine W_region [2, 3] fun R hR => ?_   -- r0
  simp only [go_sem]
  refine hR _ _ (kq1 _ _ ?_); clear hR R; try clear kq1 kz1
  try simp only [go_sem]
  refine W_seq fun kz2 kq2 => ?_
  refine W_seq fun kz3 kq3 => ?_
  refine W_region [2, 3, 6] fun R hR => ?_   -- r1
  simp only [go_sem]
  refine GCall_of (Check_pc Y _ s hs) ?_   -- t14
  simp only [go_sem]
  refine hR _ _ (kq3 _ _ ?_); clear hR R; try clear kq3 kz3
  try simp only [go_sem]
  refine W_seq fun kz4 kq4 => ?_
  refine W_region [2, 3, 6, 16] fun R hR => ?_   -- r2
  simp only [go_sem]
  refine hR _ _ (kq4 _ _ ?_); clear hR R; try clear kq4 kz4
  try simp only [go_sem]
  refine W_cond rfl (fun c1 => ?_) (fun c1 => ?_)
  · -- c1 true
    try simp only [nrm] at c1
    refine W_seq fun kz5 kq5 => ?_
    refine W_region [4, 5] fun R hR => ?_   -- r3
    simp only [go_sem]
    refine hR _ _ (kq5 _ _ ?_); clear hR R; try clear kq5 kz5
    try simp only [go_sem]
    refine W_ret ?_
    simp only [go_sem]
    refine ⟨.inr (by trivial), ?_⟩
    first | refine Fin_same hcl rfl (Wk_eq ?_ (by simp only [go_sem])) | refine Fin_self hcl rfl (Wk_eq ?_ (by simp only [go_sem]))
    try simp only [go_sem]
    all_goals
      rw [← hres]; clear hres hE; simp [knownE, *]
  · -- c1 false
    try simp only [nrm] at c1
    have hv := Scale.v c1
    have q1 := hv.mt
    have q2 := hv.jd
    obtain ⟨K, hK⟩ : ∃ z, knownK s g = z := ⟨_, rfl⟩
    have hK2 : (missK s g.absent (openK s g.opened []).2).2 = K := hK
    refine W_skip (kq2 _ _ ?_)
    refine W_seq fun kz6 kq6 => ?_
    refine W_seq fun kz7 kq7 => ?_
    refine W_region [2, 3, 21] fun R hR => ?_   -- r4
    simp only [go_sem]
    refine hR _ _ (kq7 _ _ ?_); clear hR R; try clear kq7 kz7
    try simp only [go_sem]
    refine W_cond rfl (fun c2 => ?_) (fun c2 => ?_)
    · -- c2 true
      try simp only [nrm] at c2
      refine W_seq fun kz8 kq8 => ?_
      refine W_region [4, 5] fun R hR => ?_   -- r5
      simp only [go_sem]
      refine hR _ _ (kq8 _ _ ?_); clear hR R; try clear kq8 kz8
      try simp only [go_sem]
      refine W_ret ?_
      simp only [go_sem]
      refine ⟨.inr (by trivial), ?_⟩
      first | refine Fin_same hcl rfl (Wk_eq ?_ (by simp only [go_sem])) | refine Fin_self hcl rfl (Wk_eq ?_ (by simp only [go_sem]))
      try simp only [go_sem]
      all_goals
        rw [← hres]; clear hres hE; simp [knownE, *]
    · -- c2 false
      try simp only [nrm] at c2
      refine W_skip (kq6 _ _ ?_)
      refine W_seq fun kz9 kq9 => ?_
      refine W_region [2, 3, 7] fun R hR => ?_   -- r6
      simp only [go_sem]
      refine hR _ _ (kq9 _ _ ?_); clear hR R; try clear kq9 kz9
      try simp only [go_sem]
      refine W_seq fun kz10 kq10 => ?_
      refine W_seq fun kz11 kq11 => ?_
      refine W_region [2, 3, 7, 8] fun R hR => ?_   -- r7
      simp only [go_sem]
      refine GCall_of (open_pc Y _ (σ.store.length + 2) [] (Sg.get_ext ..) s g.opened hv knPos_nil (fun e he => by cases he) hg.ho hg.hm) ?_   -- t27
      simp only [go_sem]
      refine hR _ _ (kq11 _ _ ?_); clear hR R; try clear kq11 kz11
      try simp only [go_sem]
      refine W_seq fun kz12 kq12 => ?_
      refine W_region [2, 3, 7, 8, 29] fun R hR => ?_   -- r8
      simp only [go_sem]
      refine hR _ _ (kq12 _ _ ?_); clear hR R; try clear kq12 kz12
      try simp only [go_sem]
      refine W_cond rfl (fun c3 => ?_) (fun c3 => ?_)
      · -- c3 true
        try simp only [nrm] at c3
        refine W_seq fun kz13 kq13 => ?_
        refine W_region [4, 5] fun R hR => ?_   -- r9
        simp only [go_sem]
        refine hR _ _ (kq13 _ _ ?_); clear hR R; try clear kq13 kz13
        try simp only [go_sem]
        refine W_ret ?_
        simp only [go_sem]
        refine ⟨.inr (by trivial), ?_⟩
        first | refine Fin_same hcl rfl (Wk_eq ?_ (by simp only [go_sem])) | refine Fin_self hcl rfl (Wk_eq ?_ (by simp only [go_sem]))
        try simp only [go_sem]
        all_goals
          rw [← hres]; clear hres hE; simp [knownE, *]
      · -- c3 false
        try simp only [nrm] at c3
        refine W_skip (kq10 _ _ ?_)
        refine W_seq fun kz14 kq14 => ?_
        refine W_seq fun kz15 kq15 => ?_
        refine W_region [2, 3, 7, 34] fun R hR => ?_   -- r10
        simp only [go_sem]
        refine hR _ _ (kq15 _ _ ?_); clear hR R; try clear kq15 kz15
        try simp only [go_sem]
        refine W_cond rfl (fun c4 => ?_) (fun c4 => ?_)
        · -- c4 true
          try simp only [nrm] at c4
          refine W_seq fun kz16 kq16 => ?_
          refine W_region [4, 5] fun R hR => ?_   -- r11
          simp only [go_sem]
          refine hR _ _ (kq16 _ _ ?_); clear hR R; try clear kq16 kz16
          try simp only [go_sem]
          refine W_ret ?_
          simp only [go_sem]
          refine ⟨.inr (by trivial), ?_⟩
          first | refine Fin_same hcl rfl (Wk_eq ?_ (by simp only [go_sem])) | refine Fin_self hcl rfl (Wk_eq ?_ (by simp only [go_sem]))
          try simp only [go_sem]
          all_goals
            rw [← hres]; clear hres hE; simp [knownE, *]
        · -- c4 false
          try simp only [nrm] at c4
          refine W_skip (kq14 _ _ ?_)
          refine W_seq fun kz17 kq17 => ?_
          refine W_seq fun kz18 kq18 => ?_
          refine W_region [2, 3, 7, 9] fun R hR => ?_   -- r12
          simp only [go_sem]
          refine GCall_of (miss_pc Y _ (σ.store.length + 2) (openK s g.opened []).2 (Sg.get_ext ..) s g.absent hv hg.ha) ?_   -- t39
          simp only [go_sem]
          refine hR _ _ (kq18 _ _ ?_); clear hR R; try clear kq18 kz18
          try simp only [go_sem]
          refine W_seq fun kz19 kq19 => ?_
          refine W_region [2, 3, 7, 9, 41] fun R hR => ?_   -- r13
          simp only [go_sem]
          refine hR _ _ (kq19 _ _ ?_); clear hR R; try clear kq19 kz19
          try simp only [go_sem]
          refine W_cond rfl (fun c5 => ?_) (fun c5 => ?_)
          · -- c5 true
            try simp only [nrm] at c5
            refine W_seq fun kz20 kq20 => ?_
            refine W_region [4, 5] fun R hR => ?_   -- r14
            simp only [go_sem]
            refine hR _ _ (kq20 _ _ ?_); clear hR R; try clear kq20 kz20
            try simp only [go_sem]
            refine W_ret ?_
            simp only [go_sem]
            refine ⟨.inr (by trivial), ?_⟩
            first | refine Fin_same hcl rfl (Wk_eq ?_ (by simp only [go_sem])) | refine Fin_self hcl rfl (Wk_eq ?_ (by simp only [go_sem]))
            try simp only [go_sem]
            all_goals
              rw [← hres]; clear hres hE; simp [knownE, *]
          · -- c5 false
            try simp only [nrm] at c5
            simp only [hK2]
            refine W_skip (kq17 _ _ ?_)
            refine W_seq fun kz21 kq21 => ?_
            obtain ⟨M0, hM0⟩ : ∃ z : Nat, s.matters = z := ⟨s.matters.toNat, by omega⟩
            have mk112h : ∀ {τ : Sg}, makePV Tryz.prog τ 125 (I s.matters) (I s.matters) = some (.msl τ.store.length 0 s.matters.toNat, τ.push ((List.replicate s.matters.toNat false).map PV.bool)) := fun {τ} => by
              rw [hM0]; exact mk125 (by omega)
            refine W_region [2, 3, 7, 10] fun R hR => ?_   -- r15
            simp only [go_sem, hK2, mk112h]
            refine hR _ _ (kq21 _ _ ?_); clear hR R; try clear kq21 kz21
            try simp only [go_sem, hK2]
            refine W_seq fun kz22 kq22 => ?_
            refine W_seq fun kz23 kq23 => ?_
            refine W_region [2, 3, 7, 10, 47] fun R hR => ?_   -- r16
            simp only [go_sem, hK2]
            refine GCall_of (judges_pc Y _ s) ?_   -- t47
            simp only [go_sem, hK2]
            refine hR _ _ (kq23 _ _ ?_); clear hR R; try clear kq23 kz23
            try simp only [go_sem, hK2]
            refine W_block ?_
            obtain ⟨M, hM⟩ : ∃ z : Nat, s.matters = z := ⟨s.matters.toNat, by omega⟩
            obtain ⟨J, hJ⟩ : ∃ z : Nat, s.judges = z := ⟨s.judges.toNat, by omega⟩
            have hMt : s.matters.toNat = M := by omega
            have hMb : M < 2 ^ 40 := by omega
            have hJb : J < 2 ^ 40 := by omega
            let L : List Bool → List (Option (List PV)) := fun p => [some (scCells s), some (ngCells g), some (.mark :: knE K), some [.map (σ.store.length + 2)], some (p.map PV.bool), some [.msl (σ.store.length + 4) 0 M], some (scCells s)]
            let so : Nat → Sg := fun t => σ.ext (L (thUp K J M t)) [] [.ready]
            have hLc : ∀ p (n r y : Nat), σ.store.length + 7 ≤ n → CleanLs n r y (L p) := fun p n r y h1 => by
              have c1 := cleans_ng (a := n) (b := r) (c := y) g
              have c2 := cleans_sc (a := n) (b := r) (c := y) s
              refine CleanL_cons c2 (CleanL_cons c1 ?_)
              have c3 : CleanAll n r y (knE K) := cA_kn.mpr trivial
              have c4 : CleanAll n r y (p.map PV.bool) := fun q hq => by obtain ⟨x, _, rfl⟩ := List.mem_map.1 hq; exact .bool _
              show CleanLs _ _ _ _
              simp only [CleanLs_cons, CleanLs_nil, CleanAll_cons, CleanAll_nil, Cl_map, Cl_mark, Cl_msl, c3, c4, true_and, and_true]
              refine ⟨by omega, by omega, ?_⟩
              intro q hq
              exact c2 q hq
            try simp only [hMt]
            refine W_rangeFunc (gf := 98) (v := .tuple []) (s := .ready) (σ5 := so (M * J)) rfl (by simp) (fun args τ b' τ' => ∃ m n : Nat, m < M ∧ n < J ∧ args = [.agg [I m, I n]] ∧ b' = true ∧ τ = so (m * J + n) ∧ τ' = so (m * J + n + 1)) ?_ ?_ ?_ ?_ ?_
            · rintro args τ b τ' ⟨m, n, hm, hn, rfl, rfl, rfl, rfl⟩
              refine ⟨rfl, ?_, ?_⟩
              · simp only [so, go_sem]
              · simp only [so, L, go_sem]
                refine W_region [7, 10, 11] fun R hR => ?_   -- r17
                simp only [go_sem, hK2, putAll]
                refine hR _ _ ?_; clear hR R
                try simp only [go_sem, hK2, putAll]
                obtain ⟨tt, htt⟩ : ∃ z, thUp K J M (m * J + n) = z := ⟨_, rfl⟩
                have htl : tt.length = M := by rw [← htt]; exact thUp_len _ _ _ _
                obtain ⟨b0, hb0⟩ : ∃ z, tt[m]? = some z := ⟨tt[m]'(by omega), by simp⟩
                have hstep := thUp_step K (J := J) (M := M) (m := m) hn (b := b0) (by rw [htt]; exact hb0)
                rw [htt] at hstep
                try rw [hstep]
                try simp only [htt, hstep]
                have hm1 : m + 1 ≤ tt.length := by omega
                have hmI : (m : Int) < (M : Int) := by omega
                refine W_post_weak ?_
                refine W_block ?_
                refine W_draw [] [0, 1, 2, 3, 4, 5, 6, 7, 8, 9, 10, 11, 12, 13, 14, 15] [(0, 15), (1, 15), (2, 15)] [[], [], [1], [], [], [4], [3, 4, 5], [3, 4, 5, 6], [3, 4, 5, 6, 7], [3, 4, 5, 6, 7, 8], [3, 4, 5, 6, 7, 8], [3, 4, 5, 6, 7, 8, 9, 10], [3, 4, 5, 6, 7, 8, 9, 10, 11], [3, 4, 5, 6, 7, 8, 9, 10, 11, 12], [0, 1, 2, 3, 4, 5, 6, 7, 8, 9, 10, 11, 12, 13], [0, 1, 2, 3, 4, 5, 6, 7, 8, 9, 10, 11, 12, 13, 14]] mixed (by kernel_rfl) fun R hR => ?_   -- r18
                simp only [go_sem, hK2, putAll, hmI, iaM_nat hm, hb0, Nat.mul_one, Nat.zero_add, hm1, List.getElem?_map]
                refine GWant_split (fun g1 => ?_) (fun g1 => ?_)
                · try simp only [Bool.not_eq_true', Bool.not_eq_false'] at g1
                  have n1 := g1; try simp only [nrm] at n1
                  simp only [go_sem, hK2, putAll, hmI, iaM_nat hm, hb0, Nat.mul_one, Nat.zero_add, hm1, List.getElem?_map, g1]
                  refine GCall_of (absent_pc Y _ (σ.store.length + 2) K (Sg.get_ext ..) ((m : Int), (n : Int))) ?_   -- t60
                  simp only [go_sem, hK2, putAll, hmI, iaM_nat hm, hb0, Nat.mul_one, Nat.zero_add, hm1, List.getElem?_map, g1]
                  try refine And.intro (by repeat' (first | refine And.intro ?_ ?_ | exact GOr_right (fun _ => by simp only [go_sem, hK2, putAll, hmI, iaM_nat hm, hb0, Nat.mul_one, Nat.zero_add, hm1, List.getElem?_map]))) ?_
                  refine hR _ _ ?_; clear hR R
                  try simp only [go_sem, hK2, putAll]
                  refine ⟨[], _, Weak.cutExt 7 0 (Nat.le_refl _) (Nat.le_refl _) hcl ?_ Wk.nil_get, ?_⟩
                  · exact hLc _ _ _ _ (by simp only [L, go_sem] <;> omega)
                  · simp only [hstep, RoundEnd, go_sem]
                    cases b0 <;> simp_all
                · try simp only [Bool.not_eq_true', Bool.not_eq_false'] at g1
                  have n1 := g1; try simp only [nrm] at n1
                  simp only [go_sem, hK2, putAll, hmI, iaM_nat hm, hb0, Nat.mul_one, Nat.zero_add, hm1, List.getElem?_map, g1]
                  try refine And.intro (by repeat' (first | refine And.intro ?_ ?_ | exact GOr_right (fun _ => by simp only [go_sem, hK2, putAll, hmI, iaM_nat hm, hb0, Nat.mul_one, Nat.zero_add, hm1, List.getElem?_map]))) ?_
                  refine hR _ _ ?_; clear hR R
                  try simp only [go_sem, hK2, putAll]
                  refine ⟨[], _, Weak.cutExt 7 0 (Nat.le_refl _) (Nat.le_refl _) hcl ?_ Wk.nil_get, ?_⟩
                  · exact hLc _ _ _ _ (by simp only [L, go_sem] <;> omega)
                  · simp only [hstep, RoundEnd, go_sem]
                    cases b0 <;> simp_all
            · have hst := judges1_pc (Y.at σ.ys.length (fun args τ b' τ' => ∃ m n : Nat, m < M ∧ n < J ∧ args = [.agg [I m, I n]] ∧ b' = true ∧ τ = so (m * J + n) ∧ τ' = so (m * J + n + 1))) σ σ.ys.length (σ.store.length + 6) s so M J (M * J) false hM hJ hMb hJb
                (fun t _ => by simp only [so, L]; exact Sg.get_ext ..) (Nat.le_refl _) (fun _ => rfl) (fun h => by cases h)
                (fun m n h1 h2 _ => by rw [YEnv.at_self]; exact ⟨m, n, h1, h2, rfl, rfl, rfl, rfl⟩) (by simp only [so, L, go_sem]) (by simp only [so, L, go_sem]) (by simp only [so, L, go_sem])
                (fun _ => CleanSg_ext hcl (by refine hLc _ _ _ _ ?_; simp only [L, go_sem] <;> omega))
              have e0 : so 0 = σ.ext (L (List.replicate M false)) [] [.ready] := rfl
              rw [e0] at hst
              simp only [L, go_sem] at hst ⊢
              exact hst
            · simp only [so, L, go_sem]
            · simp only [go_sem]
              exact CleanCut_ext hcl (by simp only [so, L, go_sem] <;> omega) (by simp only [so, L, go_sem, Nat.le_add_right]) (by omega) (by refine hLc _ _ _ _ ?_; simp only [so, L, go_sem] <;> omega)
            · simp only [AfterLoop, so, L, go_sem]
              have hsh := thUp_short s K hM hJ (by omega)
              have htl := thUp_len K J M (M * J)
              generalize thUp K J M (M * J) = tt at hsh htl ⊢
              refine kq22 _ _ ?_
              refine W_seq fun kz24 kq24 => ?_
              refine W_seq fun kz25 kq25 => ?_
              refine W_region [2, 3, 7, 65] fun R hR => ?_   -- r19
              simp only [go_sem, hK2, hsh]
              refine GCall_of (BcontainsM_pc Y _ tt false (σ.store.length + 4) M (Sg.get_ext ..) htl (by omega)) ?_   -- t65
              simp only [go_sem, hK2, hsh]
              refine hR _ _ (kq25 _ _ ?_); clear hR R; try clear kq25 kz25
              try simp only [go_sem, hK2]
              refine W_cond rfl (fun c6 => ?_) (fun c6 => ?_)
              · -- c6 true
                try simp only [nrm] at c6
                refine W_seq fun kz26 kq26 => ?_
                refine W_region [4, 5] fun R hR => ?_   -- r20
                simp only [go_sem, hK2]
                refine hR _ _ (kq26 _ _ ?_); clear hR R; try clear kq26 kz26
                try simp only [go_sem, hK2]
                refine W_ret ?_
                simp only [go_sem, hK2]
                refine ⟨.inr (by trivial), ?_⟩
                first | refine Fin_same hcl rfl (Wk_eq ?_ (by simp only [go_sem])) | refine Fin_self hcl rfl (Wk_eq ?_ (by simp only [go_sem]))
                try simp only [go_sem]
                all_goals
                  rw [← hres]; clear hres hE; simp [knownE, *]
              · -- c6 false
                try simp only [nrm] at c6
                refine W_skip (kq24 _ _ ?_)
                refine W_seq fun kz27 kq27 => ?_
                refine W_seq fun kz28 kq28 => ?_
                refine W_region [7, 12] fun R hR => ?_   -- r21
                simp only [go_sem, hK2]
                refine GCall_of (fines_pc Y _ s g.fines hv hg.hf) ?_   -- t69
                simp only [go_sem, hK2]
                refine hR _ _ (kq28 _ _ ?_); clear hR R; try clear kq28 kz28
                try simp only [go_sem, hK2]
                refine W_seq fun kz29 kq29 => ?_
                refine W_region [7, 12, 71] fun R hR => ?_   -- r22
                simp only [go_sem, hK2]
                refine hR _ _ (kq29 _ _ ?_); clear hR R; try clear kq29 kz29
                try simp only [go_sem, hK2]
                refine W_cond rfl (fun c7 => ?_) (fun c7 => ?_)
                · -- c7 true
                  try simp only [nrm] at c7
                  refine W_seq fun kz30 kq30 => ?_
                  refine W_region [4, 5] fun R hR => ?_   -- r23
                  simp only [go_sem, hK2]
                  refine hR _ _ (kq30 _ _ ?_); clear hR R; try clear kq30 kz30
                  try simp only [go_sem, hK2]
                  refine W_ret ?_
                  simp only [go_sem, hK2]
                  refine ⟨.inr (by trivial), ?_⟩
                  first | refine Fin_same hcl rfl (Wk_eq ?_ (by simp only [go_sem])) | refine Fin_self hcl rfl (Wk_eq ?_ (by simp only [go_sem]))
                  try simp only [go_sem]
                  all_goals
                    rw [← hres]; clear hres hE; simp [knownE, *]
                · -- c7 false
                  try simp only [nrm] at c7
                  exfalso
                  apply hE
                  clear hres hE
                  simp [knownE, *]
end Go.Proofs.YtgelnjmddabgpaaGreat
