/-
  Sorting and compacting, as the library does it.
  The types of this seat's program, as the pure reading asks of them.
  What the operations do at this seat's types.
  The rules by which a walk is worked out.
  Facts of this seat's types for slices that grow in place.
  Conversions at this seat's types; shifts; pointers that are not nil.
  Parts of slices at this seat's types.
  A slice of numbers that grows in place in a variable's cell, is sorted, compacted, and read at last.
  What is done to texts at this seat's types.
  Builders and decimal numerals, as the library makes them.
  Walks: a builder is written to; what it holds becomes a string.
  A copy of nothing.
  Calls that a run takes from contracts: builders, numbers as text, compacting.
  The pure reading, run: calls of closed arguments that hand back plain values, run from nothing, are as they were in every state; such calls remembered.
-/
import Derived.Test.YteklodljdndcoaaDoorPe
import Derived.CallsIn
import Derived.RangeFuncLeaves
import Derived.RangeFuncRecord
import Derived.OrdersIn
import Derived.Below
import Derived.Laws.World
import Derived.Laws.StructEq
import Derived.Laws.Append
import Derived.MapKept
import Derived.ProofKit
import Derived.Carry
import Derived.Handed
import Derived.ChangeCalls
import Derived.Stop.Joined
import Derived.Lib.LaidTab
import Derived.Shelf.Strconv.Itoa3
import Derived.RangeFuncIn
import Derived.RangeFuncNested
import Derived.Sort.OwnSortedInts
import Derived.Lib.SlicesCompact
import Derived.Test.YteklodljdndcoaaDoorProg
import Derived.KernelRfl
import Derived.Shelf.Sort.Plain
import Derived.Shelf.Slices.In.SortNone
import Derived.Shelf.Slices.CompactI
import Derived.IntWalk
import Derived.Shelf.Strings.Builder1
import Derived.Test.YteklodljdndcoaaDoorCards
import Derived.Test.YteklodljdndcoaaDoorTie
import Derived.JoinedOf
import Derived.LaidMore
import Derived.LaidSub
import Derived.Lay
import Derived.SevenTiedAt
set_option linter.unusedSimpArgs false
set_option linter.unusedVariables false
namespace Go.Proofs.YteklodljdndcoaaDoor
open Go Go.RowKit
set_option maxRecDepth 100000
def lays2_20_ren : Go.Shelf.Ren := ⟨fun | 20 => 29 | n => n, fun | 22 => 22 | 3 => 3 | 4 => 4 | 0 => 0 | n => n, fun n => n⟩
theorem lays2_20 : Lays2.n20 Tryd.prog lays2_20_ren where
  mixed := by kernel_rfl
  f20 := Tryd.func29.trans (congrArg some (by kernel_rfl))
  t0 := Tryd.underlying0
  a0 := Tryd.isAgg0
  z0 := Tryd.sizeOf0
  v0 := Tryd.zeroValue0
  t3 := Tryd.underlying3
  a3 := Tryd.isAgg3
  z3 := Tryd.sizeOf3
  v3 := Tryd.zeroValue3
  t4 := Tryd.underlying4
  a4 := Tryd.isAgg4
  z4 := Tryd.sizeOf4
  v4 := Tryd.zeroValue4
  t22 := Tryd.underlying22
  a22 := Tryd.isAgg22
  z22 := Tryd.sizeOf22
  v22 := Tryd.zeroValue22
  i3 := by kernel_rfl
theorem compactsI : CompactsI Tryd.prog 29 := ⟨by kernel_rfl, Any.slices_Compact_int_empty lays2_20, Any.slices_Compact_int lays2_20⟩
end Go.Proofs.YteklodljdndcoaaDoor
namespace Go.Proofs.YteklodljdndcoaaDoor
open Go
theorem cells2 : Tryd.prog.cellsOf 2 = 1 := by kernel_rfl
theorem zero2 : zeroPV Tryd.prog 2 = some [.int .i64 0] := by kernel_rfl
theorem cells3 : Tryd.prog.cellsOf 3 = 1 := by kernel_rfl
theorem bytes3 : Tryd.prog.bytesOf 3 = 8 := by kernel_rfl
theorem zero3 : zeroPV Tryd.prog 3 = some [.int .i64 0] := by kernel_rfl
theorem cells4 : Tryd.prog.cellsOf 4 = 1 := by kernel_rfl
theorem bytes4 : Tryd.prog.bytesOf 4 = 1 := by kernel_rfl
theorem zero4 : zeroPV Tryd.prog 4 = some [.bool false] := by kernel_rfl
theorem cells5 : Tryd.prog.cellsOf 5 = 1 := by kernel_rfl
theorem bytes5 : Tryd.prog.bytesOf 5 = 1 := by kernel_rfl
theorem zero5 : zeroPV Tryd.prog 5 = some [.int .u8 0] := by kernel_rfl
theorem cells9 : Tryd.prog.cellsOf 9 = 1 := by kernel_rfl
theorem zero9 : zeroPV Tryd.prog 9 = some [.str .empty] := by kernel_rfl
theorem cells22 : Tryd.prog.cellsOf 22 = 1 := by kernel_rfl
theorem bytes22 : Tryd.prog.bytesOf 22 = 24 := by kernel_rfl
theorem zero22 : zeroPV Tryd.prog 22 = some [.isl [] .exact] := by kernel_rfl
theorem cells23 : Tryd.prog.cellsOf 23 = 1 := by kernel_rfl
theorem zero23 : zeroPV Tryd.prog 23 = some [.isl [] .exact] := by kernel_rfl
theorem cells24 : Tryd.prog.cellsOf 24 = 1 := by kernel_rfl
theorem zero24 : zeroPV Tryd.prog 24 = some [.isl [] .exact] := by kernel_rfl
theorem cells25 : Tryd.prog.cellsOf 25 = 4 := by kernel_rfl
theorem zero25 : zeroPV Tryd.prog 25 = some [.isl [] .exact, .isl [] .exact, .isl [] .exact, .int .i64 0] := by kernel_rfl
theorem cells26 : Tryd.prog.cellsOf 26 = 4 := by kernel_rfl
theorem zero26 : zeroPV Tryd.prog 26 = some [.isl [] .exact, .isl [] .exact, .isl [] .exact, .int .i64 0] := by kernel_rfl
theorem cells27 : Tryd.prog.cellsOf 27 = 6 := by kernel_rfl
theorem zero27 : zeroPV Tryd.prog 27 = some [.isl [] .exact, .isl [] .exact, .isl [] .exact, .int .i64 0, .int .i64 0, .isl [] .exact] := by kernel_rfl
theorem cells28 : Tryd.prog.cellsOf 28 = 6 := by kernel_rfl
theorem zero28 : zeroPV Tryd.prog 28 = some [.isl [] .exact, .isl [] .exact, .isl [] .exact, .int .i64 0, .int .i64 0, .isl [] .exact] := by kernel_rfl
theorem cells30 : Tryd.prog.cellsOf 30 = 2 := by kernel_rfl
theorem zero30 : zeroPV Tryd.prog 30 = some [.int .i64 0, .int .i64 0] := by kernel_rfl
theorem cells31 : Tryd.prog.cellsOf 31 = 2 := by kernel_rfl
theorem zero31 : zeroPV Tryd.prog 31 = some [.int .i64 0, .int .i64 0] := by kernel_rfl
theorem cells32 : Tryd.prog.cellsOf 32 = 6 := by kernel_rfl
theorem zero32 : zeroPV Tryd.prog 32 = some [.int .i64 0, .isl [] .exact, .int .i64 0, .int .i64 0, .int .i64 0, .int .i64 0] := by kernel_rfl
theorem cells33 : Tryd.prog.cellsOf 33 = 6 := by kernel_rfl
theorem bytes33 : Tryd.prog.bytesOf 33 = 64 := by kernel_rfl
theorem zero33 : zeroPV Tryd.prog 33 = some [.int .i64 0, .isl [] .exact, .int .i64 0, .int .i64 0, .int .i64 0, .int .i64 0] := by kernel_rfl
theorem cells34 : Tryd.prog.cellsOf 34 = 1 := by kernel_rfl
theorem zero34 : zeroPV Tryd.prog 34 = some [.isl [] .exact] := by kernel_rfl
theorem cells37 : Tryd.prog.cellsOf 37 = 1 := by kernel_rfl
theorem bytes37 : Tryd.prog.bytesOf 37 = 8 := by kernel_rfl
theorem zero37 : zeroPV Tryd.prog 37 = some [.int .i64 0] := by kernel_rfl
theorem cells42 : Tryd.prog.cellsOf 42 = 1 := by kernel_rfl
theorem zero42 : zeroPV Tryd.prog 42 = some [.isl [] .exact] := by kernel_rfl
theorem cells43 : Tryd.prog.cellsOf 43 = 1 := by kernel_rfl
theorem zero43 : zeroPV Tryd.prog 43 = some [.isl [] .exact] := by kernel_rfl
theorem cells51 : Tryd.prog.cellsOf 51 = 2 := by kernel_rfl
theorem zero51 : zeroPV Tryd.prog 51 = some [.int .i64 0, .int .i64 0] := by kernel_rfl
theorem cells52 : Tryd.prog.cellsOf 52 = 2 := by kernel_rfl
theorem bytes52 : Tryd.prog.bytesOf 52 = 16 := by kernel_rfl
theorem zero52 : zeroPV Tryd.prog 52 = some [.int .i64 0, .int .i64 0] := by kernel_rfl
theorem cells54 : Tryd.prog.cellsOf 54 = 1 := by kernel_rfl
theorem zero54 : zeroPV Tryd.prog 54 = some [.isl [] .exact] := by kernel_rfl
theorem cells64 : Tryd.prog.cellsOf 64 = 1 := by kernel_rfl
theorem zero64 : zeroPV Tryd.prog 64 = some [.nilfunc] := by kernel_rfl
theorem cells67 : Tryd.prog.cellsOf 67 = 1 := by kernel_rfl
theorem zero67 : zeroPV Tryd.prog 67 = some [.isl [] .exact] := by kernel_rfl
theorem cells68 : Tryd.prog.cellsOf 68 = 3 := by kernel_rfl
theorem zero68 : zeroPV Tryd.prog 68 = some [.int .i64 0, .int .i64 0, .int .i64 0] := by kernel_rfl
theorem cells69 : Tryd.prog.cellsOf 69 = 3 := by kernel_rfl
theorem bytes69 : Tryd.prog.bytesOf 69 = 24 := by kernel_rfl
theorem zero69 : zeroPV Tryd.prog 69 = some [.int .i64 0, .int .i64 0, .int .i64 0] := by kernel_rfl
theorem cells82 : Tryd.prog.cellsOf 82 = 13 := by kernel_rfl
theorem zero82 : zeroPV Tryd.prog 82 = some [.isl [] .exact, .isl [] .exact, .isl [] .exact, .int .i64 0, .int .i64 0, .isl [] .exact, .isl [] .exact, .int .i64 0, .isl [] .exact, .int .i64 0, .int .i64 0, .int .i64 0, .int .i64 0] := by kernel_rfl
theorem cells83 : Tryd.prog.cellsOf 83 = 13 := by kernel_rfl
theorem zero83 : zeroPV Tryd.prog 83 = some [.isl [] .exact, .isl [] .exact, .isl [] .exact, .int .i64 0, .int .i64 0, .isl [] .exact, .isl [] .exact, .int .i64 0, .isl [] .exact, .int .i64 0, .int .i64 0, .int .i64 0, .int .i64 0] := by kernel_rfl
theorem cells84 : Tryd.prog.cellsOf 84 = 1 := by kernel_rfl
theorem bytes84 : Tryd.prog.bytesOf 84 = 8 := by kernel_rfl
theorem zero84 : zeroPV Tryd.prog 84 = some [.nilfunc] := by kernel_rfl
theorem cells86 : Tryd.prog.cellsOf 86 = 7 := by kernel_rfl
theorem zero86 : zeroPV Tryd.prog 86 = some [.int .i64 0, .int .i64 0, .int .i64 0, .int .i64 0, .int .i64 0, .int .i64 0, .isl [] .exact] := by kernel_rfl
theorem cells87 : Tryd.prog.cellsOf 87 = 7 := by kernel_rfl
theorem bytes87 : Tryd.prog.bytesOf 87 = 72 := by kernel_rfl
theorem zero87 : zeroPV Tryd.prog 87 = some [.int .i64 0, .int .i64 0, .int .i64 0, .int .i64 0, .int .i64 0, .int .i64 0, .isl [] .exact] := by kernel_rfl
theorem cells93 : Tryd.prog.cellsOf 93 = 1 := by kernel_rfl
theorem zero93 : zeroPV Tryd.prog 93 = some [.int .u64 0] := by kernel_rfl
theorem cells95 : Tryd.prog.cellsOf 95 = 720 := by kernel_rfl
theorem cells96 : Tryd.prog.cellsOf 96 = 720 := by kernel_rfl
theorem cells98 : Tryd.prog.cellsOf 98 = 1 := by kernel_rfl
theorem zero98 : zeroPV Tryd.prog 98 = some [.nilfunc] := by kernel_rfl
theorem cells103 : Tryd.prog.cellsOf 103 = 1 := by kernel_rfl
theorem zero103 : zeroPV Tryd.prog 103 = some [.nilptr] := by kernel_rfl
theorem cells104 : Tryd.prog.cellsOf 104 = 1 := by kernel_rfl
theorem zero104 : zeroPV Tryd.prog 104 = some [.isl [] .exact] := by kernel_rfl
theorem cells105 : Tryd.prog.cellsOf 105 = 2 := by kernel_rfl
theorem zero105 : zeroPV Tryd.prog 105 = some [.nilptr, .isl [] .exact] := by kernel_rfl
theorem cells106 : Tryd.prog.cellsOf 106 = 2 := by kernel_rfl
theorem zero106 : zeroPV Tryd.prog 106 = some [.nilptr, .isl [] .exact] := by kernel_rfl
theorem cells108 : Tryd.prog.cellsOf 108 = 1 := by kernel_rfl
theorem zero108 : zeroPV Tryd.prog 108 = some [.niliface] := by kernel_rfl
theorem cells118 : Tryd.prog.cellsOf 118 = 1 := by kernel_rfl
theorem zero118 : zeroPV Tryd.prog 118 = some [.int .i64 0] := by kernel_rfl
theorem cells127 : Tryd.prog.cellsOf 127 = 1 := by kernel_rfl
theorem zero127 : zeroPV Tryd.prog 127 = some [.int .u32 0] := by kernel_rfl
theorem cells129 : Tryd.prog.cellsOf 129 = 1 := by kernel_rfl
theorem zero129 : zeroPV Tryd.prog 129 = some [.int .u64 0] := by kernel_rfl
theorem cells133 : Tryd.prog.cellsOf 133 = 1 := by kernel_rfl
theorem zero133 : zeroPV Tryd.prog 133 = some [.nilmap] := by kernel_rfl
theorem cells137 : Tryd.prog.cellsOf 137 = 1 := by kernel_rfl
theorem zero137 : zeroPV Tryd.prog 137 = some [.nilptr] := by kernel_rfl
theorem cells138 : Tryd.prog.cellsOf 138 = 1 := by kernel_rfl
theorem zero138 : zeroPV Tryd.prog 138 = some [.isl [] .exact] := by kernel_rfl
theorem cells139 : Tryd.prog.cellsOf 139 = 1 := by kernel_rfl
theorem zero139 : zeroPV Tryd.prog 139 = some [.int .u64 0] := by kernel_rfl
theorem cells143 : Tryd.prog.cellsOf 143 = 1 := by kernel_rfl
theorem zero143 : zeroPV Tryd.prog 143 = some [.nilptr] := by kernel_rfl
theorem cells145 : Tryd.prog.cellsOf 145 = 1 := by kernel_rfl
theorem zero145 : zeroPV Tryd.prog 145 = some [.nilptr] := by kernel_rfl
theorem cells148 : Tryd.prog.cellsOf 148 = 1 := by kernel_rfl
theorem zero148 : zeroPV Tryd.prog 148 = some [.nilptr] := by kernel_rfl
theorem cells150 : Tryd.prog.cellsOf 150 = 24 := by kernel_rfl
theorem zero150 : zeroPV Tryd.prog 150 = some [.int .u8 0, .int .u8 0, .int .u8 0, .int .u8 0, .int .u8 0, .int .u8 0, .int .u8 0, .int .u8 0, .int .u8 0, .int .u8 0, .int .u8 0, .int .u8 0, .int .u8 0, .int .u8 0, .int .u8 0, .int .u8 0, .int .u8 0, .int .u8 0, .int .u8 0, .int .u8 0, .int .u8 0, .int .u8 0, .int .u8 0, .int .u8 0] := by kernel_rfl
theorem cells156 : Tryd.prog.cellsOf 156 = 20 := by kernel_rfl
theorem zero156 : zeroPV Tryd.prog 156 = some [.int .u64 0, .int .u64 0, .int .u64 0, .int .u64 0, .int .u64 0, .int .u64 0, .int .u64 0, .int .u64 0, .int .u64 0, .int .u64 0, .int .u64 0, .int .u64 0, .int .u64 0, .int .u64 0, .int .u64 0, .int .u64 0, .int .u64 0, .int .u64 0, .int .u64 0, .int .u64 0] := by kernel_rfl
theorem cells157 : Tryd.prog.cellsOf 157 = 65 := by kernel_rfl
theorem cells158 : Tryd.prog.cellsOf 158 = 32 := by kernel_rfl
theorem zero158 : zeroPV Tryd.prog 158 = some [.int .u8 0, .int .u8 0, .int .u8 0, .int .u8 0, .int .u8 0, .int .u8 0, .int .u8 0, .int .u8 0, .int .u8 0, .int .u8 0, .int .u8 0, .int .u8 0, .int .u8 0, .int .u8 0, .int .u8 0, .int .u8 0, .int .u8 0, .int .u8 0, .int .u8 0, .int .u8 0, .int .u8 0, .int .u8 0, .int .u8 0, .int .u8 0, .int .u8 0, .int .u8 0, .int .u8 0, .int .u8 0, .int .u8 0, .int .u8 0, .int .u8 0, .int .u8 0] := by kernel_rfl
theorem cells159 : Tryd.prog.cellsOf 159 = 64 := by kernel_rfl
theorem zero159 : zeroPV Tryd.prog 159 = some (rep 64 (.int .u8 0)) := by kernel_rfl
theorem cells160 : Tryd.prog.cellsOf 160 = 4 := by kernel_rfl
theorem zero160 : zeroPV Tryd.prog 160 = some [.nilptr, .nilptr, .nilptr, .str .empty] := by kernel_rfl
theorem cells161 : Tryd.prog.cellsOf 161 = 4 := by kernel_rfl
theorem zero161 : zeroPV Tryd.prog 161 = some [.nilptr, .nilptr, .nilptr, .str .empty] := by kernel_rfl
theorem cells162 : Tryd.prog.cellsOf 162 = 0 := by kernel_rfl
theorem zero162 : zeroPV Tryd.prog 162 = some [] := by kernel_rfl
theorem cells163 : Tryd.prog.cellsOf 163 = 0 := by kernel_rfl
theorem zero163 : zeroPV Tryd.prog 163 = some [] := by kernel_rfl
theorem cells164 : Tryd.prog.cellsOf 164 = 0 := by kernel_rfl
theorem zero164 : zeroPV Tryd.prog 164 = some [] := by kernel_rfl
theorem cells166 : Tryd.prog.cellsOf 166 = 1 := by kernel_rfl
theorem zero166 : zeroPV Tryd.prog 166 = some [.int .u8 0] := by kernel_rfl
theorem cells167 : Tryd.prog.cellsOf 167 = 1 := by kernel_rfl
theorem zero167 : zeroPV Tryd.prog 167 = some [.int .u8 0] := by kernel_rfl
theorem cells169 : Tryd.prog.cellsOf 169 = 1 := by kernel_rfl
theorem zero169 : zeroPV Tryd.prog 169 = some [.int .i32 0] := by kernel_rfl
theorem cells170 : Tryd.prog.cellsOf 170 = 1 := by kernel_rfl
theorem zero170 : zeroPV Tryd.prog 170 = some [.int .i32 0] := by kernel_rfl
theorem cells171 : Tryd.prog.cellsOf 171 = 11 := by kernel_rfl
theorem zero171 : zeroPV Tryd.prog 171 = some [.int .u64 0, .int .u64 0, .int .u32 0, .int .u8 0, .int .u8 0, .int .u8 0, .int .u8 0, .nilfunc, .nilptr, .int .i32 0, .int .i32 0] := by kernel_rfl
theorem cells172 : Tryd.prog.cellsOf 172 = 11 := by kernel_rfl
theorem zero172 : zeroPV Tryd.prog 172 = some [.int .u64 0, .int .u64 0, .int .u32 0, .int .u8 0, .int .u8 0, .int .u8 0, .int .u8 0, .nilfunc, .nilptr, .int .i32 0, .int .i32 0] := by kernel_rfl
end Go.Proofs.YteklodljdndcoaaDoor
namespace Go.Proofs.YteklodljdndcoaaDoor
open Go
set_option maxRecDepth 100000
theorem lda2 {σ : Sg} {id off : Nat} : loadPV Tryd.prog σ 2 (.ptr id off) = ldS σ id off := ldS_of Tryd.underlying2 rfl
theorem ela2 {σ : Sg} {es i off : Nat} {l : List PV} : loadPV Tryd.prog σ 2 (.eptr es l i off) = elS l i off := elS_of Tryd.underlying2 rfl
theorem sto2 {σ : Sg} {id off : Nat} {p : PV} : storePV Tryd.prog σ 2 (.ptr id off) p = stX 1 σ id off p := stX_of Tryd.underlying2 cells2 p
theorem lda3 {σ : Sg} {id off : Nat} : loadPV Tryd.prog σ 3 (.ptr id off) = ldS σ id off := ldS_of Tryd.underlying3 rfl
theorem ela3 {σ : Sg} {es i off : Nat} {l : List PV} : loadPV Tryd.prog σ 3 (.eptr es l i off) = elS l i off := elS_of Tryd.underlying3 rfl
theorem sto3 {σ : Sg} {id off : Nat} {p : PV} : storePV Tryd.prog σ 3 (.ptr id off) p = stX 1 σ id off p := stX_of Tryd.underlying3 cells3 p
theorem lda4 {σ : Sg} {id off : Nat} : loadPV Tryd.prog σ 4 (.ptr id off) = ldS σ id off := ldS_of Tryd.underlying4 rfl
theorem ela4 {σ : Sg} {es i off : Nat} {l : List PV} : loadPV Tryd.prog σ 4 (.eptr es l i off) = elS l i off := elS_of Tryd.underlying4 rfl
theorem sto4 {σ : Sg} {id off : Nat} {p : PV} : storePV Tryd.prog σ 4 (.ptr id off) p = stX 1 σ id off p := stX_of Tryd.underlying4 cells4 p
theorem lda5 {σ : Sg} {id off : Nat} : loadPV Tryd.prog σ 5 (.ptr id off) = ldS σ id off := ldS_of Tryd.underlying5 rfl
theorem ela5 {σ : Sg} {es i off : Nat} {l : List PV} : loadPV Tryd.prog σ 5 (.eptr es l i off) = elS l i off := elS_of Tryd.underlying5 rfl
theorem sto5 {σ : Sg} {id off : Nat} {p : PV} : storePV Tryd.prog σ 5 (.ptr id off) p = stX 1 σ id off p := stX_of Tryd.underlying5 cells5 p
theorem lda9 {σ : Sg} {id off : Nat} : loadPV Tryd.prog σ 9 (.ptr id off) = ldS σ id off := ldS_of Tryd.underlying9 rfl
theorem ela9 {σ : Sg} {es i off : Nat} {l : List PV} : loadPV Tryd.prog σ 9 (.eptr es l i off) = elS l i off := elS_of Tryd.underlying9 rfl
theorem sto9 {σ : Sg} {id off : Nat} {p : PV} : storePV Tryd.prog σ 9 (.ptr id off) p = stX 1 σ id off p := stX_of Tryd.underlying9 cells9 p
theorem lda22 {σ : Sg} {id off : Nat} : loadPV Tryd.prog σ 22 (.ptr id off) = ldS σ id off := ldS_of Tryd.underlying22 rfl
theorem ela22 {σ : Sg} {es i off : Nat} {l : List PV} : loadPV Tryd.prog σ 22 (.eptr es l i off) = elS l i off := elS_of Tryd.underlying22 rfl
theorem sto22 {σ : Sg} {id off : Nat} {p : PV} : storePV Tryd.prog σ 22 (.ptr id off) p = stX 1 σ id off p := stX_of Tryd.underlying22 cells22 p
theorem ia22 {l : List PV} {own : Own} {k : IntKind} {i : Int} : indexAddrPV Tryd.prog 22 (.isl l own) (.int k i) = iaX 1 l i := iaX_of Tryd.underlying22 Tryd.underlying3 cells3 k i
theorem iam22 {id off len : Nat} {k : IntKind} {i : Int} : indexAddrPV Tryd.prog 22 (.msl id off len) (.int k i) = iaM 1 id off len i := iaM_of Tryd.underlying22 Tryd.underlying3 cells3 k len i
theorem len22 {l : List PV} {own : Own} : lenPV Tryd.prog 22 (.isl l own) = some (.int .i64 l.length) := len_of Tryd.underlying22
theorem lenm22 {id off n : Nat} : lenPV Tryd.prog 22 (.msl id off n) = some (.int .i64 n) := lenM_of Tryd.underlying22 n
theorem bs22 {len : Nat} {parts : List (Nat × PV)} : buildSlicePV Tryd.prog 22 len parts = bsX 1 len parts := bsX_of Tryd.underlying22 Tryd.underlying3 cells3 zero3 len parts
theorem app22 {σ : Sg} {l m : List PV} {own own' : Own} : appendPV Tryd.prog σ 22 22 (.isl l own) (.isl m own') = appX 1 8 σ l own m := appX_of Tryd.underlying22 Tryd.underlying3 cells3 bytes3 (by decide) (by decide) zero3 rfl
theorem lda23 {σ : Sg} {id off : Nat} : loadPV Tryd.prog σ 23 (.ptr id off) = ldS σ id off := ldS_of Tryd.underlying23 rfl
theorem ela23 {σ : Sg} {es i off : Nat} {l : List PV} : loadPV Tryd.prog σ 23 (.eptr es l i off) = elS l i off := elS_of Tryd.underlying23 rfl
theorem sto23 {σ : Sg} {id off : Nat} {p : PV} : storePV Tryd.prog σ 23 (.ptr id off) p = stX 1 σ id off p := stX_of Tryd.underlying23 cells23 p
theorem ia23 {l : List PV} {own : Own} {k : IntKind} {i : Int} : indexAddrPV Tryd.prog 23 (.isl l own) (.int k i) = iaX 2 l i := iaX_of Tryd.underlying23 Tryd.underlying52 cells52 k i
theorem iam23 {id off len : Nat} {k : IntKind} {i : Int} : indexAddrPV Tryd.prog 23 (.msl id off len) (.int k i) = iaM 2 id off len i := iaM_of Tryd.underlying23 Tryd.underlying52 cells52 k len i
theorem len23 {l : List PV} {own : Own} : lenPV Tryd.prog 23 (.isl l own) = some (.int .i64 l.length) := len_of Tryd.underlying23
theorem lenm23 {id off n : Nat} : lenPV Tryd.prog 23 (.msl id off n) = some (.int .i64 n) := lenM_of Tryd.underlying23 n
theorem bs23 {len : Nat} {parts : List (Nat × PV)} : buildSlicePV Tryd.prog 23 len parts = bsX 2 len parts := bsX_of Tryd.underlying23 Tryd.underlying52 cells52 zero52 len parts
theorem app23 {σ : Sg} {l m : List PV} {own own' : Own} : appendPV Tryd.prog σ 23 23 (.isl l own) (.isl m own') = appX 2 16 σ l own m := appX_of Tryd.underlying23 Tryd.underlying52 cells52 bytes52 (by decide) (by decide) zero52 rfl
theorem lda24 {σ : Sg} {id off : Nat} : loadPV Tryd.prog σ 24 (.ptr id off) = ldS σ id off := ldS_of Tryd.underlying24 rfl
theorem ela24 {σ : Sg} {es i off : Nat} {l : List PV} : loadPV Tryd.prog σ 24 (.eptr es l i off) = elS l i off := elS_of Tryd.underlying24 rfl
theorem sto24 {σ : Sg} {id off : Nat} {p : PV} : storePV Tryd.prog σ 24 (.ptr id off) p = stX 1 σ id off p := stX_of Tryd.underlying24 cells24 p
theorem ia24 {l : List PV} {own : Own} {k : IntKind} {i : Int} : indexAddrPV Tryd.prog 24 (.isl l own) (.int k i) = iaX 7 l i := iaX_of Tryd.underlying24 Tryd.underlying87 cells87 k i
theorem iam24 {id off len : Nat} {k : IntKind} {i : Int} : indexAddrPV Tryd.prog 24 (.msl id off len) (.int k i) = iaM 7 id off len i := iaM_of Tryd.underlying24 Tryd.underlying87 cells87 k len i
theorem len24 {l : List PV} {own : Own} : lenPV Tryd.prog 24 (.isl l own) = some (.int .i64 l.length) := len_of Tryd.underlying24
theorem lenm24 {id off n : Nat} : lenPV Tryd.prog 24 (.msl id off n) = some (.int .i64 n) := lenM_of Tryd.underlying24 n
theorem bs24 {len : Nat} {parts : List (Nat × PV)} : buildSlicePV Tryd.prog 24 len parts = bsX 7 len parts := bsX_of Tryd.underlying24 Tryd.underlying87 cells87 zero87 len parts
theorem app24 {σ : Sg} {l m : List PV} {own own' : Own} : appendPV Tryd.prog σ 24 24 (.isl l own) (.isl m own') = appX 7 72 σ l own m := appX_of Tryd.underlying24 Tryd.underlying87 cells87 bytes87 (by decide) (by decide) zero87 rfl
theorem lda25 {σ : Sg} {id off : Nat} : loadPV Tryd.prog σ 25 (.ptr id off) = ldA 4 σ id off := ldA_of Tryd.underlying25 rfl cells25
theorem ela25 {σ : Sg} {es i off : Nat} {l : List PV} : loadPV Tryd.prog σ 25 (.eptr es l i off) = elA 4 l i off := elA_of Tryd.underlying25 rfl cells25
theorem sto25 {σ : Sg} {id off : Nat} {p : PV} : storePV Tryd.prog σ 25 (.ptr id off) p = stX 4 σ id off p := stX_of Tryd.underlying25 cells25 p
theorem fa25_0 {id off : Nat} : fieldAddrPV Tryd.prog 25 (.ptr id off) 0 = some (.ptr id (off + 0)) := fa1_of Tryd.underlying25 (by rfl) (by exact Tryd.underlying22) (by exact cells22) (by rfl) (by rfl)
theorem fae25_0 {es i off : Nat} {l : List PV} : fieldAddrPV Tryd.prog 25 (.eptr es l i off) 0 = some (.eptr es l i (off + 0)) := fa2_of Tryd.underlying25 (by rfl) (by exact Tryd.underlying22) (by exact cells22) (by rfl) (by rfl)
theorem fp25_0 {cs : List PV} : fieldPV Tryd.prog 25 (.agg cs) 0 = cs[0]? := fpS_of Tryd.underlying25 (by rfl) (by exact Tryd.underlying22) (by rfl) (by rfl) cs
theorem fa25_1 {id off : Nat} : fieldAddrPV Tryd.prog 25 (.ptr id off) 1 = some (.ptr id (off + 1)) := fa1_of Tryd.underlying25 (by rfl) (by exact Tryd.underlying23) (by exact cells23) (by rfl) (by rfl)
theorem fae25_1 {es i off : Nat} {l : List PV} : fieldAddrPV Tryd.prog 25 (.eptr es l i off) 1 = some (.eptr es l i (off + 1)) := fa2_of Tryd.underlying25 (by rfl) (by exact Tryd.underlying23) (by exact cells23) (by rfl) (by rfl)
theorem fp25_1 {cs : List PV} : fieldPV Tryd.prog 25 (.agg cs) 1 = cs[1]? := fpS_of Tryd.underlying25 (by rfl) (by exact Tryd.underlying23) (by rfl) (by rfl) cs
theorem fa25_2 {id off : Nat} : fieldAddrPV Tryd.prog 25 (.ptr id off) 2 = some (.ptr id (off + 2)) := fa1_of Tryd.underlying25 (by rfl) (by exact Tryd.underlying24) (by exact cells24) (by rfl) (by rfl)
theorem fae25_2 {es i off : Nat} {l : List PV} : fieldAddrPV Tryd.prog 25 (.eptr es l i off) 2 = some (.eptr es l i (off + 2)) := fa2_of Tryd.underlying25 (by rfl) (by exact Tryd.underlying24) (by exact cells24) (by rfl) (by rfl)
theorem fp25_2 {cs : List PV} : fieldPV Tryd.prog 25 (.agg cs) 2 = cs[2]? := fpS_of Tryd.underlying25 (by rfl) (by exact Tryd.underlying24) (by rfl) (by rfl) cs
theorem fa25_3 {id off : Nat} : fieldAddrPV Tryd.prog 25 (.ptr id off) 3 = some (.ptr id (off + 3)) := fa1_of Tryd.underlying25 (by rfl) (by exact Tryd.underlying3) (by exact cells3) (by rfl) (by rfl)
theorem fae25_3 {es i off : Nat} {l : List PV} : fieldAddrPV Tryd.prog 25 (.eptr es l i off) 3 = some (.eptr es l i (off + 3)) := fa2_of Tryd.underlying25 (by rfl) (by exact Tryd.underlying3) (by exact cells3) (by rfl) (by rfl)
theorem fp25_3 {cs : List PV} : fieldPV Tryd.prog 25 (.agg cs) 3 = cs[3]? := fpS_of Tryd.underlying25 (by rfl) (by exact Tryd.underlying3) (by rfl) (by rfl) cs
theorem bld25 {parts : List (Nat × PV)} : buildPV Tryd.prog 25 parts = bldX [.isl [] .exact, .isl [] .exact, .isl [] .exact, .int .i64 0] [(0, 1), (1, 1), (2, 1), (3, 1)] parts := bldX_of zero25 Tryd.underlying25 (by kernel_rfl) (by kernel_rfl) parts
theorem lda26 {σ : Sg} {id off : Nat} : loadPV Tryd.prog σ 26 (.ptr id off) = ldA 4 σ id off := ldA_of Tryd.underlying26 rfl cells26
theorem ela26 {σ : Sg} {es i off : Nat} {l : List PV} : loadPV Tryd.prog σ 26 (.eptr es l i off) = elA 4 l i off := elA_of Tryd.underlying26 rfl cells26
theorem sto26 {σ : Sg} {id off : Nat} {p : PV} : storePV Tryd.prog σ 26 (.ptr id off) p = stX 4 σ id off p := stX_of Tryd.underlying26 cells26 p
theorem fa26_0 {id off : Nat} : fieldAddrPV Tryd.prog 26 (.ptr id off) 0 = some (.ptr id (off + 0)) := fa1_of Tryd.underlying26 (by rfl) (by exact Tryd.underlying22) (by exact cells22) (by rfl) (by rfl)
theorem fae26_0 {es i off : Nat} {l : List PV} : fieldAddrPV Tryd.prog 26 (.eptr es l i off) 0 = some (.eptr es l i (off + 0)) := fa2_of Tryd.underlying26 (by rfl) (by exact Tryd.underlying22) (by exact cells22) (by rfl) (by rfl)
theorem fp26_0 {cs : List PV} : fieldPV Tryd.prog 26 (.agg cs) 0 = cs[0]? := fpS_of Tryd.underlying26 (by rfl) (by exact Tryd.underlying22) (by rfl) (by rfl) cs
theorem fa26_1 {id off : Nat} : fieldAddrPV Tryd.prog 26 (.ptr id off) 1 = some (.ptr id (off + 1)) := fa1_of Tryd.underlying26 (by rfl) (by exact Tryd.underlying23) (by exact cells23) (by rfl) (by rfl)
theorem fae26_1 {es i off : Nat} {l : List PV} : fieldAddrPV Tryd.prog 26 (.eptr es l i off) 1 = some (.eptr es l i (off + 1)) := fa2_of Tryd.underlying26 (by rfl) (by exact Tryd.underlying23) (by exact cells23) (by rfl) (by rfl)
theorem fp26_1 {cs : List PV} : fieldPV Tryd.prog 26 (.agg cs) 1 = cs[1]? := fpS_of Tryd.underlying26 (by rfl) (by exact Tryd.underlying23) (by rfl) (by rfl) cs
theorem fa26_2 {id off : Nat} : fieldAddrPV Tryd.prog 26 (.ptr id off) 2 = some (.ptr id (off + 2)) := fa1_of Tryd.underlying26 (by rfl) (by exact Tryd.underlying24) (by exact cells24) (by rfl) (by rfl)
theorem fae26_2 {es i off : Nat} {l : List PV} : fieldAddrPV Tryd.prog 26 (.eptr es l i off) 2 = some (.eptr es l i (off + 2)) := fa2_of Tryd.underlying26 (by rfl) (by exact Tryd.underlying24) (by exact cells24) (by rfl) (by rfl)
theorem fp26_2 {cs : List PV} : fieldPV Tryd.prog 26 (.agg cs) 2 = cs[2]? := fpS_of Tryd.underlying26 (by rfl) (by exact Tryd.underlying24) (by rfl) (by rfl) cs
theorem fa26_3 {id off : Nat} : fieldAddrPV Tryd.prog 26 (.ptr id off) 3 = some (.ptr id (off + 3)) := fa1_of Tryd.underlying26 (by rfl) (by exact Tryd.underlying3) (by exact cells3) (by rfl) (by rfl)
theorem fae26_3 {es i off : Nat} {l : List PV} : fieldAddrPV Tryd.prog 26 (.eptr es l i off) 3 = some (.eptr es l i (off + 3)) := fa2_of Tryd.underlying26 (by rfl) (by exact Tryd.underlying3) (by exact cells3) (by rfl) (by rfl)
theorem fp26_3 {cs : List PV} : fieldPV Tryd.prog 26 (.agg cs) 3 = cs[3]? := fpS_of Tryd.underlying26 (by rfl) (by exact Tryd.underlying3) (by rfl) (by rfl) cs
theorem bld26 {parts : List (Nat × PV)} : buildPV Tryd.prog 26 parts = bldX [.isl [] .exact, .isl [] .exact, .isl [] .exact, .int .i64 0] [(0, 1), (1, 1), (2, 1), (3, 1)] parts := bldX_of zero26 Tryd.underlying26 (by kernel_rfl) (by kernel_rfl) parts
theorem lda27 {σ : Sg} {id off : Nat} : loadPV Tryd.prog σ 27 (.ptr id off) = ldA 6 σ id off := ldA_of Tryd.underlying27 rfl cells27
theorem ela27 {σ : Sg} {es i off : Nat} {l : List PV} : loadPV Tryd.prog σ 27 (.eptr es l i off) = elA 6 l i off := elA_of Tryd.underlying27 rfl cells27
theorem sto27 {σ : Sg} {id off : Nat} {p : PV} : storePV Tryd.prog σ 27 (.ptr id off) p = stX 6 σ id off p := stX_of Tryd.underlying27 cells27 p
theorem fa27_0 {id off : Nat} : fieldAddrPV Tryd.prog 27 (.ptr id off) 0 = some (.ptr id (off + 0)) := fa1_of Tryd.underlying27 (by rfl) (by exact Tryd.underlying26) (by exact cells26) (by rfl) (by rfl)
theorem fae27_0 {es i off : Nat} {l : List PV} : fieldAddrPV Tryd.prog 27 (.eptr es l i off) 0 = some (.eptr es l i (off + 0)) := fa2_of Tryd.underlying27 (by rfl) (by exact Tryd.underlying26) (by exact cells26) (by rfl) (by rfl)
theorem fp27_0 {cs : List PV} : fieldPV Tryd.prog 27 (.agg cs) 0 = if 0 + 4 ≤ cs.length then some (.agg ((cs.drop 0).take 4)) else none := fpA_of Tryd.underlying27 (by rfl) (by exact Tryd.underlying26) (by rfl) (by exact cells26) (by rfl) cs
theorem fa27_1 {id off : Nat} : fieldAddrPV Tryd.prog 27 (.ptr id off) 1 = some (.ptr id (off + 4)) := fa1_of Tryd.underlying27 (by rfl) (by exact Tryd.underlying3) (by exact cells3) (by rfl) (by rfl)
theorem fae27_1 {es i off : Nat} {l : List PV} : fieldAddrPV Tryd.prog 27 (.eptr es l i off) 1 = some (.eptr es l i (off + 4)) := fa2_of Tryd.underlying27 (by rfl) (by exact Tryd.underlying3) (by exact cells3) (by rfl) (by rfl)
theorem fp27_1 {cs : List PV} : fieldPV Tryd.prog 27 (.agg cs) 1 = cs[4]? := fpS_of Tryd.underlying27 (by rfl) (by exact Tryd.underlying3) (by rfl) (by rfl) cs
theorem fa27_2 {id off : Nat} : fieldAddrPV Tryd.prog 27 (.ptr id off) 2 = some (.ptr id (off + 5)) := fa1_of Tryd.underlying27 (by rfl) (by exact Tryd.underlying22) (by exact cells22) (by rfl) (by rfl)
theorem fae27_2 {es i off : Nat} {l : List PV} : fieldAddrPV Tryd.prog 27 (.eptr es l i off) 2 = some (.eptr es l i (off + 5)) := fa2_of Tryd.underlying27 (by rfl) (by exact Tryd.underlying22) (by exact cells22) (by rfl) (by rfl)
theorem fp27_2 {cs : List PV} : fieldPV Tryd.prog 27 (.agg cs) 2 = cs[5]? := fpS_of Tryd.underlying27 (by rfl) (by exact Tryd.underlying22) (by rfl) (by rfl) cs
theorem bld27 {parts : List (Nat × PV)} : buildPV Tryd.prog 27 parts = bldX [.isl [] .exact, .isl [] .exact, .isl [] .exact, .int .i64 0, .int .i64 0, .isl [] .exact] [(0, 4), (4, 1), (5, 1)] parts := bldX_of zero27 Tryd.underlying27 (by kernel_rfl) (by kernel_rfl) parts
theorem lda28 {σ : Sg} {id off : Nat} : loadPV Tryd.prog σ 28 (.ptr id off) = ldA 6 σ id off := ldA_of Tryd.underlying28 rfl cells28
theorem ela28 {σ : Sg} {es i off : Nat} {l : List PV} : loadPV Tryd.prog σ 28 (.eptr es l i off) = elA 6 l i off := elA_of Tryd.underlying28 rfl cells28
theorem sto28 {σ : Sg} {id off : Nat} {p : PV} : storePV Tryd.prog σ 28 (.ptr id off) p = stX 6 σ id off p := stX_of Tryd.underlying28 cells28 p
theorem fa28_0 {id off : Nat} : fieldAddrPV Tryd.prog 28 (.ptr id off) 0 = some (.ptr id (off + 0)) := fa1_of Tryd.underlying28 (by rfl) (by exact Tryd.underlying26) (by exact cells26) (by rfl) (by rfl)
theorem fae28_0 {es i off : Nat} {l : List PV} : fieldAddrPV Tryd.prog 28 (.eptr es l i off) 0 = some (.eptr es l i (off + 0)) := fa2_of Tryd.underlying28 (by rfl) (by exact Tryd.underlying26) (by exact cells26) (by rfl) (by rfl)
theorem fp28_0 {cs : List PV} : fieldPV Tryd.prog 28 (.agg cs) 0 = if 0 + 4 ≤ cs.length then some (.agg ((cs.drop 0).take 4)) else none := fpA_of Tryd.underlying28 (by rfl) (by exact Tryd.underlying26) (by rfl) (by exact cells26) (by rfl) cs
theorem fa28_1 {id off : Nat} : fieldAddrPV Tryd.prog 28 (.ptr id off) 1 = some (.ptr id (off + 4)) := fa1_of Tryd.underlying28 (by rfl) (by exact Tryd.underlying3) (by exact cells3) (by rfl) (by rfl)
theorem fae28_1 {es i off : Nat} {l : List PV} : fieldAddrPV Tryd.prog 28 (.eptr es l i off) 1 = some (.eptr es l i (off + 4)) := fa2_of Tryd.underlying28 (by rfl) (by exact Tryd.underlying3) (by exact cells3) (by rfl) (by rfl)
theorem fp28_1 {cs : List PV} : fieldPV Tryd.prog 28 (.agg cs) 1 = cs[4]? := fpS_of Tryd.underlying28 (by rfl) (by exact Tryd.underlying3) (by rfl) (by rfl) cs
theorem fa28_2 {id off : Nat} : fieldAddrPV Tryd.prog 28 (.ptr id off) 2 = some (.ptr id (off + 5)) := fa1_of Tryd.underlying28 (by rfl) (by exact Tryd.underlying22) (by exact cells22) (by rfl) (by rfl)
theorem fae28_2 {es i off : Nat} {l : List PV} : fieldAddrPV Tryd.prog 28 (.eptr es l i off) 2 = some (.eptr es l i (off + 5)) := fa2_of Tryd.underlying28 (by rfl) (by exact Tryd.underlying22) (by exact cells22) (by rfl) (by rfl)
theorem fp28_2 {cs : List PV} : fieldPV Tryd.prog 28 (.agg cs) 2 = cs[5]? := fpS_of Tryd.underlying28 (by rfl) (by exact Tryd.underlying22) (by rfl) (by rfl) cs
theorem bld28 {parts : List (Nat × PV)} : buildPV Tryd.prog 28 parts = bldX [.isl [] .exact, .isl [] .exact, .isl [] .exact, .int .i64 0, .int .i64 0, .isl [] .exact] [(0, 4), (4, 1), (5, 1)] parts := bldX_of zero28 Tryd.underlying28 (by kernel_rfl) (by kernel_rfl) parts
theorem lda30 {σ : Sg} {id off : Nat} : loadPV Tryd.prog σ 30 (.ptr id off) = ldA 2 σ id off := ldA_of Tryd.underlying30 rfl cells30
theorem ela30 {σ : Sg} {es i off : Nat} {l : List PV} : loadPV Tryd.prog σ 30 (.eptr es l i off) = elA 2 l i off := elA_of Tryd.underlying30 rfl cells30
theorem sto30 {σ : Sg} {id off : Nat} {p : PV} : storePV Tryd.prog σ 30 (.ptr id off) p = stX 2 σ id off p := stX_of Tryd.underlying30 cells30 p
theorem fa30_0 {id off : Nat} : fieldAddrPV Tryd.prog 30 (.ptr id off) 0 = some (.ptr id (off + 0)) := fa1_of Tryd.underlying30 (by rfl) (by exact Tryd.underlying3) (by exact cells3) (by rfl) (by rfl)
theorem fae30_0 {es i off : Nat} {l : List PV} : fieldAddrPV Tryd.prog 30 (.eptr es l i off) 0 = some (.eptr es l i (off + 0)) := fa2_of Tryd.underlying30 (by rfl) (by exact Tryd.underlying3) (by exact cells3) (by rfl) (by rfl)
theorem fp30_0 {cs : List PV} : fieldPV Tryd.prog 30 (.agg cs) 0 = cs[0]? := fpS_of Tryd.underlying30 (by rfl) (by exact Tryd.underlying3) (by rfl) (by rfl) cs
theorem fa30_1 {id off : Nat} : fieldAddrPV Tryd.prog 30 (.ptr id off) 1 = some (.ptr id (off + 1)) := fa1_of Tryd.underlying30 (by rfl) (by exact Tryd.underlying3) (by exact cells3) (by rfl) (by rfl)
theorem fae30_1 {es i off : Nat} {l : List PV} : fieldAddrPV Tryd.prog 30 (.eptr es l i off) 1 = some (.eptr es l i (off + 1)) := fa2_of Tryd.underlying30 (by rfl) (by exact Tryd.underlying3) (by exact cells3) (by rfl) (by rfl)
theorem fp30_1 {cs : List PV} : fieldPV Tryd.prog 30 (.agg cs) 1 = cs[1]? := fpS_of Tryd.underlying30 (by rfl) (by exact Tryd.underlying3) (by rfl) (by rfl) cs
theorem eqs30 {a0 a1 b0 b1 : Int} : eqPV Tryd.prog 30 (.agg [.int .i64 a0, .int .i64 a1]) (.agg [.int .i64 b0, .int .i64 b1]) = some ((a0 == b0) && ((a1 == b1) && true)) := by kernel_rfl
theorem bld30 {parts : List (Nat × PV)} : buildPV Tryd.prog 30 parts = bldX [.int .i64 0, .int .i64 0] [(0, 1), (1, 1)] parts := bldX_of zero30 Tryd.underlying30 (by kernel_rfl) (by kernel_rfl) parts
theorem lda31 {σ : Sg} {id off : Nat} : loadPV Tryd.prog σ 31 (.ptr id off) = ldA 2 σ id off := ldA_of Tryd.underlying31 rfl cells31
theorem ela31 {σ : Sg} {es i off : Nat} {l : List PV} : loadPV Tryd.prog σ 31 (.eptr es l i off) = elA 2 l i off := elA_of Tryd.underlying31 rfl cells31
theorem sto31 {σ : Sg} {id off : Nat} {p : PV} : storePV Tryd.prog σ 31 (.ptr id off) p = stX 2 σ id off p := stX_of Tryd.underlying31 cells31 p
theorem fa31_0 {id off : Nat} : fieldAddrPV Tryd.prog 31 (.ptr id off) 0 = some (.ptr id (off + 0)) := fa1_of Tryd.underlying31 (by rfl) (by exact Tryd.underlying3) (by exact cells3) (by rfl) (by rfl)
theorem fae31_0 {es i off : Nat} {l : List PV} : fieldAddrPV Tryd.prog 31 (.eptr es l i off) 0 = some (.eptr es l i (off + 0)) := fa2_of Tryd.underlying31 (by rfl) (by exact Tryd.underlying3) (by exact cells3) (by rfl) (by rfl)
theorem fp31_0 {cs : List PV} : fieldPV Tryd.prog 31 (.agg cs) 0 = cs[0]? := fpS_of Tryd.underlying31 (by rfl) (by exact Tryd.underlying3) (by rfl) (by rfl) cs
theorem fa31_1 {id off : Nat} : fieldAddrPV Tryd.prog 31 (.ptr id off) 1 = some (.ptr id (off + 1)) := fa1_of Tryd.underlying31 (by rfl) (by exact Tryd.underlying3) (by exact cells3) (by rfl) (by rfl)
theorem fae31_1 {es i off : Nat} {l : List PV} : fieldAddrPV Tryd.prog 31 (.eptr es l i off) 1 = some (.eptr es l i (off + 1)) := fa2_of Tryd.underlying31 (by rfl) (by exact Tryd.underlying3) (by exact cells3) (by rfl) (by rfl)
theorem fp31_1 {cs : List PV} : fieldPV Tryd.prog 31 (.agg cs) 1 = cs[1]? := fpS_of Tryd.underlying31 (by rfl) (by exact Tryd.underlying3) (by rfl) (by rfl) cs
theorem eqs31 {a0 a1 b0 b1 : Int} : eqPV Tryd.prog 31 (.agg [.int .i64 a0, .int .i64 a1]) (.agg [.int .i64 b0, .int .i64 b1]) = some ((a0 == b0) && ((a1 == b1) && true)) := by kernel_rfl
theorem bld31 {parts : List (Nat × PV)} : buildPV Tryd.prog 31 parts = bldX [.int .i64 0, .int .i64 0] [(0, 1), (1, 1)] parts := bldX_of zero31 Tryd.underlying31 (by kernel_rfl) (by kernel_rfl) parts
theorem lda32 {σ : Sg} {id off : Nat} : loadPV Tryd.prog σ 32 (.ptr id off) = ldA 6 σ id off := ldA_of Tryd.underlying32 rfl cells32
theorem ela32 {σ : Sg} {es i off : Nat} {l : List PV} : loadPV Tryd.prog σ 32 (.eptr es l i off) = elA 6 l i off := elA_of Tryd.underlying32 rfl cells32
theorem sto32 {σ : Sg} {id off : Nat} {p : PV} : storePV Tryd.prog σ 32 (.ptr id off) p = stX 6 σ id off p := stX_of Tryd.underlying32 cells32 p
theorem fa32_0 {id off : Nat} : fieldAddrPV Tryd.prog 32 (.ptr id off) 0 = some (.ptr id (off + 0)) := fa1_of Tryd.underlying32 (by rfl) (by exact Tryd.underlying3) (by exact cells3) (by rfl) (by rfl)
theorem fae32_0 {es i off : Nat} {l : List PV} : fieldAddrPV Tryd.prog 32 (.eptr es l i off) 0 = some (.eptr es l i (off + 0)) := fa2_of Tryd.underlying32 (by rfl) (by exact Tryd.underlying3) (by exact cells3) (by rfl) (by rfl)
theorem fp32_0 {cs : List PV} : fieldPV Tryd.prog 32 (.agg cs) 0 = cs[0]? := fpS_of Tryd.underlying32 (by rfl) (by exact Tryd.underlying3) (by rfl) (by rfl) cs
theorem fa32_1 {id off : Nat} : fieldAddrPV Tryd.prog 32 (.ptr id off) 1 = some (.ptr id (off + 1)) := fa1_of Tryd.underlying32 (by rfl) (by exact Tryd.underlying22) (by exact cells22) (by rfl) (by rfl)
theorem fae32_1 {es i off : Nat} {l : List PV} : fieldAddrPV Tryd.prog 32 (.eptr es l i off) 1 = some (.eptr es l i (off + 1)) := fa2_of Tryd.underlying32 (by rfl) (by exact Tryd.underlying22) (by exact cells22) (by rfl) (by rfl)
theorem fp32_1 {cs : List PV} : fieldPV Tryd.prog 32 (.agg cs) 1 = cs[1]? := fpS_of Tryd.underlying32 (by rfl) (by exact Tryd.underlying22) (by rfl) (by rfl) cs
theorem fa32_2 {id off : Nat} : fieldAddrPV Tryd.prog 32 (.ptr id off) 2 = some (.ptr id (off + 2)) := fa1_of Tryd.underlying32 (by rfl) (by exact Tryd.underlying31) (by exact cells31) (by rfl) (by rfl)
theorem fae32_2 {es i off : Nat} {l : List PV} : fieldAddrPV Tryd.prog 32 (.eptr es l i off) 2 = some (.eptr es l i (off + 2)) := fa2_of Tryd.underlying32 (by rfl) (by exact Tryd.underlying31) (by exact cells31) (by rfl) (by rfl)
theorem fp32_2 {cs : List PV} : fieldPV Tryd.prog 32 (.agg cs) 2 = if 2 + 2 ≤ cs.length then some (.agg ((cs.drop 2).take 2)) else none := fpA_of Tryd.underlying32 (by rfl) (by exact Tryd.underlying31) (by rfl) (by exact cells31) (by rfl) cs
theorem fa32_3 {id off : Nat} : fieldAddrPV Tryd.prog 32 (.ptr id off) 3 = some (.ptr id (off + 4)) := fa1_of Tryd.underlying32 (by rfl) (by exact Tryd.underlying3) (by exact cells3) (by rfl) (by rfl)
theorem fae32_3 {es i off : Nat} {l : List PV} : fieldAddrPV Tryd.prog 32 (.eptr es l i off) 3 = some (.eptr es l i (off + 4)) := fa2_of Tryd.underlying32 (by rfl) (by exact Tryd.underlying3) (by exact cells3) (by rfl) (by rfl)
theorem fp32_3 {cs : List PV} : fieldPV Tryd.prog 32 (.agg cs) 3 = cs[4]? := fpS_of Tryd.underlying32 (by rfl) (by exact Tryd.underlying3) (by rfl) (by rfl) cs
theorem fa32_4 {id off : Nat} : fieldAddrPV Tryd.prog 32 (.ptr id off) 4 = some (.ptr id (off + 5)) := fa1_of Tryd.underlying32 (by rfl) (by exact Tryd.underlying3) (by exact cells3) (by rfl) (by rfl)
theorem fae32_4 {es i off : Nat} {l : List PV} : fieldAddrPV Tryd.prog 32 (.eptr es l i off) 4 = some (.eptr es l i (off + 5)) := fa2_of Tryd.underlying32 (by rfl) (by exact Tryd.underlying3) (by exact cells3) (by rfl) (by rfl)
theorem fp32_4 {cs : List PV} : fieldPV Tryd.prog 32 (.agg cs) 4 = cs[5]? := fpS_of Tryd.underlying32 (by rfl) (by exact Tryd.underlying3) (by rfl) (by rfl) cs
theorem bld32 {parts : List (Nat × PV)} : buildPV Tryd.prog 32 parts = bldX [.int .i64 0, .isl [] .exact, .int .i64 0, .int .i64 0, .int .i64 0, .int .i64 0] [(0, 1), (1, 1), (2, 2), (4, 1), (5, 1)] parts := bldX_of zero32 Tryd.underlying32 (by kernel_rfl) (by kernel_rfl) parts
theorem lda33 {σ : Sg} {id off : Nat} : loadPV Tryd.prog σ 33 (.ptr id off) = ldA 6 σ id off := ldA_of Tryd.underlying33 rfl cells33
theorem ela33 {σ : Sg} {es i off : Nat} {l : List PV} : loadPV Tryd.prog σ 33 (.eptr es l i off) = elA 6 l i off := elA_of Tryd.underlying33 rfl cells33
theorem sto33 {σ : Sg} {id off : Nat} {p : PV} : storePV Tryd.prog σ 33 (.ptr id off) p = stX 6 σ id off p := stX_of Tryd.underlying33 cells33 p
theorem fa33_0 {id off : Nat} : fieldAddrPV Tryd.prog 33 (.ptr id off) 0 = some (.ptr id (off + 0)) := fa1_of Tryd.underlying33 (by rfl) (by exact Tryd.underlying3) (by exact cells3) (by rfl) (by rfl)
theorem fae33_0 {es i off : Nat} {l : List PV} : fieldAddrPV Tryd.prog 33 (.eptr es l i off) 0 = some (.eptr es l i (off + 0)) := fa2_of Tryd.underlying33 (by rfl) (by exact Tryd.underlying3) (by exact cells3) (by rfl) (by rfl)
theorem fp33_0 {cs : List PV} : fieldPV Tryd.prog 33 (.agg cs) 0 = cs[0]? := fpS_of Tryd.underlying33 (by rfl) (by exact Tryd.underlying3) (by rfl) (by rfl) cs
theorem fa33_1 {id off : Nat} : fieldAddrPV Tryd.prog 33 (.ptr id off) 1 = some (.ptr id (off + 1)) := fa1_of Tryd.underlying33 (by rfl) (by exact Tryd.underlying22) (by exact cells22) (by rfl) (by rfl)
theorem fae33_1 {es i off : Nat} {l : List PV} : fieldAddrPV Tryd.prog 33 (.eptr es l i off) 1 = some (.eptr es l i (off + 1)) := fa2_of Tryd.underlying33 (by rfl) (by exact Tryd.underlying22) (by exact cells22) (by rfl) (by rfl)
theorem fp33_1 {cs : List PV} : fieldPV Tryd.prog 33 (.agg cs) 1 = cs[1]? := fpS_of Tryd.underlying33 (by rfl) (by exact Tryd.underlying22) (by rfl) (by rfl) cs
theorem fa33_2 {id off : Nat} : fieldAddrPV Tryd.prog 33 (.ptr id off) 2 = some (.ptr id (off + 2)) := fa1_of Tryd.underlying33 (by rfl) (by exact Tryd.underlying31) (by exact cells31) (by rfl) (by rfl)
theorem fae33_2 {es i off : Nat} {l : List PV} : fieldAddrPV Tryd.prog 33 (.eptr es l i off) 2 = some (.eptr es l i (off + 2)) := fa2_of Tryd.underlying33 (by rfl) (by exact Tryd.underlying31) (by exact cells31) (by rfl) (by rfl)
theorem fp33_2 {cs : List PV} : fieldPV Tryd.prog 33 (.agg cs) 2 = if 2 + 2 ≤ cs.length then some (.agg ((cs.drop 2).take 2)) else none := fpA_of Tryd.underlying33 (by rfl) (by exact Tryd.underlying31) (by rfl) (by exact cells31) (by rfl) cs
theorem fa33_3 {id off : Nat} : fieldAddrPV Tryd.prog 33 (.ptr id off) 3 = some (.ptr id (off + 4)) := fa1_of Tryd.underlying33 (by rfl) (by exact Tryd.underlying3) (by exact cells3) (by rfl) (by rfl)
theorem fae33_3 {es i off : Nat} {l : List PV} : fieldAddrPV Tryd.prog 33 (.eptr es l i off) 3 = some (.eptr es l i (off + 4)) := fa2_of Tryd.underlying33 (by rfl) (by exact Tryd.underlying3) (by exact cells3) (by rfl) (by rfl)
theorem fp33_3 {cs : List PV} : fieldPV Tryd.prog 33 (.agg cs) 3 = cs[4]? := fpS_of Tryd.underlying33 (by rfl) (by exact Tryd.underlying3) (by rfl) (by rfl) cs
theorem fa33_4 {id off : Nat} : fieldAddrPV Tryd.prog 33 (.ptr id off) 4 = some (.ptr id (off + 5)) := fa1_of Tryd.underlying33 (by rfl) (by exact Tryd.underlying3) (by exact cells3) (by rfl) (by rfl)
theorem fae33_4 {es i off : Nat} {l : List PV} : fieldAddrPV Tryd.prog 33 (.eptr es l i off) 4 = some (.eptr es l i (off + 5)) := fa2_of Tryd.underlying33 (by rfl) (by exact Tryd.underlying3) (by exact cells3) (by rfl) (by rfl)
theorem fp33_4 {cs : List PV} : fieldPV Tryd.prog 33 (.agg cs) 4 = cs[5]? := fpS_of Tryd.underlying33 (by rfl) (by exact Tryd.underlying3) (by rfl) (by rfl) cs
theorem bld33 {parts : List (Nat × PV)} : buildPV Tryd.prog 33 parts = bldX [.int .i64 0, .isl [] .exact, .int .i64 0, .int .i64 0, .int .i64 0, .int .i64 0] [(0, 1), (1, 1), (2, 2), (4, 1), (5, 1)] parts := bldX_of zero33 Tryd.underlying33 (by kernel_rfl) (by kernel_rfl) parts
theorem lda34 {σ : Sg} {id off : Nat} : loadPV Tryd.prog σ 34 (.ptr id off) = ldS σ id off := ldS_of Tryd.underlying34 rfl
theorem ela34 {σ : Sg} {es i off : Nat} {l : List PV} : loadPV Tryd.prog σ 34 (.eptr es l i off) = elS l i off := elS_of Tryd.underlying34 rfl
theorem sto34 {σ : Sg} {id off : Nat} {p : PV} : storePV Tryd.prog σ 34 (.ptr id off) p = stX 1 σ id off p := stX_of Tryd.underlying34 cells34 p
theorem ia34 {l : List PV} {own : Own} {k : IntKind} {i : Int} : indexAddrPV Tryd.prog 34 (.isl l own) (.int k i) = iaX 6 l i := iaX_of Tryd.underlying34 Tryd.underlying33 cells33 k i
theorem iam34 {id off len : Nat} {k : IntKind} {i : Int} : indexAddrPV Tryd.prog 34 (.msl id off len) (.int k i) = iaM 6 id off len i := iaM_of Tryd.underlying34 Tryd.underlying33 cells33 k len i
theorem len34 {l : List PV} {own : Own} : lenPV Tryd.prog 34 (.isl l own) = some (.int .i64 l.length) := len_of Tryd.underlying34
theorem lenm34 {id off n : Nat} : lenPV Tryd.prog 34 (.msl id off n) = some (.int .i64 n) := lenM_of Tryd.underlying34 n
theorem bs34 {len : Nat} {parts : List (Nat × PV)} : buildSlicePV Tryd.prog 34 len parts = bsX 6 len parts := bsX_of Tryd.underlying34 Tryd.underlying33 cells33 zero33 len parts
theorem app34 {σ : Sg} {l m : List PV} {own own' : Own} : appendPV Tryd.prog σ 34 34 (.isl l own) (.isl m own') = appX 6 64 σ l own m := appX_of Tryd.underlying34 Tryd.underlying33 cells33 bytes33 (by decide) (by decide) zero33 rfl
theorem lda37 {σ : Sg} {id off : Nat} : loadPV Tryd.prog σ 37 (.ptr id off) = ldS σ id off := ldS_of Tryd.underlying37 rfl
theorem ela37 {σ : Sg} {es i off : Nat} {l : List PV} : loadPV Tryd.prog σ 37 (.eptr es l i off) = elS l i off := elS_of Tryd.underlying37 rfl
theorem sto37 {σ : Sg} {id off : Nat} {p : PV} : storePV Tryd.prog σ 37 (.ptr id off) p = stX 1 σ id off p := stX_of Tryd.underlying37 cells37 p
theorem lda42 {σ : Sg} {id off : Nat} : loadPV Tryd.prog σ 42 (.ptr id off) = ldS σ id off := ldS_of Tryd.underlying42 rfl
theorem ela42 {σ : Sg} {es i off : Nat} {l : List PV} : loadPV Tryd.prog σ 42 (.eptr es l i off) = elS l i off := elS_of Tryd.underlying42 rfl
theorem sto42 {σ : Sg} {id off : Nat} {p : PV} : storePV Tryd.prog σ 42 (.ptr id off) p = stX 1 σ id off p := stX_of Tryd.underlying42 cells42 p
theorem ia42 {l : List PV} {own : Own} {k : IntKind} {i : Int} : indexAddrPV Tryd.prog 42 (.isl l own) (.int k i) = iaX 1 l i := iaX_of Tryd.underlying42 Tryd.underlying22 cells22 k i
theorem iam42 {id off len : Nat} {k : IntKind} {i : Int} : indexAddrPV Tryd.prog 42 (.msl id off len) (.int k i) = iaM 1 id off len i := iaM_of Tryd.underlying42 Tryd.underlying22 cells22 k len i
theorem len42 {l : List PV} {own : Own} : lenPV Tryd.prog 42 (.isl l own) = some (.int .i64 l.length) := len_of Tryd.underlying42
theorem lenm42 {id off n : Nat} : lenPV Tryd.prog 42 (.msl id off n) = some (.int .i64 n) := lenM_of Tryd.underlying42 n
theorem bs42 {len : Nat} {parts : List (Nat × PV)} : buildSlicePV Tryd.prog 42 len parts = bsX 1 len parts := bsX_of Tryd.underlying42 Tryd.underlying22 cells22 zero22 len parts
theorem app42 {σ : Sg} {l m : List PV} {own own' : Own} : appendPV Tryd.prog σ 42 42 (.isl l own) (.isl m own') = appX 1 24 σ l own m := appX_of Tryd.underlying42 Tryd.underlying22 cells22 bytes22 (by decide) (by decide) zero22 rfl
theorem lda43 {σ : Sg} {id off : Nat} : loadPV Tryd.prog σ 43 (.ptr id off) = ldS σ id off := ldS_of Tryd.underlying43 rfl
theorem ela43 {σ : Sg} {es i off : Nat} {l : List PV} : loadPV Tryd.prog σ 43 (.eptr es l i off) = elS l i off := elS_of Tryd.underlying43 rfl
theorem sto43 {σ : Sg} {id off : Nat} {p : PV} : storePV Tryd.prog σ 43 (.ptr id off) p = stX 1 σ id off p := stX_of Tryd.underlying43 cells43 p
theorem ia43 {l : List PV} {own : Own} {k : IntKind} {i : Int} : indexAddrPV Tryd.prog 43 (.isl l own) (.int k i) = iaX 1 l i := iaX_of Tryd.underlying43 Tryd.underlying4 cells4 k i
theorem iam43 {id off len : Nat} {k : IntKind} {i : Int} : indexAddrPV Tryd.prog 43 (.msl id off len) (.int k i) = iaM 1 id off len i := iaM_of Tryd.underlying43 Tryd.underlying4 cells4 k len i
theorem len43 {l : List PV} {own : Own} : lenPV Tryd.prog 43 (.isl l own) = some (.int .i64 l.length) := len_of Tryd.underlying43
theorem lenm43 {id off n : Nat} : lenPV Tryd.prog 43 (.msl id off n) = some (.int .i64 n) := lenM_of Tryd.underlying43 n
theorem bs43 {len : Nat} {parts : List (Nat × PV)} : buildSlicePV Tryd.prog 43 len parts = bsX 1 len parts := bsX_of Tryd.underlying43 Tryd.underlying4 cells4 zero4 len parts
theorem app43 {σ : Sg} {l m : List PV} {own own' : Own} : appendPV Tryd.prog σ 43 43 (.isl l own) (.isl m own') = appX 1 1 σ l own m := appX_of Tryd.underlying43 Tryd.underlying4 cells4 bytes4 (by decide) (by decide) zero4 rfl
theorem lda51 {σ : Sg} {id off : Nat} : loadPV Tryd.prog σ 51 (.ptr id off) = ldA 2 σ id off := ldA_of Tryd.underlying51 rfl cells51
theorem ela51 {σ : Sg} {es i off : Nat} {l : List PV} : loadPV Tryd.prog σ 51 (.eptr es l i off) = elA 2 l i off := elA_of Tryd.underlying51 rfl cells51
theorem sto51 {σ : Sg} {id off : Nat} {p : PV} : storePV Tryd.prog σ 51 (.ptr id off) p = stX 2 σ id off p := stX_of Tryd.underlying51 cells51 p
theorem fa51_0 {id off : Nat} : fieldAddrPV Tryd.prog 51 (.ptr id off) 0 = some (.ptr id (off + 0)) := fa1_of Tryd.underlying51 (by rfl) (by exact Tryd.underlying3) (by exact cells3) (by rfl) (by rfl)
theorem fae51_0 {es i off : Nat} {l : List PV} : fieldAddrPV Tryd.prog 51 (.eptr es l i off) 0 = some (.eptr es l i (off + 0)) := fa2_of Tryd.underlying51 (by rfl) (by exact Tryd.underlying3) (by exact cells3) (by rfl) (by rfl)
theorem fp51_0 {cs : List PV} : fieldPV Tryd.prog 51 (.agg cs) 0 = cs[0]? := fpS_of Tryd.underlying51 (by rfl) (by exact Tryd.underlying3) (by rfl) (by rfl) cs
theorem fa51_1 {id off : Nat} : fieldAddrPV Tryd.prog 51 (.ptr id off) 1 = some (.ptr id (off + 1)) := fa1_of Tryd.underlying51 (by rfl) (by exact Tryd.underlying3) (by exact cells3) (by rfl) (by rfl)
theorem fae51_1 {es i off : Nat} {l : List PV} : fieldAddrPV Tryd.prog 51 (.eptr es l i off) 1 = some (.eptr es l i (off + 1)) := fa2_of Tryd.underlying51 (by rfl) (by exact Tryd.underlying3) (by exact cells3) (by rfl) (by rfl)
theorem fp51_1 {cs : List PV} : fieldPV Tryd.prog 51 (.agg cs) 1 = cs[1]? := fpS_of Tryd.underlying51 (by rfl) (by exact Tryd.underlying3) (by rfl) (by rfl) cs
theorem eqs51 {a0 a1 b0 b1 : Int} : eqPV Tryd.prog 51 (.agg [.int .i64 a0, .int .i64 a1]) (.agg [.int .i64 b0, .int .i64 b1]) = some ((a0 == b0) && ((a1 == b1) && true)) := by kernel_rfl
theorem bld51 {parts : List (Nat × PV)} : buildPV Tryd.prog 51 parts = bldX [.int .i64 0, .int .i64 0] [(0, 1), (1, 1)] parts := bldX_of zero51 Tryd.underlying51 (by kernel_rfl) (by kernel_rfl) parts
theorem lda52 {σ : Sg} {id off : Nat} : loadPV Tryd.prog σ 52 (.ptr id off) = ldA 2 σ id off := ldA_of Tryd.underlying52 rfl cells52
theorem ela52 {σ : Sg} {es i off : Nat} {l : List PV} : loadPV Tryd.prog σ 52 (.eptr es l i off) = elA 2 l i off := elA_of Tryd.underlying52 rfl cells52
theorem sto52 {σ : Sg} {id off : Nat} {p : PV} : storePV Tryd.prog σ 52 (.ptr id off) p = stX 2 σ id off p := stX_of Tryd.underlying52 cells52 p
theorem fa52_0 {id off : Nat} : fieldAddrPV Tryd.prog 52 (.ptr id off) 0 = some (.ptr id (off + 0)) := fa1_of Tryd.underlying52 (by rfl) (by exact Tryd.underlying3) (by exact cells3) (by rfl) (by rfl)
theorem fae52_0 {es i off : Nat} {l : List PV} : fieldAddrPV Tryd.prog 52 (.eptr es l i off) 0 = some (.eptr es l i (off + 0)) := fa2_of Tryd.underlying52 (by rfl) (by exact Tryd.underlying3) (by exact cells3) (by rfl) (by rfl)
theorem fp52_0 {cs : List PV} : fieldPV Tryd.prog 52 (.agg cs) 0 = cs[0]? := fpS_of Tryd.underlying52 (by rfl) (by exact Tryd.underlying3) (by rfl) (by rfl) cs
theorem fa52_1 {id off : Nat} : fieldAddrPV Tryd.prog 52 (.ptr id off) 1 = some (.ptr id (off + 1)) := fa1_of Tryd.underlying52 (by rfl) (by exact Tryd.underlying3) (by exact cells3) (by rfl) (by rfl)
theorem fae52_1 {es i off : Nat} {l : List PV} : fieldAddrPV Tryd.prog 52 (.eptr es l i off) 1 = some (.eptr es l i (off + 1)) := fa2_of Tryd.underlying52 (by rfl) (by exact Tryd.underlying3) (by exact cells3) (by rfl) (by rfl)
theorem fp52_1 {cs : List PV} : fieldPV Tryd.prog 52 (.agg cs) 1 = cs[1]? := fpS_of Tryd.underlying52 (by rfl) (by exact Tryd.underlying3) (by rfl) (by rfl) cs
theorem eqs52 {a0 a1 b0 b1 : Int} : eqPV Tryd.prog 52 (.agg [.int .i64 a0, .int .i64 a1]) (.agg [.int .i64 b0, .int .i64 b1]) = some ((a0 == b0) && ((a1 == b1) && true)) := by kernel_rfl
theorem bld52 {parts : List (Nat × PV)} : buildPV Tryd.prog 52 parts = bldX [.int .i64 0, .int .i64 0] [(0, 1), (1, 1)] parts := bldX_of zero52 Tryd.underlying52 (by kernel_rfl) (by kernel_rfl) parts
theorem lda54 {σ : Sg} {id off : Nat} : loadPV Tryd.prog σ 54 (.ptr id off) = ldS σ id off := ldS_of Tryd.underlying54 rfl
theorem ela54 {σ : Sg} {es i off : Nat} {l : List PV} : loadPV Tryd.prog σ 54 (.eptr es l i off) = elS l i off := elS_of Tryd.underlying54 rfl
theorem sto54 {σ : Sg} {id off : Nat} {p : PV} : storePV Tryd.prog σ 54 (.ptr id off) p = stX 1 σ id off p := stX_of Tryd.underlying54 cells54 p
theorem ia54 {l : List PV} {own : Own} {k : IntKind} {i : Int} : indexAddrPV Tryd.prog 54 (.isl l own) (.int k i) = iaX 1 l i := iaX_of Tryd.underlying54 Tryd.underlying37 cells37 k i
theorem iam54 {id off len : Nat} {k : IntKind} {i : Int} : indexAddrPV Tryd.prog 54 (.msl id off len) (.int k i) = iaM 1 id off len i := iaM_of Tryd.underlying54 Tryd.underlying37 cells37 k len i
theorem len54 {l : List PV} {own : Own} : lenPV Tryd.prog 54 (.isl l own) = some (.int .i64 l.length) := len_of Tryd.underlying54
theorem lenm54 {id off n : Nat} : lenPV Tryd.prog 54 (.msl id off n) = some (.int .i64 n) := lenM_of Tryd.underlying54 n
theorem bs54 {len : Nat} {parts : List (Nat × PV)} : buildSlicePV Tryd.prog 54 len parts = bsX 1 len parts := bsX_of Tryd.underlying54 Tryd.underlying37 cells37 zero37 len parts
theorem app54 {σ : Sg} {l m : List PV} {own own' : Own} : appendPV Tryd.prog σ 54 54 (.isl l own) (.isl m own') = appX 1 8 σ l own m := appX_of Tryd.underlying54 Tryd.underlying37 cells37 bytes37 (by decide) (by decide) zero37 rfl
theorem lda64 {σ : Sg} {id off : Nat} : loadPV Tryd.prog σ 64 (.ptr id off) = ldS σ id off := ldS_of Tryd.underlying64 rfl
theorem ela64 {σ : Sg} {es i off : Nat} {l : List PV} : loadPV Tryd.prog σ 64 (.eptr es l i off) = elS l i off := elS_of Tryd.underlying64 rfl
theorem sto64 {σ : Sg} {id off : Nat} {p : PV} : storePV Tryd.prog σ 64 (.ptr id off) p = stX 1 σ id off p := stX_of Tryd.underlying64 cells64 p
theorem lda67 {σ : Sg} {id off : Nat} : loadPV Tryd.prog σ 67 (.ptr id off) = ldS σ id off := ldS_of Tryd.underlying67 rfl
theorem ela67 {σ : Sg} {es i off : Nat} {l : List PV} : loadPV Tryd.prog σ 67 (.eptr es l i off) = elS l i off := elS_of Tryd.underlying67 rfl
theorem sto67 {σ : Sg} {id off : Nat} {p : PV} : storePV Tryd.prog σ 67 (.ptr id off) p = stX 1 σ id off p := stX_of Tryd.underlying67 cells67 p
theorem ia67 {l : List PV} {own : Own} {k : IntKind} {i : Int} : indexAddrPV Tryd.prog 67 (.isl l own) (.int k i) = iaX 3 l i := iaX_of Tryd.underlying67 Tryd.underlying69 cells69 k i
theorem iam67 {id off len : Nat} {k : IntKind} {i : Int} : indexAddrPV Tryd.prog 67 (.msl id off len) (.int k i) = iaM 3 id off len i := iaM_of Tryd.underlying67 Tryd.underlying69 cells69 k len i
theorem len67 {l : List PV} {own : Own} : lenPV Tryd.prog 67 (.isl l own) = some (.int .i64 l.length) := len_of Tryd.underlying67
theorem lenm67 {id off n : Nat} : lenPV Tryd.prog 67 (.msl id off n) = some (.int .i64 n) := lenM_of Tryd.underlying67 n
theorem bs67 {len : Nat} {parts : List (Nat × PV)} : buildSlicePV Tryd.prog 67 len parts = bsX 3 len parts := bsX_of Tryd.underlying67 Tryd.underlying69 cells69 zero69 len parts
theorem app67 {σ : Sg} {l m : List PV} {own own' : Own} : appendPV Tryd.prog σ 67 67 (.isl l own) (.isl m own') = appX 3 24 σ l own m := appX_of Tryd.underlying67 Tryd.underlying69 cells69 bytes69 (by decide) (by decide) zero69 rfl
theorem lda68 {σ : Sg} {id off : Nat} : loadPV Tryd.prog σ 68 (.ptr id off) = ldA 3 σ id off := ldA_of Tryd.underlying68 rfl cells68
theorem ela68 {σ : Sg} {es i off : Nat} {l : List PV} : loadPV Tryd.prog σ 68 (.eptr es l i off) = elA 3 l i off := elA_of Tryd.underlying68 rfl cells68
theorem sto68 {σ : Sg} {id off : Nat} {p : PV} : storePV Tryd.prog σ 68 (.ptr id off) p = stX 3 σ id off p := stX_of Tryd.underlying68 cells68 p
theorem fa68_0 {id off : Nat} : fieldAddrPV Tryd.prog 68 (.ptr id off) 0 = some (.ptr id (off + 0)) := fa1_of Tryd.underlying68 (by rfl) (by exact Tryd.underlying31) (by exact cells31) (by rfl) (by rfl)
theorem fae68_0 {es i off : Nat} {l : List PV} : fieldAddrPV Tryd.prog 68 (.eptr es l i off) 0 = some (.eptr es l i (off + 0)) := fa2_of Tryd.underlying68 (by rfl) (by exact Tryd.underlying31) (by exact cells31) (by rfl) (by rfl)
theorem fp68_0 {cs : List PV} : fieldPV Tryd.prog 68 (.agg cs) 0 = if 0 + 2 ≤ cs.length then some (.agg ((cs.drop 0).take 2)) else none := fpA_of Tryd.underlying68 (by rfl) (by exact Tryd.underlying31) (by rfl) (by exact cells31) (by rfl) cs
theorem fa68_1 {id off : Nat} : fieldAddrPV Tryd.prog 68 (.ptr id off) 1 = some (.ptr id (off + 2)) := fa1_of Tryd.underlying68 (by rfl) (by exact Tryd.underlying3) (by exact cells3) (by rfl) (by rfl)
theorem fae68_1 {es i off : Nat} {l : List PV} : fieldAddrPV Tryd.prog 68 (.eptr es l i off) 1 = some (.eptr es l i (off + 2)) := fa2_of Tryd.underlying68 (by rfl) (by exact Tryd.underlying3) (by exact cells3) (by rfl) (by rfl)
theorem fp68_1 {cs : List PV} : fieldPV Tryd.prog 68 (.agg cs) 1 = cs[2]? := fpS_of Tryd.underlying68 (by rfl) (by exact Tryd.underlying3) (by rfl) (by rfl) cs
theorem bld68 {parts : List (Nat × PV)} : buildPV Tryd.prog 68 parts = bldX [.int .i64 0, .int .i64 0, .int .i64 0] [(0, 2), (2, 1)] parts := bldX_of zero68 Tryd.underlying68 (by kernel_rfl) (by kernel_rfl) parts
theorem lda69 {σ : Sg} {id off : Nat} : loadPV Tryd.prog σ 69 (.ptr id off) = ldA 3 σ id off := ldA_of Tryd.underlying69 rfl cells69
theorem ela69 {σ : Sg} {es i off : Nat} {l : List PV} : loadPV Tryd.prog σ 69 (.eptr es l i off) = elA 3 l i off := elA_of Tryd.underlying69 rfl cells69
theorem sto69 {σ : Sg} {id off : Nat} {p : PV} : storePV Tryd.prog σ 69 (.ptr id off) p = stX 3 σ id off p := stX_of Tryd.underlying69 cells69 p
theorem fa69_0 {id off : Nat} : fieldAddrPV Tryd.prog 69 (.ptr id off) 0 = some (.ptr id (off + 0)) := fa1_of Tryd.underlying69 (by rfl) (by exact Tryd.underlying31) (by exact cells31) (by rfl) (by rfl)
theorem fae69_0 {es i off : Nat} {l : List PV} : fieldAddrPV Tryd.prog 69 (.eptr es l i off) 0 = some (.eptr es l i (off + 0)) := fa2_of Tryd.underlying69 (by rfl) (by exact Tryd.underlying31) (by exact cells31) (by rfl) (by rfl)
theorem fp69_0 {cs : List PV} : fieldPV Tryd.prog 69 (.agg cs) 0 = if 0 + 2 ≤ cs.length then some (.agg ((cs.drop 0).take 2)) else none := fpA_of Tryd.underlying69 (by rfl) (by exact Tryd.underlying31) (by rfl) (by exact cells31) (by rfl) cs
theorem fa69_1 {id off : Nat} : fieldAddrPV Tryd.prog 69 (.ptr id off) 1 = some (.ptr id (off + 2)) := fa1_of Tryd.underlying69 (by rfl) (by exact Tryd.underlying3) (by exact cells3) (by rfl) (by rfl)
theorem fae69_1 {es i off : Nat} {l : List PV} : fieldAddrPV Tryd.prog 69 (.eptr es l i off) 1 = some (.eptr es l i (off + 2)) := fa2_of Tryd.underlying69 (by rfl) (by exact Tryd.underlying3) (by exact cells3) (by rfl) (by rfl)
theorem fp69_1 {cs : List PV} : fieldPV Tryd.prog 69 (.agg cs) 1 = cs[2]? := fpS_of Tryd.underlying69 (by rfl) (by exact Tryd.underlying3) (by rfl) (by rfl) cs
theorem bld69 {parts : List (Nat × PV)} : buildPV Tryd.prog 69 parts = bldX [.int .i64 0, .int .i64 0, .int .i64 0] [(0, 2), (2, 1)] parts := bldX_of zero69 Tryd.underlying69 (by kernel_rfl) (by kernel_rfl) parts
theorem lda82 {σ : Sg} {id off : Nat} : loadPV Tryd.prog σ 82 (.ptr id off) = ldA 13 σ id off := ldA_of Tryd.underlying82 rfl cells82
theorem ela82 {σ : Sg} {es i off : Nat} {l : List PV} : loadPV Tryd.prog σ 82 (.eptr es l i off) = elA 13 l i off := elA_of Tryd.underlying82 rfl cells82
theorem sto82 {σ : Sg} {id off : Nat} {p : PV} : storePV Tryd.prog σ 82 (.ptr id off) p = stX 13 σ id off p := stX_of Tryd.underlying82 cells82 p
theorem fa82_0 {id off : Nat} : fieldAddrPV Tryd.prog 82 (.ptr id off) 0 = some (.ptr id (off + 0)) := fa1_of Tryd.underlying82 (by rfl) (by exact Tryd.underlying28) (by exact cells28) (by rfl) (by rfl)
theorem fae82_0 {es i off : Nat} {l : List PV} : fieldAddrPV Tryd.prog 82 (.eptr es l i off) 0 = some (.eptr es l i (off + 0)) := fa2_of Tryd.underlying82 (by rfl) (by exact Tryd.underlying28) (by exact cells28) (by rfl) (by rfl)
theorem fp82_0 {cs : List PV} : fieldPV Tryd.prog 82 (.agg cs) 0 = if 0 + 6 ≤ cs.length then some (.agg ((cs.drop 0).take 6)) else none := fpA_of Tryd.underlying82 (by rfl) (by exact Tryd.underlying28) (by rfl) (by exact cells28) (by rfl) cs
theorem fa82_1 {id off : Nat} : fieldAddrPV Tryd.prog 82 (.ptr id off) 1 = some (.ptr id (off + 6)) := fa1_of Tryd.underlying82 (by rfl) (by exact Tryd.underlying34) (by exact cells34) (by rfl) (by rfl)
theorem fae82_1 {es i off : Nat} {l : List PV} : fieldAddrPV Tryd.prog 82 (.eptr es l i off) 1 = some (.eptr es l i (off + 6)) := fa2_of Tryd.underlying82 (by rfl) (by exact Tryd.underlying34) (by exact cells34) (by rfl) (by rfl)
theorem fp82_1 {cs : List PV} : fieldPV Tryd.prog 82 (.agg cs) 1 = cs[6]? := fpS_of Tryd.underlying82 (by rfl) (by exact Tryd.underlying34) (by rfl) (by rfl) cs
theorem fa82_2 {id off : Nat} : fieldAddrPV Tryd.prog 82 (.ptr id off) 2 = some (.ptr id (off + 7)) := fa1_of Tryd.underlying82 (by rfl) (by exact Tryd.underlying33) (by exact cells33) (by rfl) (by rfl)
theorem fae82_2 {es i off : Nat} {l : List PV} : fieldAddrPV Tryd.prog 82 (.eptr es l i off) 2 = some (.eptr es l i (off + 7)) := fa2_of Tryd.underlying82 (by rfl) (by exact Tryd.underlying33) (by exact cells33) (by rfl) (by rfl)
theorem fp82_2 {cs : List PV} : fieldPV Tryd.prog 82 (.agg cs) 2 = if 7 + 6 ≤ cs.length then some (.agg ((cs.drop 7).take 6)) else none := fpA_of Tryd.underlying82 (by rfl) (by exact Tryd.underlying33) (by rfl) (by exact cells33) (by rfl) cs
theorem bld82 {parts : List (Nat × PV)} : buildPV Tryd.prog 82 parts = bldX [.isl [] .exact, .isl [] .exact, .isl [] .exact, .int .i64 0, .int .i64 0, .isl [] .exact, .isl [] .exact, .int .i64 0, .isl [] .exact, .int .i64 0, .int .i64 0, .int .i64 0, .int .i64 0] [(0, 6), (6, 1), (7, 6)] parts := bldX_of zero82 Tryd.underlying82 (by kernel_rfl) (by kernel_rfl) parts
theorem lda83 {σ : Sg} {id off : Nat} : loadPV Tryd.prog σ 83 (.ptr id off) = ldA 13 σ id off := ldA_of Tryd.underlying83 rfl cells83
theorem ela83 {σ : Sg} {es i off : Nat} {l : List PV} : loadPV Tryd.prog σ 83 (.eptr es l i off) = elA 13 l i off := elA_of Tryd.underlying83 rfl cells83
theorem sto83 {σ : Sg} {id off : Nat} {p : PV} : storePV Tryd.prog σ 83 (.ptr id off) p = stX 13 σ id off p := stX_of Tryd.underlying83 cells83 p
theorem fa83_0 {id off : Nat} : fieldAddrPV Tryd.prog 83 (.ptr id off) 0 = some (.ptr id (off + 0)) := fa1_of Tryd.underlying83 (by rfl) (by exact Tryd.underlying28) (by exact cells28) (by rfl) (by rfl)
theorem fae83_0 {es i off : Nat} {l : List PV} : fieldAddrPV Tryd.prog 83 (.eptr es l i off) 0 = some (.eptr es l i (off + 0)) := fa2_of Tryd.underlying83 (by rfl) (by exact Tryd.underlying28) (by exact cells28) (by rfl) (by rfl)
theorem fp83_0 {cs : List PV} : fieldPV Tryd.prog 83 (.agg cs) 0 = if 0 + 6 ≤ cs.length then some (.agg ((cs.drop 0).take 6)) else none := fpA_of Tryd.underlying83 (by rfl) (by exact Tryd.underlying28) (by rfl) (by exact cells28) (by rfl) cs
theorem fa83_1 {id off : Nat} : fieldAddrPV Tryd.prog 83 (.ptr id off) 1 = some (.ptr id (off + 6)) := fa1_of Tryd.underlying83 (by rfl) (by exact Tryd.underlying34) (by exact cells34) (by rfl) (by rfl)
theorem fae83_1 {es i off : Nat} {l : List PV} : fieldAddrPV Tryd.prog 83 (.eptr es l i off) 1 = some (.eptr es l i (off + 6)) := fa2_of Tryd.underlying83 (by rfl) (by exact Tryd.underlying34) (by exact cells34) (by rfl) (by rfl)
theorem fp83_1 {cs : List PV} : fieldPV Tryd.prog 83 (.agg cs) 1 = cs[6]? := fpS_of Tryd.underlying83 (by rfl) (by exact Tryd.underlying34) (by rfl) (by rfl) cs
theorem fa83_2 {id off : Nat} : fieldAddrPV Tryd.prog 83 (.ptr id off) 2 = some (.ptr id (off + 7)) := fa1_of Tryd.underlying83 (by rfl) (by exact Tryd.underlying33) (by exact cells33) (by rfl) (by rfl)
theorem fae83_2 {es i off : Nat} {l : List PV} : fieldAddrPV Tryd.prog 83 (.eptr es l i off) 2 = some (.eptr es l i (off + 7)) := fa2_of Tryd.underlying83 (by rfl) (by exact Tryd.underlying33) (by exact cells33) (by rfl) (by rfl)
theorem fp83_2 {cs : List PV} : fieldPV Tryd.prog 83 (.agg cs) 2 = if 7 + 6 ≤ cs.length then some (.agg ((cs.drop 7).take 6)) else none := fpA_of Tryd.underlying83 (by rfl) (by exact Tryd.underlying33) (by rfl) (by exact cells33) (by rfl) cs
theorem bld83 {parts : List (Nat × PV)} : buildPV Tryd.prog 83 parts = bldX [.isl [] .exact, .isl [] .exact, .isl [] .exact, .int .i64 0, .int .i64 0, .isl [] .exact, .isl [] .exact, .int .i64 0, .isl [] .exact, .int .i64 0, .int .i64 0, .int .i64 0, .int .i64 0] [(0, 6), (6, 1), (7, 6)] parts := bldX_of zero83 Tryd.underlying83 (by kernel_rfl) (by kernel_rfl) parts
theorem lda84 {σ : Sg} {id off : Nat} : loadPV Tryd.prog σ 84 (.ptr id off) = ldS σ id off := ldS_of Tryd.underlying84 rfl
theorem ela84 {σ : Sg} {es i off : Nat} {l : List PV} : loadPV Tryd.prog σ 84 (.eptr es l i off) = elS l i off := elS_of Tryd.underlying84 rfl
theorem sto84 {σ : Sg} {id off : Nat} {p : PV} : storePV Tryd.prog σ 84 (.ptr id off) p = stX 1 σ id off p := stX_of Tryd.underlying84 cells84 p
theorem lda86 {σ : Sg} {id off : Nat} : loadPV Tryd.prog σ 86 (.ptr id off) = ldA 7 σ id off := ldA_of Tryd.underlying86 rfl cells86
theorem ela86 {σ : Sg} {es i off : Nat} {l : List PV} : loadPV Tryd.prog σ 86 (.eptr es l i off) = elA 7 l i off := elA_of Tryd.underlying86 rfl cells86
theorem sto86 {σ : Sg} {id off : Nat} {p : PV} : storePV Tryd.prog σ 86 (.ptr id off) p = stX 7 σ id off p := stX_of Tryd.underlying86 cells86 p
theorem fa86_0 {id off : Nat} : fieldAddrPV Tryd.prog 86 (.ptr id off) 0 = some (.ptr id (off + 0)) := fa1_of Tryd.underlying86 (by rfl) (by exact Tryd.underlying31) (by exact cells31) (by rfl) (by rfl)
theorem fae86_0 {es i off : Nat} {l : List PV} : fieldAddrPV Tryd.prog 86 (.eptr es l i off) 0 = some (.eptr es l i (off + 0)) := fa2_of Tryd.underlying86 (by rfl) (by exact Tryd.underlying31) (by exact cells31) (by rfl) (by rfl)
theorem fp86_0 {cs : List PV} : fieldPV Tryd.prog 86 (.agg cs) 0 = if 0 + 2 ≤ cs.length then some (.agg ((cs.drop 0).take 2)) else none := fpA_of Tryd.underlying86 (by rfl) (by exact Tryd.underlying31) (by rfl) (by exact cells31) (by rfl) cs
theorem fa86_1 {id off : Nat} : fieldAddrPV Tryd.prog 86 (.ptr id off) 1 = some (.ptr id (off + 2)) := fa1_of Tryd.underlying86 (by rfl) (by exact Tryd.underlying31) (by exact cells31) (by rfl) (by rfl)
theorem fae86_1 {es i off : Nat} {l : List PV} : fieldAddrPV Tryd.prog 86 (.eptr es l i off) 1 = some (.eptr es l i (off + 2)) := fa2_of Tryd.underlying86 (by rfl) (by exact Tryd.underlying31) (by exact cells31) (by rfl) (by rfl)
theorem fp86_1 {cs : List PV} : fieldPV Tryd.prog 86 (.agg cs) 1 = if 2 + 2 ≤ cs.length then some (.agg ((cs.drop 2).take 2)) else none := fpA_of Tryd.underlying86 (by rfl) (by exact Tryd.underlying31) (by rfl) (by exact cells31) (by rfl) cs
theorem fa86_2 {id off : Nat} : fieldAddrPV Tryd.prog 86 (.ptr id off) 2 = some (.ptr id (off + 4)) := fa1_of Tryd.underlying86 (by rfl) (by exact Tryd.underlying3) (by exact cells3) (by rfl) (by rfl)
theorem fae86_2 {es i off : Nat} {l : List PV} : fieldAddrPV Tryd.prog 86 (.eptr es l i off) 2 = some (.eptr es l i (off + 4)) := fa2_of Tryd.underlying86 (by rfl) (by exact Tryd.underlying3) (by exact cells3) (by rfl) (by rfl)
theorem fp86_2 {cs : List PV} : fieldPV Tryd.prog 86 (.agg cs) 2 = cs[4]? := fpS_of Tryd.underlying86 (by rfl) (by exact Tryd.underlying3) (by rfl) (by rfl) cs
theorem fa86_3 {id off : Nat} : fieldAddrPV Tryd.prog 86 (.ptr id off) 3 = some (.ptr id (off + 5)) := fa1_of Tryd.underlying86 (by rfl) (by exact Tryd.underlying3) (by exact cells3) (by rfl) (by rfl)
theorem fae86_3 {es i off : Nat} {l : List PV} : fieldAddrPV Tryd.prog 86 (.eptr es l i off) 3 = some (.eptr es l i (off + 5)) := fa2_of Tryd.underlying86 (by rfl) (by exact Tryd.underlying3) (by exact cells3) (by rfl) (by rfl)
theorem fp86_3 {cs : List PV} : fieldPV Tryd.prog 86 (.agg cs) 3 = cs[5]? := fpS_of Tryd.underlying86 (by rfl) (by exact Tryd.underlying3) (by rfl) (by rfl) cs
theorem fa86_4 {id off : Nat} : fieldAddrPV Tryd.prog 86 (.ptr id off) 4 = some (.ptr id (off + 6)) := fa1_of Tryd.underlying86 (by rfl) (by exact Tryd.underlying22) (by exact cells22) (by rfl) (by rfl)
theorem fae86_4 {es i off : Nat} {l : List PV} : fieldAddrPV Tryd.prog 86 (.eptr es l i off) 4 = some (.eptr es l i (off + 6)) := fa2_of Tryd.underlying86 (by rfl) (by exact Tryd.underlying22) (by exact cells22) (by rfl) (by rfl)
theorem fp86_4 {cs : List PV} : fieldPV Tryd.prog 86 (.agg cs) 4 = cs[6]? := fpS_of Tryd.underlying86 (by rfl) (by exact Tryd.underlying22) (by rfl) (by rfl) cs
theorem bld86 {parts : List (Nat × PV)} : buildPV Tryd.prog 86 parts = bldX [.int .i64 0, .int .i64 0, .int .i64 0, .int .i64 0, .int .i64 0, .int .i64 0, .isl [] .exact] [(0, 2), (2, 2), (4, 1), (5, 1), (6, 1)] parts := bldX_of zero86 Tryd.underlying86 (by kernel_rfl) (by kernel_rfl) parts
theorem lda87 {σ : Sg} {id off : Nat} : loadPV Tryd.prog σ 87 (.ptr id off) = ldA 7 σ id off := ldA_of Tryd.underlying87 rfl cells87
theorem ela87 {σ : Sg} {es i off : Nat} {l : List PV} : loadPV Tryd.prog σ 87 (.eptr es l i off) = elA 7 l i off := elA_of Tryd.underlying87 rfl cells87
theorem sto87 {σ : Sg} {id off : Nat} {p : PV} : storePV Tryd.prog σ 87 (.ptr id off) p = stX 7 σ id off p := stX_of Tryd.underlying87 cells87 p
theorem fa87_0 {id off : Nat} : fieldAddrPV Tryd.prog 87 (.ptr id off) 0 = some (.ptr id (off + 0)) := fa1_of Tryd.underlying87 (by rfl) (by exact Tryd.underlying31) (by exact cells31) (by rfl) (by rfl)
theorem fae87_0 {es i off : Nat} {l : List PV} : fieldAddrPV Tryd.prog 87 (.eptr es l i off) 0 = some (.eptr es l i (off + 0)) := fa2_of Tryd.underlying87 (by rfl) (by exact Tryd.underlying31) (by exact cells31) (by rfl) (by rfl)
theorem fp87_0 {cs : List PV} : fieldPV Tryd.prog 87 (.agg cs) 0 = if 0 + 2 ≤ cs.length then some (.agg ((cs.drop 0).take 2)) else none := fpA_of Tryd.underlying87 (by rfl) (by exact Tryd.underlying31) (by rfl) (by exact cells31) (by rfl) cs
theorem fa87_1 {id off : Nat} : fieldAddrPV Tryd.prog 87 (.ptr id off) 1 = some (.ptr id (off + 2)) := fa1_of Tryd.underlying87 (by rfl) (by exact Tryd.underlying31) (by exact cells31) (by rfl) (by rfl)
theorem fae87_1 {es i off : Nat} {l : List PV} : fieldAddrPV Tryd.prog 87 (.eptr es l i off) 1 = some (.eptr es l i (off + 2)) := fa2_of Tryd.underlying87 (by rfl) (by exact Tryd.underlying31) (by exact cells31) (by rfl) (by rfl)
theorem fp87_1 {cs : List PV} : fieldPV Tryd.prog 87 (.agg cs) 1 = if 2 + 2 ≤ cs.length then some (.agg ((cs.drop 2).take 2)) else none := fpA_of Tryd.underlying87 (by rfl) (by exact Tryd.underlying31) (by rfl) (by exact cells31) (by rfl) cs
theorem fa87_2 {id off : Nat} : fieldAddrPV Tryd.prog 87 (.ptr id off) 2 = some (.ptr id (off + 4)) := fa1_of Tryd.underlying87 (by rfl) (by exact Tryd.underlying3) (by exact cells3) (by rfl) (by rfl)
theorem fae87_2 {es i off : Nat} {l : List PV} : fieldAddrPV Tryd.prog 87 (.eptr es l i off) 2 = some (.eptr es l i (off + 4)) := fa2_of Tryd.underlying87 (by rfl) (by exact Tryd.underlying3) (by exact cells3) (by rfl) (by rfl)
theorem fp87_2 {cs : List PV} : fieldPV Tryd.prog 87 (.agg cs) 2 = cs[4]? := fpS_of Tryd.underlying87 (by rfl) (by exact Tryd.underlying3) (by rfl) (by rfl) cs
theorem fa87_3 {id off : Nat} : fieldAddrPV Tryd.prog 87 (.ptr id off) 3 = some (.ptr id (off + 5)) := fa1_of Tryd.underlying87 (by rfl) (by exact Tryd.underlying3) (by exact cells3) (by rfl) (by rfl)
theorem fae87_3 {es i off : Nat} {l : List PV} : fieldAddrPV Tryd.prog 87 (.eptr es l i off) 3 = some (.eptr es l i (off + 5)) := fa2_of Tryd.underlying87 (by rfl) (by exact Tryd.underlying3) (by exact cells3) (by rfl) (by rfl)
theorem fp87_3 {cs : List PV} : fieldPV Tryd.prog 87 (.agg cs) 3 = cs[5]? := fpS_of Tryd.underlying87 (by rfl) (by exact Tryd.underlying3) (by rfl) (by rfl) cs
theorem fa87_4 {id off : Nat} : fieldAddrPV Tryd.prog 87 (.ptr id off) 4 = some (.ptr id (off + 6)) := fa1_of Tryd.underlying87 (by rfl) (by exact Tryd.underlying22) (by exact cells22) (by rfl) (by rfl)
theorem fae87_4 {es i off : Nat} {l : List PV} : fieldAddrPV Tryd.prog 87 (.eptr es l i off) 4 = some (.eptr es l i (off + 6)) := fa2_of Tryd.underlying87 (by rfl) (by exact Tryd.underlying22) (by exact cells22) (by rfl) (by rfl)
theorem fp87_4 {cs : List PV} : fieldPV Tryd.prog 87 (.agg cs) 4 = cs[6]? := fpS_of Tryd.underlying87 (by rfl) (by exact Tryd.underlying22) (by rfl) (by rfl) cs
theorem bld87 {parts : List (Nat × PV)} : buildPV Tryd.prog 87 parts = bldX [.int .i64 0, .int .i64 0, .int .i64 0, .int .i64 0, .int .i64 0, .int .i64 0, .isl [] .exact] [(0, 2), (2, 2), (4, 1), (5, 1), (6, 1)] parts := bldX_of zero87 Tryd.underlying87 (by kernel_rfl) (by kernel_rfl) parts
theorem lda93 {σ : Sg} {id off : Nat} : loadPV Tryd.prog σ 93 (.ptr id off) = ldS σ id off := ldS_of Tryd.underlying93 rfl
theorem ela93 {σ : Sg} {es i off : Nat} {l : List PV} : loadPV Tryd.prog σ 93 (.eptr es l i off) = elS l i off := elS_of Tryd.underlying93 rfl
theorem sto93 {σ : Sg} {id off : Nat} {p : PV} : storePV Tryd.prog σ 93 (.ptr id off) p = stX 1 σ id off p := stX_of Tryd.underlying93 cells93 p
theorem lda95 {σ : Sg} {id off : Nat} : loadPV Tryd.prog σ 95 (.ptr id off) = ldA 720 σ id off := ldA_of Tryd.underlying95 rfl cells95
theorem ela95 {σ : Sg} {es i off : Nat} {l : List PV} : loadPV Tryd.prog σ 95 (.eptr es l i off) = elA 720 l i off := elA_of Tryd.underlying95 rfl cells95
theorem sto95 {σ : Sg} {id off : Nat} {p : PV} : storePV Tryd.prog σ 95 (.ptr id off) p = stX 720 σ id off p := stX_of Tryd.underlying95 cells95 p
theorem iar95 {id off : Nat} {k : IntKind} {i : Int} : indexAddrPV Tryd.prog 95 (.ptr id off) (.int k i) = iaM 1 id off 720 i := iaA_of Tryd.underlying95 Tryd.underlying4 cells4 k i
theorem ix95 {cs : List PV} {k : IntKind} {i : Int} : indexPV Tryd.prog 95 (.agg cs) (.int k i) = if 0 ≤ i ∧ i < (720 : Int) then cs[i.toNat]? else none := ixS_of Tryd.underlying95 Tryd.underlying4 rfl cells4 k i
theorem lda96 {σ : Sg} {id off : Nat} : loadPV Tryd.prog σ 96 (.ptr id off) = ldA 720 σ id off := ldA_of Tryd.underlying96 rfl cells96
theorem ela96 {σ : Sg} {es i off : Nat} {l : List PV} : loadPV Tryd.prog σ 96 (.eptr es l i off) = elA 720 l i off := elA_of Tryd.underlying96 rfl cells96
theorem sto96 {σ : Sg} {id off : Nat} {p : PV} : storePV Tryd.prog σ 96 (.ptr id off) p = stX 720 σ id off p := stX_of Tryd.underlying96 cells96 p
theorem iar96 {id off : Nat} {k : IntKind} {i : Int} : indexAddrPV Tryd.prog 96 (.ptr id off) (.int k i) = iaM 1 id off 720 i := iaA_of Tryd.underlying96 Tryd.underlying4 cells4 k i
theorem ix96 {cs : List PV} {k : IntKind} {i : Int} : indexPV Tryd.prog 96 (.agg cs) (.int k i) = if 0 ≤ i ∧ i < (720 : Int) then cs[i.toNat]? else none := ixS_of Tryd.underlying96 Tryd.underlying4 rfl cells4 k i
theorem lda98 {σ : Sg} {id off : Nat} : loadPV Tryd.prog σ 98 (.ptr id off) = ldS σ id off := ldS_of Tryd.underlying98 rfl
theorem ela98 {σ : Sg} {es i off : Nat} {l : List PV} : loadPV Tryd.prog σ 98 (.eptr es l i off) = elS l i off := elS_of Tryd.underlying98 rfl
theorem sto98 {σ : Sg} {id off : Nat} {p : PV} : storePV Tryd.prog σ 98 (.ptr id off) p = stX 1 σ id off p := stX_of Tryd.underlying98 cells98 p
theorem lda103 {σ : Sg} {id off : Nat} : loadPV Tryd.prog σ 103 (.ptr id off) = ldS σ id off := ldS_of Tryd.underlying103 rfl
theorem ela103 {σ : Sg} {es i off : Nat} {l : List PV} : loadPV Tryd.prog σ 103 (.eptr es l i off) = elS l i off := elS_of Tryd.underlying103 rfl
theorem sto103 {σ : Sg} {id off : Nat} {p : PV} : storePV Tryd.prog σ 103 (.ptr id off) p = stX 1 σ id off p := stX_of Tryd.underlying103 cells103 p
theorem lda104 {σ : Sg} {id off : Nat} : loadPV Tryd.prog σ 104 (.ptr id off) = ldS σ id off := ldS_of Tryd.underlying104 rfl
theorem ela104 {σ : Sg} {es i off : Nat} {l : List PV} : loadPV Tryd.prog σ 104 (.eptr es l i off) = elS l i off := elS_of Tryd.underlying104 rfl
theorem sto104 {σ : Sg} {id off : Nat} {p : PV} : storePV Tryd.prog σ 104 (.ptr id off) p = stX 1 σ id off p := stX_of Tryd.underlying104 cells104 p
theorem ia104 {l : List PV} {own : Own} {k : IntKind} {i : Int} : indexAddrPV Tryd.prog 104 (.isl l own) (.int k i) = iaX 1 l i := iaX_of Tryd.underlying104 Tryd.underlying5 cells5 k i
theorem iam104 {id off len : Nat} {k : IntKind} {i : Int} : indexAddrPV Tryd.prog 104 (.msl id off len) (.int k i) = iaM 1 id off len i := iaM_of Tryd.underlying104 Tryd.underlying5 cells5 k len i
theorem len104 {l : List PV} {own : Own} : lenPV Tryd.prog 104 (.isl l own) = some (.int .i64 l.length) := len_of Tryd.underlying104
theorem lenm104 {id off n : Nat} : lenPV Tryd.prog 104 (.msl id off n) = some (.int .i64 n) := lenM_of Tryd.underlying104 n
theorem bs104 {len : Nat} {parts : List (Nat × PV)} : buildSlicePV Tryd.prog 104 len parts = bsX 1 len parts := bsX_of Tryd.underlying104 Tryd.underlying5 cells5 zero5 len parts
theorem app104 {σ : Sg} {l m : List PV} {own own' : Own} : appendPV Tryd.prog σ 104 104 (.isl l own) (.isl m own') = appX 1 1 σ l own m := appX_of Tryd.underlying104 Tryd.underlying5 cells5 bytes5 (by decide) (by decide) zero5 rfl
theorem lda105 {σ : Sg} {id off : Nat} : loadPV Tryd.prog σ 105 (.ptr id off) = ldA 2 σ id off := ldA_of Tryd.underlying105 rfl cells105
theorem ela105 {σ : Sg} {es i off : Nat} {l : List PV} : loadPV Tryd.prog σ 105 (.eptr es l i off) = elA 2 l i off := elA_of Tryd.underlying105 rfl cells105
theorem sto105 {σ : Sg} {id off : Nat} {p : PV} : storePV Tryd.prog σ 105 (.ptr id off) p = stX 2 σ id off p := stX_of Tryd.underlying105 cells105 p
theorem fa105_0 {id off : Nat} : fieldAddrPV Tryd.prog 105 (.ptr id off) 0 = some (.ptr id (off + 0)) := fa1_of Tryd.underlying105 (by rfl) (by exact Tryd.underlying103) (by exact cells103) (by rfl) (by rfl)
theorem fae105_0 {es i off : Nat} {l : List PV} : fieldAddrPV Tryd.prog 105 (.eptr es l i off) 0 = some (.eptr es l i (off + 0)) := fa2_of Tryd.underlying105 (by rfl) (by exact Tryd.underlying103) (by exact cells103) (by rfl) (by rfl)
theorem fp105_0 {cs : List PV} : fieldPV Tryd.prog 105 (.agg cs) 0 = cs[0]? := fpS_of Tryd.underlying105 (by rfl) (by exact Tryd.underlying103) (by rfl) (by rfl) cs
theorem fa105_1 {id off : Nat} : fieldAddrPV Tryd.prog 105 (.ptr id off) 1 = some (.ptr id (off + 1)) := fa1_of Tryd.underlying105 (by rfl) (by exact Tryd.underlying104) (by exact cells104) (by rfl) (by rfl)
theorem fae105_1 {es i off : Nat} {l : List PV} : fieldAddrPV Tryd.prog 105 (.eptr es l i off) 1 = some (.eptr es l i (off + 1)) := fa2_of Tryd.underlying105 (by rfl) (by exact Tryd.underlying104) (by exact cells104) (by rfl) (by rfl)
theorem fp105_1 {cs : List PV} : fieldPV Tryd.prog 105 (.agg cs) 1 = cs[1]? := fpS_of Tryd.underlying105 (by rfl) (by exact Tryd.underlying104) (by rfl) (by rfl) cs
theorem bld105 {parts : List (Nat × PV)} : buildPV Tryd.prog 105 parts = bldX [.nilptr, .isl [] .exact] [(0, 1), (1, 1)] parts := bldX_of zero105 Tryd.underlying105 (by kernel_rfl) (by kernel_rfl) parts
theorem lda106 {σ : Sg} {id off : Nat} : loadPV Tryd.prog σ 106 (.ptr id off) = ldA 2 σ id off := ldA_of Tryd.underlying106 rfl cells106
theorem ela106 {σ : Sg} {es i off : Nat} {l : List PV} : loadPV Tryd.prog σ 106 (.eptr es l i off) = elA 2 l i off := elA_of Tryd.underlying106 rfl cells106
theorem sto106 {σ : Sg} {id off : Nat} {p : PV} : storePV Tryd.prog σ 106 (.ptr id off) p = stX 2 σ id off p := stX_of Tryd.underlying106 cells106 p
theorem fa106_0 {id off : Nat} : fieldAddrPV Tryd.prog 106 (.ptr id off) 0 = some (.ptr id (off + 0)) := fa1_of Tryd.underlying106 (by rfl) (by exact Tryd.underlying103) (by exact cells103) (by rfl) (by rfl)
theorem fae106_0 {es i off : Nat} {l : List PV} : fieldAddrPV Tryd.prog 106 (.eptr es l i off) 0 = some (.eptr es l i (off + 0)) := fa2_of Tryd.underlying106 (by rfl) (by exact Tryd.underlying103) (by exact cells103) (by rfl) (by rfl)
theorem fp106_0 {cs : List PV} : fieldPV Tryd.prog 106 (.agg cs) 0 = cs[0]? := fpS_of Tryd.underlying106 (by rfl) (by exact Tryd.underlying103) (by rfl) (by rfl) cs
theorem fa106_1 {id off : Nat} : fieldAddrPV Tryd.prog 106 (.ptr id off) 1 = some (.ptr id (off + 1)) := fa1_of Tryd.underlying106 (by rfl) (by exact Tryd.underlying104) (by exact cells104) (by rfl) (by rfl)
theorem fae106_1 {es i off : Nat} {l : List PV} : fieldAddrPV Tryd.prog 106 (.eptr es l i off) 1 = some (.eptr es l i (off + 1)) := fa2_of Tryd.underlying106 (by rfl) (by exact Tryd.underlying104) (by exact cells104) (by rfl) (by rfl)
theorem fp106_1 {cs : List PV} : fieldPV Tryd.prog 106 (.agg cs) 1 = cs[1]? := fpS_of Tryd.underlying106 (by rfl) (by exact Tryd.underlying104) (by rfl) (by rfl) cs
theorem bld106 {parts : List (Nat × PV)} : buildPV Tryd.prog 106 parts = bldX [.nilptr, .isl [] .exact] [(0, 1), (1, 1)] parts := bldX_of zero106 Tryd.underlying106 (by kernel_rfl) (by kernel_rfl) parts
theorem lda108 {σ : Sg} {id off : Nat} : loadPV Tryd.prog σ 108 (.ptr id off) = ldS σ id off := ldS_of Tryd.underlying108 rfl
theorem ela108 {σ : Sg} {es i off : Nat} {l : List PV} : loadPV Tryd.prog σ 108 (.eptr es l i off) = elS l i off := elS_of Tryd.underlying108 rfl
theorem sto108 {σ : Sg} {id off : Nat} {p : PV} : storePV Tryd.prog σ 108 (.ptr id off) p = stX 1 σ id off p := stX_of Tryd.underlying108 cells108 p
theorem lda118 {σ : Sg} {id off : Nat} : loadPV Tryd.prog σ 118 (.ptr id off) = ldS σ id off := ldS_of Tryd.underlying118 rfl
theorem ela118 {σ : Sg} {es i off : Nat} {l : List PV} : loadPV Tryd.prog σ 118 (.eptr es l i off) = elS l i off := elS_of Tryd.underlying118 rfl
theorem sto118 {σ : Sg} {id off : Nat} {p : PV} : storePV Tryd.prog σ 118 (.ptr id off) p = stX 1 σ id off p := stX_of Tryd.underlying118 cells118 p
theorem lda127 {σ : Sg} {id off : Nat} : loadPV Tryd.prog σ 127 (.ptr id off) = ldS σ id off := ldS_of Tryd.underlying127 rfl
theorem ela127 {σ : Sg} {es i off : Nat} {l : List PV} : loadPV Tryd.prog σ 127 (.eptr es l i off) = elS l i off := elS_of Tryd.underlying127 rfl
theorem sto127 {σ : Sg} {id off : Nat} {p : PV} : storePV Tryd.prog σ 127 (.ptr id off) p = stX 1 σ id off p := stX_of Tryd.underlying127 cells127 p
theorem lda129 {σ : Sg} {id off : Nat} : loadPV Tryd.prog σ 129 (.ptr id off) = ldS σ id off := ldS_of Tryd.underlying129 rfl
theorem ela129 {σ : Sg} {es i off : Nat} {l : List PV} : loadPV Tryd.prog σ 129 (.eptr es l i off) = elS l i off := elS_of Tryd.underlying129 rfl
theorem sto129 {σ : Sg} {id off : Nat} {p : PV} : storePV Tryd.prog σ 129 (.ptr id off) p = stX 1 σ id off p := stX_of Tryd.underlying129 cells129 p
theorem lda133 {σ : Sg} {id off : Nat} : loadPV Tryd.prog σ 133 (.ptr id off) = ldS σ id off := ldS_of Tryd.underlying133 rfl
theorem ela133 {σ : Sg} {es i off : Nat} {l : List PV} : loadPV Tryd.prog σ 133 (.eptr es l i off) = elS l i off := elS_of Tryd.underlying133 rfl
theorem sto133 {σ : Sg} {id off : Nat} {p : PV} : storePV Tryd.prog σ 133 (.ptr id off) p = stX 1 σ id off p := stX_of Tryd.underlying133 cells133 p
theorem lda137 {σ : Sg} {id off : Nat} : loadPV Tryd.prog σ 137 (.ptr id off) = ldS σ id off := ldS_of Tryd.underlying137 rfl
theorem ela137 {σ : Sg} {es i off : Nat} {l : List PV} : loadPV Tryd.prog σ 137 (.eptr es l i off) = elS l i off := elS_of Tryd.underlying137 rfl
theorem sto137 {σ : Sg} {id off : Nat} {p : PV} : storePV Tryd.prog σ 137 (.ptr id off) p = stX 1 σ id off p := stX_of Tryd.underlying137 cells137 p
theorem lda138 {σ : Sg} {id off : Nat} : loadPV Tryd.prog σ 138 (.ptr id off) = ldS σ id off := ldS_of Tryd.underlying138 rfl
theorem ela138 {σ : Sg} {es i off : Nat} {l : List PV} : loadPV Tryd.prog σ 138 (.eptr es l i off) = elS l i off := elS_of Tryd.underlying138 rfl
theorem sto138 {σ : Sg} {id off : Nat} {p : PV} : storePV Tryd.prog σ 138 (.ptr id off) p = stX 1 σ id off p := stX_of Tryd.underlying138 cells138 p
theorem ia138 {l : List PV} {own : Own} {k : IntKind} {i : Int} : indexAddrPV Tryd.prog 138 (.isl l own) (.int k i) = iaX 1 l i := iaX_of Tryd.underlying138 Tryd.underlying84 cells84 k i
theorem iam138 {id off len : Nat} {k : IntKind} {i : Int} : indexAddrPV Tryd.prog 138 (.msl id off len) (.int k i) = iaM 1 id off len i := iaM_of Tryd.underlying138 Tryd.underlying84 cells84 k len i
theorem len138 {l : List PV} {own : Own} : lenPV Tryd.prog 138 (.isl l own) = some (.int .i64 l.length) := len_of Tryd.underlying138
theorem lenm138 {id off n : Nat} : lenPV Tryd.prog 138 (.msl id off n) = some (.int .i64 n) := lenM_of Tryd.underlying138 n
theorem bs138 {len : Nat} {parts : List (Nat × PV)} : buildSlicePV Tryd.prog 138 len parts = bsX 1 len parts := bsX_of Tryd.underlying138 Tryd.underlying84 cells84 zero84 len parts
theorem app138 {σ : Sg} {l m : List PV} {own own' : Own} : appendPV Tryd.prog σ 138 138 (.isl l own) (.isl m own') = appX 1 8 σ l own m := appX_of Tryd.underlying138 Tryd.underlying84 cells84 bytes84 (by decide) (by decide) zero84 rfl
theorem lda139 {σ : Sg} {id off : Nat} : loadPV Tryd.prog σ 139 (.ptr id off) = ldS σ id off := ldS_of Tryd.underlying139 rfl
theorem ela139 {σ : Sg} {es i off : Nat} {l : List PV} : loadPV Tryd.prog σ 139 (.eptr es l i off) = elS l i off := elS_of Tryd.underlying139 rfl
theorem sto139 {σ : Sg} {id off : Nat} {p : PV} : storePV Tryd.prog σ 139 (.ptr id off) p = stX 1 σ id off p := stX_of Tryd.underlying139 cells139 p
theorem lda143 {σ : Sg} {id off : Nat} : loadPV Tryd.prog σ 143 (.ptr id off) = ldS σ id off := ldS_of Tryd.underlying143 rfl
theorem ela143 {σ : Sg} {es i off : Nat} {l : List PV} : loadPV Tryd.prog σ 143 (.eptr es l i off) = elS l i off := elS_of Tryd.underlying143 rfl
theorem sto143 {σ : Sg} {id off : Nat} {p : PV} : storePV Tryd.prog σ 143 (.ptr id off) p = stX 1 σ id off p := stX_of Tryd.underlying143 cells143 p
theorem lda145 {σ : Sg} {id off : Nat} : loadPV Tryd.prog σ 145 (.ptr id off) = ldS σ id off := ldS_of Tryd.underlying145 rfl
theorem ela145 {σ : Sg} {es i off : Nat} {l : List PV} : loadPV Tryd.prog σ 145 (.eptr es l i off) = elS l i off := elS_of Tryd.underlying145 rfl
theorem sto145 {σ : Sg} {id off : Nat} {p : PV} : storePV Tryd.prog σ 145 (.ptr id off) p = stX 1 σ id off p := stX_of Tryd.underlying145 cells145 p
theorem lda148 {σ : Sg} {id off : Nat} : loadPV Tryd.prog σ 148 (.ptr id off) = ldS σ id off := ldS_of Tryd.underlying148 rfl
theorem ela148 {σ : Sg} {es i off : Nat} {l : List PV} : loadPV Tryd.prog σ 148 (.eptr es l i off) = elS l i off := elS_of Tryd.underlying148 rfl
theorem sto148 {σ : Sg} {id off : Nat} {p : PV} : storePV Tryd.prog σ 148 (.ptr id off) p = stX 1 σ id off p := stX_of Tryd.underlying148 cells148 p
theorem lda150 {σ : Sg} {id off : Nat} : loadPV Tryd.prog σ 150 (.ptr id off) = ldA 24 σ id off := ldA_of Tryd.underlying150 rfl cells150
theorem ela150 {σ : Sg} {es i off : Nat} {l : List PV} : loadPV Tryd.prog σ 150 (.eptr es l i off) = elA 24 l i off := elA_of Tryd.underlying150 rfl cells150
theorem sto150 {σ : Sg} {id off : Nat} {p : PV} : storePV Tryd.prog σ 150 (.ptr id off) p = stX 24 σ id off p := stX_of Tryd.underlying150 cells150 p
theorem iar150 {id off : Nat} {k : IntKind} {i : Int} : indexAddrPV Tryd.prog 150 (.ptr id off) (.int k i) = iaM 1 id off 24 i := iaA_of Tryd.underlying150 Tryd.underlying5 cells5 k i
theorem ix150 {cs : List PV} {k : IntKind} {i : Int} : indexPV Tryd.prog 150 (.agg cs) (.int k i) = if 0 ≤ i ∧ i < (24 : Int) then cs[i.toNat]? else none := ixS_of Tryd.underlying150 Tryd.underlying5 rfl cells5 k i
theorem lda156 {σ : Sg} {id off : Nat} : loadPV Tryd.prog σ 156 (.ptr id off) = ldA 20 σ id off := ldA_of Tryd.underlying156 rfl cells156
theorem ela156 {σ : Sg} {es i off : Nat} {l : List PV} : loadPV Tryd.prog σ 156 (.eptr es l i off) = elA 20 l i off := elA_of Tryd.underlying156 rfl cells156
theorem sto156 {σ : Sg} {id off : Nat} {p : PV} : storePV Tryd.prog σ 156 (.ptr id off) p = stX 20 σ id off p := stX_of Tryd.underlying156 cells156 p
theorem iar156 {id off : Nat} {k : IntKind} {i : Int} : indexAddrPV Tryd.prog 156 (.ptr id off) (.int k i) = iaM 1 id off 20 i := iaA_of Tryd.underlying156 Tryd.underlying129 cells129 k i
theorem ix156 {cs : List PV} {k : IntKind} {i : Int} : indexPV Tryd.prog 156 (.agg cs) (.int k i) = if 0 ≤ i ∧ i < (20 : Int) then cs[i.toNat]? else none := ixS_of Tryd.underlying156 Tryd.underlying129 rfl cells129 k i
theorem lda157 {σ : Sg} {id off : Nat} : loadPV Tryd.prog σ 157 (.ptr id off) = ldA 65 σ id off := ldA_of Tryd.underlying157 rfl cells157
theorem ela157 {σ : Sg} {es i off : Nat} {l : List PV} : loadPV Tryd.prog σ 157 (.eptr es l i off) = elA 65 l i off := elA_of Tryd.underlying157 rfl cells157
theorem sto157 {σ : Sg} {id off : Nat} {p : PV} : storePV Tryd.prog σ 157 (.ptr id off) p = stX 65 σ id off p := stX_of Tryd.underlying157 cells157 p
theorem iar157 {id off : Nat} {k : IntKind} {i : Int} : indexAddrPV Tryd.prog 157 (.ptr id off) (.int k i) = iaM 1 id off 65 i := iaA_of Tryd.underlying157 Tryd.underlying5 cells5 k i
theorem ix157 {cs : List PV} {k : IntKind} {i : Int} : indexPV Tryd.prog 157 (.agg cs) (.int k i) = if 0 ≤ i ∧ i < (65 : Int) then cs[i.toNat]? else none := ixS_of Tryd.underlying157 Tryd.underlying5 rfl cells5 k i
theorem lda158 {σ : Sg} {id off : Nat} : loadPV Tryd.prog σ 158 (.ptr id off) = ldA 32 σ id off := ldA_of Tryd.underlying158 rfl cells158
theorem ela158 {σ : Sg} {es i off : Nat} {l : List PV} : loadPV Tryd.prog σ 158 (.eptr es l i off) = elA 32 l i off := elA_of Tryd.underlying158 rfl cells158
theorem sto158 {σ : Sg} {id off : Nat} {p : PV} : storePV Tryd.prog σ 158 (.ptr id off) p = stX 32 σ id off p := stX_of Tryd.underlying158 cells158 p
theorem iar158 {id off : Nat} {k : IntKind} {i : Int} : indexAddrPV Tryd.prog 158 (.ptr id off) (.int k i) = iaM 1 id off 32 i := iaA_of Tryd.underlying158 Tryd.underlying5 cells5 k i
theorem ix158 {cs : List PV} {k : IntKind} {i : Int} : indexPV Tryd.prog 158 (.agg cs) (.int k i) = if 0 ≤ i ∧ i < (32 : Int) then cs[i.toNat]? else none := ixS_of Tryd.underlying158 Tryd.underlying5 rfl cells5 k i
theorem lda159 {σ : Sg} {id off : Nat} : loadPV Tryd.prog σ 159 (.ptr id off) = ldA 64 σ id off := ldA_of Tryd.underlying159 rfl cells159
theorem ela159 {σ : Sg} {es i off : Nat} {l : List PV} : loadPV Tryd.prog σ 159 (.eptr es l i off) = elA 64 l i off := elA_of Tryd.underlying159 rfl cells159
theorem sto159 {σ : Sg} {id off : Nat} {p : PV} : storePV Tryd.prog σ 159 (.ptr id off) p = stX 64 σ id off p := stX_of Tryd.underlying159 cells159 p
theorem iar159 {id off : Nat} {k : IntKind} {i : Int} : indexAddrPV Tryd.prog 159 (.ptr id off) (.int k i) = iaM 1 id off 64 i := iaA_of Tryd.underlying159 Tryd.underlying5 cells5 k i
theorem ix159 {cs : List PV} {k : IntKind} {i : Int} : indexPV Tryd.prog 159 (.agg cs) (.int k i) = if 0 ≤ i ∧ i < (64 : Int) then cs[i.toNat]? else none := ixS_of Tryd.underlying159 Tryd.underlying5 rfl cells5 k i
theorem lda160 {σ : Sg} {id off : Nat} : loadPV Tryd.prog σ 160 (.ptr id off) = ldA 4 σ id off := ldA_of Tryd.underlying160 rfl cells160
theorem ela160 {σ : Sg} {es i off : Nat} {l : List PV} : loadPV Tryd.prog σ 160 (.eptr es l i off) = elA 4 l i off := elA_of Tryd.underlying160 rfl cells160
theorem sto160 {σ : Sg} {id off : Nat} {p : PV} : storePV Tryd.prog σ 160 (.ptr id off) p = stX 4 σ id off p := stX_of Tryd.underlying160 cells160 p
theorem fa160_3 {id off : Nat} : fieldAddrPV Tryd.prog 160 (.ptr id off) 3 = some (.ptr id (off + 3)) := fa1_of Tryd.underlying160 (by rfl) (by exact Tryd.underlying9) (by exact cells9) (by rfl) (by rfl)
theorem fae160_3 {es i off : Nat} {l : List PV} : fieldAddrPV Tryd.prog 160 (.eptr es l i off) 3 = some (.eptr es l i (off + 3)) := fa2_of Tryd.underlying160 (by rfl) (by exact Tryd.underlying9) (by exact cells9) (by rfl) (by rfl)
theorem fp160_3 {cs : List PV} : fieldPV Tryd.prog 160 (.agg cs) 3 = cs[3]? := fpS_of Tryd.underlying160 (by rfl) (by exact Tryd.underlying9) (by rfl) (by rfl) cs
theorem lda161 {σ : Sg} {id off : Nat} : loadPV Tryd.prog σ 161 (.ptr id off) = ldA 4 σ id off := ldA_of Tryd.underlying161 rfl cells161
theorem ela161 {σ : Sg} {es i off : Nat} {l : List PV} : loadPV Tryd.prog σ 161 (.eptr es l i off) = elA 4 l i off := elA_of Tryd.underlying161 rfl cells161
theorem sto161 {σ : Sg} {id off : Nat} {p : PV} : storePV Tryd.prog σ 161 (.ptr id off) p = stX 4 σ id off p := stX_of Tryd.underlying161 cells161 p
theorem fa161_3 {id off : Nat} : fieldAddrPV Tryd.prog 161 (.ptr id off) 3 = some (.ptr id (off + 3)) := fa1_of Tryd.underlying161 (by rfl) (by exact Tryd.underlying9) (by exact cells9) (by rfl) (by rfl)
theorem fae161_3 {es i off : Nat} {l : List PV} : fieldAddrPV Tryd.prog 161 (.eptr es l i off) 3 = some (.eptr es l i (off + 3)) := fa2_of Tryd.underlying161 (by rfl) (by exact Tryd.underlying9) (by exact cells9) (by rfl) (by rfl)
theorem fp161_3 {cs : List PV} : fieldPV Tryd.prog 161 (.agg cs) 3 = cs[3]? := fpS_of Tryd.underlying161 (by rfl) (by exact Tryd.underlying9) (by rfl) (by rfl) cs
theorem lda162 {σ : Sg} {id off : Nat} : loadPV Tryd.prog σ 162 (.ptr id off) = ldA 0 σ id off := ldA_of Tryd.underlying162 rfl cells162
theorem ela162 {σ : Sg} {es i off : Nat} {l : List PV} : loadPV Tryd.prog σ 162 (.eptr es l i off) = elA 0 l i off := elA_of Tryd.underlying162 rfl cells162
theorem sto162 {σ : Sg} {id off : Nat} {p : PV} : storePV Tryd.prog σ 162 (.ptr id off) p = stX 0 σ id off p := stX_of Tryd.underlying162 cells162 p
theorem lda163 {σ : Sg} {id off : Nat} : loadPV Tryd.prog σ 163 (.ptr id off) = ldA 0 σ id off := ldA_of Tryd.underlying163 rfl cells163
theorem ela163 {σ : Sg} {es i off : Nat} {l : List PV} : loadPV Tryd.prog σ 163 (.eptr es l i off) = elA 0 l i off := elA_of Tryd.underlying163 rfl cells163
theorem sto163 {σ : Sg} {id off : Nat} {p : PV} : storePV Tryd.prog σ 163 (.ptr id off) p = stX 0 σ id off p := stX_of Tryd.underlying163 cells163 p
theorem lda164 {σ : Sg} {id off : Nat} : loadPV Tryd.prog σ 164 (.ptr id off) = ldA 0 σ id off := ldA_of Tryd.underlying164 rfl cells164
theorem ela164 {σ : Sg} {es i off : Nat} {l : List PV} : loadPV Tryd.prog σ 164 (.eptr es l i off) = elA 0 l i off := elA_of Tryd.underlying164 rfl cells164
theorem sto164 {σ : Sg} {id off : Nat} {p : PV} : storePV Tryd.prog σ 164 (.ptr id off) p = stX 0 σ id off p := stX_of Tryd.underlying164 cells164 p
theorem lda166 {σ : Sg} {id off : Nat} : loadPV Tryd.prog σ 166 (.ptr id off) = ldS σ id off := ldS_of Tryd.underlying166 rfl
theorem ela166 {σ : Sg} {es i off : Nat} {l : List PV} : loadPV Tryd.prog σ 166 (.eptr es l i off) = elS l i off := elS_of Tryd.underlying166 rfl
theorem sto166 {σ : Sg} {id off : Nat} {p : PV} : storePV Tryd.prog σ 166 (.ptr id off) p = stX 1 σ id off p := stX_of Tryd.underlying166 cells166 p
theorem lda167 {σ : Sg} {id off : Nat} : loadPV Tryd.prog σ 167 (.ptr id off) = ldS σ id off := ldS_of Tryd.underlying167 rfl
theorem ela167 {σ : Sg} {es i off : Nat} {l : List PV} : loadPV Tryd.prog σ 167 (.eptr es l i off) = elS l i off := elS_of Tryd.underlying167 rfl
theorem sto167 {σ : Sg} {id off : Nat} {p : PV} : storePV Tryd.prog σ 167 (.ptr id off) p = stX 1 σ id off p := stX_of Tryd.underlying167 cells167 p
theorem lda169 {σ : Sg} {id off : Nat} : loadPV Tryd.prog σ 169 (.ptr id off) = ldS σ id off := ldS_of Tryd.underlying169 rfl
theorem ela169 {σ : Sg} {es i off : Nat} {l : List PV} : loadPV Tryd.prog σ 169 (.eptr es l i off) = elS l i off := elS_of Tryd.underlying169 rfl
theorem sto169 {σ : Sg} {id off : Nat} {p : PV} : storePV Tryd.prog σ 169 (.ptr id off) p = stX 1 σ id off p := stX_of Tryd.underlying169 cells169 p
theorem lda170 {σ : Sg} {id off : Nat} : loadPV Tryd.prog σ 170 (.ptr id off) = ldS σ id off := ldS_of Tryd.underlying170 rfl
theorem ela170 {σ : Sg} {es i off : Nat} {l : List PV} : loadPV Tryd.prog σ 170 (.eptr es l i off) = elS l i off := elS_of Tryd.underlying170 rfl
theorem sto170 {σ : Sg} {id off : Nat} {p : PV} : storePV Tryd.prog σ 170 (.ptr id off) p = stX 1 σ id off p := stX_of Tryd.underlying170 cells170 p
theorem lda171 {σ : Sg} {id off : Nat} : loadPV Tryd.prog σ 171 (.ptr id off) = ldA 11 σ id off := ldA_of Tryd.underlying171 rfl cells171
theorem ela171 {σ : Sg} {es i off : Nat} {l : List PV} : loadPV Tryd.prog σ 171 (.eptr es l i off) = elA 11 l i off := elA_of Tryd.underlying171 rfl cells171
theorem sto171 {σ : Sg} {id off : Nat} {p : PV} : storePV Tryd.prog σ 171 (.ptr id off) p = stX 11 σ id off p := stX_of Tryd.underlying171 cells171 p
theorem fa171_2 {id off : Nat} : fieldAddrPV Tryd.prog 171 (.ptr id off) 2 = some (.ptr id (off + 2)) := fa1_of Tryd.underlying171 (by rfl) (by exact Tryd.underlying127) (by exact cells127) (by rfl) (by rfl)
theorem fae171_2 {es i off : Nat} {l : List PV} : fieldAddrPV Tryd.prog 171 (.eptr es l i off) 2 = some (.eptr es l i (off + 2)) := fa2_of Tryd.underlying171 (by rfl) (by exact Tryd.underlying127) (by exact cells127) (by rfl) (by rfl)
theorem fp171_2 {cs : List PV} : fieldPV Tryd.prog 171 (.agg cs) 2 = cs[2]? := fpS_of Tryd.underlying171 (by rfl) (by exact Tryd.underlying127) (by rfl) (by rfl) cs
theorem fa171_3 {id off : Nat} : fieldAddrPV Tryd.prog 171 (.ptr id off) 3 = some (.ptr id (off + 3)) := fa1_of Tryd.underlying171 (by rfl) (by exact Tryd.underlying166) (by exact cells166) (by rfl) (by rfl)
theorem fae171_3 {es i off : Nat} {l : List PV} : fieldAddrPV Tryd.prog 171 (.eptr es l i off) 3 = some (.eptr es l i (off + 3)) := fa2_of Tryd.underlying171 (by rfl) (by exact Tryd.underlying166) (by exact cells166) (by rfl) (by rfl)
theorem fp171_3 {cs : List PV} : fieldPV Tryd.prog 171 (.agg cs) 3 = cs[3]? := fpS_of Tryd.underlying171 (by rfl) (by exact Tryd.underlying166) (by rfl) (by rfl) cs
theorem fa171_4 {id off : Nat} : fieldAddrPV Tryd.prog 171 (.ptr id off) 4 = some (.ptr id (off + 4)) := fa1_of Tryd.underlying171 (by rfl) (by exact Tryd.underlying5) (by exact cells5) (by rfl) (by rfl)
theorem fae171_4 {es i off : Nat} {l : List PV} : fieldAddrPV Tryd.prog 171 (.eptr es l i off) 4 = some (.eptr es l i (off + 4)) := fa2_of Tryd.underlying171 (by rfl) (by exact Tryd.underlying5) (by exact cells5) (by rfl) (by rfl)
theorem fp171_4 {cs : List PV} : fieldPV Tryd.prog 171 (.agg cs) 4 = cs[4]? := fpS_of Tryd.underlying171 (by rfl) (by exact Tryd.underlying5) (by rfl) (by rfl) cs
theorem fa171_5 {id off : Nat} : fieldAddrPV Tryd.prog 171 (.ptr id off) 5 = some (.ptr id (off + 5)) := fa1_of Tryd.underlying171 (by rfl) (by exact Tryd.underlying5) (by exact cells5) (by rfl) (by rfl)
theorem fae171_5 {es i off : Nat} {l : List PV} : fieldAddrPV Tryd.prog 171 (.eptr es l i off) 5 = some (.eptr es l i (off + 5)) := fa2_of Tryd.underlying171 (by rfl) (by exact Tryd.underlying5) (by exact cells5) (by rfl) (by rfl)
theorem fp171_5 {cs : List PV} : fieldPV Tryd.prog 171 (.agg cs) 5 = cs[5]? := fpS_of Tryd.underlying171 (by rfl) (by exact Tryd.underlying5) (by rfl) (by rfl) cs
theorem fa171_6 {id off : Nat} : fieldAddrPV Tryd.prog 171 (.ptr id off) 6 = some (.ptr id (off + 6)) := fa1_of Tryd.underlying171 (by rfl) (by exact Tryd.underlying167) (by exact cells167) (by rfl) (by rfl)
theorem fae171_6 {es i off : Nat} {l : List PV} : fieldAddrPV Tryd.prog 171 (.eptr es l i off) 6 = some (.eptr es l i (off + 6)) := fa2_of Tryd.underlying171 (by rfl) (by exact Tryd.underlying167) (by exact cells167) (by rfl) (by rfl)
theorem fp171_6 {cs : List PV} : fieldPV Tryd.prog 171 (.agg cs) 6 = cs[6]? := fpS_of Tryd.underlying171 (by rfl) (by exact Tryd.underlying167) (by rfl) (by rfl) cs
theorem fa171_8 {id off : Nat} : fieldAddrPV Tryd.prog 171 (.ptr id off) 8 = some (.ptr id (off + 8)) := fa1_of Tryd.underlying171 (by rfl) (by exact Tryd.underlying137) (by exact cells137) (by rfl) (by rfl)
theorem fae171_8 {es i off : Nat} {l : List PV} : fieldAddrPV Tryd.prog 171 (.eptr es l i off) 8 = some (.eptr es l i (off + 8)) := fa2_of Tryd.underlying171 (by rfl) (by exact Tryd.underlying137) (by exact cells137) (by rfl) (by rfl)
theorem fp171_8 {cs : List PV} : fieldPV Tryd.prog 171 (.agg cs) 8 = cs[8]? := fpS_of Tryd.underlying171 (by rfl) (by exact Tryd.underlying137) (by rfl) (by rfl) cs
theorem fa171_9 {id off : Nat} : fieldAddrPV Tryd.prog 171 (.ptr id off) 9 = some (.ptr id (off + 9)) := fa1_of Tryd.underlying171 (by rfl) (by exact Tryd.underlying169) (by exact cells169) (by rfl) (by rfl)
theorem fae171_9 {es i off : Nat} {l : List PV} : fieldAddrPV Tryd.prog 171 (.eptr es l i off) 9 = some (.eptr es l i (off + 9)) := fa2_of Tryd.underlying171 (by rfl) (by exact Tryd.underlying169) (by exact cells169) (by rfl) (by rfl)
theorem fp171_9 {cs : List PV} : fieldPV Tryd.prog 171 (.agg cs) 9 = cs[9]? := fpS_of Tryd.underlying171 (by rfl) (by exact Tryd.underlying169) (by rfl) (by rfl) cs
theorem fa171_10 {id off : Nat} : fieldAddrPV Tryd.prog 171 (.ptr id off) 10 = some (.ptr id (off + 10)) := fa1_of Tryd.underlying171 (by rfl) (by exact Tryd.underlying170) (by exact cells170) (by rfl) (by rfl)
theorem fae171_10 {es i off : Nat} {l : List PV} : fieldAddrPV Tryd.prog 171 (.eptr es l i off) 10 = some (.eptr es l i (off + 10)) := fa2_of Tryd.underlying171 (by rfl) (by exact Tryd.underlying170) (by exact cells170) (by rfl) (by rfl)
theorem fp171_10 {cs : List PV} : fieldPV Tryd.prog 171 (.agg cs) 10 = cs[10]? := fpS_of Tryd.underlying171 (by rfl) (by exact Tryd.underlying170) (by rfl) (by rfl) cs
theorem lda172 {σ : Sg} {id off : Nat} : loadPV Tryd.prog σ 172 (.ptr id off) = ldA 11 σ id off := ldA_of Tryd.underlying172 rfl cells172
theorem ela172 {σ : Sg} {es i off : Nat} {l : List PV} : loadPV Tryd.prog σ 172 (.eptr es l i off) = elA 11 l i off := elA_of Tryd.underlying172 rfl cells172
theorem sto172 {σ : Sg} {id off : Nat} {p : PV} : storePV Tryd.prog σ 172 (.ptr id off) p = stX 11 σ id off p := stX_of Tryd.underlying172 cells172 p
theorem fa172_2 {id off : Nat} : fieldAddrPV Tryd.prog 172 (.ptr id off) 2 = some (.ptr id (off + 2)) := fa1_of Tryd.underlying172 (by rfl) (by exact Tryd.underlying127) (by exact cells127) (by rfl) (by rfl)
theorem fae172_2 {es i off : Nat} {l : List PV} : fieldAddrPV Tryd.prog 172 (.eptr es l i off) 2 = some (.eptr es l i (off + 2)) := fa2_of Tryd.underlying172 (by rfl) (by exact Tryd.underlying127) (by exact cells127) (by rfl) (by rfl)
theorem fp172_2 {cs : List PV} : fieldPV Tryd.prog 172 (.agg cs) 2 = cs[2]? := fpS_of Tryd.underlying172 (by rfl) (by exact Tryd.underlying127) (by rfl) (by rfl) cs
theorem fa172_3 {id off : Nat} : fieldAddrPV Tryd.prog 172 (.ptr id off) 3 = some (.ptr id (off + 3)) := fa1_of Tryd.underlying172 (by rfl) (by exact Tryd.underlying166) (by exact cells166) (by rfl) (by rfl)
theorem fae172_3 {es i off : Nat} {l : List PV} : fieldAddrPV Tryd.prog 172 (.eptr es l i off) 3 = some (.eptr es l i (off + 3)) := fa2_of Tryd.underlying172 (by rfl) (by exact Tryd.underlying166) (by exact cells166) (by rfl) (by rfl)
theorem fp172_3 {cs : List PV} : fieldPV Tryd.prog 172 (.agg cs) 3 = cs[3]? := fpS_of Tryd.underlying172 (by rfl) (by exact Tryd.underlying166) (by rfl) (by rfl) cs
theorem fa172_4 {id off : Nat} : fieldAddrPV Tryd.prog 172 (.ptr id off) 4 = some (.ptr id (off + 4)) := fa1_of Tryd.underlying172 (by rfl) (by exact Tryd.underlying5) (by exact cells5) (by rfl) (by rfl)
theorem fae172_4 {es i off : Nat} {l : List PV} : fieldAddrPV Tryd.prog 172 (.eptr es l i off) 4 = some (.eptr es l i (off + 4)) := fa2_of Tryd.underlying172 (by rfl) (by exact Tryd.underlying5) (by exact cells5) (by rfl) (by rfl)
theorem fp172_4 {cs : List PV} : fieldPV Tryd.prog 172 (.agg cs) 4 = cs[4]? := fpS_of Tryd.underlying172 (by rfl) (by exact Tryd.underlying5) (by rfl) (by rfl) cs
theorem fa172_5 {id off : Nat} : fieldAddrPV Tryd.prog 172 (.ptr id off) 5 = some (.ptr id (off + 5)) := fa1_of Tryd.underlying172 (by rfl) (by exact Tryd.underlying5) (by exact cells5) (by rfl) (by rfl)
theorem fae172_5 {es i off : Nat} {l : List PV} : fieldAddrPV Tryd.prog 172 (.eptr es l i off) 5 = some (.eptr es l i (off + 5)) := fa2_of Tryd.underlying172 (by rfl) (by exact Tryd.underlying5) (by exact cells5) (by rfl) (by rfl)
theorem fp172_5 {cs : List PV} : fieldPV Tryd.prog 172 (.agg cs) 5 = cs[5]? := fpS_of Tryd.underlying172 (by rfl) (by exact Tryd.underlying5) (by rfl) (by rfl) cs
theorem fa172_6 {id off : Nat} : fieldAddrPV Tryd.prog 172 (.ptr id off) 6 = some (.ptr id (off + 6)) := fa1_of Tryd.underlying172 (by rfl) (by exact Tryd.underlying167) (by exact cells167) (by rfl) (by rfl)
theorem fae172_6 {es i off : Nat} {l : List PV} : fieldAddrPV Tryd.prog 172 (.eptr es l i off) 6 = some (.eptr es l i (off + 6)) := fa2_of Tryd.underlying172 (by rfl) (by exact Tryd.underlying167) (by exact cells167) (by rfl) (by rfl)
theorem fp172_6 {cs : List PV} : fieldPV Tryd.prog 172 (.agg cs) 6 = cs[6]? := fpS_of Tryd.underlying172 (by rfl) (by exact Tryd.underlying167) (by rfl) (by rfl) cs
theorem fa172_8 {id off : Nat} : fieldAddrPV Tryd.prog 172 (.ptr id off) 8 = some (.ptr id (off + 8)) := fa1_of Tryd.underlying172 (by rfl) (by exact Tryd.underlying137) (by exact cells137) (by rfl) (by rfl)
theorem fae172_8 {es i off : Nat} {l : List PV} : fieldAddrPV Tryd.prog 172 (.eptr es l i off) 8 = some (.eptr es l i (off + 8)) := fa2_of Tryd.underlying172 (by rfl) (by exact Tryd.underlying137) (by exact cells137) (by rfl) (by rfl)
theorem fp172_8 {cs : List PV} : fieldPV Tryd.prog 172 (.agg cs) 8 = cs[8]? := fpS_of Tryd.underlying172 (by rfl) (by exact Tryd.underlying137) (by rfl) (by rfl) cs
theorem fa172_9 {id off : Nat} : fieldAddrPV Tryd.prog 172 (.ptr id off) 9 = some (.ptr id (off + 9)) := fa1_of Tryd.underlying172 (by rfl) (by exact Tryd.underlying169) (by exact cells169) (by rfl) (by rfl)
theorem fae172_9 {es i off : Nat} {l : List PV} : fieldAddrPV Tryd.prog 172 (.eptr es l i off) 9 = some (.eptr es l i (off + 9)) := fa2_of Tryd.underlying172 (by rfl) (by exact Tryd.underlying169) (by exact cells169) (by rfl) (by rfl)
theorem fp172_9 {cs : List PV} : fieldPV Tryd.prog 172 (.agg cs) 9 = cs[9]? := fpS_of Tryd.underlying172 (by rfl) (by exact Tryd.underlying169) (by rfl) (by rfl) cs
theorem fa172_10 {id off : Nat} : fieldAddrPV Tryd.prog 172 (.ptr id off) 10 = some (.ptr id (off + 10)) := fa1_of Tryd.underlying172 (by rfl) (by exact Tryd.underlying170) (by exact cells170) (by rfl) (by rfl)
theorem fae172_10 {es i off : Nat} {l : List PV} : fieldAddrPV Tryd.prog 172 (.eptr es l i off) 10 = some (.eptr es l i (off + 10)) := fa2_of Tryd.underlying172 (by rfl) (by exact Tryd.underlying170) (by exact cells170) (by rfl) (by rfl)
theorem fp172_10 {cs : List PV} : fieldPV Tryd.prog 172 (.agg cs) 10 = cs[10]? := fpS_of Tryd.underlying172 (by rfl) (by exact Tryd.underlying170) (by rfl) (by rfl) cs
attribute [go_sem] lda2 ela2 sto2 lda3 ela3 sto3 lda4 ela4 sto4 lda5 ela5 sto5 lda9 ela9 sto9 lda22 ela22 sto22 ia22 iam22 len22 lenm22 bs22 app22 lda23 ela23 sto23 ia23 iam23 len23 lenm23 bs23 app23 lda24 ela24 sto24 ia24 iam24 len24 lenm24 bs24 app24 lda25 ela25 sto25 fa25_0 fae25_0 fp25_0 fa25_1 fae25_1 fp25_1 fa25_2 fae25_2 fp25_2 fa25_3 fae25_3 fp25_3 bld25 lda26 ela26 sto26 fa26_0 fae26_0 fp26_0 fa26_1 fae26_1 fp26_1 fa26_2 fae26_2 fp26_2 fa26_3 fae26_3 fp26_3 bld26 lda27 ela27 sto27 fa27_0 fae27_0 fp27_0 fa27_1 fae27_1 fp27_1 fa27_2 fae27_2 fp27_2 bld27 lda28 ela28 sto28 fa28_0 fae28_0 fp28_0 fa28_1 fae28_1 fp28_1 fa28_2 fae28_2 fp28_2 bld28 lda30 ela30 sto30 fa30_0 fae30_0 fp30_0 fa30_1 fae30_1 fp30_1 eqs30 bld30 lda31 ela31 sto31 fa31_0 fae31_0 fp31_0 fa31_1 fae31_1 fp31_1 eqs31 bld31 lda32 ela32 sto32 fa32_0 fae32_0 fp32_0 fa32_1 fae32_1 fp32_1 fa32_2 fae32_2 fp32_2 fa32_3 fae32_3 fp32_3 fa32_4 fae32_4 fp32_4 bld32 lda33 ela33 sto33 fa33_0 fae33_0 fp33_0 fa33_1 fae33_1 fp33_1 fa33_2 fae33_2 fp33_2 fa33_3 fae33_3 fp33_3 fa33_4 fae33_4 fp33_4 bld33 lda34 ela34 sto34 ia34 iam34 len34 lenm34 bs34 app34 lda37 ela37 sto37 lda42 ela42 sto42 ia42 iam42 len42 lenm42 bs42 app42 lda43 ela43 sto43 ia43 iam43 len43 lenm43 bs43 app43 lda51 ela51 sto51 fa51_0 fae51_0 fp51_0 fa51_1 fae51_1 fp51_1 eqs51 bld51 lda52 ela52 sto52 fa52_0 fae52_0 fp52_0 fa52_1 fae52_1 fp52_1 eqs52 bld52 lda54 ela54 sto54 ia54 iam54 len54 lenm54 bs54 app54 lda64 ela64 sto64 lda67 ela67 sto67 ia67 iam67 len67 lenm67 bs67 app67 lda68 ela68 sto68 fa68_0 fae68_0 fp68_0 fa68_1 fae68_1 fp68_1 bld68 lda69 ela69 sto69 fa69_0 fae69_0 fp69_0 fa69_1 fae69_1 fp69_1 bld69 lda82 ela82 sto82 fa82_0 fae82_0 fp82_0 fa82_1 fae82_1 fp82_1 fa82_2 fae82_2 fp82_2 bld82 lda83 ela83 sto83 fa83_0 fae83_0 fp83_0 fa83_1 fae83_1 fp83_1 fa83_2 fae83_2 fp83_2 bld83 lda84 ela84 sto84 lda86 ela86 sto86 fa86_0 fae86_0 fp86_0 fa86_1 fae86_1 fp86_1 fa86_2 fae86_2 fp86_2 fa86_3 fae86_3 fp86_3 fa86_4 fae86_4 fp86_4 bld86 lda87 ela87 sto87 fa87_0 fae87_0 fp87_0 fa87_1 fae87_1 fp87_1 fa87_2 fae87_2 fp87_2 fa87_3 fae87_3 fp87_3 fa87_4 fae87_4 fp87_4 bld87 lda93 ela93 sto93 lda95 ela95 sto95 iar95 ix95 lda96 ela96 sto96 iar96 ix96 lda98 ela98 sto98 lda103 ela103 sto103 lda104 ela104 sto104 ia104 iam104 len104 lenm104 bs104 app104 lda105 ela105 sto105 fa105_0 fae105_0 fp105_0 fa105_1 fae105_1 fp105_1 bld105 lda106 ela106 sto106 fa106_0 fae106_0 fp106_0 fa106_1 fae106_1 fp106_1 bld106 lda108 ela108 sto108 lda118 ela118 sto118 lda127 ela127 sto127 lda129 ela129 sto129 lda133 ela133 sto133 lda137 ela137 sto137 lda138 ela138 sto138 ia138 iam138 len138 lenm138 bs138 app138 lda139 ela139 sto139 lda143 ela143 sto143 lda145 ela145 sto145 lda148 ela148 sto148 lda150 ela150 sto150 iar150 ix150 lda156 ela156 sto156 iar156 ix156 lda157 ela157 sto157 iar157 ix157 lda158 ela158 sto158 iar158 ix158 lda159 ela159 sto159 iar159 ix159 lda160 ela160 sto160 fa160_3 fae160_3 fp160_3 lda161 ela161 sto161 fa161_3 fae161_3 fp161_3 lda162 ela162 sto162 lda163 ela163 sto163 lda164 ela164 sto164 lda166 ela166 sto166 lda167 ela167 sto167 lda169 ela169 sto169 lda170 ela170 sto170 lda171 ela171 sto171 fa171_2 fae171_2 fp171_2 fa171_3 fae171_3 fp171_3 fa171_4 fae171_4 fp171_4 fa171_5 fae171_5 fp171_5 fa171_6 fae171_6 fp171_6 fa171_8 fae171_8 fp171_8 fa171_9 fae171_9 fp171_9 fa171_10 fae171_10 fp171_10 lda172 ela172 sto172 fa172_2 fae172_2 fp172_2 fa172_3 fae172_3 fp172_3 fa172_4 fae172_4 fp172_4 fa172_5 fae172_5 fp172_5 fa172_6 fae172_6 fp172_6 fa172_8 fae172_8 fp172_8 fa172_9 fae172_9 fp172_9 fa172_10 fae172_10 fp172_10 zero2 zero3 zero4 zero5 zero9 zero22 zero23 zero24 zero25 zero26 zero27 zero28 zero30 zero31 zero32 zero33 zero34 zero37 zero42 zero43 zero51 zero52 zero54 zero64 zero67 zero68 zero69 zero82 zero83 zero84 zero86 zero87 zero93 zero98 zero103 zero104 zero105 zero106 zero108 zero118 zero127 zero129 zero133 zero137 zero138 zero139 zero143 zero145 zero148 zero150 zero156 zero158 zero159 zero160 zero161 zero162 zero163 zero164 zero166 zero167 zero169 zero170 zero171 zero172
end Go.Proofs.YteklodljdndcoaaDoor
namespace Go.Proofs.YteklodljdndcoaaDoor
open Go Go.RowKit
theorem seqN {K : Env → Sg → Prop} {Q : Exit → Env → Sg → Prop} {E : Env} {σ : Sg} : Seq K Q .normal E σ = K E σ := rfl
theorem seqR {K : Env → Sg → Prop} {Q : Exit → Env → Sg → Prop} {E : Env} {σ : Sg} : Seq K Q .ret E σ = Q .ret E σ := rfl
theorem seqX {K : Env → Sg → Prop} {Q : Exit → Env → Sg → Prop} {E : Env} {σ : Sg} {i : Nat} : Seq K Q (.exit i) E σ = Q (.exit i) E σ := rfl
theorem blkN {i : Nat} {Q : Exit → Env → Sg → Prop} {E : Env} {σ : Sg} : InBlock i Q .normal E σ = Q .normal E σ := rfl
theorem blkR {i : Nat} {Q : Exit → Env → Sg → Prop} {E : Env} {σ : Sg} : InBlock i Q .ret E σ = Q .ret E σ := rfl
theorem blkX {i j : Nat} {Q : Exit → Env → Sg → Prop} {E : Env} {σ : Sg} : InBlock i Q (.exit j) E σ = if j = i then Q .normal E σ else Q (.exit j) E σ := rfl
theorem range0 : List.range 0 = [] := rfl
theorem range1 : List.range 1 = [0] := rfl
theorem range2 : List.range 2 = [0, 1] := rfl
theorem range3 : List.range 3 = [0, 1, 2] := rfl
theorem range4 : List.range 4 = [0, 1, 2, 3] := rfl
theorem range5 : List.range 5 = [0, 1, 2, 3, 4] := rfl
theorem range6 : List.range 6 = [0, 1, 2, 3, 4, 5] := rfl
theorem range7 : List.range 7 = [0, 1, 2, 3, 4, 5, 6] := rfl
theorem range8 : List.range 8 = [0, 1, 2, 3, 4, 5, 6, 7] := rfl
theorem range9 : List.range 9 = [0, 1, 2, 3, 4, 5, 6, 7, 8] := rfl
theorem range10 : List.range 10 = [0, 1, 2, 3, 4, 5, 6, 7, 8, 9] := rfl
theorem range11 : List.range 11 = [0, 1, 2, 3, 4, 5, 6, 7, 8, 9, 10] := rfl
theorem range12 : List.range 12 = [0, 1, 2, 3, 4, 5, 6, 7, 8, 9, 10, 11] := rfl
theorem range13 : List.range 13 = [0, 1, 2, 3, 4, 5, 6, 7, 8, 9, 10, 11, 12] := rfl
theorem range14 : List.range 14 = [0, 1, 2, 3, 4, 5, 6, 7, 8, 9, 10, 11, 12, 13] := rfl
theorem range15 : List.range 15 = [0, 1, 2, 3, 4, 5, 6, 7, 8, 9, 10, 11, 12, 13, 14] := rfl
theorem range16 : List.range 16 = [0, 1, 2, 3, 4, 5, 6, 7, 8, 9, 10, 11, 12, 13, 14, 15] := rfl
attribute [go_sem] range0 range1 range2 range3 range4 range5 range6 range7 range8 range9 range10 range11 range12 range13 range14 range15 range16
attribute [go_sem low] Sg.push_new Sg.pushRoom_new Sg.pushY_new
attribute [go_sem] Sg.ext_ext
attribute [go_sem] seqN seqR seqX blkN blkR blkX
attribute [go_sem] GL GD GWant_true GWant_false GOpt_some GWho_nobody GWho_fn GWho_yield GOr_true wantedPV whom effOp pureOp isNilC isNilV isNilI ev constPV constPV0 Option.map Option.bind decide_false ite_true ite_false eq_self gt_iff_lt ge_iff_le Env.put Env.get dstOK Nat.reduceLT decide_true Nat.reduceEqDiff argsEnv Nat.reduceAdd binPV bin arith isShift pickPV keep List.map Bool.true_and Bool.and_true reduceIte List.getElem?_toArray List.getElem?_cons_succ List.getElem?_cons_zero beq_true beq_false Bool.not_true Bool.not_false Bool.false_eq_true true_and and_true undefs Dem Option.map_some Option.map_none builtinPV foldMax foldMin unPV extractPV oneOr Sg.push_ext Sg.pushRoom_ext Sg.len_ext Sg.rooms_ext Sg.ys_ext Sg.pushY_ext Sg.ysget_ext Sg.ysget_ext0 Sg.setY_ext Sg.setY_ext0 Sg.popY_ext Sg.popY_ext0 ldS_ext ldS_ext0 ldA_ext ldA_ext0 stX_ext stX_ext0 List.cons_append List.nil_append List.length_cons List.length_nil Nat.zero_add Nat.add_zero List.set_cons_zero List.set_cons_succ PV.cells_agg PV.cells_int PV.cells_bool PV.cells_str PV.cells_isl PV.cells_nilsl PV.cells_func PV.cells_ptr PV.cells_undef defd PV.scalar List.all_cons List.all_nil BEq.rfl Nat.le_refl Nat.reduceLeDiff putCells fillPV List.take_succ_cons List.take_zero List.drop_succ_cons List.drop_zero and_self Nat.reduceMul Nat.reducePow Nat.lt_add_one Nat.reduceBEq List.length_map List.take_nil List.drop_nil
end Go.Proofs.YteklodljdndcoaaDoor
namespace Go.Proofs.YteklodljdndcoaaDoor
open Go Go.RowKit
theorem appg22 {σ : Sg} {x : PV} {m : List PV} {own : Own} : appendG Tryd.prog σ 22 22 x (.isl m own) = appG 1 8 σ x m := appG_of Tryd.underlying22 Tryd.underlying3 cells3 bytes3 (by decide) (by decide) zero3 rfl
theorem iag22 {id len es : Nat} {k : IntKind} {i : Int} : indexAddrPV Tryd.prog 22 (.gsl id len es) (.int k i) = iaM 1 id 0 len i := iaG_of Tryd.underlying22 Tryd.underlying3 cells3 k len i
theorem leng22 {id n es : Nat} : lenPV Tryd.prog 22 (.gsl id n es) = some (.int .i64 n) := lenG_of Tryd.underlying22 n
theorem lenn22 : lenPV Tryd.prog 22 .gnil = some (.int .i64 0) := lenN_of Tryd.underlying22
theorem appg23 {σ : Sg} {x : PV} {m : List PV} {own : Own} : appendG Tryd.prog σ 23 23 x (.isl m own) = appG 2 16 σ x m := appG_of Tryd.underlying23 Tryd.underlying52 cells52 bytes52 (by decide) (by decide) zero52 rfl
theorem iag23 {id len es : Nat} {k : IntKind} {i : Int} : indexAddrPV Tryd.prog 23 (.gsl id len es) (.int k i) = iaM 2 id 0 len i := iaG_of Tryd.underlying23 Tryd.underlying52 cells52 k len i
theorem leng23 {id n es : Nat} : lenPV Tryd.prog 23 (.gsl id n es) = some (.int .i64 n) := lenG_of Tryd.underlying23 n
theorem lenn23 : lenPV Tryd.prog 23 .gnil = some (.int .i64 0) := lenN_of Tryd.underlying23
theorem appg24 {σ : Sg} {x : PV} {m : List PV} {own : Own} : appendG Tryd.prog σ 24 24 x (.isl m own) = appG 7 72 σ x m := appG_of Tryd.underlying24 Tryd.underlying87 cells87 bytes87 (by decide) (by decide) zero87 rfl
theorem iag24 {id len es : Nat} {k : IntKind} {i : Int} : indexAddrPV Tryd.prog 24 (.gsl id len es) (.int k i) = iaM 7 id 0 len i := iaG_of Tryd.underlying24 Tryd.underlying87 cells87 k len i
theorem leng24 {id n es : Nat} : lenPV Tryd.prog 24 (.gsl id n es) = some (.int .i64 n) := lenG_of Tryd.underlying24 n
theorem lenn24 : lenPV Tryd.prog 24 .gnil = some (.int .i64 0) := lenN_of Tryd.underlying24
theorem appg34 {σ : Sg} {x : PV} {m : List PV} {own : Own} : appendG Tryd.prog σ 34 34 x (.isl m own) = appG 6 64 σ x m := appG_of Tryd.underlying34 Tryd.underlying33 cells33 bytes33 (by decide) (by decide) zero33 rfl
theorem iag34 {id len es : Nat} {k : IntKind} {i : Int} : indexAddrPV Tryd.prog 34 (.gsl id len es) (.int k i) = iaM 6 id 0 len i := iaG_of Tryd.underlying34 Tryd.underlying33 cells33 k len i
theorem leng34 {id n es : Nat} : lenPV Tryd.prog 34 (.gsl id n es) = some (.int .i64 n) := lenG_of Tryd.underlying34 n
theorem lenn34 : lenPV Tryd.prog 34 .gnil = some (.int .i64 0) := lenN_of Tryd.underlying34
theorem appg42 {σ : Sg} {x : PV} {m : List PV} {own : Own} : appendG Tryd.prog σ 42 42 x (.isl m own) = appG 1 24 σ x m := appG_of Tryd.underlying42 Tryd.underlying22 cells22 bytes22 (by decide) (by decide) zero22 rfl
theorem iag42 {id len es : Nat} {k : IntKind} {i : Int} : indexAddrPV Tryd.prog 42 (.gsl id len es) (.int k i) = iaM 1 id 0 len i := iaG_of Tryd.underlying42 Tryd.underlying22 cells22 k len i
theorem leng42 {id n es : Nat} : lenPV Tryd.prog 42 (.gsl id n es) = some (.int .i64 n) := lenG_of Tryd.underlying42 n
theorem lenn42 : lenPV Tryd.prog 42 .gnil = some (.int .i64 0) := lenN_of Tryd.underlying42
theorem appg43 {σ : Sg} {x : PV} {m : List PV} {own : Own} : appendG Tryd.prog σ 43 43 x (.isl m own) = appG 1 1 σ x m := appG_of Tryd.underlying43 Tryd.underlying4 cells4 bytes4 (by decide) (by decide) zero4 rfl
theorem iag43 {id len es : Nat} {k : IntKind} {i : Int} : indexAddrPV Tryd.prog 43 (.gsl id len es) (.int k i) = iaM 1 id 0 len i := iaG_of Tryd.underlying43 Tryd.underlying4 cells4 k len i
theorem leng43 {id n es : Nat} : lenPV Tryd.prog 43 (.gsl id n es) = some (.int .i64 n) := lenG_of Tryd.underlying43 n
theorem lenn43 : lenPV Tryd.prog 43 .gnil = some (.int .i64 0) := lenN_of Tryd.underlying43
theorem appg54 {σ : Sg} {x : PV} {m : List PV} {own : Own} : appendG Tryd.prog σ 54 54 x (.isl m own) = appG 1 8 σ x m := appG_of Tryd.underlying54 Tryd.underlying37 cells37 bytes37 (by decide) (by decide) zero37 rfl
theorem iag54 {id len es : Nat} {k : IntKind} {i : Int} : indexAddrPV Tryd.prog 54 (.gsl id len es) (.int k i) = iaM 1 id 0 len i := iaG_of Tryd.underlying54 Tryd.underlying37 cells37 k len i
theorem leng54 {id n es : Nat} : lenPV Tryd.prog 54 (.gsl id n es) = some (.int .i64 n) := lenG_of Tryd.underlying54 n
theorem lenn54 : lenPV Tryd.prog 54 .gnil = some (.int .i64 0) := lenN_of Tryd.underlying54
theorem appg67 {σ : Sg} {x : PV} {m : List PV} {own : Own} : appendG Tryd.prog σ 67 67 x (.isl m own) = appG 3 24 σ x m := appG_of Tryd.underlying67 Tryd.underlying69 cells69 bytes69 (by decide) (by decide) zero69 rfl
theorem iag67 {id len es : Nat} {k : IntKind} {i : Int} : indexAddrPV Tryd.prog 67 (.gsl id len es) (.int k i) = iaM 3 id 0 len i := iaG_of Tryd.underlying67 Tryd.underlying69 cells69 k len i
theorem leng67 {id n es : Nat} : lenPV Tryd.prog 67 (.gsl id n es) = some (.int .i64 n) := lenG_of Tryd.underlying67 n
theorem lenn67 : lenPV Tryd.prog 67 .gnil = some (.int .i64 0) := lenN_of Tryd.underlying67
theorem appg104 {σ : Sg} {x : PV} {m : List PV} {own : Own} : appendG Tryd.prog σ 104 104 x (.isl m own) = appG 1 1 σ x m := appG_of Tryd.underlying104 Tryd.underlying5 cells5 bytes5 (by decide) (by decide) zero5 rfl
theorem iag104 {id len es : Nat} {k : IntKind} {i : Int} : indexAddrPV Tryd.prog 104 (.gsl id len es) (.int k i) = iaM 1 id 0 len i := iaG_of Tryd.underlying104 Tryd.underlying5 cells5 k len i
theorem leng104 {id n es : Nat} : lenPV Tryd.prog 104 (.gsl id n es) = some (.int .i64 n) := lenG_of Tryd.underlying104 n
theorem lenn104 : lenPV Tryd.prog 104 .gnil = some (.int .i64 0) := lenN_of Tryd.underlying104
theorem appg138 {σ : Sg} {x : PV} {m : List PV} {own : Own} : appendG Tryd.prog σ 138 138 x (.isl m own) = appG 1 8 σ x m := appG_of Tryd.underlying138 Tryd.underlying84 cells84 bytes84 (by decide) (by decide) zero84 rfl
theorem iag138 {id len es : Nat} {k : IntKind} {i : Int} : indexAddrPV Tryd.prog 138 (.gsl id len es) (.int k i) = iaM 1 id 0 len i := iaG_of Tryd.underlying138 Tryd.underlying84 cells84 k len i
theorem leng138 {id n es : Nat} : lenPV Tryd.prog 138 (.gsl id n es) = some (.int .i64 n) := lenG_of Tryd.underlying138 n
theorem lenn138 : lenPV Tryd.prog 138 .gnil = some (.int .i64 0) := lenN_of Tryd.underlying138
attribute [go_sem] appg22 iag22 leng22 lenn22 appg23 iag23 leng23 lenn23 appg24 iag24 leng24 lenn24 appg34 iag34 leng34 lenn34 appg42 iag42 leng42 lenn42 appg43 iag43 leng43 lenn43 appg54 iag54 leng54 lenn54 appg67 iag67 leng67 lenn67 appg104 iag104 leng104 lenn104 appg138 iag138 leng138 lenn138
end Go.Proofs.YteklodljdndcoaaDoor
namespace Go.Proofs.YteklodljdndcoaaDoor
open Go
set_option maxRecDepth 100000
theorem wrapU {n : Int} (h1 : 0 ≤ n) (h2 : n ≤ 18446744073709551615) : IntKind.u64.wrap n = n := IntWalk.u64_in n ⟨h1, h2⟩
theorem shr1 {a : Int} : shiftPV .shr .u64 a 1 = some (.int .u64 (a.fdiv 2)) := rfl
theorem shr32 {a : Int} : shiftPV .shr .u64 a 32 = some (.int .u64 (a.fdiv 4294967296)) := rfl
theorem cv2_129 {k : IntKind} {n : Int} : convPV Tryd.prog 2 129 (.int k n) = some (.int .u64 (IntKind.u64.wrap n)) := by kernel_rfl
theorem cv3_93 {k : IntKind} {n : Int} : convPV Tryd.prog 3 93 (.int k n) = some (.int .u64 (IntKind.u64.wrap n)) := by kernel_rfl
theorem cv3_129 {k : IntKind} {n : Int} : convPV Tryd.prog 3 129 (.int k n) = some (.int .u64 (IntKind.u64.wrap n)) := by kernel_rfl
theorem cv3_139 {k : IntKind} {n : Int} : convPV Tryd.prog 3 139 (.int k n) = some (.int .u64 (IntKind.u64.wrap n)) := by kernel_rfl
theorem cv5_3 {k : IntKind} {n : Int} : convPV Tryd.prog 5 3 (.int k n) = some (.int .i64 (IntKind.i64.wrap n)) := by kernel_rfl
theorem cv93_3 {k : IntKind} {n : Int} : convPV Tryd.prog 93 3 (.int k n) = some (.int .i64 (IntKind.i64.wrap n)) := by kernel_rfl
theorem cv93_127 {k : IntKind} {n : Int} : convPV Tryd.prog 93 127 (.int k n) = some (.int .u32 (IntKind.u32.wrap n)) := by kernel_rfl
theorem cv127_5 {k : IntKind} {n : Int} : convPV Tryd.prog 127 5 (.int k n) = some (.int .u8 (IntKind.u8.wrap n)) := by kernel_rfl
theorem cv129_5 {k : IntKind} {n : Int} : convPV Tryd.prog 129 5 (.int k n) = some (.int .u8 (IntKind.u8.wrap n)) := by kernel_rfl
theorem cv129_127 {k : IntKind} {n : Int} : convPV Tryd.prog 129 127 (.int k n) = some (.int .u32 (IntKind.u32.wrap n)) := by kernel_rfl
attribute [go_sem] cv2_129 cv3_93 cv3_129 cv3_139 cv5_3 cv93_3 cv93_127 cv127_5 cv129_5 cv129_127 nilCheckPV shr1 shr32 Sg.ext_nil
end Go.Proofs.YteklodljdndcoaaDoor
namespace Go.Proofs.YteklodljdndcoaaDoor
open Go
set_option maxRecDepth 100000
theorem slh22 {l : List PV} {own : Own} {k : IntKind} {n : Int} : slicePV Tryd.prog 22 (.isl l own) none (some (.int k n)) none = if 0 ≤ n then if n.toNat ≤ l.length then some (.isl (l.take n.toNat) (sliceOwn own 0 n.toNat l.length)) else none else none := slHi_of Tryd.underlying22 Tryd.underlying3 l own k n
theorem slh34 {l : List PV} {own : Own} {k : IntKind} {n : Int} : slicePV Tryd.prog 34 (.isl l own) none (some (.int k n)) none = if 0 ≤ n then if n.toNat ≤ l.length then some (.isl (l.take n.toNat) (sliceOwn own 0 n.toNat l.length)) else none else none := slHi_of Tryd.underlying34 Tryd.underlying33 l own k n
attribute [go_sem] slh22 slh34
end Go.Proofs.YteklodljdndcoaaDoor
namespace Go.Proofs.YteklodljdndcoaaDoor
open Go Go.RowKit
/-- A slice of numbers that grows in place: nothing yet, or the last of a row of variables (those before it are gone). -/
def glI (n : Nat) (out : List Int) : PV := match out with
  | [] => .gnil
  | _ :: t => .gsl (n + t.length) (t.length + 1) 1
theorem glI_cells (n : Nat) (out : List Int) : (glI n out).cells = [glI n out] := by cases out <;> rfl
theorem glI_scalar (n : Nat) (out : List Int) : (glI n out).scalar = true := by cases out <;> rfl
theorem glI_defd (n : Nat) (out : List Int) : defd (glI n out) = true := by cases out <;> rfl
theorem appendAny_gl {P : Program} {σ : Sg} {t t' : TypeId} {n : Nat} {out : List Int} {m : List PV} {o : Own} : appendAny P σ t t' (glI n out) (.isl m o) = appendG P σ t t' (glI n out) (.isl m o) := by cases out <;> rfl
theorem cells_gsl (a b c : Nat) : (PV.gsl a b c).cells = [PV.gsl a b c] := rfl
theorem cells_gnil : PV.gnil.cells = [PV.gnil] := rfl
attribute [go_sem] appendAny_gl cells_gsl cells_gnil
attribute [go_sem high] glI_cells glI_scalar glI_defd
theorem stX_glI {σ : Sg} {l : List (Option (List PV))} {rm : List Nat} {ys : List LState} {j off n : Nat} {out : List Int} : stX 1 (σ.ext l rm ys) (σ.store.length + j) off (glI n out) = match l[j]? with
    | some (some cs) => if off + 1 ≤ cs.length then some (σ.ext (l.set j (some (putCells cs off [glI n out]))) rm ys) else none
    | _ => none := by
  simp only [stX_ext, glI_defd, glI_cells, List.all_cons, List.all_nil, glI_scalar]
  rcases l[j]? with _ | _ | cs <;> simp
attribute [go_sem high] stX_glI
section
variable {σ : Sg} {A : List (Option (List PV))} {rm : List Nat} {ys : List LState} {N : Nat} {lo : Nat × Nat} {E : Env} {out : List Int}
/-- Compacted. -/
def glC (n : Nat) (s : List Int) : PV := match s with
  | [] => .gnil
  | _ :: t => .gsl (n + t.length) (Lib.compact s).length 1
theorem glC_cells (n : Nat) (out : List Int) : (glC n out).cells = [glC n out] := by cases out <;> rfl
theorem glC_scalar (n : Nat) (out : List Int) : (glC n out).scalar = true := by cases out <;> rfl
theorem glC_defd (n : Nat) (out : List Int) : defd (glC n out) = true := by cases out <;> rfl
attribute [go_sem high] glC_cells glC_scalar glC_defd
theorem stX_glC {σ : Sg} {l : List (Option (List PV))} {rm : List Nat} {ys : List LState} {j off n : Nat} {out : List Int} : stX 1 (σ.ext l rm ys) (σ.store.length + j) off (glC n out) = match l[j]? with
    | some (some cs) => if off + 1 ≤ cs.length then some (σ.ext (l.set j (some (putCells cs off [glC n out]))) rm ys) else none
    | _ => none := by
  simp only [stX_ext, glC_defd, glC_cells, List.all_cons, List.all_nil, glC_scalar]
  rcases l[j]? with _ | _ | cs <;> simp
attribute [go_sem high] stX_glC
end
end Go.Proofs.YteklodljdndcoaaDoor
namespace Go.Proofs.YteklodljdndcoaaDoor
open Go Go.RowKit
theorem lens9 {s : ByteArray} : lenPV Tryd.prog 9 (.str s) = some (.int .i64 s.size) := by unfold lenPV; simp only [Tryd.underlying9]
theorem ixs9 {s : ByteArray} {k : IntKind} {n : Int} : indexPV Tryd.prog 9 (.str s) (.int k n) = if h : 0 ≤ n ∧ n < (s.size : Int) then some (.int .u8 (s[n.toNat]'(by omega)).toNat) else none := by unfold indexPV; simp only [Tryd.underlying9]
theorem sls9 {s : ByteArray} {lo hi : Option PV} : slicePV Tryd.prog 9 (.str s) lo hi none = match bnd lo 0, bnd hi s.size with
    | some lo, some h => if lo ≤ h ∧ h ≤ s.size then some (.str (s.extract lo h)) else none
    | _, _ => none := by
  unfold slicePV
  simp only [Tryd.underlying9]
  split <;> simp_all
theorem cvs9 {s : ByteArray} : convPV Tryd.prog 9 9 (.str s) = some (.str s) := by unfold convPV; simp only [Tryd.underlying9]
attribute [go_sem] lens9 ixs9 sls9 cvs9
end Go.Proofs.YteklodljdndcoaaDoor
namespace Go.Proofs.YteklodljdndcoaaDoor
open Go Go.RowKit Go.Shelf
set_option maxRecDepth 100000
def bld_ren : Go.Shelf.Ren := ⟨fun | 240 => 80 | 276 => 88 | 169 => 54 | 166 => 52 | n => n, fun | 37 => 104 | 70 => 103 | 72 => 106 | 164 => 145 | 127 => 137 | n => n, fun n => n⟩
theorem lays240 : Lays.n240 Tryd.prog bld_ren where
  mixed := by kernel_rfl
  f240 := Tryd.func80.trans (congrArg some (by kernel_rfl))
  f276 := Tryd.func88.trans (congrArg some (by kernel_rfl))
  t0 := Tryd.underlying0
  a0 := Tryd.isAgg0
  z0 := Tryd.sizeOf0
  v0 := Tryd.zeroValue0
  t4 := Tryd.underlying4
  a4 := Tryd.isAgg4
  z4 := Tryd.sizeOf4
  v4 := Tryd.zeroValue4
  t9 := Tryd.underlying9
  a9 := Tryd.isAgg9
  z9 := Tryd.sizeOf9
  v9 := Tryd.zeroValue9
  t20 := Tryd.underlying20
  a20 := Tryd.isAgg20
  z20 := Tryd.sizeOf20
  v20 := Tryd.zeroValue20
  t70 := Tryd.underlying103
  a70 := Tryd.isAgg103
  z70 := Tryd.sizeOf103
  v70 := Tryd.zeroValue103
  t72 := Tryd.underlying106
  a72 := Tryd.isAgg106
  z72 := Tryd.sizeOf106
  v72 := Tryd.zeroValue106
  t164 := Tryd.underlying145
  a164 := Tryd.isAgg145
  z164 := Tryd.sizeOf145
  v164 := Tryd.zeroValue145
theorem lays169 : Lays.n169 Tryd.prog bld_ren where
  mixed := by kernel_rfl
  f169 := Tryd.func54.trans (congrArg some (by kernel_rfl))
  t0 := Tryd.underlying0
  a0 := Tryd.isAgg0
  z0 := Tryd.sizeOf0
  v0 := Tryd.zeroValue0
  t3 := Tryd.underlying3
  a3 := Tryd.isAgg3
  z3 := Tryd.sizeOf3
  v3 := Tryd.zeroValue3
  t9 := Tryd.underlying9
  a9 := Tryd.isAgg9
  z9 := Tryd.sizeOf9
  v9 := Tryd.zeroValue9
  t37 := Tryd.underlying104
  a37 := Tryd.isAgg104
  z37 := Tryd.sizeOf104
  v37 := Tryd.zeroValue104
  t70 := Tryd.underlying103
  a70 := Tryd.isAgg103
  z70 := Tryd.sizeOf103
  v70 := Tryd.zeroValue103
  t72 := Tryd.underlying106
  a72 := Tryd.isAgg106
  z72 := Tryd.sizeOf106
  v72 := Tryd.zeroValue106
  t127 := Tryd.underlying137
  a127 := Tryd.isAgg137
  z127 := Tryd.sizeOf137
  v127 := Tryd.zeroValue137
def lays171_ren : Go.Shelf.Ren := ⟨fun | 171 => 53 | 243 => 81 | 246 => 89 | 283 => 91 | 284 => 92 | 285 => 93 | 286 => 94 | 129 => 72 | 317 => 95 | 318 => 96 | 319 => 97 | 320 => 98 | 337 => 99 | 338 => 100 | n => n, fun | 3 => 3 | 9 => 9 | 2 => 2 | 4 => 4 | 171 => 150 | 0 => 0 | 53 => 129 | 37 => 104 | 5 => 5 | 173 => 152 | 212 => 156 | 51 => 127 | 20 => 20 | 213 => 157 | 46 => 93 | 232 => 158 | 233 => 159 | n => n, fun | 17 => 0 | 18 => 1 | 19 => 2 | n => n⟩
theorem lays171_p : Lays.n171 Tryd.prog lays171_ren where
  mixed := by kernel_rfl
  f129 := Tryd.func72.trans (congrArg some (by kernel_rfl))
  f171 := Tryd.func53.trans (congrArg some (by kernel_rfl))
  f243 := Tryd.func81.trans (congrArg some (by kernel_rfl))
  f246 := Tryd.func89.trans (congrArg some (by kernel_rfl))
  f283 := Tryd.func91.trans (congrArg some (by kernel_rfl))
  f284 := Tryd.func92.trans (congrArg some (by kernel_rfl))
  f285 := Tryd.func93.trans (congrArg some (by kernel_rfl))
  f286 := Tryd.func94.trans (congrArg some (by kernel_rfl))
  f317 := Tryd.func95.trans (congrArg some (by kernel_rfl))
  f318 := Tryd.func96.trans (congrArg some (by kernel_rfl))
  f319 := Tryd.func97.trans (congrArg some (by kernel_rfl))
  f320 := Tryd.func98.trans (congrArg some (by kernel_rfl))
  f337 := Tryd.func99.trans (congrArg some (by kernel_rfl))
  f338 := Tryd.func100.trans (congrArg some (by kernel_rfl))
  t0 := Tryd.underlying0
  a0 := Tryd.isAgg0
  z0 := Tryd.sizeOf0
  v0 := Tryd.zeroValue0
  t2 := Tryd.underlying2
  a2 := Tryd.isAgg2
  z2 := Tryd.sizeOf2
  v2 := Tryd.zeroValue2
  t3 := Tryd.underlying3
  a3 := Tryd.isAgg3
  z3 := Tryd.sizeOf3
  v3 := Tryd.zeroValue3
  t4 := Tryd.underlying4
  a4 := Tryd.isAgg4
  z4 := Tryd.sizeOf4
  v4 := Tryd.zeroValue4
  t5 := Tryd.underlying5
  a5 := Tryd.isAgg5
  z5 := Tryd.sizeOf5
  v5 := Tryd.zeroValue5
  t9 := Tryd.underlying9
  a9 := Tryd.isAgg9
  z9 := Tryd.sizeOf9
  v9 := Tryd.zeroValue9
  t20 := Tryd.underlying20
  a20 := Tryd.isAgg20
  z20 := Tryd.sizeOf20
  v20 := Tryd.zeroValue20
  t37 := Tryd.underlying104
  a37 := Tryd.isAgg104
  z37 := Tryd.sizeOf104
  v37 := Tryd.zeroValue104
  t46 := Tryd.underlying93
  a46 := Tryd.isAgg93
  z46 := Tryd.sizeOf93
  v46 := Tryd.zeroValue93
  t51 := Tryd.underlying127
  a51 := Tryd.isAgg127
  z51 := Tryd.sizeOf127
  v51 := Tryd.zeroValue127
  t53 := Tryd.underlying129
  a53 := Tryd.isAgg129
  z53 := Tryd.sizeOf129
  v53 := Tryd.zeroValue129
  t171 := Tryd.underlying150
  a171 := Tryd.isAgg150
  z171 := Tryd.sizeOf150
  v171 := Tryd.zeroValue150
  t173 := Tryd.underlying152
  a173 := Tryd.isAgg152
  z173 := Tryd.sizeOf152
  v173 := Tryd.zeroValue152
  t212 := Tryd.underlying156
  a212 := Tryd.isAgg156
  z212 := Tryd.sizeOf156
  v212 := Tryd.zeroValue156
  t213 := Tryd.underlying157
  a213 := Tryd.isAgg157
  z213 := Tryd.sizeOf157
  t232 := Tryd.underlying158
  a232 := Tryd.isAgg158
  z232 := Tryd.sizeOf158
  v232 := Tryd.zeroValue158
  t233 := Tryd.underlying159
  a233 := Tryd.isAgg159
  z233 := Tryd.sizeOf159
  v233 := Tryd.zeroValue159
  g17 := by kernel_rfl
  g18 := by kernel_rfl
  g19 := by kernel_rfl
theorem lays171 : LaysM.n171 Tryd.prog lays171_ren := { lays171_p with
  i0 := by kernel_rfl,
  i2 := by kernel_rfl,
  i3 := by kernel_rfl,
  i4 := by kernel_rfl,
  i5 := by kernel_rfl,
  i9 := by kernel_rfl,
  i20 := by kernel_rfl,
  i37 := by kernel_rfl,
  i46 := by kernel_rfl,
  i51 := by kernel_rfl,
  i53 := by kernel_rfl,
  i171 := by kernel_rfl,
  i173 := by kernel_rfl,
  i212 := by kernel_rfl,
  i232 := by kernel_rfl,
  i233 := by kernel_rfl,
  m17 := by kernel_rfl,
  m18 := by kernel_rfl,
  m19 := by kernel_rfl }
theorem PC_of_callsG {P : Program} {Y : YEnv} {f : FuncId} {args : List PV} {σ σ' : Sg} {v : PV} (hg : goFn P f = true)
    (h : ∀ Ψ vals w, SR Ψ σ w → VRs Ψ args vals → GOK P Ψ → Calls P f vals w (fun e w' => ∃ x Ψ', e = .returned x ∧ Ψ.le Ψ' ∧ SR Ψ' σ' w' ∧ VR Ψ' v x ∧ Below Ψ.base w w')) : PC P Y f args σ v σ' :=
  ⟨hg, fun Ψ vals w hs ha hy => callsIn_wide.2 (h Ψ vals w hs ha hy.1)⟩
theorem one_arg {Ψ : Ty} {p : PV} {vals : Array Value} (ha : VRs Ψ [p] vals) : ∃ x, vals = #[x] ∧ VR Ψ p x := by
  have := ha.1
  match vals, this with
  | ⟨[x]⟩, _ => exact ⟨x, rfl, ha.2 0 _ _ rfl rfl⟩
theorem x72 : Builder.X72 Tryd.prog bld_ren := ⟨by kernel_rfl, by kernel_rfl⟩
/-- A builder in a variable. -/
theorem bld_at {Ψ : Ty} {σ : Sg} {w : World} (hs : SR Ψ σ w) {id T r te : Nat} {l : List PV} {b : Nat} (hst : σ.store[id]? = some (some [.bself id T, .bbuf l r te])) (hβ : Ψ.β[id]? = some b) :
    ∃ x v, Ψ.base ≤ b ∧ w.heap[b]? = some (.cells #[x, v] T (0, 0)) ∧ (x = .pointer none ∨ x = .pointer (some ⟨b, 0, none⟩)) ∧ VR Ψ (.bbuf l r te) v := by
  obtain ⟨a1, _, hk⟩ := hs.block id _ b hst hβ
  rcases hk with ⟨c, hb, h1, h2⟩ | ⟨arr, es, h0, _⟩ | ⟨mid, r', n, seen, h0, _⟩
  · simp only [List.length_cons, List.length_nil] at h1
    have v0 := h2 0 _ c[0] rfl (by simp)
    have v1 := h2 1 _ c[1] rfl (by simp)
    cases v0 with
    | bself _ _ b' _ hβ' hz hx =>
    rw [hβ] at hβ'
    injection hβ' with hβ'
    subst hβ'
    obtain ⟨_, c', f, hc', hsz⟩ := hs.szok _ _ hz
    obtain ⟨e, hbe⟩ := hb
    rw [hbe] at hc'
    injection hc' with hc'
    injection hc' with e1 e2 e3
    subst e1 e2
    refine ⟨c[0], c[1], a1, ?_, hx, v1⟩
    rw [hbe]
    congr 2
    apply Array.ext
    · simp [hsz]
    · intro i h1 h2
      match i, h2 with
      | 0, _ => rfl
      | 1, _ => rfl
  · cases h0
  · cases h0
theorem copyCheck_pc (Y : YEnv) (σ : Sg) {id r te : Nat} {l : List PV} (hst : σ.store[id]? = some (some [.bself id 106, .bbuf l r te])) : PC Tryd.prog Y 80 [.ptr id 0] σ (.tuple []) σ := by
  refine PC_of_calls (by kernel_rfl) fun Ψ vals w hs ha => ?_
  obtain ⟨x, rfl, hx⟩ := one_arg ha
  obtain ⟨b, hβ, hz, rfl⟩ := hx.ptr_inv
  obtain ⟨y, v, a1, hb, hy, hv⟩ := bld_at hs hst hβ
  have hc0 : w.cell? ⟨b, 0, none⟩ = some y := by rw [cell_eq, hb]; rfl
  rcases hy with rfl | rfl
  · refine (Any.Builder_copyCheck_fresh lays240 x72 b w hc0 (by simp [World.shape?, hb]; rfl) (by simp [World.frozen?, hb])).mono ?_
    rintro e w' ⟨rfl, rfl⟩
    have hself : VR Ψ (.bself id 106) (.pointer (some ⟨b, 0, none⟩)) := by
      obtain ⟨_, _, hk⟩ := hs.block id _ b hst hβ
      obtain ⟨_, h2⟩ := hk.cells ⟨_, hb⟩
      have v0 := h2 0 _ _ rfl rfl
      cases v0 with
      | bself _ _ b' _ hβ' hz' _ =>
      rw [hβ] at hβ'
      injection hβ' with hβ'
      subst hβ'
      exact .bself _ _ b _ hβ hz' (.inr rfl)
    have h2 : SR Ψ (σ.setVar id [.bself id 106, .bbuf l r te]) (w.setCell ⟨b, 0, none⟩ (.pointer (some ⟨b, 0, none⟩))) := hs.setVar hst hβ hz hself (off := 0)
    rw [setVar_same σ id _ hst] at h2
    exact ⟨_, Ψ, rfl, Ty.le.refl _, h2, skipped_ok _, (Below.refl _ _).setCell (p := ⟨b, 0, none⟩) a1 _⟩
  · refine (Any.Builder_copyCheck_used lays240 x72 b w hc0).mono ?_
    rintro e w' ⟨rfl, rfl⟩
    exact ⟨_, Ψ, rfl, Ty.le.refl _, hs, skipped_ok _, Below.refl _ _⟩
/-- What a builder holds, as a string: its row is marked. -/
theorem bldString (b g : Nat) (p : Value) (cap : Nat) (l : List UInt8) (w : World) (h0 : l ≠ []) (hbk : w.heap[b]? = some (.cells #[p, .slice (some ⟨g, 0, none⟩) l.length cap] 106 (0, 0))) {cur : Array Value} {fz : Nat × Nat} (hg : w.heap[g]? = some (.cells cur 5 fz)) (hn : l.length ≤ cur.size) (hcap : l.length ≤ cap) (h63 : l.length ≤ 9223372036854775807)
    (hcell : ∀ j x, l[j]? = some x → w.cell? ⟨g, j, none⟩ = some (.int .u8 x.toNat)) :
    Calls Tryd.prog 54 #[.pointer (some ⟨b, 0, none⟩)] w fun e w' => e = .returned (.string ⟨l.toArray⟩) ∧ w' = w.drew.freeze ⟨g, 0, none⟩ l.length := by
  have hl0 : l.length ≠ 0 := by simpa using h0
  have hb1 : w.drew.heap[b]? = some (.cells #[p, .slice (some ⟨g, 0, none⟩) l.length cap] 106 (0, 0)) := hbk
  have c1 : w.drew.cell? ⟨b, 1, none⟩ = some (.slice (some ⟨g, 0, none⟩) l.length cap) := by rw [Lib.cell_of_heap hb1]; rfl
  have hg' : w.drew.heap[g]? = some (.cells cur 5 fz) := hg
  have hSD : (Builtin.unsafeSliceData_ #[bld_ren.t 37] (bld_ren.t 127) #[.slice (some ⟨g, 0, none⟩) l.length cap]).run Tryd.prog w.drew = .ok (.pointer (some ⟨g, 0, none⟩)) w.drew :=
    Lib.run_unsafeSliceData_row _ _ _ _ _ _ (by omega)
  have hUS : (Builtin.unsafeString_ #[bld_ren.t 127, bld_ren.t 3] (bld_ren.t 9) #[.pointer (some ⟨g, 0, none⟩), .int .i64 l.length]).run Tryd.prog w.drew = .ok (.string ⟨l.toArray⟩) (w.drew.freeze ⟨g, 0, none⟩ l.length) :=
    Lib.run_unsafeString_row w.drew (bld_ren.t 127) (bld_ren.t 3) (bld_ren.t 9) 5 Tryd.underlying137 cells5 g cur.size (by simp [World.shape?, hg']) l h0 hn h63 fun j x hx => by
      have := hcell j x hx
      simpa using this
  have L := lays169
  have mixed := L.mixed
  have t72 := L.t72; have a72 := L.a72; have z72 := L.z72; have v72 := L.v72; have u72 := run_underlying L.t72
  have t70 := L.t70; have a70 := L.a70; have z70 := L.z70; have v70 := L.v70; have u70 := run_underlying L.t70
  have t37 := L.t37; have a37 := L.a37; have z37 := L.z37; have v37 := L.v37; have u37 := run_underlying L.t37
  have t127 := L.t127; have a127 := L.a127; have z127 := L.z127; have v127 := L.v127; have u127 := run_underlying L.t127
  have t3 := L.t3; have a3 := L.a3; have z3 := L.z3; have v3 := L.v3; have u3 := run_underlying L.t3
  have t9 := L.t9; have a9 := L.a9; have z9 := L.z9; have v9 := L.v9; have u9 := run_underlying L.t9
  go_enter L.f169, Body.n169_ntmps bld_ren
  go_wp2
  go_region_o
  all_goals (go_wp2; go_ret; exact ⟨rfl, rfl⟩)
theorem Itoa_pc (Y : YEnv) (σ : Sg) (n : Int) (h0 : -9223372036854775808 ≤ n) (h1 : n ≤ 9223372036854775807) : PC Tryd.prog Y 53 [I n] σ (.str ⟨(Lib.itoa n).toArray⟩) σ := by
  refine PC_of_callsG (by kernel_rfl) fun Ψ vals w hs ha hG => ?_
  obtain ⟨x, rfl, hx⟩ := one_arg ha
  obtain rfl := hx.int_inv
  have hgn : Tryd.prog.globalNamed "internal/strconv.uint64pow10" = some 0 := by kernel_rfl
  obtain ⟨_, e, f, hh⟩ := hs.szok _ _ (hG.tab 0 hgn)
  have htab : Lib.TabIs Tryd.prog w "internal/strconv.uint64pow10" .u64 Lib.pow10Tab := by
    unfold Lib.TabIs World.var?
    rw [hgn]
    simp only [Option.bind_some, hh]
    rfl
  refine (Any.strconv_Itoa lays171 n h0 h1 w htab).mono ?_
  rintro e2 w2 ⟨rfl, k, os, rfl⟩
  have ho : ∀ g, g < w.heap.size → (Sort.grow (w.drewN k) os).heap[g]? = w.heap[g]? := fun g hg => Sort.heap_grow_old (w.drewN k) os hg
  have hz : w.heap.size ≤ (Sort.grow (w.drewN k) os).heap.size := by simp [Sort.grow, World.drewN]
  exact ⟨_, Ψ, rfl, Ty.le.refl _, hs.more ho hz, .str _, ⟨rfl, rfl, rfl, hz, fun g hg => ho g (by have := hs.base; omega)⟩⟩
end Go.Proofs.YteklodljdndcoaaDoor
namespace Go.Proofs.YteklodljdndcoaaDoor
open Go Go.RowKit
set_option maxRecDepth 100000
theorem strPV_app (a b : ByteArray) : strPV (a ++ b) = strPV a ++ strPV b := by simp [strPV]
theorem strPV_ok (s : ByteArray) : okC 1 (strPV s) := by
  unfold okC
  rw [List.all_eq_true]
  intro q hq
  obtain ⟨x, _, rfl⟩ := List.mem_map.1 hq
  rfl
theorem appB (σ : Sg) {r : Nat} (B s : ByteArray) (hr : σ.rooms[r]? = some B.size) (hl : B.size + s.size ≤ 2 ^ 46) :
    appendAny Tryd.prog σ 104 9 (.bbuf (strPV B) r 5) (.str s) = some (.bbuf (strPV (B ++ s)) r 5, σ.setRoom r (B.size + s.size)) := by
  rw [appendAny_bbuf]
  unfold appendB bytesArg
  simp only [Tryd.underlying104, Tryd.underlying9]
  rw [if_pos ⟨trivial, cells5⟩, app104, strPV_len, appX_tok (strPV_ok s) hr (by rw [strPV_len, strPV_len]; omega)]
  simp only [Option.map_some, strPV_app, strPV_len]
theorem String_pc (Y : YEnv) (σ : Sg) {id r : Nat} (B : ByteArray) (hst : σ.store[id]? = some (some [.bself id 106, .bbuf (strPV B) r 5])) (hr : σ.rooms[r]? = some B.size) (h0 : 0 < B.size) (hl : B.size ≤ 2 ^ 46) :
    PC Tryd.prog Y 54 [.ptr id 0] σ (.str B) (σ.setRoom r (B.size + 1)) := by
  refine PC_of_calls (by kernel_rfl) fun Ψ vals w hs ha => ?_
  obtain ⟨x, rfl, hx⟩ := one_arg ha
  obtain ⟨b, hβ, hz, rfl⟩ := hx.ptr_inv
  obtain ⟨y, v, a1, hb, hy, hv⟩ := bld_at hs hst hβ
  have hBl : B.data.toList.length = B.size := by simp
  have hget : ∀ (j : Nat) (x : UInt8), B.data.toList[j]? = some x → (strPV B)[j]? = some (.int .u8 x.toNat) := fun j x h => by
    unfold strPV; rw [List.getElem?_map, h]; rfl
  have hpl := strPV_len B
  generalize hL : strPV B = L at *
  cases hv with
  | bbuf _ _ _ _ h ht =>
  cases h with
  | islnil _ _ _ => simp at hpl; omega
  | isl es _ _ g o cap vals hes k1 k2 hc ho =>
  obtain ⟨hes1, hh⟩ := ho
  subst hes1
  obtain ⟨rfl, hty⟩ := ht g o _ cap rfl (by omega)
  obtain ⟨_, cur, f, hcur, hcs⟩ := hs.szok _ _ hty
  rw [Nat.zero_add, Nat.zero_add, Nat.mul_one, Nat.mul_one, hpl] at hh
  have hat : ∀ (j : Nat) (x : UInt8), B.data.toList[j]? = some x → Ψ.imm g j = some (.int .u8 x.toNat) := fun j x hj => by
    have e1 := k1 j _ 0 (.int .u8 x.toNat) (hget j x hj) rfl
    have e2 := k2 j _ 0 (.int .u8 x.toNat) (hget j x hj) rfl
    rw [e2.int_inv] at e1
    rw [← e1]
    congr 1
    omega
  have hbb : w.heap[b]? = some (.cells #[y, .slice (some ⟨g, 0, none⟩) B.data.toList.length cap] 106 (0, 0)) := by rw [hb, hBl, hpl]
  refine (bldString b g y cap B.data.toList w (fun e => by rw [e] at hBl; simp at hBl; omega) hbb hcur (by rw [hBl]; omega) (by rw [hBl]; omega) (by rw [hBl]; omega) fun j x hj => hs.imm _ _ _ (hat j x hj)).mono ?_
  rintro e2 w2 ⟨rfl, rfl⟩
  rw [hBl]
  obtain ⟨Ψ', le, hs', hbel⟩ := hs.stringed hr hh hty (fun o ho => by
    have hlt : o < B.data.toList.length := by rw [hBl]; exact ho
    rw [hat o _ (List.getElem?_eq_getElem hlt)]
    simp) h0
  have e : (⟨B.data.toList.toArray⟩ : ByteArray) = B := by simp
  exact ⟨_, Ψ', rfl, le, hs', by rw [e]; exact .str B, hbel⟩
set_option maxHeartbeats 2000000 in
theorem WriteString_pc (Y : YEnv) (σ : Sg) {id r : Nat} (B s : ByteArray) (hst : σ.store[id]? = some (some [.bself id 106, .bbuf (strPV B) r 5])) (hr : σ.rooms[r]? = some B.size) (hl : B.size + s.size ≤ 2 ^ 46) :
    PC Tryd.prog Y 52 [.ptr id 0, .str s] σ (.tuple [I s.size, .niliface]) ((σ.setRoom r (B.size + s.size)).setVar id [.bself id 106, .bbuf (strPV (B ++ s)) r 5]) := by
  refine PC_of_W Tryd.func52 rfl (by kernel_rfl) Tryd.ntmps52 (by simp) fun hcl hca => ?_
  have hld : ldS σ id 1 = some (.bbuf (strPV B) r 5) := by simp [ldS, hst]
  have happ := appB σ B s hr hl
  have hsto : stX 1 (σ.setRoom r (B.size + s.size)) id 1 (.bbuf (strPV (B ++ s)) r 5) = some ((σ.setRoom r (B.size + s.size)).setVar id [.bself id 106, .bbuf (strPV (B ++ s)) r 5]) := by
    have : (σ.setRoom r (B.size + s.size)).store[id]? = some (some [.bself id 106, .bbuf (strPV B) r 5]) := hst
    unfold stX
    rw [this]
    rfl
  refine W_seq fun kz1 kq1 => ?_
  refine W_region [0, 1] fun R hR => ?_   -- r0
  simp only [go_sem, hld, happ, hsto, Nat.zero_add]
  refine hR _ _ (kq1 _ _ ?_); clear hR R; try clear kq1 kz1
  try simp only [go_sem, hld, happ, hsto, Nat.zero_add]
  refine W_seq fun kz2 kq2 => ?_
  refine W_region [0, 1] fun R hR => ?_   -- r1
  simp only [go_sem, hld, happ, hsto, Nat.zero_add]
  refine GCall_of (copyCheck_pc Y _ hst) ?_   -- t7
  simp only [go_sem, hld, happ, hsto, Nat.zero_add]
  refine hR _ _ (kq2 _ _ ?_); clear hR R; try clear kq2 kz2
  try simp only [go_sem, hld, happ, hsto, Nat.zero_add]
  refine W_seq fun kz3 kq3 => ?_
  refine W_region [1] fun R hR => ?_   -- r2
  simp only [go_sem, hld, happ, hsto, Nat.zero_add]
  try simp (disch := first | omega | (simp only [go_sem] <;> omega)) only [wrapI, wrapU, appX_exact, appX_tok]
  try simp only [go_sem, hld, happ, hsto, Nat.zero_add]
  refine hR _ _ (kq3 _ _ ?_); clear hR R; try clear kq3 kz3
  try simp only [go_sem, hld, happ, hsto, Nat.zero_add]
  refine W_seq fun kz4 kq4 => ?_
  refine W_region [4, 5] fun R hR => ?_   -- r3
  simp only [go_sem, hld, happ, hsto, Nat.zero_add]
  refine hR _ _ (kq4 _ _ ?_); clear hR R; try clear kq4 kz4
  try simp only [go_sem, hld, happ, hsto, Nat.zero_add]
  refine W_ret ?_
  simp only [go_sem, hld, happ, hsto, Nat.zero_add]
  refine ⟨.inr (by trivial), ?_⟩
  have hrl := (List.getElem?_eq_some_iff.1 hr).1
  have hcl2 := CleanSg_bld (n := B.size + s.size) (m := strPV s) hcl hst hrl strPV_clean
  rw [← strPV_app] at hcl2
  have e1 : ((σ.setRoom r (B.size + s.size)).setVar id [.bself id 106, .bbuf (strPV (B ++ s)) r 5]).store.length = σ.store.length := by simp [Sg.setVar, Sg.setRoom]
  have e2 : ((σ.setRoom r (B.size + s.size)).setVar id [.bself id 106, .bbuf (strPV (B ++ s)) r 5]).rooms.length = σ.rooms.length := by simp [Sg.setVar, Sg.setRoom]
  refine ⟨_, σ.store.length, σ.rooms.length, rfl, Nat.le_refl _, Nat.le_refl _, Wk_eq ?_ (by simp only [go_sem]), ?_, ?_, rfl⟩
  rotate_left
  · simp only [Sg.cut, Sg.setVar, Sg.setRoom]
    rw [List.take_of_length_le (l := σ.store.set _ _) (by simp), List.take_of_length_le (l := σ.rooms.set _ _) (by simp), List.take_of_length_le (l := σ.ys) (Nat.le_refl _)]
  · have := hcl2; unfold CleanSg at this; rw [e1, e2] at this; exact this
  try simp only [go_sem]
  all_goals
    first | rfl | simp
end Go.Proofs.YteklodljdndcoaaDoor
namespace Go.Proofs.YteklodljdndcoaaDoor
open Go Go.RowKit
set_option maxRecDepth 100000
set_option maxHeartbeats 2000000 in
theorem CloneB0_pc (Y : YEnv) (σ : Sg) (own : Own) :
    PC Tryd.prog Y 49 [.isl [] own] σ (.isl [] (.tok σ.rooms.length 0 6)) (σ.ext [] [0]) := by
  refine PC_of_W Tryd.func49 rfl (by kernel_rfl) Tryd.ntmps49 (by simp) fun hcl hca => ?_
  refine W_seq fun kz1 kq1 => ?_
  refine W_region [0] fun R hR => ?_   -- r0
  simp only [go_sem]
  refine hR _ _ (kq1 _ _ ?_); clear hR R; try clear kq1 kz1
  try simp only [go_sem]
  refine W_seq fun kz2 kq2 => ?_
  refine W_seq fun kz3 kq3 => ?_
  refine W_isnil [0, 4] (by decide) (by decide) rfl Tryd.underlying34 fun bn hbn => ?_   -- r1
  refine kq3 _ _ ?_
  try simp only [go_sem]
  refine W_cond rfl (fun c1 => ?_) (fun c1 => ?_)
  · -- c1 true
    try simp only [nrm] at c1
    refine W_seq fun kz4 kq4 => ?_
    refine W_region [2] fun R hR => ?_   -- r2
    simp only [go_sem]
    refine hR _ _ (kq4 _ _ ?_); clear hR R; try clear kq4 kz4
    try simp only [go_sem]
    refine W_weak (Weak.room (t := 2) (es := 6) rfl (by simp)) ?_
    refine W_ret ?_
    simp only [go_sem]
    refine ⟨.inr (by trivial), ?_⟩
    exact Fin_ext 0 1 hcl rfl (Wk_eq rfl (by simp only [go_sem] <;> omega)) CleanL_nil
    try simp only [go_sem]
    all_goals
      skip
  · -- c1 false
    try simp only [nrm] at c1
    refine W_skip (kq2 _ _ ?_)
    refine W_seq fun kz5 kq5 => ?_
    refine W_region [2] fun R hR => ?_   -- r3
    simp only [go_sem]
    simp (disch := first | omega | (simp only [go_sem] <;> omega)) only [wrapI, appX_exact, appX_tok]
    try simp only [go_sem]
    refine hR _ _ (kq5 _ _ ?_); clear hR R; try clear kq5 kz5
    try simp only [go_sem]
    refine W_ret ?_
    simp only [go_sem]
    refine ⟨.inr (by trivial), ?_⟩
    exact Fin_ext 0 1 hcl rfl (Wk_eq (by simp only [go_sem]) (by simp only [go_sem] <;> omega)) CleanL_nil
    try simp only [go_sem]
    all_goals
      skip
set_option maxHeartbeats 2000000 in
theorem CloneI0_pc (Y : YEnv) (σ : Sg) (own : Own) :
    PC Tryd.prog Y 48 [.isl [] own] σ (.isl [] (.tok σ.rooms.length 0 1)) (σ.ext [] [0]) := by
  refine PC_of_W Tryd.func48 rfl (by kernel_rfl) Tryd.ntmps48 (by simp) fun hcl hca => ?_
  refine W_seq fun kz1 kq1 => ?_
  refine W_region [0] fun R hR => ?_   -- r0
  simp only [go_sem]
  refine hR _ _ (kq1 _ _ ?_); clear hR R; try clear kq1 kz1
  try simp only [go_sem]
  refine W_seq fun kz2 kq2 => ?_
  refine W_seq fun kz3 kq3 => ?_
  refine W_isnil [0, 4] (by decide) (by decide) rfl Tryd.underlying22 fun bn hbn => ?_   -- r1
  refine kq3 _ _ ?_
  try simp only [go_sem]
  refine W_cond rfl (fun c1 => ?_) (fun c1 => ?_)
  · -- c1 true
    try simp only [nrm] at c1
    refine W_seq fun kz4 kq4 => ?_
    refine W_region [2] fun R hR => ?_   -- r2
    simp only [go_sem]
    refine hR _ _ (kq4 _ _ ?_); clear hR R; try clear kq4 kz4
    try simp only [go_sem]
    refine W_weak (Weak.room (t := 2) (es := 1) rfl (by simp)) ?_
    refine W_ret ?_
    simp only [go_sem]
    refine ⟨.inr (by trivial), ?_⟩
    exact Fin_ext 0 1 hcl rfl (Wk_eq rfl (by simp only [go_sem] <;> omega)) CleanL_nil
    try simp only [go_sem]
    all_goals
      skip
  · -- c1 false
    try simp only [nrm] at c1
    refine W_skip (kq2 _ _ ?_)
    refine W_seq fun kz5 kq5 => ?_
    refine W_region [2] fun R hR => ?_   -- r3
    simp only [go_sem]
    simp (disch := first | omega | (simp only [go_sem] <;> omega)) only [wrapI, appX_exact, appX_tok]
    try simp only [go_sem]
    refine hR _ _ (kq5 _ _ ?_); clear hR R; try clear kq5 kz5
    try simp only [go_sem]
    refine W_ret ?_
    simp only [go_sem]
    refine ⟨.inr (by trivial), ?_⟩
    exact Fin_ext 0 1 hcl rfl (Wk_eq (by simp only [go_sem]) (by simp only [go_sem] <;> omega)) CleanL_nil
    try simp only [go_sem]
    all_goals
      skip
end Go.Proofs.YteklodljdndcoaaDoor
namespace Go.Proofs.YteklodljdndcoaaDoor
open Go Go.RowKit
noncomputable section
/-- Numbers out of their readings. -/
def unI : List PV → Option (List Int)
  | [] => some []
  | v :: r => match int64 v with
    | some n => match unI r with
      | some l => some (n :: l)
      | none => none
    | none => none
theorem unI_eq : ∀ (l : List PV) (xs : List Int), unI l = some xs → l = xs.map I := by
  intro l
  induction l with
  | nil => intro xs h; injection h with h; subst h; rfl
  | cons v r ih =>
    intro xs h
    simp only [unI] at h
    split at h
    · rename_i n hn
      split at h
      · rename_i l hl
        injection h with h
        subst h
        rw [int64_inv hn, ih _ hl]
        rfl
      · cases h
    · cases h
/-- Bytes out of their readings. -/
def byteOf (v : PV) : Option UInt8 :=
  match v with
  | .int .u8 n => match n with
    | .ofNat m => match Nat.ble m 255 with
      | true => some (UInt8.ofNat m)
      | false => none
    | _ => none
  | _ => none
def unB : List PV → Option (List UInt8)
  | [] => some []
  | v :: r => match byteOf v with
    | some n => match unB r with
      | some l => some (n :: l)
      | none => none
    | none => none
theorem byteOf_inv {v : PV} {n : UInt8} (h : byteOf v = some n) : v = .int .u8 n.toNat := by
  unfold byteOf at h
  split at h
  · split at h
    · rename_i m
      split at h
      · rename_i hm
        have hm := ble_iff.1 hm
        injection h with h
        subst h
        have : (UInt8.ofNat m).toNat = m := by simp; omega
        rw [this]
        rfl
      · cases h
    · cases h
  · cases h
theorem unB_eq : ∀ (l : List PV) (xs : List UInt8), unB l = some xs → l = strPV ⟨xs.toArray⟩ := by
  intro l
  induction l with
  | nil => intro xs h; injection h with h; subst h; rfl
  | cons v r ih =>
    intro xs h
    simp only [unB] at h
    split at h
    · rename_i n hn
      split at h
      · rename_i l hl
        injection h with h
        subst h
        rw [byteOf_inv hn, ih _ hl]
        simp [strPV]
      · cases h
    · cases h
def cellsAt (σ : Sg) (id : Nat) : Option (List PV) :=
  match nthF σ.store id with
  | some (some cs) => some cs
  | _ => none
theorem cellsAt_inv {σ : Sg} {id : Nat} {cs : List PV} (h : cellsAt σ id = some cs) : σ.store[id]? = some (some cs) := by
  unfold cellsAt at h
  rw [nthF_eq] at h
  split at h
  · injection h with h; subst h; assumption
  · cases h
/-- A builder's bytes, its room. -/
def bldAt (σ : Sg) (id : Nat) : Option (List UInt8 × Nat) :=
  match cellsAt σ id with
  | some [.bself id' 106, .bbuf l r 5] => match Nat.beq id' id with
    | true => match unB l with
      | some bs => match nthF σ.rooms r with
        | some n => match Nat.beq n (lenF bs) with
          | true => some (bs, r)
          | false => none
        | none => none
      | none => none
    | false => none
  | _ => none
theorem bldAt_inv {σ : Sg} {id r : Nat} {bs : List UInt8} (h : bldAt σ id = some (bs, r)) : σ.store[id]? = some (some [.bself id 106, .bbuf (strPV ⟨bs.toArray⟩) r 5]) ∧ σ.rooms[r]? = some (⟨bs.toArray⟩ : ByteArray).size := by
  unfold bldAt at h
  split at h
  · rename_i id' l r' hc
    split at h
    · rename_i hid
      have hid := beq_eq.1 hid
      subst hid
      split at h
      · rename_i bs' hb
        split at h
        · rename_i n hn
          split at h
          · rename_i hl
            have hl := beq_eq.1 hl
            rw [lenF_eq] at hl
            injection h with h
            injection h with h1 h2
            subst h1 h2
            refine ⟨?_, ?_⟩
            · rw [cellsAt_inv hc, unB_eq _ _ hb]
            · rw [nthF_eq] at hn
              rw [hn, hl]
              simp [ByteArray.size]
          · cases h
        · cases h
      · cases h
    · cases h
  · cases h
def orcCompact (σ : Sg) (args : List PV) : Option (PV × Sg) :=
  match args with
  | [.gnil] => some (.gnil, σ)
  | [.gsl id n 1] => match cellsAt σ id with
    | some cs => match unI cs with
      | some xs => match Nat.beq n (lenF xs) && Nat.ble (lenF xs) 1000 with
        | true => some (.gsl id (Lib.compact xs).length 1, σ.setVar id ((Lib.compact xs ++ List.replicate (xs.length - (Lib.compact xs).length) 0).map I))
        | false => none
      | none => none
    | none => none
  | _ => none
def orcItoa (σ : Sg) (args : List PV) : Option (PV × Sg) :=
  match args with
  | [v] => match int64 v with
    | some n => match !ltF n (-9223372036854775808) && !ltF 9223372036854775807 n with
      | true => some (.str ⟨(Lib.itoa n).toArray⟩, σ)
      | false => none
    | none => none
  | _ => none
def orcWrite (σ : Sg) (args : List PV) : Option (PV × Sg) :=
  match args with
  | [.ptr id 0, v] => match strOf v with
    | some s => match bldAt σ id with
      | some (bs, r) => match Nat.ble (lenF bs + lenF s) 1000000 with
        | true => some (.tuple [I (lenF s : Nat), .niliface], (σ.setRoom r (lenF bs + lenF s)).setVar id [.bself id 106, .bbuf (strPV ⟨bs.toArray⟩ ++ strPV ⟨s.toArray⟩) r 5])
        | false => none
      | none => none
    | none => none
  | _ => none
def orcString (σ : Sg) (args : List PV) : Option (PV × Sg) :=
  match args with
  | [.ptr id 0] => match bldAt σ id with
    | some (bs, r) => match Nat.ble 1 (lenF bs) && Nat.ble (lenF bs) 1000000 with
      | true => some (.str ⟨bs.toArray⟩, σ.setRoom r (lenF bs + 1))
      | false => none
    | none => none
  | _ => none
def orcClone (es : Nat) (σ : Sg) (args : List PV) : Option (PV × Sg) :=
  match args with
  | [.isl [] _] => some (.isl [] (.tok σ.rooms.length 0 es), σ.pushRoom 0)
  | _ => none
def orcD : Orc := fun f args σ => match Nat.beq f 29 with
  | true => orcCompact σ args
  | false => match Nat.beq f 49 with
  | true => orcClone 6 σ args
  | false => match Nat.beq f 48 with
  | true => orcClone 1 σ args
  | false => match Nat.beq f 53 with
    | true => orcItoa σ args
    | false => match Nat.beq f 52 with
      | true => orcWrite σ args
      | false => match Nat.beq f 54 with
        | true => orcString σ args
        | false => none
theorem orcCompact_ok {σ σ' : Sg} {args : List PV} {v : PV} (h : orcCompact σ args = some (v, σ')) (Y : YEnv) : PC Tryd.prog Y 29 args σ v σ' := by
  unfold orcCompact at h
  split at h
  · injection h with h; injection h with h1 h2; subst h1 h2
    exact PC_compact0 compactsI
  · rename_i id n
    split at h
    · rename_i cs hcs
      split at h
      · rename_i xs hxs
        split at h
        · rename_i hb
          simp only [Bool.and_eq_true, beq_eq, ble_iff, lenF_eq] at hb
          obtain ⟨rfl, hl⟩ := hb
          injection h with h; injection h with h1 h2; subst h1 h2
          exact PC_compactI compactsI (by rw [cellsAt_inv hcs, unI_eq _ _ hxs]) (by omega)
        · cases h
      · cases h
    · cases h
  · cases h
theorem orcItoa_ok {σ σ' : Sg} {args : List PV} {v : PV} (h : orcItoa σ args = some (v, σ')) (Y : YEnv) : PC Tryd.prog Y 53 args σ v σ' := by
  unfold orcItoa at h
  split at h
  · rename_i v0
    split at h
    · rename_i n hn
      split at h
      · rename_i hb
        simp only [ltF_eq, Bool.and_eq_true, Bool.not_eq_true', decide_eq_false_iff_not] at hb
        injection h with h; injection h with h1 h2; subst h1 h2
        rw [int64_inv hn]
        exact Itoa_pc Y _ n (by omega) (by omega)
      · cases h
    · cases h
  · cases h
theorem orcWrite_ok {σ σ' : Sg} {args : List PV} {v : PV} (h : orcWrite σ args = some (v, σ')) (Y : YEnv) : PC Tryd.prog Y 52 args σ v σ' := by
  unfold orcWrite at h
  split at h
  · rename_i id v0
    split at h
    · rename_i s hs
      split at h
      · rename_i bs r hb
        split at h
        · rename_i hl
          have hl := ble_iff.1 hl
          rw [lenF_eq, lenF_eq] at hl
          injection h with h; injection h with h1 h2; subst h1 h2
          obtain ⟨k1, k2⟩ := bldAt_inv hb
          have e1 : (⟨bs.toArray⟩ : ByteArray).size = lenF bs := by rw [lenF_eq]; simp [ByteArray.size]
          have e2 : (⟨s.toArray⟩ : ByteArray).size = lenF s := by rw [lenF_eq]; simp [ByteArray.size]
          rw [strOf_inv hs]
          have := WriteString_pc Y σ ⟨bs.toArray⟩ ⟨s.toArray⟩ k1 k2 (by rw [e1, e2, lenF_eq, lenF_eq]; omega)
          rw [e1, e2, strPV_app] at this
          exact this
        · cases h
      · cases h
    · cases h
  · cases h
theorem orcString_ok {σ σ' : Sg} {args : List PV} {v : PV} (h : orcString σ args = some (v, σ')) (Y : YEnv) : PC Tryd.prog Y 54 args σ v σ' := by
  unfold orcString at h
  split at h
  · rename_i id
    split at h
    · rename_i bs r hb
      split at h
      · rename_i hl
        simp only [Bool.and_eq_true, ble_iff, lenF_eq] at hl
        injection h with h; injection h with h1 h2; subst h1 h2
        obtain ⟨k1, k2⟩ := bldAt_inv hb
        have e1 : (⟨bs.toArray⟩ : ByteArray).size = lenF bs := by rw [lenF_eq]; simp [ByteArray.size]
        have := String_pc Y σ ⟨bs.toArray⟩ k1 k2 (by rw [e1, lenF_eq]; omega) (by rw [e1, lenF_eq]; omega)
        rw [e1] at this
        exact this
      · cases h
    · cases h
  · cases h
theorem ext_room (σ : Sg) : σ.ext [] [0] = σ.pushRoom 0 := by simp [Sg.ext, Sg.pushRoom]
theorem orcClone_ok {es : Nat} {σ σ' : Sg} {args : List PV} {v : PV} {f : FuncId} (hp : ∀ (σ : Sg) (own : Own), PC Tryd.prog noY f [.isl [] own] σ (.isl [] (.tok σ.rooms.length 0 es)) (σ.ext [] [0])) (h : orcClone es σ args = some (v, σ')) (Y : YEnv) : PC Tryd.prog Y f args σ v σ' := by
  unfold orcClone at h
  split at h
  · injection h with h; injection h with h1 h2; subst h1 h2
    rw [← ext_room]
    exact (hp σ _).any Y
  · cases h
theorem orcD_ok : ∀ f args σ v σ', orcD f args σ = some (v, σ') → ∀ Y, PC Tryd.prog Y f args σ v σ' := by
  intro f args σ v σ' h Y
  unfold orcD at h
  split at h
  · rename_i e; rw [beq_eq.1 e]; exact orcCompact_ok h Y
  split at h
  · rename_i e; rw [beq_eq.1 e]; exact orcClone_ok (fun σ own => CloneB0_pc noY σ own) h Y
  split at h
  · rename_i e; rw [beq_eq.1 e]; exact orcClone_ok (fun σ own => CloneI0_pc noY σ own) h Y
  · split at h
    · rename_i e; rw [beq_eq.1 e]; exact orcItoa_ok h Y
    · split at h
      · rename_i e; rw [beq_eq.1 e]; exact orcWrite_ok h Y
      · split at h
        · rename_i e; rw [beq_eq.1 e]; exact orcString_ok h Y
        · cases h
end
end Go.Proofs.YteklodljdndcoaaDoor
namespace Go.Proofs.YteklodljdndcoaaDoor
open Go Go.RowKit
/-- A closed value reads the same where nothing but what is known for ever is known. -/
theorem VR.elder {Ψ : Ty} {n : Nat} {p : PV} {x : Value} (h : VR Ψ p x) : Clean 0 0 0 p → VR (Ψ.elder n) p x := by
  induction h with
  | undef x => intro _; exact .undef x
  | bool b => intro _; exact .bool b
  | int k n => intro _; exact .int k n
  | str s => intro _; exact .str s
  | nilptr => intro _; exact .nilptr
  | ptr id off b hb hz => intro hc; cases hc with | ptr _ _ hlt => omega
  | eptr es elems i off b o vals hs h1 h2 ih =>
    intro hc
    cases hc with
    | eptr _ _ _ _ hh => exact .eptr es elems i off b o vals hs h1 fun k e j q hk hj => ih k e j q hk hj ((hh e (List.mem_of_getElem? hk)).cells q (List.mem_of_getElem? hj))
  | nilsl => intro _; exact .nilsl
  | islnil own a ho =>
    intro hc
    cases hc with
    | isl _ _ _ hlt =>
    refine .islnil own a ?_
    cases own with
    | ro => trivial
    | exact => trivial
    | tok r n es => exact absurd (hlt r n es rfl) (Nat.not_lt_zero _)
  | isl es elems own b o cap vals hs h1 h2 hcap ho ih =>
    intro hc
    cases hc with
    | isl _ _ hh hlt =>
    refine .isl es elems own b o cap vals hs h1 (fun k e j q hk hj => ih k e j q hk hj ((hh e (List.mem_of_getElem? hk)).cells q (List.mem_of_getElem? hj))) hcap ?_
    cases own with
    | ro => trivial
    | exact => exact ho
    | tok r n es' => exact absurd (hlt r n es' rfl) (Nat.not_lt_zero _)
  | msl id off len b cap hb hz hc' => intro hc; cases hc with | msl _ _ _ hlt => omega
  | agg cs vs hl _ ih =>
    intro hc
    cases hc with
    | agg _ hh => exact .agg cs vs hl fun j q v hj hv => ih j q v hj hv (hh q (List.mem_of_getElem? hj))
  | tuple cs vs hl _ ih =>
    intro hc
    cases hc with
    | tuple _ hh => exact .tuple cs vs hl fun j q v hj hv => ih j q v hj hv (hh q (List.mem_of_getElem? hj))
  | func fn fs cs xs ys hl hl' _ _ ih ih' =>
    intro hc
    cases hc with
    | func _ _ _ hh hh' => exact .func fn fs cs xs ys hl hl' (fun j q v hj hv => ih j q v hj hv (hh q (List.mem_of_getElem? hj))) (fun j q v hj hv => ih' j q v hj hv (hh' q (List.mem_of_getElem? hj)))
  | yield y l d hy => intro hc; cases hc with | yield _ hlt => omega
  | nilfunc => intro _; exact .nilfunc
  | niliface => intro _; exact .niliface
  | iface t p x _ ih =>
    intro hc
    cases hc with
    | iface _ _ hh => exact .iface t p x (ih hh)
  | map id b hb => intro hc; cases hc with | mapv _ hlt => omega
  | nilmap => intro _; exact .nilmap
  | iter id b hb => intro hc; cases hc with | iter _ hlt => omega
  | gsl id len es b cap hb hz h0 hc' => intro hc; cases hc with | gsl _ _ _ hlt => omega
  | gnil a => intro _; exact .gnil a
  | bself id t b x hb hz hx => intro hc; cases hc with | bself _ _ hlt => omega
  | bbuf l r t x _ _ _ =>
    intro hc
    cases hc with
    | bbuf _ _ _ hh =>
    cases hh with
    | isl _ _ _ hlt => exact absurd (hlt _ _ _ rfl) (Nat.not_lt_zero _)
/-- A value in which there is no memory. -/
def flatB : Nat → PV → Bool
  | 0, _ => false
  | n + 1, v => match v with
    | .bool _ => true
    | .int _ _ => true
    | .str _ => true
    | .tuple l => l.all (flatB n)
    | _ => false
theorem flatB_ok : ∀ (n : Nat) (v : PV), flatB n v = true → ∀ Ψ Ψ' x, VR Ψ v x → VR Ψ' v x := by
  intro n
  induction n with
  | zero => intro v h; cases h
  | succ n ih =>
    intro v h Ψ Ψ' x hx
    cases v <;> simp only [flatB] at h <;> first
      | (cases h; done)
      | skip
    · rw [hx.bool_inv]; exact .bool _
    · rw [hx.int_inv]; exact .int _ _
    · rw [hx.str_inv]; exact .str _
    · rename_i l
      obtain ⟨vs, rfl, k1, k2⟩ := hx.tuple_inv
      exact .tuple _ _ k1 fun j p v a b => ih p (List.all_eq_true.1 h p (List.mem_of_getElem? a)) Ψ Ψ' v (k2 j p v a b)
theorem PC.frameA {P : Program} {f : FuncId} {args : List PV} {v : PV} {σ0 : Sg} (hc : ∀ p, p ∈ args → Clean 0 0 0 p) (hv : ∀ Ψ Ψ' x, VR Ψ v x → VR Ψ' v x) (h : PC P noY f args ⟨[], [], []⟩ v σ0) (Y : YEnv) (σ : Sg) : PC P Y f args σ v σ := by
  refine ⟨h.1, fun Ψ vals w hs ha hy => ?_⟩
  have ha' : VRs (Ψ.elder w.heap.size) args vals := ⟨ha.1, fun j p v a b => (ha.2 j p v a b).elder (hc p (List.mem_of_getElem? a))⟩
  refine CallsIn.mono (h.2 (Ψ.elder w.heap.size) vals w hs.elder ha' (.none (hy.1.elder _))) ?_
  rintro e w' ⟨x, Ψ', rfl, _, _, hx, hb⟩
  refine ⟨x, Ψ, rfl, Ty.le.refl _, hs.more (fun k hk => hb.block k hk) hb.size, hv _ _ _ hx, ?_⟩
  exact ⟨hb.os, hb.tape, hb.output, hb.size, fun k hk => hb.block k (Nat.lt_of_lt_of_le hk hs.base)⟩
/-- Remembered: a function, its arguments (no owners named), what it hands back. -/
structure Memo where
  f : FuncId
  args : List PV
  v : PV
noncomputable def memoB (P : Program) (A : Aid) (m : Memo) : Bool :=
  cleanL 0 0 0 100000 m.args && flatB 3 m.v && match callK P A 100000 noYF m.f m.args ⟨[], [], []⟩ with
    | some (v, _) => samePV 1000 [v] [m.v]
    | none => false
def MemoOK (P : Program) (m : Memo) : Prop := ∀ Y σ, PC P Y m.f m.args σ m.v σ
theorem memo_ok {P : Program} (hm : P.follows .mixedOrders = true) {A : Aid} (ho : ∀ f args σ v σ', A.orc f args σ = some (v, σ') → ∀ Y, PC P Y f args σ v σ') {m : Memo} (h : memoB P A m = true) : MemoOK P m := by
  intro Y σ
  unfold memoB at h
  simp only [Bool.and_eq_true] at h
  obtain ⟨⟨h1, h2⟩, h3⟩ := h
  split at h3
  · rename_i v σ0 hr
    have e := samePV_eq _ _ _ h3
    injection e with e
    subst e
    exact PC.frameA (cleanL_ok _ _ h1) (flatB_ok _ _ h2) (callK_ok hm A ho 100000 noYF noY (fun y args σ v σ' h => by cases h) m.f m.args _ _ _ hr) Y σ
  · cases h3
def memoAt (f : FuncId) (args : List PV) : List Memo → Option PV
  | [] => none
  | m :: r => match Nat.beq m.f f && samePV 10000 args m.args with
    | true => some m.v
    | false => memoAt f args r
def orcMemo (ms : List Memo) (o : Orc) : Orc := fun f args σ => match o f args σ with
  | some r => some r
  | none => match memoAt f (PV.roL args) ms with
    | some v => some (v, σ)
    | none => none
theorem memoAt_ok {P : Program} {f : FuncId} {args : List PV} : ∀ (ms : List Memo) (v : PV), (∀ m, m ∈ ms → MemoOK P m) → memoAt f args ms = some v → ∀ Y σ, PC P Y f args σ v σ := by
  intro ms
  induction ms with
  | nil => intro v _ h; cases h
  | cons m ms ih =>
    intro v hm h Y σ
    simp only [memoAt] at h
    split at h
    · rename_i hb
      simp only [Bool.and_eq_true, beq_eq] at hb
      obtain ⟨rfl, hb⟩ := hb
      injection h with h
      subst h
      have e := samePV_eq _ _ _ hb
      subst e
      exact hm m (List.mem_cons_self ..) Y σ
    · exact ih v (fun m' h' => hm m' (List.mem_cons_of_mem _ h')) h Y σ
theorem orcMemo_ok {P : Program} {ms : List Memo} {o : Orc} (hm : ∀ m, m ∈ ms → MemoOK P m) (ho : ∀ f args σ v σ', o f args σ = some (v, σ') → ∀ Y, PC P Y f args σ v σ') : ∀ f args σ v σ', orcMemo ms o f args σ = some (v, σ') → ∀ Y, PC P Y f args σ v σ' := by
  intro f args σ v σ' h Y
  unfold orcMemo at h
  split at h
  · rename_i r hr
    injection h with h
    subst h
    exact ho f args σ _ _ hr Y
  · split at h
    · rename_i v0 hv
      injection h with h
      injection h with h1 h2
      subst h1 h2
      exact (memoAt_ok ms v0 hm hv Y σ).ofRo (PV.roL_map args).symm
    · cases h
theorem memos_app {P : Program} {l r : List Memo} (h : ∀ m, m ∈ l → MemoOK P m) (k : ∀ m, m ∈ r → MemoOK P m) : ∀ m, m ∈ l ++ r → MemoOK P m := fun m hm => (List.mem_append.1 hm).elim (h m) (k m)
/-- All of them are so. -/
theorem memos_all {P : Program} (hm : P.follows .mixedOrders = true) {A : Aid} (ho : ∀ f args σ v σ', A.orc f args σ = some (v, σ') → ∀ Y, PC P Y f args σ v σ') {ms : List Memo} (h : ms.all (memoB P A) = true) : ∀ m, m ∈ ms → MemoOK P m :=
  fun m hmem => memo_ok hm ho (List.all_eq_true.1 h m hmem)
end Go.Proofs.YteklodljdndcoaaDoor
