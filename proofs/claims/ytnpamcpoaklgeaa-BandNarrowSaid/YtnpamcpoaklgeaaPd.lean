/-
  The types of this seat's program, as the pure reading asks of them.
  What the operations do at this seat's types.
  The rules by which a walk is worked out.
  Facts of this seat's types for slices that grow in place.
  Conversions at this seat's types; shifts; pointers that are not nil.
  Parts of slices at this seat's types.
  The data of the laws, read: towns, cities, bands; rows of things.
  What the arguments of the laws are read as: numbers, bands, cities.
  What a city is read as.
-/
import Derived.Test.YtnpamcpoaklgeaaProg
import Derived.KernelRfl
import Derived.Test.YtnpamcpoaklgeaaPc
import Derived.IntWalk
import Derived.Test.YtnpamcpoaklgeaaRows
set_option linter.unusedSimpArgs false
set_option linter.unusedVariables false
namespace Go.Proofs.Ytnpamcpoaklgeaa
open Go

theorem cells2 : Try.prog.cellsOf 2 = 1 := by kernel_rfl
theorem bytes2 : Try.prog.bytesOf 2 = 8 := by kernel_rfl
theorem zero2 : zeroPV Try.prog 2 = some [.int .i64 0] := by kernel_rfl
theorem cells3 : Try.prog.cellsOf 3 = 1 := by kernel_rfl
theorem bytes3 : Try.prog.bytesOf 3 = 8 := by kernel_rfl
theorem zero3 : zeroPV Try.prog 3 = some [.int .i64 0] := by kernel_rfl
theorem cells4 : Try.prog.cellsOf 4 = 1 := by kernel_rfl
theorem bytes4 : Try.prog.bytesOf 4 = 1 := by kernel_rfl
theorem zero4 : zeroPV Try.prog 4 = some [.bool false] := by kernel_rfl
theorem cells5 : Try.prog.cellsOf 5 = 1 := by kernel_rfl
theorem bytes5 : Try.prog.bytesOf 5 = 1 := by kernel_rfl
theorem zero5 : zeroPV Try.prog 5 = some [.int .u8 0] := by kernel_rfl
theorem cells9 : Try.prog.cellsOf 9 = 1 := by kernel_rfl
theorem bytes9 : Try.prog.bytesOf 9 = 16 := by kernel_rfl
theorem zero9 : zeroPV Try.prog 9 = some [.str .empty] := by kernel_rfl
theorem cells22 : Try.prog.cellsOf 22 = 1 := by kernel_rfl
theorem bytes22 : Try.prog.bytesOf 22 = 24 := by kernel_rfl
theorem zero22 : zeroPV Try.prog 22 = some [.isl [] .exact] := by kernel_rfl
theorem cells23 : Try.prog.cellsOf 23 = 1 := by kernel_rfl
theorem bytes23 : Try.prog.bytesOf 23 = 24 := by kernel_rfl
theorem zero23 : zeroPV Try.prog 23 = some [.isl [] .exact] := by kernel_rfl
theorem cells24 : Try.prog.cellsOf 24 = 1 := by kernel_rfl
theorem bytes24 : Try.prog.bytesOf 24 = 24 := by kernel_rfl
theorem zero24 : zeroPV Try.prog 24 = some [.isl [] .exact] := by kernel_rfl
theorem cells25 : Try.prog.cellsOf 25 = 4 := by kernel_rfl
theorem bytes25 : Try.prog.bytesOf 25 = 80 := by kernel_rfl
theorem zero25 : zeroPV Try.prog 25 = some [.isl [] .exact, .isl [] .exact, .isl [] .exact, .int .i64 0] := by kernel_rfl
theorem cells26 : Try.prog.cellsOf 26 = 4 := by kernel_rfl
theorem bytes26 : Try.prog.bytesOf 26 = 80 := by kernel_rfl
theorem zero26 : zeroPV Try.prog 26 = some [.isl [] .exact, .isl [] .exact, .isl [] .exact, .int .i64 0] := by kernel_rfl
theorem cells27 : Try.prog.cellsOf 27 = 6 := by kernel_rfl
theorem bytes27 : Try.prog.bytesOf 27 = 112 := by kernel_rfl
theorem zero27 : zeroPV Try.prog 27 = some [.isl [] .exact, .isl [] .exact, .isl [] .exact, .int .i64 0, .int .i64 0, .isl [] .exact] := by kernel_rfl
theorem cells28 : Try.prog.cellsOf 28 = 6 := by kernel_rfl
theorem bytes28 : Try.prog.bytesOf 28 = 112 := by kernel_rfl
theorem zero28 : zeroPV Try.prog 28 = some [.isl [] .exact, .isl [] .exact, .isl [] .exact, .int .i64 0, .int .i64 0, .isl [] .exact] := by kernel_rfl
theorem cells29 : Try.prog.cellsOf 29 = 1 := by kernel_rfl
theorem bytes29 : Try.prog.bytesOf 29 = 24 := by kernel_rfl
theorem zero29 : zeroPV Try.prog 29 = some [.isl [] .exact] := by kernel_rfl
theorem cells30 : Try.prog.cellsOf 30 = 2 := by kernel_rfl
theorem bytes30 : Try.prog.bytesOf 30 = 16 := by kernel_rfl
theorem zero30 : zeroPV Try.prog 30 = some [.int .i64 0, .int .i64 0] := by kernel_rfl
theorem cells31 : Try.prog.cellsOf 31 = 2 := by kernel_rfl
theorem bytes31 : Try.prog.bytesOf 31 = 16 := by kernel_rfl
theorem zero31 : zeroPV Try.prog 31 = some [.int .i64 0, .int .i64 0] := by kernel_rfl
theorem cells32 : Try.prog.cellsOf 32 = 6 := by kernel_rfl
theorem bytes32 : Try.prog.bytesOf 32 = 64 := by kernel_rfl
theorem zero32 : zeroPV Try.prog 32 = some [.int .i64 0, .isl [] .exact, .int .i64 0, .int .i64 0, .int .i64 0, .int .i64 0] := by kernel_rfl
theorem cells33 : Try.prog.cellsOf 33 = 6 := by kernel_rfl
theorem bytes33 : Try.prog.bytesOf 33 = 64 := by kernel_rfl
theorem zero33 : zeroPV Try.prog 33 = some [.int .i64 0, .isl [] .exact, .int .i64 0, .int .i64 0, .int .i64 0, .int .i64 0] := by kernel_rfl
theorem cells37 : Try.prog.cellsOf 37 = 1 := by kernel_rfl
theorem bytes37 : Try.prog.bytesOf 37 = 8 := by kernel_rfl
theorem zero37 : zeroPV Try.prog 37 = some [.nilptr] := by kernel_rfl
theorem cells41 : Try.prog.cellsOf 41 = 1 := by kernel_rfl
theorem bytes41 : Try.prog.bytesOf 41 = 24 := by kernel_rfl
theorem zero41 : zeroPV Try.prog 41 = some [.isl [] .exact] := by kernel_rfl
theorem cells43 : Try.prog.cellsOf 43 = 1 := by kernel_rfl
theorem bytes43 : Try.prog.bytesOf 43 = 24 := by kernel_rfl
theorem zero43 : zeroPV Try.prog 43 = some [.isl [] .exact] := by kernel_rfl
theorem cells46 : Try.prog.cellsOf 46 = 1 := by kernel_rfl
theorem bytes46 : Try.prog.bytesOf 46 = 8 := by kernel_rfl
theorem zero46 : zeroPV Try.prog 46 = some [.int .i64 0] := by kernel_rfl
theorem cells54 : Try.prog.cellsOf 54 = 1 := by kernel_rfl
theorem bytes54 : Try.prog.bytesOf 54 = 24 := by kernel_rfl
theorem zero54 : zeroPV Try.prog 54 = some [.isl [] .exact] := by kernel_rfl
theorem cells71 : Try.prog.cellsOf 71 = 1 := by kernel_rfl
theorem bytes71 : Try.prog.bytesOf 71 = 24 := by kernel_rfl
theorem zero71 : zeroPV Try.prog 71 = some [.isl [] .exact] := by kernel_rfl
theorem cells75 : Try.prog.cellsOf 75 = 2 := by kernel_rfl
theorem bytes75 : Try.prog.bytesOf 75 = 16 := by kernel_rfl
theorem zero75 : zeroPV Try.prog 75 = some [.int .i64 0, .int .i64 0] := by kernel_rfl
theorem cells76 : Try.prog.cellsOf 76 = 2 := by kernel_rfl
theorem bytes76 : Try.prog.bytesOf 76 = 16 := by kernel_rfl
theorem zero76 : zeroPV Try.prog 76 = some [.int .i64 0, .int .i64 0] := by kernel_rfl
theorem cells85 : Try.prog.cellsOf 85 = 7 := by kernel_rfl
theorem bytes85 : Try.prog.bytesOf 85 = 72 := by kernel_rfl
theorem zero85 : zeroPV Try.prog 85 = some [.int .i64 0, .int .i64 0, .int .i64 0, .int .i64 0, .int .i64 0, .int .i64 0, .isl [] .exact] := by kernel_rfl
theorem cells86 : Try.prog.cellsOf 86 = 7 := by kernel_rfl
theorem bytes86 : Try.prog.bytesOf 86 = 72 := by kernel_rfl
theorem zero86 : zeroPV Try.prog 86 = some [.int .i64 0, .int .i64 0, .int .i64 0, .int .i64 0, .int .i64 0, .int .i64 0, .isl [] .exact] := by kernel_rfl
theorem cells90 : Try.prog.cellsOf 90 = 1 := by kernel_rfl
theorem bytes90 : Try.prog.bytesOf 90 = 8 := by kernel_rfl
theorem zero90 : zeroPV Try.prog 90 = some [.int .u64 0] := by kernel_rfl
theorem cells91 : Try.prog.cellsOf 91 = 1 := by kernel_rfl
theorem bytes91 : Try.prog.bytesOf 91 = 8 := by kernel_rfl
theorem zero91 : zeroPV Try.prog 91 = some [.int .u64 0] := by kernel_rfl
theorem cells92 : Try.prog.cellsOf 92 = 1 := by kernel_rfl
theorem bytes92 : Try.prog.bytesOf 92 = 8 := by kernel_rfl
theorem zero92 : zeroPV Try.prog 92 = some [.int .u64 0] := by kernel_rfl
theorem cells97 : Try.prog.cellsOf 97 = 1 := by kernel_rfl
theorem bytes97 : Try.prog.bytesOf 97 = 8 := by kernel_rfl
theorem zero97 : zeroPV Try.prog 97 = some [.int .u64 0] := by kernel_rfl
theorem cells105 : Try.prog.cellsOf 105 = 13 := by kernel_rfl
theorem bytes105 : Try.prog.bytesOf 105 = 200 := by kernel_rfl
theorem zero105 : zeroPV Try.prog 105 = some [.isl [] .exact, .isl [] .exact, .isl [] .exact, .int .i64 0, .int .i64 0, .isl [] .exact, .isl [] .exact, .int .i64 0, .isl [] .exact, .int .i64 0, .int .i64 0, .int .i64 0, .int .i64 0] := by kernel_rfl
theorem cells106 : Try.prog.cellsOf 106 = 13 := by kernel_rfl
theorem bytes106 : Try.prog.bytesOf 106 = 200 := by kernel_rfl
theorem zero106 : zeroPV Try.prog 106 = some [.isl [] .exact, .isl [] .exact, .isl [] .exact, .int .i64 0, .int .i64 0, .isl [] .exact, .isl [] .exact, .int .i64 0, .isl [] .exact, .int .i64 0, .int .i64 0, .int .i64 0, .int .i64 0] := by kernel_rfl
theorem cells107 : Try.prog.cellsOf 107 = 1 := by kernel_rfl
theorem bytes107 : Try.prog.bytesOf 107 = 8 := by kernel_rfl
theorem zero107 : zeroPV Try.prog 107 = some [.nilfunc] := by kernel_rfl
theorem cells109 : Try.prog.cellsOf 109 = 1 := by kernel_rfl
theorem bytes109 : Try.prog.bytesOf 109 = 8 := by kernel_rfl
theorem zero109 : zeroPV Try.prog 109 = some [.nilfunc] := by kernel_rfl
theorem cells114 : Try.prog.cellsOf 114 = 1 := by kernel_rfl
theorem bytes114 : Try.prog.bytesOf 114 = 8 := by kernel_rfl
theorem zero114 : zeroPV Try.prog 114 = some [.nilfunc] := by kernel_rfl
theorem cells117 : Try.prog.cellsOf 117 = 1 := by kernel_rfl
theorem bytes117 : Try.prog.bytesOf 117 = 24 := by kernel_rfl
theorem zero117 : zeroPV Try.prog 117 = some [.isl [] .exact] := by kernel_rfl
theorem cells118 : Try.prog.cellsOf 118 = 3 := by kernel_rfl
theorem bytes118 : Try.prog.bytesOf 118 = 24 := by kernel_rfl
theorem zero118 : zeroPV Try.prog 118 = some [.int .i64 0, .int .i64 0, .int .i64 0] := by kernel_rfl
theorem cells119 : Try.prog.cellsOf 119 = 3 := by kernel_rfl
theorem bytes119 : Try.prog.bytesOf 119 = 24 := by kernel_rfl
theorem zero119 : zeroPV Try.prog 119 = some [.int .i64 0, .int .i64 0, .int .i64 0] := by kernel_rfl
theorem cells123 : Try.prog.cellsOf 123 = 1 := by kernel_rfl
theorem bytes123 : Try.prog.bytesOf 123 = 24 := by kernel_rfl
theorem zero123 : zeroPV Try.prog 123 = some [.isl [] .exact] := by kernel_rfl
theorem cells129 : Try.prog.cellsOf 129 = 720 := by kernel_rfl
theorem bytes129 : Try.prog.bytesOf 129 = 720 := by kernel_rfl
theorem cells130 : Try.prog.cellsOf 130 = 720 := by kernel_rfl
theorem bytes130 : Try.prog.bytesOf 130 = 720 := by kernel_rfl
theorem cells137 : Try.prog.cellsOf 137 = 1 := by kernel_rfl
theorem bytes137 : Try.prog.bytesOf 137 = 8 := by kernel_rfl
theorem zero137 : zeroPV Try.prog 137 = some [.undef] := by kernel_rfl
theorem cells150 : Try.prog.cellsOf 150 = 1 := by kernel_rfl
theorem bytes150 : Try.prog.bytesOf 150 = 24 := by kernel_rfl
theorem zero150 : zeroPV Try.prog 150 = some [.isl [] .exact] := by kernel_rfl
theorem cells152 : Try.prog.cellsOf 152 = 1 := by kernel_rfl
theorem bytes152 : Try.prog.bytesOf 152 = 8 := by kernel_rfl
theorem zero152 : zeroPV Try.prog 152 = some [.int .i64 0] := by kernel_rfl
theorem cells160 : Try.prog.cellsOf 160 = 1 := by kernel_rfl
theorem bytes160 : Try.prog.bytesOf 160 = 4 := by kernel_rfl
theorem zero160 : zeroPV Try.prog 160 = some [.int .u32 0] := by kernel_rfl
theorem cells163 : Try.prog.cellsOf 163 = 1 := by kernel_rfl
theorem bytes163 : Try.prog.bytesOf 163 = 8 := by kernel_rfl
theorem zero163 : zeroPV Try.prog 163 = some [.int .u64 0] := by kernel_rfl
theorem cells166 : Try.prog.cellsOf 166 = 1 := by kernel_rfl
theorem bytes166 : Try.prog.bytesOf 166 = 8 := by kernel_rfl
theorem zero166 : zeroPV Try.prog 166 = some [.nilptr] := by kernel_rfl
theorem cells168 : Try.prog.cellsOf 168 = 1 := by kernel_rfl
theorem bytes168 : Try.prog.bytesOf 168 = 8 := by kernel_rfl
theorem zero168 : zeroPV Try.prog 168 = some [.nilptr] := by kernel_rfl
theorem cells171 : Try.prog.cellsOf 171 = 4 := by kernel_rfl
theorem bytes171 : Try.prog.bytesOf 171 = 40 := by kernel_rfl
theorem zero171 : zeroPV Try.prog 171 = some [.nilptr, .nilptr, .nilptr, .str .empty] := by kernel_rfl
theorem cells172 : Try.prog.cellsOf 172 = 4 := by kernel_rfl
theorem bytes172 : Try.prog.bytesOf 172 = 40 := by kernel_rfl
theorem zero172 : zeroPV Try.prog 172 = some [.nilptr, .nilptr, .nilptr, .str .empty] := by kernel_rfl
theorem cells173 : Try.prog.cellsOf 173 = 0 := by kernel_rfl
theorem bytes173 : Try.prog.bytesOf 173 = 0 := by kernel_rfl
theorem zero173 : zeroPV Try.prog 173 = some [] := by kernel_rfl
theorem cells174 : Try.prog.cellsOf 174 = 0 := by kernel_rfl
theorem bytes174 : Try.prog.bytesOf 174 = 0 := by kernel_rfl
theorem zero174 : zeroPV Try.prog 174 = some [] := by kernel_rfl
theorem cells175 : Try.prog.cellsOf 175 = 0 := by kernel_rfl
theorem bytes175 : Try.prog.bytesOf 175 = 0 := by kernel_rfl
theorem zero175 : zeroPV Try.prog 175 = some [] := by kernel_rfl
theorem cells177 : Try.prog.cellsOf 177 = 1 := by kernel_rfl
theorem bytes177 : Try.prog.bytesOf 177 = 1 := by kernel_rfl
theorem zero177 : zeroPV Try.prog 177 = some [.int .u8 0] := by kernel_rfl
theorem cells178 : Try.prog.cellsOf 178 = 1 := by kernel_rfl
theorem bytes178 : Try.prog.bytesOf 178 = 1 := by kernel_rfl
theorem zero178 : zeroPV Try.prog 178 = some [.int .u8 0] := by kernel_rfl

end Go.Proofs.Ytnpamcpoaklgeaa

namespace Go.Proofs.Ytnpamcpoaklgeaa
open Go
set_option maxRecDepth 100000

theorem lda2 {σ : Sg} {id off : Nat} : loadPV Try.prog σ 2 (.ptr id off) = ldS σ id off := ldS_of Try.underlying2 rfl
theorem ela2 {σ : Sg} {es i off : Nat} {l : List PV} : loadPV Try.prog σ 2 (.eptr es l i off) = elS l i off := elS_of Try.underlying2 rfl
theorem sto2 {σ : Sg} {id off : Nat} {p : PV} : storePV Try.prog σ 2 (.ptr id off) p = stX 1 σ id off p := stX_of Try.underlying2 cells2 p
theorem lda3 {σ : Sg} {id off : Nat} : loadPV Try.prog σ 3 (.ptr id off) = ldS σ id off := ldS_of Try.underlying3 rfl
theorem ela3 {σ : Sg} {es i off : Nat} {l : List PV} : loadPV Try.prog σ 3 (.eptr es l i off) = elS l i off := elS_of Try.underlying3 rfl
theorem sto3 {σ : Sg} {id off : Nat} {p : PV} : storePV Try.prog σ 3 (.ptr id off) p = stX 1 σ id off p := stX_of Try.underlying3 cells3 p
theorem lda4 {σ : Sg} {id off : Nat} : loadPV Try.prog σ 4 (.ptr id off) = ldS σ id off := ldS_of Try.underlying4 rfl
theorem ela4 {σ : Sg} {es i off : Nat} {l : List PV} : loadPV Try.prog σ 4 (.eptr es l i off) = elS l i off := elS_of Try.underlying4 rfl
theorem sto4 {σ : Sg} {id off : Nat} {p : PV} : storePV Try.prog σ 4 (.ptr id off) p = stX 1 σ id off p := stX_of Try.underlying4 cells4 p
theorem lda5 {σ : Sg} {id off : Nat} : loadPV Try.prog σ 5 (.ptr id off) = ldS σ id off := ldS_of Try.underlying5 rfl
theorem ela5 {σ : Sg} {es i off : Nat} {l : List PV} : loadPV Try.prog σ 5 (.eptr es l i off) = elS l i off := elS_of Try.underlying5 rfl
theorem sto5 {σ : Sg} {id off : Nat} {p : PV} : storePV Try.prog σ 5 (.ptr id off) p = stX 1 σ id off p := stX_of Try.underlying5 cells5 p
theorem lda9 {σ : Sg} {id off : Nat} : loadPV Try.prog σ 9 (.ptr id off) = ldS σ id off := ldS_of Try.underlying9 rfl
theorem ela9 {σ : Sg} {es i off : Nat} {l : List PV} : loadPV Try.prog σ 9 (.eptr es l i off) = elS l i off := elS_of Try.underlying9 rfl
theorem sto9 {σ : Sg} {id off : Nat} {p : PV} : storePV Try.prog σ 9 (.ptr id off) p = stX 1 σ id off p := stX_of Try.underlying9 cells9 p
theorem lda22 {σ : Sg} {id off : Nat} : loadPV Try.prog σ 22 (.ptr id off) = ldS σ id off := ldS_of Try.underlying22 rfl
theorem ela22 {σ : Sg} {es i off : Nat} {l : List PV} : loadPV Try.prog σ 22 (.eptr es l i off) = elS l i off := elS_of Try.underlying22 rfl
theorem sto22 {σ : Sg} {id off : Nat} {p : PV} : storePV Try.prog σ 22 (.ptr id off) p = stX 1 σ id off p := stX_of Try.underlying22 cells22 p
theorem ia22 {l : List PV} {own : Own} {k : IntKind} {i : Int} : indexAddrPV Try.prog 22 (.isl l own) (.int k i) = iaX 1 l i := iaX_of Try.underlying22 Try.underlying3 cells3 k i
theorem iam22 {id off len : Nat} {k : IntKind} {i : Int} : indexAddrPV Try.prog 22 (.msl id off len) (.int k i) = iaM 1 id off len i := iaM_of Try.underlying22 Try.underlying3 cells3 k len i
theorem len22 {l : List PV} {own : Own} : lenPV Try.prog 22 (.isl l own) = some (.int .i64 l.length) := len_of Try.underlying22
theorem lenm22 {id off n : Nat} : lenPV Try.prog 22 (.msl id off n) = some (.int .i64 n) := lenM_of Try.underlying22 n
theorem bs22 {len : Nat} {parts : List (Nat × PV)} : buildSlicePV Try.prog 22 len parts = bsX 1 len parts := bsX_of Try.underlying22 Try.underlying3 cells3 zero3 len parts
theorem app22 {σ : Sg} {l m : List PV} {own own' : Own} : appendPV Try.prog σ 22 22 (.isl l own) (.isl m own') = appX 1 8 σ l own m := appX_of Try.underlying22 Try.underlying3 cells3 bytes3 (by decide) (by decide) zero3 rfl
theorem lda23 {σ : Sg} {id off : Nat} : loadPV Try.prog σ 23 (.ptr id off) = ldS σ id off := ldS_of Try.underlying23 rfl
theorem ela23 {σ : Sg} {es i off : Nat} {l : List PV} : loadPV Try.prog σ 23 (.eptr es l i off) = elS l i off := elS_of Try.underlying23 rfl
theorem sto23 {σ : Sg} {id off : Nat} {p : PV} : storePV Try.prog σ 23 (.ptr id off) p = stX 1 σ id off p := stX_of Try.underlying23 cells23 p
theorem ia23 {l : List PV} {own : Own} {k : IntKind} {i : Int} : indexAddrPV Try.prog 23 (.isl l own) (.int k i) = iaX 2 l i := iaX_of Try.underlying23 Try.underlying76 cells76 k i
theorem iam23 {id off len : Nat} {k : IntKind} {i : Int} : indexAddrPV Try.prog 23 (.msl id off len) (.int k i) = iaM 2 id off len i := iaM_of Try.underlying23 Try.underlying76 cells76 k len i
theorem len23 {l : List PV} {own : Own} : lenPV Try.prog 23 (.isl l own) = some (.int .i64 l.length) := len_of Try.underlying23
theorem lenm23 {id off n : Nat} : lenPV Try.prog 23 (.msl id off n) = some (.int .i64 n) := lenM_of Try.underlying23 n
theorem bs23 {len : Nat} {parts : List (Nat × PV)} : buildSlicePV Try.prog 23 len parts = bsX 2 len parts := bsX_of Try.underlying23 Try.underlying76 cells76 zero76 len parts
theorem app23 {σ : Sg} {l m : List PV} {own own' : Own} : appendPV Try.prog σ 23 23 (.isl l own) (.isl m own') = appX 2 16 σ l own m := appX_of Try.underlying23 Try.underlying76 cells76 bytes76 (by decide) (by decide) zero76 rfl
theorem lda24 {σ : Sg} {id off : Nat} : loadPV Try.prog σ 24 (.ptr id off) = ldS σ id off := ldS_of Try.underlying24 rfl
theorem ela24 {σ : Sg} {es i off : Nat} {l : List PV} : loadPV Try.prog σ 24 (.eptr es l i off) = elS l i off := elS_of Try.underlying24 rfl
theorem sto24 {σ : Sg} {id off : Nat} {p : PV} : storePV Try.prog σ 24 (.ptr id off) p = stX 1 σ id off p := stX_of Try.underlying24 cells24 p
theorem ia24 {l : List PV} {own : Own} {k : IntKind} {i : Int} : indexAddrPV Try.prog 24 (.isl l own) (.int k i) = iaX 7 l i := iaX_of Try.underlying24 Try.underlying86 cells86 k i
theorem iam24 {id off len : Nat} {k : IntKind} {i : Int} : indexAddrPV Try.prog 24 (.msl id off len) (.int k i) = iaM 7 id off len i := iaM_of Try.underlying24 Try.underlying86 cells86 k len i
theorem len24 {l : List PV} {own : Own} : lenPV Try.prog 24 (.isl l own) = some (.int .i64 l.length) := len_of Try.underlying24
theorem lenm24 {id off n : Nat} : lenPV Try.prog 24 (.msl id off n) = some (.int .i64 n) := lenM_of Try.underlying24 n
theorem bs24 {len : Nat} {parts : List (Nat × PV)} : buildSlicePV Try.prog 24 len parts = bsX 7 len parts := bsX_of Try.underlying24 Try.underlying86 cells86 zero86 len parts
theorem app24 {σ : Sg} {l m : List PV} {own own' : Own} : appendPV Try.prog σ 24 24 (.isl l own) (.isl m own') = appX 7 72 σ l own m := appX_of Try.underlying24 Try.underlying86 cells86 bytes86 (by decide) (by decide) zero86 rfl
theorem lda25 {σ : Sg} {id off : Nat} : loadPV Try.prog σ 25 (.ptr id off) = ldA 4 σ id off := ldA_of Try.underlying25 rfl cells25
theorem ela25 {σ : Sg} {es i off : Nat} {l : List PV} : loadPV Try.prog σ 25 (.eptr es l i off) = elA 4 l i off := elA_of Try.underlying25 rfl cells25
theorem sto25 {σ : Sg} {id off : Nat} {p : PV} : storePV Try.prog σ 25 (.ptr id off) p = stX 4 σ id off p := stX_of Try.underlying25 cells25 p
theorem fa25_0 {id off : Nat} : fieldAddrPV Try.prog 25 (.ptr id off) 0 = some (.ptr id (off + 0)) := fa1_of Try.underlying25 (by rfl) (by exact Try.underlying22) (by exact cells22) (by rfl) (by rfl)
theorem fae25_0 {es i off : Nat} {l : List PV} : fieldAddrPV Try.prog 25 (.eptr es l i off) 0 = some (.eptr es l i (off + 0)) := fa2_of Try.underlying25 (by rfl) (by exact Try.underlying22) (by exact cells22) (by rfl) (by rfl)
theorem fp25_0 {cs : List PV} : fieldPV Try.prog 25 (.agg cs) 0 = cs[0]? := fpS_of Try.underlying25 (by rfl) (by exact Try.underlying22) (by rfl) (by rfl) cs
theorem fa25_1 {id off : Nat} : fieldAddrPV Try.prog 25 (.ptr id off) 1 = some (.ptr id (off + 1)) := fa1_of Try.underlying25 (by rfl) (by exact Try.underlying23) (by exact cells23) (by rfl) (by rfl)
theorem fae25_1 {es i off : Nat} {l : List PV} : fieldAddrPV Try.prog 25 (.eptr es l i off) 1 = some (.eptr es l i (off + 1)) := fa2_of Try.underlying25 (by rfl) (by exact Try.underlying23) (by exact cells23) (by rfl) (by rfl)
theorem fp25_1 {cs : List PV} : fieldPV Try.prog 25 (.agg cs) 1 = cs[1]? := fpS_of Try.underlying25 (by rfl) (by exact Try.underlying23) (by rfl) (by rfl) cs
theorem fa25_2 {id off : Nat} : fieldAddrPV Try.prog 25 (.ptr id off) 2 = some (.ptr id (off + 2)) := fa1_of Try.underlying25 (by rfl) (by exact Try.underlying24) (by exact cells24) (by rfl) (by rfl)
theorem fae25_2 {es i off : Nat} {l : List PV} : fieldAddrPV Try.prog 25 (.eptr es l i off) 2 = some (.eptr es l i (off + 2)) := fa2_of Try.underlying25 (by rfl) (by exact Try.underlying24) (by exact cells24) (by rfl) (by rfl)
theorem fp25_2 {cs : List PV} : fieldPV Try.prog 25 (.agg cs) 2 = cs[2]? := fpS_of Try.underlying25 (by rfl) (by exact Try.underlying24) (by rfl) (by rfl) cs
theorem fa25_3 {id off : Nat} : fieldAddrPV Try.prog 25 (.ptr id off) 3 = some (.ptr id (off + 3)) := fa1_of Try.underlying25 (by rfl) (by exact Try.underlying3) (by exact cells3) (by rfl) (by rfl)
theorem fae25_3 {es i off : Nat} {l : List PV} : fieldAddrPV Try.prog 25 (.eptr es l i off) 3 = some (.eptr es l i (off + 3)) := fa2_of Try.underlying25 (by rfl) (by exact Try.underlying3) (by exact cells3) (by rfl) (by rfl)
theorem fp25_3 {cs : List PV} : fieldPV Try.prog 25 (.agg cs) 3 = cs[3]? := fpS_of Try.underlying25 (by rfl) (by exact Try.underlying3) (by rfl) (by rfl) cs
theorem bld25 {parts : List (Nat × PV)} : buildPV Try.prog 25 parts = bldX [.isl [] .exact, .isl [] .exact, .isl [] .exact, .int .i64 0] [(0, 1), (1, 1), (2, 1), (3, 1)] parts := bldX_of zero25 Try.underlying25 (by kernel_rfl) (by kernel_rfl) parts
theorem lda26 {σ : Sg} {id off : Nat} : loadPV Try.prog σ 26 (.ptr id off) = ldA 4 σ id off := ldA_of Try.underlying26 rfl cells26
theorem ela26 {σ : Sg} {es i off : Nat} {l : List PV} : loadPV Try.prog σ 26 (.eptr es l i off) = elA 4 l i off := elA_of Try.underlying26 rfl cells26
theorem sto26 {σ : Sg} {id off : Nat} {p : PV} : storePV Try.prog σ 26 (.ptr id off) p = stX 4 σ id off p := stX_of Try.underlying26 cells26 p
theorem fa26_0 {id off : Nat} : fieldAddrPV Try.prog 26 (.ptr id off) 0 = some (.ptr id (off + 0)) := fa1_of Try.underlying26 (by rfl) (by exact Try.underlying22) (by exact cells22) (by rfl) (by rfl)
theorem fae26_0 {es i off : Nat} {l : List PV} : fieldAddrPV Try.prog 26 (.eptr es l i off) 0 = some (.eptr es l i (off + 0)) := fa2_of Try.underlying26 (by rfl) (by exact Try.underlying22) (by exact cells22) (by rfl) (by rfl)
theorem fp26_0 {cs : List PV} : fieldPV Try.prog 26 (.agg cs) 0 = cs[0]? := fpS_of Try.underlying26 (by rfl) (by exact Try.underlying22) (by rfl) (by rfl) cs
theorem fa26_1 {id off : Nat} : fieldAddrPV Try.prog 26 (.ptr id off) 1 = some (.ptr id (off + 1)) := fa1_of Try.underlying26 (by rfl) (by exact Try.underlying23) (by exact cells23) (by rfl) (by rfl)
theorem fae26_1 {es i off : Nat} {l : List PV} : fieldAddrPV Try.prog 26 (.eptr es l i off) 1 = some (.eptr es l i (off + 1)) := fa2_of Try.underlying26 (by rfl) (by exact Try.underlying23) (by exact cells23) (by rfl) (by rfl)
theorem fp26_1 {cs : List PV} : fieldPV Try.prog 26 (.agg cs) 1 = cs[1]? := fpS_of Try.underlying26 (by rfl) (by exact Try.underlying23) (by rfl) (by rfl) cs
theorem fa26_2 {id off : Nat} : fieldAddrPV Try.prog 26 (.ptr id off) 2 = some (.ptr id (off + 2)) := fa1_of Try.underlying26 (by rfl) (by exact Try.underlying24) (by exact cells24) (by rfl) (by rfl)
theorem fae26_2 {es i off : Nat} {l : List PV} : fieldAddrPV Try.prog 26 (.eptr es l i off) 2 = some (.eptr es l i (off + 2)) := fa2_of Try.underlying26 (by rfl) (by exact Try.underlying24) (by exact cells24) (by rfl) (by rfl)
theorem fp26_2 {cs : List PV} : fieldPV Try.prog 26 (.agg cs) 2 = cs[2]? := fpS_of Try.underlying26 (by rfl) (by exact Try.underlying24) (by rfl) (by rfl) cs
theorem fa26_3 {id off : Nat} : fieldAddrPV Try.prog 26 (.ptr id off) 3 = some (.ptr id (off + 3)) := fa1_of Try.underlying26 (by rfl) (by exact Try.underlying3) (by exact cells3) (by rfl) (by rfl)
theorem fae26_3 {es i off : Nat} {l : List PV} : fieldAddrPV Try.prog 26 (.eptr es l i off) 3 = some (.eptr es l i (off + 3)) := fa2_of Try.underlying26 (by rfl) (by exact Try.underlying3) (by exact cells3) (by rfl) (by rfl)
theorem fp26_3 {cs : List PV} : fieldPV Try.prog 26 (.agg cs) 3 = cs[3]? := fpS_of Try.underlying26 (by rfl) (by exact Try.underlying3) (by rfl) (by rfl) cs
theorem bld26 {parts : List (Nat × PV)} : buildPV Try.prog 26 parts = bldX [.isl [] .exact, .isl [] .exact, .isl [] .exact, .int .i64 0] [(0, 1), (1, 1), (2, 1), (3, 1)] parts := bldX_of zero26 Try.underlying26 (by kernel_rfl) (by kernel_rfl) parts
theorem lda27 {σ : Sg} {id off : Nat} : loadPV Try.prog σ 27 (.ptr id off) = ldA 6 σ id off := ldA_of Try.underlying27 rfl cells27
theorem ela27 {σ : Sg} {es i off : Nat} {l : List PV} : loadPV Try.prog σ 27 (.eptr es l i off) = elA 6 l i off := elA_of Try.underlying27 rfl cells27
theorem sto27 {σ : Sg} {id off : Nat} {p : PV} : storePV Try.prog σ 27 (.ptr id off) p = stX 6 σ id off p := stX_of Try.underlying27 cells27 p
theorem fa27_0 {id off : Nat} : fieldAddrPV Try.prog 27 (.ptr id off) 0 = some (.ptr id (off + 0)) := fa1_of Try.underlying27 (by rfl) (by exact Try.underlying26) (by exact cells26) (by rfl) (by rfl)
theorem fae27_0 {es i off : Nat} {l : List PV} : fieldAddrPV Try.prog 27 (.eptr es l i off) 0 = some (.eptr es l i (off + 0)) := fa2_of Try.underlying27 (by rfl) (by exact Try.underlying26) (by exact cells26) (by rfl) (by rfl)
theorem fp27_0 {cs : List PV} : fieldPV Try.prog 27 (.agg cs) 0 = if 0 + 4 ≤ cs.length then some (.agg ((cs.drop 0).take 4)) else none := fpA_of Try.underlying27 (by rfl) (by exact Try.underlying26) (by rfl) (by exact cells26) (by rfl) cs
theorem fa27_1 {id off : Nat} : fieldAddrPV Try.prog 27 (.ptr id off) 1 = some (.ptr id (off + 4)) := fa1_of Try.underlying27 (by rfl) (by exact Try.underlying3) (by exact cells3) (by rfl) (by rfl)
theorem fae27_1 {es i off : Nat} {l : List PV} : fieldAddrPV Try.prog 27 (.eptr es l i off) 1 = some (.eptr es l i (off + 4)) := fa2_of Try.underlying27 (by rfl) (by exact Try.underlying3) (by exact cells3) (by rfl) (by rfl)
theorem fp27_1 {cs : List PV} : fieldPV Try.prog 27 (.agg cs) 1 = cs[4]? := fpS_of Try.underlying27 (by rfl) (by exact Try.underlying3) (by rfl) (by rfl) cs
theorem fa27_2 {id off : Nat} : fieldAddrPV Try.prog 27 (.ptr id off) 2 = some (.ptr id (off + 5)) := fa1_of Try.underlying27 (by rfl) (by exact Try.underlying22) (by exact cells22) (by rfl) (by rfl)
theorem fae27_2 {es i off : Nat} {l : List PV} : fieldAddrPV Try.prog 27 (.eptr es l i off) 2 = some (.eptr es l i (off + 5)) := fa2_of Try.underlying27 (by rfl) (by exact Try.underlying22) (by exact cells22) (by rfl) (by rfl)
theorem fp27_2 {cs : List PV} : fieldPV Try.prog 27 (.agg cs) 2 = cs[5]? := fpS_of Try.underlying27 (by rfl) (by exact Try.underlying22) (by rfl) (by rfl) cs
theorem bld27 {parts : List (Nat × PV)} : buildPV Try.prog 27 parts = bldX [.isl [] .exact, .isl [] .exact, .isl [] .exact, .int .i64 0, .int .i64 0, .isl [] .exact] [(0, 4), (4, 1), (5, 1)] parts := bldX_of zero27 Try.underlying27 (by kernel_rfl) (by kernel_rfl) parts
theorem lda28 {σ : Sg} {id off : Nat} : loadPV Try.prog σ 28 (.ptr id off) = ldA 6 σ id off := ldA_of Try.underlying28 rfl cells28
theorem ela28 {σ : Sg} {es i off : Nat} {l : List PV} : loadPV Try.prog σ 28 (.eptr es l i off) = elA 6 l i off := elA_of Try.underlying28 rfl cells28
theorem sto28 {σ : Sg} {id off : Nat} {p : PV} : storePV Try.prog σ 28 (.ptr id off) p = stX 6 σ id off p := stX_of Try.underlying28 cells28 p
theorem fa28_0 {id off : Nat} : fieldAddrPV Try.prog 28 (.ptr id off) 0 = some (.ptr id (off + 0)) := fa1_of Try.underlying28 (by rfl) (by exact Try.underlying26) (by exact cells26) (by rfl) (by rfl)
theorem fae28_0 {es i off : Nat} {l : List PV} : fieldAddrPV Try.prog 28 (.eptr es l i off) 0 = some (.eptr es l i (off + 0)) := fa2_of Try.underlying28 (by rfl) (by exact Try.underlying26) (by exact cells26) (by rfl) (by rfl)
theorem fp28_0 {cs : List PV} : fieldPV Try.prog 28 (.agg cs) 0 = if 0 + 4 ≤ cs.length then some (.agg ((cs.drop 0).take 4)) else none := fpA_of Try.underlying28 (by rfl) (by exact Try.underlying26) (by rfl) (by exact cells26) (by rfl) cs
theorem fa28_1 {id off : Nat} : fieldAddrPV Try.prog 28 (.ptr id off) 1 = some (.ptr id (off + 4)) := fa1_of Try.underlying28 (by rfl) (by exact Try.underlying3) (by exact cells3) (by rfl) (by rfl)
theorem fae28_1 {es i off : Nat} {l : List PV} : fieldAddrPV Try.prog 28 (.eptr es l i off) 1 = some (.eptr es l i (off + 4)) := fa2_of Try.underlying28 (by rfl) (by exact Try.underlying3) (by exact cells3) (by rfl) (by rfl)
theorem fp28_1 {cs : List PV} : fieldPV Try.prog 28 (.agg cs) 1 = cs[4]? := fpS_of Try.underlying28 (by rfl) (by exact Try.underlying3) (by rfl) (by rfl) cs
theorem fa28_2 {id off : Nat} : fieldAddrPV Try.prog 28 (.ptr id off) 2 = some (.ptr id (off + 5)) := fa1_of Try.underlying28 (by rfl) (by exact Try.underlying22) (by exact cells22) (by rfl) (by rfl)
theorem fae28_2 {es i off : Nat} {l : List PV} : fieldAddrPV Try.prog 28 (.eptr es l i off) 2 = some (.eptr es l i (off + 5)) := fa2_of Try.underlying28 (by rfl) (by exact Try.underlying22) (by exact cells22) (by rfl) (by rfl)
theorem fp28_2 {cs : List PV} : fieldPV Try.prog 28 (.agg cs) 2 = cs[5]? := fpS_of Try.underlying28 (by rfl) (by exact Try.underlying22) (by rfl) (by rfl) cs
theorem bld28 {parts : List (Nat × PV)} : buildPV Try.prog 28 parts = bldX [.isl [] .exact, .isl [] .exact, .isl [] .exact, .int .i64 0, .int .i64 0, .isl [] .exact] [(0, 4), (4, 1), (5, 1)] parts := bldX_of zero28 Try.underlying28 (by kernel_rfl) (by kernel_rfl) parts
theorem lda29 {σ : Sg} {id off : Nat} : loadPV Try.prog σ 29 (.ptr id off) = ldS σ id off := ldS_of Try.underlying29 rfl
theorem ela29 {σ : Sg} {es i off : Nat} {l : List PV} : loadPV Try.prog σ 29 (.eptr es l i off) = elS l i off := elS_of Try.underlying29 rfl
theorem sto29 {σ : Sg} {id off : Nat} {p : PV} : storePV Try.prog σ 29 (.ptr id off) p = stX 1 σ id off p := stX_of Try.underlying29 cells29 p
theorem ia29 {l : List PV} {own : Own} {k : IntKind} {i : Int} : indexAddrPV Try.prog 29 (.isl l own) (.int k i) = iaX 6 l i := iaX_of Try.underlying29 Try.underlying33 cells33 k i
theorem iam29 {id off len : Nat} {k : IntKind} {i : Int} : indexAddrPV Try.prog 29 (.msl id off len) (.int k i) = iaM 6 id off len i := iaM_of Try.underlying29 Try.underlying33 cells33 k len i
theorem len29 {l : List PV} {own : Own} : lenPV Try.prog 29 (.isl l own) = some (.int .i64 l.length) := len_of Try.underlying29
theorem lenm29 {id off n : Nat} : lenPV Try.prog 29 (.msl id off n) = some (.int .i64 n) := lenM_of Try.underlying29 n
theorem bs29 {len : Nat} {parts : List (Nat × PV)} : buildSlicePV Try.prog 29 len parts = bsX 6 len parts := bsX_of Try.underlying29 Try.underlying33 cells33 zero33 len parts
theorem app29 {σ : Sg} {l m : List PV} {own own' : Own} : appendPV Try.prog σ 29 29 (.isl l own) (.isl m own') = appX 6 64 σ l own m := appX_of Try.underlying29 Try.underlying33 cells33 bytes33 (by decide) (by decide) zero33 rfl
theorem lda30 {σ : Sg} {id off : Nat} : loadPV Try.prog σ 30 (.ptr id off) = ldA 2 σ id off := ldA_of Try.underlying30 rfl cells30
theorem ela30 {σ : Sg} {es i off : Nat} {l : List PV} : loadPV Try.prog σ 30 (.eptr es l i off) = elA 2 l i off := elA_of Try.underlying30 rfl cells30
theorem sto30 {σ : Sg} {id off : Nat} {p : PV} : storePV Try.prog σ 30 (.ptr id off) p = stX 2 σ id off p := stX_of Try.underlying30 cells30 p
theorem fa30_0 {id off : Nat} : fieldAddrPV Try.prog 30 (.ptr id off) 0 = some (.ptr id (off + 0)) := fa1_of Try.underlying30 (by rfl) (by exact Try.underlying3) (by exact cells3) (by rfl) (by rfl)
theorem fae30_0 {es i off : Nat} {l : List PV} : fieldAddrPV Try.prog 30 (.eptr es l i off) 0 = some (.eptr es l i (off + 0)) := fa2_of Try.underlying30 (by rfl) (by exact Try.underlying3) (by exact cells3) (by rfl) (by rfl)
theorem fp30_0 {cs : List PV} : fieldPV Try.prog 30 (.agg cs) 0 = cs[0]? := fpS_of Try.underlying30 (by rfl) (by exact Try.underlying3) (by rfl) (by rfl) cs
theorem fa30_1 {id off : Nat} : fieldAddrPV Try.prog 30 (.ptr id off) 1 = some (.ptr id (off + 1)) := fa1_of Try.underlying30 (by rfl) (by exact Try.underlying3) (by exact cells3) (by rfl) (by rfl)
theorem fae30_1 {es i off : Nat} {l : List PV} : fieldAddrPV Try.prog 30 (.eptr es l i off) 1 = some (.eptr es l i (off + 1)) := fa2_of Try.underlying30 (by rfl) (by exact Try.underlying3) (by exact cells3) (by rfl) (by rfl)
theorem fp30_1 {cs : List PV} : fieldPV Try.prog 30 (.agg cs) 1 = cs[1]? := fpS_of Try.underlying30 (by rfl) (by exact Try.underlying3) (by rfl) (by rfl) cs
theorem eqs30 {a0 a1 b0 b1 : Int} : eqPV Try.prog 30 (.agg [.int .i64 a0, .int .i64 a1]) (.agg [.int .i64 b0, .int .i64 b1]) = some ((a0 == b0) && ((a1 == b1) && true)) := by kernel_rfl
theorem bld30 {parts : List (Nat × PV)} : buildPV Try.prog 30 parts = bldX [.int .i64 0, .int .i64 0] [(0, 1), (1, 1)] parts := bldX_of zero30 Try.underlying30 (by kernel_rfl) (by kernel_rfl) parts
theorem lda31 {σ : Sg} {id off : Nat} : loadPV Try.prog σ 31 (.ptr id off) = ldA 2 σ id off := ldA_of Try.underlying31 rfl cells31
theorem ela31 {σ : Sg} {es i off : Nat} {l : List PV} : loadPV Try.prog σ 31 (.eptr es l i off) = elA 2 l i off := elA_of Try.underlying31 rfl cells31
theorem sto31 {σ : Sg} {id off : Nat} {p : PV} : storePV Try.prog σ 31 (.ptr id off) p = stX 2 σ id off p := stX_of Try.underlying31 cells31 p
theorem fa31_0 {id off : Nat} : fieldAddrPV Try.prog 31 (.ptr id off) 0 = some (.ptr id (off + 0)) := fa1_of Try.underlying31 (by rfl) (by exact Try.underlying3) (by exact cells3) (by rfl) (by rfl)
theorem fae31_0 {es i off : Nat} {l : List PV} : fieldAddrPV Try.prog 31 (.eptr es l i off) 0 = some (.eptr es l i (off + 0)) := fa2_of Try.underlying31 (by rfl) (by exact Try.underlying3) (by exact cells3) (by rfl) (by rfl)
theorem fp31_0 {cs : List PV} : fieldPV Try.prog 31 (.agg cs) 0 = cs[0]? := fpS_of Try.underlying31 (by rfl) (by exact Try.underlying3) (by rfl) (by rfl) cs
theorem fa31_1 {id off : Nat} : fieldAddrPV Try.prog 31 (.ptr id off) 1 = some (.ptr id (off + 1)) := fa1_of Try.underlying31 (by rfl) (by exact Try.underlying3) (by exact cells3) (by rfl) (by rfl)
theorem fae31_1 {es i off : Nat} {l : List PV} : fieldAddrPV Try.prog 31 (.eptr es l i off) 1 = some (.eptr es l i (off + 1)) := fa2_of Try.underlying31 (by rfl) (by exact Try.underlying3) (by exact cells3) (by rfl) (by rfl)
theorem fp31_1 {cs : List PV} : fieldPV Try.prog 31 (.agg cs) 1 = cs[1]? := fpS_of Try.underlying31 (by rfl) (by exact Try.underlying3) (by rfl) (by rfl) cs
theorem eqs31 {a0 a1 b0 b1 : Int} : eqPV Try.prog 31 (.agg [.int .i64 a0, .int .i64 a1]) (.agg [.int .i64 b0, .int .i64 b1]) = some ((a0 == b0) && ((a1 == b1) && true)) := by kernel_rfl
theorem bld31 {parts : List (Nat × PV)} : buildPV Try.prog 31 parts = bldX [.int .i64 0, .int .i64 0] [(0, 1), (1, 1)] parts := bldX_of zero31 Try.underlying31 (by kernel_rfl) (by kernel_rfl) parts
theorem lda32 {σ : Sg} {id off : Nat} : loadPV Try.prog σ 32 (.ptr id off) = ldA 6 σ id off := ldA_of Try.underlying32 rfl cells32
theorem ela32 {σ : Sg} {es i off : Nat} {l : List PV} : loadPV Try.prog σ 32 (.eptr es l i off) = elA 6 l i off := elA_of Try.underlying32 rfl cells32
theorem sto32 {σ : Sg} {id off : Nat} {p : PV} : storePV Try.prog σ 32 (.ptr id off) p = stX 6 σ id off p := stX_of Try.underlying32 cells32 p
theorem fa32_0 {id off : Nat} : fieldAddrPV Try.prog 32 (.ptr id off) 0 = some (.ptr id (off + 0)) := fa1_of Try.underlying32 (by rfl) (by exact Try.underlying3) (by exact cells3) (by rfl) (by rfl)
theorem fae32_0 {es i off : Nat} {l : List PV} : fieldAddrPV Try.prog 32 (.eptr es l i off) 0 = some (.eptr es l i (off + 0)) := fa2_of Try.underlying32 (by rfl) (by exact Try.underlying3) (by exact cells3) (by rfl) (by rfl)
theorem fp32_0 {cs : List PV} : fieldPV Try.prog 32 (.agg cs) 0 = cs[0]? := fpS_of Try.underlying32 (by rfl) (by exact Try.underlying3) (by rfl) (by rfl) cs
theorem fa32_1 {id off : Nat} : fieldAddrPV Try.prog 32 (.ptr id off) 1 = some (.ptr id (off + 1)) := fa1_of Try.underlying32 (by rfl) (by exact Try.underlying22) (by exact cells22) (by rfl) (by rfl)
theorem fae32_1 {es i off : Nat} {l : List PV} : fieldAddrPV Try.prog 32 (.eptr es l i off) 1 = some (.eptr es l i (off + 1)) := fa2_of Try.underlying32 (by rfl) (by exact Try.underlying22) (by exact cells22) (by rfl) (by rfl)
theorem fp32_1 {cs : List PV} : fieldPV Try.prog 32 (.agg cs) 1 = cs[1]? := fpS_of Try.underlying32 (by rfl) (by exact Try.underlying22) (by rfl) (by rfl) cs
theorem fa32_2 {id off : Nat} : fieldAddrPV Try.prog 32 (.ptr id off) 2 = some (.ptr id (off + 2)) := fa1_of Try.underlying32 (by rfl) (by exact Try.underlying31) (by exact cells31) (by rfl) (by rfl)
theorem fae32_2 {es i off : Nat} {l : List PV} : fieldAddrPV Try.prog 32 (.eptr es l i off) 2 = some (.eptr es l i (off + 2)) := fa2_of Try.underlying32 (by rfl) (by exact Try.underlying31) (by exact cells31) (by rfl) (by rfl)
theorem fp32_2 {cs : List PV} : fieldPV Try.prog 32 (.agg cs) 2 = if 2 + 2 ≤ cs.length then some (.agg ((cs.drop 2).take 2)) else none := fpA_of Try.underlying32 (by rfl) (by exact Try.underlying31) (by rfl) (by exact cells31) (by rfl) cs
theorem fa32_3 {id off : Nat} : fieldAddrPV Try.prog 32 (.ptr id off) 3 = some (.ptr id (off + 4)) := fa1_of Try.underlying32 (by rfl) (by exact Try.underlying3) (by exact cells3) (by rfl) (by rfl)
theorem fae32_3 {es i off : Nat} {l : List PV} : fieldAddrPV Try.prog 32 (.eptr es l i off) 3 = some (.eptr es l i (off + 4)) := fa2_of Try.underlying32 (by rfl) (by exact Try.underlying3) (by exact cells3) (by rfl) (by rfl)
theorem fp32_3 {cs : List PV} : fieldPV Try.prog 32 (.agg cs) 3 = cs[4]? := fpS_of Try.underlying32 (by rfl) (by exact Try.underlying3) (by rfl) (by rfl) cs
theorem fa32_4 {id off : Nat} : fieldAddrPV Try.prog 32 (.ptr id off) 4 = some (.ptr id (off + 5)) := fa1_of Try.underlying32 (by rfl) (by exact Try.underlying3) (by exact cells3) (by rfl) (by rfl)
theorem fae32_4 {es i off : Nat} {l : List PV} : fieldAddrPV Try.prog 32 (.eptr es l i off) 4 = some (.eptr es l i (off + 5)) := fa2_of Try.underlying32 (by rfl) (by exact Try.underlying3) (by exact cells3) (by rfl) (by rfl)
theorem fp32_4 {cs : List PV} : fieldPV Try.prog 32 (.agg cs) 4 = cs[5]? := fpS_of Try.underlying32 (by rfl) (by exact Try.underlying3) (by rfl) (by rfl) cs
theorem bld32 {parts : List (Nat × PV)} : buildPV Try.prog 32 parts = bldX [.int .i64 0, .isl [] .exact, .int .i64 0, .int .i64 0, .int .i64 0, .int .i64 0] [(0, 1), (1, 1), (2, 2), (4, 1), (5, 1)] parts := bldX_of zero32 Try.underlying32 (by kernel_rfl) (by kernel_rfl) parts
theorem lda33 {σ : Sg} {id off : Nat} : loadPV Try.prog σ 33 (.ptr id off) = ldA 6 σ id off := ldA_of Try.underlying33 rfl cells33
theorem ela33 {σ : Sg} {es i off : Nat} {l : List PV} : loadPV Try.prog σ 33 (.eptr es l i off) = elA 6 l i off := elA_of Try.underlying33 rfl cells33
theorem sto33 {σ : Sg} {id off : Nat} {p : PV} : storePV Try.prog σ 33 (.ptr id off) p = stX 6 σ id off p := stX_of Try.underlying33 cells33 p
theorem fa33_0 {id off : Nat} : fieldAddrPV Try.prog 33 (.ptr id off) 0 = some (.ptr id (off + 0)) := fa1_of Try.underlying33 (by rfl) (by exact Try.underlying3) (by exact cells3) (by rfl) (by rfl)
theorem fae33_0 {es i off : Nat} {l : List PV} : fieldAddrPV Try.prog 33 (.eptr es l i off) 0 = some (.eptr es l i (off + 0)) := fa2_of Try.underlying33 (by rfl) (by exact Try.underlying3) (by exact cells3) (by rfl) (by rfl)
theorem fp33_0 {cs : List PV} : fieldPV Try.prog 33 (.agg cs) 0 = cs[0]? := fpS_of Try.underlying33 (by rfl) (by exact Try.underlying3) (by rfl) (by rfl) cs
theorem fa33_1 {id off : Nat} : fieldAddrPV Try.prog 33 (.ptr id off) 1 = some (.ptr id (off + 1)) := fa1_of Try.underlying33 (by rfl) (by exact Try.underlying22) (by exact cells22) (by rfl) (by rfl)
theorem fae33_1 {es i off : Nat} {l : List PV} : fieldAddrPV Try.prog 33 (.eptr es l i off) 1 = some (.eptr es l i (off + 1)) := fa2_of Try.underlying33 (by rfl) (by exact Try.underlying22) (by exact cells22) (by rfl) (by rfl)
theorem fp33_1 {cs : List PV} : fieldPV Try.prog 33 (.agg cs) 1 = cs[1]? := fpS_of Try.underlying33 (by rfl) (by exact Try.underlying22) (by rfl) (by rfl) cs
theorem fa33_2 {id off : Nat} : fieldAddrPV Try.prog 33 (.ptr id off) 2 = some (.ptr id (off + 2)) := fa1_of Try.underlying33 (by rfl) (by exact Try.underlying31) (by exact cells31) (by rfl) (by rfl)
theorem fae33_2 {es i off : Nat} {l : List PV} : fieldAddrPV Try.prog 33 (.eptr es l i off) 2 = some (.eptr es l i (off + 2)) := fa2_of Try.underlying33 (by rfl) (by exact Try.underlying31) (by exact cells31) (by rfl) (by rfl)
theorem fp33_2 {cs : List PV} : fieldPV Try.prog 33 (.agg cs) 2 = if 2 + 2 ≤ cs.length then some (.agg ((cs.drop 2).take 2)) else none := fpA_of Try.underlying33 (by rfl) (by exact Try.underlying31) (by rfl) (by exact cells31) (by rfl) cs
theorem fa33_3 {id off : Nat} : fieldAddrPV Try.prog 33 (.ptr id off) 3 = some (.ptr id (off + 4)) := fa1_of Try.underlying33 (by rfl) (by exact Try.underlying3) (by exact cells3) (by rfl) (by rfl)
theorem fae33_3 {es i off : Nat} {l : List PV} : fieldAddrPV Try.prog 33 (.eptr es l i off) 3 = some (.eptr es l i (off + 4)) := fa2_of Try.underlying33 (by rfl) (by exact Try.underlying3) (by exact cells3) (by rfl) (by rfl)
theorem fp33_3 {cs : List PV} : fieldPV Try.prog 33 (.agg cs) 3 = cs[4]? := fpS_of Try.underlying33 (by rfl) (by exact Try.underlying3) (by rfl) (by rfl) cs
theorem fa33_4 {id off : Nat} : fieldAddrPV Try.prog 33 (.ptr id off) 4 = some (.ptr id (off + 5)) := fa1_of Try.underlying33 (by rfl) (by exact Try.underlying3) (by exact cells3) (by rfl) (by rfl)
theorem fae33_4 {es i off : Nat} {l : List PV} : fieldAddrPV Try.prog 33 (.eptr es l i off) 4 = some (.eptr es l i (off + 5)) := fa2_of Try.underlying33 (by rfl) (by exact Try.underlying3) (by exact cells3) (by rfl) (by rfl)
theorem fp33_4 {cs : List PV} : fieldPV Try.prog 33 (.agg cs) 4 = cs[5]? := fpS_of Try.underlying33 (by rfl) (by exact Try.underlying3) (by rfl) (by rfl) cs
theorem bld33 {parts : List (Nat × PV)} : buildPV Try.prog 33 parts = bldX [.int .i64 0, .isl [] .exact, .int .i64 0, .int .i64 0, .int .i64 0, .int .i64 0] [(0, 1), (1, 1), (2, 2), (4, 1), (5, 1)] parts := bldX_of zero33 Try.underlying33 (by kernel_rfl) (by kernel_rfl) parts
theorem lda37 {σ : Sg} {id off : Nat} : loadPV Try.prog σ 37 (.ptr id off) = ldS σ id off := ldS_of Try.underlying37 rfl
theorem ela37 {σ : Sg} {es i off : Nat} {l : List PV} : loadPV Try.prog σ 37 (.eptr es l i off) = elS l i off := elS_of Try.underlying37 rfl
theorem sto37 {σ : Sg} {id off : Nat} {p : PV} : storePV Try.prog σ 37 (.ptr id off) p = stX 1 σ id off p := stX_of Try.underlying37 cells37 p
theorem lda41 {σ : Sg} {id off : Nat} : loadPV Try.prog σ 41 (.ptr id off) = ldS σ id off := ldS_of Try.underlying41 rfl
theorem ela41 {σ : Sg} {es i off : Nat} {l : List PV} : loadPV Try.prog σ 41 (.eptr es l i off) = elS l i off := elS_of Try.underlying41 rfl
theorem sto41 {σ : Sg} {id off : Nat} {p : PV} : storePV Try.prog σ 41 (.ptr id off) p = stX 1 σ id off p := stX_of Try.underlying41 cells41 p
theorem ia41 {l : List PV} {own : Own} {k : IntKind} {i : Int} : indexAddrPV Try.prog 41 (.isl l own) (.int k i) = iaX 6 l i := iaX_of Try.underlying41 Try.underlying28 cells28 k i
theorem iam41 {id off len : Nat} {k : IntKind} {i : Int} : indexAddrPV Try.prog 41 (.msl id off len) (.int k i) = iaM 6 id off len i := iaM_of Try.underlying41 Try.underlying28 cells28 k len i
theorem len41 {l : List PV} {own : Own} : lenPV Try.prog 41 (.isl l own) = some (.int .i64 l.length) := len_of Try.underlying41
theorem lenm41 {id off n : Nat} : lenPV Try.prog 41 (.msl id off n) = some (.int .i64 n) := lenM_of Try.underlying41 n
theorem bs41 {len : Nat} {parts : List (Nat × PV)} : buildSlicePV Try.prog 41 len parts = bsX 6 len parts := bsX_of Try.underlying41 Try.underlying28 cells28 zero28 len parts
theorem app41 {σ : Sg} {l m : List PV} {own own' : Own} : appendPV Try.prog σ 41 41 (.isl l own) (.isl m own') = appX 6 112 σ l own m := appX_of Try.underlying41 Try.underlying28 cells28 bytes28 (by decide) (by decide) zero28 rfl
theorem lda43 {σ : Sg} {id off : Nat} : loadPV Try.prog σ 43 (.ptr id off) = ldS σ id off := ldS_of Try.underlying43 rfl
theorem ela43 {σ : Sg} {es i off : Nat} {l : List PV} : loadPV Try.prog σ 43 (.eptr es l i off) = elS l i off := elS_of Try.underlying43 rfl
theorem sto43 {σ : Sg} {id off : Nat} {p : PV} : storePV Try.prog σ 43 (.ptr id off) p = stX 1 σ id off p := stX_of Try.underlying43 cells43 p
theorem ia43 {l : List PV} {own : Own} {k : IntKind} {i : Int} : indexAddrPV Try.prog 43 (.isl l own) (.int k i) = iaX 1 l i := iaX_of Try.underlying43 Try.underlying29 cells29 k i
theorem iam43 {id off len : Nat} {k : IntKind} {i : Int} : indexAddrPV Try.prog 43 (.msl id off len) (.int k i) = iaM 1 id off len i := iaM_of Try.underlying43 Try.underlying29 cells29 k len i
theorem len43 {l : List PV} {own : Own} : lenPV Try.prog 43 (.isl l own) = some (.int .i64 l.length) := len_of Try.underlying43
theorem lenm43 {id off n : Nat} : lenPV Try.prog 43 (.msl id off n) = some (.int .i64 n) := lenM_of Try.underlying43 n
theorem bs43 {len : Nat} {parts : List (Nat × PV)} : buildSlicePV Try.prog 43 len parts = bsX 1 len parts := bsX_of Try.underlying43 Try.underlying29 cells29 zero29 len parts
theorem app43 {σ : Sg} {l m : List PV} {own own' : Own} : appendPV Try.prog σ 43 43 (.isl l own) (.isl m own') = appX 1 24 σ l own m := appX_of Try.underlying43 Try.underlying29 cells29 bytes29 (by decide) (by decide) zero29 rfl
theorem lda46 {σ : Sg} {id off : Nat} : loadPV Try.prog σ 46 (.ptr id off) = ldS σ id off := ldS_of Try.underlying46 rfl
theorem ela46 {σ : Sg} {es i off : Nat} {l : List PV} : loadPV Try.prog σ 46 (.eptr es l i off) = elS l i off := elS_of Try.underlying46 rfl
theorem sto46 {σ : Sg} {id off : Nat} {p : PV} : storePV Try.prog σ 46 (.ptr id off) p = stX 1 σ id off p := stX_of Try.underlying46 cells46 p
theorem lda54 {σ : Sg} {id off : Nat} : loadPV Try.prog σ 54 (.ptr id off) = ldS σ id off := ldS_of Try.underlying54 rfl
theorem ela54 {σ : Sg} {es i off : Nat} {l : List PV} : loadPV Try.prog σ 54 (.eptr es l i off) = elS l i off := elS_of Try.underlying54 rfl
theorem sto54 {σ : Sg} {id off : Nat} {p : PV} : storePV Try.prog σ 54 (.ptr id off) p = stX 1 σ id off p := stX_of Try.underlying54 cells54 p
theorem ia54 {l : List PV} {own : Own} {k : IntKind} {i : Int} : indexAddrPV Try.prog 54 (.isl l own) (.int k i) = iaX 1 l i := iaX_of Try.underlying54 Try.underlying46 cells46 k i
theorem iam54 {id off len : Nat} {k : IntKind} {i : Int} : indexAddrPV Try.prog 54 (.msl id off len) (.int k i) = iaM 1 id off len i := iaM_of Try.underlying54 Try.underlying46 cells46 k len i
theorem len54 {l : List PV} {own : Own} : lenPV Try.prog 54 (.isl l own) = some (.int .i64 l.length) := len_of Try.underlying54
theorem lenm54 {id off n : Nat} : lenPV Try.prog 54 (.msl id off n) = some (.int .i64 n) := lenM_of Try.underlying54 n
theorem bs54 {len : Nat} {parts : List (Nat × PV)} : buildSlicePV Try.prog 54 len parts = bsX 1 len parts := bsX_of Try.underlying54 Try.underlying46 cells46 zero46 len parts
theorem app54 {σ : Sg} {l m : List PV} {own own' : Own} : appendPV Try.prog σ 54 54 (.isl l own) (.isl m own') = appX 1 8 σ l own m := appX_of Try.underlying54 Try.underlying46 cells46 bytes46 (by decide) (by decide) zero46 rfl
theorem lda71 {σ : Sg} {id off : Nat} : loadPV Try.prog σ 71 (.ptr id off) = ldS σ id off := ldS_of Try.underlying71 rfl
theorem ela71 {σ : Sg} {es i off : Nat} {l : List PV} : loadPV Try.prog σ 71 (.eptr es l i off) = elS l i off := elS_of Try.underlying71 rfl
theorem sto71 {σ : Sg} {id off : Nat} {p : PV} : storePV Try.prog σ 71 (.ptr id off) p = stX 1 σ id off p := stX_of Try.underlying71 cells71 p
theorem ia71 {l : List PV} {own : Own} {k : IntKind} {i : Int} : indexAddrPV Try.prog 71 (.isl l own) (.int k i) = iaX 1 l i := iaX_of Try.underlying71 Try.underlying22 cells22 k i
theorem iam71 {id off len : Nat} {k : IntKind} {i : Int} : indexAddrPV Try.prog 71 (.msl id off len) (.int k i) = iaM 1 id off len i := iaM_of Try.underlying71 Try.underlying22 cells22 k len i
theorem len71 {l : List PV} {own : Own} : lenPV Try.prog 71 (.isl l own) = some (.int .i64 l.length) := len_of Try.underlying71
theorem lenm71 {id off n : Nat} : lenPV Try.prog 71 (.msl id off n) = some (.int .i64 n) := lenM_of Try.underlying71 n
theorem bs71 {len : Nat} {parts : List (Nat × PV)} : buildSlicePV Try.prog 71 len parts = bsX 1 len parts := bsX_of Try.underlying71 Try.underlying22 cells22 zero22 len parts
theorem app71 {σ : Sg} {l m : List PV} {own own' : Own} : appendPV Try.prog σ 71 71 (.isl l own) (.isl m own') = appX 1 24 σ l own m := appX_of Try.underlying71 Try.underlying22 cells22 bytes22 (by decide) (by decide) zero22 rfl
theorem lda75 {σ : Sg} {id off : Nat} : loadPV Try.prog σ 75 (.ptr id off) = ldA 2 σ id off := ldA_of Try.underlying75 rfl cells75
theorem ela75 {σ : Sg} {es i off : Nat} {l : List PV} : loadPV Try.prog σ 75 (.eptr es l i off) = elA 2 l i off := elA_of Try.underlying75 rfl cells75
theorem sto75 {σ : Sg} {id off : Nat} {p : PV} : storePV Try.prog σ 75 (.ptr id off) p = stX 2 σ id off p := stX_of Try.underlying75 cells75 p
theorem fa75_0 {id off : Nat} : fieldAddrPV Try.prog 75 (.ptr id off) 0 = some (.ptr id (off + 0)) := fa1_of Try.underlying75 (by rfl) (by exact Try.underlying3) (by exact cells3) (by rfl) (by rfl)
theorem fae75_0 {es i off : Nat} {l : List PV} : fieldAddrPV Try.prog 75 (.eptr es l i off) 0 = some (.eptr es l i (off + 0)) := fa2_of Try.underlying75 (by rfl) (by exact Try.underlying3) (by exact cells3) (by rfl) (by rfl)
theorem fp75_0 {cs : List PV} : fieldPV Try.prog 75 (.agg cs) 0 = cs[0]? := fpS_of Try.underlying75 (by rfl) (by exact Try.underlying3) (by rfl) (by rfl) cs
theorem fa75_1 {id off : Nat} : fieldAddrPV Try.prog 75 (.ptr id off) 1 = some (.ptr id (off + 1)) := fa1_of Try.underlying75 (by rfl) (by exact Try.underlying3) (by exact cells3) (by rfl) (by rfl)
theorem fae75_1 {es i off : Nat} {l : List PV} : fieldAddrPV Try.prog 75 (.eptr es l i off) 1 = some (.eptr es l i (off + 1)) := fa2_of Try.underlying75 (by rfl) (by exact Try.underlying3) (by exact cells3) (by rfl) (by rfl)
theorem fp75_1 {cs : List PV} : fieldPV Try.prog 75 (.agg cs) 1 = cs[1]? := fpS_of Try.underlying75 (by rfl) (by exact Try.underlying3) (by rfl) (by rfl) cs
theorem eqs75 {a0 a1 b0 b1 : Int} : eqPV Try.prog 75 (.agg [.int .i64 a0, .int .i64 a1]) (.agg [.int .i64 b0, .int .i64 b1]) = some ((a0 == b0) && ((a1 == b1) && true)) := by kernel_rfl
theorem bld75 {parts : List (Nat × PV)} : buildPV Try.prog 75 parts = bldX [.int .i64 0, .int .i64 0] [(0, 1), (1, 1)] parts := bldX_of zero75 Try.underlying75 (by kernel_rfl) (by kernel_rfl) parts
theorem lda76 {σ : Sg} {id off : Nat} : loadPV Try.prog σ 76 (.ptr id off) = ldA 2 σ id off := ldA_of Try.underlying76 rfl cells76
theorem ela76 {σ : Sg} {es i off : Nat} {l : List PV} : loadPV Try.prog σ 76 (.eptr es l i off) = elA 2 l i off := elA_of Try.underlying76 rfl cells76
theorem sto76 {σ : Sg} {id off : Nat} {p : PV} : storePV Try.prog σ 76 (.ptr id off) p = stX 2 σ id off p := stX_of Try.underlying76 cells76 p
theorem fa76_0 {id off : Nat} : fieldAddrPV Try.prog 76 (.ptr id off) 0 = some (.ptr id (off + 0)) := fa1_of Try.underlying76 (by rfl) (by exact Try.underlying3) (by exact cells3) (by rfl) (by rfl)
theorem fae76_0 {es i off : Nat} {l : List PV} : fieldAddrPV Try.prog 76 (.eptr es l i off) 0 = some (.eptr es l i (off + 0)) := fa2_of Try.underlying76 (by rfl) (by exact Try.underlying3) (by exact cells3) (by rfl) (by rfl)
theorem fp76_0 {cs : List PV} : fieldPV Try.prog 76 (.agg cs) 0 = cs[0]? := fpS_of Try.underlying76 (by rfl) (by exact Try.underlying3) (by rfl) (by rfl) cs
theorem fa76_1 {id off : Nat} : fieldAddrPV Try.prog 76 (.ptr id off) 1 = some (.ptr id (off + 1)) := fa1_of Try.underlying76 (by rfl) (by exact Try.underlying3) (by exact cells3) (by rfl) (by rfl)
theorem fae76_1 {es i off : Nat} {l : List PV} : fieldAddrPV Try.prog 76 (.eptr es l i off) 1 = some (.eptr es l i (off + 1)) := fa2_of Try.underlying76 (by rfl) (by exact Try.underlying3) (by exact cells3) (by rfl) (by rfl)
theorem fp76_1 {cs : List PV} : fieldPV Try.prog 76 (.agg cs) 1 = cs[1]? := fpS_of Try.underlying76 (by rfl) (by exact Try.underlying3) (by rfl) (by rfl) cs
theorem eqs76 {a0 a1 b0 b1 : Int} : eqPV Try.prog 76 (.agg [.int .i64 a0, .int .i64 a1]) (.agg [.int .i64 b0, .int .i64 b1]) = some ((a0 == b0) && ((a1 == b1) && true)) := by kernel_rfl
theorem bld76 {parts : List (Nat × PV)} : buildPV Try.prog 76 parts = bldX [.int .i64 0, .int .i64 0] [(0, 1), (1, 1)] parts := bldX_of zero76 Try.underlying76 (by kernel_rfl) (by kernel_rfl) parts
theorem lda85 {σ : Sg} {id off : Nat} : loadPV Try.prog σ 85 (.ptr id off) = ldA 7 σ id off := ldA_of Try.underlying85 rfl cells85
theorem ela85 {σ : Sg} {es i off : Nat} {l : List PV} : loadPV Try.prog σ 85 (.eptr es l i off) = elA 7 l i off := elA_of Try.underlying85 rfl cells85
theorem sto85 {σ : Sg} {id off : Nat} {p : PV} : storePV Try.prog σ 85 (.ptr id off) p = stX 7 σ id off p := stX_of Try.underlying85 cells85 p
theorem fa85_0 {id off : Nat} : fieldAddrPV Try.prog 85 (.ptr id off) 0 = some (.ptr id (off + 0)) := fa1_of Try.underlying85 (by rfl) (by exact Try.underlying31) (by exact cells31) (by rfl) (by rfl)
theorem fae85_0 {es i off : Nat} {l : List PV} : fieldAddrPV Try.prog 85 (.eptr es l i off) 0 = some (.eptr es l i (off + 0)) := fa2_of Try.underlying85 (by rfl) (by exact Try.underlying31) (by exact cells31) (by rfl) (by rfl)
theorem fp85_0 {cs : List PV} : fieldPV Try.prog 85 (.agg cs) 0 = if 0 + 2 ≤ cs.length then some (.agg ((cs.drop 0).take 2)) else none := fpA_of Try.underlying85 (by rfl) (by exact Try.underlying31) (by rfl) (by exact cells31) (by rfl) cs
theorem fa85_1 {id off : Nat} : fieldAddrPV Try.prog 85 (.ptr id off) 1 = some (.ptr id (off + 2)) := fa1_of Try.underlying85 (by rfl) (by exact Try.underlying31) (by exact cells31) (by rfl) (by rfl)
theorem fae85_1 {es i off : Nat} {l : List PV} : fieldAddrPV Try.prog 85 (.eptr es l i off) 1 = some (.eptr es l i (off + 2)) := fa2_of Try.underlying85 (by rfl) (by exact Try.underlying31) (by exact cells31) (by rfl) (by rfl)
theorem fp85_1 {cs : List PV} : fieldPV Try.prog 85 (.agg cs) 1 = if 2 + 2 ≤ cs.length then some (.agg ((cs.drop 2).take 2)) else none := fpA_of Try.underlying85 (by rfl) (by exact Try.underlying31) (by rfl) (by exact cells31) (by rfl) cs
theorem fa85_2 {id off : Nat} : fieldAddrPV Try.prog 85 (.ptr id off) 2 = some (.ptr id (off + 4)) := fa1_of Try.underlying85 (by rfl) (by exact Try.underlying3) (by exact cells3) (by rfl) (by rfl)
theorem fae85_2 {es i off : Nat} {l : List PV} : fieldAddrPV Try.prog 85 (.eptr es l i off) 2 = some (.eptr es l i (off + 4)) := fa2_of Try.underlying85 (by rfl) (by exact Try.underlying3) (by exact cells3) (by rfl) (by rfl)
theorem fp85_2 {cs : List PV} : fieldPV Try.prog 85 (.agg cs) 2 = cs[4]? := fpS_of Try.underlying85 (by rfl) (by exact Try.underlying3) (by rfl) (by rfl) cs
theorem fa85_3 {id off : Nat} : fieldAddrPV Try.prog 85 (.ptr id off) 3 = some (.ptr id (off + 5)) := fa1_of Try.underlying85 (by rfl) (by exact Try.underlying3) (by exact cells3) (by rfl) (by rfl)
theorem fae85_3 {es i off : Nat} {l : List PV} : fieldAddrPV Try.prog 85 (.eptr es l i off) 3 = some (.eptr es l i (off + 5)) := fa2_of Try.underlying85 (by rfl) (by exact Try.underlying3) (by exact cells3) (by rfl) (by rfl)
theorem fp85_3 {cs : List PV} : fieldPV Try.prog 85 (.agg cs) 3 = cs[5]? := fpS_of Try.underlying85 (by rfl) (by exact Try.underlying3) (by rfl) (by rfl) cs
theorem fa85_4 {id off : Nat} : fieldAddrPV Try.prog 85 (.ptr id off) 4 = some (.ptr id (off + 6)) := fa1_of Try.underlying85 (by rfl) (by exact Try.underlying22) (by exact cells22) (by rfl) (by rfl)
theorem fae85_4 {es i off : Nat} {l : List PV} : fieldAddrPV Try.prog 85 (.eptr es l i off) 4 = some (.eptr es l i (off + 6)) := fa2_of Try.underlying85 (by rfl) (by exact Try.underlying22) (by exact cells22) (by rfl) (by rfl)
theorem fp85_4 {cs : List PV} : fieldPV Try.prog 85 (.agg cs) 4 = cs[6]? := fpS_of Try.underlying85 (by rfl) (by exact Try.underlying22) (by rfl) (by rfl) cs
theorem bld85 {parts : List (Nat × PV)} : buildPV Try.prog 85 parts = bldX [.int .i64 0, .int .i64 0, .int .i64 0, .int .i64 0, .int .i64 0, .int .i64 0, .isl [] .exact] [(0, 2), (2, 2), (4, 1), (5, 1), (6, 1)] parts := bldX_of zero85 Try.underlying85 (by kernel_rfl) (by kernel_rfl) parts
theorem lda86 {σ : Sg} {id off : Nat} : loadPV Try.prog σ 86 (.ptr id off) = ldA 7 σ id off := ldA_of Try.underlying86 rfl cells86
theorem ela86 {σ : Sg} {es i off : Nat} {l : List PV} : loadPV Try.prog σ 86 (.eptr es l i off) = elA 7 l i off := elA_of Try.underlying86 rfl cells86
theorem sto86 {σ : Sg} {id off : Nat} {p : PV} : storePV Try.prog σ 86 (.ptr id off) p = stX 7 σ id off p := stX_of Try.underlying86 cells86 p
theorem fa86_0 {id off : Nat} : fieldAddrPV Try.prog 86 (.ptr id off) 0 = some (.ptr id (off + 0)) := fa1_of Try.underlying86 (by rfl) (by exact Try.underlying31) (by exact cells31) (by rfl) (by rfl)
theorem fae86_0 {es i off : Nat} {l : List PV} : fieldAddrPV Try.prog 86 (.eptr es l i off) 0 = some (.eptr es l i (off + 0)) := fa2_of Try.underlying86 (by rfl) (by exact Try.underlying31) (by exact cells31) (by rfl) (by rfl)
theorem fp86_0 {cs : List PV} : fieldPV Try.prog 86 (.agg cs) 0 = if 0 + 2 ≤ cs.length then some (.agg ((cs.drop 0).take 2)) else none := fpA_of Try.underlying86 (by rfl) (by exact Try.underlying31) (by rfl) (by exact cells31) (by rfl) cs
theorem fa86_1 {id off : Nat} : fieldAddrPV Try.prog 86 (.ptr id off) 1 = some (.ptr id (off + 2)) := fa1_of Try.underlying86 (by rfl) (by exact Try.underlying31) (by exact cells31) (by rfl) (by rfl)
theorem fae86_1 {es i off : Nat} {l : List PV} : fieldAddrPV Try.prog 86 (.eptr es l i off) 1 = some (.eptr es l i (off + 2)) := fa2_of Try.underlying86 (by rfl) (by exact Try.underlying31) (by exact cells31) (by rfl) (by rfl)
theorem fp86_1 {cs : List PV} : fieldPV Try.prog 86 (.agg cs) 1 = if 2 + 2 ≤ cs.length then some (.agg ((cs.drop 2).take 2)) else none := fpA_of Try.underlying86 (by rfl) (by exact Try.underlying31) (by rfl) (by exact cells31) (by rfl) cs
theorem fa86_2 {id off : Nat} : fieldAddrPV Try.prog 86 (.ptr id off) 2 = some (.ptr id (off + 4)) := fa1_of Try.underlying86 (by rfl) (by exact Try.underlying3) (by exact cells3) (by rfl) (by rfl)
theorem fae86_2 {es i off : Nat} {l : List PV} : fieldAddrPV Try.prog 86 (.eptr es l i off) 2 = some (.eptr es l i (off + 4)) := fa2_of Try.underlying86 (by rfl) (by exact Try.underlying3) (by exact cells3) (by rfl) (by rfl)
theorem fp86_2 {cs : List PV} : fieldPV Try.prog 86 (.agg cs) 2 = cs[4]? := fpS_of Try.underlying86 (by rfl) (by exact Try.underlying3) (by rfl) (by rfl) cs
theorem fa86_3 {id off : Nat} : fieldAddrPV Try.prog 86 (.ptr id off) 3 = some (.ptr id (off + 5)) := fa1_of Try.underlying86 (by rfl) (by exact Try.underlying3) (by exact cells3) (by rfl) (by rfl)
theorem fae86_3 {es i off : Nat} {l : List PV} : fieldAddrPV Try.prog 86 (.eptr es l i off) 3 = some (.eptr es l i (off + 5)) := fa2_of Try.underlying86 (by rfl) (by exact Try.underlying3) (by exact cells3) (by rfl) (by rfl)
theorem fp86_3 {cs : List PV} : fieldPV Try.prog 86 (.agg cs) 3 = cs[5]? := fpS_of Try.underlying86 (by rfl) (by exact Try.underlying3) (by rfl) (by rfl) cs
theorem fa86_4 {id off : Nat} : fieldAddrPV Try.prog 86 (.ptr id off) 4 = some (.ptr id (off + 6)) := fa1_of Try.underlying86 (by rfl) (by exact Try.underlying22) (by exact cells22) (by rfl) (by rfl)
theorem fae86_4 {es i off : Nat} {l : List PV} : fieldAddrPV Try.prog 86 (.eptr es l i off) 4 = some (.eptr es l i (off + 6)) := fa2_of Try.underlying86 (by rfl) (by exact Try.underlying22) (by exact cells22) (by rfl) (by rfl)
theorem fp86_4 {cs : List PV} : fieldPV Try.prog 86 (.agg cs) 4 = cs[6]? := fpS_of Try.underlying86 (by rfl) (by exact Try.underlying22) (by rfl) (by rfl) cs
theorem bld86 {parts : List (Nat × PV)} : buildPV Try.prog 86 parts = bldX [.int .i64 0, .int .i64 0, .int .i64 0, .int .i64 0, .int .i64 0, .int .i64 0, .isl [] .exact] [(0, 2), (2, 2), (4, 1), (5, 1), (6, 1)] parts := bldX_of zero86 Try.underlying86 (by kernel_rfl) (by kernel_rfl) parts
theorem lda90 {σ : Sg} {id off : Nat} : loadPV Try.prog σ 90 (.ptr id off) = ldS σ id off := ldS_of Try.underlying90 rfl
theorem ela90 {σ : Sg} {es i off : Nat} {l : List PV} : loadPV Try.prog σ 90 (.eptr es l i off) = elS l i off := elS_of Try.underlying90 rfl
theorem sto90 {σ : Sg} {id off : Nat} {p : PV} : storePV Try.prog σ 90 (.ptr id off) p = stX 1 σ id off p := stX_of Try.underlying90 cells90 p
theorem lda91 {σ : Sg} {id off : Nat} : loadPV Try.prog σ 91 (.ptr id off) = ldA 1 σ id off := ldA_of Try.underlying91 rfl cells91
theorem ela91 {σ : Sg} {es i off : Nat} {l : List PV} : loadPV Try.prog σ 91 (.eptr es l i off) = elA 1 l i off := elA_of Try.underlying91 rfl cells91
theorem sto91 {σ : Sg} {id off : Nat} {p : PV} : storePV Try.prog σ 91 (.ptr id off) p = stX 1 σ id off p := stX_of Try.underlying91 cells91 p
theorem fa91_0 {id off : Nat} : fieldAddrPV Try.prog 91 (.ptr id off) 0 = some (.ptr id (off + 0)) := fa1_of Try.underlying91 (by rfl) (by exact Try.underlying90) (by exact cells90) (by rfl) (by rfl)
theorem fae91_0 {es i off : Nat} {l : List PV} : fieldAddrPV Try.prog 91 (.eptr es l i off) 0 = some (.eptr es l i (off + 0)) := fa2_of Try.underlying91 (by rfl) (by exact Try.underlying90) (by exact cells90) (by rfl) (by rfl)
theorem fp91_0 {cs : List PV} : fieldPV Try.prog 91 (.agg cs) 0 = cs[0]? := fpS_of Try.underlying91 (by rfl) (by exact Try.underlying90) (by rfl) (by rfl) cs
theorem eqs91 {a0 b0 : Int} : eqPV Try.prog 91 (.agg [.int .u64 a0]) (.agg [.int .u64 b0]) = some ((a0 == b0) && true) := by kernel_rfl
theorem bld91 {parts : List (Nat × PV)} : buildPV Try.prog 91 parts = bldX [.int .u64 0] [(0, 1)] parts := bldX_of zero91 Try.underlying91 (by kernel_rfl) (by kernel_rfl) parts
theorem lda92 {σ : Sg} {id off : Nat} : loadPV Try.prog σ 92 (.ptr id off) = ldA 1 σ id off := ldA_of Try.underlying92 rfl cells92
theorem ela92 {σ : Sg} {es i off : Nat} {l : List PV} : loadPV Try.prog σ 92 (.eptr es l i off) = elA 1 l i off := elA_of Try.underlying92 rfl cells92
theorem sto92 {σ : Sg} {id off : Nat} {p : PV} : storePV Try.prog σ 92 (.ptr id off) p = stX 1 σ id off p := stX_of Try.underlying92 cells92 p
theorem fa92_0 {id off : Nat} : fieldAddrPV Try.prog 92 (.ptr id off) 0 = some (.ptr id (off + 0)) := fa1_of Try.underlying92 (by rfl) (by exact Try.underlying90) (by exact cells90) (by rfl) (by rfl)
theorem fae92_0 {es i off : Nat} {l : List PV} : fieldAddrPV Try.prog 92 (.eptr es l i off) 0 = some (.eptr es l i (off + 0)) := fa2_of Try.underlying92 (by rfl) (by exact Try.underlying90) (by exact cells90) (by rfl) (by rfl)
theorem fp92_0 {cs : List PV} : fieldPV Try.prog 92 (.agg cs) 0 = cs[0]? := fpS_of Try.underlying92 (by rfl) (by exact Try.underlying90) (by rfl) (by rfl) cs
theorem eqs92 {a0 b0 : Int} : eqPV Try.prog 92 (.agg [.int .u64 a0]) (.agg [.int .u64 b0]) = some ((a0 == b0) && true) := by kernel_rfl
theorem bld92 {parts : List (Nat × PV)} : buildPV Try.prog 92 parts = bldX [.int .u64 0] [(0, 1)] parts := bldX_of zero92 Try.underlying92 (by kernel_rfl) (by kernel_rfl) parts
theorem lda97 {σ : Sg} {id off : Nat} : loadPV Try.prog σ 97 (.ptr id off) = ldS σ id off := ldS_of Try.underlying97 rfl
theorem ela97 {σ : Sg} {es i off : Nat} {l : List PV} : loadPV Try.prog σ 97 (.eptr es l i off) = elS l i off := elS_of Try.underlying97 rfl
theorem sto97 {σ : Sg} {id off : Nat} {p : PV} : storePV Try.prog σ 97 (.ptr id off) p = stX 1 σ id off p := stX_of Try.underlying97 cells97 p
theorem lda105 {σ : Sg} {id off : Nat} : loadPV Try.prog σ 105 (.ptr id off) = ldA 13 σ id off := ldA_of Try.underlying105 rfl cells105
theorem ela105 {σ : Sg} {es i off : Nat} {l : List PV} : loadPV Try.prog σ 105 (.eptr es l i off) = elA 13 l i off := elA_of Try.underlying105 rfl cells105
theorem sto105 {σ : Sg} {id off : Nat} {p : PV} : storePV Try.prog σ 105 (.ptr id off) p = stX 13 σ id off p := stX_of Try.underlying105 cells105 p
theorem fa105_0 {id off : Nat} : fieldAddrPV Try.prog 105 (.ptr id off) 0 = some (.ptr id (off + 0)) := fa1_of Try.underlying105 (by rfl) (by exact Try.underlying28) (by exact cells28) (by rfl) (by rfl)
theorem fae105_0 {es i off : Nat} {l : List PV} : fieldAddrPV Try.prog 105 (.eptr es l i off) 0 = some (.eptr es l i (off + 0)) := fa2_of Try.underlying105 (by rfl) (by exact Try.underlying28) (by exact cells28) (by rfl) (by rfl)
theorem fp105_0 {cs : List PV} : fieldPV Try.prog 105 (.agg cs) 0 = if 0 + 6 ≤ cs.length then some (.agg ((cs.drop 0).take 6)) else none := fpA_of Try.underlying105 (by rfl) (by exact Try.underlying28) (by rfl) (by exact cells28) (by rfl) cs
theorem fa105_1 {id off : Nat} : fieldAddrPV Try.prog 105 (.ptr id off) 1 = some (.ptr id (off + 6)) := fa1_of Try.underlying105 (by rfl) (by exact Try.underlying29) (by exact cells29) (by rfl) (by rfl)
theorem fae105_1 {es i off : Nat} {l : List PV} : fieldAddrPV Try.prog 105 (.eptr es l i off) 1 = some (.eptr es l i (off + 6)) := fa2_of Try.underlying105 (by rfl) (by exact Try.underlying29) (by exact cells29) (by rfl) (by rfl)
theorem fp105_1 {cs : List PV} : fieldPV Try.prog 105 (.agg cs) 1 = cs[6]? := fpS_of Try.underlying105 (by rfl) (by exact Try.underlying29) (by rfl) (by rfl) cs
theorem fa105_2 {id off : Nat} : fieldAddrPV Try.prog 105 (.ptr id off) 2 = some (.ptr id (off + 7)) := fa1_of Try.underlying105 (by rfl) (by exact Try.underlying33) (by exact cells33) (by rfl) (by rfl)
theorem fae105_2 {es i off : Nat} {l : List PV} : fieldAddrPV Try.prog 105 (.eptr es l i off) 2 = some (.eptr es l i (off + 7)) := fa2_of Try.underlying105 (by rfl) (by exact Try.underlying33) (by exact cells33) (by rfl) (by rfl)
theorem fp105_2 {cs : List PV} : fieldPV Try.prog 105 (.agg cs) 2 = if 7 + 6 ≤ cs.length then some (.agg ((cs.drop 7).take 6)) else none := fpA_of Try.underlying105 (by rfl) (by exact Try.underlying33) (by rfl) (by exact cells33) (by rfl) cs
theorem bld105 {parts : List (Nat × PV)} : buildPV Try.prog 105 parts = bldX [.isl [] .exact, .isl [] .exact, .isl [] .exact, .int .i64 0, .int .i64 0, .isl [] .exact, .isl [] .exact, .int .i64 0, .isl [] .exact, .int .i64 0, .int .i64 0, .int .i64 0, .int .i64 0] [(0, 6), (6, 1), (7, 6)] parts := bldX_of zero105 Try.underlying105 (by kernel_rfl) (by kernel_rfl) parts
theorem lda106 {σ : Sg} {id off : Nat} : loadPV Try.prog σ 106 (.ptr id off) = ldA 13 σ id off := ldA_of Try.underlying106 rfl cells106
theorem ela106 {σ : Sg} {es i off : Nat} {l : List PV} : loadPV Try.prog σ 106 (.eptr es l i off) = elA 13 l i off := elA_of Try.underlying106 rfl cells106
theorem sto106 {σ : Sg} {id off : Nat} {p : PV} : storePV Try.prog σ 106 (.ptr id off) p = stX 13 σ id off p := stX_of Try.underlying106 cells106 p
theorem fa106_0 {id off : Nat} : fieldAddrPV Try.prog 106 (.ptr id off) 0 = some (.ptr id (off + 0)) := fa1_of Try.underlying106 (by rfl) (by exact Try.underlying28) (by exact cells28) (by rfl) (by rfl)
theorem fae106_0 {es i off : Nat} {l : List PV} : fieldAddrPV Try.prog 106 (.eptr es l i off) 0 = some (.eptr es l i (off + 0)) := fa2_of Try.underlying106 (by rfl) (by exact Try.underlying28) (by exact cells28) (by rfl) (by rfl)
theorem fp106_0 {cs : List PV} : fieldPV Try.prog 106 (.agg cs) 0 = if 0 + 6 ≤ cs.length then some (.agg ((cs.drop 0).take 6)) else none := fpA_of Try.underlying106 (by rfl) (by exact Try.underlying28) (by rfl) (by exact cells28) (by rfl) cs
theorem fa106_1 {id off : Nat} : fieldAddrPV Try.prog 106 (.ptr id off) 1 = some (.ptr id (off + 6)) := fa1_of Try.underlying106 (by rfl) (by exact Try.underlying29) (by exact cells29) (by rfl) (by rfl)
theorem fae106_1 {es i off : Nat} {l : List PV} : fieldAddrPV Try.prog 106 (.eptr es l i off) 1 = some (.eptr es l i (off + 6)) := fa2_of Try.underlying106 (by rfl) (by exact Try.underlying29) (by exact cells29) (by rfl) (by rfl)
theorem fp106_1 {cs : List PV} : fieldPV Try.prog 106 (.agg cs) 1 = cs[6]? := fpS_of Try.underlying106 (by rfl) (by exact Try.underlying29) (by rfl) (by rfl) cs
theorem fa106_2 {id off : Nat} : fieldAddrPV Try.prog 106 (.ptr id off) 2 = some (.ptr id (off + 7)) := fa1_of Try.underlying106 (by rfl) (by exact Try.underlying33) (by exact cells33) (by rfl) (by rfl)
theorem fae106_2 {es i off : Nat} {l : List PV} : fieldAddrPV Try.prog 106 (.eptr es l i off) 2 = some (.eptr es l i (off + 7)) := fa2_of Try.underlying106 (by rfl) (by exact Try.underlying33) (by exact cells33) (by rfl) (by rfl)
theorem fp106_2 {cs : List PV} : fieldPV Try.prog 106 (.agg cs) 2 = if 7 + 6 ≤ cs.length then some (.agg ((cs.drop 7).take 6)) else none := fpA_of Try.underlying106 (by rfl) (by exact Try.underlying33) (by rfl) (by exact cells33) (by rfl) cs
theorem bld106 {parts : List (Nat × PV)} : buildPV Try.prog 106 parts = bldX [.isl [] .exact, .isl [] .exact, .isl [] .exact, .int .i64 0, .int .i64 0, .isl [] .exact, .isl [] .exact, .int .i64 0, .isl [] .exact, .int .i64 0, .int .i64 0, .int .i64 0, .int .i64 0] [(0, 6), (6, 1), (7, 6)] parts := bldX_of zero106 Try.underlying106 (by kernel_rfl) (by kernel_rfl) parts
theorem lda107 {σ : Sg} {id off : Nat} : loadPV Try.prog σ 107 (.ptr id off) = ldS σ id off := ldS_of Try.underlying107 rfl
theorem ela107 {σ : Sg} {es i off : Nat} {l : List PV} : loadPV Try.prog σ 107 (.eptr es l i off) = elS l i off := elS_of Try.underlying107 rfl
theorem sto107 {σ : Sg} {id off : Nat} {p : PV} : storePV Try.prog σ 107 (.ptr id off) p = stX 1 σ id off p := stX_of Try.underlying107 cells107 p
theorem lda109 {σ : Sg} {id off : Nat} : loadPV Try.prog σ 109 (.ptr id off) = ldS σ id off := ldS_of Try.underlying109 rfl
theorem ela109 {σ : Sg} {es i off : Nat} {l : List PV} : loadPV Try.prog σ 109 (.eptr es l i off) = elS l i off := elS_of Try.underlying109 rfl
theorem sto109 {σ : Sg} {id off : Nat} {p : PV} : storePV Try.prog σ 109 (.ptr id off) p = stX 1 σ id off p := stX_of Try.underlying109 cells109 p
theorem lda114 {σ : Sg} {id off : Nat} : loadPV Try.prog σ 114 (.ptr id off) = ldS σ id off := ldS_of Try.underlying114 rfl
theorem ela114 {σ : Sg} {es i off : Nat} {l : List PV} : loadPV Try.prog σ 114 (.eptr es l i off) = elS l i off := elS_of Try.underlying114 rfl
theorem sto114 {σ : Sg} {id off : Nat} {p : PV} : storePV Try.prog σ 114 (.ptr id off) p = stX 1 σ id off p := stX_of Try.underlying114 cells114 p
theorem lda117 {σ : Sg} {id off : Nat} : loadPV Try.prog σ 117 (.ptr id off) = ldS σ id off := ldS_of Try.underlying117 rfl
theorem ela117 {σ : Sg} {es i off : Nat} {l : List PV} : loadPV Try.prog σ 117 (.eptr es l i off) = elS l i off := elS_of Try.underlying117 rfl
theorem sto117 {σ : Sg} {id off : Nat} {p : PV} : storePV Try.prog σ 117 (.ptr id off) p = stX 1 σ id off p := stX_of Try.underlying117 cells117 p
theorem ia117 {l : List PV} {own : Own} {k : IntKind} {i : Int} : indexAddrPV Try.prog 117 (.isl l own) (.int k i) = iaX 3 l i := iaX_of Try.underlying117 Try.underlying119 cells119 k i
theorem iam117 {id off len : Nat} {k : IntKind} {i : Int} : indexAddrPV Try.prog 117 (.msl id off len) (.int k i) = iaM 3 id off len i := iaM_of Try.underlying117 Try.underlying119 cells119 k len i
theorem len117 {l : List PV} {own : Own} : lenPV Try.prog 117 (.isl l own) = some (.int .i64 l.length) := len_of Try.underlying117
theorem lenm117 {id off n : Nat} : lenPV Try.prog 117 (.msl id off n) = some (.int .i64 n) := lenM_of Try.underlying117 n
theorem bs117 {len : Nat} {parts : List (Nat × PV)} : buildSlicePV Try.prog 117 len parts = bsX 3 len parts := bsX_of Try.underlying117 Try.underlying119 cells119 zero119 len parts
theorem app117 {σ : Sg} {l m : List PV} {own own' : Own} : appendPV Try.prog σ 117 117 (.isl l own) (.isl m own') = appX 3 24 σ l own m := appX_of Try.underlying117 Try.underlying119 cells119 bytes119 (by decide) (by decide) zero119 rfl
theorem lda118 {σ : Sg} {id off : Nat} : loadPV Try.prog σ 118 (.ptr id off) = ldA 3 σ id off := ldA_of Try.underlying118 rfl cells118
theorem ela118 {σ : Sg} {es i off : Nat} {l : List PV} : loadPV Try.prog σ 118 (.eptr es l i off) = elA 3 l i off := elA_of Try.underlying118 rfl cells118
theorem sto118 {σ : Sg} {id off : Nat} {p : PV} : storePV Try.prog σ 118 (.ptr id off) p = stX 3 σ id off p := stX_of Try.underlying118 cells118 p
theorem fa118_0 {id off : Nat} : fieldAddrPV Try.prog 118 (.ptr id off) 0 = some (.ptr id (off + 0)) := fa1_of Try.underlying118 (by rfl) (by exact Try.underlying31) (by exact cells31) (by rfl) (by rfl)
theorem fae118_0 {es i off : Nat} {l : List PV} : fieldAddrPV Try.prog 118 (.eptr es l i off) 0 = some (.eptr es l i (off + 0)) := fa2_of Try.underlying118 (by rfl) (by exact Try.underlying31) (by exact cells31) (by rfl) (by rfl)
theorem fp118_0 {cs : List PV} : fieldPV Try.prog 118 (.agg cs) 0 = if 0 + 2 ≤ cs.length then some (.agg ((cs.drop 0).take 2)) else none := fpA_of Try.underlying118 (by rfl) (by exact Try.underlying31) (by rfl) (by exact cells31) (by rfl) cs
theorem fa118_1 {id off : Nat} : fieldAddrPV Try.prog 118 (.ptr id off) 1 = some (.ptr id (off + 2)) := fa1_of Try.underlying118 (by rfl) (by exact Try.underlying3) (by exact cells3) (by rfl) (by rfl)
theorem fae118_1 {es i off : Nat} {l : List PV} : fieldAddrPV Try.prog 118 (.eptr es l i off) 1 = some (.eptr es l i (off + 2)) := fa2_of Try.underlying118 (by rfl) (by exact Try.underlying3) (by exact cells3) (by rfl) (by rfl)
theorem fp118_1 {cs : List PV} : fieldPV Try.prog 118 (.agg cs) 1 = cs[2]? := fpS_of Try.underlying118 (by rfl) (by exact Try.underlying3) (by rfl) (by rfl) cs
theorem bld118 {parts : List (Nat × PV)} : buildPV Try.prog 118 parts = bldX [.int .i64 0, .int .i64 0, .int .i64 0] [(0, 2), (2, 1)] parts := bldX_of zero118 Try.underlying118 (by kernel_rfl) (by kernel_rfl) parts
theorem lda119 {σ : Sg} {id off : Nat} : loadPV Try.prog σ 119 (.ptr id off) = ldA 3 σ id off := ldA_of Try.underlying119 rfl cells119
theorem ela119 {σ : Sg} {es i off : Nat} {l : List PV} : loadPV Try.prog σ 119 (.eptr es l i off) = elA 3 l i off := elA_of Try.underlying119 rfl cells119
theorem sto119 {σ : Sg} {id off : Nat} {p : PV} : storePV Try.prog σ 119 (.ptr id off) p = stX 3 σ id off p := stX_of Try.underlying119 cells119 p
theorem fa119_0 {id off : Nat} : fieldAddrPV Try.prog 119 (.ptr id off) 0 = some (.ptr id (off + 0)) := fa1_of Try.underlying119 (by rfl) (by exact Try.underlying31) (by exact cells31) (by rfl) (by rfl)
theorem fae119_0 {es i off : Nat} {l : List PV} : fieldAddrPV Try.prog 119 (.eptr es l i off) 0 = some (.eptr es l i (off + 0)) := fa2_of Try.underlying119 (by rfl) (by exact Try.underlying31) (by exact cells31) (by rfl) (by rfl)
theorem fp119_0 {cs : List PV} : fieldPV Try.prog 119 (.agg cs) 0 = if 0 + 2 ≤ cs.length then some (.agg ((cs.drop 0).take 2)) else none := fpA_of Try.underlying119 (by rfl) (by exact Try.underlying31) (by rfl) (by exact cells31) (by rfl) cs
theorem fa119_1 {id off : Nat} : fieldAddrPV Try.prog 119 (.ptr id off) 1 = some (.ptr id (off + 2)) := fa1_of Try.underlying119 (by rfl) (by exact Try.underlying3) (by exact cells3) (by rfl) (by rfl)
theorem fae119_1 {es i off : Nat} {l : List PV} : fieldAddrPV Try.prog 119 (.eptr es l i off) 1 = some (.eptr es l i (off + 2)) := fa2_of Try.underlying119 (by rfl) (by exact Try.underlying3) (by exact cells3) (by rfl) (by rfl)
theorem fp119_1 {cs : List PV} : fieldPV Try.prog 119 (.agg cs) 1 = cs[2]? := fpS_of Try.underlying119 (by rfl) (by exact Try.underlying3) (by rfl) (by rfl) cs
theorem bld119 {parts : List (Nat × PV)} : buildPV Try.prog 119 parts = bldX [.int .i64 0, .int .i64 0, .int .i64 0] [(0, 2), (2, 1)] parts := bldX_of zero119 Try.underlying119 (by kernel_rfl) (by kernel_rfl) parts
theorem lda123 {σ : Sg} {id off : Nat} : loadPV Try.prog σ 123 (.ptr id off) = ldS σ id off := ldS_of Try.underlying123 rfl
theorem ela123 {σ : Sg} {es i off : Nat} {l : List PV} : loadPV Try.prog σ 123 (.eptr es l i off) = elS l i off := elS_of Try.underlying123 rfl
theorem sto123 {σ : Sg} {id off : Nat} {p : PV} : storePV Try.prog σ 123 (.ptr id off) p = stX 1 σ id off p := stX_of Try.underlying123 cells123 p
theorem ia123 {l : List PV} {own : Own} {k : IntKind} {i : Int} : indexAddrPV Try.prog 123 (.isl l own) (.int k i) = iaX 1 l i := iaX_of Try.underlying123 Try.underlying4 cells4 k i
theorem iam123 {id off len : Nat} {k : IntKind} {i : Int} : indexAddrPV Try.prog 123 (.msl id off len) (.int k i) = iaM 1 id off len i := iaM_of Try.underlying123 Try.underlying4 cells4 k len i
theorem len123 {l : List PV} {own : Own} : lenPV Try.prog 123 (.isl l own) = some (.int .i64 l.length) := len_of Try.underlying123
theorem lenm123 {id off n : Nat} : lenPV Try.prog 123 (.msl id off n) = some (.int .i64 n) := lenM_of Try.underlying123 n
theorem bs123 {len : Nat} {parts : List (Nat × PV)} : buildSlicePV Try.prog 123 len parts = bsX 1 len parts := bsX_of Try.underlying123 Try.underlying4 cells4 zero4 len parts
theorem app123 {σ : Sg} {l m : List PV} {own own' : Own} : appendPV Try.prog σ 123 123 (.isl l own) (.isl m own') = appX 1 1 σ l own m := appX_of Try.underlying123 Try.underlying4 cells4 bytes4 (by decide) (by decide) zero4 rfl
theorem lda129 {σ : Sg} {id off : Nat} : loadPV Try.prog σ 129 (.ptr id off) = ldA 720 σ id off := ldA_of Try.underlying129 rfl cells129
theorem ela129 {σ : Sg} {es i off : Nat} {l : List PV} : loadPV Try.prog σ 129 (.eptr es l i off) = elA 720 l i off := elA_of Try.underlying129 rfl cells129
theorem sto129 {σ : Sg} {id off : Nat} {p : PV} : storePV Try.prog σ 129 (.ptr id off) p = stX 720 σ id off p := stX_of Try.underlying129 cells129 p
theorem iar129 {id off : Nat} {k : IntKind} {i : Int} : indexAddrPV Try.prog 129 (.ptr id off) (.int k i) = iaM 1 id off 720 i := iaA_of Try.underlying129 Try.underlying4 cells4 k i
theorem ix129 {cs : List PV} {k : IntKind} {i : Int} : indexPV Try.prog 129 (.agg cs) (.int k i) = if 0 ≤ i ∧ i < (720 : Int) then cs[i.toNat]? else none := ixS_of Try.underlying129 Try.underlying4 rfl cells4 k i
theorem lda130 {σ : Sg} {id off : Nat} : loadPV Try.prog σ 130 (.ptr id off) = ldA 720 σ id off := ldA_of Try.underlying130 rfl cells130
theorem ela130 {σ : Sg} {es i off : Nat} {l : List PV} : loadPV Try.prog σ 130 (.eptr es l i off) = elA 720 l i off := elA_of Try.underlying130 rfl cells130
theorem sto130 {σ : Sg} {id off : Nat} {p : PV} : storePV Try.prog σ 130 (.ptr id off) p = stX 720 σ id off p := stX_of Try.underlying130 cells130 p
theorem iar130 {id off : Nat} {k : IntKind} {i : Int} : indexAddrPV Try.prog 130 (.ptr id off) (.int k i) = iaM 1 id off 720 i := iaA_of Try.underlying130 Try.underlying4 cells4 k i
theorem ix130 {cs : List PV} {k : IntKind} {i : Int} : indexPV Try.prog 130 (.agg cs) (.int k i) = if 0 ≤ i ∧ i < (720 : Int) then cs[i.toNat]? else none := ixS_of Try.underlying130 Try.underlying4 rfl cells4 k i
theorem lda137 {σ : Sg} {id off : Nat} : loadPV Try.prog σ 137 (.ptr id off) = ldS σ id off := ldS_of Try.underlying137 rfl
theorem ela137 {σ : Sg} {es i off : Nat} {l : List PV} : loadPV Try.prog σ 137 (.eptr es l i off) = elS l i off := elS_of Try.underlying137 rfl
theorem sto137 {σ : Sg} {id off : Nat} {p : PV} : storePV Try.prog σ 137 (.ptr id off) p = stX 1 σ id off p := stX_of Try.underlying137 cells137 p
theorem lda150 {σ : Sg} {id off : Nat} : loadPV Try.prog σ 150 (.ptr id off) = ldS σ id off := ldS_of Try.underlying150 rfl
theorem ela150 {σ : Sg} {es i off : Nat} {l : List PV} : loadPV Try.prog σ 150 (.eptr es l i off) = elS l i off := elS_of Try.underlying150 rfl
theorem sto150 {σ : Sg} {id off : Nat} {p : PV} : storePV Try.prog σ 150 (.ptr id off) p = stX 1 σ id off p := stX_of Try.underlying150 cells150 p
theorem ia150 {l : List PV} {own : Own} {k : IntKind} {i : Int} : indexAddrPV Try.prog 150 (.isl l own) (.int k i) = iaX 1 l i := iaX_of Try.underlying150 Try.underlying107 cells107 k i
theorem iam150 {id off len : Nat} {k : IntKind} {i : Int} : indexAddrPV Try.prog 150 (.msl id off len) (.int k i) = iaM 1 id off len i := iaM_of Try.underlying150 Try.underlying107 cells107 k len i
theorem len150 {l : List PV} {own : Own} : lenPV Try.prog 150 (.isl l own) = some (.int .i64 l.length) := len_of Try.underlying150
theorem lenm150 {id off n : Nat} : lenPV Try.prog 150 (.msl id off n) = some (.int .i64 n) := lenM_of Try.underlying150 n
theorem bs150 {len : Nat} {parts : List (Nat × PV)} : buildSlicePV Try.prog 150 len parts = bsX 1 len parts := bsX_of Try.underlying150 Try.underlying107 cells107 zero107 len parts
theorem app150 {σ : Sg} {l m : List PV} {own own' : Own} : appendPV Try.prog σ 150 150 (.isl l own) (.isl m own') = appX 1 8 σ l own m := appX_of Try.underlying150 Try.underlying107 cells107 bytes107 (by decide) (by decide) zero107 rfl
theorem lda152 {σ : Sg} {id off : Nat} : loadPV Try.prog σ 152 (.ptr id off) = ldS σ id off := ldS_of Try.underlying152 rfl
theorem ela152 {σ : Sg} {es i off : Nat} {l : List PV} : loadPV Try.prog σ 152 (.eptr es l i off) = elS l i off := elS_of Try.underlying152 rfl
theorem sto152 {σ : Sg} {id off : Nat} {p : PV} : storePV Try.prog σ 152 (.ptr id off) p = stX 1 σ id off p := stX_of Try.underlying152 cells152 p
theorem lda160 {σ : Sg} {id off : Nat} : loadPV Try.prog σ 160 (.ptr id off) = ldS σ id off := ldS_of Try.underlying160 rfl
theorem ela160 {σ : Sg} {es i off : Nat} {l : List PV} : loadPV Try.prog σ 160 (.eptr es l i off) = elS l i off := elS_of Try.underlying160 rfl
theorem sto160 {σ : Sg} {id off : Nat} {p : PV} : storePV Try.prog σ 160 (.ptr id off) p = stX 1 σ id off p := stX_of Try.underlying160 cells160 p
theorem lda163 {σ : Sg} {id off : Nat} : loadPV Try.prog σ 163 (.ptr id off) = ldS σ id off := ldS_of Try.underlying163 rfl
theorem ela163 {σ : Sg} {es i off : Nat} {l : List PV} : loadPV Try.prog σ 163 (.eptr es l i off) = elS l i off := elS_of Try.underlying163 rfl
theorem sto163 {σ : Sg} {id off : Nat} {p : PV} : storePV Try.prog σ 163 (.ptr id off) p = stX 1 σ id off p := stX_of Try.underlying163 cells163 p
theorem lda166 {σ : Sg} {id off : Nat} : loadPV Try.prog σ 166 (.ptr id off) = ldS σ id off := ldS_of Try.underlying166 rfl
theorem ela166 {σ : Sg} {es i off : Nat} {l : List PV} : loadPV Try.prog σ 166 (.eptr es l i off) = elS l i off := elS_of Try.underlying166 rfl
theorem sto166 {σ : Sg} {id off : Nat} {p : PV} : storePV Try.prog σ 166 (.ptr id off) p = stX 1 σ id off p := stX_of Try.underlying166 cells166 p
theorem lda168 {σ : Sg} {id off : Nat} : loadPV Try.prog σ 168 (.ptr id off) = ldS σ id off := ldS_of Try.underlying168 rfl
theorem ela168 {σ : Sg} {es i off : Nat} {l : List PV} : loadPV Try.prog σ 168 (.eptr es l i off) = elS l i off := elS_of Try.underlying168 rfl
theorem sto168 {σ : Sg} {id off : Nat} {p : PV} : storePV Try.prog σ 168 (.ptr id off) p = stX 1 σ id off p := stX_of Try.underlying168 cells168 p
theorem lda171 {σ : Sg} {id off : Nat} : loadPV Try.prog σ 171 (.ptr id off) = ldA 4 σ id off := ldA_of Try.underlying171 rfl cells171
theorem ela171 {σ : Sg} {es i off : Nat} {l : List PV} : loadPV Try.prog σ 171 (.eptr es l i off) = elA 4 l i off := elA_of Try.underlying171 rfl cells171
theorem sto171 {σ : Sg} {id off : Nat} {p : PV} : storePV Try.prog σ 171 (.ptr id off) p = stX 4 σ id off p := stX_of Try.underlying171 cells171 p
theorem fa171_3 {id off : Nat} : fieldAddrPV Try.prog 171 (.ptr id off) 3 = some (.ptr id (off + 3)) := fa1_of Try.underlying171 (by rfl) (by exact Try.underlying9) (by exact cells9) (by rfl) (by rfl)
theorem fae171_3 {es i off : Nat} {l : List PV} : fieldAddrPV Try.prog 171 (.eptr es l i off) 3 = some (.eptr es l i (off + 3)) := fa2_of Try.underlying171 (by rfl) (by exact Try.underlying9) (by exact cells9) (by rfl) (by rfl)
theorem fp171_3 {cs : List PV} : fieldPV Try.prog 171 (.agg cs) 3 = cs[3]? := fpS_of Try.underlying171 (by rfl) (by exact Try.underlying9) (by rfl) (by rfl) cs
theorem lda172 {σ : Sg} {id off : Nat} : loadPV Try.prog σ 172 (.ptr id off) = ldA 4 σ id off := ldA_of Try.underlying172 rfl cells172
theorem ela172 {σ : Sg} {es i off : Nat} {l : List PV} : loadPV Try.prog σ 172 (.eptr es l i off) = elA 4 l i off := elA_of Try.underlying172 rfl cells172
theorem sto172 {σ : Sg} {id off : Nat} {p : PV} : storePV Try.prog σ 172 (.ptr id off) p = stX 4 σ id off p := stX_of Try.underlying172 cells172 p
theorem fa172_3 {id off : Nat} : fieldAddrPV Try.prog 172 (.ptr id off) 3 = some (.ptr id (off + 3)) := fa1_of Try.underlying172 (by rfl) (by exact Try.underlying9) (by exact cells9) (by rfl) (by rfl)
theorem fae172_3 {es i off : Nat} {l : List PV} : fieldAddrPV Try.prog 172 (.eptr es l i off) 3 = some (.eptr es l i (off + 3)) := fa2_of Try.underlying172 (by rfl) (by exact Try.underlying9) (by exact cells9) (by rfl) (by rfl)
theorem fp172_3 {cs : List PV} : fieldPV Try.prog 172 (.agg cs) 3 = cs[3]? := fpS_of Try.underlying172 (by rfl) (by exact Try.underlying9) (by rfl) (by rfl) cs
theorem lda173 {σ : Sg} {id off : Nat} : loadPV Try.prog σ 173 (.ptr id off) = ldA 0 σ id off := ldA_of Try.underlying173 rfl cells173
theorem ela173 {σ : Sg} {es i off : Nat} {l : List PV} : loadPV Try.prog σ 173 (.eptr es l i off) = elA 0 l i off := elA_of Try.underlying173 rfl cells173
theorem sto173 {σ : Sg} {id off : Nat} {p : PV} : storePV Try.prog σ 173 (.ptr id off) p = stX 0 σ id off p := stX_of Try.underlying173 cells173 p
theorem lda174 {σ : Sg} {id off : Nat} : loadPV Try.prog σ 174 (.ptr id off) = ldA 0 σ id off := ldA_of Try.underlying174 rfl cells174
theorem ela174 {σ : Sg} {es i off : Nat} {l : List PV} : loadPV Try.prog σ 174 (.eptr es l i off) = elA 0 l i off := elA_of Try.underlying174 rfl cells174
theorem sto174 {σ : Sg} {id off : Nat} {p : PV} : storePV Try.prog σ 174 (.ptr id off) p = stX 0 σ id off p := stX_of Try.underlying174 cells174 p
theorem lda175 {σ : Sg} {id off : Nat} : loadPV Try.prog σ 175 (.ptr id off) = ldA 0 σ id off := ldA_of Try.underlying175 rfl cells175
theorem ela175 {σ : Sg} {es i off : Nat} {l : List PV} : loadPV Try.prog σ 175 (.eptr es l i off) = elA 0 l i off := elA_of Try.underlying175 rfl cells175
theorem sto175 {σ : Sg} {id off : Nat} {p : PV} : storePV Try.prog σ 175 (.ptr id off) p = stX 0 σ id off p := stX_of Try.underlying175 cells175 p
theorem lda177 {σ : Sg} {id off : Nat} : loadPV Try.prog σ 177 (.ptr id off) = ldS σ id off := ldS_of Try.underlying177 rfl
theorem ela177 {σ : Sg} {es i off : Nat} {l : List PV} : loadPV Try.prog σ 177 (.eptr es l i off) = elS l i off := elS_of Try.underlying177 rfl
theorem sto177 {σ : Sg} {id off : Nat} {p : PV} : storePV Try.prog σ 177 (.ptr id off) p = stX 1 σ id off p := stX_of Try.underlying177 cells177 p
theorem lda178 {σ : Sg} {id off : Nat} : loadPV Try.prog σ 178 (.ptr id off) = ldS σ id off := ldS_of Try.underlying178 rfl
theorem ela178 {σ : Sg} {es i off : Nat} {l : List PV} : loadPV Try.prog σ 178 (.eptr es l i off) = elS l i off := elS_of Try.underlying178 rfl
theorem sto178 {σ : Sg} {id off : Nat} {p : PV} : storePV Try.prog σ 178 (.ptr id off) p = stX 1 σ id off p := stX_of Try.underlying178 cells178 p
attribute [go_sem] lda2 ela2 sto2 lda3 ela3 sto3 lda4 ela4 sto4 lda5 ela5 sto5 lda9 ela9 sto9 lda22 ela22 sto22 ia22 iam22 len22 lenm22 bs22 app22 lda23 ela23 sto23 ia23 iam23 len23 lenm23 bs23 app23 lda24 ela24 sto24 ia24 iam24 len24 lenm24 bs24 app24 lda25 ela25 sto25 fa25_0 fae25_0 fp25_0 fa25_1 fae25_1 fp25_1 fa25_2 fae25_2 fp25_2 fa25_3 fae25_3 fp25_3 bld25 lda26 ela26 sto26 fa26_0 fae26_0 fp26_0 fa26_1 fae26_1 fp26_1 fa26_2 fae26_2 fp26_2 fa26_3 fae26_3 fp26_3 bld26 lda27 ela27 sto27 fa27_0 fae27_0 fp27_0 fa27_1 fae27_1 fp27_1 fa27_2 fae27_2 fp27_2 bld27 lda28 ela28 sto28 fa28_0 fae28_0 fp28_0 fa28_1 fae28_1 fp28_1 fa28_2 fae28_2 fp28_2 bld28 lda29 ela29 sto29 ia29 iam29 len29 lenm29 bs29 app29 lda30 ela30 sto30 fa30_0 fae30_0 fp30_0 fa30_1 fae30_1 fp30_1 eqs30 bld30 lda31 ela31 sto31 fa31_0 fae31_0 fp31_0 fa31_1 fae31_1 fp31_1 eqs31 bld31 lda32 ela32 sto32 fa32_0 fae32_0 fp32_0 fa32_1 fae32_1 fp32_1 fa32_2 fae32_2 fp32_2 fa32_3 fae32_3 fp32_3 fa32_4 fae32_4 fp32_4 bld32 lda33 ela33 sto33 fa33_0 fae33_0 fp33_0 fa33_1 fae33_1 fp33_1 fa33_2 fae33_2 fp33_2 fa33_3 fae33_3 fp33_3 fa33_4 fae33_4 fp33_4 bld33 lda37 ela37 sto37 lda41 ela41 sto41 ia41 iam41 len41 lenm41 bs41 app41 lda43 ela43 sto43 ia43 iam43 len43 lenm43 bs43 app43 lda46 ela46 sto46 lda54 ela54 sto54 ia54 iam54 len54 lenm54 bs54 app54 lda71 ela71 sto71 ia71 iam71 len71 lenm71 bs71 app71 lda75 ela75 sto75 fa75_0 fae75_0 fp75_0 fa75_1 fae75_1 fp75_1 eqs75 bld75 lda76 ela76 sto76 fa76_0 fae76_0 fp76_0 fa76_1 fae76_1 fp76_1 eqs76 bld76 lda85 ela85 sto85 fa85_0 fae85_0 fp85_0 fa85_1 fae85_1 fp85_1 fa85_2 fae85_2 fp85_2 fa85_3 fae85_3 fp85_3 fa85_4 fae85_4 fp85_4 bld85 lda86 ela86 sto86 fa86_0 fae86_0 fp86_0 fa86_1 fae86_1 fp86_1 fa86_2 fae86_2 fp86_2 fa86_3 fae86_3 fp86_3 fa86_4 fae86_4 fp86_4 bld86 lda90 ela90 sto90 lda91 ela91 sto91 fa91_0 fae91_0 fp91_0 eqs91 bld91 lda92 ela92 sto92 fa92_0 fae92_0 fp92_0 eqs92 bld92 lda97 ela97 sto97 lda105 ela105 sto105 fa105_0 fae105_0 fp105_0 fa105_1 fae105_1 fp105_1 fa105_2 fae105_2 fp105_2 bld105 lda106 ela106 sto106 fa106_0 fae106_0 fp106_0 fa106_1 fae106_1 fp106_1 fa106_2 fae106_2 fp106_2 bld106 lda107 ela107 sto107 lda109 ela109 sto109 lda114 ela114 sto114 lda117 ela117 sto117 ia117 iam117 len117 lenm117 bs117 app117 lda118 ela118 sto118 fa118_0 fae118_0 fp118_0 fa118_1 fae118_1 fp118_1 bld118 lda119 ela119 sto119 fa119_0 fae119_0 fp119_0 fa119_1 fae119_1 fp119_1 bld119 lda123 ela123 sto123 ia123 iam123 len123 lenm123 bs123 app123 lda129 ela129 sto129 iar129 ix129 lda130 ela130 sto130 iar130 ix130 lda137 ela137 sto137 lda150 ela150 sto150 ia150 iam150 len150 lenm150 bs150 app150 lda152 ela152 sto152 lda160 ela160 sto160 lda163 ela163 sto163 lda166 ela166 sto166 lda168 ela168 sto168 lda171 ela171 sto171 fa171_3 fae171_3 fp171_3 lda172 ela172 sto172 fa172_3 fae172_3 fp172_3 lda173 ela173 sto173 lda174 ela174 sto174 lda175 ela175 sto175 lda177 ela177 sto177 lda178 ela178 sto178 zero2 zero3 zero4 zero5 zero9 zero22 zero23 zero24 zero25 zero26 zero27 zero28 zero29 zero30 zero31 zero32 zero33 zero37 zero41 zero43 zero46 zero54 zero71 zero75 zero76 zero85 zero86 zero90 zero91 zero92 zero97 zero105 zero106 zero107 zero109 zero114 zero117 zero118 zero119 zero123 zero137 zero150 zero152 zero160 zero163 zero166 zero168 zero171 zero172 zero173 zero174 zero175 zero177 zero178
end Go.Proofs.Ytnpamcpoaklgeaa

namespace Go.Proofs.Ytnpamcpoaklgeaa
open Go Go.RowKit

theorem seqN {K : Env → Sg → Prop} {Q : Exit → Env → Sg → Prop} {E : Env} {σ : Sg} : Seq K Q .normal E σ = K E σ := rfl
theorem seqR {K : Env → Sg → Prop} {Q : Exit → Env → Sg → Prop} {E : Env} {σ : Sg} : Seq K Q .ret E σ = Q .ret E σ := rfl
theorem seqX {K : Env → Sg → Prop} {Q : Exit → Env → Sg → Prop} {E : Env} {σ : Sg} {i : Nat} : Seq K Q (.exit i) E σ = Q (.exit i) E σ := rfl
theorem blkN {i : Nat} {Q : Exit → Env → Sg → Prop} {E : Env} {σ : Sg} : InBlock i Q .normal E σ = Q .normal E σ := rfl
theorem blkR {i : Nat} {Q : Exit → Env → Sg → Prop} {E : Env} {σ : Sg} : InBlock i Q .ret E σ = Q .ret E σ := rfl
theorem blkX {i j : Nat} {Q : Exit → Env → Sg → Prop} {E : Env} {σ : Sg} : InBlock i Q (.exit j) E σ = if j = i then Q .normal E σ else Q (.exit j) E σ := rfl
theorem range0 : List.range 0 = [] := rfl
theorem range1 : List.range 1 = [0] := rfl
theorem range2 : List.range 2 = [0, 1] := rfl
theorem range3 : List.range 3 = [0, 1, 2] := rfl
theorem range4 : List.range 4 = [0, 1, 2, 3] := rfl
theorem range5 : List.range 5 = [0, 1, 2, 3, 4] := rfl
theorem range6 : List.range 6 = [0, 1, 2, 3, 4, 5] := rfl
theorem range7 : List.range 7 = [0, 1, 2, 3, 4, 5, 6] := rfl
theorem range8 : List.range 8 = [0, 1, 2, 3, 4, 5, 6, 7] := rfl
theorem range9 : List.range 9 = [0, 1, 2, 3, 4, 5, 6, 7, 8] := rfl
theorem range10 : List.range 10 = [0, 1, 2, 3, 4, 5, 6, 7, 8, 9] := rfl
theorem range11 : List.range 11 = [0, 1, 2, 3, 4, 5, 6, 7, 8, 9, 10] := rfl
theorem range12 : List.range 12 = [0, 1, 2, 3, 4, 5, 6, 7, 8, 9, 10, 11] := rfl
theorem range13 : List.range 13 = [0, 1, 2, 3, 4, 5, 6, 7, 8, 9, 10, 11, 12] := rfl
theorem range14 : List.range 14 = [0, 1, 2, 3, 4, 5, 6, 7, 8, 9, 10, 11, 12, 13] := rfl
theorem range15 : List.range 15 = [0, 1, 2, 3, 4, 5, 6, 7, 8, 9, 10, 11, 12, 13, 14] := rfl
theorem range16 : List.range 16 = [0, 1, 2, 3, 4, 5, 6, 7, 8, 9, 10, 11, 12, 13, 14, 15] := rfl
attribute [go_sem] range0 range1 range2 range3 range4 range5 range6 range7 range8 range9 range10 range11 range12 range13 range14 range15 range16
attribute [go_sem low] Sg.push_new Sg.pushRoom_new Sg.pushY_new
attribute [go_sem] Sg.ext_ext
attribute [go_sem] seqN seqR seqX blkN blkR blkX
attribute [go_sem] GL GD GWant_true GWant_false GOpt_some GWho_nobody GWho_fn GWho_yield GOr_true wantedPV whom effOp pureOp ev constPV constPV0 Option.map Option.bind decide_false ite_true ite_false eq_self gt_iff_lt ge_iff_le Env.put Env.get dstOK Nat.reduceLT decide_true Nat.reduceEqDiff
  argsEnv Nat.reduceAdd binPV bin arith isShift pickPV keep List.map Bool.true_and Bool.and_true reduceIte List.getElem?_toArray List.getElem?_cons_succ List.getElem?_cons_zero beq_true beq_false Bool.not_true Bool.not_false Bool.false_eq_true true_and and_true
  undefs Dem Option.map_some Option.map_none builtinPV foldMax foldMin unPV extractPV oneOr
  Sg.push_ext Sg.pushRoom_ext Sg.len_ext Sg.rooms_ext Sg.ys_ext Sg.pushY_ext Sg.ysget_ext Sg.ysget_ext0 Sg.setY_ext Sg.setY_ext0 Sg.popY_ext Sg.popY_ext0 ldS_ext ldS_ext0 ldA_ext ldA_ext0 stX_ext stX_ext0
  List.cons_append List.nil_append List.length_cons List.length_nil Nat.zero_add Nat.add_zero List.set_cons_zero List.set_cons_succ
  PV.cells_agg PV.cells_int PV.cells_bool PV.cells_str PV.cells_isl PV.cells_nilsl PV.cells_func PV.cells_ptr PV.cells_undef
  defd PV.scalar List.all_cons List.all_nil BEq.rfl Nat.le_refl Nat.reduceLeDiff putCells fillPV List.take_succ_cons List.take_zero List.drop_succ_cons List.drop_zero and_self
  Nat.reduceMul Nat.reducePow Nat.lt_add_one Nat.reduceBEq List.length_map List.take_nil List.drop_nil
end Go.Proofs.Ytnpamcpoaklgeaa

namespace Go.Proofs.Ytnpamcpoaklgeaa
open Go Go.RowKit

theorem appg22 {σ : Sg} {x : PV} {m : List PV} {own : Own} : appendG Try.prog σ 22 22 x (.isl m own) = appG 1 8 σ x m := appG_of Try.underlying22 Try.underlying3 cells3 bytes3 (by decide) (by decide) zero3 rfl
theorem iag22 {id len es : Nat} {k : IntKind} {i : Int} : indexAddrPV Try.prog 22 (.gsl id len es) (.int k i) = iaM 1 id 0 len i := iaG_of Try.underlying22 Try.underlying3 cells3 k len i
theorem leng22 {id n es : Nat} : lenPV Try.prog 22 (.gsl id n es) = some (.int .i64 n) := lenG_of Try.underlying22 n
theorem lenn22 : lenPV Try.prog 22 .gnil = some (.int .i64 0) := lenN_of Try.underlying22
theorem appg23 {σ : Sg} {x : PV} {m : List PV} {own : Own} : appendG Try.prog σ 23 23 x (.isl m own) = appG 2 16 σ x m := appG_of Try.underlying23 Try.underlying76 cells76 bytes76 (by decide) (by decide) zero76 rfl
theorem iag23 {id len es : Nat} {k : IntKind} {i : Int} : indexAddrPV Try.prog 23 (.gsl id len es) (.int k i) = iaM 2 id 0 len i := iaG_of Try.underlying23 Try.underlying76 cells76 k len i
theorem leng23 {id n es : Nat} : lenPV Try.prog 23 (.gsl id n es) = some (.int .i64 n) := lenG_of Try.underlying23 n
theorem lenn23 : lenPV Try.prog 23 .gnil = some (.int .i64 0) := lenN_of Try.underlying23
theorem appg24 {σ : Sg} {x : PV} {m : List PV} {own : Own} : appendG Try.prog σ 24 24 x (.isl m own) = appG 7 72 σ x m := appG_of Try.underlying24 Try.underlying86 cells86 bytes86 (by decide) (by decide) zero86 rfl
theorem iag24 {id len es : Nat} {k : IntKind} {i : Int} : indexAddrPV Try.prog 24 (.gsl id len es) (.int k i) = iaM 7 id 0 len i := iaG_of Try.underlying24 Try.underlying86 cells86 k len i
theorem leng24 {id n es : Nat} : lenPV Try.prog 24 (.gsl id n es) = some (.int .i64 n) := lenG_of Try.underlying24 n
theorem lenn24 : lenPV Try.prog 24 .gnil = some (.int .i64 0) := lenN_of Try.underlying24
theorem appg29 {σ : Sg} {x : PV} {m : List PV} {own : Own} : appendG Try.prog σ 29 29 x (.isl m own) = appG 6 64 σ x m := appG_of Try.underlying29 Try.underlying33 cells33 bytes33 (by decide) (by decide) zero33 rfl
theorem iag29 {id len es : Nat} {k : IntKind} {i : Int} : indexAddrPV Try.prog 29 (.gsl id len es) (.int k i) = iaM 6 id 0 len i := iaG_of Try.underlying29 Try.underlying33 cells33 k len i
theorem leng29 {id n es : Nat} : lenPV Try.prog 29 (.gsl id n es) = some (.int .i64 n) := lenG_of Try.underlying29 n
theorem lenn29 : lenPV Try.prog 29 .gnil = some (.int .i64 0) := lenN_of Try.underlying29
theorem appg41 {σ : Sg} {x : PV} {m : List PV} {own : Own} : appendG Try.prog σ 41 41 x (.isl m own) = appG 6 112 σ x m := appG_of Try.underlying41 Try.underlying28 cells28 bytes28 (by decide) (by decide) zero28 rfl
theorem iag41 {id len es : Nat} {k : IntKind} {i : Int} : indexAddrPV Try.prog 41 (.gsl id len es) (.int k i) = iaM 6 id 0 len i := iaG_of Try.underlying41 Try.underlying28 cells28 k len i
theorem leng41 {id n es : Nat} : lenPV Try.prog 41 (.gsl id n es) = some (.int .i64 n) := lenG_of Try.underlying41 n
theorem lenn41 : lenPV Try.prog 41 .gnil = some (.int .i64 0) := lenN_of Try.underlying41
theorem appg43 {σ : Sg} {x : PV} {m : List PV} {own : Own} : appendG Try.prog σ 43 43 x (.isl m own) = appG 1 24 σ x m := appG_of Try.underlying43 Try.underlying29 cells29 bytes29 (by decide) (by decide) zero29 rfl
theorem iag43 {id len es : Nat} {k : IntKind} {i : Int} : indexAddrPV Try.prog 43 (.gsl id len es) (.int k i) = iaM 1 id 0 len i := iaG_of Try.underlying43 Try.underlying29 cells29 k len i
theorem leng43 {id n es : Nat} : lenPV Try.prog 43 (.gsl id n es) = some (.int .i64 n) := lenG_of Try.underlying43 n
theorem lenn43 : lenPV Try.prog 43 .gnil = some (.int .i64 0) := lenN_of Try.underlying43
theorem appg54 {σ : Sg} {x : PV} {m : List PV} {own : Own} : appendG Try.prog σ 54 54 x (.isl m own) = appG 1 8 σ x m := appG_of Try.underlying54 Try.underlying46 cells46 bytes46 (by decide) (by decide) zero46 rfl
theorem iag54 {id len es : Nat} {k : IntKind} {i : Int} : indexAddrPV Try.prog 54 (.gsl id len es) (.int k i) = iaM 1 id 0 len i := iaG_of Try.underlying54 Try.underlying46 cells46 k len i
theorem leng54 {id n es : Nat} : lenPV Try.prog 54 (.gsl id n es) = some (.int .i64 n) := lenG_of Try.underlying54 n
theorem lenn54 : lenPV Try.prog 54 .gnil = some (.int .i64 0) := lenN_of Try.underlying54
theorem appg71 {σ : Sg} {x : PV} {m : List PV} {own : Own} : appendG Try.prog σ 71 71 x (.isl m own) = appG 1 24 σ x m := appG_of Try.underlying71 Try.underlying22 cells22 bytes22 (by decide) (by decide) zero22 rfl
theorem iag71 {id len es : Nat} {k : IntKind} {i : Int} : indexAddrPV Try.prog 71 (.gsl id len es) (.int k i) = iaM 1 id 0 len i := iaG_of Try.underlying71 Try.underlying22 cells22 k len i
theorem leng71 {id n es : Nat} : lenPV Try.prog 71 (.gsl id n es) = some (.int .i64 n) := lenG_of Try.underlying71 n
theorem lenn71 : lenPV Try.prog 71 .gnil = some (.int .i64 0) := lenN_of Try.underlying71
theorem appg117 {σ : Sg} {x : PV} {m : List PV} {own : Own} : appendG Try.prog σ 117 117 x (.isl m own) = appG 3 24 σ x m := appG_of Try.underlying117 Try.underlying119 cells119 bytes119 (by decide) (by decide) zero119 rfl
theorem iag117 {id len es : Nat} {k : IntKind} {i : Int} : indexAddrPV Try.prog 117 (.gsl id len es) (.int k i) = iaM 3 id 0 len i := iaG_of Try.underlying117 Try.underlying119 cells119 k len i
theorem leng117 {id n es : Nat} : lenPV Try.prog 117 (.gsl id n es) = some (.int .i64 n) := lenG_of Try.underlying117 n
theorem lenn117 : lenPV Try.prog 117 .gnil = some (.int .i64 0) := lenN_of Try.underlying117
theorem appg123 {σ : Sg} {x : PV} {m : List PV} {own : Own} : appendG Try.prog σ 123 123 x (.isl m own) = appG 1 1 σ x m := appG_of Try.underlying123 Try.underlying4 cells4 bytes4 (by decide) (by decide) zero4 rfl
theorem iag123 {id len es : Nat} {k : IntKind} {i : Int} : indexAddrPV Try.prog 123 (.gsl id len es) (.int k i) = iaM 1 id 0 len i := iaG_of Try.underlying123 Try.underlying4 cells4 k len i
theorem leng123 {id n es : Nat} : lenPV Try.prog 123 (.gsl id n es) = some (.int .i64 n) := lenG_of Try.underlying123 n
theorem lenn123 : lenPV Try.prog 123 .gnil = some (.int .i64 0) := lenN_of Try.underlying123
theorem appg150 {σ : Sg} {x : PV} {m : List PV} {own : Own} : appendG Try.prog σ 150 150 x (.isl m own) = appG 1 8 σ x m := appG_of Try.underlying150 Try.underlying107 cells107 bytes107 (by decide) (by decide) zero107 rfl
theorem iag150 {id len es : Nat} {k : IntKind} {i : Int} : indexAddrPV Try.prog 150 (.gsl id len es) (.int k i) = iaM 1 id 0 len i := iaG_of Try.underlying150 Try.underlying107 cells107 k len i
theorem leng150 {id n es : Nat} : lenPV Try.prog 150 (.gsl id n es) = some (.int .i64 n) := lenG_of Try.underlying150 n
theorem lenn150 : lenPV Try.prog 150 .gnil = some (.int .i64 0) := lenN_of Try.underlying150
attribute [go_sem] appg22 iag22 leng22 lenn22 appg23 iag23 leng23 lenn23 appg24 iag24 leng24 lenn24 appg29 iag29 leng29 lenn29 appg41 iag41 leng41 lenn41 appg43 iag43 leng43 lenn43 appg54 iag54 leng54 lenn54 appg71 iag71 leng71 lenn71 appg117 iag117 leng117 lenn117 appg123 iag123 leng123 lenn123 appg150 iag150 leng150 lenn150
end Go.Proofs.Ytnpamcpoaklgeaa

namespace Go.Proofs.Ytnpamcpoaklgeaa
open Go
set_option maxRecDepth 100000

theorem wrapU {n : Int} (h1 : 0 ≤ n) (h2 : n ≤ 18446744073709551615) : IntKind.u64.wrap n = n := IntWalk.u64_in n ⟨h1, h2⟩
theorem sv_ext_sv {σ : Sg} {d : Nat} {cs cs0 : List PV} {l : List (Option (List PV))} {rm : List Nat} {ys : List LState} (h : d < σ.store.length) : ((σ.setVar d cs0).ext l rm ys).setVar d cs = (σ.setVar d cs).ext l rm ys := by
  rw [sv_ext (by rw [sv_len]; exact h), sv_sv]
theorem sv_self {σ : Sg} {d : Nat} {cs : List PV} (h : σ.store[d]? = some (some cs)) : σ.setVar d cs = σ := by
  have : σ.store.set d (some cs) = σ.store := by
    refine List.ext_getElem? fun i => ?_
    rw [List.getElem?_set]
    by_cases e : d = i
    · subst e; rw [if_pos rfl, if_pos (List.getElem?_eq_some_iff.1 h).1, h]
    · rw [if_neg e]
  unfold Sg.setVar
  rw [this]
theorem get_svx {σ : Sg} {d : Nat} {cs : List PV} {l : List (Option (List PV))} {rm : List Nat} {ys : List LState} (h : d < σ.store.length) : ((σ.setVar d cs).ext l rm ys).store[d]? = some (some cs) := by
  rw [ext_get (by rw [sv_len]; exact h)]; exact sv_get h
theorem get_extx {σ : Sg} {d : Nat} {cs : List PV} {l : List (Option (List PV))} {rm : List Nat} {ys : List LState} (hd : σ.store[d]? = some (some cs)) : (σ.ext l rm ys).store[d]? = some (some cs) := by
  rw [ext_get (lt_of_get hd)]; exact hd
theorem shr1 {a : Int} : shiftPV .shr .u64 a 1 = some (.int .u64 (a.fdiv 2)) := rfl
theorem shr32 {a : Int} : shiftPV .shr .u64 a 32 = some (.int .u64 (a.fdiv 4294967296)) := rfl
theorem cv3_90 {k : IntKind} {n : Int} : convPV Try.prog 3 90 (.int k n) = some (.int .u64 (IntKind.u64.wrap n)) := by kernel_rfl
theorem cv3_97 {k : IntKind} {n : Int} : convPV Try.prog 3 97 (.int k n) = some (.int .u64 (IntKind.u64.wrap n)) := by kernel_rfl
theorem cv3_163 {k : IntKind} {n : Int} : convPV Try.prog 3 163 (.int k n) = some (.int .u64 (IntKind.u64.wrap n)) := by kernel_rfl
theorem cv5_3 {k : IntKind} {n : Int} : convPV Try.prog 5 3 (.int k n) = some (.int .i64 (IntKind.i64.wrap n)) := by kernel_rfl
theorem cv90_3 {k : IntKind} {n : Int} : convPV Try.prog 90 3 (.int k n) = some (.int .i64 (IntKind.i64.wrap n)) := by kernel_rfl
theorem cv90_5 {k : IntKind} {n : Int} : convPV Try.prog 90 5 (.int k n) = some (.int .u8 (IntKind.u8.wrap n)) := by kernel_rfl
theorem cv97_3 {k : IntKind} {n : Int} : convPV Try.prog 97 3 (.int k n) = some (.int .i64 (IntKind.i64.wrap n)) := by kernel_rfl
theorem cv97_160 {k : IntKind} {n : Int} : convPV Try.prog 97 160 (.int k n) = some (.int .u32 (IntKind.u32.wrap n)) := by kernel_rfl
theorem cv160_5 {k : IntKind} {n : Int} : convPV Try.prog 160 5 (.int k n) = some (.int .u8 (IntKind.u8.wrap n)) := by kernel_rfl
attribute [go_sem] cv3_90 cv3_97 cv3_163 cv5_3 cv90_3 cv90_5 cv97_3 cv97_160 cv160_5 nilCheckPV shr1 shr32 Sg.ext_nil
end Go.Proofs.Ytnpamcpoaklgeaa

namespace Go.Proofs.Ytnpamcpoaklgeaa
open Go
set_option maxRecDepth 100000

theorem slh22 {l : List PV} {own : Own} {k : IntKind} {n : Int} : slicePV Try.prog 22 (.isl l own) none (some (.int k n)) none = if 0 ≤ n then if n.toNat ≤ l.length then some (.isl (l.take n.toNat) (sliceOwn own 0 n.toNat l.length)) else none else none := slHi_of Try.underlying22 Try.underlying3 l own k n
theorem slh29 {l : List PV} {own : Own} {k : IntKind} {n : Int} : slicePV Try.prog 29 (.isl l own) none (some (.int k n)) none = if 0 ≤ n then if n.toNat ≤ l.length then some (.isl (l.take n.toNat) (sliceOwn own 0 n.toNat l.length)) else none else none := slHi_of Try.underlying29 Try.underlying33 l own k n
theorem slh54 {l : List PV} {own : Own} {k : IntKind} {n : Int} : slicePV Try.prog 54 (.isl l own) none (some (.int k n)) none = if 0 ≤ n then if n.toNat ≤ l.length then some (.isl (l.take n.toNat) (sliceOwn own 0 n.toNat l.length)) else none else none := slHi_of Try.underlying54 Try.underlying46 l own k n
attribute [go_sem] slh22 slh29 slh54
end Go.Proofs.Ytnpamcpoaklgeaa

namespace Go.Proofs.Ytnpamcpoaklgeaa
open Go Go.RowKit

structure Group where
  slo : Int
  shi : Int
  alo : Int
  ahi : Int
  stay : Int
  first : Int
  path : List Int
  deriving DecidableEq
structure Town where
  rooms : List Int
  streets : List (Int × Int)
  groups : List Group
  steps : Int
  deriving DecidableEq
structure City where
  town : Town
  brk : Int
  sleep : List Int
  deriving DecidableEq
structure Band where
  first : Int
  path : List Int
  lo : Int
  hi : Int
  stay : Int
  people : Int
  deriving DecidableEq

abbrev intsO (o : Own) (xs : List Int) : PV := .isl (xs.map I) o
def stPV (s : Int × Int) : PV := .agg [I s.1, I s.2]
def grPV (g : Group) : PV := .agg [I g.slo, I g.shi, I g.alo, I g.ahi, I g.stay, I g.first, ints g.path]
def twCells (t : Town) : List PV := [ints t.rooms, .isl (t.streets.map stPV) .ro, .isl (t.groups.map grPV) .ro, I t.steps]
def twPV (t : Town) : PV := .agg (twCells t)
def ctCells (c : City) : List PV := [ints c.town.rooms, .isl (c.town.streets.map stPV) .ro, .isl (c.town.groups.map grPV) .ro, I c.town.steps, I c.brk, ints c.sleep]
def ctPV (c : City) : PV := .agg (ctCells c)
def bdCells (b : Band) : List PV := [I b.first, ints b.path, I b.lo, I b.hi, I b.stay, I b.people]
def bdPV (b : Band) : PV := .agg (bdCells b)
abbrev bands (l : List Band) : PV := .isl (l.map bdPV) .ro

section
variable {α : Type} {f : α → PV} {xs : List α} {i : Nat} {x : α} {c k off : Nat}
theorem iaX_map (h : xs[i]? = some x) (hc : (f x).cells.length = c) : iaX c (xs.map f) (i : Int) = some (.eptr c (xs.map f) i 0) := by
  have hlt : i < xs.length := (List.getElem?_eq_some_iff.1 h).1
  have hx : xs[i] = x := (List.getElem?_eq_some_iff.1 h).2
  unfold iaX
  rw [if_pos ⟨Int.natCast_nonneg _, by simpa using hlt⟩]
  simp [hlt, hx, hc]
theorem elS_map (h : xs[i]? = some x) : elS (xs.map f) i off = (f x).cells[off]? := by simp [elS, h]
theorem elA_map (h : xs[i]? = some x) : elA k (xs.map f) i off = if off + k ≤ (f x).cells.length then some (.agg (((f x).cells.drop off).take k)) else none := by simp [elA, h]
end

theorem Clean.of_ro {a b c : Nat} : ∀ (xs : List Int) (o : Own), o = .ro → Clean a b c (.isl (xs.map I) o) := fun xs o ho => Clean.ints xs o fun r n es e => by rw [ho] at e; cases e
theorem Clean.map {α : Type} {a b c : Nat} {f : α → PV} {xs : List α} {o : Own} (ho : ∀ r n es, o = .tok r n es → r < b) (h : ∀ x, Clean a b c (f x)) : Clean a b c (.isl (xs.map f) o) :=
  .isl _ _ (fun e he => by obtain ⟨x, _, rfl⟩ := List.mem_map.1 he; exact h x) ho
theorem noTok {b : Nat} : ∀ r n es, Own.ro = .tok r n es → r < b := fun r n es e => by cases e
theorem noTok' {b : Nat} : ∀ r n es, Own.exact = .tok r n es → r < b := fun r n es e => by cases e
theorem clean_ints {a b c : Nat} (xs : List Int) : Clean a b c (ints xs) := Clean.ints xs .ro noTok
theorem clean_st {a b c : Nat} (s : Int × Int) : Clean a b c (stPV s) := .agg _ (Clean.all_cons (.int _ _) (Clean.all_cons (.int _ _) Clean.all_nil))
theorem clean_gr {a b c : Nat} (g : Group) : Clean a b c (grPV g) :=
  .agg _ (Clean.all_cons (.int _ _) (Clean.all_cons (.int _ _) (Clean.all_cons (.int _ _) (Clean.all_cons (.int _ _) (Clean.all_cons (.int _ _) (Clean.all_cons (.int _ _) (Clean.all_cons (clean_ints _) Clean.all_nil)))))))
theorem cleans_bd {a b c : Nat} (x : Band) : ∀ p, p ∈ bdCells x → Clean a b c p :=
  Clean.all_cons (.int _ _) (Clean.all_cons (clean_ints _) (Clean.all_cons (.int _ _) (Clean.all_cons (.int _ _) (Clean.all_cons (.int _ _) (Clean.all_cons (.int _ _) Clean.all_nil)))))
theorem clean_bd {a b c : Nat} (x : Band) : Clean a b c (bdPV x) := .agg _ (cleans_bd x)
theorem cleans_tw {a b c : Nat} (t : Town) : ∀ p, p ∈ twCells t → Clean a b c p :=
  Clean.all_cons (clean_ints _) (Clean.all_cons (Clean.map noTok clean_st) (Clean.all_cons (Clean.map noTok clean_gr) (Clean.all_cons (.int _ _) Clean.all_nil)))
theorem clean_tw {a b c : Nat} (t : Town) : Clean a b c (twPV t) := .agg _ (cleans_tw t)
theorem cleans_ct {a b c : Nat} (t : City) : ∀ p, p ∈ ctCells t → Clean a b c p :=
  Clean.all_cons (clean_ints _) (Clean.all_cons (Clean.map noTok clean_st) (Clean.all_cons (Clean.map noTok clean_gr) (Clean.all_cons (.int _ _) (Clean.all_cons (.int _ _) (Clean.all_cons (clean_ints _) Clean.all_nil)))))
theorem clean_ct {a b c : Nat} (t : City) : Clean a b c (ctPV t) := .agg _ (cleans_ct t)
theorem clean_bands {a b c : Nat} (l : List Band) : Clean a b c (bands l) := Clean.map noTok clean_bd

theorem Wk_int {a b c : Nat} {k : IntKind} {n m : Int} (h : n = m) : Wk a b c (.int k n) (.int k m) := by rw [h]; exact Wk.of_clean (.int _ _)
theorem Wk_bool {a b c : Nat} {n m : Bool} (h : n = m) : Wk a b c (.bool n) (.bool m) := by rw [h]; exact Wk.of_clean (.bool _)

def inR (n lo hi : Int) : Bool := decide (lo ≤ n) && decide (n ≤ hi)
def allIn (lo hi : Int) (l : List Int) : Bool := l.all fun n => inR n lo hi
def other (s : Int × Int) (at' : Int) : Int := if at' = s.1 then s.2 else if at' = s.2 then s.1 else -1
def chkSpan (lo hi limit : Int) : Int := if !(inR lo 0 limit && inR hi 0 limit) then 2 else if lo > hi then 9 else 0

theorem okC_st {xs : List (Int × Int)} : okC 2 (xs.map stPV) = True := okC_map fun x => by simp [okC, stPV, PV.cells, PV.scalar]
theorem okC_gr {xs : List Group} : okC 7 (xs.map grPV) = True := okC_map fun x => by simp [okC, grPV, PV.cells, PV.scalar]
theorem okC_bd {xs : List Band} : okC 6 (xs.map bdPV) = True := okC_map fun x => by simp [okC, bdPV, bdCells, PV.cells, PV.scalar]
theorem roL_st {xs : List (Int × Int)} : PV.roL (xs.map stPV) = xs.map stPV := roL_enc fun x => by simp only [stPV, ro_agg, roL_cons, roL_nil, ro_int]
theorem roL_gr {xs : List Group} : PV.roL (xs.map grPV) = xs.map grPV := roL_enc fun x => by simp only [grPV, ro_agg, roL_cons, roL_nil, ro_int, ro_isl, roL_ints]
theorem roL_bd {xs : List Band} : PV.roL (xs.map bdPV) = xs.map bdPV := roL_enc fun x => by simp only [bdPV, bdCells, ro_agg, roL_cons, roL_nil, ro_int, ro_isl, roL_ints]
theorem cA_st {a b c : Nat} {xs : List (Int × Int)} : CleanAll a b c (xs.map stPV) = True := CleanAll_map clean_st
theorem cA_gr {a b c : Nat} {xs : List Group} : CleanAll a b c (xs.map grPV) = True := CleanAll_map clean_gr
theorem cA_bd {a b c : Nat} {xs : List Band} : CleanAll a b c (xs.map bdPV) = True := CleanAll_map clean_bd
attribute [go_sem] okC_st okC_gr okC_bd roL_st roL_gr roL_bd cA_st cA_gr cA_bd stPV grPV twPV twCells ctPV ctCells bdPV bdCells
theorem mixed : Try.prog.follows .mixedOrders = true := by kernel_rfl
end Go.Proofs.Ytnpamcpoaklgeaa

namespace Go.Proofs.Ytnpamcpoaklgeaa
open Go Go.RowKit

theorem own : ownKnob Try.prog.godebug = none := by kernel_rfl
theorem laidOut : laidOutB Try.prog = true := by kernel_rfl
theorem rdInt : Rd Try.prog 3 fun p => ∃ n : Int, p = I n := (Rd.int Try.underlying3).mono fun _ ⟨n, h, _⟩ => ⟨n, h⟩
theorem rdInts : Rd Try.prog 22 fun p => ∃ xs : List Int, p = ints xs ∧ xs.length * 8 ≤ 140737488351232 :=
  (Rd.slice Try.underlying22 (by kernel_rfl) rdInt).mono fun p ⟨l, h1, h2, h3⟩ => by
    obtain ⟨xs, rfl, _⟩ := map_of (f := I) (Q := fun _ => True) fun x hx => let ⟨n, e⟩ := h1 x hx; ⟨n, e, trivial⟩
    have e : Try.prog.bytesOf 3 = 8 := by kernel_rfl
    rw [e] at h2
    exact ⟨xs, h3, by simpa [reachBytes] using h2⟩
theorem rdSpan : Rd Try.prog 31 fun p => ∃ a b : Int, p = .agg [I a, I b] :=
  (Rd.struct Try.underlying31 (by kernel_rfl) (.cons rdInt (.cons rdInt .nil))).mono fun p ⟨l, h, e⟩ => by
    obtain ⟨x, y, rfl⟩ : ∃ x y, l = [x, y] := by
      match l, h with
      | [x, y], _ => exact ⟨x, y, rfl⟩
    obtain ⟨⟨a, rfl⟩, ⟨b, rfl⟩, _⟩ := h
    exact ⟨a, b, e⟩
def bandSz (b : Band) : Prop := b.path.length * 8 ≤ 140737488351232
theorem rdBand : Rd Try.prog 33 fun p => ∃ b : Band, p = bdPV b ∧ bandSz b :=
  (Rd.struct Try.underlying33 (by kernel_rfl) (.cons rdInt (.cons rdInts (.cons rdSpan (.cons rdInt (.cons rdInt .nil)))))).mono fun p ⟨l, h, e⟩ => by
    match l, h with
    | [_, _, _, _, _], ⟨⟨a, ha⟩, ⟨xs, hx, hs⟩, ⟨b, c, hb⟩, ⟨d, hd⟩, ⟨f, hf⟩, _⟩ =>
      subst ha hx hb hd hf
      exact ⟨⟨a, xs, b, c, d, f⟩, e, hs⟩
theorem rdBands : Rd Try.prog 29 fun p => ∃ l : List Band, p = bands l ∧ l.length * 64 ≤ 140737488351232 ∧ ∀ b, b ∈ l → bandSz b :=
  (Rd.slice Try.underlying29 (by kernel_rfl) rdBand).mono fun p ⟨l, h1, h2, h3⟩ => by
    obtain ⟨xs, rfl, hs⟩ := map_of (f := bdPV) (Q := bandSz) h1
    have e : Try.prog.bytesOf 33 = 64 := by kernel_rfl
    rw [e] at h2
    exact ⟨xs, h3, by simpa [reachBytes] using h2, hs⟩
theorem rdTurnArgs : All2 (fun t R => Rd Try.prog t R) Try.f4.params.toList [fun p => ∃ xs : List Int, p = ints xs ∧ xs.length * 8 ≤ 140737488351232] := .cons rdInts .nil
end Go.Proofs.Ytnpamcpoaklgeaa

namespace Go.Proofs.Ytnpamcpoaklgeaa
open Go Go.RowKit

structure citySz (c : City) : Prop where
  hr : c.town.rooms.length * 8 ≤ 140737488351232
  hs : c.town.streets.length * 16 ≤ 140737488351232
  hg : c.town.groups.length * 72 ≤ 140737488351232
  hp : ∀ g, g ∈ c.town.groups → g.path.length * 8 ≤ 140737488351232
  hsl : c.sleep.length * 8 ≤ 140737488351232
theorem rdStreet : Rd Try.prog 76 fun p => ∃ s : Int × Int, p = stPV s ∧ True :=
  (Rd.struct Try.underlying76 (by kernel_rfl) (.cons rdInt (.cons rdInt .nil))).mono fun p ⟨l, h, e⟩ => by
    match l, h with
    | [_, _], ⟨⟨a, ha⟩, ⟨b, hb⟩, _⟩ => subst ha hb; exact ⟨(a, b), e, trivial⟩
theorem rdStreets : Rd Try.prog 23 fun p => ∃ l : List (Int × Int), p = .isl (l.map stPV) .ro ∧ l.length * 16 ≤ 140737488351232 :=
  (Rd.slice Try.underlying23 (by kernel_rfl) rdStreet).mono fun p ⟨l, h1, h2, h3⟩ => by
    obtain ⟨xs, rfl, hs⟩ := map_of (f := stPV) (Q := fun _ => True) h1
    have e : Try.prog.bytesOf 76 = 16 := by kernel_rfl
    rw [e] at h2
    exact ⟨xs, h3, by simpa [reachBytes] using h2⟩
theorem rdGroup : Rd Try.prog 86 fun p => ∃ g : Group, p = grPV g ∧ g.path.length * 8 ≤ 140737488351232 :=
  (Rd.struct Try.underlying86 (by kernel_rfl) (.cons rdSpan (.cons rdSpan (.cons rdInt (.cons rdInt (.cons rdInts .nil)))))).mono fun p ⟨l, h, e⟩ => by
    match l, h with
    | [_, _, _, _, _], ⟨⟨a, b, ha⟩, ⟨c, d, hb⟩, ⟨x, hx⟩, ⟨y, hy⟩, ⟨xs, hz, hs⟩, _⟩ =>
      subst ha hb hx hy hz
      exact ⟨⟨a, b, c, d, x, y, xs⟩, e, hs⟩
theorem rdGroups : Rd Try.prog 24 fun p => ∃ l : List Group, p = .isl (l.map grPV) .ro ∧ l.length * 72 ≤ 140737488351232 ∧ ∀ g, g ∈ l → g.path.length * 8 ≤ 140737488351232 :=
  (Rd.slice Try.underlying24 (by kernel_rfl) rdGroup).mono fun p ⟨l, h1, h2, h3⟩ => by
    obtain ⟨xs, rfl, hs⟩ := map_of (f := grPV) (Q := fun g => g.path.length * 8 ≤ 140737488351232) h1
    have e : Try.prog.bytesOf 86 = 72 := by kernel_rfl
    rw [e] at h2
    exact ⟨xs, h3, by simpa [reachBytes] using h2, hs⟩
structure townSz (c : Town) : Prop where
  hr : c.rooms.length * 8 ≤ 140737488351232
  hs : c.streets.length * 16 ≤ 140737488351232
  hg : c.groups.length * 72 ≤ 140737488351232
  hp : ∀ g, g ∈ c.groups → g.path.length * 8 ≤ 140737488351232
theorem rdTown : Rd Try.prog 26 fun p => ∃ t : Town, p = twPV t ∧ townSz t :=
  (Rd.struct Try.underlying26 (by kernel_rfl) (.cons rdInts (.cons rdStreets (.cons rdGroups (.cons rdInt .nil))))).mono fun p ⟨l, h, e⟩ => by
    match l, h with
    | [_, _, _, _], ⟨⟨a, ha, h1⟩, ⟨b, hb, h2⟩, ⟨c, hc, h3, h4⟩, ⟨x, hx⟩, _⟩ =>
      subst ha hb hc hx
      exact ⟨⟨a, b, c, x⟩, e, ⟨h1, h2, h3, h4⟩⟩
theorem rdCity : Rd Try.prog 28 fun p => ∃ c : City, p = ctPV c ∧ citySz c :=
  (Rd.struct Try.underlying28 (by kernel_rfl) (.cons rdTown (.cons rdInt (.cons rdInts .nil)))).mono fun p ⟨l, h, e⟩ => by
    match l, h with
    | [_, _, _], ⟨⟨t, ht, h1⟩, ⟨x, hx⟩, ⟨a, ha, h2⟩, _⟩ =>
      subst ht hx ha
      exact ⟨⟨t, x, a⟩, e, ⟨h1.hr, h1.hs, h1.hg, h1.hp, h2⟩⟩
end Go.Proofs.Ytnpamcpoaklgeaa
