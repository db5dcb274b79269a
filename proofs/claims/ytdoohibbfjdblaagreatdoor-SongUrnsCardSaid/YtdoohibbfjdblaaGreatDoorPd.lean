/-
  Parts of slices at this seat's types.
  What is done to texts at this seat's types.
  What the arguments of the laws are read as: texts, bytes, numbers within their bounds.
  What the functions of song compute, in plain Lean.
  Facts of this seat's types for maps and made slices.
  Walks: numbers in bounds, numbers in lists, lists compared (song, bateriaref04, bateriakit, slices).
  Walks: lists copied and compared (bateriakit).
  Walks: contests checked (song).
  Walks: the rules of a ballot (song).
  Walks: a ballot checked (song).
  Walks: ballots checked (song).
  Walks: a standing weighed, standings compared (song, cmp).
  Tallies: the cells of a round counted (song).
  Which ballots count in a round, in plain Lean (song).
  What the voices of a round give to its songs, and ballots that may be, in plain Lean (song).
  Results of rounds, in plain Lean (song).
  Which ballots count: those of the map are those that are first of their voice (song, plain).
  Walks: the ballots of a round counted (song).
  Sorting, as the library does it.
  Walks: the standing of a song; standings copied and sorted (song).
  Walks: the result of a round (song).
  Tallies of all rounds: what may be said of them, their reading (song).
  Walks: all rounds counted (song).
-/
import Derived.Test.YtdoohibbfjdblaaGreatDoorPc
import Derived.CallsIn
import Derived.RangeFuncLeaves
import Derived.RangeFuncRecord
import Derived.OrdersIn
import Derived.Below
import Derived.Laws.World
import Derived.Laws.StructEq
import Derived.Laws.BytesString
import Derived.Laws.Append
import Derived.MapKept
import Derived.ProofKit
import Derived.Carry
import Derived.Handed
import Derived.ChangeCalls
import Derived.Stop.Joined
import Derived.Lib.LaidTab
import Derived.Shelf.Strconv.Itoa3
import Derived.RangeFuncIn
import Derived.RangeFuncNested
import Derived.Test.YtdoohibbfjdblaaGreatDoorProg
import Derived.KernelRfl
import Derived.IntWalk
import Derived.Sort.OwnSortedInts
import Derived.Lib.SlicesCompact
import Derived.Test.YtdoohibbfjdblaaGreatDoorRows
import Derived.Shelf.Sort.Plain
import Derived.Shelf.Slices.In.SortNone
import Derived.Shelf.Small.Bits
import Derived.Shelf.Strings.Builder1
import Derived.Lib.SplitLaws
import Derived.Lib.AtoiAll
import Derived.Lib.ItoaNum
import Derived.Lib.IndexBytes
import Derived.Shelf.Strings.Split
import Derived.Shelf.Strconv.AtoiAll
import Derived.Lib.AtoiErrMem
import Derived.Lib.ItoaLen
import Derived.Lib.AtoiAllCases
import Derived.Test.YtdoohibbfjdblaaGreatDoorCards
import Derived.Test.YtdoohibbfjdblaaGreatDoorTie
import Derived.JoinedOf
import Derived.LaidMore
import Derived.LaidSub
import Derived.Lay
import Derived.SevenTiedAt
import Derived.Lib.LaidU8
import Derived.Shelf.Vars
set_option linter.unusedSimpArgs false
set_option linter.unusedVariables false
namespace Go.Proofs.YtdoohibbfjdblaaGreatDoor
open Go
set_option maxRecDepth 100000
theorem slh28 {l : List PV} {own : Own} {k : IntKind} {n : Int} : slicePV Tryz.prog 28 (.isl l own) none (some (.int k n)) none = if 0 ≤ n then if n.toNat ≤ l.length then some (.isl (l.take n.toNat) (sliceOwn own 0 n.toNat l.length)) else none else none := slHi_of Tryz.underlying28 Tryz.underlying31 l own k n
theorem slh42 {l : List PV} {own : Own} {k : IntKind} {n : Int} : slicePV Tryz.prog 42 (.isl l own) none (some (.int k n)) none = if 0 ≤ n then if n.toNat ≤ l.length then some (.isl (l.take n.toNat) (sliceOwn own 0 n.toNat l.length)) else none else none := slHi_of Tryz.underlying42 Tryz.underlying3 l own k n
theorem slh66 {l : List PV} {own : Own} {k : IntKind} {n : Int} : slicePV Tryz.prog 66 (.isl l own) none (some (.int k n)) none = if 0 ≤ n then if n.toNat ≤ l.length then some (.isl (l.take n.toNat) (sliceOwn own 0 n.toNat l.length)) else none else none := slHi_of Tryz.underlying66 Tryz.underlying9 l own k n
theorem slh129 {l : List PV} {own : Own} {k : IntKind} {n : Int} : slicePV Tryz.prog 129 (.isl l own) none (some (.int k n)) none = if 0 ≤ n then if n.toNat ≤ l.length then some (.isl (l.take n.toNat) (sliceOwn own 0 n.toNat l.length)) else none else none := slHi_of Tryz.underlying129 Tryz.underlying131 l own k n
attribute [go_sem] slh28 slh42 slh66 slh129
open Go Go.RowKit
abbrev txt (l : List UInt8) : PV := .str ⟨l.toArray⟩
theorem lens9 {s : ByteArray} : lenPV Tryz.prog 9 (.str s) = some (.int .i64 s.size) := by unfold lenPV; simp only [Tryz.underlying9]
theorem size_txt {l : List UInt8} : (⟨l.toArray⟩ : ByteArray).size = l.length := by simp [ByteArray.size]
theorem extract_txt {l : List UInt8} {a b : Nat} : (⟨l.toArray⟩ : ByteArray).extract a b = ⟨((l.drop a).take (b - a)).toArray⟩ := by
 apply ByteArray.ext
 simp [ByteArray.data_extract, List.extract_toArray]
/-- Parts of a text. -/
theorem slT {l : List UInt8} {a b : Nat} (h1 : a ≤ b) (h2 : b ≤ l.length) : slicePV Tryz.prog 9 (.str ⟨l.toArray⟩) (some (.int .i64 (a : Int))) (some (.int .i64 (b : Int))) none = some (.str ⟨((l.drop a).take (b - a)).toArray⟩) := by
 unfold slicePV
 simp only [Tryz.underlying9, bnd, Int.natCast_nonneg, if_true, Int.toNat_natCast, extract_txt]
 rw [if_pos ⟨h1, by rw [size_txt]; exact h2⟩]
theorem slTa {l : List UInt8} {a : Nat} (h2 : a ≤ l.length) : slicePV Tryz.prog 9 (.str ⟨l.toArray⟩) (some (.int .i64 (a : Int))) none none = some (.str ⟨(l.drop a).toArray⟩) := by
 unfold slicePV
 simp only [Tryz.underlying9, bnd, Int.natCast_nonneg, if_true, Int.toNat_natCast, extract_txt, size_txt]
 rw [if_pos ⟨h2, Nat.le_refl _⟩, List.take_of_length_le (by simp)]
theorem slTb {l : List UInt8} {b : Nat} (h2 : b ≤ l.length) : slicePV Tryz.prog 9 (.str ⟨l.toArray⟩) none (some (.int .i64 (b : Int))) none = some (.str ⟨(l.take b).toArray⟩) := by
 unfold slicePV
 simp only [Tryz.underlying9, bnd, Int.natCast_nonneg, if_true, Int.toNat_natCast, extract_txt, size_txt]
 rw [if_pos ⟨Nat.zero_le _, h2⟩]
 simp
theorem u8_beq {a b : UInt8} : ((a.toNat : Int) == (b.toNat : Int)) = decide (a = b) := by
 rw [Bool.eq_iff_iff, beq_iff_eq, decide_eq_true_eq]
 constructor
 ·intro h; exact UInt8.toNat.inj (by omega)
 rintro rfl; rfl
theorem wrap8 {n : Int} (h1 : 0 ≤ n) (h2 : n ≤ 255) : IntKind.u8.wrap n = n := IntWalk.u8_in n ⟨h1, h2⟩
theorem cvs9 {s : ByteArray} : convPV Tryz.prog 9 9 (.str s) = some (.str s) := by unfold convPV; simp only [Tryz.underlying9]
/-- A byte of a text. -/
theorem ixT {l : List UInt8} {k : IntKind} {i : Nat} {c : UInt8} (h : l[i]? = some c) : indexPV Tryz.prog 9 (.str ⟨l.toArray⟩) (.int k (i : Int)) = some (.int .u8 c.toNat) := by
 unfold indexPV
 simp only [Tryz.underlying9]
 have hl : i < l.length := (List.getElem?_eq_some_iff.1 h).1
 have hv : l[i] = c := (List.getElem?_eq_some_iff.1 h).2
 rw [dif_pos ⟨by omega, by rw [size_txt]; omega⟩]
 congr 2
 subst hv
 rfl
theorem ixT0 {l : List UInt8} {k : IntKind} {c : UInt8} (h : l[0]? = some c) : indexPV Tryz.prog 9 (.str ⟨l.toArray⟩) (.int k 0) = some (.int .u8 c.toNat) := ixT (i := 0) h
theorem strAdd {a b : List UInt8} (h : a.length + b.length ≤ 2 ^ 62) : strBin .add ⟨a.toArray⟩ ⟨b.toArray⟩ = some (.str ⟨(a ++ b).toArray⟩) := by
 unfold strBin
 simp only
 rw [if_pos (by rw [size_txt, size_txt]; exact h)]
 congr 2
 try (apply ByteArray.ext; simp [ByteArray.data_append])
theorem txt_eq {a b : List UInt8} : ((⟨a.toArray⟩ : ByteArray) == ⟨b.toArray⟩) = decide (a = b) := by
 have e : ((⟨a.toArray⟩ : ByteArray) == ⟨b.toArray⟩) = (a.toArray == b.toArray) := rfl
 rw [e, Bool.eq_iff_iff, beq_iff_eq, decide_eq_true_eq]
 simp
theorem strEql {a b : List UInt8} : strBin .eql ⟨a.toArray⟩ ⟨b.toArray⟩ = some (.bool (decide (a = b))) := by unfold strBin; simp only [txt_eq]
theorem strNeq {a b : List UInt8} : strBin .neq ⟨a.toArray⟩ ⟨b.toArray⟩ = some (.bool (!decide (a = b))) := by unfold strBin; simp only [bne, txt_eq]
theorem okC_txt {xs : List (List UInt8)} : okC 1 (xs.map txt) = True := okC_map fun x => by simp [okC, PV.cells, PV.scalar]
theorem cA_txt {a b c : Nat} {xs : List (List UInt8)} : CleanAll a b c (xs.map txt) = True := CleanAll_map fun x => by simp only [go_sem]
theorem roL_txt {xs : List (List UInt8)} : PV.roL (xs.map txt) = xs.map txt := roL_enc fun x => by simp only [ro_str]
attribute [go_sem] lens9 size_txt List.size_toArray cvs9 extract_txt strEql strNeq okC_txt cA_txt roL_txt
theorem cvb {l : List PV} {o : Own} : convPV Tryz.prog 99 9 (.isl l o) = (bytesOfPV l).map fun ns => .str (bytesStr ns) := by unfold convPV; simp only [Tryz.underlying99, Tryz.underlying9, Tryz.underlying5]
attribute [go_sem] cvb
theorem sllT {xs : List (List UInt8)} {own : Own} {k : IntKind} {n : Int} : slicePV Tryz.prog 66 (.isl (xs.map txt) own) (some (.int k n)) none none = if 0 ≤ n then if n.toNat ≤ xs.length then some (.isl ((xs.drop n.toNat).map txt) own) else none else none := slLo_of Tryz.underlying66 Tryz.underlying9 cells9 (fun _ => rfl) xs own k n
attribute [go_sem] sllT
theorem rdTxt : Rd Tryz.prog 9 fun p => ∃ l : List UInt8, p = txt l := (Rd.str Tryz.underlying9).mono fun p ⟨s, h, _⟩ => ⟨s.data.toList, by rw [h]⟩
theorem rdIntB : Rd Tryz.prog 3 fun p => ∃ n : Int, p = I n ∧ -9223372036854775808 ≤ n ∧ n ≤ 9223372036854775807 := (Rd.int Tryz.underlying3).mono fun _ ⟨n, h, h1, h2⟩ => ⟨n, h, h1, h2⟩
theorem rdByte : Rd Tryz.prog 5 fun p => ∃ n : Int, p = .int .u8 n ∧ 0 ≤ n ∧ n ≤ 255 := (Rd.int Tryz.underlying5).mono fun _ ⟨n, h, h1, h2⟩ => ⟨n, h, h1, h2⟩
def has (l : List Int) (v : Int) : Bool := l.any fun x => decide (x = v)
theorem has_iff {l : List Int} {v : Int} : has l v = true ↔ v ∈ l := by simp [has]
/-- Who votes once. -/
abbrev Voice := Int × Int × Int
def vcPV (v : Voice) : PV := .agg [I v.1, I v.2.1, I v.2.2]
theorem clean_vc {a b c : Nat} (v : Voice) : Clean a b c (vcPV v) := .agg _ (Clean.all_cons (.int _ _) (Clean.all_cons (.int _ _) (Clean.all_cons (.int _ _) Clean.all_nil)))
theorem keyInt : KeyOK Tryz.prog 3 I := fun a b => by
 simp only [I, keyEq, if_true]
 congr 1
theorem intsEq3 {a b c d e f : Int} : intsEq [.int .i64 a, .int .i64 b, .int .i64 c] [.int .i64 d, .int .i64 e, .int .i64 f] = some ((a == d) && ((b == e) && ((c == f) && true))) := rfl
theorem eqF89 {a b c d e f : Int} : eqFieldsPV Tryz.prog [.int .i64 a, .int .i64 b, .int .i64 c] [.int .i64 d, .int .i64 e, .int .i64 f] (Tryz.prog.fieldsOf 89).toList = some ((a == d) && ((b == e) && ((c == f) && true))) := by kernel_rfl
theorem keyVc : KeyOK Tryz.prog 89 vcPV := fun x y => by
 obtain ⟨a, b, c⟩ := x
 obtain ⟨d, e, f⟩ := y
 have hf : ∃ fs, Tryz.prog.underlying 89 = some (.struct fs) := ⟨_, Tryz.underlying89⟩
 obtain ⟨fs, hf⟩ := hf
 have e1 : Tryz.prog.fieldsOf 89 = fs := by simp [Program.fieldsOf, hf]
 have := eqF89 (a := a) (b := b) (c := c) (d := d) (e := e) (f := f)
 rw [e1] at this
 simp only [vcPV, I, keyEq, hf, intsEq3, this]
 rw [if_pos ⟨by kernel_rfl, trivial⟩]
 refine congrArg some ?_
 rw [Bool.and_true, Bool.eq_iff_iff]
 simp [Prod.ext_iff]
theorem lk84 {σ : Sg} {id : Nat} {a b c : Int} {ok : Bool} : lookupPV Tryz.prog σ 84 (.map id) (.agg [.int .i64 a, .int .i64 b, .int .i64 c]) ok = lkX Tryz.prog 89 (I 0) σ id (.agg [.int .i64 a, .int .i64 b, .int .i64 c]) ok := lk_of Tryz.underlying84 Tryz.underlying89 (by kernel_rfl) (by kernel_rfl) σ id ok
theorem up84 {σ : Sg} {id : Nat} {a b c : Int} {v : PV} : updatePV Tryz.prog σ 84 (.map id) (.agg [.int .i64 a, .int .i64 b, .int .i64 c]) v = upX Tryz.prog 89 σ id (.agg [.int .i64 a, .int .i64 b, .int .i64 c]) v := up_of Tryz.underlying84 Tryz.underlying89 (by kernel_rfl) v σ id
theorem lkV {m : List (Voice × Int)} {a b c : Int} {ok : Bool} : lkM Tryz.prog 89 (I 0) (some (some (.mark :: mapE vcPV I m))) (.agg [.int .i64 a, .int .i64 b, .int .i64 c]) ok = some (packPV ok (I ((aget (a, b, c) m).getD 0)) (aget (a, b, c) m).isSome) := by
 have := lkM_map (z := I 0) keyVc I m (a, b, c) ok
 simp only [vcPV, I] at this ⊢
 rw [this]
 cases aget (a, b, c) m <;> rfl
theorem upV {m : List (Voice × Int)} {a b c v : Int} : upM Tryz.prog 89 (some (some (.mark :: mapE vcPV I m))) (.agg [.int .i64 a, .int .i64 b, .int .i64 c]) (.int .i64 v) = some (.mark :: mapE vcPV I (aput (a, b, c) v m)) := upM_map keyVc I m (a, b, c) v
theorem CleanAll_mapV {a b c : Nat} {l : List (Voice × Int)} : CleanAll a b c (mapE vcPV I l) = True := CleanAll_mapE clean_vc (fun _ => .int _ _)
theorem lk77 {σ : Sg} {id : Nat} {k : Int} {ok : Bool} : lookupPV Tryz.prog σ 77 (.map id) (.int .i64 k) ok = lkX Tryz.prog 3 (.bool false) σ id (.int .i64 k) ok := lk_of Tryz.underlying77 Tryz.underlying3 (by kernel_rfl) rfl σ id ok
theorem up77 {σ : Sg} {id : Nat} {k : Int} {v : PV} : updatePV Tryz.prog σ 77 (.map id) (.int .i64 k) v = upX Tryz.prog 3 σ id (.int .i64 k) v := up_of Tryz.underlying77 Tryz.underlying3 rfl v σ id
theorem lkB {m : List (Int × Bool)} {k : Int} {ok : Bool} : lkM Tryz.prog 3 (.bool false) (some (some (.mark :: mapE I PV.bool m))) (.int .i64 k) ok = some (packPV ok (.bool ((aget k m).getD false)) (aget k m).isSome) := by
 have := lkM_map (z := .bool false) keyInt PV.bool m k ok
 simp only [I] at this ⊢
 rw [this]
 cases aget k m <;> rfl
theorem upB {m : List (Int × Bool)} {k : Int} {v : Bool} : upM Tryz.prog 3 (some (some (.mark :: mapE I PV.bool m))) (.int .i64 k) (.bool v) = some (.mark :: mapE I PV.bool (aput k v m)) := upM_map keyInt PV.bool m k v
theorem CleanAll_mapB {a b c : Nat} {l : List (Int × Bool)} : CleanAll a b c (mapE I PV.bool l) = True := CleanAll_mapE (fun _ => .int _ _) (fun _ => .bool _)
theorem packT {v : PV} {b : Bool} : packPV true v b = .tuple [v, .bool b] := rfl
theorem packF {v : PV} {b : Bool} : packPV false v b = v := rfl
theorem evN_tmp {E : Env} {t : Nat} : evN E (.tmp t) = E.get t := rfl
theorem evN_int {E : Env} {k : IntKind} {n : Int} : evN E (.const (.int k n)) = .int k n := rfl
theorem evN_bool {E : Env} {b : Bool} : evN E (.const (.bool b)) = .bool b := rfl
theorem evN_nil {E : Env} : evN E (.const (.slice none 0 0)) = .nilsl := rfl
theorem sll42 {xs : List Int} {own : Own} {k : IntKind} {n : Int} : slicePV Tryz.prog 42 (.isl (xs.map I) own) (some (.int k n)) none none = if 0 ≤ n then if n.toNat ≤ xs.length then some (.isl ((xs.drop n.toNat).map I) own) else none else none := slLo_of Tryz.underlying42 Tryz.underlying3 cells3 (fun _ => rfl) xs own k n
theorem slb42 {xs : List Int} {own : Own} {k k' : IntKind} {n m : Int} : slicePV Tryz.prog 42 (.isl (xs.map I) own) (some (.int k n)) (some (.int k' m)) none = if 0 ≤ n then if 0 ≤ m then if n.toNat ≤ m.toNat ∧ m.toNat ≤ xs.length then some (.isl (((xs.drop n.toNat).take (m.toNat - n.toNat)).map I) (sliceOwn own n.toNat m.toNat xs.length)) else none else none else none := slBoth_of Tryz.underlying42 Tryz.underlying3 cells3 (fun _ => rfl) xs own k k' n m
attribute [go_sem] sll42 slb42 lk84 up84 lkV upV CleanAll_mapV lk77 up77 lkB upB CleanAll_mapB packT packF evN_tmp evN_int evN_bool evN_nil lkX_ext lkX_ext0 upX_ext upX_ext0 lkX_svx Cl_map Cl_nilmap Cl_mark Cl_gsl Cl_gnil setI setB
theorem inR_true {n lo hi : Int} : inR n lo hi = true ↔ lo ≤ n ∧ n ≤ hi := by simp [inR]
theorem allIn_nil {lo hi : Int} : allIn lo hi [] = true := rfl
theorem allIn_cons {lo hi x : Int} {l : List Int} : allIn lo hi (x :: l) = (inR x lo hi && allIn lo hi l) := rfl
/-- The first place of a number, or -1. -/
def fIdx {α : Type} (q : α → Bool) : Nat → List α → Int
 | _, [] => -1
 | i, x :: l => if q x then (i : Int) else fIdx q (i + 1) l
theorem fIdx_anyi {α : Type} (q : α → Bool) : ∀ (l : List α) (i : Nat), decide (0 ≤ fIdx q i l) = l.any q := by
 intro l
 induction l with
 | nil => intro i; simp [fIdx]
 | cons x l ih =>
  intro i
  by_cases h : q x = true
  ·have e : fIdx q i (x :: l) = (i : Int) := by simp only [fIdx]; rw [if_pos h]
   rw [e]; simp [h]
  have e : fIdx q i (x :: l) = fIdx q (i + 1) l := by simp only [fIdx]; rw [if_neg h]
  rw [e, ih (i + 1), List.any_cons]
  have h' : q x = false := by simpa using h
  rw [h', Bool.false_or]
theorem has_comm (l : List Int) (v : Int) : (l.any fun x => decide (v = x)) = has l v := by
 unfold has
 congr 1
 funext x
 rw [Bool.eq_iff_iff]
 simp [eq_comm]
theorem fIdx_any {α : Type} (q : α → Bool) (l : List α) : decide (0 ≤ fIdx q 0 l) = l.any q := fIdx_anyi q l 0
set_option maxHeartbeats 2000000 in
theorem in_pc (Y : YEnv) (σ : Sg) (lw hg : Int) (l : List Int) (o : Own) (hl : l.length < 2 ^ 62) :
 PC Tryz.prog Y 35 [I lw, I hg, intsO o l] σ (.bool (allIn lw hg l)) (σ) := by
 refine PC_of_W Tryz.func35 rfl (by kernel_rfl) Tryz.ntmps35 (by simp) fun hcl hca => ?_
 obtain ⟨res, hres⟩ : ∃ r, allIn lw hg l = r := ⟨_, rfl⟩
 rw [hres]
 refine W_sr [0, 1, 2] fun R hR => ?_
 simp only [go_sem]
 refine hR _ _ ?_; clear hR R
 try simp only [go_sem]
 refine W_seq fun Z2 K2 => ?_
 refine W_sr [0, 1, 9, 10, 11] fun R hR => ?_
 simp only [go_sem]
 refine hR _ _ ?_; clear hR R
 try simp only [go_sem]
 refine W_block ?_
 refine W_loopS (α := Nat) (fun (i : Nat) => [(11, I i)]) (fun (i : Nat) => i ≤ l.length ∧ res = allIn lw hg (l.drop i)) (fun (i : Nat) => l.length - i) (0) rfl (⟨Nat.zero_le _, hres.symm⟩) ?_
 rintro i ⟨hi, hinv⟩
 refine W_sr [0, 1, 9, 10, 11, 12] fun R hR => ?_
 simp only [go_sem]
 refine hR _ _ ?_; clear hR R
 try simp only [go_sem]
 refine W_seq fun Z5 K5 => ?_
 refine W_cond rfl (fun c1 => ?_) (fun c1 => ?_)
 ·
  try simp only [nrm] at c1
  have hi' : i < l.length := by first | assumption | omega
  obtain ⟨x, hx⟩ : ∃ x, l[i]? = some x := ⟨l[i], by simp [hi']⟩
  have hdrop : l.drop i = x :: l.drop (i + 1) := by
   rw [List.drop_eq_getElem_cons hi']; congr 1; exact (List.getElem?_eq_some_iff.1 hx).2
  rw [hdrop, allIn_cons] at hinv
  refine W_skip (K5 _ _ ?_)
  refine W_seq fun Z6 K6 => ?_
  refine W_block ?_
  refine W_sr [0, 1, 8, 9, 10, 11] fun R hR => ?_
  simp only [go_sem, hx]
  refine hR _ _ ?_; clear hR R
  try simp only [go_sem, hx]
  refine W_seq fun Z8 K8 => ?_
  refine W_regionJ [0, 1, 9, 10, 11, 22] [(22, .bool (!inR x lw hg))] ?_ fun R hR => ?_
  ·refine K8 _ _ ?_
   simp only [go_sem, hx]
   refine W_cond rfl (fun c2 => ?_) (fun c2 => ?_)
   ·
    try simp only [nrm] at c2
    refine W_sr [6] fun R hR => ?_
    simp only [go_sem, hx]
    refine hR _ _ ?_; clear hR R
    try simp only [go_sem, hx]
    refine W_ret ?_
    simp only [go_sem, hx]
    refine ⟨.inr (by trivial), ?_⟩
    first | refine Fsa hcl rfl ?_ | refine Fse hcl rfl ?_
    try simp only [go_sem]
    all_goals
     rw [hinv]; have c3 : inR x lw hg = false := by simpa using c2
     rw [c3, Bool.false_and]
   try simp only [nrm] at c2
   refine W_skip (K6 _ _ ?_)
   refine W_region [0, 1, 9, 10, 11] fun R hR => ?_
   simp only [go_sem, hx]
   try simp (disch := omega) only [wrapI, wrapU]
   refine hR _ _ ?_; clear hR R
   try simp only [go_sem, hx]
   refine ⟨i + 1, ?_, by (try simp only []); omega, ?_⟩
   ·first | exact Weak.refl | exact Wqq
   try dsimp only
   refine ⟨hi', ?_⟩
   rw [hinv]
   have c3 : inR x lw hg = true := by simpa using c2
   rw [c3, Bool.true_and]
  simp only [go_sem, hx]
  refine GWant_split (fun g1 => ?_) (fun g1 => ?_)
  ·try simp only [Bool.not_eq_true', Bool.not_eq_false'] at g1
   have n1 := g1; try simp only [nrm] at n1
   simp only [go_sem, hx, g1]
   refine hR _ ?_
   all_goals try simp only [go_sem, hx]
   all_goals
    first | rfl | (simp [inR, *]; done) | (congr 1; have hb : decide (hg < x) = !inR x lw hg := (by rw [Bool.eq_iff_iff]; simp [inR]; omega); simp [hb]; done) | (have hb : decide (hg < x) = !inR x lw hg := (by rw [Bool.eq_iff_iff]; simp [inR]; omega); simp only [hb]; first | done | rfl)
  try simp only [Bool.not_eq_true', Bool.not_eq_false'] at g1
  have n1 := g1; try simp only [nrm] at n1
  simp only [go_sem, hx, g1]
  refine hR _ ?_
  all_goals try simp only [go_sem, hx]
  all_goals
   first | rfl | (simp [inR, *]; done) | (congr 1; have hb : decide (hg < x) = !inR x lw hg := (by rw [Bool.eq_iff_iff]; simp [inR]; omega); simp [hb]; done) | (have hb : decide (hg < x) = !inR x lw hg := (by rw [Bool.eq_iff_iff]; simp [inR]; omega); simp only [hb]; first | done | rfl)
 try simp only [nrm] at c1
 have hdrop : l.drop i = [] := List.drop_eq_nil_of_le (by omega)
 rw [hdrop, allIn_nil] at hinv
 refine W_exit ?_
 simp only [go_sem]
 refine K2 _ _ ?_
 refine W_sr [6] fun R hR => ?_
 simp only [go_sem]
 refine hR _ _ ?_; clear hR R
 try simp only [go_sem]
 refine W_ret ?_
 simp only [go_sem]
 refine ⟨.inr (by trivial), ?_⟩
 first | refine Fsa hcl rfl ?_ | refine Fse hcl rfl ?_
 try simp only [go_sem]
 all_goals
  rw [hinv]
set_option maxHeartbeats 2000000 in
theorem index_pc (Y : YEnv) (σ : Sg) (l : List Int) (o : Own) (v : Int) (hl : l.length < 2 ^ 62) :
 PC Tryz.prog Y 45 [intsO o l, I v] σ (I (fIdx (fun x => decide (v = x)) 0 l)) (σ) := by
 refine PC_of_W Tryz.func45 rfl (by kernel_rfl) Tryz.ntmps45 (by simp) fun hcl hca => ?_
 refine W_sr [0, 1] fun R hR => ?_
 simp only [go_sem]
 refine hR _ _ ?_; clear hR R
 try simp only [go_sem]
 refine W_seq fun Z2 K2 => ?_
 refine W_sr [0, 1, 7, 8] fun R hR => ?_
 simp only [go_sem]
 refine hR _ _ ?_; clear hR R
 try simp only [go_sem]
 refine W_block ?_
 refine W_loopS (α := Nat) (fun (i : Nat) => [(8, I i)]) (fun (i : Nat) => i ≤ l.length ∧ fIdx (fun x => decide (v = x)) i (l.drop i) = fIdx (fun x => decide (v = x)) 0 l) (fun (i : Nat) => l.length - i) (0) rfl (⟨Nat.zero_le _, rfl⟩) ?_
 rintro i ⟨hi, hinv⟩
 refine W_sr [0, 1, 7, 8, 9] fun R hR => ?_
 simp only [go_sem]
 refine hR _ _ ?_; clear hR R
 try simp only [go_sem]
 refine W_seq fun Z5 K5 => ?_
 refine W_cond rfl (fun c1 => ?_) (fun c1 => ?_)
 ·
  try simp only [nrm] at c1
  have hi' : i < l.length := by first | assumption | omega
  obtain ⟨x, hx⟩ : ∃ x, l[i]? = some x := ⟨l[i], by simp [hi']⟩
  have hdrop : l.drop i = x :: l.drop (i + 1) := by
   rw [List.drop_eq_getElem_cons hi']; congr 1; exact (List.getElem?_eq_some_iff.1 hx).2
  rw [hdrop] at hinv
  simp only [fIdx] at hinv
  refine W_skip (K5 _ _ ?_)
  refine W_seq fun Z6 K6 => ?_
  refine W_block ?_
  refine W_sr [0, 1, 5, 7, 8] fun R hR => ?_
  simp only [go_sem, hx]
  refine hR _ _ ?_; clear hR R
  try simp only [go_sem, hx]
  refine W_sr [0, 1, 5, 7, 8, 16] fun R hR => ?_
  simp only [go_sem, hx]
  refine hR _ _ ?_; clear hR R
  try simp only [go_sem, hx]
  refine W_cond rfl (fun c2 => ?_) (fun c2 => ?_)
  ·
   try simp only [nrm] at c2
   refine W_sr [4] fun R hR => ?_
   simp only [go_sem, hx]
   refine hR _ _ ?_; clear hR R
   try simp only [go_sem, hx]
   refine W_ret ?_
   simp only [go_sem, hx]
   refine ⟨.inr (by trivial), ?_⟩
   first | refine Fsa hcl rfl ?_ | refine Fse hcl rfl ?_
   try simp only [go_sem]
   all_goals
    first | rfl | (simp_all; done) | (simp_all; omega)
  try simp only [nrm] at c2
  refine W_skip (K6 _ _ ?_)
  refine W_region [0, 1, 7, 8] fun R hR => ?_
  simp only [go_sem, hx]
  try simp (disch := omega) only [wrapI, wrapU]
  refine hR _ _ ?_; clear hR R
  try simp only [go_sem, hx]
  refine ⟨i + 1, ?_, by (try simp only []); omega, ?_⟩
  ·first | exact Weak.refl | exact Wqq
  try dsimp only
  exact ⟨hi', by simp_all⟩
 try simp only [nrm] at c1
 have hdrop : l.drop i = [] := List.drop_eq_nil_of_le (by omega)
 rw [hdrop] at hinv
 simp only [fIdx] at hinv
 refine W_exit ?_
 simp only [go_sem]
 refine K2 _ _ ?_
 refine W_sr [4] fun R hR => ?_
 simp only [go_sem]
 refine hR _ _ ?_; clear hR R
 try simp only [go_sem]
 refine W_ret ?_
 simp only [go_sem]
 refine ⟨.inr (by trivial), ?_⟩
 first | refine Fsa hcl rfl ?_ | refine Fse hcl rfl ?_
 try simp only [go_sem]
 all_goals
  first | rfl | (simp_all; done) | (simp_all; omega)
set_option maxHeartbeats 2000000 in
theorem contains_pc (Y : YEnv) (σ : Sg) (l : List Int) (o : Own) (v : Int) (hl : l.length < 2 ^ 62) :
 PC Tryz.prog Y 40 [intsO o l, I v] σ (.bool (has l v)) (σ) := by
 refine PC_of_W Tryz.func40 rfl (by kernel_rfl) Tryz.ntmps40 (by simp) fun hcl hca => ?_
 refine W_sr [0, 1] fun R hR => ?_
 simp only [go_sem]
 refine hR _ _ ?_; clear hR R
 try simp only [go_sem]
 refine W_sr [4] fun R hR => ?_
 simp only [go_sem]
 refine GCall_of (index_pc Y _ l o v hl) ?_
 simp only [go_sem]
 refine hR _ _ ?_; clear hR R
 try simp only [go_sem]
 refine W_ret ?_
 simp only [go_sem]
 refine ⟨.inr (by trivial), ?_⟩
 first | refine Fsa hcl rfl ?_ | refine Fse hcl rfl ?_
 try simp only [go_sem]
 all_goals
  simp only [fIdx_any, has_comm, go_sem]
set_option maxHeartbeats 2000000 in
theorem within_pc (Y : YEnv) (σ : Sg) (n lo hi : Int) :
 PC Tryz.prog Y 95 [I n, I lo, I hi] σ (.bool (inR n lo hi)) (σ) := by
 refine PC_of_W Tryz.func95 rfl (by kernel_rfl) Tryz.ntmps95 (by simp) fun hcl hca => ?_
 refine W_sr [0, 1, 2] fun R hR => ?_
 simp only [go_sem]
 refine hR _ _ ?_; clear hR R
 try simp only [go_sem]
 refine W_sr [6] fun R hR => ?_
 simp only [go_sem]
 refine GWant_split (fun g1 => ?_) (fun g1 => ?_)
 ·try simp only [Bool.not_eq_true', Bool.not_eq_false'] at g1
  have n1 := g1; try simp only [nrm] at n1
  simp only [go_sem, g1]
  refine hR _ _ ?_; clear hR R
  try simp only [go_sem]
  refine W_ret ?_
  simp only [go_sem]
  refine ⟨.inr (by trivial), ?_⟩
  first | refine Fsa hcl rfl ?_ | refine Fse hcl rfl ?_
  try simp only [go_sem]
  all_goals
   simp [inR, *]
 try simp only [Bool.not_eq_true', Bool.not_eq_false'] at g1
 have n1 := g1; try simp only [nrm] at n1
 simp only [go_sem, g1]
 refine hR _ _ ?_; clear hR R
 try simp only [go_sem]
 refine W_ret ?_
 simp only [go_sem]
 refine ⟨.inr (by trivial), ?_⟩
 first | refine Fsa hcl rfl ?_ | refine Fse hcl rfl ?_
 try simp only [go_sem]
 all_goals
  simp [inR, *]
set_option maxHeartbeats 2000000 in
theorem EqInts_pc (Y : YEnv) (σ : Sg) (xs ys : List Int) (o o2 : Own) (hx : xs.length < 2 ^ 50) :
 PC Tryz.prog Y 19 [.isl (xs.map I) o, .isl (ys.map I) o2] σ (.bool (decide (xs = ys))) (σ) := by
 refine PC_of_W Tryz.func19 rfl (by kernel_rfl) Tryz.ntmps19 (by simp) fun hcl hca => ?_
 refine W_sr [0, 1] fun R hR => ?_
 simp only [go_sem]
 refine hR _ _ ?_; clear hR R
 try simp only [go_sem]
 refine W_seq fun Z2 K2 => ?_
 refine W_sr [0, 1, 10] fun R hR => ?_
 simp only [go_sem]
 refine hR _ _ ?_; clear hR R
 try simp only [go_sem]
 refine W_cond rfl (fun c1 => ?_) (fun c1 => ?_)
 ·
  try simp only [nrm] at c1
  refine W_sr [4] fun R hR => ?_
  simp only [go_sem]
  refine hR _ _ ?_; clear hR R
  try simp only [go_sem]
  refine W_ret ?_
  simp only [go_sem]
  refine ⟨.inr (by trivial), ?_⟩
  first | refine Fsa hcl rfl ?_ | refine Fse hcl rfl ?_
  try simp only [go_sem]
  all_goals
   simp; intro h; subst h; exact c1 rfl
 try simp only [nrm] at c1
 refine W_skip (K2 _ _ ?_)
 refine W_seq fun Z5 K5 => ?_
 refine W_sr [0, 1, 5] fun R hR => ?_
 simp only [go_sem]
 refine hR _ _ ?_; clear hR R
 try simp only [go_sem]
 refine W_block ?_
 refine W_loopS (α := Nat) (fun (i : Nat) => [(5, I i)]) (fun (i : Nat) => i ≤ xs.length ∧ xs.take i = ys.take i) (fun (i : Nat) => xs.length - i) (0) rfl (⟨Nat.zero_le _, rfl⟩) ?_
 rintro i ⟨hi, ht⟩
 refine W_seq fun Z7 K7 => ?_
 refine W_sr [0, 1, 5, 14] fun R hR => ?_
 simp only [go_sem]
 refine hR _ _ ?_; clear hR R
 try simp only [go_sem]
 refine W_cond rfl (fun c2 => ?_) (fun c2 => ?_)
 ·
  try simp only [nrm] at c2
  have hi' : i < xs.length := by first | assumption | omega
  obtain ⟨x, hxi⟩ : ∃ x, xs[i]? = some x := ⟨xs[i], by simp⟩
  obtain ⟨y, hyi⟩ : ∃ y, ys[i]? = some y := ⟨ys[i]'(by omega), by simp⟩
  refine W_skip (K7 _ _ ?_)
  refine W_seq fun Z9 K9 => ?_
  refine W_block ?_
  refine W_seq fun Z10 K10 => ?_
  refine W_draw [0, 1, 5, 25] [0, 1, 2, 3, 4, 5, 6, 7, 8] [] [[], [], [0, 1], [0, 1, 2], [], [], [4, 5], [4, 5, 6], [0, 1, 2, 3, 4, 5, 6, 7]] mixed (by kernel_rfl) fun R hR => ?_
  simp only [go_sem, hxi, hyi]
  try refine And.intro (by repeat' (first | refine And.intro ?_ ?_ | exact GOr_right (fun _ => by simp only [go_sem, hxi, hyi]))) ?_
  refine hR _ _ (K10 _ _ ?_); clear hR R; try clear K10 Z10
  try simp only [go_sem, hxi, hyi]
  refine W_cond rfl (fun c3 => ?_) (fun c3 => ?_)
  ·
   try simp only [nrm] at c3
   refine W_sr [4] fun R hR => ?_
   simp only [go_sem, hxi, hyi]
   refine hR _ _ ?_; clear hR R
   try simp only [go_sem, hxi, hyi]
   refine W_ret ?_
   simp only [go_sem, hxi, hyi]
   refine ⟨.inr (by trivial), ?_⟩
   first | refine Fsa hcl rfl ?_ | refine Fse hcl rfl ?_
   try simp only [go_sem]
   all_goals
    simp; intro h; subst h; rw [hxi] at hyi; injection hyi with h; exact c3 h
  try simp only [nrm] at c3
  refine W_skip (K9 _ _ ?_)
  refine W_region [0, 1, 5] fun R hR => ?_
  simp only [go_sem, hxi, hyi]
  try simp (disch := omega) only [wrapI, wrapU]
  refine hR _ _ ?_; clear hR R
  try simp only [go_sem, hxi, hyi]
  refine ⟨i + 1, ?_, by (try simp only []); omega, ?_⟩
  ·first | exact Weak.refl | exact Wqq
  try dsimp only
  refine ⟨hi', ?_⟩
  rw [List.take_add_one, List.take_add_one, ht, hxi, hyi, c3]
 try simp only [nrm] at c2
 have hie : i = xs.length := by omega
 subst hie
 have hxy : xs = ys := by rw [List.take_length] at ht; rw [c1, List.take_length] at ht; exact ht
 refine W_exit ?_
 simp only [go_sem]
 refine K5 _ _ ?_
 refine W_sr [4] fun R hR => ?_
 simp only [go_sem]
 refine hR _ _ ?_; clear hR R
 try simp only [go_sem]
 refine W_ret ?_
 simp only [go_sem]
 refine ⟨.inr (by trivial), ?_⟩
 first | refine Fsa hcl rfl ?_ | refine Fse hcl rfl ?_
 try simp only [go_sem]
 all_goals
  simp [hxy]
def chkRd (s : Int) (r : Rnd) : Bool := allIn 0 1000 [r.jury, r.member] && allIn 1 s [r.keep]
def chkRds : Int → List Rnd → Int
 | s, [] => if s = 1 then 0 else 1
 | s, r :: l => if !(chkRd s r) then 2 else chkRds r.keep l
def chkCn0 (c : Contest) : Bool := allIn 1 8 [c.songs] && allIn 0 8 [c.juries] && allIn 0 1000 [c.members] && allIn 0 100 [c.most]
/-- The error of a contest. -/
def chkCn (c : Contest) : Int := if !(chkCn0 c) then 2 else if c.rounds.length = 0 then 4 else if (c.rounds.length : Int) > 4 then 5 else chkRds c.songs c.rounds
set_option maxHeartbeats 4000000 in
theorem Check_pc (Y : YEnv) (σ : Sg) (c : Contest) (hr : c.rounds.length < 2 ^ 40) :
 PC Tryz.prog Y 9 [cnPV c] σ (I (chkCn c)) (σ) := by
 refine PC_of_W Tryz.func9 rfl (by kernel_rfl) Tryz.ntmps9 (by simp) fun hcl hca => ?_
 obtain ⟨res, hres⟩ : ∃ r, chkCn c = r := ⟨_, rfl⟩
 rw [hres]
 refine W_sr [1] fun R hR => ?_
 simp only [go_sem, cnCells]
 refine hR _ _ ?_; clear hR R
 try simp only [go_sem, cnCells]
 refine W_seq fun Z2 K2 => ?_
 refine W_block ?_
 refine W_seq fun Z3 K3 => ?_
 refine W_sr [1, 6] fun R hR => ?_
 simp only [go_sem, cnCells]
 refine GCall_of (in_pc Y _ 1 8 [c.songs] .exact (by simp)) ?_
 simp only [go_sem, cnCells]
 refine hR _ _ ?_; clear hR R
 try simp only [go_sem, cnCells]
 refine W_cond rfl (fun c1 => ?_) (fun c1 => ?_)
 ·
  try simp only [nrm] at c1
  refine W_skip (K3 _ _ ?_)
  refine W_cond_true (by first | rfl | (simp only [go_sem]; simp [c1])) ?_
  refine W_sr [2] fun R hR => ?_
  simp only [go_sem, cnCells]
  refine hR _ _ ?_; clear hR R
  try simp only [go_sem, cnCells]
  refine W_ret ?_
  simp only [go_sem, cnCells]
  refine ⟨.inr (by trivial), ?_⟩
  first | refine Fsa hcl rfl ?_ | refine Fse hcl rfl ?_
  try simp only [go_sem]
  all_goals
   first | rfl | (simp_all; done) | (simp_all; omega) | (rw [← hres]; simp only [chkCn, chkCn0]; (repeat' split) <;> ((first | rfl | omega | (simp_all; done) | (simp_all; omega))))
 try simp only [nrm] at c1
 refine W_sr [1, 6] fun R hR => ?_
 simp only [go_sem, cnCells]
 refine GCall_of (in_pc Y _ 0 8 [c.juries] .exact (by simp)) ?_
 simp only [go_sem, cnCells]
 refine hR _ _ ?_; clear hR R
 try simp only [go_sem, cnCells]
 refine W_cond rfl (fun c2 => ?_) (fun c2 => ?_)
 ·
  try simp only [nrm] at c2
  refine W_skip (K3 _ _ ?_)
  refine W_cond_true (by first | rfl | (simp only [go_sem]; simp [c2])) ?_
  refine W_sr [2] fun R hR => ?_
  simp only [go_sem, cnCells]
  refine hR _ _ ?_; clear hR R
  try simp only [go_sem, cnCells]
  refine W_ret ?_
  simp only [go_sem, cnCells]
  refine ⟨.inr (by trivial), ?_⟩
  first | refine Fsa hcl rfl ?_ | refine Fse hcl rfl ?_
  try simp only [go_sem]
  all_goals
   first | rfl | (simp_all; done) | (simp_all; omega) | (rw [← hres]; simp only [chkCn, chkCn0]; (repeat' split) <;> ((first | rfl | omega | (simp_all; done) | (simp_all; omega))))
 try simp only [nrm] at c2
 refine W_sr [1, 6] fun R hR => ?_
 simp only [go_sem, cnCells]
 refine GCall_of (in_pc Y _ 0 1000 [c.members] .exact (by simp)) ?_
 simp only [go_sem, cnCells]
 refine hR _ _ ?_; clear hR R
 try simp only [go_sem, cnCells]
 refine W_cond rfl (fun c3 => ?_) (fun c3 => ?_)
 ·
  try simp only [nrm] at c3
  refine W_skip (K3 _ _ ?_)
  refine W_cond_true (by first | rfl | (simp only [go_sem]; simp [c3])) ?_
  refine W_sr [2] fun R hR => ?_
  simp only [go_sem, cnCells]
  refine hR _ _ ?_; clear hR R
  try simp only [go_sem, cnCells]
  refine W_ret ?_
  simp only [go_sem, cnCells]
  refine ⟨.inr (by trivial), ?_⟩
  first | refine Fsa hcl rfl ?_ | refine Fse hcl rfl ?_
  try simp only [go_sem]
  all_goals
   first | rfl | (simp_all; done) | (simp_all; omega) | (rw [← hres]; simp only [chkCn, chkCn0]; (repeat' split) <;> ((first | rfl | omega | (simp_all; done) | (simp_all; omega))))
 try simp only [nrm] at c3
 refine W_region [1, 6] fun R hR => ?_
 simp only [go_sem, cnCells]
 refine GCall_of (in_pc Y _ 0 100 [c.most] .exact (by simp)) ?_
 simp only [go_sem, cnCells]
 refine hR _ _ (K3 _ _ ?_); clear hR R; try clear K3 Z3
 try simp only [go_sem, cnCells]
 refine W_cond rfl (fun c4 => ?_) (fun c4 => ?_)
 ·
  try simp only [nrm] at c4
  refine W_sr [2] fun R hR => ?_
  simp only [go_sem, cnCells]
  refine hR _ _ ?_; clear hR R
  try simp only [go_sem, cnCells]
  refine W_ret ?_
  simp only [go_sem, cnCells]
  refine ⟨.inr (by trivial), ?_⟩
  first | refine Fsa hcl rfl ?_ | refine Fse hcl rfl ?_
  try simp only [go_sem]
  all_goals
   first | rfl | (simp_all; done) | (simp_all; omega) | (rw [← hres]; simp only [chkCn, chkCn0]; (repeat' split) <;> ((first | rfl | omega | (simp_all; done) | (simp_all; omega))))
 try simp only [nrm] at c4
 refine W_sr [1, 27] fun R hR => ?_
 simp only [go_sem, cnCells]
 refine hR _ _ ?_; clear hR R
 try simp only [go_sem, cnCells]
 refine W_cond rfl (fun c5 => ?_) (fun c5 => ?_)
 ·
  try simp only [nrm] at c5
  refine W_sr [2] fun R hR => ?_
  simp only [go_sem, cnCells]
  refine hR _ _ ?_; clear hR R
  try simp only [go_sem, cnCells]
  refine W_ret ?_
  simp only [go_sem, cnCells]
  refine ⟨.inr (by trivial), ?_⟩
  first | refine Fsa hcl rfl ?_ | refine Fse hcl rfl ?_
  try simp only [go_sem]
  all_goals
   first | rfl | (simp_all; done) | (simp_all; omega) | (rw [← hres]; simp only [chkCn, chkCn0]; (repeat' split) <;> ((first | rfl | omega | (simp_all; done) | (simp_all; omega))))
 try simp only [nrm] at c5
 refine W_sr [1, 32] fun R hR => ?_
 simp only [go_sem, cnCells]
 refine hR _ _ ?_; clear hR R
 try simp only [go_sem, cnCells]
 refine W_cond rfl (fun c6 => ?_) (fun c6 => ?_)
 ·
  try simp only [nrm] at c6
  refine W_sr [2] fun R hR => ?_
  simp only [go_sem, cnCells]
  refine hR _ _ ?_; clear hR R
  try simp only [go_sem, cnCells]
  refine W_ret ?_
  simp only [go_sem, cnCells]
  refine ⟨.inr (by trivial), ?_⟩
  first | refine Fsa hcl rfl ?_ | refine Fse hcl rfl ?_
  try simp only [go_sem]
  all_goals
   first | rfl | (simp_all; done) | (simp_all; omega) | (rw [← hres]; simp only [chkCn, chkCn0]; (repeat' split) <;> ((first | rfl | omega | (simp_all; done) | (simp_all; omega))))
 try simp only [nrm] at c6
 refine W_skip (K2 _ _ ?_)
 refine W_sr [1, 3] fun R hR => ?_
 simp only [go_sem, cnCells]
 refine hR _ _ ?_; clear hR R
 try simp only [go_sem, cnCells]
 refine W_seq fun Z16 K16 => ?_
 refine W_sr [3, 40, 41, 42] fun R hR => ?_
 simp only [go_sem, cnCells]
 refine hR _ _ ?_; clear hR R
 try simp only [go_sem, cnCells]
 refine W_block ?_
 refine W_loopT (α := Nat × Int) (fun ⟨i, s⟩ => [(3, I s), (42, I i)]) (fun ⟨i, s⟩ => σ.ext [some (cnCells c)] []) (fun ⟨i, s⟩ => i ≤ c.rounds.length ∧ chkRds c.songs c.rounds = chkRds s (c.rounds.drop i)) (fun ⟨i, s⟩ => c.rounds.length - i) ((0, c.songs)) rfl (by first | rfl | (simp only [go_sem]; done) | (simp only [go_sem]; rfl)) (⟨Nat.zero_le _, rfl⟩) ?_
 rintro ⟨i, s⟩ ⟨hi, hinv⟩
 refine W_sr [3, 40, 41, 42, 43] fun R hR => ?_
 simp only [go_sem, cnCells]
 refine hR _ _ ?_; clear hR R
 try simp only [go_sem, cnCells]
 refine W_seq fun Z19 K19 => ?_
 refine W_cond rfl (fun c7 => ?_) (fun c7 => ?_)
 ·
  try simp only [nrm] at c7
  have hi' : i < c.rounds.length := by first | assumption | omega
  obtain ⟨r, hx⟩ : ∃ r, c.rounds[i]? = some r := ⟨c.rounds[i], by simp [hi']⟩
  have hdrop : c.rounds.drop i = r :: c.rounds.drop (i + 1) := by
   rw [List.drop_eq_getElem_cons hi']; congr 1; exact (List.getElem?_eq_some_iff.1 hx).2
  rw [hdrop] at hinv
  simp only [chkRds] at hinv
  refine W_skip (K19 _ _ ?_)
  refine W_seq fun Z20 K20 => ?_
  refine W_block ?_
  refine W_sr [3, 5, 40, 41, 42] fun R hR => ?_
  simp only [go_sem, cnCells, hx, rdCells, rdPV, List.getElem?_map]
  refine hR _ _ ?_; clear hR R
  try simp only [go_sem, cnCells, hx, rdCells, rdPV, List.getElem?_map]
  refine W_seq fun Z22 K22 => ?_
  refine W_seq fun Z23 K23 => ?_
  refine W_regionJ [5, 40, 41, 42, 60] [(60, .bool (!chkRd s r))] ?_ fun R hR => ?_
  ·refine K23 _ _ ?_
   simp only [go_sem, cnCells, hx, rdCells, rdPV, List.getElem?_map]
   refine W_cond rfl (fun c8 => ?_) (fun c8 => ?_)
   ·
    try simp only [nrm] at c8
    refine W_sr [2] fun R hR => ?_
    simp only [go_sem, cnCells, hx, rdCells, rdPV, List.getElem?_map]
    refine hR _ _ ?_; clear hR R
    try simp only [go_sem, cnCells, hx, rdCells, rdPV, List.getElem?_map]
    refine W_ret ?_
    simp only [go_sem, cnCells, hx, rdCells, rdPV, List.getElem?_map]
    refine ⟨.inr (by trivial), ?_⟩
    first | refine Fsa hcl rfl ?_ | refine Fse hcl rfl ?_
    try simp only [go_sem]
    all_goals
     first | rfl | (simp_all; done) | (simp_all; omega) | (rw [← hres]; simp only [chkCn, chkCn0]; (repeat' split) <;> ((first | rfl | omega | (simp_all; done) | (simp_all; omega))))
   try simp only [nrm] at c8
   refine W_skip (K22 _ _ ?_)
   refine W_region [3, 40, 41, 42] fun R hR => ?_
   simp only [go_sem, cnCells, hx, rdCells, rdPV, List.getElem?_map]
   refine hR _ _ (K20 _ _ ?_); clear hR R; try clear K20 Z20
   try simp only [go_sem, cnCells, hx, rdCells, rdPV, List.getElem?_map]
   refine W_region [3, 40, 41, 42] fun R hR => ?_
   simp only [go_sem, cnCells, hx, rdCells, rdPV, List.getElem?_map]
   try simp (disch := omega) only [wrapI, wrapU]
   refine hR _ _ ?_; clear hR R
   try simp only [go_sem, cnCells, hx, rdCells, rdPV, List.getElem?_map]
   refine ⟨(i + 1, r.keep), ?_, by (try simp only []); omega, ?_⟩
   ·refine Weak.trans (Weak.cutX 1 0 (by omega) (by omega) hcl (by simp only [go_sem] <;> omega) (by simp only [go_sem] <;> omega)) ?_
    simp only [go_sem]
    exact Weak.eq (by first | rfl | (simp only [go_sem]; done) | (simp only [go_sem]; rfl) | (simp [go_sem]; done) | (simp [go_sem]; omega)) (by first | rfl | (simp only [go_sem]; done) | (simp [go_sem]; done))
   try dsimp only
   refine ⟨hi', ?_⟩
   rw [hinv]; simp [*]
  simp only [go_sem, cnCells, hx, rdCells, rdPV, List.getElem?_map]
  refine GCall_of (in_pc Y _ 0 1000 [r.jury, r.member] .exact (by simp)) ?_
  simp only [go_sem, cnCells, hx, rdCells, rdPV, List.getElem?_map]
  refine GWant_split (fun g1 => ?_) (fun g1 => ?_)
  ·try simp only [Bool.not_eq_true', Bool.not_eq_false'] at g1
   have n1 := g1; try simp only [nrm] at n1
   simp only [go_sem, cnCells, hx, rdCells, rdPV, List.getElem?_map, g1]
   refine GCall_of (in_pc Y _ 1 s [r.keep] .exact (by simp)) ?_
   simp only [go_sem, cnCells, hx, rdCells, rdPV, List.getElem?_map, g1]
   refine hR _ ?_
   all_goals try simp only [go_sem, cnCells, hx, rdCells, rdPV, List.getElem?_map]
   all_goals
    first | rfl | (simp [chkRd, *]; done) | (simp_all [chkRd]; done)
  try simp only [Bool.not_eq_true', Bool.not_eq_false'] at g1
  have n1 := g1; try simp only [nrm] at n1
  simp only [go_sem, cnCells, hx, rdCells, rdPV, List.getElem?_map, g1]
  refine hR _ ?_
  all_goals try simp only [go_sem, cnCells, hx, rdCells, rdPV, List.getElem?_map]
  all_goals
   first | rfl | (simp [chkRd, *]; done) | (simp_all [chkRd]; done)
 try simp only [nrm] at c7
 have hdrop : c.rounds.drop i = [] := List.drop_eq_nil_of_le (by omega)
 rw [hdrop] at hinv
 simp only [chkRds] at hinv
 refine W_exit ?_
 simp only [go_sem, cnCells]
 refine K16 _ _ ?_
 refine W_seq fun Z25 K25 => ?_
 refine W_sr [65] fun R hR => ?_
 simp only [go_sem, cnCells]
 refine hR _ _ ?_; clear hR R
 try simp only [go_sem, cnCells]
 refine W_cond rfl (fun c9 => ?_) (fun c9 => ?_)
 ·
  try simp only [nrm] at c9
  refine W_sr [2] fun R hR => ?_
  simp only [go_sem, cnCells]
  refine hR _ _ ?_; clear hR R
  try simp only [go_sem, cnCells]
  refine W_ret ?_
  simp only [go_sem, cnCells]
  refine ⟨.inr (by trivial), ?_⟩
  first | refine Fsa hcl rfl ?_ | refine Fse hcl rfl ?_
  try simp only [go_sem]
  all_goals
   first | rfl | (simp_all; done) | (simp_all; omega) | (rw [← hres]; simp only [chkCn, chkCn0]; (repeat' split) <;> ((first | rfl | omega | (simp_all; done) | (simp_all; omega))))
 try simp only [nrm] at c9
 refine W_skip (K25 _ _ ?_)
 refine W_sr [2] fun R hR => ?_
 simp only [go_sem, cnCells]
 refine hR _ _ ?_; clear hR R
 try simp only [go_sem, cnCells]
 refine W_ret ?_
 simp only [go_sem, cnCells]
 refine ⟨.inr (by trivial), ?_⟩
 first | refine Fsa hcl rfl ?_ | refine Fse hcl rfl ?_
 try simp only [go_sem]
 all_goals
  first | rfl | (simp_all; done) | (simp_all; omega) | (rw [← hres]; simp only [chkCn, chkCn0]; (repeat' split) <;> ((first | rfl | omega | (simp_all; done) | (simp_all; omega))))
theorem allIn1 {lo hi x : Int} : allIn lo hi [x] = inR x lo hi := by simp [allIn]
def unl (b : Bool) (e : Int) : Int := if b then 0 else e
def bl1 (c : Contest) (b : Ballot) : Int := unl (inR b.round 0 ((c.rounds.length : Int) - 1)) 2
def bl2 (b : Ballot) : Int := unl (inR b.kind 1 2) 3
def bl3 (c : Contest) (b : Ballot) : Int := unl (inR b.voter 0 ((if b.kind = 2 then c.members else c.juries) - 1)) 7
def bl4 (c : Contest) (b : Ballot) : Int := unl (inR b.song 0 (c.songs - 1)) 7
def bl5 (c : Contest) (b : Ballot) : Int := if b.kind = 2 then unl (b.points == 0) 1 else unl (inR b.points 0 c.most) 2
set_option maxHeartbeats 2000000 in
theorem unless_pc (Y : YEnv) (σ : Sg) (b : Bool) (e : Int) :
 PC Tryz.prog Y 66 [.bool b, I e] σ (I (unl b e)) (σ) := by
 refine PC_of_W Tryz.func66 rfl (by kernel_rfl) Tryz.ntmps66 (by simp) fun hcl hca => ?_
 refine W_sr [0, 1] fun R hR => ?_
 simp only [go_sem]
 refine hR _ _ ?_; clear hR R
 try simp only [go_sem]
 refine W_seq fun Z2 K2 => ?_
 refine W_sr [1, 5] fun R hR => ?_
 simp only [go_sem]
 refine hR _ _ ?_; clear hR R
 try simp only [go_sem]
 refine W_cond rfl (fun c1 => ?_) (fun c1 => ?_)
 ·
  try simp only [nrm] at c1
  refine W_sr [4] fun R hR => ?_
  simp only [go_sem]
  refine hR _ _ ?_; clear hR R
  try simp only [go_sem]
  refine W_ret ?_
  simp only [go_sem]
  refine ⟨.inr (by trivial), ?_⟩
  first | refine Fsa hcl rfl ?_ | refine Fse hcl rfl ?_
  try simp only [go_sem]
  all_goals
   first | rfl | (simp_all; done) | (simp_all; omega) | (simp only [unl]; (repeat' split) <;> ((first | rfl | omega | (simp_all; done) | (simp_all; omega))))
 try simp only [nrm] at c1
 refine W_skip (K2 _ _ ?_)
 refine W_sr [4] fun R hR => ?_
 simp only [go_sem]
 refine hR _ _ ?_; clear hR R
 try simp only [go_sem]
 refine W_ret ?_
 simp only [go_sem]
 refine ⟨.inr (by trivial), ?_⟩
 first | refine Fsa hcl rfl ?_ | refine Fse hcl rfl ?_
 try simp only [go_sem]
 all_goals
  first | rfl | (simp_all; done) | (simp_all; omega) | (simp only [unl]; (repeat' split) <;> ((first | rfl | omega | (simp_all; done) | (simp_all; omega))))
set_option maxHeartbeats 2000000 in
theorem bl1_pc (Y : YEnv) (σ : Sg) (c : Contest) (b : Ballot) (i1 i2 : Nat) (h1 : σ.store[i1]? = some (some (cnCells c))) (h2 : σ.store[i2]? = some (some (blCells b))) (hr : c.rounds.length < 2 ^ 40) :
 PC Tryz.prog Y 65 [.ptr i1 0, .ptr i2 0] σ (I (bl1 c b)) (σ) := by
 refine PC_of_W Tryz.func65 rfl (by kernel_rfl) Tryz.ntmps65 (by simp) fun hcl hca => ?_
 refine W_sr [0, 1] fun R hR => ?_
 simp only [go_sem, ldS_at h1, ldS_at h2, cnCells, blCells, allIn1]
 refine hR _ _ ?_; clear hR R
 try simp only [go_sem, ldS_at h1, ldS_at h2, cnCells, blCells, allIn1]
 refine W_sr [2] fun R hR => ?_
 simp only [go_sem, ldS_at h1, ldS_at h2, cnCells, blCells, allIn1]
 try simp (disch := omega) only [wrapI]
 try simp (disch := omega) only [wrapI, wrapU]
 refine GCall_of (in_pc Y _ 0 ((c.rounds.length : Int) - 1) [b.round] .exact (by simp)) ?_
 simp only [go_sem, ldS_at h1, ldS_at h2, cnCells, blCells, allIn1]
 try simp (disch := omega) only [wrapI, wrapU]
 refine GCall_of (unless_pc Y _ _ 2) ?_
 simp only [go_sem, ldS_at h1, ldS_at h2, cnCells, blCells, allIn1]
 try simp (disch := omega) only [wrapI, wrapU]
 refine hR _ _ ?_; clear hR R
 try simp only [go_sem, ldS_at h1, ldS_at h2, cnCells, blCells, allIn1]
 refine W_ret ?_
 simp only [go_sem, ldS_at h1, ldS_at h2, cnCells, blCells, allIn1]
 refine ⟨.inr (by trivial), ?_⟩
 first | refine Fsa hcl rfl ?_ | refine Fse hcl rfl ?_
 try simp only [go_sem]
 all_goals
  first | rfl | simp [bl1, allIn1]
set_option maxHeartbeats 2000000 in
theorem bl2_pc (Y : YEnv) (σ : Sg) (c : Contest) (b : Ballot) (i1 i2 : Nat) (h1 : σ.store[i1]? = some (some (cnCells c))) (h2 : σ.store[i2]? = some (some (blCells b))) :
 PC Tryz.prog Y 67 [.ptr i2 0] σ (I (bl2 b)) (σ) := by
 refine PC_of_W Tryz.func67 rfl (by kernel_rfl) Tryz.ntmps67 (by simp) fun hcl hca => ?_
 refine W_sr [0] fun R hR => ?_
 simp only [go_sem, ldS_at h1, ldS_at h2, cnCells, blCells, allIn1]
 refine hR _ _ ?_; clear hR R
 try simp only [go_sem, ldS_at h1, ldS_at h2, cnCells, blCells, allIn1]
 refine W_sr [1] fun R hR => ?_
 simp only [go_sem, ldS_at h1, ldS_at h2, cnCells, blCells, allIn1]
 refine GCall_of (in_pc Y _ 1 2 [b.kind] .exact (by simp)) ?_
 simp only [go_sem, ldS_at h1, ldS_at h2, cnCells, blCells, allIn1]
 refine GCall_of (unless_pc Y _ _ 3) ?_
 simp only [go_sem, ldS_at h1, ldS_at h2, cnCells, blCells, allIn1]
 refine hR _ _ ?_; clear hR R
 try simp only [go_sem, ldS_at h1, ldS_at h2, cnCells, blCells, allIn1]
 refine W_ret ?_
 simp only [go_sem, ldS_at h1, ldS_at h2, cnCells, blCells, allIn1]
 refine ⟨.inr (by trivial), ?_⟩
 first | refine Fsa hcl rfl ?_ | refine Fse hcl rfl ?_
 try simp only [go_sem]
 all_goals
  first | rfl | simp [bl2, allIn1]
set_option maxHeartbeats 2000000 in
theorem bl3_pc (Y : YEnv) (σ : Sg) (c : Contest) (b : Ballot) (i1 i2 : Nat) (h1 : σ.store[i1]? = some (some (cnCells c))) (h2 : σ.store[i2]? = some (some (blCells b))) (hm : -2 ^ 60 ≤ c.members ∧ c.members ≤ 2 ^ 60) (hj : -2 ^ 60 ≤ c.juries ∧ c.juries ≤ 2 ^ 60) :
 PC Tryz.prog Y 68 [.ptr i1 0, .ptr i2 0] σ (I (bl3 c b)) (σ) := by
 refine PC_of_W Tryz.func68 rfl (by kernel_rfl) Tryz.ntmps68 (by simp) fun hcl hca => ?_
 refine W_sr [0, 1] fun R hR => ?_
 simp only [go_sem, ldS_at h1, ldS_at h2, cnCells, blCells, allIn1]
 refine hR _ _ ?_; clear hR R
 try simp only [go_sem, ldS_at h1, ldS_at h2, cnCells, blCells, allIn1]
 refine W_sr [0, 1, 3] fun R hR => ?_
 simp only [go_sem, ldS_at h1, ldS_at h2, cnCells, blCells, allIn1]
 refine hR _ _ ?_; clear hR R
 try simp only [go_sem, ldS_at h1, ldS_at h2, cnCells, blCells, allIn1]
 refine W_seq fun Z3 K3 => ?_
 refine W_sr [0, 1, 3, 8] fun R hR => ?_
 simp only [go_sem, ldS_at h1, ldS_at h2, cnCells, blCells, allIn1]
 refine hR _ _ ?_; clear hR R
 try simp only [go_sem, ldS_at h1, ldS_at h2, cnCells, blCells, allIn1]
 refine W_cond rfl (fun c1 => ?_) (fun c1 => ?_)
 ·
  try simp only [nrm] at c1
  refine W_region [1, 3] fun R hR => ?_
  simp only [go_sem, ldS_at h1, ldS_at h2, cnCells, blCells, allIn1]
  refine hR _ _ (K3 _ _ ?_); clear hR R; try clear K3 Z3
  try simp only [go_sem, ldS_at h1, ldS_at h2, cnCells, blCells, allIn1]
  refine W_sr [2] fun R hR => ?_
  simp only [go_sem, ldS_at h1, ldS_at h2, cnCells, blCells, allIn1]
  try simp (disch := omega) only [wrapI]
  try simp (disch := omega) only [wrapI, wrapU]
  refine GCall_of (in_pc Y _ 0 (c.members - 1) [b.voter] .exact (by simp)) ?_
  simp only [go_sem, ldS_at h1, ldS_at h2, cnCells, blCells, allIn1]
  try simp (disch := omega) only [wrapI, wrapU]
  refine GCall_of (unless_pc Y _ _ 7) ?_
  simp only [go_sem, ldS_at h1, ldS_at h2, cnCells, blCells, allIn1]
  try simp (disch := omega) only [wrapI, wrapU]
  refine hR _ _ ?_; clear hR R
  try simp only [go_sem, ldS_at h1, ldS_at h2, cnCells, blCells, allIn1]
  refine W_ret ?_
  simp only [go_sem, ldS_at h1, ldS_at h2, cnCells, blCells, allIn1]
  refine ⟨.inr (by trivial), ?_⟩
  first | refine Fsa hcl rfl ?_ | refine Fse hcl rfl ?_
  try simp only [go_sem]
  all_goals
   first | rfl | (simp [bl3, allIn1, *]; done) | simp_all [bl3, allIn1]
 try simp only [nrm] at c1
 refine W_skip (K3 _ _ ?_)
 refine W_sr [2] fun R hR => ?_
 simp only [go_sem, ldS_at h1, ldS_at h2, cnCells, blCells, allIn1]
 try simp (disch := omega) only [wrapI]
 try simp (disch := omega) only [wrapI, wrapU]
 refine GCall_of (in_pc Y _ 0 (c.juries - 1) [b.voter] .exact (by simp)) ?_
 simp only [go_sem, ldS_at h1, ldS_at h2, cnCells, blCells, allIn1]
 try simp (disch := omega) only [wrapI, wrapU]
 refine GCall_of (unless_pc Y _ _ 7) ?_
 simp only [go_sem, ldS_at h1, ldS_at h2, cnCells, blCells, allIn1]
 try simp (disch := omega) only [wrapI, wrapU]
 refine hR _ _ ?_; clear hR R
 try simp only [go_sem, ldS_at h1, ldS_at h2, cnCells, blCells, allIn1]
 refine W_ret ?_
 simp only [go_sem, ldS_at h1, ldS_at h2, cnCells, blCells, allIn1]
 refine ⟨.inr (by trivial), ?_⟩
 first | refine Fsa hcl rfl ?_ | refine Fse hcl rfl ?_
 try simp only [go_sem]
 all_goals
  first | rfl | (simp [bl3, allIn1, *]; done) | simp_all [bl3, allIn1]
set_option maxHeartbeats 2000000 in
theorem bl4_pc (Y : YEnv) (σ : Sg) (c : Contest) (b : Ballot) (i1 i2 : Nat) (h1 : σ.store[i1]? = some (some (cnCells c))) (h2 : σ.store[i2]? = some (some (blCells b))) (hs : -2 ^ 60 ≤ c.songs ∧ c.songs ≤ 2 ^ 60) :
 PC Tryz.prog Y 69 [.ptr i1 0, .ptr i2 0] σ (I (bl4 c b)) (σ) := by
 refine PC_of_W Tryz.func69 rfl (by kernel_rfl) Tryz.ntmps69 (by simp) fun hcl hca => ?_
 refine W_sr [0, 1] fun R hR => ?_
 simp only [go_sem, ldS_at h1, ldS_at h2, cnCells, blCells, allIn1]
 refine hR _ _ ?_; clear hR R
 try simp only [go_sem, ldS_at h1, ldS_at h2, cnCells, blCells, allIn1]
 refine W_sr [2] fun R hR => ?_
 simp only [go_sem, ldS_at h1, ldS_at h2, cnCells, blCells, allIn1]
 try simp (disch := omega) only [wrapI]
 try simp (disch := omega) only [wrapI, wrapU]
 refine GCall_of (in_pc Y _ 0 (c.songs - 1) [b.song] .exact (by simp)) ?_
 simp only [go_sem, ldS_at h1, ldS_at h2, cnCells, blCells, allIn1]
 try simp (disch := omega) only [wrapI, wrapU]
 refine GCall_of (unless_pc Y _ _ 7) ?_
 simp only [go_sem, ldS_at h1, ldS_at h2, cnCells, blCells, allIn1]
 try simp (disch := omega) only [wrapI, wrapU]
 refine hR _ _ ?_; clear hR R
 try simp only [go_sem, ldS_at h1, ldS_at h2, cnCells, blCells, allIn1]
 refine W_ret ?_
 simp only [go_sem, ldS_at h1, ldS_at h2, cnCells, blCells, allIn1]
 refine ⟨.inr (by trivial), ?_⟩
 first | refine Fsa hcl rfl ?_ | refine Fse hcl rfl ?_
 try simp only [go_sem]
 all_goals
  first | rfl | simp [bl4, allIn1]
set_option maxHeartbeats 2000000 in
theorem bl5_pc (Y : YEnv) (σ : Sg) (c : Contest) (b : Ballot) (i1 i2 : Nat) (h1 : σ.store[i1]? = some (some (cnCells c))) (h2 : σ.store[i2]? = some (some (blCells b))) :
 PC Tryz.prog Y 70 [.ptr i2 0, .ptr i1 0] σ (I (bl5 c b)) (σ) := by
 refine PC_of_W Tryz.func70 rfl (by kernel_rfl) Tryz.ntmps70 (by simp) fun hcl hca => ?_
 refine W_sr [0, 1] fun R hR => ?_
 simp only [go_sem, ldS_at h1, ldS_at h2, cnCells, blCells, allIn1]
 refine hR _ _ ?_; clear hR R
 try simp only [go_sem, ldS_at h1, ldS_at h2, cnCells, blCells, allIn1]
 refine W_seq fun Z2 K2 => ?_
 refine W_sr [0, 1, 5] fun R hR => ?_
 simp only [go_sem, ldS_at h1, ldS_at h2, cnCells, blCells, allIn1]
 refine hR _ _ ?_; clear hR R
 try simp only [go_sem, ldS_at h1, ldS_at h2, cnCells, blCells, allIn1]
 refine W_cond rfl (fun c1 => ?_) (fun c1 => ?_)
 ·
  try simp only [nrm] at c1
  refine W_sr [2] fun R hR => ?_
  simp only [go_sem, ldS_at h1, ldS_at h2, cnCells, blCells, allIn1]
  refine GCall_of (unless_pc Y _ _ 1) ?_
  simp only [go_sem, ldS_at h1, ldS_at h2, cnCells, blCells, allIn1]
  refine hR _ _ ?_; clear hR R
  try simp only [go_sem, ldS_at h1, ldS_at h2, cnCells, blCells, allIn1]
  refine W_ret ?_
  simp only [go_sem, ldS_at h1, ldS_at h2, cnCells, blCells, allIn1]
  refine ⟨.inr (by trivial), ?_⟩
  first | refine Fsa hcl rfl ?_ | refine Fse hcl rfl ?_
  try simp only [go_sem]
  all_goals
   first | rfl | (simp [bl5, allIn1, *]; done) | simp_all [bl5, allIn1]
 try simp only [nrm] at c1
 refine W_skip (K2 _ _ ?_)
 refine W_sr [2] fun R hR => ?_
 simp only [go_sem, ldS_at h1, ldS_at h2, cnCells, blCells, allIn1]
 refine GCall_of (in_pc Y _ 0 c.most [b.points] .exact (by simp)) ?_
 simp only [go_sem, ldS_at h1, ldS_at h2, cnCells, blCells, allIn1]
 refine GCall_of (unless_pc Y _ _ 2) ?_
 simp only [go_sem, ldS_at h1, ldS_at h2, cnCells, blCells, allIn1]
 refine hR _ _ ?_; clear hR R
 try simp only [go_sem, ldS_at h1, ldS_at h2, cnCells, blCells, allIn1]
 refine W_ret ?_
 simp only [go_sem, ldS_at h1, ldS_at h2, cnCells, blCells, allIn1]
 refine ⟨.inr (by trivial), ?_⟩
 first | refine Fsa hcl rfl ?_ | refine Fse hcl rfl ?_
 try simp only [go_sem]
 all_goals
  first | rfl | (simp [bl5, allIn1, *]; done) | simp_all [bl5, allIn1]
/-- The first error of a list. -/
def firstE : List Int → Int
 | [] => 0
 | e :: l => if e ≠ 0 then e else firstE l
def blEs (c : Contest) (b : Ballot) : List Int := [bl1 c b, bl2 b, bl3 c b, bl4 c b, bl5 c b]
def chkBl (c : Contest) (b : Ballot) : Int := firstE (blEs c b)
set_option maxHeartbeats 4000000 in
theorem chkBl_pc (Y : YEnv) (σ : Sg) (c : Contest) (b : Ballot) (hr : c.rounds.length < 2 ^ 40) (hs : -2 ^ 60 ≤ c.songs ∧ c.songs ≤ 2 ^ 60) (hm : -2 ^ 60 ≤ c.members ∧ c.members ≤ 2 ^ 60) (hj : -2 ^ 60 ≤ c.juries ∧ c.juries ≤ 2 ^ 60) :
 PC Tryz.prog Y 36 [cnPV c, blPV b] σ (I (chkBl c b)) (σ) := by
 refine PC_of_W Tryz.func36 rfl (by kernel_rfl) Tryz.ntmps36 (by simp) fun hcl hca => ?_
 refine W_sr [2, 3] fun R hR => ?_
 simp only [go_sem, cnPV, blPV]
 refine hR _ _ ?_; clear hR R
 try simp only [go_sem, cnPV, blPV]
 refine W_sr [5] fun R hR => ?_
 simp only [go_sem, cnPV, blPV]
 refine hR _ _ ?_; clear hR R
 try simp only [go_sem, cnPV, blPV]
 refine W_seq fun Z3 K3 => ?_
 refine W_sr [15, 16, 17] fun R hR => ?_
 simp only [go_sem, cnPV, blPV]
 refine hR _ _ ?_; clear hR R
 try simp only [go_sem, cnPV, blPV]
 refine W_block ?_
 obtain ⟨fns, hfns⟩ : ∃ z, z = [PV.func (.func 65) [] [.ptr σ.store.length 0, .ptr (σ.store.length + 1) 0], .func (.func 67) [] [.ptr (σ.store.length + 1) 0], .func (.func 68) [] [.ptr σ.store.length 0, .ptr (σ.store.length + 1) 0], .func (.func 69) [] [.ptr σ.store.length 0, .ptr (σ.store.length + 1) 0], .func (.func 70) [] [.ptr (σ.store.length + 1) 0, .ptr σ.store.length 0]] := ⟨_, rfl⟩
 obtain ⟨es, hes⟩ : ∃ z, z = blEs c b := ⟨_, rfl⟩
 refine W_weak (Weak.keep [15, 16, 17]) ?_
 simp only [go_sem]
 refine W_weak (Weak.eq (E' := [(15, .isl fns .exact), (16, I 5), (17, I 0)]) (by rw [hfns]) rfl) ?_
 have ll : fns.length = 5 := by rw [hfns]; rfl
 have le : es.length = 5 := by rw [hes]; rfl
 have hall : ∀ i, i < 5 → ∃ p fr e, fns[i]? = some (.func (.func p) [] fr) ∧ es[i]? = some e ∧ PC Tryz.prog Y p fr (σ.ext [some (cnCells c), some (blCells b)] []) (I e) (σ.ext [some (cnCells c), some (blCells b)] []) := by
  intro i hi
  rw [hfns, hes]
  rcases (by omega : i = 0 ∨ i = 1 ∨ i = 2 ∨ i = 3 ∨ i = 4) with rfl | rfl | rfl | rfl | rfl
  ·exact ⟨_, _, _, rfl, rfl, bl1_pc Y _ c b _ _ (Sg.get_ext0 ..) (Sg.get_ext ..) hr⟩
  ·exact ⟨_, _, _, rfl, rfl, bl2_pc Y _ c b _ _ (Sg.get_ext0 ..) (Sg.get_ext ..)⟩
  ·exact ⟨_, _, _, rfl, rfl, bl3_pc Y _ c b _ _ (Sg.get_ext0 ..) (Sg.get_ext ..) hm hj⟩
  ·exact ⟨_, _, _, rfl, rfl, bl4_pc Y _ c b _ _ (Sg.get_ext0 ..) (Sg.get_ext ..) hs⟩
  exact ⟨_, _, _, rfl, rfl, bl5_pc Y _ c b _ _ (Sg.get_ext0 ..) (Sg.get_ext ..)⟩
 clear hfns
 refine W_loopS (α := Nat) (fun (i : Nat) => [(17, I i)]) (fun (i : Nat) => i ≤ 5 ∧ chkBl c b = firstE (es.drop i)) (fun (i : Nat) => 5 - i) (0) rfl (⟨Nat.zero_le _, by rw [hes]; rfl⟩) ?_
 rintro i ⟨hi, hinv⟩
 refine W_sr [15, 16, 17, 18] fun R hR => ?_
 simp only [go_sem, cnPV, blPV, ll]
 refine hR _ _ ?_; clear hR R
 try simp only [go_sem, cnPV, blPV, ll]
 refine W_seq fun Z6 K6 => ?_
 refine W_cond rfl (fun c1 => ?_) (fun c1 => ?_)
 ·
  try simp only [nrm] at c1
  have hi5 : i < 5 := by first | omega | (simp at c1; omega)
  obtain ⟨p, fr, e, hx, hxe, hfp⟩ := hall i hi5
  have hdrop : es.drop i = e :: es.drop (i + 1) := by
   rw [List.drop_eq_getElem_cons (by omega)]; congr 1; exact (List.getElem?_eq_some_iff.1 hxe).2
  rw [hdrop] at hinv
  simp only [firstE] at hinv
  have hi5' : (i : Int) < 5 := by omega
  have hia : iaX 1 fns (i : Int) = some (.eptr 1 fns i 0) := by
   unfold iaX
   rw [if_pos ⟨Int.natCast_nonneg _, by rw [ll]; exact hi5'⟩]
   simp [hx, PV.cells]
  have hel : elS fns i 0 = some (.func (.func p) [] fr) := by simp [elS, hx, PV.cells]
  refine W_skip (K6 _ _ ?_)
  refine W_seq fun Z7 K7 => ?_
  refine W_block ?_
  refine W_sr [7, 15, 16, 17] fun R hR => ?_
  simp only [go_sem, cnPV, blPV, ll, hx, hia, hel]
  refine hR _ _ ?_; clear hR R
  try simp only [go_sem, cnPV, blPV, ll, hx, hia, hel]
  refine W_sr [8, 15, 16, 17] fun R hR => ?_
  simp only [go_sem, cnPV, blPV, ll, hx, hia, hel]
  refine GCall_of (hfp) ?_
  simp only [go_sem, cnPV, blPV, ll, hx, hia, hel]
  refine hR _ _ ?_; clear hR R
  try simp only [go_sem, cnPV, blPV, ll, hx, hia, hel]
  refine W_sr [8, 15, 16, 17, 24] fun R hR => ?_
  simp only [go_sem, cnPV, blPV, ll, hx, hia, hel]
  refine hR _ _ ?_; clear hR R
  try simp only [go_sem, cnPV, blPV, ll, hx, hia, hel]
  refine W_cond rfl (fun c2 => ?_) (fun c2 => ?_)
  ·
   try simp only [nrm] at c2
   refine W_sr [4] fun R hR => ?_
   simp only [go_sem, cnPV, blPV, ll, hx, hia, hel]
   refine hR _ _ ?_; clear hR R
   try simp only [go_sem, cnPV, blPV, ll, hx, hia, hel]
   refine W_ret ?_
   simp only [go_sem, cnPV, blPV, ll, hx, hia, hel]
   refine ⟨.inr (by trivial), ?_⟩
   first | refine Fsa hcl rfl ?_ | refine Fse hcl rfl ?_
   try simp only [go_sem]
   all_goals
    rw [hinv]; first | done | rfl | (simp [*]; done)
  try simp only [nrm] at c2
  refine W_skip (K7 _ _ ?_)
  refine W_region [15, 16, 17] fun R hR => ?_
  simp only [go_sem, cnPV, blPV, ll, hx, hia, hel]
  try simp (disch := omega) only [wrapI, wrapU]
  refine hR _ _ ?_; clear hR R
  try simp only [go_sem, cnPV, blPV, ll, hx, hia, hel]
  refine ⟨i + 1, ?_, by (try simp only []); omega, ?_⟩
  ·first | exact Weak.refl | exact Wqq
  try dsimp only
  refine ⟨by omega, ?_⟩
  rw [hinv]; simp [*]
 try simp only [nrm] at c1
 have hdrop : es.drop i = [] := List.drop_eq_nil_of_le (by omega)
 rw [hdrop] at hinv
 simp only [firstE] at hinv
 refine W_exit ?_
 simp only [go_sem, cnPV, blPV, ll]
 refine K3 _ _ ?_
 refine W_sr [4] fun R hR => ?_
 simp only [go_sem, cnPV, blPV, ll]
 refine hR _ _ ?_; clear hR R
 try simp only [go_sem, cnPV, blPV, ll]
 refine W_ret ?_
 simp only [go_sem, cnPV, blPV, ll]
 refine ⟨.inr (by trivial), ?_⟩
 first | refine Fsa hcl rfl ?_ | refine Fse hcl rfl ?_
 try simp only [go_sem]
 all_goals
  rw [hinv]; first | done | rfl | (simp [*]; done)
def mapS (p : List Int) : List (Int × Bool) := p.foldl (fun m k => aput k true m) []
theorem mapS_snoc (p : List Int) (k : Int) : mapS (p ++ [k]) = aput k true (mapS p) := by simp [mapS, List.foldl_append]
theorem mapS_gen (k : Int) : ∀ (p : List Int) (m : List (Int × Bool)), (aget k (p.foldl (fun m k => aput k true m) m)).getD false = ((aget k m).getD false || has p k) := by
 intro p
 induction p with
 | nil => intro m; simp [has]
 | cons a p ih =>
  intro m
  rw [List.foldl_cons, ih, aget_put]
  by_cases h : k = a
  ·subst h; simp [has]
  have h' : ¬ a = k := fun e => h e.symm
  simp [has, h, h']
theorem mapS_get (k : Int) (p : List Int) : (aget k (mapS p)).getD false = has p k := by
 unfold mapS
 rw [mapS_gen]; simp [aget]
def chkBlsF (c : Contest) : List Int → List Ballot → Int
 | _, [] => 0
 | p, b :: l => if !(inR b.serial 1 1000000000) then 2 else if has p b.serial then 8 else if chkBl c b ≠ 0 then chkBl c b else chkBlsF c (p ++ [b.serial]) l
/-- The error of ballots. -/
def chkBls (c : Contest) (l : List Ballot) : Int := if chkCn c ≠ 0 then chkCn c else if (l.length : Int) > 300 then 5 else chkBlsF c [] l
structure CnV (c : Contest) : Prop where
 sg : 1 ≤ c.songs ∧ c.songs ≤ 8
 jr : 0 ≤ c.juries ∧ c.juries ≤ 8
 mb : 0 ≤ c.members ∧ c.members ≤ 1000
 ms : 0 ≤ c.most ∧ c.most ≤ 100
 rl : 0 < c.rounds.length ∧ c.rounds.length ≤ 4
 rs : chkRds c.songs c.rounds = 0
theorem cnV_of {c : Contest} (h : chkCn c = 0) : CnV c := by
 unfold chkCn at h
 split at h
 ·cases h
 rename_i h1
 split at h
 ·cases h
 split at h
 ·cases h
 simp only [chkCn0, allIn1, Bool.not_eq_true', Bool.not_eq_false, Bool.and_eq_true, inR_true] at h1
 obtain ⟨⟨⟨a1, a2⟩, a3⟩, a4⟩ := h1
 exact ⟨a1, a2, a3, a4, by omega, h⟩
set_option maxHeartbeats 8000000 in
theorem chkBls_pc (Y : YEnv) (σ : Sg) (c : Contest) (l : List Ballot) (hr : c.rounds.length < 2 ^ 40) (hl : l.length < 2 ^ 40) :
 PC Tryz.prog Y 10 [cnPV c, bls l] σ (I (chkBls c l)) (σ) := by
 refine PC_of_W Tryz.func10 rfl (by kernel_rfl) Tryz.ntmps10 (by simp) fun hcl hca => ?_
 obtain ⟨res, hres⟩ : ∃ r, chkBls c l = r := ⟨_, rfl⟩
 rw [hres]
 refine W_sr [1, 2] fun R hR => ?_
 simp only [go_sem, lk77, up77, lkX, upX, lkB, upB, CleanAll_mapB, packF, allIn1, Sg.get_ext, Sg.get_ext0, List.getElem?_cons_succ, List.getElem?_cons_zero]
 refine hR _ _ ?_; clear hR R
 try simp only [go_sem, lk77, up77, lkX, upX, lkB, upB, CleanAll_mapB, packF, allIn1, Sg.get_ext, Sg.get_ext0, List.getElem?_cons_succ, List.getElem?_cons_zero]
 refine W_seq fun Z2 K2 => ?_
 refine W_sr [1, 2, 5] fun R hR => ?_
 simp only [go_sem, lk77, up77, lkX, upX, lkB, upB, CleanAll_mapB, packF, allIn1, Sg.get_ext, Sg.get_ext0, List.getElem?_cons_succ, List.getElem?_cons_zero]
 refine GCall_of (Check_pc Y _ c hr) ?_
 simp only [go_sem, lk77, up77, lkX, upX, lkB, upB, CleanAll_mapB, packF, allIn1, Sg.get_ext, Sg.get_ext0, List.getElem?_cons_succ, List.getElem?_cons_zero]
 refine hR _ _ ?_; clear hR R
 try simp only [go_sem, lk77, up77, lkX, upX, lkB, upB, CleanAll_mapB, packF, allIn1, Sg.get_ext, Sg.get_ext0, List.getElem?_cons_succ, List.getElem?_cons_zero]
 refine W_sr [1, 2, 5, 13] fun R hR => ?_
 simp only [go_sem, lk77, up77, lkX, upX, lkB, upB, CleanAll_mapB, packF, allIn1, Sg.get_ext, Sg.get_ext0, List.getElem?_cons_succ, List.getElem?_cons_zero]
 refine hR _ _ ?_; clear hR R
 try simp only [go_sem, lk77, up77, lkX, upX, lkB, upB, CleanAll_mapB, packF, allIn1, Sg.get_ext, Sg.get_ext0, List.getElem?_cons_succ, List.getElem?_cons_zero]
 refine W_cond rfl (fun c1 => ?_) (fun c1 => ?_)
 ·
  try simp only [nrm] at c1
  refine W_sr [4] fun R hR => ?_
  simp only [go_sem, lk77, up77, lkX, upX, lkB, upB, CleanAll_mapB, packF, allIn1, Sg.get_ext, Sg.get_ext0, List.getElem?_cons_succ, List.getElem?_cons_zero]
  refine hR _ _ ?_; clear hR R
  try simp only [go_sem, lk77, up77, lkX, upX, lkB, upB, CleanAll_mapB, packF, allIn1, Sg.get_ext, Sg.get_ext0, List.getElem?_cons_succ, List.getElem?_cons_zero]
  refine W_ret ?_
  simp only [go_sem, lk77, up77, lkX, upX, lkB, upB, CleanAll_mapB, packF, allIn1, Sg.get_ext, Sg.get_ext0, List.getElem?_cons_succ, List.getElem?_cons_zero]
  refine ⟨.inr (by trivial), ?_⟩
  first | refine Fsa hcl rfl ?_ | refine Fse hcl rfl ?_
  try simp only [go_sem]
  all_goals
   first | rfl | (simp_all; done) | (simp_all; omega) | (rw [← hres]; simp only [chkBls]; (repeat' split) <;> ((first | rfl | omega | (simp_all; done) | (simp_all; omega))))
 try simp only [nrm] at c1
 refine W_skip (K2 _ _ ?_)
 refine W_seq fun Z6 K6 => ?_
 refine W_sr [1, 2, 17] fun R hR => ?_
 simp only [go_sem, lk77, up77, lkX, upX, lkB, upB, CleanAll_mapB, packF, allIn1, Sg.get_ext, Sg.get_ext0, List.getElem?_cons_succ, List.getElem?_cons_zero]
 refine hR _ _ ?_; clear hR R
 try simp only [go_sem, lk77, up77, lkX, upX, lkB, upB, CleanAll_mapB, packF, allIn1, Sg.get_ext, Sg.get_ext0, List.getElem?_cons_succ, List.getElem?_cons_zero]
 refine W_cond rfl (fun c2 => ?_) (fun c2 => ?_)
 ·
  try simp only [nrm] at c2
  refine W_sr [4] fun R hR => ?_
  simp only [go_sem, lk77, up77, lkX, upX, lkB, upB, CleanAll_mapB, packF, allIn1, Sg.get_ext, Sg.get_ext0, List.getElem?_cons_succ, List.getElem?_cons_zero]
  refine hR _ _ ?_; clear hR R
  try simp only [go_sem, lk77, up77, lkX, upX, lkB, upB, CleanAll_mapB, packF, allIn1, Sg.get_ext, Sg.get_ext0, List.getElem?_cons_succ, List.getElem?_cons_zero]
  refine W_ret ?_
  simp only [go_sem, lk77, up77, lkX, upX, lkB, upB, CleanAll_mapB, packF, allIn1, Sg.get_ext, Sg.get_ext0, List.getElem?_cons_succ, List.getElem?_cons_zero]
  refine ⟨.inr (by trivial), ?_⟩
  first | refine Fsa hcl rfl ?_ | refine Fse hcl rfl ?_
  try simp only [go_sem]
  all_goals
   first | rfl | (simp_all; done) | (simp_all; omega) | (rw [← hres]; simp only [chkBls]; (repeat' split) <;> ((first | rfl | omega | (simp_all; done) | (simp_all; omega))))
 try simp only [nrm] at c2
 refine W_skip (K6 _ _ ?_)
 refine W_sr [1, 2, 6] fun R hR => ?_
 simp only [go_sem, lk77, up77, lkX, upX, lkB, upB, CleanAll_mapB, packF, allIn1, Sg.get_ext, Sg.get_ext0, List.getElem?_cons_succ, List.getElem?_cons_zero]
 refine hR _ _ ?_; clear hR R
 try simp only [go_sem, lk77, up77, lkX, upX, lkB, upB, CleanAll_mapB, packF, allIn1, Sg.get_ext, Sg.get_ext0, List.getElem?_cons_succ, List.getElem?_cons_zero]
 refine W_seq fun Z10 K10 => ?_
 refine W_sr [2, 6, 19, 20, 21] fun R hR => ?_
 simp only [go_sem, lk77, up77, lkX, upX, lkB, upB, CleanAll_mapB, packF, allIn1, Sg.get_ext, Sg.get_ext0, List.getElem?_cons_succ, List.getElem?_cons_zero]
 refine hR _ _ ?_; clear hR R
 try simp only [go_sem, lk77, up77, lkX, upX, lkB, upB, CleanAll_mapB, packF, allIn1, Sg.get_ext, Sg.get_ext0, List.getElem?_cons_succ, List.getElem?_cons_zero]
 refine W_block ?_
 have hV := cnV_of c1
 refine W_loopT (α := Nat) (fun (i : Nat) => [(21, I i)]) (fun (i : Nat) => σ.ext [some (cnCells c), some (.mark :: mapE I PV.bool (mapS ((l.take i).map (·.serial))))] []) (fun (i : Nat) => i ≤ l.length ∧ res = chkBlsF c ((l.take i).map (·.serial)) (l.drop i)) (fun (i : Nat) => l.length - i) (0) rfl (by first | rfl | (simp only [go_sem]; done) | (simp only [go_sem]; rfl)) (⟨Nat.zero_le _, by rw [← hres]; unfold chkBls; rw [if_neg (by simp [c1]), if_neg (by omega)]; rfl⟩) ?_
 rintro i ⟨hi, hinv⟩
 refine W_sr [2, 6, 19, 20, 21, 22] fun R hR => ?_
 simp only [go_sem, lk77, up77, lkX, upX, lkB, upB, CleanAll_mapB, packF, allIn1, Sg.get_ext, Sg.get_ext0, List.getElem?_cons_succ, List.getElem?_cons_zero]
 refine hR _ _ ?_; clear hR R
 try simp only [go_sem, lk77, up77, lkX, upX, lkB, upB, CleanAll_mapB, packF, allIn1, Sg.get_ext, Sg.get_ext0, List.getElem?_cons_succ, List.getElem?_cons_zero]
 refine W_seq fun Z13 K13 => ?_
 refine W_cond rfl (fun c3 => ?_) (fun c3 => ?_)
 ·
  try simp only [nrm] at c3
  have hi' : i < l.length := by first | assumption | omega
  obtain ⟨b, hx⟩ : ∃ b, l[i]? = some b := ⟨l[i], by simp [hi']⟩
  have hdrop : l.drop i = b :: l.drop (i + 1) := by
   rw [List.drop_eq_getElem_cons hi']; congr 1; exact (List.getElem?_eq_some_iff.1 hx).2
  rw [hdrop] at hinv
  simp only [chkBlsF] at hinv
  have hsn : (l.take (i + 1)).map (·.serial) = (l.take i).map (·.serial) ++ [b.serial] := by rw [List.take_add_one, hx]; simp
  obtain ⟨p, hp⟩ : ∃ z, (l.take i).map (·.serial) = z := ⟨_, rfl⟩
  rw [hp] at hinv hsn
  rw [hp]
  have hmg := mapS_get b.serial p
  refine W_skip (K13 _ _ ?_)
  refine W_seq fun Z14 K14 => ?_
  refine W_block ?_
  refine W_sr [2, 6, 8, 19, 20, 21] fun R hR => ?_
  simp only [go_sem, lk77, up77, lkX, upX, lkB, upB, CleanAll_mapB, packF, allIn1, Sg.get_ext, Sg.get_ext0, List.getElem?_cons_succ, List.getElem?_cons_zero, hx, blCells, blPV, hmg]
  refine hR _ _ ?_; clear hR R
  try simp only [go_sem, lk77, up77, lkX, upX, lkB, upB, CleanAll_mapB, packF, allIn1, Sg.get_ext, Sg.get_ext0, List.getElem?_cons_succ, List.getElem?_cons_zero, hx, blCells, blPV, hmg]
  refine W_seq fun Z16 K16 => ?_
  refine W_block ?_
  refine W_sr [2, 6, 8, 19, 20, 21, 25] fun R hR => ?_
  simp only [go_sem, lk77, up77, lkX, upX, lkB, upB, CleanAll_mapB, packF, allIn1, Sg.get_ext, Sg.get_ext0, List.getElem?_cons_succ, List.getElem?_cons_zero, hx, blCells, blPV, hmg]
  refine GCall_of (in_pc Y _ 1 1000000000 [b.serial] .exact (by simp)) ?_
  simp only [go_sem, lk77, up77, lkX, upX, lkB, upB, CleanAll_mapB, packF, allIn1, Sg.get_ext, Sg.get_ext0, List.getElem?_cons_succ, List.getElem?_cons_zero, hx, blCells, blPV, hmg]
  refine hR _ _ ?_; clear hR R
  try simp only [go_sem, lk77, up77, lkX, upX, lkB, upB, CleanAll_mapB, packF, allIn1, Sg.get_ext, Sg.get_ext0, List.getElem?_cons_succ, List.getElem?_cons_zero, hx, blCells, blPV, hmg]
  refine W_cond rfl (fun c4 => ?_) (fun c4 => ?_)
  ·
   try simp only [nrm] at c4
   refine W_sr [4] fun R hR => ?_
   simp only [go_sem, lk77, up77, lkX, upX, lkB, upB, CleanAll_mapB, packF, allIn1, Sg.get_ext, Sg.get_ext0, List.getElem?_cons_succ, List.getElem?_cons_zero, hx, blCells, blPV, hmg]
   refine hR _ _ ?_; clear hR R
   try simp only [go_sem, lk77, up77, lkX, upX, lkB, upB, CleanAll_mapB, packF, allIn1, Sg.get_ext, Sg.get_ext0, List.getElem?_cons_succ, List.getElem?_cons_zero, hx, blCells, blPV, hmg]
   refine W_ret ?_
   simp only [go_sem, lk77, up77, lkX, upX, lkB, upB, CleanAll_mapB, packF, allIn1, Sg.get_ext, Sg.get_ext0, List.getElem?_cons_succ, List.getElem?_cons_zero, hx, blCells, blPV, hmg]
   refine ⟨.inr (by trivial), ?_⟩
   first | refine Fsa hcl rfl ?_ | refine Fse hcl rfl ?_
   try simp only [go_sem]
   all_goals
    first | rfl | (simp_all; done) | (simp_all; omega) | (rw [← hres]; simp only [chkBls]; (repeat' split) <;> ((first | rfl | omega | (simp_all; done) | (simp_all; omega))))
  try simp only [nrm] at c4
  refine W_sr [2, 6, 8, 19, 20, 21, 31] fun R hR => ?_
  simp only [go_sem, lk77, up77, lkX, upX, lkB, upB, CleanAll_mapB, packF, allIn1, Sg.get_ext, Sg.get_ext0, List.getElem?_cons_succ, List.getElem?_cons_zero, hx, blCells, blPV, hmg]
  refine hR _ _ ?_; clear hR R
  try simp only [go_sem, lk77, up77, lkX, upX, lkB, upB, CleanAll_mapB, packF, allIn1, Sg.get_ext, Sg.get_ext0, List.getElem?_cons_succ, List.getElem?_cons_zero, hx, blCells, blPV, hmg]
  refine W_cond rfl (fun c5 => ?_) (fun c5 => ?_)
  ·
   try simp only [nrm] at c5
   refine W_sr [4] fun R hR => ?_
   simp only [go_sem, lk77, up77, lkX, upX, lkB, upB, CleanAll_mapB, packF, allIn1, Sg.get_ext, Sg.get_ext0, List.getElem?_cons_succ, List.getElem?_cons_zero, hx, blCells, blPV, hmg]
   refine hR _ _ ?_; clear hR R
   try simp only [go_sem, lk77, up77, lkX, upX, lkB, upB, CleanAll_mapB, packF, allIn1, Sg.get_ext, Sg.get_ext0, List.getElem?_cons_succ, List.getElem?_cons_zero, hx, blCells, blPV, hmg]
   refine W_ret ?_
   simp only [go_sem, lk77, up77, lkX, upX, lkB, upB, CleanAll_mapB, packF, allIn1, Sg.get_ext, Sg.get_ext0, List.getElem?_cons_succ, List.getElem?_cons_zero, hx, blCells, blPV, hmg]
   refine ⟨.inr (by trivial), ?_⟩
   first | refine Fsa hcl rfl ?_ | refine Fse hcl rfl ?_
   try simp only [go_sem]
   all_goals
    first | rfl | (simp_all; done) | (simp_all; omega) | (rw [← hres]; simp only [chkBls]; (repeat' split) <;> ((first | rfl | omega | (simp_all; done) | (simp_all; omega))))
  try simp only [nrm] at c5
  refine W_skip (K16 _ _ ?_)
  refine W_sr [2, 6, 8, 19, 20, 21] fun R hR => ?_
  simp only [go_sem, lk77, up77, lkX, upX, lkB, upB, CleanAll_mapB, packF, allIn1, Sg.get_ext, Sg.get_ext0, List.getElem?_cons_succ, List.getElem?_cons_zero, hx, blCells, blPV, hmg]
  refine hR _ _ ?_; clear hR R
  try simp only [go_sem, lk77, up77, lkX, upX, lkB, upB, CleanAll_mapB, packF, allIn1, Sg.get_ext, Sg.get_ext0, List.getElem?_cons_succ, List.getElem?_cons_zero, hx, blCells, blPV, hmg]
  refine W_sr [2, 6, 9, 19, 20, 21] fun R hR => ?_
  simp only [go_sem, lk77, up77, lkX, upX, lkB, upB, CleanAll_mapB, packF, allIn1, Sg.get_ext, Sg.get_ext0, List.getElem?_cons_succ, List.getElem?_cons_zero, hx, blCells, blPV, hmg]
  refine GCall_of (chkBl_pc Y _ c b hr (by have := hV.sg; omega) (by have := hV.mb; omega) (by have := hV.jr; omega)) ?_
  simp only [go_sem, lk77, up77, lkX, upX, lkB, upB, CleanAll_mapB, packF, allIn1, Sg.get_ext, Sg.get_ext0, List.getElem?_cons_succ, List.getElem?_cons_zero, hx, blCells, blPV, hmg]
  refine hR _ _ ?_; clear hR R
  try simp only [go_sem, lk77, up77, lkX, upX, lkB, upB, CleanAll_mapB, packF, allIn1, Sg.get_ext, Sg.get_ext0, List.getElem?_cons_succ, List.getElem?_cons_zero, hx, blCells, blPV, hmg]
  refine W_sr [2, 6, 9, 19, 20, 21, 43] fun R hR => ?_
  simp only [go_sem, lk77, up77, lkX, upX, lkB, upB, CleanAll_mapB, packF, allIn1, Sg.get_ext, Sg.get_ext0, List.getElem?_cons_succ, List.getElem?_cons_zero, hx, blCells, blPV, hmg]
  refine hR _ _ ?_; clear hR R
  try simp only [go_sem, lk77, up77, lkX, upX, lkB, upB, CleanAll_mapB, packF, allIn1, Sg.get_ext, Sg.get_ext0, List.getElem?_cons_succ, List.getElem?_cons_zero, hx, blCells, blPV, hmg]
  refine W_cond rfl (fun c6 => ?_) (fun c6 => ?_)
  ·
   try simp only [nrm] at c6
   refine W_sr [4] fun R hR => ?_
   simp only [go_sem, lk77, up77, lkX, upX, lkB, upB, CleanAll_mapB, packF, allIn1, Sg.get_ext, Sg.get_ext0, List.getElem?_cons_succ, List.getElem?_cons_zero, hx, blCells, blPV, hmg]
   refine hR _ _ ?_; clear hR R
   try simp only [go_sem, lk77, up77, lkX, upX, lkB, upB, CleanAll_mapB, packF, allIn1, Sg.get_ext, Sg.get_ext0, List.getElem?_cons_succ, List.getElem?_cons_zero, hx, blCells, blPV, hmg]
   refine W_ret ?_
   simp only [go_sem, lk77, up77, lkX, upX, lkB, upB, CleanAll_mapB, packF, allIn1, Sg.get_ext, Sg.get_ext0, List.getElem?_cons_succ, List.getElem?_cons_zero, hx, blCells, blPV, hmg]
   refine ⟨.inr (by trivial), ?_⟩
   first | refine Fsa hcl rfl ?_ | refine Fse hcl rfl ?_
   try simp only [go_sem]
   all_goals
    first | rfl | (simp_all; done) | (simp_all; omega) | (rw [← hres]; simp only [chkBls]; (repeat' split) <;> ((first | rfl | omega | (simp_all; done) | (simp_all; omega))))
  try simp only [nrm] at c6
  refine W_skip (K14 _ _ ?_)
  refine W_region [2, 6, 19, 20, 21] fun R hR => ?_
  simp only [go_sem, lk77, up77, lkX, upX, lkB, upB, CleanAll_mapB, packF, allIn1, Sg.get_ext, Sg.get_ext0, List.getElem?_cons_succ, List.getElem?_cons_zero, hx, blCells, blPV, hmg]
  try simp (disch := omega) only [wrapI, wrapU]
  refine hR _ _ ?_; clear hR R
  try simp only [go_sem, lk77, up77, lkX, upX, lkB, upB, CleanAll_mapB, packF, allIn1, Sg.get_ext, Sg.get_ext0, List.getElem?_cons_succ, List.getElem?_cons_zero, hx, blCells, blPV, hmg]
  refine ⟨i + 1, ?_, by (try simp only []); omega, ?_⟩
  ·refine Weak.trans (Weak.cutX 2 0 (by omega) (by omega) hcl (by simp only [go_sem, CleanAll_mapB] <;> omega) (by simp only [go_sem] <;> omega)) ?_
   simp only [go_sem]
   exact Weak.eq rfl (by rw [hsn, mapS_snoc])
  try dsimp only
  refine ⟨hi', ?_⟩
  rw [hsn, hinv]; simp [*]
 try simp only [nrm] at c3
 have hdrop : l.drop i = [] := List.drop_eq_nil_of_le (by omega)
 rw [hdrop] at hinv
 simp only [chkBlsF] at hinv
 refine W_exit ?_
 simp only [go_sem, lk77, up77, lkX, upX, lkB, upB, CleanAll_mapB, packF, allIn1, Sg.get_ext, Sg.get_ext0, List.getElem?_cons_succ, List.getElem?_cons_zero]
 refine K10 _ _ ?_
 refine W_sr [4] fun R hR => ?_
 simp only [go_sem, lk77, up77, lkX, upX, lkB, upB, CleanAll_mapB, packF, allIn1, Sg.get_ext, Sg.get_ext0, List.getElem?_cons_succ, List.getElem?_cons_zero]
 refine hR _ _ ?_; clear hR R
 try simp only [go_sem, lk77, up77, lkX, upX, lkB, upB, CleanAll_mapB, packF, allIn1, Sg.get_ext, Sg.get_ext0, List.getElem?_cons_succ, List.getElem?_cons_zero]
 refine W_ret ?_
 simp only [go_sem, lk77, up77, lkX, upX, lkB, upB, CleanAll_mapB, packF, allIn1, Sg.get_ext, Sg.get_ext0, List.getElem?_cons_succ, List.getElem?_cons_zero]
 refine ⟨.inr (by trivial), ?_⟩
 first | refine Fsa hcl rfl ?_ | refine Fse hcl rfl ?_
 try simp only [go_sem]
 all_goals
  first | rfl | (simp_all; done) | (simp_all; omega) | (rw [← hres]; simp only [chkBls]; (repeat' split) <;> ((first | rfl | omega | (simp_all; done) | (simp_all; omega))))
def cmpI (a b : Int) : Int := if a < b then -1 else if b < a then 1 else 0
def orI : List Int → Int
 | [] => 0
 | x :: l => if x ≠ 0 then x else orI l
def weighS (s : Std) (r : Rnd) : Std := { s with score := r.jury * s.points + r.member * s.votes }
/-- Who is ahead: below zero where the first is. -/
def aheadS (a b : Std) : Int := orI [cmpI b.score a.score, cmpI b.points a.points, cmpI a.song b.song]
theorem mul_bd {a b : Int} (h : 0 ≤ a ∧ a ≤ 2 ^ 20) (h2 : -2 ^ 30 ≤ b ∧ b ≤ 2 ^ 30) : -2 ^ 50 ≤ a * b ∧ a * b ≤ 2 ^ 50 := by
 have e1 : a * b ≤ a * 2 ^ 30 := Int.mul_le_mul_of_nonneg_left h2.2 h.1
 have e2 : a * (-2 ^ 30) ≤ a * b := Int.mul_le_mul_of_nonneg_left h2.1 h.1
 omega
set_option maxHeartbeats 2000000 in
theorem nan_pc (Y : YEnv) (σ : Sg) (a : Int) :
 PC Tryz.prog Y 102 [I a] σ (.bool false) (σ) := by
 refine PC_of_W Tryz.func102 rfl (by kernel_rfl) Tryz.ntmps102 (by simp) fun hcl hca => ?_
 refine W_sr [0] fun R hR => ?_
 simp only [go_sem]
 refine hR _ _ ?_; clear hR R
 try simp only [go_sem]
 refine W_sr [2] fun R hR => ?_
 simp only [go_sem]
 refine hR _ _ ?_; clear hR R
 try simp only [go_sem]
 refine W_ret ?_
 simp only [go_sem]
 refine ⟨.inr (by trivial), ?_⟩
 first | refine Fsa hcl rfl ?_ | refine Fse hcl rfl ?_
 try simp only [go_sem]
 all_goals
  first | rfl | simp
set_option maxHeartbeats 2000000 in
theorem cmp_pc (Y : YEnv) (σ : Sg) (a b : Int) :
 PC Tryz.prog Y 89 [I a, I b] σ (I (cmpI a b)) (σ) := by
 refine PC_of_W Tryz.func89 rfl (by kernel_rfl) Tryz.ntmps89 (by simp) fun hcl hca => ?_
 refine W_sr [0, 1] fun R hR => ?_
 simp only [go_sem]
 refine hR _ _ ?_; clear hR R
 try simp only [go_sem]
 refine W_sr [0, 1, 5] fun R hR => ?_
 simp only [go_sem]
 refine GCall_of (nan_pc Y _ a) ?_
 simp only [go_sem]
 refine hR _ _ ?_; clear hR R
 try simp only [go_sem]
 refine W_sr [0, 1, 5, 6] fun R hR => ?_
 simp only [go_sem]
 refine GCall_of (nan_pc Y _ b) ?_
 simp only [go_sem]
 refine hR _ _ ?_; clear hR R
 try simp only [go_sem]
 refine W_seq fun Z4 K4 => ?_
 refine W_sr [0, 1, 6, 11] fun R hR => ?_
 simp only [go_sem]
 refine hR _ _ ?_; clear hR R
 try simp only [go_sem]
 refine W_cond rfl (fun c1 => ?_) (fun c1 => ?_)
 ·
  try simp only [nrm] at c1
  exfalso
  simp at c1
 try simp only [nrm] at c1
 refine W_skip (K4 _ _ ?_)
 refine W_seq fun Z6 K6 => ?_
 refine W_sr [0, 1, 13] fun R hR => ?_
 simp only [go_sem]
 refine hR _ _ ?_; clear hR R
 try simp only [go_sem]
 refine W_cond rfl (fun c2 => ?_) (fun c2 => ?_)
 ·
  try simp only [nrm] at c2
  exfalso
  simp at c2
 try simp only [nrm] at c2
 refine W_skip (K6 _ _ ?_)
 refine W_seq fun Z8 K8 => ?_
 refine W_sr [0, 1, 16] fun R hR => ?_
 simp only [go_sem]
 refine hR _ _ ?_; clear hR R
 try simp only [go_sem]
 refine W_cond rfl (fun c3 => ?_) (fun c3 => ?_)
 ·
  try simp only [nrm] at c3
  refine W_sr [4] fun R hR => ?_
  simp only [go_sem]
  refine hR _ _ ?_; clear hR R
  try simp only [go_sem]
  refine W_ret ?_
  simp only [go_sem]
  refine ⟨.inr (by trivial), ?_⟩
  first | refine Fsa hcl rfl ?_ | refine Fse hcl rfl ?_
  try simp only [go_sem]
  all_goals
   first | rfl | (simp_all; done) | (simp_all; omega) | (simp only [cmpI]; (repeat' split) <;> ((first | rfl | omega | (simp_all; done) | (simp_all; omega))))
 try simp only [nrm] at c3
 refine W_skip (K8 _ _ ?_)
 refine W_seq fun Z11 K11 => ?_
 refine W_sr [19] fun R hR => ?_
 simp only [go_sem]
 refine hR _ _ ?_; clear hR R
 try simp only [go_sem]
 refine W_cond rfl (fun c4 => ?_) (fun c4 => ?_)
 ·
  try simp only [nrm] at c4
  refine W_sr [4] fun R hR => ?_
  simp only [go_sem]
  refine hR _ _ ?_; clear hR R
  try simp only [go_sem]
  refine W_ret ?_
  simp only [go_sem]
  refine ⟨.inr (by trivial), ?_⟩
  first | refine Fsa hcl rfl ?_ | refine Fse hcl rfl ?_
  try simp only [go_sem]
  all_goals
   first | rfl | (simp_all; done) | (simp_all; omega) | (simp only [cmpI]; (repeat' split) <;> ((first | rfl | omega | (simp_all; done) | (simp_all; omega))))
 try simp only [nrm] at c4
 refine W_skip (K11 _ _ ?_)
 refine W_sr [4] fun R hR => ?_
 simp only [go_sem]
 refine hR _ _ ?_; clear hR R
 try simp only [go_sem]
 refine W_ret ?_
 simp only [go_sem]
 refine ⟨.inr (by trivial), ?_⟩
 first | refine Fsa hcl rfl ?_ | refine Fse hcl rfl ?_
 try simp only [go_sem]
 all_goals
  first | rfl | (simp_all; done) | (simp_all; omega) | (simp only [cmpI]; (repeat' split) <;> ((first | rfl | omega | (simp_all; done) | (simp_all; omega))))
set_option maxHeartbeats 2000000 in
theorem or_pc (Y : YEnv) (σ : Sg) (l : List Int) (o : Own) (hl : l.length < 2 ^ 40) :
 PC Tryz.prog Y 88 [intsO o l] σ (I (orI l)) (σ) := by
 refine PC_of_W Tryz.func88 rfl (by kernel_rfl) Tryz.ntmps88 (by simp) fun hcl hca => ?_
 obtain ⟨res, hres⟩ : ∃ r, orI l = r := ⟨_, rfl⟩
 rw [hres]
 refine W_sr [0] fun R hR => ?_
 simp only [go_sem]
 refine hR _ _ ?_; clear hR R
 try simp only [go_sem]
 refine W_sr [0, 3] fun R hR => ?_
 simp only [go_sem]
 refine hR _ _ ?_; clear hR R
 try simp only [go_sem]
 refine W_seq fun Z3 K3 => ?_
 refine W_sr [3, 6, 7, 8] fun R hR => ?_
 simp only [go_sem]
 refine hR _ _ ?_; clear hR R
 try simp only [go_sem]
 refine W_block ?_
 refine W_loopS (α := Nat) (fun (i : Nat) => [(8, I i)]) (fun (i : Nat) => i ≤ l.length ∧ res = orI (l.drop i)) (fun (i : Nat) => l.length - i) (0) rfl (⟨Nat.zero_le _, hres.symm⟩) ?_
 rintro i ⟨hi, hinv⟩
 refine W_sr [3, 6, 7, 8, 9] fun R hR => ?_
 simp only [go_sem]
 refine hR _ _ ?_; clear hR R
 try simp only [go_sem]
 refine W_seq fun Z6 K6 => ?_
 refine W_cond rfl (fun c1 => ?_) (fun c1 => ?_)
 ·
  try simp only [nrm] at c1
  have hi' : i < l.length := by first | assumption | omega
  obtain ⟨x, hx⟩ : ∃ x, l[i]? = some x := ⟨l[i], by simp [hi']⟩
  have hdrop : l.drop i = x :: l.drop (i + 1) := by
   rw [List.drop_eq_getElem_cons hi']; congr 1; exact (List.getElem?_eq_some_iff.1 hx).2
  rw [hdrop] at hinv
  simp only [orI] at hinv
  refine W_skip (K6 _ _ ?_)
  refine W_seq fun Z7 K7 => ?_
  refine W_block ?_
  refine W_sr [3, 5, 6, 7, 8] fun R hR => ?_
  simp only [go_sem, hx]
  refine hR _ _ ?_; clear hR R
  try simp only [go_sem, hx]
  refine W_sr [3, 5, 6, 7, 8, 14] fun R hR => ?_
  simp only [go_sem, hx]
  refine hR _ _ ?_; clear hR R
  try simp only [go_sem, hx]
  refine W_cond rfl (fun c2 => ?_) (fun c2 => ?_)
  ·
   try simp only [nrm] at c2
   refine W_sr [2] fun R hR => ?_
   simp only [go_sem, hx]
   refine hR _ _ ?_; clear hR R
   try simp only [go_sem, hx]
   refine W_ret ?_
   simp only [go_sem, hx]
   refine ⟨.inr (by trivial), ?_⟩
   first | refine Fsa hcl rfl ?_ | refine Fse hcl rfl ?_
   try simp only [go_sem]
   all_goals
    rw [hinv]; first | done | rfl | simp_all
  try simp only [nrm] at c2
  refine W_skip (K7 _ _ ?_)
  refine W_region [3, 6, 7, 8] fun R hR => ?_
  simp only [go_sem, hx]
  try simp (disch := omega) only [wrapI, wrapU]
  refine hR _ _ ?_; clear hR R
  try simp only [go_sem, hx]
  refine ⟨i + 1, ?_, by (try simp only []); omega, ?_⟩
  ·first | exact Weak.refl | exact Wqq
  try dsimp only
  refine ⟨hi', ?_⟩
  rw [hinv]; simp_all
 try simp only [nrm] at c1
 have hdrop : l.drop i = [] := List.drop_eq_nil_of_le (by omega)
 rw [hdrop] at hinv
 simp only [orI] at hinv
 refine W_exit ?_
 simp only [go_sem]
 refine K3 _ _ ?_
 refine W_sr [2] fun R hR => ?_
 simp only [go_sem]
 refine hR _ _ ?_; clear hR R
 try simp only [go_sem]
 refine W_ret ?_
 simp only [go_sem]
 refine ⟨.inr (by trivial), ?_⟩
 first | refine Fsa hcl rfl ?_ | refine Fse hcl rfl ?_
 try simp only [go_sem]
 all_goals
  rw [hinv]; first | done | rfl | simp_all
set_option maxHeartbeats 2000000 in
theorem weigh_pc (Y : YEnv) (σ : Sg) (s : Std) (r : Rnd) (h1 : 0 ≤ r.jury ∧ r.jury ≤ 2 ^ 20) (h2 : 0 ≤ r.member ∧ r.member ≤ 2 ^ 20) (h3 : -2 ^ 30 ≤ s.points ∧ s.points ≤ 2 ^ 30) (h4 : -2 ^ 30 ≤ s.votes ∧ s.votes ≤ 2 ^ 30) :
 PC Tryz.prog Y 85 [sdPV s, rdPV r] σ (sdPV (weighS s r)) (σ) := by
 refine PC_of_W Tryz.func85 rfl (by kernel_rfl) Tryz.ntmps85 (by simp) fun hcl hca => ?_
 have hm1 := mul_bd h1 h3
 have hm2 := mul_bd h2 h4
 have hw1 : IntKind.i64.wrap (r.jury * s.points) = r.jury * s.points := wrapI (by omega) (by omega)
 have hw2 : IntKind.i64.wrap (r.member * s.votes) = r.member * s.votes := wrapI (by omega) (by omega)
 have hw3 : IntKind.i64.wrap (r.jury * s.points + r.member * s.votes) = r.jury * s.points + r.member * s.votes := wrapI (by omega) (by omega)
 refine W_sr [2, 3, 4] fun R hR => ?_
 simp only [go_sem, sdPV, sdCells, rdPV, rdCells, hw1, hw2, hw3]
 refine hR _ _ ?_; clear hR R
 try simp only [go_sem, sdPV, sdCells, rdPV, rdCells, hw1, hw2, hw3]
 refine W_sr [2, 4] fun R hR => ?_
 simp only [go_sem, sdPV, sdCells, rdPV, rdCells, hw1, hw2, hw3]
 try simp (disch := omega) only [wrapI, wrapU]
 refine hR _ _ ?_; clear hR R
 try simp only [go_sem, sdPV, sdCells, rdPV, rdCells, hw1, hw2, hw3]
 refine W_sr [4] fun R hR => ?_
 simp only [go_sem, sdPV, sdCells, rdPV, rdCells, hw1, hw2, hw3]
 refine hR _ _ ?_; clear hR R
 try simp only [go_sem, sdPV, sdCells, rdPV, rdCells, hw1, hw2, hw3]
 refine W_ret ?_
 simp only [go_sem, sdPV, sdCells, rdPV, rdCells, hw1, hw2, hw3]
 refine ⟨.inr (by trivial), ?_⟩
 first | refine Fin_same hcl (by show resPV Tryz.prog _ _ [.cell 4 131] = some _; simp only [resPV, go_sem]; rfl) (Wk_eq ?_ (by simp only [go_sem])) | refine Fin_same hcl rfl (Wk_eq ?_ (by simp only [go_sem]))
 try simp only [go_sem]
 all_goals
  first | rfl | simp [weighS, sdPV, sdCells]
set_option maxHeartbeats 2000000 in
theorem ahead_pc (Y : YEnv) (σ : Sg) (a b : Std) :
 PC Tryz.prog Y 74 [sdPV a, sdPV b] σ (I (aheadS a b)) (σ) := by
 refine PC_of_W Tryz.func74 rfl (by kernel_rfl) Tryz.ntmps74 (by simp) fun hcl hca => ?_
 refine W_sr [2, 3] fun R hR => ?_
 simp only [go_sem, sdPV, sdCells]
 refine hR _ _ ?_; clear hR R
 try simp only [go_sem, sdPV, sdCells]
 refine W_seq fun Z2 K2 => ?_
 refine W_draw [4] [0, 1, 2, 3, 4, 5, 6, 7, 8, 9, 10, 11, 12, 13, 14, 15, 16, 17] [(5, 4), (6, 4), (7, 4), (8, 4), (10, 4), (10, 9), (11, 4), (11, 9), (12, 4), (12, 9), (13, 4), (13, 9)] [[], [0], [], [2], [0, 1, 2, 3], [], [5], [], [7], [0, 1, 2, 3, 4, 5, 6, 7, 8], [], [10], [], [12], [0, 1, 2, 3, 4, 5, 6, 7, 8, 9, 10, 11, 12, 13], [0, 1, 2, 3, 4, 5, 6, 7, 8, 9, 10, 11, 12, 13, 14], [0, 1, 2, 3, 4, 5, 6, 7, 8, 9, 10, 11, 12, 13, 14, 15], [0, 1, 2, 3, 4, 5, 6, 7, 8, 9, 10, 11, 12, 13, 14, 15, 16]] mixed (by kernel_rfl) fun R hR => ?_
 simp only [go_sem, sdPV, sdCells]
 refine GCall_of (cmp_pc Y _ b.score a.score) ?_
 simp only [go_sem, sdPV, sdCells]
 refine GCall_of (cmp_pc Y _ b.points a.points) ?_
 simp only [go_sem, sdPV, sdCells]
 refine GCall_of (cmp_pc Y _ a.song b.song) ?_
 simp only [go_sem, sdPV, sdCells]
 refine GCall_of (or_pc Y _ [cmpI b.score a.score, cmpI b.points a.points, cmpI a.song b.song] .exact (by simp)) ?_
 simp only [go_sem, sdPV, sdCells]
 try refine And.intro (by repeat' (first | refine And.intro ?_ ?_ | exact GOr_right (fun _ => by simp only [go_sem, sdPV, sdCells]))) ?_
 refine hR _ _ (K2 _ _ ?_); clear hR R; try clear K2 Z2
 try simp only [go_sem, sdPV, sdCells]
 refine W_ret ?_
 simp only [go_sem, sdPV, sdCells]
 refine ⟨.inr (by trivial), ?_⟩
 first | refine Fsa hcl rfl ?_ | refine Fse hcl rfl ?_
 try simp only [go_sem]
 all_goals
  first | rfl | simp [aheadS]
structure Tally where
 rd : Rnd
 songs : List Int
 pts : Nat → Int
 vts : Nat → Int
 m : List (Voice × Int)
def tlCells (id : Nat) (t : Tally) : List PV := [I t.rd.keep, I t.rd.jury, I t.rd.member, ints t.songs, I (t.pts 0), I (t.pts 1), I (t.pts 2), I (t.pts 3), I (t.pts 4), I (t.pts 5), I (t.pts 6), I (t.pts 7), I (t.vts 0), I (t.vts 1), I (t.vts 2), I (t.vts 3), I (t.vts 4), I (t.vts 5), I (t.vts 6), I (t.vts 7), .map id]
def tlPV (id : Nat) (t : Tally) : PV := .agg (tlCells id t)
def upd (f : Nat → Int) (k : Nat) (v : Int) : Nat → Int := fun s => if s = k then v else f s
theorem tl_pts {id : Nat} {t : Tally} : ∀ {s : Nat}, s < 8 → (tlCells id t)[4 + s]? = some (I (t.pts s))
 | 0, _ => rfl
 | 1, _ => rfl
 | 2, _ => rfl
 | 3, _ => rfl
 | 4, _ => rfl
 | 5, _ => rfl
 | 6, _ => rfl
 | 7, _ => rfl
 | n + 8, h => absurd h (by omega)
theorem tl_vts {id : Nat} {t : Tally} : ∀ {s : Nat}, s < 8 → (tlCells id t)[12 + s]? = some (I (t.vts s))
 | 0, _ => rfl
 | 1, _ => rfl
 | 2, _ => rfl
 | 3, _ => rfl
 | 4, _ => rfl
 | 5, _ => rfl
 | 6, _ => rfl
 | 7, _ => rfl
 | n + 8, h => absurd h (by omega)
theorem tl_map {id : Nat} {t : Tally} : (tlCells id t)[20]? = some (.map id) := rfl
theorem tl_songs {id : Nat} {t : Tally} : (tlCells id t)[3]? = some (ints t.songs) := rfl
theorem tl_keep {id : Nat} {t : Tally} : (tlCells id t)[0]? = some (I t.rd.keep) := rfl
theorem tl_len {id : Nat} {t : Tally} : (tlCells id t).length = 21 := rfl
theorem tl_setP {id : Nat} {t : Tally} : ∀ {s : Nat}, s < 8 → ∀ v : Int, (tlCells id t).set (4 + s) (I v) = tlCells id { t with pts := upd t.pts s v }
 | 0, _, _ => rfl
 | 1, _, _ => rfl
 | 2, _, _ => rfl
 | 3, _, _ => rfl
 | 4, _, _ => rfl
 | 5, _, _ => rfl
 | 6, _, _ => rfl
 | 7, _, _ => rfl
 | n + 8, h, _ => absurd h (by omega)
theorem tl_setV {id : Nat} {t : Tally} : ∀ {s : Nat}, s < 8 → ∀ v : Int, (tlCells id t).set (12 + s) (I v) = tlCells id { t with vts := upd t.vts s v }
 | 0, _, _ => rfl
 | 1, _, _ => rfl
 | 2, _, _ => rfl
 | 3, _, _ => rfl
 | 4, _, _ => rfl
 | 5, _, _ => rfl
 | 6, _, _ => rfl
 | 7, _, _ => rfl
 | n + 8, h, _ => absurd h (by omega)
theorem cleans_tl {a b c id : Nat} (t : Tally) (hid : id < a) : CleanAll a b c (tlCells id t) := by
 intro p hp
 simp only [tlCells, List.mem_cons, List.not_mem_nil, or_false] at hp
 repeat' (first | (rcases hp with rfl | hp; first | exact .int _ _ | exact clean_ints _) | (subst hp; exact .mapv _ hid))
theorem clean_tl {a b c id : Nat} (t : Tally) (hid : id < a) : Clean a b c (tlPV id t) := .agg _ (cleans_tl t hid)
theorem mapE_len {κ ν : Type} {ek : κ → PV} {ev : ν → PV} {l : List (κ × ν)} : (mapE ek ev l).length = l.length := by simp [mapE]
theorem mapE_get {κ ν : Type} {ek : κ → PV} {ev : ν → PV} {l : List (κ × ν)} {j : Nat} {k u : PV} (h : (mapE ek ev l)[j]? = some (.tuple [k, u])) : ∃ e, l[j]? = some e ∧ k = ek e.1 ∧ u = ev e.2 := by
 unfold mapE at h
 rw [List.getElem?_map] at h
 cases he : l[j]? with
 | none => rw [he] at h; cases h
 | some e =>
  rw [he] at h
  simp only [Option.map_some, Option.some.injEq, PV.tuple.injEq, List.cons.injEq, and_true] at h
  exact ⟨e, rfl, h.1.symm, h.2.symm⟩
theorem mapE_at {κ ν : Type} {ek : κ → PV} {ev : ν → PV} {l : List (κ × ν)} {j : Nat} {e : κ × ν} (h : l[j]? = some e) : (mapE ek ev l)[j]? = some (.tuple [ek e.1, ev e.2]) := by
 unfold mapE
 rw [List.getElem?_map, h]; rfl
theorem it_ext {σ : Sg} {l : List (Option (List PV))} {rm : List Nat} {ys : List LState} {j k n : Nat} {seen : List Nat} {es : List PV} (h1 : l[j]? = some (some [.itst (σ.store.length + k) n seen])) (h2 : l[k]? = some (some (.mark :: es))) (h3 : es.length = n) :
 iterAt (σ.ext l rm ys) (.iter (σ.store.length + j)) = some (σ.store.length + j, σ.store.length + k, seen, es) := by
 simp only [iterAt, Sg.get_ext, h1, h2, h3, if_true]
theorem rg78 {σ : Sg} {id : Nat} : rangePV Tryz.prog σ 84 (.map id) = match σ.store[id]? with
 | some (some (.mark :: es)) => some (.iter σ.store.length, σ.push [.itst id es.length []])
 | _ => none := by
 simp only [rangePV, Tryz.underlying84]
 rfl
theorem Cl_iter {a b c id : Nat} : Clean a b c (.iter id) = (id < a) := propext ⟨fun h => by cases h; assumption, fun h => .iter _ h⟩
theorem Cl_itst {a b c mid n : Nat} {s : List Nat} : Clean a b c (.itst mid n s) = (mid < a) := propext ⟨fun h => by cases h; assumption, fun h => .itst _ _ _ h⟩
theorem cA_tl {a b c id : Nat} {t : Tally} : CleanAll a b c (tlCells id t) = (id < a) := propext ⟨fun h => by have := h (.map id) (by simp [tlCells]); cases this; assumption, cleans_tl t⟩
theorem C_tl {a b c id : Nat} {t : Tally} : Clean a b c (tlPV id t) = (id < a) := propext ⟨fun h => by cases h; rename_i h; exact cA_tl.mp h, clean_tl t⟩
attribute [go_sem] cA_tl C_tl
theorem cells_map {id : Nat} : (PV.map id).cells = [.map id] := rfl
attribute [go_sem] cells_map rg78 Cl_iter Cl_itst mapE_len
def keyOf (b : Ballot) : Voice := (b.kind, b.voter, if b.kind = 2 then -1 else b.song)
def isIn (rd : Int) (songs : List Int) (b : Ballot) : Bool := decide (b.round = rd) && has songs b.song
/-- Does the ballot at a place beat the one that is there? -/
def first (l : List Ballot) (m : List (Voice × Int)) (b : Ballot) : Bool :=
 match aget (keyOf b) m with
 | none => true
 | some k => match l[k.toNat]? with
  | none => true
  | some o => decide (b.serial < o.serial)
def vstep (rd : Int) (songs : List Int) (l : List Ballot) (m : List (Voice × Int)) (i : Nat) (b : Ballot) : List (Voice × Int) :=
 if isIn rd songs b && first l m b then aput (keyOf b) (i : Int) m else m
def voices (rd : Int) (songs : List Int) (l : List Ballot) : Nat → List (Voice × Int)
 | 0 => []
 | i + 1 => match l[i]? with
  | some b => vstep rd songs l (voices rd songs l i) i b
  | none => voices rd songs l i
/-- Each place in the map is that of a ballot that counts in the round, under its key. -/
def PlOk (rd : Int) (songs : List Int) (l : List Ballot) (i : Nat) (m : List (Voice × Int)) : Prop :=
 ∀ e, e ∈ m → ∃ (k : Nat) (b : Ballot), e.2 = k ∧ k < i ∧ l[k]? = some b ∧ e.1 = keyOf b ∧ isIn rd songs b = true
theorem mem_aput {k : Voice} {v : Int} : ∀ {m : List (Voice × Int)} {e : Voice × Int}, e ∈ aput k v m → e = (k, v) ∨ e ∈ m := by
 intro m
 induction m with
 | nil => intro e h; simp only [aput, List.mem_singleton] at h; exact .inl h
 | cons q m ih =>
  intro e h
  simp only [aput] at h
  split at h
  ·rcases List.mem_cons.1 h with h | h
   ·exact .inl h
   exact .inr (by simp [h])
  rcases List.mem_cons.1 h with h | h
  ·exact .inr (by simp [h])
  rcases ih h with h | h
  ·exact .inl h
  exact .inr (by simp [h])
theorem voices_ok (rd : Int) (songs : List Int) (l : List Ballot) : ∀ i, PlOk rd songs l i (voices rd songs l i) := by
 intro i
 induction i with
 | zero => intro e h; cases h
 | succ i ih =>
  have up : ∀ e, e ∈ voices rd songs l i → ∃ (k : Nat) (b : Ballot), e.2 = k ∧ k < i + 1 ∧ l[k]? = some b ∧ e.1 = keyOf b ∧ isIn rd songs b = true := fun e h => by
   obtain ⟨k, b, h1, h2, h3⟩ := ih e h
   exact ⟨k, b, h1, by omega, h3⟩
  simp only [voices]
  split
  ·rename_i b hb
   unfold vstep
   split
   ·rename_i hc
    simp only [Bool.and_eq_true] at hc
    intro e h
    rcases mem_aput h with rfl | h
    ·exact ⟨i, b, rfl, by omega, hb, rfl, hc.1⟩
    exact up e h
   exact up
  exact up
def entB (l : List Ballot) (m : List (Voice × Int)) (j : Nat) : Option Ballot := m[j]?.bind fun e => l[e.2.toNat]?
def cpB (s : Nat) (b : Ballot) : Int := if b.kind ≠ 2 ∧ b.song = s then b.points else 0
def cvB (s : Nat) (b : Ballot) : Int := if b.kind = 2 ∧ b.song = s then 1 else 0
def optB (f : Ballot → Int) : Option Ballot → Int
 | some b => f b
 | none => 0
def sumB (f : Ballot → Int) (l : List Ballot) (m : List (Voice × Int)) (js : List Nat) : Int := (js.map fun j => optB f (entB l m j)).sum
/-- What all songs get. -/
def sumR (f : Nat → Ballot → Int) (l : List Ballot) (m : List (Voice × Int)) (js : List Nat) : Nat → Int := fun s => sumB (f s) l m js
theorem sumB_snoc {f : Ballot → Int} {l : List Ballot} {m : List (Voice × Int)} {js : List Nat} {j : Nat} {b : Ballot} (hb : entB l m j = some b) : sumB f l m (js ++ [j]) = sumB f l m js + f b := by simp [sumB, hb, optB]
theorem sumR_same {f : Nat → Ballot → Int} {l : List Ballot} {m : List (Voice × Int)} {js : List Nat} {j : Nat} {b : Ballot} (hb : entB l m j = some b) (h : ∀ s, f s b = 0) : sumR f l m (js ++ [j]) = sumR f l m js := by
 funext s
 unfold sumR
 rw [sumB_snoc hb, h, Int.add_zero]
theorem sumR_hit {f : Nat → Ballot → Int} {l : List Ballot} {m : List (Voice × Int)} {js : List Nat} {j : Nat} {b : Ballot} (hb : entB l m j = some b) {k : Nat} {v : Int} (h : ∀ s, f s b = if s = k then v else 0) : sumR f l m (js ++ [j]) = upd (sumR f l m js) k (sumR f l m js k + v) := by
 funext s
 unfold sumR upd
 rw [sumB_snoc hb, h]
 by_cases e : s = k
 ·rw [if_pos e, if_pos e, e]
 rw [if_neg e, if_neg e, Int.add_zero]
theorem sum_perm {α : Type} {g : α → Int} {a b : List α} (h : a.Perm b) : (a.map g).sum = (b.map g).sum := by
 induction h with
 | nil => rfl
 | cons x _ ih => simp [ih]
 | swap x y l => simp; omega
 | trans _ _ h1 h2 => rw [h1, h2]
theorem perm_range {js : List Nat} {n : Nat} (h1 : js.Nodup) (h2 : ∀ j, j ∈ js → j < n) (h3 : ∀ j, j < n → j ∈ js) : js.Perm (List.range n) := by
 rw [List.perm_iff_count]
 intro a
 rw [List.Nodup.count h1, List.Nodup.count List.nodup_range]
 simp only [List.mem_range]
 by_cases ha : a < n
 ·rw [if_pos (h3 a ha), if_pos ha]
 rw [if_neg (fun q => ha (h2 a q)), if_neg ha]
theorem sumR_all {f : Nat → Ballot → Int} {l : List Ballot} {m : List (Voice × Int)} {js : List Nat} {n : Nat} (h1 : js.Nodup) (h2 : ∀ j, j ∈ js → j < n) (h3 : ∀ j, j < n → j ∈ js) : sumR f l m js = sumR f l m (List.range n) := by
 funext s
 unfold sumR sumB
 exact sum_perm (perm_range h1 h2 h3)
theorem nodup_len : ∀ {n : Nat} {js : List Nat}, js.Nodup → (∀ j, j ∈ js → j < n) → js.length ≤ n := by
 intro n
 induction n with
 | zero =>
  intro js _ h
  cases js with
  | nil => exact Nat.le_refl _
  | cons j js => exact absurd (h j (by simp)) (by omega)
 | succ n ih =>
  intro js h1 h2
  have g := ih (js := js.erase n) (h1.erase n) (fun j hj => by
   have e := (h1.mem_erase_iff).1 hj
   have := h2 j e.2
   have := e.1
   omega)
  have := List.length_erase (l := js) (a := n)
  split at this <;> omega
theorem sumB_bd {f : Ballot → Int} {l : List Ballot} {m : List (Voice × Int)} {c : Int} (hc : 0 ≤ c) (hf : ∀ b, b ∈ l → 0 ≤ f b ∧ f b ≤ c) : ∀ js : List Nat, 0 ≤ sumB f l m js ∧ sumB f l m js ≤ c * js.length := by
 intro js
 induction js with
 | nil => simp [sumB]
 | cons j js ih =>
  have e : sumB f l m (j :: js) = optB f (entB l m j) + sumB f l m js := by simp [sumB]
  have h : 0 ≤ optB f (entB l m j) ∧ optB f (entB l m j) ≤ c := by
   unfold entB
   cases hm : m[j]? with
   | none => simp [optB]; exact hc
   | some p =>
    simp only [Option.bind_some]
    cases hl : l[p.2.toNat]? with
    | none => simp [optB]; exact hc
    | some b => exact hf b (List.mem_of_getElem? hl)
  rw [e, List.length_cons, show ((js.length + 1 : Nat) : Int) = js.length + 1 by omega, Int.mul_add, Int.mul_one]
  omega
theorem aput_len {k : Voice} {v : Int} : ∀ m : List (Voice × Int), (aput k v m).length ≤ m.length + 1 := by
 intro m
 induction m with
 | nil => simp [aput]
 | cons e m ih =>
  simp only [aput]
  split
  ·simp
  simp only [List.length_cons]; omega
theorem voices_len (rd : Int) (songs : List Int) (l : List Ballot) : ∀ i, (voices rd songs l i).length ≤ i := by
 intro i
 induction i with
 | zero => simp [voices]
 | succ i ih =>
  simp only [voices]
  split
  ·unfold vstep
   split
   ·exact Nat.le_trans (aput_len _) (by omega)
   omega
  omega
/-- A round counted. -/
def countT (r : Rnd) (rd : Int) (songs : List Int) (l : List Ballot) : Tally :=
 let m := voices rd songs l l.length
 ⟨r, songs, sumR cpB l m (List.range m.length), sumR cvB l m (List.range m.length), m⟩
structure BlV (c : Contest) (b : Ballot) : Prop where
 sr : 1 ≤ b.serial ∧ b.serial ≤ 1000000000
 rd : 0 ≤ b.round ∧ b.round < c.rounds.length
 kd : b.kind = 1 ∨ b.kind = 2
 vt : 0 ≤ b.voter ∧ b.voter < if b.kind = 2 then c.members else c.juries
 sg : 0 ≤ b.song ∧ b.song < c.songs
 pt : 0 ≤ b.points ∧ b.points ≤ if b.kind = 2 then 0 else c.most
theorem unl_zero {b : Bool} {e : Int} (he : e ≠ 0) (h : unl b e = 0) : b = true := by
 unfold unl at h
 cases b
 ·exact absurd h he
 rfl
theorem blV_of {c : Contest} {b : Ballot} (hs : inR b.serial 1 1000000000 = true) (h : chkBl c b = 0) : BlV c b := by
 simp only [chkBl, blEs, firstE] at h
 split at h
 ·rename_i q; exact absurd h q
 rename_i h1
 split at h
 ·rename_i q; exact absurd h q
 rename_i h2
 split at h
 ·rename_i q; exact absurd h q
 rename_i h3
 split at h
 ·rename_i q; exact absurd h q
 rename_i h4
 split at h
 ·rename_i q; exact absurd h q
 rename_i h5
 simp only [ne_eq, Classical.not_not] at h1 h2 h3 h4 h5
 have g1 := inR_true.1 (unl_zero (by decide) h1)
 have g2 := inR_true.1 (unl_zero (by decide) h2)
 have g3 := inR_true.1 (unl_zero (by decide) h3)
 have g4 := inR_true.1 (unl_zero (by decide) h4)
 refine ⟨inR_true.1 hs, by omega, by omega, ⟨g3.1, by have := g3.2; omega⟩, by omega, ?_⟩
 unfold bl5 at h5
 split at h5
 ·rename_i hk
  have g5 := unl_zero (by decide) h5
  simp only [beq_iff_eq] at g5
  rw [g5, if_pos hk]; omega
 rename_i hk
 have g5 := inR_true.1 (unl_zero (by decide) h5)
 rw [if_neg hk]; exact g5
theorem blsF_of {c : Contest} : ∀ {l : List Ballot} {p : List Int}, chkBlsF c p l = 0 → p.Nodup → (∀ b, b ∈ l → BlV c b) ∧ (p ++ l.map (·.serial)).Nodup := by
 intro l
 induction l with
 | nil => intro p _ hp; exact ⟨fun b h => absurd h (by simp), by simpa using hp⟩
 | cons b l ih =>
  intro p h hp
  simp only [chkBlsF] at h
  split at h
  ·cases h
  rename_i h1
  split at h
  ·cases h
  rename_i h2
  split at h
  ·rename_i h3; exact absurd h h3
  rename_i h3
  simp only [ne_eq, Classical.not_not] at h3
  have hn : (p ++ [b.serial]).Nodup := by
   rw [List.nodup_append]
   refine ⟨hp, by simp, fun x hx y hy => ?_⟩
   simp only [List.mem_singleton] at hy
   subst hy
   intro e
   subst e
   exact h2 (has_iff.2 hx)
  obtain ⟨g1, g2⟩ := ih h hn
  refine ⟨fun x hx => ?_, by simpa using g2⟩
  rcases List.mem_cons.1 hx with rfl | hx
  ·exact blV_of (by simpa using h1) h3
  exact g1 x hx
theorem blsV_of {c : Contest} {l : List Ballot} (h : chkBls c l = 0) : CnV c ∧ l.length ≤ 300 ∧ (∀ b, b ∈ l → BlV c b) ∧ (l.map (·.serial)).Nodup := by
 unfold chkBls at h
 split at h
 ·rename_i q; exact absurd h q
 rename_i h1
 simp only [ne_eq, Classical.not_not] at h1
 split at h
 ·cases h
 rename_i h2
 obtain ⟨g1, g2⟩ := blsF_of h (by simp)
 exact ⟨cnV_of h1, by omega, g1, by simpa using g2⟩
theorem rds_of : ∀ {l : List Rnd} {s : Int}, chkRds s l = 0 → s ≤ 8 → ∀ r, r ∈ l → (1 ≤ r.keep ∧ r.keep ≤ 8) ∧ (0 ≤ r.jury ∧ r.jury ≤ 1000) ∧ 0 ≤ r.member ∧ r.member ≤ 1000 := by
 intro l
 induction l with
 | nil => intro s _ _ r h; cases h
 | cons a l ih =>
  intro s h hs r hr
  simp only [chkRds] at h
  split at h
  ·cases h
  rename_i h1
  simp only [chkRd, allIn, List.all_cons, List.all_nil, Bool.and_true, Bool.not_eq_true', Bool.not_eq_false, Bool.and_eq_true, inR_true] at h1
  rcases List.mem_cons.1 hr with rfl | hr
  ·omega
  exact ih h (by omega) r hr
theorem CnV.rnd {c : Contest} (h : CnV c) {r : Rnd} (hr : r ∈ c.rounds) : (1 ≤ r.keep ∧ r.keep ≤ 8) ∧ (0 ≤ r.jury ∧ r.jury ≤ 1000) ∧ 0 ≤ r.member ∧ r.member ≤ 1000 := rds_of h.rs h.sg.2 r hr
/-- The numbers from 0. -/
def toI (n : Int) : List Int := (List.range n.toNat).map fun (i : Nat) => (i : Int)
/-- One standing sinks to its place. -/
def sink : Nat → List Std → List Std
 | 0, l => l
 | j + 1, l => match l[j + 1]?, l[j]? with
  | some x, some y => if aheadS x y < 0 then sink j ((l.set (j + 1) y).set j x) else l
  | _, _ => l
def sinkAll : Nat → Nat → List Std → List Std
 | 0, _, l => l
 | k + 1, i, l => sinkAll k (i + 1) (sink i l)
def sortSd (l : List Std) : List Std := sinkAll (l.length - 1) 1 l
/-- The standing of a song, with more points and votes. -/
def stdT (t : Tally) (s p v : Int) : Std := weighS ⟨s, t.pts s.toNat + p, t.vts s.toNat + v, 0⟩ t.rd
def allT (t : Tally) : List Std := t.songs.map fun s => stdT t s 0 0
def keptS (n : Nat) (l : List Std) : List Int := sortI (((sortSd l).take n).map (·.song))
def resT (t : Tally) : Res := ⟨t.songs, (allT t).map (·.points), (allT t).map (·.votes), (allT t).map (·.score), keptS t.rd.keep.toNat (allT t)⟩
/-- The rounds counted, each with the songs that the one before keeps. -/
def rdsT (l : List Ballot) : List Rnd → Nat → List Int → List Tally
 | [], _, _ => []
 | r :: rs, i, songs => countT r i songs l :: rdsT l rs (i + 1) (resT (countT r i songs l)).kept
def roundsT (c : Contest) (l : List Ballot) : List Tally := rdsT l c.rounds 0 (toI c.songs)
def resultsT (c : Contest) (l : List Ballot) : List Res := (roundsT c l).map resT
def winnerT (c : Contest) (l : List Ballot) : Int := match (resultsT c l).getLast? with
 | some r => r.kept.headD 0
 | none => 0
def runD (c : Contest) (l : List Ballot) : List Res × Int × Int := if chkBls c l ≠ 0 then ([], 0, chkBls c l) else (resultsT c l, winnerT c l, 0)
theorem rdsT_len {l : List Ballot} : ∀ {rs : List Rnd} {i : Nat} {s : List Int}, (rdsT l rs i s).length = rs.length := by
 intro rs
 induction rs with
 | nil => intro i s; rfl
 | cons r rs ih => intro i s; simp [rdsT, ih]
theorem mem_set2 {α : Type} {l : List α} {i j : Nat} {x y z : α} (hx : l[i]? = some x) (hy : l[j]? = some y) (h : z ∈ (l.set i y).set j x) : z ∈ l := by
 rcases List.mem_or_eq_of_mem_set h with h | h
 ·rcases List.mem_or_eq_of_mem_set h with h | h
  ·exact h
  exact h ▸ List.mem_of_getElem? hy
 exact h ▸ List.mem_of_getElem? hx
theorem swap_perm {α : Type} : ∀ {l : List α} {j : Nat} {x y : α}, l[j + 1]? = some x → l[j]? = some y → ((l.set (j + 1) y).set j x).Perm l := by
 intro l
 induction l with
 | nil => intro j x y h; simp at h
 | cons a l ih =>
  intro j x y hx hy
  cases j with
  | zero =>
   cases l with
   | nil => simp at hx
   | cons b l =>
    simp only [List.getElem?_cons_zero, List.getElem?_cons_succ, Option.some.injEq] at hx hy
    subst hx hy
    simp only [List.set_cons_succ, List.set_cons_zero]
    exact List.Perm.swap _ _ _
  | succ j =>
   simp only [List.getElem?_cons_succ] at hx hy
   simp only [List.set_cons_succ]
   exact List.Perm.cons _ (ih hx hy)
theorem sink_perm : ∀ (j : Nat) (l : List Std), (sink j l).Perm l := by
 intro j
 induction j with
 | zero => intro l; exact List.Perm.refl _
 | succ j ih =>
  intro l
  simp only [sink]
  split
  ·rename_i x y hx hy
   split
   ·exact (ih _).trans (swap_perm hx hy)
   exact List.Perm.refl _
  exact List.Perm.refl _
theorem sinkAll_perm : ∀ (k i : Nat) (l : List Std), (sinkAll k i l).Perm l := by
 intro k
 induction k with
 | zero => intro i l; exact List.Perm.refl _
 | succ k ih => intro i l; exact (ih _ _).trans (sink_perm _ _)
theorem sortSd_perm (l : List Std) : (sortSd l).Perm l := sinkAll_perm _ _ _
theorem sortSd_len (l : List Std) : (sortSd l).length = l.length := (sortSd_perm l).length_eq
theorem allT_len {t : Tally} : (allT t).length = t.songs.length := by simp [allT]
theorem kept_len {n : Nat} {l : List Std} (h : n ≤ l.length) : (keptS n l).length = n := by
 unfold keptS
 rw [sortI_len, List.length_map, List.length_take, sortSd_len]; omega
def zeroTl : List PV := [I 0, I 0, I 0, .isl [] .exact, I 0, I 0, I 0, I 0, I 0, I 0, I 0, I 0, I 0, I 0, I 0, I 0, I 0, I 0, I 0, I 0, .nilmap]
def tl0 (r : Rnd) (songs : List Int) : Tally := ⟨r, songs, fun _ => 0, fun _ => 0, []⟩
def tlS (r : Rnd) (songs : List Int) (l : List Ballot) (m : List (Voice × Int)) (seen : List Nat) : Tally := ⟨r, songs, sumR cpB l m seen, sumR cvB l m seen, []⟩
theorem cleans_zt {a b c : Nat} : CleanAll a b c zeroTl = True := by simp only [zeroTl, go_sem]
attribute [go_sem] cleans_zt
theorem rn_tl {n nr ny k i : Nat} {ks : List Nat} (t : Tally) (h : ks[i]? = some k) : RnL n nr ny ks (tlCells (n + k) t) (tlCells (n + i) t) := by
 simp only [tlCells, RnL]
 exact ⟨.same _ (.int _ _), .same _ (.int _ _), .same _ (.int _ _), .same _ (clean_ints _), .same _ (.int _ _), .same _ (.int _ _), .same _ (.int _ _), .same _ (.int _ _), .same _ (.int _ _), .same _ (.int _ _), .same _ (.int _ _), .same _ (.int _ _), .same _ (.int _ _), .same _ (.int _ _), .same _ (.int _ _), .same _ (.int _ _), .same _ (.int _ _), .same _ (.int _ _), .same _ (.int _ _), .same _ (.int _ _), .mapv i k _ _ h rfl rfl, trivial⟩
theorem cpB_jury {b : Ballot} {sn : Nat} (hs : b.song = sn) (hk : b.kind ≠ 2) : ∀ s, cpB s b = if s = sn then b.points else 0 := fun s => by
 unfold cpB
 rw [hs]
 by_cases e : s = sn
 ·subst e; rw [if_pos ⟨hk, rfl⟩, if_pos rfl]
 rw [if_neg (by intro h; omega), if_neg e]
theorem cpB_member {b : Ballot} (hk : b.kind = 2) : ∀ s, cpB s b = 0 := fun s => by unfold cpB; rw [if_neg (by simp [hk])]
theorem cvB_member {b : Ballot} {sn : Nat} (hs : b.song = sn) (hk : b.kind = 2) : ∀ s, cvB s b = if s = sn then 1 else 0 := fun s => by
 unfold cvB
 rw [hs]
 by_cases e : s = sn
 ·subst e; rw [if_pos ⟨hk, rfl⟩, if_pos rfl]
 rw [if_neg (by intro h; omega), if_neg e]
theorem cvB_jury {b : Ballot} (hk : b.kind ≠ 2) : ∀ s, cvB s b = 0 := fun s => by unfold cvB; rw [if_neg (by simp [hk])]
set_option maxHeartbeats 8000000 in
theorem count_pc (Y : YEnv) (σ : Sg) (c : Contest) (l : List Ballot) (rdn : Nat) (r : Rnd) (songs : List Int) (hr : c.rounds[rdn]? = some r) (hrl : c.rounds.length < 2 ^ 40) (hl : l.length ≤ 300) (hsl : songs.length < 2 ^ 40) (hbv : ∀ b, b ∈ l → (0 ≤ b.song ∧ b.song < 8) ∧ 0 ≤ b.points ∧ b.points ≤ 100) :
 PC Tryz.prog Y 71 [cnPV c, bls l, I rdn, ints songs] σ (tlPV σ.store.length (countT r rdn songs l)) (σ.ext [some (.mark :: mapE vcPV I (voices rdn songs l l.length))] []) := by
 refine PC_of_W Tryz.func71 rfl (by kernel_rfl) Tryz.ntmps71 (by simp) fun hcl hca => ?_
 have hrd : rdn < c.rounds.length := (List.getElem?_eq_some_iff.1 hr).1
 have hrd2 : (rdn : Int) < (c.rounds.length : Int) := by omega
 refine W_sr [1, 2, 3, 4, 8] fun R hR => ?_
 simp only [go_sem, tl_map, Sg.get_ext, Sg.get_ext0, List.getElem?_cons_succ, List.getElem?_cons_zero]
 refine hR _ _ ?_; clear hR R
 try simp only [go_sem, tl_map, Sg.get_ext, Sg.get_ext0, List.getElem?_cons_succ, List.getElem?_cons_zero]
 refine W_sr [1, 2, 3, 8, 9] fun R hR => ?_
 simp only [go_sem, tl_map, Sg.get_ext, Sg.get_ext0, List.getElem?_cons_succ, List.getElem?_cons_zero, hr, hrd2]
 refine hR _ _ ?_; clear hR R
 try simp only [go_sem, tl_map, Sg.get_ext, Sg.get_ext0, List.getElem?_cons_succ, List.getElem?_cons_zero]
 refine W_seq fun Z3 K3 => ?_
 refine W_seq fun Z4 K4 => ?_
 refine W_weak (Weak.eq (σ' := σ.ext [some (cnCells c), some zeroTl, some (.mark :: mapE vcPV I ([])), some (tlCells (σ.store.length + 2) (tl0 r songs))] []) rfl rfl) ?_
 refine W_region [1, 2, 3, 8, 9, 26, 27, 28] fun R hR => ?_
 simp only [go_sem, tl_map, Sg.get_ext, Sg.get_ext0, List.getElem?_cons_succ, List.getElem?_cons_zero]
 refine hR _ _ (K4 _ _ ?_); clear hR R; try clear K4 Z4
 try simp only [go_sem, tl_map, Sg.get_ext, Sg.get_ext0, List.getElem?_cons_succ, List.getElem?_cons_zero]
 refine W_block ?_
 refine W_loopT (α := Nat) (fun (i : Nat) => [(28, I i)]) (fun (i : Nat) => σ.ext [some (cnCells c), some zeroTl, some (.mark :: mapE vcPV I (voices rdn songs l i)), some (tlCells (σ.store.length + 2) (tl0 r songs))] []) (fun (i : Nat) => i ≤ l.length) (fun (i : Nat) => l.length - i) (0) rfl (by first | rfl | (simp only [go_sem]; done) | (simp only [go_sem]; rfl)) (Nat.zero_le _) ?_
 rintro i hi
 refine W_sr [1, 2, 3, 8, 9, 26, 27, 28, 29] fun R hR => ?_
 simp only [go_sem, tl_map, Sg.get_ext, Sg.get_ext0, List.getElem?_cons_succ, List.getElem?_cons_zero]
 refine hR _ _ ?_; clear hR R
 try simp only [go_sem, tl_map, Sg.get_ext, Sg.get_ext0, List.getElem?_cons_succ, List.getElem?_cons_zero]
 refine W_seq fun Z6 K6 => ?_
 refine W_cond rfl (fun c1 => ?_) (fun c1 => ?_)
 ·
  try simp only [nrm] at c1
  have hi' : i < l.length := by first | assumption | omega
  obtain ⟨b, hx⟩ : ∃ b, l[i]? = some b := ⟨l[i], by simp [hi']⟩
  have hdrop : l.drop i = b :: l.drop (i + 1) := by
   rw [List.drop_eq_getElem_cons hi']; congr 1; exact (List.getElem?_eq_some_iff.1 hx).2
  have hvs : voices rdn songs l (i + 1) = vstep rdn songs l (voices rdn songs l i) i b := by simp only [voices, hx]
  have hpl := voices_ok rdn songs l i
  obtain ⟨m, hm⟩ : ∃ z, voices rdn songs l i = z := ⟨_, rfl⟩
  rw [hm] at hvs hpl
  simp only [hm]
  refine W_skip (K6 _ _ ?_)
  refine W_seq fun Z7 K7 => ?_
  refine W_block ?_
  refine W_sr [1, 2, 3, 8, 9, 10, 11, 26, 27, 28] fun R hR => ?_
  simp only [go_sem, tl_map, Sg.get_ext, Sg.get_ext0, List.getElem?_cons_succ, List.getElem?_cons_zero, hx, blCells, blPV]
  refine hR _ _ ?_; clear hR R
  try simp only [go_sem, tl_map, Sg.get_ext, Sg.get_ext0, List.getElem?_cons_succ, List.getElem?_cons_zero, hx, blCells, blPV]
  refine W_seq fun Z9 K9 => ?_
  refine W_seq fun Z10 K10 => ?_
  refine W_regionJ [1, 2, 3, 8, 9, 10, 11, 26, 27, 28, 43] [(43, .bool (!(isIn rdn songs b)))] ?_ fun R hR => ?_
  ·refine K10 _ _ ?_
   simp only [go_sem, tl_map, Sg.get_ext, Sg.get_ext0, List.getElem?_cons_succ, List.getElem?_cons_zero, hx, blCells, blPV]
   refine W_cond rfl (fun c2 => ?_) (fun c2 => ?_)
   ·
    try simp only [nrm] at c2
    refine W_exit ?_
    simp only [go_sem, tl_map, Sg.get_ext, Sg.get_ext0, List.getElem?_cons_succ, List.getElem?_cons_zero, hx, blCells, blPV]
    refine K7 _ _ ?_
    refine W_region [1, 2, 3, 8, 9, 26, 27, 28] fun R hR => ?_
    simp only [go_sem, tl_map, Sg.get_ext, Sg.get_ext0, List.getElem?_cons_succ, List.getElem?_cons_zero, hx, blCells, blPV]
    try simp (disch := omega) only [wrapI, wrapU]
    refine hR _ _ ?_; clear hR R
    try simp only [go_sem, tl_map, Sg.get_ext, Sg.get_ext0, List.getElem?_cons_succ, List.getElem?_cons_zero, hx, blCells, blPV]
    refine ⟨i + 1, ?_, by (try simp only []); omega, ?_⟩
    ·refine Weak.trans (Weak.cutX 4 0 (by omega) (by omega) hcl (by simp only [go_sem, CleanAll_mapV] <;> omega) (by simp only [go_sem] <;> omega)) ?_
     simp only [go_sem]
     exact Weak.eq rfl (by rw [hvs]; unfold vstep; first | (rw [c2, c4, hkey]; rfl) | (rw [c2, c4]; rfl) | (rw [c2, c5, hkey]; rfl) | (rw [c2, c5]; rfl) | (rw [c2]; rfl))
    try dsimp only
    exact hi'
   try simp only [nrm] at c2
   refine W_skip (K9 _ _ ?_)
   refine W_sr [1, 2, 3, 8, 9, 10, 11, 12, 26, 27, 28] fun R hR => ?_
   simp only [go_sem, tl_map, Sg.get_ext, Sg.get_ext0, List.getElem?_cons_succ, List.getElem?_cons_zero, hx, blCells, blPV]
   refine hR _ _ ?_; clear hR R
   try simp only [go_sem, tl_map, Sg.get_ext, Sg.get_ext0, List.getElem?_cons_succ, List.getElem?_cons_zero, hx, blCells, blPV]
   refine W_seq fun Z12 K12 => ?_
   refine W_sr [1, 2, 3, 8, 9, 10, 11, 12, 26, 27, 28, 53] fun R hR => ?_
   simp only [go_sem, tl_map, Sg.get_ext, Sg.get_ext0, List.getElem?_cons_succ, List.getElem?_cons_zero, hx, blCells, blPV]
   refine hR _ _ ?_; clear hR R
   try simp only [go_sem, tl_map, Sg.get_ext, Sg.get_ext0, List.getElem?_cons_succ, List.getElem?_cons_zero, hx, blCells, blPV]
   refine W_cond rfl (fun c3 => ?_) (fun c3 => ?_)
   ·
    try simp only [nrm] at c3
    have hkey : keyOf b = (b.kind, b.voter, -1) := by simp [keyOf, c3]
    refine W_region [1, 2, 3, 8, 9, 10, 11, 12, 26, 27, 28] fun R hR => ?_
    simp only [go_sem, tl_map, Sg.get_ext, Sg.get_ext0, List.getElem?_cons_succ, List.getElem?_cons_zero, hx, blCells, blPV]
    refine hR _ _ (K12 _ _ ?_); clear hR R; try clear K12 Z12
    try simp only [go_sem, tl_map, Sg.get_ext, Sg.get_ext0, List.getElem?_cons_succ, List.getElem?_cons_zero, hx, blCells, blPV]
    refine W_sr [1, 2, 3, 8, 9, 10, 11, 12, 13, 14, 26, 27, 28] fun R hR => ?_
    simp only [go_sem, tl_map, Sg.get_ext, Sg.get_ext0, List.getElem?_cons_succ, List.getElem?_cons_zero, hx, blCells, blPV]
    refine hR _ _ ?_; clear hR R
    try simp only [go_sem, tl_map, Sg.get_ext, Sg.get_ext0, List.getElem?_cons_succ, List.getElem?_cons_zero, hx, blCells, blPV]
    refine W_seq fun Z15 K15 => ?_
    refine W_drawJ [1, 2, 3, 8, 9, 10, 12, 26, 27, 28, 73] [(73, .bool (first l m b))] [0, 1, 2, 3, 4, 5, 6, 7, 8, 9, 10, 11] [] [[], [0], [0, 1], [0, 1, 2], [0, 1, 2, 3], [0, 1, 2], [0, 1, 2], [0, 1, 2, 5, 6], [0, 1, 2, 5, 6, 7], [0, 1, 2, 5, 6, 7, 8], [0, 1, 2, 3, 4, 5, 6, 7, 8, 9], [0, 1, 2, 3, 4, 5, 6, 7, 8, 9, 10]] mixed (by kernel_rfl) ?_ fun R hR => ?_
    ·refine K15 _ _ ?_
     simp only [go_sem, tl_map, Sg.get_ext, Sg.get_ext0, List.getElem?_cons_succ, List.getElem?_cons_zero, hx, blCells, blPV]
     refine W_cond rfl (fun c4 => ?_) (fun c4 => ?_)
     ·
      try simp only [nrm] at c4
      refine W_region [1, 2, 3, 8, 9, 26, 27, 28] fun R hR => ?_
      simp only [go_sem, tl_map, Sg.get_ext, Sg.get_ext0, List.getElem?_cons_succ, List.getElem?_cons_zero, hx, blCells, blPV]
      refine hR _ _ (K7 _ _ ?_); clear hR R; try clear K7 Z7
      try simp only [go_sem, tl_map, Sg.get_ext, Sg.get_ext0, List.getElem?_cons_succ, List.getElem?_cons_zero, hx, blCells, blPV]
      refine W_region [1, 2, 3, 8, 9, 26, 27, 28] fun R hR => ?_
      simp only [go_sem, tl_map, Sg.get_ext, Sg.get_ext0, List.getElem?_cons_succ, List.getElem?_cons_zero, hx, blCells, blPV]
      try simp (disch := omega) only [wrapI, wrapU]
      refine hR _ _ ?_; clear hR R
      try simp only [go_sem, tl_map, Sg.get_ext, Sg.get_ext0, List.getElem?_cons_succ, List.getElem?_cons_zero, hx, blCells, blPV]
      refine ⟨i + 1, ?_, by (try simp only []); omega, ?_⟩
      ·refine Weak.trans (Weak.cutX 4 0 (by omega) (by omega) hcl (by simp only [go_sem, CleanAll_mapV] <;> omega) (by simp only [go_sem] <;> omega)) ?_
       simp only [go_sem]
       exact Weak.eq rfl (by rw [hvs]; unfold vstep; first | (rw [c2, c4, hkey]; rfl) | (rw [c2, c4]; rfl) | (rw [c2, c5, hkey]; rfl) | (rw [c2, c5]; rfl) | (rw [c2]; rfl))
      try dsimp only
      exact hi'
     try simp only [nrm] at c4
     refine W_skip (K7 _ _ ?_)
     refine W_region [1, 2, 3, 8, 9, 26, 27, 28] fun R hR => ?_
     simp only [go_sem, tl_map, Sg.get_ext, Sg.get_ext0, List.getElem?_cons_succ, List.getElem?_cons_zero, hx, blCells, blPV]
     try simp (disch := omega) only [wrapI, wrapU]
     refine hR _ _ ?_; clear hR R
     try simp only [go_sem, tl_map, Sg.get_ext, Sg.get_ext0, List.getElem?_cons_succ, List.getElem?_cons_zero, hx, blCells, blPV]
     refine ⟨i + 1, ?_, by (try simp only []); omega, ?_⟩
     ·refine Weak.trans (Weak.cutX 4 0 (by omega) (by omega) hcl (by simp only [go_sem, CleanAll_mapV] <;> omega) (by simp only [go_sem] <;> omega)) ?_
      simp only [go_sem]
      exact Weak.eq rfl (by rw [hvs]; unfold vstep; first | (rw [c2, c4, hkey]; rfl) | (rw [c2, c4]; rfl) | (rw [c2, c5, hkey]; rfl) | (rw [c2, c5]; rfl) | (rw [c2]; rfl))
     try dsimp only
     exact hi'
    simp only [go_sem, tl_map, Sg.get_ext, Sg.get_ext0, List.getElem?_cons_succ, List.getElem?_cons_zero, hx, blCells, blPV]
    refine GWant_split (fun g1 => ?_) (fun g1 => ?_)
    ·try simp only [Bool.not_eq_true', Bool.not_eq_false'] at g1
     have n1 := g1; try simp only [nrm] at n1
     obtain ⟨kz, hkz⟩ : ∃ z, aget (keyOf b) m = some z := Option.isSome_iff_exists.1 (by rw [hkey]; simpa using g1)
     obtain ⟨kk, o, e1, e2, e3, _⟩ := hpl _ (aget_mem hkz)
     simp only at e1
     subst e1
     have hfst : first l m b = decide (b.serial < o.serial) := by simp [first, hkz, e3]
     rw [hkey] at hkz
     have hkk0 : (0 : Int) ≤ (kk : Int) := by omega
     have hkl : (kk : Int) < (l.length : Int) := by omega
     simp only [go_sem, tl_map, Sg.get_ext, Sg.get_ext0, List.getElem?_cons_succ, List.getElem?_cons_zero, hx, blCells, blPV, hkz, e3, Option.getD_some, Int.toNat_natCast, hkk0, hkl, Option.isSome_some, Bool.not_true, Bool.not_false, g1]
     try refine And.intro (by repeat' (first | refine And.intro ?_ ?_ | exact GOr_right (fun _ => by simp only [go_sem, tl_map, Sg.get_ext, Sg.get_ext0, List.getElem?_cons_succ, List.getElem?_cons_zero, hx, blCells, blPV, hkz, e3, Option.getD_some, Int.toNat_natCast, hkk0, hkl, Option.isSome_some, Bool.not_true, Bool.not_false]))) ?_
     refine hR _ ?_
     all_goals try simp only [go_sem, tl_map, Sg.get_ext, Sg.get_ext0, List.getElem?_cons_succ, List.getElem?_cons_zero, hx, blCells, blPV, hkz, e3, Option.getD_some, Int.toNat_natCast, hkk0, hkl, Option.isSome_some, Bool.not_true, Bool.not_false]
     all_goals
      first | rfl | (rw [hfst]; done) | (rw [hfst]; rfl)
    try simp only [Bool.not_eq_true', Bool.not_eq_false'] at g1
    have n1 := g1; try simp only [nrm] at n1
    have hkn : aget (keyOf b) m = none := by rw [hkey]; simpa using g1
    have hfst : first l m b = true := by simp [first, hkn]
    simp only [go_sem, tl_map, Sg.get_ext, Sg.get_ext0, List.getElem?_cons_succ, List.getElem?_cons_zero, hx, blCells, blPV, g1]
    try refine And.intro (by repeat' (first | refine And.intro ?_ ?_ | exact GOr_right (fun _ => by simp only [go_sem, tl_map, Sg.get_ext, Sg.get_ext0, List.getElem?_cons_succ, List.getElem?_cons_zero, hx, blCells, blPV]))) ?_
    refine hR _ ?_
    all_goals try simp only [go_sem, tl_map, Sg.get_ext, Sg.get_ext0, List.getElem?_cons_succ, List.getElem?_cons_zero, hx, blCells, blPV]
    all_goals
     first | rfl | (rw [hfst]; done) | (rw [hfst]; rfl)
   try simp only [nrm] at c3
   have hkey : keyOf b = (b.kind, b.voter, b.song) := by simp [keyOf, c3]
   refine W_skip (K12 _ _ ?_)
   refine W_sr [1, 2, 3, 8, 9, 10, 11, 12, 13, 14, 26, 27, 28] fun R hR => ?_
   simp only [go_sem, tl_map, Sg.get_ext, Sg.get_ext0, List.getElem?_cons_succ, List.getElem?_cons_zero, hx, blCells, blPV]
   refine hR _ _ ?_; clear hR R
   try simp only [go_sem, tl_map, Sg.get_ext, Sg.get_ext0, List.getElem?_cons_succ, List.getElem?_cons_zero, hx, blCells, blPV]
   refine W_seq fun Z17 K17 => ?_
   refine W_drawJ [1, 2, 3, 8, 9, 10, 12, 26, 27, 28, 73] [(73, .bool (first l m b))] [0, 1, 2, 3, 4, 5, 6, 7, 8, 9, 10, 11] [] [[], [0], [0, 1], [0, 1, 2], [0, 1, 2, 3], [0, 1, 2], [0, 1, 2], [0, 1, 2, 5, 6], [0, 1, 2, 5, 6, 7], [0, 1, 2, 5, 6, 7, 8], [0, 1, 2, 3, 4, 5, 6, 7, 8, 9], [0, 1, 2, 3, 4, 5, 6, 7, 8, 9, 10]] mixed (by kernel_rfl) ?_ fun R hR => ?_
   ·refine K17 _ _ ?_
    simp only [go_sem, tl_map, Sg.get_ext, Sg.get_ext0, List.getElem?_cons_succ, List.getElem?_cons_zero, hx, blCells, blPV]
    refine W_cond rfl (fun c5 => ?_) (fun c5 => ?_)
    ·
     try simp only [nrm] at c5
     refine W_region [1, 2, 3, 8, 9, 26, 27, 28] fun R hR => ?_
     simp only [go_sem, tl_map, Sg.get_ext, Sg.get_ext0, List.getElem?_cons_succ, List.getElem?_cons_zero, hx, blCells, blPV]
     refine hR _ _ (K7 _ _ ?_); clear hR R; try clear K7 Z7
     try simp only [go_sem, tl_map, Sg.get_ext, Sg.get_ext0, List.getElem?_cons_succ, List.getElem?_cons_zero, hx, blCells, blPV]
     refine W_region [1, 2, 3, 8, 9, 26, 27, 28] fun R hR => ?_
     simp only [go_sem, tl_map, Sg.get_ext, Sg.get_ext0, List.getElem?_cons_succ, List.getElem?_cons_zero, hx, blCells, blPV]
     try simp (disch := omega) only [wrapI, wrapU]
     refine hR _ _ ?_; clear hR R
     try simp only [go_sem, tl_map, Sg.get_ext, Sg.get_ext0, List.getElem?_cons_succ, List.getElem?_cons_zero, hx, blCells, blPV]
     refine ⟨i + 1, ?_, by (try simp only []); omega, ?_⟩
     ·refine Weak.trans (Weak.cutX 4 0 (by omega) (by omega) hcl (by simp only [go_sem, CleanAll_mapV] <;> omega) (by simp only [go_sem] <;> omega)) ?_
      simp only [go_sem]
      exact Weak.eq rfl (by rw [hvs]; unfold vstep; first | (rw [c2, c4, hkey]; rfl) | (rw [c2, c4]; rfl) | (rw [c2, c5, hkey]; rfl) | (rw [c2, c5]; rfl) | (rw [c2]; rfl))
     try dsimp only
     exact hi'
    try simp only [nrm] at c5
    refine W_skip (K7 _ _ ?_)
    refine W_region [1, 2, 3, 8, 9, 26, 27, 28] fun R hR => ?_
    simp only [go_sem, tl_map, Sg.get_ext, Sg.get_ext0, List.getElem?_cons_succ, List.getElem?_cons_zero, hx, blCells, blPV]
    try simp (disch := omega) only [wrapI, wrapU]
    refine hR _ _ ?_; clear hR R
    try simp only [go_sem, tl_map, Sg.get_ext, Sg.get_ext0, List.getElem?_cons_succ, List.getElem?_cons_zero, hx, blCells, blPV]
    refine ⟨i + 1, ?_, by (try simp only []); omega, ?_⟩
    ·refine Weak.trans (Weak.cutX 4 0 (by omega) (by omega) hcl (by simp only [go_sem, CleanAll_mapV] <;> omega) (by simp only [go_sem] <;> omega)) ?_
     simp only [go_sem]
     exact Weak.eq rfl (by rw [hvs]; unfold vstep; first | (rw [c2, c4, hkey]; rfl) | (rw [c2, c4]; rfl) | (rw [c2, c5, hkey]; rfl) | (rw [c2, c5]; rfl) | (rw [c2]; rfl))
    try dsimp only
    exact hi'
   simp only [go_sem, tl_map, Sg.get_ext, Sg.get_ext0, List.getElem?_cons_succ, List.getElem?_cons_zero, hx, blCells, blPV]
   refine GWant_split (fun g2 => ?_) (fun g2 => ?_)
   ·try simp only [Bool.not_eq_true', Bool.not_eq_false'] at g2
    have n2 := g2; try simp only [nrm] at n2
    obtain ⟨kz, hkz⟩ : ∃ z, aget (keyOf b) m = some z := Option.isSome_iff_exists.1 (by rw [hkey]; simpa using g2)
    obtain ⟨kk, o, e1, e2, e3, _⟩ := hpl _ (aget_mem hkz)
    simp only at e1
    subst e1
    have hfst : first l m b = decide (b.serial < o.serial) := by simp [first, hkz, e3]
    rw [hkey] at hkz
    have hkk0 : (0 : Int) ≤ (kk : Int) := by omega
    have hkl : (kk : Int) < (l.length : Int) := by omega
    simp only [go_sem, tl_map, Sg.get_ext, Sg.get_ext0, List.getElem?_cons_succ, List.getElem?_cons_zero, hx, blCells, blPV, hkz, e3, Option.getD_some, Int.toNat_natCast, hkk0, hkl, Option.isSome_some, Bool.not_true, Bool.not_false, g2]
    try refine And.intro (by repeat' (first | refine And.intro ?_ ?_ | exact GOr_right (fun _ => by simp only [go_sem, tl_map, Sg.get_ext, Sg.get_ext0, List.getElem?_cons_succ, List.getElem?_cons_zero, hx, blCells, blPV, hkz, e3, Option.getD_some, Int.toNat_natCast, hkk0, hkl, Option.isSome_some, Bool.not_true, Bool.not_false]))) ?_
    refine hR _ ?_
    all_goals try simp only [go_sem, tl_map, Sg.get_ext, Sg.get_ext0, List.getElem?_cons_succ, List.getElem?_cons_zero, hx, blCells, blPV, hkz, e3, Option.getD_some, Int.toNat_natCast, hkk0, hkl, Option.isSome_some, Bool.not_true, Bool.not_false]
    all_goals
     first | rfl | (rw [hfst]; done) | (rw [hfst]; rfl)
   try simp only [Bool.not_eq_true', Bool.not_eq_false'] at g2
   have n2 := g2; try simp only [nrm] at n2
   have hkn : aget (keyOf b) m = none := by rw [hkey]; simpa using g2
   have hfst : first l m b = true := by simp [first, hkn]
   simp only [go_sem, tl_map, Sg.get_ext, Sg.get_ext0, List.getElem?_cons_succ, List.getElem?_cons_zero, hx, blCells, blPV, g2]
   try refine And.intro (by repeat' (first | refine And.intro ?_ ?_ | exact GOr_right (fun _ => by simp only [go_sem, tl_map, Sg.get_ext, Sg.get_ext0, List.getElem?_cons_succ, List.getElem?_cons_zero, hx, blCells, blPV]))) ?_
   refine hR _ ?_
   all_goals try simp only [go_sem, tl_map, Sg.get_ext, Sg.get_ext0, List.getElem?_cons_succ, List.getElem?_cons_zero, hx, blCells, blPV]
   all_goals
    first | rfl | (rw [hfst]; done) | (rw [hfst]; rfl)
  simp only [go_sem, tl_map, Sg.get_ext, Sg.get_ext0, List.getElem?_cons_succ, List.getElem?_cons_zero, hx, blCells, blPV]
  refine GWant_split (fun g3 => ?_) (fun g3 => ?_)
  ·try simp only [Bool.not_eq_true', Bool.not_eq_false'] at g3
   have n3 := g3; try simp only [nrm] at n3
   simp only [go_sem, tl_map, Sg.get_ext, Sg.get_ext0, List.getElem?_cons_succ, List.getElem?_cons_zero, hx, blCells, blPV, g3]
   refine GCall_of (contains_pc Y _ songs .ro b.song (by omega)) ?_
   simp only [go_sem, tl_map, Sg.get_ext, Sg.get_ext0, List.getElem?_cons_succ, List.getElem?_cons_zero, hx, blCells, blPV, g3]
   refine hR _ ?_
   all_goals try simp only [go_sem, tl_map, Sg.get_ext, Sg.get_ext0, List.getElem?_cons_succ, List.getElem?_cons_zero, hx, blCells, blPV]
   all_goals
    first | rfl | (simp [isIn, *]; done) | (simp_all [isIn]; done)
  try simp only [Bool.not_eq_true', Bool.not_eq_false'] at g3
  have n3 := g3; try simp only [nrm] at n3
  simp only [go_sem, tl_map, Sg.get_ext, Sg.get_ext0, List.getElem?_cons_succ, List.getElem?_cons_zero, hx, blCells, blPV, g3]
  refine hR _ ?_
  all_goals try simp only [go_sem, tl_map, Sg.get_ext, Sg.get_ext0, List.getElem?_cons_succ, List.getElem?_cons_zero, hx, blCells, blPV]
  all_goals
   first | rfl | (simp [isIn, *]; done) | (simp_all [isIn]; done)
 try simp only [nrm] at c1
 have hie : i = l.length := by first | omega | (simp at c1; omega)
 subst hie
 refine W_exit ?_
 simp only [go_sem, tl_map, Sg.get_ext, Sg.get_ext0, List.getElem?_cons_succ, List.getElem?_cons_zero]
 refine K3 _ _ ?_
 refine W_seq fun Z18 K18 => ?_
 refine W_sr [1, 8, 9, 81] fun R hR => ?_
 simp only [go_sem, tl_map, Sg.get_ext, Sg.get_ext0, List.getElem?_cons_succ, List.getElem?_cons_zero]
 refine hR _ _ ?_; clear hR R
 try simp only [go_sem, tl_map, Sg.get_ext, Sg.get_ext0, List.getElem?_cons_succ, List.getElem?_cons_zero]
 refine W_block ?_
 obtain ⟨M, hM⟩ : ∃ z, voices rdn songs l l.length = z := ⟨_, rfl⟩
 have hpl := voices_ok rdn songs l l.length
 have hml := voices_len rdn songs l l.length
 rw [hM] at hpl hml
 simp only [hM]
 refine W_loopT (α := (List Nat)) (fun (seen : List Nat) => []) (fun (seen : List Nat) => σ.ext [some (cnCells c), some zeroTl, some (.mark :: mapE vcPV I M), some (tlCells (σ.store.length + 2) (tlS r songs l M seen)), some [.itst (σ.store.length + 2) M.length seen]] []) (fun (seen : List Nat) => seen.Nodup ∧ ∀ j, j ∈ seen → j < M.length) (fun (seen : List Nat) => M.length - seen.length) ([]) rfl (by first | rfl | (simp only [go_sem]; done) | (simp only [go_sem]; rfl)) (⟨List.nodup_nil, fun j h => absurd h (by simp)⟩) ?_
 rintro seen ⟨hsn, hsl2⟩
 refine W_seq fun Z20 K20 => ?_
 refine W_next [1, 8, 9, 81, 83] (os := _) rfl rfl rfl (by decide) (it_ext (j := 4) (k := 2) rfl rfl mapE_len) (fun K hR hall => ?_) (fun K hR j0 k0 u0 hj0 hns => ?_)
 · -- next: no more
  have hsA := sumR_all (f := cpB) (l := l) (m := M) hsn hsl2 (by simpa [mapE_len] using hall)
  have hsB := sumR_all (f := cvB) (l := l) (m := M) hsn hsl2 (by simpa [mapE_len] using hall)
  have hct : countT r rdn songs l = ⟨r, songs, sumR cpB l M seen, sumR cvB l M seen, M⟩ := by unfold countT; rw [hM, hsA, hsB]
  simp only [go_sem, tl_map, Sg.get_ext, Sg.get_ext0, List.getElem?_cons_succ, List.getElem?_cons_zero]
  refine hR _ _ (K20 _ _ ?_); clear hR K
  try simp only [go_sem, tl_map, Sg.get_ext, Sg.get_ext0, List.getElem?_cons_succ, List.getElem?_cons_zero]
  refine W_seq fun Z21 K21 => ?_
  refine W_cond_false rfl ?_
  refine W_exit ?_
  simp only [go_sem, tl_map, Sg.get_ext, Sg.get_ext0, List.getElem?_cons_succ, List.getElem?_cons_zero]
  refine K18 _ _ ?_
  refine W_sr [8] fun R hR => ?_
  simp only [go_sem, tl_map, Sg.get_ext, Sg.get_ext0, List.getElem?_cons_succ, List.getElem?_cons_zero, tlCells, zeroTl]
  refine hR _ _ ?_; clear hR R
  try simp only [go_sem, tl_map, Sg.get_ext, Sg.get_ext0, List.getElem?_cons_succ, List.getElem?_cons_zero]
  refine W_weak (?_ : Weak _ _ _ _ [(8, .ptr (σ.store.length + 1) 0)] (σ.ext [some (.mark :: mapE vcPV I M), some (tlCells (σ.store.length + 0) ⟨r, songs, sumR cpB l M seen, sumR cvB l M seen, M⟩)] [])) ?_
  ·refine Weak.ren [2, 1] (by decide) (by simp) (by first | omega | (simp only [go_sem] <;> omega)) hcl (RnE.get ⟨rfl, .ptr 1 1 _ _ _ rfl rfl rfl, trivial⟩) ⟨⟨_, rfl, .inl ⟨?_, rfl⟩⟩, ⟨_, rfl, .inr ⟨by simp, rn_tl (k := 2) (i := 0) ⟨r, songs, sumR cpB l M seen, sumR cvB l M seen, M⟩ rfl⟩⟩, trivial⟩
   simp only [go_sem]
  simp only [tlCells, Nat.add_zero]
  refine W_ret ?_
  simp only [go_sem, tl_map, Sg.get_ext, Sg.get_ext0, List.getElem?_cons_succ, List.getElem?_cons_zero]
  refine ⟨.inr (by trivial), ?_⟩
  rw [hct, hM]
  refine Fin_ext (l := [_, _]) (rm := []) 1 0 hcl (by show resPV Tryz.prog _ _ [.cell 8 86] = some _; simp only [resPV, go_sem]; rfl) (Wk_eq ?_ (by simp only [go_sem] <;> omega)) ?_
  try simp only [go_sem]
  all_goals
   first | rfl | (show CleanLs _ _ _ _; simp only [go_sem] <;> omega)
 -- next: one more
 obtain ⟨e, he, rfl, rfl⟩ := mapE_get hj0
 obtain ⟨ky, kz⟩ := e
 obtain ⟨kk, o, e1, e2, e3, e4, e5⟩ := hpl _ (List.mem_of_getElem? he)
 simp only at e1 e4
 subst e1
 have hent : entB l M j0 = some o := by simp [entB, he, e3]
 have hbo := hbv o (List.mem_of_getElem? e3)
 obtain ⟨sn, hsn2⟩ : ∃ z : Nat, o.song = z := ⟨o.song.toNat, by omega⟩
 have hs8 : sn < 8 := by omega
 have hs8i : (sn : Int) < 8 := by omega
 have hs12 : decide (12 + sn ≤ 20) = true := by simp; omega
 have hs4 : decide (4 + sn ≤ 20) = true := by simp; omega
 have hsn' : (seen ++ [j0]).Nodup := by
  rw [List.nodup_append]
  exact ⟨hsn, by simp, fun x hx y hy e => hns (by simp at hy; rw [← hy, ← e]; exact hx)⟩
 have hsl' : ∀ j, j ∈ seen ++ [j0] → j < M.length := fun j hj => by
  rcases List.mem_append.1 hj with h | h
  ·exact hsl2 j h
  simp at h
  rw [h]
  exact (List.getElem?_eq_some_iff.1 he).1
 have hln : (seen ++ [j0]).length = seen.length + 1 := by simp
 have hjl' := nodup_len hsn' hsl'
 have hjl := nodup_len hsn hsl2
 have hbd1 : 0 ≤ (tlS r songs l M seen).vts sn ∧ (tlS r songs l M seen).vts sn ≤ 300 := by
  have := sumB_bd (f := cvB sn) (l := l) (m := M) (c := 1) (by omega) (fun b _ => by unfold cvB; split <;> omega) seen
  exact ⟨this.1, Int.le_trans this.2 (by omega)⟩
 have hbd2 : 0 ≤ (tlS r songs l M seen).pts sn ∧ (tlS r songs l M seen).pts sn ≤ 30000 := by
  have := sumB_bd (f := cpB sn) (l := l) (m := M) (c := 100) (by omega) (fun b hb => by have := hbv b hb; unfold cpB; split <;> omega) seen
  exact ⟨this.1, Int.le_trans this.2 (by omega)⟩
 have hw1 : IntKind.i64.wrap ((tlS r songs l M seen).vts sn + 1) = (tlS r songs l M seen).vts sn + 1 := wrapI (by omega) (by omega)
 have hw2 : IntKind.i64.wrap ((tlS r songs l M seen).pts sn + o.points) = (tlS r songs l M seen).pts sn + o.points := wrapI (by omega) (by omega)
 simp only [go_sem, tl_map, Sg.get_ext, Sg.get_ext0, List.getElem?_cons_succ, List.getElem?_cons_zero, e3, hsn2]
 refine hR _ _ (K20 _ _ ?_); clear hR K
 try simp only [go_sem, tl_map, Sg.get_ext, Sg.get_ext0, List.getElem?_cons_succ, List.getElem?_cons_zero, e3, hsn2]
 refine W_seq fun Z23 K23 => ?_
 refine W_cond_true rfl ?_
 refine W_skip (K23 _ _ ?_)
 refine W_block ?_
 refine W_sr [1, 8, 9, 16, 81] fun R hR => ?_
 simp only [go_sem, tl_map, Sg.get_ext, Sg.get_ext0, List.getElem?_cons_succ, List.getElem?_cons_zero, e3, hsn2, entryPV, iterAt, mapE_len, List.getLast?_concat, mapE_at he]
 refine hR _ _ ?_; clear hR R
 try simp only [go_sem, tl_map, Sg.get_ext, Sg.get_ext0, List.getElem?_cons_succ, List.getElem?_cons_zero, e3, hsn2]
 refine W_sr [1, 8, 9, 17, 81] fun R hR => ?_
 simp only [go_sem, tl_map, Sg.get_ext, Sg.get_ext0, List.getElem?_cons_succ, List.getElem?_cons_zero, e3, hsn2]
 refine hR _ _ ?_; clear hR R
 try simp only [go_sem, tl_map, Sg.get_ext, Sg.get_ext0, List.getElem?_cons_succ, List.getElem?_cons_zero, e3, hsn2]
 refine W_sr [1, 8, 9, 17, 81, 92] fun R hR => ?_
 simp only [go_sem, tl_map, Sg.get_ext, Sg.get_ext0, List.getElem?_cons_succ, List.getElem?_cons_zero, e3, hsn2]
 refine hR _ _ ?_; clear hR R
 try simp only [go_sem, tl_map, Sg.get_ext, Sg.get_ext0, List.getElem?_cons_succ, List.getElem?_cons_zero, e3, hsn2]
 refine W_cond rfl (fun c6 => ?_) (fun c6 => ?_)
 ·
  try simp only [nrm] at c6
  have hst : ({ tlS r songs l M seen with vts := upd (tlS r songs l M seen).vts sn ((tlS r songs l M seen).vts sn + 1) } : Tally) = tlS r songs l M (seen ++ [j0]) := by unfold tlS; rw [sumR_same hent (cpB_member c6), sumR_hit hent (cvB_member hsn2 c6)]
  refine W_region [1, 8, 9, 81] fun R hR => ?_
  simp only [go_sem, tl_map, Sg.get_ext, Sg.get_ext0, List.getElem?_cons_succ, List.getElem?_cons_zero, e3, hsn2, hs8i, Nat.mul_one, tl_vts hs8, hw1, tl_setV hs8, tl_len, hs12]
  try simp (disch := omega) only [wrapI, wrapU]
  refine hR _ _ ?_; clear hR R
  try simp only [go_sem, tl_map, Sg.get_ext, Sg.get_ext0, List.getElem?_cons_succ, List.getElem?_cons_zero, e3, hsn2]
  refine ⟨seen ++ [j0], ?_, by (try simp only []); omega, ?_⟩
  ·refine Weak.trans (Weak.cutX 5 0 (by omega) (by omega) hcl (by simp only [go_sem, CleanAll_mapV] <;> omega) (by simp only [go_sem] <;> omega)) ?_
   simp only [go_sem]
   exact Weak.eq rfl (by rw [hst])
  try dsimp only
  exact ⟨hsn', hsl'⟩
 try simp only [nrm] at c6
 have hst : ({ tlS r songs l M seen with pts := upd (tlS r songs l M seen).pts sn ((tlS r songs l M seen).pts sn + o.points) } : Tally) = tlS r songs l M (seen ++ [j0]) := by unfold tlS; rw [sumR_same hent (cvB_jury c6), sumR_hit hent (cpB_jury hsn2 c6)]
 refine W_draw [1, 8, 9, 81] [0, 1, 2, 3, 4, 5, 6, 7, 8, 9, 10, 11, 12] [] [[], [0], [], [2], [0, 1, 2, 3], [0, 1, 2, 3, 4], [], [6], [0, 1, 2, 3, 4, 5, 6, 7], [], [9], [0, 1, 2, 3, 4, 5, 6, 7, 8, 9, 10], [0, 1, 2, 3, 4, 5, 6, 7, 8, 9, 10, 11]] mixed (by kernel_rfl) fun R hR => ?_
 simp only [go_sem, tl_map, Sg.get_ext, Sg.get_ext0, List.getElem?_cons_succ, List.getElem?_cons_zero, e3, hsn2, hs8i, Nat.mul_one, tl_pts hs8, hw2, tl_setP hs8, tl_len, hs4]
 try simp (disch := omega) only [wrapI, wrapU]
 try refine And.intro (by repeat' (first | refine And.intro ?_ ?_ | exact GOr_right (fun _ => by simp only [go_sem, tl_map, Sg.get_ext, Sg.get_ext0, List.getElem?_cons_succ, List.getElem?_cons_zero, e3, hsn2, hs8i, Nat.mul_one, tl_pts hs8, hw2, tl_setP hs8, tl_len, hs4]))) ?_
 refine hR _ _ ?_; clear hR R
 try simp only [go_sem, tl_map, Sg.get_ext, Sg.get_ext0, List.getElem?_cons_succ, List.getElem?_cons_zero, e3, hsn2]
 refine ⟨seen ++ [j0], ?_, by (try simp only []); omega, ?_⟩
 ·refine Weak.trans (Weak.cutX 5 0 (by omega) (by omega) hcl (by simp only [go_sem, CleanAll_mapV] <;> omega) (by simp only [go_sem] <;> omega)) ?_
  simp only [go_sem]
  exact Weak.eq rfl (by rw [hst])
 try dsimp only
 exact ⟨hsn', hsl'⟩
def lays189_ren : Go.Shelf.Ren := ⟨fun | 189 => 75 | 125 => 91 | 257 => 90 | 128 => 112 | 129 => 113 | 294 => 103 | 295 => 104 | 296 => 105 | 297 => 106 | 298 => 107 | 299 => 108 | 216 => 109 | 300 => 110 | 301 => 111 | 328 => 135 | 329 => 136 | 330 => 137 | 331 => 138 | 332 => 139 | 215 => 102 | 343 => 155 | n => n, fun | 28 => 42 | 3 => 3 | 46 => 141 | 0 => 0 | 51 => 168 | 53 => 110 | 4 => 4 | 183 => 161 | 182 => 160 | 131 => 144 | 5 => 5 | 9 => 9 | 218 => 189 | 222 => 192 | 228 => 205 | 229 => 206 | n => n, fun n => n⟩
theorem lays189 : Lays.n189 Tryz.prog lays189_ren where
 mixed := by kernel_rfl
 f125 := Tryz.func91.trans (congrArg some (by kernel_rfl))
 f128 := Tryz.func112.trans (congrArg some (by kernel_rfl))
 f129 := Tryz.func113.trans (congrArg some (by kernel_rfl))
 f189 := Tryz.func75.trans (congrArg some (by kernel_rfl))
 f215 := Tryz.func102.trans (congrArg some (by kernel_rfl))
 f216 := Tryz.func109.trans (congrArg some (by kernel_rfl))
 f257 := Tryz.func90.trans (congrArg some (by kernel_rfl))
 f294 := Tryz.func103.trans (congrArg some (by kernel_rfl))
 f295 := Tryz.func104.trans (congrArg some (by kernel_rfl))
 f296 := Tryz.func105.trans (congrArg some (by kernel_rfl))
 f297 := Tryz.func106.trans (congrArg some (by kernel_rfl))
 f298 := Tryz.func107.trans (congrArg some (by kernel_rfl))
 f299 := Tryz.func108.trans (congrArg some (by kernel_rfl))
 f300 := Tryz.func110.trans (congrArg some (by kernel_rfl))
 f301 := Tryz.func111.trans (congrArg some (by kernel_rfl))
 f328 := Tryz.func135.trans (congrArg some (by kernel_rfl))
 f329 := Tryz.func136.trans (congrArg some (by kernel_rfl))
 f330 := Tryz.func137.trans (congrArg some (by kernel_rfl))
 f331 := Tryz.func138.trans (congrArg some (by kernel_rfl))
 f332 := Tryz.func139.trans (congrArg some (by kernel_rfl))
 f343 := Tryz.func155.trans (congrArg some (by kernel_rfl))
 t0 := Tryz.underlying0
 a0 := Tryz.isAgg0
 z0 := Tryz.sizeOf0
 v0 := Tryz.zeroValue0
 t3 := Tryz.underlying3
 a3 := Tryz.isAgg3
 z3 := Tryz.sizeOf3
 v3 := Tryz.zeroValue3
 t4 := Tryz.underlying4
 a4 := Tryz.isAgg4
 z4 := Tryz.sizeOf4
 v4 := Tryz.zeroValue4
 t5 := Tryz.underlying5
 a5 := Tryz.isAgg5
 z5 := Tryz.sizeOf5
 v5 := Tryz.zeroValue5
 t9 := Tryz.underlying9
 a9 := Tryz.isAgg9
 z9 := Tryz.sizeOf9
 v9 := Tryz.zeroValue9
 t28 := Tryz.underlying42
 a28 := Tryz.isAgg42
 z28 := Tryz.sizeOf42
 v28 := Tryz.zeroValue42
 t46 := Tryz.underlying141
 a46 := Tryz.isAgg141
 z46 := Tryz.sizeOf141
 v46 := Tryz.zeroValue141
 t51 := Tryz.underlying168
 a51 := Tryz.isAgg168
 z51 := Tryz.sizeOf168
 v51 := Tryz.zeroValue168
 t53 := Tryz.underlying110
 a53 := Tryz.isAgg110
 z53 := Tryz.sizeOf110
 v53 := Tryz.zeroValue110
 t131 := Tryz.underlying144
 a131 := Tryz.isAgg144
 z131 := Tryz.sizeOf144
 v131 := Tryz.zeroValue144
 t182 := Tryz.underlying160
 a182 := Tryz.isAgg160
 z182 := Tryz.sizeOf160
 v182 := Tryz.zeroValue160
 t183 := Tryz.underlying161
 a183 := Tryz.isAgg161
 z183 := Tryz.sizeOf161
 v183 := Tryz.zeroValue161
 t218 := Tryz.underlying189
 a218 := Tryz.isAgg189
 z218 := Tryz.sizeOf189
 v218 := Tryz.zeroValue189
 t222 := Tryz.underlying192
 a222 := Tryz.isAgg192
 z222 := Tryz.sizeOf192
 v222 := Tryz.zeroValue192
 t228 := Tryz.underlying205
 a228 := Tryz.isAgg205
 z228 := Tryz.sizeOf205
 v228 := Tryz.zeroValue205
 t229 := Tryz.underlying206
 a229 := Tryz.isAgg206
 z229 := Tryz.sizeOf206
 v229 := Tryz.zeroValue206
def lays125_ren : Go.Shelf.Ren := ⟨fun | 125 => 91 | 128 => 112 | 129 => 113 | n => n, fun | 46 => 141 | 3 => 3 | 51 => 168 | 53 => 110 | 4 => 4 | 5 => 5 | 9 => 9 | n => n, fun n => n⟩
theorem lays125 : Lays.n125 Tryz.prog lays125_ren where
 mixed := by kernel_rfl
 f125 := Tryz.func91.trans (congrArg some (by kernel_rfl))
 f128 := Tryz.func112.trans (congrArg some (by kernel_rfl))
 f129 := Tryz.func113.trans (congrArg some (by kernel_rfl))
 t3 := Tryz.underlying3
 a3 := Tryz.isAgg3
 z3 := Tryz.sizeOf3
 v3 := Tryz.zeroValue3
 t4 := Tryz.underlying4
 a4 := Tryz.isAgg4
 z4 := Tryz.sizeOf4
 v4 := Tryz.zeroValue4
 t5 := Tryz.underlying5
 a5 := Tryz.isAgg5
 z5 := Tryz.sizeOf5
 v5 := Tryz.zeroValue5
 t9 := Tryz.underlying9
 a9 := Tryz.isAgg9
 z9 := Tryz.sizeOf9
 v9 := Tryz.zeroValue9
 t46 := Tryz.underlying141
 a46 := Tryz.isAgg141
 z46 := Tryz.sizeOf141
 v46 := Tryz.zeroValue141
 t51 := Tryz.underlying168
 a51 := Tryz.isAgg168
 z51 := Tryz.sizeOf168
 v51 := Tryz.zeroValue168
 t53 := Tryz.underlying110
 a53 := Tryz.isAgg110
 z53 := Tryz.sizeOf110
 v53 := Tryz.zeroValue110
theorem sortsI : SortsI Tryz.prog 75 := ⟨by kernel_rfl, Any.slices_Sort_int_none lays189, Any.slices_Sort_int lays189⟩
theorem bitsLen_pc (Y : YEnv) (σ : Sg) (x : Int) (h0 : 0 ≤ x) (h1 : x ≤ 18446744073709551615) : PC Tryz.prog Y 91 [.int .u64 x] σ (.int .i64 (Lib.bitLen x.toNat)) σ := by
 refine PC_of_calls (by kernel_rfl) fun Ψ vals w hs ha => ?_
 obtain ⟨v, rfl⟩ : ∃ v, vals = #[v] := by
  have := ha.1
  match vals, this with
  | ⟨[v]⟩, _ => exact ⟨v, rfl⟩
 have hx := (ha.2 0 _ _ rfl rfl).int_inv
 subst hx
 refine (Any.bits_Len lays125 x w h0 h1).mono ?_
 rintro e w' ⟨rfl, rfl⟩
 exact ⟨_, Ψ, rfl, Ty.le.refl _, hs, .int _ _, Below.refl _ _⟩
theorem row4_cons (x : Std) (l : List Std) : rowC ((x :: l).map sdPV) = I x.song :: I x.points :: I x.votes :: I x.score :: rowC (l.map sdPV) := by simp [rowC, sdPV, sdCells]
theorem row4_len : ∀ l : List Std, (rowC (l.map sdPV)).length = l.length * 4 := by
 intro l
 induction l with
 | nil => rfl
 | cons x l ih => rw [row4_cons]; simp only [List.length_cons, ih]; omega
theorem row4_ld : ∀ {l : List Std} {j : Nat} {x : Std}, l[j]? = some x → ((rowC (l.map sdPV)).drop (j * 4)).take 4 = [I x.song, I x.points, I x.votes, I x.score] := by
 intro l
 induction l with
 | nil => intro j x h; simp at h
 | cons y l ih =>
  intro j x h
  rw [row4_cons]
  cases j with
  | zero =>
   simp only [List.getElem?_cons_zero, Option.some.injEq] at h
   subst h
   simp
  | succ j =>
   simp only [List.getElem?_cons_succ] at h
   rw [show (j + 1) * 4 = j * 4 + 1 + 1 + 1 + 1 by omega]
   simp only [List.drop_succ_cons]
   exact ih h
theorem row4_put (x : Std) : ∀ {l : List Std} {j : Nat}, j < l.length → ((((rowC (l.map sdPV)).set (j * 4) (I x.song)).set (j * 4 + 1) (I x.points)).set (j * 4 + 1 + 1) (I x.votes)).set (j * 4 + 1 + 1 + 1) (I x.score) = rowC ((l.set j x).map sdPV) := by
 intro l
 induction l with
 | nil => intro j h; simp at h
 | cons y l ih =>
  intro j h
  rw [row4_cons]
  cases j with
  | zero =>
   have e : (y :: l).set 0 x = x :: l := rfl
   rw [e, row4_cons]; simp
  | succ j =>
   rw [List.set_cons_succ, row4_cons, show (j + 1) * 4 = j * 4 + 1 + 1 + 1 + 1 by omega]
   simp only [List.set_cons_succ]
   rw [ih (by simpa using h)]
theorem cA_row4 {a b c : Nat} {l : List Std} : CleanAll a b c (rowC (l.map sdPV)) = True := eq_true fun p hp => by
 simp only [rowC, List.mem_flatMap, List.mem_map] at hp
 obtain ⟨q, ⟨x, _, rfl⟩, hp⟩ := hp
 exact cleans_sd x p hp
attribute [go_sem] cA_row4
theorem ld4 {σ : Sg} {id : Nat} (hlt : id < σ.store.length) {l : List Std} {j : Nat} {x : Std} (h : l[j]? = some x) : ldA 4 (σ.setVar id (rowC (l.map sdPV))) id (j * 4) = some (.agg [I x.song, I x.points, I x.votes, I x.score]) := by
 have hj := (List.getElem?_eq_some_iff.1 h).1
 rw [ldA_at (sv_get hlt), if_pos (by rw [row4_len]; omega), row4_ld h]
theorem tl_take3 {id : Nat} {t : Tally} : List.take 3 (tlCells id t) = rdCells t.rd := rfl
/-- A tally that may be. -/
structure TlB (t : Tally) : Prop where
 pb : ∀ s, 0 ≤ t.pts s ∧ t.pts s ≤ 2 ^ 20
 vb : ∀ s, 0 ≤ t.vts s ∧ t.vts s ≤ 2 ^ 20
 wj : 0 ≤ t.rd.jury ∧ t.rd.jury ≤ 1000
 wm : 0 ≤ t.rd.member ∧ t.rd.member ≤ 1000
 kp : 1 ≤ t.rd.keep ∧ t.rd.keep ≤ t.songs.length
 sl : t.songs.length ≤ 8
 sg : ∀ s, s ∈ t.songs → 0 ≤ s ∧ s < 8
set_option maxHeartbeats 4000000 in
theorem standing_pc (Y : YEnv) (σ : Sg) (id : Nat) (t : Tally) (hT : TlB t) (s : Nat) (hs : s < 8) (p v : Int) (hp : -2 ^ 20 ≤ p ∧ p ≤ 2 ^ 20) (hv : -2 ^ 20 ≤ v ∧ v ≤ 2 ^ 20) :
 PC Tryz.prog Y 72 [tlPV id t, I s, I p, I v] σ (sdPV (stdT t s p v)) (σ) := by
 refine PC_of_W Tryz.func72 rfl (by kernel_rfl) Tryz.ntmps72 (by simp) fun hcl hca => ?_
 have hs8i : (s : Int) < 8 := by omega
 have hp1 := hT.pb s
 have hv1 := hT.vb s
 have hw1 : IntKind.i64.wrap (t.pts s + p) = t.pts s + p := wrapI (by omega) (by omega)
 have hw2 : IntKind.i64.wrap (t.vts s + v) = t.vts s + v := wrapI (by omega) (by omega)
 have hwj := hT.wj
 have hwm := hT.wm
 refine W_sr [1, 2, 3, 4, 8] fun R hR => ?_
 simp only [go_sem, hs8i, Nat.mul_one, tl_pts hs, tl_vts hs, hw1, hw2, tlPV]
 refine hR _ _ ?_; clear hR R
 try simp only [go_sem, hs8i, Nat.mul_one, tl_pts hs, tl_vts hs, hw1, hw2]
 refine W_seq fun Z2 K2 => ?_
 refine W_draw [8] [0, 1, 2, 3, 4, 5, 6, 7, 8, 9, 10, 11, 12, 13, 14, 15, 16, 17, 18, 19] [] [[], [], [], [2], [1, 2, 3], [1, 2, 3, 4], [], [1, 2, 3, 4, 5, 6], [], [], [9], [8, 9, 10], [8, 9, 10, 11], [], [8, 9, 10, 11, 12, 13], [0, 1, 2, 3, 4, 5, 6, 7, 8, 9, 10, 11, 12, 13, 14], [], [16], [0, 1, 2, 3, 4, 5, 6, 7, 8, 9, 10, 11, 12, 13, 14, 15, 16, 17], [0, 1, 2, 3, 4, 5, 6, 7, 8, 9, 10, 11, 12, 13, 14, 15, 16, 17, 18]] mixed (by kernel_rfl) fun R hR => ?_
 simp only [go_sem, hs8i, Nat.mul_one, tl_pts hs, tl_vts hs, hw1, hw2, tl_len, tl_take3]
 try simp (disch := omega) only [wrapI, wrapU]
 refine GCall_of (weigh_pc Y _ ⟨s, t.pts s + p, t.vts s + v, 0⟩ t.rd (by omega) (by omega) (by simp only; omega) (by simp only; omega)) ?_
 simp only [go_sem, hs8i, Nat.mul_one, tl_pts hs, tl_vts hs, hw1, hw2, tl_len, tl_take3]
 try simp (disch := omega) only [wrapI, wrapU]
 try refine And.intro (by repeat' (first | refine And.intro ?_ ?_ | exact GOr_right (fun _ => by simp only [go_sem, hs8i, Nat.mul_one, tl_pts hs, tl_vts hs, hw1, hw2, tl_len, tl_take3]))) ?_
 refine hR _ _ (K2 _ _ ?_); clear hR R; try clear K2 Z2
 try simp only [go_sem, hs8i, Nat.mul_one, tl_pts hs, tl_vts hs, hw1, hw2]
 refine W_ret ?_
 simp only [go_sem, hs8i, Nat.mul_one, tl_pts hs, tl_vts hs, hw1, hw2]
 refine ⟨.inr (by trivial), ?_⟩
 first | refine Fin_same hcl (by show resPV Tryz.prog _ _ [.cell 8 131] = some _; simp only [resPV, go_sem]; rfl) (Wk_eq ?_ (by simp only [go_sem])) | refine Fin_same hcl rfl (Wk_eq ?_ (by simp only [go_sem]))
 try simp only [go_sem]
 all_goals
  first | rfl | (simp [stdT]; done) | (simp only [stdT, Int.toNat_natCast]; rfl)
set_option maxHeartbeats 4000000 in
theorem insSort_pc (Y : YEnv) (σ : Sg) (id : Nat) (l : List Std) (hd : σ.store[id]? = some (some (rowC (l.map sdPV)))) (hl : 0 < l.length ∧ l.length ≤ 12) :
    PC Tryz.prog Y 127 [.gsl id l.length 4, I 0, I l.length, .func (.func 74) [] []] σ (.tuple []) (σ.setVar id (rowC ((sortSd l).map sdPV))) := by
  refine PC_of_W Tryz.func127 rfl (by kernel_rfl) Tryz.ntmps127 (by simp) fun hcl hca => ?_
  have hlt := lt_of_get hd
  obtain ⟨res, hres⟩ : ∃ r, sortSd l = r := ⟨_, rfl⟩
  rw [hres]
  obtain ⟨n, hn⟩ : ∃ z, l.length = z := ⟨_, rfl⟩
  rw [hn] at hl ⊢
  refine W_sr [0, 1, 2, 3, 8] fun R hR => ?_
  simp only [go_sem, ldS_at hd, stX_at hd, ldS_sv hlt, stX_sv hlt, sv_ext hlt, sv_ext_sv hlt]
  try simp (disch := omega) only [wrapI, wrapU]
  refine hR _ _ ?_; clear hR R
  try simp only [go_sem, ldS_at hd, stX_at hd, ldS_sv hlt, stX_sv hlt, sv_ext hlt, sv_ext_sv hlt]
  refine W_block ?_
  refine W_loopT (α := Nat × (List Std)) (fun ⟨i, m⟩ => [(8, I i)]) (fun ⟨i, m⟩ => σ.setVar id (rowC (m.map sdPV))) (fun ⟨i, m⟩ => 1 ≤ i ∧ i ≤ n ∧ m.length = n ∧ (∀ x, x ∈ m → x ∈ l) ∧ res = sinkAll (n - i) i m) (fun ⟨i, m⟩ => n - i) ((1, l)) rfl (by show σ.setVar id _ = σ; exact sv_self hd) (⟨Nat.le_refl _, by omega, hn, fun x hx => hx, by rw [← hres, sortSd, hn]⟩) ?_
  rintro ⟨i, m⟩ ⟨hi1, hi, hml, hmm, hinv⟩
  refine W_seq fun Z2 K2 => ?_
  refine W_sr [0, 1, 2, 3, 8, 14] fun R hR => ?_
  simp only [go_sem, ldS_at hd, stX_at hd, ldS_sv hlt, stX_sv hlt, sv_ext hlt, sv_ext_sv hlt]
  refine hR _ _ ?_; clear hR R
  try simp only [go_sem, ldS_at hd, stX_at hd, ldS_sv hlt, stX_sv hlt, sv_ext hlt, sv_ext_sv hlt]
  refine W_cond rfl (fun c1 => ?_) (fun c1 => ?_)
  ·
    try simp only [nrm] at c1
    have hin : i < n := by first | omega | (simp at c1; omega)
    rw [show n - i = (n - (i + 1)) + 1 by omega] at hinv
    simp only [sinkAll] at hinv
    refine W_skip (K2 _ _ ?_)
    refine W_seq fun Z4 K4 => ?_
    refine W_block ?_
    refine W_sr [0, 1, 2, 3, 8, 9] fun R hR => ?_
    simp only [go_sem, ldS_at hd, stX_at hd, ldS_sv hlt, stX_sv hlt, sv_ext hlt, sv_ext_sv hlt]
    refine hR _ _ ?_; clear hR R
    try simp only [go_sem, ldS_at hd, stX_at hd, ldS_sv hlt, stX_sv hlt, sv_ext hlt, sv_ext_sv hlt]
    refine W_block ?_
    refine W_loopT (α := Nat × (List Std)) (fun ⟨j, m2⟩ => [(9, I j)]) (fun ⟨j, m2⟩ => σ.setVar id (rowC (m2.map sdPV))) (fun ⟨j, m2⟩ => j ≤ i ∧ m2.length = n ∧ (∀ x, x ∈ m2 → x ∈ l) ∧ sink i m = sink j m2) (fun ⟨j, m2⟩ => j) ((i, m)) rfl (by first | rfl | (simp only [go_sem]; done) | (simp only [go_sem]; rfl)) (⟨Nat.le_refl _, hml, hmm, rfl⟩) ?_
    rintro ⟨j, m2⟩ ⟨hj, hm2l, hm2, hsk⟩
    refine W_seq fun Z6 K6 => ?_
    refine W_seq fun Z7 K7 => ?_
    refine W_draw [0, 1, 2, 3, 8, 9, 34] [0, 1, 2, 3, 4, 5, 6, 7, 8, 9, 10, 11, 12, 13, 14, 15, 16] [] [[], [], [0, 1], [0, 1, 2], [0, 1, 2, 3], [0, 1, 2, 3], [0, 1, 2, 3], [0, 1, 2, 3, 5, 6], [0, 1, 2, 3, 5, 6, 7], [0, 1, 2, 3], [0, 1, 2, 3], [0, 1, 2, 3, 10], [0, 1, 2, 3, 9, 10, 11], [0, 1, 2, 3, 9, 10, 11, 12], [0, 1, 2, 3, 4, 5, 6, 7, 8, 9, 10, 11, 12, 13], [0, 1, 2, 3, 4, 5, 6, 7, 8, 9, 10, 11, 12, 13, 14], [0, 1, 2, 3, 4, 5, 6, 7, 8, 9, 10, 11, 12, 13, 14, 15]] mixed (by kernel_rfl) fun R hR => ?_
    simp only [go_sem, ldS_at hd, stX_at hd, ldS_sv hlt, stX_sv hlt, sv_ext hlt, sv_ext_sv hlt]
    refine GWant_split (fun g1 => ?_) (fun g1 => ?_)
    · try simp only [Bool.not_eq_true', Bool.not_eq_false'] at g1
      have n1 := g1; try simp only [nrm] at n1
      obtain ⟨q, rfl⟩ : ∃ q, j = q + 1 := ⟨j - 1, by first | omega | (simp at g1; omega)⟩
      obtain ⟨x, hx⟩ : ∃ z, m2[q + 1]? = some z := ⟨m2[q + 1]'(by omega), by simp⟩
      obtain ⟨y, hy⟩ : ∃ z, m2[q]? = some z := ⟨m2[q]'(by omega), by simp⟩
      have hsk2 : sink (q + 1) m2 = if aheadS x y < 0 then sink q ((m2.set (q + 1) y).set q x) else m2 := by simp only [sink, hx, hy]
      have hq1 : ((q + 1 : Nat) : Int) < (n : Int) := by omega
      have hq0 : ((q : Nat) : Int) < (n : Int) := by omega
      have hz1 : (0 : Int) ≤ ((q + 1 : Nat) : Int) := by omega
      have hqw : IntKind.i64.wrap (((q + 1 : Nat) : Int) - 1) = (q : Int) := by rw [wrapI (by omega) (by omega)]; omega
      have l1 := ld4 hlt hx
      have l2 := ld4 hlt hy
      have s1 : decide ((q + 1) * 4 + 4 ≤ (rowC (List.map sdPV m2)).length) = true := by rw [row4_len]; simp; omega
      have s2 : decide (q * 4 + 4 ≤ (rowC (List.map sdPV (m2.set (q + 1) y))).length) = true := by rw [row4_len]; simp; omega
      have s3 := row4_put y (l := m2) (j := q + 1) (by omega)
      have s4 := row4_put x (l := m2.set (q + 1) y) (j := q) (by simp; omega)
      simp only [go_sem, ldS_at hd, stX_at hd, ldS_sv hlt, stX_sv hlt, sv_ext hlt, sv_ext_sv hlt, hqw, hq1, hq0, iaM_nat (Int.ofNat_lt.1 hq1), iaM_nat (Int.ofNat_lt.1 hq0), Nat.zero_add, l1, l2, s1, s2, s3, s4, g1]
      try simp (disch := omega) only [wrapI, wrapU]
      refine GCall_of (ahead_pc Y _ x y) ?_
      simp only [go_sem, ldS_at hd, stX_at hd, ldS_sv hlt, stX_sv hlt, sv_ext hlt, sv_ext_sv hlt, hqw, hq1, hq0, iaM_nat (Int.ofNat_lt.1 hq1), iaM_nat (Int.ofNat_lt.1 hq0), Nat.zero_add, l1, l2, s1, s2, s3, s4, g1]
      try simp (disch := omega) only [wrapI, wrapU]
      try refine And.intro (by repeat' (first | refine And.intro ?_ ?_ | exact GOr_right (fun _ => by simp only [go_sem, ldS_at hd, stX_at hd, ldS_sv hlt, stX_sv hlt, sv_ext hlt, sv_ext_sv hlt, hqw, hq1, hq0, iaM_nat (Int.ofNat_lt.1 hq1), iaM_nat (Int.ofNat_lt.1 hq0), Nat.zero_add, l1, l2, s1, s2, s3, s4]))) ?_
      refine hR _ _ (K7 _ _ ?_); clear hR R; try clear K7 Z7
      try simp only [go_sem, ldS_at hd, stX_at hd, ldS_sv hlt, stX_sv hlt, sv_ext hlt, sv_ext_sv hlt, hqw, hq1, hq0, iaM_nat (Int.ofNat_lt.1 hq1), iaM_nat (Int.ofNat_lt.1 hq0), Nat.zero_add, l1, l2, s1, s2, s3, s4]
      refine W_cond rfl (fun c2 => ?_) (fun c2 => ?_)
      ·
        try simp only [nrm] at c2
        skip
        refine W_skip (K6 _ _ ?_)
        refine W_seq fun Z8 K8 => ?_
        refine W_block ?_
        refine W_draw [0, 1, 2, 3, 8, 9] [0, 1, 2, 3, 4, 5, 6, 7, 8, 9, 10, 11, 12, 13, 14, 15, 16, 17] [(2, 17), (3, 17), (4, 17)] [[], [], [], [], [3], [], [], [6], [5, 6, 7], [5, 6, 7, 8], [], [], [10, 11], [10, 11, 12], [0, 1, 5, 6, 7, 8, 9, 10, 11, 12, 13], [0, 1, 5, 6, 7, 8, 9, 10, 11, 12, 13, 14], [0, 1, 2, 3, 4, 5, 6, 7, 8, 9, 10, 11, 12, 13, 14, 15], [0, 1, 2, 3, 4, 5, 6, 7, 8, 9, 10, 11, 12, 13, 14, 15, 16]] mixed (by kernel_rfl) fun R hR => ?_
        simp only [go_sem, ldS_at hd, stX_at hd, ldS_sv hlt, stX_sv hlt, sv_ext hlt, sv_ext_sv hlt, hqw, hq1, hq0, iaM_nat (Int.ofNat_lt.1 hq1), iaM_nat (Int.ofNat_lt.1 hq0), Nat.zero_add, l1, l2, s1, s2, s3, s4]
        try simp (disch := omega) only [wrapI, wrapU]
        try refine And.intro (by repeat' (first | refine And.intro ?_ ?_ | exact GOr_right (fun _ => by simp only [go_sem, ldS_at hd, stX_at hd, ldS_sv hlt, stX_sv hlt, sv_ext hlt, sv_ext_sv hlt, hqw, hq1, hq0, iaM_nat (Int.ofNat_lt.1 hq1), iaM_nat (Int.ofNat_lt.1 hq0), Nat.zero_add, l1, l2, s1, s2, s3, s4]))) ?_
        refine hR _ _ (K8 _ _ ?_); clear hR R; try clear K8 Z8
        try simp only [go_sem, ldS_at hd, stX_at hd, ldS_sv hlt, stX_sv hlt, sv_ext hlt, sv_ext_sv hlt, hqw, hq1, hq0, iaM_nat (Int.ofNat_lt.1 hq1), iaM_nat (Int.ofNat_lt.1 hq0), Nat.zero_add, l1, l2, s1, s2, s3, s4]
        refine W_region [0, 1, 2, 3, 8, 9] fun R hR => ?_
        simp only [go_sem, ldS_at hd, stX_at hd, ldS_sv hlt, stX_sv hlt, sv_ext hlt, sv_ext_sv hlt, hqw, hq1, hq0, iaM_nat (Int.ofNat_lt.1 hq1), iaM_nat (Int.ofNat_lt.1 hq0), Nat.zero_add, l1, l2, s1, s2, s3, s4]
        try simp (disch := omega) only [wrapI, wrapU]
        refine hR _ _ ?_; clear hR R
        try simp only [go_sem, ldS_at hd, stX_at hd, ldS_sv hlt, stX_sv hlt, sv_ext hlt, sv_ext_sv hlt, hqw, hq1, hq0, iaM_nat (Int.ofNat_lt.1 hq1), iaM_nat (Int.ofNat_lt.1 hq0), Nat.zero_add, l1, l2, s1, s2, s3, s4]
        refine ⟨(q, (m2.set (q + 1) y).set q x), ?_, by (try simp only []); omega, ?_⟩
        · first | exact Weak.refl | exact Wqq
        · try dsimp only
          refine ⟨by omega, by simp [hm2l], fun z hz => hm2 z (mem_set2 hx hy hz), ?_⟩
          rw [hsk, hsk2, if_pos (by simpa using c2)]
      ·
        try simp only [nrm] at c2
        skip
        refine W_exit ?_
        simp only [go_sem, ldS_at hd, stX_at hd, ldS_sv hlt, stX_sv hlt, sv_ext hlt, sv_ext_sv hlt, hqw, hq1, hq0, iaM_nat (Int.ofNat_lt.1 hq1), iaM_nat (Int.ofNat_lt.1 hq0), Nat.zero_add, l1, l2, s1, s2, s3, s4]
        refine K4 _ _ ?_
        refine W_region [0, 1, 2, 3, 8] fun R hR => ?_
        simp only [go_sem, ldS_at hd, stX_at hd, ldS_sv hlt, stX_sv hlt, sv_ext hlt, sv_ext_sv hlt, hqw, hq1, hq0, iaM_nat (Int.ofNat_lt.1 hq1), iaM_nat (Int.ofNat_lt.1 hq0), Nat.zero_add, l1, l2, s1, s2, s3, s4]
        try simp (disch := omega) only [wrapI, wrapU]
        refine hR _ _ ?_; clear hR R
        try simp only [go_sem, ldS_at hd, stX_at hd, ldS_sv hlt, stX_sv hlt, sv_ext hlt, sv_ext_sv hlt, hqw, hq1, hq0, iaM_nat (Int.ofNat_lt.1 hq1), iaM_nat (Int.ofNat_lt.1 hq0), Nat.zero_add, l1, l2, s1, s2, s3, s4]
        refine ⟨(i + 1, m2), ?_, by (try simp only []); omega, ?_⟩
        · first | exact Weak.refl | exact Wqq
        · try dsimp only
          refine ⟨by omega, by omega, hm2l, hm2, ?_⟩
          rw [hinv, hsk]
          first
          | rw [hsk2, if_neg (by simpa using c2)]
          | (have hj0 : j = 0 := by first | omega | (simp at g1; omega)
             subst hj0; rfl)
    · try simp only [Bool.not_eq_true', Bool.not_eq_false'] at g1
      have n1 := g1; try simp only [nrm] at n1
      simp only [go_sem, ldS_at hd, stX_at hd, ldS_sv hlt, stX_sv hlt, sv_ext hlt, sv_ext_sv hlt, g1]
      try simp (disch := omega) only [wrapI, wrapU]
      try refine And.intro (by repeat' (first | refine And.intro ?_ ?_ | exact GOr_right (fun _ => by simp only [go_sem, ldS_at hd, stX_at hd, ldS_sv hlt, stX_sv hlt, sv_ext hlt, sv_ext_sv hlt]))) ?_
      refine hR _ _ (K7 _ _ ?_); clear hR R; try clear K7 Z7
      try simp only [go_sem, ldS_at hd, stX_at hd, ldS_sv hlt, stX_sv hlt, sv_ext hlt, sv_ext_sv hlt]
      refine W_cond_false rfl ?_
      refine W_exit ?_
      simp only [go_sem, ldS_at hd, stX_at hd, ldS_sv hlt, stX_sv hlt, sv_ext hlt, sv_ext_sv hlt]
      refine K4 _ _ ?_
      refine W_region [0, 1, 2, 3, 8] fun R hR => ?_
      simp only [go_sem, ldS_at hd, stX_at hd, ldS_sv hlt, stX_sv hlt, sv_ext hlt, sv_ext_sv hlt]
      try simp (disch := omega) only [wrapI, wrapU]
      refine hR _ _ ?_; clear hR R
      try simp only [go_sem, ldS_at hd, stX_at hd, ldS_sv hlt, stX_sv hlt, sv_ext hlt, sv_ext_sv hlt]
      refine ⟨(i + 1, m2), ?_, by (try simp only []); omega, ?_⟩
      · first | exact Weak.refl | exact Wqq
      · try dsimp only
        refine ⟨by omega, by omega, hm2l, hm2, ?_⟩
        rw [hinv, hsk]
        first
        | rw [hsk2, if_neg (by simpa using c2)]
        | (have hj0 : j = 0 := by first | omega | (simp at g1; omega)
           subst hj0; rfl)
  ·
    try simp only [nrm] at c1
    have hie : n = i := by first | omega | (simp at c1; omega)
    subst hie
    rw [Nat.sub_self] at hinv
    simp only [sinkAll] at hinv
    subst hinv
    refine W_exit ?_
    simp only [go_sem, ldS_at hd, stX_at hd, ldS_sv hlt, stX_sv hlt, sv_ext hlt, sv_ext_sv hlt]
    try simp only [go_sem, ldS_at hd, stX_at hd, ldS_sv hlt, stX_sv hlt, sv_ext hlt, sv_ext_sv hlt]
    refine ⟨.inl (by trivial), ?_⟩
    first | refine Fin_set hcl (by simp only [go_sem]) rfl (Wk_eq ?_ (by simp only [go_sem])) | refine Fin_set0 hcl (by simp only [go_sem]) rfl (Wk_eq ?_ (by simp only [go_sem]))
    try simp only [go_sem]
    all_goals
      skip
set_option maxHeartbeats 2000000 in
theorem pdqSort_pc (Y : YEnv) (σ : Sg) (id : Nat) (l : List Std) (hd : σ.store[id]? = some (some (rowC (l.map sdPV)))) (hl : 0 < l.length ∧ l.length ≤ 12) (lim : Int) :
 PC Tryz.prog Y 101 [.gsl id l.length 4, I 0, I l.length, I lim, .func (.func 74) [] []] σ (.tuple []) (σ.setVar id (rowC ((sortSd l).map sdPV))) := by
 refine PC_of_W Tryz.func101 rfl (by kernel_rfl) Tryz.ntmps101 (by simp) fun hcl hca => ?_
 have hlt := lt_of_get hd
 have hl2 : (l.length : Int) ≤ 12 := by omega
 refine W_sr [0, 1, 2, 3, 4, 10] fun R hR => ?_
 simp only [go_sem, ldS_at hd, stX_at hd, ldS_sv hlt, stX_sv hlt, sv_ext hlt, sv_ext_sv hlt]
 refine hR _ _ ?_; clear hR R
 try simp only [go_sem, ldS_at hd, stX_at hd, ldS_sv hlt, stX_sv hlt, sv_ext hlt, sv_ext_sv hlt]
 refine W_sr [0, 1, 2, 3, 4, 10, 11] fun R hR => ?_
 simp only [go_sem, ldS_at hd, stX_at hd, ldS_sv hlt, stX_sv hlt, sv_ext hlt, sv_ext_sv hlt]
 refine hR _ _ ?_; clear hR R
 try simp only [go_sem, ldS_at hd, stX_at hd, ldS_sv hlt, stX_sv hlt, sv_ext hlt, sv_ext_sv hlt]
 refine W_block ?_
 refine W_loopS (α := Nat) (fun (z : Nat) => []) (fun (z : Nat) => True) (fun (z : Nat) => 0) (0) rfl (trivial) ?_
 rintro z _
 refine W_block ?_
 refine W_sr [0, 1, 2, 3, 4, 10, 11, 12] fun R hR => ?_
 simp only [go_sem, ldS_at hd, stX_at hd, ldS_sv hlt, stX_sv hlt, sv_ext hlt, sv_ext_sv hlt]
 try simp (disch := omega) only [wrapI, wrapU]
 refine hR _ _ ?_; clear hR R
 try simp only [go_sem, ldS_at hd, stX_at hd, ldS_sv hlt, stX_sv hlt, sv_ext hlt, sv_ext_sv hlt]
 refine W_seq fun Z4 K4 => ?_
 refine W_sr [0, 1, 2, 3, 4, 10, 11, 12, 25] fun R hR => ?_
 simp only [go_sem, ldS_at hd, stX_at hd, ldS_sv hlt, stX_sv hlt, sv_ext hlt, sv_ext_sv hlt]
 refine hR _ _ ?_; clear hR R
 try simp only [go_sem, ldS_at hd, stX_at hd, ldS_sv hlt, stX_sv hlt, sv_ext hlt, sv_ext_sv hlt]
 refine W_cond rfl (fun c1 => ?_) (fun c1 => ?_)
 ·
  try simp only [nrm] at c1
  refine W_sr [] fun R hR => ?_
  simp only [go_sem, ldS_at hd, stX_at hd, ldS_sv hlt, stX_sv hlt, sv_ext hlt, sv_ext_sv hlt]
  refine GCall_of (insSort_pc Y _ id l hd hl) ?_
  simp only [go_sem, ldS_at hd, stX_at hd, ldS_sv hlt, stX_sv hlt, sv_ext hlt, sv_ext_sv hlt]
  refine hR _ _ ?_; clear hR R
  try simp only [go_sem, ldS_at hd, stX_at hd, ldS_sv hlt, stX_sv hlt, sv_ext hlt, sv_ext_sv hlt]
  refine W_ret ?_
  simp only [go_sem, ldS_at hd, stX_at hd, ldS_sv hlt, stX_sv hlt, sv_ext hlt, sv_ext_sv hlt]
  refine ⟨.inr (by trivial), ?_⟩
  first | refine Fin_set hcl (by simp only [go_sem]) rfl (Wk_eq ?_ (by simp only [go_sem])) | refine Fin_set0 hcl (by simp only [go_sem]) rfl (Wk_eq ?_ (by simp only [go_sem]))
  try simp only [go_sem]
  all_goals
   skip
 try simp only [nrm] at c1
 exfalso
 first | omega | (simp at c1; omega)
set_option maxHeartbeats 2000000 in
theorem sortFunc_pc (Y : YEnv) (σ : Sg) (id : Nat) (l : List Std) (hd : σ.store[id]? = some (some (rowC (l.map sdPV)))) (hl : 0 < l.length ∧ l.length ≤ 12) :
 PC Tryz.prog Y 87 [.gsl id l.length 4, .func (.func 74) [] []] σ (.tuple []) (σ.setVar id (rowC ((sortSd l).map sdPV))) := by
 refine PC_of_W Tryz.func87 rfl (by kernel_rfl) Tryz.ntmps87 (by simp) fun hcl hca => ?_
 have hlt := lt_of_get hd
 refine W_sr [0, 1, 4] fun R hR => ?_
 simp only [go_sem, ldS_at hd, stX_at hd, ldS_sv hlt, stX_sv hlt, sv_ext hlt, sv_ext_sv hlt]
 refine hR _ _ ?_; clear hR R
 try simp only [go_sem, ldS_at hd, stX_at hd, ldS_sv hlt, stX_sv hlt, sv_ext hlt, sv_ext_sv hlt]
 refine W_region [] fun R hR => ?_
 simp only [go_sem, ldS_at hd, stX_at hd, ldS_sv hlt, stX_sv hlt, sv_ext hlt, sv_ext_sv hlt]
 try simp (disch := omega) only [wrapI, wrapU]
 refine GCall_of (bitsLen_pc Y _ l.length (by omega) (by omega)) ?_
 simp only [go_sem, ldS_at hd, stX_at hd, ldS_sv hlt, stX_sv hlt, sv_ext hlt, sv_ext_sv hlt]
 try simp (disch := omega) only [wrapI, wrapU]
 refine GCall_of (pdqSort_pc Y _ id l hd hl _) ?_
 simp only [go_sem, ldS_at hd, stX_at hd, ldS_sv hlt, stX_sv hlt, sv_ext hlt, sv_ext_sv hlt]
 try simp (disch := omega) only [wrapI, wrapU]
 refine hR _ _ ?_; clear hR R
 try simp only [go_sem, ldS_at hd, stX_at hd, ldS_sv hlt, stX_sv hlt, sv_ext hlt, sv_ext_sv hlt]
 try simp only [go_sem, ldS_at hd, stX_at hd, ldS_sv hlt, stX_sv hlt, sv_ext hlt, sv_ext_sv hlt]
 refine ⟨.inl (by trivial), ?_⟩
 first | refine Fin_set hcl (by simp only [go_sem]) rfl (Wk_eq ?_ (by simp only [go_sem])) | refine Fin_set0 hcl (by simp only [go_sem]) rfl (Wk_eq ?_ (by simp only [go_sem]))
 try simp only [go_sem]
 all_goals
  skip
set_option maxHeartbeats 2000000 in
theorem CloneS_pc (Y : YEnv) (σ : Sg) (l : List Std) (o : Own) (hl : 0 < l.length ∧ l.length ≤ 12) :
 PC Tryz.prog Y 86 [.isl (l.map sdPV) o] σ (.gsl σ.store.length l.length 4) (σ.ext [some (rowC (l.map sdPV))] []) := by
 refine PC_of_W Tryz.func86 rfl (by kernel_rfl) Tryz.ntmps86 (by simp) fun hcl hca => ?_
 have hne : l ≠ [] := by intro e; subst e; simp at hl
 refine W_sr [0] fun R hR => ?_
 simp only [go_sem]
 refine hR _ _ ?_; clear hR R
 try simp only [go_sem]
 refine W_seq fun Z2 K2 => ?_
 refine W_seq fun Z3 K3 => ?_
 refine W_isnil [0, 4] (by decide) (by decide) rfl Tryz.underlying129 fun bn hbn => ?_
 refine K3 _ _ ?_
 try simp only [go_sem]
 refine W_cond rfl (fun c1 => ?_) (fun c1 => ?_)
 ·exact absurd (by simpa using hbn c1) hne
 refine W_skip (K2 _ _ ?_)
 refine W_seq fun Z4 K4 => ?_
 refine W_regionN [2] 2 fun R hR => ?_
 simp only [GLw, go_sem]
 refine ⟨_, _, Weak.gnil (t := 5) (by simp only [go_sem]), ?_⟩
 simp only [go_sem]
 rw [appG_nil (by simp [PV.cells, PV.scalar, sdPV, sdCells]) (by simpa using hl.1) (by simp; omega)]
 simp only [go_sem]
 refine hR _ _ (K4 _ _ ?_); clear hR R; try clear K4 Z4
 try simp only [go_sem]
 refine W_ret ?_
 simp only [go_sem]
 refine ⟨.inr (by trivial), ?_⟩
 refine Fin_ext (σ := σ) (l := [some (rowC (l.map sdPV))]) (rm := []) 1 0 hcl rfl (Wk_eq rfl (by simp only [go_sem] <;> omega)) (by show CleanLs _ _ _ _; simp only [go_sem])
set_option maxHeartbeats 2000000 in
theorem sorted_pc (Y : YEnv) (σ : Sg) (l : List Std) (o : Own) (hl : 0 < l.length ∧ l.length ≤ 12) :
 PC Tryz.prog Y 73 [.isl (l.map sdPV) o, .func (.func 74) [] []] σ (sds (sortSd l)) (σ) := by
 refine PC_of_W Tryz.func73 rfl (by kernel_rfl) Tryz.ntmps73 (by simp) fun hcl hca => ?_
 refine W_sr [0, 1] fun R hR => ?_
 simp only [go_sem]
 refine hR _ _ ?_; clear hR R
 try simp only [go_sem]
 refine W_sr [0, 1] fun R hR => ?_
 simp only [go_sem]
 refine GCall_of (CloneS_pc Y _ l o hl) ?_
 simp only [go_sem]
 refine hR _ _ ?_; clear hR R
 try simp only [go_sem]
 refine W_sr [0] fun R hR => ?_
 simp only [go_sem]
 refine GCall_of (sortFunc_pc Y _ σ.store.length l (Sg.get_ext0 ..) hl) ?_
 simp only [go_sem]
 refine hR _ _ ?_; clear hR R
 try simp only [go_sem]
 refine W_seq fun Z4 K4 => ?_
 refine W_weak (Weak.freeze (t := 0) (id := σ.store.length) (len := l.length) (es := 4) (l := (sortSd l).map sdPV) rfl (Sg.get_ext0 ..) (by simp [sortSd_len]) (fun q hq => by obtain ⟨x, _, rfl⟩ := List.mem_map.1 hq; rfl)) ?_
 simp only [go_sem]
 refine W_region [4] fun R hR => ?_
 simp only [go_sem]
 refine hR _ _ (K4 _ _ ?_); clear hR R; try clear K4 Z4
 try simp only [go_sem]
 refine W_ret ?_
 simp only [go_sem]
 refine ⟨.inr (by trivial), ?_⟩
 first | refine Fsa hcl rfl ?_ | refine Fse hcl rfl ?_
 try simp only [go_sem]
 all_goals
  first | rfl | simp only [go_sem]
/-- Numbers that grow in a cell: in one variable. -/
def glK (n : Nat) : List Int → PV
 | [] => .gnil
 | k :: ks => .gsl n (ks.length + 1) 1
def gsK : List Int → List (Option (List PV))
 | [] => []
 | k :: ks => [some (I k :: ks.map I)]
theorem glK_nil {n : Nat} : glK n [] = .gnil := rfl
theorem glK_cons {n : Nat} {k : Int} {ks : List Int} : glK n (k :: ks) = .gsl n (ks.length + 1) 1 := rfl
theorem gsK_nil : gsK [] = [] := rfl
theorem gsK_cons {k : Int} {ks : List Int} : gsK (k :: ks) = [some (I k :: ks.map I)] := rfl
theorem appG1_nil {σ : Sg} {l : List (Option (List PV))} {rm : List Nat} {ys : List LState} {x : Int} : appG 1 8 (σ.ext l rm ys) .gnil [.int .i64 x] = some (.gsl (σ.store.length + l.length) 1 1, σ.ext (l ++ [some [.int .i64 x]]) rm ys) := by
 rw [appG_nil (by rfl) (by simp) (by simp), Sg.push_ext, Sg.len_ext]; rfl
theorem appG1_4 {σ : Sg} {a b c : Option (List PV)} {r : List (Option (List PV))} {rm : List Nat} {ys : List LState} {x k : Int} {ks : List Int} (hb : ks.length ≤ 2 ^ 20) : appG 1 8 (σ.ext (a :: b :: c :: some (I k :: ks.map I) :: r) rm ys) (.gsl (σ.store.length + 3) (ks.length + 1) 1) [.int .i64 x] = some (.gsl (σ.store.length + (r.length + 4)) (ks.length + 2) 1, σ.ext (a :: b :: c :: none :: (r ++ [some (I k :: (ks ++ [x]).map I)])) rm ys) := by
 rw [appG_more (cs := I k :: ks.map I) (by rw [Sg.get_ext]; rfl) (by simp) (by rfl) (by simp) (by simp; omega), Sg.drop_ext, Sg.push_ext, Sg.len_ext]
 simp [rowC]
theorem tl_take21 {id : Nat} {t : Tally} : List.take 21 (tlCells id t) = tlCells id t := rfl
def zeroRs : List PV := [.isl [] .exact, .isl [] .exact, .isl [] .exact, .isl [] .exact, .isl [] .exact]
theorem cleans_zr {a b c : Nat} : CleanAll a b c zeroRs = True := by simp only [zeroRs, go_sem]
attribute [go_sem] cleans_zr
set_option maxHeartbeats 8000000 in
theorem result_pc (Y : YEnv) (σ : Sg) (id : Nat) (t : Tally) (hT : TlB t) :
 PC Tryz.prog Y 38 [tlPV id t] σ (rsPV (resT t)) (σ) := by
 refine PC_of_W Tryz.func38 rfl (by kernel_rfl) Tryz.ntmps38 (by simp) fun hcl hca => ?_
 have hid : id < σ.store.length := by
  have := hca (tlPV id t) (by simp)
  exact C_tl.mp this
 have hsl := hT.sl
 have hkp := hT.kp
 obtain ⟨A, hA⟩ : ∃ z, allT t = z := ⟨_, rfl⟩
 have hAl : A.length = t.songs.length := by rw [← hA]; simp [allT]
 obtain ⟨kn, hkn⟩ : ∃ z : Nat, t.rd.keep = z := ⟨t.rd.keep.toNat, by omega⟩
 refine W_sr [1, 2] fun R hR => ?_
 simp only [go_sem, glK_nil, glK_cons, gsK_nil, gsK_cons, List.cons_append, List.nil_append, tlPV]
 refine hR _ _ ?_; clear hR R
 try simp only [go_sem, glK_nil, glK_cons, gsK_nil, gsK_cons, List.cons_append, List.nil_append]
 refine W_sr [1, 2, 3] fun R hR => ?_
 simp only [go_sem, glK_nil, glK_cons, gsK_nil, gsK_cons, List.cons_append, List.nil_append]
 refine hR _ _ ?_; clear hR R
 try simp only [go_sem, glK_nil, glK_cons, gsK_nil, gsK_cons, List.cons_append, List.nil_append]
 refine W_seq fun Z3 K3 => ?_
 refine W_weak (Weak.eq (σ' := σ.ext [some (tlCells id t), some zeroRs, some zeroRs] []) rfl rfl) ?_
 refine W_region [1, 2, 3, 4] fun R hR => ?_
 simp only [go_sem, glK_nil, glK_cons, gsK_nil, gsK_cons, List.cons_append, List.nil_append]
 refine hR _ _ (K3 _ _ ?_); clear hR R; try clear K3 Z3
 try simp only [go_sem, glK_nil, glK_cons, gsK_nil, gsK_cons, List.cons_append, List.nil_append]
 refine W_seq fun Z4 K4 => ?_
 refine W_sr [1, 2, 3, 4, 11, 12, 13] fun R hR => ?_
 simp only [go_sem, glK_nil, glK_cons, gsK_nil, gsK_cons, List.cons_append, List.nil_append, tl_songs]
 refine hR _ _ ?_; clear hR R
 try simp only [go_sem, glK_nil, glK_cons, gsK_nil, gsK_cons, List.cons_append, List.nil_append]
 refine W_block ?_
 simp only [zeroRs]
 refine W_weak (Weak.roomX (j := 2) (off := 0) (es := 1) rfl rfl (by simp)) ?_
 simp only [go_sem, glK_nil, glK_cons, gsK_nil, gsK_cons, List.cons_append, List.nil_append]
 refine W_weak (Weak.roomX (j := 2) (off := 1) (es := 1) rfl rfl (by simp)) ?_
 simp only [go_sem, glK_nil, glK_cons, gsK_nil, gsK_cons, List.cons_append, List.nil_append]
 refine W_weak (Weak.roomX (j := 2) (off := 2) (es := 1) rfl rfl (by simp)) ?_
 simp only [go_sem, glK_nil, glK_cons, gsK_nil, gsK_cons, List.cons_append, List.nil_append]
 refine W_weak (Weak.roomX (j := 2) (off := 3) (es := 1) rfl rfl (by simp)) ?_
 simp only [go_sem, glK_nil, glK_cons, gsK_nil, gsK_cons, List.cons_append, List.nil_append]
 refine W_weak (Weak.room (t := 4) (es := 4) rfl (by simp)) ?_
 refine W_weak (Weak.keep [1, 2, 3, 4, 11, 12, 13]) ?_
 simp only [go_sem, glK_nil, glK_cons, gsK_nil, gsK_cons, List.cons_append, List.nil_append]
 refine W_loopT (α := Nat) (fun (i : Nat) => [(4, .isl ((A.take i).map sdPV) (.tok (σ.rooms.length + 4) i 4)), (13, I i)]) (fun (i : Nat) => σ.ext [some (tlCells id t), some zeroRs, some [.isl ((t.songs.take i).map I) (.tok σ.rooms.length i 1), .isl (((A.take i).map (·.points)).map I) (.tok (σ.rooms.length + 1) i 1), .isl (((A.take i).map (·.votes)).map I) (.tok (σ.rooms.length + 2) i 1), .isl (((A.take i).map (·.score)).map I) (.tok (σ.rooms.length + 3) i 1), .isl [] .exact]] [i, i, i, i, i]) (fun (i : Nat) => i ≤ t.songs.length) (fun (i : Nat) => t.songs.length - i) (0) rfl (by first | rfl | (simp only [go_sem]; done) | (simp only [go_sem]; rfl)) (Nat.zero_le _) ?_
 rintro i hi
 refine W_sr [1, 2, 3, 4, 11, 12, 13, 14] fun R hR => ?_
 simp only [go_sem, glK_nil, glK_cons, gsK_nil, gsK_cons, List.cons_append, List.nil_append]
 refine hR _ _ ?_; clear hR R
 try simp only [go_sem, glK_nil, glK_cons, gsK_nil, gsK_cons, List.cons_append, List.nil_append]
 refine W_seq fun Z7 K7 => ?_
 refine W_cond rfl (fun c1 => ?_) (fun c1 => ?_)
 ·
  try simp only [nrm] at c1
  have hi' : i < t.songs.length := by first | assumption | omega
  obtain ⟨s, hx⟩ : ∃ s, t.songs[i]? = some s := ⟨t.songs[i], by simp [hi']⟩
  have hdrop : t.songs.drop i = s :: t.songs.drop (i + 1) := by
   rw [List.drop_eq_getElem_cons hi']; congr 1; exact (List.getElem?_eq_some_iff.1 hx).2
  have hsb := hT.sg s (List.mem_of_getElem? hx)
  obtain ⟨sn, rfl⟩ : ∃ z : Nat, s = z := ⟨s.toNat, by omega⟩
  have hs8 : sn < 8 := by omega
  have hxA : A[i]? = some (stdT t sn 0 0) := by rw [← hA]; simp [allT, hx]
  have hS1 : t.songs.take (i + 1) = t.songs.take i ++ [(sn : Int)] := by rw [List.take_add_one, hx]; rfl
  have hA1 : A.take (i + 1) = A.take i ++ [stdT t sn 0 0] := by rw [List.take_add_one, hxA]; rfl
  have hil : i + 1 < 100 := by omega
  have htl1 : (t.songs.take i).length = i := by rw [List.length_take]; omega
  have htl2 : (A.take i).length = i := by rw [List.length_take]; omega
  refine W_skip (K7 _ _ ?_)
  refine W_seq fun Z8 K8 => ?_
  refine W_block ?_
  refine W_sr [1, 2, 3, 4, 6, 11, 12, 13] fun R hR => ?_
  simp only [go_sem, glK_nil, glK_cons, gsK_nil, gsK_cons, List.cons_append, List.nil_append, hx]
  refine hR _ _ ?_; clear hR R
  try simp only [go_sem, glK_nil, glK_cons, gsK_nil, gsK_cons, List.cons_append, List.nil_append, hx]
  refine W_sr [1, 2, 3, 4, 6, 7, 11, 12, 13] fun R hR => ?_
  simp only [go_sem, glK_nil, glK_cons, gsK_nil, gsK_cons, List.cons_append, List.nil_append, hx, tlPV, tl_len, tl_take21]
  refine GCall_of (standing_pc Y _ id t hT sn hs8 0 0 (by omega) (by omega)) ?_
  simp only [go_sem, glK_nil, glK_cons, gsK_nil, gsK_cons, List.cons_append, List.nil_append, hx, tlPV, tl_len, tl_take21]
  refine hR _ _ ?_; clear hR R
  try simp only [go_sem, glK_nil, glK_cons, gsK_nil, gsK_cons, List.cons_append, List.nil_append, hx]
  refine W_sr [1, 2, 3, 4, 6, 7, 11, 12, 13] fun R hR => ?_
  simp only [go_sem, glK_nil, glK_cons, gsK_nil, gsK_cons, List.cons_append, List.nil_append, hx]
  try simp (disch := first | omega | (simp only [go_sem] <;> omega)) only [wrapI, wrapU, appX_exact, appX_tok]
  try simp only [go_sem, glK_nil, glK_cons, gsK_nil, gsK_cons, List.cons_append, List.nil_append, hx]
  refine hR _ _ ?_; clear hR R
  try simp only [go_sem, glK_nil, glK_cons, gsK_nil, gsK_cons, List.cons_append, List.nil_append, hx]
  refine W_draw [1, 2, 3, 4, 11, 12, 13] [0, 1, 2, 3, 4, 5, 6, 7, 8, 9, 10, 11, 12, 13, 14, 15, 16, 17, 18, 19, 20, 21, 22, 23, 24, 25, 26, 27, 28, 29, 30] [(5, 4), (6, 4), (7, 4), (8, 4), (9, 4), (11, 4), (11, 10), (12, 4), (12, 10), (13, 4), (13, 10), (14, 4), (14, 10), (15, 4), (15, 10), (17, 4), (17, 10), (17, 16), (18, 4), (18, 10), (18, 16), (19, 4), (19, 10), (19, 16), (20, 4), (20, 10), (20, 16), (21, 4), (21, 10), (21, 16), (23, 10), (23, 16), (23, 22)] [[], [0], [], [2], [0, 1, 2, 3], [], [5], [], [7], [7, 8], [0, 1, 2, 3, 4, 5, 6, 7, 8, 9], [], [11], [], [13], [13, 14], [0, 1, 2, 3, 4, 5, 6, 7, 8, 9, 10, 11, 12, 13, 14, 15], [], [17], [], [19], [19, 20], [0, 1, 2, 3, 4, 5, 6, 7, 8, 9, 10, 11, 12, 13, 14, 15, 16, 17, 18, 19, 20, 21], [0, 1, 2, 3, 4, 5, 6, 11, 12, 17, 18], [0, 1, 2, 3, 4, 5, 6, 7, 8, 9, 10, 11, 12, 13, 14, 15, 16, 17, 18, 19, 20, 21, 22, 23], [0, 1, 2, 3, 4, 5, 6, 7, 8, 9, 10, 11, 12, 13, 14, 15, 16, 17, 18, 19, 20, 21, 22, 23, 24], [0, 1, 2, 3, 4, 5, 6, 7, 8, 9, 10, 11, 12, 13, 14, 15, 16, 17, 18, 19, 20, 21, 22, 23, 24, 25], [0, 1, 2, 3, 4, 5, 6, 7, 8, 9, 10, 11, 12, 13, 14, 15, 16, 17, 18, 19, 20, 21, 22, 23, 24, 25, 26], [0, 1, 2, 3, 4, 5, 6, 7, 8, 9, 10, 11, 12, 13, 14, 15, 16, 17, 18, 19, 20, 21, 22, 23, 24, 25, 26, 27], [0, 1, 2, 3, 4, 5, 6, 7, 8, 9, 10, 11, 12, 13, 14, 15, 16, 17, 18, 19, 20, 21, 22, 23, 24, 25, 26, 27, 28], [0, 1, 2, 3, 4, 5, 6, 7, 8, 9, 10, 11, 12, 13, 14, 15, 16, 17, 18, 19, 20, 21, 22, 23, 24, 25, 26, 27, 28, 29]] mixed (by kernel_rfl) fun R hR => ?_
  simp only [go_sem, glK_nil, glK_cons, gsK_nil, gsK_cons, List.cons_append, List.nil_append, hx]
  try simp (disch := first | omega | (simp only [go_sem] <;> omega)) only [wrapI, wrapU, appX_exact, appX_tok]
  try simp only [go_sem, glK_nil, glK_cons, gsK_nil, gsK_cons, List.cons_append, List.nil_append, hx]
  try simp (disch := first | omega | (simp only [go_sem] <;> omega)) only [wrapI, wrapU, appX_exact, appX_tok]
  try simp only [go_sem, glK_nil, glK_cons, gsK_nil, gsK_cons, List.cons_append, List.nil_append, hx]
  try simp (disch := first | omega | (simp only [go_sem] <;> omega)) only [wrapI, wrapU, appX_exact, appX_tok]
  try simp only [go_sem, glK_nil, glK_cons, gsK_nil, gsK_cons, List.cons_append, List.nil_append, hx]
  try simp (disch := first | omega | (simp only [go_sem] <;> omega)) only [wrapI, wrapU, appX_exact, appX_tok]
  try simp only [go_sem, glK_nil, glK_cons, gsK_nil, gsK_cons, List.cons_append, List.nil_append, hx]
  try refine And.intro (by repeat' (first | refine And.intro ?_ ?_ | exact GOr_right (fun _ => by simp only [go_sem, glK_nil, glK_cons, gsK_nil, gsK_cons, List.cons_append, List.nil_append, hx]))) ?_
  refine hR _ _ (K8 _ _ ?_); clear hR R; try clear K8 Z8
  try simp only [go_sem, glK_nil, glK_cons, gsK_nil, gsK_cons, List.cons_append, List.nil_append, hx]
  refine W_region [1, 2, 3, 4, 11, 12, 13] fun R hR => ?_
  simp only [go_sem, glK_nil, glK_cons, gsK_nil, gsK_cons, List.cons_append, List.nil_append, hx]
  try simp (disch := omega) only [wrapI, wrapU]
  refine hR _ _ ?_; clear hR R
  try simp only [go_sem, glK_nil, glK_cons, gsK_nil, gsK_cons, List.cons_append, List.nil_append, hx]
  refine ⟨i + 1, ?_, by (try simp only []); omega, ?_⟩
  ·refine Weak.trans (Weak.cutX 3 5 (by omega) (by omega) hcl (by simp only [go_sem] <;> omega) (by simp only [go_sem] <;> omega)) ?_
   simp only [go_sem]
   exact Weak.eq (by rw [hA1]; simp only [List.map_append, List.map_cons, List.map_nil]; first | done | rfl) (by rw [hS1, hA1]; simp only [List.map_append, List.map_cons, List.map_nil]; first | done | rfl)
  try dsimp only
  exact hi'
 try simp only [nrm] at c1
 have hie : i = t.songs.length := by first | omega | (simp at c1; omega)
 subst hie
 have hS2 : t.songs.take t.songs.length = t.songs := List.take_length
 have hA2 : A.take t.songs.length = A := by rw [← hAl]; exact List.take_length
 simp only [hS2, hA2]
 refine W_exit ?_
 simp only [go_sem, glK_nil, glK_cons, gsK_nil, gsK_cons, List.cons_append, List.nil_append]
 refine K4 _ _ ?_
 refine W_seq fun Z12 K12 => ?_
 refine W_seq fun Z13 K13 => ?_
 have hk0 : (0 : Int) ≤ (kn : Int) := by omega
 have hkl : kn ≤ (sortSd A).length := by rw [sortSd_len]; omega
 refine W_draw [2, 3, 57, 58, 59] [0, 1, 2, 3, 4, 5, 6, 7] [(2, 1), (3, 1), (4, 1), (7, 1)] [[], [0], [], [2], [2, 3], [0, 1, 2, 3, 4], [0, 1, 2, 3, 4, 5], []] mixed (by kernel_rfl) fun R hR => ?_
 simp only [go_sem, glK_nil, glK_cons, gsK_nil, gsK_cons, List.cons_append, List.nil_append, tl_keep, hkn, hk0, hkl, Int.toNat_natCast]
 refine GCall_of (sorted_pc Y _ A _ (by omega)) ?_
 simp only [go_sem, glK_nil, glK_cons, gsK_nil, gsK_cons, List.cons_append, List.nil_append, tl_keep, hkn, hk0, hkl, Int.toNat_natCast]
 try refine And.intro (by repeat' (first | refine And.intro ?_ ?_ | exact GOr_right (fun _ => by simp only [go_sem, glK_nil, glK_cons, gsK_nil, gsK_cons, List.cons_append, List.nil_append, tl_keep, hkn, hk0, hkl, Int.toNat_natCast]))) ?_
 refine hR _ _ (K13 _ _ ?_); clear hR R; try clear K13 Z13
 try simp only [go_sem, glK_nil, glK_cons, gsK_nil, gsK_cons, List.cons_append, List.nil_append]
 refine W_block ?_
 obtain ⟨L, hL⟩ : ∃ z, (sortSd A).take kn = z := ⟨_, rfl⟩
 have hLl : L.length = kn := by rw [← hL, List.length_take]; omega
 simp only [← List.map_take, hL]
 refine W_weak (Weak.roX (j := 2) (off := 0) rfl rfl) ?_
 simp only [go_sem]
 refine W_weak (Weak.roX (j := 2) (off := 1) rfl rfl) ?_
 simp only [go_sem]
 refine W_weak (Weak.roX (j := 2) (off := 2) rfl rfl) ?_
 simp only [go_sem]
 refine W_weak (Weak.roX (j := 2) (off := 3) rfl rfl) ?_
 simp only [go_sem]
 refine W_weak (Weak.gnilX (j := 2) (off := 4) rfl rfl) ?_
 simp only [go_sem]
 refine W_weak (Weak.cutX 3 0 (by omega) (by omega) hcl (by simp only [go_sem] <;> omega) (by simp only [go_sem] <;> omega)) ?_
 simp only [go_sem]
 refine W_loopT (α := Nat × (List Int)) (fun ⟨i, ks⟩ => [(59, I i)]) (fun ⟨i, ks⟩ => σ.ext ([some (tlCells id t), some zeroRs, some [ints t.songs, ints (A.map (·.points)), ints (A.map (·.votes)), ints (A.map (·.score)), glK (σ.store.length + 3) ks]] ++ gsK ks) []) (fun ⟨i, ks⟩ => i ≤ L.length ∧ ks = (L.take i).map (·.song)) (fun ⟨i, ks⟩ => L.length - i) ((0, [])) rfl (by first | rfl | (simp only [go_sem]; done) | (simp only [go_sem]; rfl)) (⟨Nat.zero_le _, rfl⟩) ?_
 rintro ⟨i, ks⟩ ⟨hi, hks⟩
 rcases ks with _ | ⟨k0, kt⟩
 ·skip
  refine W_sr [2, 3, 57, 58, 59, 60] fun R hR => ?_
  simp only [go_sem, glK_nil, glK_cons, gsK_nil, gsK_cons, List.cons_append, List.nil_append, appG1_nil]
  refine hR _ _ ?_; clear hR R
  try simp only [go_sem, glK_nil, glK_cons, gsK_nil, gsK_cons, List.cons_append, List.nil_append, appG1_nil]
  refine W_seq fun Z15 K15 => ?_
  refine W_cond rfl (fun c2 => ?_) (fun c2 => ?_)
  ·
   try simp only [nrm] at c2
   have hi' : i < L.length := by first | assumption | omega
   obtain ⟨b, hx⟩ : ∃ b, L[i]? = some b := ⟨L[i], by simp [hi']⟩
   have hdrop : L.drop i = b :: L.drop (i + 1) := by
    rw [List.drop_eq_getElem_cons hi']; congr 1; exact (List.getElem?_eq_some_iff.1 hx).2
   have hn1 : (L.take (i + 1)).map (·.song) = (L.take i).map (·.song) ++ [b.song] := by rw [List.take_add_one, hx]; simp
   rw [← hks] at hn1
   refine W_skip (K15 _ _ ?_)
   refine W_seq fun Z16 K16 => ?_
   refine W_block ?_
   refine W_sr [2, 3, 9, 57, 58, 59] fun R hR => ?_
   simp only [go_sem, glK_nil, glK_cons, gsK_nil, gsK_cons, List.cons_append, List.nil_append, appG1_nil, hx]
   refine hR _ _ ?_; clear hR R
   try simp only [go_sem, glK_nil, glK_cons, gsK_nil, gsK_cons, List.cons_append, List.nil_append, appG1_nil, hx]
   refine W_region [2, 3, 57, 58, 59] fun R hR => ?_
   simp only [go_sem, glK_nil, glK_cons, gsK_nil, gsK_cons, List.cons_append, List.nil_append, appG1_nil, hx]
   try simp (disch := first | omega | (simp only [go_sem] <;> omega)) only [wrapI, wrapU, appX_exact, appX_tok]
   try simp only [go_sem, glK_nil, glK_cons, gsK_nil, gsK_cons, List.cons_append, List.nil_append, appG1_nil, hx]
   refine hR _ _ (K16 _ _ ?_); clear hR R; try clear K16 Z16
   try simp only [go_sem, glK_nil, glK_cons, gsK_nil, gsK_cons, List.cons_append, List.nil_append, appG1_nil, hx]
   refine W_region [2, 3, 57, 58, 59] fun R hR => ?_
   simp only [go_sem, glK_nil, glK_cons, gsK_nil, gsK_cons, List.cons_append, List.nil_append, appG1_nil, hx]
   try simp (disch := omega) only [wrapI, wrapU]
   refine hR _ _ ?_; clear hR R
   try simp only [go_sem, glK_nil, glK_cons, gsK_nil, gsK_cons, List.cons_append, List.nil_append, appG1_nil, hx]
   refine ⟨(i + 1, [b.song]), ?_, by (try simp only []); omega, ?_⟩
   ·simp only [glK_cons, gsK_cons, List.length_nil, List.map_nil]
    try simp only [go_sem]
    refine Weak.ren [0, 1, 2, 4] (by decide) (by simp) (by first | omega | (simp only [go_sem] <;> omega)) hcl (RnE.get ?_) ?_
    ·repeat' (first | exact trivial | (refine .same _ ?_; simp only [go_sem]; done) | (refine .same _ ?_; simp only [go_sem]; omega) | exact .ptr 0 0 _ _ _  rfl rfl rfl | exact .msl 0 0 _ _ _ _  rfl rfl rfl | exact .gsl 0 0 _ _ _ _  rfl rfl rfl | exact .mapv 0 0 _ _  rfl rfl rfl | exact .ptr 1 1 _ _ _  rfl rfl rfl | exact .msl 1 1 _ _ _ _  rfl rfl rfl | exact .gsl 1 1 _ _ _ _  rfl rfl rfl | exact .mapv 1 1 _ _  rfl rfl rfl | exact .ptr 2 2 _ _ _  rfl rfl rfl | exact .msl 2 2 _ _ _ _  rfl rfl rfl | exact .gsl 2 2 _ _ _ _  rfl rfl rfl | exact .mapv 2 2 _ _  rfl rfl rfl | exact .ptr 3 4 _ _ _  rfl rfl rfl | exact .msl 3 4 _ _ _ _  rfl rfl rfl | exact .gsl 3 4 _ _ _ _  rfl rfl rfl | exact .mapv 3 4 _ _  rfl rfl rfl | refine .funcL ?_ | refine ⟨rfl, ?_, ?_⟩ | refine ⟨?_, ?_⟩)
    repeat' (first | exact trivial | (refine .inl ⟨?_, rfl⟩; simp only [go_sem]; done) | (refine .inl ⟨?_, rfl⟩; simp only [go_sem]; omega) | (refine .same _ ?_; simp only [go_sem]; done) | (refine .same _ ?_; simp only [go_sem]; omega) | exact .ptr 0 0 _ _ _  rfl rfl rfl | exact .msl 0 0 _ _ _ _  rfl rfl rfl | exact .gsl 0 0 _ _ _ _  rfl rfl rfl | exact .mapv 0 0 _ _  rfl rfl rfl | exact .ptr 1 1 _ _ _  rfl rfl rfl | exact .msl 1 1 _ _ _ _  rfl rfl rfl | exact .gsl 1 1 _ _ _ _  rfl rfl rfl | exact .mapv 1 1 _ _  rfl rfl rfl | exact .ptr 2 2 _ _ _  rfl rfl rfl | exact .msl 2 2 _ _ _ _  rfl rfl rfl | exact .gsl 2 2 _ _ _ _  rfl rfl rfl | exact .mapv 2 2 _ _  rfl rfl rfl | exact .ptr 3 4 _ _ _  rfl rfl rfl | exact .msl 3 4 _ _ _ _  rfl rfl rfl | exact .gsl 3 4 _ _ _ _  rfl rfl rfl | exact .mapv 3 4 _ _  rfl rfl rfl | refine .inr ⟨by simp, ?_⟩ | refine ⟨⟨_, rfl, ?_⟩, ?_⟩ | refine ⟨?_, ?_⟩)
   try dsimp only
   exact ⟨hi', by rw [hn1]; rfl⟩
  try simp only [nrm] at c2
  have hie : L.length = i := by first | omega | (simp at c2; omega)
  subst hie
  rw [List.take_length] at hks
  exfalso
  have := congrArg List.length hks; simp at this; omega
 have hktl : kt.length ≤ 2 ^ 20 := by have := congrArg List.length hks; simp at this; omega
 simp only [gsK_cons, glK_cons, List.cons_append, List.nil_append]
 refine W_sr [2, 3, 57, 58, 59, 60] fun R hR => ?_
 simp only [go_sem, glK_nil, glK_cons, gsK_nil, gsK_cons, List.cons_append, List.nil_append, appG1_4 hktl]
 refine hR _ _ ?_; clear hR R
 try simp only [go_sem, glK_nil, glK_cons, gsK_nil, gsK_cons, List.cons_append, List.nil_append, appG1_4 hktl]
 refine W_seq fun Z19 K19 => ?_
 refine W_cond rfl (fun c3 => ?_) (fun c3 => ?_)
 ·
  try simp only [nrm] at c3
  have hi' : i < L.length := by first | assumption | omega
  obtain ⟨b, hx⟩ : ∃ b, L[i]? = some b := ⟨L[i], by simp [hi']⟩
  have hdrop : L.drop i = b :: L.drop (i + 1) := by
   rw [List.drop_eq_getElem_cons hi']; congr 1; exact (List.getElem?_eq_some_iff.1 hx).2
  have hn1 : (L.take (i + 1)).map (·.song) = (L.take i).map (·.song) ++ [b.song] := by rw [List.take_add_one, hx]; simp
  rw [← hks] at hn1
  refine W_skip (K19 _ _ ?_)
  refine W_seq fun Z20 K20 => ?_
  refine W_block ?_
  refine W_sr [2, 3, 9, 57, 58, 59] fun R hR => ?_
  simp only [go_sem, glK_nil, glK_cons, gsK_nil, gsK_cons, List.cons_append, List.nil_append, appG1_4 hktl, hx]
  refine hR _ _ ?_; clear hR R
  try simp only [go_sem, glK_nil, glK_cons, gsK_nil, gsK_cons, List.cons_append, List.nil_append, appG1_4 hktl, hx]
  refine W_region [2, 3, 57, 58, 59] fun R hR => ?_
  simp only [go_sem, glK_nil, glK_cons, gsK_nil, gsK_cons, List.cons_append, List.nil_append, appG1_4 hktl, hx]
  try simp (disch := first | omega | (simp only [go_sem] <;> omega)) only [wrapI, wrapU, appX_exact, appX_tok]
  try simp only [go_sem, glK_nil, glK_cons, gsK_nil, gsK_cons, List.cons_append, List.nil_append, appG1_4 hktl, hx]
  refine hR _ _ (K20 _ _ ?_); clear hR R; try clear K20 Z20
  try simp only [go_sem, glK_nil, glK_cons, gsK_nil, gsK_cons, List.cons_append, List.nil_append, appG1_4 hktl, hx]
  refine W_region [2, 3, 57, 58, 59] fun R hR => ?_
  simp only [go_sem, glK_nil, glK_cons, gsK_nil, gsK_cons, List.cons_append, List.nil_append, appG1_4 hktl, hx]
  try simp (disch := omega) only [wrapI, wrapU]
  refine hR _ _ ?_; clear hR R
  try simp only [go_sem, glK_nil, glK_cons, gsK_nil, gsK_cons, List.cons_append, List.nil_append, appG1_4 hktl, hx]
  refine ⟨(i + 1, k0 :: (kt ++ [b.song])), ?_, by (try simp only []); omega, ?_⟩
  ·simp only [glK_cons, gsK_cons, List.length_append, List.length_cons, List.length_nil, List.map_append, List.map_cons, List.map_nil]
   try simp only [go_sem]
   refine Weak.ren [0, 1, 2, 5] (by decide) (by simp) (by first | omega | (simp only [go_sem] <;> omega)) hcl (RnE.get ?_) ?_
   ·repeat' (first | exact trivial | (refine .same _ ?_; simp only [go_sem]; done) | (refine .same _ ?_; simp only [go_sem]; omega) | exact .ptr 0 0 _ _ _  rfl rfl rfl | exact .msl 0 0 _ _ _ _  rfl rfl rfl | exact .gsl 0 0 _ _ _ _  rfl rfl rfl | exact .mapv 0 0 _ _  rfl rfl rfl | exact .ptr 1 1 _ _ _  rfl rfl rfl | exact .msl 1 1 _ _ _ _  rfl rfl rfl | exact .gsl 1 1 _ _ _ _  rfl rfl rfl | exact .mapv 1 1 _ _  rfl rfl rfl | exact .ptr 2 2 _ _ _  rfl rfl rfl | exact .msl 2 2 _ _ _ _  rfl rfl rfl | exact .gsl 2 2 _ _ _ _  rfl rfl rfl | exact .mapv 2 2 _ _  rfl rfl rfl | exact .ptr 3 5 _ _ _  rfl rfl rfl | exact .msl 3 5 _ _ _ _  rfl rfl rfl | exact .gsl 3 5 _ _ _ _  rfl rfl rfl | exact .mapv 3 5 _ _  rfl rfl rfl | refine .funcL ?_ | refine ⟨rfl, ?_, ?_⟩ | refine ⟨?_, ?_⟩)
   repeat' (first | exact trivial | (refine .inl ⟨?_, rfl⟩; simp only [go_sem]; done) | (refine .inl ⟨?_, rfl⟩; simp only [go_sem]; omega) | (refine .same _ ?_; simp only [go_sem]; done) | (refine .same _ ?_; simp only [go_sem]; omega) | exact .ptr 0 0 _ _ _  rfl rfl rfl | exact .msl 0 0 _ _ _ _  rfl rfl rfl | exact .gsl 0 0 _ _ _ _  rfl rfl rfl | exact .mapv 0 0 _ _  rfl rfl rfl | exact .ptr 1 1 _ _ _  rfl rfl rfl | exact .msl 1 1 _ _ _ _  rfl rfl rfl | exact .gsl 1 1 _ _ _ _  rfl rfl rfl | exact .mapv 1 1 _ _  rfl rfl rfl | exact .ptr 2 2 _ _ _  rfl rfl rfl | exact .msl 2 2 _ _ _ _  rfl rfl rfl | exact .gsl 2 2 _ _ _ _  rfl rfl rfl | exact .mapv 2 2 _ _  rfl rfl rfl | exact .ptr 3 5 _ _ _  rfl rfl rfl | exact .msl 3 5 _ _ _ _  rfl rfl rfl | exact .gsl 3 5 _ _ _ _  rfl rfl rfl | exact .mapv 3 5 _ _  rfl rfl rfl | refine .inr ⟨by simp, ?_⟩ | refine ⟨⟨_, rfl, ?_⟩, ?_⟩ | refine ⟨?_, ?_⟩)
  try dsimp only
  exact ⟨hi', by rw [hn1]; rfl⟩
 try simp only [nrm] at c3
 have hie : L.length = i := by first | omega | (simp at c3; omega)
 subst hie
 rw [List.take_length] at hks
 refine W_exit ?_
 simp only [go_sem, glK_nil, glK_cons, gsK_nil, gsK_cons, List.cons_append, List.nil_append, appG1_4 hktl]
 refine K12 _ _ ?_
 refine W_sr [2, 3] fun R hR => ?_
 simp only [go_sem, glK_nil, glK_cons, gsK_nil, gsK_cons, List.cons_append, List.nil_append, appG1_4 hktl]
 refine GCall_of (PC_sortI (xs := k0 :: kt) sortsI (Sg.get_ext ..) (by simp only [List.length_cons]; omega)) ?_
 simp only [go_sem, glK_nil, glK_cons, gsK_nil, gsK_cons, List.cons_append, List.nil_append, appG1_4 hktl]
 refine hR _ _ ?_; clear hR R
 try simp only [go_sem, glK_nil, glK_cons, gsK_nil, gsK_cons, List.cons_append, List.nil_append, appG1_4 hktl]
 refine W_seq fun Z23 K23 => ?_
 have hsl2 := sortI_len (k0 :: kt)
 obtain ⟨z0, zt, hz⟩ : ∃ z zs, sortI (k0 :: kt) = z :: zs := by cases h : sortI (k0 :: kt) with
  | nil => rw [h] at hsl2; simp at hsl2
  | cons z zs => exact ⟨z, zs, rfl⟩
 simp only [hz]
 rw [hz] at hsl2
 refine W_weak (Weak.freezeX (j := 2) (k := 3) (off := 4) (len := kt.length + 1) (es := 1) (rest := []) (m := (z0 :: zt).map I) (by decide) rfl rfl (by rw [rowC_ints, List.append_nil]; rfl) (by simpa using hsl2) (fun q hq => by obtain ⟨x, _, rfl⟩ := List.mem_map.1 hq; rfl)) ?_
 simp only [go_sem]
 refine W_region [2] fun R hR => ?_
 simp only [go_sem, glK_nil, glK_cons, gsK_nil, gsK_cons, List.cons_append, List.nil_append, appG1_4 hktl, zeroRs]
 refine hR _ _ (K23 _ _ ?_); clear hR R; try clear K23 Z23
 try simp only [go_sem, glK_nil, glK_cons, gsK_nil, gsK_cons, List.cons_append, List.nil_append, appG1_4 hktl]
 refine W_ret ?_
 simp only [go_sem, glK_nil, glK_cons, gsK_nil, gsK_cons, List.cons_append, List.nil_append, appG1_4 hktl]
 refine ⟨.inr (by trivial), ?_⟩
 first | refine Fin_same hcl (by show resPV Tryz.prog _ _ [.cell 2 44] = some _; simp only [resPV, go_sem]; rfl) (Wk_eq ?_ (by simp only [go_sem])) | refine Fin_same hcl rfl (Wk_eq ?_ (by simp only [go_sem]))
 try simp only [go_sem]
 all_goals
  simp only [resT, hA, keptS, hkn, Int.toNat_natCast, hL, ← hks, hz]; rfl
def toN (n : Nat) : List Int := (List.range n).map fun (i : Nat) => (i : Int)
theorem toI_N (n : Nat) : toI n = toN n := by simp [toI, toN]
theorem toN_succ (n : Nat) : toN (n + 1) = toN n ++ [(n : Int)] := by simp [toN, List.range_succ]
theorem toN_len (n : Nat) : (toN n).length = n := by simp [toN]
theorem mem_toN {n : Nat} {x : Int} : x ∈ toN n ↔ 0 ≤ x ∧ x < n := by
 unfold toN
 rw [List.mem_map]
 constructor
 ·rintro ⟨i, hi, rfl⟩
  have := List.mem_range.1 hi
  omega
 rintro ⟨h1, h2⟩
 exact ⟨x.toNat, List.mem_range.2 (by omega), by omega⟩
theorem allT_song {t : Tally} : (allT t).map (·.song) = t.songs := by
 unfold allT
 rw [List.map_map]
 have : ((fun x : Std => x.song) ∘ fun s => stdT t s 0 0) = id := by funext s; rfl
 rw [this, List.map_id]
theorem mem_keptS {n : Nat} {l : List Std} {x : Int} (h : x ∈ keptS n l) : x ∈ l.map (·.song) := by
 unfold keptS at h
 have h1 := (List.mergeSort_perm _ _).mem_iff.1 h
 obtain ⟨a, h2, rfl⟩ := List.mem_map.1 h1
 exact List.mem_map.2 ⟨a, (sortSd_perm l).mem_iff.1 (List.mem_of_mem_take h2), rfl⟩
theorem mem_kept {t : Tally} {x : Int} (h : x ∈ (resT t).kept) : x ∈ t.songs := by
 rw [← allT_song (t := t)]
 exact mem_keptS h
theorem resT_klen {t : Tally} (h : t.rd.keep ≤ t.songs.length) : (resT t).kept.length = t.rd.keep.toNat := kept_len (by rw [allT_len]; omega)
/-- Songs of a round that may be. -/
structure SgOk (ss : List Int) : Prop where
 ln : ss.length ≤ 8
 bd : ∀ s, s ∈ ss → 0 ≤ s ∧ s < 8
theorem countT_b {r : Rnd} {rd : Int} {ss : List Int} {l : List Ballot} {c : Contest} (hl : l.length ≤ 300) (hb : ∀ b, b ∈ l → BlV c b) (hm : c.most ≤ 100) (hj : 0 ≤ r.jury ∧ r.jury ≤ 1000) (hw : 0 ≤ r.member ∧ r.member ≤ 1000) (hk : 1 ≤ r.keep ∧ r.keep ≤ ss.length) (hs : SgOk ss) : TlB (countT r rd ss l) := by
 have hml := voices_len rd ss l l.length
 refine ⟨fun s => ?_, fun s => ?_, hj, hw, hk, hs.ln, hs.bd⟩
 ·have := sumB_bd (f := cpB s) (l := l) (m := voices rd ss l l.length) (c := 100) (by omega) (fun b h => by
   have h1 := (hb b h).pt
   unfold cpB
   split
   ·split at h1 <;> omega
   omega) (List.range (voices rd ss l l.length).length)
  simp only [List.length_range] at this
  exact ⟨this.1, Int.le_trans this.2 (by omega)⟩
 have := sumB_bd (f := cvB s) (l := l) (m := voices rd ss l l.length) (c := 1) (by omega) (fun b h => by unfold cvB; split <;> omega) (List.range (voices rd ss l l.length).length)
 simp only [List.length_range] at this
 exact ⟨this.1, Int.le_trans this.2 (by omega)⟩
theorem chkRds_step {s : Int} {r : Rnd} {l : List Rnd} (h : chkRds s (r :: l) = 0) : (1 ≤ r.keep ∧ r.keep ≤ s) ∧ (0 ≤ r.jury ∧ r.jury ≤ 1000) ∧ (0 ≤ r.member ∧ r.member ≤ 1000) ∧ chkRds r.keep l = 0 := by
 simp only [chkRds] at h
 split at h
 ·cases h
 rename_i h1
 simp only [chkRd, allIn, List.all_cons, List.all_nil, Bool.and_true, Bool.not_eq_true', Bool.not_eq_false, Bool.and_eq_true, inR_true] at h1
 exact ⟨h1.2, h1.1.1, h1.1.2, h⟩
/-- The tallies of some rounds, all that may be. -/
theorem rdsT_b {l : List Ballot} {c : Contest} (hl : l.length ≤ 300) (hb : ∀ b, b ∈ l → BlV c b) (hm : c.most ≤ 100) : ∀ {rs : List Rnd} {i : Nat} {ss : List Int}, chkRds ss.length rs = 0 → SgOk ss → ∀ t, t ∈ rdsT l rs i ss → TlB t := by
 intro rs
 induction rs with
 | nil => intro i ss _ _ t h; cases h
 | cons r rs ih =>
  intro i ss h hs t ht
  obtain ⟨h1, h2, h3, h4⟩ := chkRds_step h
  have hT := countT_b (rd := (i : Int)) hl hb hm h2 h3 h1 hs
  simp only [rdsT, List.mem_cons] at ht
  rcases ht with rfl | ht
  ·exact hT
  have hk := resT_klen (t := countT r i ss l) h1.2
  have hke : (countT r i ss l).rd.keep = r.keep := rfl
  refine ih (by rw [hk, hke, Int.toNat_of_nonneg (by omega)]; exact h4) ⟨by rw [hk, hke]; have := hs.ln; omega, fun s h => hs.bd s (mem_kept h)⟩ t ht
theorem sgOk_all {c : Contest} (hV : CnV c) : SgOk (toI c.songs) := by
 obtain ⟨N, hN⟩ : ∃ z : Nat, c.songs = z := ⟨c.songs.toNat, by have := hV.sg; omega⟩
 have := hV.sg
 rw [hN, toI_N]
 exact ⟨by rw [toN_len]; omega, fun s h => by have := mem_toN.1 h; omega⟩
theorem toI_len {n : Int} (h : 0 ≤ n) : ((toI n).length : Int) = n := by simp [toI]; omega
theorem roundsT_b {c : Contest} {l : List Ballot} (hV : CnV c) (hl : l.length ≤ 300) (hb : ∀ b, b ∈ l → BlV c b) : ∀ t, t ∈ roundsT c l → TlB t :=
 rdsT_b hl hb hV.ms.2 (by rw [toI_len (by have := hV.sg; omega)]; exact hV.rs) (sgOk_all hV)
/-- The reading of the tallies. -/
def tlF (n : Nat) (p : Tally × Nat) : PV := tlPV (n + p.2) p.1
def tls (n : Nat) (ts : List Tally) : List PV := ts.zipIdx.map (tlF n)
def mapsOf (ts : List Tally) : List (Option (List PV)) := ts.map fun t => some (.mark :: mapE vcPV I t.m)
theorem mapsOf_len {ts : List Tally} : (mapsOf ts).length = ts.length := by simp [mapsOf]
theorem mapsOf_clean {a b c : Nat} {ts : List Tally} : CleanLs a b c (mapsOf ts) := by
 intro cs h p hp
 obtain ⟨t, _, e⟩ := List.mem_map.1 h
 simp only [Option.some.injEq] at e
 subst e
 rcases List.mem_cons.1 hp with rfl | hp
 ·exact .mark
 exact CleanAll_mapV.mpr trivial p hp
theorem mapsOf_get {ts : List Tally} {i : Nat} {t : Tally} (h : ts[i]? = some t) : (mapsOf ts)[i]? = some (some (.mark :: mapE vcPV I t.m)) := by
 unfold mapsOf
 rw [List.getElem?_map, h]; rfl
theorem tls_get {n i : Nat} {ts : List Tally} {t : Tally} (h : ts[i]? = some t) : (tls n ts)[i]? = some (tlPV (n + i) t) := by
 unfold tls
 rw [List.getElem?_map, List.getElem?_zipIdx, h]
 simp [tlF]
theorem tls_len {n : Nat} {ts : List Tally} : (tls n ts).length = ts.length := by simp [tls]
theorem tls_snoc {n : Nat} {ts : List Tally} {t : Tally} : tls n (ts ++ [t]) = tls n ts ++ [tlPV (n + ts.length) t] := by
 unfold tls
 rw [List.zipIdx_append, List.map_append]
 simp [tlF]
theorem cA_tls {a b c n : Nat} {ts : List Tally} (h : n + ts.length ≤ a) : CleanAll a b c (tls n ts) := by
 intro p hp
 obtain ⟨i, hi⟩ := List.mem_iff_getElem?.1 hp
 cases ht : ts[i]? with
 | none =>
  rw [List.getElem?_eq_none_iff] at ht
  rw [List.getElem?_eq_none (by rw [tls_len]; exact ht)] at hi
  cases hi
 | some t =>
  rw [tls_get ht] at hi
  injection hi with hi
  subst hi
  have := (List.getElem?_eq_some_iff.1 ht).1
  exact clean_tl t (by omega)
theorem CleanAll_tls {a b c n : Nat} {ts : List Tally} : CleanAll a b c (tls n ts) = (ts.length = 0 ∨ n + ts.length ≤ a) := propext ⟨fun h => by
 rcases Nat.eq_zero_or_pos ts.length with h0 | h0
 ·exact .inl h0
 ·right
  have hg := tls_get (n := n) (i := ts.length - 1) (ts := ts) (t := ts[ts.length - 1]'(by omega)) (by simp)
  have := C_tl.mp (h _ (List.mem_of_getElem? hg))
  omega, fun h => by
 rcases h with h | h
 ·obtain rfl := List.eq_nil_of_length_eq_zero h
  intro p hp
  cases hp
 exact cA_tls h⟩
theorem okC_tls {n : Nat} {ts : List Tally} : okC 21 (tls n ts) = True := okC_map fun x => by simp [okC, tlF, tlPV, tlCells, PV.cells, PV.scalar]
theorem mapsOf_snoc {ts : List Tally} {t : Tally} : mapsOf (ts ++ [t]) = mapsOf ts ++ [some (.mark :: mapE vcPV I t.m)] := by simp [mapsOf]
theorem roL_tls {n : Nat} {ts : List Tally} : PV.roL (tls n ts) = tls n ts := roL_enc fun x => by simp only [tlF, tlPV, tlCells, ro_agg, roL_cons, roL_nil, ro_int, ro_isl, roL_ints, PV.ro]
attribute [go_sem] roL_tls
theorem CleanLs_noneC {a b c : Nat} {l : List (Option (List PV))} : CleanLs a b c (none :: l) = CleanLs a b c l := propext ⟨fun h cs hc => h cs (List.mem_cons_of_mem _ hc), fun h cs hc => by rcases List.mem_cons.1 hc with e | hc; cases e; exact h cs hc⟩
attribute [go_sem] mapsOf_len CleanLs_noneC
theorem CleanLs_maps {a b c : Nat} {ts : List Tally} : CleanLs a b c (mapsOf ts) = True := eq_true mapsOf_clean
attribute [go_sem] CleanAll_tls CleanLs_maps okC_tls tls_len
theorem Fin_more {P : Program} {fn : Func} {σ σ' : Sg} {E : Env} {rs : List PV} {v : PV} (hcl : CleanSg σ') (h1 : σ.store.length ≤ σ'.store.length) (h2 : σ.rooms.length ≤ σ'.rooms.length) (h3 : σ'.ys.length = σ.ys.length)
 (hr : resPV P σ' E fn.results.toList = some rs) (hv : Wk σ'.store.length σ'.rooms.length σ.ys.length (oneOr rs) v) : Fin P fn σ v σ' E σ' := by
 refine ⟨rs, _, _, hr, h1, h2, hv, ?_, ?_, h3⟩
 ·rw [← h3]; simp [Sg.cut]
 unfold CleanSg at hcl; rw [h3] at hcl; exact hcl
set_option maxHeartbeats 8000000 in
theorem rounds_pc (Y : YEnv) (σ : Sg) (c : Contest) (l : List Ballot) (hV : CnV c) (hl : l.length ≤ 300) (hb : ∀ b, b ∈ l → BlV c b) :
 PC Tryz.prog Y 37 [cnPV c, bls l] σ (.isl (tls (σ.store.length + 1) (roundsT c l)) .ro) (σ.ext (none :: mapsOf (roundsT c l)) []) := by
 refine PC_of_W Tryz.func37 rfl (by kernel_rfl) Tryz.ntmps37 (by simp) fun hcl hca => ?_
 obtain ⟨ts, hts⟩ : ∃ z, roundsT c l = z := ⟨_, rfl⟩
 rw [hts]
 have hsg := hV.sg
 have hrl := hV.rl
 have hms := hV.ms
 obtain ⟨N, hN⟩ : ∃ z : Nat, c.songs = z := ⟨c.songs.toNat, by omega⟩
 have htl : ts.length = c.rounds.length := by rw [← hts]; exact rdsT_len
 have hbv : ∀ b, b ∈ l → (0 ≤ b.song ∧ b.song < 8) ∧ 0 ≤ b.points ∧ b.points ≤ 100 := fun b h => by
  have h1 := (hb b h).sg
  have h2 := (hb b h).pt
  split at h2 <;> omega
 refine W_sr [1, 2] fun R hR => ?_
 simp only [go_sem]
 refine hR _ _ ?_; clear hR R
 try simp only [go_sem]
 refine W_sr [1, 2, 5] fun R hR => ?_
 simp only [go_sem]
 refine hR _ _ ?_; clear hR R
 try simp only [go_sem]
 refine W_seq fun Z3 K3 => ?_
 refine W_sr [1, 2, 5, 11, 12] fun R hR => ?_
 simp only [go_sem, hN]
 refine hR _ _ ?_; clear hR R
 try simp only [go_sem]
 refine W_block ?_
 refine W_weak (Weak.room (t := 5) (es := 1) rfl (by simp)) ?_
 refine W_weak (Weak.keep [1, 2, 5, 11, 12]) ?_
 simp only [go_sem]
 refine W_loopT (α := Nat) (fun (i : Nat) => [(5, .isl ((toN i).map I) (.tok σ.rooms.length i 1)), (12, I i)]) (fun (i : Nat) => σ.ext [some [I (N : Int), I c.juries, I c.members, I c.most, rds c.rounds]] [i]) (fun (i : Nat) => i ≤ N) (fun (i : Nat) => N - i) (0) rfl (by first | rfl | (simp only [go_sem]; done) | (simp only [go_sem]; rfl)) (Nat.zero_le _) ?_
 rintro i hi
 refine W_sr [1, 2, 5, 11, 12, 13] fun R hR => ?_
 simp only [go_sem]
 refine hR _ _ ?_; clear hR R
 try simp only [go_sem]
 refine W_seq fun Z6 K6 => ?_
 refine W_cond rfl (fun c1 => ?_) (fun c1 => ?_)
 ·
  try simp only [nrm] at c1
  have hi1 : i < N := by first | omega | (simp at c1; omega)
  have htn := toN_len i
  refine W_skip (K6 _ _ ?_)
  refine W_seq fun Z7 K7 => ?_
  refine W_block ?_
  refine W_sr [1, 2, 5, 6, 11, 12] fun R hR => ?_
  simp only [go_sem]
  refine hR _ _ ?_; clear hR R
  try simp only [go_sem]
  refine W_region [1, 2, 5, 11, 12] fun R hR => ?_
  simp only [go_sem]
  try simp (disch := first | omega | (simp only [go_sem] <;> omega)) only [wrapI, wrapU, appX_exact, appX_tok]
  try simp only [go_sem]
  refine hR _ _ (K7 _ _ ?_); clear hR R; try clear K7 Z7
  try simp only [go_sem]
  refine W_region [1, 2, 5, 11, 12] fun R hR => ?_
  simp only [go_sem]
  try simp (disch := omega) only [wrapI, wrapU]
  refine hR _ _ ?_; clear hR R
  try simp only [go_sem]
  refine ⟨i + 1, ?_, by (try simp only []); omega, ?_⟩
  ·exact Weak.eq (by rw [toN_succ]; simp only [List.map_append, List.map_cons, List.map_nil]; first | done | rfl) rfl
  try dsimp only
  omega
 try simp only [nrm] at c1
 have hie : N = i := by first | omega | (simp at c1; omega)
 subst hie
 refine W_exit ?_
 simp only [go_sem]
 refine K3 _ _ ?_
 refine W_seq fun Z9 K9 => ?_
 simp only [← hN]
 refine W_weak (Weak.ro 5) ?_
 refine W_weak (Weak.keep [1, 2, 4, 5]) ?_
 simp only [go_sem]
 refine W_weak (Weak.cutX 1 0 (by omega) (by omega) hcl (by simp only [go_sem] <;> omega) (by simp only [go_sem] <;> omega)) ?_
 simp only [go_sem]
 refine W_region [1, 2, 5, 7] fun R hR => ?_
 simp only [go_sem]
 refine hR _ _ (K9 _ _ ?_); clear hR R; try clear K9 Z9
 try simp only [go_sem]
 refine W_seq fun Z10 K10 => ?_
 refine W_sr [1, 2, 5, 7, 22, 23] fun R hR => ?_
 simp only [go_sem]
 refine hR _ _ ?_; clear hR R
 try simp only [go_sem]
 refine W_block ?_
 refine W_weak (Weak.room (t := 7) (es := 21) rfl (by simp)) ?_
 refine W_weak (Weak.keep [1, 2, 5, 7, 22, 23]) ?_
 simp only [go_sem]
 refine W_loopT (α := Nat × (List Int)) (fun ⟨i, ss⟩ => [(5, ints ss), (7, .isl (tls (σ.store.length + 1) (ts.take i)) (.tok σ.rooms.length i 21)), (23, I i)]) (fun ⟨i, ss⟩ => σ.ext (some (cnCells c) :: mapsOf (ts.take i)) [i]) (fun ⟨i, ss⟩ => i ≤ c.rounds.length ∧ SgOk ss ∧ chkRds ss.length (c.rounds.drop i) = 0 ∧ rdsT l (c.rounds.drop i) i ss = ts.drop i) (fun ⟨i, ss⟩ => c.rounds.length - i) ((0, toN N)) rfl (by first | rfl | (simp only [go_sem]; done) | (simp only [go_sem]; rfl)) (⟨Nat.zero_le _, by have := sgOk_all hV; rw [hN, toI_N] at this; exact this, by rw [toN_len]; have := hV.rs; rw [hN] at this; exact this, by rw [← hts]; unfold roundsT; rw [hN, toI_N]; rfl⟩) ?_
 rintro ⟨i, ss⟩ ⟨hi, hso, hck, hrd⟩
 have htk : (ts.take i).length = i := by rw [List.length_take]; omega
 obtain ⟨τ, hτ⟩ : ∃ z, σ.ext (some (cnCells c) :: mapsOf (ts.take i)) [] = z := ⟨_, rfl⟩
 have hτe : σ.ext (some (cnCells c) :: mapsOf (ts.take i)) [i] = τ.ext [] [i] := by rw [← hτ, Sg.ext_ext]; simp
 have hτr : σ.rooms.length = τ.rooms.length := by rw [← hτ]; simp [Sg.ext]
 have hτy : τ.ys = σ.ys := by rw [← hτ]; simp [Sg.ext]
 have hid : τ.store.length = σ.store.length + 1 + i := by rw [← hτ]; simp only [Sg.len_ext, List.length_cons, mapsOf_len, htk]; omega
 have hclτ : CleanSg τ := by rw [← hτ]; exact CleanSg_ext hcl (by show CleanLs _ _ _ _; simp only [go_sem])
 have hd0 : τ.store[σ.store.length]? = some (some (cnCells c)) := by rw [← hτ]; exact Sg.get_ext0 ..
 dsimp only
 rw [hτe]
 simp only [hτr]
 refine W_sr [1, 2, 5, 7, 22, 23, 24] fun R hR => ?_
 simp only [go_sem, ldA_at (get_extx hd0)]
 refine hR _ _ ?_; clear hR R
 try simp only [go_sem, ldA_at (get_extx hd0)]
 refine W_seq fun Z13 K13 => ?_
 refine W_cond rfl (fun c2 => ?_) (fun c2 => ?_)
 ·
  try simp only [nrm] at c2
  have hi' : i < c.rounds.length := by first | omega | (simp at c2; omega)
  obtain ⟨r, hr⟩ : ∃ z, c.rounds[i]? = some z := ⟨c.rounds[i], by simp [hi']⟩
  have hdrop : c.rounds.drop i = r :: c.rounds.drop (i + 1) := by rw [List.drop_eq_getElem_cons hi']; congr 1; exact (List.getElem?_eq_some_iff.1 hr).2
  rw [hdrop] at hck hrd
  obtain ⟨h1, h2, h3, h4⟩ := chkRds_step hck
  have hTB := countT_b (rd := (i : Int)) hl hb hms.2 h2 h3 h1 hso
  simp only [rdsT] at hrd
  have hti : ts[i]? = some (countT r i ss l) := by
   have := congrArg (fun z => z[0]?) hrd
   simpa using this.symm
  have htd : rdsT l (c.rounds.drop (i + 1)) (i + 1) (resT (countT r i ss l)).kept = ts.drop (i + 1) := by
   have := congrArg List.tail hrd
   simpa using this
  have hsn : ts.take (i + 1) = ts.take i ++ [countT r i ss l] := by rw [List.take_add_one, hti]; rfl
  have hkl := resT_klen (t := countT r i ss l) h1.2
  have hke : (countT r i ss l).rd.keep = r.keep := rfl
  refine W_skip (K13 _ _ ?_)
  refine W_seq fun Z14 K14 => ?_
  refine W_block ?_
  refine W_sr [1, 2, 5, 7, 8, 22, 23] fun R hR => ?_
  simp only [go_sem, ldA_at (get_extx hd0)]
  refine hR _ _ ?_; clear hR R
  try simp only [go_sem, ldA_at (get_extx hd0)]
  refine W_sr [1, 2, 7, 9, 22, 23] fun R hR => ?_
  simp only [go_sem, ldA_at (get_extx hd0), tlPV, tlCells]
  refine GCall_of (count_pc Y _ c l i r ss hr (by omega) hl (by have := hso.ln; omega) hbv) ?_
  simp only [go_sem, ldA_at (get_extx hd0), tlPV, tlCells]
  refine hR _ _ ?_; clear hR R
  try simp only [go_sem, ldA_at (get_extx hd0)]
  refine W_sr [1, 2, 7, 9, 22, 23] fun R hR => ?_
  simp only [go_sem, ldA_at (get_extx hd0), tlPV, tlCells]
  try simp (disch := first | omega | (simp only [go_sem] <;> omega)) only [wrapI, wrapU, appX_exact, appX_tok]
  try simp only [go_sem, ldA_at (get_extx hd0), tlPV, tlCells]
  refine hR _ _ ?_; clear hR R
  try simp only [go_sem, ldA_at (get_extx hd0)]
  refine W_region [1, 2, 5, 7, 22, 23] fun R hR => ?_
  simp only [go_sem, ldA_at (get_extx hd0), tlPV, tlCells]
  refine GCall_of (result_pc Y _ τ.store.length (countT r i ss l) hTB) ?_
  simp only [go_sem, ldA_at (get_extx hd0), tlPV, tlCells]
  refine hR _ _ (K14 _ _ ?_); clear hR R; try clear K14 Z14
  try simp only [go_sem, ldA_at (get_extx hd0)]
  refine W_region [1, 2, 5, 7, 22, 23] fun R hR => ?_
  simp only [go_sem, ldA_at (get_extx hd0)]
  try simp (disch := omega) only [wrapI, wrapU]
  refine hR _ _ ?_; clear hR R
  try simp only [go_sem, ldA_at (get_extx hd0)]
  refine ⟨(i + 1, (resT (countT r i ss l)).kept), ?_, by (try simp only []); omega, ?_⟩
  ·refine Weak.trans (Weak.cutX (σ := τ) 1 1 (by omega) (by omega) hclτ (by simp only [go_sem] <;> omega) (by simp only [go_sem] <;> omega)) ?_
   simp only [go_sem]
   exact Weak.eq (by rw [hsn, tls_snoc, htk, ← hid]; first | done | rfl) (by rw [hsn, mapsOf_snoc, ← hτ, Sg.ext_ext]; first | done | rfl)
  try dsimp only
  exact ⟨hi', ⟨by rw [hkl, hke]; have := hso.ln; omega, fun s h => hso.bd s (mem_kept h)⟩, by rw [hkl, hke, Int.toNat_of_nonneg (by omega)]; exact h4, htd⟩
 try simp only [nrm] at c2
 have hie : c.rounds.length = i := by first | omega | (simp at c2; omega)
 have hta : ts.take i = ts := by rw [← hie, ← htl]; exact List.take_length
 refine W_exit ?_
 simp only [go_sem, ldA_at (get_extx hd0)]
 refine K10 _ _ ?_
 refine W_sr [4] fun R hR => ?_
 simp only [go_sem, ldA_at (get_extx hd0)]
 refine hR _ _ ?_; clear hR R
 try simp only [go_sem, ldA_at (get_extx hd0)]
 refine W_weak (Weak.ro 4) ?_
 refine W_weak (Weak.keep [4]) ?_
 simp only [go_sem]
 rw [← hτe]
 simp only [hta]
 refine W_weak (Weak.goneX 0) ?_
 simp only [go_sem]
 refine W_weak (Weak.cutX (none :: mapsOf ts).length 0 (by omega) (by omega) hcl (by rw [List.take_length]; simp only [go_sem]) (by simp only [go_sem] <;> omega)) ?_
 simp only [List.take_length, List.take_zero]
 refine W_ret ?_
 simp only [go_sem, ldA_at (get_extx hd0)]
 refine ⟨.inr (by trivial), ?_⟩
 refine Fin_more (CleanSg_ext hcl (by show CleanLs _ _ _ _; simp only [go_sem])) (by simp only [go_sem] <;> omega) (by simp only [go_sem] <;> omega) (by simp only [go_sem]) rfl (Wk_eq rfl ?_)
 try simp only [go_sem]
 all_goals
  first | omega | (simp only [go_sem] <;> omega)
end Go.Proofs.YtdoohibbfjdblaaGreatDoor
