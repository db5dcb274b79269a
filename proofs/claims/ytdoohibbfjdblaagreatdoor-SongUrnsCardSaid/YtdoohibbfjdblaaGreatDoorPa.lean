/-
  The pure reading of Go values: a value, the memory behind it that nobody writes any more, the variables that may be written, and the rooms into which slices may grow. No program is named here.
  What a new block, a store, a growing slice do to the pure reading.
  The temporaries, read; the operations that touch no memory but to read it.
  The operations that touch no memory but to read it: what they give.
  The operations that touch no memory but to read it: the others, and all of them in one word.
  Slices of slices, structs put together, len, min, max; and all quiet operations in one word.
  Structs put together, len, min, max; and all quiet operations in one word.
  All quiet operations in one word.
  The operations that make memory or write it.
  Composite slices, make, append.
  append.
  append, all of it.
  Slices that are written in place and grow: each has its block to itself; a variable holds its cells.
-/
import Derived.CallsIn
import Derived.RangeFuncLeaves
import Derived.RangeFuncRecord
import Derived.OrdersIn
import Derived.Below
import Derived.Laws.World
import Derived.Laws.StructEq
import Derived.Laws.BytesString
import Derived.Laws.Append
import Derived.MapKept
import Derived.ProofKit
import Derived.Carry
import Derived.Handed
import Derived.ChangeCalls
import Derived.Stop.Joined
import Derived.Lib.LaidTab
import Derived.Shelf.Strconv.Itoa3
import Derived.RangeFuncIn
import Derived.RangeFuncNested
import Derived.Test.YtdoohibbfjdblaaGreatDoorProg
import Derived.KernelRfl
import Derived.IntWalk
import Derived.Sort.OwnSortedInts
import Derived.Lib.SlicesCompact
import Derived.Test.YtdoohibbfjdblaaGreatDoorRows
import Derived.Shelf.Sort.Plain
import Derived.Shelf.Slices.In.SortNone
import Derived.Shelf.Small.Bits
import Derived.Shelf.Strings.Builder1
import Derived.Lib.SplitLaws
import Derived.Lib.AtoiAll
import Derived.Lib.ItoaNum
import Derived.Lib.IndexBytes
import Derived.Shelf.Strings.Split
import Derived.Shelf.Strconv.AtoiAll
import Derived.Lib.AtoiErrMem
import Derived.Lib.ItoaLen
import Derived.Lib.AtoiAllCases
import Derived.Test.YtdoohibbfjdblaaGreatDoorCards
import Derived.Test.YtdoohibbfjdblaaGreatDoorTie
import Derived.JoinedOf
import Derived.LaidMore
import Derived.LaidSub
import Derived.Lay
import Derived.SevenTiedAt
import Derived.Lib.LaidU8
import Derived.Shelf.Vars
set_option linter.unusedSimpArgs false
set_option linter.unusedVariables false
namespace Go.Proofs.YtdoohibbfjdblaaGreatDoor
open Go Go.RowKit
/-- Who may grow a slice in place: nobody knows; it has no spare room; the holder of room r, as long as n elements were put into it. -/
inductive Own where
 | ro
 | exact
 | tok (r n es : Nat)
 deriving DecidableEq
/-- A Go value, read. -/
inductive PV where
 | undef
 | bool (b : Bool)
 | int (k : IntKind) (n : Int)
 | str (s : ByteArray)
 | nilptr
 | ptr (id off : Nat)
 | eptr (es : Nat) (elems : List PV) (i off : Nat)
 | nilsl
 | isl (elems : List PV) (own : Own)
 | msl (id off len : Nat)
 | agg (cells : List PV)
 | tuple (vs : List PV)
 | func (fn : Fn) (first captured : List PV)
 | yield (y : Nat)
 | nilfunc
 | niliface
 | iface (t : TypeId) (v : PV)
 | map (id : Nat)
 | nilmap
 | gsl (id len es : Nat)
 | gnil
 | bself (id : Nat) (t : TypeId)
 | bbuf (l : List PV) (r : Nat) (t : TypeId)
 | mark
 | iter (id : Nat)
 | itst (mid n : Nat) (seen : List Nat)
instance : Inhabited PV := ⟨.undef⟩
def PV.cells : PV → List PV
 | .agg cs => cs
 | v => [v]
@[simp] theorem PV.cells_agg (cs : List PV) : (PV.agg cs).cells = cs := rfl
@[simp] theorem PV.cells_int (k : IntKind) (n : Int) : (PV.int k n).cells = [PV.int k n] := rfl
@[simp] theorem PV.cells_bool (b : Bool) : (PV.bool b).cells = [PV.bool b] := rfl
@[simp] theorem PV.cells_str (s : ByteArray) : (PV.str s).cells = [PV.str s] := rfl
@[simp] theorem PV.cells_isl (l : List PV) (o : Own) : (PV.isl l o).cells = [PV.isl l o] := rfl
@[simp] theorem PV.cells_nilsl : PV.nilsl.cells = [PV.nilsl] := rfl
@[simp] theorem PV.cells_func (f : Fn) (a b : List PV) : (PV.func f a b).cells = [PV.func f a b] := rfl
@[simp] theorem PV.cells_ptr (i o : Nat) : (PV.ptr i o).cells = [PV.ptr i o] := rfl
@[simp] theorem PV.cells_undef : PV.undef.cells = [PV.undef] := rfl
/-- May it stand in one cell of memory? -/
def PV.scalar : PV → Bool
 | .undef | .agg _ | .tuple _ => false
 | _ => true
inductive LState where
 | ready
 | busy
 | done (jump : Code)
/-- What is known of a block for ever: it has k cells or more; it is a row of k cells of a type; it is older, and holds just this. -/
inductive Sz where
 | n (k : Nat)
 | ty (t : TypeId) (k : Nat)
 | whole (c : Array Value)
/-- Where things lie: what is never written again (block, offset); the blocks of the variables; the rooms' histories; the loops over functions; the blocks for deferred calls; the blocks set apart, with what lies in them. -/
structure Ty where
 base : Nat
 imm : Nat → Nat → Option Value
 β : List Nat
 hist : Nat → Nat → Option (Option (Nat × Nat × Nat × Nat))
 ys : List (Nat × Loop)
 ds : List Nat
 rs : List (Nat × Array Value)
 sz : List (Nat × Sz)
structure Ty.le (Ψ Ψ' : Ty) : Prop where
 base : Ψ'.base = Ψ.base
 imm : ∀ b o v, Ψ.imm b o = some v → Ψ'.imm b o = some v
 β : ∀ (i b : Nat), Ψ.β[i]? = some b → Ψ'.β[i]? = some b
 hist : ∀ r n x, Ψ.hist r n = some x → Ψ'.hist r n = some x
 ys : ∀ (i : Nat) (b : Nat × Loop), Ψ.ys[i]? = some b → Ψ'.ys[i]? = some b
 ds : ∀ d, d ∈ Ψ.ds → d ∈ Ψ'.ds
 rs : ∀ d, d ∈ Ψ.rs → d ∈ Ψ'.rs
 sz : ∀ d, d ∈ Ψ.sz → d ∈ Ψ'.sz
theorem Ty.le.refl (Ψ : Ty) : Ψ.le Ψ := ⟨rfl, fun _ _ _ h => h, fun _ _ h => h, fun _ _ _ h => h, fun _ _ h => h, fun _ h => h, fun _ h => h, fun _ h => h⟩
theorem Ty.le.trans {a b c : Ty} (h : a.le b) (k : b.le c) : a.le c :=
  ⟨k.base.trans h.base, fun x y v e => k.imm x y v (h.imm x y v e), fun i x e => k.β i x (h.β i x e), fun r n x e => k.hist r n x (h.hist r n x e),
   fun i x e => k.ys i x (h.ys i x e), fun d e => k.ds d (h.ds d e), fun d e => k.rs d (h.rs d e), fun d e => k.sz d (h.sz d e)⟩
/-- The owner's word on a slice of len elements (of es cells each) from o on in block b, with room for cap. -/
def OwnOK (Ψ : Ty) (own : Own) (b o len cap es : Nat) : Prop :=
 match own with
 | .ro => True
 | .exact => cap = len
 | .tok r n es' => es' = es ∧ Ψ.hist r n = some (some (b, o + len * es, o + cap * es, es))
def OwnNil (Ψ : Ty) (own : Own) : Prop :=
 match own with
 | .tok r n _ => ∃ x, Ψ.hist r n = some x
 | _ => True
inductive VR (Ψ : Ty) : PV → Value → Prop where
 | undef (x : Value) : VR Ψ .undef x
 | bool (b : Bool) : VR Ψ (.bool b) (.bool b)
 | int (k : IntKind) (n : Int) : VR Ψ (.int k n) (.int k n)
 | str (s : ByteArray) : VR Ψ (.str s) (.string s)
 | nilptr : VR Ψ .nilptr (.pointer none)
 | ptr (id off b : Nat) (h : Ψ.β[id]? = some b) (hz : (b, .n 0) ∈ Ψ.sz) : VR Ψ (.ptr id off) (.pointer (some ⟨b, off, none⟩))
 | eptr (es : Nat) (elems : List PV) (i off b o : Nat) (vals : Nat → Nat → Value)
  (hs : ∀ (k : Nat) (e : PV), elems[k]? = some e → e.cells.length = es)
  (h1 : ∀ (k : Nat) (e : PV) (j : Nat) (p : PV), elems[k]? = some e → e.cells[j]? = some p → Ψ.imm b (o + k * es + j) = some (vals k j))
  (h2 : ∀ (k : Nat) (e : PV) (j : Nat) (p : PV), elems[k]? = some e → e.cells[j]? = some p → VR Ψ p (vals k j)) :
  VR Ψ (.eptr es elems i off) (.pointer (some ⟨b, o + i * es + off, none⟩))
 | nilsl : VR Ψ .nilsl (.slice none 0 0)
 | islnil (own : Own) (a : Option Addr) (h : OwnNil Ψ own) : VR Ψ (.isl [] own) (.slice a 0 0)
 | isl (es : Nat) (elems : List PV) (own : Own) (b o cap : Nat) (vals : Nat → Nat → Value)
  (hs : ∀ (k : Nat) (e : PV), elems[k]? = some e → e.cells.length = es)
  (h1 : ∀ (k : Nat) (e : PV) (j : Nat) (p : PV), elems[k]? = some e → e.cells[j]? = some p → Ψ.imm b (o + k * es + j) = some (vals k j))
  (h2 : ∀ (k : Nat) (e : PV) (j : Nat) (p : PV), elems[k]? = some e → e.cells[j]? = some p → VR Ψ p (vals k j))
  (hc : elems.length ≤ cap)
  (ho : OwnOK Ψ own b o elems.length cap es) :
  VR Ψ (.isl elems own) (.slice (some ⟨b, o, none⟩) elems.length cap)
 | msl (id off len b cap : Nat) (h : Ψ.β[id]? = some b) (hz : (b, .n 0) ∈ Ψ.sz) (hc : len ≤ cap) : VR Ψ (.msl id off len) (.slice (some ⟨b, off, none⟩) len cap)
 | agg (cs : List PV) (vs : Array Value) (hl : vs.size = cs.length) (h : ∀ (j : Nat) (p : PV) (v : Value), cs[j]? = some p → vs[j]? = some v → VR Ψ p v) : VR Ψ (.agg cs) (.agg vs)
 | tuple (cs : List PV) (vs : Array Value) (hl : vs.size = cs.length) (h : ∀ (j : Nat) (p : PV) (v : Value), cs[j]? = some p → vs[j]? = some v → VR Ψ p v) : VR Ψ (.tuple cs) (.tuple vs)
 | func (fn : Fn) (fs cs : List PV) (xs ys : Array Value) (hl : xs.size = fs.length) (hl' : ys.size = cs.length)
  (h : ∀ (j : Nat) (p : PV) (v : Value), fs[j]? = some p → xs[j]? = some v → VR Ψ p v) (h' : ∀ (j : Nat) (p : PV) (v : Value), cs[j]? = some p → ys[j]? = some v → VR Ψ p v) : VR Ψ (.func fn fs cs) (.func fn xs ys)
 | yield (y l : Nat) (d : Loop) (h : Ψ.ys[y]? = some (l, d)) : VR Ψ (.yield y) (.func (.yield l) #[] #[])
 | nilfunc : VR Ψ .nilfunc .nilFunc
 | niliface : VR Ψ .niliface .nilIface
 | iface (t : TypeId) (p : PV) (x : Value) (h : VR Ψ p x) : VR Ψ (.iface t p) (.iface t x)
 | map (id b : Nat) (h : Ψ.β[id]? = some b) : VR Ψ (.map id) (.map (some b))
 | nilmap : VR Ψ .nilmap (.map none)
 | iter (id b : Nat) (h : Ψ.β[id]? = some b) : VR Ψ (.iter id) (.pointer (some ⟨b, 0, none⟩))
 | gsl (id len es b cap : Nat) (h : Ψ.β[id]? = some b) (hz : (b, .n (cap * es)) ∈ Ψ.sz) (h0 : (b, .n 0) ∈ Ψ.sz) (hc : len ≤ cap) : VR Ψ (.gsl id len es) (.slice (some ⟨b, 0, none⟩) len cap)
 | gnil (a : Option Addr) : VR Ψ .gnil (.slice a 0 0)
 | bself (id : Nat) (t : TypeId) (b : Nat) (x : Value) (h : Ψ.β[id]? = some b) (hz : (b, .ty t 2) ∈ Ψ.sz) (hx : x = .pointer none ∨ x = .pointer (some ⟨b, 0, none⟩)) : VR Ψ (.bself id t) x
 | bbuf (l : List PV) (r : Nat) (t : TypeId) (x : Value) (h : VR Ψ (.isl l (.tok r l.length 1)) x) (ht : ∀ g o n cap, x = .slice (some ⟨g, o, none⟩) n cap → cap ≠ 0 → o = 0 ∧ (g, .ty t cap) ∈ Ψ.sz) : VR Ψ (.bbuf l r t) x
theorem OwnOK.mono0 {Ψ Ψ' : Ty} (h : ∀ r n x, Ψ.hist r n = some x → Ψ'.hist r n = some x) {own : Own} {b o len cap es : Nat} (k : OwnOK Ψ own b o len cap es) : OwnOK Ψ' own b o len cap es := by
 cases own with
 | ro => trivial
 | exact => exact k
 | tok r n es => exact ⟨k.1, h _ _ _ k.2⟩
theorem OwnNil.mono0 {Ψ Ψ' : Ty} (h : ∀ r n x, Ψ.hist r n = some x → Ψ'.hist r n = some x) {own : Own} (k : OwnNil Ψ own) : OwnNil Ψ' own := by
 cases own with
 | ro => trivial
 | exact => trivial
 | tok r n es =>
  obtain ⟨x, hx⟩ := k
  exact ⟨x, h _ _ _ hx⟩
theorem VR.mono0 {Ψ Ψ' : Ty} (k1 : ∀ b o v, Ψ.imm b o = some v → Ψ'.imm b o = some v) (k2 : ∀ (i b : Nat), Ψ.β[i]? = some b → Ψ'.β[i]? = some b) (k3 : ∀ r n x, Ψ.hist r n = some x → Ψ'.hist r n = some x)
 (k4 : ∀ (i : Nat) (b : Nat × Loop), Ψ.ys[i]? = some b → Ψ'.ys[i]? = some b) (k5 : ∀ d, d ∈ Ψ.sz → d ∈ Ψ'.sz) {p : PV} {x : Value} (k : VR Ψ p x) : VR Ψ' p x := by
 induction k with
 | undef x => exact .undef x
 | bool b => exact .bool b
 | int k n => exact .int k n
 | str s => exact .str s
 | nilptr => exact .nilptr
 | ptr id off b hb hz => exact .ptr id off b (k2 _ _ hb) (k5 _ hz)
 | eptr es elems i off b o vals hs h1 h2 ih => exact .eptr es elems i off b o vals hs (fun a e j q x y => k1 _ _ _ (h1 a e j q x y)) ih
 | nilsl => exact .nilsl
 | islnil own a ho => exact .islnil own a (ho.mono0 k3)
 | isl es elems own b o cap vals hs h1 h2 hc ho ih => exact .isl es elems own b o cap vals hs (fun a e j q x y => k1 _ _ _ (h1 a e j q x y)) ih hc (ho.mono0 k3)
 | msl id off len b cap hb hz hc => exact .msl id off len b cap (k2 _ _ hb) (k5 _ hz) hc
 | agg cs vs hl _ ih => exact .agg cs vs hl ih
 | tuple cs vs hl _ ih => exact .tuple cs vs hl ih
 | func fn fs cs xs ys hl hl' _ _ ih ih' => exact .func fn fs cs xs ys hl hl' ih ih'
 | yield y l d hy => exact .yield y l d (k4 _ _ hy)
 | nilfunc => exact .nilfunc
 | niliface => exact .niliface
 | iface t p x _ ih => exact .iface t p x ih
 | map id b hb => exact .map id b (k2 _ _ hb)
 | nilmap => exact .nilmap
 | iter id b hb => exact .iter id b (k2 _ _ hb)
 | gsl id len es b cap hb hz h0 hc => exact .gsl id len es b cap (k2 _ _ hb) (k5 _ hz) (k5 _ h0) hc
 | gnil a => exact .gnil a
 | bself id t b x hb hz hx => exact .bself id t b x (k2 _ _ hb) (k5 _ hz) hx
 | bbuf l r t x _ ht ih => exact .bbuf l r t x ih fun g o n cap e hl => ⟨(ht g o n cap e hl).1, k5 _ (ht g o n cap e hl).2⟩
theorem VR.mono {Ψ Ψ' : Ty} (h : Ψ.le Ψ') {p : PV} {x : Value} (k : VR Ψ p x) : VR Ψ' p x := k.mono0 h.imm h.β h.hist h.ys h.sz
/-- Values against values, one by one. -/
def VRs (Ψ : Ty) (ps : List PV) (xs : Array Value) : Prop := xs.size = ps.length ∧ ∀ (j : Nat) (p : PV) (v : Value), ps[j]? = some p → xs[j]? = some v → VR Ψ p v
theorem VRs.mono {Ψ Ψ' : Ty} (h : Ψ.le Ψ') {ps : List PV} {xs : Array Value} (k : VRs Ψ ps xs) : VRs Ψ' ps xs := ⟨k.1, fun j p v a b => (k.2 j p v a b).mono h⟩
theorem VRs.append {Ψ : Ty} {ps qs : List PV} {xs ys : Array Value} (h : VRs Ψ ps xs) (k : VRs Ψ qs ys) : VRs Ψ (ps ++ qs) (xs ++ ys) := by
 refine ⟨by simp [h.1, k.1], fun j p v a b => ?_⟩
 by_cases hj : j < ps.length
 ·rw [List.getElem?_append_left hj] at a
  rw [Array.getElem?_append_left (by have := h.1; omega)] at b
  exact h.2 j p v a b
 have e := h.1
 rw [List.getElem?_append_right (by omega)] at a
 rw [Array.getElem?_append_right (by omega), e] at b
 exact k.2 _ p v a b
/-- The state of a run, but for the temporaries: variables (a block's cells; none: no longer there), rooms (how many elements were put into each), loops over functions. -/
structure Sg where
 store : List (Option (List PV))
 rooms : List Nat
 ys : List LState
def blockIs (w : World) (b : Nat) (c : Array Value) : Prop := ∃ e, w.heap[b]? = some (.cells c e (0, 0))
/-- The loop's record, as it lies in the heap. -/
def LState.record (s : LState) (r : Loop) : Loop :=
 match s with
 | .ready => { r with state := .ready, pending := none }
 | .busy => { r with state := .busy, pending := none }
 | .done j => { r with state := .done, pending := some j }
/-- What lies in a variable's block: cells, or (behind a mark that no value bears) a map's entries, each with its key and its value, none ever taken out. -/
def Keeps (Ψ : Ty) (w : World) (b : Nat) (cs : List PV) : Prop :=
 (∃ c, blockIs w b c ∧ cs.length ≤ c.size ∧ ∀ (j : Nat) (p : PV) (v : Value), cs[j]? = some p → c[j]? = some v → VR Ψ p v) ∨
 (∃ (arr : Array MapEntry) (es : List PV), cs = .mark :: es ∧ w.heap[b]? = some (.map arr arr.size) ∧ arr.size = es.length ∧ ∀ (j : Nat) (p : PV) (e : MapEntry), es[j]? = some p → arr[j]? = some e → e.born = j ∧ ∃ k v, p = .tuple [k, v] ∧ VR Ψ k e.key ∧ VR Ψ v e.val) ∨
 (∃ (mid r n : Nat) (seen : List Nat), cs = [.itst mid n seen] ∧ w.heap[b]? = some (.mapIter (some r) n seen.toArray n) ∧ VR Ψ (.map mid) (.map (some r)))
theorem Keeps.map {Ψ Ψ' : Ty} {w : World} {b : Nat} {cs : List PV} (k : ∀ p x, VR Ψ p x → VR Ψ' p x) (h : Keeps Ψ w b cs) : Keeps Ψ' w b cs := by
 rcases h with ⟨c, h1, h2, h3⟩ | ⟨arr, es, h0, h1, h2, h3⟩ | ⟨mid, r, n, seen, h0, h1, h2⟩
 ·exact .inl ⟨c, h1, h2, fun j p v x y => k _ _ (h3 j p v x y)⟩
 ·refine .inr (.inl ⟨arr, es, h0, h1, h2, fun j p e x y => ?_⟩)
  obtain ⟨g1, a, v, g2, g3, g4⟩ := h3 j p e x y
  exact ⟨g1, a, v, g2, k _ _ g3, k _ _ g4⟩
 exact .inr (.inr ⟨mid, r, n, seen, h0, h1, k _ _ h2⟩)
theorem Keeps.mono0 {Ψ Ψ' : Ty} {w : World} {b : Nat} {cs : List PV} (k1 : ∀ b o v, Ψ.imm b o = some v → Ψ'.imm b o = some v) (k2 : ∀ (i b : Nat), Ψ.β[i]? = some b → Ψ'.β[i]? = some b) (k3 : ∀ r n x, Ψ.hist r n = some x → Ψ'.hist r n = some x)
 (k4 : ∀ (i : Nat) (b : Nat × Loop), Ψ.ys[i]? = some b → Ψ'.ys[i]? = some b) (k5 : ∀ d, d ∈ Ψ.sz → d ∈ Ψ'.sz) (h : Keeps Ψ w b cs) : Keeps Ψ' w b cs := h.map fun _ _ k => k.mono0 k1 k2 k3 k4 k5
theorem Keeps.mono {Ψ Ψ' : Ty} {w : World} {b : Nat} {cs : List PV} (le : Ψ.le Ψ') (h : Keeps Ψ w b cs) : Keeps Ψ' w b cs := h.map fun _ _ k => k.mono le
theorem Keeps.ne {Ψ : Ty} {w : World} {b r : Nat} {cs : List PV} {o : Obj} (h : Keeps Ψ w b cs) (hr : w.heap[r]? = some o) (h1 : ∀ c e f, o ≠ .cells c e f) (h2 : ∀ a n, o ≠ .map a n) (h3 : ∀ a n l k, o ≠ .mapIter a n l k) : b ≠ r := by
 rintro rfl
 rcases h with ⟨c, ⟨t, g⟩, _⟩ | ⟨arr, es, _, g, _⟩ | ⟨mid, r, n, seen, _, g, _⟩ <;> (rw [hr] at g; injection g with g)
 ·exact h1 _ _ _ g
 ·exact h2 _ _ g
 exact h3 _ _ _ _ g
theorem Keeps.of_heap {Ψ : Ty} {w w' : World} {b : Nat} {cs : List PV} (e : w'.heap[b]? = w.heap[b]?) (h : Keeps Ψ w b cs) : Keeps Ψ w' b cs := by
 rcases h with ⟨c, ⟨t, h1⟩, h2⟩ | ⟨arr, es, h0, h1, h2⟩ | ⟨mid, r, n, seen, h0, h1, h2⟩
 ·exact .inl ⟨c, ⟨t, e.trans h1⟩, h2⟩
 ·exact .inr (.inl ⟨arr, es, h0, e.trans h1, h2⟩)
 exact .inr (.inr ⟨mid, r, n, seen, h0, e.trans h1, h2⟩)
theorem Keeps.cells {Ψ : Ty} {w : World} {b : Nat} {cs : List PV} {c : Array Value} (h : Keeps Ψ w b cs) (hb : blockIs w b c) :
 cs.length ≤ c.size ∧ ∀ (j : Nat) (p : PV) (v : Value), cs[j]? = some p → c[j]? = some v → VR Ψ p v := by
 obtain ⟨t, ht⟩ := hb
 rcases h with ⟨c', ⟨t', h1⟩, h2⟩ | ⟨arr, es, _, h1, _⟩ | ⟨mid, r, n, seen, _, h1, _⟩
 ·rw [ht] at h1
  injection h1 with h1
  injection h1 with h1
  subst h1
  exact h2
 ·rw [ht] at h1
  cases h1
 rw [ht] at h1
 cases h1
theorem Keeps.lt {Ψ : Ty} {w : World} {b : Nat} {cs : List PV} (h : Keeps Ψ w b cs) : b < w.heap.size := by
 rcases h with ⟨c, ⟨t, h1⟩, _⟩ | ⟨arr, es, _, h1, _⟩ | ⟨mid, r, n, seen, _, h1, _⟩
 ·exact (Array.getElem?_eq_some_iff.1 h1).1
 ·exact (Array.getElem?_eq_some_iff.1 h1).1
 exact (Array.getElem?_eq_some_iff.1 h1).1
/-- Behind the mark lies a map. -/
theorem Keeps.entries {Ψ : Ty} {w : World} {b : Nat} {es : List PV} (h : Keeps Ψ w b (.mark :: es)) : ∃ arr : Array MapEntry, w.heap[b]? = some (.map arr arr.size) ∧ arr.size = es.length ∧
 ∀ (j : Nat) (p : PV) (e : MapEntry), es[j]? = some p → arr[j]? = some e → e.born = j ∧ ∃ k v, p = .tuple [k, v] ∧ VR Ψ k e.key ∧ VR Ψ v e.val := by
 rcases h with ⟨c, h1, h2, h3⟩ | ⟨arr, es', h0, h1, h2, h3⟩ | ⟨mid, r, n, seen, h0, h1, h2⟩
 ·simp only [List.length_cons] at h2
  have := h3 0 .mark c[0] rfl (by simp)
  cases this
 ·injection h0 with _ h0
  subst h0
  exact ⟨arr, h1, h2, h3⟩
 injection h0 with h0 _
 cases h0
/-- An iterator over a map. -/
theorem Keeps.iter {Ψ : Ty} {w : World} {b mid n : Nat} {seen : List Nat} (h : Keeps Ψ w b [.itst mid n seen]) : ∃ r, w.heap[b]? = some (.mapIter (some r) n seen.toArray n) ∧ Ψ.β[mid]? = some r := by
 rcases h with ⟨c, h1, h2, h3⟩ | ⟨arr, es', h0, h1, h2, h3⟩ | ⟨mid', r, n', seen', h0, h1, h2⟩
 ·simp only [List.length_cons] at h2
  have := h3 0 (.itst mid n seen) c[0] rfl (by simp)
  cases this
 ·injection h0 with h0 _
  cases h0
 injection h0 with h0 _
 injection h0 with e1 e2 e3
 subst e1 e2 e3
 cases h2 with
 | map _ _ hβ => exact ⟨r, h1, hβ⟩
def SzOK (base : Nat) (w : World) (b : Nat) : Sz → Prop
 | .n k => base ≤ b ∧ ∃ c e f, w.heap[b]? = some (.cells c e f) ∧ k ≤ c.size
 | .ty t k => base ≤ b ∧ ∃ c f, w.heap[b]? = some (.cells c t f) ∧ c.size = k
 | .whole c => b < base ∧ ∃ e f, w.heap[b]? = some (.cells c e f)
theorem SzOK.block {base : Nat} {w : World} {b : Nat} {s : Sz} (h : SzOK base w b s) : ∃ c e f, w.heap[b]? = some (.cells c e f) := by
 cases s with
 | n k => obtain ⟨_, c, e, f, h, _⟩ := h; exact ⟨c, e, f, h⟩
 | ty t k => obtain ⟨_, c, f, h, _⟩ := h; exact ⟨c, t, f, h⟩
 | whole c => obtain ⟨_, e, f, h⟩ := h; exact ⟨c, e, f, h⟩
theorem SzOK.of_heap {base : Nat} {w w' : World} {b : Nat} {s : Sz} (h : SzOK base w b s) (e : w'.heap[b]? = w.heap[b]?) : SzOK base w' b s := by
 cases s <;> (simp only [SzOK] at h ⊢; rw [e]; exact h)
theorem SzOK.lt {base : Nat} {w : World} {b : Nat} {s : Sz} (h : SzOK base w b s) : b < w.heap.size := by
 obtain ⟨c, e, f, h⟩ := h.block
 exact (Array.getElem?_eq_some_iff.1 h).1
theorem SzOK.ne {base : Nat} {w : World} {b r : Nat} {s : Sz} {o : Obj} (h : SzOK base w b s) (hr : w.heap[r]? = some o) (ho : ∀ c e f, o ≠ .cells c e f) : b ≠ r := by
 rintro rfl
 obtain ⟨c, e, f, h⟩ := h.block
 rw [hr] at h
 injection h with h
 exact ho _ _ _ h
/-- The row is written anew. -/
theorem SzOK.rewrite {base : Nat} {w w' : World} {b : Nat} {s : Sz} (h : SzOK base w b s) (h0 : base ≤ b) {c c' : Array Value} {e : TypeId} {f f' : Nat × Nat} (h1 : w.heap[b]? = some (.cells c e f)) (h2 : w'.heap[b]? = some (.cells c' e f')) (h3 : c'.size = c.size) : SzOK base w' b s := by
 cases s with
 | n k =>
  obtain ⟨a, c2, e2, f2, g, g2⟩ := h
  rw [h1] at g
  injection g with g
  injection g with g1 _ _
  subst g1
  exact ⟨a, c', e, f', h2, by omega⟩
 | ty t k =>
  obtain ⟨a, c2, f2, g, g2⟩ := h
  rw [h1] at g
  injection g with g
  injection g with g1 ge _
  subst g1 ge
  exact ⟨a, c', f', h2, by omega⟩
 | whole c2 => exact absurd h.1 (by omega)
theorem Keeps.blk {Ψ : Ty} {w : World} {b : Nat} {cs : List PV} {base k : Nat} (h : Keeps Ψ w b cs) (h2 : SzOK base w b (.n k)) : ∃ c, blockIs w b c ∧ k ≤ c.size := by
 obtain ⟨_, c, e, f, g, g2⟩ := h2
 rcases h with ⟨c', ⟨t, h1⟩, _⟩ | ⟨arr, es, _, h1, _⟩ | ⟨mid, r, n, seen, _, h1, _⟩ <;> (rw [g] at h1; injection h1 with h1)
 ·injection h1 with g1 g3 g4
  subst g1 g3 g4
  exact ⟨c, ⟨e, g⟩, g2⟩
 ·cases h1
 cases h1
structure SR (Ψ : Ty) (σ : Sg) (w : World) : Prop where
 base : Ψ.base ≤ w.heap.size
 imm : ∀ b o v, Ψ.imm b o = some v → w.cell? ⟨b, o, none⟩ = some v
 blen : Ψ.β.length = σ.store.length
 block : ∀ (id : Nat) (cs : List PV) (b : Nat), σ.store[id]? = some (some cs) → Ψ.β[id]? = some b →
  Ψ.base ≤ b ∧ (∀ o, Ψ.imm b o = none) ∧ Keeps Ψ w b cs
 apart : ∀ (id id' : Nat) (cs cs' : List PV) (b : Nat), σ.store[id]? = some (some cs) → σ.store[id']? = some (some cs') → Ψ.β[id]? = some b → Ψ.β[id']? = some b → id = id'
 room : ∀ (r n b e c es : Nat), σ.rooms[r]? = some n → Ψ.hist r n = some (some (b, e, c, es)) → e < c →
  Ψ.base ≤ b ∧ (∀ o, e ≤ o → o < c → Ψ.imm b o = none) ∧ (∀ id : Nat, Ψ.β[id]? = some b → ∀ cs, σ.store[id]? ≠ some (some cs)) ∧ ∃ cc, blockIs w b cc ∧ c ≤ cc.size
 roomsApart : ∀ (r n r' n' b e c es e' c' es' : Nat), σ.rooms[r]? = some n → σ.rooms[r']? = some n' → r ≠ r' → Ψ.hist r n = some (some (b, e, c, es)) → Ψ.hist r' n' = some (some (b, e', c', es')) → ∀ o, e ≤ o → o < c → e' ≤ o → ¬ o < c'
 histlt : ∀ r n x, Ψ.hist r n = some x → r < σ.rooms.length
 histle : ∀ (r m n : Nat) x, Ψ.hist r m = some x → σ.rooms[r]? = some n → m ≤ n
 βlt : ∀ (id b : Nat), Ψ.β[id]? = some b → b < w.heap.size
 yok : ∀ (y l : Nat) (d : Loop) (s : LState), Ψ.ys[y]? = some (l, d) → σ.ys[y]? = some s → Ψ.base ≤ l ∧ d.defers ∈ Ψ.ds ∧ w.heap[l]? = some (.loop (s.record d))
 ylen' : Ψ.ys.length = σ.ys.length ∧ ∀ (y y' l : Nat) (r r' : Loop), Ψ.ys[y]? = some (l, r) → Ψ.ys[y']? = some (l, r') → y = y'
 dok : ∀ d, d ∈ Ψ.ds → Ψ.base ≤ d ∧ w.heap[d]? = some (.deferred (some []))
 rok : ∀ b c, (b, c) ∈ Ψ.rs → Ψ.base ≤ b ∧ (∀ o, Ψ.imm b o = none) ∧ (∀ id : Nat, Ψ.β[id]? = some b → ∀ cs, σ.store[id]? ≠ some (some cs)) ∧
  (∀ (r n e cc es : Nat), σ.rooms[r]? = some n → Ψ.hist r n = some (some (b, e, cc, es)) → cc ≤ e) ∧ blockIs w b c
 szok : ∀ b s, (b, s) ∈ Ψ.sz → SzOK Ψ.base w b s
theorem SR.ylen {Ψ : Ty} {σ : Sg} {w : World} (h : SR Ψ σ w) : Ψ.ys.length = σ.ys.length := h.ylen'.1
theorem cell_eq (w : World) (b o : Nat) : w.cell? ⟨b, o, none⟩ = match w.heap[b]? with | some (.cells c _ _) => c[o]? | _ => none := by
 simp only [World.cell?]
 cases w.heap[b]? with
 | none => rfl
 | some o => cases o <;> rfl
theorem cell_lt {w : World} {b o : Nat} {v : Value} (h : w.cell? ⟨b, o, none⟩ = some v) : b < w.heap.size := by
 rcases Nat.lt_or_ge b w.heap.size with k | k
 ·exact k
 simp [World.cell?, Array.getElem?_eq_none k] at h
theorem heap_lt {w : World} {b : Nat} {o : Obj} (h : w.heap[b]? = some o) : b < w.heap.size := (Array.getElem?_eq_some_iff.1 h).1
theorem heap_alloc (w : World) (o : Obj) (b : Nat) : (w.alloc o).heap[b]? = if b = w.heap.size then some o else w.heap[b]? := by
 show (w.heap.push o)[b]? = _
 rw [Array.getElem?_push]
theorem heap_alloc_old {w : World} (o : Obj) {b : Nat} (h : b < w.heap.size) : (w.alloc o).heap[b]? = w.heap[b]? := by
 rw [heap_alloc, if_neg (by omega)]
theorem heap_alloc_new (w : World) (o : Obj) : (w.alloc o).heap[w.heap.size]? = some o := by rw [heap_alloc, if_pos rfl]
theorem cell_alloc {w : World} (o : Obj) {b i : Nat} {v : Value} (h : w.cell? ⟨b, i, none⟩ = some v) : (w.alloc o).cell? ⟨b, i, none⟩ = some v := by
 rw [cell_eq, heap_alloc_old o (cell_lt h), ← cell_eq]; exact h
theorem blockIs.cell {w : World} {b : Nat} {c : Array Value} (h : blockIs w b c) (o : Nat) : w.cell? ⟨b, o, none⟩ = c[o]? := by
 obtain ⟨e, he⟩ := h
 rw [cell_eq, he]
theorem blockIs.free {w : World} {b : Nat} {c : Array Value} (h : blockIs w b c) (o : Nat) : w.frozen? ⟨b, o, none⟩ = false := by
 obtain ⟨e, he⟩ := h
 simp [World.frozen?, he]
theorem blockIs.lt {w : World} {b : Nat} {c : Array Value} (h : blockIs w b c) : b < w.heap.size := by
 obtain ⟨e, he⟩ := h
 exact heap_lt he
theorem blockIs.eq {w : World} {b : Nat} {c c' : Array Value} (h : blockIs w b c) (h' : blockIs w b c') : c = c' := by
 obtain ⟨e, he⟩ := h
 obtain ⟨e', he'⟩ := h'
 rw [he] at he'
 injection he' with he'
 injection he'
theorem blockIs.of_heap {w w' : World} {b : Nat} {c : Array Value} (h : blockIs w b c) (e : w'.heap[b]? = w.heap[b]?) : blockIs w' b c := by
 obtain ⟨t, ht⟩ := h
 exact ⟨t, e.trans ht⟩
theorem blockIs.alloc {w : World} {b : Nat} {c : Array Value} (h : blockIs w b c) (o : Obj) : blockIs (w.alloc o) b c :=
 h.of_heap (heap_alloc_old o h.lt)
theorem SR.heap {Ψ : Ty} {σ : Sg} {w w' : World} (h : SR Ψ σ w) (e : w'.heap = w.heap) : SR Ψ σ w' := by
 have hc : ∀ b o, w'.cell? ⟨b, o, none⟩ = w.cell? ⟨b, o, none⟩ := fun b o => by rw [cell_eq, cell_eq, e]
 have hb : ∀ b c, blockIs w b c → blockIs w' b c := fun b c k => k.of_heap (by rw [e])
 refine ⟨by rw [e]; exact h.base, fun b o v k => by rw [hc]; exact h.imm b o v k, h.blen, ?_, h.apart, ?_, h.roomsApart, ?_, h.histle, ?_, ?_, h.ylen', ?_, ?_, ?_⟩
 ·intro id cs b k1 k2
  obtain ⟨a1, a2, a3⟩ := h.block id cs b k1 k2
  exact ⟨a1, a2, a3.of_heap (by rw [e])⟩
 ·intro r n b e' c es k hx hlt
  obtain ⟨a1, a2, a3, cc, a4, a5⟩ := h.room r n b e' c es k hx hlt
  exact ⟨a1, a2, a3, cc, hb _ _ a4, a5⟩
 ·exact h.histlt
 ·intro id b k; rw [e]; exact h.βlt id b k
 ·intro y l d s k1 k2; rw [e]; exact h.yok y l d s k1 k2
 ·intro d k; rw [e]; exact h.dok d k
 ·intro b c k
  obtain ⟨a1, a2, a3, a4, a5⟩ := h.rok b c k
  exact ⟨a1, a2, a3, a4, hb _ _ a5⟩
 intro b n k
 exact (h.szok b n k).of_heap (by rw [e])
theorem SR.drew {Ψ : Ty} {σ : Sg} {w : World} (h : SR Ψ σ w) : SR Ψ σ w.drew := h.heap rfl
theorem SR.alloc {Ψ : Ty} {σ : Sg} {w : World} (h : SR Ψ σ w) (o : Obj) : SR Ψ σ (w.alloc o) := by
 refine ⟨by rw [World.size_alloc]; have := h.base; omega, fun b i v k => cell_alloc o (h.imm b i v k), h.blen, ?_, h.apart, ?_, h.roomsApart, ?_, h.histle, ?_, ?_, h.ylen', ?_, ?_, ?_⟩
 ·intro id cs b k1 k2
  obtain ⟨a1, a2, a3⟩ := h.block id cs b k1 k2
  exact ⟨a1, a2, a3.of_heap (heap_alloc_old o a3.lt)⟩
 ·intro r n b e' c es k hx hlt
  obtain ⟨a1, a2, a3, cc, a4, a5⟩ := h.room r n b e' c es k hx hlt
  exact ⟨a1, a2, a3, cc, a4.alloc o, a5⟩
 ·exact h.histlt
 ·intro id b k
  have := h.βlt id b k
  rw [World.size_alloc]; omega
 ·intro y l d s k1 k2
  obtain ⟨a1, a0, a2⟩ := h.yok y l d s k1 k2
  exact ⟨a1, a0, by rw [heap_alloc_old o (heap_lt a2)]; exact a2⟩
 ·intro d k
  obtain ⟨a1, a2⟩ := h.dok d k
  exact ⟨a1, by rw [heap_alloc_old o (heap_lt a2)]; exact a2⟩
 ·intro b c k
  obtain ⟨a1, a2, a3, a4, a5⟩ := h.rok b c k
  exact ⟨a1, a2, a3, a4, a5.alloc o⟩
 intro b n k
 exact (h.szok b n k).of_heap (heap_alloc_old o (h.szok b n k).lt)
/-- A block of which nothing is known yet. -/
structure Fresh (Ψ : Ty) (σ : Sg) (b : Nat) : Prop where
 imm : ∀ o, Ψ.imm b o = none
 β : ∀ id : Nat, Ψ.β[id]? ≠ some b
 hist : ∀ (r n e c es : Nat), σ.rooms[r]? = some n → Ψ.hist r n = some (some (b, e, c, es)) → c ≤ e
 rs : ∀ c, (b, c) ∉ Ψ.rs
theorem SR.fresh {Ψ : Ty} {σ : Sg} {w : World} (h : SR Ψ σ w) : Fresh Ψ σ w.heap.size := by
 refine ⟨fun o => ?_, fun id k => ?_, fun r n e c es k0 k => ?_, fun c k => absurd (h.rok _ c k).2.2.2.2.lt (Nat.lt_irrefl _)⟩
 ·cases k : Ψ.imm w.heap.size o with
  | none => rfl
  | some v => exact absurd (cell_lt (h.imm _ _ _ k)) (Nat.lt_irrefl _)
 ·exact absurd (h.βlt _ _ k) (Nat.lt_irrefl _)
 rcases Nat.lt_or_ge e c with hlt | hge
 ·obtain ⟨_, _, _, cc, a4, _⟩ := h.room r n _ e c es k0 k hlt
  exact absurd a4.lt (Nat.lt_irrefl _)
 exact hge
/-- The first k cells of block b are never written again. -/
def Ty.addImm (Ψ : Ty) (b lo hi : Nat) (c : Array Value) : Ty :=
 { Ψ with imm := fun b' o => if b' = b ∧ lo ≤ o ∧ o < hi then c[o]? else Ψ.imm b' o }
theorem Ty.addImm_le {Ψ : Ty} {b lo hi : Nat} {c : Array Value} (h : ∀ o, lo ≤ o → o < hi → Ψ.imm b o = none) : Ψ.le (Ψ.addImm b lo hi c) := by
 refine ⟨rfl, fun b' o v k => ?_, fun _ _ k => k, fun _ _ _ k => k, fun _ _ k => k, fun _ k => k, fun _ k => k, fun _ k => k⟩
 simp only [Ty.addImm]
 rw [if_neg]
 ·exact k
 rintro ⟨rfl, h1, h2⟩
 rw [h o h1 h2] at k
 cases k
theorem SR.addImm {Ψ : Ty} {σ : Sg} {w : World} (h : SR Ψ σ w) {b lo hi : Nat} {c : Array Value} (hb : blockIs w b c)
 (h0 : ∀ o, lo ≤ o → o < hi → Ψ.imm b o = none) (h1 : ∀ id : Nat, Ψ.β[id]? = some b → ∀ cs, σ.store[id]? ≠ some (some cs))
 (h2 : ∀ (r n e cc es : Nat), σ.rooms[r]? = some n → Ψ.hist r n = some (some (b, e, cc, es)) → ∀ o, e ≤ o → o < cc → lo ≤ o → ¬ o < hi) (h3 : ∀ c, (b, c) ∉ Ψ.rs) :
 SR (Ψ.addImm b lo hi c) σ w := by
 have le := Ty.addImm_le (c := c) h0
 refine ⟨h.base, fun b' o v k => ?_, h.blen, ?_, h.apart, ?_, h.roomsApart, h.histlt, h.histle, h.βlt, h.yok, h.ylen', h.dok, ?_, h.szok⟩
 ·simp only [Ty.addImm] at k
  split at k
  ·rename_i hh; obtain ⟨rfl, _, _⟩ := hh
   rw [hb.cell]; exact k
  exact h.imm b' o v k
 ·intro id cs b' k1 k2
  obtain ⟨a1, a2, a3⟩ := h.block id cs b' k1 k2
  refine ⟨a1, fun o => ?_, a3.mono le⟩
  simp only [Ty.addImm]
  rw [if_neg]
  ·exact a2 o
  rintro ⟨rfl, _, _⟩
  exact h1 id k2 cs k1
 ·intro r n b' e' c' es k hx hlt
  obtain ⟨a1, a2, a3, cc, a4, a5⟩ := h.room r n b' e' c' es k hx hlt
  refine ⟨a1, fun o x1 x2 => ?_, a3, cc, a4, a5⟩
  simp only [Ty.addImm]
  rw [if_neg]
  ·exact a2 o x1 x2
  rintro ⟨rfl, y1, y2⟩
  exact h2 r n e' c' es k hx o x1 x2 y1 y2
 intro b' c' k
 obtain ⟨a1, a2, a3⟩ := h.rok b' c' k
 refine ⟨a1, fun o => ?_, a3⟩
 simp only [Ty.addImm]
 rw [if_neg]
 ·exact a2 o
 rintro ⟨rfl, _, _⟩
 exact h3 c' k
/-- A new block, of which the first k cells are never written again. -/
theorem SR.newImm {Ψ : Ty} {σ : Sg} {w : World} (h : SR Ψ σ w) (c : Array Value) (e : TypeId) (k : Nat) :
 Ψ.le (Ψ.addImm w.heap.size 0 k c) ∧ SR (Ψ.addImm w.heap.size 0 k c) σ (w.alloc (.cells c e)) := by
 have hf := h.fresh
 refine ⟨Ty.addImm_le fun o _ _ => hf.imm o, ?_⟩
 exact (h.alloc (.cells c e)).addImm ⟨e, heap_alloc_new w _⟩ (fun o _ _ => hf.imm o) (fun id k' => absurd k' (hf.β id))
  (fun r n e' cc es k0 k' o h1 h2 => by have := hf.hist r n e' cc es k0 k'; omega) hf.rs
theorem getElem?_snoc {α : Type} {l : List α} {a y : α} {i : Nat} (h : (l ++ [a])[i]? = some y) : (i < l.length ∧ l[i]? = some y) ∨ (i = l.length ∧ y = a) := by
 by_cases hi : i < l.length
 ·rw [List.getElem?_append_left hi] at h; exact .inl ⟨hi, h⟩
 have hlt : i < (l ++ [a]).length := (List.getElem?_eq_some_iff.1 h).1
 simp at hlt
 have : i = l.length := by omega
 subst this
 rw [List.getElem?_append_right (Nat.le_refl _)] at h
 simp at h
 exact .inr ⟨rfl, h.symm⟩
/-- A new variable. -/
def Ty.addVar (Ψ : Ty) (b : Nat) : Ty := { Ψ with β := Ψ.β ++ [b], sz := (b, .n 0) :: Ψ.sz }
theorem Ty.addVar_le (Ψ : Ty) (b : Nat) : Ψ.le (Ψ.addVar b) := by
 refine ⟨rfl, fun _ _ _ k => k, fun i x k => ?_, fun _ _ _ k => k, fun _ _ k => k, fun _ k => k, fun _ k => k, fun _ k => List.mem_cons_of_mem _ k⟩
 simp only [Ty.addVar]
 rw [List.getElem?_append_left (List.getElem?_eq_some_iff.1 k).1]; exact k
def Sg.push (σ : Sg) (cs : List PV) : Sg := { σ with store := σ.store ++ [some cs] }
theorem SR.newVar {Ψ : Ty} {σ : Sg} {w : World} (h : SR Ψ σ w) (c : Array Value) (e : TypeId) (cs : List PV)
 (hl : cs.length ≤ c.size) (hv : ∀ (j : Nat) (p : PV) (v : Value), cs[j]? = some p → c[j]? = some v → VR Ψ p v) :
 Ψ.le (Ψ.addVar w.heap.size) ∧ SR (Ψ.addVar w.heap.size) (σ.push cs) (w.alloc (.cells c e)) := by
 have hf := h.fresh
 have le := Ty.addVar_le Ψ w.heap.size
 have h' := h.alloc (.cells c e)
 refine ⟨le, ⟨h'.base, h'.imm, by simp [Ty.addVar, Sg.push, h.blen], ?_, ?_, ?_, h'.roomsApart, h'.histlt, h'.histle, ?_, h'.yok, h'.ylen', h'.dok, ?_, ?_⟩⟩
 ·intro id cs' b k1 k2
  simp only [Sg.push] at k1
  simp only [Ty.addVar] at k2
  by_cases hid : id < σ.store.length
  ·rw [List.getElem?_append_left hid] at k1
   rw [List.getElem?_append_left (by rw [h.blen]; exact hid)] at k2
   obtain ⟨a1, a2, a3⟩ := h'.block id cs' b k1 k2
   exact ⟨a1, a2, a3.mono le⟩
  rw [List.getElem?_append_right (by omega)] at k1
  rw [List.getElem?_append_right (by rw [h.blen]; omega)] at k2
  have e0 : id - σ.store.length = 0 := by
   rcases Nat.eq_zero_or_pos (id - σ.store.length) with z | z
   ·exact z
   rw [List.getElem?_eq_none (by simp; omega)] at k1; cases k1
  rw [e0] at k1
  rw [h.blen, e0] at k2
  simp at k1 k2
  subst k1 k2
  exact ⟨h.base, hf.imm, .inl ⟨c, ⟨e, heap_alloc_new w _⟩, hl, fun j p v x y => (hv j p v x y).mono le⟩⟩
 ·intro id id' cs1 cs2 b k1 k2 k3 k4
  simp only [Sg.push] at k1 k2
  simp only [Ty.addVar] at k3 k4
  have hlt1 : id < σ.store.length + 1 := by have := (List.getElem?_eq_some_iff.1 k1).1; simpa using this
  have hlt2 : id' < σ.store.length + 1 := by have := (List.getElem?_eq_some_iff.1 k2).1; simpa using this
  by_cases hid : id < σ.store.length
  ·by_cases hid' : id' < σ.store.length
   ·rw [List.getElem?_append_left hid] at k1
    rw [List.getElem?_append_left hid'] at k2
    rw [List.getElem?_append_left (by rw [h.blen]; exact hid)] at k3
    rw [List.getElem?_append_left (by rw [h.blen]; exact hid')] at k4
    exact h.apart id id' cs1 cs2 b k1 k2 k3 k4
   rw [List.getElem?_append_left (by rw [h.blen]; exact hid)] at k3
   rw [List.getElem?_append_right (by rw [h.blen]; omega), h.blen, show id' - σ.store.length = 0 by omega] at k4
   simp at k4
   subst k4
   exact absurd k3 (hf.β id)
  by_cases hid' : id' < σ.store.length
  ·rw [List.getElem?_append_left (by rw [h.blen]; exact hid')] at k4
   rw [List.getElem?_append_right (by rw [h.blen]; omega), h.blen, show id - σ.store.length = 0 by omega] at k3
   simp at k3
   subst k3
   exact absurd k4 (hf.β id')
  omega
 ·intro r n b e' c' es k hx hlt
  obtain ⟨a1, a2, a3, cc, a4, a5⟩ := h'.room r n b e' c' es k hx hlt
  refine ⟨a1, a2, fun id k1 cs' k2 => ?_, cc, a4, a5⟩
  simp only [Sg.push] at k2
  simp only [Ty.addVar] at k1
  by_cases hid : id < σ.store.length
  ·rw [List.getElem?_append_left hid] at k2
   rw [List.getElem?_append_left (by rw [h.blen]; exact hid)] at k1
   exact a3 id k1 cs' k2
  have hlt1 : id < σ.store.length + 1 := by have := (List.getElem?_eq_some_iff.1 k2).1; simpa using this
  rw [List.getElem?_append_right (by rw [h.blen]; omega), h.blen, show id - σ.store.length = 0 by omega] at k1
  simp at k1
  subst k1
  have := hf.hist r n e' c' es k hx
  omega
 ·intro id b k
  simp only [Ty.addVar] at k
  rw [World.size_alloc]
  by_cases hid : id < Ψ.β.length
  ·rw [List.getElem?_append_left hid] at k
   have := h.βlt id b k
   omega
  rw [List.getElem?_append_right (by omega)] at k
  have hlt1 : id - Ψ.β.length < 1 := by have := (List.getElem?_eq_some_iff.1 k).1; simpa using this
  rw [show id - Ψ.β.length = 0 by omega] at k
  simp at k
  omega
 ·intro b' c' k
  obtain ⟨a1, a2, a3, a4, a5⟩ := h'.rok b' c' k
  refine ⟨a1, a2, fun id k1 cs' k2 => ?_, a4, a5⟩
  simp only [Sg.push] at k2
  simp only [Ty.addVar] at k1
  rcases getElem?_snoc k1 with ⟨hid, k1⟩ | ⟨_, rfl⟩
  ·rw [List.getElem?_append_left (by rw [← h.blen]; exact hid)] at k2
   exact a3 id k1 cs' k2
  exact hf.rs c' k
 intro b n k
 rcases List.mem_cons.1 k with k | k
 ·injection k with k1 k2
  subst k1 k2
  exact ⟨h.base, c, e, _, heap_alloc_new w _, Nat.zero_le _⟩
 exact h'.szok b n k
theorem heap_setCell (w : World) (b o : Nat) (x : Value) (k : Nat) (h : k ≠ b) : (w.setCell ⟨b, o, none⟩ x).heap[k]? = w.heap[k]? :=
 Below.heap_setCell w ⟨b, o, none⟩ x k h
theorem size_setCell (w : World) (a : Addr) (x : Value) : (w.setCell a x).heap.size = w.heap.size := by simp [World.setCell]
theorem blockIs.setCell {w : World} {b : Nat} {c : Array Value} (h : blockIs w b c) (o : Nat) (x : Value) : blockIs (w.setCell ⟨b, o, none⟩ x) b (c.setIfInBounds o x) := by
 obtain ⟨e, he⟩ := h
 refine ⟨e, ?_⟩
 simp [World.setCell, Array.getElem?_modify, he]
theorem blockIs.setCell_other {w : World} {b b' : Nat} {c : Array Value} (h : blockIs w b' c) (hne : b' ≠ b) (o : Nat) (x : Value) : blockIs (w.setCell ⟨b, o, none⟩ x) b' c :=
 h.of_heap (heap_setCell w b o x b' hne)
theorem not_cells_ne {w : World} {b k : Nat} {c : Array Value} {o : Obj} (hb : blockIs w b c) (hk : w.heap[k]? = some o) (ho : ∀ c e f, o ≠ .cells c e f) : k ≠ b := by
 rintro rfl
 obtain ⟨e, he⟩ := hb
 rw [he] at hk
 injection hk with hk
 exact ho _ _ _ hk.symm
/-- A store into a block that is no part of what is never written again. -/
theorem SR.write {Ψ : Ty} {σ σ' : Sg} {w : World} (h : SR Ψ σ w) {b o : Nat} {x : Value} {c : Array Value} (hb : blockIs w b c) (h00 : Ψ.base ≤ b)
 (h0 : Ψ.imm b o = none) (hrs : ∀ c, (b, c) ∉ Ψ.rs) (hr : σ'.rooms = σ.rooms) (hy : σ'.ys = σ.ys) (hl : σ'.store.length = σ.store.length)
 (h1 : ∀ (id : Nat) (cs : List PV), σ'.store[id]? = some (some cs) → ∃ cs0, σ.store[id]? = some (some cs0) ∧ ((cs = cs0 ∧ Ψ.β[id]? ≠ some b) ∨
  (Ψ.β[id]? = some b ∧ cs.length = cs0.length ∧ ∀ (j : Nat) (p : PV) (v : Value), cs[j]? = some p → (c.setIfInBounds o x)[j]? = some v → VR Ψ p v)))
 : SR Ψ σ' (w.setCell ⟨b, o, none⟩ x) := by
 have hc : ∀ k v, ∀ b', Ψ.imm b' k = some v → (w.setCell ⟨b, o, none⟩ x).cell? ⟨b', k, none⟩ = some v := by
  intro k v b' hk
  rw [World.cell?_setCell_other]
  ·exact h.imm _ _ _ hk
  intro e
  injection e with e1 e2
  subst e1 e2
  rw [h0] at hk; cases hk
 refine ⟨by rw [size_setCell]; exact h.base, fun b' k v hk => hc k v b' hk, by rw [h.blen, hl], ?_, ?_, ?_, ?_, ?_, ?_, ?_, ?_, ?_, ?_, ?_, ?_⟩
 ·intro id cs b' k1 k2
  obtain ⟨cs0, k3, hh⟩ := h1 id cs k1
  obtain ⟨a1, a2, a3⟩ := h.block id cs0 b' k3 k2
  rcases hh with ⟨rfl, hne⟩ | ⟨hβ, hlen, hv⟩
  ·have hne' : b' ≠ b := fun e => hne (e ▸ k2)
   exact ⟨a1, a2, a3.of_heap (heap_setCell _ _ _ _ _ hne')⟩
  have hbb : b' = b := by rw [k2] at hβ; injection hβ
  subst hbb
  obtain ⟨a4, _⟩ := a3.cells hb
  exact ⟨a1, a2, .inl ⟨_, hb.setCell o x, by simpa using (hlen ▸ a4), hv⟩⟩
 ·intro id id' cs cs' b' k1 k2 k3 k4
  obtain ⟨cs0, k5, _⟩ := h1 id cs k1
  obtain ⟨cs1, k6, _⟩ := h1 id' cs' k2
  exact h.apart id id' cs0 cs1 b' k5 k6 k3 k4
 ·intro r n b' e' c' es k hx hlt
  rw [hr] at k
  obtain ⟨a1, a2, a3, cc, a4, a5⟩ := h.room r n b' e' c' es k hx hlt
  refine ⟨a1, a2, fun id k1 cs k2 => ?_, ?_⟩
  ·obtain ⟨cs0, k3, _⟩ := h1 id cs k2
   exact a3 id k1 cs0 k3
  by_cases hbb : b' = b
  ·subst hbb
   have := a4.eq hb
   subst this
   exact ⟨_, hb.setCell o x, by simpa using a5⟩
  exact ⟨cc, a4.setCell_other hbb o x, a5⟩
 ·intro r n r' n' b' e c1 es e' c' es' k1 k2
  rw [hr] at k1 k2
  exact h.roomsApart r n r' n' b' e c1 es e' c' es' k1 k2
 ·intro r n y k; rw [hr]; exact h.histlt r n y k
 ·intro r m n y k k2; rw [hr] at k2; exact h.histle r m n y k k2
 ·intro id b' k; rw [size_setCell]; exact h.βlt id b' k
 ·intro y l d s k1 k2
  rw [hy] at k2
  obtain ⟨a1, a0, a2⟩ := h.yok y l d s k1 k2
  exact ⟨a1, a0, by rw [heap_setCell _ _ _ _ _ (not_cells_ne hb a2 (by intros; simp))]; exact a2⟩
 ·rw [hy]; exact h.ylen'
 ·intro d k
  obtain ⟨a1, a2⟩ := h.dok d k
  exact ⟨a1, by rw [heap_setCell _ _ _ _ _ (not_cells_ne hb a2 (by intros; simp))]; exact a2⟩
 ·intro b' c' k
  obtain ⟨a1, a2, a3, a4, a5⟩ := h.rok b' c' k
  refine ⟨a1, a2, fun id k1 cs k2 => ?_, fun r n e cc es k1 => ?_, ?_⟩
  ·obtain ⟨cs0, k3, _⟩ := h1 id cs k2
   exact a3 id k1 cs0 k3
  ·rw [hr] at k1
   exact a4 r n e cc es k1
  exact a5.setCell_other (by rintro rfl; exact hrs c' k) o x
 intro b' n k
 by_cases hbb : b' = b
 ·subst hbb
  obtain ⟨e1, g1⟩ := hb
  obtain ⟨e2, g2⟩ := blockIs.setCell ⟨e1, g1⟩ o x
  have : e2 = e1 := by
   have h3 : (w.setCell ⟨b', o, none⟩ x).heap[b']? = some (.cells (c.setIfInBounds o x) e1 (0, 0)) := by
    simp [World.setCell, Array.getElem?_modify, g1]
   rw [h3] at g2; injection g2 with g2; injection g2 with _ g2 _; exact g2.symm
  subst this
  exact (h.szok b' n k).rewrite h00 g1 g2 (by simp)
 exact (h.szok b' n k).of_heap (heap_setCell _ _ _ _ _ hbb)
/-- The variable's cells set anew. -/
def Sg.setVar (σ : Sg) (id : Nat) (cs : List PV) : Sg := { σ with store := σ.store.set id (some cs) }
theorem SR.setVar {Ψ : Ty} {σ : Sg} {w : World} (h : SR Ψ σ w) {id b off : Nat} {cs : List PV} {p : PV} {x : Value}
 (k1 : σ.store[id]? = some (some cs)) (k2 : Ψ.β[id]? = some b) (hz : (b, .n 0) ∈ Ψ.sz) (hp : VR Ψ p x) :
 SR Ψ (σ.setVar id (cs.set off p)) (w.setCell ⟨b, off, none⟩ x) := by
 obtain ⟨a1, a2, a0⟩ := h.block id cs b k1 k2
 obtain ⟨c, a3, _⟩ := a0.blk (h.szok b _ hz)
 obtain ⟨a4, a5⟩ := a0.cells a3
 have hid : id < σ.store.length := (List.getElem?_eq_some_iff.1 k1).1
 refine h.write a3 a1 (a2 off) (fun c' k => (h.rok b c' k).2.2.1 id k2 cs k1) rfl rfl (by simp [Sg.setVar]) ?_
 intro id' cs' k3
 simp only [Sg.setVar] at k3
 by_cases he : id' = id
 ·subst he
  rw [List.getElem?_set_self hid] at k3
  injection k3 with k3
  injection k3 with k3
  subst k3
  refine ⟨cs, k1, .inr ⟨k2, by simp, fun j q v h1 h2 => ?_⟩⟩
  by_cases hj : j = off
  ·subst hj
   by_cases hlt : j < cs.length
   ·rw [List.getElem?_set_self hlt] at h1
    rw [Array.getElem?_setIfInBounds_self_of_lt (by omega)] at h2
    injection h1 with h1; injection h2 with h2
    subst h1 h2; exact hp
   rw [List.getElem?_eq_none (by simpa using hlt)] at h1; cases h1
  rw [List.getElem?_set_ne (by omega)] at h1
  rw [Array.getElem?_setIfInBounds_ne (by omega)] at h2
  exact a5 j q v h1 h2
 rw [List.getElem?_set_ne (by omega)] at k3
 exact ⟨cs', k3, .inl ⟨rfl, fun e => he (h.apart id' id cs' cs b k3 k1 e k2)⟩⟩
/-- A store into a room. -/
theorem SR.setRoom {Ψ : Ty} {σ : Sg} {w : World} (h : SR Ψ σ w) {r n b e c es o : Nat} {x : Value}
 (k1 : σ.rooms[r]? = some n) (k2 : Ψ.hist r n = some (some (b, e, c, es))) (ho : e ≤ o) (ho' : o < c) :
 SR Ψ σ (w.setCell ⟨b, o, none⟩ x) := by
 obtain ⟨a1, a2, a3, cc, a4, a5⟩ := h.room r n b e c es k1 k2 (by omega)
 refine h.write a4 a1 (a2 o ho ho') (fun c' k => by have := (h.rok b c' k).2.2.2.1 r n e c es k1 k2; omega) rfl rfl rfl ?_
 intro id cs k
 exact ⟨cs, k, .inl ⟨rfl, fun k' => a3 id k' cs k⟩⟩
def Ty.addHist (Ψ : Ty) (r n : Nat) (x : Option (Nat × Nat × Nat × Nat)) : Ty :=
 { Ψ with hist := fun r' n' => if r' = r ∧ n' = n then some x else Ψ.hist r' n' }
theorem Ty.addHist_le {Ψ : Ty} {r n : Nat} {x : Option (Nat × Nat × Nat × Nat)} (h : Ψ.hist r n = none) : Ψ.le (Ψ.addHist r n x) := by
 refine ⟨rfl, fun _ _ _ k => k, fun _ _ k => k, fun r' n' y k => ?_, fun _ _ k => k, fun _ k => k, fun _ k => k, fun _ k => k⟩
 simp only [Ty.addHist]
 rw [if_neg]
 ·exact k
 rintro ⟨rfl, rfl⟩; rw [h] at k; cases k
def Sg.setRoom (σ : Sg) (r n : Nat) : Sg := { σ with rooms := σ.rooms.set r n }
def Sg.pushRoom (σ : Sg) (n : Nat) : Sg := { σ with rooms := σ.rooms ++ [n] }
theorem SR.hist_new {Ψ : Ty} {σ : Sg} {w : World} (h : SR Ψ σ w) (n : Nat) : Ψ.hist σ.rooms.length n = none := by
 cases k : Ψ.hist σ.rooms.length n with
 | none => rfl
 | some x => exact absurd (h.histlt _ _ _ k) (Nat.lt_irrefl _)
/-- A new room: none, or the cells from e to c of a block that nobody else writes. -/
theorem SR.newRoom {Ψ : Ty} {σ : Sg} {w : World} (h : SR Ψ σ w) (n : Nat) (x : Option (Nat × Nat × Nat × Nat))
 (hx : ∀ b e c es, x = some (b, e, c, es) → e < c → Ψ.base ≤ b ∧ (∀ o, e ≤ o → o < c → Ψ.imm b o = none) ∧ (∀ id : Nat, Ψ.β[id]? = some b → ∀ cs, σ.store[id]? ≠ some (some cs)) ∧ (∃ cc, blockIs w b cc ∧ c ≤ cc.size) ∧ (∀ c, (b, c) ∉ Ψ.rs) ∧
  ∀ (r' n' e' c' es' : Nat), σ.rooms[r']? = some n' → Ψ.hist r' n' = some (some (b, e', c', es')) → ∀ o, e ≤ o → o < c → e' ≤ o → ¬ o < c') :
 Ψ.le (Ψ.addHist σ.rooms.length n x) ∧ SR (Ψ.addHist σ.rooms.length n x) (σ.pushRoom n) w := by
 have le := Ty.addHist_le (x := x) (h.hist_new n)
 have hold : ∀ r m : Nat, r < σ.rooms.length → (Ψ.addHist σ.rooms.length n x).hist r m = Ψ.hist r m := by
  intro r m hr; simp only [Ty.addHist]; rw [if_neg]; rintro ⟨rfl, _⟩; omega
 have hnew : (Ψ.addHist σ.rooms.length n x).hist σ.rooms.length n = some x := by simp [Ty.addHist]
 refine ⟨le, ⟨h.base, h.imm, h.blen, ?_, h.apart, ?_, ?_, ?_, ?_, h.βlt, h.yok, h.ylen', h.dok, ?_, h.szok⟩⟩
 ·intro id cs b k1 k2
  obtain ⟨a1, a2, a3⟩ := h.block id cs b k1 k2
  exact ⟨a1, a2, a3.mono le⟩
 ·intro r m b e c es k kx hlt
  rcases getElem?_snoc k with ⟨hr, k⟩ | ⟨rfl, rfl⟩
  ·rw [hold r m hr] at kx; exact h.room r m b e c es k kx hlt
  rw [hnew] at kx
  injection kx with kx
  obtain ⟨a1, a2, a3, a4, _⟩ := hx b e c es kx hlt
  exact ⟨a1, a2, a3, a4⟩
 ·intro r m r' m' b e c es e' c' es' k1 k2 hne k3 k4
  rcases getElem?_snoc k1 with ⟨hr, q1⟩ | ⟨rfl, rfl⟩
  ·rw [hold r m hr] at k3
   rcases getElem?_snoc k2 with ⟨hr', k2⟩ | ⟨rfl, rfl⟩
   ·rw [hold r' m' hr'] at k4
    exact h.roomsApart r m r' m' b e c es e' c' es' q1 k2 hne k3 k4
   rw [hnew] at k4
   injection k4 with k4
   intro o h1 h2 h3 h4
   obtain ⟨_, _, _, _, _, a⟩ := hx b e' c' es' k4 (by omega)
   exact a r m e c es q1 k3 o h3 h4 h1 h2
  rw [hnew] at k3
  injection k3 with k3
  rcases getElem?_snoc k2 with ⟨hr', k2⟩ | ⟨rfl, rfl⟩
  ·rw [hold r' m' hr'] at k4
   intro o h1 h2 h3 h4
   obtain ⟨_, _, _, _, _, a⟩ := hx b e c es k3 (by omega)
   exact a r' m' e' c' es' k2 k4 o h1 h2 h3 h4
  exact absurd rfl hne
 ·intro r m y k
  simp only [Sg.pushRoom, List.length_append, List.length_cons, List.length_nil]
  by_cases hr : r = σ.rooms.length ∧ m = n
  ·obtain ⟨rfl, rfl⟩ := hr
   rw [hnew] at k
   omega
  simp only [Ty.addHist] at k
  rw [if_neg hr] at k
  have := h.histlt r m y k
  omega
 ·intro r m m' y k k2
  by_cases hr : r = σ.rooms.length ∧ m = n
  ·obtain ⟨rfl, rfl⟩ := hr
   rcases getElem?_snoc k2 with ⟨hr', k2⟩ | ⟨_, rfl⟩
   ·omega
   exact Nat.le_refl _
  simp only [Ty.addHist] at k
  rw [if_neg hr] at k
  have hlt := h.histlt r m y k
  rcases getElem?_snoc k2 with ⟨hr', k2⟩ | ⟨rfl, _⟩
  ·exact h.histle r m m' y k k2
  omega
 intro b c k
 obtain ⟨a1, a2, a3, a4, a5⟩ := h.rok b c k
 refine ⟨a1, a2, a3, fun r m e cc es k1 k3 => ?_, a5⟩
 rcases getElem?_snoc k1 with ⟨hr, q1⟩ | ⟨rfl, rfl⟩
 ·rw [hold r m hr] at k3
  exact a4 r m e cc es q1 k3
 rw [hnew] at k3
 injection k3 with k3
 rcases Nat.lt_or_ge e cc with hlt | hge
 ·exact absurd k ((hx b e cc es k3 hlt).2.2.2.2.1 c)
 exact hge
/-- The room r takes more elements: its place may be another one. -/
theorem SR.moveRoom {Ψ : Ty} {σ : Sg} {w : World} (h : SR Ψ σ w) {r n n' : Nat} (hr : σ.rooms[r]? = some n) (hn : n < n') (x : Option (Nat × Nat × Nat × Nat))
 (hx : ∀ b e c es, x = some (b, e, c, es) → e < c → Ψ.base ≤ b ∧ (∀ o, e ≤ o → o < c → Ψ.imm b o = none) ∧ (∀ id : Nat, Ψ.β[id]? = some b → ∀ cs, σ.store[id]? ≠ some (some cs)) ∧ (∃ cc, blockIs w b cc ∧ c ≤ cc.size) ∧ (∀ c, (b, c) ∉ Ψ.rs) ∧
  ∀ (r' m e' c' es' : Nat), r' ≠ r → σ.rooms[r']? = some m → Ψ.hist r' m = some (some (b, e', c', es')) → ∀ o, e ≤ o → o < c → e' ≤ o → ¬ o < c') :
 Ψ.le (Ψ.addHist r n' x) ∧ SR (Ψ.addHist r n' x) (σ.setRoom r n') w := by
 have hrl : r < σ.rooms.length := (List.getElem?_eq_some_iff.1 hr).1
 have hnone : Ψ.hist r n' = none := by
  cases k : Ψ.hist r n' with
  | none => rfl
  | some y => exact absurd (h.histle r n' n y k hr) (by omega)
 have le := Ty.addHist_le (x := x) hnone
 have hold : ∀ r' m : Nat, r' ≠ r → (Ψ.addHist r n' x).hist r' m = Ψ.hist r' m := by
  intro r' m hr'; simp only [Ty.addHist]; rw [if_neg]; rintro ⟨rfl, _⟩; exact hr' rfl
 have hnew : (Ψ.addHist r n' x).hist r n' = some x := by simp [Ty.addHist]
 have hget : ∀ r' m : Nat, (σ.setRoom r n').rooms[r']? = some m → (r' = r ∧ m = n') ∨ (r' ≠ r ∧ σ.rooms[r']? = some m) := by
  intro r' m k
  simp only [Sg.setRoom] at k
  by_cases he : r' = r
  ·subst he
   rw [List.getElem?_set_self hrl] at k
   injection k with k
   exact .inl ⟨rfl, k.symm⟩
  rw [List.getElem?_set_ne (by omega)] at k
  exact .inr ⟨he, k⟩
 refine ⟨le, ⟨h.base, h.imm, h.blen, ?_, h.apart, ?_, ?_, ?_, ?_, h.βlt, h.yok, h.ylen', h.dok, ?_, h.szok⟩⟩
 ·intro id cs b k1 k2
  obtain ⟨a1, a2, a3⟩ := h.block id cs b k1 k2
  exact ⟨a1, a2, a3.mono le⟩
 ·intro r' m b e c es k kx hlt
  rcases hget r' m k with ⟨rfl, rfl⟩ | ⟨hne, k⟩
  ·rw [hnew] at kx
   injection kx with kx
   obtain ⟨a1, a2, a3, a4, _⟩ := hx b e c es kx hlt
   exact ⟨a1, a2, a3, a4⟩
  rw [hold r' m hne] at kx; exact h.room r' m b e c es k kx hlt
 ·intro r1 m1 r2 m2 b e c es e' c' es' k1 k2 hne k3 k4
  rcases hget r1 m1 k1 with ⟨rfl, rfl⟩ | ⟨hne1, q1⟩
  ·rw [hnew] at k3
   injection k3 with k3
   rcases hget r2 m2 k2 with ⟨rfl, rfl⟩ | ⟨hne2, k2⟩
   ·exact absurd rfl hne
   rw [hold r2 m2 hne2] at k4
   intro o h1 h2 h3 h4
   obtain ⟨_, _, _, _, _, a⟩ := hx b e c es k3 (by omega)
   exact a r2 m2 e' c' es' hne2 k2 k4 o h1 h2 h3 h4
  rw [hold r1 m1 hne1] at k3
  rcases hget r2 m2 k2 with ⟨rfl, rfl⟩ | ⟨hne2, k2⟩
  ·rw [hnew] at k4
   injection k4 with k4
   intro o h1 h2 h3 h4
   obtain ⟨_, _, _, _, _, a⟩ := hx b e' c' es' k4 (by omega)
   exact a r1 m1 e c es hne1 q1 k3 o h3 h4 h1 h2
  rw [hold r2 m2 hne2] at k4
  exact h.roomsApart r1 m1 r2 m2 b e c es e' c' es' q1 k2 hne k3 k4
 ·intro r' m y k
  simp only [Sg.setRoom, List.length_set]
  by_cases hh : r' = r ∧ m = n'
  ·obtain ⟨rfl, rfl⟩ := hh
   rw [hnew] at k
   exact hrl
  simp only [Ty.addHist] at k
  rw [if_neg hh] at k
  exact h.histlt r' m y k
 ·intro r' m m' y k k2
  by_cases hh : r' = r ∧ m = n'
  ·obtain ⟨rfl, rfl⟩ := hh
   rcases hget r' m' k2 with ⟨_, rfl⟩ | ⟨hne, _⟩
   ·exact Nat.le_refl _
   exact absurd rfl hne
  simp only [Ty.addHist] at k
  rw [if_neg hh] at k
  rcases hget r' m' k2 with ⟨rfl, rfl⟩ | ⟨hne, k2⟩
  ·have := h.histle r' m n y k hr
   omega
  exact h.histle r' m m' y k k2
 intro b c k
 obtain ⟨a1, a2, a3, a4, a5⟩ := h.rok b c k
 refine ⟨a1, a2, a3, fun r1 m e cc es k1 k3 => ?_, a5⟩
 rcases hget r1 m k1 with ⟨rfl, rfl⟩ | ⟨hne1, q1⟩
 ·rw [hnew] at k3
  injection k3 with k3
  rcases Nat.lt_or_ge e cc with hlt | hge
  ·exact absurd k ((hx b e cc es k3 hlt).2.2.2.2.1 c)
  exact hge
 rw [hold r1 m hne1] at k3
 exact a4 r1 m e cc es q1 k3
abbrev Env := List (Nat × PV)
def Env.get : Env → Nat → PV
 | [], _ => .undef
 | (k, v) :: r, t => if k = t then v else Env.get r t
def Env.put (E : Env) (d : Option Nat) (v : PV) : Env :=
 match d with
 | some d => (d, v) :: E
 | none => E
@[simp] theorem Env.put_some (E : Env) (d : Nat) (v : PV) : E.put (some d) v = (d, v) :: E := rfl
@[simp] theorem Env.put_none (E : Env) (v : PV) : E.put none v = E := rfl
def ER (Ψ : Ty) (E : Env) (tmps : Array Value) : Prop := ∀ t, VR Ψ (E.get t) (tmps.getD t undef)
theorem ER.mono {Ψ Ψ' : Ty} (h : Ψ.le Ψ') {E : Env} {tmps : Array Value} (k : ER Ψ E tmps) : ER Ψ' E tmps := fun t => (k t).mono h
theorem ER.put {Ψ : Ty} {E : Env} {a : Act} (h : ER Ψ E a.tmps) {d : Option Nat} {v : PV} {x : Value} (hd : ∀ n, d = some n → n < a.tmps.size) (hv : VR Ψ v x) :
 ER Ψ (E.put d v) (a.put d x).tmps := by
 cases d with
 | none => exact h
 | some d =>
  intro t
  simp only [Env.put_some, Env.get, Act.put]
  have := hd d rfl
  split
  ·rename_i e; subst e
   simp [Array.getD, this, hv]
  rename_i e
  have := h t
  simp only [Array.getD_eq_getD_getElem?, Array.getElem?_setIfInBounds_ne e]
  simpa only [Array.getD_eq_getD_getElem?] using this
def constPV0 : Value → PV
 | .bool b => .bool b
 | .int k n => .int k n
 | .string s => .str s
 | .pointer none => .nilptr
 | .slice none 0 0 => .isl [] .exact
 | .nilFunc => .nilfunc
 | .nilIface => .niliface
 | .map none => .nilmap
 | _ => .undef
def constPV : Value → PV
 | .agg cs => .agg (cs.toList.map constPV0)
 | v => constPV0 v
theorem constPV0_ok (Ψ : Ty) (v : Value) : VR Ψ (constPV0 v) v := by
 unfold constPV0
 split <;> first | exact .undef _ | exact .islnil _ _ trivial | constructor
theorem constPV_ok (Ψ : Ty) (v : Value) : VR Ψ (constPV v) v := by
 unfold constPV
 split
 ·rename_i cs
  refine .agg _ _ (by simp) fun j p v h1 h2 => ?_
  simp [h2] at h1
  subst h1
  exact constPV0_ok Ψ v
 exact constPV0_ok Ψ _
def ev (E : Env) : Operand → PV
 | .tmp t => E.get t
 | .const v => constPV v
 | .global _ => .undef
 | .func f => .func (.func f) [] []
theorem ev_ok {Ψ : Ty} {E : Env} {a : Act} (h : ER Ψ E a.tmps) (x : Operand) : VR Ψ (ev E x) (a.eval x) := by
 cases x with
 | tmp t => exact h t
 | const v => exact constPV_ok Ψ v
 | global g => exact .undef _
 | func f => exact .func _ _ _ _ _ rfl rfl (fun j p v h _ => by simp at h) (fun j p v h _ => by simp at h)
section inv
variable {Ψ : Ty} {x : Value}
theorem VR.bool_inv {b : Bool} (h : VR Ψ (.bool b) x) : x = .bool b := by cases h; rfl
theorem VR.int_inv {k : IntKind} {n : Int} (h : VR Ψ (.int k n) x) : x = .int k n := by cases h; rfl
theorem VR.str_inv {s : ByteArray} (h : VR Ψ (.str s) x) : x = .string s := by cases h; rfl
theorem VR.ptr_inv {id off : Nat} (h : VR Ψ (.ptr id off) x) : ∃ b, Ψ.β[id]? = some b ∧ (b, .n 0) ∈ Ψ.sz ∧ x = .pointer (some ⟨b, off, none⟩) := by cases h; exact ⟨_, ‹_›, ‹_›, rfl⟩
theorem VR.agg_inv {cs : List PV} (h : VR Ψ (.agg cs) x) : ∃ vs : Array Value, x = .agg vs ∧ VRs Ψ cs vs := by cases h; exact ⟨_, rfl, ‹_›, ‹_›⟩
theorem VR.tuple_inv {cs : List PV} (h : VR Ψ (.tuple cs) x) : ∃ vs : Array Value, x = .tuple vs ∧ VRs Ψ cs vs := by cases h; exact ⟨_, rfl, ‹_›, ‹_›⟩
theorem VR.func_inv {f : Fn} {a b : List PV} (h : VR Ψ (.func f a b) x) : ∃ xs ys : Array Value, x = .func f xs ys ∧ VRs Ψ a xs ∧ VRs Ψ b ys := by
 cases h; exact ⟨_, _, rfl, ⟨‹_›, ‹_›⟩, ⟨‹_›, ‹_›⟩⟩
end inv
def isAggD : TypeDesc → Bool
 | .struct _ | .array _ _ => true
 | _ => false
section runs
variable {P : Program} {w : World}
theorem info_of_underlying {t : TypeId} {d : TypeDesc} (h : P.underlying t = some d) : ∃ i, P.info? t = some i := by
 unfold Program.underlying at h
 split at h <;> first | exact ⟨_, ‹_›⟩ | cases h
theorem run_und {t : TypeId} {d : TypeDesc} (h : P.underlying t = some d) : (underlying t).run P w = .ok d w := by
 simp [underlying, program, Sem.run, h, Bind.bind, Sem.bind, Pure.pure]
theorem run_size {t : TypeId} {d : TypeDesc} (h : P.underlying t = some d) : (sizeOf t).run P w = .ok (P.cellsOf t) w := by
 obtain ⟨i, hi⟩ := info_of_underlying h
 simp [sizeOf, typeInfo, program, Sem.run, hi, Bind.bind, Sem.bind, Pure.pure, Program.cellsOf]
theorem run_isAgg {t : TypeId} {d : TypeDesc} (h : P.underlying t = some d) : (isAgg t).run P w = .ok (isAggD d) w := by
 unfold isAgg
 have hb : ∀ {α β : Type} (e : Sem α) (f : α → Sem β) (v : α), e.run P w = .ok v w → (e >>= f).run P w = (f v).run P w := by
  intro α β e f v he
  rw [Sem.run_bind, he]
  rfl
 rw [hb _ _ _ (run_und h)]
 cases d <;> rfl
end runs
theorem run_bind_ok {P : Program} {w w' : World} {α β : Type} {e : Sem α} {f : α → Sem β} {v : α} (he : e.run P w = .ok v w') : (e >>= f).run P w = (f v).run P w' := by
 rw [Sem.run_bind, he]; rfl
theorem run_pure {P : Program} {w : World} {α : Type} (v : α) : (pure v : Sem α).run P w = .ok v w := rfl
@[simp] theorem Addr.add_none (b o n : Nat) : (Addr.mk b o none).add n = ⟨b, o + n, none⟩ := by
 unfold Addr.add
 split
 ·rename_i h; subst h; rfl
 rfl
theorem run_load {P : Program} {w : World} {b o : Nat} {v : Value} (h : w.cell? ⟨b, o, none⟩ = some v) : (load ⟨b, o, none⟩).run P w = .ok v w := by
 simp [load, Sem.run, h]
theorem run_loadCellsFrom {P : Program} {w : World} (b o : Nat) (vs : List Value) : ∀ (i : Nat) (acc : Array Value),
 (∀ k, (h : k < vs.length) → w.cell? ⟨b, o + i + k, none⟩ = some vs[k]) → (loadCellsFrom ⟨b, o, none⟩ i vs.length acc).run P w = .ok (acc ++ vs.toArray) w := by
 induction vs with
 | nil => intro i acc _; simp [loadCellsFrom]
 | cons v vs ih =>
  intro i acc h
  simp only [List.length_cons, loadCellsFrom, Addr.add_none]
  have h0 := h 0 (by simp)
  simp at h0
  rw [run_bind_ok (run_load h0)]
  rw [ih (i + 1) (acc.push v)]
  ·simp
  intro k hk
  have := h (k + 1) (by simpa using hk)
  simp at this
  rw [← this]
  congr 2
  omega
theorem run_loadCells {P : Program} {w : World} (b o : Nat) (vs : List Value)
 (h : ∀ k, (h : k < vs.length) → w.cell? ⟨b, o + k, none⟩ = some vs[k]) : (loadCells ⟨b, o, none⟩ vs.length).run P w = .ok vs.toArray w := by
 unfold loadCells
 rw [run_loadCellsFrom b o vs 0 #[] (by simpa using h)]
 simp
/-- n cells from 'off' on, or one of them. -/
def partPV (d : TypeDesc) (n : Nat) (cs : List PV) (off : Nat) : Option PV :=
 if isAggD d then (if off + n ≤ cs.length then some (.agg ((cs.drop off).take n)) else none) else cs[off]?
/-- A variable read, its cells lying from o on in block b. -/
theorem run_loadVar_part {P : Program} {w : World} {Ψ : Ty} {t : TypeId} {d : TypeDesc} (hd : P.underlying t = some d) {cs : List PV} {b o off : Nat}
 (hc : ∀ (j : Nat) (p : PV), cs[j]? = some p → ∃ v, w.cell? ⟨b, o + j, none⟩ = some v ∧ VR Ψ p v) {v : PV} (h : partPV d (P.cellsOf t) cs off = some v) :
 ∃ x, (loadVar t ⟨b, o + off, none⟩).run P w = .ok x w ∧ VR Ψ v x := by
 unfold partPV at h
 unfold loadVar
 rw [run_bind_ok (run_isAgg hd)]
 split at h
 ·rename_i ha
  split at h
  ·rename_i hn
   injection h with h
   subst h
   have hex : ∀ k, ∃ x, k < P.cellsOf t → w.cell? ⟨b, o + off + k, none⟩ = some x ∧ ∀ p, cs[off + k]? = some p → VR Ψ p x := by
    intro k
    by_cases hk : k < P.cellsOf t
    ·obtain ⟨x, h1, h2⟩ := hc (off + k) (cs[off + k]'(by omega)) (by simp)
     refine ⟨x, fun _ => ⟨by rw [show o + off + k = o + (off + k) by omega]; exact h1, fun p hp => ?_⟩⟩
     rw [List.getElem?_eq_getElem (by omega)] at hp
     injection hp with hp
     exact hp ▸ h2
    exact ⟨undef, fun h => absurd h hk⟩
   let f : Nat → Value := fun k => Classical.choose (hex k)
   have hf : ∀ k, k < P.cellsOf t → w.cell? ⟨b, o + off + k, none⟩ = some (f k) ∧ ∀ p, cs[off + k]? = some p → VR Ψ p (f k) := fun k => Classical.choose_spec (hex k)
   have hl := run_loadCells (P := P) (w := w) b (o + off) ((List.range (P.cellsOf t)).map f) (fun k hk => by
    simp at hk
    simp
    exact (hf k hk).1)
   simp only [List.length_map, List.length_range] at hl
   simp only [ha, if_true]
   rw [run_bind_ok (run_size hd), run_bind_ok hl]
   refine ⟨_, run_pure _, .agg _ _ (by simp; omega) ?_⟩
   intro j p x h1 h2
   have hj : j < P.cellsOf t := by
    have := (Array.getElem?_eq_some_iff.1 h2).1
    simpa using this
   simp [hj] at h1 h2
   subst h2
   exact (hf j hj).2 p h1
  cases h
 rename_i ha
 simp only [ha, Bool.false_eq_true, if_false]
 obtain ⟨x, h1, h2⟩ := hc off v h
 exact ⟨x, run_load h1, h2⟩
def loadPV (P : Program) (σ : Sg) (t : TypeId) (p : PV) : Option PV :=
 match P.underlying t with
 | none => none
 | some d =>
  match p with
  | .ptr id off => match σ.store[id]? with
   | some (some cs) => partPV d (P.cellsOf t) cs off
   | _ => none
  | .eptr _ elems i off => match elems[i]? with
   | some e => partPV d (P.cellsOf t) e.cells off
   | none => none
  | _ => none
theorem loadPV_ok {P : Program} {σ : Sg} {t : TypeId} {p v : PV} (h : loadPV P σ t p = some v) {Ψ : Ty} {w : World} (hs : SR Ψ σ w) {x : Value} (hx : VR Ψ p x) :
 ∃ y, (Instr.loadAt t x).run P w = .ok y w ∧ VR Ψ v y := by
 unfold loadPV at h
 split at h
 ·cases h
 rename_i d hd
 split at h
 ·rename_i id off
  obtain ⟨b, hb, hz, rfl⟩ := hx.ptr_inv
  split at h
  ·rename_i cs hcs
   obtain ⟨_, _, h0⟩ := hs.block id cs b hcs hb
   obtain ⟨c, h3, _⟩ := h0.blk (hs.szok b _ hz)
   obtain ⟨h4, h5⟩ := h0.cells h3
   have := run_loadVar_part (P := P) (w := w) (Ψ := Ψ) hd (cs := cs) (b := b) (o := 0) (off := off) (fun j q hq => by
    have hj : j < c.size := Nat.lt_of_lt_of_le (List.getElem?_eq_some_iff.1 hq).1 h4
    refine ⟨c[j], ?_, h5 j q _ hq (by simp [hj])⟩
    rw [Nat.zero_add, h3.cell]; simp [hj]) h
   simpa [Instr.loadAt, Instr.sureAddr, run_pure, Pure.pure, Bind.bind, Sem.bind] using this
  cases h
 ·rename_i es elems i off
  cases hx with
  | eptr _ _ _ _ b o vals hs' h1 h2 =>
  split at h
  ·rename_i e he
   have := run_loadVar_part (P := P) (w := w) (Ψ := Ψ) hd (cs := e.cells) (b := b) (o := o + i * es) (off := off) (fun j q hq =>
    ⟨vals i j, hs.imm _ _ _ (h1 i e j q he hq), h2 i e j q he hq⟩) h
   simpa [Instr.loadAt, Instr.sureAddr, run_pure, Pure.pure, Bind.bind, Sem.bind] using this
  cases h
 cases h
def arith (op : BinOp) (k : IntKind) (a b : Int) : Option PV :=
 match op with
 | .add => some (.int k (k.wrap (a + b)))
 | .sub => some (.int k (k.wrap (a - b)))
 | .mul => some (.int k (k.wrap (a * b)))
 | .quo => if b = 0 then none else some (.int k (k.wrap (a.tdiv b)))
 | .rem => if b = 0 then none else some (.int k (a.tmod b))
 | .and => some (.int k (k.wrap ((BitVec.ofInt k.bits a &&& BitVec.ofInt k.bits b).toNat)))
 | .or => some (.int k (k.wrap ((BitVec.ofInt k.bits a ||| BitVec.ofInt k.bits b).toNat)))
 | .xor => some (.int k (k.wrap ((BitVec.ofInt k.bits a ^^^ BitVec.ofInt k.bits b).toNat)))
 | .eql => some (.bool (a == b))
 | .neq => some (.bool (a != b))
 | .lss => some (.bool (decide (a < b)))
 | .leq => some (.bool (decide (a ≤ b)))
 | .gtr => some (.bool (decide (a > b)))
 | .geq => some (.bool (decide (a ≥ b)))
 | _ => none
def shiftPV (op : BinOp) (k : IntKind) (a b : Int) : Option PV :=
 if b < 0 then none else
 match op with
 | .shl => some (.int k (k.wrap (a * 2 ^ (min b.toNat k.bits))))
 | .shr => some (.int k (a.fdiv (2 ^ (min b.toNat k.bits))))
 | _ => none
def isShift : BinOp → Bool
 | .shl | .shr => true
 | _ => false
def bin (op : BinOp) (x y : PV) : Option PV :=
 match x, y with
 | .int k a, .int k' b => if isShift op then shiftPV op k a b else if k = k' then arith op k a b else none
 | _, _ => none
theorem arith_ok {P : Program} {w : World} {op : BinOp} {k : IntKind} {a b : Int} {v : PV} (h : arith op k a b = some v) (hs : isShift op = false) (Ψ : Ty) (t : TypeId) :
    ∃ y, (binOp op t (.int k a) (.int k b)).run P w = .ok y w ∧ VR Ψ v y := by
  cases op <;> simp only [arith] at h <;> first
    | (cases hs; done)
    | (cases h; done)
    | (split at h
       · cases h
       · rename_i hb
         injection h with h
         subst h
         exact ⟨_, by simp [binOp, Op.intDiv, hb]; rfl, by constructor⟩)
    | (injection h with h
       subst h
       exact ⟨_, by simp [binOp, Op.intArith, Op.intBits, Op.intCmp]; rfl, by constructor⟩)
theorem shift_ok {P : Program} {w : World} {op : BinOp} {k k' : IntKind} {a b : Int} {v : PV} (h : shiftPV op k a b = some v) (Ψ : Ty) (t : TypeId) :
    ∃ y, (binOp op t (.int k a) (.int k' b)).run P w = .ok y w ∧ VR Ψ v y := by
  unfold shiftPV at h
  split at h
  · cases h
  · rename_i hb
    cases op <;> simp only at h <;> first
      | (cases h; done)
      | (injection h with h
         subst h
         exact ⟨_, by simp [binOp, Op.shift, hb]; rfl, by constructor⟩)
theorem bin_ok {P : Program} {w : World} {op : BinOp} {x y : PV} {v : PV} (h : bin op x y = some v) {Ψ : Ty} {x' y' : Value} (hx : VR Ψ x x') (hy : VR Ψ y y') (t : TypeId) :
 ∃ z, (binOp op t x' y').run P w = .ok z w ∧ VR Ψ v z := by
 unfold bin at h
 split at h
 ·rename_i k a k' b
  rw [hx.int_inv, hy.int_inv]
  split at h
  ·exact shift_ok h Ψ t
  rename_i hsh
  split at h
  ·rename_i hk; subst hk
   exact arith_ok h (by simpa using hsh) Ψ t
  cases h
 cases h
def eqFieldsPV (P : Program) (cs ds : List PV) : List Field → Option Bool
 | [] => some true
 | f :: fs =>
  if f.name = "_" then none else
  match P.underlying f.type, cs[f.offset]?, ds[f.offset]?, eqFieldsPV P cs ds fs with
  | some (.int _), some (.int k a), some (.int k' b), some r => if k = k' then some ((a == b) && r) else none
  | _, _, _, _ => none
def eqPV (P : Program) (t : TypeId) (x y : PV) : Option Bool :=
 match x, y with
 | .bool a, .bool b => (match P.underlying t with | some .bool => some (a == b) | _ => none)
 | .agg cs, .agg ds => (match P.underlying t with
  | some (.struct fs) => if P.eqGuardType P.depth t = false ∧ P.stoodInHeld t = false then eqFieldsPV P cs ds fs.toList else none
  | _ => none)
 | _, _ => none
/-- Texts, one behind the other; the same or not. -/
def strBin (op : BinOp) (a b : ByteArray) : Option PV :=
 match op with
 | .add => if a.size + b.size ≤ 2 ^ 62 then some (.str (a ++ b)) else none
 | .eql => some (.bool (a == b))
 | .neq => some (.bool (a != b))
 | _ => none
theorem strBin_ok {P : Program} {w : World} {op : BinOp} {a b : ByteArray} {v : PV} (h : strBin op a b = some v) (Ψ : Ty) (t : TypeId) :
 ∃ y, (binOp op t (.string a) (.string b)).run P w = .ok y w ∧ VR Ψ v y := by
 unfold strBin at h
 split at h
 ·split at h
  ·rename_i hs
   injection h with h
   subst h
   refine ⟨.string (a ++ b), ?_, .str _⟩
   simp only [binOp, Op.stringOp]
   rw [if_neg (by rw [show IntKind.i64.max = 9223372036854775807 by rfl]; omega)]
   rfl
  cases h
 ·injection h with h
  subst h
  refine ⟨.bool (a == b), ?_, .bool _⟩
  rw [beq_toListBytes]; rfl
 ·injection h with h
  subst h
  refine ⟨.bool (a != b), ?_, .bool _⟩
  rw [bne, beq_toListBytes]; rfl
 cases h
def binPV (P : Program) (op : BinOp) (t : TypeId) (x y : PV) : Option PV :=
 match x, y with
 | .int _ _, .int _ _ => bin op x y
 | .str a, .str b => strBin op a b
 | _, _ =>
  match op with
  | .eql => (eqPV P t x y).map .bool
  | .neq => (eqPV P t x y).map fun b => .bool (!b)
  | _ => none
theorem run_part_cell {P : Program} {w : World} {t : TypeId} {d : TypeDesc} (hd : P.underlying t = some d) (ha : isAggD d = false) {cs : Array Value} {off : Nat} {v : Value} (h : cs[off]? = some v) :
 (part t cs off).run P w = .ok v w := by
 unfold part
 rw [run_bind_ok (run_isAgg hd)]
 simp [ha, h]
theorem eqFieldsPV_ok {P : Program} {w : World} {Ψ : Ty} {cs ds : List PV} {xs ys : Array Value} (hx : VRs Ψ cs xs) (hy : VRs Ψ ds ys) (n : Nat) :
 ∀ (fs : List Field) (r : Bool), eqFieldsPV P cs ds fs = some r → (Op.eqFields (n + 1) xs ys fs).run P w = .ok r w := by
 intro fs
 induction fs with
 | nil => intro r h; simp only [eqFieldsPV] at h; injection h with h; subst h; rfl
 | cons f fs ih =>
  intro r h
  simp only [eqFieldsPV] at h
  split at h
  ·cases h
  rename_i hname
  split at h
  ·rename_i k0 k a k' b r' hu h1 h2 h3
   split at h
   ·rename_i hk; subst hk
    injection h with h
    subst h
    have l1 : f.offset < xs.size := by have := (List.getElem?_eq_some_iff.1 h1).1; rw [hx.1]; exact this
    have l2 : f.offset < ys.size := by have := (List.getElem?_eq_some_iff.1 h2).1; rw [hy.1]; exact this
    have e1 := (hx.2 _ _ (xs[f.offset]'l1) h1 (by simp)).int_inv
    have e2 := (hy.2 _ _ (ys[f.offset]'l2) h2 (by simp)).int_inv
    simp only [Op.eqFields]
    rw [if_pos hname, run_bind_ok (run_part_cell hu rfl (v := .int k a) (by simp [l1, e1])), run_bind_ok (run_part_cell hu rfl (v := .int k b) (by simp [l2, e2])),
     run_bind_ok (run_equalIn_int w n f.type k k0 a b hu)]
    by_cases hab : (a == b) = true
    ·rw [hab]; simp only [Bool.not_true, Bool.false_eq_true, if_false, Bool.true_and]
     exact ih r' h3
    simp only [Bool.not_eq_true] at hab
    rw [hab]; simp only [Bool.not_false, if_true, Bool.false_and]
    rfl
   cases h
  cases h
theorem eqPV_ok {P : Program} {w : World} {Ψ : Ty} {t : TypeId} {x y : PV} {x' y' : Value} {r : Bool} (h : eqPV P t x y = some r) (hx : VR Ψ x x') (hy : VR Ψ y y') (op : BinOp) (a b : Operand) :
 (do eqGuard op t a b x' y'; binOp .eql t x' y' : Sem Value).run P w = .ok (.bool r) w ∧ (do eqGuard op t a b x' y'; binOp .neq t x' y' : Sem Value).run P w = .ok (.bool (!r)) w := by
 unfold eqPV at h
 split at h
 ·rename_i a' b'
  rw [hx.bool_inv, hy.bool_inv]
  split at h
  ·rename_i hu
   injection h with h
   subst h
   have hg : (eqGuard op t a b (.bool a') (.bool b')).run P w = .ok () w := by cases op <;> rfl
   rw [run_bind_ok hg, run_bind_ok hg]
   exact ⟨run_eql_bool w t a' b' hu, run_neq_bool w t a' b' hu⟩
  cases h
 ·rename_i cs ds
  obtain ⟨xs, rfl, hxs⟩ := hx.agg_inv
  obtain ⟨ys, rfl, hys⟩ := hy.agg_inv
  split at h
  ·rename_i fs hu
   split at h
   ·rename_i hh
    have hf : P.fieldsOf t = fs := by simp [Program.fieldsOf, hu]
    have he := run_equalIn_struct (P := P) w 9999 t xs ys (by rw [hf]; exact hu) hh.2
    rw [hf, eqFieldsPV_ok hxs hys 9998 fs.toList r h] at he
    rw [run_bind_ok (run_eqGuard_agg w op t a b xs ys hh.1), run_bind_ok (run_eqGuard_agg w op t a b xs ys hh.1), run_eql_struct, run_neq_struct, he]
    exact ⟨rfl, rfl⟩
   cases h
  cases h
 cases h
theorem binPV_ok {P : Program} {w : World} {Ψ : Ty} {op : BinOp} {t : TypeId} {x y v : PV} {x' y' : Value} (h : binPV P op t x y = some v) (hx : VR Ψ x x') (hy : VR Ψ y y') (a b : Operand) :
 ∃ z, (do eqGuard op t a b x' y'; binOp op t x' y' : Sem Value).run P w = .ok z w ∧ VR Ψ v z := by
 unfold binPV at h
 split at h
 ·rename_i k m k' m'
  rw [hx.int_inv, hy.int_inv]
  have hg : (eqGuard op t a b (.int k m) (.int k' m')).run P w = .ok () w := by cases op <;> rfl
  rw [run_bind_ok hg]
  exact bin_ok h (.int k m) (.int k' m') t
 ·rename_i s s'
  rw [hx.str_inv, hy.str_inv]
  have hg : (eqGuard op t a b (.string s) (.string s')).run P w = .ok () w := by cases op <;> rfl
  rw [run_bind_ok hg]
  exact strBin_ok h Ψ t
 split at h
 ·cases hr : eqPV P t x y with
  | none => rw [hr] at h; cases h
  | some r =>
   rw [hr] at h
   injection h with h
   subst h
   exact ⟨_, (eqPV_ok hr hx hy _ a b).1, .bool _⟩
 ·cases hr : eqPV P t x y with
  | none => rw [hr] at h; cases h
  | some r =>
   rw [hr] at h
   injection h with h
   subst h
   exact ⟨_, (eqPV_ok hr hx hy _ a b).2, .bool _⟩
 cases h
def pickPV (c a b : PV) : Option PV :=
 match c with
 | .bool t => some (if t then a else b)
 | _ => none
def nilCheckPV (x : PV) : Option PV :=
 match x with
 | .ptr i o => some (.ptr i o)
 | .eptr s l i o => some (.eptr s l i o)
 | .yield y => some (.yield y)
 | .func (.func f) a b => some (.func (.func f) a b)
 | _ => none
def unPV (op : UnOp) (x : PV) : Option PV :=
 match op, x with
 | .neg, .int k n => some (.int k (k.wrap (0 - n)))
 | .not, .bool b => some (.bool (!b))
 | _, _ => none
/-- Bytes, one by one. -/
def bytesOfPV : List PV → Option (List Int)
 | [] => some []
 | .int .u8 n :: r => (bytesOfPV r).map (n :: ·)
 | _ => none
def bytesStr (ns : List Int) : ByteArray := ns.foldl (fun r n => r.push (UInt8.ofNat n.toNat)) ByteArray.empty
def convPV (P : Program) (s d : TypeId) (x : PV) : Option PV :=
 match P.underlying s, P.underlying d, x with
 | some _, some (.int k), .int _ n => some (.int k (k.wrap n))
 | some (.int _), some .string, _ => none
 | some .string, some .string, .str b => some (.str b)
 | some (.slice e), some .string, .isl l _ => match P.underlying e with
  | some (.int .u8) => (bytesOfPV l).map fun ns => .str (bytesStr ns)
  | _ => none
 | _, _, _ => none
def fieldOf (P : Program) (s : TypeId) (f : Nat) : Option (Field × TypeDesc) :=
 match P.underlying s with
 | some (.struct fs) => match fs[f]? with
  | some fl => match P.underlying fl.type with
   | some d => some (fl, d)
   | none => none
  | none => none
 | _ => none
def fieldAddrPV (P : Program) (s : TypeId) (x : PV) (f : Nat) : Option PV :=
 match fieldOf P s f with
 | some (fl, _) => if P.cellsOf fl.type = 0 then none else
  match x with
  | .ptr id off => some (.ptr id (off + fl.offset))
  | .eptr es l i off => some (.eptr es l i (off + fl.offset))
  | _ => none
 | none => none
def fieldPV (P : Program) (s : TypeId) (x : PV) (f : Nat) : Option PV :=
 match fieldOf P s f, x with
 | some (fl, d), .agg cs => partPV d (P.cellsOf fl.type) cs fl.offset
 | _, _ => none
def indexAddrPV (P : Program) (t : TypeId) (x i : PV) : Option PV :=
  match P.underlying t, x, i with
  | some (.slice e), .isl l _, .int _ n => if 0 ≤ n ∧ n < (l.length : Int) then
      (match P.underlying e, l[n.toNat]? with
       | some _, some el => if el.cells.length = P.cellsOf e then some (.eptr (P.cellsOf e) l n.toNat 0) else none
       | _, _ => none) else none
  | some (.slice e), .msl id off len, .int _ n => if 0 ≤ n ∧ n < (len : Int) then
      (match P.underlying e with
       | some _ => some (.ptr id (off + n.toNat * P.cellsOf e))
       | none => none) else none
  | some (.array len e), .ptr id off, .int _ n => if 0 ≤ n ∧ n < (len : Int) then
      (match P.underlying e with
       | some _ => some (.ptr id (off + n.toNat * P.cellsOf e))
       | none => none) else none
  | some (.slice e), .gsl id len _, .int _ n => if 0 ≤ n ∧ n < (len : Int) then
      (match P.underlying e with
       | some _ => some (.ptr id (0 + n.toNat * P.cellsOf e))
       | none => none) else none
  | _, _, _ => none
def indexPV (P : Program) (t : TypeId) (x i : PV) : Option PV :=
  match P.underlying t, x, i with
  | some (.array len e), .agg cs, .int _ n => if 0 ≤ n ∧ n < (len : Int) then
      (match P.underlying e with
       | some d => partPV d (P.cellsOf e) cs (n.toNat * P.cellsOf e)
       | none => none) else none
  | some .string, .str s, .int _ n => if h : 0 ≤ n ∧ n < (s.size : Int) then some (.int .u8 (s[n.toNat]'(by omega)).toNat) else none
  | _, _, _ => none
def extractPV (x : PV) (i : Nat) : Option PV :=
 match x with
 | .tuple vs => vs[i]?
 | _ => none
theorem fieldOf_ok {P : Program} {s : TypeId} {f : Nat} {fl : Field} {d : TypeDesc} (h : fieldOf P s f = some (fl, d)) :
 ∃ fs, P.underlying s = some (.struct fs) ∧ fs[f]? = some fl ∧ P.underlying fl.type = some d := by
 unfold fieldOf at h
 split at h
 ·rename_i fs hu
  split at h
  ·rename_i fl' hf
   split at h
   ·rename_i d' hd
    injection h with h
    injection h with h1 h2
    subst h1 h2
    exact ⟨fs, hu, hf, hd⟩
   cases h
  cases h
 cases h
theorem run_part {P : Program} {w : World} {Ψ : Ty} {t : TypeId} {d : TypeDesc} (hd : P.underlying t = some d) {cs : List PV} {xs : Array Value} {off : Nat} {v : PV}
 (hx : VRs Ψ cs xs) (h : partPV d (P.cellsOf t) cs off = some v) : ∃ y, (part t xs off).run P w = .ok y w ∧ VR Ψ v y := by
 unfold partPV at h
 unfold part
 rw [run_bind_ok (run_isAgg hd)]
 split at h
 ·rename_i ha
  split at h
  ·rename_i hn
   injection h with h
   subst h
   simp only [ha, if_true]
   rw [run_bind_ok (run_size hd)]
   refine ⟨_, run_pure _, .agg _ _ (by simp; have := hx.1; omega) fun j p v h1 h2 => ?_⟩
   have hj : j < P.cellsOf t := by
    have := (List.getElem?_eq_some_iff.1 h1).1
    simp at this; omega
   have hj' : off + j < off + P.cellsOf t := by omega
   rw [List.getElem?_take_of_lt hj, List.getElem?_drop] at h1
   rw [Array.getElem?_extract] at h2
   split at h2
   ·exact hx.2 _ p v h1 h2
   cases h2
  cases h
 rename_i ha
 simp only [ha, Bool.false_eq_true, if_false]
 have hl : off < xs.size := by have := (List.getElem?_eq_some_iff.1 h).1; rw [hx.1]; exact this
 refine ⟨xs[off], ?_, hx.2 off v _ h (by simp [hl])⟩
 simp [hl]
section
variable {P : Program} {w : World} {Ψ : Ty}
theorem fieldAddrPV_ok {s : TypeId} {x v : PV} {f : Nat} (h : fieldAddrPV P s x f = some v) {x' : Value} (hx : VR Ψ x x') : ∃ y, (Instr.fieldAt s x' f).run P w = .ok y w ∧ VR Ψ v y := by
 unfold fieldAddrPV at h
 split at h
 ·rename_i fl d hf
  obtain ⟨fs, hu, hf', hd⟩ := fieldOf_ok hf
  split at h
  ·cases h
  rename_i hz
  have key : ∀ b o : Nat, (fieldPlace ⟨b, o, none⟩ fl).run P w = .ok ⟨b, o + fl.offset, none⟩ w := by
   intro b o
   unfold fieldPlace
   rw [run_bind_ok (run_size hd)]
   simp only [hz, if_false, Addr.add_none]
   rfl
  unfold Instr.fieldAt
  rw [run_bind_ok (run_und hu)]
  simp only [hf']
  split at h
  ·rename_i id off
   obtain ⟨b, hb, hz', rfl⟩ := hx.ptr_inv
   injection h with h
   subst h
   refine ⟨.pointer (some ⟨b, off + fl.offset, none⟩), ?_, .ptr _ _ _ hb hz'⟩
   rw [run_bind_ok (e := Instr.sureAddr _) (v := ⟨b, off, none⟩) rfl, run_bind_ok (key _ _)]
   rfl
  ·rename_i es l i off
   injection h with h
   subst h
   cases hx with
   | eptr _ _ _ _ b o vals hs h1 h2 =>
   refine ⟨.pointer (some ⟨b, o + i * es + off + fl.offset, none⟩), ?_, ?_⟩
   ·rw [run_bind_ok (e := Instr.sureAddr _) (v := ⟨b, o + i * es + off, none⟩) rfl, run_bind_ok (key _ _)]
    rfl
   rw [Nat.add_assoc (o + i * es)]
   exact .eptr _ _ _ _ b o vals hs h1 h2
  cases h
 cases h
theorem fieldPV_ok {s : TypeId} {x v : PV} {f : Nat} (h : fieldPV P s x f = some v) {x' : Value} (hx : VR Ψ x x') : ∃ y, (Instr.field s x' f).run P w = .ok y w ∧ VR Ψ v y := by
 unfold fieldPV at h
 split at h
 ·rename_i fl d cs hf
  obtain ⟨fs, hu, hf', hd⟩ := fieldOf_ok hf
  obtain ⟨xs, rfl, hxs⟩ := hx.agg_inv
  obtain ⟨y, hy, hv⟩ := run_part (w := w) hd hxs h
  refine ⟨y, ?_, hv⟩
  unfold Instr.field
  rw [run_bind_ok (run_und hu)]
  simp only [hf']
  rw [run_bind_ok (e := asAgg _) (v := xs) rfl]
  exact hy
 cases h
theorem indexAddrPV_ok {t : TypeId} {x i v : PV} (h : indexAddrPV P t x i = some v) {x' i' : Value} (hx : VR Ψ x x') (hi : VR Ψ i i') :
 ∃ y, (Instr.indexAt t x' i').run P w = .ok y w ∧ VR Ψ v y := by
 unfold indexAddrPV at h
 split at h
 ·rename_i e l own k n hu
  rw [hi.int_inv]
  split at h
  ·rename_i hn
   split at h
   ·rename_i d el hd hel
    split at h
    ·rename_i hc
     injection h with h
     subst h
     cases hx with
     | islnil own a h => simp at hn; omega
     | isl es _ _ b o cap vals hs h1 h2 hcap ho =>
     have hes : P.cellsOf e = es := by rw [← hc]; exact hs _ _ hel
     refine ⟨.pointer (some ⟨b, o + n.toNat * es + 0, none⟩), ?_, ?_⟩
     ·unfold Instr.indexAt
      rw [run_bind_ok (e := asIntOf _) (v := (k, n)) rfl]
      simp only
      rw [run_bind_ok (run_und hu)]
      simp only
      rw [run_bind_ok (run_pure _), run_bind_ok (run_und hu)]
      simp only [hn, and_self, if_true]
      rw [run_bind_ok (run_size hd), hes]
      simp
     rw [hes]; exact .eptr _ _ _ _ b o vals hs h1 h2
    cases h
   cases h
  cases h
 ·rename_i e id off len k n hu
  rw [hi.int_inv]
  split at h
  ·rename_i hn
   split at h
   ·rename_i d hd
    injection h with h
    subst h
    cases hx with
    | msl _ _ _ b cap hb hz' hc =>
    refine ⟨.pointer (some ⟨b, off + n.toNat * P.cellsOf e, none⟩), ?_, .ptr _ _ _ hb hz'⟩
    unfold Instr.indexAt
    rw [run_bind_ok (e := asIntOf _) (v := (k, n)) rfl]
    simp only
    rw [run_bind_ok (run_und hu)]
    simp only
    rw [run_bind_ok (run_pure _), run_bind_ok (run_und hu)]
    simp only [hn, and_self, if_true]
    rw [run_bind_ok (run_size hd)]
    simp
   cases h
  cases h
 ·rename_i len e id off k n hu
  rw [hi.int_inv]
  split at h
  ·rename_i hn
   split at h
   ·rename_i d hd
    injection h with h
    subst h
    obtain ⟨b, hb, hz', rfl⟩ := hx.ptr_inv
    refine ⟨.pointer (some ⟨b, off + n.toNat * P.cellsOf e, none⟩), ?_, .ptr _ _ _ hb hz'⟩
    unfold Instr.indexAt
    rw [run_bind_ok (e := asIntOf _) (v := (k, n)) rfl]
    simp only
    rw [run_bind_ok (run_und hu)]
    simp only
    rw [run_bind_ok (e := Instr.sureAddr _) (v := ⟨b, off, none⟩) rfl, run_bind_ok (run_pure _), run_bind_ok (run_und hu)]
    simp only [hn, and_self, if_true]
    rw [run_bind_ok (run_size hd)]
    simp
   cases h
  cases h
 ·rename_i e id len es k n hu
  rw [hi.int_inv]
  split at h
  ·rename_i hn
   split at h
   ·rename_i d hd
    injection h with h
    subst h
    cases hx with
    | gsl _ _ _ b cap hb _ hz' hc =>
    refine ⟨.pointer (some ⟨b, 0 + n.toNat * P.cellsOf e, none⟩), ?_, .ptr _ _ _ hb hz'⟩
    unfold Instr.indexAt
    rw [run_bind_ok (e := asIntOf _) (v := (k, n)) rfl]
    simp only
    rw [run_bind_ok (run_und hu)]
    simp only
    rw [run_bind_ok (run_pure _), run_bind_ok (run_und hu)]
    simp only [hn, and_self, if_true]
    rw [run_bind_ok (run_size hd)]
    simp
   cases h
  cases h
 cases h
theorem indexPV_ok {t : TypeId} {x i v : PV} (h : indexPV P t x i = some v) {x' i' : Value} (hx : VR Ψ x x') (hi : VR Ψ i i') :
 ∃ y, (Instr.index t x' i').run P w = .ok y w ∧ VR Ψ v y := by
 unfold indexPV at h
 split at h
 ·rename_i len e cs k n hu
  rw [hi.int_inv]
  obtain ⟨xs, rfl, hxs⟩ := hx.agg_inv
  split at h
  ·rename_i hn
   split at h
   ·rename_i d hd
    obtain ⟨y, hy, hv⟩ := run_part (w := w) hd hxs h
    refine ⟨y, ?_, hv⟩
    unfold Instr.index
    rw [run_bind_ok (e := asIntOf _) (v := (k, n)) rfl, run_bind_ok (run_und hu)]
    simp only [hn, and_self, if_true]
    rw [run_bind_ok (run_size hd)]
    exact hy
   cases h
  cases h
 ·rename_i s k n hu
  rw [hi.int_inv, hx.str_inv]
  split at h
  ·rename_i hn
   injection h with h
   subst h
   refine ⟨_, ?_, .int _ _⟩
   unfold Instr.index
   rw [run_bind_ok (e := asIntOf _) (v := (k, n)) rfl, run_bind_ok (run_und hu)]
   have hlt : n.toNat < s.size := by omega
   have hg : s[n.toNat]? = some (s[n.toNat]'hlt) := by simp [hlt]
   simp only [hn.1, if_true, hg]
   rfl
  cases h
 cases h
theorem bytesOfPV_map : ∀ (l : List PV) (ns : List Int), bytesOfPV l = some ns → l = ns.map (PV.int .u8) := by
 intro l
 induction l with
 | nil => intro ns h; injection h with h; subst h; rfl
 | cons p l ih =>
  intro ns h
  cases p with
  | int k n =>
   cases k with
   | u8 =>
    simp only [bytesOfPV, Option.map_eq_some_iff] at h
    obtain ⟨m, hm, rfl⟩ := h
    rw [ih m hm]
    rfl
   | _ => cases h
  | _ => cases h
theorem bytesRow_ok {σ : Sg} {l : List PV} {own : Own} {ns : List Int} {x' : Value} (hs : SR Ψ σ w) (hx : VR Ψ (.isl l own) x') (h : bytesOfPV l = some ns) : ∃ a n c, x' = .slice a n c ∧ (Conv.bytesToString (.slice a n c)).run P w = .ok (.string (bytesStr ns)) w := by
 have hl := bytesOfPV_map l ns h
 cases hx with
 | islnil own a ho =>
  injection h with h
  subst h
  refine ⟨a, 0, 0, rfl, ?_⟩
  cases a with
  | none => rfl
  | some a => exact run_bytesToString w a 0 0 [] (by simp [loadCells, loadCellsFrom])
 | isl es elems own b o cap vals hes h1 h2 hc ho =>
  refine ⟨_, _, _, rfl, ?_⟩
  have hv : ∀ k n, ns[k]? = some n → w.cell? ⟨b, o + k, none⟩ = some (.int .u8 n) := by
   intro k n hk
   have hk' : l[k]? = some (.int .u8 n) := by rw [hl, List.getElem?_map, hk]; rfl
   have e1 : es = 1 := (hes k _ hk').symm
   have e2 := h1 k _ 0 (.int .u8 n) hk' rfl
   have e3 := (h2 k _ 0 (.int .u8 n) hk' rfl).int_inv
   rw [e3, e1, Nat.mul_one, Nat.add_zero] at e2
   exact hs.imm _ _ _ e2
  refine run_bytesToString w ⟨b, o, none⟩ l.length cap ns ?_
  have := run_loadCells (P := P) (w := w) b o (ns.map (Value.int .u8)) (fun k hk => by
   have hk' : k < ns.length := by simpa using hk
   have := hv k ns[k] (List.getElem?_eq_getElem hk')
   simpa using this)
  rw [List.length_map] at this
  rw [hl, List.length_map]
  exact this
theorem convPV_ok {σ : Sg} {s d : TypeId} {x v : PV} (hs : SR Ψ σ w) (h : convPV P s d x = some v) {x' : Value} (hx : VR Ψ x x') : ∃ y, (convert s d x').run P w = .ok y w ∧ VR Ψ v y := by
 unfold convPV at h
 split at h
 ·rename_i d0 k k' n h1 h2
  injection h with h
  subst h
  rw [hx.int_inv]
  refine ⟨_, ?_, .int _ _⟩
  unfold convert
  rw [run_bind_ok (run_und h1), run_bind_ok (run_und h2)]
  rfl
 ·cases h
 ·rename_i b h1 h2
  injection h with h
  subst h
  rw [hx.str_inv]
  refine ⟨_, ?_, .str _⟩
  unfold convert
  rw [run_bind_ok (run_und h1), run_bind_ok (run_und h2)]
  rfl
 ·rename_i e l own h1 h2
  split at h
  ·rename_i he
   simp only [Option.map_eq_some_iff] at h
   obtain ⟨ns, hn, rfl⟩ := h
   obtain ⟨a, n, c, rfl, hr⟩ := bytesRow_ok (P := P) hs hx hn
   exact ⟨_, (run_convert_bytes_string w s d e a n c h1 he h2).trans hr, .str _⟩
  cases h
 cases h
theorem unPV_ok {op : UnOp} {x v : PV} (h : unPV op x = some v) {x' : Value} (hx : VR Ψ x x') : ∃ y, (Op.unary op x').run P w = .ok y w ∧ VR Ψ v y := by
 unfold unPV at h
 split at h
 ·injection h with h; subst h; rw [hx.int_inv]; exact ⟨_, rfl, .int _ _⟩
 ·injection h with h; subst h; rw [hx.bool_inv]; exact ⟨_, rfl, .bool _⟩
 cases h
end
def bnd (x : Option PV) (dflt : Nat) : Option Nat :=
 match x with
 | none => some dflt
 | some (.int _ n) => if 0 ≤ n then some n.toNat else none
 | _ => none
def sliceOwn (own : Own) (lo h len : Nat) : Own :=
 if h = len then own else .ro
def slicePV (P : Program) (t : TypeId) (x : PV) (lo hi mx : Option PV) : Option PV :=
  match P.underlying t, x with
  | some (.slice e), .isl l own =>
    match P.underlying e, bnd lo 0, bnd hi l.length with
    | some _, some lo, some h => if lo ≤ h ∧ h ≤ l.length ∧ (lo = 0 ∨ l.all (fun el => el.cells.length == P.cellsOf e) = true) then
        (match mx with
         | none => some (.isl ((l.drop lo).take (h - lo)) (sliceOwn own lo h l.length))
         | some m => match hi, bnd (some m) 0 with
           | some _, some m => if h = m then some (.isl ((l.drop lo).take (h - lo)) .exact) else none
           | _, _ => none) else none
    | _, _, _ => none
  | some .string, .str s =>
    match bnd lo 0, bnd hi s.size, mx with
    | some lo, some h, none => if lo ≤ h ∧ h ≤ s.size then some (.str (s.extract lo h)) else none
    | _, _, _ => none
  | some (.array n e), .ptr id off =>
    match P.underlying e, bnd lo 0, bnd hi n, mx with
    | some _, some lo, some h, none => if lo ≤ h ∧ h ≤ n then (if lo = h then some (.isl [] .ro) else some (.msl id (off + lo * P.cellsOf e) (h - lo))) else none
    | _, _, _, _ => none
  | some (.slice e), .msl id off len =>
    match P.underlying e, bnd lo 0, bnd hi len, mx with
    | some _, some lo, some h, none => if lo ≤ h ∧ h ≤ len then (if lo = h then some (.isl [] .ro) else some (.msl id (off + lo * P.cellsOf e) (h - lo))) else none
    | _, _, _, _ => none
  | some (.slice e), .gsl id len es =>
    match P.underlying e, bnd lo 0, bnd hi len, mx with
    | some _, some lo, some h, none => if lo ≤ h ∧ h ≤ len then (if lo = 0 then some (.gsl id h es) else if lo = h then some (.isl [] .ro) else some (.msl id (lo * P.cellsOf e) (h - lo))) else none
    | _, _, _, _ => none
  | some (.slice e), .gnil =>
    match P.underlying e, bnd lo 0, bnd hi 0, mx with
    | some _, some lo, some h, none => if lo = 0 ∧ h = 0 then some .gnil else none
    | _, _, _, _ => none
  | _, _ => none
section
variable {P : Program} {w : World} {Ψ : Ty}
/-- A bound as Go has it. -/
def BndOK (x : Option PV) (x' : Option Value) : Prop :=
 match x, x' with
 | none, none => True
 | some p, some v => VR Ψ p v
 | _, _ => False
theorem run_sliceBound {x : PV} {x' : Value} (hx : VR Ψ x x') {d h y : Nat} (hb : bnd (some x) d = some h) (hy : h ≤ y) (code : BoundsCode) : (Instr.sliceBound x' y code).run P w = .ok h w := by
 unfold bnd at hb
 split at hb
 ·rename_i e; cases e
 ·rename_i k n e
  injection e with e
  subst e
  rw [hx.int_inv]
  split at hb
  ·rename_i hn
   injection hb with hb
   subst hb
   unfold Instr.sliceBound
   rw [run_bind_ok (e := asIntOf _) (v := (k, n)) rfl]
   simp only
   rw [if_pos ⟨hn, by omega⟩]
   rfl
  cases hb
 cases hb
theorem run_sliceBounds {lo hi : Option PV} {lo' hi' : Option Value} (h1 : BndOK (Ψ := Ψ) lo lo') (h2 : BndOK (Ψ := Ψ) hi hi') {l h len cap : Nat} (b1 : bnd lo 0 = some l) (b2 : bnd hi len = some h)
 (hl : l ≤ h) (hh : h ≤ len) (hc : len ≤ cap) (s : Bool) : (Instr.sliceBounds s len cap lo' hi' none).run P w = .ok (l, h, cap) w := by
 unfold Instr.sliceBounds
 simp only
 rw [run_bind_ok (run_pure _)]
 have e2 : (match hi', (none : Option Value) with
  | some v, some _ => Instr.sliceBound v cap .slice3B
  | some v, none => Instr.sliceBound v cap (if s then .sliceAcap else .sliceAlen)
  | none, none => pure len
  | none, some _ => stuck "Slice: max without high").run P w = .ok h w := by
  cases hi' with
  | none =>
   cases hi with
   | none => simp only [bnd] at b2; injection b2 with b2; subst b2; rfl
   | some p => exact h2.elim
  | some v =>
   cases hi with
   | none => exact h2.elim
   | some p => exact run_sliceBound h2 b2 (by omega) _
 have e1 : (match lo' with
  | some v => Instr.sliceBound v h .sliceB
  | none => pure 0).run P w = .ok l w := by
  cases lo' with
  | none =>
   cases lo with
   | none => simp only [bnd] at b1; injection b1 with b1; subst b1; rfl
   | some p => exact h1.elim
  | some v =>
   cases lo with
   | none => exact h1.elim
   | some p => exact run_sliceBound h1 b1 hl _
 cases hi' with
 | none =>
  simp only at e2 ⊢
  rw [run_bind_ok e2]
  cases lo' with
  | none => simp only at e1 ⊢; rw [run_bind_ok e1]; rfl
  | some v => simp only [Option.isSome_none, Bool.false_eq_true, if_false] at e1 ⊢; rw [run_bind_ok e1]; rfl
 | some v' =>
  simp only at e2 ⊢
  rw [run_bind_ok e2]
  cases lo' with
  | none => simp only at e1 ⊢; rw [run_bind_ok e1]; rfl
  | some v => simp only [Option.isSome_none, Bool.false_eq_true, if_false] at e1 ⊢; rw [run_bind_ok e1]; rfl
theorem run_sliceBounds3 {lo : Option PV} {hi mx : PV} {lo' : Option Value} {hi' mx' : Value} (h1 : BndOK (Ψ := Ψ) lo lo') (h2 : VR Ψ hi hi') (h3 : VR Ψ mx mx') {l h len cap : Nat} (b1 : bnd lo 0 = some l) (b2 : bnd (some hi) len = some h)
 (b3 : bnd (some mx) 0 = some h) (hl : l ≤ h) (hh : h ≤ len) (hc : len ≤ cap) : (Instr.sliceBounds true len cap lo' (some hi') (some mx')).run P w = .ok (l, h, h) w := by
 unfold Instr.sliceBounds
 simp only [if_true]
 rw [run_bind_ok (run_sliceBound h3 b3 (by omega) _), run_bind_ok (run_sliceBound h2 b2 (Nat.le_refl _) _)]
 cases lo' with
 | none =>
  cases lo with
  | none => simp only [bnd] at b1; injection b1 with b1; subst b1; rfl
  | some p => exact h1.elim
 | some v =>
  cases lo with
  | none => exact h1.elim
  | some p => simp only [Option.isSome_some, if_true]; rw [run_bind_ok (run_sliceBound h1 b1 hl _)]; rfl
theorem isl_cut {es o lo n : Nat} {l : List PV} {b cap len : Nat} {vals : Nat → Nat → Value} {own : Own}
 (hs : ∀ (k : Nat) (e : PV), l[k]? = some e → e.cells.length = es)
 (h1 : ∀ (k : Nat) (e : PV) (j : Nat) (p : PV), l[k]? = some e → e.cells[j]? = some p → Ψ.imm b (o + k * es + j) = some (vals k j))
 (h2 : ∀ (k : Nat) (e : PV) (j : Nat) (p : PV), l[k]? = some e → e.cells[j]? = some p → VR Ψ p (vals k j))
 (hlen : len = ((l.drop lo).take n).length) (hc : len ≤ cap) (ho : OwnOK Ψ own b (o + lo * es) len cap es) :
 VR Ψ (.isl ((l.drop lo).take n) own) (.slice (some ⟨b, o + lo * es, none⟩) len cap) := by
 subst hlen
 have tk : ∀ (k : Nat) (e : PV), ((l.drop lo).take n)[k]? = some e → l[lo + k]? = some e := by
  intro k e hk
  rw [List.getElem?_take] at hk
  split at hk
  ·rw [List.getElem?_drop] at hk; exact hk
  cases hk
 refine .isl es _ own b (o + lo * es) cap (fun k j => vals (lo + k) j) (fun k e hk => hs _ e (tk k e hk)) (fun k e j p hk hj => ?_) (fun k e j p hk hj => h2 _ e j p (tk k e hk) hj) hc ho
 rw [← h1 (lo + k) e j p (tk k e hk) hj, Nat.add_mul]
 congr 1
 omega
theorem isl_empty {own : Own} (b o cap : Nat) (ho : own = .ro ∨ (own = .exact ∧ cap = 0)) : VR Ψ (.isl [] own) (.slice (some ⟨b, o, none⟩) 0 cap) :=
 .isl 0 [] own b o cap (fun _ _ => undef) (fun k e h => by simp at h) (fun k e j p h => by simp at h) (fun k e j p h => by simp at h) (Nat.zero_le _)
  (by rcases ho with rfl | ⟨rfl, rfl⟩ <;> simp [OwnOK])
theorem sliceOwn_cases (own : Own) (lo h len : Nat) : (sliceOwn own lo h len = .ro) ∨ (sliceOwn own lo h len = own ∧ h = len) := by
 unfold sliceOwn
 split
 ·rename_i e
  exact .inr ⟨rfl, e⟩
 exact .inl rfl
theorem OwnOK.toNil {own : Own} {b o len cap es : Nat} (h : OwnOK Ψ own b o len cap es) : OwnNil Ψ own := by
 cases own with
 | ro => trivial
 | exact => trivial
 | tok r n e => exact ⟨_, h.2⟩
theorem OwnOK.cutFront {own : Own} {b o len cap es lo : Nat} (h : OwnOK Ψ own b o len cap es) (hl : lo ≤ len) (hc : len ≤ cap) : OwnOK Ψ own b (o + lo * es) (len - lo) (cap - lo) es := by
 cases own with
 | ro => trivial
 | exact =>
  have : cap = len := h
  subst this
  rfl
 | tok r n e =>
  refine ⟨h.1, ?_⟩
  have h1 : o + lo * es + (len - lo) * es = o + len * es := by
   rw [Nat.add_assoc, ← Nat.add_mul]
   congr 2
   omega
  have h2 : o + lo * es + (cap - lo) * es = o + cap * es := by
   rw [Nat.add_assoc, ← Nat.add_mul]
   congr 2
   omega
  rw [h1, h2]
  exact h.2
/-- What is cut out of a row, at the address that Go gives it. -/
theorem isl_sliced {l : List PV} {own' : Own} {b o len cap lo h es s m : Nat} {vals : Nat → Nat → Value}
 (hs : ∀ (k : Nat) (e : PV), l[k]? = some e → e.cells.length = es)
 (h1 : ∀ (k : Nat) (e : PV) (j : Nat) (p : PV), l[k]? = some e → e.cells[j]? = some p → Ψ.imm b (o + k * es + j) = some (vals k j))
 (h2 : ∀ (k : Nat) (e : PV) (j : Nat) (p : PV), l[k]? = some e → e.cells[j]? = some p → VR Ψ p (vals k j))
 (hlen : l.length = len) (hlh : lo ≤ h) (hh : h ≤ len) (hm : h ≤ m) (hall : lo = 0 ∨ l.all (fun el => el.cells.length == s) = true)
 (hcap : len ≤ cap) (ho : own' = .ro ∨ (own' = .exact ∧ m = h) ∨ (h = len ∧ m = cap ∧ OwnOK Ψ own' b o len cap es)) :
 VR Ψ (.isl ((l.drop lo).take (h - lo)) own') (.slice (some (if m = lo then ⟨b, o, none⟩ else ⟨b, o + lo * s, none⟩)) (h - lo) (m - lo)) := by
 have hl0 : h - lo = ((l.drop lo).take (h - lo)).length := by simp; omega
 by_cases hz : lo = 0
 ·subst hz
  have ha : (if m = 0 then (⟨b, o, none⟩ : Addr) else ⟨b, o + 0 * s, none⟩) = ⟨b, o + 0 * es, none⟩ := by split <;> simp
  rw [ha]
  refine isl_cut hs h1 h2 hl0 (by omega) ?_
  rcases ho with rfl | ⟨rfl, rfl⟩ | ⟨rfl, rfl, hoo⟩
  ·trivial
  ·rfl
  simpa using hoo
 have hes : lo < l.length → s = es := by
  intro hlt
  have hall' := hall.resolve_left hz
  rw [List.all_eq_true] at hall'
  have := hall' (l[lo]'hlt) (List.getElem_mem _)
  simp at this
  rw [← this]
  exact hs lo _ (by simp)
 by_cases hml : m = lo
 ·rw [if_pos hml]
  have he : h = lo := by omega
  have : (l.drop lo).take (h - lo) = [] := by rw [he]; simp
  rw [this, he, hml, Nat.sub_self]
  refine .islnil _ _ ?_
  rcases ho with rfl | ⟨rfl, _⟩ | ⟨_, _, hoo⟩
  ·trivial
  ·trivial
  exact hoo.toNil
 rw [if_neg hml]
 by_cases hlt : lo < l.length
 ·rw [hes hlt]
  refine isl_cut hs h1 h2 hl0 (by omega) ?_
  rcases ho with rfl | ⟨rfl, rfl⟩ | ⟨rfl, rfl, hoo⟩
  ·trivial
  ·rfl
  exact hoo.cutFront hlh hcap
 have he : h = lo := by omega
 have hes0 : s = es := by
  have hall' := hall.resolve_left hz
  rw [List.all_eq_true] at hall'
  have h0l : 0 < l.length := by omega
  have := hall' (l[0]'h0l) (List.getElem_mem _)
  simp at this
  rw [← this]
  exact hs 0 _ (by simp)
 have : (l.drop lo).take (h - lo) = [] := by rw [he]; simp
 rw [this]
 have hz0 : h - lo = 0 := by omega
 rw [hz0]
 refine .isl es [] own' b (o + lo * s) (m - lo) (fun _ _ => undef) (fun k e h => by simp at h) (fun k e j p h => by simp at h) (fun k e j p h => by simp at h) (Nat.zero_le _) ?_
 rcases ho with rfl | ⟨rfl, rfl⟩ | ⟨rfl, rfl, hoo⟩
 ·trivial
 ·exact hz0
 rw [hes0]
 have := hoo.cutFront hlh hcap
 rw [hz0] at this
 exact this
theorem slicePV_ok {t : TypeId} {x v : PV} {lo hi mx : Option PV} (h : slicePV P t x lo hi mx = some v) {x' : Value} {lo' hi' mx' : Option Value} (hx : VR Ψ x x')
 (k1 : BndOK (Ψ := Ψ) lo lo') (k2 : BndOK (Ψ := Ψ) hi hi') (k3 : BndOK (Ψ := Ψ) mx mx') : ∃ y, (Instr.sliceAt t x' lo' hi' mx').run P w = .ok y w ∧ VR Ψ v y := by
 unfold slicePV at h
 split at h
 ·rename_i e l own hu
  split at h
  ·rename_i d l0 h0 hd b1 b2
   split at h
   ·rename_i hlh
    obtain ⟨hlh1, hlh2, hall⟩ := hlh
    have run1 : ∀ (a : Option Addr) (cap m : Nat), (Instr.sliceBounds true l.length cap lo' hi' mx').run P w = .ok (l0, h0, m) w →
     (Instr.sliceAt t (.slice a l.length cap) lo' hi' mx').run P w = .ok (.slice (if m = l0 then a else a.map (·.add (l0 * P.cellsOf e))) (h0 - l0) (m - l0)) w := by
     intro a cap m hb
     unfold Instr.sliceAt
     rw [run_bind_ok (run_und hu)]
     simp only
     unfold Instr.slice
     rw [run_bind_ok (run_und hu)]
     simp only
     rw [run_bind_ok hb]
     simp only
     rw [run_bind_ok (run_size hd)]
     rfl
    have hmap : ∀ b o m : Nat, (if m = l0 then some (⟨b, o, none⟩ : Addr) else (some (⟨b, o, none⟩ : Addr)).map (·.add (l0 * P.cellsOf e))) = some (if m = l0 then ⟨b, o, none⟩ else ⟨b, o + l0 * P.cellsOf e, none⟩) := by
     intro b o m; split <;> simp
    split at h
    ·injection h with h
     subst h
     cases mx' with
     | some m => exact k3.elim
     | none =>
     cases hx with
     | islnil own a0 ho =>
      simp at hlh2
      subst hlh2
      have e1 : l0 = 0 := by omega
      subst e1
      refine ⟨_, run1 a0 0 0 (run_sliceBounds k1 k2 b1 b2 (Nat.le_refl _) (Nat.zero_le _) (Nat.le_refl _) true), ?_⟩
      simp only [List.drop_nil, List.take_nil, sliceOwn, List.length_nil, if_true, Nat.sub_self]
      exact .islnil _ _ ho
     | isl es _ _ b o cap vals hs h1 h2 hcap ho =>
      refine ⟨_, run1 (some ⟨b, o, none⟩) cap cap (run_sliceBounds k1 k2 b1 b2 hlh1 hlh2 hcap true), ?_⟩
      rw [hmap]
      refine isl_sliced hs h1 h2 rfl hlh1 hlh2 (by omega) hall (cap := cap) hcap ?_
      rcases sliceOwn_cases own l0 h0 l.length with e | ⟨e, e1⟩
      ·exact .inl e
      rw [e]
      exact .inr (.inr ⟨e1, rfl, ho⟩)
    rename_i m
    split at h
    ·rename_i hp mv hmb
     split at h
     ·rename_i hmh
      injection h with h
      subst h hmh
      cases mx' with
      | none => exact k3.elim
      | some m' =>
      cases hi' with
      | none => exact k2.elim
      | some h' =>
      cases hx with
      | islnil own a0 ho =>
       simp at hlh2
       subst hlh2
       have e1 : l0 = 0 := by omega
       subst e1
       refine ⟨_, run1 a0 0 0 (run_sliceBounds3 k1 k2 k3 b1 b2 hmb (Nat.le_refl _) (Nat.zero_le _) (Nat.le_refl _)), ?_⟩
       simp only [List.drop_nil, List.take_nil, if_true, Nat.sub_self]
       exact .islnil _ _ trivial
      | isl es _ _ b o cap vals hs h1 h2 hcap ho =>
       refine ⟨_, run1 (some ⟨b, o, none⟩) cap h0 (run_sliceBounds3 k1 k2 k3 b1 b2 hmb hlh1 hlh2 hcap), ?_⟩
       rw [hmap]
       exact isl_sliced hs h1 h2 rfl hlh1 hlh2 (Nat.le_refl _) hall (cap := cap) hcap (.inr (.inl ⟨rfl, rfl⟩))
     cases h
    cases h
   cases h
  cases h
 ·rename_i s hu
  split at h
  ·rename_i l0 h0 b1 b2
   split at h
   ·rename_i hlh
    injection h with h
    subst h
    rw [hx.str_inv]
    cases mx' with
    | some m => exact k3.elim
    | none =>
    refine ⟨_, ?_, .str _⟩
    unfold Instr.sliceAt
    rw [run_bind_ok (run_und hu)]
    simp only
    unfold Instr.slice
    rw [run_bind_ok (run_und hu)]
    simp only [Option.isSome_none, Bool.false_eq_true, if_false]
    rw [run_bind_ok (run_sliceBounds k1 k2 b1 b2 hlh.1 hlh.2 (Nat.le_refl _) false)]
    rfl
   cases h
  cases h
 ·rename_i n e id off hu
  obtain ⟨b, hb, hz', rfl⟩ := hx.ptr_inv
  split at h
  ·rename_i d l0 h0 hd b1 b2
   cases mx' with
   | some m => exact k3.elim
   | none =>
   split at h
   ·rename_i hlh
    have hrun : (Instr.sliceAt t (.pointer (some ⟨b, off, none⟩)) lo' hi' none).run P w = .ok (.slice (some (if n = l0 then ⟨b, off, none⟩ else ⟨b, off + l0 * P.cellsOf e, none⟩)) (h0 - l0) (n - l0)) w := by
     unfold Instr.sliceAt
     rw [run_bind_ok (run_und hu)]
     simp only
     rw [run_bind_ok (e := Instr.sureAddr _) (v := ⟨b, off, none⟩) rfl, run_bind_ok (run_sliceBounds k1 k2 b1 b2 hlh.1 hlh.2 (Nat.le_refl _) false)]
     simp only
     rw [run_bind_ok (run_size hd)]
     simp
    refine ⟨_, hrun, ?_⟩
    split at h
    ·rename_i he
     injection h with h
     subst h he
     rw [Nat.sub_self]
     split
     ·exact isl_empty _ _ _ (.inl rfl)
     exact isl_empty _ _ _ (.inl rfl)
    rename_i he
    injection h with h
    subst h
    rw [if_neg (by omega)]
    exact .msl _ _ _ _ _ hb hz' (by omega)
   cases h
  cases h
 ·rename_i e id off len hu
  split at h
  ·rename_i d l0 h0 hd b1 b2
   cases mx' with
   | some m => exact k3.elim
   | none =>
   split at h
   ·rename_i hlh
    cases hx with
    | msl _ _ _ b cap hb hz' hc =>
    have hrun : (Instr.sliceAt t (.slice (some ⟨b, off, none⟩) len cap) lo' hi' none).run P w = .ok (.slice (some (if cap = l0 then ⟨b, off, none⟩ else ⟨b, off + l0 * P.cellsOf e, none⟩)) (h0 - l0) (cap - l0)) w := by
     unfold Instr.sliceAt
     rw [run_bind_ok (run_und hu)]
     simp only
     unfold Instr.slice
     rw [run_bind_ok (run_und hu)]
     simp only
     rw [run_bind_ok (run_sliceBounds k1 k2 b1 b2 hlh.1 hlh.2 hc true)]
     simp only
     rw [run_bind_ok (run_size hd)]
     split <;> simp [*]
    refine ⟨_, hrun, ?_⟩
    split at h
    ·rename_i he
     injection h with h
     subst h he
     rw [Nat.sub_self]
     split
     ·exact isl_empty _ _ _ (.inl rfl)
     exact isl_empty _ _ _ (.inl rfl)
    rename_i he
    injection h with h
    subst h
    rw [if_neg (by omega)]
    exact .msl _ _ _ _ _ hb hz' (by omega)
   cases h
  cases h
 ·rename_i e id len es hu
  split at h
  ·rename_i d l0 h0 hd b1 b2
   cases mx' with
   | some m => exact k3.elim
   | none =>
   split at h
   ·rename_i hlh
    cases hx with
    | gsl _ _ _ b cap hb hzn hz' hc =>
    have hrun : (Instr.sliceAt t (.slice (some ⟨b, 0, none⟩) len cap) lo' hi' none).run P w = .ok (.slice (some (if cap = l0 then ⟨b, 0, none⟩ else ⟨b, 0 + l0 * P.cellsOf e, none⟩)) (h0 - l0) (cap - l0)) w := by
     unfold Instr.sliceAt
     rw [run_bind_ok (run_und hu)]
     simp only
     unfold Instr.slice
     rw [run_bind_ok (run_und hu)]
     simp only
     rw [run_bind_ok (run_sliceBounds k1 k2 b1 b2 hlh.1 hlh.2 hc true)]
     simp only
     rw [run_bind_ok (run_size hd)]
     split <;> simp [*]
    refine ⟨_, hrun, ?_⟩
    split at h
    ·rename_i he
     injection h with h
     subst h he
     rw [Nat.zero_mul, Nat.sub_zero, Nat.sub_zero, ite_self]
     exact .gsl _ _ _ b cap hb hzn hz' (by omega)
    rename_i he
    split at h
    ·rename_i he2
     injection h with h
     subst h he2
     rw [Nat.sub_self]
     split
     ·exact isl_empty _ _ _ (.inl rfl)
     exact isl_empty _ _ _ (.inl rfl)
    rename_i he2
    injection h with h
    subst h
    rw [if_neg (by omega), Nat.zero_add]
    exact .msl _ _ _ _ _ hb hz' (by omega)
   cases h
  cases h
 ·rename_i e hu
  split at h
  ·rename_i d l0 h0 hd b1 b2
   cases mx' with
   | some m => exact k3.elim
   | none =>
   split at h
   ·rename_i hlh
    obtain ⟨rfl, rfl⟩ := hlh
    injection h with h
    subst h
    cases hx with
    | gnil a =>
    have hrun : ∃ a', (Instr.sliceAt t (.slice a 0 0) lo' hi' none).run P w = .ok (.slice a' 0 0) w := by
     unfold Instr.sliceAt
     rw [run_bind_ok (run_und hu)]
     simp only
     unfold Instr.slice
     rw [run_bind_ok (run_und hu)]
     cases a with
     | none =>
      simp only
      rw [run_bind_ok (run_sliceBounds k1 k2 b1 b2 (Nat.le_refl _) (Nat.le_refl _) (Nat.le_refl _) true)]
      simp only
      rw [run_bind_ok (run_size hd)]
      exact ⟨_, rfl⟩
     | some a =>
      simp only
      rw [run_bind_ok (run_sliceBounds k1 k2 b1 b2 (Nat.le_refl _) (Nat.le_refl _) (Nat.le_refl _) true)]
      simp only
      rw [run_bind_ok (run_size hd)]
      exact ⟨_, rfl⟩
    obtain ⟨a', hr⟩ := hrun
    exact ⟨_, hr, .gnil a'⟩
   cases h
  cases h
 cases h
end
def zeroPV (P : Program) (t : TypeId) : Option (List PV) :=
 match P.info? t with
 | some i => match i.zero with
  | some v => some (v.cells.toList.map constPV0)
  | none => none
 | none => none
theorem zeroPV_ok {P : Program} {w : World} {t : TypeId} {zs : List PV} (h : zeroPV P t = some zs) (Ψ : Ty) : ∃ z, (zeroValue t).run P w = .ok z w ∧ VRs Ψ zs z.cells := by
 unfold zeroPV at h
 split at h
 ·rename_i i hi
  split at h
  ·rename_i v hv
   injection h with h
   subst h
   refine ⟨v, ?_, by simp, fun j p x h1 h2 => ?_⟩
   ·simp [zeroValue, typeInfo, program, Sem.run, hi, hv, Bind.bind, Sem.bind, Pure.pure]
   simp [h2] at h1
   subst h1
   exact constPV0_ok Ψ x
  cases h
 cases h
def putCells (cs : List PV) (off : Nat) : List PV → List PV
 | [] => cs
 | v :: vs => putCells (cs.set off v) (off + 1) vs
def fillPV (place : Nat → Option (Nat × Nat)) (cs : List PV) : List (Nat × PV) → Option (List PV)
 | [] => some cs
 | (i, v) :: rest =>
  match place i with
  | none => none
  | some (off, size) => if v.cells.length = size ∧ off + size ≤ cs.length then fillPV place (putCells cs off v.cells) rest else none
theorem VRs.set {Ψ : Ty} {cs : List PV} {xs : Array Value} (h : VRs Ψ cs xs) {i : Nat} {p : PV} {x : Value} (hp : VR Ψ p x) : VRs Ψ (cs.set i p) (xs.setIfInBounds i x) := by
 refine ⟨by simp [h.1], fun j q y h1 h2 => ?_⟩
 by_cases hj : j = i
 ·subst hj
  by_cases hlt : j < cs.length
  ·rw [List.getElem?_set_self hlt] at h1
   rw [Array.getElem?_setIfInBounds_self_of_lt (by rw [h.1]; exact hlt)] at h2
   injection h1 with h1
   injection h2 with h2
   subst h1 h2
   exact hp
  rw [List.getElem?_eq_none (by simpa using hlt)] at h1; cases h1
 rw [List.getElem?_set_ne (by omega)] at h1
 rw [Array.getElem?_setIfInBounds_ne (by omega)] at h2
 exact h.2 j q y h1 h2
theorem VR.cells_vrs {Ψ : Ty} {p : PV} {x : Value} (h : VR Ψ p x) (hp : p ≠ .undef) : VRs Ψ p.cells x.cells := by
  have one : ∀ (q : PV) (y : Value), VR Ψ q y → VRs Ψ [q] #[y] := by
    intro q y hq
    refine ⟨rfl, fun j p v h1 h2 => ?_⟩
    cases j with
    | zero => simp at h1 h2; subst h1 h2; exact hq
    | succ j => simp at h1
  cases h with
  | undef => exact absurd rfl hp
  | agg cs vs hl h => exact ⟨hl, h⟩
  | bself id t b x hb hz hx => rcases hx with rfl | rfl
                               · exact one _ _ (.bself id t b _ hb hz (.inl rfl))
                               · exact one _ _ (.bself id t b _ hb hz (.inr rfl))
  | bbuf l r t x h ht =>
    have h0 := VR.bbuf l r t x h ht
    cases h <;> exact one _ _ h0
  | _ => exact one _ _ (by constructor <;> assumption)
theorem putCells_ok {Ψ : Ty} : ∀ (ps : List PV) (xs : List Value) (off k : Nat) (cs : List PV) (ys : Array Value), VRs Ψ cs ys → ps.length = xs.length →
 (∀ (j : Nat) (p : PV) (x : Value), ps[j]? = some p → xs[j]? = some x → VR Ψ p x) →
 VRs Ψ (putCells cs (off + k) ps) ((xs.zipIdx k).foldl (fun cs (c, j) => cs.setIfInBounds (off + j) c) ys) := by
 intro ps
 induction ps with
 | nil => intro xs off k cs ys h hl _; cases xs with | nil => exact h | cons => simp at hl
 | cons p ps ih =>
  intro xs off k cs ys h hl hv
  cases xs with
  | nil => simp at hl
  | cons x xs =>
   simp only [putCells, List.zipIdx_cons, List.foldl_cons]
   rw [Nat.add_assoc off k 1]
   exact ih xs off (k + 1) _ _ (h.set (hv 0 p x rfl rfl)) (by simpa using hl) (fun j q y a b => hv (j + 1) q y (by simpa using a) (by simpa using b))
theorem fill_ok {Ψ : Ty} (place : Nat → Option (Nat × Nat)) : ∀ (ps : List (Nat × PV)) (xs : List (Nat × Value)) (cs out : List PV) (ys : Array Value), VRs Ψ cs ys → fillPV place cs ps = some out →
 ps.length = xs.length → (∀ (j : Nat) (p : Nat × PV) (x : Nat × Value), ps[j]? = some p → xs[j]? = some x → p.1 = x.1 ∧ VR Ψ p.2 x.2 ∧ p.2 ≠ .undef) →
 ∃ zs, Instr.fill place ys xs = some zs ∧ VRs Ψ out zs := by
 intro ps
 induction ps with
 | nil =>
  intro xs cs out ys h hf hl _
  cases xs with
  | nil => simp only [fillPV] at hf; injection hf with hf; subst hf; exact ⟨ys, rfl, h⟩
  | cons => simp at hl
 | cons p ps ih =>
  intro xs cs out ys h hf hl hv
  cases xs with
  | nil => simp at hl
  | cons x xs =>
   obtain ⟨i, v⟩ := p
   obtain ⟨i', v'⟩ := x
   obtain ⟨h1, h2, h3⟩ := hv 0 (i, v) (i', v') rfl rfl
   simp only at h1 h2 h3
   subst h1
   simp only [fillPV] at hf
   simp only [Instr.fill]
   split at hf
   ·cases hf
   rename_i off size hpl
   rw [hpl]
   simp only
   have hc := h2.cells_vrs h3
   split at hf
   ·rename_i hh
    have e1 := hc.1
    have e2 := h.1
    have hno : ¬ (decide (v'.cells.size ≠ size) || decide (off + v'.cells.size > ys.size)) = true := by simp; omega
    rw [if_neg hno]
    have := putCells_ok v.cells v'.cells.toList off 0 cs ys h (by have := hc.1; simp [this]) (fun j q y a b => hc.2 j q y a (by simpa using b))
    simp only [Nat.add_zero] at this
    refine ih xs _ out _ ?_ hf (by simpa using hl) (fun j q y a b => hv (j + 1) q y (by simpa using a) (by simpa using b))
    rw [← Array.foldl_toList]
    simpa using this
   cases hf
def defd : PV → Bool
 | .undef => false
 | _ => true
def structPlaces (P : Program) (fs : List Field) : List (Nat × Nat) := fs.map fun f => (f.offset, P.cellsOf f.type)
def buildPV (P : Program) (t : TypeId) (parts : List (Nat × PV)) : Option PV :=
 match zeroPV P t, P.underlying t with
 | some zs, some (.struct fs) =>
  if fs.toList.all (fun f => (P.underlying f.type).isSome) && parts.all (fun p => defd p.2) then
   (fillPV (fun i => (structPlaces P fs.toList)[i]?) zs parts).map .agg else none
 | some zs, some (.array _ e) =>
  if (P.underlying e).isSome && parts.all (fun p => defd p.2) then
   (fillPV (fun i => some (i * P.cellsOf e, P.cellsOf e)) zs parts).map .agg else none
 | _, _ => none
theorem run_places {P : Program} {w : World} : ∀ (fs : List Field), fs.all (fun f => (P.underlying f.type).isSome) = true →
 (fs.mapM fun (f : Field) => (do pure (f.offset, ← sizeOf f.type) : Sem (Nat × Nat))).run P w = .ok (structPlaces P fs) w := by
 intro fs
 induction fs with
 | nil => intro _; rfl
 | cons f fs ih =>
  intro h
  simp only [List.all_cons, Bool.and_eq_true] at h
  obtain ⟨d, hd⟩ := Option.isSome_iff_exists.1 h.1
  rw [List.mapM_cons]
  have h1 : (do pure (f.offset, ← sizeOf f.type) : Sem (Nat × Nat)).run P w = .ok (f.offset, P.cellsOf f.type) w := by
   rw [run_bind_ok (run_size hd)]; rfl
  rw [run_bind_ok h1, run_bind_ok (ih h.2)]
  rfl
theorem buildPV_ok {P : Program} {w : World} {Ψ : Ty} {t : TypeId} {parts : List (Nat × PV)} {v : PV} (h : buildPV P t parts = some v) {xs : Array (Nat × Value)} (hl : parts.length = xs.size)
 (hv : ∀ (j : Nat) (p : Nat × PV) (x : Nat × Value), parts[j]? = some p → xs[j]? = some x → p.1 = x.1 ∧ VR Ψ p.2 x.2) : ∃ y, (Instr.build t xs).run P w = .ok y w ∧ VR Ψ v y := by
 have hv' : parts.all (fun p => defd p.2) = true → ∀ (j : Nat) (p : Nat × PV) (x : Nat × Value), parts[j]? = some p → xs.toList[j]? = some x → p.1 = x.1 ∧ VR Ψ p.2 x.2 ∧ p.2 ≠ .undef := by
  intro ha j p x a b
  obtain ⟨h1, h2⟩ := hv j p x a (by simpa using b)
  refine ⟨h1, h2, fun e => ?_⟩
  have := List.all_eq_true.1 ha p (List.mem_of_getElem? a)
  rw [e] at this
  cases this
 unfold buildPV at h
 split at h
 ·rename_i zs fs hz hu
  split at h
  ·rename_i ha
   simp only [Bool.and_eq_true] at ha
   obtain ⟨z, hz1, hz2⟩ := zeroPV_ok (w := w) hz Ψ
   cases hf : fillPV (fun i => (structPlaces P fs.toList)[i]?) zs parts with
   | none => rw [hf] at h; cases h
   | some out =>
    rw [hf] at h
    injection h with h
    subst h
    obtain ⟨cs, hc1, hc2⟩ := fill_ok _ _ xs.toList zs out z.cells hz2 hf (by simpa using hl) (hv' ha.2)
    refine ⟨.agg cs, ?_, .agg _ _ hc2.1 hc2.2⟩
    unfold Instr.build
    rw [run_bind_ok hz1]
    rw [run_bind_ok (run_und hu)]
    simp only
    have hp : (fs.mapM fun (f : Field) => (do pure (f.offset, ← sizeOf f.type) : Sem (Nat × Nat))).run P w = .ok (structPlaces P fs.toList).toArray w := by
     rw [Array.mapM_eq_mapM_toList]
     have := run_places (P := P) (w := w) fs.toList ha.1
     rw [show (Functor.map List.toArray (List.mapM (fun (f : Field) => (do pure (f.offset, ← sizeOf f.type) : Sem (Nat × Nat))) fs.toList)) = (List.mapM (fun (f : Field) => (do pure (f.offset, ← sizeOf f.type) : Sem (Nat × Nat))) fs.toList >>= fun l => pure l.toArray) from rfl]
     rw [run_bind_ok this]
     rfl
    rw [run_bind_ok hp]
    have : Instr.fill (fun x => (structPlaces P fs.toList).toArray[x]?) z.cells xs.toList = some cs := by
     rw [← hc1]; congr 1; funext i; simp
    simp only [this]
    rfl
  cases h
 ·rename_i zs n e hz hu
  split at h
  ·rename_i ha
   simp only [Bool.and_eq_true] at ha
   obtain ⟨z, hz1, hz2⟩ := zeroPV_ok (w := w) hz Ψ
   obtain ⟨d, hd⟩ := Option.isSome_iff_exists.1 ha.1
   cases hf : fillPV (fun i => some (i * P.cellsOf e, P.cellsOf e)) zs parts with
   | none => rw [hf] at h; cases h
   | some out =>
    rw [hf] at h
    injection h with h
    subst h
    obtain ⟨cs, hc1, hc2⟩ := fill_ok _ _ xs.toList zs out z.cells hz2 hf (by simpa using hl) (hv' ha.2)
    refine ⟨.agg cs, ?_, .agg _ _ hc2.1 hc2.2⟩
    unfold Instr.build
    rw [run_bind_ok hz1]
    rw [run_bind_ok (run_und hu)]
    simp only
    rw [run_bind_ok (run_size hd)]
    simp only [hc1]
    rfl
  cases h
 cases h
def lenPV (P : Program) (t : TypeId) (x : PV) : Option PV :=
 match P.underlying t, x with
 | some (.slice _), .isl l _ => some (.int .i64 l.length)
 | some (.slice _), .nilsl => some (.int .i64 0)
 | some (.slice _), .msl _ _ n => some (.int .i64 n)
 | some (.slice _), .gsl _ n _ => some (.int .i64 n)
 | some (.slice _), .gnil => some (.int .i64 0)
 | some (.slice _), .bbuf l _ _ => some (.int .i64 l.length)
 | some .string, .str s => some (.int .i64 s.size)
 | some (.array n _), _ => some (.int .i64 n)
 | _, _ => none
def foldMax (m : Int) : List PV → Option Int
 | [] => some m
 | p :: r => match p with
  | .int .i64 n => foldMax (max m n) r
  | _ => none
def foldMin (m : Int) : List PV → Option Int
 | [] => some m
 | p :: r => match p with
  | .int .i64 n => foldMin (min m n) r
  | _ => none
def builtinPV (P : Program) (b : Builtin) (ts : Array TypeId) (args : List PV) : Option PV :=
 match b, args with
 | .len, [x] => match ts[0]? with
  | some t => lenPV P t x
  | none => none
 | .max, .int .i64 n :: r => (foldMax n r).map (.int .i64)
 | .min, .int .i64 n :: r => (foldMin n r).map (.int .i64)
 | _, _ => none
theorem lenPV_ok {P : Program} {w : World} {Ψ : Ty} {t : TypeId} {x v : PV} (h : lenPV P t x = some v) {x' : Value} (hx : VR Ψ x x') {ts : Array TypeId} (ht : ts[0]? = some t) (ty : TypeId) :
 ∃ y, (Builtin.len_ ts ty #[x']).run P w = .ok y w ∧ VR Ψ v y := by
 unfold lenPV at h
 unfold Builtin.len_
 simp only [ht]
 split at h
 ·rename_i e l own hu
  injection h with h
  subst h
  cases hx with
  | islnil own a ho => exact ⟨_, by rw [List.getElem?_toArray, List.getElem?_cons_zero]; simp only; rw [run_bind_ok (run_und hu)]; rfl, .int _ _⟩
  | isl es _ _ b o cap vals hs h1 h2 hcap ho => exact ⟨_, by rw [List.getElem?_toArray, List.getElem?_cons_zero]; simp only; rw [run_bind_ok (run_und hu)]; rfl, .int _ _⟩
 ·rename_i e hu
  injection h with h
  subst h
  cases hx
  exact ⟨_, by rw [List.getElem?_toArray, List.getElem?_cons_zero]; simp only; rw [run_bind_ok (run_und hu)]; rfl, .int _ _⟩
 ·rename_i e id off n hu
  injection h with h
  subst h
  cases hx
  exact ⟨_, by rw [List.getElem?_toArray, List.getElem?_cons_zero]; simp only; rw [run_bind_ok (run_und hu)]; rfl, .int _ _⟩
 ·rename_i e id n es hu
  injection h with h
  subst h
  cases hx
  exact ⟨_, by rw [List.getElem?_toArray, List.getElem?_cons_zero]; simp only; rw [run_bind_ok (run_und hu)]; rfl, .int _ _⟩
 ·rename_i e hu
  injection h with h
  subst h
  cases hx
  exact ⟨_, by rw [List.getElem?_toArray, List.getElem?_cons_zero]; simp only; rw [run_bind_ok (run_und hu)]; rfl, .int _ _⟩
 ·rename_i e l r te hu
  injection h with h
  subst h
  cases hx with
  | bbuf _ _ _ _ h ht =>
   cases h with
   | islnil own a ho => exact ⟨_, by rw [List.getElem?_toArray, List.getElem?_cons_zero]; simp only; rw [run_bind_ok (run_und hu)]; rfl, .int _ _⟩
   | isl es _ _ b o cap vals hs h1 h2 hcap ho => exact ⟨_, by rw [List.getElem?_toArray, List.getElem?_cons_zero]; simp only; rw [run_bind_ok (run_und hu)]; rfl, .int _ _⟩
 ·rename_i s hu
  injection h with h
  subst h
  rw [hx.str_inv]
  exact ⟨_, by rw [List.getElem?_toArray, List.getElem?_cons_zero]; simp only; rw [run_bind_ok (run_und hu)]; rfl, .int _ _⟩
 ·rename_i n e _ hu
  injection h with h
  subst h
  exact ⟨_, by rw [List.getElem?_toArray, List.getElem?_cons_zero]; simp only; rw [run_bind_ok (run_und hu)]; rfl, .int _ _⟩
 cases h
theorem foldMax_ok {P : Program} {w : World} {Ψ : Ty} : ∀ (ps : List PV) (xs : List Value) (m r : Int), foldMax m ps = some r → ps.length = xs.length →
 (∀ (j : Nat) (p : PV) (x : Value), ps[j]? = some p → xs[j]? = some x → VR Ψ p x) → (xs.foldlM Builtin.max2 (.int .i64 m)).run P w = .ok (.int .i64 r) w := by
 intro ps
 induction ps with
 | nil =>
  intro xs m r h hl _
  cases xs with
  | nil => simp only [foldMax] at h; injection h with h; subst h; rfl
  | cons => simp at hl
 | cons p ps ih =>
  intro xs m r h hl hv
  cases xs with
  | nil => simp at hl
  | cons x xs =>
   simp only [foldMax] at h
   split at h
   ·rename_i n
    have hx := (hv 0 _ x rfl rfl).int_inv
    subst hx
    rw [List.foldlM_cons]
    have : (Builtin.max2 (.int .i64 m) (.int .i64 n)).run P w = .ok (.int .i64 (max m n)) w := by
     show (pure (Value.int .i64 (if n > m then n else m)) : Sem Value).run P w = _
     have : (if n > m then n else m) = max m n := by omega
     rw [this]; rfl
    rw [run_bind_ok this]
    exact ih xs _ r h (by simpa using hl) (fun j q y a b => hv (j + 1) q y (by simpa using a) (by simpa using b))
   cases h
theorem foldMin_ok {P : Program} {w : World} {Ψ : Ty} : ∀ (ps : List PV) (xs : List Value) (m r : Int), foldMin m ps = some r → ps.length = xs.length →
 (∀ (j : Nat) (p : PV) (x : Value), ps[j]? = some p → xs[j]? = some x → VR Ψ p x) → (xs.foldlM Builtin.min2 (.int .i64 m)).run P w = .ok (.int .i64 r) w := by
 intro ps
 induction ps with
 | nil =>
  intro xs m r h hl _
  cases xs with
  | nil => simp only [foldMin] at h; injection h with h; subst h; rfl
  | cons => simp at hl
 | cons p ps ih =>
  intro xs m r h hl hv
  cases xs with
  | nil => simp at hl
  | cons x xs =>
   simp only [foldMin] at h
   split at h
   ·rename_i n
    have hx := (hv 0 _ x rfl rfl).int_inv
    subst hx
    rw [List.foldlM_cons]
    have : (Builtin.min2 (.int .i64 m) (.int .i64 n)).run P w = .ok (.int .i64 (min m n)) w := by
     show (pure (Value.int .i64 (if n < m then n else m)) : Sem Value).run P w = _
     have : (if n < m then n else m) = min m n := by omega
     rw [this]; rfl
    rw [run_bind_ok this]
    exact ih xs _ r h (by simpa using hl) (fun j q y a b => hv (j + 1) q y (by simpa using a) (by simpa using b))
   cases h
theorem builtinPV_ok {P : Program} {w : World} {Ψ : Ty} {b : Builtin} {ts : Array TypeId} {ps : List PV} {v : PV} (h : builtinPV P b ts ps = some v) {xs : Array Value} (hx : VRs Ψ ps xs) (ty : TypeId) (cs : Array Bool) :
 ∃ y, (builtin b ts ty cs xs).run P w = .ok (.value y) w ∧ VR Ψ v y := by
 unfold builtinPV at h
 split at h
 ·rename_i x
  split at h
  ·rename_i t ht
   obtain ⟨⟨x'⟩⟩ := xs
   ·have := hx.1; simp at this
   rename_i x' l
   have hl : l = [] := by have := hx.1; simpa using this
   subst hl
   obtain ⟨y, h1, h2⟩ := lenPV_ok (w := w) h (hx.2 0 x x' rfl rfl) ht ty
   exact ⟨y, by simp only [builtin]; rw [run_bind_ok h1]; rfl, h2⟩
  cases h
 ·rename_i n r
  cases hm : foldMax n r with
  | none => rw [hm] at h; cases h
  | some m =>
   rw [hm] at h
   injection h with h
   subst h
   obtain ⟨l⟩ := xs
   cases l with
   | nil => have := hx.1; simp at this
   | cons x l =>
    have h0 := (hx.2 0 _ x rfl rfl).int_inv
    subst h0
    have hl : r.length = l.length := by have := hx.1; simp at this; omega
    have := foldMax_ok (P := P) (w := w) (Ψ := Ψ) r l n m hm hl (fun j q y a b => hx.2 (j + 1) q y (by simpa using a) (by simpa using b))
    exact ⟨_, by simp only [builtin, Builtin.max_]; rw [run_bind_ok this]; rfl, .int _ _⟩
 ·rename_i n r
  cases hm : foldMin n r with
  | none => rw [hm] at h; cases h
  | some m =>
   rw [hm] at h
   injection h with h
   subst h
   obtain ⟨l⟩ := xs
   cases l with
   | nil => have := hx.1; simp at this
   | cons x l =>
    have h0 := (hx.2 0 _ x rfl rfl).int_inv
    subst h0
    have hl : r.length = l.length := by have := hx.1; simp at this; omega
    have := foldMin_ok (P := P) (w := w) (Ψ := Ψ) r l n m hm hl (fun j q y a b => hx.2 (j + 1) q y (by simpa using a) (by simpa using b))
    exact ⟨_, by simp only [builtin, Builtin.min_]; rw [run_bind_ok this]; rfl, .int _ _⟩
 cases h
def pureOp (P : Program) (σ : Sg) (E : Env) (op : Op) : Option PV :=
 match op with
 | .move x => some (ev E x)
 | .assign x => some (ev E x)
 | .pick c a b => pickPV (ev E c) (ev E a) (ev E b)
 | .load t a => loadPV P σ t (ev E a)
 | .nilCheck x => nilCheckPV (ev E x)
 | .binOp op t x y _ => binPV P op t (ev E x) (ev E y)
 | .unOp op _ x => unPV op (ev E x)
 | .convert s d x => convPV P s d (ev E x)
 | .makeFunc fn first captured => some (.func fn (first.toList.map (ev E)) (captured.toList.map (ev E)))
 | .fieldAddr s x f => fieldAddrPV P s (ev E x) f
 | .field s x f => fieldPV P s (ev E x) f
 | .indexAddr t x i => indexAddrPV P t (ev E x) (ev E i)
 | .index t x i => indexPV P t (ev E x) (ev E i)
 | .slice t x lo hi mx => slicePV P t (ev E x) (lo.map (ev E)) (hi.map (ev E)) (mx.map (ev E))
 | .extract t i => extractPV (ev E t) i
 | .build t parts => buildPV P t (parts.toList.map fun p => (p.1, ev E p.2))
 | .call ⟨.builtin b, args, ts⟩ => builtinPV P b ts (args.toList.map (ev E))
 | _ => none
theorem evs_ok {Ψ : Ty} {E : Env} {a : Act} (h : ER Ψ E a.tmps) (xs : Array Operand) : VRs Ψ (xs.toList.map (ev E)) (xs.map a.eval) := by
 refine ⟨by simp, fun j p v h1 h2 => ?_⟩
 simp only [List.getElem?_map, Array.getElem?_toList] at h1
 simp only [Array.getElem?_map] at h2
 cases hx : xs[j]? with
 | none => rw [hx] at h1; cases h1
 | some x =>
  rw [hx] at h1 h2
  simp at h1 h2
  subst h1 h2
  exact ev_ok h x
theorem bnd_ok {Ψ : Ty} {E : Env} {a : Act} (h : ER Ψ E a.tmps) (x : Option Operand) : BndOK (Ψ := Ψ) (x.map (ev E)) (x.map a.eval) := by
 cases x with
 | none => trivial
 | some x => exact ev_ok h x
theorem pureOp_ok {P : Program} {σ : Sg} {E : Env} {o : Oper} {v : PV} (h : pureOp P σ E o.op = some v) {Ψ : Ty} {w : World} {a : Act} (hs : SR Ψ σ w) (he : ER Ψ E a.tmps) :
 ∃ x, (execOp a.eval o).run P w = .ok (.value x) w ∧ VR Ψ v x := by
 have wrap : ∀ {s : Sem Value} {x : Value}, s.run P w = .ok x w → (do pure (.value (← s)) : Sem Next).run P w = .ok (.value x) w := by
  intro s x hsx; rw [run_bind_ok hsx]; rfl
 obtain ⟨dst, op, type, pos, after, guard⟩ := o
 simp only at h
 unfold pureOp at h
 unfold execOp
 split at h
 ·injection h with h; subst h; exact ⟨_, rfl, ev_ok he _⟩
 ·injection h with h; subst h; exact ⟨_, rfl, ev_ok he _⟩
 ·rename_i c x y
  unfold pickPV at h
  split at h
  ·rename_i t ht
   injection h with h
   subst h
   have hc := ev_ok he c
   rw [ht] at hc
   simp only [hc.bool_inv]
   rw [run_bind_ok (e := asBool _) (v := t) rfl]
   refine ⟨_, run_pure _, ?_⟩
   cases t
   ·exact ev_ok he y
   exact ev_ok he x
  cases h
 ·obtain ⟨y, h1, h2⟩ := loadPV_ok h hs (ev_ok he _); exact ⟨y, wrap h1, h2⟩
 ·rename_i x
  have hx := ev_ok he x
  simp only
  unfold nilCheckPV at h
  split at h
  ·rename_i e; rw [e] at hx; injection h with h; subst h
   obtain ⟨b, hb, hz, hv⟩ := hx.ptr_inv
   rw [hv]; exact ⟨_, rfl, hv ▸ hx⟩
  ·rename_i e; rw [e] at hx; injection h with h; subst h
   generalize a.eval x = z at hx
   cases hx; exact ⟨_, rfl, by constructor <;> assumption⟩
  ·rename_i e; rw [e] at hx; injection h with h; subst h
   generalize a.eval x = z at hx
   cases hx; exact ⟨_, rfl, by constructor <;> assumption⟩
  ·rename_i e; rw [e] at hx; injection h with h; subst h
   generalize a.eval x = z at hx
   cases hx; exact ⟨_, rfl, by constructor <;> assumption⟩
  cases h
 ·obtain ⟨y, h1, h2⟩ := binPV_ok (w := w) h (ev_ok he _) (ev_ok he _) _ _; exact ⟨y, wrap h1, h2⟩
 ·obtain ⟨y, h1, h2⟩ := unPV_ok (P := P) (w := w) h (ev_ok he _); exact ⟨y, wrap h1, h2⟩
 ·obtain ⟨y, h1, h2⟩ := convPV_ok (w := w) hs h (ev_ok he _); exact ⟨y, wrap h1, h2⟩
 ·rename_i fn first captured
  injection h with h
  subst h
  obtain ⟨a1, a2⟩ := evs_ok he first
  obtain ⟨b1, b2⟩ := evs_ok he captured
  exact ⟨_, rfl, .func _ _ _ _ _ a1 b1 a2 b2⟩
 ·obtain ⟨y, h1, h2⟩ := fieldAddrPV_ok (w := w) h (ev_ok he _); exact ⟨y, wrap h1, h2⟩
 ·obtain ⟨y, h1, h2⟩ := fieldPV_ok (w := w) h (ev_ok he _); exact ⟨y, wrap h1, h2⟩
 ·obtain ⟨y, h1, h2⟩ := indexAddrPV_ok (w := w) h (ev_ok he _) (ev_ok he _); exact ⟨y, wrap h1, h2⟩
 ·obtain ⟨y, h1, h2⟩ := indexPV_ok (w := w) h (ev_ok he _) (ev_ok he _); exact ⟨y, wrap h1, h2⟩
 ·obtain ⟨y, h1, h2⟩ := slicePV_ok (w := w) h (ev_ok he _) (bnd_ok he _) (bnd_ok he _) (bnd_ok he _); exact ⟨y, wrap h1, h2⟩
 ·rename_i t i
  have ht := ev_ok he t
  unfold extractPV at h
  split at h
  ·rename_i vs e
   rw [e] at ht
   obtain ⟨xs, hv, h1, h2⟩ := ht.tuple_inv
   have hi : i < xs.size := by rw [h1]; exact (List.getElem?_eq_some_iff.1 h).1
   refine ⟨xs[i], ?_, h2 i v _ h (by simp [hi])⟩
   simp only [hv]
   refine wrap ?_
   simp [Instr.extract, hi]
  cases h
 ·rename_i t parts
  obtain ⟨y, h1, h2⟩ := buildPV_ok (w := w) (Ψ := Ψ) h (xs := parts.map fun (p : Nat × Operand) => (p.1, a.eval p.2)) (by simp) (fun j p x k1 k2 => by
   simp only [List.getElem?_map, Array.getElem?_toList] at k1
   simp only [Array.getElem?_map] at k2
   cases hx : parts[j]? with
   | none => rw [hx] at k1; cases k1
   | some q =>
    rw [hx] at k1 k2
    simp at k1 k2
    subst k1 k2
    exact ⟨rfl, ev_ok he _⟩)
  exact ⟨y, wrap h1, h2⟩
 ·rename_i b args ts
  obtain ⟨y, h1, h2⟩ := builtinPV_ok (w := w) h (evs_ok he args) type (args.map fun | .const _ => true | _ => false)
  refine ⟨y, ?_, h2⟩
  simp only [resolve]
  rw [run_bind_ok (run_pure _)]
  exact h1
 cases h
theorem run_newRow {P : Program} {w : World} (e : TypeId) (c : Array Value) : (newRow e c).run P w = .ok ⟨w.heap.size, 0, none⟩ (w.alloc (.cells c e)) := rfl
/-- What an operation that makes or writes memory leaves. -/
def Did (P : Program) (s : Sem Value) (Ψ : Ty) (w : World) (v : PV) (σ' : Sg) : Prop :=
 ∃ x w' Ψ', s.run P w = .ok x w' ∧ Ψ.le Ψ' ∧ SR Ψ' σ' w' ∧ VR Ψ' v x ∧ Below Ψ.base w w'
theorem alloc_ok {P : Program} {Ψ : Ty} {σ : Sg} {w : World} (hs : SR Ψ σ w) {t : TypeId} {zs : List PV} (hz : zeroPV P t = some zs) :
 Did P (Instr.alloc t true (.tuple #[])) Ψ w (.ptr σ.store.length 0) (σ.push zs) := by
 obtain ⟨z, h1, h2⟩ := zeroPV_ok (w := w) hz Ψ
 obtain ⟨le, hs'⟩ := hs.newVar z.cells t zs (by rw [h2.1]; exact Nat.le_refl _) h2.2
 refine ⟨.pointer (some ⟨w.heap.size, 0, none⟩), _, _, ?_, le, hs', .ptr _ _ _ (by simp [Ty.addVar, ← hs.blen]) (by simp [Ty.addVar]), (Below.refl _ _).alloc hs.base _⟩
 unfold Instr.alloc
 rw [run_bind_ok h1]
 rfl
theorem box_ok {P : Program} {Ψ : Ty} {σ : Sg} {w : World} (hs : SR Ψ σ w) {t : TypeId} {p : PV} {x : Value} (hp : VR Ψ p x) (hd : defd p = true) :
 Did P (Instr.box t x) Ψ w (.ptr σ.store.length 0) (σ.push p.cells) := by
 have h2 := hp.cells_vrs (by rintro rfl; cases hd)
 obtain ⟨le, hs'⟩ := hs.newVar x.cells t p.cells (by rw [h2.1]; exact Nat.le_refl _) h2.2
 exact ⟨.pointer (some ⟨w.heap.size, 0, none⟩), _, _, rfl, le, hs', .ptr _ _ _ (by simp [Ty.addVar, ← hs.blen]) (by simp [Ty.addVar]), (Below.refl _ _).alloc hs.base _⟩
def oneCellV : Value → Bool
 | .agg _ | .tuple _ => false
 | _ => true
theorem VR.oneCell {Ψ : Ty} {p : PV} {x : Value} (h : VR Ψ p x) (hp : p.scalar = true) : oneCellV x = true := by
 cases h <;> first | rfl | (rename_i hx; rcases hx with rfl | rfl <;> rfl) | (rename_i h ht; cases h <;> rfl) | cases hp
theorem run_store {P : Program} {w : World} {b o : Nat} {x : Value} (h1 : oneCellV x = true) (h2 : (w.cell? ⟨b, o, none⟩).isSome = true) (h3 : w.frozen? ⟨b, o, none⟩ = false) :
 (store ⟨b, o, none⟩ x).run P w = .ok () (w.setCell ⟨b, o, none⟩ x) := by
 obtain ⟨v, hv⟩ := Option.isSome_iff_exists.1 h2
 cases x <;> first | (simp [store, Sem.run, hv, h3]; done) | cases h1
theorem putCells_length : ∀ (ps cs : List PV) (off : Nat), (putCells cs off ps).length = cs.length := by
 intro ps
 induction ps with
 | nil => intro cs off; rfl
 | cons p ps ih => intro cs off; simp only [putCells]; rw [ih]; simp
theorem setVar_setVar (σ : Sg) (id : Nat) (a b : List PV) : (σ.setVar id a).setVar id b = σ.setVar id b := by
 simp [Sg.setVar]
theorem setVar_same (σ : Sg) (id : Nat) (cs : List PV) (h : σ.store[id]? = some (some cs)) : σ.setVar id cs = σ := by
 obtain ⟨hl, he⟩ := List.getElem?_eq_some_iff.1 h
 unfold Sg.setVar
 rw [← he, List.set_getElem_self]
theorem setVar_get (σ : Sg) (id : Nat) (a b : List PV) (h : σ.store[id]? = some (some a)) : (σ.setVar id b).store[id]? = some (some b) := by
 obtain ⟨hl, _⟩ := List.getElem?_eq_some_iff.1 h
 simp [Sg.setVar, hl]
theorem storeCells_ok {P : Program} {Ψ : Ty} {id b off : Nat} (hb : Ψ.β[id]? = some b) (hz : (b, .n 0) ∈ Ψ.sz) : ∀ (ps : List PV) (xs : List Value) (k : Nat) (cs : List PV) (σ : Sg) (w : World), SR Ψ σ w → σ.store[id]? = some (some cs) →
 ps.length = xs.length → off + k + ps.length ≤ cs.length → (∀ (j : Nat) (p : PV) (x : Value), ps[j]? = some p → xs[j]? = some x → VR Ψ p x ∧ p.scalar = true) →
 ∃ w', (storeCells ⟨b, off, none⟩ xs k).run P w = .ok () w' ∧ SR Ψ (σ.setVar id (putCells cs (off + k) ps)) w' ∧ Below Ψ.base w w' := by
 intro ps
 induction ps with
 | nil =>
  intro xs k cs σ w hs hc hl _ _
  cases xs with
  | nil => exact ⟨w, rfl, by simp only [putCells]; rw [setVar_same σ id cs hc]; exact hs, Below.refl _ _⟩
  | cons => simp at hl
 | cons p ps ih =>
  intro xs k cs σ w hs hc hl hle hv
  cases xs with
  | nil => simp at hl
  | cons x xs =>
   obtain ⟨hp, hsc⟩ := hv 0 p x rfl rfl
   obtain ⟨a1, a2, a0⟩ := hs.block id cs b hc hb
   obtain ⟨c, a3, _⟩ := a0.blk (hs.szok b _ hz)
   obtain ⟨a4, a5⟩ := a0.cells a3
   simp only [List.length_cons] at hle
   have hlt : off + k < c.size := by omega
   have h2 : (w.cell? ⟨b, off + k, none⟩).isSome = true := by rw [a3.cell]; simp [hlt]
   have hs1 := hs.setVar hc hb hz hp (off := off + k)
   obtain ⟨w', r1, r2, r3⟩ := ih xs (k + 1) (cs.set (off + k) p) (σ.setVar id (cs.set (off + k) p)) _ hs1 (setVar_get σ id cs _ hc) (by simpa using hl) (by simp; omega)
    (fun j q y h1 h2 => hv (j + 1) q y (by simpa using h1) (by simpa using h2))
   refine ⟨w', ?_, ?_, ((Below.refl _ _).setCell (p := ⟨b, off + k, none⟩) a1 x).trans r3⟩
   ·simp only [storeCells, Addr.add_none]
    rw [run_bind_ok (run_store (hp.oneCell hsc) h2 (a3.free _))]
    exact r1
   simp only [putCells]
   rw [setVar_setVar] at r2
   exact r2
def storePV (P : Program) (σ : Sg) (t : TypeId) (a p : PV) : Option Sg :=
 match a with
 | .ptr id off => match σ.store[id]? with
  | some (some cs) => if (P.underlying t).isSome && defd p && p.cells.all PV.scalar && (p.cells.length == P.cellsOf t) && decide (off + p.cells.length ≤ cs.length) then some (σ.setVar id (putCells cs off p.cells)) else none
  | _ => none
 | _ => none
theorem storePV_ok {P : Program} {Ψ : Ty} {σ σ' : Sg} {w : World} (hs : SR Ψ σ w) {t : TypeId} {a p : PV} (h : storePV P σ t a p = some σ') {a' x : Value} (ha : VR Ψ a a') (hp : VR Ψ p x) :
 ∃ w', (Instr.storeAt t a' x).run P w = .ok () w' ∧ SR Ψ σ' w' ∧ Below Ψ.base w w' := by
 unfold storePV at h
 split at h
 ·rename_i id off
  obtain ⟨b, hb, hz, rfl⟩ := ha.ptr_inv
  split at h
  ·rename_i cs hc
   split at h
   ·rename_i hh
    injection h with h
    subst h
    simp only [Bool.and_eq_true, beq_iff_eq, decide_eq_true_eq] at hh
    obtain ⟨⟨⟨⟨h1, h2⟩, h3⟩, h4⟩, h5⟩ := hh
    obtain ⟨d, hd⟩ := Option.isSome_iff_exists.1 h1
    have hcs := hp.cells_vrs (by rintro rfl; cases h2)
    obtain ⟨w', r1, r2, r3⟩ := storeCells_ok (P := P) hb hz p.cells x.cells.toList 0 cs σ w hs hc (by simp [hcs.1]) (by omega) (fun j q y k1 k2 =>
     ⟨hcs.2 j q y k1 (by simpa using k2), List.all_eq_true.1 h3 q (List.mem_of_getElem? k1)⟩)
    refine ⟨w', ?_, by simpa using r2, r3⟩
    unfold Instr.storeAt
    rw [run_bind_ok (e := Instr.sureAddr _) (v := ⟨b, off, none⟩) rfl]
    unfold storeVar
    rw [run_bind_ok (run_size hd)]
    rw [if_neg (by have := hcs.1; omega)]
    exact r1
   cases h
  cases h
 cases h
def rowOf (es : Nat) (l : List PV) (C : Array Value) (Ψ : Ty) : Prop :=
 ∀ (k : Nat) (e : PV) (j : Nat) (p : PV), l[k]? = some e → e.cells[j]? = some p → ∃ v, C[k * es + j]? = some v ∧ VR Ψ p v
theorem getElem?_putCells : ∀ (ps cs : List PV) (off i : Nat), off + ps.length ≤ cs.length → (putCells cs off ps)[i]? = if off ≤ i ∧ i < off + ps.length then ps[i - off]? else cs[i]? := by
 intro ps
 induction ps with
 | nil => intro cs off i _; simp only [putCells, List.length_nil]; rw [if_neg (by omega)]
 | cons p ps ih =>
  intro cs off i h
  simp only [List.length_cons] at h
  simp only [putCells, List.length_cons]
  rw [ih (cs.set off p) (off + 1) i (by simp; omega)]
  by_cases h1 : i = off
  ·subst h1
   rw [if_neg (by omega), if_pos (by omega)]
   rw [List.getElem?_set_self (by omega)]
   simp
  by_cases h2 : off ≤ i ∧ i < off + (ps.length + 1)
  ·rw [if_pos (by omega), if_pos h2, show i - off = (i - (off + 1)) + 1 by omega]
   simp
  rw [if_neg (by omega), if_neg h2, List.getElem?_set_ne (by omega)]
theorem fill_row (es : Nat) : ∀ (l : List PV) (k : Nat) (cs out : List PV), fillPV (fun i => some (i * es, es)) cs ((List.range' k l.length).zip l) = some out → cs.length = out.length ∧
 (∀ i, i < k * es → out[i]? = cs[i]?) ∧ ∀ (n : Nat) (e : PV), l[n]? = some e → e.cells.length = es ∧ ∀ j, j < es → out[(k + n) * es + j]? = e.cells[j]? := by
 intro l
 induction l with
 | nil => intro k cs out h; simp [fillPV] at h; subst h; exact ⟨rfl, fun _ _ => rfl, fun n e h => by simp at h⟩
 | cons e l ih =>
  intro k cs out h
  simp only [List.length_cons, List.range'_succ, List.zip_cons_cons, fillPV] at h
  split at h
  ·rename_i hh
   obtain ⟨i1, i2, i3⟩ := ih (k + 1) _ out h
   rw [putCells_length] at i1
   have hb : k * es + e.cells.length ≤ cs.length := by omega
   refine ⟨i1, fun i hi => ?_, fun n e' hn => ?_⟩
   ·rw [i2 i (by rw [Nat.add_mul]; omega), getElem?_putCells _ _ _ _ hb, if_neg (by omega)]
   cases n with
   | zero =>
    simp at hn
    subst hn
    refine ⟨hh.1, fun j hj => ?_⟩
    rw [Nat.add_zero, i2 _ (by rw [Nat.add_mul]; omega), getElem?_putCells _ _ _ _ hb, if_pos (by omega), show k * es + j - k * es = j by omega]
   | succ n =>
    obtain ⟨j1, j2⟩ := i3 n e' (by simpa using hn)
    refine ⟨j1, fun j hj => ?_⟩
    rw [← j2 j hj, show k + (n + 1) = k + 1 + n by omega]
  cases h
/-- A new row, all of it never written again, read as a slice. -/
theorem SR.newSlice {Ψ : Ty} {σ : Sg} {w : World} (hs : SR Ψ σ w) (t : TypeId) {es : Nat} {l : List PV} {C : Array Value} (hes : ∀ (k : Nat) (e : PV), l[k]? = some e → e.cells.length = es) (hr : rowOf es l C Ψ) :
 ∃ Ψ', Ψ.le Ψ' ∧ SR Ψ' σ (w.alloc (.cells C t)) ∧ VR Ψ' (.isl l .exact) (.slice (some ⟨w.heap.size, 0, none⟩) l.length l.length) := by
 obtain ⟨le, hs'⟩ := hs.newImm C t C.size
 refine ⟨_, le, hs', ?_⟩
 have hex : ∀ k j, ∃ v, ∀ e p, l[k]? = some e → e.cells[j]? = some p → C[k * es + j]? = some v ∧ VR Ψ p v := by
  intro k j
  cases hk : l[k]? with
  | none => exact ⟨undef, fun e p h => by cases h⟩
  | some e =>
   cases hj : e.cells[j]? with
   | none => exact ⟨undef, fun e' p h h' => by injection h with h; subst h; rw [hj] at h'; cases h'⟩
   | some p =>
    obtain ⟨v, h1, h2⟩ := hr k e j p hk hj
    exact ⟨v, fun e' p' h h' => by injection h with h; subst h; rw [hj] at h'; injection h' with h'; subst h'; exact ⟨h1, h2⟩⟩
 let vals : Nat → Nat → Value := fun k j => Classical.choose (hex k j)
 have hv : ∀ k j e p, l[k]? = some e → e.cells[j]? = some p → C[k * es + j]? = some (vals k j) ∧ VR Ψ p (vals k j) := fun k j => Classical.choose_spec (hex k j)
 refine .isl es l .exact w.heap.size 0 l.length vals hes (fun k e j p hk hj => ?_) (fun k e j p hk hj => (hv k j e p hk hj).2.mono le) (Nat.le_refl _) rfl
 have h1 := (hv k j e p hk hj).1
 have hlt : k * es + j < C.size := (Array.getElem?_eq_some_iff.1 h1).1
 simp only [Ty.addImm, Nat.zero_add]
 rw [if_pos ⟨trivial, Nat.zero_le _, hlt⟩]
 exact h1
theorem fill_total (es : Nat) : ∀ (l : List PV) (k : Nat) (cs : List PV), (∀ e, e ∈ l → e.cells.length = es) → (k + l.length) * es ≤ cs.length →
 ∃ out, fillPV (fun i => some (i * es, es)) cs ((List.range' k l.length).zip l) = some out := by
 intro l
 induction l with
 | nil => intro k cs _ _; exact ⟨cs, rfl⟩
 | cons e l ih =>
  intro k cs h hl
  simp only [List.length_cons, List.range'_succ, List.zip_cons_cons, fillPV]
  have h1 := h e (by simp)
  have h2 : k * es + es ≤ (k + (l.length + 1)) * es := by
   have : (k + 1) * es ≤ (k + (l.length + 1)) * es := Nat.mul_le_mul_right _ (by omega)
   rw [Nat.add_mul, Nat.one_mul] at this
   exact this
  simp only [List.length_cons] at hl
  rw [if_pos ⟨h1, by omega⟩]
  exact ih (k + 1) _ (fun e' he => h e' (by simp [he])) (by rw [putCells_length, show k + 1 + l.length = k + (l.length + 1) by omega]; exact hl)
def buildSlicePV (P : Program) (t : TypeId) (len : Nat) (parts : List (Nat × PV)) : Option PV :=
 match P.underlying t with
 | some (.slice e) =>
  if (P.underlying e).isSome && (parts.map (·.1) == List.range len) && parts.all (fun p => defd p.2 && (p.2.cells.length == P.cellsOf e)) && decide (len * P.cellsOf e ≤ 2 ^ 24) && (zeroPV P e).isSome then
   some (.isl (parts.map (·.2)) .exact) else none
 | _ => none
theorem zip_fst_snd {α β : Type} : ∀ (l : List (α × β)), (l.map (·.1)).zip (l.map (·.2)) = l := by
 intro l
 induction l with
 | nil => rfl
 | cons a l ih => simp [ih]
theorem buildSlicePV_ok {P : Program} {Ψ : Ty} {σ : Sg} {w : World} (hs : SR Ψ σ w) {t : TypeId} {len : Nat} {parts : List (Nat × PV)} {v : PV} (h : buildSlicePV P t len parts = some v)
 {xs : Array (Nat × Value)} (hl : parts.length = xs.size) (hv : ∀ (j : Nat) (p : Nat × PV) (x : Nat × Value), parts[j]? = some p → xs[j]? = some x → p.1 = x.1 ∧ VR Ψ p.2 x.2) :
 Did P (Instr.buildSlice t len xs) Ψ w v σ := by
 unfold buildSlicePV at h
 split at h
 ·rename_i e hu
  split at h
  ·rename_i hh
   injection h with h
   subst h
   simp only [Bool.and_eq_true, beq_iff_eq, decide_eq_true_eq] at hh
   obtain ⟨⟨⟨⟨h1, h2⟩, h3⟩, h4⟩, h5⟩ := hh
   obtain ⟨d, hd⟩ := Option.isSome_iff_exists.1 h1
   obtain ⟨zs, hz⟩ := Option.isSome_iff_exists.1 h5
   have hlen : (parts.map (·.2)).length = len := by
    have := congrArg List.length h2
    simpa using this
   have hdef : ∀ p ∈ parts, defd p.2 = true ∧ p.2.cells.length = P.cellsOf e := by
    intro p hp
    have := List.all_eq_true.1 h3 p hp
    simpa using this
   have hes : ∀ x, x ∈ parts.map (·.2) → x.cells.length = P.cellsOf e := by
    intro x hx
    obtain ⟨p, hp, rfl⟩ := List.mem_map.1 hx
    exact (hdef p hp).2
   obtain ⟨out, hout⟩ := fill_total (P.cellsOf e) (parts.map (·.2)) 0 (List.replicate (len * P.cellsOf e) .undef) hes (by simp [hlen])
   have hparts : (List.range' 0 (parts.map (·.2)).length).zip (parts.map (·.2)) = parts := by
    rw [hlen, ← List.range_eq_range', ← h2, zip_fst_snd]
   rw [hparts] at hout
   have hrow := fill_row (P.cellsOf e) (parts.map (·.2)) 0 (List.replicate (len * P.cellsOf e) .undef) out (by rw [hparts]; exact hout)
   -- the zero cells
   obtain ⟨Z, hZ⟩ : ∃ Z : Array Value, (len * P.cellsOf e = 0 ∧ Z = #[]) ∨ (len * P.cellsOf e ≠ 0 ∧ ∃ z, (zeroValue e).run P w = .ok z w ∧ Z = z.cells) := by
    by_cases h0 : len * P.cellsOf e = 0
    ·exact ⟨#[], .inl ⟨h0, rfl⟩⟩
    obtain ⟨z, k1, _⟩ := zeroPV_ok (w := w) hz Ψ
    exact ⟨z.cells, .inr ⟨h0, z, k1, rfl⟩⟩
   have hys : VRs Ψ (List.replicate (len * P.cellsOf e) .undef) ((Array.range (len * P.cellsOf e)).map (Z[· % Z.size]!)) := by
    refine ⟨by simp, fun j p x k1 _ => ?_⟩
    have : p = .undef := by
     have := List.mem_of_getElem? k1
     exact List.eq_of_mem_replicate this
    subst this
    exact .undef x
   obtain ⟨cs, hc1, hc2⟩ := fill_ok _ parts xs.toList _ out _ hys hout (by simpa using hl) (fun j p x k1 k2 => by
    obtain ⟨a, b⟩ := hv j p x k1 (by simpa using k2)
    refine ⟨a, b, fun hu => ?_⟩
    have := (hdef p (List.mem_of_getElem? k1)).1
    rw [hu] at this
    cases this)
   obtain ⟨Ψ', le, hs', hvr⟩ := hs.newSlice e (es := P.cellsOf e) (l := parts.map (·.2)) (C := cs) (fun k x hk => hes x (List.mem_of_getElem? hk)) (by
    intro k x j p hk hj
    obtain ⟨i1, i2⟩ := hrow.2.2 k x hk
    have hj' : j < P.cellsOf e := by rw [← i1]; exact (List.getElem?_eq_some_iff.1 hj).1
    have hk' := i2 j hj'
    rw [Nat.zero_add, hj] at hk'
    have hsz : k * P.cellsOf e + j < cs.size := by rw [hc2.1]; exact (List.getElem?_eq_some_iff.1 hk').1
    exact ⟨cs[k * P.cellsOf e + j], by simp [hsz], hc2.2 _ p _ hk' (by simp [hsz])⟩)
   rw [hlen] at hvr
   refine ⟨_, _, Ψ', ?_, le, hs', hvr, (Below.refl _ _).alloc hs.base _⟩
   unfold Instr.buildSlice
   rw [run_bind_ok (run_und hu)]
   simp only
   rw [run_bind_ok (run_size hd)]
   rw [if_neg (by omega)]
   rcases hZ with ⟨h0, hZ⟩ | ⟨h0, z, k1, hZ⟩
   ·rw [if_pos h0, run_bind_ok (run_pure _), ← hZ]
    simp only [hc1]
    rfl
   rw [if_neg h0, run_bind_ok k1, run_bind_ok (run_pure _), ← hZ]
   simp only [hc1]
   rfl
  cases h
 cases h
def makePV (P : Program) (σ : Sg) (t : TypeId) (n c : PV) : Option (PV × Sg) :=
 match P.underlying t, n, c with
 | some (.slice e), .int .i64 n, .int .i64 c =>
  match zeroPV P e with
  | some [z] => if n = c ∧ 0 ≤ n ∧ n * (P.bytesOf e : Int) ≤ 2 ^ 47 ∧ n < 2 ^ 63 ∧ P.cellsOf e = 1 then some (.msl σ.store.length 0 n.toNat, σ.push (List.replicate n.toNat z)) else none
  | _ => none
 | _, _, _ => none
theorem wrap_i64_id {n : Int} (h : -(2 ^ 63) ≤ n) (h' : n < 2 ^ 63) : IntKind.i64.wrap n = n := by
 have e : n % (2 ^ 64 : Int) = n ∨ n % (2 ^ 64 : Int) = n + 2 ^ 64 := by omega
 have p : (2 : Int) ^ 64 = 18446744073709551616 := by decide
 have q : (2 : Int) ^ 63 = 9223372036854775808 := by decide
 unfold IntKind.wrap
 simp only [IntKind.bits, IntKind.signed, Bool.true_and, Nat.reduceSub]
 by_cases hh : n % (2 ^ 64 : Int) ≥ 2 ^ 63
 ·rw [if_pos (by simpa using hh)]
  omega
 rw [if_neg (by simpa using hh)]
 omega
theorem run_info {P : Program} {w : World} {t : TypeId} {i : TypeInfo} (h : P.info? t = some i) : (typeInfo t).run P w = .ok i w := by
 simp [typeInfo, program, Sem.run, h, Bind.bind, Sem.bind, Pure.pure]
theorem run_askRoom {P : Program} {w : World} (n : Nat) : (askRoom n).run P w = .ok () w := by
 unfold askRoom
 split <;> rfl
theorem makePV_ok {P : Program} {Ψ : Ty} {σ σ' : Sg} {w : World} (hs : SR Ψ σ w) {t : TypeId} {n c v : PV} (h : makePV P σ t n c = some (v, σ')) {n' c' : Value} (hn : VR Ψ n n') (hc : VR Ψ c c') :
 Did P (Instr.makeSlice t n' c') Ψ w v σ' := by
 unfold makePV at h
 split at h
 ·rename_i e n0 c0 hu
  rw [hn.int_inv, hc.int_inv]
  split at h
  ·rename_i z hz
   split at h
   ·rename_i hh
    obtain ⟨rfl, h0, hb, hlt, hsz⟩ := hh
    injection h with h
    injection h with h1 h2
    subst h1 h2
    obtain ⟨i, hi⟩ : ∃ i, P.info? e = some i := by
     unfold zeroPV at hz
     split at hz
     ·rename_i i hi; exact ⟨i, hi⟩
     cases hz
    have hby : P.bytesOf e = i.bytes := by simp [Program.bytesOf, hi]
    have hsi : i.size = 1 := by rw [← hsz]; simp [Program.cellsOf, hi]
    obtain ⟨zv, k1, k2⟩ := zeroPV_ok (w := w) hz Ψ
    have hzs : zv.cells.size = 1 := k2.1
    have hw : IntKind.i64.wrap n0 = n0 := wrap_i64_id (by omega) hlt
    obtain ⟨Z, hZ⟩ : ∃ Z : Array Value, Z = if n0.toNat = 0 then #[] else zv.cells := ⟨_, rfl⟩
    obtain ⟨le, hs'⟩ := hs.newVar ((Array.range (n0.toNat * 1)).map (Z[· % Z.size]!)) e (List.replicate n0.toNat z) (by simp) (fun j p x a b => by
     have hp := List.eq_of_mem_replicate (List.mem_of_getElem? a)
     have hj : j < n0.toNat := by have := (List.getElem?_eq_some_iff.1 a).1; simpa using this
     subst hp
     have hne : n0.toNat ≠ 0 := by omega
     rw [if_neg hne] at hZ
     rw [hZ] at b
     simp [hj, hzs, Nat.mod_one] at b
     subst b
     refine k2.2 0 p _ rfl ?_
     have : 0 < zv.cells.size := by omega
     simp [this])
    refine ⟨.slice (some ⟨w.heap.size, 0, none⟩) n0.toNat n0.toNat, _, _, ?_, le, hs', .msl _ _ _ w.heap.size _ (by simp [Ty.addVar, ← hs.blen]) (by simp [Ty.addVar]) (Nat.le_refl _), (Below.refl _ _).alloc hs.base _⟩
    unfold Instr.makeSlice
    rw [run_bind_ok (run_und hu)]
    simp only
    rw [run_bind_ok (e := asInt _) (v := n0) rfl, run_bind_ok (e := asInt _) (v := n0) rfl, run_bind_ok (run_info hi)]
    simp only [hw]
    have hnl : ¬ ((n0 < 0 || (i.bytes : Int) * n0 > 2 ^ 48) || n0 < 0 || n0 > n0) = true := by
     simp only [Bool.or_eq_true, decide_eq_true_eq]
     rw [hby, Int.mul_comm] at hb
     omega
    rw [if_neg hnl, run_bind_ok (run_askRoom _)]
    have hsz' : (sizeOf e).run P w = .ok 1 w := by
     unfold sizeOf
     rw [run_bind_ok (run_info hi), hsi]; rfl
    rw [run_bind_ok hsz']
    by_cases hne : n0.toNat = 0
    ·rw [if_pos hne] at hZ
     rw [if_pos (by omega), run_bind_ok (run_pure _), ← hZ]
     rfl
    rw [if_neg hne] at hZ
    rw [if_neg (by omega), run_bind_ok k1, run_bind_ok (run_pure _), ← hZ]
    rfl
   cases h
  cases h
 cases h
/-- The cells of a row, loaded. -/
theorem run_loadRow {P : Program} {Ψ : Ty} {σ : Sg} {w : World} (hs : SR Ψ σ w) {es b o : Nat} {l : List PV} {vals : Nat → Nat → Value}
 (hes : ∀ (k : Nat) (e : PV), l[k]? = some e → e.cells.length = es)
 (h1 : ∀ (k : Nat) (e : PV) (j : Nat) (p : PV), l[k]? = some e → e.cells[j]? = some p → Ψ.imm b (o + k * es + j) = some (vals k j)) :
 ∃ C : Array Value, (loadCells ⟨b, o, none⟩ (l.length * es)).run P w = .ok C w ∧ C.size = l.length * es ∧ ∀ k j, k < l.length → j < es → C[k * es + j]? = some (vals k j) := by
 by_cases h0 : es = 0
 ·subst h0
  have := run_loadCells (P := P) (w := w) b o [] (by simp)
  exact ⟨#[], by simpa using this, by simp, fun k j _ hj => by omega⟩
 have hlt : ∀ k, k < l.length * es → k / es < l.length := fun k hk => (Nat.div_lt_iff_lt_mul (by omega)).2 hk
 have := run_loadCells (P := P) (w := w) b o ((List.range (l.length * es)).map fun k => vals (k / es) (k % es)) (fun k hk => by
  simp at hk
  simp
  have hk' := hlt k hk
  have hm : k % es < es := Nat.mod_lt _ (by omega)
  have hc := hes (k / es) (l[k / es]) (by simp)
  have := hs.imm _ _ _ (h1 (k / es) (l[k / es]) (k % es) ((l[k / es]).cells[k % es]'(by omega)) (by simp) (by simp))
  rw [← this]
  congr 2
  have := Nat.div_add_mod' k es
  omega)
 simp only [List.length_map, List.length_range] at this
 refine ⟨_, this, by simp, fun k j hk hj => ?_⟩
 have hkj : k * es + j < l.length * es := by
  have : (k + 1) * es ≤ l.length * es := Nat.mul_le_mul_right _ hk
  rw [Nat.add_mul] at this
  omega
 have hd : (k * es + j) / es = k := by
  rw [Nat.add_comm, Nat.add_mul_div_right _ _ (by omega), Nat.div_eq_of_lt hj, Nat.zero_add]
 have hm : (k * es + j) % es = j := by
  rw [Nat.add_comm, Nat.add_mul_mod_self_right, Nat.mod_eq_of_lt hj]
 simp [hkj, hd, hm]
def setCells (w : World) (b o : Nat) : List Value → World
 | [] => w
 | v :: vs => setCells (w.setCell ⟨b, o, none⟩ v) b (o + 1) vs
theorem setCells_block : ∀ (vs : List Value) (w : World) (b o : Nat) (c : Array Value), blockIs w b c → ∃ c', blockIs (setCells w b o vs) b c' ∧ c'.size = c.size ∧
 (∀ i, i < o ∨ o + vs.length ≤ i → c'[i]? = c[i]?) ∧ (∀ i, i < vs.length → o + i < c.size → c'[o + i]? = vs[i]?) := by
 intro vs
 induction vs with
 | nil => intro w b o c h; exact ⟨c, h, rfl, fun _ _ => rfl, fun i hi => by simp at hi⟩
 | cons v vs ih =>
  intro w b o c h
  obtain ⟨c', h1, h2, h3, h4⟩ := ih (w.setCell ⟨b, o, none⟩ v) b (o + 1) _ (h.setCell o v)
  refine ⟨c', h1, by simpa using h2, fun i hi => ?_, fun i hi hlt => ?_⟩
  ·simp only [List.length_cons] at hi
   rw [h3 i (by omega), Array.getElem?_setIfInBounds_ne (by omega)]
  cases i with
  | zero =>
   rw [Nat.add_zero, h3 o (by omega)]
   simp only [Nat.add_zero] at hlt
   simp [hlt]
  | succ i =>
   have := h4 i (by simpa using hi) (by simp; omega)
   rw [show o + (i + 1) = o + 1 + i by omega, this]
   simp
theorem setCells_room {Ψ : Ty} {σ : Sg} {r n b e c es : Nat} (k1 : σ.rooms[r]? = some n) (k2 : Ψ.hist r n = some (some (b, e, c, es))) : ∀ (vs : List Value) (w : World) (o : Nat), SR Ψ σ w → e ≤ o → o + vs.length ≤ c → SR Ψ σ (setCells w b o vs) := by
 intro vs
 induction vs with
 | nil => intro w o h _ _; exact h
 | cons v vs ih =>
  intro w o h h1 h2
  simp only [List.length_cons] at h2
  exact ih _ (o + 1) (h.setRoom k1 k2 h1 (by omega)) (by omega) (by omega)
theorem setCells_below {B b : Nat} (hB : B ≤ b) : ∀ (vs : List Value) (w : World) (o : Nat), Below B w (setCells w b o vs) := by
 intro vs
 induction vs with
 | nil => intro w o; exact Below.refl _ _
 | cons v vs ih => intro w o; exact ((Below.refl _ _).setCell (p := ⟨b, o, none⟩) hB v).trans (ih _ _)
theorem run_storeCells_any {P : Program} {b o : Nat} : ∀ (vs : List Value) (w : World) (k : Nat) (c : Array Value), blockIs w b c → o + k + vs.length ≤ c.size → (∀ v ∈ vs, oneCellV v = true) →
 (storeCells ⟨b, o, none⟩ vs k).run P w = .ok () (setCells w b (o + k) vs) := by
 intro vs
 induction vs with
 | nil => intro w k c _ _ _; rfl
 | cons v vs ih =>
  intro w k c h hl hv
  simp only [List.length_cons] at hl
  simp only [storeCells, Addr.add_none, setCells]
  rw [run_bind_ok (run_store (hv v (by simp)) (by rw [h.cell]; simp; omega) (h.free _))]
  exact ih _ (k + 1) _ (h.setCell _ v) (by simp; omega) (fun x hx => hv x (by simp [hx]))
def appendPV (P : Program) (σ : Sg) (t t' : TypeId) (x y : PV) : Option (PV × Sg) :=
  match P.underlying t, P.underlying t', x, y with
  | some (.slice e), some (.slice _), .isl l own, .isl m _ =>
    if (P.underlying e).isSome && m.all (fun q => (q.cells.length == P.cellsOf e) && q.cells.all PV.scalar) && decide ((l.length + m.length) * P.bytesOf e ≤ 2 ^ 47) && decide (P.bytesOf e ≠ 0 ∧ 0 < P.cellsOf e) && ((zeroPV P e).map List.length == some (P.cellsOf e)) then
      (match own with
       | .ro => none
       | .exact => if l.all (fun q => q.cells.length == P.cellsOf e) then some (.isl (l ++ m) (.tok σ.rooms.length (l.length + m.length) (P.cellsOf e)), σ.pushRoom (l.length + m.length)) else none
       | .tok r n es => if es = P.cellsOf e ∧ σ.rooms[r]? = some n then some (.isl (l ++ m) (.tok r (n + m.length) es), σ.setRoom r (n + m.length)) else none)
    else none
  | _, _, _, _ => none
/-- Two rows one behind the other. -/
theorem row_append {Ψ : Ty} {es b o : Nat} {l m : List PV} {vl vm : Nat → Nat → Value} {own : Own} {cap : Nat} {Ψ0 : Ty}
 (le : Ψ0.le Ψ)
 (hl : ∀ (k : Nat) (e : PV), l[k]? = some e → e.cells.length = es) (hm : ∀ (k : Nat) (e : PV), m[k]? = some e → e.cells.length = es)
 (h1 : ∀ (k : Nat) (e : PV) (j : Nat) (p : PV), l[k]? = some e → e.cells[j]? = some p → Ψ.imm b (o + k * es + j) = some (vl k j))
 (h1' : ∀ (k : Nat) (e : PV) (j : Nat) (p : PV), m[k]? = some e → e.cells[j]? = some p → Ψ.imm b (o + (l.length + k) * es + j) = some (vm k j))
 (h2 : ∀ (k : Nat) (e : PV) (j : Nat) (p : PV), l[k]? = some e → e.cells[j]? = some p → VR Ψ0 p (vl k j))
 (h2' : ∀ (k : Nat) (e : PV) (j : Nat) (p : PV), m[k]? = some e → e.cells[j]? = some p → VR Ψ0 p (vm k j))
 (hc : l.length + m.length ≤ cap) (ho : OwnOK Ψ own b o (l.length + m.length) cap es) :
 VR Ψ (.isl (l ++ m) own) (.slice (some ⟨b, o, none⟩) (l.length + m.length) cap) := by
 rw [show l.length + m.length = (l ++ m).length by simp] at hc ho ⊢
 have get : ∀ (k : Nat) (e : PV), (l ++ m)[k]? = some e → (k < l.length ∧ l[k]? = some e) ∨ (l.length ≤ k ∧ m[k - l.length]? = some e) := by
  intro k e hk
  by_cases h : k < l.length
  ·rw [List.getElem?_append_left h] at hk; exact .inl ⟨h, hk⟩
  rw [List.getElem?_append_right (by omega)] at hk; exact .inr ⟨by omega, hk⟩
 refine .isl es _ own b o cap (fun k j => if k < l.length then vl k j else vm (k - l.length) j) ?_ ?_ ?_ hc ho
 ·intro k e hk
  rcases get k e hk with ⟨_, h⟩ | ⟨_, h⟩
  ·exact hl _ _ h
  exact hm _ _ h
 ·intro k e j p hk hj
  rcases get k e hk with ⟨hlt, h⟩ | ⟨hge, h⟩
  ·rw [if_pos hlt]; exact h1 k e j p h hj
  rw [if_neg (by omega)]
  have := h1' _ e j p h hj
  rw [show l.length + (k - l.length) = k by omega] at this
  exact this
 intro k e j p hk hj
 rcases get k e hk with ⟨hlt, h⟩ | ⟨hge, h⟩
 ·simp only [hlt, if_true]; exact (h2 k e j p h hj).mono le
 simp only [show ¬ k < l.length by omega, if_false]; exact (h2' _ e j p h hj).mono le
theorem SR.roomStep {Ψ : Ty} {σ σ2 : Sg} {w : World} (h : SR Ψ σ w) {r' n' : Nat}
 (hk : (r' = σ.rooms.length ∧ σ2 = σ.pushRoom n') ∨ (∃ n, σ.rooms[r']? = some n ∧ n < n' ∧ σ2 = σ.setRoom r' n')) (x : Option (Nat × Nat × Nat × Nat))
 (hx : ∀ b e c es, x = some (b, e, c, es) → e < c → Ψ.base ≤ b ∧ (∀ o, e ≤ o → o < c → Ψ.imm b o = none) ∧ (∀ id : Nat, Ψ.β[id]? = some b → ∀ cs, σ.store[id]? ≠ some (some cs)) ∧ (∃ cc, blockIs w b cc ∧ c ≤ cc.size) ∧ (∀ c, (b, c) ∉ Ψ.rs) ∧
  ∀ (r1 m e' c' es' : Nat), r1 ≠ r' → σ.rooms[r1]? = some m → Ψ.hist r1 m = some (some (b, e', c', es')) → ∀ o, e ≤ o → o < c → e' ≤ o → ¬ o < c') :
 ∃ Ψ2 : Ty, Ψ.le Ψ2 ∧ SR Ψ2 σ2 w ∧ Ψ2.imm = Ψ.imm ∧ Ψ2.β = Ψ.β ∧ Ψ2.rs = Ψ.rs ∧ σ2.store = σ.store ∧ Ψ2.hist r' n' = some x ∧
  ∀ r1 n1 : Nat, σ2.rooms[r1]? = some n1 → r1 ≠ r' → σ.rooms[r1]? = some n1 ∧ Ψ2.hist r1 n1 = Ψ.hist r1 n1 := by
 rcases hk with ⟨rfl, rfl⟩ | ⟨n, h1, h2, rfl⟩
 ·obtain ⟨le, hs⟩ := h.newRoom n' x (fun b e c es k hlt => by
   obtain ⟨a1, a2, a3, a4, a0, a5⟩ := hx b e c es k hlt
   exact ⟨a1, a2, a3, a4, a0, fun r1 m e' c' es' k1 k2 => a5 r1 m e' c' es' (by have := (List.getElem?_eq_some_iff.1 k1).1; omega) k1 k2⟩)
  refine ⟨_, le, hs, rfl, rfl, rfl, rfl, by simp [Ty.addHist], fun r1 n1 k hne => ?_⟩
  rcases getElem?_snoc k with ⟨_, k⟩ | ⟨e, _⟩
  ·refine ⟨k, ?_⟩
   simp only [Ty.addHist]
   rw [if_neg (fun hh => hne hh.1)]
  exact absurd e hne
 obtain ⟨le, hs⟩ := h.moveRoom h1 h2 x hx
 refine ⟨_, le, hs, rfl, rfl, rfl, rfl, by simp [Ty.addHist], fun r1 n1 k hne => ?_⟩
 simp only [Sg.setRoom] at k
 rw [List.getElem?_set_ne (fun e => hne e.symm)] at k
 refine ⟨k, ?_⟩
 simp only [Ty.addHist]
 rw [if_neg (fun hh => hne hh.1)]
/-- What is appended, or what was there: loaded. -/
theorem firstCells_ok {P : Program} {Ψ : Ty} {σ : Sg} {w : World} (hs : SR Ψ σ w) {l : List PV} {own : Own} {x : Value} (hx : VR Ψ (.isl l own) x) {size : Nat} (hall : ∀ q ∈ l, q.cells.length = size) :
 ∃ (C : Array Value) (vals : Nat → Nat → Value), (Builtin.firstCells size l.length x).run P w = .ok C w ∧ C.size = l.length * size ∧ (∀ k j, k < l.length → j < size → C[k * size + j]? = some (vals k j)) ∧
  (∀ (k : Nat) (e : PV) (j : Nat) (p : PV), l[k]? = some e → e.cells[j]? = some p → VR Ψ p (vals k j)) ∧ (Builtin.lenOf x).run P w = .ok l.length w := by
 cases hx with
 | islnil own a h => exact ⟨#[], fun _ _ => undef, by cases a <;> simp [Builtin.firstCells, loadCells, loadCellsFrom], by simp, fun k j h => by simp at h, fun k e j p h => by simp at h, rfl⟩
 | isl es _ _ b o cap vals hes h1 h2 hc ho =>
  by_cases hl : l = []
  ·subst hl
   exact ⟨#[], fun _ _ => undef, by simp [Builtin.firstCells, loadCells, loadCellsFrom], by simp, fun k j h => by simp at h, fun k e j p h => by simp at h, rfl⟩
  have he : es = size := by
   cases l with
   | nil => exact absurd rfl hl
   | cons a l => rw [← hes 0 a rfl]; exact hall a (by simp)
  subst he
  obtain ⟨C, r1, r2, r3⟩ := run_loadRow (P := P) hs hes h1
  exact ⟨C, vals, r1, r2, r3, h2, rfl⟩
/-- The new row: behind what was there, what is appended; then room. -/
theorem SR.realloc {Ψ : Ty} {σ σ2 : Sg} {w : World} (hs : SR Ψ σ w) {l m : List PV} {size r' n' newCap : Nat} {Cx Cy rest : Array Value} {vx vy : Nat → Nat → Value} (t : TypeId)
 (hk : (r' = σ.rooms.length ∧ σ2 = σ.pushRoom n') ∨ (∃ n, σ.rooms[r']? = some n ∧ n < n' ∧ σ2 = σ.setRoom r' n'))
 (hl : ∀ q ∈ l, q.cells.length = size) (hm : ∀ q ∈ m, q.cells.length = size)
 (x1 : Cx.size = l.length * size) (x2 : ∀ k j, k < l.length → j < size → Cx[k * size + j]? = some (vx k j)) (x3 : ∀ (k : Nat) (e : PV) (j : Nat) (p : PV), l[k]? = some e → e.cells[j]? = some p → VR Ψ p (vx k j))
 (y1 : Cy.size = m.length * size) (y2 : ∀ k j, k < m.length → j < size → Cy[k * size + j]? = some (vy k j)) (y3 : ∀ (k : Nat) (e : PV) (j : Nat) (p : PV), m[k]? = some e → e.cells[j]? = some p → VR Ψ p (vy k j))
 (hcap : l.length + m.length ≤ newCap) (hrest : rest.size = (newCap - (l.length + m.length)) * size) :
 ∃ Ψ', Ψ.le Ψ' ∧ SR Ψ' σ2 (w.drew.alloc (.cells (Cx ++ Cy ++ rest) t)) ∧ VR Ψ' (.isl (l ++ m) (.tok r' n' size)) (.slice (some ⟨w.heap.size, 0, none⟩) (l.length + m.length) newCap) := by
 have hf := hs.fresh
 have hs1 := hs.drew.alloc (.cells (Cx ++ Cy ++ rest) t)
 have hblk : blockIs (w.drew.alloc (.cells (Cx ++ Cy ++ rest) t)) w.heap.size (Cx ++ Cy ++ rest) := ⟨t, heap_alloc_new w.drew _⟩
 have hsize : (Cx ++ Cy ++ rest).size = newCap * size := by
  simp only [Array.size_append, x1, y1, hrest]
  rw [← Nat.add_mul, ← Nat.add_mul]
  congr 1
  omega
 obtain ⟨Ψ2, le2, hs2, e1, e2, e0, e3, e4, e5⟩ := hs1.roomStep hk (some (w.heap.size, (l.length + m.length) * size, newCap * size, size)) (by
  intro b e c es k hlt
  injection k with k
  injection k with k1 k
  injection k with k2 k
  injection k with k3 k4
  subst k1 k2 k3 k4
  exact ⟨hs.base, fun o _ _ => hf.imm o, fun id k => absurd k (hf.β id), ⟨_, hblk, by rw [hsize]; exact Nat.le_refl _⟩, hf.rs, fun r1 mm e' c' es' _ q1 q2 o _ _ q3 q4 => by have := hf.hist r1 mm e' c' es' q1 q2; omega⟩)
 have himm0 : ∀ o, Ψ2.imm w.heap.size o = none := fun o => by rw [e1]; exact hf.imm o
 have hs3 := hs2.addImm (lo := 0) (hi := (l.length + m.length) * size) hblk (fun o _ _ => himm0 o) (fun id k => by rw [e2] at k; exact absurd k (hf.β id)) (by
  intro r1 n1 e cc es k1 k2 o q1 q2 _ q3
  by_cases hr : r1 = r'
  ·subst hr
   obtain ⟨hn, _⟩ : n1 = n' ∧ True := by
    rcases hk with ⟨rfl, rfl⟩ | ⟨n, h1, h2, rfl⟩
    ·rcases getElem?_snoc k1 with ⟨hlt, _⟩ | ⟨_, e⟩
     ·omega
     exact ⟨e, trivial⟩
    simp only [Sg.setRoom] at k1
    rw [List.getElem?_set_self ((List.getElem?_eq_some_iff.1 h1).1)] at k1
    injection k1 with k1
    exact ⟨k1.symm, trivial⟩
   subst hn
   rw [e4] at k2
   injection k2 with k2
   injection k2 with k2
   injection k2 with _ k2
   injection k2 with k2 _
   omega
  obtain ⟨a1, a2⟩ := e5 r1 n1 k1 hr
  rw [a2] at k2
  have := hf.hist r1 n1 e cc es a1 k2
  omega) (by rw [e0]; exact hf.rs)
 have le3 := Ty.addImm_le (Ψ := Ψ2) (b := w.heap.size) (lo := 0) (hi := (l.length + m.length) * size) (c := Cx ++ Cy ++ rest) (fun o _ _ => himm0 o)
 refine ⟨_, le2.trans le3, hs3, ?_⟩
 refine row_append (le2.trans le3) (es := size) (vl := vx) (vm := vy) (fun k e hk => hl e (List.mem_of_getElem? hk)) (fun k e hk => hm e (List.mem_of_getElem? hk)) ?_ ?_ x3 y3 hcap ?_
 ·intro k e j p hk' hj
  have hkl : k < l.length := (List.getElem?_eq_some_iff.1 hk').1
  have hjs : j < size := by rw [← hl e (List.mem_of_getElem? hk')]; exact (List.getElem?_eq_some_iff.1 hj).1
  have h1 := x2 k j hkl hjs
  have hlt : k * size + j < Cx.size := (Array.getElem?_eq_some_iff.1 h1).1
  simp only [Ty.addImm, Nat.zero_add]
  have hle : Cx.size ≤ (l.length + m.length) * size := by rw [x1, Nat.add_mul]; omega
  rw [if_pos ⟨trivial, Nat.zero_le _, by omega⟩, Array.getElem?_append_left (by simp; omega), Array.getElem?_append_left hlt]
  exact h1
 ·intro k e j p hk' hj
  have hkl : k < m.length := (List.getElem?_eq_some_iff.1 hk').1
  have hjs : j < size := by rw [← hm e (List.mem_of_getElem? hk')]; exact (List.getElem?_eq_some_iff.1 hj).1
  have h1 := y2 k j hkl hjs
  have hlt : k * size + j < Cy.size := (Array.getElem?_eq_some_iff.1 h1).1
  simp only [Ty.addImm, Nat.zero_add]
  have hsum : (l.length + m.length) * size = Cx.size + Cy.size := by rw [x1, y1, Nat.add_mul]
  have hpos : (l.length + k) * size + j = Cx.size + (k * size + j) := by rw [x1, Nat.add_mul]; omega
  rw [if_pos ⟨trivial, Nat.zero_le _, by omega⟩, hpos, Array.getElem?_append_left (by simp; omega), Array.getElem?_append_right (by omega), show Cx.size + (k * size + j) - Cx.size = k * size + j by omega]
  exact h1
 refine ⟨rfl, ?_⟩
 have : (Ψ2.addImm w.heap.size 0 ((l.length + m.length) * size) (Cx ++ Cy ++ rest)).hist r' n' = Ψ2.hist r' n' := rfl
 rw [this, e4]
 simp
/-- In place: what is appended lies in the room. -/
theorem SR.inPlace {P : Program} {Ψ : Ty} {σ : Sg} {w : World} (hs : SR Ψ σ w) {l m : List PV} {b o cap size r n : Nat} {Cy : Array Value} {vx vy : Nat → Nat → Value}
 (hr : σ.rooms[r]? = some n) (hh : Ψ.hist r n = some (some (b, o + l.length * size, o + cap * size, size)))
 (hl : ∀ q ∈ l, q.cells.length = size) (hm : ∀ q ∈ m, q.cells.length = size ∧ ∀ c ∈ q.cells, c.scalar = true)
 (h1 : ∀ (k : Nat) (e : PV) (j : Nat) (p : PV), l[k]? = some e → e.cells[j]? = some p → Ψ.imm b (o + k * size + j) = some (vx k j)) (h2 : ∀ (k : Nat) (e : PV) (j : Nat) (p : PV), l[k]? = some e → e.cells[j]? = some p → VR Ψ p (vx k j))
 (y1 : Cy.size = m.length * size) (y2 : ∀ k j, k < m.length → j < size → Cy[k * size + j]? = some (vy k j)) (y3 : ∀ (k : Nat) (e : PV) (j : Nat) (p : PV), m[k]? = some e → e.cells[j]? = some p → VR Ψ p (vy k j))
 (hcap : l.length + m.length ≤ cap) (hne : m ≠ []) (hsz : 0 < size) :
 ∃ w' Ψ', (storeCells (⟨b, o + l.length * size, none⟩ : Addr) Cy.toList).run P w = .ok () w' ∧ Ψ.le Ψ' ∧ SR Ψ' (σ.setRoom r (n + m.length)) w' ∧ Below Ψ.base w w' ∧
  VR Ψ' (.isl (l ++ m) (.tok r (n + m.length) size)) (.slice (some ⟨b, o, none⟩) (l.length + m.length) cap) := by
 have hmpos : 0 < m.length := List.length_pos_iff.2 hne
 have e1 : (l.length + m.length) * size ≤ cap * size := Nat.mul_le_mul_right _ hcap
 have e2 : (l.length + m.length) * size = l.length * size + m.length * size := Nat.add_mul _ _ _
 have e3 : 0 < m.length * size := Nat.mul_pos hmpos hsz
 obtain ⟨a1, a2, a3, cc, a4, a5⟩ := hs.room r n _ _ _ _ hr hh (by omega)
 have hCy : ∀ v ∈ Cy.toList, oneCellV v = true := by
  intro v hv
  obtain ⟨i, hi⟩ := List.mem_iff_getElem?.1 hv
  have hi' : i < m.length * size := by
   have := (List.getElem?_eq_some_iff.1 hi).1
   simp at this; omega
  have hk : i / size < m.length := (Nat.div_lt_iff_lt_mul hsz).2 hi'
  have hj : i % size < size := Nat.mod_lt _ hsz
  have hq := hm m[i / size] (List.getElem_mem _)
  have := y2 (i / size) (i % size) hk hj
  rw [Nat.div_add_mod'] at this
  rw [Array.getElem?_toList, this] at hi
  injection hi with hi
  subst hi
  have hp := y3 (i / size) m[i / size] (i % size) ((m[i / size]).cells[i % size]'(by omega)) (by simp) (by simp)
  exact hp.oneCell (hq.2 _ (List.getElem_mem _))
 have hlenC : Cy.toList.length = m.length * size := by simpa using y1
 have hrun := run_storeCells_any (P := P) (b := b) (o := o + l.length * size) Cy.toList w 0 cc a4 (by rw [hlenC]; omega) hCy
 rw [Nat.add_zero] at hrun
 have hnr : ∀ c, (b, c) ∉ Ψ.rs := fun c k => by have := (hs.rok b c k).2.2.2.1 r n _ _ _ hr hh; omega
 have hs1 := setCells_room hr hh Cy.toList w (o + l.length * size) hs (Nat.le_refl _) (by rw [hlenC]; omega)
 obtain ⟨c', b1, b2, b3, b4⟩ := setCells_block Cy.toList w b (o + l.length * size) cc a4
 obtain ⟨Ψ2, le2, hs2, i1, i2, i0, i3, i4, i5⟩ := hs1.roomStep (r' := r) (n' := n + m.length) (σ2 := σ.setRoom r (n + m.length)) (.inr ⟨n, hr, by omega, rfl⟩) (some (b, o + (l.length + m.length) * size, o + cap * size, size)) (by
  intro b' e c es k hlt
  injection k with k
  injection k with k1 k
  injection k with k2 k
  injection k with k3 k4
  subst k1 k2 k3 k4
  exact ⟨a1, fun p q1 q2 => a2 p (by omega) q2, a3, ⟨c', b1, by omega⟩, hnr, fun r1 mm e' c1 es' hne' q1 q2 p p1 p2 p3 p4 => hs.roomsApart r n r1 mm b _ _ _ e' c1 es' hr q1 (fun e => hne' e.symm) hh q2 p (by omega) p2 p3 p4⟩)
 have hs3 := hs2.addImm (lo := o + l.length * size) (hi := o + (l.length + m.length) * size) b1 (fun p q1 q2 => by rw [i1]; exact a2 p q1 (by omega)) (fun id k => by rw [i2] at k; rw [i3]; exact a3 id k) (by
  intro r1 n1 e c1 es k1 k2 p p1 p2 p3 p4
  by_cases hr1 : r1 = r
  ·subst hr1
   have : n1 = n + m.length := by
    simp only [Sg.setRoom] at k1
    rw [List.getElem?_set_self ((List.getElem?_eq_some_iff.1 hr).1)] at k1
    injection k1 with k1
    exact k1.symm
   subst this
   rw [i4] at k2
   injection k2 with k2
   injection k2 with k2
   injection k2 with _ k2
   injection k2 with k2 _
   omega
  obtain ⟨q1, q2⟩ := i5 r1 n1 k1 hr1
  rw [q2] at k2
  exact hs.roomsApart r n r1 n1 b _ _ _ e c1 es hr q1 (fun e => hr1 e.symm) hh k2 p p3 (by omega) p1 p2) (by rw [i0]; exact hnr)
 have le3 := Ty.addImm_le (Ψ := Ψ2) (b := b) (lo := o + l.length * size) (hi := o + (l.length + m.length) * size) (c := c') (fun p q1 q2 => by rw [i1]; exact a2 p q1 (by omega))
 refine ⟨_, _, hrun, le2.trans le3, hs3, setCells_below a1 _ _ _, ?_⟩
 refine row_append (le2.trans le3) (es := size) (vl := vx) (vm := vy) (fun k e hk => hl e (List.mem_of_getElem? hk)) (fun k e hk => (hm e (List.mem_of_getElem? hk)).1) ?_ ?_ h2 y3 hcap ?_
 ·intro k e j p hk hj
  exact (le2.trans le3).imm _ _ _ (h1 k e j p hk hj)
 ·intro k e j p hk' hj
  have hkl : k < m.length := (List.getElem?_eq_some_iff.1 hk').1
  have hjs : j < size := by rw [← (hm e (List.mem_of_getElem? hk')).1]; exact (List.getElem?_eq_some_iff.1 hj).1
  have hv := y2 k j hkl hjs
  have hlt : k * size + j < m.length * size := by
   have : (k + 1) * size ≤ m.length * size := Nat.mul_le_mul_right _ hkl
   rw [Nat.add_mul] at this
   omega
  have hpos : o + (l.length + k) * size + j = o + l.length * size + (k * size + j) := by rw [Nat.add_mul]; omega
  simp only [Ty.addImm]
  rw [if_pos ⟨trivial, by rw [hpos]; omega, by rw [hpos]; omega⟩, hpos]
  rw [b4 (k * size + j) (by rw [hlenC]; exact hlt) (by omega)]
  simpa using hv
 exact ⟨rfl, by show Ψ2.hist r (n + m.length) = _; rw [i4]⟩
/-- What is appended, read: so many elements, as they lie in memory. -/
def RowRd (P : Program) (Ψ : Ty) (m : List PV) (x : Value) (w : World) : Prop := ∀ size, (∀ q ∈ m, q.cells.length = size) →
 ∃ (C : Array Value) (vals : Nat → Nat → Value), (Builtin.firstCells size m.length x).run P w = .ok C w ∧ C.size = m.length * size ∧ (∀ k j, k < m.length → j < size → C[k * size + j]? = some (vals k j)) ∧
  (∀ (k : Nat) (e : PV) (j : Nat) (p : PV), m[k]? = some e → e.cells[j]? = some p → VR Ψ p (vals k j)) ∧ (Builtin.lenOf x).run P w = .ok m.length w
theorem appendPV_okG {P : Program} {Ψ : Ty} {σ σ' : Sg} {w : World} (hs : SR Ψ σ w) {t t' ty : TypeId} {x y v : PV} (h : appendPV P σ t t' x y = some (v, σ')) {x' y' : Value} (hx : VR Ψ x x') (hy : ∀ m own, y = .isl m own → RowRd P Ψ m y' w ∧ RowRd P Ψ m y' w.drew) :
 Did P (Builtin.append_ #[t, t'] ty #[x', y']) Ψ w v σ' := by
 unfold appendPV at h
 split at h
 ·rename_i e e' l own m owny hu hu'
  split at h
  ·rename_i hh
   simp only [Bool.and_eq_true, beq_iff_eq, decide_eq_true_eq] at hh
   obtain ⟨⟨⟨⟨q1, q2⟩, q3⟩, q4, q6⟩, q5⟩ := hh
   obtain ⟨d, hd⟩ := Option.isSome_iff_exists.1 q1
   obtain ⟨zs, hz, hzl⟩ : ∃ zs, zeroPV P e = some zs ∧ zs.length = P.cellsOf e := by
    cases hz : zeroPV P e with
    | none => rw [hz] at q5; cases q5
    | some zs => rw [hz] at q5; exact ⟨zs, rfl, by simpa using q5⟩
   have hmall : ∀ q ∈ m, q.cells.length = P.cellsOf e ∧ ∀ c ∈ q.cells, c.scalar = true := by
    intro q hq
    have := List.all_eq_true.1 q2 q hq
    simp only [Bool.and_eq_true, beq_iff_eq, List.all_eq_true] at this
    exact this
   obtain ⟨i, hi⟩ := info_of_underlying hd
   have hby : P.bytesOf e = i.bytes := by simp [Program.bytesOf, hi]
   have hmc : ∀ q ∈ m, q.cells.length = P.cellsOf e := fun q hq => (hmall q hq).1
   obtain ⟨Cy, vy, y0, y1, y2, y3, y4⟩ := (hy m owny rfl).1 _ hmc
   have R1 : ∀ (base : Option Addr) (cap : Nat), l.length + m.length ≤ cap → (Builtin.append_ #[t, t'] ty #[.slice base l.length cap, y']).run P w =
    (match base with
     | some a => (do storeCells (a.add (l.length * P.cellsOf e)) Cy.toList; pure (.slice base (l.length + m.length) cap) : Sem Value)
     | none => pure (.slice base (l.length + m.length) cap)).run P w := by
    intro base cap hle
    unfold Builtin.append_
    simp only [List.getElem?_toArray, List.getElem?_cons_zero, List.getElem?_cons_succ]
    rw [run_bind_ok (run_und hu)]
    simp only
    rw [run_bind_ok (run_size hd), run_bind_ok (run_und hu')]
    simp only
    rw [run_bind_ok (run_pure _)]
    simp only [Bool.false_eq_true, if_false]
    rw [run_bind_ok y4, if_pos hle]
    simp only [Bool.not_false, if_true]
    rw [run_bind_ok y0]
    cases base <;> rfl
   have R2 : ∀ (base : Option Addr) (cap : Nat), ¬ l.length + m.length ≤ cap → l.length ≤ cap → VR Ψ (.isl l own) (.slice base l.length cap) → (∀ q ∈ l, q.cells.length = P.cellsOf e) →
    ∃ (newCap : Nat) (Cx Cy rest : Array Value) (vx vy : Nat → Nat → Value), (Builtin.append_ #[t, t'] ty #[.slice base l.length cap, y']).run P w =
     .ok (.slice (some ⟨w.heap.size, 0, none⟩) (l.length + m.length) newCap) (w.drew.alloc (.cells (Cx ++ Cy ++ rest) e)) ∧ l.length + m.length ≤ newCap ∧ rest.size = (newCap - (l.length + m.length)) * P.cellsOf e ∧
     Cx.size = l.length * P.cellsOf e ∧ (∀ k j, k < l.length → j < P.cellsOf e → Cx[k * P.cellsOf e + j]? = some (vx k j)) ∧ (∀ (k : Nat) (e : PV) (j : Nat) (p : PV), l[k]? = some e → e.cells[j]? = some p → VR Ψ p (vx k j)) ∧
     Cy.size = m.length * P.cellsOf e ∧ (∀ k j, k < m.length → j < P.cellsOf e → Cy[k * P.cellsOf e + j]? = some (vy k j)) ∧ (∀ (k : Nat) (e : PV) (j : Nat) (p : PV), m[k]? = some e → e.cells[j]? = some p → VR Ψ p (vy k j)) := by
    intro base cap hgt hlc hx hlall
    obtain ⟨Cx, vx, x0, x1, x2, x3, x4⟩ := firstCells_ok (P := P) hs.drew hx hlall
    obtain ⟨Cy', vy', z0, z1, z2, z3, _⟩ := (hy m owny rfl).2 _ hmc
    obtain ⟨z, w1, w2⟩ := zeroPV_ok (w := w.drew) hz Ψ
    have hzs : z.cells.size = P.cellsOf e := by rw [w2.1, hzl]
    have hcut : ∃ newCap, (choose (.appendCap (l.length + m.length) cap e)).run P w = .ok newCap w.drew ∧ l.length + m.length ≤ newCap := ⟨_, rfl, Nat.le_add_right _ _⟩
    obtain ⟨newCap, c1, c2⟩ := hcut
    refine ⟨newCap, Cx, Cy', Builtin.zeroCells z.cells (newCap - (l.length + m.length)), vx, vy', ?_, c2, by simp [Builtin.zeroCells, hzs], x1, x2, x3, z1, z2, z3⟩
    unfold Builtin.append_
    simp only [List.getElem?_toArray, List.getElem?_cons_zero, List.getElem?_cons_succ]
    rw [run_bind_ok (run_und hu)]
    simp only
    rw [run_bind_ok (run_size hd), run_bind_ok (run_und hu')]
    simp only
    rw [run_bind_ok (run_pure _)]
    simp only [Bool.false_eq_true, if_false]
    rw [run_bind_ok y4, if_neg hgt, run_bind_ok (run_info hi)]
    rw [if_neg (by rintro ⟨_, h | h⟩; exact h; rw [hby] at q4; exact q4 h)]
    rw [run_bind_ok (run_info hi)]
    have hcapb : ¬ Builtin.nextslicecap (l.length + m.length) cap * i.bytes > 2 ^ 48 := by
     have h1 := nextslicecap_le (need := l.length + m.length) (old := cap) (by omega)
     have h2 : Builtin.nextslicecap (l.length + m.length) cap * i.bytes ≤ 2 * (l.length + m.length) * i.bytes := Nat.mul_le_mul_right _ h1
     rw [hby] at q3
     rw [Nat.mul_assoc] at h2
     omega
    rw [if_neg hcapb, run_bind_ok c1, run_bind_ok (run_info hi), run_bind_ok (run_askRoom _), run_bind_ok x0]
    simp only [Bool.not_false, if_true]
    rw [run_bind_ok z0, run_bind_ok w1, run_bind_ok (run_newRow e _)]
    rfl
   have bel : ∀ o : Obj, Below Ψ.base w (w.drew.alloc o) := fun o => (Below.refl _ _).drew.alloc hs.base o
   -- where new memory is taken
   have grow : ∀ (base : Option Addr) (cap r' n' : Nat) (σ2 : Sg), ¬ l.length + m.length ≤ cap → l.length ≤ cap → VR Ψ (.isl l own) (.slice base l.length cap) → (∀ q ∈ l, q.cells.length = P.cellsOf e) →
    ((r' = σ.rooms.length ∧ σ2 = σ.pushRoom n') ∨ (∃ n, σ.rooms[r']? = some n ∧ n < n' ∧ σ2 = σ.setRoom r' n')) →
    Did P (Builtin.append_ #[t, t'] ty #[.slice base l.length cap, y']) Ψ w (.isl (l ++ m) (.tok r' n' (P.cellsOf e))) σ2 := by
    intro base cap r' n' σ2 h1 h2 h3 h4 h5
    obtain ⟨newCap, Cx, Cz, rest, vx, vz, k0, k1, k2, k3, k4, k5, k6, k7, k8⟩ := R2 base cap h1 h2 h3 h4
    obtain ⟨Ψ', le, hs', hv⟩ := hs.realloc e h5 h4 hmc k3 k4 k5 k6 k7 k8 k1 k2
    exact ⟨_, _, Ψ', k0, le, hs', hv, bel _⟩
   cases own with
   | ro => cases h
   | exact =>
    simp only at h
    split at h
    ·rename_i hla
     injection h with h
     injection h with h1 h2
     subst h1 h2
     have hlall : ∀ q ∈ l, q.cells.length = P.cellsOf e := fun q hq => by simpa using List.all_eq_true.1 hla q hq
     by_cases hm0 : m = []
     ·subst hm0
      by_cases hl0 : l = []
      ·subst hl0
       obtain ⟨q, rfl⟩ : ∃ q, x' = .slice q 0 0 := by
        cases hx with
        | islnil _ a0 _ => exact ⟨_, rfl⟩
        | isl es0 _ _ b0 o0 cap vals hes k1 k2 hc ho =>
         have ho' : cap = 0 := ho
         subst ho'
         exact ⟨_, rfl⟩
       obtain ⟨Ψ2, le, hs2, _, _, _, _, hh, _⟩ := hs.roomStep (r' := σ.rooms.length) (n' := 0 + 0) (σ2 := σ.pushRoom (0 + 0)) (.inl ⟨rfl, rfl⟩) none (fun b e c es k => by cases k)
       refine ⟨.slice q 0 0, w, Ψ2, ?_, le, hs2, .islnil _ q ⟨_, hh⟩, Below.refl _ _⟩
       have hC : Cy.toList = [] := by
        have : Cy.size = 0 := by simpa using y1
        simpa using this
       have := R1 q 0 (Nat.le_refl _)
       rw [hC] at this
       refine this.trans ?_
       cases q <;> rfl
      obtain ⟨Ψ2, le, hs2, _, _, _, _, hh, _⟩ := hs.roomStep (r' := σ.rooms.length) (n' := l.length + 0) (σ2 := σ.pushRoom (l.length + 0)) (.inl ⟨rfl, rfl⟩)
       (match x' with | .slice (some ⟨b, o, _⟩) _ cap => some (b, o + l.length * P.cellsOf e, o + cap * P.cellsOf e, P.cellsOf e) | _ => none) (by
        intro b e' c es k hlt
        cases hx with
        | islnil _ _ _ => exact absurd rfl hl0
        | isl es0 _ _ b0 o0 cap vals hes k1 k2 hc ho =>
         have ho' : cap = l.length := ho
         injection k with k
         injection k with _ k
         injection k with k2 k
         injection k with k3 _
         rw [ho'] at k3
         omega)
      cases hx with
      | islnil _ _ _ => exact absurd rfl hl0
      | isl es0 _ _ b0 o0 cap vals hes k1 k2 hc ho =>
       have ho' : cap = l.length := ho
       refine ⟨.slice (some ⟨b0, o0, none⟩) (l.length + 0) cap, w, Ψ2, ?_, le, hs2, ?_, Below.refl _ _⟩
       ·have := R1 (some ⟨b0, o0, none⟩) cap (by simp; omega)
        rw [this]
        simp only [Addr.add_none]
        have hC : Cy.toList = [] := by
         have : Cy.size = 0 := by simpa using y1
         simpa using this
        rw [hC]
        rfl
       refine row_append le (es := P.cellsOf e) (vl := vals) (vm := vy) (fun k q hq => hlall q (List.mem_of_getElem? hq)) (fun k q hq => by simp at hq) ?_ (fun k q j p hq => by simp at hq) k2 (fun k q j p hq => by simp at hq) (by simp; omega) ⟨rfl, hh⟩
       intro k q j p hq hj
       have : es0 = P.cellsOf e := by rw [← hes k q hq]; exact hlall q (List.mem_of_getElem? hq)
       subst this
       exact le.imm _ _ _ (k1 k q j p hq hj)
     have hmp : 0 < m.length := List.length_pos_iff.2 hm0
     cases hx with
     | islnil _ a0 ho => exact grow a0 0 _ _ _ (by simp; omega) (Nat.le_refl _) (.islnil _ a0 ho) hlall (.inl ⟨rfl, rfl⟩)
     | isl es0 _ _ b0 o0 cap vals hes k1 k2 hc ho =>
      have ho' : cap = l.length := ho
      exact grow _ cap _ _ _ (by omega) hc (.isl es0 l _ b0 o0 cap vals hes k1 k2 hc ho) hlall (.inl ⟨rfl, rfl⟩)
    cases h
   | tok r n es =>
    simp only at h
    split at h
    ·rename_i hrn
     obtain ⟨hes0, hrn⟩ := hrn
     subst hes0
     injection h with h
     injection h with h1 h2
     subst h1 h2
     by_cases hm0 : m = []
     ·subst hm0
      have hσ : σ.setRoom r (n + 0) = σ := by
       obtain ⟨hl, he⟩ := List.getElem?_eq_some_iff.1 hrn
       have : σ.rooms.set r n = σ.rooms := by rw [← he]; exact List.set_getElem_self hl
       simp only [Sg.setRoom, Nat.add_zero, this]
      have hσ' : σ.setRoom r (n + ([] : List PV).length) = σ := hσ
      rw [hσ', List.append_nil]
      cases hx with
      | islnil _ a0 ho =>
       refine ⟨.slice a0 0 0, w, Ψ, ?_, Ty.le.refl _, hs, .islnil _ a0 ho, Below.refl _ _⟩
       have hC : Cy.toList = [] := by
        have : Cy.size = 0 := by simpa using y1
        simpa using this
       have := R1 a0 0 (Nat.le_refl _)
       rw [hC] at this
       refine this.trans ?_
       cases a0 <;> rfl
      | isl es1 _ _ b0 o0 cap vals hes k1 k2 hc ho =>
       refine ⟨.slice (some ⟨b0, o0, none⟩) (l.length + 0) cap, w, Ψ, ?_, Ty.le.refl _, hs, .isl es1 l _ b0 o0 cap vals hes k1 k2 hc ho, Below.refl _ _⟩
       have := R1 (some ⟨b0, o0, none⟩) cap (by simp; omega)
       rw [this]
       simp only [Addr.add_none]
       have hC : Cy.toList = [] := by
        have : Cy.size = 0 := by simpa using y1
        simpa using this
       rw [hC]
       rfl
     have hmp : 0 < m.length := List.length_pos_iff.2 hm0
     cases hx with
     | islnil _ a0 ho => exact grow a0 0 _ _ _ (by simp; omega) (Nat.le_refl _) (.islnil _ a0 ho) (fun q hq => by cases hq) (.inr ⟨n, hrn, by omega, rfl⟩)
     | isl es1 _ _ b0 o0 cap vals hes k1 k2 hc ho =>
      obtain ⟨he1, ho'⟩ := ho
      subst he1
      have hlall : ∀ q ∈ l, q.cells.length = P.cellsOf e := fun q hq => by obtain ⟨k, hk⟩ := List.mem_iff_getElem?.1 hq; exact hes k q hk
      by_cases hle : l.length + m.length ≤ cap
      ·obtain ⟨w', Ψ', g1, g2, g3, g4, g5⟩ := hs.inPlace (P := P) (Cy := Cy) (vx := vals) (vy := vy) hrn ho' hlall hmall k1 k2 y1 y2 y3 hle hm0 q6
       refine ⟨_, w', Ψ', ?_, g2, g3, g5, g4⟩
       rw [R1 _ _ hle]
       simp only [Addr.add_none]
       rw [run_bind_ok g1]
       rfl
      exact grow _ cap _ _ _ hle hc (.isl _ l _ b0 o0 cap vals hes k1 k2 hc ⟨rfl, ho'⟩) hlall (.inr ⟨n, hrn, by omega, rfl⟩)
    cases h
  cases h
 cases h
theorem RowRd.of_isl {P : Program} {Ψ : Ty} {σ : Sg} {w : World} (hs : SR Ψ σ w) {m : List PV} {own : Own} {y' : Value} (hy : VR Ψ (.isl m own) y') : RowRd P Ψ m y' w := fun _ hall => firstCells_ok hs hy hall
def Sg.drop (σ : Sg) (id : Nat) : Sg := { σ with store := σ.store.set id none }
theorem drop_live {σ : Sg} {id i : Nat} {cs : List PV} (h : (σ.drop id).store[i]? = some (some cs)) : i ≠ id ∧ σ.store[i]? = some (some cs) := by
 simp only [Sg.drop] at h
 rw [List.getElem?_set] at h
 by_cases e : id = i
 ·subst e
  rw [if_pos rfl] at h
  split at h
  ·injection h with h; cases h
  cases h
 rw [if_neg e] at h
 exact ⟨fun e' => e e'.symm, h⟩
structure Free (Ψ : Ty) (σ : Sg) (b : Nat) : Prop where
 base : Ψ.base ≤ b
 imm : ∀ o, Ψ.imm b o = none
 var : ∀ id : Nat, Ψ.β[id]? = some b → ∀ cs, σ.store[id]? ≠ some (some cs)
 room : ∀ (r n e c es : Nat), σ.rooms[r]? = some n → Ψ.hist r n = some (some (b, e, c, es)) → c ≤ e
 rs : ∀ c, (b, c) ∉ Ψ.rs
theorem SR.dropVar {Ψ : Ty} {σ : Sg} {w : World} (h : SR Ψ σ w) (id : Nat) : SR Ψ (σ.drop id) w := by
 refine ⟨h.base, h.imm, by rw [h.blen]; simp [Sg.drop], ?_, ?_, ?_, h.roomsApart, h.histlt, h.histle, h.βlt, h.yok, h.ylen', h.dok, ?_, h.szok⟩
 ·intro i cs b k1 k2
  exact h.block i cs b (drop_live k1).2 k2
 ·intro i i' cs cs' b k1 k2
  exact h.apart i i' cs cs' b (drop_live k1).2 (drop_live k2).2
 ·intro r n b e c es k1 k2 k3
  obtain ⟨a1, a2, a3, a4⟩ := h.room r n b e c es k1 k2 k3
  exact ⟨a1, a2, fun i k cs k' => a3 i k cs (drop_live k').2, a4⟩
 intro b c k
 obtain ⟨a1, a2, a3, a4, a5⟩ := h.rok b c k
 exact ⟨a1, a2, fun i k cs k' => a3 i k cs (drop_live k').2, a4, a5⟩
theorem SR.free {Ψ : Ty} {σ : Sg} {w : World} (h : SR Ψ σ w) {id b : Nat} {cs : List PV} (k1 : σ.store[id]? = some (some cs)) (k2 : Ψ.β[id]? = some b) : Free Ψ (σ.drop id) b := by
 obtain ⟨a1, a2, _⟩ := h.block id cs b k1 k2
 refine ⟨a1, a2, fun i k cs' k' => ?_, fun r n e c es q1 q2 => ?_, fun c q => (h.rok b c q).2.2.1 id k2 cs k1⟩
 ·obtain ⟨hne, k'⟩ := drop_live k'
  exact hne (h.apart i id cs' cs b k' k1 k k2)
 rcases Nat.lt_or_ge e c with hlt | hge
 ·exact absurd k1 ((h.room r n b e c es q1 q2 hlt).2.2.1 id k2 cs)
 exact hge
theorem SR.writeFree {Ψ : Ty} {σ : Sg} {w : World} (h : SR Ψ σ w) {b o : Nat} {x : Value} {c : Array Value} (hb : blockIs w b c) (hf : Free Ψ σ b) : SR Ψ σ (w.setCell ⟨b, o, none⟩ x) :=
 h.write hb hf.base (hf.imm o) hf.rs rfl rfl rfl fun id cs k => ⟨cs, k, .inl ⟨rfl, fun k' => hf.var id k' cs k⟩⟩
theorem SR.setCellsFree {Ψ : Ty} {σ : Sg} {b : Nat} (hf : Free Ψ σ b) : ∀ (vs : List Value) (w : World) (o : Nat) (c : Array Value), SR Ψ σ w → blockIs w b c → SR Ψ σ (setCells w b o vs) := by
 intro vs
 induction vs with
 | nil => intro w o c h _; exact h
 | cons v vs ih =>
  intro w o c h hb
  exact ih _ (o + 1) _ (h.writeFree hb hf) (hb.setCell o v)
/-- A block that nobody holds becomes a variable. -/
theorem SR.hold {Ψ : Ty} {σ : Sg} {w : World} (h : SR Ψ σ w) {b : Nat} {c : Array Value} {cs : List PV} (hf : Free Ψ σ b) (hb : blockIs w b c) (hh : Keeps Ψ w b cs) :
 Ψ.le (Ψ.addVar b) ∧ SR (Ψ.addVar b) (σ.push cs) w := by
 have le := Ty.addVar_le Ψ b
 have old : ∀ (i : Nat) (x : List PV) (b' : Nat), (σ.push cs).store[i]? = some (some x) → (Ψ.addVar b).β[i]? = some b' → (σ.store[i]? = some (some x) ∧ Ψ.β[i]? = some b') ∨ (i = σ.store.length ∧ x = cs ∧ b' = b) := by
  intro i x b' k1 k2
  simp only [Sg.push] at k1
  simp only [Ty.addVar] at k2
  rcases getElem?_snoc k1 with ⟨hlt, k1⟩ | ⟨rfl, e⟩
  ·rw [List.getElem?_append_left (by rw [h.blen]; exact hlt)] at k2
   exact .inl ⟨k1, k2⟩
  injection e with e
  rw [List.getElem?_append_right (by rw [h.blen]; exact Nat.le_refl _), h.blen, Nat.sub_self] at k2
  simp at k2
  exact .inr ⟨rfl, e, k2.symm⟩
 have inv : ∀ (i : Nat) (b' : Nat), (Ψ.addVar b).β[i]? = some b' → (∀ x, (σ.push cs).store[i]? = some (some x) → σ.store[i]? = some (some x) ∧ Ψ.β[i]? = some b') ∨ b' = b := by
  intro i b' k
  by_cases hlt : i < σ.store.length
  ·refine .inl fun x k1 => ?_
   rcases old i x b' k1 k with hh | ⟨rfl, _⟩
   ·exact hh
   omega
  simp only [Ty.addVar] at k
  rcases getElem?_snoc k with ⟨hl, _⟩ | ⟨_, e⟩
  ·rw [h.blen] at hl; omega
  exact .inr e
 refine ⟨le, ⟨h.base, h.imm, by simp [Ty.addVar, Sg.push, h.blen], ?_, ?_, ?_, h.roomsApart, h.histlt, h.histle, ?_, h.yok, h.ylen', h.dok, ?_, ?_⟩⟩
 ·intro i x b' k1 k2
  rcases old i x b' k1 k2 with ⟨q1, q2⟩ | ⟨_, rfl, rfl⟩
  ·obtain ⟨a1, a2, a3⟩ := h.block i x b' q1 q2
   exact ⟨a1, a2, a3.mono le⟩
  exact ⟨hf.base, hf.imm, hh.mono le⟩
 ·intro i i' x x' b' k1 k2 k3 k4
  rcases old i x b' k1 k3 with ⟨q1, q2⟩ | ⟨e1, rfl, e3⟩
  ·rcases old i' x' b' k2 k4 with ⟨q3, q4⟩ | ⟨rfl, rfl, rfl⟩
   ·exact h.apart i i' x x' b' q1 q3 q2 q4
   exact absurd q1 (hf.var i q2 x)
  rcases old i' x' b' k2 k4 with ⟨q3, q4⟩ | ⟨e2, _, _⟩
  ·exact absurd q3 (hf.var i' (e3 ▸ q4) x')
  rw [e1, e2]
 ·intro r n b' e c' es k hx hlt
  obtain ⟨a1, a2, a3, a4⟩ := h.room r n b' e c' es k hx hlt
  refine ⟨a1, a2, fun i k1 x k2 => ?_, a4⟩
  rcases inv i b' k1 with hh | rfl
  ·obtain ⟨q1, q2⟩ := hh x k2
   exact a3 i q2 x q1
  have := hf.room r n e c' es k hx
  omega
 ·intro i b' k
  simp only [Ty.addVar] at k
  rcases getElem?_snoc k with ⟨_, k⟩ | ⟨_, rfl⟩
  ·exact h.βlt i b' k
  exact hb.lt
 ·intro b' c' k
  obtain ⟨a1, a2, a3, a4, a5⟩ := h.rok b' c' k
  refine ⟨a1, a2, fun i k1 x k2 => ?_, a4, a5⟩
  rcases inv i b' k1 with hh | rfl
  ·obtain ⟨q1, q2⟩ := hh x k2
   exact a3 i q2 x q1
  exact hf.rs c' k
 intro b' n k
 rcases List.mem_cons.1 k with k | k
 ·injection k with e1 e2
  subst e1 e2
  obtain ⟨e, hb⟩ := hb
  exact ⟨hf.base, c, e, _, hb, Nat.zero_le _⟩
 exact h.szok b' n k
/-- A size that holds is noted. -/
def Ty.addSz (Ψ : Ty) (b : Nat) (n : Sz) : Ty := { Ψ with sz := (b, n) :: Ψ.sz }
theorem Ty.addSz_le (Ψ : Ty) (b : Nat) (n : Sz) : Ψ.le (Ψ.addSz b n) :=
 ⟨rfl, fun _ _ _ k => k, fun _ _ k => k, fun _ _ _ k => k, fun _ _ k => k, fun _ k => k, fun _ k => k, fun _ k => List.mem_cons_of_mem _ k⟩
theorem SR.addSz {Ψ : Ty} {σ : Sg} {w : World} (h : SR Ψ σ w) {b : Nat} {n : Sz} (hn : SzOK Ψ.base w b n) : SR (Ψ.addSz b n) σ w := by
 refine ⟨h.base, h.imm, h.blen, ?_, h.apart, h.room, h.roomsApart, h.histlt, h.histle, h.βlt, h.yok, h.ylen', h.dok, h.rok, ?_⟩
 ·intro id cs b' k1 k2
  obtain ⟨a1, a2, a3⟩ := h.block id cs b' k1 k2
  exact ⟨a1, a2, a3.mono (Ty.addSz_le Ψ b n)⟩
 intro b' n' k
 rcases List.mem_cons.1 k with k | k
 ·injection k with e1 e2
  subst e1 e2
  exact hn
 exact h.szok b' n' k
/-- What a variable holds is never written again. -/
theorem SR.freeze {Ψ : Ty} {σ : Sg} {w : World} (h : SR Ψ σ w) {id b : Nat} {c : Array Value} {cs : List PV} (k1 : σ.store[id]? = some (some cs)) (k2 : Ψ.β[id]? = some b) (hb : blockIs w b c) :
 Ψ.le (Ψ.addImm b 0 c.size c) ∧ SR (Ψ.addImm b 0 c.size c) (σ.drop id) w := by
 have hf := h.free k1 k2
 exact ⟨Ty.addImm_le fun o _ _ => hf.imm o, (h.dropVar id).addImm hb (fun o _ _ => hf.imm o) hf.var (fun r n e cc es q1 q2 o x1 x2 _ _ => by have := hf.room r n e cc es q1 q2; omega) hf.rs⟩
section
variable {P : Program} {w : World} {t t' ty e e' : TypeId} {d : TypeDesc} {y' : Value} {ml : Nat}
theorem append_fits (hu : P.underlying t = some (.slice e)) (hu' : P.underlying t' = some (.slice e')) (hd : P.underlying e = some d) {Cy : Array Value} {len cap : Nat}
 (y0 : (Builtin.firstCells (P.cellsOf e) ml y').run P w = .ok Cy w) (y4 : (Builtin.lenOf y').run P w = .ok ml w) (hle : len + ml ≤ cap) (a : Addr) :
 (Builtin.append_ #[t, t'] ty #[.slice (some a) len cap, y']).run P w = (do storeCells (a.add (len * P.cellsOf e)) Cy.toList; pure (.slice (some a) (len + ml) cap) : Sem Value).run P w := by
 unfold Builtin.append_
 simp only [List.getElem?_toArray, List.getElem?_cons_zero, List.getElem?_cons_succ]
 rw [run_bind_ok (run_und hu)]
 simp only
 rw [run_bind_ok (run_size hd), run_bind_ok (run_und hu')]
 simp only
 rw [run_bind_ok (run_pure _)]
 simp only [Bool.false_eq_true, if_false]
 rw [run_bind_ok y4, if_pos hle]
 simp only [Bool.not_false, if_true]
 rw [run_bind_ok y0]
theorem append_grows (hu : P.underlying t = some (.slice e)) (hu' : P.underlying t' = some (.slice e')) (hd : P.underlying e = some d) {Cx Cy : Array Value} {len cap : Nat} {base : Option Addr} {zs : List PV}
 (hz : zeroPV P e = some zs) (hzl : zs.length = P.cellsOf e)
 (x0 : (Builtin.firstCells (P.cellsOf e) len (.slice base len cap)).run P w.drew = .ok Cx w.drew)
 (y0 : (Builtin.firstCells (P.cellsOf e) ml y').run P w.drew = .ok Cy w.drew) (y4 : (Builtin.lenOf y').run P w = .ok ml w)
 (hgt : ¬ len + ml ≤ cap) (_ : len ≤ cap) (q3 : (len + ml) * P.bytesOf e ≤ 2 ^ 47) (q4 : P.bytesOf e ≠ 0) :
 ∃ (newCap : Nat) (rest : Array Value), (Builtin.append_ #[t, t'] ty #[.slice base len cap, y']).run P w =
  .ok (.slice (some ⟨w.heap.size, 0, none⟩) (len + ml) newCap) (w.drew.alloc (.cells (Cx ++ Cy ++ rest) e)) ∧ len + ml ≤ newCap ∧ rest.size = (newCap - (len + ml)) * P.cellsOf e := by
 obtain ⟨i, hi⟩ := info_of_underlying hd
 have hby : P.bytesOf e = i.bytes := by simp [Program.bytesOf, hi]
 obtain ⟨z, w1, w2⟩ := zeroPV_ok (w := w.drew) hz (Ty.mk 0 (fun _ _ => none) [] (fun _ _ => none) [] [] [] [])
 have hzs : z.cells.size = P.cellsOf e := by rw [w2.1, hzl]
 have hcut : ∃ newCap, (choose (.appendCap (len + ml) cap e)).run P w = .ok newCap w.drew ∧ len + ml ≤ newCap := ⟨_, rfl, Nat.le_add_right _ _⟩
 obtain ⟨newCap, c1, c2⟩ := hcut
 refine ⟨newCap, Builtin.zeroCells z.cells (newCap - (len + ml)), ?_, c2, by simp [Builtin.zeroCells, hzs]⟩
 unfold Builtin.append_
 simp only [List.getElem?_toArray, List.getElem?_cons_zero, List.getElem?_cons_succ]
 rw [run_bind_ok (run_und hu)]
 simp only
 rw [run_bind_ok (run_size hd), run_bind_ok (run_und hu')]
 simp only
 rw [run_bind_ok (run_pure _)]
 simp only [Bool.false_eq_true, if_false]
 rw [run_bind_ok y4, if_neg hgt, run_bind_ok (run_info hi)]
 rw [if_neg (by rintro ⟨_, h | h⟩; exact h; rw [hby] at q4; exact q4 h)]
 rw [run_bind_ok (run_info hi)]
 have hcapb : ¬ Builtin.nextslicecap (len + ml) cap * i.bytes > 2 ^ 48 := by
  have h1 := nextslicecap_le (need := len + ml) (old := cap) (by omega)
  have h2 : Builtin.nextslicecap (len + ml) cap * i.bytes ≤ 2 * (len + ml) * i.bytes := Nat.mul_le_mul_right _ h1
  rw [hby] at q3
  rw [Nat.mul_assoc] at h2
  omega
 rw [if_neg hcapb, run_bind_ok c1, run_bind_ok (run_info hi), run_bind_ok (run_askRoom _), run_bind_ok x0]
 simp only [Bool.not_false, if_true]
 rw [run_bind_ok y0, run_bind_ok w1, run_bind_ok (run_newRow e _)]
 rfl
end
/-- The cells of a row of things. -/
def rowC (l : List PV) : List PV := l.flatMap PV.cells
theorem rowC_get {es : Nat} : ∀ {l : List PV} (_ : ∀ q ∈ l, q.cells.length = es) {i : Nat} {p : PV}, (rowC l)[i]? = some p → ∃ (k : Nat) (q : PV) (j : Nat), i = k * es + j ∧ l[k]? = some q ∧ q.cells[j]? = some p := by
 intro l
 induction l with
 | nil => intro _ i p h; simp [rowC] at h
 | cons a l ih =>
  intro hl i p h
  have ha := hl a (by simp)
  have e : rowC (a :: l) = a.cells ++ rowC l := by simp [rowC]
  rw [e] at h
  by_cases hi : i < a.cells.length
  ·rw [List.getElem?_append_left hi] at h
   exact ⟨0, a, i, by omega, rfl, h⟩
  rw [List.getElem?_append_right (by omega)] at h
  obtain ⟨k, q, j, e1, e2, e3⟩ := ih (fun q hq => hl q (by simp [hq])) h
  refine ⟨k + 1, q, j, ?_, by simpa using e2, e3⟩
  rw [Nat.add_mul]
  omega
theorem rowC_length {es : Nat} : ∀ {l : List PV} (_ : ∀ q ∈ l, q.cells.length = es), (rowC l).length = l.length * es := by
 intro l
 induction l with
 | nil => intro _; simp [rowC]
 | cons a l ih =>
  intro hl
  have e : rowC (a :: l) = a.cells ++ rowC l := by simp [rowC]
  rw [e, List.length_append, ih (fun q hq => hl q (by simp [hq])), hl a (by simp), List.length_cons, Nat.add_mul, Nat.one_mul, Nat.add_comm]
def appendG (P : Program) (σ : Sg) (t t' : TypeId) (x y : PV) : Option (PV × Sg) :=
  match P.underlying t, P.underlying t', y with
  | some (.slice e), some (.slice _), .isl m _ =>
    if (P.underlying e).isSome && m.all (fun q => (q.cells.length == P.cellsOf e) && q.cells.all PV.scalar) && decide (P.bytesOf e ≠ 0 ∧ 0 < P.cellsOf e) && ((zeroPV P e).map List.length == some (P.cellsOf e)) && decide (0 < m.length) then
      (match x with
       | .gnil => if m.length * P.bytesOf e ≤ 2 ^ 47 then some (.gsl σ.store.length m.length (P.cellsOf e), σ.push (rowC m)) else none
       | .gsl id len es => match σ.store[id]? with
         | some (some cs) => if es = P.cellsOf e ∧ len * es ≤ cs.length ∧ (len + m.length) * P.bytesOf e ≤ 2 ^ 47 then some (.gsl σ.store.length (len + m.length) es, (σ.drop id).push (cs.take (len * es) ++ rowC m)) else none
         | _ => none
       | _ => none)
    else none
  | _, _, _ => none
theorem grown {P : Program} {Ψ : Ty} {σ : Sg} {w : World} {e : TypeId} (hs : SR Ψ σ w) {cs : List PV} {m : List PV} {len es newCap : Nat} {Cx Cy rest : Array Value} {vy : Nat → Nat → Value}
 (hes : es = P.cellsOf e) (hcs : cs.length = len * es) (hm : ∀ q ∈ m, q.cells.length = es)
 (x1 : Cx.size = len * es) (x3 : ∀ (j : Nat) (p : PV) (v : Value), cs[j]? = some p → Cx[j]? = some v → VR Ψ p v)
 (y1 : Cy.size = m.length * es) (y2 : ∀ k j, k < m.length → j < es → Cy[k * es + j]? = some (vy k j)) (y3 : ∀ (k : Nat) (e : PV) (j : Nat) (p : PV), m[k]? = some e → e.cells[j]? = some p → VR Ψ p (vy k j))
 (hcap : len + m.length ≤ newCap) (hrest : rest.size = (newCap - (len + m.length)) * es) :
 ∃ Ψ', Ψ.le Ψ' ∧ SR Ψ' (σ.push (cs ++ rowC m)) (w.drew.alloc (.cells (Cx ++ Cy ++ rest) e)) ∧ VR Ψ' (.gsl σ.store.length (len + m.length) es) (.slice (some ⟨w.heap.size, 0, none⟩) (len + m.length) newCap) := by
 have hsize : (Cx ++ Cy ++ rest).size = newCap * es := by
  simp only [Array.size_append, x1, y1, hrest]
  rw [← Nat.add_mul, ← Nat.add_mul]
  congr 1
  omega
 have hml := rowC_length hm
 have hle : (len + m.length) * es ≤ newCap * es := Nat.mul_le_mul_right _ hcap
 rw [Nat.add_mul] at hle
 obtain ⟨le1, hs1⟩ := hs.drew.newVar (Cx ++ Cy ++ rest) e (cs ++ rowC m) (by rw [hsize, List.length_append, hcs, hml]; exact hle) (by
  intro j p v h1 h2
  by_cases hj : j < cs.length
  ·rw [List.getElem?_append_left hj] at h1
   rw [Array.append_assoc, Array.getElem?_append_left (by omega)] at h2
   exact x3 j p v h1 h2
  rw [List.getElem?_append_right (by omega)] at h1
  obtain ⟨k, q, j', e1, e2, e3⟩ := rowC_get hm h1
  have hk : k < m.length := (List.getElem?_eq_some_iff.1 e2).1
  have hj' : j' < es := by rw [← hm q (List.mem_of_getElem? e2)]; exact (List.getElem?_eq_some_iff.1 e3).1
  have hy := y2 k j' hk hj'
  rw [← e1] at hy
  have hlt : j - cs.length < Cy.size := (Array.getElem?_eq_some_iff.1 hy).1
  rw [Array.append_assoc, Array.getElem?_append_right (by omega), Array.getElem?_append_left (by omega), x1, ← hcs, hy] at h2
  injection h2 with h2
  subst h2
  exact y3 k q j' p e2 e3)
 have hb : True ∧ (w.drew.alloc (.cells (Cx ++ Cy ++ rest) e)).heap[w.heap.size]? = some (.cells (Cx ++ Cy ++ rest) e (0, 0)) := ⟨trivial, heap_alloc_new w.drew _⟩
 have hs2 := hs1.addSz (b := w.heap.size) (n := .n (newCap * es)) ⟨hs.base, _, _, _, hb.2, by rw [hsize]; exact Nat.le_refl _⟩
 refine ⟨_, le1.trans (Ty.addSz_le _ _ _), hs2, .gsl _ _ _ w.heap.size newCap ?_ (List.mem_cons_self ..) (List.mem_cons_of_mem _ (List.mem_cons_self ..)) hcap⟩
 show (Ψ.β ++ [w.heap.size])[σ.store.length]? = _
 rw [← hs.blen]
 simp
theorem appendG_okG {P : Program} {Ψ : Ty} {σ σ' : Sg} {w : World} (hs : SR Ψ σ w) {t t' ty : TypeId} {x y v : PV} (h : appendG P σ t t' x y = some (v, σ')) {x' y' : Value} (hx : VR Ψ x x') (hy : ∀ m own, y = .isl m own → RowRd P Ψ m y' w ∧ RowRd P Ψ m y' w.drew) :
 Did P (Builtin.append_ #[t, t'] ty #[x', y']) Ψ w v σ' := by
 unfold appendG at h
 split at h
 ·rename_i e e' m owny hu hu'
  split at h
  ·rename_i hh
   simp only [Bool.and_eq_true, beq_iff_eq, decide_eq_true_eq] at hh
   obtain ⟨⟨⟨⟨q1, q2⟩, q4, q6⟩, q5⟩, hmp⟩ := hh
   obtain ⟨d, hd⟩ := Option.isSome_iff_exists.1 q1
   obtain ⟨zs, hz, hzl⟩ : ∃ zs, zeroPV P e = some zs ∧ zs.length = P.cellsOf e := by
    cases hz : zeroPV P e with
    | none => rw [hz] at q5; cases q5
    | some zs => rw [hz] at q5; exact ⟨zs, rfl, by simpa using q5⟩
   have hmall : ∀ q ∈ m, q.cells.length = P.cellsOf e ∧ ∀ c ∈ q.cells, c.scalar = true := by
    intro q hq
    have := List.all_eq_true.1 q2 q hq
    simp only [Bool.and_eq_true, beq_iff_eq, List.all_eq_true] at this
    exact this
   have hmc : ∀ q ∈ m, q.cells.length = P.cellsOf e := fun q hq => (hmall q hq).1
   obtain ⟨Cy, vy, y0, y1, y2, y3, y4⟩ := (hy m owny rfl).1 _ hmc
   obtain ⟨Cz, vz, z0, z1, z2, z3, _⟩ := (hy m owny rfl).2 _ hmc
   have bel : ∀ o : Obj, Below Ψ.base w (w.drew.alloc o) := fun o => (Below.refl _ _).drew.alloc hs.base o
   split at h
   ·split at h
    ·rename_i q3
     injection h with h
     injection h with h1 h2
     subst h1 h2
     cases hx with
     | gnil a =>
     obtain ⟨newCap, rest, r1, r2, r3⟩ := append_grows (ty := ty) (w := w) (base := a) (len := 0) (cap := 0) hu hu' hd hz hzl (Cx := #[]) (by cases a <;> simp [Builtin.firstCells, loadCells, loadCellsFrom]) z0 y4 (by omega) (Nat.le_refl _) (by rw [Nat.zero_add]; exact q3) q4
     obtain ⟨Ψ', le, hs', hv⟩ := grown (P := P) (e := e) hs (cs := []) (len := 0) (Cx := #[]) rfl (by simp) hmc (by simp) (fun j p v h => by simp at h) z1 z2 z3 r2 r3
     rw [Nat.zero_add] at r1 hv
     exact ⟨_, _, Ψ', r1, le, hs', hv, bel _⟩
    cases h
   ·rename_i id len es
    split at h
    ·rename_i cs hcs
     split at h
     ·rename_i q3
      obtain ⟨hes, hlen0, q3⟩ := q3
      injection h with h
      injection h with h1 h2
      subst h1 h2
      cases hx with
      | gsl _ _ _ b cap hβ hsz hsz0 hc =>
      obtain ⟨a1, a2, a3⟩ := hs.block id cs b hcs hβ
      obtain ⟨c, hb, hcn⟩ := a3.blk (hs.szok _ _ hsz)
      obtain ⟨a4, a5⟩ := a3.cells hb
      obtain ⟨ct, hct⟩ : ∃ z, cs.take (len * es) = z := ⟨_, rfl⟩
      have hlen : ct.length = len * es := by rw [← hct, List.length_take]; omega
      have a5' : ∀ (j : Nat) (p : PV) (v : Value), ct[j]? = some p → c[j]? = some v → VR Ψ p v := fun j p v g1 g2 => by
       have hj : j < ct.length := (List.getElem?_eq_some_iff.1 g1).1
       rw [← hct, List.getElem?_take_of_lt (by omega)] at g1
       exact a5 j p v g1 g2
      rw [hct]
      have hlc : len * es ≤ cap * es := Nat.mul_le_mul_right _ hc
      have hst : (σ.drop id).store.length = σ.store.length := by simp [Sg.drop]
      by_cases hle : len + m.length ≤ cap
      ·have hlm : (len + m.length) * es ≤ cap * es := Nat.mul_le_mul_right _ hle
       rw [Nat.add_mul] at hlm
       have hlenC : Cy.toList.length = m.length * es := by rw [hes]; simpa using y1
       have hCy : ∀ v ∈ Cy.toList, oneCellV v = true := by
        intro v hv
        obtain ⟨i, hi⟩ := List.mem_iff_getElem?.1 hv
        have hi' : i < m.length * P.cellsOf e := by
         have := (List.getElem?_eq_some_iff.1 hi).1
         simp at this; omega
        have hk : i / P.cellsOf e < m.length := (Nat.div_lt_iff_lt_mul q6).2 hi'
        have hj : i % P.cellsOf e < P.cellsOf e := Nat.mod_lt _ q6
        have hq := hmall m[i / P.cellsOf e] (List.getElem_mem _)
        have := y2 (i / P.cellsOf e) (i % P.cellsOf e) hk hj
        rw [Nat.div_add_mod'] at this
        rw [Array.getElem?_toList, this] at hi
        injection hi with hi
        subst hi
        have hp := y3 (i / P.cellsOf e) m[i / P.cellsOf e] (i % P.cellsOf e) ((m[i / P.cellsOf e]).cells[i % P.cellsOf e]'(by omega)) (by simp) (by simp)
        exact hp.oneCell (hq.2 _ (List.getElem_mem _))
       have hrun := run_storeCells_any (P := P) (b := b) (o := 0 + len * es) Cy.toList w 0 c hb (by rw [hlenC]; omega) hCy
       rw [Nat.add_zero] at hrun
       have hf := hs.free hcs hβ
       have hs1 := (hs.dropVar id).setCellsFree hf Cy.toList w (0 + len * es) c hb
       obtain ⟨c', b1, b2, b3, b4⟩ := setCells_block Cy.toList w b (0 + len * es) c hb
       have hml : (rowC m).length = m.length * es := by rw [hes]; exact rowC_length hmc
       have hh : Keeps Ψ (setCells w b (0 + len * es) Cy.toList) b (ct ++ rowC m) := by
        refine .inl ⟨c', b1, by rw [List.length_append, hml, hlen]; omega, fun j p v g1 g2 => ?_⟩
        by_cases hj : j < ct.length
        ·rw [List.getElem?_append_left hj] at g1
         rw [b3 j (.inl (by omega))] at g2
         exact a5' j p v g1 g2
        rw [List.getElem?_append_right (by omega)] at g1
        obtain ⟨k, q, j', e1, e2, e3⟩ := rowC_get hmc g1
        have hk : k < m.length := (List.getElem?_eq_some_iff.1 e2).1
        have hj' : j' < P.cellsOf e := by rw [← hmc q (List.mem_of_getElem? e2)]; exact (List.getElem?_eq_some_iff.1 e3).1
        have hy := y2 k j' hk hj'
        rw [← e1] at hy
        have hlt : j - ct.length < Cy.size := (Array.getElem?_eq_some_iff.1 hy).1
        have hlt' : j - ct.length < m.length * es := by rw [hes]; omega
        have := b4 (j - ct.length) (by rw [hlenC]; exact hlt') (by omega)
        rw [show 0 + len * es + (j - ct.length) = j by omega, g2, Array.getElem?_toList, hy] at this
        injection this with this
        subst this
        exact y3 k q j' p e2 e3
       obtain ⟨le2, hs2⟩ := hs1.hold hf b1 hh
       refine ⟨.slice (some ⟨b, 0, none⟩) (len + m.length) cap, setCells w b (0 + len * es) Cy.toList, Ψ.addVar b, ?_, le2, hs2, .gsl _ _ _ b cap ?_ (List.mem_cons_of_mem _ hsz) (List.mem_cons_self ..) hle, setCells_below a1 _ _ _⟩
       ·rw [append_fits (ty := ty) hu hu' hd y0 y4 hle, ← hes]
        simp only [Addr.add_none]
        rw [run_bind_ok hrun]
        rfl
       show (Ψ.β ++ [b])[σ.store.length]? = _
       rw [← hs.blen]
       simp
      have x0 := run_loadCells (P := P) (w := w.drew) b 0 (c.extract 0 (len * es)).toList (fun k hk => by
       simp only [Array.length_toList, Array.size_extract, Nat.sub_zero] at hk
       have hk' : k < c.size := by omega
       have := blockIs.cell (w := w.drew) (b := b) (c := c) hb (o := 0 + k)
       rw [this]
       simp [hk'])
      have hCx : (c.extract 0 (len * es)).size = len * es := by simp; omega
      obtain ⟨newCap, rest, r1, r2, r3⟩ := append_grows (ty := ty) (w := w) (base := some ⟨b, 0, none⟩) (len := len) (cap := cap) hu hu' hd hz hzl (Cx := c.extract 0 (len * es)) (by
       rw [Array.length_toList, hCx, Array.toArray_toList, hes] at x0
       rw [hes]
       simp only [Builtin.firstCells]
       exact x0) z0 y4 hle hc q3 q4
      obtain ⟨Ψ', le, hs', hv⟩ := grown (P := P) (e := e) (hs.dropVar id) (cs := ct) (len := len) (es := es) hes hlen (by rw [hes]; exact hmc) hCx (fun j p v g1 g2 => by
       have hj : j < len * es := by rw [← hlen]; exact (List.getElem?_eq_some_iff.1 g1).1
       rw [Array.getElem?_extract] at g2
       refine a5' j p v g1 ?_
       simpa [show j < min (len * es) c.size by omega] using g2) (by rw [hes]; exact z1) (by rw [hes]; exact z2) z3 r2 (by rw [hes]; exact r3)
      rw [hst] at hv
      exact ⟨_, _, Ψ', r1, le, hs', hv, bel _⟩
     cases h
    cases h
   cases h
  cases h
 cases h
def cell1 (c : PV) : PV := if c.scalar = true then c else .agg [c]
theorem cell1_cells (c : PV) : (cell1 c).cells = [c] := by
 unfold cell1
 split
 ·rename_i h
  cases c <;> first | rfl | cases h
 rfl
/-- Cells as one thing. -/
def joinC : List PV → PV
 | [c] => cell1 c
 | l => .agg l
theorem joinC_cells (l : List PV) : (joinC l).cells = l := by
 unfold joinC
 split
 ·exact cell1_cells _
 rfl
def chunk (es : Nat) : Nat → List PV → List PV
 | 0, _ => []
 | n + 1, cs => joinC (cs.take es) :: chunk es n (cs.drop es)
theorem chunk_len (es : Nat) : ∀ (n : Nat) (cs : List PV), (chunk es n cs).length = n := by
 intro n
 induction n with
 | zero => intro cs; rfl
 | succ n ih => intro cs; simp [chunk, ih]
theorem chunk_get (es : Nat) : ∀ (n : Nat) (cs : List PV) (k : Nat) (q : PV), (chunk es n cs)[k]? = some q → q = joinC ((cs.drop (k * es)).take es) := by
 intro n
 induction n with
 | zero => intro cs k q h; simp [chunk] at h
 | succ n ih =>
  intro cs k q h
  cases k with
  | zero => simp [chunk] at h; simp [h]
  | succ k =>
   simp only [chunk, List.getElem?_cons_succ] at h
   rw [ih _ _ _ h, List.drop_drop, Nat.add_mul, Nat.one_mul, Nat.add_comm es]
/-- What is appended, as a row. -/
def rowPV (σ : Sg) (es : Nat) (y : PV) : PV :=
 match y with
 | .gsl id len es' => match σ.store[id]? with
  | some (some cs) => if len * es ≤ cs.length ∧ es' = es then .isl (chunk es len cs) .ro else .undef
  | _ => .undef
 | .msl id off len => match σ.store[id]? with
  | some (some cs) => if off + len * es ≤ cs.length then .isl (chunk es len (cs.drop off)) .ro else .undef
  | _ => .undef
 | .gnil => .isl [] .ro
 | y => y
theorem RowRd.of_var {P : Program} {Ψ : Ty} {σ : Sg} {w : World} (hs : SR Ψ σ w) {id b off len cap es : Nat} {cs : List PV} (k1 : σ.store[id]? = some (some cs)) (k2 : Ψ.β[id]? = some b) (hz : (b, .n 0) ∈ Ψ.sz) (hl : off + len * es ≤ cs.length) :
 RowRd P Ψ (chunk es len (cs.drop off)) (.slice (some ⟨b, off, none⟩) len cap) w := by
 intro size hall
 obtain ⟨_, _, a3⟩ := hs.block id cs b k1 k2
 obtain ⟨c, hb, _⟩ := a3.blk (hs.szok _ _ hz)
 obtain ⟨a4, a5⟩ := a3.cells hb
 rw [chunk_len]
 by_cases h0 : len = 0
 ·subst h0
  refine ⟨#[], fun _ _ => undef, by simp [Builtin.firstCells, loadCells, loadCellsFrom], by simp, fun k j h => by omega, fun k e j p h => by simp [chunk] at h, rfl⟩
 have hes : size = es := by
  cases len with
  | zero => exact absurd rfl h0
  | succ n =>
   have := hall _ (List.mem_cons_self ..)
   rw [joinC_cells, List.length_take, List.length_drop] at this
   have h1 : (n + 1) * es = n * es + es := by rw [Nat.add_mul, Nat.one_mul]
   rw [h1] at hl
   omega
 subst hes
 have x0 := run_loadCells (P := P) (w := w) b off (c.extract off (off + len * size)).toList (fun k hk => by
  simp only [Array.length_toList, Array.size_extract] at hk
  have := blockIs.cell (w := w) (b := b) (c := c) hb (o := off + k)
  rw [this]
  have hk' : off + k < c.size := by omega
  simp [hk'])
 have hCx : (c.extract off (off + len * size)).size = len * size := by simp; omega
 refine ⟨c.extract off (off + len * size), fun k j => (c[off + (k * size + j)]?).getD undef, ?_, hCx, fun k j hk hj => ?_, fun k e j p h1 h2 => ?_, rfl⟩
 ·rw [Array.length_toList, hCx, Array.toArray_toList] at x0
  simp only [Builtin.firstCells]
  exact x0
 ·have h1 : (k + 1) * size ≤ len * size := Nat.mul_le_mul_right _ (by omega)
  rw [Nat.add_mul, Nat.one_mul] at h1
  rw [Array.getElem?_extract, if_pos (by omega)]
  have h2 : off + (k * size + j) < c.size := by omega
  simp only
  rw [Array.getElem?_eq_getElem h2]
  rfl
 have hk : k < len := by have := (List.getElem?_eq_some_iff.1 h1).1; rw [chunk_len] at this; exact this
 have e1 := chunk_get _ _ _ _ _ h1
 subst e1
 rw [joinC_cells] at h2
 have hj : j < size := by have := (List.getElem?_eq_some_iff.1 h2).1; rw [List.length_take] at this; omega
 rw [List.getElem?_take_of_lt hj, List.getElem?_drop, List.getElem?_drop] at h2
 have h3 : (k + 1) * size ≤ len * size := Nat.mul_le_mul_right _ (by omega)
 rw [Nat.add_mul, Nat.one_mul] at h3
 have h4 : off + (k * size + j) < c.size := by omega
 simp only
 rw [Array.getElem?_eq_getElem h4]
 refine a5 (off + (k * size + j)) p _ ?_ (Array.getElem?_eq_getElem h4)
 rw [← h2]
 try (congr 1; omega)
theorem rowPV_rd {P : Program} {Ψ : Ty} {σ : Sg} {w : World} (hs : SR Ψ σ w) {es : Nat} {y : PV} {y' : Value} (hy : VR Ψ y y') (m : List PV) (own : Own) (h : rowPV σ es y = .isl m own) : RowRd P Ψ m y' w ∧ RowRd P Ψ m y' w.drew := by
 unfold rowPV at h
 split at h
 ·rename_i id len es'
  split at h
  ·rename_i cs k1
   split at h
   ·rename_i hc
    injection h with h1 h2
    subst h1
    cases hy with
    | gsl _ _ _ b cap hβ hsz hsz0 hcap =>
    have a := RowRd.of_var (P := P) hs (off := 0) (cap := cap) k1 hβ hsz0 (by rw [Nat.zero_add]; exact hc.1)
    have b' := RowRd.of_var (P := P) hs.drew (off := 0) (cap := cap) k1 hβ hsz0 (by rw [Nat.zero_add]; exact hc.1)
    rw [List.drop_zero] at a b'
    exact ⟨a, b'⟩
   cases h
  cases h
 ·rename_i id off len
  split at h
  ·rename_i cs k1
   split at h
   ·rename_i hc
    injection h with h1 h2
    subst h1
    cases hy with
    | msl _ _ _ b cap hβ hsz0 hcap => exact ⟨.of_var hs k1 hβ hsz0 hc, .of_var hs.drew k1 hβ hsz0 hc⟩
   cases h
  cases h
 ·injection h with h1 h2
  subst h1
  cases hy with
  | gnil a => exact ⟨.of_isl hs (own := .ro) (.islnil _ a trivial), .of_isl hs.drew (own := .ro) (.islnil _ a trivial)⟩
 subst h
 exact ⟨.of_isl hs hy, .of_isl hs.drew hy⟩
def strPV (s : ByteArray) : List PV := s.data.toList.map fun b => PV.int .u8 b.toNat
theorem strPV_len (s : ByteArray) : (strPV s).length = s.size := by simp [strPV]
def bytesArg (P : Program) (t' : TypeId) (y : PV) : Option (List PV) :=
 match y, P.underlying t' with
 | .str s, some .string => some (strPV s)
 | .isl m _, some (.slice _) => some m
 | _, _ => none
def appendB (P : Program) (σ : Sg) (t t' : TypeId) (l : List PV) (r : Nat) (te : TypeId) (y : PV) : Option (PV × Sg) :=
 match P.underlying t, bytesArg P t' y with
 | some (.slice e), some m => if e = te ∧ P.cellsOf e = 1 then (appendPV P σ t t (.isl l (.tok r l.length 1)) (.isl m .ro)).map fun x => (.bbuf (l ++ m) r te, x.2) else none
 | _, _ => none
theorem RowRd.of_str {P : Program} {Ψ : Ty} {w : World} (s : ByteArray) : RowRd P Ψ (strPV s) (.string s) w := by
 intro size hall
 have hsz : ∀ k, k < s.size → size = 1 := fun k hk => by
  have := hall ((strPV s)[k]'(by rw [strPV_len]; exact hk)) (List.getElem_mem _)
  simpa [strPV, PV.cells] using this.symm
 have hget : ∀ k, k < s.size → ((s.extract 0 s.size).data.map fun b => Value.int .u8 b.toNat)[k]? = some (.int .u8 (s.data.getD k 0).toNat) := fun k hk => by
  have hk' : k < s.data.size := hk
  have he : (s.extract 0 s.size) = s := by simp
  rw [he, Array.getElem?_map, Array.getD_eq_getD_getElem?, Array.getElem?_eq_getElem hk']
  rfl
 rw [strPV_len]
 by_cases h0 : s.size = 0
 ·refine ⟨(s.extract 0 s.size).data.map fun b => .int .u8 b.toNat, fun _ _ => undef, rfl, by simp [h0], fun k j h => by omega, fun k e j p h => ?_, rfl⟩
  have := (List.getElem?_eq_some_iff.1 h).1
  rw [strPV_len] at this
  omega
 obtain rfl := hsz 0 (by omega)
 refine ⟨(s.extract 0 s.size).data.map fun b => .int .u8 b.toNat, fun k _ => .int .u8 (s.data.getD k 0).toNat, rfl, by simp, fun k j hk hj => ?_, fun k e j p h1 h2 => ?_, rfl⟩
 ·rw [show k * 1 + j = k by omega]; exact hget k hk
 have hk : k < s.size := by have := (List.getElem?_eq_some_iff.1 h1).1; rw [strPV_len] at this; exact this
 have hk' : k < s.data.size := hk
 simp only [strPV, List.getElem?_map, Option.map_eq_some_iff] at h1
 obtain ⟨b, hb, rfl⟩ := h1
 rw [Array.getElem?_toList, Array.getElem?_eq_getElem hk'] at hb
 injection hb with hb
 subst hb
 cases j with
 | zero =>
  simp [PV.cells] at h2
  subst h2
  simp only []
  rw [Array.getD_eq_getD_getElem?, Array.getElem?_eq_getElem hk']
  exact .int _ _
 | succ j => simp [PV.cells] at h2
theorem append_arg {P : Program} {w : World} {t t' ty e : TypeId} {d : TypeDesc} {x y : Value} (hu : P.underlying t = some (.slice e)) (hu' : P.underlying t' = some d) (hd : ∀ k, d ≠ .int k) (he : (P.underlying e).isSome = true) :
 (Builtin.append_ #[t, t'] ty #[x, y]).run P w = (Builtin.append_ #[t, t] ty #[x, y]).run P w := by
 obtain ⟨de, hde⟩ := Option.isSome_iff_exists.1 he
 unfold Builtin.append_
 simp only [List.getElem?_toArray, List.getElem?_cons_zero, List.getElem?_cons_succ]
 rw [run_bind_ok (run_und hu), run_bind_ok (run_und hu)]
 simp only
 cases x with
 | slice b n c =>
  simp only
  rw [run_bind_ok (run_size hde), run_bind_ok (run_size hde), run_bind_ok (run_und hu'), run_bind_ok (run_und hu)]
  cases d <;> first | rfl | exact absurd rfl (hd _)
 | _ => rfl
theorem appendB_ok {P : Program} {Ψ : Ty} {σ σ' : Sg} {w : World} (hs : SR Ψ σ w) {t t' ty te : TypeId} {l : List PV} {r : Nat} {y v : PV} (h : appendB P σ t t' l r te y = some (v, σ')) {x' y' : Value} (hx : VR Ψ (.bbuf l r te) x') (hy : VR Ψ y y') :
 Did P (Builtin.append_ #[t, t'] ty #[x', y']) Ψ w v σ' := by
 unfold appendB at h
 split at h
 ·rename_i e m hu hm
  split at h
  ·rename_i hc
   obtain ⟨rfl, hc1⟩ := hc
   cases ha : appendPV P σ t t (.isl l (.tok r l.length 1)) (.isl m .ro) with
   | none => rw [ha] at h; cases h
   | some z0 =>
    obtain ⟨v0, σ0⟩ := z0
    rw [ha] at h
    simp only [Option.map_some, Option.some.injEq, Prod.mk.injEq] at h
    obtain ⟨rfl, rfl⟩ := h
    -- what appendPV asks for
    have ha0 := ha
    unfold appendPV at ha0
    rw [hu] at ha0
    simp only at ha0
    split at ha0
    rotate_left
    ·cases ha0
    rename_i hh
    simp only [Bool.and_eq_true, beq_iff_eq, decide_eq_true_eq] at hh
    obtain ⟨⟨⟨⟨q1, q2⟩, q3⟩, q4, q6⟩, q5⟩ := hh
    split at ha0
    rotate_left
    ·cases ha0
    simp only [Option.some.injEq, Prod.mk.injEq] at ha0
    obtain ⟨rfl, rfl⟩ := ha0
    obtain ⟨d, hd⟩ := Option.isSome_iff_exists.1 q1
    obtain ⟨zs, hz, hzl⟩ : ∃ zs, zeroPV P e = some zs ∧ zs.length = P.cellsOf e := by
     cases hz : zeroPV P e with
     | none => rw [hz] at q5; cases q5
     | some zs => rw [hz] at q5; exact ⟨zs, rfl, by simpa using q5⟩
    have hmc : ∀ q ∈ m, q.cells.length = P.cellsOf e := by
     intro q hq
     have := List.all_eq_true.1 q2 q hq
     simp only [Bool.and_eq_true, beq_iff_eq] at this
     exact this.1
    -- what is appended
    have hyr : RowRd P Ψ m y' w ∧ RowRd P Ψ m y' w.drew ∧ ∃ d', P.underlying t' = some d' ∧ ∀ k, d' ≠ .int k := by
     unfold bytesArg at hm
     split at hm
     ·rename_i s hu'
      injection hm with hm
      subst hm
      rw [hy.str_inv]
      exact ⟨.of_str s, .of_str s, _, hu', fun k => by simp⟩
     ·rename_i m' own e' hu'
      injection hm with hm
      subst hm
      exact ⟨.of_isl hs hy, .of_isl hs.drew hy, _, hu', fun k => by simp⟩
     cases hm
    obtain ⟨hy1, hy2, d', hu', hd'⟩ := hyr
    cases hx with
    | bbuf _ _ _ _ h0 ht =>
    obtain ⟨z, w', Ψ', r1, le, hs', hv, hb⟩ := appendPV_okG (ty := ty) hs ha h0 fun m' own e' => by
     injection e' with e1 _
     subst e1
     exact ⟨hy1, hy2⟩
    have hrun : (Builtin.append_ #[t, t'] ty #[x', y']).run P w = .ok z w' := by rw [append_arg hu hu' hd' q1]; exact r1
    rw [show l.length + m.length = (l ++ m).length by simp] at hv
    -- the row's type
    suffices hty : ∃ Ψ2, Ψ'.le Ψ2 ∧ SR Ψ2 (σ.setRoom r (l.length + m.length)) w' ∧ ∀ g o n cap, z = .slice (some ⟨g, o, none⟩) n cap → cap ≠ 0 → o = 0 ∧ (g, .ty e cap) ∈ Ψ2.sz by
     obtain ⟨Ψ2, le2, hs2, hty⟩ := hty
     exact ⟨z, w', Ψ2, hrun, le.trans le2, hs2, .bbuf _ _ _ _ (hv.mono le2) hty, hb⟩
    obtain ⟨Cy, vy, y0, y1, _, _, y4⟩ := hy1 _ hmc
    obtain ⟨Cz, vz, z0, z1, _, _, _⟩ := hy2 _ hmc
    obtain ⟨base, cap, hxs, hcap⟩ : ∃ base cap, x' = .slice base l.length cap ∧ l.length ≤ cap := by
     cases h0 with
     | islnil _ a _ => exact ⟨a, 0, rfl, Nat.le_refl _⟩
     | isl es _ _ b o cap vals _ _ _ hcap _ => exact ⟨_, cap, rfl, hcap⟩
    subst hxs
    by_cases hle : l.length + m.length ≤ cap
    · -- in place
     refine ⟨Ψ', Ty.le.refl _, hs', fun g o n cap' e1 e2 => ?_⟩
     cases base with
     | none =>
      exfalso
      cases h0 with
      | islnil _ _ _ =>
       have hm0 : m = [] := by cases m with | nil => rfl | cons => simp at hle
       subst hm0
       have hC : Cy.toList = [] := by
        have : Cy.size = 0 := by simpa using y1
        simpa using this
       have : (Builtin.append_ #[t, t] ty #[.slice none 0 0, y']).run P w = .ok (.slice none 0 0) w := by
        unfold Builtin.append_
        simp only [List.getElem?_toArray, List.getElem?_cons_zero, List.getElem?_cons_succ]
        rw [run_bind_ok (run_und hu)]
        simp only
        rw [run_bind_ok (run_size hd), run_bind_ok (run_und hu)]
        simp only
        rw [run_bind_ok (run_pure _)]
        simp only [Bool.false_eq_true, if_false]
        rw [run_bind_ok y4, if_pos (by simp)]
        simp only [Bool.not_false, if_true]
        rw [run_bind_ok y0]
        rfl
       have r2 := this.symm.trans r1
       injection r2 with r2 _
       rw [← r2] at e1
       cases e1
     | some a0 =>
      obtain ⟨g0, o0, sp⟩ := a0
      have hsp : sp = none := by
       cases h0 with
       | islnil _ _ _ =>
        exfalso
        have hm0 : m = [] := by cases m with | nil => rfl | cons => simp at hle
        subst hm0
        have := append_fits (ty := ty) (w := w) hu hu hd y0 y4 hle ⟨g0, o0, sp⟩
        have hC : Cy.toList = [] := by
         have : Cy.size = 0 := by simpa using y1
         simpa using this
        rw [hC] at this
        rw [this] at r1
        simp only [storeCells] at r1
        rw [run_bind_ok (run_pure _), run_pure] at r1
        injection r1 with r1 _
        rw [← r1] at e1
        injection e1 with _ _ e1
        exact e2 (by rw [← e1])
       | isl => rfl
      subst hsp
      have hf := append_fits (ty := ty) (w := w) hu hu hd y0 y4 hle ⟨g0, o0, none⟩
      rw [hf] at r1
      have hz2 : z = .slice (some ⟨g0, o0, none⟩) (l.length + m.length) cap := by
       cases hst : (storeCells ((⟨g0, o0, none⟩ : Addr).add (l.length * P.cellsOf e)) Cy.toList).run P w with
       | ok u w1 =>
        rw [run_bind_ok hst, run_pure] at r1
        injection r1 with r1 _
        exact r1.symm
       | _ => rw [Sem.run_bind, hst] at r1; cases r1
      rw [hz2] at e1
      injection e1 with e1 _ e3
      injection e1 with e1
      injection e1 with e1 e4 _
      subst e1 e3 e4
      obtain ⟨g1, g2⟩ := ht g0 o0 _ cap rfl e2
      exact ⟨g1, le.sz _ g2⟩
    -- moved
    obtain ⟨Cx, vx, x0, x1, _, _, _⟩ := firstCells_ok (P := P) hs.drew h0 (size := P.cellsOf e) (fun q hq => by
     cases h0 with
     | islnil _ _ _ => cases hq
     | isl es _ _ b o cap vals hes _ _ _ ho => obtain ⟨k, hk⟩ := List.mem_iff_getElem?.1 hq; rw [hes k q hk, ho.1.symm, hc1])
    obtain ⟨newCap, rest, k0, k1, k2⟩ := append_grows (ty := ty) (w := w) (base := base) (len := l.length) (cap := cap) hu hu hd hz hzl x0 z0 y4 hle hcap q3 q4
    rw [k0] at r1
    injection r1 with r1 r2
    subst r1 r2
    have hk : SzOK Ψ'.base (w.drew.alloc (.cells (Cx ++ Cz ++ rest) e)) w.heap.size (.ty e newCap) := ⟨by rw [le.base]; exact hs.base, _, _, heap_alloc_new w.drew _, by
     simp only [Array.size_append, x1, z1, k2, hc1]; omega⟩
    refine ⟨Ψ'.addSz w.heap.size (.ty e newCap), Ty.addSz_le _ _ _, hs'.addSz hk, fun g o n cap' e1 e2 => ?_⟩
    injection e1 with e1 _ e3
    injection e1 with e1
    injection e1 with e1 e4 _
    subst e1 e3 e4
    exact ⟨rfl, List.mem_cons_self ..⟩
  cases h
 cases h
def esOf (P : Program) (t : TypeId) : Nat := match P.underlying t with | some (.slice e) => P.cellsOf e | _ => 0
def appendAny (P : Program) (σ : Sg) (t t' : TypeId) (x y : PV) : Option (PV × Sg) :=
 match x with
 | .gnil => appendG P σ t t' .gnil (rowPV σ (esOf P t) y)
 | .gsl id len es => appendG P σ t t' (.gsl id len es) (rowPV σ (esOf P t) y)
 | .bbuf l r te => appendB P σ t t' l r te y
 | x => appendPV P σ t t' x (rowPV σ (esOf P t) y)
theorem appendAny_isl {P : Program} {σ : Sg} {t t' : TypeId} {l m : List PV} {o o' : Own} : appendAny P σ t t' (.isl l o) (.isl m o') = appendPV P σ t t' (.isl l o) (.isl m o') := rfl
theorem appendAny_gsl {P : Program} {σ : Sg} {t t' : TypeId} {id len es : Nat} {m : List PV} {o' : Own} : appendAny P σ t t' (.gsl id len es) (.isl m o') = appendG P σ t t' (.gsl id len es) (.isl m o') := rfl
theorem appendAny_gnil {P : Program} {σ : Sg} {t t' : TypeId} {m : List PV} {o' : Own} : appendAny P σ t t' .gnil (.isl m o') = appendG P σ t t' .gnil (.isl m o') := rfl
theorem appendAny_bbuf {P : Program} {σ : Sg} {t t' te : TypeId} {l : List PV} {r : Nat} {y : PV} : appendAny P σ t t' (.bbuf l r te) y = appendB P σ t t' l r te y := rfl
theorem appendAny_ok {P : Program} {Ψ : Ty} {σ σ' : Sg} {w : World} (hs : SR Ψ σ w) {t t' ty : TypeId} {x y v : PV} (h : appendAny P σ t t' x y = some (v, σ')) {x' y' : Value} (hx : VR Ψ x x') (hy : VR Ψ y y') :
 Did P (Builtin.append_ #[t, t'] ty #[x', y']) Ψ w v σ' := by
 unfold appendAny at h
 split at h
 ·exact appendG_okG hs h hx fun m own e => rowPV_rd hs hy m own e
 ·exact appendG_okG hs h hx fun m own e => rowPV_rd hs hy m own e
 ·exact appendB_ok hs h hx hy
 exact appendPV_okG hs h hx fun m own e => rowPV_rd hs hy m own e
end Go.Proofs.YtdoohibbfjdblaaGreatDoor
