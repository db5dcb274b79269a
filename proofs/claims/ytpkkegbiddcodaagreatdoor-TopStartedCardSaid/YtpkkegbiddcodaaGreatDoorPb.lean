/-
  Maps: made, looked up, written.
  Maps that are ranged over: iterators.
  The walk over the pure reading: what it means that code, begun in a state, ends as said; the steps.
  The walk over the pure reading: regions, control.
  From a world to its pure reading: what the arguments of a law are read as, and the law's row out of the law's walk. No program is named here.
  The walk over the pure reading: control, loops.
  Forgetting what is no longer used; a function's call out of the walk of its body.
  A function's call out of the walk of its body.
  The walk over the pure reading: less is known; loops over functions.
  The walk over the pure reading: the loop over a function.
  Regions that draw their order: what an operation looks at; blocks set apart.
  Regions that draw their order: one order is walked; what must hold for it to stand for all.
  Regions that draw their order: what is checked of the operations' order.
  Regions that draw their order: one operation, taken when its turn may come.
  Regions that draw their order: the walked order stands for all.
  Regions that draw their order: the rule.
-/
import Derived.Test.YtpkkegbiddcodaaGreatDoorPa
import Derived.CallsIn
import Derived.RangeFuncLeaves
import Derived.RangeFuncRecord
import Derived.OrdersIn
import Derived.Below
import Derived.Laws.World
import Derived.Laws.StructEq
import Derived.Laws.BytesString
import Derived.Laws.Append
import Derived.MapKept
import Derived.ProofKit
import Derived.Carry
import Derived.Handed
import Derived.ChangeCalls
import Derived.Stop.Joined
import Derived.Lib.LaidTab
import Derived.Shelf.Strconv.Itoa3
import Derived.RangeFuncIn
import Derived.RangeFuncNested
import Derived.Test.YtpkkegbiddcodaaGreatDoorProg
import Derived.KernelRfl
import Derived.IntWalk
import Derived.Sort.OwnSortedInts
import Derived.Lib.SlicesCompact
import Derived.Shelf.Strings.Builder1
import Derived.Shelf.Strings.SlTrimAscii
import Derived.Lib.SplitLaws
import Derived.Lib.AtoiAll
import Derived.Lib.ItoaNum
import Derived.Lib.IndexBytes
import Derived.Shelf.Strings.Split
import Derived.Shelf.Strconv.AtoiAll
import Derived.Lib.AtoiErrMem
import Derived.Lib.ItoaLen
import Derived.Tactics
import Derived.Tactics2
import Derived.StillTactics
import Derived.Laws.RangeString
import Derived.Laws.RangeAny
import Derived.LoopTactic
import Derived.Scope
import Derived.FnLit
import Derived.Shelf.Strings.Prefix
import Derived.Shelf.Strings.Count
import Derived.Shelf.Strings.Cut
import Derived.Test.YtpkkegbiddcodaaGreatDoorCards
import Derived.Test.YtpkkegbiddcodaaGreatDoorChecked
import Derived.JoinedOf
import Derived.Test.YtpkkegbiddcodaaGreatDoorTie
import Derived.LaidMore
import Derived.LaidSub
import Derived.Lay
import Derived.SevenTiedAt
import Derived.Lib.LaidU8
import Derived.Shelf.Vars
import Derived.OpenShut
set_option linter.unusedSimpArgs false
set_option linter.unusedVariables false
namespace Go.Proofs.YtpkkegbiddcodaaGreatDoor
open Go Go.RowKit
def Ty.addB (Ψ : Ty) (b : Nat) : Ty := { Ψ with β := Ψ.β ++ [b] }
theorem Ty.addB_le (Ψ : Ty) (b : Nat) : Ψ.le (Ψ.addB b) := by
 refine ⟨rfl, fun _ _ _ k => k, fun i x k => ?_, fun _ _ _ k => k, fun _ _ k => k, fun _ k => k, fun _ k => k, fun _ k => k⟩
 simp only [Ty.addB]
 rw [List.getElem?_append_left (List.getElem?_eq_some_iff.1 k).1]; exact k
theorem SR.holdB {Ψ : Ty} {σ : Sg} {w : World} (h : SR Ψ σ w) {b : Nat} {cs : List PV} (hf : Free Ψ σ b) (hb : b < w.heap.size) (hh : Keeps Ψ w b cs) :
 Ψ.le (Ψ.addB b) ∧ SR (Ψ.addB b) (σ.push cs) w := by
 have le := Ty.addB_le Ψ b
 have old : ∀ (i : Nat) (x : List PV) (b' : Nat), (σ.push cs).store[i]? = some (some x) → (Ψ.addB b).β[i]? = some b' → (σ.store[i]? = some (some x) ∧ Ψ.β[i]? = some b') ∨ (i = σ.store.length ∧ x = cs ∧ b' = b) := by
  intro i x b' k1 k2
  simp only [Sg.push] at k1
  simp only [Ty.addB] at k2
  rcases getElem?_snoc k1 with ⟨hlt, k1⟩ | ⟨rfl, e⟩
  ·rw [List.getElem?_append_left (by rw [h.blen]; exact hlt)] at k2
   exact .inl ⟨k1, k2⟩
  injection e with e
  rw [List.getElem?_append_right (by rw [h.blen]; exact Nat.le_refl _), h.blen, Nat.sub_self] at k2
  simp at k2
  exact .inr ⟨rfl, e, k2.symm⟩
 have inv : ∀ (i : Nat) (b' : Nat), (Ψ.addB b).β[i]? = some b' → (∀ x, (σ.push cs).store[i]? = some (some x) → σ.store[i]? = some (some x) ∧ Ψ.β[i]? = some b') ∨ b' = b := by
  intro i b' k
  by_cases hlt : i < σ.store.length
  ·refine .inl fun x k1 => ?_
   rcases old i x b' k1 k with hh | ⟨rfl, _⟩
   ·exact hh
   omega
  simp only [Ty.addB] at k
  rcases getElem?_snoc k with ⟨hl, _⟩ | ⟨_, e⟩
  ·rw [h.blen] at hl; omega
  exact .inr e
 refine ⟨le, ⟨h.base, h.imm, by simp [Ty.addB, Sg.push, h.blen], ?_, ?_, ?_, h.roomsApart, h.histlt, h.histle, ?_, h.yok, h.ylen', h.dok, ?_, h.szok⟩⟩
 ·intro i x b' k1 k2
  rcases old i x b' k1 k2 with ⟨q1, q2⟩ | ⟨_, rfl, rfl⟩
  ·obtain ⟨a1, a2, a3⟩ := h.block i x b' q1 q2
   exact ⟨a1, a2, a3.mono le⟩
  exact ⟨hf.base, hf.imm, hh.mono le⟩
 ·intro i i' x x' b' k1 k2 k3 k4
  rcases old i x b' k1 k3 with ⟨q1, q2⟩ | ⟨e1, rfl, e3⟩
  ·rcases old i' x' b' k2 k4 with ⟨q3, q4⟩ | ⟨rfl, rfl, rfl⟩
   ·exact h.apart i i' x x' b' q1 q3 q2 q4
   exact absurd q1 (hf.var i q2 x)
  rcases old i' x' b' k2 k4 with ⟨q3, q4⟩ | ⟨e2, _, _⟩
  ·exact absurd q3 (hf.var i' (e3 ▸ q4) x')
  rw [e1, e2]
 ·intro r n b' e' c' es k hx hlt
  obtain ⟨a1, a2, a3, a4⟩ := h.room r n b' e' c' es k hx hlt
  refine ⟨a1, a2, fun i k1 x k2 => ?_, a4⟩
  rcases inv i b' k1 with hh | rfl
  ·obtain ⟨q1, q2⟩ := hh x k2
   exact a3 i q2 x q1
  have := hf.room r n e' c' es k hx
  omega
 ·intro i b' k
  simp only [Ty.addB] at k
  rcases getElem?_snoc k with ⟨_, k⟩ | ⟨_, rfl⟩
  ·exact h.βlt i b' k
  exact hb
 intro b' c' k
 obtain ⟨a1, a2, a3, a4, a5⟩ := h.rok b' c' k
 refine ⟨a1, a2, fun i k1 x k2 => ?_, a4, a5⟩
 rcases inv i b' k1 with hh | rfl
 ·obtain ⟨q1, q2⟩ := hh x k2
  exact a3 i q2 x q1
 exact hf.rs c' k
theorem makeMap_ok {P : Program} {Ψ : Ty} {σ : Sg} {w : World} (hs : SR Ψ σ w) (t : TypeId) : Did P (Instr.makeMap t none) Ψ w (.map σ.store.length) (σ.push [.mark]) := by
 have hf := hs.fresh
 have hs1 := hs.alloc (.map #[] 0)
 have hF : Free Ψ σ w.heap.size := ⟨hs.base, hf.imm, fun id k => absurd k (hf.β id), hf.hist, hf.rs⟩
 have hnew : (w.alloc (.map #[] 0)).heap[w.heap.size]? = some (.map #[] 0) := World.alloc_heap_new w _
 obtain ⟨le, hs2⟩ := hs1.holdB (cs := [.mark]) hF (by rw [World.size_alloc]; omega) (.inr (.inl ⟨#[], [], rfl, hnew, rfl, fun j p e h => by simp at h⟩))
 exact ⟨.map (some w.heap.size), _, _, rfl, le, hs2, .map _ _ (by simp [Ty.addB, ← hs.blen]), (Below.refl _ _).alloc hs.base _⟩
/-- The entries of a map that a variable holds are others now. -/
theorem SR.putMap {Ψ : Ty} {σ : Sg} {w : World} (h : SR Ψ σ w) {id r : Nat} {cs cs' : List PV} {a0 : Array MapEntry} {n0 : Nat} {o : Obj} (hid : σ.store[id]? = some (some cs)) (hβ : Ψ.β[id]? = some r) (hr : w.heap[r]? = some (.map a0 n0))
 (hk : Keeps Ψ (w.putObj r o) r cs') : SR Ψ (σ.setVar id cs') (w.putObj r o) := by
 have oth : ∀ k, k ≠ r → (w.putObj r o).heap[k]? = w.heap[k]? := fun k hk => World.putObj_heap_other hk
 have cel : ∀ b i v, w.cell? ⟨b, i, none⟩ = some v → (w.putObj r o).cell? ⟨b, i, none⟩ = some v := by
  intro b i v hv
  have hne : b ≠ r := by
   rintro rfl
   rw [cell_eq, hr] at hv
   cases hv
  rw [cell_eq, oth b hne, ← cell_eq]; exact hv
 have blk : ∀ b c, blockIs w b c → blockIs (w.putObj r o) b c := by
  intro b c hb
  have hne : b ≠ r := by
   rintro rfl
   obtain ⟨e, he⟩ := hb
   rw [hr] at he
   cases he
  exact hb.of_heap (oth b hne)
 have sz : (w.putObj r o).heap.size = w.heap.size := by simp [World.putObj]
 have hlt : id < σ.store.length := (List.getElem?_eq_some_iff.1 hid).1
 have live : ∀ (i : Nat) (x : List PV), (σ.setVar id cs').store[i]? = some (some x) → (i = id ∧ x = cs') ∨ (i ≠ id ∧ σ.store[i]? = some (some x)) := by
  intro i x hx
  simp only [Sg.setVar] at hx
  rw [List.getElem?_set] at hx
  by_cases e : id = i
  ·subst e
   rw [if_pos rfl, if_pos hlt] at hx
   injection hx with hx
   injection hx with hx
   exact .inl ⟨rfl, hx.symm⟩
  rw [if_neg e] at hx
  exact .inr ⟨fun e' => e e'.symm, hx⟩
 have was : ∀ (i : Nat) (x : List PV), (σ.setVar id cs').store[i]? = some (some x) → ∃ y, σ.store[i]? = some (some y) := by
  intro i x hx
  rcases live i x hx with ⟨rfl, _⟩ | ⟨_, hx⟩
  ·exact ⟨cs, hid⟩
  exact ⟨x, hx⟩
 refine ⟨by rw [sz]; exact h.base, fun b i v k => cel _ _ _ (h.imm b i v k), by rw [h.blen]; simp [Sg.setVar], ?_, ?_, ?_, h.roomsApart, h.histlt, h.histle, fun id b k => by rw [sz]; exact h.βlt id b k, ?_, h.ylen', ?_, ?_, ?_⟩
 ·intro i x b k1 k2
  rcases live i x k1 with ⟨rfl, rfl⟩ | ⟨hne, k1⟩
  ·have : b = r := by rw [hβ] at k2; injection k2 with k2; exact k2.symm
   subst this
   obtain ⟨a1, a2, _⟩ := h.block i cs b hid k2
   exact ⟨a1, a2, hk⟩
  obtain ⟨a1, a2, a3⟩ := h.block i x b k1 k2
  have hbr : b ≠ r := by
   rintro rfl
   exact hne (h.apart i id x cs b k1 hid k2 hβ)
  exact ⟨a1, a2, a3.of_heap (oth b hbr)⟩
 ·intro i i' x x' b k1 k2 k3 k4
  obtain ⟨y, hy⟩ := was i x k1
  obtain ⟨y', hy'⟩ := was i' x' k2
  exact h.apart i i' y y' b hy hy' k3 k4
 ·intro r' n b e c es k hx hl
  obtain ⟨a1, a2, a3, cc, a4, a5⟩ := h.room r' n b e c es k hx hl
  refine ⟨a1, a2, fun i k1 x k2 => ?_, cc, blk _ _ a4, a5⟩
  obtain ⟨y, hy⟩ := was i x k2
  exact a3 i k1 y hy
 ·intro y l d s k1 k2
  obtain ⟨a1, a0, a2⟩ := h.yok y l d s k1 k2
  have hne : l ≠ r := by rintro rfl; rw [hr] at a2; cases a2
  exact ⟨a1, a0, by rw [oth l hne]; exact a2⟩
 ·intro d k
  obtain ⟨a1, a2⟩ := h.dok d k
  exact ⟨a1, by rw [oth d (by rintro rfl; rw [hr] at a2; cases a2)]; exact a2⟩
 ·intro b c k
  obtain ⟨a1, a2, a3, a4, a5⟩ := h.rok b c k
  refine ⟨a1, a2, fun i k1 x k2 => ?_, a4, blk _ _ a5⟩
  obtain ⟨y, hy⟩ := was i x k2
  exact a3 i k1 y hy
 intro b n k
 exact (h.szok b n k).of_heap (oth b ((h.szok b n k).ne hr (by intros; simp)))
def intsEq : List PV → List PV → Option Bool
 | [], [] => some true
 | .int k a :: xs, .int k' b :: ys => if k = k' then (intsEq xs ys).map fun r => (a == b) && r else none
 | _, _ => none
theorem intsEq_true : ∀ {cs ds : List PV}, intsEq cs ds = some true → cs = ds ∧ ∀ p, p ∈ cs → ∃ k a, p = .int k a := by
 intro cs
 induction cs with
 | nil =>
  intro ds h
  cases ds with
  | nil => exact ⟨rfl, fun p hp => by cases hp⟩
  | cons => simp [intsEq] at h
 | cons c cs ih =>
  intro ds h
  cases ds with
  | nil => simp [intsEq] at h
  | cons d ys =>
  cases c with
  | int k a =>
   cases d with
   | int k' b =>
   simp only [intsEq] at h
   split at h
   ·rename_i hk
    subst hk
    cases hr : intsEq cs ys with
    | none => rw [hr] at h; cases h
    | some r =>
     rw [hr] at h
     simp only [Option.map_some, Option.some.injEq, Bool.and_eq_true, beq_iff_eq] at h
     obtain ⟨rfl, rfl⟩ := h
     obtain ⟨q1, q2⟩ := ih hr
     refine ⟨by rw [q1], fun p hp => ?_⟩
     rcases List.mem_cons.1 hp with rfl | hp
     ·exact ⟨_, _, rfl⟩
     exact q2 p hp
   ·cases h
   | _ => simp [intsEq] at h
  | _ => simp [intsEq] at h
/-- Are two keys of a type the same? -/
def keyEq (P : Program) (kt : TypeId) : PV → PV → Option Bool
 | .int k a, .int k' b => if k = k' then some (a == b) else none
 | .str a, .str b => some (a == b)
 | .bool a, .bool b => some (a == b)
 | .agg cs, .agg ds => match P.underlying kt, intsEq cs ds with
  | some (.struct fs), some r => if P.stoodInHeld kt = false ∧ eqFieldsPV P cs ds fs.toList = some r then some r else none
  | _, _ => none
 | _, _ => none
/-- Where the key stands, and what is beside it. -/
def findPV (P : Program) (kt : TypeId) (key : PV) : List PV → Nat → Option (Option (Nat × PV))
 | [], _ => some none
 | .tuple [k, v] :: es, i => match keyEq P kt key k with
  | some true => some (some (i, v))
  | some false => findPV P kt key es (i + 1)
  | none => none
 | _ :: _, _ => none
def keyField (P : Program) (n : Nat) (f : Field) : Bool :=
 decide (f.name ≠ "_") && (match P.underlying f.type with | some (.int _) => true | _ => false) && decide (f.offset < n)
def keyFor (P : Program) : TypeDesc → PV → Bool
 | .int _, .int _ _ => true
 | .string, .str _ => true
 | .bool, .bool _ => true
 | .struct fs, .agg cs => fs.toList.all (keyField P cs.length)
 | _, _ => false
/-- A constant, a nil slice known to be nil. -/
def constN : Value → PV
 | .slice none 0 0 => .nilsl
 | v => constPV0 v
theorem constN_ok (Ψ : Ty) (v : Value) : VR Ψ (constN v) v := by
 unfold constN
 split
 ·exact .nilsl
 exact constPV0_ok Ψ _
def zeroOne (P : Program) (t : TypeId) : Option PV :=
 match P.info? t with
 | some i => match i.zero with
  | some v => if oneCellV v then some (constN v) else some (constPV v)
  | none => none
 | none => none
theorem zeroOne_ok {P : Program} {w : World} {t : TypeId} {z : PV} (h : zeroOne P t = some z) (Ψ : Ty) : ∃ y, (zeroValue t).run P w = .ok y w ∧ VR Ψ z y := by
 unfold zeroOne at h
 split at h
 ·rename_i i hi
  split at h
  ·rename_i v hv
   split at h
   ·injection h with h
    subst h
    exact ⟨v, by simp [zeroValue, typeInfo, program, Sem.run, hi, hv, Bind.bind, Sem.bind, Pure.pure], constN_ok Ψ v⟩
   injection h with h
   subst h
   exact ⟨v, by simp [zeroValue, typeInfo, program, Sem.run, hi, hv, Bind.bind, Sem.bind, Pure.pure], constPV_ok Ψ v⟩
  cases h
 cases h
/-- What a search for a key comes to, for keys of one cell, and for keys that are structs of numbers. -/
def Scal : TypeDesc → Bool
 | .struct _ => false
 | _ => true
theorem keyEq_ok {P : Program} {kt : TypeId} {Ψ : Ty} {kd : TypeDesc} {k p : PV} {x y : Value} {r : Bool} (hs : Scal kd = true) (hk : keyFor P kd k = true) (h : keyEq P kt k p = some r) (hx : VR Ψ k x) (hy : VR Ψ p y) : Instr.sameNow kd x y = some r ∧ (r = true → Instr.sameBits 10000 y x = true) := by
 unfold keyEq at h
 split at h
 ·rename_i a1 a b1 b
  rw [hx.int_inv, hy.int_inv]
  split at h
  ·rename_i e
   subst e
   injection h with h
   cases kd <;> first | cases hk | skip
   refine ⟨by simp [Instr.sameNow, h], fun hr => ?_⟩
   rw [hr] at h
   have : a = b := by simpa using h
   subst this
   simp [Instr.sameBits]
  cases h
 ·rename_i a b
  rw [hx.str_inv, hy.str_inv]
  injection h with h
  cases kd <;> first | cases hk | skip
  refine ⟨by simp [Instr.sameNow, h], fun hr => ?_⟩
  rw [hr] at h
  have : a = b := (MapKept.bytes_beq a b).1 h
  subst this
  simpa [Instr.sameBits] using h
 ·rename_i a b
  rw [hx.bool_inv, hy.bool_inv]
  injection h with h
  cases kd <;> first | cases hk | skip
  refine ⟨by simp [Instr.sameNow, h], fun hr => ?_⟩
  rw [hr] at h
  have : a = b := by simpa using h
  subst this
  simp [Instr.sameBits]
 ·cases kd <;> first | cases hk | cases hs
 cases h
theorem findPV_ok {P : Program} {kt : TypeId} {Ψ : Ty} {kd : TypeDesc} {k : PV} {x : Value} (hs : Scal kd = true) (hk : keyFor P kd k = true) (hx : VR Ψ k x) : ∀ (es : List PV) (l : List MapEntry) (i : Nat) (r : Option (Nat × PV)), findPV P kt k es i = some r → es.length = l.length →
 (∀ (j : Nat) (p : PV) (e : MapEntry), es[j]? = some p → l[j]? = some e → ∃ a v, p = .tuple [a, v] ∧ VR Ψ a e.key ∧ VR Ψ v e.val) →
 match r with
 | none => Instr.findNow kd x l i = some none
 | some (j, v) => ∃ e, i ≤ j ∧ l[j - i]? = some e ∧ Instr.findNow kd x l i = some (some (j, e.val)) ∧ VR Ψ v e.val ∧ Instr.sameBits 10000 e.key x = true := by
 intro es
 induction es with
 | nil =>
  intro l i r h hl _
  cases l with
  | cons => simp at hl
  | nil =>
   simp only [findPV] at h
   injection h with h
   subst h
   rfl
 | cons p es ih =>
  intro l i r h hl hv
  cases l with
  | nil => simp at hl
  | cons e l =>
   obtain ⟨a, v, rfl, ha, hvv⟩ := hv 0 p e rfl rfl
   simp only [findPV] at h
   cases he : keyEq P kt k a with
   | none => rw [he] at h; cases h
   | some b =>
    rw [he] at h
    obtain ⟨s1, s2⟩ := keyEq_ok hs hk he hx ha
    cases b with
    | true =>
     simp only at h
     injection h with h
     subst h
     exact ⟨e, Nat.le_refl _, by simp, by simp [Instr.findNow, s1], hvv, s2 rfl⟩
    | false =>
     simp only at h
     have := ih l (i + 1) r h (by simpa using hl) (fun j p e h1 h2 => hv (j + 1) p e (by simpa using h1) (by simpa using h2))
     cases r with
     | none => simpa [Instr.findNow, s1] using this
     | some jv =>
      obtain ⟨j, v'⟩ := jv
      obtain ⟨e', g1, g2, g3, g4⟩ := this
      refine ⟨e', by omega, ?_, by simpa [Instr.findNow, s1] using g3, g4⟩
      rw [show j - i = j - (i + 1) + 1 by omega]
      simpa using g2
theorem ints_same {Ψ : Ty} {cs : List PV} {xs ys : Array Value} (hx : VRs Ψ cs xs) (hy : VRs Ψ cs ys) (hi : ∀ p, p ∈ cs → ∃ k a, p = .int k a) : xs = ys ∧ ∀ v, v ∈ xs.toList → ∃ k a, v = .int k a := by
 have el : ∀ (zs : Array Value), VRs Ψ cs zs → ∀ (j : Nat) (p : PV), cs[j]? = some p → ∃ k a, p = .int k a ∧ zs[j]? = some (.int k a) := by
  intro zs hz j p hp
  obtain ⟨k, a, rfl⟩ := hi p (List.mem_of_getElem? hp)
  have hl : j < zs.size := by rw [hz.1]; exact (List.getElem?_eq_some_iff.1 hp).1
  have := (hz.2 j _ zs[j] hp (by simp [hl])).int_inv
  exact ⟨k, a, rfl, by simp [hl, this]⟩
 refine ⟨?_, ?_⟩
 ·refine Array.ext (by rw [hx.1, hy.1]) fun j h1 h2 => ?_
  have hj : j < cs.length := by rw [← hx.1]; exact h1
  obtain ⟨k, a, e, e1⟩ := el xs hx j cs[j] (by simp [hj])
  obtain ⟨k', a', e', e2⟩ := el ys hy j cs[j] (by simp [hj])
  rw [e] at e'
  injection e' with q1 q2
  subst q1 q2
  have e3 := (Array.getElem?_eq_some_iff.1 e1).2
  have e4 := (Array.getElem?_eq_some_iff.1 e2).2
  rw [e3, e4]
 intro v hv
 obtain ⟨j, hj⟩ := List.mem_iff_getElem?.1 hv
 have hjl : j < cs.length := by rw [← hx.1]; simpa using (List.getElem?_eq_some_iff.1 hj).1
 obtain ⟨k, a, _, e1⟩ := el xs hx j cs[j] (by simp [hjl])
 simp only [Array.getElem?_toList] at hj
 rw [e1] at hj
 injection hj with hj
 exact ⟨k, a, hj.symm⟩
theorem sameBits_ints {n : Nat} {xs : Array Value} (h : ∀ v, v ∈ xs.toList → ∃ k a, v = .int k a) : Instr.sameBits (n + 1) (.agg xs) (.agg xs) = true := by
 simp only [Instr.sameBits, beq_self_eq_true, Bool.true_and]
 generalize xs.toList = l at h
 induction l with
 | nil => rfl
 | cons v l ih =>
  simp only [List.zip_cons_cons, List.all_cons, Bool.and_eq_true]
  obtain ⟨k, a, rfl⟩ := h v (by simp)
  exact ⟨by cases n <;> simp [Instr.sameBits], ih fun v hv => h v (by simp [hv])⟩
theorem run_equal_key {P : Program} {w : World} {Ψ : Ty} {kt : TypeId} {cs ds : List PV} {xs ys : Array Value} {r : Bool} (h : keyEq P kt (.agg cs) (.agg ds) = some r) (hx : VRs Ψ cs xs) (hy : VRs Ψ ds ys) :
 (Op.equal kt (.agg xs) (.agg ys)).run P w = .ok r w ∧ (r = true → Instr.sameBits 10000 (.agg ys) (.agg xs) = true) := by
 simp only [keyEq] at h
 split at h
 ·rename_i fs r' hu hi
  split at h
  ·rename_i hh
   injection h with h
   subst h
   have hf : P.fieldsOf kt = fs := by simp [Program.fieldsOf, hu]
   have he := run_equalIn_struct (P := P) w 9999 kt xs ys (by rw [hf]; exact hu) hh.1
   rw [hf, eqFieldsPV_ok hx hy 9998 fs.toList r' hh.2] at he
   refine ⟨he, fun hr => ?_⟩
   subst hr
   obtain ⟨rfl, q⟩ := intsEq_true hi
   obtain ⟨rfl, q2⟩ := ints_same hx hy q
   exact sameBits_ints q2
  cases h
 cases h
theorem findPVs_ok {P : Program} {w : World} {kt : TypeId} {Ψ : Ty} {cs : List PV} {xs : Array Value} (hx : VRs Ψ cs xs) : ∀ (es : List PV) (l : List MapEntry) (i : Nat) (r : Option (Nat × PV)), findPV P kt (.agg cs) es i = some r → es.length = l.length →
 (∀ (j : Nat) (p : PV) (e : MapEntry), es[j]? = some p → l[j]? = some e → ∃ a v, p = .tuple [a, v] ∧ VR Ψ a e.key ∧ VR Ψ v e.val) →
 match r with
 | none => (Instr.findAsking kt (.agg xs) l i).run P w = .ok none w
 | some (j, v) => ∃ e, i ≤ j ∧ l[j - i]? = some e ∧ (Instr.findAsking kt (.agg xs) l i).run P w = .ok (some (j, e.val)) w ∧ VR Ψ v e.val ∧ Instr.sameBits 10000 e.key (.agg xs) = true := by
 intro es
 induction es with
 | nil =>
  intro l i r h hl _
  cases l with
  | cons => simp at hl
  | nil =>
   simp only [findPV] at h
   injection h with h
   subst h
   rfl
 | cons p es ih =>
  intro l i r h hl hv
  cases l with
  | nil => simp at hl
  | cons e l =>
   obtain ⟨a, v, rfl, ha, hvv⟩ := hv 0 p e rfl rfl
   simp only [findPV] at h
   cases he : keyEq P kt (.agg cs) a with
   | none => rw [he] at h; cases h
   | some b =>
    rw [he] at h
    have ⟨ds, hds⟩ : ∃ ds, a = .agg ds := by
     cases a <;> first | exact ⟨_, rfl⟩ | (simp [keyEq] at he; done)
    subst hds
    obtain ⟨ys, hys, hyr⟩ := ha.agg_inv
    obtain ⟨s1, s2⟩ := run_equal_key (w := w) he hx hyr
    rw [← hys] at s1 s2
    cases b with
    | true =>
     simp only at h
     injection h with h
     subst h
     exact ⟨e, Nat.le_refl _, by simp, by simp only [Instr.findAsking]; rw [run_bind_ok s1]; rfl, hvv, s2 rfl⟩
    | false =>
     simp only at h
     have := ih l (i + 1) r h (by simpa using hl) (fun j p e h1 h2 => hv (j + 1) p e (by simpa using h1) (by simpa using h2))
     cases r with
     | none =>
      simp only [Instr.findAsking]
      rw [run_bind_ok s1]
      exact this
     | some jv =>
      obtain ⟨j, v'⟩ := jv
      obtain ⟨e', g1, g2, g3, g4⟩ := this
      refine ⟨e', by omega, ?_, by simp only [Instr.findAsking]; rw [run_bind_ok s1]; exact g3, g4⟩
      rw [show j - i = j - (i + 1) + 1 by omega]
      simpa using g2
/-- The search, whichever way the model takes. -/
def Found (P : Program) (w : World) (kt : TypeId) (Ψ : Ty) (x : Value) (l : List MapEntry) : Option (Nat × PV) → Prop
 | none => (Instr.findKey kt x l).run P w = .ok none w
 | some (j, v) => ∃ e, l[j]? = some e ∧ (Instr.findKey kt x l).run P w = .ok (some (j, e.val)) w ∧ VR Ψ v e.val ∧ Instr.sameBits 10000 e.key x = true
theorem run_findKey {P : Program} {w : World} {kt : TypeId} {kd : TypeDesc} {Ψ : Ty} {k : PV} {x : Value} {es : List PV} {l : List MapEntry} {r : Option (Nat × PV)} (hu : P.underlying kt = some kd) (hk : keyFor P kd k = true) (hx : VR Ψ k x)
 (h : findPV P kt k es 0 = some r) (hl : es.length = l.length) (hv : ∀ (j : Nat) (p : PV) (e : MapEntry), es[j]? = some p → l[j]? = some e → ∃ a v, p = .tuple [a, v] ∧ VR Ψ a e.key ∧ VR Ψ v e.val) : Found P w kt Ψ x l r := by
 unfold Found
 by_cases hs : Scal kd = true
 ·have now : ∀ r, Instr.findNow kd x l 0 = some r → (Instr.findKey kt x l).run P w = .ok r w := by
   intro r h
   unfold Instr.findKey
   rw [run_bind_ok (run_und hu)]
   simp only [h]
   rfl
  have := findPV_ok hs hk hx es l 0 r h hl hv
  cases r with
  | none => exact now _ this
  | some jv =>
   obtain ⟨j, v⟩ := jv
   obtain ⟨e, _, g2, g3, g4⟩ := this
   exact ⟨e, by simpa using g2, now _ g3, g4⟩
 cases kd with
 | struct fs =>
  cases k with
  | agg cs =>
   obtain ⟨xs, rfl, hxs⟩ := hx.agg_inv
   have ask : ∀ r, (Instr.findAsking kt (.agg xs) l 0).run P w = .ok r w → (Instr.findKey kt (.agg xs) l).run P w = .ok r w := by
    intro r h
    unfold Instr.findKey
    rw [run_bind_ok (run_und hu)]
    cases l with
    | nil => simpa [Instr.findNow, Instr.findAsking] using h
    | cons e l => simpa [Instr.findNow, Instr.sameNow] using h
   have := findPVs_ok (w := w) hxs es l 0 r h hl hv
   cases r with
   | none => exact ask _ this
   | some jv =>
    obtain ⟨j, v⟩ := jv
    obtain ⟨e, _, g2, g3, g4⟩ := this
    exact ⟨e, by simpa using g2, ask _ g3, g4⟩
  | _ => cases hk
 | _ => exact absurd rfl hs
def packPV (ok : Bool) (v : PV) (b : Bool) : PV := if ok then .tuple [v, .bool b] else v
def lookupPV (P : Program) (σ : Sg) (t : TypeId) (m k : PV) (ok : Bool) : Option PV :=
  match P.underlying t with
  | some (.map kt et) => match P.underlying kt, zeroOne P et with
    | some kd, some z => if keyFor P kd k then
        (match m with
         | .nilmap => some (packPV ok z false)
         | .map id => match σ.store[id]? with
           | some (some (.mark :: es)) => match findPV P kt k es 0 with
             | some (some (_, v)) => some (packPV ok v true)
             | some none => some (packPV ok z false)
             | none => none
           | _ => none
         | _ => none) else none
    | _, _ => none
  | _ => none
theorem run_getMap {P : Program} {w : World} {r : Nat} {a : Array MapEntry} {n : Nat} (h : w.heap[r]? = some (.map a n)) : (getObj r).run P w = .ok (.map a n) w := by
 simp [getObj, Sem.run, h]
theorem run_checkKey {P : Program} {w : World} {kt : TypeId} {kd : TypeDesc} {k : PV} {x : Value} {Ψ : Ty} (hu : P.underlying kt = some kd) (hk : keyFor P kd k = true) (hx : VR Ψ k x) (b : Bool) : (Instr.checkKey b 10000 kt x).run P w = .ok () w := by
 show (Instr.checkKey b (9999 + 1) kt x).run P w = .ok () w
 unfold Instr.checkKey
 rw [run_bind_ok (run_und hu)]
 unfold keyFor at hk
 split at hk
 ·rw [hx.int_inv]; rfl
 ·rw [hx.str_inv]; rfl
 ·rw [hx.bool_inv]; rfl
 ·rename_i fs cs
  obtain ⟨xs, rfl, hxs⟩ := hx.agg_inv
  simp only
  rw [← Array.forIn_toList]
  generalize fs.toList = L at hk
  induction L with
  | nil => simp
  | cons f L ih =>
   simp only [List.all_cons, Bool.and_eq_true] at hk
   obtain ⟨h1, h2⟩ := hk
   simp only [keyField, Bool.and_eq_true, decide_eq_true_eq] at h1
   obtain ⟨⟨hn, hi⟩, ho⟩ := h1
   have hlt : f.offset < xs.size := by rw [hxs.1]; exact ho
   have hpart : ∃ d, P.underlying f.type = some (.int d) := by
    revert hi
    cases hq : P.underlying f.type with
    | none => intro hi; cases hi
    | some d => cases d <;> intro hi <;> first | exact ⟨_, rfl⟩ | cases hi
   obtain ⟨d, hd⟩ := hpart
   have p1 := run_part_cell (w := w) hd rfl (cs := xs) (off := f.offset) (v := xs[f.offset]) (by simp [hlt])
   have p2 : (Instr.checkKey b 9999 f.type xs[f.offset]).run P w = .ok () w := by
    show (Instr.checkKey b (9998 + 1) f.type xs[f.offset]).run P w = .ok () w
    unfold Instr.checkKey
    rw [run_bind_ok (run_und hd)]
    rfl
   simp only [List.forIn_cons, Sem.run_bind, hn, ne_eq, not_false_eq_true, if_true, Result.andThen_ok, p1, p2, Sem.run_pure] at ih ⊢
   exact ih h2
 cases hk
theorem packPV_ok {Ψ : Ty} {v : PV} {x : Value} (h : VR Ψ v x) (ok b : Bool) : VR Ψ (packPV ok v b) (if ok then .tuple #[x, .bool b] else x) := by
 cases ok
 ·exact h
 refine .tuple _ _ rfl fun j p y h1 h2 => ?_
 rcases j with _ | _ | j
 ·simp at h1 h2; subst h1 h2; exact h
 ·simp at h1 h2; subst h1 h2; exact .bool b
 simp at h1
theorem lookupPV_ok {P : Program} {Ψ : Ty} {σ : Sg} {w : World} (hs : SR Ψ σ w) {t : TypeId} {m k v : PV} {ok : Bool} (h : lookupPV P σ t m k ok = some v) {m' k' : Value} (hm : VR Ψ m m') (hk : VR Ψ k k') :
 ∃ y, (Instr.lookup t m' k' ok).run P w = .ok y w ∧ VR Ψ v y := by
 unfold lookupPV at h
 split at h
 ·rename_i kt et hu
  split at h
  ·rename_i kd z hkd hz
   split at h
   ·rename_i hkf
    obtain ⟨zy, z1, z2⟩ := zeroOne_ok (w := w) hz Ψ
    split at h
    ·cases hm
     injection h with h
     subst h
     refine ⟨_, ?_, packPV_ok z2 ok false⟩
     unfold Instr.lookup
     rw [run_bind_ok (run_und hu)]
     simp only
     have hfn := run_findKey (w := w) (es := []) (l := []) (r := none) hkd hkf hk rfl rfl (fun j p e h => by simp at h)
     simp only [Found] at hfn
     rw [run_bind_ok (run_pure _), run_bind_ok (run_checkKey hkd hkf hk _), run_bind_ok hfn]
     simp only
     rw [run_bind_ok z1]
     rfl
    ·rename_i id
     cases hm with
     | map _ b hβ =>
     split at h
     ·rename_i es hst
      obtain ⟨_, _, hkp⟩ := hs.block id _ b hst hβ
      obtain ⟨arr, e1, e2, e3⟩ := hkp.entries
      have hf : ∀ r, findPV P kt k es 0 = some r → Found P w kt Ψ k' arr.toList r := fun r hr => run_findKey (w := w) hkd hkf hk hr (l := arr.toList) (by simp [e2]) (fun j p e h1 h2 => (e3 j p e h1 (by simpa using h2)).2)
      split at h
      ·rename_i j v' hr
       injection h with h
       subst h
       obtain ⟨e, _, g3, g4, _⟩ := hf _ hr
       refine ⟨_, ?_, packPV_ok g4 ok true⟩
       unfold Instr.lookup
       rw [run_bind_ok (run_und hu)]
       simp only
       rw [run_bind_ok (run_getMap e1)]
       simp only
       rw [run_bind_ok (run_pure _), run_bind_ok (run_checkKey hkd hkf hk _), run_bind_ok g3]
       rfl
      ·rename_i hr
       injection h with h
       subst h
       have g := hf _ hr
       refine ⟨_, ?_, packPV_ok z2 ok false⟩
       unfold Instr.lookup
       rw [run_bind_ok (run_und hu)]
       simp only
       rw [run_bind_ok (run_getMap e1)]
       simp only
       rw [run_bind_ok (run_pure _), run_bind_ok (run_checkKey hkd hkf hk _), run_bind_ok g]
       simp only
       rw [run_bind_ok z1]
       rfl
      cases h
     cases h
    cases h
   cases h
  cases h
 cases h
def updatePV (P : Program) (σ : Sg) (t : TypeId) (m k v : PV) : Option Sg :=
  match P.underlying t with
  | some (.map kt _) => match P.underlying kt, m with
    | some kd, .map id => if keyFor P kd k then
        (match σ.store[id]? with
         | some (some (.mark :: es)) => match findPV P kt k es 0 with
           | some (some (j, _)) => some (σ.setVar id (.mark :: es.set j (.tuple [k, v])))
           | some none => some (σ.setVar id (.mark :: (es ++ [.tuple [k, v]])))
           | none => none
         | _ => none) else none
    | _, _ => none
  | _ => none
theorem run_setMap {P : Program} {w : World} {r : Nat} {a a' : Array MapEntry} {n n' : Nat} (h : w.heap[r]? = some (.map a n)) : (setObj r (.map a' n')).run P w = .ok () (w.putObj r (.map a' n')) := by
 simp [setObj, Sem.run, h, World.putObj]
theorem updatePV_ok {P : Program} {Ψ : Ty} {σ σ' : Sg} {w : World} (hs : SR Ψ σ w) {t : TypeId} {m k v : PV} (h : updatePV P σ t m k v = some σ') {m' k' v' : Value} (hm : VR Ψ m m') (hk : VR Ψ k k') (hv : VR Ψ v v') :
 ∃ w', (Instr.mapUpdate t m' k' v').run P w = .ok () w' ∧ SR Ψ σ' w' ∧ Below Ψ.base w w' := by
 unfold updatePV at h
 split at h
 ·rename_i kt et hu
  split at h
  ·rename_i kd id hkd
   cases hm with
   | map _ b hβ =>
   split at h
   ·rename_i hkf
    split at h
    ·rename_i es hst
     obtain ⟨hbase, _, hkp⟩ := hs.block id _ b hst hβ
     obtain ⟨arr, e1, e2, e3⟩ := hkp.entries
     have hblt : b < w.heap.size := (Array.getElem?_eq_some_iff.1 e1).1
     have hf : ∀ r, findPV P kt k es 0 = some r → Found P w kt Ψ k' arr.toList r := fun r hr => run_findKey (w := w) hkd hkf hk hr (l := arr.toList) (by simp [e2]) (fun j p e h1 h2 => (e3 j p e h1 (by simpa using h2)).2)
     have bel : ∀ o, Below Ψ.base w (w.putObj b o) := fun o => ⟨rfl, rfl, rfl, by simp [World.putObj], fun q hq => World.putObj_heap_other (by omega)⟩
     split at h
     ·rename_i j v0 hr
      injection h with h
      subst h
      obtain ⟨e, g2, g3, _, g5⟩ := hf _ hr
      refine ⟨w.putObj b (.map (arr.modify j fun e => { e with key := k', val := v' }) arr.size), ?_, hs.putMap hst hβ e1 (.inr (.inl ⟨arr.modify j fun e => { e with key := k', val := v' }, es.set j (.tuple [k, v]), rfl, ?_, ?_, ?_⟩)), bel _⟩
      ·unfold Instr.mapUpdate
       rw [run_bind_ok (run_und hu)]
       simp only
       rw [run_bind_ok (run_getMap e1)]
       simp only
       rw [run_bind_ok (run_checkKey hkd hkf hk _), run_bind_ok g3]
       simp only
       have hst : (Instr.keyThatStays (((arr[j]?).map (·.key)).getD k') k').run P w = .ok k' w := by
        have : arr[j]? = some e := by simpa using g2
        rw [this]
        simp only [Option.map_some, Option.getD_some]
        unfold Instr.keyThatStays
        rw [if_pos g5]
        rfl
       rw [run_bind_ok hst]
       exact run_setMap e1
      ·rw [World.putObj_heap_same hblt]; simp
      ·simp [e2]
      intro i p e' h1 h2
      have hj : arr[j]? = some e := by simpa using g2
      have hjl : j < es.length := by rw [← e2]; exact (Array.getElem?_eq_some_iff.1 hj).1
      rw [Array.getElem?_modify] at h2
      by_cases hij : j = i
      ·subst hij
       rw [List.getElem?_set_self hjl] at h1
       rw [if_pos rfl, hj] at h2
       injection h1 with h1
       injection h2 with h2
       subst h1 h2
       exact ⟨(e3 j es[j] e (by simp [hjl]) hj).1, k, v, rfl, hk, hv⟩
      rw [List.getElem?_set_ne hij] at h1
      rw [if_neg hij] at h2
      exact e3 i p e' h1 h2
     ·rename_i hr
      injection h with h
      subst h
      have g := hf _ hr
      refine ⟨w.putObj b (.map (arr.push { key := k', val := v', born := arr.size }) (arr.size + 1)), ?_, hs.putMap hst hβ e1 (.inr (.inl ⟨arr.push { key := k', val := v', born := arr.size }, es ++ [.tuple [k, v]], rfl, ?_, ?_, ?_⟩)), bel _⟩
      ·unfold Instr.mapUpdate
       rw [run_bind_ok (run_und hu)]
       simp only
       rw [run_bind_ok (run_getMap e1)]
       simp only
       rw [run_bind_ok (run_checkKey hkd hkf hk _), run_bind_ok g]
       exact run_setMap e1
      ·rw [World.putObj_heap_same hblt]; simp
      ·simp [e2]
      intro i p e' h1 h2
      by_cases hi : i < es.length
      ·rw [List.getElem?_append_left hi] at h1
       rw [Array.getElem?_push, if_neg (by omega)] at h2
       exact e3 i p e' h1 h2
      rcases getElem?_snoc h1 with ⟨hlt, _⟩ | ⟨rfl, rfl⟩
      ·omega
      rw [Array.getElem?_push, if_pos e2.symm] at h2
      injection h2 with h2
      subst h2
      exact ⟨e2, k, v, rfl, hk, hv⟩
     cases h
    cases h
   cases h
  cases h
 cases h
/-- An iterator begins. -/
def rangePV (P : Program) (σ : Sg) (t : TypeId) (x : PV) : Option (PV × Sg) :=
 match P.underlying t, x with
 | some (.map _ _), .map mid => match σ.store[mid]? with
  | some (some (.mark :: es)) => some (.iter σ.store.length, σ.push [.itst mid es.length []])
  | _ => none
 | _, _ => none
/-- Where an iterator stands. -/
def iterAt (σ : Sg) (x : PV) : Option (Nat × Nat × List Nat × List PV) :=
 match x with
 | .iter id => match σ.store[id]? with
  | some (some [.itst mid n seen]) => match σ.store[mid]? with
   | some (some (.mark :: es)) => if es.length = n then some (id, mid, seen, es) else none
   | _ => none
  | _ => none
 | _ => none
/-- The entry at which an iterator stands. -/
def entryPV (σ : Sg) (x : PV) : Option PV :=
 match iterAt σ x with
 | some (_, _, seen, es) => match seen.getLast? with
  | some j => es[j]?
  | none => none
 | none => none
theorem iterAt_inv {σ : Sg} {x : PV} {id mid : Nat} {seen : List Nat} {es : List PV} (h : iterAt σ x = some (id, mid, seen, es)) : x = .iter id ∧ σ.store[id]? = some (some [.itst mid es.length seen]) ∧ σ.store[mid]? = some (some (.mark :: es)) := by
 unfold iterAt at h
 split at h
 ·rename_i id'
  split at h
  ·rename_i mid' n seen' h1
   split at h
   ·rename_i es' h2
    split at h
    ·rename_i hn
     injection h with h
     injection h with e1 h
     injection h with e2 h
     injection h with e3 e4
     subst e1 e2 e3 e4 hn
     exact ⟨rfl, h1, h2⟩
    cases h
   cases h
  cases h
 cases h
theorem rangePV_ok {P : Program} {Ψ : Ty} {σ σ' : Sg} {w : World} (hs : SR Ψ σ w) {t : TypeId} {x v : PV} (h : rangePV P σ t x = some (v, σ')) {x' : Value} (hx : VR Ψ x x') : Did P (Instr.range t x') Ψ w v σ' := by
 unfold rangePV at h
 split at h
 ·rename_i kt et mid hu
  split at h
  ·rename_i es hst
   injection h with h
   injection h with h1 h2
   subst h1 h2
   cases hx with
   | map _ r hβ =>
   obtain ⟨_, _, hkp⟩ := hs.block mid _ r hst hβ
   obtain ⟨arr, e1, e2, _⟩ := hkp.entries
   have hf := hs.fresh
   have hs1 := hs.alloc (.mapIter (some r) arr.size #[] arr.size)
   have hF : Free Ψ σ w.heap.size := ⟨hs.base, hf.imm, fun id k => absurd k (hf.β id), hf.hist, hf.rs⟩
   have hnew : (w.alloc (.mapIter (some r) arr.size #[] arr.size)).heap[w.heap.size]? = some (.mapIter (some r) arr.size #[] arr.size) := World.alloc_heap_new w _
   obtain ⟨le, hs2⟩ := hs1.holdB (cs := [.itst mid es.length []]) hF (by rw [World.size_alloc]; omega) (.inr (.inr ⟨mid, r, es.length, [], rfl, by rw [hnew, e2], .map mid r hβ⟩))
   refine ⟨.pointer (some ⟨w.heap.size, 0, none⟩), _, _, ?_, le, hs2, .iter _ _ (by simp [Ty.addB, ← hs.blen]), (Below.refl _ _).alloc hs.base _⟩
   unfold Instr.range
   rw [run_bind_ok (run_und hu)]
   simp only
   rw [run_bind_ok (run_getMap e1)]
   rfl
  cases h
 cases h
theorem run_getIter {P : Program} {w : World} {r : Nat} {a : Option Nat} {n k : Nat} {l : Array Nat} (h : w.heap[r]? = some (.mapIter a n l k)) : (getObj r).run P w = .ok (.mapIter a n l k) w := by
 simp [getObj, Sem.run, h]
theorem iter_data {Ψ : Ty} {σ : Sg} {w : World} (hs : SR Ψ σ w) {x : PV} {id mid : Nat} {seen : List Nat} {es : List PV} (h : iterAt σ x = some (id, mid, seen, es)) {x' : Value} (hx : VR Ψ x x') : ∃ b r arr, x' = .pointer (some ⟨b, 0, none⟩) ∧ Ψ.β[id]? = some b ∧ Ψ.base ≤ b ∧
 w.heap[b]? = some (.mapIter (some r) arr.size seen.toArray arr.size) ∧ Ψ.β[mid]? = some r ∧ w.heap[r]? = some (.map arr arr.size) ∧ arr.size = es.length ∧ ∀ (j : Nat) (p : PV) (e : MapEntry), es[j]? = some p → arr[j]? = some e → e.born = j ∧ ∃ k v, p = .tuple [k, v] ∧ VR Ψ k e.key ∧ VR Ψ v e.val := by
 obtain ⟨rfl, h1, h2⟩ := iterAt_inv h
 cases hx with
 | iter _ b hβ =>
 obtain ⟨a1, _, a3⟩ := hs.block id _ b h1 hβ
 obtain ⟨r, g1, g2⟩ := a3.iter
 obtain ⟨_, _, b3⟩ := hs.block mid _ r h2 g2
 obtain ⟨arr, e1, e2, e3⟩ := b3.entries
 exact ⟨b, r, arr, rfl, hβ, a1, by rw [g1, e2], g2, e1, e2, e3⟩
theorem entryPV_ok {P : Program} {Ψ : Ty} {σ : Sg} {w : World} (hs : SR Ψ σ w) {x v : PV} (h : entryPV σ x = some v) {x' : Value} (hx : VR Ψ x x') : Did P (Instr.entry x') Ψ w v σ := by
 unfold entryPV at h
 split at h
 ·rename_i id mid seen es hi
  obtain ⟨b, r, arr, rfl, _, _, g1, _, g2, g3, g4⟩ := iter_data hs hi hx
  split at h
  ·rename_i j hj
   have hlt : j < arr.size := by rw [g3]; exact (List.getElem?_eq_some_iff.1 h).1
   obtain ⟨hborn, k, u, rfl, hk, hv⟩ := g4 j v arr[j] h (by simp [hlt])
   refine ⟨.tuple #[arr[j].key, arr[j].val], w, Ψ, ?_, Ty.le.refl _, hs, .tuple _ _ rfl ?_, Below.refl _ _⟩
   ·unfold Instr.entry
    simp only
    rw [run_bind_ok (run_getIter g1)]
    have hb : seen.toArray.back? = some j := by simpa using hj
    simp only [hb]
    rw [run_bind_ok (run_getMap g2)]
    simp only [bne_self_eq_false, Bool.false_eq_true, if_false]
    have hfind : arr.find? (fun e => e.born == j) = some arr[j] := by
     have hall : ∀ i (hi : i < arr.size), arr[i].born = i := fun i hi => (g4 i (es[i]'(by omega)) arr[i] (by simp) (by simp [hi])).1
     rw [Array.find?_eq_some_iff_getElem]
     refine ⟨by simp [hall j hlt], j, hlt, rfl, fun i hi => ?_⟩
     have := hall i (by omega)
     simp [this]; omega
    simp only [hfind]
    rfl
   intro i p v' h1 h2
   match i, h1, h2 with
   | 0, h1, h2 => simp at h1 h2; subst h1 h2; exact hk
   | 1, h1, h2 => simp at h1 h2; subst h1 h2; exact hv
   | n + 2, h1, _ => simp at h1
  cases h
 cases h
def isNilV : Value → Bool
 | .int _ _ => false
 | .bool _ => false
 | .string _ => false
 | .slice none 0 0 => true
 | _ => false
def isNilC : Operand → Bool
 | .tmp _ => false
 | .const v => isNilV v
 | .global _ => false
 | .func _ => false
theorem isNilC_inv {x : Operand} (h : isNilC x = true) : x = .const (.slice none 0 0) := by
 cases x with
 | const v =>
  simp only [isNilC] at h
  unfold isNilV at h
  split at h <;> first | rfl | cases h
 | _ => cases h
/-- An operand, a nil slice known to be nil. -/
def evN (E : Env) : Operand → PV
 | .const v => if isNilV v then .nilsl else constPV v
 | x => ev E x
theorem evN_ok {Ψ : Ty} {E : Env} {a : Act} (h : ER Ψ E a.tmps) (x : Operand) : VR Ψ (evN E x) (a.eval x) := by
 cases x with
 | const v =>
  simp only [evN]
  split
  ·rename_i hv
   have := isNilC_inv (x := .const v) hv
   injection this with this
   subst this
   exact .nilsl
  exact ev_ok h (.const v)
 | tmp t => exact ev_ok h (.tmp t)
 | global g => exact ev_ok h (.global g)
 | func f => exact ev_ok h (.func f)
def nilPV (P : Program) (t : TypeId) (v : PV) : Option Bool :=
 match P.underlying t with
 | some (.slice _) => match v with
  | .nilsl => some true
  | .isl (_ :: _) _ => some false
  | .gsl _ _ _ => some false
  | .msl _ _ _ => some false
  | _ => none
 | _ => none
def nilCmp (P : Program) (op : BinOp) (t : TypeId) (v : PV) : Option PV :=
 match op with
 | .eql => (nilPV P t v).map .bool
 | .neq => (nilPV P t v).map fun b => .bool (!b)
 | _ => none
theorem nilPV_ok {P : Program} {w : World} {Ψ : Ty} {t : TypeId} {v : PV} {x : Value} {b : Bool} (h : nilPV P t v = some b) (hx : VR Ψ v x) : ∃ q n c e, P.underlying t = some (.slice e) ∧ x = .slice q n c ∧ q.isNone = b ∧ (Op.equal t (.slice q n c) (.slice none 0 0)).run P w = .ok b w := by
 have key : ∀ (q : Option Addr) (n c : Nat) (e : TypeId), P.underlying t = some (.slice e) → (Op.equal t (.slice q n c) (.slice none 0 0)).run P w = .ok q.isNone w := by
  intro q n c e ht
  unfold Op.equal
  show (Op.equalIn (9999 + 1) t (.slice q n c) (.slice none 0 0)).run P w = _
  unfold Op.equalIn
  rw [run_bind_ok (run_und ht)]
  cases q <;> rfl
 unfold nilPV at h
 split at h
 ·rename_i e ht
  split at h
  ·injection h with h; subst h; cases hx; exact ⟨_, _, _, e, ht, rfl, rfl, key none 0 0 e ht⟩
  ·injection h with h; subst h; cases hx; exact ⟨_, _, _, e, ht, rfl, rfl, key _ _ _ e ht⟩
  ·injection h with h; subst h; cases hx; exact ⟨_, _, _, e, ht, rfl, rfl, key _ _ _ e ht⟩
  ·injection h with h; subst h; cases hx; exact ⟨_, _, _, e, ht, rfl, rfl, key _ _ _ e ht⟩
  cases h
 cases h
theorem nilCmp_ok {P : Program} {w : World} {Ψ : Ty} {op : BinOp} {t : TypeId} {v p : PV} {x : Value} (h : nilCmp P op t v = some p) (hx : VR Ψ v x) (a b : Operand) :
 ∃ z, (do eqGuard op t a b x (.slice none 0 0); binOp op t x (.slice none 0 0) : Sem Value).run P w = .ok z w ∧ VR Ψ p z := by
 unfold nilCmp at h
 split at h
 ·cases hb : nilPV P t v with
  | none => rw [hb] at h; cases h
  | some c =>
   rw [hb] at h
   injection h with h
   subst h
   obtain ⟨q, n, k, e, ht, rfl, h2, h3⟩ := nilPV_ok (w := w) hb hx
   refine ⟨.bool c, ?_, .bool _⟩
   have hg : (eqGuard .eql t a b (.slice q n k) (.slice none 0 0)).run P w = .ok () w := rfl
   rw [run_bind_ok hg]
   show (do pure (.bool (← Op.equal t (.slice q n k) (.slice none 0 0))) : Sem Value).run P w = _
   rw [run_bind_ok h3]; rfl
 ·cases hb : nilPV P t v with
  | none => rw [hb] at h; cases h
  | some c =>
   rw [hb] at h
   injection h with h
   subst h
   obtain ⟨q, n, k, e, ht, rfl, h2, h3⟩ := nilPV_ok (w := w) hb hx
   refine ⟨.bool (!c), ?_, .bool _⟩
   have hg : (eqGuard .neq t a b (.slice q n k) (.slice none 0 0)).run P w = .ok () w := rfl
   rw [run_bind_ok hg]
   show (do pure (.bool (!(← Op.equal t (.slice q n k) (.slice none 0 0)))) : Sem Value).run P w = _
   rw [run_bind_ok h3]; rfl
 cases h
/-- An interface compared with nil. -/
def isNilI : Operand → Bool
 | .const .nilIface => true
 | _ => false
theorem isNilI_inv {x : Operand} (h : isNilI x = true) : x = .const .nilIface := by
 unfold isNilI at h
 split at h
 ·rfl
 cases h
def nilICmp (P : Program) (op : BinOp) (t : TypeId) (v : PV) : Option PV :=
 match P.underlying t with
 | some (.interface _) => match op, v with
  | .eql, .niliface => some (.bool true)
  | .eql, .iface _ _ => some (.bool false)
  | .neq, .niliface => some (.bool false)
  | .neq, .iface _ _ => some (.bool true)
  | _, _ => none
 | _ => none
theorem nilICmp_ok {P : Program} {w : World} {Ψ : Ty} {op : BinOp} {t : TypeId} {v p : PV} {x : Value} (h : nilICmp P op t v = some p) (hx : VR Ψ v x) (a : Operand) :
 ∃ z, (do eqGuard op t a (.const .nilIface) x .nilIface; binOp op t x .nilIface : Sem Value).run P w = .ok z w ∧ VR Ψ p z := by
 unfold nilICmp at h
 split at h
 ·rename_i ms ht
  have keyN : (Op.equal t .nilIface .nilIface).run P w = .ok true w := by
   unfold Op.equal
   show (Op.equalIn (9999 + 1) t .nilIface .nilIface).run P w = _
   unfold Op.equalIn
   rw [run_bind_ok (run_und ht)]
   rfl
  have keyI : ∀ te ve, (Op.equal t (.iface te ve) .nilIface).run P w = .ok false w := fun te ve => by
   unfold Op.equal
   show (Op.equalIn (9999 + 1) t (.iface te ve) .nilIface).run P w = _
   unfold Op.equalIn
   rw [run_bind_ok (run_und ht)]
   rfl
  have gN : ∀ op, (eqGuard op t a (.const .nilIface) .nilIface .nilIface).run P w = .ok () w := fun op => by
   unfold eqGuard
   cases op <;> first | rfl | (simp only [Bool.or_true]; rfl) | (cases a <;> rfl)
  have gI : ∀ op te ve, (eqGuard op t a (.const .nilIface) (.iface te ve) .nilIface).run P w = .ok () w := fun op te ve => by cases op <;> rfl
  split at h
  ·injection h with h; subst h; cases hx
   refine ⟨.bool true, ?_, .bool _⟩
   rw [run_bind_ok (gN _)]
   show (do pure (.bool (← Op.equal t .nilIface .nilIface)) : Sem Value).run P w = _
   rw [run_bind_ok keyN]; rfl
  ·injection h with h; subst h; cases hx
   refine ⟨.bool false, ?_, .bool _⟩
   rw [run_bind_ok (gI _ _ _)]
   show (do pure (.bool (← Op.equal t (.iface _ _) .nilIface)) : Sem Value).run P w = _
   rw [run_bind_ok (keyI _ _)]; rfl
  ·injection h with h; subst h; cases hx
   refine ⟨.bool false, ?_, .bool _⟩
   rw [run_bind_ok (gN _)]
   show (do pure (.bool (!(← Op.equal t .nilIface .nilIface))) : Sem Value).run P w = _
   rw [run_bind_ok keyN]; rfl
  ·injection h with h; subst h; cases hx
   refine ⟨.bool true, ?_, .bool _⟩
   rw [run_bind_ok (gI _ _ _)]
   show (do pure (.bool (!(← Op.equal t (.iface _ _) .nilIface))) : Sem Value).run P w = _
   rw [run_bind_ok (keyI _ _)]; rfl
  cases h
 cases h
/-- An operation that calls no Go function. -/
def effOp (P : Program) (σ : Sg) (E : Env) (op : Op) : Option (PV × Sg) :=
 match op with
 | .alloc t => (zeroPV P t).map fun zs => (.ptr σ.store.length 0, σ.push zs)
 | .box _ x => if defd (ev E x) then some (.ptr σ.store.length 0, σ.push (ev E x).cells) else none
 | .buildSlice t len parts => (buildSlicePV P t len (parts.toList.map fun p => (p.1, ev E p.2))).map fun v => (v, σ)
 | .makeSlice t l c => makePV P σ t (ev E l) (ev E c)
 | .store t a x => (storePV P σ t (ev E a) (ev E x)).map fun σ' => (.undef, σ')
 | .makeMap _ none => some (.map σ.store.length, σ.push [.mark])
 | .lookup t x ix ok => (lookupPV P σ t (ev E x) (ev E ix) ok).map fun v => (v, σ)
 | .mapUpdate t m k x => (updatePV P σ t (ev E m) (ev E k) (evN E x)).map fun σ' => (.undef, σ')
 | .insert t m k x => (updatePV P σ t (ev E m) (ev E k) (evN E x)).map fun σ' => (.undef, σ')
 | .call ⟨.builtin .append, args, ts⟩ =>
  match args.toList, ts.toList with
  | [x, y], [t, t'] => appendAny P σ t t' (ev E x) (ev E y)
  | _, _ => none
 | .range t x => rangePV P σ t (ev E x)
 | .entry x => (entryPV σ (ev E x)).map fun v => (v, σ)
 | .binOp op t x y _ => match isNilC y with
  | true => (nilCmp P op t (ev E x)).map fun v => (v, σ)
  | false => match isNilI y with
   | true => (nilICmp P op t (ev E x)).map fun v => (v, σ)
   | false => (binPV P op t (ev E x) (ev E y)).map fun v => (v, σ)
 | op => (pureOp P σ E op).map fun v => (v, σ)
theorem effOp_ok {P : Program} {σ σ' : Sg} {E : Env} {o : Oper} {v : PV} (h : effOp P σ E o.op = some (v, σ')) {Ψ : Ty} {w : World} {a : Act} (hs : SR Ψ σ w) (he : ER Ψ E a.tmps) :
 ∃ nx x w' Ψ', (execOp a.eval o).run P w = .ok nx w' ∧ (nx = .value x ∨ (nx = .skip ∧ x = undef)) ∧ Ψ.le Ψ' ∧ SR Ψ' σ' w' ∧ VR Ψ' v x ∧ Below Ψ.base w w' := by
 have did : ∀ {s : Sem Value}, Did P s Ψ w v σ' → (execOp a.eval o = do pure (.value (← s)) : Prop) → ∃ nx x w' Ψ', (execOp a.eval o).run P w = .ok nx w' ∧ (nx = .value x ∨ (nx = .skip ∧ x = undef)) ∧ Ψ.le Ψ' ∧ SR Ψ' σ' w' ∧ VR Ψ' v x ∧ Below Ψ.base w w' := by
  intro s hd hex
  obtain ⟨x, w', Ψ', h1, h2, h3, h4, h5⟩ := hd
  exact ⟨.value x, x, w', Ψ', by rw [hex, run_bind_ok h1]; rfl, .inl rfl, h2, h3, h4, h5⟩
 have pur : (pureOp P σ E o.op).map (fun v => (v, σ)) = some (v, σ') → ∃ nx x w' Ψ', (execOp a.eval o).run P w = .ok nx w' ∧ (nx = .value x ∨ (nx = .skip ∧ x = undef)) ∧ Ψ.le Ψ' ∧ SR Ψ' σ' w' ∧ VR Ψ' v x ∧ Below Ψ.base w w' := by
  intro h
  cases hp : pureOp P σ E o.op with
  | none => rw [hp] at h; cases h
  | some v' =>
   rw [hp] at h
   injection h with h
   injection h with h1 h2
   subst h1 h2
   obtain ⟨x, k1, k2⟩ := pureOp_ok hp hs he
   exact ⟨.value x, x, w, Ψ, k1, .inl rfl, Ty.le.refl _, hs, k2, Below.refl _ _⟩
 obtain ⟨dst, op, type, pos, after, guard⟩ := o
 simp only at h
 unfold effOp at h
 split at h
 ·rename_i t
  cases hz : zeroPV P t with
  | none => rw [hz] at h; cases h
  | some zs =>
   rw [hz] at h
   injection h with h
   injection h with h1 h2
   subst h1 h2
   exact did (alloc_ok hs hz) rfl
 ·rename_i t x
  split at h
  ·rename_i hd
   injection h with h
   injection h with h1 h2
   subst h1 h2
   exact did (box_ok hs (ev_ok he x) hd) rfl
  cases h
 ·rename_i t len parts
  cases hb : buildSlicePV P t len (parts.toList.map fun p => (p.1, ev E p.2)) with
  | none => rw [hb] at h; cases h
  | some v' =>
   rw [hb] at h
   injection h with h
   injection h with h1 h2
   subst h1 h2
   refine did (buildSlicePV_ok hs hb (xs := parts.map fun (p : Nat × Operand) => (p.1, a.eval p.2)) (by simp) (fun j p x k1 k2 => ?_)) rfl
   simp only [List.getElem?_map, Array.getElem?_toList] at k1
   simp only [Array.getElem?_map] at k2
   cases hx : parts[j]? with
   | none => rw [hx] at k1; cases k1
   | some q =>
    rw [hx] at k1 k2
    simp at k1 k2
    subst k1 k2
    exact ⟨rfl, ev_ok he _⟩
 ·exact did (makePV_ok hs h (ev_ok he _) (ev_ok he _)) rfl
 ·rename_i t x y
  cases hp : storePV P σ t (ev E x) (ev E y) with
  | none => rw [hp] at h; cases h
  | some σ1 =>
   rw [hp] at h
   injection h with h
   injection h with h1 h2
   subst h1 h2
   obtain ⟨w', k1, k2, k3⟩ := storePV_ok (P := P) hs hp (ev_ok he x) (ev_ok he y)
   exact ⟨.skip, undef, w', Ψ, by simp only [execOp]; rw [run_bind_ok k1]; rfl, .inr ⟨rfl, rfl⟩, Ty.le.refl _, k2, .undef _, k3⟩
 ·rename_i t
  injection h with h
  injection h with h1 h2
  subst h1 h2
  exact did (makeMap_ok hs t) rfl
 ·rename_i t x ix ok
  cases hp : lookupPV P σ t (ev E x) (ev E ix) ok with
  | none => rw [hp] at h; cases h
  | some v' =>
   rw [hp] at h
   injection h with h
   injection h with h1 h2
   subst h1 h2
   obtain ⟨y, k1, k2⟩ := lookupPV_ok (P := P) hs hp (ev_ok he x) (ev_ok he ix)
   exact ⟨.value y, y, w, Ψ, by simp only [execOp]; rw [run_bind_ok k1]; rfl, .inl rfl, Ty.le.refl _, hs, k2, Below.refl _ _⟩
 ·rename_i t m k x
  cases hp : updatePV P σ t (ev E m) (ev E k) (evN E x) with
  | none => rw [hp] at h; cases h
  | some σ1 =>
   rw [hp] at h
   injection h with h
   injection h with h1 h2
   subst h1 h2
   obtain ⟨w', k1, k2, k3⟩ := updatePV_ok (P := P) hs hp (ev_ok he m) (ev_ok he k) (evN_ok he x)
   exact ⟨.skip, undef, w', Ψ, by simp only [execOp]; rw [run_bind_ok k1]; rfl, .inr ⟨rfl, rfl⟩, Ty.le.refl _, k2, .undef _, k3⟩
 ·rename_i t m k x
  cases hp : updatePV P σ t (ev E m) (ev E k) (evN E x) with
  | none => rw [hp] at h; cases h
  | some σ1 =>
   rw [hp] at h
   injection h with h
   injection h with h1 h2
   subst h1 h2
   obtain ⟨w', k1, k2, k3⟩ := updatePV_ok (P := P) hs hp (ev_ok he m) (ev_ok he k) (evN_ok he x)
   exact ⟨.skip, undef, w', Ψ, by simp only [execOp]; rw [run_bind_ok k1]; rfl, .inr ⟨rfl, rfl⟩, Ty.le.refl _, k2, .undef _, k3⟩
 ·rename_i args ts
  split at h
  ·rename_i x y t t' h1 h2
   have e1 : args = #[x, y] := Array.toList_inj.1 h1
   have e2 : ts = #[t, t'] := Array.toList_inj.1 h2
   subst e1 e2
   obtain ⟨z, w', Ψ', k1, k2, k3, k4, k5⟩ := appendAny_ok (ty := type) hs h (ev_ok he x) (ev_ok he y)
   refine ⟨.value z, z, w', Ψ', ?_, .inl rfl, k2, k3, k4, k5⟩
   simp only [execOp, resolve]
   rw [run_bind_ok (run_pure _)]
   simp only [invoke, builtin]
   have e : (#[x, y] : Array Operand).map a.eval = #[a.eval x, a.eval y] := by simp
   rw [e, run_bind_ok k1]
   rfl
  cases h
 ·rename_i t x
  exact did (rangePV_ok hs h (ev_ok he x)) rfl
 ·rename_i x
  cases hp : entryPV σ (ev E x) with
  | none => rw [hp] at h; cases h
  | some v' =>
   rw [hp] at h
   injection h with h
   injection h with h1 h2
   subst h1 h2
   exact did (entryPV_ok hs hp (ev_ok he x)) rfl
 ·rename_i op t x y sh
  split at h
  ·rename_i hn
   have hy := isNilC_inv hn
   subst hy
   cases hp : nilCmp P op t (ev E x) with
   | none => rw [hp] at h; cases h
   | some v' =>
    rw [hp] at h
    injection h with h
    injection h with h1 h2
    subst h1 h2
    obtain ⟨z, k1, k2⟩ := nilCmp_ok (w := w) hp (ev_ok he x) x (.const (.slice none 0 0))
    refine ⟨.value z, z, w, Ψ, ?_, .inl rfl, Ty.le.refl _, hs, k2, Below.refl _ _⟩
    have e1 : execOp a.eval ⟨dst, .binOp op t x (.const (.slice none 0 0)) sh, type, pos, after, guard⟩ = (do pure (.value (← (do eqGuard op t x (.const (.slice none 0 0)) (a.eval x) (.slice none 0 0); binOp op t (a.eval x) (.slice none 0 0) : Sem Value)))) := rfl
    rw [e1, run_bind_ok k1]
    rfl
  split at h
  ·rename_i hn
   have hy := isNilI_inv hn
   subst hy
   cases hp : nilICmp P op t (ev E x) with
   | none => rw [hp] at h; cases h
   | some v' =>
    rw [hp] at h
    injection h with h
    injection h with h1 h2
    subst h1 h2
    obtain ⟨z, k1, k2⟩ := nilICmp_ok (w := w) hp (ev_ok he x) x
    refine ⟨.value z, z, w, Ψ, ?_, .inl rfl, Ty.le.refl _, hs, k2, Below.refl _ _⟩
    have e1 : execOp a.eval ⟨dst, .binOp op t x (.const .nilIface) sh, type, pos, after, guard⟩ = (do pure (.value (← (do eqGuard op t x (.const .nilIface) (a.eval x) .nilIface; binOp op t (a.eval x) .nilIface : Sem Value)))) := rfl
    rw [e1, run_bind_ok k1]
    rfl
  exact pur h
 exact pur h
abbrev YSem := List PV → Sg → Bool → Sg → Prop
def markOf (r : Nat) : Deferred := { target := .collected r, args := #[] }
structure Rel (N : Nat) (D : List Nat) (Ψ : Ty) (E : Env) (σ : Sg) (a : Act) (w : World) : Prop where
 size : a.tmps.size = N
 env : ER Ψ E a.tmps
 sg : SR Ψ σ w
 dsub : ∀ d, d ∈ D → d ∈ Ψ.ds
 defs : ∃ rs : List Nat, a.defers = rs.map markOf ∧ rs.Nodup ∧ ∀ r, r ∈ rs → r ∈ Ψ.ds ∧ r ∉ D
abbrev YEnv := Nat → YSem
/-- No loop over a function is known. -/
def noY : YEnv := fun _ _ _ _ _ => False
def pow10A : Array Value := ((List.range 20).map fun (k : Nat) => Value.int .u64 ((10 ^ k : Nat) : Int)).toArray
/-- Whether a law asks for the library's errors. -/
def needErr : Bool := true
/-- What is known of the library's variables. -/
structure GOK (P : Program) (Ψ : Ty) : Prop where
 tab : ∀ g, P.globalNamed "internal/strconv.uint64pow10" = some g → (g, .whole pow10A) ∈ Ψ.sz
 max : ∀ g, P.globalNamed "internal/bytealg.MaxLen" = some g → ∃ m, Ψ.imm g 0 = some (.int .i64 m)
 told : GT Ψ
 err : needErr = true → ∀ n, n ∈ ["strconv.ErrSyntax", "strconv.ErrRange"] → ∀ g, P.globalNamed n = some g → ∃ t x, Ψ.imm g 0 = some (.iface t x)
theorem GOK.mono {P : Program} {Ψ Ψ' : Ty} (h : GOK P Ψ) (le : Ψ.le Ψ') : GOK P Ψ' :=
 ⟨fun g k => le.sz _ (h.tab g k), fun g k => let ⟨m, e⟩ := h.max g k; ⟨m, le.imm _ _ _ e⟩, h.told.mono le, fun q n hn g k => let ⟨t, x, e⟩ := h.err q n hn g k; ⟨t, x, le.imm _ _ _ e⟩⟩
/-- The loop records of the yields at work behave as said. -/
def YOK (P : Program) (Y : YEnv) (Ψ : Ty) : Prop := GOK P Ψ ∧
 ∀ (y : Nat) args σ b σ', Y y args σ b σ' → ∃ l r0, Ψ.ys[y]? = some (l, r0) ∧ ∀ Ψ' vals w, Ψ.le Ψ' → SR Ψ' σ w → VRs Ψ' args vals →
  ∃ r : Loop, w.heap[l]? = some (.loop r) ∧ vals.size = r.params.size ∧ RoundIn Fence.wide 0 P l r.fn ((r.params.zip vals).foldl (fun tmps (t, a) => tmps.setIfInBounds t a) r.tmps) r.assign r.body w
   (fun e w' => ∃ Ψ'', e = .returned (.bool b) ∧ Ψ'.le Ψ'' ∧ SR Ψ'' σ' w' ∧ Below Ψ'.base w w')
theorem YOK.mono {P : Program} {Y : YEnv} {Ψ Ψ' : Ty} (h : YOK P Y Ψ) (le : Ψ.le Ψ') : YOK P Y Ψ' := by
 refine ⟨h.1.mono le, ?_⟩
 intro y args σ b σ' h3
 obtain ⟨l, r0, h1, h2⟩ := h.2 y args σ b σ' h3
 exact ⟨l, r0, le.ys _ _ h1, fun Ψ2 vals w le2 => h2 Ψ2 vals w (le.trans le2)⟩
theorem YOK.none {P : Program} {Ψ : Ty} (h : GOK P Ψ) : YOK P noY Ψ := ⟨h, fun _ _ _ _ _ h => h.elim⟩
def goFn (P : Program) (f : FuncId) : Bool :=
 match P.funcs[f]? with
 | some fn => fn.name != "runtime.NumGoroutine" && fn.body.isSome
 | none => false
/-- A call: with these arguments in this state it returns v and leaves σ'. -/
def PC (P : Program) (Y : YEnv) (f : FuncId) (args : List PV) (σ : Sg) (v : PV) (σ' : Sg) : Prop :=
 goFn P f = true ∧ ∀ Ψ vals w, SR Ψ σ w → VRs Ψ args vals → YOK P Y Ψ →
  CallsIn Fence.wide 0 P f vals w (fun e w' => ∃ x Ψ', e = .returned x ∧ Ψ.le Ψ' ∧ SR Ψ' σ' w' ∧ VR Ψ' v x ∧ Below Ψ.base w w')
/-- Whom an operation calls. -/
inductive Whom where
 | nobody
 | fn (f : FuncId) (args : List PV)
 | yield (y : Nat) (args : List PV)
def whom (E : Env) (op : Op) : Whom :=
 match op with
 | .call ⟨.value f, args, _⟩ =>
  match ev E f with
  | .func (.func g) first captured => .fn g (first ++ args.toList.map (ev E) ++ captured)
  | .yield y => .yield y (args.toList.map (ev E))
  | _ => .nobody
 | _ => .nobody
theorem skipped_ok (Ψ : Ty) : VR Ψ (.tuple []) undef := .tuple [] #[] rfl fun j p v h => by simp at h
theorem skipped_inv {Ψ : Ty} {x : Value} (h : VR Ψ (.tuple []) x) : x = undef := by
 generalize hp : PV.tuple [] = p at h
 cases h with
 | tuple cs vs hl _ =>
  injection hp with hp
  subst hp
  have : vs = #[] := Array.eq_empty_of_size_eq_zero hl
  rw [this]; rfl
 | _ => cases hp
def wantedPV (ops : Array Oper) (E : Env) (o : Oper) : Option Bool :=
 match o.guard with
 | none => some true
 | some (j, want) => match (ops[j]?).bind (·.dst) with
  | none => none
  | some t => match E.get t with
   | .bool b => some (b == want)
   | .tuple [] => some false
   | _ => none
/-- What follows, put off: it stands where simp does not look. -/
class KB0 where
 run : Prop
class KB2 where
 run : PV → Sg → Prop
class KBf where
 run : Nat → List PV → Prop
/-- A call within a region, put off. -/
def GCall (P : Program) (Y : YEnv) (f : FuncId) (args : List PV) (σ : Sg) [K : KB2] : Prop := ∃ v σ', PC P Y f args σ v σ' ∧ K.run v σ'
def GYield (Y : YEnv) (y : Nat) (args : List PV) (σ : Sg) [K : KB2] : Prop := ∃ b σ', Y y args σ b σ' ∧ K.run (.bool b) σ'
def dstOK (N : Nat) (o : Oper) : Bool :=
 match o.dst with
 | none => true
 | some d => decide (d < N)
/-- A test, a result, a callee: what follows is put off till they are known. -/
def GWant (b : Option Bool) [A : KB0] [B : KB0] : Prop :=
 match b with
 | none => False
 | some false => A.run
 | some true => B.run
def GOpt (r : Option (PV × Sg)) [k : KB2] : Prop :=
 match r with
 | some (v, σ) => k.run v σ
 | none => False
def GWho (h : Whom) [kf : KBf] [ky : KBf] [k0 : KB0] : Prop :=
 match h with
 | .nobody => k0.run
 | .fn f args => kf.run f args
 | .yield y args => ky.run y args
theorem GWant_true (A B : KB0) : @GWant (some true) A B = B.run := rfl
theorem GWant_false (A B : KB0) : @GWant (some false) A B = A.run := rfl
theorem GOpt_some (v : PV) (σ : Sg) (k : KB2) : @GOpt (some (v, σ)) k = k.run v σ := rfl
theorem GWho_nobody (kf ky : KBf) (k0 : KB0) : @GWho .nobody kf ky k0 = k0.run := rfl
theorem GWho_fn (f : FuncId) (args : List PV) (kf ky : KBf) (k0 : KB0) : @GWho (.fn f args) kf ky k0 = kf.run f args := rfl
theorem GWho_yield (f : Nat) (args : List PV) (kf ky : KBf) (k0 : KB0) : @GWho (.yield f args) kf ky k0 = ky.run f args := rfl
theorem GWant_split {b : Bool} {A B : KB0} (h1 : b = true → B.run) (h2 : b = false → A.run) : @GWant (some b) A B := by
 cases b
 ·exact h2 rfl
 exact h1 rfl
theorem GCall_of {P : Program} {Y : YEnv} {f : FuncId} {args : List PV} {σ σ' : Sg} {v : PV} {K : KB2} (h : PC P Y f args σ v σ') (k : K.run v σ') : @GCall P Y f args σ K := ⟨v, σ', h, k⟩
theorem GYield_of {Y : YEnv} {y : Nat} {args : List PV} {σ σ' : Sg} {b : Bool} {K : KB2} (h' : Y y args σ b σ') (k : K.run (.bool b) σ') : @GYield Y y args σ K := ⟨b, σ', h', k⟩
/-- The operations, one after the other. -/
def GL (P : Program) (Y : YEnv) (N : Nat) (ops : Array Oper) : List Oper → Env → Sg → (Env → Sg → Prop) → Prop
 | [], E, σ, K => K E σ
 | o :: rest, E, σ, K =>
  dstOK N o = true ∧ @GWant (wantedPV ops E o) ⟨GL P Y N ops rest (E.put o.dst (.tuple [])) σ K⟩
   ⟨@GWho (whom E o.op) ⟨fun f args => @GCall P Y f args σ ⟨fun v σ' => GL P Y N ops rest (E.put o.dst v) σ' K⟩⟩
    ⟨fun y args => @GYield Y y args σ ⟨fun v σ' => GL P Y N ops rest (E.put o.dst v) σ' K⟩⟩
    ⟨@GOpt (effOp P σ E o.op) ⟨fun v σ' => GL P Y N ops rest (E.put o.dst v) σ' K⟩⟩⟩
def FnOf (Ψ : Ty) (rd : Option Nat) : Fence :=
 match rd with
 | none => Fence.wide
 | some y => match Ψ.ys[y]? with
  | some l => Fence.wide.inRound l.1
  | none => Fence.wide
theorem FnOf_fn (Ψ : Ty) (rd : Option Nat) (f : FuncId) : (FnOf Ψ rd).fn f := by
 unfold FnOf
 split
 ·trivial
 split <;> trivial
theorem FnOf_depth (Ψ : Ty) (rd : Option Nat) : (FnOf Ψ rd).depth = none := by
 unfold FnOf
 split
 ·rfl
 split <;> rfl
theorem callsIn_FnOf {Ψ : Ty} {rd : Option Nat} {P : Program} {f : FuncId} {args : Array Value} {w : World} {R : Ending → World → Prop} (h : CallsIn Fence.wide 0 P f args w R) : CallsIn (FnOf Ψ rd) 0 P f args w R := by
 unfold FnOf
 split
 ·exact h
 split
 ·exact h
 exact h
theorem roundIn_FnOf {Ψ : Ty} {rd : Option Nat} {P : Program} {l : Nat} {f : FuncId} {tmps : Array Value} {assign body : Code} {w : World} {R : Ending → World → Prop} (h : RoundIn Fence.wide 0 P l f tmps assign body w R) : RoundIn (FnOf Ψ rd) 0 P l f tmps assign body w R := by
 unfold FnOf
 split
 ·exact h
 split
 ·exact h
 exact h
/-- What was known when the activation began speaks of no more than these variables and rooms. -/
def Bnd (Ψ0 : Ty) (lo : Nat × Nat) : Prop := Ψ0.β.length ≤ lo.1 ∧ ∀ r n x, Ψ0.hist r n = some x → r < lo.2
/-- How a piece of code ends. -/
def Post (N : Nat) (D : List Nat) (Ψ0 : Ty) (w : World) (Q : Exit → Env → Sg → Prop) : Exit → Act → World → Prop :=
 fun ex a' w' => ∃ E' σ' Ψ', Ψ0.le Ψ' ∧ Rel N D Ψ' E' σ' a' w' ∧ Below Ψ0.base w w' ∧ Q ex E' σ'
/-- Code, begun in a state, ends as Q says. -/
def W (P : Program) (Y : YEnv) (N : Nat) (rd : Option Nat) (lo : Nat × Nat) (c : Code) (E : Env) (σ : Sg) (Q : Exit → Env → Sg → Prop) : Prop :=
 ∀ Ψ0 D, Bnd Ψ0 lo → YOK P Y Ψ0 → (∀ y, rd = some y → ∃ l : Nat × Loop, Ψ0.ys[y]? = some l) →
  ∀ Ψ a w, Ψ0.le Ψ → Rel N D Ψ E σ a w → c.wpIn (FnOf Ψ0 rd) 0 P (Post N D Ψ0 w Q) a w
theorem ys_len_le {Ψ Ψ' : Ty} (le : Ψ.le Ψ') : Ψ.ys.length ≤ Ψ'.ys.length := by
 rcases Nat.lt_or_ge Ψ'.ys.length Ψ.ys.length with h | h
 ·have := le.ys Ψ'.ys.length (Ψ.ys[Ψ'.ys.length]) (by simp [h])
  simp at this
 exact h
theorem wanted_ok {ops : Array Oper} {E : Env} {o : Oper} {b : Bool} (h : wantedPV ops E o = some b) {Ψ : Ty} {a : Act} (he : ER Ψ E a.tmps) : Region.wanted o (yielded ops a.tmps) = b := by
 unfold wantedPV at h
 unfold Region.wanted
 cases hg : o.guard with
 | none => rw [hg] at h; injection h
 | some g =>
  obtain ⟨j, want⟩ := g
  rw [hg] at h
  simp only at h ⊢
  unfold yielded
  split at h
  ·cases h
  rename_i t ht
  rw [ht]
  simp only [Option.bind_some]
  split at h
  ·rename_i c hc
   injection h with h
   have hv := he t
   rw [hc] at hv
   have hv := hv.bool_inv
   have : a.tmps[t]? = some (.bool c) := by
    rw [Array.getD_eq_getD_getElem?] at hv
    cases hx : a.tmps[t]? with
    | none => rw [hx] at hv; simp [undef] at hv
    | some x => rw [hx] at hv; simp at hv; rw [hv]
   rw [this]
   simp only
   rw [← h]
   rfl
  ·rename_i hc
   injection h with h
   subst h
   have hv := he t
   rw [hc] at hv
   have hv := skipped_inv hv
   rw [Array.getD_eq_getD_getElem?] at hv
   cases hx : a.tmps[t]? with
   | none => rfl
   | some x =>
    rw [hx] at hv
    simp only [Option.getD_some] at hv
    subst hv
    rfl
  cases h
theorem Act.put_size (a : Act) (d : Option Tmp) (v : Value) : (a.put d v).tmps.size = a.tmps.size := by
 cases d with
 | none => rfl
 | some d => simp [Act.put]
theorem Act.put_defers' (a : Act) (d : Option Tmp) (v : Value) : (a.put d v).defers = a.defers := by cases d <;> rfl
theorem Rel.put {N : Nat} {D : List Nat} {Ψ Ψ' : Ty} {E : Env} {σ σ' : Sg} {a : Act} {w w' : World} (h : Rel N D Ψ E σ a w) (le : Ψ.le Ψ') (hs : SR Ψ' σ' w') {o : Oper} (hd : dstOK N o = true) {v : PV} {x : Value} (hv : VR Ψ' v x) :
 Rel N D Ψ' (E.put o.dst v) σ' (a.put o.dst x) w' := by
 refine ⟨by rw [Act.put_size]; exact h.size, (h.env.mono le).put (fun n hn => ?_) hv, hs, fun d hd => le.ds _ (h.dsub d hd), ?_⟩
 ·rw [h.size]
  unfold dstOK at hd
  rw [hn] at hd
  simpa using hd
 rw [Act.put_defers']
 obtain ⟨rs, h1, h2, h3⟩ := h.defs
 exact ⟨rs, h1, h2, fun r hr => ⟨le.ds _ (h3 r hr).1, (h3 r hr).2⟩⟩
theorem effOp_not_defer {P : Program} {σ : Sg} {E : Env} {op : Op} {v : PV × Sg} (h : effOp P σ E op = some v) : ∀ c, op ≠ .defer c := by
 intro c e
 subst e
 simp [effOp, pureOp] at h
theorem whom_fn {E : Env} {o : Oper} {g : FuncId} {args : List PV} (h : whom E o.op = .fn g args) {Ψ : Ty} {a : Act} (he : ER Ψ E a.tmps) {P : Program} (hg : goFn P g = true) (w : World) :
 (∀ c, o.op ≠ .defer c) ∧ ∃ vals, (execOp a.eval o).run P w = .ok (.enter g vals) w ∧ VRs Ψ args vals := by
 obtain ⟨dst, op, type, pos, after, guard⟩ := o
 simp only at h
 unfold whom at h
 split at h
 ·rename_i f xs ts
  split at h
  ·rename_i g' first captured hf
   injection h with h1 h2
   subst h1 h2
   have hfv := ev_ok he f
   rw [hf] at hfv
   obtain ⟨fs, cs, hv, hfs, hcs⟩ := hfv.func_inv
   refine ⟨fun c e => (by cases e), fs ++ xs.map a.eval ++ cs, ?_, (hfs.append (evs_ok he xs)).append hcs⟩
   simp only [execOp, resolve, hv, Deferred.ofValue]
   rw [run_bind_ok (run_pure _)]
   simp only [invoke, callFunc]
   unfold goFn at hg
   split at hg
   ·rename_i fn hfn
    simp only [Bool.and_eq_true, bne_iff_ne, ne_eq] at hg
    rw [run_bind_ok (e := program) (v := P) (w' := w) rfl]
    rw [hfn]
    simp only
    rw [if_neg (by simpa using hg.1)]
    have : fn.body.isNone = false := by rw [← Option.not_isSome, hg.2]; rfl
    rw [this]
    rfl
   cases hg
  ·cases h
  cases h
 cases h
theorem whom_yield {E : Env} {o : Oper} {y : Nat} {args : List PV} (h : whom E o.op = .yield y args) {Ψ : Ty} {a : Act} (he : ER Ψ E a.tmps) :
 (∀ c, o.op ≠ .defer c) ∧ ∃ (vals : Array Value) (l : Nat) (d : Loop), Ψ.ys[y]? = some (l, d) ∧ VRs Ψ args vals ∧ ∀ (P : Program) (w : World) (r : Loop), w.heap[l]? = some (.loop r) → vals.size = r.params.size →
  (execOp a.eval o).run P w = .ok (.round l r.fn ((r.params.zip vals).foldl (fun tmps (t, a) => tmps.setIfInBounds t a) r.tmps) r.assign r.body) w := by
 obtain ⟨dst, op, type, pos, after, guard⟩ := o
 simp only at h
 unfold whom at h
 split at h
 ·rename_i f xs ts
  split at h
  ·cases h
  ·rename_i y' hf
   injection h with h1 h2
   subst h1 h2
   have hfv := ev_ok he f
   rw [hf] at hfv
   generalize hz : a.eval f = z at hfv
   cases hfv with
   | yield _ l d hl =>
   refine ⟨fun c e => (by cases e), xs.map a.eval, l, d, hl, evs_ok he xs, fun P w r hr hs => ?_⟩
   simp only [execOp, resolve, hz, Deferred.ofValue]
   rw [run_bind_ok (run_pure _)]
   simp only [invoke, Array.empty_append]
   exact run_yield hr hs
  cases h
 cases h
theorem GL_ok {D : List Nat} {P : Program} {Y : YEnv} {N : Nat} {rd : Option Nat} {ops : Array Oper} {K : Env → Sg → Prop} {Ψ0 : Ty} {Q : Exit → Act → World → Prop} :
 ∀ (os : List Oper) (is : List Nat), (∀ n : Nat, os[n]? = (is[n]?).bind fun i => ops[i]?) → os.length = is.length → ∀ (E : Env) (σ : Sg) (Ψ : Ty) (a : Act) (w : World), Ψ0.le Ψ → Rel N D Ψ E σ a w → YOK P Y Ψ0 →
 GL P Y N ops os E σ K → (∀ E' σ' Ψ' a' w', Ψ0.le Ψ' → Rel N D Ψ' E' σ' a' w' → Below Ψ0.base w w' → K E' σ' → Q .normal a' w') → wpOpsIn (FnOf Ψ0 rd) 0 P ops Q is a w := by
 intro os
 induction os with
 | nil =>
  intro is _ hl E σ Ψ a w le hr _ hg hk
  cases is with
  | nil => exact hk E σ Ψ a w le hr (Below.refl _ _) hg
  | cons => simp at hl
 | cons o os ih =>
  intro is his hl E σ Ψ a w le hr hy hg hk
  cases is with
  | nil => simp at hl
  | cons i is =>
   have h0 := his 0
   simp only [List.getElem?_cons_zero, Option.bind_some] at h0
   have his' : ∀ n : Nat, os[n]? = (is[n]?).bind fun i => ops[i]? := fun n => by simpa using his (n + 1)
   have hl' : os.length = is.length := by simpa using hl
   simp only [GL] at hg
   obtain ⟨hd, hg⟩ := hg
   simp only [wpOpsIn, ← h0]
   have fin : ∀ {v : PV} {σ' : Sg} {x : Value} {w' : World} {Ψ' : Ty}, Ψ.le Ψ' → SR Ψ' σ' w' → VR Ψ' v x → Below Ψ.base w w' → GL P Y N ops os (E.put o.dst v) σ' K → wpOpsIn (FnOf Ψ0 rd) 0 P ops Q is (a.put o.dst x) w' := by
    intro v σ' x w' Ψ' le' hs' hv hb hg'
    exact ih is his' hl' _ σ' Ψ' _ w' (le.trans le') (hr.put le' hs' hd hv) hy hg' fun E2 σ2 Ψ2 a2 w2 l2 r2 b2 k2 => hk E2 σ2 Ψ2 a2 w2 l2 r2 (Below.trans (by rw [← le.base]; exact hb) b2) k2
   cases hw : wantedPV ops E o with
   | none => rw [hw] at hg; exact (hg : False).elim
   | some b =>
    rw [hw] at hg
    rw [wanted_ok hw hr.env]
    cases b with
    | false =>
     rw [GWant_false] at hg
     simp only [Bool.false_eq_true, if_false]
     exact ⟨fun f _ => FnOf_fn _ _ _, fin (Ty.le.refl _) hr.sg (skipped_ok _) (Below.refl _ _) hg⟩
    | true =>
     simp only [if_true]
     refine ⟨fun f _ => FnOf_fn _ _ _, ?_⟩
     cases hwh : whom E o.op with
     | nobody =>
      rw [GWant_true, hwh, GWho_nobody] at hg
      cases heff : effOp P σ E o.op with
      | none => rw [heff] at hg; exact (hg : False).elim
      | some r =>
       obtain ⟨v, σ'⟩ := r
       rw [heff, GOpt_some] at hg
       obtain ⟨nx, x, w', Ψ', k1, k2, k3, k4, k5, k6⟩ := effOp_ok heff hr.sg hr.env
       rw [Oper.semAt_eq _ _ _ (effOp_not_defer heff), k1]
       rcases k2 with rfl | ⟨rfl, rfl⟩
       ·exact fin k3 k4 k5 k6 hg
       exact fin k3 k4 k5 k6 hg
     | fn f args =>
      rw [GWant_true, hwh, GWho_fn] at hg
      obtain ⟨v, σ', hpc, hg⟩ := hg
      obtain ⟨hnd, vals, k1, k2⟩ := whom_fn hwh hr.env hpc.1 w
      rw [Oper.semAt_eq _ _ _ hnd, k1]
      refine ⟨fun h => (by rw [FnOf_depth] at h; cases h), ?_⟩
      refine CallsIn.mono (callsIn_FnOf (hpc.2 Ψ vals w hr.sg k2 (hy.mono le))) fun e w' hh => ?_
      obtain ⟨x, Ψ', rfl, l1, l2, l3, l4⟩ := hh
      exact fin l1 l2 l3 l4 hg
     | yield y args =>
      rw [GWant_true, hwh, GWho_yield] at hg
      obtain ⟨b, σ', hargs, hg⟩ := hg
      obtain ⟨hnd, vals, l, d, hl1, k2, hrun⟩ := whom_yield hwh hr.env
      obtain ⟨l', r0, hl2, hround⟩ := (hy.mono le).2 y args σ b σ' hargs
      rw [hl1] at hl2
      injection hl2 with hl2
      injection hl2 with hl2 _
      subst hl2
      obtain ⟨r, q1, q2, q3⟩ := hround Ψ vals w (Ty.le.refl _) hr.sg k2
      rw [Oper.semAt_eq _ _ _ hnd, hrun P w r q1 q2]
      refine ⟨fun h => (by rw [FnOf_depth] at h; cases h), ?_⟩
      refine RoundIn.mono (roundIn_FnOf q3) fun e w' hh => ?_
      obtain ⟨Ψ', rfl, l1, l2, l4⟩ := hh
      exact fin l1 l2 (.bool b) l4 hg
/-- The temporaries that go on. -/
def keep (ks : List Nat) (E : Env) : Env := ks.map fun k => (k, E.get k)
theorem ER.keep {Ψ : Ty} {E : Env} {tmps : Array Value} (h : ER Ψ E tmps) (ks : List Nat) : ER Ψ (keep ks E) tmps := by
 refine ⟨fun t => ?_, h.gt⟩
 induction ks with
 | nil => exact .undef _
 | cons k ks ih =>
  simp only [YtpkkegbiddcodaaGreatDoor.keep, List.map_cons, Env.get]
  split
  ·rename_i e; subst e; exact h k
  exact ih
theorem Rel.keep {N : Nat} {D : List Nat} {Ψ : Ty} {E : Env} {σ : Sg} {a : Act} {w : World} (h : Rel N D Ψ E σ a w) (ks : List Nat) : Rel N D Ψ (keep ks E) σ a w := ⟨h.size, h.env.keep ks, h.sg, h.dsub, h.defs⟩
theorem W_region {P : Program} {Y : YEnv} {N : Nat} {rd : Option Nat} {lo : Nat × Nat} {id : Nat} {ops : Array Oper} {E : Env} {σ : Sg} {Q : Exit → Env → Sg → Prop} (ks : List Nat)
 (h : ∀ K : Env → Sg → Prop, (∀ E' σ', Q .normal (keep ks E') σ' → K E' σ') → GL P Y N ops ops.toList E σ K) : W P Y N rd lo (.region id ops false) E σ Q := by
 intro Ψ0 D _ hy _ Ψ a w le hr
 refine wpIn_region ?_
 refine GL_ok (K := fun E' σ' => Q .normal (keep ks E') σ') ops.toList (List.range ops.size) ?_ (by simp) E σ Ψ a w le hr hy (h _ fun _ _ k => k) ?_
 ·intro n
  simp only [Array.getElem?_toList]
  by_cases hn : n < ops.size
  ·simp [hn]
  simp [hn]
 intro E' σ' Ψ' a' w' le' hr' hb hq
 exact ⟨_, σ', Ψ', le', hr'.keep ks, hb, hq⟩
open Go Go.RowKit Go.WideShapes Go.ChangeShapes
/-- The world as it lies: nothing of it is written again. -/
def Ty.at (W : World) : Ty := { base := W.heap.size, imm := fun b o => W.cell? ⟨b, o, none⟩, β := [], hist := fun _ _ => none, ys := [], ds := [], rs := [], sz := [] }
def Sg.zero : Sg := ⟨[], [], []⟩
theorem SR.at (W : World) : SR (Ty.at W) Sg.zero W where
 base := Nat.le_refl _
 imm := fun _ _ _ h => h
 blen := rfl
 block := fun id cs b h => by simp [Sg.zero] at h
 apart := fun id id' cs cs' b h => by simp [Sg.zero] at h
 room := fun r n b e c es h => by simp [Sg.zero] at h
 roomsApart := fun r n r' n' b e c es e' c' es' h => by simp [Sg.zero] at h
 histlt := fun r n x h => by simp [Ty.at] at h
 histle := fun r m n x h => by simp [Ty.at] at h
 βlt := fun id b h => by simp [Ty.at] at h
 yok := fun y l d s h => by simp [Ty.at] at h
 ylen' := ⟨rfl, fun y y' l r r' h => by simp [Ty.at] at h⟩
 dok := fun d h => by simp [Ty.at] at h
 rok := fun b c h => by simp [Ty.at] at h
 szok := fun b n h => by simp [Ty.at] at h
/-- The world as it lies, with what is known of some older blocks. -/
def Ty.atG (W : World) (sz : List (Nat × Sz)) : Ty := { Ty.at W with sz := sz }
theorem Ty.at_le (W : World) (sz : List (Nat × Sz)) : (Ty.at W).le (Ty.atG W sz) := ⟨rfl, fun _ _ _ h => h, fun _ _ h => h, fun _ _ _ h => h, fun _ _ h => h, fun _ h => h, fun _ h => h, fun _ h => by cases h⟩
theorem SR.atG {W : World} {sz : List (Nat × Sz)} (h : ∀ b s, (b, s) ∈ sz → SzOK W.heap.size W b s) : SR (Ty.atG W sz) Sg.zero W :=
 have k := SR.at W
 ⟨k.base, k.imm, k.blen, fun id cs b h => by simp [Sg.zero] at h, k.apart, fun r n b e c es h => by simp [Sg.zero] at h, k.roomsApart, k.histlt, k.histle, k.βlt, k.yok, k.ylen', k.dok, fun b c h => by simp [Ty.atG, Ty.at] at h, h⟩
/-- What is known of the library's variables in a world. -/
def Known (P : Program) (W : World) : Prop := ∃ sz, (∀ b s, (b, s) ∈ sz → SzOK W.heap.size W b s) ∧ GOK P (Ty.atG W sz)
theorem calls_of_PC {P : Program} {f : FuncId} {args : Array Value} {ps : List PV} {W : World} {v : PV} {σ' : Sg} (hk : Known P W) (ha : VRs (Ty.at W) ps args) (h : PC P noY f ps Sg.zero v σ') :
 Calls P f args W fun e W' => ∃ x Ψ', e = .returned x ∧ VR Ψ' v x ∧ Below W.heap.size W W' := by
 obtain ⟨sz, h1, h2⟩ := hk
 exact (callsIn_wide.1 (h.2 (Ty.atG W sz) args W (SR.atG h1) (ha.mono (Ty.at_le W sz)) (YOK.none h2))).mono fun _ _ ⟨x, Ψ', a, _, _, b, c⟩ => ⟨x, Ψ', a, b, c⟩
section
variable {P : Program}
def kindOK (P : Program) (t : TypeId) (p : PV) : Bool :=
 match P.underlying t, p with
 | some (.struct _), .agg _ => true
 | some (.struct _), _ => false
 | some (.array _ _), _ => false
 | _, p => p.scalar
/-- What is of type t is read as R says. -/
def Rd (P : Program) (t : TypeId) (R : PV → Prop) : Prop :=
 ∀ (H : Type) (enc : TypeId × Value → H) (W : World) (fuel : Nat) (cs : List Value) (d : DataW H) (ps : List MemPlace),
  DataW.trod enc P W 0 (fun _ => true) true fuel t cs = some (d, ps) → (∀ n, n ∈ d.weights P t → n ≤ reachBytes) →
  ∃ p, (R p ∧ kindOK P t p = true) ∧ p.cells.length = cs.length ∧ ∀ (j : Nat) (q : PV) (x : Value), p.cells[j]? = some q → cs[j]? = some x → VR (Ty.at W) q x
theorem Rd.mono {t : TypeId} {R S : PV → Prop} (h : Rd P t R) (k : ∀ p, R p → S p) : Rd P t S := fun H enc W fuel cs d ps a b =>
 let ⟨p, ⟨h1, h3⟩, h2⟩ := h H enc W fuel cs d ps a b; ⟨p, ⟨k p h1, h3⟩, h2⟩
theorem one_get {q x : PV} {j : Nat} (h : [x][j]? = some q) : j = 0 ∧ q = x := by
 cases j with
 | zero => simp at h; exact ⟨rfl, h.symm⟩
 | succ j => simp at h
theorem Rd.int {t : TypeId} {k : IntKind} (ht : P.underlying t = some (.int k)) : Rd P t fun p => ∃ n, p = .int k n ∧ k.min ≤ n ∧ n ≤ k.max := by
 intro H enc W fuel cs d ps h _
 obtain ⟨n, rfl, _, hw⟩ := DataW.trod_int ht h
 refine ⟨.int k n, ⟨⟨n, rfl, ?_⟩, by simp [kindOK, ht, PV.scalar]⟩, rfl, fun j q x a b => ?_⟩
 ·simp only [Lit.wf, Bool.and_eq_true, decide_eq_true_eq] at hw
  exact hw
 obtain ⟨rfl, rfl⟩ := one_get a
 simp at b
 subst b
 exact .int k n
inductive All2 {α β : Type} (R : α → β → Prop) : List α → List β → Prop where
 | nil : All2 R [] []
 | cons {a b l m} : R a b → All2 R l m → All2 R (a :: l) (b :: m)
/-- Values, each as said. -/
def AllR : List (PV → Prop) → List PV → Prop
 | [], [] => True
 | R :: Rs, p :: ps => R p ∧ AllR Rs ps
 | _, _ => False
theorem allR_nil {qs : List PV} (h : AllR [] qs) : qs = [] := by
 cases qs with
 | nil => rfl
 | cons p ps => exact h.elim
theorem allR_cons {R : PV → Prop} {Rs : List (PV → Prop)} {qs : List PV} (h : AllR (R :: Rs) qs) : ∃ p ps, qs = p :: ps ∧ R p ∧ AllR Rs ps := by
 cases qs with
 | nil => exact h.elim
 | cons p ps => exact ⟨p, ps, rfl, h.1, h.2⟩
theorem weightsEach_head {H : Type} {t : TypeId} {ts : List TypeId} {d : DataW H} {ds : List (DataW H)} (h : ∀ n, n ∈ DataW.weightsEach P (t :: ts) (d :: ds) → n ≤ reachBytes) :
 (∀ n, n ∈ d.weights P t → n ≤ reachBytes) ∧ ∀ n, n ∈ DataW.weightsEach P ts ds → n ≤ reachBytes := by
 rw [DataW.weightsEach] at h
 exact ⟨fun n hn => h n (List.mem_append_left _ hn), fun n hn => h n (List.mem_append_right _ hn)⟩
theorem weightsAll_get {H : Type} {e : TypeId} : ∀ {l : List (DataW H)} {i : Nat} {d : DataW H}, l[i]? = some d → ∀ n, n ∈ d.weights P e → n ∈ DataW.weightsAll P e l := by
 intro l
 induction l with
 | nil => intro i d h; simp at h
 | cons a l ih =>
  intro i d h n hn
  rw [DataW.weightsAll]
  cases i with
  | zero => simp at h; subst h; exact List.mem_append_left _ hn
  | succ i => exact List.mem_append_right _ (ih (by simpa using h) n hn)
theorem cells_get {W : World} {b o n : Nat} {cs : List Value} (h : W.cells? 0 ⟨b, o, none⟩ n = some cs) : cs.length = n ∧ ∀ j, j < n → W.cell? ⟨b, o + j, none⟩ = cs[j]? := by
 unfold World.cells? at h
 rw [if_pos (Nat.zero_le _)] at h
 refine ⟨by simpa using mapM_some_length h, fun j hj => ?_⟩
 have := mapM_some_get h j j (by simp [hj])
 rw [Addr.add_none] at this
 exact this
theorem Rd.slice {t e : TypeId} {R : PV → Prop} (ht : P.underlying t = some (.slice e)) (hc' : (P.cellsOf e == 0) = false) (h : Rd P e R) :
 Rd P t fun p => ∃ l : List PV, (∀ x, x ∈ l → R x) ∧ l.length * P.bytesOf e ≤ reachBytes ∧ p = .isl l .ro := by
 intro H enc W fuel cs d ps hd hw
 have hc : 0 < P.cellsOf e := by have := hc'; simp at this; omega
 rcases DataW.trod_slice ht hd with ⟨rfl, _⟩ | ⟨a, len, cap, elems, rest, n, _, rfl, hx, _, hlc, _, hel, hei, hsp, _⟩
 ·refine ⟨.isl [] .ro, ⟨⟨[], (fun x hx => by cases hx), by simp, rfl⟩, by simp [kindOK, ht, PV.scalar]⟩, rfl, fun j q x a b => ?_⟩
  obtain ⟨rfl, rfl⟩ := one_get a
  simp at b
  subst b
  exact .islnil _ _ trivial
 injection hx with hx _
 subst hx
 simp only [DataW.weights, ht] at hw
 obtain ⟨hrl, hrest⟩ := hsp rfl
 by_cases h0 : cap = 0
 ·have hl0 : len = 0 := by omega
  subst h0 hl0
  refine ⟨.isl [] .ro, ⟨⟨[], (fun x hx => by cases hx), by simp, rfl⟩, by simp [kindOK, ht, PV.scalar]⟩, rfl, fun j q x a b => ?_⟩
  obtain ⟨rfl, rfl⟩ := one_get a
  simp at b
  subst b
  exact .islnil _ _ trivial
 have hspot : a.spot = none := by
  have key : ∃ cs', W.cells? 0 (a.add 0) (P.cellsOf e) = some cs' := by
   by_cases hl : 0 < len
   ·have := hei 0 hl
    simp only [Nat.zero_mul] at this
    cases hc' : W.cells? 0 (a.add 0) (P.cellsOf e) with
    | none =>
     rw [hc'] at this
     have hlt : 0 < elems.length := by omega
     rw [List.getElem?_eq_getElem hlt] at this
     simp at this
    | some cs' => exact ⟨cs', rfl⟩
   have e0 : len = 0 := by omega
   have := hrest 0 (by omega)
   rw [e0] at this
   simp only [Nat.add_zero, Nat.zero_mul] at this
   cases hc' : W.cells? 0 (a.add 0) (P.cellsOf e) with
   | none =>
    rw [hc'] at this
    have hlt : 0 < rest.length := by omega
    rw [List.getElem?_eq_getElem hlt] at this
    simp at this
   | some cs' => exact ⟨cs', rfl⟩
  obtain ⟨cs', hk⟩ := key
  unfold World.cells? at hk
  rw [if_pos (Nat.zero_le _)] at hk
  have hl := mapM_some_length hk
  have := mapM_some_get hk 0 0 (by simp [hc])
  have e1 : (a.add 0).add 0 = a := by simp [Addr.add]
  rw [e1] at this
  rw [List.getElem?_eq_getElem (by simp at hl; omega)] at this
  unfold World.cell? at this
  split at this
  ·split at this
   ·cases this
   rename_i hh; simpa using hh
  cases this
 obtain ⟨b, o, sp⟩ := a
 simp only at hspot
 subst hspot
 simp only [Addr.add_none] at hei
 have each : ∀ i, i < len → ∃ p : PV, R p ∧ p.cells.length = P.cellsOf e ∧ ∀ (j : Nat) (q : PV), p.cells[j]? = some q → ∃ x, W.cell? ⟨b, o + i * P.cellsOf e + j, none⟩ = some x ∧ VR (Ty.at W) q x := by
  intro i hi
  have he := hei i hi
  have hlt : i < elems.length := by omega
  rw [List.getElem?_eq_getElem hlt] at he
  cases hk : W.cells? 0 ⟨b, o + i * P.cellsOf e, none⟩ (P.cellsOf e) with
  | none => rw [hk] at he; simp at he
  | some ci =>
   rw [hk] at he
   simp only [Option.bind_some] at he
   obtain ⟨c1, c2⟩ := cells_get hk
   obtain ⟨p, ⟨r1, _⟩, r2, r3⟩ := h H enc W n ci elems[i].1 elems[i].2 (by rw [he]) (fun m hm => hw m (by
    refine List.mem_cons_of_mem _ (List.mem_append_left _ (weightsAll_get (i := i) ?_ m hm))
    simp [hlt]))
   refine ⟨p, r1, by omega, fun j q hj => ?_⟩
   have hjl : j < ci.length := by rw [← r2]; exact (List.getElem?_eq_some_iff.1 hj).1
   refine ⟨ci[j], ?_, r3 j q _ hj (List.getElem?_eq_getElem hjl)⟩
   rw [c2 j (by omega), List.getElem?_eq_getElem hjl]
 have hch : ∃ f : Nat → PV, ∀ i, i < len → R (f i) ∧ (f i).cells.length = P.cellsOf e ∧ ∀ (j : Nat) (q : PV), (f i).cells[j]? = some q → ∃ x, W.cell? ⟨b, o + i * P.cellsOf e + j, none⟩ = some x ∧ VR (Ty.at W) q x :=
  ⟨fun i => if hi : i < len then Classical.choose (each i hi) else .undef, fun i hi => by simp only [dif_pos hi]; exact Classical.choose_spec (each i hi)⟩
 obtain ⟨f, hf⟩ := hch
 have hget : ∀ (k : Nat) (x : PV), ((List.range len).map f)[k]? = some x → k < len ∧ x = f k := by
  intro k x hk
  rw [List.getElem?_map] at hk
  rcases Nat.lt_or_ge k len with hlt | hge
  ·rw [List.getElem?_range hlt] at hk
   simp at hk
   exact ⟨hlt, hk.symm⟩
  rw [List.getElem?_eq_none (by simpa using hge)] at hk
  cases hk
 refine ⟨.isl ((List.range len).map f) .ro, ⟨⟨_, ?_, ?_, rfl⟩, by simp [kindOK, ht, PV.scalar]⟩, rfl, fun j q x a1 b1 => ?_⟩
 ·intro x hx
  obtain ⟨i, hi, rfl⟩ := List.mem_map.1 hx
  exact (hf i (List.mem_range.1 hi)).1
 ·have := hw _ (List.mem_cons_self ..)
  simp only [List.length_map, List.length_range, hel] at this ⊢
  exact Nat.le_trans (Nat.mul_le_mul_right _ (Nat.le_add_right _ _)) this
 obtain ⟨rfl, rfl⟩ := one_get a1
 simp at b1
 subst b1
 have hlen : ((List.range len).map f).length = len := by simp
 have := VR.isl (Ψ := Ty.at W) (P.cellsOf e) ((List.range len).map f) .ro b o cap (fun k j => (W.cell? ⟨b, o + k * P.cellsOf e + j, none⟩).getD undef)
  (fun k x hk => by obtain ⟨q1, rfl⟩ := hget k x hk; exact (hf k q1).2.1)
  (fun k x j p hk hj => by
   obtain ⟨q1, rfl⟩ := hget k x hk
   obtain ⟨y, q2, q3⟩ := (hf k q1).2.2 j p hj
   show W.cell? _ = _
   rw [q2]; rfl)
  (fun k x j p hk hj => by
   obtain ⟨q1, rfl⟩ := hget k x hk
   obtain ⟨y, q2, q3⟩ := (hf k q1).2.2 j p hj
   rw [q2]; exact q3)
  (by rw [hlen]; exact hlc) trivial
 rw [hlen] at this
 exact this
/-- Rows of things, each as said. -/
theorem map_of {α : Type} {f : α → PV} {Q : α → Prop} : ∀ {l : List PV}, (∀ x, x ∈ l → ∃ a, x = f a ∧ Q a) → ∃ xs : List α, l = xs.map f ∧ ∀ a, a ∈ xs → Q a := by
 intro l
 induction l with
 | nil => intro _; exact ⟨[], rfl, fun a h => by cases h⟩
 | cons x l ih =>
  intro h
  obtain ⟨a, rfl, ha⟩ := h x (by simp)
  obtain ⟨xs, rfl, hx⟩ := ih fun y hy => h y (by simp [hy])
  refine ⟨a :: xs, rfl, fun b hb => ?_⟩
  rcases List.mem_cons.1 hb with rfl | hb
  ·exact ha
  exact hx b hb
theorem PV.cells_scalar {p : PV} (h : p.scalar = true) : p.cells = [p] := by cases p <;> simp_all [PV.scalar, PV.cells]
theorem cells_not_agg {v : Value} (h : ∀ cs, v ≠ .agg cs) : v.cells = #[v] := by
 cases v <;> first | rfl | exact absurd rfl (h _)
theorem okWide_not_agg {W : World} {r : Reach} {base : Nat} {t : TypeId} {v : Value} (h : Cell.okWide P W r base t v) : ∀ cs, v ≠ .agg cs := by
 intro cs e
 subst e
 unfold Cell.okWide at h
 split at h <;> simp_all [Cell.ok]
theorem read_arg {t : TypeId} {R : PV → Prop} (h : Rd P t R) {H : Type} {enc : TypeId × Value → H} {W : World} {base : Nat} {v : Value} {d : DataW H} {ps : List MemPlace} (hv : Value.okWide P W .any base t v)
 (hd : DataW.Trod enc P W 0 (fun _ => true) true t v d ps) (hw : ∀ n, n ∈ d.weights P t → n ≤ reachBytes) : ∃ p, R p ∧ VR (Ty.at W) p v := by
 obtain ⟨fuel, hd⟩ := hd
 obtain ⟨p, ⟨h1, hk⟩, h2, h3⟩ := h H enc W fuel _ d ps hd hw
 refine ⟨p, h1, ?_⟩
 have scal : Cell.okWide P W .any base t v → p.scalar = true → VR (Ty.at W) p v := fun hv hs => by
  have hc := cells_not_agg (okWide_not_agg hv)
  rw [hc, PV.cells_scalar hs] at h3
  exact h3 0 p v rfl rfl
 have key : (∃ fs, P.underlying t = some (.struct fs)) ∨ (∃ n e, P.underlying t = some (.array n e)) ∨ (kindOK P t p = p.scalar ∧ Value.okWide P W .any base t v = Cell.okWide P W .any base t v) := by
  unfold kindOK Value.okWide
  rcases P.underlying t with _ | d
  ·exact .inr (.inr ⟨rfl, rfl⟩)
  cases d <;> first | exact .inl ⟨_, rfl⟩ | exact .inr (.inl ⟨_, _, rfl⟩) | exact .inr (.inr ⟨rfl, rfl⟩)
 rcases key with ⟨fs, hu⟩ | ⟨n, e, hu⟩ | ⟨e1, e2⟩
 ·simp only [Value.okWide, hu] at hv
  obtain ⟨cs, rfl, _, _⟩ := hv
  simp only [kindOK, hu] at hk
  obtain ⟨l, rfl⟩ : ∃ l, p = .agg l := by
   cases p <;> first | exact ⟨_, rfl⟩ | cases hk
  simp only [PV.cells_agg, Value.cells] at h2 h3
  exact .agg l cs (by simpa using h2.symm) fun j q x a b => h3 j q x a (by simpa using b)
 ·simp only [kindOK, hu] at hk
  cases hk
 rw [e1] at hk
 rw [e2] at hv
 exact scal hv hk
theorem read_args : ∀ {ts : List TypeId} {Rs : List (PV → Prop)}, All2 (fun t R => Rd P t R) ts Rs → ∀ {H : Type} {enc : TypeId × Value → H} {W : World} {base : Nat} {vs : List Value} {ds : List (DataW H)} {ps : List MemPlace},
 (∀ (j : Nat) (t : TypeId) (v : Value), ts[j]? = some t → vs[j]? = some v → Value.okWide P W .any base t v) → DataW.TrodAll enc P W 0 (fun _ => true) true ts vs ds ps → (∀ n, n ∈ DataW.weightsEach P ts ds → n ≤ reachBytes) →
 ∃ qs : List PV, AllR Rs qs ∧ qs.length = vs.length ∧ ∀ (j : Nat) (p : PV) (v : Value), qs[j]? = some p → vs[j]? = some v → VR (Ty.at W) p v := by
 intro ts
 induction ts with
 | nil =>
  intro Rs ha H enc W base vs ds ps hv ht hw
  cases ha
  obtain ⟨rfl, rfl, rfl⟩ := trodAll_nil ht
  exact ⟨[], trivial, rfl, fun j p v a => by simp at a⟩
 | cons t ts ih =>
  intro Rs ha H enc W base vs ds ps hv ht hw
  cases ha with
  | cons h1 h2 =>
  obtain ⟨v, vs1, d, ds1, a, b, rfl, rfl, rfl, k1, k2⟩ := trodAll_cons ht
  obtain ⟨w1, w2⟩ := weightsEach_head hw
  obtain ⟨p, r1, r2⟩ := read_arg h1 (hv 0 t v rfl rfl) k1 w1
  obtain ⟨qs, r3, r4, r5⟩ := ih h2 (fun j t v x y => hv (j + 1) t v (by simpa using x) (by simpa using y)) k2 w2
  refine ⟨p :: qs, ⟨r1, r3⟩, by simp [r4], fun j q x y z => ?_⟩
  cases j with
  | zero => simp at y z; subst y z; exact r2
  | succ j => exact r5 j q x (by simpa using y) (by simpa using z)
theorem trodAll_stays (hl : laidOutB P = true) {W W' : World} (hb : Below W.heap.size W W') {H : Type} {enc : TypeId × Value → H} {sp : Nat → Bool} : ∀ {ts : List TypeId} {vs : List Value} {ds : List (DataW H)} {ps : List MemPlace}, (ts.all fun t => P.readableRec t && decide (t < P.types.size)) = true →
 DataW.TrodAll enc P W 0 (fun _ => true) true ts vs ds ps → (∀ x, x ∈ ps → x.block < W.heap.size) → (∀ x, x ∈ ps → sp x.block = true) → DataW.TrodAll enc P W' 0 sp true ts vs ds ps := by
 intro ts
 induction ts with
 | nil => intro vs ds ps _ h _ _; obtain ⟨rfl, rfl, rfl⟩ := trodAll_nil h; exact h
 | cons t ts ih =>
  intro vs ds ps ha h hlt hsp
  obtain ⟨v, vs1, d, ds1, a, b, rfl, rfl, rfl, k1, k2⟩ := trodAll_cons h
  simp only [List.all_cons, Bool.and_eq_true, decide_eq_true_eq] at ha
  exact ⟨a, b, WideElems.Trod_stays hl ha.1.1 ha.1.2 k1 (fun x hx => hb.same (hlt x (List.mem_append_left _ hx))) (fun x hx => hsp x (List.mem_append_left _ hx)),
   ih (by simpa using ha.2) k2 (fun x hx => hlt x (List.mem_append_right _ hx)) (fun x hx => hsp x (List.mem_append_right _ hx)), rfl⟩
theorem post_of_below {H : Type} {enc : TypeId × Value → H} {f : Func} {s : ChangeSpec} {apart fresh handsOn again : Bool} {W W' : World} {args : Array Value} {v : Value} {ds gs : List (DataW H)} {before pa pv : List MemPlace}
 (hW : DataW.Whole enc P f.params.toList s.vars apart W args.toList ds gs before)
 (hres : ∀ (b : Nat) (sp : Nat → Bool) (hd : Bool), DataW.TrodAll enc P W' b sp hd f.resultTypes.toList (v.resultList f.resultTypes.size) (s.fn H (ds ++ gs)).results [])
 (hargs : ∀ sp : Nat → Bool, (∀ p ∈ before, sp p.block = true) → DataW.TrodAll enc P W' 0 sp true f.params.toList args.toList (s.fn H (ds ++ gs)).args pa)
 (hvars : ∀ sp : Nat → Bool, (∀ p ∈ before, sp p.block = true) → DataW.TrodVars enc P W' sp s.vars (s.fn H (ds ++ gs)).vars pv)
 (hps : before = pa ++ pv) (hb : Below W.heap.size W W')
 (hok : ∀ (j : Nat) (t : TypeId) (r : Value), f.resultTypes[j]? = some t → (v.resultList f.resultTypes.size)[j]? = some r → Value.okWide P W' .any 0 t r) :
 s.post enc P f apart fresh handsOn again W args v W' := by
 have hlt : ∀ p ∈ before, p.block < W.heap.size := fun p hp => hW.lt p hp
 have hold : ∀ p ∈ before, (fun b => decide (b < W.heap.size)) p.block = true := fun p hp => by simpa using hlt p hp
 refine ⟨ds, gs, before, [], pa, pv, hW, hres _ _ _, hargs _ hold, hvars _ hold, World.keptBut_mono (fun p hp => ⟨hp, ?_⟩) (hb.frame (· ∈ before)), fun _ => ?_⟩
 ·rw [hps, List.mem_append] at hp
  exact Or.inr hp
 obtain ⟨_, _, _, _, _, hz, hn⟩ := hW
 refine ⟨hok, _, _, ([] ++ pa) ++ pv, ⟨[] ++ pa, pv, trodAll_append (hargs _ (fun _ _ => rfl)) (hres _ _ _), hvars _ (fun _ _ => rfl), rfl, ?_, ?_⟩, ?_⟩
 ·intro b off hp
  have hin : MemPlace.cell b off ∈ before := by rw [hps]; simpa using hp
  rw [hb.frozen (hlt _ hin)]
  exact hz b off hin
 ·intro ha
  have := hn ha
  rw [hps] at this
  simpa using this
 intro p hp _
 rw [hps]
 simpa using hp
/-- A law, at one world: it answers true, and leaves what came in as it was. -/
theorem law_calls {P : Program} {f : FuncId} {fn : Func} {s : ChangeSpec} {conds : List PathCond} {apart fresh handsOn again : Bool} {H : Type} {enc : TypeId × Value → H} {Rs : List (PV → Prop)} {tb : TypeId}
 (hfn : P.funcs[f]? = some fn) (hvars : s.vars = [])
 (hl : laidOutB P = true) (hr : (fn.params.toList.all fun t => P.readableRec t && decide (t < P.types.size)) = true) (hRs : All2 (fun t R => Rd P t R) fn.params.toList Rs)
 (hres : fn.resultTypes = #[tb]) (htb : P.underlying tb = some .bool)
 (hspec : ∀ ds : List (DataW H), ds.length = fn.params.toList.length → s.fn H ds = { results := [.lit (.bool true)], args := ds })
 (walk : ∀ qs, AllR Rs qs → ∃ σ', PC P noY f qs Sg.zero (.bool true) σ')
 {w : World} {tape : Tape} {i : Input} (hok : Input.okWide P (w.forCall tape i) .any w.heap.size f i) (hp : s.pre enc P fn conds apart (w.forCall tape i).memory i.args) (hz : sizedMet enc P fn (OpenSpec.ofChange s) apart (w.forCall tape i).memory i.args)
 (hk : Known P (w.forCall tape i)) :
 Calls P f i.args (w.forCall tape i) fun
  | .returned v, w' => s.post enc P fn apart fresh handsOn again (w.forCall tape i).blind i.args v w'.blind
  | _, _ => False := by
 obtain ⟨_, _, _, fn', hfn', _, _, _, _, hval⟩ := hok
 have e : fn' = fn := Option.some.inj (hfn'.symm.trans hfn)
 subst e
 obtain ⟨ds, gs, before, hw, hc⟩ := hp
 have hw' := DataW.Whole.of_heap (w' := w.forCall tape i) (by rfl) hw
 have hwt := hz.weights hw
 have hW' := hw'
 obtain ⟨p, q, hA, hV, hpq, hfz, hnd⟩ := hw'
 rw [hvars] at hV
 obtain ⟨rfl, rfl⟩ := trodVars_none hV
 have hvt : (OpenSpec.ofChange s).bare.plain.varTypes P = [] := by
  show s.plain.varTypes P = []
  unfold DataSpec.varTypes
  simp [ChangeSpec.plain, hvars]
 rw [hvt, List.append_nil, List.append_nil] at hwt
 obtain ⟨qs, k1, k2, k3⟩ := read_args hRs (base := w.heap.size) (fun j t v a b => hval j t v (by simpa using a) (by simpa using b)) hA (fun n hn => by simpa using List.all_eq_true.1 hwt n hn)
 obtain ⟨σ', hpc⟩ := walk qs k1
 have hlen : ds.length = fn'.params.toList.length := (trodAll_length hA).2
 refine (calls_of_PC (W := w.forCall tape i) hk ⟨by simpa using k2.symm, fun j p v a b => k3 j p v a (by simpa using b)⟩ hpc).mono fun e W' ⟨x, Ψ', he, hx, hb⟩ => ?_
 subst he
 have hx := hx.bool_inv
 subst hx
 refine ChangeSpec.post_blind ?_
 have hq : (s.fn H (ds ++ [])) = { results := [.lit (.bool true)], args := ds } := by rw [List.append_nil]; exact hspec ds hlen
 have hbl : ∀ x, x ∈ p → x.block < (w.forCall tape i).heap.size := fun x hx => hW'.lt x (by rw [hpq]; simp [hx])
 refine post_of_below (pa := p) (pv := []) hW' (fun b sp hd => ?_) (fun sp hsp => ?_) (fun sp _ => ?_) hpq hb ?_
 ·rw [hq, hres]
  exact trodAll_mk1 (shut_bool htb true)
 ·rw [hq]
  exact trodAll_stays hl hb hr hA hbl fun x hx => hsp x (by rw [hpq]; simp [hx])
 ·rw [hq, hvars]; rfl
 exact ok_one hres rfl (okWide_bool_mk htb true)
/-- A law whose row lists variables. -/
theorem law_laid {C : Checked} {os : Os} {f : FuncId} {fn : Func} {s : ChangeSpec} {conds : List PathCond} {laid : List (String × DataW Unit)} {apart fresh handsOn again : Bool} {H : Type} {enc : TypeId × Value → H} {Rs : List (PV → Prop)} {tb : TypeId}
 (own : ownKnob C.prog.godebug = none) (started : os.Started) (noInit : C.prog.inits.idxOf? f = none) (hfn : C.prog.funcs[f]? = some fn) (hvars : s.vars = [])
 (hl : laidOutB C.prog = true) (hr : (fn.params.toList.all fun t => C.prog.readableRec t && decide (t < C.prog.types.size)) = true) (hRs : All2 (fun t R => Rd C.prog t R) fn.params.toList Rs)
 (hres : fn.resultTypes = #[tb]) (htb : C.prog.underlying tb = some .bool)
 (hspec : ∀ ds : List (DataW H), ds.length = fn.params.toList.length → s.fn H ds = { results := [.lit (.bool true)], args := ds })
 (witness : ∃ (w : World) (tape : Tape) (i : Input), w.os = os ∧ (w.forCall tape i).Shaped C.prog ∧ i.vars = [] ∧ Input.okWide C.prog (w.forCall tape i) .any w.heap.size f i ∧
  ((s.pre enc C.prog fn conds apart (w.forCall tape i).memory i.args ∧ laidMetH C.prog laid (w.forCall tape i).memory) ∧ sizedMet enc C.prog fn (OpenSpec.ofChange s) apart (w.forCall tape i).memory i.args) ∧ (({} : Assume)).holds C.prog (lone (Frame.enter C.prog f i.args .normal) [] (w.forCall tape i)))
 (known : ∀ W, W.ShapedOpen C.prog → laidMetH C.prog laid W → Known C.prog W)
 (walk : ∀ qs, AllR Rs qs → ∃ σ', PC C.prog noY f qs Sg.zero (.bool true) σ') :
 ReturnsInHanded {} C os f .any (fun w args => (s.pre enc C.prog fn conds apart w args ∧ laidMetH C.prog laid w) ∧ sizedMet enc C.prog fn (OpenSpec.ofChange s) apart w args) (s.post enc C.prog fn apart fresh handsOn again) := by
 refine returnsInHanded_of_calls own started noInit witness ?_
 intro w tape i _ hsh _ hok hpre _
 exact law_calls hfn hvars hl hr hRs hres htb hspec walk hok hpre.1.1 hpre.2 (known _ hsh (laidMetH.of_heap (by rfl) hpre.1.2))
/-- What a variable listed first as a table of powers of ten gives. -/
theorem known_tab {P : Program} {W : World} (h : Lib.TabIs P W "internal/strconv.uint64pow10" .u64 Lib.pow10Tab) {g : Nat} (hg : P.globalNamed "internal/strconv.uint64pow10" = some g) :
 ∃ e f, W.heap[g]? = some (.cells pow10A e f) := by
 unfold Lib.TabIs World.var? at h
 rw [hg] at h
 simp only [Option.bind_some] at h
 split at h
 ·rename_i c e f hh
  injection h with h
  subst h
  exact ⟨e, f, by rw [hh]; rfl⟩
 cases h
end
section
variable {P : Program} {Y : YEnv} {N : Nat} {rd : Option Nat} {lo : Nat × Nat} {E : Env} {σ : Sg} {Q : Exit → Env → Sg → Prop}
theorem Post.mono {D : List Nat} {Ψ0 : Ty} {w : World} {Q' : Exit → Env → Sg → Prop} (k : ∀ ex E σ, Q ex E σ → Q' ex E σ) {ex : Exit} {a' : Act} {w' : World} (h : Post N D Ψ0 w Q ex a' w') : Post N D Ψ0 w Q' ex a' w' :=
 let ⟨E', σ', Ψ', a1, a2, a3, a4⟩ := h; ⟨E', σ', Ψ', a1, a2, a3, k _ _ _ a4⟩
theorem Post.later {D : List Nat} {Ψ0 : Ty} {w w1 : World} (hb : Below Ψ0.base w w1) {ex : Exit} {a' : Act} {w' : World} (h : Post N D Ψ0 w1 Q ex a' w') : Post N D Ψ0 w Q ex a' w' :=
 let ⟨E', σ', Ψ', a1, a2, a3, a4⟩ := h; ⟨E', σ', Ψ', a1, a2, hb.trans a3, a4⟩
theorem W_mono {c : Code} {Q' : Exit → Env → Sg → Prop} (h : W P Y N rd lo c E σ Q) (k : ∀ ex E σ, Q ex E σ → Q' ex E σ) : W P Y N rd lo c E σ Q' :=
 fun Ψ0 D h1 h2 h4 Ψ a w h5 h6 => wpIn_mono (h Ψ0 D h1 h2 h4 Ψ a w h5 h6) fun _ _ _ => Post.mono k
theorem W_skip (h : Q .normal E σ) : W P Y N rd lo .skip E σ Q := fun _ _ _ _ _ Ψ _ _ h5 h6 => wpIn_skip ⟨E, σ, Ψ, h5, h6, Below.refl _ _, h⟩
theorem W_exit {id : Nat} (h : Q (.exit id) E σ) : W P Y N rd lo (.exit id) E σ Q := fun _ _ _ _ _ Ψ _ _ h5 h6 => wpIn_exit ⟨E, σ, Ψ, h5, h6, Below.refl _ _, h⟩
theorem W_ret (h : Q .ret E σ) : W P Y N rd lo .ret E σ Q := fun _ _ _ _ _ Ψ _ _ h5 h6 => wpIn_ret ⟨E, σ, Ψ, h5, h6, Below.refl _ _, h⟩
def Seq (K : Env → Sg → Prop) (Q : Exit → Env → Sg → Prop) : Exit → Env → Sg → Prop
 | .normal, E, σ => K E σ
 | e, E, σ => Q e E σ
theorem W_seq {x y : Code} (h : ∀ K : Env → Sg → Prop, (∀ E σ, W P Y N rd lo y E σ Q → K E σ) → W P Y N rd lo x E σ (Seq K Q)) : W P Y N rd lo (.seq x y) E σ Q := by
 intro Ψ0 D h1 h2 h4 Ψ a w le hr
 refine wpIn_seq (wpIn_mono (h _ (fun _ _ k => k) Ψ0 D h1 h2 h4 Ψ a w le hr) ?_)
 rintro ex a1 w1 ⟨E1, σ1, Ψ1, k1, k2, k3, k4⟩
 cases ex with
 | normal => exact wpIn_mono (k4 Ψ0 D h1 h2 h4 Ψ1 a1 w1 k1 k2) fun _ _ _ => Post.later k3
 | _ => exact ⟨E1, σ1, Ψ1, k1, k2, k3, k4⟩
theorem W_sr {id : Nat} {ops : Array Oper} {y : Code} (ks : List Nat) (h : ∀ R : Env → Sg → Prop, (∀ E' σ', W P Y N rd lo y (keep ks E') σ' Q → R E' σ') → GL P Y N ops ops.toList E σ R) : W P Y N rd lo (.seq (.region id ops false) y) E σ Q :=
  W_seq fun _ kq => W_region ks fun R hR => h R fun E' σ' hw => hR E' σ' (kq _ _ hw)
theorem W_cond {c : Operand} {x y : Code} {t : Bool} (hc : ev E c = .bool t) (ht : t = true → W P Y N rd lo x E σ Q) (hf : t = false → W P Y N rd lo y E σ Q) : W P Y N rd lo (.cond c x y) E σ Q := by
 intro Ψ0 D h1 h2 h4 Ψ a w le hr
 have hv := ev_ok hr.env c
 rw [hc] at hv
 refine wpIn_cond hv.bool_inv ?_
 cases t
 ·exact hf rfl Ψ0 D h1 h2 h4 Ψ a w le hr
 exact ht rfl Ψ0 D h1 h2 h4 Ψ a w le hr
theorem W_cond_true {c : Operand} {x y : Code} (hc : ev E c = .bool true) (h : W P Y N rd lo x E σ Q) : W P Y N rd lo (.cond c x y) E σ Q := W_cond hc (fun _ => h) (fun e => by cases e)
theorem W_cond_false {c : Operand} {x y : Code} (hc : ev E c = .bool false) (h : W P Y N rd lo y E σ Q) : W P Y N rd lo (.cond c x y) E σ Q := W_cond hc (fun e => by cases e) (fun _ => h)
def InBlock (id : Nat) (Q : Exit → Env → Sg → Prop) : Exit → Env → Sg → Prop
 | .exit id', E, σ => if id' = id then Q .normal E σ else Q (.exit id') E σ
 | e, E, σ => Q e E σ
theorem W_block {id : Nat} {c : Code} (h : W P Y N rd lo c E σ (InBlock id Q)) : W P Y N rd lo (.block id c) E σ Q := by
 intro Ψ0 D h1 h2 h4 Ψ a w le hr
 refine wpIn_block (wpIn_mono (h Ψ0 D h1 h2 h4 Ψ a w le hr) ?_)
 rintro ex a1 w1 ⟨E1, σ1, Ψ1, k1, k2, k3, k4⟩
 cases ex with
 | exit id' =>
  simp only [InBlock] at k4
  simp only [Exit.inBlock]
  split
  ·rename_i e; rw [if_pos e] at k4; exact ⟨E1, σ1, Ψ1, k1, k2, k3, k4⟩
  rename_i e; rw [if_neg e] at k4; exact ⟨E1, σ1, Ψ1, k1, k2, k3, k4⟩
 | _ => exact ⟨E1, σ1, Ψ1, k1, k2, k3, k4⟩
theorem W_loop {c : Code} (I : Env → Sg → Prop) (μ : Env → Sg → Nat) (h0 : I E σ)
 (round : ∀ E σ, I E σ → W P Y N rd lo c E σ (Seq (fun E' σ' => I E' σ' ∧ μ E' σ' < μ E σ) Q)) : W P Y N rd lo (.loop c) E σ Q := by
 intro Ψ0 D h1 h2 h4 Ψ a w le hr
 have key : ∀ n E' σ', μ E' σ' = n → I E' σ' → ∀ Ψ' a' w', Ψ0.le Ψ' → Rel N D Ψ' E' σ' a' w' →
  ∀ (b : Frame) (k : List Item) (cs : List Frame), b.roundOf = (FnOf Ψ0 rd).round → (FnOf Ψ0 rd).fn b.fn → (FnOf Ψ0 rd).room (cs.length + 1 + 0) →
  ∃ e a2 w2, Post N D Ψ0 w' Q e a2 w2 ∧
   ArrivesIn (Machine.fenced P (FnOf Ψ0 rd)) P (lone (b.atR a' (.code c :: .inLoop c :: k)) cs w') b k cs e a2 w2 := by
  intro n
  induction n using Nat.strongRecOn with
  | _ n ih =>
   intro E' σ' hn hI Ψ' a' w' le' hr' b k cs hro hbf hroom
   obtain ⟨e, a1, w1, ⟨E1, σ1, Ψ1, k1, k2, k3, k4⟩, harr⟩ := round E' σ' hI Ψ0 D h1 h2 h4 Ψ' a' w' le' hr' b (.inLoop c :: k) cs hro hbf hroom
   cases e with
   | normal =>
    obtain ⟨hI1, hlt⟩ := k4
    obtain ⟨e2, a2, w2, hq2, harr2⟩ := ih (μ E1 σ1) (hn ▸ hlt) E1 σ1 rfl hI1 Ψ1 a1 w1 k1 k2 b k cs hro hbf hroom
    exact ⟨e2, a2, w2, hq2.later k3, .of_steps (StepsIn.trans harr (.one (fenced_calm (fr := b.atR a1 (.inLoop c :: k)) hbf hroom rfl) stepR_inLoop)) harr2⟩
   | exit id => exact ⟨_, a1, w1, ⟨E1, σ1, Ψ1, k1, k2, k3, k4⟩, .pass (x := .inLoop c) rfl (fun _ _ => .inl (by simp)) harr⟩
   | goto l => exact ⟨_, a1, w1, ⟨E1, σ1, Ψ1, k1, k2, k3, k4⟩, .pass (x := .inLoop c) rfl (fun _ _ => .inl (by simp)) harr⟩
   | ret => exact ⟨_, a1, w1, ⟨E1, σ1, Ψ1, k1, k2, k3, k4⟩, .pass (x := .inLoop c) rfl (fun _ _ => .inl (by simp)) harr⟩
   | panic ch => exact ⟨_, a1, w1, ⟨E1, σ1, Ψ1, k1, k2, k3, k4⟩, .pass (x := .inLoop c) rfl (fun _ _ => .inl (by simp)) harr⟩
   | outgrown => exact ⟨_, a1, w1, ⟨E1, σ1, Ψ1, k1, k2, k3, k4⟩, .pass (x := .inLoop c) rfl (fun _ _ => .inl (by simp)) harr⟩
 intro b k cs hro hbf hroom
 obtain ⟨e, a', w', hq, harr⟩ := key _ E σ rfl h0 Ψ a w le hr b k cs hro hbf hroom
 exact ⟨e, a', w', hq, .of_steps (.one (fenced_calm (fr := b.atR a (.code (.loop c) :: k)) hbf hroom rfl) stepR_loop) harr⟩
end
/-- A value that speaks of the first variables, rooms and loops alone. -/
inductive Clean (nβ nr ny : Nat) : PV → Prop where
 | undef : Clean nβ nr ny .undef
 | bool (b : Bool) : Clean nβ nr ny (.bool b)
 | int (k : IntKind) (n : Int) : Clean nβ nr ny (.int k n)
 | str (s : ByteArray) : Clean nβ nr ny (.str s)
 | nilptr : Clean nβ nr ny .nilptr
 | ptr (id off : Nat) (h : id < nβ) : Clean nβ nr ny (.ptr id off)
 | eptr (es : Nat) (elems : List PV) (i off : Nat) (h : ∀ e, e ∈ elems → Clean nβ nr ny e) : Clean nβ nr ny (.eptr es elems i off)
 | nilsl : Clean nβ nr ny .nilsl
 | isl (elems : List PV) (own : Own) (h : ∀ e, e ∈ elems → Clean nβ nr ny e) (ho : ∀ r n es, own = .tok r n es → r < nr) : Clean nβ nr ny (.isl elems own)
 | msl (id off len : Nat) (h : id < nβ) : Clean nβ nr ny (.msl id off len)
 | agg (cs : List PV) (h : ∀ e, e ∈ cs → Clean nβ nr ny e) : Clean nβ nr ny (.agg cs)
 | tuple (cs : List PV) (h : ∀ e, e ∈ cs → Clean nβ nr ny e) : Clean nβ nr ny (.tuple cs)
 | func (fn : Fn) (fs cs : List PV) (h : ∀ e, e ∈ fs → Clean nβ nr ny e) (h' : ∀ e, e ∈ cs → Clean nβ nr ny e) : Clean nβ nr ny (.func fn fs cs)
 | yield (y : Nat) (h : y < ny) : Clean nβ nr ny (.yield y)
 | nilfunc : Clean nβ nr ny .nilfunc
 | niliface : Clean nβ nr ny .niliface
 | iface (t : TypeId) (p : PV) (h : Clean nβ nr ny p) : Clean nβ nr ny (.iface t p)
 | mapv (id : Nat) (h : id < nβ) : Clean nβ nr ny (.map id)
 | nilmap : Clean nβ nr ny .nilmap
 | iter (id : Nat) (h : id < nβ) : Clean nβ nr ny (.iter id)
 | itst (mid n : Nat) (seen : List Nat) (h : mid < nβ) : Clean nβ nr ny (.itst mid n seen)
 | gsl (id len es : Nat) (h : id < nβ) : Clean nβ nr ny (.gsl id len es)
 | gnil : Clean nβ nr ny .gnil
 | bself (id : Nat) (t : TypeId) (h : id < nβ) : Clean nβ nr ny (.bself id t)
 | bbuf (l : List PV) (r : Nat) (t : TypeId) (h : Clean nβ nr ny (.isl l (.tok r l.length 1))) : Clean nβ nr ny (.bbuf l r t)
 | mark : Clean nβ nr ny .mark
theorem Clean.cells {nβ nr ny : Nat} {e : PV} (h : Clean nβ nr ny e) : ∀ p, p ∈ e.cells → Clean nβ nr ny p := by
 intro p hp
 cases e with
 | agg cs => cases h with | agg _ h => exact h p hp
 | _ => simp only [PV.cells, List.mem_singleton] at hp; subst hp; exact h
def Ty.trim (Ψ : Ty) (nβ nr ny : Nat) : Ty := { Ψ with β := Ψ.β.take nβ, hist := fun r n => if r < nr then Ψ.hist r n else none, ys := Ψ.ys.take ny }
theorem VR.trim {Ψ : Ty} {nβ nr ny : Nat} {p : PV} {x : Value} (h : VR Ψ p x) : Clean nβ nr ny p → VR (Ψ.trim nβ nr ny) p x := by
 induction h with
 | undef x => intro _; exact .undef x
 | bool b => intro _; exact .bool b
 | int k n => intro _; exact .int k n
 | str s => intro _; exact .str s
 | nilptr => intro _; exact .nilptr
 | ptr id off b hb hz =>
  intro hc
  cases hc with
  | ptr _ _ hlt => exact .ptr id off b (by simp only [Ty.trim]; rw [List.getElem?_take_of_lt hlt]; exact hb) hz
 | eptr es elems i off b o vals hs h1 h2 ih =>
  intro hc
  cases hc with
  | eptr _ _ _ _ hh => exact .eptr es elems i off b o vals hs h1 fun k e j q hk hj => ih k e j q hk hj ((hh e (List.mem_of_getElem? hk)).cells q (List.mem_of_getElem? hj))
 | nilsl => intro _; exact .nilsl
 | islnil own a ho =>
  intro hc
  cases hc with
  | isl _ _ _ hlt =>
  refine .islnil own a ?_
  cases own with
  | ro => trivial
  | exact => trivial
  | tok r n es =>
   obtain ⟨x, hx⟩ := ho
   exact ⟨x, by simp only [Ty.trim]; rw [if_pos (hlt r n es rfl)]; exact hx⟩
 | isl es elems own b o cap vals hs h1 h2 hcap ho ih =>
  intro hc
  cases hc with
  | isl _ _ hh hlt =>
  refine .isl es elems own b o cap vals hs h1 (fun k e j q hk hj => ih k e j q hk hj ((hh e (List.mem_of_getElem? hk)).cells q (List.mem_of_getElem? hj))) hcap ?_
  cases own with
  | ro => trivial
  | exact => exact ho
  | tok r n es' => exact ⟨ho.1, by simp only [Ty.trim]; rw [if_pos (hlt r n es' rfl)]; exact ho.2⟩
 | msl id off len b cap hb hz hc' =>
  intro hc
  cases hc with
  | msl _ _ _ hlt => exact .msl id off len b cap (by simp only [Ty.trim]; rw [List.getElem?_take_of_lt hlt]; exact hb) hz hc'
 | agg cs vs hl _ ih =>
  intro hc
  cases hc with
  | agg _ hh => exact .agg cs vs hl fun j q v hj hv => ih j q v hj hv (hh q (List.mem_of_getElem? hj))
 | tuple cs vs hl _ ih =>
  intro hc
  cases hc with
  | tuple _ hh => exact .tuple cs vs hl fun j q v hj hv => ih j q v hj hv (hh q (List.mem_of_getElem? hj))
 | func fn fs cs xs ys hl hl' _ _ ih ih' =>
  intro hc
  cases hc with
  | func _ _ _ hh hh' => exact .func fn fs cs xs ys hl hl' (fun j q v hj hv => ih j q v hj hv (hh q (List.mem_of_getElem? hj))) (fun j q v hj hv => ih' j q v hj hv (hh' q (List.mem_of_getElem? hj)))
 | yield y l d hy =>
  intro hc
  cases hc with
  | yield _ hlt => exact .yield y l d (by simp only [Ty.trim]; rw [List.getElem?_take_of_lt hlt]; exact hy)
 | nilfunc => intro _; exact .nilfunc
 | niliface => intro _; exact .niliface
 | iface t p x _ ih =>
  intro hc
  cases hc with
  | iface _ _ hh => exact .iface t p x (ih hh)
 | map id b hb =>
  intro hc
  cases hc with
  | mapv _ hlt => exact .map id b (by simp only [Ty.trim]; rw [List.getElem?_take_of_lt hlt]; exact hb)
 | nilmap => intro _; exact .nilmap
 | iter id b hb =>
  intro hc
  cases hc with
  | iter _ hlt => exact .iter id b (by simp only [Ty.trim]; rw [List.getElem?_take_of_lt hlt]; exact hb)
 | gsl id len es b cap hb hz h0 hc' =>
  intro hc
  cases hc with
  | gsl _ _ _ hlt => exact .gsl id len es b cap (by simp only [Ty.trim]; rw [List.getElem?_take_of_lt hlt]; exact hb) hz h0 hc'
 | gnil a => intro _; exact .gnil a
 | bself id t b x hb hz hx =>
  intro hc
  cases hc with
  | bself _ _ hlt => exact .bself id t b x (by simp only [Ty.trim]; rw [List.getElem?_take_of_lt hlt]; exact hb) hz hx
 | bbuf l r t x _ ht ih =>
  intro hc
  cases hc with
  | bbuf _ _ _ hh => exact .bbuf l r t x (ih hh) ht
/-- Whatever is read in a state speaks of that state's variables, rooms and loops. -/
theorem VR.clean {Ψ : Ty} {σ : Sg} {w : World} (hs : SR Ψ σ w) {p : PV} {x : Value} (h : VR Ψ p x) : Clean σ.store.length σ.rooms.length σ.ys.length p := by
 have elem : ∀ (es : Nat) (elems : List PV), (∀ (k : Nat) (e : PV), elems[k]? = some e → e.cells.length = es) →
  (∀ (k : Nat) (e : PV) (j : Nat) (q : PV), elems[k]? = some e → e.cells[j]? = some q → Clean σ.store.length σ.rooms.length σ.ys.length q) → ∀ e, e ∈ elems → Clean σ.store.length σ.rooms.length σ.ys.length e := by
  intro es elems _ hh e he
  obtain ⟨k, hk⟩ := List.mem_iff_getElem?.1 he
  cases e with
  | agg cs => exact .agg cs fun q hq => by obtain ⟨j, hj⟩ := List.mem_iff_getElem?.1 hq; exact hh k _ j q hk hj
  | _ => exact hh k _ 0 _ hk rfl
 induction h with
 | undef x => exact .undef
 | bool b => exact .bool b
 | int k n => exact .int k n
 | str s => exact .str s
 | nilptr => exact .nilptr
 | ptr id off b hb _ => exact .ptr id off (by rw [← hs.blen]; exact (List.getElem?_eq_some_iff.1 hb).1)
 | eptr es elems i off b o vals hs' h1 h2 ih => exact .eptr es elems i off (elem es elems hs' ih)
 | nilsl => exact .nilsl
 | islnil own a ho =>
  refine .isl [] own (fun e he => by cases he) fun r n es he => ?_
  subst he
  obtain ⟨x, hx⟩ := ho
  exact hs.histlt r n _ hx
 | isl es elems own b o cap vals hs' h1 h2 hcap ho ih =>
  refine .isl elems own (elem es elems hs' ih) fun r n es' he => ?_
  subst he
  exact hs.histlt r n _ ho.2
 | msl id off len b cap hb _ hc => exact .msl id off len (by rw [← hs.blen]; exact (List.getElem?_eq_some_iff.1 hb).1)
 | agg cs vs hl _ ih =>
  refine .agg cs fun e he => ?_
  obtain ⟨j, hj⟩ := List.mem_iff_getElem?.1 he
  have hlt : j < vs.size := by rw [hl]; exact (List.getElem?_eq_some_iff.1 hj).1
  exact ih j e vs[j] hj (by simp [hlt])
 | tuple cs vs hl _ ih =>
  refine .tuple cs fun e he => ?_
  obtain ⟨j, hj⟩ := List.mem_iff_getElem?.1 he
  have hlt : j < vs.size := by rw [hl]; exact (List.getElem?_eq_some_iff.1 hj).1
  exact ih j e vs[j] hj (by simp [hlt])
 | func fn fs cs xs ys hl hl' _ _ ih ih' =>
  refine .func fn fs cs (fun e he => ?_) (fun e he => ?_)
  ·obtain ⟨j, hj⟩ := List.mem_iff_getElem?.1 he
   have hlt : j < xs.size := by rw [hl]; exact (List.getElem?_eq_some_iff.1 hj).1
   exact ih j e xs[j] hj (by simp [hlt])
  obtain ⟨j, hj⟩ := List.mem_iff_getElem?.1 he
  have hlt : j < ys.size := by rw [hl']; exact (List.getElem?_eq_some_iff.1 hj).1
  exact ih' j e ys[j] hj (by simp [hlt])
 | yield y l d hy => exact .yield y (by rw [← hs.ylen]; exact (List.getElem?_eq_some_iff.1 hy).1)
 | nilfunc => exact .nilfunc
 | niliface => exact .niliface
 | iface t p x _ ih => exact .iface t p ih
 | map id b hb => exact .mapv id (by rw [← hs.blen]; exact (List.getElem?_eq_some_iff.1 hb).1)
 | nilmap => exact .nilmap
 | iter id b hb => exact .iter id (by rw [← hs.blen]; exact (List.getElem?_eq_some_iff.1 hb).1)
 | gsl id len es b cap hb _ _ _ => exact .gsl id len es (by rw [← hs.blen]; exact (List.getElem?_eq_some_iff.1 hb).1)
 | gnil a => exact .gnil
 | bself id t b x hb _ _ => exact .bself id t (by rw [← hs.blen]; exact (List.getElem?_eq_some_iff.1 hb).1)
 | bbuf l r t x _ _ ih => exact .bbuf l r t ih
def Sg.cut (σ : Sg) (nβ nr ny : Nat) : Sg := ⟨σ.store.take nβ, σ.rooms.take nr, σ.ys.take ny⟩
/-- The first variables hold nothing of the later ones. -/
def CleanCut (σ : Sg) (nβ nr ny : Nat) : Prop := ∀ (id : Nat) (cs : List PV), id < nβ → σ.store[id]? = some (some cs) → ∀ p, p ∈ cs → Clean nβ nr ny p
def CleanSg (σ : Sg) : Prop := CleanCut σ σ.store.length σ.rooms.length σ.ys.length
theorem SR.cleanSg {Ψ : Ty} {σ : Sg} {w : World} (hs : SR Ψ σ w) : CleanSg σ := by
 intro id cs hid hc p hp
 have hb : id < Ψ.β.length := by rw [hs.blen]; exact hid
 obtain ⟨_, _, h0⟩ := hs.block id cs Ψ.β[id] hc (by simp [hb])
 obtain ⟨j, hj⟩ := List.mem_iff_getElem?.1 hp
 rcases h0 with ⟨c, _, h4, h5⟩ | ⟨arr, es, rfl, _, h4, h5⟩ | ⟨mid, r, n, seen, rfl, _, h5⟩
 case inr.inr =>
  rcases j with _ | j
  ·simp at hj
   subst hj
   cases h5 with
   | map _ _ hβ => exact .itst mid n seen (by rw [← hs.blen]; exact (List.getElem?_eq_some_iff.1 hβ).1)
  simp at hj
 case inr.inl =>
  rcases j with _ | j
  ·simp at hj
   subst hj
   exact .mark
  simp only [List.getElem?_cons_succ] at hj
  have hlt : j < arr.size := by rw [h4]; exact (List.getElem?_eq_some_iff.1 hj).1
  obtain ⟨_, k, v, rfl, g1, g2⟩ := h5 j p arr[j] hj (by simp [hlt])
  refine .tuple _ fun e he => ?_
  simp only [List.mem_cons, List.not_mem_nil, or_false] at he
  rcases he with rfl | rfl
  ·exact g1.clean hs
  exact g2.clean hs
 have hlt : j < c.size := Nat.lt_of_lt_of_le (List.getElem?_eq_some_iff.1 hj).1 h4
 exact (h5 j p c[j] hj (by simp [hlt])).clean hs
theorem SR.trim {Ψ : Ty} {σ : Sg} {w : World} (hs : SR Ψ σ w) {nβ nr ny : Nat} (hc : CleanCut σ nβ nr ny) : SR (Ψ.trim nβ nr ny) (σ.cut nβ nr ny) w := by
 have tk : ∀ {α : Type} (l : List α) (n i : Nat) (a : α), (l.take n)[i]? = some a → i < n ∧ l[i]? = some a := by
  intro α l n i a h
  rw [List.getElem?_take] at h
  split at h
  ·exact ⟨‹_›, h⟩
  cases h
 have hst : ∀ r n x, (Ψ.trim nβ nr ny).hist r n = some x → r < nr ∧ Ψ.hist r n = some x := by
  intro r n x h
  simp only [Ty.trim] at h
  split at h
  ·exact ⟨‹_›, h⟩
  cases h
 refine ⟨hs.base, hs.imm, by simp [Ty.trim, Sg.cut, hs.blen], ?_, ?_, ?_, ?_, ?_, ?_, ?_, ?_, ⟨by simp [Ty.trim, Sg.cut, hs.ylen], fun y y' l r r' k k' => hs.ylen'.2 y y' l r r' (tk _ _ _ _ k).2 (tk _ _ _ _ k').2⟩, hs.dok, ?_, hs.szok⟩
 ·intro id cs b h1 h2
  obtain ⟨l1, h1⟩ := tk _ _ _ _ h1
  obtain ⟨_, h2⟩ := tk _ _ _ _ h2
  obtain ⟨a1, a2, a0⟩ := hs.block id cs b h1 h2
  refine ⟨a1, a2, ?_⟩
  rcases a0 with ⟨c, a3, a4, a5⟩ | ⟨arr, es, rfl, a3, a4, a5⟩ | ⟨mid, r, n, seen, rfl, a3, a4⟩
  ·exact .inl ⟨c, a3, a4, fun j p v hj hv => (a5 j p v hj hv).trim (hc id cs l1 h1 p (List.mem_of_getElem? hj))⟩
  ·refine .inr (.inl ⟨arr, es, rfl, a3, a4, fun j p e hj he => ?_⟩)
   obtain ⟨g1, k, v, rfl, g2, g3⟩ := a5 j p e hj he
   have hcl := hc id _ l1 h1 _ (List.mem_cons_of_mem _ (List.mem_of_getElem? hj))
   cases hcl with
   | tuple _ hh => exact ⟨g1, k, v, rfl, g2.trim (hh k (by simp)), g3.trim (hh v (by simp))⟩
  have hcl := hc id _ l1 h1 _ (List.mem_cons_self ..)
  cases hcl with
  | itst _ _ _ hh => exact .inr (.inr ⟨mid, r, n, seen, rfl, a3, a4.trim (.mapv mid hh)⟩)
 ·intro id id' cs cs' b h1 h2 h3 h4
  exact hs.apart id id' cs cs' b (tk _ _ _ _ h1).2 (tk _ _ _ _ h2).2 (tk _ _ _ _ h3).2 (tk _ _ _ _ h4).2
 ·intro r n b e c es h hx hlt
  obtain ⟨l1, h⟩ := tk _ _ _ _ h
  obtain ⟨a1, a2, a3, a4⟩ := hs.room r n b e c es h (hst _ _ _ hx).2 hlt
  exact ⟨a1, a2, fun id k1 cs k2 => a3 id (tk _ _ _ _ k1).2 cs (tk _ _ _ _ k2).2, a4⟩
 ·intro r n r' n' b e c es e' c' es' h1 h2 hne h3 h4
  exact hs.roomsApart r n r' n' b e c es e' c' es' (tk _ _ _ _ h1).2 (tk _ _ _ _ h2).2 hne (hst _ _ _ h3).2 (hst _ _ _ h4).2
 ·intro r n x h
  obtain ⟨h1, h2⟩ := hst r n x h
  have := hs.histlt r n x h2
  simp only [Sg.cut, List.length_take]
  omega
 ·intro r m n x h1 h2
  exact hs.histle r m n x (hst r m x h1).2 (tk _ _ _ _ h2).2
 ·intro id b h
  exact hs.βlt id b (tk _ _ _ _ h).2
 ·intro y l d s h1 h2
  exact hs.yok y l d s (tk _ _ _ _ h1).2 (tk _ _ _ _ h2).2
 intro b c k
 obtain ⟨a1, a2, a3, a4, a5⟩ := hs.rok b c k
 exact ⟨a1, a2, fun id k1 cs k2 => a3 id (tk _ _ _ _ k1).2 cs (tk _ _ _ _ k2).2, fun r n e cc es k1 k2 => a4 r n e cc es (tk _ _ _ _ k1).2 (hst _ _ _ k2).2, a5⟩
theorem Ty.trim_le {Ψ0 Ψ : Ty} (le : Ψ0.le Ψ) {nβ nr ny : Nat} (h1 : Ψ0.β.length ≤ nβ) (h2 : ∀ r n x, Ψ0.hist r n = some x → r < nr) (h3 : Ψ0.ys.length ≤ ny) : Ψ0.le (Ψ.trim nβ nr ny) := by
 refine ⟨le.base, le.imm, fun i b k => ?_, fun r n x k => ?_, fun i b k => ?_, le.ds, le.rs, le.sz⟩
 ·simp only [Ty.trim]
  rw [List.getElem?_take_of_lt (Nat.lt_of_lt_of_le (List.getElem?_eq_some_iff.1 k).1 h1)]
  exact le.β i b k
 ·simp only [Ty.trim]
  rw [if_pos (h2 r n x k)]
  exact le.hist r n x k
 simp only [Ty.trim]
 rw [List.getElem?_take_of_lt (Nat.lt_of_lt_of_le (List.getElem?_eq_some_iff.1 k).1 h3)]
 exact le.ys i b k
/-- v says no more than p, and nothing of what is forgotten. -/
def Wk (nβ nr ny : Nat) (p v : PV) : Prop := ∀ Ψ x, VR Ψ p x → VR (Ψ.trim nβ nr ny) v x
theorem Wk.of_clean {nβ nr ny : Nat} {p : PV} (h : Clean nβ nr ny p) : Wk nβ nr ny p p := fun _ _ k => k.trim h
def argsEnv : Nat → List PV → Env
 | _, [] => []
 | i, v :: vs => (i, v) :: argsEnv (i + 1) vs
theorem get_argsEnv : ∀ (vs : List PV) (i t : Nat), Env.get (argsEnv i vs) t = if i ≤ t then (vs[t - i]?).getD .undef else .undef := by
 intro vs
 induction vs with
 | nil => intro i t; simp [argsEnv, Env.get]
 | cons v vs ih =>
  intro i t
  simp only [argsEnv, Env.get]
  by_cases h : i = t
  ·subst h; simp
  rw [if_neg h, ih]
  by_cases h2 : i ≤ t
  ·rw [if_pos (by omega), if_pos h2, show t - i = (t - (i + 1)) + 1 by omega]
   simp
  rw [if_neg (by omega), if_neg h2]
def resPV (P : Program) (σ : Sg) (E : Env) : List ResultVar → Option (List PV)
 | [] => some []
 | .tmp t :: r => match resPV P σ E r with
  | some l => some (E.get t :: l)
  | none => none
 | .cell a t :: r => match loadPV P σ t (E.get a), resPV P σ E r with
  | some v, some l => some (v :: l)
  | _, _ => none
def oneOr (l : List PV) : PV :=
 match l with
 | [v] => v
 | l => .tuple l
theorem loadPV_addr {P : Program} {σ : Sg} {t : TypeId} {p v : PV} (h : loadPV P σ t p = some v) {Ψ : Ty} {x : Value} (hx : VR Ψ p x) : ∃ a, x = .pointer (some a) := by
 unfold loadPV at h
 split at h
 ·cases h
 split at h
 ·obtain ⟨b, _, _, rfl⟩ := hx.ptr_inv; exact ⟨_, rfl⟩
 ·cases hx; exact ⟨_, rfl⟩
 cases h
def resultSem (tmps : Array Value) : ResultVar → Sem Value
 | .tmp t => pure (tmps.getD t undef)
 | .cell a t => do loadVar t (← asAddr (tmps.getD a undef))
theorem resPV_ok {P : Program} {σ : Sg} {E : Env} {Ψ : Ty} {w : World} {tmps : Array Value} (hs : SR Ψ σ w) (he : ER Ψ E tmps) : ∀ (rs : List ResultVar) (l : List PV), resPV P σ E rs = some l →
 ∃ xs : List Value, (rs.mapM (resultSem tmps)).run P w = .ok xs w ∧ xs.length = l.length ∧ rs.length = l.length ∧ ∀ (j : Nat) (p : PV) (v : Value), l[j]? = some p → xs[j]? = some v → VR Ψ p v := by
 intro rs
 induction rs with
 | nil => intro l h; simp only [resPV] at h; injection h with h; subst h; exact ⟨[], rfl, rfl, rfl, fun j p v h => by simp at h⟩
 | cons r rs ih =>
  intro l h
  have step : ∀ (v : PV) (l' : List PV) (x : Value), resPV P σ E rs = some l' → (resultSem tmps r).run P w = .ok x w → VR Ψ v x → l = v :: l' →
   ∃ xs : List Value, ((r :: rs).mapM (resultSem tmps)).run P w = .ok xs w ∧ xs.length = l.length ∧ (r :: rs).length = l.length ∧ ∀ (j : Nat) (p : PV) (v : Value), l[j]? = some p → xs[j]? = some v → VR Ψ p v := by
   intro v l' x h1 h2 h3 h4
   subst h4
   obtain ⟨xs, k1, k2, k3, k4⟩ := ih l' h1
   refine ⟨x :: xs, ?_, by simp [k2], by simp [k3], fun j p y a b => ?_⟩
   ·rw [List.mapM_cons, run_bind_ok h2, run_bind_ok k1]
    rfl
   cases j with
   | zero => simp at a b; subst a b; exact h3
   | succ j => exact k4 j p y (by simpa using a) (by simpa using b)
  cases r with
  | tmp t =>
   simp only [resPV] at h
   cases hr : resPV P σ E rs with
   | none => rw [hr] at h; cases h
   | some l' =>
    rw [hr] at h
    injection h with h
    exact step _ l' _ hr rfl (he t) h.symm
  | cell a t =>
   simp only [resPV] at h
   cases hl : loadPV P σ t (E.get a) with
   | none => rw [hl] at h; cases h
   | some v =>
    cases hr : resPV P σ E rs with
    | none => rw [hl, hr] at h; cases h
    | some l' =>
     rw [hl, hr] at h
     injection h with h
     obtain ⟨y, k1, k2⟩ := loadPV_ok hl hs (he a)
     obtain ⟨ad, had⟩ := loadPV_addr hl (he a)
     refine step v l' y hr ?_ k2 h.symm
     simp only [resultSem]
     rw [had] at k1 ⊢
     rw [run_bind_ok (e := asAddr _) (v := ad) rfl]
     exact k1
theorem results_ok {P : Program} {σ : Sg} {E : Env} {Ψ : Ty} {w : World} {tmps : Array Value} (hs : SR Ψ σ w) (he : ER Ψ E tmps) {fn : Func} {l : List PV} (h : resPV P σ E fn.results.toList = some l) :
 ∃ x, (results fn tmps).run P w = .ok x w ∧ VR Ψ (oneOr l) x := by
 obtain ⟨xs, k1, k2, k3, k4⟩ := resPV_ok (P := P) hs he fn.results.toList l h
 have hm : (fn.results.mapM (resultSem tmps)).run P w = .ok xs.toArray w := by
  rw [Array.mapM_eq_mapM_toList]
  rw [show (Functor.map List.toArray (List.mapM (resultSem tmps) fn.results.toList)) = (List.mapM (resultSem tmps) fn.results.toList >>= fun l => pure l.toArray) from rfl]
  rw [run_bind_ok k1]
  rfl
 refine ⟨if h : xs.toArray.size = 1 then xs.toArray[0] else .tuple xs.toArray, ?_, ?_⟩
 ·unfold results
  change (fn.results.mapM (resultSem tmps) >>= fun vs => pure (if h : vs.size = 1 then vs[0] else .tuple vs)).run P w = _
  rw [run_bind_ok hm]
  rfl
 rcases l with _ | ⟨p, _ | ⟨q, l⟩⟩
 ·rcases xs with _ | ⟨x, xs⟩
  ·exact .tuple _ _ rfl fun j p v a => by simp at a
  simp at k2
 ·rcases xs with _ | ⟨x, _ | ⟨y, xs⟩⟩
  ·simp at k2
  ·exact k4 0 p x rfl rfl
  simp at k2
 rcases xs with _ | ⟨x, _ | ⟨y, xs⟩⟩
 ·simp at k2
 ·simp at k2
 have : ¬ (x :: y :: xs).toArray.size = 1 := by simp
 rw [dif_neg this]
 exact .tuple _ _ (by simpa using k2) fun j p v a b => k4 j p v a (by simpa using b)
theorem SR.putDef {Ψ : Ty} {σ : Sg} {w : World} (h : SR Ψ σ w) {r : Nat} {ds : Option (List Deferred)} (hr : w.heap[r]? = some (.deferred ds)) (hn : r ∉ Ψ.ds) (o : Obj) : SR Ψ σ (w.putObj r o) := by
 have oth : ∀ k, k ≠ r → (w.putObj r o).heap[k]? = w.heap[k]? := fun k hk => World.putObj_heap_other hk
 have cel : ∀ b i v, w.cell? ⟨b, i, none⟩ = some v → (w.putObj r o).cell? ⟨b, i, none⟩ = some v := by
  intro b i v hv
  have hne : b ≠ r := by
   rintro rfl
   rw [cell_eq, hr] at hv
   cases hv
  rw [cell_eq, oth b hne, ← cell_eq]; exact hv
 have blk : ∀ b c, blockIs w b c → blockIs (w.putObj r o) b c := by
  intro b c hb
  have hne : b ≠ r := by
   rintro rfl
   obtain ⟨e, he⟩ := hb
   rw [hr] at he
   cases he
  exact hb.of_heap (oth b hne)
 have sz : (w.putObj r o).heap.size = w.heap.size := by simp [World.putObj]
 refine ⟨by rw [sz]; exact h.base, fun b i v k => cel _ _ _ (h.imm b i v k), h.blen, ?_, h.apart, ?_, h.roomsApart, h.histlt, h.histle, fun id b k => by rw [sz]; exact h.βlt id b k, ?_, h.ylen', ?_, ?_, ?_⟩
 ·intro id cs b k1 k2
  obtain ⟨a1, a2, a3⟩ := h.block id cs b k1 k2
  exact ⟨a1, a2, a3.of_heap (oth b (a3.ne hr (fun c e f => by simp) (fun a n => by simp) (fun a n l k => by simp)))⟩
 ·intro r' n b e c es k hx hlt
  obtain ⟨a1, a2, a3, cc, a4, a5⟩ := h.room r' n b e c es k hx hlt
  exact ⟨a1, a2, a3, cc, blk _ _ a4, a5⟩
 ·intro y l d s k1 k2
  obtain ⟨a1, a0, a2⟩ := h.yok y l d s k1 k2
  have hne : l ≠ r := by rintro rfl; rw [hr] at a2; cases a2
  exact ⟨a1, a0, by rw [oth l hne]; exact a2⟩
 ·intro d k
  obtain ⟨a1, a2⟩ := h.dok d k
  exact ⟨a1, by rw [oth d (fun e => hn (e ▸ k))]; exact a2⟩
 ·intro b c k
  obtain ⟨a1, a2, a3, a4, a5⟩ := h.rok b c k
  exact ⟨a1, a2, a3, a4, blk _ _ a5⟩
 intro b n k
 exact (h.szok b n k).of_heap (oth b ((h.szok b n k).ne hr (by intros; simp)))
theorem Below.putObj {B : Nat} {a w : World} (h : Below B a w) {r : Nat} (hr : B ≤ r) (o : Obj) : Below B a (w.putObj r o) :=
 h.trans ⟨rfl, rfl, rfl, by simp [World.putObj], fun k hk => World.putObj_heap_other (by omega)⟩
/-- The state at a function's end, and what is handed back. -/
def Fin (P : Program) (fn : Func) (σ0 : Sg) (v : PV) (σ'' : Sg) (E' : Env) (σ' : Sg) : Prop :=
 ∃ l nβ nr, resPV P σ' E' fn.results.toList = some l ∧ σ0.store.length ≤ nβ ∧ σ0.rooms.length ≤ nr ∧ Wk nβ nr σ0.ys.length (oneOr l) v ∧ σ'' = σ'.cut nβ nr σ0.ys.length ∧ CleanCut σ' nβ nr σ0.ys.length ∧ σ'.ys.length = σ0.ys.length
theorem PC_of_W {P : Program} {Y : YEnv} {f : FuncId} {fn : Func} {c : Code} {args : List PV} {σ σ'' : Sg} {v : PV} {N : Nat} (hf : P.funcs[f]? = some fn) (hb : fn.body = some c) (hgo : goFn P f = true) (hn : fn.ntmps = N) (hN : args.length ≤ N)
 (h : CleanSg σ → (∀ p, p ∈ args → Clean σ.store.length σ.rooms.length σ.ys.length p) → W P Y N none (σ.store.length, σ.rooms.length) c (argsEnv 0 args) σ (fun ex E' σ' => (ex = .normal ∨ ex = .ret) ∧ Fin P fn σ v σ'' E' σ')) : PC P Y f args σ v σ'' := by
 subst hn
 refine ⟨hgo, fun Ψ vals w hs ha hy => ?_⟩
 have henv : ER Ψ (argsEnv 0 args) (vals ++ Array.replicate (fn.ntmps - vals.size) undef) := by
  refine ⟨fun t => ?_, hy.1.told⟩
  rw [get_argsEnv, if_pos (Nat.zero_le _), Nat.sub_zero]
  by_cases ht : t < args.length
  ·have ht' : t < vals.size := by rw [ha.1]; exact ht
   have e1 : args[t]? = some args[t] := by simp [ht]
   have := ha.2 t args[t] vals[t] e1 (by simp [ht'])
   rw [e1]
   simp only [Option.getD_some, Array.getD_eq_getD_getElem?]
   rw [Array.getElem?_append_left ht']
   simp [ht', this]
  rw [List.getElem?_eq_none (by omega)]
  exact .undef _
 refine callsIn_of_wp_marks hf hb trivial ?_
 have hbnd : Bnd Ψ (σ.store.length, σ.rooms.length) := ⟨by rw [hs.blen]; exact Nat.le_refl _, fun r n x k => hs.histlt r n x k⟩
 have hca : ∀ p, p ∈ args → Clean σ.store.length σ.rooms.length σ.ys.length p := fun p hp => by
  obtain ⟨j, hj⟩ := List.mem_iff_getElem?.1 hp
  have hlt : j < vals.size := by rw [ha.1]; exact (List.getElem?_eq_some_iff.1 hj).1
  exact (ha.2 j p vals[j] hj (by simp [hlt])).clean hs
 have hw := h hs.cleanSg hca Ψ Ψ.ds hbnd hy (fun y e => by cases e) Ψ { tmps := vals ++ Array.replicate (fn.ntmps - vals.size) undef, defers := [] } w (Ty.le.refl _)
  ⟨by simp [ha.1]; omega, henv, hs, fun _ h => h, [], rfl, List.nodup_nil, fun r hr => by cases hr⟩
 refine wpIn_mono hw ?_
 rintro ex a' w' ⟨E', σ', Ψ', le, hr, hbel, hex, hfin⟩
 obtain ⟨l, nβ, nr, q1, q2, q3, q4, rfl, q5, q6⟩ := hfin
 obtain ⟨rs, d1, d2, d3⟩ := hr.defs
 have key : LeavesInM Fence.wide 0 P fn a'.tmps (fun e w' => ∃ x Ψ', e = .returned x ∧ Ψ.le Ψ' ∧ SR Ψ' (σ'.cut nβ nr σ.ys.length) w' ∧ VR Ψ' v x ∧ Below Ψ.base w w') a'.defers .returning w' := by
  rw [d1]
  -- the marks, one by one: those blocks alone turn
  have go : ∀ (rs : List Nat) (w1 : World), rs.Nodup → (∀ r, r ∈ rs → w1.heap[r]? = some (.deferred (some [])) ∧ Ψ.base ≤ r ∧ r ∉ Ψ.ds) → SR { Ψ' with ds := Ψ.ds } σ' w1 → Below Ψ.base w w1 →
   LeavesInM Fence.wide 0 P fn a'.tmps (fun e w' => ∃ x Ψ', e = .returned x ∧ Ψ.le Ψ' ∧ SR Ψ' (σ'.cut nβ nr σ.ys.length) w' ∧ VR Ψ' v x ∧ Below Ψ.base w w') (rs.map markOf) .returning w1 := by
   intro rs
   induction rs with
   | nil =>
    intro w1 _ _ hs1 hb1
    have henv1 : ER { Ψ' with ds := Ψ.ds } E' a'.tmps := ⟨fun t => VR.mono0 (Ψ := Ψ') (Ψ' := { Ψ' with ds := Ψ.ds }) (fun _ _ _ k => k) (fun _ _ k => k) (fun _ _ _ k => k) (fun _ _ k => k) (fun _ k => k) (hr.env t), hr.env.gt⟩
    obtain ⟨x, k1, k2⟩ := results_ok (P := P) hs1 henv1 q1
    have le1 : Ψ.le { Ψ' with ds := Ψ.ds } := ⟨le.base, le.imm, le.β, le.hist, le.ys, fun _ k => k, le.rs, le.sz⟩
    exact ⟨x, k1, x, Ty.trim { Ψ' with ds := Ψ.ds } nβ nr σ.ys.length, rfl, Ty.trim_le le1 (by rw [hs.blen]; exact q2) (fun r n x k => Nat.lt_of_lt_of_le (hs.histlt r n x k) q3) (by rw [hs.ylen]; exact Nat.le_refl _), hs1.trim q5, q4 _ x k2, hb1⟩
   | cons r rs ih =>
    intro w1 hnd hds hs1 hb1
    obtain ⟨a1, a2, a3⟩ := hds r (by simp)
    refine ⟨by simp, .inl ⟨r, _, rfl, run_takeDeferred a1, ih _ (List.nodup_cons.1 hnd).2 (fun r' hr' => ?_) (hs1.putDef a1 a3 _) (Below.putObj hb1 a2 _)⟩⟩
    obtain ⟨b1, b2, b3⟩ := hds r' (by simp [hr'])
    have hne : r' ≠ r := fun e => (List.nodup_cons.1 hnd).1 (e ▸ hr')
    exact ⟨by rw [World.putObj_heap_other hne]; exact b1, b2, b3⟩
  have hs0 : SR { Ψ' with ds := Ψ.ds } σ' w' := by
   have h0 := hr.sg
   refine ⟨h0.base, h0.imm, h0.blen, fun id cs b k1 k2 => ?_, h0.apart, h0.room, h0.roomsApart, h0.histlt, h0.histle, h0.βlt, ?_, h0.ylen', fun d hd => h0.dok d (le.ds d hd), h0.rok, h0.szok⟩
   ·obtain ⟨a1, a2, a3⟩ := h0.block id cs b k1 k2
    exact ⟨a1, a2, Keeps.mono0 (Ψ := Ψ') (Ψ' := { Ψ' with ds := Ψ.ds }) (fun _ _ _ k => k) (fun _ _ k => k) (fun _ _ _ k => k) (fun _ _ k => k) (fun _ k => k) a3⟩
   intro y l d s k1 k2
   obtain ⟨a1, _, a2⟩ := h0.yok y l d s k1 k2
   refine ⟨a1, ?_, a2⟩
   have hy1 : y < σ.ys.length := by rw [← q6]; exact (List.getElem?_eq_some_iff.1 k2).1
   have hy2 : y < Ψ.ys.length := by rw [hs.ylen]; exact hy1
   have e1 : Ψ.ys[y]? = some Ψ.ys[y] := by simp [hy2]
   have e2 := le.ys _ _ e1
   have k1' : Ψ'.ys[y]? = some (l, d) := k1
   rw [k1'] at e2
   injection e2 with e2
   rw [← e2] at e1
   have e3 : σ.ys[y]? = some σ.ys[y] := by simp [hy1]
   exact (hs.yok y l d _ e1 e3).2.1
  refine go rs w' d2 (fun r hr' => ?_) hs0 hbel
  obtain ⟨m1, m2⟩ := d3 r hr'
  obtain ⟨n1, n2⟩ := hr.sg.dok r m1
  exact ⟨n2, by rw [← le.base]; exact n1, m2⟩
 rcases hex with rfl | rfl
 ·exact key
 exact key
/-- What is known here is known there, less what is forgotten. -/
def Weak (N : Nat) (lo : Nat × Nat) (E : Env) (σ : Sg) (E' : Env) (σ' : Sg) : Prop :=
 ∀ Ψ0 Ψ D a w, Bnd Ψ0 lo → Ψ0.le Ψ → Rel N D Ψ E σ a w → ∃ Ψ', Ψ0.le Ψ' ∧ Rel N D Ψ' E' σ' a w
section
variable {P : Program} {Y : YEnv} {N : Nat} {rd : Option Nat} {lo : Nat × Nat} {c : Code} {E E' E'' : Env} {σ σ' σ'' : Sg} {Q : Exit → Env → Sg → Prop}
theorem Weak.refl : Weak N lo E σ E σ := fun _ Ψ _ _ _ _ le hr => ⟨Ψ, le, hr⟩
theorem Weak.trans (h : Weak N lo E σ E' σ') (k : Weak N lo E' σ' E'' σ'') : Weak N lo E σ E'' σ'' := fun Ψ0 Ψ D a w hb le hr =>
 let ⟨Ψ', le', hr'⟩ := h Ψ0 Ψ D a w hb le hr
 k Ψ0 Ψ' D a w hb le' hr'
theorem W_weak (h : Weak N lo E σ E' σ') (k : W P Y N rd lo c E' σ' Q) : W P Y N rd lo c E σ Q := by
 intro Ψ0 D hb hy hrd Ψ a w le hr
 obtain ⟨Ψ', le', hr'⟩ := h Ψ0 Ψ D a w hb le hr
 exact k Ψ0 D hb hy hrd Ψ' a w le' hr'
theorem W_post_weak (h : W P Y N rd lo c E σ (fun ex E1 σ1 => ∃ E2 σ2, Weak N lo E1 σ1 E2 σ2 ∧ Q ex E2 σ2)) : W P Y N rd lo c E σ Q := by
 intro Ψ0 D hb hy hrd Ψ a w le hr
 refine wpIn_mono (h Ψ0 D hb hy hrd Ψ a w le hr) ?_
 rintro ex a' w' ⟨E1, σ1, Ψ1, k1, k2, k3, E2, σ2, hw, hq⟩
 obtain ⟨Ψ2, l2, r2⟩ := hw Ψ0 Ψ1 D a' w' hb k1 k2
 exact ⟨E2, σ2, Ψ2, l2, r2, k3, hq⟩
theorem Weak.cut (nβ nr : Nat) (h1 : lo.1 ≤ nβ) (h2 : lo.2 ≤ nr) (hE : ∀ t, Wk nβ nr σ.ys.length (E.get t) (E'.get t)) (hc : CleanCut σ nβ nr σ.ys.length) :
 Weak N lo E σ E' (σ.cut nβ nr σ.ys.length) := by
 intro Ψ0 Ψ D a w hb le hr
 have le' : Ψ0.le (Ψ.trim nβ nr σ.ys.length) := Ty.trim_le le (Nat.le_trans hb.1 h1) (fun r n x k => Nat.lt_of_lt_of_le (hb.2 r n x k) h2) (by rw [← hr.sg.ylen]; exact ys_len_le le)
 exact ⟨_, le', hr.size, ⟨fun t => hE t Ψ _ (hr.env t), hr.env.gt⟩, hr.sg.trim hc, hr.dsub, hr.defs⟩
end
def Sg.pushY (σ : Sg) : Sg := { σ with ys := σ.ys ++ [.ready] }
def Sg.setY (σ : Sg) (y : Nat) (s : LState) : Sg := { σ with ys := σ.ys.set y s }
def Sg.popY (σ : Sg) (y : Nat) : Sg := { σ with ys := σ.ys.take y }
theorem Sg.popY_eq (σ : Sg) (y : Nat) : σ.cut σ.store.length σ.rooms.length y = σ.popY y := by simp [Sg.cut, Sg.popY]
def YEnv.at (Y : YEnv) (y : Nat) (S : YSem) : YEnv := fun i => if i = y then S else Y i
theorem YEnv.at_self (Y : YEnv) (y : Nat) (S : YSem) : Y.at y S y = S := by simp [YEnv.at]
def putAll : List Nat → List PV → Env → Env
 | t :: ts, v :: vs, E => putAll ts vs ((t, v) :: E)
 | _, _, E => E
theorem putAll_ok {Ψ : Ty} {N : Nat} : ∀ (ts : List Nat) (vs : List PV) (xs : List Value) (E : Env) (tmps : Array Value), tmps.size = N → ER Ψ E tmps → (∀ t, t ∈ ts → t < N) → xs.length = vs.length →
 (∀ (j : Nat) (p : PV) (v : Value), vs[j]? = some p → xs[j]? = some v → VR Ψ p v) →
 ((ts.zip xs).foldl (fun tmps (p : Nat × Value) => tmps.setIfInBounds p.1 p.2) tmps).size = N ∧ ER Ψ (putAll ts vs E) ((ts.zip xs).foldl (fun tmps (p : Nat × Value) => tmps.setIfInBounds p.1 p.2) tmps) := by
 intro ts
 induction ts with
 | nil => intro vs xs E tmps hs he _ _ _; exact ⟨by simpa using hs, by simpa [putAll] using he⟩
 | cons t ts ih =>
  intro vs xs E tmps hs he ht hl hv
  rcases vs with _ | ⟨v, vs⟩
  ·rcases xs with _ | ⟨x, xs⟩
   ·exact ⟨by simpa using hs, by simpa [putAll] using he⟩
   simp at hl
  rcases xs with _ | ⟨x, xs⟩
  ·simp at hl
  simp only [List.zip_cons_cons, List.foldl_cons, putAll]
  refine ih vs xs _ _ (by simpa using hs) ?_ (fun t' h => ht t' (by simp [h])) (by simpa using hl) (fun j p v h1 h2 => hv (j + 1) p v (by simpa using h1) (by simpa using h2))
  have := ER.put (a := { tmps := tmps, defers := [] }) he (d := some t) (v := v) (x := x) (fun n e => by cases e; rw [hs]; exact ht t (by simp)) (hv 0 v x rfl rfl)
  exact this
theorem β_len_le {Ψ Ψ' : Ty} (le : Ψ.le Ψ') : Ψ.β.length ≤ Ψ'.β.length := by
 rcases Nat.lt_or_ge Ψ'.β.length Ψ.β.length with h | h
 ·have := le.β Ψ'.β.length (Ψ.β[Ψ'.β.length]) (by simp [h])
  simp at this
 exact h
theorem SR.addDef {Ψ : Ty} {σ : Sg} {w : World} (h : SR Ψ σ w) : Ψ.le { Ψ with ds := w.heap.size :: Ψ.ds } ∧ SR { Ψ with ds := w.heap.size :: Ψ.ds } σ (w.alloc (.deferred (some []))) := by
 have le : Ψ.le { Ψ with ds := w.heap.size :: Ψ.ds } := ⟨rfl, fun _ _ _ k => k, fun _ _ k => k, fun _ _ _ k => k, fun _ _ k => k, fun d k => List.mem_cons_of_mem _ k, fun _ k => k, fun _ k => k⟩
 have h' := h.alloc (.deferred (some []))
 refine ⟨le, h'.base, h'.imm, h'.blen, ?_, h'.apart, h'.room, h'.roomsApart, h'.histlt, h'.histle, h'.βlt, ?_, h'.ylen', ?_, h'.rok, h'.szok⟩
 ·intro id cs b k1 k2
  obtain ⟨a1, a2, a3⟩ := h'.block id cs b k1 k2
  exact ⟨a1, a2, a3.mono le⟩
 ·intro y l d s k1 k2
  obtain ⟨a1, a2, a3⟩ := h'.yok y l d s k1 k2
  exact ⟨a1, List.mem_cons_of_mem _ a2, a3⟩
 intro d k
 rcases List.mem_cons.1 k with rfl | k
 ·exact ⟨h.base, World.alloc_heap_new w _⟩
 exact h'.dok d k
theorem SR.addLoop {Ψ : Ty} {σ : Sg} {w : World} (h : SR Ψ σ w) (r : Loop) (hd : r.defers ∈ Ψ.ds) (hst : LState.ready.record r = r) :
 Ψ.le { Ψ with ys := Ψ.ys ++ [(w.heap.size, r)] } ∧ SR { Ψ with ys := Ψ.ys ++ [(w.heap.size, r)] } σ.pushY (w.alloc (.loop r)) := by
 have le : Ψ.le { Ψ with ys := Ψ.ys ++ [(w.heap.size, r)] } := ⟨rfl, fun _ _ _ k => k, fun _ _ k => k, fun _ _ _ k => k, fun i b k => (by
  show (Ψ.ys ++ [_])[i]? = _
  rw [List.getElem?_append_left (List.getElem?_eq_some_iff.1 k).1]; exact k), fun d k => k, fun _ k => k, fun _ k => k⟩
 have h' := h.alloc (.loop r)
 refine ⟨le, h'.base, h'.imm, h'.blen, ?_, h'.apart, h'.room, h'.roomsApart, h'.histlt, h'.histle, h'.βlt, ?_, ⟨by simp [Sg.pushY, h.ylen], ?_⟩, h'.dok, h'.rok, h'.szok⟩
 ·intro id cs b k1 k2
  obtain ⟨a1, a2, a3⟩ := h'.block id cs b k1 k2
  exact ⟨a1, a2, a3.mono le⟩
 ·intro y l d s k1 k2
  rcases getElem?_snoc k1 with ⟨hlt, k1⟩ | ⟨rfl, he⟩
  ·rcases getElem?_snoc k2 with ⟨_, k2⟩ | ⟨he, _⟩
   ·exact h'.yok y l d s k1 k2
   rw [h.ylen] at hlt; omega
  injection he with e1 e2
  subst e1 e2
  rcases getElem?_snoc k2 with ⟨hlt, _⟩ | ⟨_, rfl⟩
  ·rw [← h.ylen] at hlt; omega
  exact ⟨h.base, hd, by rw [hst]; exact World.alloc_heap_new w _⟩
 have old : ∀ (y l : Nat) (q : Loop), Ψ.ys[y]? = some (l, q) → l < w.heap.size := by
  intro y l q k
  have hy : y < σ.ys.length := by rw [← h.ylen]; exact (List.getElem?_eq_some_iff.1 k).1
  exact heap_lt (h.yok y l q _ k (List.getElem?_eq_getElem hy)).2.2
 intro y y' l q q' k k'
 rcases getElem?_snoc k with ⟨_, k⟩ | ⟨rfl, he⟩
 ·rcases getElem?_snoc k' with ⟨_, k'⟩ | ⟨rfl, he'⟩
  ·exact h.ylen'.2 y y' l q q' k k'
  injection he' with e1 e2
  subst e1
  exact absurd (old _ _ _ k) (Nat.lt_irrefl _)
 rcases getElem?_snoc k' with ⟨_, k'⟩ | ⟨rfl, he'⟩
 ·injection he with e1 e2
  subst e1
  exact absurd (old _ _ _ k') (Nat.lt_irrefl _)
 rfl
/-- The record of loop y turns. -/
theorem SR.setY {Ψ : Ty} {σ : Sg} {w : World} (h : SR Ψ σ w) {y l : Nat} {r : Loop} (hy : Ψ.ys[y]? = some (l, r)) (s : LState) : SR Ψ (σ.setY y s) (w.putObj l (.loop (s.record r))) := by
 have hlt : y < σ.ys.length := by rw [← h.ylen]; exact (List.getElem?_eq_some_iff.1 hy).1
 obtain ⟨l1, l2, l3⟩ := h.yok y l r _ hy (List.getElem?_eq_getElem hlt)
 have oth : ∀ k, k ≠ l → (w.putObj l (.loop (s.record r))).heap[k]? = w.heap[k]? := fun k hk => World.putObj_heap_other hk
 have cel : ∀ b i v, w.cell? ⟨b, i, none⟩ = some v → (w.putObj l (.loop (s.record r))).cell? ⟨b, i, none⟩ = some v := by
  intro b i v hv
  have hne : b ≠ l := by
   rintro rfl
   rw [cell_eq, l3] at hv
   cases hv
  rw [cell_eq, oth b hne, ← cell_eq]; exact hv
 have blk : ∀ b c, blockIs w b c → blockIs (w.putObj l (.loop (s.record r))) b c := by
  intro b c hb
  have hne : b ≠ l := by
   rintro rfl
   obtain ⟨e, he⟩ := hb
   rw [l3] at he
   cases he
  exact hb.of_heap (oth b hne)
 have sz : (w.putObj l (.loop (s.record r))).heap.size = w.heap.size := by simp [World.putObj]
 refine ⟨by rw [sz]; exact h.base, fun b i v k => cel _ _ _ (h.imm b i v k), h.blen, ?_, h.apart, ?_, h.roomsApart, h.histlt, h.histle, fun id b k => by rw [sz]; exact h.βlt id b k, ?_, ⟨by simp [Sg.setY, h.ylen], h.ylen'.2⟩, ?_, ?_, ?_⟩
 ·intro id cs b k1 k2
  obtain ⟨a1, a2, a3⟩ := h.block id cs b k1 k2
  exact ⟨a1, a2, a3.of_heap (oth b (a3.ne l3 (fun c e f => by simp) (fun a n => by simp) (fun a n l k => by simp)))⟩
 ·intro r' n b e c es k hx hlt
  obtain ⟨a1, a2, a3, cc, a4, a5⟩ := h.room r' n b e c es k hx hlt
  exact ⟨a1, a2, a3, cc, blk _ _ a4, a5⟩
 ·intro y' l' d s' k1 k2
  simp only [Sg.setY] at k2
  by_cases hyy : y' = y
  ·subst hyy
   rw [hy] at k1
   injection k1 with k1
   injection k1 with e1 e2
   subst e1 e2
   rw [List.getElem?_set_self hlt] at k2
   injection k2 with k2
   subst k2
   exact ⟨l1, l2, World.putObj_heap_same (heap_lt l3)⟩
  rw [List.getElem?_set_ne (by omega)] at k2
  obtain ⟨a1, a0, a2⟩ := h.yok y' l' d s' k1 k2
  have hne : l' ≠ l := by rintro rfl; exact hyy (h.ylen'.2 y' y l' d r k1 hy)
  exact ⟨a1, a0, by rw [oth l' hne]; exact a2⟩
 ·intro d k
  obtain ⟨a1, a2⟩ := h.dok d k
  exact ⟨a1, by rw [oth d (by rintro rfl; rw [l3] at a2; cases a2)]; exact a2⟩
 ·intro b c k
  obtain ⟨a1, a2, a3, a4, a5⟩ := h.rok b c k
  exact ⟨a1, a2, a3, a4, blk _ _ a5⟩
 intro b n k
 exact (h.szok b n k).of_heap (oth b ((h.szok b n k).ne l3 (by intros; simp)))
/-- A record that no loop at work has any more. -/
theorem SR.putLoop {Ψ : Ty} {σ : Sg} {w : World} (h : SR Ψ σ w) {l : Nat} {r : Loop} (hr : w.heap[l]? = some (.loop r)) (hn : ∀ (y l' : Nat) (d : Loop), Ψ.ys[y]? = some (l', d) → l' ≠ l) (o : Obj) : SR Ψ σ (w.putObj l o) := by
 have oth : ∀ k, k ≠ l → (w.putObj l o).heap[k]? = w.heap[k]? := fun k hk => World.putObj_heap_other hk
 have cel : ∀ b i v, w.cell? ⟨b, i, none⟩ = some v → (w.putObj l o).cell? ⟨b, i, none⟩ = some v := by
  intro b i v hv
  have hne : b ≠ l := by
   rintro rfl
   rw [cell_eq, hr] at hv
   cases hv
  rw [cell_eq, oth b hne, ← cell_eq]; exact hv
 have blk : ∀ b c, blockIs w b c → blockIs (w.putObj l o) b c := by
  intro b c hb
  have hne : b ≠ l := by
   rintro rfl
   obtain ⟨e, he⟩ := hb
   rw [hr] at he
   cases he
  exact hb.of_heap (oth b hne)
 have sz : (w.putObj l o).heap.size = w.heap.size := by simp [World.putObj]
 refine ⟨by rw [sz]; exact h.base, fun b i v k => cel _ _ _ (h.imm b i v k), h.blen, ?_, h.apart, ?_, h.roomsApart, h.histlt, h.histle, fun id b k => by rw [sz]; exact h.βlt id b k, ?_, h.ylen', ?_, ?_, ?_⟩
 ·intro id cs b k1 k2
  obtain ⟨a1, a2, a3⟩ := h.block id cs b k1 k2
  exact ⟨a1, a2, a3.of_heap (oth b (a3.ne hr (fun c e f => by simp) (fun a n => by simp) (fun a n l k => by simp)))⟩
 ·intro r' n b e c es k hx hlt
  obtain ⟨a1, a2, a3, cc, a4, a5⟩ := h.room r' n b e c es k hx hlt
  exact ⟨a1, a2, a3, cc, blk _ _ a4, a5⟩
 ·intro y l' d s k1 k2
  obtain ⟨a1, a0, a2⟩ := h.yok y l' d s k1 k2
  exact ⟨a1, a0, by rw [oth l' (hn y l' d k1)]; exact a2⟩
 ·intro d k
  obtain ⟨a1, a2⟩ := h.dok d k
  exact ⟨a1, by rw [oth d (by rintro rfl; rw [hr] at a2; cases a2)]; exact a2⟩
 ·intro b c k
  obtain ⟨a1, a2, a3, a4, a5⟩ := h.rok b c k
  exact ⟨a1, a2, a3, a4, blk _ _ a5⟩
 intro b n k
 exact (h.szok b n k).of_heap (oth b ((h.szok b n k).ne hr (by intros; simp)))
/-- How a round ends: what yield hands back, and the state then. -/
def RoundEnd (y : Nat) (b : Bool) (σ' : Sg) : Exit → Env → Sg → Prop
 | .normal, _, σ4 => σ4.ys[y]? = some .busy ∧ b = true ∧ σ' = σ4.setY y .ready
 | .ret, _, σ4 => σ4.ys[y]? = some .busy ∧ b = false ∧ σ' = σ4.setY y (.done .ret)
 | .exit id, _, σ4 => σ4.ys[y]? = some .busy ∧ b = false ∧ σ' = σ4.setY y (.done (.exit id))
 | .goto t, _, σ4 => σ4.ys[y]? = some .busy ∧ b = false ∧ σ' = σ4.setY y (.done (.goto t))
 | _, _, _ => False
/-- One round of the loop y, from yield's arguments on. -/
def Round (P : Program) (Y : YEnv) (N : Nat) (ps : List Nat) (assign body : Code) (E : Env) (y : Nat) (args : List PV) (σ : Sg) (b : Bool) (σ' : Sg) : Prop :=
 args.length = ps.length ∧ σ.ys[y]? = some .ready ∧ W P Y N (some y) (σ.store.length, σ.rooms.length) assign (putAll ps args E) σ (fun ex E3 σ3 => ex = .normal ∧ σ3.ys[y]? = some .ready ∧
  W P Y N (some y) (σ.store.length, σ.rooms.length) body E3 (σ3.setY y .busy) (RoundEnd y b σ'))
theorem FnOf_at {Ψ : Ty} {y l : Nat} {r : Loop} (h : Ψ.ys[y]? = some (l, r)) : FnOf Ψ (some y) = Fence.wide.inRound l := by simp [FnOf, h]
theorem Round.round {P : Program} {Y : YEnv} {N : Nat} {ps : Array Tmp} {assign body : Code} {E : Env} {y : Nat} {args : List PV} {σ : Sg} {b : Bool} {σ' : Sg} (h : Round P Y N ps.toList assign body E y args σ b σ')
 {Ψ1 Ψ : Ty} {l d : Nat} {fn : FuncId} {tmps : Array Value} (hps : ∀ t, t ∈ ps.toList → t < N) (hN : tmps.size = N) (he : ER Ψ1 E tmps) (hyok : YOK P Y Ψ1)
 (hys : Ψ1.ys[y]? = some (l, { state := .ready, pending := none, fn, tmps, params := ps, assign, body, defers := d })) (le : Ψ1.le Ψ) {vals : Array Value} {w : World} (hs : SR Ψ σ w) (ha : VRs Ψ args vals) :
 ∃ r : Loop, w.heap[l]? = some (.loop r) ∧ vals.size = r.params.size ∧ RoundIn Fence.wide 0 P l r.fn ((r.params.zip vals).foldl (fun tmps (t, a) => tmps.setIfInBounds t a) r.tmps) r.assign r.body w
  (fun e w' => ∃ Ψ'', e = .returned (.bool b) ∧ Ψ.le Ψ'' ∧ SR Ψ'' σ' w' ∧ Below Ψ.base w w') := by
 obtain ⟨h1, h2, h3⟩ := h
 have hysΨ := le.ys _ _ hys
 obtain ⟨l1, l2, l3⟩ := hs.yok y l _ _ hysΨ h2
 refine ⟨_, l3, by rw [ha.1, h1]; rfl, ?_⟩
 simp only [LState.record]
 refine roundIn_of_wpIn trivial ?_
 have hput := putAll_ok ps.toList args vals.toList E tmps hN (he.mono le) hps (by simpa using ha.1) (fun j p v k1 k2 => ha.2 j p v k1 (by simpa using k2))
 have hfold : ((ps.zip vals).foldl (fun tmps (t, a) => tmps.setIfInBounds t a) tmps) = ((ps.toList.zip vals.toList).foldl (fun tmps (p : Nat × Value) => tmps.setIfInBounds p.1 p.2) tmps) := by
  rw [← Array.foldl_toList, Array.toList_zip]
 have hw := h3 Ψ Ψ.ds ⟨by rw [hs.blen]; exact Nat.le_refl _, fun r n x k => hs.histlt r n x k⟩ (hyok.mono le) (fun y' e => ⟨_, by cases e; exact hysΨ⟩) Ψ
  { tmps := (ps.zip vals).foldl (fun tmps (t, a) => tmps.setIfInBounds t a) tmps, defers := [] } w (Ty.le.refl _)
  ⟨by rw [hfold]; exact hput.1, by rw [hfold]; exact hput.2, hs, fun _ k => k, [], rfl, List.nodup_nil, fun r hr => by cases hr⟩
 rw [FnOf_at hysΨ] at hw
 refine wpIn_mono hw ?_
 rintro ex a1 w1 ⟨E3, σ3, Ψ3, k1, k2, k3, rfl, k4, hbody⟩
 have hysΨ3 := k1.ys _ _ hysΨ
 obtain ⟨m1, m2, m3⟩ := k2.sg.yok y l _ _ hysΨ3 k4
 have hbr := run_beginRound (P := P) m3 rfl
 refine ⟨_, hbr, ?_⟩
 have hs3 := k2.sg.setY hysΨ3 .busy
 have hw2 := hbody Ψ Ψ.ds ⟨by rw [hs.blen]; exact Nat.le_refl _, fun r n x k => hs.histlt r n x k⟩ (hyok.mono le) (fun y' e => ⟨_, by cases e; exact hysΨ⟩) Ψ3 a1 _ k1
  ⟨k2.size, k2.env, hs3, k2.dsub, k2.defs⟩
 rw [FnOf_at hysΨ] at hw2
 refine wpIn_mono hw2 ?_
 have fin : ∀ (jump : Option Code) (s : LState) (σ4 : Sg) (Ψ4 : Ty) (w4 : World), Ψ.le Ψ4 → SR Ψ4 σ4 w4 → σ4.ys[y]? = some .busy → σ' = σ4.setY y s → b = jump.isNone →
  Below Ψ.base (w1.putObj l (.loop (LState.busy.record { state := .ready, pending := none, fn, tmps, params := ps, assign, body, defers := d }))) w4 →
  (∀ r : Loop, s.record r = { r with state := if jump.isNone then .ready else .done, pending := jump }) →
  ∃ v w', (Instr.endRound l jump).run P w4 = .ok v w' ∧ ∃ Ψ'', (Ending.returned v) = .returned (.bool b) ∧ Ψ.le Ψ'' ∧ SR Ψ'' σ' w' ∧ Below Ψ.base w w' := by
  intro jump s σ4 Ψ4 w4 q1 q2 q3 q4 q5 q6 q7
  have hys4 := q1.ys _ _ hysΨ
  obtain ⟨n1, n2, n3⟩ := q2.yok y l _ _ hys4 q3
  have hend := run_endRound (P := P) jump n3
  refine ⟨_, _, hend, Ψ4, by rw [q5], q1, ?_, ?_⟩
  ·have := q2.setY hys4 s
   rw [q7] at this
   rw [q4]
   exact this
  refine Below.putObj (Below.trans (Below.putObj k3 l1 _) q6) l1 _
 rintro ex a4 w4 ⟨E4, σ4, Ψ4, q1, q2, q3, hend⟩
 cases ex with
 | normal => exact fin none .ready σ4 Ψ4 w4 q1 q2.sg hend.1 hend.2.2 hend.2.1 q3 (fun _ => rfl)
 | ret => exact fin (some .ret) (.done .ret) σ4 Ψ4 w4 q1 q2.sg hend.1 hend.2.2 hend.2.1 q3 (fun _ => rfl)
 | exit id => exact fin (some (.exit id)) (.done (.exit id)) σ4 Ψ4 w4 q1 q2.sg hend.1 hend.2.2 hend.2.1 q3 (fun _ => rfl)
 | goto t => exact fin (some (.goto t)) (.done (.goto t)) σ4 Ψ4 w4 q1 q2.sg hend.1 hend.2.2 hend.2.1 q3 (fun _ => rfl)
 | panic ch => exact hend.elim
 | outgrown => exact hend.elim
/-- Behind the loop: on, or the jump that a round has left. -/
def AfterLoop (P : Program) (Y : YEnv) (N : Nat) (rd : Option Nat) (lo : Nat × Nat) (E : Env) (σ : Sg) (Q : Exit → Env → Sg → Prop) : LState → Prop
 | .ready => Q .normal E σ
 | .done j => W P Y N rd lo j E σ Q
 | .busy => False
theorem W_rangeFunc {P : Program} {Y : YEnv} {N : Nat} {rd : Option Nat} {lo : Nat × Nat} {E : Env} {σ : Sg} {Q : Exit → Env → Sg → Prop} {g : Operand} {ps : Array Tmp} {assign body : Code}
 {gf : FuncId} {fs cs : List PV} (hg : ev E g = .func (.func gf) fs cs) (hps : ∀ t, t ∈ ps.toList → t < N) (S : YSem)
 (hS : ∀ args σ2 b σ2', S args σ2 b σ2' → Round P Y N ps.toList assign body E σ.ys.length args σ2 b σ2')
 {v : PV} {σ5 : Sg} (hpc : PC P (Y.at σ.ys.length S) gf (fs ++ [.yield σ.ys.length] ++ cs) σ.pushY v σ5)
 {s : LState} (hs5 : σ5.ys[σ.ys.length]? = some s) (hcl : CleanCut σ5 σ5.store.length σ5.rooms.length σ.ys.length)
 (hq : AfterLoop P Y N rd lo E (σ5.popY σ.ys.length) Q s) : W P Y N rd lo (.rangeFunc g ps assign body) E σ Q := by
 intro Ψ0 D hb hy hrd Ψ a w le hr
 refine wpIn_rangeFunc ?_
 intro fn _
 have hylen : Ψ.ys.length = σ.ys.length := hr.sg.ylen
 -- the record is laid
 have enter : ∃ (l d : Nat) (mark : List Deferred) (w1 : World) (Ψ1 : Ty), (Instr.enterLoop fn a.tmps ps assign body (FnOf Ψ0 rd).round).run P w = .ok (l, mark) w1 ∧ Ψ.le Ψ1 ∧
  Ψ1.ys[σ.ys.length]? = some (l, { state := .ready, pending := none, fn, tmps := a.tmps, params := ps, assign, body, defers := d }) ∧ SR Ψ1 σ.pushY w1 ∧ Below Ψ.base w w1 ∧
  (∃ rs : List Nat, mark ++ a.defers = rs.map markOf ∧ rs.Nodup ∧ ∀ r, r ∈ rs → r ∈ Ψ1.ds ∧ r ∉ D) := by
  have outer : (FnOf Ψ0 rd).round = none → ∃ (l d : Nat) (mark : List Deferred) (w1 : World) (Ψ1 : Ty), (Instr.enterLoop fn a.tmps ps assign body (FnOf Ψ0 rd).round).run P w = .ok (l, mark) w1 ∧ Ψ.le Ψ1 ∧
   Ψ1.ys[σ.ys.length]? = some (l, { state := .ready, pending := none, fn, tmps := a.tmps, params := ps, assign, body, defers := d }) ∧ SR Ψ1 σ.pushY w1 ∧ Below Ψ.base w w1 ∧
   (∃ rs : List Nat, mark ++ a.defers = rs.map markOf ∧ rs.Nodup ∧ ∀ r, r ∈ rs → r ∈ Ψ1.ds ∧ r ∉ D) := by
   intro hround
   obtain ⟨le1, hs1⟩ := hr.sg.addDef
   obtain ⟨le2, hs2⟩ := hs1.addLoop { state := .ready, pending := none, fn, tmps := a.tmps, params := ps, assign, body, defers := w.heap.size } (List.mem_cons_self ..) rfl
   obtain ⟨rs, r1, r2, r3⟩ := hr.defs
   have hnew : w.heap.size ∉ rs := fun hm => by
    have := hr.sg.dok _ (r3 _ hm).1
    exact absurd (heap_lt this.2) (Nat.lt_irrefl _)
   have hnewD : w.heap.size ∉ D := fun hm => by
    have := hr.sg.dok _ (hr.dsub _ hm)
    exact absurd (heap_lt this.2) (Nat.lt_irrefl _)
   refine ⟨_, w.heap.size, _, _, _, by rw [hround]; exact run_enterLoop_outer _ _ _ _ _, le1.trans le2, ?_, hs2, ?_, w.heap.size :: rs, by rw [r1]; rfl, List.nodup_cons.2 ⟨hnew, r2⟩, ?_⟩
   ·show (Ψ.ys ++ [_])[σ.ys.length]? = _
    rw [← hylen]
    simp [World.size_alloc]
   ·exact ((Below.refl _ w).alloc hr.sg.base _).alloc (by rw [World.size_alloc]; have := hr.sg.base; omega) _
   intro r hm
   rcases List.mem_cons.1 hm with rfl | hm
   ·exact ⟨List.mem_cons_self .., hnewD⟩
   exact ⟨List.mem_cons_of_mem _ (r3 r hm).1, (r3 r hm).2⟩
  cases rd with
  | none => exact outer rfl
  | some y0 =>
   obtain ⟨⟨l0, r0⟩, hy0⟩ := hrd y0 rfl
   have hround : (FnOf Ψ0 (some y0)).round = some l0 := by rw [FnOf_at hy0]; rfl
   have hyΨ := le.ys _ _ hy0
   have hlt : y0 < σ.ys.length := by rw [← hylen]; exact (List.getElem?_eq_some_iff.1 hyΨ).1
   obtain ⟨c1, c2, c3⟩ := hr.sg.yok y0 l0 r0 _ hyΨ (List.getElem?_eq_getElem hlt)
   have hdef : ((σ.ys[y0]).record r0).defers = r0.defers := by cases σ.ys[y0] <;> rfl
   obtain ⟨le2, hs2⟩ := hr.sg.addLoop { state := .ready, pending := none, fn, tmps := a.tmps, params := ps, assign, body, defers := r0.defers } c2 rfl
   obtain ⟨rs, r1, r2, r3⟩ := hr.defs
   refine ⟨_, r0.defers, _, _, _, by rw [hround, run_enterLoop_inner c3, hdef], le2, ?_, hs2, (Below.refl _ w).alloc hr.sg.base _, rs, by rw [List.nil_append]; exact r1, r2, fun r hm => r3 r hm⟩
   show (Ψ.ys ++ [_])[σ.ys.length]? = _
   rw [← hylen]
   simp
 obtain ⟨l, d, mark, w1, Ψ1, e1, le1, e2, hs1, e3, e4⟩ := enter
 -- the function
 have hgv := ev_ok hr.env g
 rw [hg] at hgv
 obtain ⟨fv, cv, hgv, hfv, hcv⟩ := hgv.func_inv
 have hgo := hpc.1
 have hcall : ∀ args w, (callFunc gf args).run P w = .ok (.enter gf args) w := by
  intro args w
  simp only [callFunc]
  unfold goFn at hgo
  split at hgo
  ·rename_i fn hfn
   simp only [Bool.and_eq_true, bne_iff_ne, ne_eq] at hgo
   rw [run_bind_ok (e := program) (v := P) (w' := w) rfl]
   rw [hfn]
   simp only
   rw [if_neg (by simpa using hgo.1)]
   have : fn.body.isNone = false := by rw [← Option.not_isSome, hgo.2]; rfl
   rw [this]
   rfl
  cases hgo
 refine ⟨l, mark, w1, { target := .fn (.func gf) cv, args := fv ++ #[.func (.yield l) #[] #[]] }, w1, gf, fv ++ #[.func (.yield l) #[] #[]] ++ cv, w1, e1, ?_, ?_, ?_, fun h => (by rw [FnOf_depth] at h; cases h), ?_⟩
 ·simp only [resolve, hgv, Deferred.ofValue]
  simp [go_sem]
 ·intro f' _; exact FnOf_fn _ _ _
 ·simp only [invoke]
  exact hcall _ _
 have hys1 : Ψ1.ys[σ.ys.length]? = some (l, { state := .ready, pending := none, fn, tmps := a.tmps, params := ps, assign, body, defers := d }) := e2
 have hvrs : VRs Ψ1 (fs ++ [.yield σ.ys.length] ++ cs) (fv ++ #[.func (.yield l) #[] #[]] ++ cv) := by
  refine ((hfv.mono le1).append ⟨rfl, fun j p v h1 h2 => ?_⟩).append (hcv.mono le1)
  cases j with
  | zero => simp at h1 h2; subst h1 h2; exact .yield _ _ _ hys1
  | succ j => simp at h1
 have hyok : YOK P (Y.at σ.ys.length S) Ψ1 := by
  refine ⟨hy.1.mono (le.trans le1), ?_⟩
  intro y' args σ2 b σ2' h
  by_cases hy' : y' = σ.ys.length
  ·subst hy'
   rw [YEnv.at_self] at h
   exact ⟨l, _, hys1, fun Ψ' vals w' le' hs' ha' => (hS args σ2 b σ2' h).round hps hr.size (hr.env.mono le1) (hy.mono (le.trans le1)) hys1 le' hs' ha'⟩
  have : Y y' args σ2 b σ2' := by simpa [YEnv.at, hy'] using h
  exact (hy.mono (le.trans le1)).2 y' args σ2 b σ2' this
 refine CallsIn.mono (callsIn_FnOf (hpc.2 Ψ1 _ w1 hs1 hvrs hyok)) ?_
 rintro e w3 ⟨x, Ψ5, rfl, le5, hs5', _, hb5⟩
 have hys5 := le5.ys _ _ hys1
 obtain ⟨p1, p2, p3⟩ := hs5'.yok _ l _ _ hys5 hs5
 have hnb : (s.record { state := .ready, pending := none, fn, tmps := a.tmps, params := ps, assign, body, defers := d }).state ≠ .busy := by
  cases s with
  | ready => simp [LState.record]
  | busy => exact hq.elim
  | done j => simp [LState.record]
 have hend := run_endLoop (P := P) p3 hnb
 have hs6 := hs5'.trim hcl
 rw [Sg.popY_eq] at hs6
 have le6 : Ψ.le (Ψ5.trim σ5.store.length σ5.rooms.length σ.ys.length) := Ty.trim_le (le1.trans le5) (by rw [← hs5'.blen]; exact β_len_le (le1.trans le5)) (fun r n x k => hs5'.histlt r n x ((le1.trans le5).hist r n x k)) (by rw [hylen]; exact Nat.le_refl _)
 have hs7 := fun o => hs6.putLoop p3 (fun y l' d' k => by
  rintro rfl
  have hk : y < σ.ys.length ∧ Ψ5.ys[y]? = some (l', d') := by
   simp only [Ty.trim] at k
   rw [List.getElem?_take] at k
   split at k
   ·exact ⟨‹_›, k⟩
   cases k
  have := hs5'.ylen'.2 _ _ _ _ _ hk.2 hys5
  omega) o
 have hrel : ∀ o, Rel N D (Ψ5.trim σ5.store.length σ5.rooms.length σ.ys.length) E (σ5.popY σ.ys.length) { a with defers := mark ++ a.defers } (w3.putObj l o) := by
  intro o
  obtain ⟨rs, r1, r2, r3⟩ := e4
  exact ⟨hr.size, hr.env.mono le6, hs7 o, fun d hd => le6.ds _ (hr.dsub d hd), rs, r1, r2, fun r hm => ⟨le5.ds _ (r3 r hm).1, (r3 r hm).2⟩⟩
 have hlb : Ψ0.base ≤ l := by rw [← (le.trans (le1.trans le5)).base]; exact p1
 have hbel : ∀ o, Below Ψ0.base w (w3.putObj l o) := by
  intro o
  refine Below.putObj ?_ hlb o
  rw [← le.base]
  refine e3.trans ?_
  rw [← le1.base]
  exact hb5
 refine ⟨_, _, hend, ?_⟩
 cases s with
 | ready => exact ⟨E, _, _, le.trans le6, hrel _, hbel _, hq⟩
 | busy => exact hq.elim
 | done j =>
  refine wpIn_mono (hq Ψ0 D hb hy hrd _ _ _ (le.trans le6) (hrel _)) fun _ _ _ => Post.later (hbel _)
section
variable {P : Program} {σ : Sg} {E E' : Env}
theorem ev_congr {x : Operand} (h : ∀ t, x = .tmp t → E.get t = E'.get t) : ev E x = ev E' x := by
 cases x with
 | tmp t => exact h t rfl
 | _ => rfl
theorem map_ev_congr {xs : List Operand} (h : ∀ x, x ∈ xs → ev E x = ev E' x) : xs.map (ev E) = xs.map (ev E') := List.map_congr_left h
theorem pureOp_congr {op : Op} (h : ∀ x, x ∈ op.operands → ev E x = ev E' x) : pureOp P σ E op = pureOp P σ E' op := by
 cases op <;> simp only [Op.operands] at h <;> simp only [pureOp]
 case move x => rw [h x (by simp)]
 case assign x => rw [h x (by simp)]
 case pick c a b => rw [h c (by simp), h a (by simp), h b (by simp)]
 case load t a => rw [h a (by simp)]
 case nilCheck x => rw [h x (by simp)]
 case binOp op t x y z => rw [h x (by simp), h y (by simp)]
 case unOp op t x => rw [h x (by simp)]
 case convert s d x => rw [h x (by simp)]
 case makeFunc fn first captured =>
  rw [map_ev_congr (xs := first.toList) (fun x hx => h x (by simp; exact .inl (by simpa using hx))), map_ev_congr (xs := captured.toList) (fun x hx => h x (by simp; exact .inr (by simpa using hx)))]
 case fieldAddr s x f => rw [h x (by simp)]
 case field s x f => rw [h x (by simp)]
 case indexAddr t x i => rw [h x (by simp), h i (by simp)]
 case index t x i => rw [h x (by simp), h i (by simp)]
 case slice t x lo hi mx =>
  have o : ∀ y : Option Operand, (∀ z, y = some z → ev E z = ev E' z) → y.map (ev E) = y.map (ev E') := by
   intro y hy
   cases y with
   | none => rfl
   | some z => simp [hy z rfl]
  rw [h x (by simp), o lo (fun z e => h z (by simp [e])), o hi (fun z e => h z (by simp [e])), o mx (fun z e => h z (by simp [e]))]
 case extract t i => rw [h t (by simp)]
 case build t parts =>
  congr 1
  exact List.map_congr_left fun p hp => by rw [h p.2 (by simp; exact ⟨p.1, by simpa using hp⟩)]
 case call c =>
  obtain ⟨callee, args, ts⟩ := c
  cases callee with
  | builtin b =>
   simp only
   rw [map_ev_congr (xs := args.toList) (fun x hx => h x (by simp [Call.operands]; simpa using hx))]
  | _ => rfl
theorem evN_congr {x : Operand} (h : ev E x = ev E' x) : evN E x = evN E' x := by
 cases x with
 | const v => rfl
 | _ => exact h
theorem effOp_congr {op : Op} (h : ∀ x, x ∈ op.operands → ev E x = ev E' x) : effOp P σ E op = effOp P σ E' op := by
 unfold effOp
 split
 ·rfl
 ·rename_i t x
  rw [h x (by simp [Op.operands])]
 ·rename_i t len parts
  congr 2
  exact List.map_congr_left fun p hp => by rw [h p.2 (by simp [Op.operands]; exact ⟨p.1, by simpa using hp⟩)]
 ·rename_i t l c
  rw [h l (by simp [Op.operands]), h c (by simp [Op.operands])]
 ·rename_i t a x
  rw [h a (by simp [Op.operands]), h x (by simp [Op.operands])]
 ·rfl
 ·rename_i t a x ok
  rw [h a (by simp [Op.operands]), h x (by simp [Op.operands])]
 ·rename_i t a b x
  rw [h a (by simp [Op.operands]), h b (by simp [Op.operands]), evN_congr (h x (by simp [Op.operands]))]
 ·rename_i t a b x
  rw [h a (by simp [Op.operands]), h b (by simp [Op.operands]), evN_congr (h x (by simp [Op.operands]))]
 ·rename_i args ts
  have hh : ∀ x, x ∈ args.toList → ev E x = ev E' x := fun x hx => h x (by simp [Op.operands, Call.operands]; simpa using hx)
  split
  ·rename_i x y t t' h1 h2
   rw [hh x (by rw [h1]; simp), hh y (by rw [h1]; simp)]
  rfl
 ·rename_i t x
  rw [h x (by simp [Op.operands])]
 ·rename_i x
  rw [h x (by simp [Op.operands])]
 ·rename_i op t x y sh
  rw [h x (by simp [Op.operands]), h y (by simp [Op.operands])]
 rw [pureOp_congr h]
theorem whom_congr {op : Op} (h : ∀ x, x ∈ op.operands → ev E x = ev E' x) : whom E op = whom E' op := by
 unfold whom
 split
 ·rename_i f args ts
  rw [h f (by simp [Op.operands, Call.operands]), map_ev_congr (xs := args.toList) (fun x hx => h x (by simp [Op.operands, Call.operands]; exact .inr (by simpa using hx)))]
 rfl
end
/-- The temporaries that an operation reads. -/
def looks (ops : Array Oper) (o : Oper) : List Nat := o.looksAt ops
theorem looks_operand {ops : Array Oper} {o : Oper} {t : Nat} (h : Operand.tmp t ∈ o.op.operands) : t ∈ looks ops o :=
 List.mem_append_left _ (List.mem_filterMap.2 ⟨.tmp t, by simpa using h, rfl⟩)
theorem looks_guard {ops : Array Oper} {o : Oper} {g : Nat × Bool} (h : o.guard = some g) {t : Nat} (ht : (ops[g.1]?).bind (·.dst) = some t) : t ∈ looks ops o := by
 refine List.mem_append_right _ ?_
 obtain ⟨g, b⟩ := g
 simp only [h]
 simp only at ht
 simp [ht]
theorem opsCongr {ops : Array Oper} {o : Oper} {E E' : Env} (h : ∀ t, t ∈ looks ops o → E.get t = E'.get t) : ∀ x, x ∈ o.op.operands → ev E x = ev E' x :=
 fun _ hx => ev_congr fun t e => h t (looks_operand (e ▸ hx))
theorem wantedPV_congr {ops : Array Oper} {o : Oper} {E E' : Env} (h : ∀ t, t ∈ looks ops o → E.get t = E'.get t) : wantedPV ops E o = wantedPV ops E' o := by
 unfold wantedPV
 cases hg : o.guard with
 | none => rfl
 | some g =>
  obtain ⟨j, want⟩ := g
  simp only
  cases hd : (ops[j]?).bind (·.dst) with
  | none => rfl
  | some t =>
   simp only
   rw [h t (looks_guard hg hd)]
theorem SR.reserve {Ψ : Ty} {σ : Sg} {w : World} (h : SR Ψ σ w) (c : Array Value) (e : TypeId) :
 Ψ.le { Ψ with rs := (w.heap.size, c) :: Ψ.rs } ∧ SR { Ψ with rs := (w.heap.size, c) :: Ψ.rs } σ (w.alloc (.cells c e)) := by
 have le : Ψ.le { Ψ with rs := (w.heap.size, c) :: Ψ.rs } := ⟨rfl, fun _ _ _ k => k, fun _ _ k => k, fun _ _ _ k => k, fun _ _ k => k, fun _ k => k, fun d k => List.mem_cons_of_mem _ k, fun _ k => k⟩
 have hf := h.fresh
 have h' := h.alloc (.cells c e)
 refine ⟨le, h'.base, h'.imm, h'.blen, ?_, h'.apart, h'.room, h'.roomsApart, h'.histlt, h'.histle, h'.βlt, h'.yok, h'.ylen', h'.dok, ?_, h'.szok⟩
 ·intro id cs b k1 k2
  obtain ⟨a1, a2, a3⟩ := h'.block id cs b k1 k2
  exact ⟨a1, a2, a3.mono le⟩
 intro b c' k
 rcases List.mem_cons.1 k with hk | k
 ·injection hk with e1 e2
  subst e1 e2
  exact ⟨h.base, hf.imm, fun id k => absurd k (hf.β id), fun r n e cc es k1 k2 => hf.hist r n e cc es k1 k2, e, heap_alloc_new w _⟩
 exact h'.rok b c' k
/-- A block that was set apart becomes a variable. -/
def Ty.use (Ψ : Ty) (b : Nat) : Ty := { Ψ with rs := Ψ.rs.filter (fun x => x.1 != b), β := Ψ.β ++ [b], sz := (b, .n 0) :: Ψ.sz }
theorem Ty.use_le {Ψ0 Ψ : Ty} (le : Ψ0.le Ψ) {b : Nat} (hb : ∀ c, (b, c) ∉ Ψ0.rs) : Ψ0.le (Ψ.use b) := by
 refine ⟨le.base, le.imm, fun i x k => ?_, le.hist, le.ys, le.ds, fun d k => ?_, fun d k => List.mem_cons_of_mem _ (le.sz d k)⟩
 ·show (Ψ.β ++ [b])[i]? = _
  have := le.β i x k
  rw [List.getElem?_append_left (List.getElem?_eq_some_iff.1 this).1]; exact this
 refine List.mem_filter.2 ⟨le.rs d k, ?_⟩
 simp only [bne_iff_ne, ne_eq]
 rintro rfl
 exact hb d.2 k
theorem VR.use {Ψ : Ty} {p : PV} {x : Value} (h : VR Ψ p x) (b : Nat) : VR (Ψ.use b) p x :=
 VR.mono0 (Ψ := Ψ) (Ψ' := Ψ.use b) (fun _ _ _ k => k) (fun i x k => by
  show (Ψ.β ++ [b])[i]? = _
  rw [List.getElem?_append_left (List.getElem?_eq_some_iff.1 k).1]; exact k) (fun _ _ _ k => k) (fun _ _ k => k) (fun _ k => List.mem_cons_of_mem _ k) h
theorem SR.use {Ψ : Ty} {σ : Sg} {w : World} (h : SR Ψ σ w) {b : Nat} {c : Array Value} (hb : (b, c) ∈ Ψ.rs) (cs : List PV)
 (hl : cs.length ≤ c.size) (hv : ∀ (j : Nat) (p : PV) (v : Value), cs[j]? = some p → c[j]? = some v → VR Ψ p v) : SR (Ψ.use b) (σ.push cs) w := by
 obtain ⟨b1, b2, b3, b4, b5⟩ := h.rok b c hb
 refine ⟨h.base, h.imm, by simp [Ty.use, Sg.push, h.blen], ?_, ?_, ?_, h.roomsApart, h.histlt, h.histle, ?_, h.yok, h.ylen', h.dok, ?_, ?_⟩
 ·intro id cs' b' k1 k2
  simp only [Ty.use] at k2
  rcases getElem?_snoc k1 with ⟨hid, k1⟩ | ⟨rfl, he⟩
  ·rw [List.getElem?_append_left (by rw [h.blen]; exact hid)] at k2
   obtain ⟨a1, a2, a3⟩ := h.block id cs' b' k1 k2
   exact ⟨a1, a2, a3.map fun _ _ k => k.use b⟩
  injection he with he
  subst he
  rw [List.getElem?_append_right (by rw [h.blen]; exact Nat.le_refl _), h.blen, Nat.sub_self] at k2
  simp at k2
  subst k2
  exact ⟨b1, b2, .inl ⟨c, b5, hl, fun j p v x y => (hv j p v x y).use _⟩⟩
 ·intro id id' cs1 cs2 b' k1 k2 k3 k4
  simp only [Ty.use] at k3 k4
  rcases getElem?_snoc k3 with ⟨hid, q3⟩ | ⟨hid, he⟩
  ·rw [h.blen] at hid
   simp only [Sg.push] at k1 k2
   rw [List.getElem?_append_left hid] at k1
   rcases getElem?_snoc k4 with ⟨hid', q4⟩ | ⟨_, he'⟩
   ·rw [h.blen] at hid'
    rw [List.getElem?_append_left hid'] at k2
    exact h.apart id id' cs1 cs2 b' k1 k2 q3 q4
   exact absurd k1 (b3 id (he' ▸ q3) cs1)
  simp only [Sg.push] at k1 k2
  rcases getElem?_snoc k4 with ⟨hid', q4⟩ | ⟨hid', _⟩
  ·rw [h.blen] at hid'
   rw [List.getElem?_append_left hid'] at k2
   exact absurd k2 (b3 id' (he ▸ q4) cs2)
  rw [hid, hid']
 ·intro r n b' e c' es k hx hlt
  obtain ⟨a1, a2, a3, a4⟩ := h.room r n b' e c' es k hx hlt
  refine ⟨a1, a2, fun id k1 cs' k2 => ?_, a4⟩
  simp only [Ty.use] at k1
  rcases getElem?_snoc k1 with ⟨hid, k1⟩ | ⟨_, rfl⟩
  ·rw [h.blen] at hid
   simp only [Sg.push] at k2
   rw [List.getElem?_append_left hid] at k2
   exact a3 id k1 cs' k2
  have := b4 r n e c' es k hx
  omega
 ·intro id b' k
  rcases getElem?_snoc k with ⟨_, k⟩ | ⟨_, rfl⟩
  ·exact h.βlt id b' k
  exact b5.lt
 ·intro b' c' k
  obtain ⟨k, hne⟩ := List.mem_filter.1 k
  simp only [bne_iff_ne, ne_eq] at hne
  obtain ⟨a1, a2, a3, a4, a5⟩ := h.rok b' c' k
  refine ⟨a1, a2, fun id k1 cs' k2 => ?_, a4, a5⟩
  rcases getElem?_snoc k1 with ⟨hid, k1⟩ | ⟨_, rfl⟩
  ·rw [h.blen] at hid
   simp only [Sg.push] at k2
   rw [List.getElem?_append_left hid] at k2
   exact a3 id k1 cs' k2
  exact hne rfl
 intro b' n k
 rcases List.mem_cons.1 k with k | k
 ·injection k with e1 e2
  subst e1 e2
  obtain ⟨e5, b5⟩ := b5
  exact ⟨b1, c, e5, _, b5, Nat.zero_le _⟩
 exact h.szok b' n k
/-- Does it change the state, but by a new variable? -/
def writes (o : Oper) : Bool :=
 match o.op with
 | .store _ _ _ | .box _ _ | .makeSlice _ _ _ | .makeMap _ _ | .mapUpdate _ _ _ _ | .insert _ _ _ _ | .range _ _ => true
 | .call ⟨.builtin .append, _, _⟩ => true
 | .call ⟨.value _, _, _⟩ => true
 | _ => false
def allocs (o : Oper) : Bool :=
 match o.op with
 | .alloc _ => true
 | _ => false
theorem quiet {P : Program} {σ σ' : Sg} {E : Env} {o : Oper} {v : PV} (h : writes o = false) (h2 : allocs o = false) (he : effOp P σ E o.op = some (v, σ')) : σ' = σ := by
 obtain ⟨dst, op, type, pos, after, guard⟩ := o
 simp only at he
 unfold effOp at he
 split at he
 ·simp [allocs] at h2
 ·simp [writes] at h
 ·rename_i t len parts
  cases hb : buildSlicePV P t len (parts.toList.map fun p => (p.1, ev E p.2)) with
  | none => rw [hb] at he; cases he
  | some x => rw [hb] at he; injection he with he; injection he with _ he; exact he.symm
 ·simp [writes] at h
 ·simp [writes] at h
 ·simp [writes] at h
 ·rename_i t x ix ok
  cases hb : lookupPV P σ t (ev E x) (ev E ix) ok with
  | none => rw [hb] at he; cases he
  | some x => rw [hb] at he; injection he with he; injection he with _ he; exact he.symm
 ·simp [writes] at h
 ·simp [writes] at h
 ·simp [writes] at h
 ·simp [writes] at h
 ·rename_i x
  cases hb : entryPV σ (ev E x) with
  | none => rw [hb] at he; cases he
  | some x => rw [hb] at he; injection he with he; injection he with _ he; exact he.symm
 ·rename_i op t x y sh
  split at he
  ·cases hb : nilCmp P op t (ev E x) with
   | none => rw [hb] at he; cases he
   | some x => rw [hb] at he; injection he with he; injection he with _ he; exact he.symm
  split at he
  ·cases hb : nilICmp P op t (ev E x) with
   | none => rw [hb] at he; cases he
   | some x => rw [hb] at he; injection he with he; injection he with _ he; exact he.symm
  cases hb : binPV P op t (ev E x) (ev E y) with
  | none => rw [hb] at he; cases he
  | some x => rw [hb] at he; injection he with he; injection he with _ he; exact he.symm
 cases hb : pureOp P σ E op with
 | none => rw [hb] at he; cases he
 | some x => rw [hb] at he; injection he with he; injection he with _ he; exact he.symm
theorem whom_quiet {E : Env} {o : Oper} (h : writes o = false) : whom E o.op = .nobody := by
 obtain ⟨dst, op, type, pos, after, guard⟩ := o
 simp only
 unfold whom
 split
 ·simp [writes] at h
 rfl
/-- One operation of the walked order: what was known before it, whether it was wanted, what it gave. -/
structure St where
 i : Nat
 E : Env
 σ : Sg
 b : Bool
 v : PV
def DoneAs (P : Program) (Y : YEnv) (o : Oper) (s : St) (σ' : Sg) : Prop :=
 match s.b with
 | false => s.v = .tuple [] ∧ σ' = s.σ
 | true => match whom s.E o.op with
  | .nobody => effOp P s.σ s.E o.op = some (s.v, σ')
  | .fn f args => PC P Y f args s.σ s.v σ'
  | .yield y args => ∃ b, s.v = .bool b ∧ Y y args s.σ b σ'
def StepOK (P : Program) (Y : YEnv) (N : Nat) (ops : Array Oper) (s : St) (E' : Env) (σ' : Sg) : Prop :=
 ∃ o, ops[s.i]? = some o ∧ dstOK N o = true ∧ wantedPV ops s.E o = some s.b ∧ E' = s.E.put o.dst s.v ∧ DoneAs P Y o s σ'
/-- The operations in a chosen order, one after the other; what was done is written down. -/
def GD (P : Program) (Y : YEnv) (N : Nat) (ops : Array Oper) : List Nat → Env → Sg → List St → (List St → Env → Sg → Prop) → Prop
 | [], E, σ, T, K => K T E σ
 | i :: is, E, σ, T, K =>
  match ops[i]? with
  | none => False
  | some o =>
   dstOK N o = true ∧ @GWant (wantedPV ops E o) ⟨GD P Y N ops is (E.put o.dst (.tuple [])) σ (⟨i, E, σ, false, .tuple []⟩ :: T) K⟩
    ⟨@GWho (whom E o.op) ⟨fun f args => @GCall P Y f args σ ⟨fun v σ' => GD P Y N ops is (E.put o.dst v) σ' (⟨i, E, σ, true, v⟩ :: T) K⟩⟩
     ⟨fun y args => @GYield Y y args σ ⟨fun v σ' => GD P Y N ops is (E.put o.dst v) σ' (⟨i, E, σ, true, v⟩ :: T) K⟩⟩
     ⟨@GOpt (effOp P σ E o.op) ⟨fun v σ' => GD P Y N ops is (E.put o.dst v) σ' (⟨i, E, σ, true, v⟩ :: T) K⟩⟩⟩
def Linked (P : Program) (Y : YEnv) (N : Nat) (ops : Array Oper) : List St → Env → Sg → Env → Sg → Prop
 | [], E, σ, Ef, σf => E = Ef ∧ σ = σf
 | s :: T, E, σ, Ef, σf => s.E = E ∧ s.σ = σ ∧ ∃ E' σ', StepOK P Y N ops s E' σ' ∧ Linked P Y N ops T E' σ' Ef σf
theorem GD_trace {P : Program} {Y : YEnv} {N : Nat} {ops : Array Oper} {K : List St → Env → Sg → Prop} : ∀ (is : List Nat) (E : Env) (σ : Sg) (T : List St), GD P Y N ops is E σ T K →
 ∃ T' Ef σf, Linked P Y N ops T' E σ Ef σf ∧ T'.map (·.i) = is ∧ K (T'.reverse ++ T) Ef σf := by
 intro is
 induction is with
 | nil => intro E σ T h; exact ⟨[], E, σ, ⟨rfl, rfl⟩, rfl, h⟩
 | cons i is ih =>
  intro E σ T h
  simp only [GD] at h
  split at h
  ·exact h.elim
  rename_i o ho
  obtain ⟨hd, hg⟩ := h
  have fin : ∀ (b : Bool) (v : PV) (σ' : Sg), wantedPV ops E o = some b → DoneAs P Y o ⟨i, E, σ, b, v⟩ σ' → GD P Y N ops is (E.put o.dst v) σ' (⟨i, E, σ, b, v⟩ :: T) K →
   ∃ T' Ef σf, Linked P Y N ops T' E σ Ef σf ∧ T'.map (·.i) = i :: is ∧ K (T'.reverse ++ T) Ef σf := by
   intro b v σ' hw hdone hg
   obtain ⟨T', Ef, σf, h1, h2, h3⟩ := ih _ _ _ hg
   exact ⟨⟨i, E, σ, b, v⟩ :: T', Ef, σf, ⟨rfl, rfl, _, σ', ⟨o, ho, hd, hw, rfl, hdone⟩, h1⟩, by simp [h2], by simpa using h3⟩
  cases hw : wantedPV ops E o with
  | none => rw [hw] at hg; exact (hg : False).elim
  | some b =>
   rw [hw] at hg
   cases b with
   | false => rw [GWant_false] at hg; exact fin false (.tuple []) σ hw ⟨rfl, rfl⟩ hg
   | true =>
    rw [GWant_true] at hg
    cases hwh : whom E o.op with
    | nobody =>
     rw [hwh, GWho_nobody] at hg
     cases he : effOp P σ E o.op with
     | none => rw [he] at hg; exact (hg : False).elim
     | some r =>
      obtain ⟨v, σ'⟩ := r
      rw [he, GOpt_some] at hg
      exact fin true v σ' hw (by simp only [DoneAs]; rw [hwh]; exact he) hg
    | fn f args =>
     rw [hwh, GWho_fn] at hg
     obtain ⟨v, σ', hpc, hg⟩ := hg
     exact fin true v σ' hw (by simp only [DoneAs]; rw [hwh]; exact hpc) hg
    | yield y args =>
     rw [hwh, GWho_yield] at hg
     obtain ⟨b, σ', hy, hg⟩ := hg
     exact fin true (.bool b) σ' hw (by simp only [DoneAs]; rw [hwh]; exact ⟨b, rfl, hy⟩) hg
/-- The state before the p-th operation. -/
def st (T : List St) (σf : Sg) (p : Nat) : Sg :=
 match T[p]? with
 | some s => s.σ
 | none => σf
theorem Linked.at {P : Program} {Y : YEnv} {N : Nat} {ops : Array Oper} {Ef : Env} {σf : Sg} : ∀ (T : List St) (E : Env) (σ : Sg) (q : Nat) (s : St), Linked P Y N ops T E σ Ef σf → T[q]? = some s → ∃ E', StepOK P Y N ops s E' (st T σf (q + 1)) := by
 intro T
 induction T with
 | nil => intro E σ q s _ h; simp at h
 | cons a T ih =>
  intro E σ q s h hq
  obtain ⟨h1, h2, E', σ', h3, h4⟩ := h
  cases q with
  | zero =>
   simp at hq
   subst hq
   refine ⟨E', ?_⟩
   have : st (a :: T) σf (0 + 1) = σ' := by
    simp only [st, Nat.zero_add, List.getElem?_cons_succ]
    cases T with
    | nil => exact h4.2.symm
    | cons b T => exact h4.2.1
   rw [this]
   exact h3
  | succ q =>
   have := ih E' σ' q s h4 (by simpa using hq)
   simpa [st] using this
theorem Linked.split {P : Program} {Y : YEnv} {N : Nat} {ops : Array Oper} {Ef : Env} {σf : Sg} : ∀ (T1 : List St) (s : St) (T2 : List St) (E : Env) (σ : Sg), Linked P Y N ops (T1 ++ s :: T2) E σ Ef σf → Linked P Y N ops T1 E σ s.E s.σ := by
 intro T1
 induction T1 with
 | nil => intro s T2 E σ h; exact ⟨h.1.symm, h.2.1.symm⟩
 | cons a T ih =>
  intro s T2 E σ h
  obtain ⟨h1, h2, E', σ', h3, h4⟩ := h
  exact ⟨h1, h2, E', σ', h3, ih s T2 E' σ' h4⟩
/-- What is known of the temporaries when some operations are done. -/
def goE (ops : Array Oper) (vis : Nat → Bool) : List St → Env → Env
 | [], E => E
 | s :: T, E => goE ops vis T (if vis s.i then E.put ((ops[s.i]?).bind (·.dst)) s.v else E)
theorem get_put (E : Env) (d : Option Nat) (v : PV) (t : Nat) : (E.put d v).get t = if d = some t then v else E.get t := by
 cases d with
 | none => simp
 | some d => simp only [Env.put_some, Env.get, Option.some.injEq]
theorem goE_append {ops : Array Oper} {vis : Nat → Bool} (T1 T2 : List St) (E : Env) : goE ops vis (T1 ++ T2) E = goE ops vis T2 (goE ops vis T1 E) := by
 induction T1 generalizing E with
 | nil => rfl
 | cons s T ih => simp only [List.cons_append, goE, ih]
theorem goE_congr {ops : Array Oper} {vis vis' : Nat → Bool} {t : Nat} : ∀ (T : List St) (E E' : Env), (∀ s, s ∈ T → (ops[s.i]?).bind (·.dst) = some t → vis s.i = vis' s.i) → E.get t = E'.get t →
    (goE ops vis T E).get t = (goE ops vis' T E').get t := by
  intro T
  induction T with
  | nil => intro E E' _ h; exact h
  | cons s T ih =>
    intro E E' h he
    simp only [goE]
    refine ih _ _ (fun s' hs' => h s' (List.mem_cons_of_mem _ hs')) ?_
    have hs := h s (List.mem_cons_self ..)
    by_cases hd : (ops[s.i]?).bind (·.dst) = some t
    · rw [hs hd]
      split
      · rw [get_put, get_put, if_pos hd, if_pos hd]
      · exact he
    · split <;> split <;> first
        | exact he
        | (rw [get_put, if_neg hd]; first | exact he | (rw [get_put, if_neg hd]; exact he))
        | (rw [get_put, get_put, if_neg hd, if_neg hd]; exact he)
        | (conv => rhs; rw [get_put, if_neg hd]
           exact he)
theorem goE_off {ops : Array Oper} {vis : Nat → Bool} {t : Nat} (T : List St) (E : Env) (h : ∀ s, s ∈ T → (ops[s.i]?).bind (·.dst) = some t → vis s.i = false) : (goE ops vis T E).get t = E.get t := by
 have := goE_congr (ops := ops) (vis := vis) (vis' := fun _ => false) T E E h rfl
 rw [this]
 clear this h
 induction T generalizing E with
 | nil => rfl
 | cons s T ih => simp only [goE, Bool.false_eq_true, if_false]; exact ih E
theorem goE_linked {P : Program} {Y : YEnv} {N : Nat} {ops : Array Oper} {Ef : Env} {σf : Sg} {vis : Nat → Bool} : ∀ (T : List St) (E : Env) (σ : Sg), Linked P Y N ops T E σ Ef σf → (∀ s, s ∈ T → vis s.i = true) → goE ops vis T E = Ef := by
 intro T
 induction T with
 | nil => intro E σ h _; exact h.1
 | cons s T ih =>
  intro E σ h hv
  obtain ⟨h1, h2, E', σ', ⟨o, ho, _, _, he, _⟩, h4⟩ := h
  simp only [goE]
  rw [hv s (List.mem_cons_self ..), if_pos rfl, ← ih E' σ' h4 (fun s' hs' => hv s' (List.mem_cons_of_mem _ hs')), ho, he, h1]
  rfl
theorem split_at {α : Type} {T : List α} {q : Nat} {s : α} (h : T[q]? = some s) : T = T.take q ++ s :: T.drop (q + 1) := by
 obtain ⟨hlt, rfl⟩ := List.getElem?_eq_some_iff.1 h
 rw [← List.drop_eq_getElem_cons hlt, List.take_append_drop]
theorem goE_before {P : Program} {Y : YEnv} {N : Nat} {ops : Array Oper} {Ef : Env} {σf : Sg} {vis : Nat → Bool} {T : List St} {E : Env} {σ : Sg} (hl : Linked P Y N ops T E σ Ef σf) {q : Nat} {s : St} (hq : T[q]? = some s) {t : Nat}
 (h1 : ∀ (q' : Nat) (s' : St), q' < q → T[q']? = some s' → (ops[s'.i]?).bind (·.dst) = some t → vis s'.i = true)
 (h2 : ∀ (q' : Nat) (s' : St), q ≤ q' → T[q']? = some s' → (ops[s'.i]?).bind (·.dst) = some t → vis s'.i = false) : (goE ops vis T E).get t = s.E.get t := by
 have hT := split_at hq
 have hlt : q < T.length := (List.getElem?_eq_some_iff.1 hq).1
 have hl' := hl
 rw [hT] at hl' ⊢
 rw [goE_append, goE_off]
 ·have := goE_linked (vis := fun _ => true) _ _ _ hl'.split (fun _ _ => rfl)
  rw [← this]
  refine goE_congr _ _ _ (fun s' hs' hd => ?_) rfl
  obtain ⟨j, hj⟩ := List.mem_iff_getElem?.1 hs'
  rw [List.getElem?_take] at hj
  split at hj
  ·rename_i hjq; exact h1 j s' hjq hj hd
  cases hj
 intro s' hs' hd
 rcases List.mem_cons.1 hs' with rfl | hs'
 ·exact h2 q _ (Nat.le_refl _) hq hd
 obtain ⟨j, hj⟩ := List.mem_iff_getElem?.1 hs'
 rw [List.getElem?_drop] at hj
 exact h2 (q + 1 + j) s' (by omega) hj hd
theorem goE_just {ops : Array Oper} {vis : Nat → Bool} {T : List St} {E : Env} {q : Nat} {s : St} (hq : T[q]? = some s) {t : Nat} (hd : (ops[s.i]?).bind (·.dst) = some t) (hv : vis s.i = true)
 (h2 : ∀ (q' : Nat) (s' : St), q < q' → T[q']? = some s' → (ops[s'.i]?).bind (·.dst) = some t → vis s'.i = false) : (goE ops vis T E).get t = s.v := by
 have hT := split_at hq
 rw [hT, goE_append]
 simp only [goE]
 rw [hv, if_pos rfl, goE_off, get_put, if_pos hd]
 intro s' hs' hd'
 obtain ⟨j, hj⟩ := List.mem_iff_getElem?.1 hs'
 rw [List.getElem?_drop] at hj
 exact h2 (q + 1 + j) s' (by omega) hj hd'
section
variable (ops : Array Oper) (is : List Nat) (plan : List (Nat × Nat)) (pre : List (List Nat))
def opAt (q : Nat) : Option Oper := (is[q]?).bind (ops[·]?)
def chainAt (q : Nat) : Bool := (opAt ops is q).any fun o => writes o || allocs o
def writesAt (q : Nat) : Bool := (opAt ops is q).any writes
def allocsAt (q : Nat) : Bool := (opAt ops is q).any allocs
def dstAt (q : Nat) : Option Nat := (opAt ops is q).bind (·.dst)
def looksAt (q : Nat) : List Nat := match opAt ops is q with | some o => looks ops o | none => []
def dir (i : Nat) : List Nat := match ops[i]? with | some o => (o.after.toList.filter (Region.binds .any)).map (·.on) | none => []
def preAt (q q' : Nat) : Bool := (pre.getD (is.getD q 0) []).contains (is.getD q' 0)
def noChain (q p : Nat) : Bool := (List.range ops.size).all fun r => !chainAt ops is r || decide (r < min q p) || decide (max q p ≤ r)
def drawOK : Bool :=
 is.length == ops.size &&
 ((List.range ops.size).all fun i => is.contains i) &&
 ((List.range ops.size).all fun q => is.idxOf (is.getD q 0) == q) &&
 ((List.range ops.size).all fun i => (dir ops i).all fun j => decide (j < ops.size ∧ is.idxOf j < is.idxOf i)) &&
 ((List.range ops.size).all fun i => (pre.getD i []).all fun j => (dir ops i).contains j || (dir ops i).any fun k => (pre.getD k []).contains j) &&
 ((List.range ops.size).all fun q => (List.range ops.size).all fun q' => !(writesAt ops is q && decide (q' < q) && chainAt ops is q') || preAt is pre q q') &&
 ((List.range ops.size).all fun q => (List.range ops.size).all fun q' => match dstAt ops is q' with
  | none => true
  | some t => (!(looksAt ops is q).contains t || ((!decide (q' < q) || (preAt is pre q q' && (!allocsAt ops is q' || (List.range (q' + 1)).all fun r => !chainAt ops is r || preAt is pre q r))) && (!decide (q < q') || preAt is pre q' q))) &&
   (!(dstAt ops is q == some t && decide (q' < q)) || preAt is pre q q') && (!(allocsAt ops is q && q' != q) || dstAt ops is q != some t)) &&
 ((List.range ops.size).all fun q => !allocsAt ops is q || (opAt ops is q).any fun o => o.guard.isNone && o.dst.isSome) &&
 ((List.range ops.size).all fun q => chainAt ops is q || (List.range (ops.size + 1)).all fun p => !(p == ops.size || chainAt ops is p) || !((List.range p).all fun r => !chainAt ops is r || !preAt is pre r q) ||
  !((List.range ops.size).all fun r => decide (r < p) || !writesAt ops is r || !preAt is pre q r) || noChain ops is q p || plan.contains (q, p))
structure Facts : Prop where
 len : is.length = ops.size
 mem : ∀ i, i < ops.size → i ∈ is
 inj : ∀ q, q < ops.size → is.idxOf (is.getD q 0) = q
 dlt : ∀ i, i < ops.size → ∀ j, j ∈ dir ops i → j < ops.size ∧ is.idxOf j < is.idxOf i
 prs : ∀ i, i < ops.size → ∀ j, j ∈ pre.getD i [] → j ∈ dir ops i ∨ ∃ k, k ∈ dir ops i ∧ j ∈ pre.getD k []
 c4 : ∀ q q', q < ops.size → q' < q → writesAt ops is q = true → chainAt ops is q' = true → preAt is pre q q' = true
 c5 : ∀ q q' t, q < ops.size → q' < ops.size → dstAt ops is q' = some t → t ∈ looksAt ops is q →
  (q' < q → preAt is pre q q' = true ∧ (allocsAt ops is q' = true → ∀ r, r ≤ q' → chainAt ops is r = true → preAt is pre q r = true)) ∧ (q < q' → preAt is pre q' q = true)
 c6 : ∀ q q' t, q < ops.size → q' < q → dstAt ops is q = some t → dstAt ops is q' = some t → preAt is pre q q' = true
 c7 : ∀ q q' t, q < ops.size → q' < ops.size → allocsAt ops is q = true → q' ≠ q → dstAt ops is q = some t → dstAt ops is q' ≠ some t
 c7b : ∀ q, q < ops.size → allocsAt ops is q = true → ∃ o d, opAt ops is q = some o ∧ o.guard = none ∧ o.dst = some d
 c8 : ∀ q p, q < ops.size → p ≤ ops.size → chainAt ops is q = false → (p = ops.size ∨ chainAt ops is p = true) → (∀ r, r < p → chainAt ops is r = true → preAt is pre r q = false) →
  (∀ r, p ≤ r → r < ops.size → writesAt ops is r = true → preAt is pre q r = false) → (∀ r, r < ops.size → chainAt ops is r = true → r < min q p ∨ max q p ≤ r) ∨ (q, p) ∈ plan
theorem drawOK_facts (h : drawOK ops is plan pre = true) : Facts ops is plan pre := by
 unfold drawOK at h
 simp only [Bool.and_eq_true, List.all_eq_true, List.mem_range, beq_iff_eq, decide_eq_true_eq, Bool.or_eq_true, List.contains_iff_mem, List.any_eq_true, Bool.not_eq_true', Bool.and_eq_false_iff, decide_eq_false_iff_not] at h
 obtain ⟨⟨⟨⟨⟨⟨⟨⟨h1, h2⟩, h3⟩, h4⟩, h5⟩, h6⟩, h7⟩, h8⟩, h9⟩ := h
 refine ⟨h1, h2, h3, h4, fun i hi j hj => ?_, fun q q' hq hq' hw hc => ?_, fun q q' t hq hq' hd hl => ?_, fun q q' t hq hq' hd hd' => ?_, fun q q' t hq hq' ha hne hd hd' => ?_, fun q hq ha => ?_, fun q p hq hp hc hpc k1 k2 => ?_⟩
 ·rcases h5 i hi j hj with h | ⟨k, hk, hj'⟩
  ·exact .inl h
  exact .inr ⟨k, hk, hj'⟩
 ·rcases h6 q hq q' (by omega) with h | h
  ·rcases h with (h | h) | h
   ·rw [hw] at h; cases h
   ·exact absurd hq' h
   rw [hc] at h; cases h
  exact h
 ·have := h7 q hq q' hq'
  rw [hd] at this
  simp only [Bool.and_eq_true, Bool.or_eq_true, Bool.not_eq_true', decide_eq_false_iff_not, List.all_eq_true, List.mem_range] at this
  obtain ⟨⟨a, _⟩, _⟩ := this
  rcases a with a | ⟨a1, a2⟩
  ·have : (looksAt ops is q).contains t = true := List.contains_iff_mem.2 hl
   rw [this] at a; cases a
  refine ⟨fun hlt => ?_, fun hlt => ?_⟩
  ·rcases a1 with a1 | ⟨a1, a3⟩
   ·exact absurd hlt a1
   refine ⟨a1, fun hal r hr hcr => ?_⟩
   rcases a3 with a3 | a3
   ·rw [hal] at a3; cases a3
   rcases a3 r (by omega) with a | a
   ·rw [hcr] at a; cases a
   exact a
  rcases a2 with a2 | a2
  ·exact absurd hlt a2
  exact a2
 ·have := h7 q hq q' (by omega)
  rw [hd'] at this
  simp only [Bool.and_eq_true, Bool.or_eq_true, Bool.not_eq_true', Bool.and_eq_false_iff, decide_eq_false_iff_not, beq_eq_false_iff_ne] at this
  obtain ⟨⟨_, a⟩, _⟩ := this
  rcases a with (a | a) | a
  ·exact absurd hd a
  ·exact absurd hq' a
  exact a
 ·have := h7 q hq q' hq'
  rw [hd'] at this
  simp only [Bool.and_eq_true, Bool.or_eq_true, Bool.not_eq_true', Bool.and_eq_false_iff, bne_iff_ne, ne_eq] at this
  obtain ⟨_, a⟩ := this
  rcases a with (a | a) | a
  ·rw [ha] at a; cases a
  ·simp only [bne_eq_false_iff_eq] at a; exact hne a
  exact a hd
 ·rcases h8 q hq with a | a
  ·rw [ha] at a; cases a
  cases ho : opAt ops is q with
  | none => rw [ho] at a; cases a
  | some o =>
   rw [ho] at a
   simp only [Option.any_some, Bool.and_eq_true, Option.isNone_iff_eq_none, Option.isSome_iff_exists] at a
   obtain ⟨a1, d, a2⟩ := a
   exact ⟨o, d, rfl, a1, a2⟩
 rcases h9 q hq with a | a
 ·rw [hc] at a; cases a
 rcases a p (by omega) with (((a | a) | a) | a) | a
 ·simp only [Bool.or_eq_false_iff, beq_eq_false_iff_ne] at a
  rcases hpc with e | e
  ·exact absurd e a.1
  rw [a.2] at e; cases e
 ·exfalso
  rw [Bool.eq_false_iff] at a
  refine a (List.all_eq_true.2 fun r hr => ?_)
  rw [List.mem_range] at hr
  cases hcr : chainAt ops is r with
  | false => rfl
  | true => rw [k1 r hr hcr]; rfl
 ·exfalso
  rw [Bool.eq_false_iff] at a
  refine a (List.all_eq_true.2 fun r hr => ?_)
  rw [List.mem_range] at hr
  by_cases hrp : r < p
  ·simp [hrp]
  cases hcr : writesAt ops is r with
  | false => simp
  | true => rw [k2 r (by omega) hr hcr]; simp
 ·refine .inl fun r hr hcr => ?_
  unfold noChain at a
  have := List.all_eq_true.1 a r (List.mem_range.2 hr)
  rw [hcr] at this
  simpa using this
 exact .inr a
end
theorem Rel.congr {N : Nat} {D : List Nat} {Ψ : Ty} {E E' : Env} {σ : Sg} {a : Act} {w : World} (h : Rel N D Ψ E σ a w) (he : ∀ t, E'.get t = E.get t) : Rel N D Ψ E' σ a w :=
 ⟨h.size, ⟨fun t => by rw [he t]; exact h.env t, h.env.gt⟩, h.sg, h.dsub, h.defs⟩
theorem DoneAs_congr {P : Program} {Y : YEnv} {ops : Array Oper} {o : Oper} {E E' : Env} (h : ∀ t, t ∈ looks ops o → E.get t = E'.get t) {i : Nat} {σ σ' : Sg} {b : Bool} {v : PV}
 (hd : DoneAs P Y o ⟨i, E, σ, b, v⟩ σ') : DoneAs P Y o ⟨i, E', σ, b, v⟩ σ' := by
 unfold DoneAs at *
 cases b with
 | false => exact hd
 | true =>
  simp only at *
  rw [← whom_congr (opsCongr h), ← effOp_congr (opsCongr h)]
  exact hd
section
variable {P : Program} {Y : YEnv} {N : Nat} {rd : Option Nat} {D : List Nat} {ops : Array Oper} {Ψ0 Ψ : Ty} {Q : Exit → Act → World → Prop}
theorem exec_ok {i : Nat} {o : Oper} (ho : ops[i]? = some o) {E : Env} {σ σ' : Sg} {b : Bool} {v : PV} {a : Act} {w : World} {K : Act → World → Prop} (hr : Rel N D Ψ E σ a w) (le : Ψ0.le Ψ) (hy : YOK P Y Ψ0)
 (hw : wantedPV ops E o = some b) (hd : DoneAs P Y o ⟨i, E, σ, b, v⟩ σ')
 (hk : ∀ Ψ' w' x, Ψ.le Ψ' → SR Ψ' σ' w' → VR Ψ' v x → Below Ψ.base w w' → K (a.put o.dst x) w') : wpOpIn (FnOf Ψ0 rd) 0 P ops Q i K a w := by
 unfold wpOpIn
 rw [ho]
 simp only
 rw [wanted_ok hw hr.env]
 cases b with
 | false =>
  simp only [Bool.false_eq_true, if_false]
  obtain ⟨h1, h2⟩ := hd
  simp only at h1 h2
  subst h1 h2
  exact ⟨fun f _ => FnOf_fn _ _ _, hk Ψ w undef (Ty.le.refl _) hr.sg (skipped_ok _) (Below.refl _ _)⟩
 | true =>
  simp only [if_true]
  refine ⟨fun f _ => FnOf_fn _ _ _, ?_⟩
  unfold DoneAs at hd
  simp only at hd
  cases hwh : whom E o.op with
  | nobody =>
   rw [hwh] at hd
   simp only at hd
   obtain ⟨nx, x, w', Ψ', k1, k2, k3, k4, k5, k6⟩ := effOp_ok hd hr.sg hr.env
   rw [Oper.semAt_eq _ _ _ (effOp_not_defer hd), k1]
   rcases k2 with rfl | ⟨rfl, rfl⟩
   ·exact hk Ψ' w' x k3 k4 k5 k6
   exact hk Ψ' w' _ k3 k4 k5 k6
  | fn f args =>
   rw [hwh] at hd
   simp only at hd
   obtain ⟨hnd, vals, k1, k2⟩ := whom_fn hwh hr.env hd.1 w
   rw [Oper.semAt_eq _ _ _ hnd, k1]
   refine ⟨fun h => (by rw [FnOf_depth] at h; cases h), ?_⟩
   refine CallsIn.mono (callsIn_FnOf (hd.2 Ψ vals w hr.sg k2 (hy.mono le))) fun e w' hh => ?_
   obtain ⟨x, Ψ', rfl, l1, l2, l3, l4⟩ := hh
   exact hk Ψ' w' x l1 l2 l3 l4
  | yield y args =>
   rw [hwh] at hd
   simp only at hd
   obtain ⟨b, rfl, hargs⟩ := hd
   obtain ⟨hnd, vals, l, d, hl1, k2, hrun⟩ := whom_yield hwh hr.env
   obtain ⟨l', r0, hl2, hround⟩ := (hy.mono le).2 y args σ b σ' hargs
   rw [hl1] at hl2
   injection hl2 with hl2
   injection hl2 with hl2 _
   subst hl2
   obtain ⟨r, q1, q2, q3⟩ := hround Ψ vals w (Ty.le.refl _) hr.sg k2
   rw [Oper.semAt_eq _ _ _ hnd, hrun P w r q1 q2]
   refine ⟨fun h => (by rw [FnOf_depth] at h; cases h), ?_⟩
   refine RoundIn.mono (roundIn_FnOf q3) fun e w' hh => ?_
   obtain ⟨Ψ', rfl, l1, l2, l4⟩ := hh
   exact hk Ψ' w' _ l1 l2 (.bool b) l4
theorem exec_alloc {i : Nat} {o : Oper} (ho : ops[i]? = some o) {t : TypeId} (hop : o.op = .alloc t) (hg : o.guard = none) {zs : List PV} (hz : zeroPV P t = some zs) {E : Env} {σ : Sg} {a : Act} {w : World} {K : Act → World → Prop}
 (hr : Rel N D Ψ E σ a w)
 (hk : ∀ c : Array Value, c.size = zs.length → (∀ Ψ (j : Nat) (p : PV) (v : Value), zs[j]? = some p → c[j]? = some v → VR Ψ p v) →
  K (a.put o.dst (.pointer (some ⟨w.heap.size, 0, none⟩))) (w.alloc (.cells c t))) : wpOpIn (FnOf Ψ0 rd) 0 P ops Q i K a w := by
 unfold wpOpIn
 rw [ho]
 simp only
 have hw : wantedPV ops E o = some true := by unfold wantedPV; rw [hg]
 rw [wanted_ok hw hr.env]
 simp only [if_true]
 refine ⟨fun f _ => FnOf_fn _ _ _, ?_⟩
 obtain ⟨z, h1, _⟩ := zeroPV_ok (w := w) hz Ψ
 have h2 : ∀ Ψ, VRs Ψ zs z.cells := fun Ψ' => by
  obtain ⟨z', h1', h2'⟩ := zeroPV_ok (w := w) hz Ψ'
  rw [h1] at h1'
  injection h1' with h1' _
  subst h1'
  exact h2'
 have hrun : (execOp a.eval o).run P w = .ok (.value (.pointer (some ⟨w.heap.size, 0, none⟩))) (w.alloc (.cells z.cells t)) := by
  unfold execOp
  rw [hop]
  simp only
  have : (Instr.alloc t true (.tuple #[])).run P w = .ok (.pointer (some ⟨w.heap.size, 0, none⟩)) (w.alloc (.cells z.cells t)) := by
   unfold Instr.alloc
   rw [run_bind_ok h1]
   rfl
  rw [run_bind_ok this]
  rfl
 rw [Oper.semAt_eq _ _ _ (fun c => by rw [hop]; intro e; cases e), hrun]
 exact hk z.cells (h2 Ψ).1 fun Ψ' => (h2 Ψ').2
end
section
variable {P : Program} {Y : YEnv} {N : Nat} {ops : Array Oper} {is : List Nat} {plan : List (Nat × Nat)} {pre : List (List Nat)} {T : List St} {E0 Ef : Env} {σ0 σf : Sg}
/-- The walked order, and what it showed. -/
structure Shown (P : Program) (Y : YEnv) (N : Nat) (ops : Array Oper) (is : List Nat) (plan : List (Nat × Nat)) (pre : List (List Nat)) (T : List St) (E0 Ef : Env) (σ0 σf : Sg) : Prop where
 facts : Facts ops is plan pre
 link : Linked P Y N ops T E0 σ0 Ef σf
 map : T.map (·.i) = is
 dem : ∀ q p, (q, p) ∈ plan → chainAt ops is q = false → ∀ s o, T[q]? = some s → ops[s.i]? = some o → s.b = true → effOp P (st T σf p) s.E o.op = some (s.v, st T σf p)
 fresh : ∀ q d, allocsAt ops is q = true → dstAt ops is q = some d → E0.get d = .undef
variable (H : Shown P Y N ops is plan pre T E0 Ef σ0 σf)
include H
theorem Shown.len : T.length = ops.size := by rw [← H.facts.len, ← H.map]; simp
theorem Shown.isAt {q : Nat} {s : St} (h : T[q]? = some s) : is[q]? = some s.i := by rw [← H.map]; simp [h]
theorem Shown.nth {q : Nat} {s : St} (h : T[q]? = some s) : is.getD q 0 = s.i := by
 have := H.isAt h
 simp [List.getD_eq_getElem?_getD, this]
theorem Shown.lt {q : Nat} {s : St} (h : T[q]? = some s) : q < ops.size := by rw [← H.len]; exact (List.getElem?_eq_some_iff.1 h).1
theorem Shown.has {q : Nat} (h : q < ops.size) : ∃ s, T[q]? = some s := by rw [← H.len] at h; exact ⟨T[q], by simp [h]⟩
theorem Shown.idx {q : Nat} {s : St} (h : T[q]? = some s) : is.idxOf s.i = q := by rw [← H.nth h]; exact H.facts.inj q (H.lt h)
theorem Shown.inj {q q' : Nat} {s s' : St} (h : T[q]? = some s) (h' : T[q']? = some s') (e : s.i = s'.i) : q = q' := by rw [← H.idx h, ← H.idx h', e]
theorem Shown.opEq {q : Nat} {s : St} (h : T[q]? = some s) : opAt ops is q = ops[s.i]? := by simp [YtpkkegbiddcodaaGreatDoor.opAt, H.isAt h]
theorem Shown.step {q : Nat} {s : St} (h : T[q]? = some s) : ∃ E', StepOK P Y N ops s E' (st T σf (q + 1)) := H.link.at T E0 σ0 q s h
theorem Shown.pos {i : Nat} (h : i < ops.size) : ∃ (q : Nat) (s : St), T[q]? = some s ∧ s.i = i := by
 have := H.facts.mem i h
 rw [← H.map] at this
 obtain ⟨s, hs, e⟩ := List.mem_map.1 this
 obtain ⟨q, hq⟩ := List.mem_iff_getElem?.1 hs
 exact ⟨q, s, hq, e⟩
theorem Shown.ilt {q : Nat} {s : St} (h : T[q]? = some s) : s.i < ops.size := by
 obtain ⟨E', o, ho, _⟩ := H.step h
 exact (Array.getElem?_eq_some_iff.1 ho).1
theorem Shown.preAt {q q' : Nat} {s s' : St} (h : T[q]? = some s) (h' : T[q']? = some s') : preAt is pre q q' = true ↔ s'.i ∈ pre.getD s.i [] := by
 unfold YtpkkegbiddcodaaGreatDoor.preAt
 rw [H.nth h, H.nth h', List.contains_iff_mem]
/-- Where nothing turns the state, it is the same. -/
theorem Shown.same1 {q : Nat} (hq : q < ops.size) (hc : chainAt ops is q = false) : st T σf (q + 1) = st T σf q := by
 obtain ⟨s, hs⟩ := H.has hq
 obtain ⟨E', o, ho, _, _, _, hd⟩ := H.step hs
 unfold chainAt at hc
 rw [H.opEq hs, ho] at hc
 simp only [Option.any_some, Bool.or_eq_false_iff] at hc
 have hst : st T σf q = s.σ := by simp [st, hs]
 rw [hst]
 unfold DoneAs at hd
 split at hd
 ·exact hd.2
 rw [whom_quiet hc.1] at hd
 exact quiet hc.1 hc.2 hd
theorem Shown.same {q k : Nat} (h : q + k ≤ ops.size) (hc : ∀ r, q ≤ r → r < q + k → chainAt ops is r = false) : st T σf (q + k) = st T σf q := by
 induction k with
 | zero => rfl
 | succ k ih =>
  rw [← ih (by omega) (fun r h1 h2 => hc r h1 (by omega))]
  have := H.same1 (q := q + k) (by omega) (hc (q + k) (by omega) (by omega))
  exact this
end
def vis (ops : Array Oper) (is : List Nat) (listed : Array Bool) (p : Nat) (i : Nat) : Bool :=
 listed.getD i false && (!((ops[i]?).any allocs) || decide (is.idxOf i < p))
section
variable {P : Program} {Y : YEnv} {N : Nat} {rd : Option Nat} {D : List Nat} {Ψ0 : Ty} {w0 : World} {Q : Exit → Act → World → Prop} {ops : Array Oper} {is : List Nat} {plan : List (Nat × Nat)} {pre : List (List Nat)} {T : List St} {E0 Ef : Env} {σ0 σf : Sg}
/-- The blocks of the variables that are made, but not yet due. -/
def Pend (P : Program) (ops : Array Oper) (is : List Nat) (Ψ0 Ψ : Ty) (a : Act) (q b : Nat) (c : Array Value) : Prop :=
 ∃ d o t zs, dstAt ops is q = some d ∧ opAt ops is q = some o ∧ o.op = .alloc t ∧ zeroPV P t = some zs ∧ zs.length ≤ c.size ∧ (∀ Ψ (j : Nat) (p : PV) (v : Value), zs[j]? = some p → c[j]? = some v → VR Ψ p v) ∧
  a.tmps.getD d undef = .pointer (some ⟨b, 0, none⟩) ∧ (b, c) ∈ Ψ.rs ∧ ∀ c', (b, c') ∉ Ψ0.rs
structure Inv (P : Program) (N : Nat) (D : List Nat) (Ψ0 : Ty) (w0 : World) (ops : Array Oper) (is : List Nat) (T : List St) (E0 : Env) (σf : Sg) (listed : Array Bool) (p : Nat) (bl : Nat → Option (Nat × Array Value)) (Ψ : Ty) (a : Act) (w : World) : Prop where
 size : listed.size = ops.size
 closed : ∀ i, listed.getD i false = true → ∀ j, j ∈ dir ops i → listed.getD j false = true
 pn : p ≤ ops.size
 below : ∀ q s, q < p → T[q]? = some s → chainAt ops is q = true → listed.getD s.i false = true
 above : ∀ q s, p ≤ q → T[q]? = some s → writesAt ops is q = true → listed.getD s.i false = false
 le : Ψ0.le Ψ
 rel : Rel N D Ψ (goE ops (vis ops is listed p) T E0) (st T σf p) a w
 pend : ∀ q s, p ≤ q → T[q]? = some s → allocsAt ops is q = true → listed.getD s.i false = true → ∃ b c, bl q = some (b, c) ∧ Pend P ops is Ψ0 Ψ a q b c
 apart : ∀ q q' b c c', bl q = some (b, c) → bl q' = some (b, c') → q = q'
 blt : ∀ q b c, bl q = some (b, c) → b < w.heap.size
 bel : Below Ψ0.base w0 w
variable (H : Shown P Y N ops is plan pre T E0 Ef σ0 σf)
include H
theorem Shown.opS {q : Nat} {s : St} (h : T[q]? = some s) : ∃ o, ops[s.i]? = some o ∧ opAt ops is q = some o ∧ dstOK N o = true ∧ wantedPV ops s.E o = some s.b ∧ DoneAs P Y o s (st T σf (q + 1)) := by
 obtain ⟨E', o, ho, h1, h2, _, h3⟩ := H.step h
 exact ⟨o, ho, by rw [H.opEq h, ho], h1, h2, h3⟩
/-- Whatever must come before is done. -/
theorem Shown.preListed {listed : Array Bool} (hc : ∀ i, listed.getD i false = true → ∀ j, j ∈ dir ops i → listed.getD j false = true) :
 ∀ i, i < ops.size → (∀ j, j ∈ dir ops i → listed.getD j false = true) → ∀ j, j ∈ pre.getD i [] → listed.getD j false = true := by
 intro i
 induction hn : is.idxOf i using Nat.strongRecOn generalizing i with
 | _ n ih =>
  intro hi hd j hj
  subst hn
  rcases H.facts.prs i hi j hj with h | ⟨k, hk, hj'⟩
  ·exact hd j h
  obtain ⟨hk', hlt⟩ := H.facts.dlt i hi k hk
  exact ih _ hlt k rfl hk' (hc k (hd k hk)) j hj'
theorem Inv.preL {listed : Array Bool} {p : Nat} {bl : Nat → Option (Nat × Array Value)} {Ψ : Ty} {a : Act} {w : World} (I : Inv P N D Ψ0 w0 ops is T E0 σf listed p bl Ψ a w) {q q' : Nat} {s s' : St} (hq : T[q]? = some s) (hq' : T[q']? = some s')
 (hl : listed.getD s.i false = true) (hp : preAt is pre q q' = true) : listed.getD s'.i false = true :=
 H.preListed I.closed s.i (H.ilt hq) (I.closed s.i hl) s'.i ((H.preAt hq hq').1 hp)
/-- On, over what turns nothing or is made already. -/
theorem Inv.advance {listed : Array Bool} {p : Nat} {bl : Nat → Option (Nat × Array Value)} {Ψ : Ty} {a : Act} {w : World} (I : Inv P N D Ψ0 w0 ops is T E0 σf listed p bl Ψ a w) (hp : p < ops.size)
 (h : chainAt ops is p = false ∨ (allocsAt ops is p = true ∧ ∀ s, T[p]? = some s → listed.getD s.i false = true)) : ∃ Ψ', Inv P N D Ψ0 w0 ops is T E0 σf listed (p + 1) bl Ψ' a w := by
 obtain ⟨s, hs⟩ := H.has hp
 obtain ⟨o, ho, hoa, hdok, hwt, hdone⟩ := H.opS hs
 have visne : ∀ i, is.idxOf i ≠ p → vis ops is listed (p + 1) i = vis ops is listed p i := by
  intro i hi
  unfold vis
  congr 2
  simp only [decide_eq_decide]
  omega
 have below' : ∀ q s', q < p + 1 → T[q]? = some s' → chainAt ops is q = true → listed.getD s'.i false = true := by
  intro q s' hq hs' hc
  by_cases e : q = p
  ·subst e
   rw [hs] at hs'
   injection hs' with hs'
   subst hs'
   rcases h with h | h
   ·rw [hc] at h; cases h
   exact h.2 s hs
  exact I.below q s' (by omega) hs' hc
 rcases h with h | ⟨h, hl⟩
 ·have hna : allocs o = false := by
   unfold chainAt at h; rw [hoa] at h; simp only [Option.any_some, Bool.or_eq_false_iff] at h; exact h.2
  refine ⟨Ψ, I.size, I.closed, by omega, below', fun q s' hq => I.above q s' (by omega), I.le, ?_, fun q s' hq => I.pend q s' (by omega), I.apart, I.blt, I.bel⟩
  rw [H.same1 hp h]
  refine I.rel.congr fun t => goE_congr _ _ _ (fun s' hs' _ => ?_) rfl
  obtain ⟨q', hq'⟩ := List.mem_iff_getElem?.1 hs'
  by_cases e : is.idxOf s'.i = p
  ·rw [H.idx hq'] at e
   subst e
   rw [hs] at hq'
   injection hq' with hq'
   subst hq'
   unfold vis
   rw [ho]
   simp [hna]
  exact visne _ e
 have hlisted := hl s hs
 obtain ⟨b, c, hbl, d, o', t, zs, hd, ho', hop, hz, hzl, hzv, htmp, hrs, hrs0⟩ := I.pend p s (Nat.le_refl _) hs h hlisted
 rw [hoa] at ho'
 injection ho' with ho'
 subst ho'
 have hdst : o.dst = some d := by unfold dstAt at hd; rw [hoa] at hd; exact hd
 have hdst' : (ops[s.i]?).bind (·.dst) = some d := by rw [ho]; exact hdst
 have hal : allocs o = true := by unfold allocs; rw [hop]
 obtain ⟨o2, _, ho2, hguard, _⟩ := H.facts.c7b p hp h
 rw [hoa] at ho2
 injection ho2 with ho2
 subst ho2
 have hb : s.b = true := by
  unfold wantedPV at hwt
  rw [hguard] at hwt
  injection hwt with hwt
  exact hwt.symm
 -- what the walked order made of it
 have hdone' : effOp P s.σ s.E o.op = some (s.v, st T σf (p + 1)) := by
  unfold DoneAs at hdone
  rw [hb] at hdone
  simp only at hdone
  have : whom s.E o.op = .nobody := by rw [hop]; rfl
  rw [this] at hdone
  exact hdone
 rw [hop] at hdone'
 simp only [effOp, hz, Option.map_some, Option.some.injEq, Prod.mk.injEq] at hdone'
 obtain ⟨hv, hσ⟩ := hdone'
 have hst : st T σf p = s.σ := by simp [st, hs]
 have hsr := I.rel.sg
 have hdok' : d < a.tmps.size := by
  unfold dstOK at hdok
  rw [hdst] at hdok
  rw [I.rel.size]
  simpa using hdok
 have hsr' := hsr.use hrs zs hzl (hzv Ψ)
 rw [hst, hσ] at hsr'
 refine ⟨Ψ.use b, I.size, I.closed, by omega, below', fun q s' hq => I.above q s' (by omega), Ty.use_le I.le hrs0, ⟨I.rel.size, ⟨fun t' => ?_, I.rel.env.gt⟩, hsr', fun d' k => I.rel.dsub d' k, ?_⟩, fun q s' hq hs' ha hl' => ?_, I.apart, I.blt, I.bel⟩
 ·by_cases ht : t' = d
  ·subst ht
   have : (goE ops (vis ops is listed (p + 1)) T E0).get t' = s.v := goE_just hs hdst' (by unfold vis; rw [hlisted, H.idx hs]; simp) (fun q' s' hq' hs' hd' => by
    exfalso
    have := H.facts.c7 p q' t' hp (H.lt hs') h (by omega) hd
    apply this
    unfold dstAt
    rw [H.opEq hs']
    exact hd')
   rw [this, htmp, ← hv]
   refine .ptr _ _ _ ?_ (List.mem_cons_self ..)
   show (Ψ.β ++ [b])[s.σ.store.length]? = _
   rw [← hst, ← hsr.blen]
   simp
  have : (goE ops (vis ops is listed (p + 1)) T E0).get t' = (goE ops (vis ops is listed p) T E0).get t' := goE_congr _ _ _ (fun s' hs' hd' => by
   obtain ⟨q', hq'⟩ := List.mem_iff_getElem?.1 hs'
   refine visne _ fun e => ht ?_
   rw [H.idx hq'] at e
   subst e
   rw [hs] at hq'
   injection hq' with hq'
   subst hq'
   rw [hdst'] at hd'
   injection hd' with hd'
   exact hd'.symm) rfl
  rw [this]
  exact (I.rel.env t').use b
 ·obtain ⟨rs, r1, r2, r3⟩ := I.rel.defs
  exact ⟨rs, r1, r2, r3⟩
 obtain ⟨b', c', hbl', d', o', t', zs', x1, x2, x3, x4, x5, x6, x7, x8, x9⟩ := I.pend q s' (by omega) hs' ha hl'
 refine ⟨b', c', hbl', d', o', t', zs', x1, x2, x3, x4, x5, x6, x7, List.mem_filter.2 ⟨x8, ?_⟩, x9⟩
 simp only [bne_iff_ne, ne_eq]
 rintro rfl
 have := I.apart q p _ _ _ hbl' hbl
 omega
/-- As far on as may be. -/
theorem Inv.far {listed : Array Bool} {bl : Nat → Option (Nat × Array Value)} {a : Act} {w : World} : ∀ (k p : Nat) (Ψ : Ty), p + k = ops.size → Inv P N D Ψ0 w0 ops is T E0 σf listed p bl Ψ a w →
 ∃ p' Ψ', Inv P N D Ψ0 w0 ops is T E0 σf listed p' bl Ψ' a w ∧ (p' = ops.size ∨ (chainAt ops is p' = true ∧ ∃ s, T[p']? = some s ∧ listed.getD s.i false = false)) := by
 intro k
 induction k with
 | zero => intro p Ψ hp I; exact ⟨p, Ψ, I, .inl (by omega)⟩
 | succ k ih =>
  intro p Ψ hp I
  have hlt : p < ops.size := by omega
  obtain ⟨s, hs⟩ := H.has hlt
  cases hc : chainAt ops is p with
  | false =>
   obtain ⟨Ψ', I'⟩ := I.advance H hlt (.inl hc)
   exact ih (p + 1) Ψ' (by omega) I'
  | true =>
   cases hl : listed.getD s.i false with
   | false => exact ⟨p, Ψ, I, .inr ⟨hc, s, hs, hl⟩⟩
   | true =>
    have hal : allocsAt ops is p = true := by
     cases hw : writesAt ops is p with
     | true => rw [I.above p s (Nat.le_refl _) hs hw] at hl; cases hl
     | false =>
      unfold chainAt at hc
      unfold writesAt at hw
      unfold allocsAt
      cases ho : opAt ops is p with
      | none => rw [ho] at hc; cases hc
      | some o =>
       rw [ho] at hc hw
       simp only [Option.any_some] at hc hw ⊢
       rw [hw] at hc
       simpa using hc
    obtain ⟨Ψ', I'⟩ := I.advance H hlt (.inr ⟨hal, fun s' hs' => by rw [hs] at hs'; injection hs' with hs'; rw [← hs']; exact hl⟩)
    exact ih (p + 1) Ψ' (by omega) I'
end
theorem getL {listed : Array Bool} {i j : Nat} (hi : i < listed.size) : (listed.setIfInBounds i true).getD j false = if j = i then true else listed.getD j false := by
 by_cases h : j = i
 ·subst h; simp [hi]
 rw [getD_set_ne false (fun e => h e.symm), if_neg h]
section
variable {P : Program} {Y : YEnv} {N : Nat} {rd : Option Nat} {D : List Nat} {Ψ0 : Ty} {w0 : World} {Q : Exit → Act → World → Prop} {ops : Array Oper} {is : List Nat} {plan : List (Nat × Nat)} {pre : List (List Nat)} {T : List St} {E0 Ef : Env} {σ0 σf : Sg}
theorem Inv.step (H : Shown P Y N ops is plan pre T E0 Ef σ0 σf) (hy : YOK P Y Ψ0) {listed : Array Bool} {p : Nat} {bl : Nat → Option (Nat × Array Value)} {Ψ : Ty} {a : Act} {w : World} (I : Inv P N D Ψ0 w0 ops is T E0 σf listed p bl Ψ a w)
 (hfar : p = ops.size ∨ (chainAt ops is p = true ∧ ∃ s, T[p]? = some s ∧ listed.getD s.i false = false)) {q : Nat} {s : St} (hs : T[q]? = some s) (hun : listed.getD s.i false = false) (hdir : ∀ j, j ∈ dir ops s.i → listed.getD j false = true)
 {K : Act → World → Prop} (hK : ∀ p' bl' Ψ' a' w', Inv P N D Ψ0 w0 ops is T E0 σf (listed.setIfInBounds s.i true) p' bl' Ψ' a' w' → K a' w') : wpOpIn (FnOf Ψ0 rd) 0 P ops Q s.i K a w := by
 obtain ⟨o, ho, hoa, hdok, hwt, hdone⟩ := H.opS hs
 have hq := H.lt hs
 have hsz : s.i < listed.size := by rw [I.size]; exact H.ilt hs
 have hL : ∀ j, (listed.setIfInBounds s.i true).getD j false = if j = s.i then true else listed.getD j false := fun j => getL hsz
 have hpre : ∀ (q' : Nat) (s' : St), T[q']? = some s' → preAt is pre q q' = true → listed.getD s'.i false = true := fun q' s' hs' hp =>
  H.preListed I.closed s.i (H.ilt hs) hdir s'.i ((H.preAt hs hs').1 hp)
 have hpost : ∀ (q' : Nat) (s' : St), T[q']? = some s' → preAt is pre q' q = true → listed.getD s'.i false = false := fun q' s' hs' hp => by
  cases hl : listed.getD s'.i false with
  | false => rfl
  | true => rw [I.preL H hs' hs hl hp] at hun; cases hun
 have hdstq : dstAt ops is q = o.dst := by unfold dstAt; rw [hoa]; rfl
 have hdsti : ∀ (q' : Nat) (s' : St), T[q']? = some s' → (ops[s'.i]?).bind (·.dst) = dstAt ops is q' := fun q' s' hs' => by unfold dstAt; rw [H.opEq hs']
 have hchain : ∀ q', q' < ops.size → writesAt ops is q' = false → allocsAt ops is q' = false → chainAt ops is q' = false := by
  intro q' _ h1 h2
  unfold chainAt writesAt allocsAt at *
  cases hh : opAt ops is q' with
  | none => rfl
  | some o' => rw [hh] at h1 h2; simp only [Option.any_some] at h1 h2 ⊢; rw [h1, h2]; rfl
 have hchain' : ∀ q', allocsAt ops is q' = true → chainAt ops is q' = true := by
  intro q' h
  unfold chainAt allocsAt at *
  cases hh : opAt ops is q' with
  | none => rw [hh] at h; cases h
  | some o' => rw [hh] at h; simp only [Option.any_some] at h ⊢; rw [h]; simp
 have hchainw : ∀ q', writesAt ops is q' = true → chainAt ops is q' = true := by
  intro q' h
  unfold chainAt writesAt at *
  cases hh : opAt ops is q' with
  | none => rw [hh] at h; cases h
  | some o' => rw [hh] at h; simp only [Option.any_some] at h ⊢; rw [h]; simp
 -- what it looks at is there
 have hlook : ∀ t, t ∈ looks ops o → s.E.get t = (goE ops (vis ops is listed p) T E0).get t := by
  intro t ht
  have htq : t ∈ looksAt ops is q := by unfold looksAt; rw [hoa]; exact ht
  refine (goE_before H.link hs (fun q' s' hlt hs' hd => ?_) (fun q' s' hle hs' hd => ?_)).symm
  ·rw [hdsti q' s' hs'] at hd
   obtain ⟨⟨c1, c2⟩, _⟩ : (preAt is pre q q' = true ∧ (allocsAt ops is q' = true → ∀ r, r ≤ q' → chainAt ops is r = true → preAt is pre q r = true)) ∧ True :=
    ⟨(H.facts.c5 q q' t hq (H.lt hs') hd htq).1 hlt, trivial⟩
   unfold vis
   rw [hpre q' s' hs' c1, H.idx hs']
   cases hal : allocsAt ops is q' with
   | false =>
    have : (ops[s'.i]?).any allocs = false := by rw [← H.opEq hs']; exact hal
    rw [this]; rfl
   | true =>
    have hlt' : q' < p := by
     rcases Nat.lt_or_ge q' p with h | h
     ·exact h
     rcases hfar with e | ⟨e1, s2, e2, e3⟩
     ·have := H.lt hs'; omega
     have := hpre p s2 e2 (c2 hal p h e1)
     rw [e3] at this; cases this
    simp [hlt']
  rw [hdsti q' s' hs'] at hd
  unfold vis
  rcases Nat.lt_or_ge q q' with hlt | hge
  ·rw [hpost q' s' hs' ((H.facts.c5 q q' t hq (H.lt hs') hd htq).2 hlt)]; rfl
  have : q = q' := by omega
  subst this
  rw [hs] at hs'
  injection hs' with hs'
  subst hs'
  rw [hun]; rfl
 have hwt' : wantedPV ops (goE ops (vis ops is listed p) T E0) o = some s.b := by rw [← wantedPV_congr hlook]; exact hwt
 have closed' : ∀ i, (listed.setIfInBounds s.i true).getD i false = true → ∀ j, j ∈ dir ops i → (listed.setIfInBounds s.i true).getD j false = true := by
  intro i hi j hj
  rw [hL] at hi ⊢
  split
  ·rfl
  split at hi
  ·rename_i e; subst e; exact hdir j hj
  exact I.closed i hi j hj
 have keepL : ∀ j, listed.getD j false = true → (listed.setIfInBounds s.i true).getD j false = true := fun j h => by rw [hL]; split <;> first | rfl | exact h
 have hple : ∀ r s', T[r]? = some s' → chainAt ops is r = true → listed.getD s'.i false = false → p ≤ r := by
  intro r s' hs' hc hl
  rcases Nat.lt_or_ge r p with h | h
  ·rw [I.below r s' h hs' hc] at hl; cases hl
  exact h
 cases hal : allocsAt ops is q with
 | true =>
  -- a new variable
  obtain ⟨o2, d, ho2, hguard, hd⟩ := H.facts.c7b q hq hal
  rw [hoa] at ho2
  injection ho2 with ho2
  subst ho2
  have hpq := hple q s hs (hchain' q hal) hun
  obtain ⟨t, hop⟩ : ∃ t, o.op = .alloc t := by
   unfold allocsAt at hal
   rw [hoa] at hal
   simp only [Option.any_some] at hal
   unfold allocs at hal
   split at hal
   ·exact ⟨_, ‹_›⟩
   cases hal
  have hb : s.b = true := by
   unfold wantedPV at hwt
   rw [hguard] at hwt
   injection hwt with hwt
   exact hwt.symm
  obtain ⟨zs, hz⟩ : ∃ zs, zeroPV P t = some zs := by
   unfold DoneAs at hdone
   rw [hb] at hdone
   simp only at hdone
   have : whom s.E o.op = .nobody := by rw [hop]; rfl
   rw [this, hop] at hdone
   simp only [effOp] at hdone
   cases hz : zeroPV P t with
   | none => rw [hz] at hdone; cases hdone
   | some zs => exact ⟨zs, rfl⟩
  refine exec_alloc ho hop hguard hz I.rel fun c hc0 hc2 => ?_
  have hc1 : zs.length ≤ c.size := Nat.le_of_eq hc0.symm
  obtain ⟨le', hs'⟩ := I.rel.sg.reserve c t
  refine hK p (fun x => if x = q then some (w.heap.size, c) else bl x) _ _ _ ⟨by simpa using I.size, closed', I.pn, fun q2 s2 h1 h2 h3 => keepL _ (I.below q2 s2 h1 h2 h3), ?_, I.le.trans le', ?_, ?_, ?_, ?_, ?_⟩
  ·intro q2 s2 h1 h2 h3
   rw [hL, if_neg]
   ·exact I.above q2 s2 h1 h2 h3
   intro e
   have := H.inj h2 hs e
   subst this
   unfold writesAt at h3
   rw [hoa] at h3
   simp [writes, hop] at h3
  ·have hput := I.rel.put le' hs' hdok (v := .undef) (x := .pointer (some ⟨w.heap.size, 0, none⟩)) (.undef _)
   refine hput.congr fun t' => ?_
   have vsame : ∀ i, vis ops is (listed.setIfInBounds s.i true) p i = vis ops is listed p i := by
    intro i
    unfold vis
    rw [hL]
    by_cases e : i = s.i
    ·subst e
     rw [hun, ho]
     have : allocs o = true := by unfold allocs; rw [hop]
     rw [H.idx hs]
     simp [this]
     omega
    rw [if_neg e]
   rw [get_put]
   have e1 : (goE ops (vis ops is (listed.setIfInBounds s.i true) p) T E0).get t' = (goE ops (vis ops is listed p) T E0).get t' := goE_congr _ _ _ (fun s' _ _ => vsame _) rfl
   rw [e1]
   split
   ·rename_i hdt
    rw [goE_off]
    ·exact H.fresh q t' hal (by rw [hdstq]; exact hdt)
    intro s' hs' hd'
    obtain ⟨q', hq'⟩ := List.mem_iff_getElem?.1 hs'
    by_cases e : q' = q
    ·subst e
     rw [hs] at hq'
     injection hq' with hq'
     subst hq'
     unfold vis
     rw [hun]; rfl
    exfalso
    rw [hdsti q' s' hq'] at hd'
    exact H.facts.c7 q q' t' hq (H.lt hq') hal e (by rw [hdstq]; exact hdt) hd'
   rfl
  ·intro q2 s2 h1 h2 h3 h4
   by_cases e : q2 = q
   ·subst e
    refine ⟨w.heap.size, c, by simp, d, o, t, zs, by rw [hdstq]; exact hd, hoa, hop, hz, hc1, hc2, ?_, List.mem_cons_self .., fun c' k => ?_⟩
    ·have : d < a.tmps.size := by
      unfold dstOK at hdok
      rw [hd] at hdok
      rw [I.rel.size]
      simpa using hdok
     rw [hd]
     simp [Act.put, Array.getD, this]
    have := I.rel.sg.fresh.rs c'
    exact this (I.le.rs _ k)
   have hne : s2.i ≠ s.i := fun e' => e (H.inj h2 hs e')
   rw [hL, if_neg hne] at h4
   obtain ⟨b', c', x0, d', o', t', zs', x1, x2, x3, x4, x5, x6, x7, x8, x9⟩ := I.pend q2 s2 h1 h2 h3 h4
   refine ⟨b', c', by rw [if_neg e]; exact x0, d', o', t', zs', x1, x2, x3, x4, x5, x6, ?_, List.mem_cons_of_mem _ x8, x9⟩
   have hdd : d' ≠ d := by
    rintro rfl
    exact H.facts.c7 q q2 d' hq (H.lt h2) hal e (by rw [hdstq]; exact hd) x1
   rw [hd]
   simp only [Act.put, Array.getD_eq_getD_getElem?, Array.getElem?_setIfInBounds_ne (fun e => hdd e.symm)]
   simpa [Array.getD_eq_getD_getElem?] using x7
  ·intro q1 q2 b c1 c2 h1 h2
   split at h1
   ·split at h2
    ·omega
    injection h1 with h1
    injection h1 with h1 _
    have := I.blt q2 b c2 h2
    omega
   split at h2
   ·injection h2 with h2
    injection h2 with h2 _
    have := I.blt q1 b c1 h1
    omega
   exact I.apart q1 q2 b c1 c2 h1 h2
  ·intro q1 b c1 h1
   rw [World.size_alloc]
   split at h1
   ·injection h1 with h1
    injection h1 with h1 _
    omega
   have := I.blt q1 b c1 h1
   omega
  exact I.bel.alloc (by rw [← I.le.base]; exact I.rel.sg.base) _
 | false =>
  have hna : allocs o = false := by
   unfold allocsAt at hal
   rw [hoa] at hal
   exact hal
  -- what follows when it is done
  have after : ∀ (p' : Nat), ((p' = p ∧ writesAt ops is q = false) ∨ (p = q ∧ p' = q + 1)) → ∀ Ψ' w' x, Ψ.le Ψ' → SR Ψ' (st T σf p') w' → VR Ψ' s.v x → Below Ψ.base w w' → K (a.put o.dst x) w' := by
   intro p' hp' Ψ' w' x le' hsr hv hb
   refine hK p' bl Ψ' _ _ ⟨by simpa using I.size, closed', ?_, ?_, ?_, I.le.trans le', ?_, ?_, I.apart, fun q1 b c1 h1 => Nat.lt_of_lt_of_le (I.blt q1 b c1 h1) hb.size, I.bel.trans (by rw [← I.le.base]; exact hb)⟩
   ·rcases hp' with ⟨rfl, _⟩ | ⟨_, rfl⟩
    ·exact I.pn
    omega
   ·intro q2 s2 h1 h2 h3
    rw [hL]
    split
    ·rfl
    rename_i hne
    rcases hp' with ⟨rfl, _⟩ | ⟨e, rfl⟩
    ·exact I.below q2 s2 h1 h2 h3
    have : q2 ≠ q := by rintro rfl; rw [hs] at h2; injection h2 with h2; exact hne (by rw [h2])
    exact I.below q2 s2 (by omega) h2 h3
   ·intro q2 s2 h1 h2 h3
    have hne : s2.i ≠ s.i := by
     intro e
     have := H.inj h2 hs e
     subst this
     rcases hp' with ⟨_, e⟩ | ⟨_, e⟩
     ·rw [h3] at e; cases e
     omega
    rw [hL, if_neg hne]
    exact I.above q2 s2 (by rcases hp' with ⟨e, _⟩ | ⟨e, e'⟩ <;> omega) h2 h3
   ·have hput := I.rel.put le' hsr hdok hv
    refine hput.congr fun t => ?_
    rw [get_put]
    split
    ·rename_i hdt
     refine goE_just hs (by rw [ho]; exact hdt) ?_ ?_
     ·unfold vis
      rw [hL, if_pos rfl, ho]
      simp [hna]
     intro q' s' hq' hs' hd'
     have hne : s'.i ≠ s.i := fun e => by have := H.inj hs' hs e; omega
     unfold vis
     rw [hL, if_neg hne, hpost q' s' hs' (H.facts.c6 q' q t (H.lt hs') hq' (by rw [← hdsti q' s' hs']; exact hd') (by rw [hdstq]; exact hdt))]
     rfl
    rename_i hdt
    refine goE_congr _ _ _ (fun s' hs' hd' => ?_) rfl
    obtain ⟨q', hq'⟩ := List.mem_iff_getElem?.1 hs'
    have hne : s'.i ≠ s.i := by
     intro e
     rw [e, ho] at hd'
     exact hdt hd'
    have hqne : q' ≠ q := by rintro rfl; rw [hs] at hq'; injection hq' with hq'; exact hne (by rw [hq'])
    unfold vis
    rw [hL, if_neg hne, H.idx hq']
    congr 2
    simp only [decide_eq_decide]
    rcases hp' with ⟨rfl, _⟩ | ⟨e, rfl⟩
    ·exact Iff.rfl
    omega
   intro q2 s2 h1 h2 h3 h4
   have hne : s2.i ≠ s.i := by
    intro e
    have := H.inj h2 hs e
    subst this
    rw [h3] at hal; cases hal
   rw [hL, if_neg hne] at h4
   have hpq2 : p ≤ q2 := by rcases hp' with ⟨e, _⟩ | ⟨e, e'⟩ <;> omega
   obtain ⟨b', c', x0, d', o', t', zs', x1, x2, x3, x4, x5, x6, x7, x8, x9⟩ := I.pend q2 s2 hpq2 h2 h3 h4
   refine ⟨b', c', x0, d', o', t', zs', x1, x2, x3, x4, x5, x6, ?_, le'.rs _ x8, x9⟩
   have hqne : q ≠ q2 := by rintro rfl; rw [hs] at h2; injection h2 with h2; exact hne (by rw [h2])
   have hdd : o.dst ≠ some d' := by
    intro e
    exact H.facts.c7 q2 q d' (H.lt h2) hq h3 hqne x1 (by rw [hdstq]; exact e)
   cases hod : o.dst with
   | none => exact x7
   | some d2 =>
    have : d2 ≠ d' := fun e => hdd (by rw [hod, e])
    simp only [Act.put, Array.getD_eq_getD_getElem?, Array.getElem?_setIfInBounds_ne this]
    simpa [Array.getD_eq_getD_getElem?] using x7
  cases hwr : writesAt ops is q with
  | true =>
   have hpq : p = q := by
    have h1 := hple q s hs (hchainw q hwr) hun
    rcases hfar with e | ⟨e1, s2, e2, e3⟩
    ·omega
    rcases Nat.lt_or_ge p q with h | h
    ·have := hpre p s2 e2 (H.facts.c4 q p hq h hwr e1)
     rw [e3] at this; cases this
    omega
   have hst : st T σf p = s.σ := by rw [hpq]; simp [st, hs]
   have hd : DoneAs P Y o ⟨s.i, goE ops (vis ops is listed p) T E0, st T σf p, s.b, s.v⟩ (st T σf (q + 1)) := by
    rw [hst]
    exact DoneAs_congr hlook (i := s.i) (E := s.E) (σ := s.σ) (b := s.b) (v := s.v) hdone
   exact exec_ok ho I.rel I.le hy hwt' hd fun Ψ' w' x k1 k2 k3 k4 => after (q + 1) (.inr ⟨hpq, rfl⟩) Ψ' w' x k1 k2 k3 k4
  | false =>
   have hnw : writes o = false := by
    unfold writesAt at hwr
    rw [hoa] at hwr
    exact hwr
   have hcq := hchain q hq hwr hal
   have hd0 : DoneAs P Y o ⟨s.i, s.E, st T σf p, s.b, s.v⟩ (st T σf p) := by
    unfold DoneAs at hdone ⊢
    simp only
    cases hb : s.b with
    | false =>
     rw [hb] at hdone
     exact ⟨hdone.1, trivial⟩
    | true =>
     rw [hb] at hdone
     simp only at hdone ⊢
     rw [whom_quiet hnw] at hdone ⊢
     simp only at hdone ⊢
     have hqs := quiet hnw hna hdone
     rcases H.facts.c8 q p hq I.pn hcq (hfar.imp id fun h => h.1) (fun r hr hc => by
      obtain ⟨s2, h2⟩ := H.has (Nat.lt_of_lt_of_le hr I.pn)
      cases hp : preAt is pre r q with
      | false => rfl
      | true =>
       have := I.below r s2 hr h2 hc
       rw [hpost r s2 h2 hp] at this; cases this) (fun r hr hrn hc => by
      obtain ⟨s2, h2⟩ := H.has hrn
      cases hp : preAt is pre q r with
      | false => rfl
      | true =>
       have := I.above r s2 hr h2 hc
       rw [hpre r s2 h2 hp] at this; cases this) with h | h
     ·have hst : st T σf p = s.σ := by
       have e0 : st T σf q = s.σ := by simp [st, hs]
       rw [← e0]
       have hpn := I.pn
       rcases Nat.le_total q p with hle | hle
       ·have := H.same (q := q) (k := p - q) (by omega) (fun r h1 h2 => by
         cases hc : chainAt ops is r with
         | false => rfl
         | true => have := h r (by omega) hc; omega)
        rw [show q + (p - q) = p by omega] at this
        exact this
       have := H.same (q := p) (k := q - p) (by omega) (fun r h1 h2 => by
        cases hc : chainAt ops is r with
        | false => rfl
        | true => have := h r (by omega) hc; omega)
       rw [show p + (q - p) = q by omega] at this
       exact this.symm
      rw [hst]
      rw [hqs] at hdone
      exact hdone
     exact H.dem q p h hcq s o hs ho hb
   have hd := DoneAs_congr hlook (i := s.i) (σ := st T σf p) (b := s.b) (v := s.v) hd0
   exact exec_ok ho I.rel I.le hy hwt' hd fun Ψ' w' x k1 k2 k3 k4 => after p (.inl ⟨rfl, hwr⟩) Ψ' w' x k1 k2 k3 k4
end
end Go.Proofs.YtpkkegbiddcodaaGreatDoor
