/-
  Slices made at once, written and then frozen; rows of numbers written at a place.
  Variables renumbered: the live ones, in a new order; whatever speaks of them follows.
  Slices that grow in place, in a variable's cell; a row sorted or written anew by the library.
  A slice of numbers that grows in place in a variable's cell, is sorted, compacted, and read at last.
  Regions in which what is known may be weakened after some operations.
  A variable to which a pointer points, and that is never written again.
  A variable that nobody asks for any more.
  A region that steps an iterator over a map: whichever entry comes next.
  The data of the laws, read: contests, ballots, results, standings; rows of things.
  What the arguments of the laws are read as: numbers, lists of numbers.
  What the functions of song compute, in plain Lean.
  Facts of this seat's types for slices that grow in place.
  Conversions at this seat's types; shifts; pointers that are not nil.
  Parts of slices at this seat's types.
  Facts of this seat's types for maps and made slices.
  Walks: numbers in bounds, numbers in lists, lists compared (song, bateriaref04, bateriakit, slices).
  Walks: lists copied and compared (bateriakit).
  Walks: contests checked (song).
  Walks: the rules of a ballot (song).
  Walks: a ballot checked (song).
  Walks: ballots checked (song).
  Walks: a standing weighed, standings compared (song, cmp).
  Tallies: the cells of a round counted (song).
  Which ballots count in a round, in plain Lean (song).
  What the voices of a round give to its songs, and ballots that may be, in plain Lean (song).
  Results of rounds, in plain Lean (song).
  Which ballots count: those of the map are those that are first of their voice (song, plain).
  Walks: the ballots of a round counted (song).
-/
import Derived.Test.YtnolifglhhjdnaaPc
import Derived.CallsIn
import Derived.RangeFuncLeaves
import Derived.RangeFuncRecord
import Derived.OrdersIn
import Derived.Below
import Derived.Laws.World
import Derived.Laws.StructEq
import Derived.Laws.Append
import Derived.MapKept
import Derived.ProofKit
import Derived.Carry
import Derived.Handed
import Derived.ChangeCalls
import Derived.RangeFuncIn
import Derived.RangeFuncNested
import Derived.Test.YtnolifglhhjdnaaProg
import Derived.KernelRfl
import Derived.IntWalk
import Derived.Sort.OwnSortedInts
import Derived.Lib.SlicesCompact
import Derived.Test.YtnolifglhhjdnaaRows
import Derived.Shelf.Sort.Plain
import Derived.Shelf.Slices.In.SortNone
import Derived.Shelf.Small.Bits
import Derived.JoinedOf
set_option linter.unusedSimpArgs false
set_option linter.unusedVariables false
namespace Go.Proofs.Ytnolifglhhjdnaa
open Go Go.RowKit
theorem rowC_single {l : List PV} (h : ∀ q, q ∈ l → q.cells = [q]) : rowC l = l := by
 induction l with
 | nil => rfl
 | cons q l ih =>
  have := ih fun q hq => h q (by simp [hq])
  simp only [rowC, List.flatMap_cons] at this ⊢
  rw [h q (by simp), this]
  rfl
theorem rowC_ints (xs : List Int) : rowC (xs.map I) = xs.map I := rowC_single fun q hq => by obtain ⟨x, _, rfl⟩ := List.mem_map.1 hq; rfl
theorem mk_of {P : Program} {t e : TypeId} {z : PV} {b : Nat} (h : P.underlying t = some (.slice e)) (hz : zeroPV P e = some [z]) (hb : P.bytesOf e = b) (hc : P.cellsOf e = 1) {σ : Sg} {k : Nat} (hk : k * b ≤ 2 ^ 47) (hk2 : k < 2 ^ 63) :
  makePV P σ t (.int .i64 (k : Int)) (.int .i64 (k : Int)) = some (.msl σ.store.length 0 k, σ.push (List.replicate k z)) := by
 simp only [makePV, h, hz, hb, hc]
 rw [if_pos ⟨trivial, Int.natCast_nonneg k, by rw [← Int.natCast_mul]; omega, by omega, trivial⟩]
 simp
theorem iaM_nat {c id off len k : Nat} (h : k < len) : iaM c id off len (k : Int) = some (.ptr id (off + k * c)) := by
 unfold iaM
 rw [if_pos ⟨Int.natCast_nonneg k, by omega⟩]
 simp
theorem setI {xs : List Int} {i : Nat} {v : Int} : (xs.map I).set i (I v) = (xs.set i v).map I := by rw [List.map_set]
theorem setB {xs : List Bool} {i : Nat} {v : Bool} : (xs.map PV.bool).set i (.bool v) = (xs.set i v).map PV.bool := by rw [List.map_set]
theorem repI (n : Nat) (v : Int) : List.replicate n (I v) = (List.replicate n v).map I := by simp
theorem repB (n : Nat) (v : Bool) : List.replicate n (PV.bool v) = (List.replicate n v).map PV.bool := by simp
inductive Rn (n nr ny : Nat) (ks : List Nat) : PV → PV → Prop where
 | gone (p : PV) : Rn n nr ny ks p .undef
 | same (p : PV) (h : Clean n nr ny p) : Rn n nr ny ks p p
 | ptr (i k id id' off : Nat) (h : ks[i]? = some k) (e : id = n + k) (e' : id' = n + i) : Rn n nr ny ks (.ptr id off) (.ptr id' off)
 | msl (i k id id' off len : Nat) (h : ks[i]? = some k) (e : id = n + k) (e' : id' = n + i) : Rn n nr ny ks (.msl id off len) (.msl id' off len)
 | gsl (i k id id' len es : Nat) (h : ks[i]? = some k) (e : id = n + k) (e' : id' = n + i) : Rn n nr ny ks (.gsl id len es) (.gsl id' len es)
 | mapv (i k id id' : Nat) (h : ks[i]? = some k) (e : id = n + k) (e' : id' = n + i) : Rn n nr ny ks (.map id) (.map id')
 | func (fn : Fn) (fs cs cs' : List PV) (hf : ∀ p, p ∈ fs → Clean n nr ny p) (hl : cs'.length = cs.length) (h : ∀ (j : Nat) (p v : PV), cs[j]? = some p → cs'[j]? = some v → Rn n nr ny ks p v) : Rn n nr ny ks (.func fn fs cs) (.func fn fs cs')
 | agg (cs cs' : List PV) (hl : cs'.length = cs.length) (h : ∀ (j : Nat) (p v : PV), cs[j]? = some p → cs'[j]? = some v → Rn n nr ny ks p v) : Rn n nr ny ks (.agg cs) (.agg cs')
 | tuple (cs cs' : List PV) (hl : cs'.length = cs.length) (h : ∀ (j : Nat) (p v : PV), cs[j]? = some p → cs'[j]? = some v → Rn n nr ny ks p v) : Rn n nr ny ks (.tuple cs) (.tuple cs')
def RnL (n nr ny : Nat) (ks : List Nat) : List PV → List PV → Prop
 | [], [] => True
 | p :: l, v :: m => Rn n nr ny ks p v ∧ RnL n nr ny ks l m
 | _, _ => False
theorem RnL.get {n nr ny : Nat} {ks : List Nat} : ∀ {l m : List PV}, RnL n nr ny ks l m → m.length = l.length ∧ ∀ (j : Nat) (p v : PV), l[j]? = some p → m[j]? = some v → Rn n nr ny ks p v := by
 intro l
 induction l with
 | nil =>
  intro m h
  cases m with
  | nil => exact ⟨rfl, fun j p v h => by simp at h⟩
  | cons => exact h.elim
 | cons q l ih =>
  intro m h
  cases m with
  | nil => exact h.elim
  | cons u m =>
   obtain ⟨h1, h2⟩ := h
   obtain ⟨g1, g2⟩ := ih h2
   refine ⟨by simp [g1], fun j p v hp hv => ?_⟩
   cases j with
   | zero => simp at hp hv; subst hp hv; exact h1
   | succ j => exact g2 j p v (by simpa using hp) (by simpa using hv)
def RnE (n nr ny : Nat) (ks : List Nat) : Env → Env → Prop
 | [], [] => True
 | (t, p) :: E, (t', v) :: E' => t = t' ∧ Rn n nr ny ks p v ∧ RnE n nr ny ks E E'
 | _, _ => False
theorem RnE.get {n nr ny : Nat} {ks : List Nat} : ∀ {E E' : Env}, RnE n nr ny ks E E' → ∀ t, Rn n nr ny ks (E.get t) (E'.get t) := by
 intro E
 induction E with
 | nil =>
  intro E' h t
  cases E' with
  | nil => exact .gone _
  | cons => exact h.elim
 | cons kv E ih =>
  intro E' h t
  obtain ⟨a, p⟩ := kv
  cases E' with
  | nil => exact h.elim
  | cons kv' E' =>
   obtain ⟨a', v⟩ := kv'
   obtain ⟨rfl, h1, h2⟩ := h
   simp only [Env.get]
   split
   ·exact h1
   ·exact ih h2 t
def RnV (n nr ny : Nat) (ks : List Nat) (cs cs' : List PV) : Prop := (CleanAll n nr ny cs ∧ cs' = cs) ∨ ((cs.head? ≠ some .mark ∧ ∀ m n s, cs.head? ≠ some (.itst m n s)) ∧ RnL n nr ny ks cs cs')
def RnS (n nr ny : Nat) (ks : List Nat) (l : List (Option (List PV))) : List Nat → List (Option (List PV)) → Prop
 | [], [] => True
 | k :: r, some cs' :: m => (∃ cs, l[k]? = some (some cs) ∧ RnV n nr ny ks cs cs') ∧ RnS n nr ny ks l r m
 | _ :: r, none :: m => RnS n nr ny ks l r m
 | _, _ => False
theorem RnS.get {n nr ny : Nat} {ks : List Nat} {l : List (Option (List PV))} : ∀ {r : List Nat} {m : List (Option (List PV))}, RnS n nr ny ks l r m → m.length = r.length ∧
  ∀ (i : Nat) (cs' : List PV), m[i]? = some (some cs') → ∃ k cs, r[i]? = some k ∧ l[k]? = some (some cs) ∧ RnV n nr ny ks cs cs' := by
 intro r
 induction r with
 | nil =>
  intro m h
  cases m with
  | nil => exact ⟨rfl, fun i cs' h => by simp at h⟩
  | cons => exact h.elim
 | cons k r ih =>
  intro m h
  cases m with
  | nil => exact h.elim
  | cons o m =>
   cases o with
   | none =>
    obtain ⟨g1, g2⟩ := ih (m := m) h
    refine ⟨by simp [g1], fun i cs' hi => ?_⟩
    cases i with
    | zero => simp at hi
    | succ i =>
     obtain ⟨k', cs, q1, q2⟩ := g2 i cs' (by simpa using hi)
     exact ⟨k', cs, by simpa using q1, q2⟩
   | some c =>
    obtain ⟨⟨cs, h1, h2⟩, h3⟩ := h
    obtain ⟨g1, g2⟩ := ih h3
    refine ⟨by simp [g1], fun i cs' hi => ?_⟩
    cases i with
    | zero => simp at hi; subst hi; exact ⟨k, cs, rfl, h1, h2⟩
    | succ i =>
     obtain ⟨k', cs, q1, q2⟩ := g2 i cs' (by simpa using hi)
     exact ⟨k', cs, by simpa using q1, q2⟩
def Ty.ren (Ψ : Ty) (n : Nat) (ks : List Nat) : Ty := { Ψ with β := Ψ.β.take n ++ ks.map fun k => Ψ.β.getD (n + k) 0 }
theorem Ty.ren_low {Ψ : Ty} {n : Nat} {ks : List Nat} {i b : Nat} (hi : i < n) (h : Ψ.β[i]? = some b) : (Ψ.ren n ks).β[i]? = some b := by
 have hl := (List.getElem?_eq_some_iff.1 h).1
 simp only [Ty.ren]
 rw [List.getElem?_append_left (by simp; omega), List.getElem?_take_of_lt hi]
 exact h
theorem Ty.ren_high {Ψ : Ty} {n : Nat} {ks : List Nat} {i k b : Nat} (hn : n ≤ Ψ.β.length) (hi : ks[i]? = some k) (h : Ψ.β[n + k]? = some b) : (Ψ.ren n ks).β[n + i]? = some b := by
 have hl : (Ψ.β.take n).length = n := by simp; omega
 simp only [Ty.ren]
 rw [List.getElem?_append_right (by omega), hl, show n + i - n = i by omega, List.getElem?_map, hi]
 simp only [Option.map_some, List.getD_eq_getElem?_getD, h, Option.getD_some]
theorem Ty.ren_inv {Ψ : Ty} {n : Nat} {ks : List Nat} {id b : Nat} (hn : n ≤ Ψ.β.length) (h : (Ψ.ren n ks).β[id]? = some b) : (id < n ∧ Ψ.β[id]? = some b) ∨ ∃ i k, id = n + i ∧ ks[i]? = some k ∧ b = Ψ.β.getD (n + k) 0 := by
 have hl : (Ψ.β.take n).length = n := by simp; omega
 simp only [Ty.ren] at h
 by_cases hi : id < n
 ·rw [List.getElem?_append_left (by omega), List.getElem?_take_of_lt hi] at h
  exact .inl ⟨hi, h⟩
 ·rw [List.getElem?_append_right (by omega), hl, List.getElem?_map] at h
  cases hk : ks[id - n]? with
  | none => rw [hk] at h; cases h
  | some k =>
   rw [hk] at h
   injection h with h
   exact .inr ⟨id - n, k, by omega, hk, h.symm⟩
theorem VR.renClean {Ψ : Ty} {n nr ny : Nat} {ks : List Nat} {p : PV} {x : Value} (h : VR Ψ p x) (hc : Clean n nr ny p) : VR (Ψ.ren n ks) p x := by
 refine VR.mono0 (Ψ := Ψ.trim n nr ny) (Ψ' := Ψ.ren n ks) (fun b o v k => k) (fun i b k => ?_) (fun r m y k => ?_) (fun i b k => ?_) (fun d k => k) (h.trim hc)
 ·simp only [Ty.trim] at k
  have hi : i < n := by have := (List.getElem?_eq_some_iff.1 k).1; simp at this; omega
  rw [List.getElem?_take_of_lt hi] at k
  exact Ty.ren_low hi k
 ·simp only [Ty.trim] at k
  split at k
  ·exact k
  ·cases k
 ·simp only [Ty.trim, List.getElem?_take] at k
  split at k
  ·exact k
  ·cases k
theorem VR.ren {Ψ : Ty} {n nr ny : Nat} {ks : List Nat} (hn : n ≤ Ψ.β.length) {p v : PV} (hr : Rn n nr ny ks p v) : ∀ {x : Value}, VR Ψ p x → VR (Ψ.ren n ks) v x := by
 induction hr with
 | gone p => intro x _; exact .undef x
 | same p hc =>
  intro x h
  exact h.renClean hc
 | ptr i k id id' off h e e' =>
  intro x hx
  cases hx with
  | ptr _ _ b hb hz => subst e e'; exact .ptr _ _ b (Ty.ren_high hn h hb) hz
 | msl i k id id' off len h e e' =>
  intro x hx
  cases hx with
  | msl _ _ _ b cap hb hz hc => subst e e'; exact .msl _ _ _ b cap (Ty.ren_high hn h hb) hz hc
 | gsl i k id id' len es h e e' =>
  intro x hx
  cases hx with
  | gsl _ _ _ b cap hb hz h0 hc => subst e e'; exact .gsl _ _ _ b cap (Ty.ren_high hn h hb) hz h0 hc
 | mapv i k id id' h e e' =>
  intro x hx
  cases hx with
  | map _ b hb => subst e e'; exact .map _ b (Ty.ren_high hn h hb)
 | func fn fs cs cs' hf hl h ih =>
  intro x hx
  cases hx with
  | func _ _ _ xs ys h1 h2 h3 h4 =>
   refine .func fn fs cs' xs ys h1 (by rw [h2, hl]) (fun j p v q1 q2 => ?_) (fun j p v q1 q2 => ?_)
   ·have hc := hf p (List.mem_of_getElem? q1)
    exact (h3 j p v q1 q2).renClean hc
   ·have hj : j < cs.length := by rw [← hl]; exact (List.getElem?_eq_some_iff.1 q1).1
    exact ih j cs[j] p (by simp [hj]) q1 (h4 j cs[j] v (by simp [hj]) q2)
 | agg cs cs' hl h ih =>
  intro x hx
  cases hx with
  | agg _ vs h1 h2 =>
   refine .agg cs' vs (by rw [h1, hl]) fun j p v q1 q2 => ?_
   have hj : j < cs.length := by rw [← hl]; exact (List.getElem?_eq_some_iff.1 q1).1
   exact ih j cs[j] p (by simp [hj]) q1 (h2 j cs[j] v (by simp [hj]) q2)
 | tuple cs cs' hl h ih =>
  intro x hx
  cases hx with
  | tuple _ vs h1 h2 =>
   refine .tuple cs' vs (by rw [h1, hl]) fun j p v q1 q2 => ?_
   have hj : j < cs.length := by rw [← hl]; exact (List.getElem?_eq_some_iff.1 q1).1
   exact ih j cs[j] p (by simp [hj]) q1 (h2 j cs[j] v (by simp [hj]) q2)
theorem Keeps.ren {Ψ : Ty} {w : World} {n nr ny b : Nat} {ks : List Nat} {cs cs' : List PV} (hn : n ≤ Ψ.β.length) (h : Keeps Ψ w b cs) (hv : RnV n nr ny ks cs cs') : Keeps (Ψ.ren n ks) w b cs' := by
 rcases hv with ⟨hc, rfl⟩ | ⟨hm, hL⟩
 ·rcases h with ⟨c, h1, h2, h3⟩ | ⟨arr, es, h0, h1, h2, h3⟩ | ⟨mid, r, m, seen, h0, h1, h2⟩
  ·exact .inl ⟨c, h1, h2, fun j p v q1 q2 => (h3 j p v q1 q2).ren hn (.same p (hc p (List.mem_of_getElem? q1)))⟩
  rotate_left
  ·have hcl := hc _ (by rw [h0]; exact List.mem_cons_self ..)
   cases hcl with
   | itst _ _ _ hh => exact .inr (.inr ⟨mid, r, m, seen, h0, h1, h2.ren (nr := nr) (ny := ny) hn (.same _ (.mapv mid hh))⟩)
  ·refine .inr (.inl ⟨arr, es, h0, h1, h2, fun j p e q1 q2 => ?_⟩)
   obtain ⟨g1, k, v, rfl, g3, g4⟩ := h3 j p e q1 q2
   have hcl := hc _ (by rw [h0]; exact List.mem_cons_of_mem _ (List.mem_of_getElem? q1))
   cases hcl with
   | tuple _ hh => exact ⟨g1, k, v, rfl, g3.ren hn (.same k (hh k (by simp))), g4.ren hn (.same v (hh v (by simp)))⟩
 ·obtain ⟨g1, g2⟩ := hL.get
  rcases h with ⟨c, h1, h2, h3⟩ | ⟨arr, es, h0, _⟩ | ⟨mid, r, m, seen, h0, h1, h2⟩
  ·refine .inl ⟨c, h1, by omega, fun j p v q1 q2 => ?_⟩
   have hj : j < cs.length := by rw [← g1]; exact (List.getElem?_eq_some_iff.1 q1).1
   exact (h3 j cs[j] v (by simp [hj]) q2).ren hn (g2 j cs[j] p (by simp [hj]) q1)
  ·rw [h0] at hm
   exact absurd rfl hm.1
  ·rw [h0] at hm
   exact absurd rfl (hm.2 _ _ _)
theorem Weak.ren {N : Nat} {lo : Nat × Nat} {E E' : Env} {σ : Sg} {l l' : List (Option (List PV))} {rm : List Nat} {ys : List LState} (ks : List Nat) (hnd : ks.Nodup) (hkl : ∀ k, k ∈ ks → k < l.length) (h1 : lo.1 ≤ σ.store.length) (hcl : CleanSg σ)
  (hE : ∀ t, Rn σ.store.length (σ.rooms.length + rm.length) (σ.ys.length + ys.length) ks (E.get t) (E'.get t))
  (hL : RnS σ.store.length (σ.rooms.length + rm.length) (σ.ys.length + ys.length) ks l ks l') :
  Weak N lo E (σ.ext l rm ys) E' (σ.ext l' rm ys) := by
 intro Ψ0 Ψ D a w hb le hr
 have hs := hr.sg
 have hblen : Ψ.β.length = σ.store.length + l.length := by rw [hs.blen]; simp [Sg.ext]
 have hn : σ.store.length ≤ Ψ.β.length := by omega
 obtain ⟨l1, l2⟩ := hL.get
 have live : ∀ (id : Nat) (cs : List PV), (σ.ext l' rm ys).store[id]? = some (some cs) → ∃ id0 cs0, (σ.ext l rm ys).store[id0]? = some (some cs0) ∧ (∀ b, (Ψ.ren σ.store.length ks).β[id]? = some b → Ψ.β[id0]? = some b) ∧
   RnV σ.store.length (σ.rooms.length + rm.length) (σ.ys.length + ys.length) ks cs0 cs ∧ ((id < σ.store.length ∧ id0 = id) ∨ ∃ i k, id = σ.store.length + i ∧ ks[i]? = some k ∧ id0 = σ.store.length + k) := by
  intro id cs hid
  have hid' : (σ.store ++ l')[id]? = some (some cs) := hid
  by_cases h : id < σ.store.length
  ·rw [List.getElem?_append_left h] at hid'
   refine ⟨id, cs, ?_, fun b hb2 => ?_, .inl ⟨fun p hp => (hcl id cs h hid' p hp).mono (Nat.le_refl _) (Nat.le_add_right _ _) (Nat.le_add_right _ _), rfl⟩, .inl ⟨h, rfl⟩⟩
   ·show (σ.store ++ l)[id]? = _
    rw [List.getElem?_append_left h]; exact hid'
   ·rcases Ty.ren_inv hn hb2 with ⟨_, q⟩ | ⟨i, k, q, _⟩
    ·exact q
    ·omega
  ·rw [List.getElem?_append_right (by omega)] at hid'
   obtain ⟨k, cs0, q1, q2, q3⟩ := l2 _ cs hid'
   refine ⟨σ.store.length + k, cs0, ?_, fun b hb2 => ?_, q3, .inr ⟨id - σ.store.length, k, by omega, q1, rfl⟩⟩
   ·rw [Sg.get_ext]; exact q2
   ·rcases Ty.ren_inv hn hb2 with ⟨q, _⟩ | ⟨i, k', q4, q5, q6⟩
    ·omega
    ·have : i = id - σ.store.length := by omega
     subst this
     rw [q1] at q5
     injection q5 with q5
     subst q5
     have hkl : k < l.length := (List.getElem?_eq_some_iff.1 q2).1
     have : σ.store.length + k < Ψ.β.length := by omega
     rw [q6, List.getD_eq_getElem?_getD, List.getElem?_eq_getElem this]
     rfl
 refine ⟨Ψ.ren σ.store.length ks, ⟨le.base, le.imm, fun i b k => ?_, le.hist, le.ys, le.ds, le.rs, le.sz⟩, hr.size, fun t => (hr.env t).ren hn (hE t), ?_, hr.dsub, hr.defs⟩
 ·have hi : i < σ.store.length := by
   have := (List.getElem?_eq_some_iff.1 k).1
   have := hb.1
   omega
  exact Ty.ren_low hi (le.β i b k)
 ·refine ⟨hs.base, hs.imm, by simp [Ty.ren, Sg.ext, hblen, l1], ?_, ?_, ?_, hs.roomsApart, hs.histlt, hs.histle, ?_, hs.yok, hs.ylen', hs.dok, ?_, hs.szok⟩
  ·intro id cs b k1 k2
   obtain ⟨id0, cs0, g1, g2, g3, _⟩ := live id cs k1
   obtain ⟨a1, a2, a3⟩ := hs.block id0 cs0 b g1 (g2 b k2)
   exact ⟨a1, a2, a3.ren hn g3⟩
  ·intro id id' cs cs' b k1 k2 k3 k4
   obtain ⟨i0, c0, g1, g2, _, g4⟩ := live id cs k1
   obtain ⟨i1, c1, f1, f2, _, f4⟩ := live id' cs' k2
   have he := hs.apart i0 i1 c0 c1 b g1 f1 (g2 b k3) (f2 b k4)
   rcases g4 with ⟨q1, q2⟩ | ⟨i, k, q1, q2, q3⟩
   ·rcases f4 with ⟨p1, p2⟩ | ⟨i', k', p1, p2, p3⟩
    ·omega
    ·omega
   ·rcases f4 with ⟨p1, p2⟩ | ⟨i', k', p1, p2, p3⟩
    ·omega
    ·have : k = k' := by omega
     subst this
     have hi1 := (List.getElem?_eq_some_iff.1 q2)
     have hi2 := (List.getElem?_eq_some_iff.1 p2)
     have := (List.getElem_inj hnd).1 (hi1.2.trans hi2.2.symm)
     omega
  ·intro r n b e c es k hx hlt
   obtain ⟨a1, a2, a3, a4⟩ := hs.room r n b e c es k hx hlt
   refine ⟨a1, a2, fun id q cs q' => ?_, a4⟩
   obtain ⟨id0, cs0, g1, g2, _⟩ := live id cs q'
   exact a3 id0 (g2 b q) cs0 g1
  ·intro id b k
   rcases Ty.ren_inv hn k with ⟨_, q⟩ | ⟨i, k', q1, q2, q3⟩
   ·exact hs.βlt id b q
   ·have hk : σ.store.length + k' < Ψ.β.length := by have := hkl k' (List.mem_of_getElem? q2); omega
    refine hs.βlt (σ.store.length + k') b ?_
    rw [q3, List.getD_eq_getElem?_getD, List.getElem?_eq_getElem hk]
    rfl
  ·intro b c k
   obtain ⟨a1, a2, a3, a4, a5⟩ := hs.rok b c k
   refine ⟨a1, a2, fun id q cs q' => ?_, a4, a5⟩
   obtain ⟨id0, cs0, g1, g2, _⟩ := live id cs q'
   exact a3 id0 (g2 b q) cs0 g1
def NoGoto (Q : Exit → Env → Sg → Prop) : Exit → Env → Sg → Prop
 | .goto _, _, _ => False
 | e, E, σ => Q e E σ
section
variable {P : Program} {a : Act} {k : List Item} {cs : List Frame} {w : World} {Q : Exit → Env → Sg → Prop}
theorem stepR_scope {b : Frame} {c : Code} : step P (lone (b.atR a (.code (.scope c) :: k)) cs w) = .next (lone (b.atR a (.code c :: .inScope c :: k)) cs w) :=
 step_lone_go (by simp [stepG, stepG.exec, Frame.atR])
theorem stepR_inScope {b : Frame} {c : Code} : step P (lone (b.atR a (.inScope c :: k)) cs w) = .next (lone (b.atR a k) cs w) :=
 step_lone_go (by simp [stepG, stepG.exec, Frame.atR])
theorem W_scope {Y : YEnv} {N : Nat} {rd : Option Nat} {lo : Nat × Nat} {E : Env} {σ : Sg} {c : Code} (h : W P Y N rd lo c E σ (NoGoto Q)) : W P Y N rd lo (.scope c) E σ Q := by
 intro Ψ0 D h1 h2 h4 Ψ a w le hr b k cs hro hbf hroom
 obtain ⟨e, a1, w1, ⟨E1, σ1, Ψ1, k1, k2, k3, k4⟩, harr⟩ := h Ψ0 D h1 h2 h4 Ψ a w le hr b (.inScope c :: k) cs hro hbf hroom
 have h0 : (lone (b.atR a (.code (.scope c) :: k)) cs w).fenced P (FnOf Ψ0 rd) := fenced_calm hbf hroom rfl
 cases e with
 | normal => exact ⟨.normal, a1, w1, ⟨E1, σ1, Ψ1, k1, k2, k3, k4⟩, .head h0 stepR_scope (StepsIn.trans harr (.one (fenced_calm hbf hroom rfl) stepR_inScope))⟩
 | exit id =>
  refine ⟨.exit id, a1, w1, ⟨E1, σ1, Ψ1, k1, k2, k3, k4⟩, .of_steps (.one h0 stepR_scope) ?_⟩
  exact ⟨fun k' hk => harr.1 k' (by simpa [exitTo] using hk), fun hr' hk => harr.2 hr' (by simpa [exitTo] using hk)⟩
 | goto l => exact k4.elim
 | ret => exact ⟨_, a1, w1, ⟨E1, σ1, Ψ1, k1, k2, k3, k4⟩, .of_steps (.one h0 stepR_scope) harr⟩
 | panic ch => exact ⟨_, a1, w1, ⟨E1, σ1, Ψ1, k1, k2, k3, k4⟩, .of_steps (.one h0 stepR_scope) harr⟩
 | outgrown => exact ⟨_, a1, w1, ⟨E1, σ1, Ψ1, k1, k2, k3, k4⟩, .of_steps (.one h0 stepR_scope) harr⟩
theorem ngN {E : Env} {σ : Sg} : NoGoto Q .normal E σ = Q .normal E σ := rfl
theorem ngR {E : Env} {σ : Sg} : NoGoto Q .ret E σ = Q .ret E σ := rfl
theorem ngX {E : Env} {σ : Sg} {i : Nat} : NoGoto Q (.exit i) E σ = Q (.exit i) E σ := rfl
attribute [go_sem] ngN ngR ngX
end
theorem PC_of_calls {P : Program} {Y : YEnv} {f : FuncId} {args : List PV} {σ σ' : Sg} {v : PV} (hg : goFn P f = true)
  (h : ∀ Ψ vals w, SR Ψ σ w → VRs Ψ args vals → Calls P f vals w (fun e w' => ∃ x Ψ', e = .returned x ∧ Ψ.le Ψ' ∧ SR Ψ' σ' w' ∧ VR Ψ' v x ∧ Below Ψ.base w w')) : PC P Y f args σ v σ' :=
 ⟨hg, fun Ψ vals w hs ha _ => callsIn_wide.2 (h Ψ vals w hs ha)⟩
theorem SR.rewrite {Ψ : Ty} {σ : Sg} {w w' : World} (h : SR Ψ σ w) {id b : Nat} {cs cs' : List PV} {c c' : Array Value} {e : TypeId} (hid : σ.store[id]? = some (some cs)) (hβ : Ψ.β[id]? = some b)
  (hb : w.heap[b]? = some (.cells c e (0, 0))) (hb' : w'.heap[b]? = some (.cells c' e (0, 0))) (hsz : c'.size = c.size) (hz : w.heap.size ≤ w'.heap.size) (ho : ∀ k, k < w.heap.size → k ≠ b → w'.heap[k]? = w.heap[k]?)
  (hl : cs'.length ≤ c'.size) (hv : ∀ (j : Nat) (p : PV) (v : Value), cs'[j]? = some p → c'[j]? = some v → VR Ψ p v) : SR Ψ (σ.setVar id cs') w' := by
 obtain ⟨p1, p2, p3⟩ := h.block id cs b hid hβ
 have old : ∀ (i : Nat) (x : List PV), (σ.setVar id cs').store[i]? = some (some x) → ∃ y, σ.store[i]? = some (some y) := fun i x hx => by
  rcases setVar_some hid hx with ⟨rfl, _⟩ | ⟨_, h'⟩
  ·exact ⟨_, hid⟩
  ·exact ⟨_, h'⟩
 have hbi : blockIs w b c := ⟨e, hb⟩
 have cel : ∀ b2 o v, b2 ≠ b → w.cell? ⟨b2, o, none⟩ = some v → w'.cell? ⟨b2, o, none⟩ = some v := fun b2 o v hne hv => by
  rw [cell_eq, ho b2 (cell_lt hv) hne, ← cell_eq]; exact hv
 have blk : ∀ b2 c2, b2 ≠ b → blockIs w b2 c2 → blockIs w' b2 c2 := fun b2 c2 hne hk => hk.of_heap (ho b2 hk.lt hne)
 refine ⟨Nat.le_trans h.base hz, fun b2 o v hk => cel b2 o v (fun e2 => by subst e2; rw [p2] at hk; cases hk) (h.imm b2 o v hk), by rw [sv_len]; exact h.blen, ?_, ?_, ?_, h.roomsApart, h.histlt, h.histle, fun i b2 hk => Nat.lt_of_lt_of_le (h.βlt i b2 hk) hz, ?_, h.ylen', ?_, ?_, ?_⟩
 ·intro i x b2 hx hb2
  rcases setVar_some hid hx with ⟨rfl, rfl⟩ | ⟨hne, h'⟩
  ·have : b2 = b := by rw [hβ] at hb2; injection hb2 with hb2; exact hb2.symm
   subst this
   exact ⟨p1, p2, .inl ⟨c', ⟨e, hb'⟩, hl, hv⟩⟩
  ·have hbn : b2 ≠ b := fun e2 => hne (h.apart i id x cs b2 h' hid hb2 (e2 ▸ hβ))
   obtain ⟨a1, a2, a3⟩ := h.block i x b2 h' hb2
   exact ⟨a1, a2, a3.of_heap (ho b2 (h.βlt i b2 hb2) hbn)⟩
 ·intro i i' x x' b2 hx hx' hb2 hb2'
  obtain ⟨y, hy⟩ := old i x hx
  obtain ⟨y', hy'⟩ := old i' x' hx'
  exact h.apart i i' y y' b2 hy hy' hb2 hb2'
 ·intro r n b2 e2 c2 es hr hh hlt
  obtain ⟨a1, a2, a3, cc, a4, a5⟩ := h.room r n b2 e2 c2 es hr hh hlt
  have hbn : b2 ≠ b := fun e3 => a3 id (e3 ▸ hβ) cs hid
  refine ⟨a1, a2, fun i hi x hx => ?_, cc, blk _ _ hbn a4, a5⟩
  obtain ⟨y, hy⟩ := old i x hx
  exact a3 i hi y hy
 ·intro y l d s k1 k2
  obtain ⟨a1, a0, a2⟩ := h.yok y l d s k1 k2
  have hne : l ≠ b := by rintro rfl; rw [hb] at a2; cases a2
  exact ⟨a1, a0, by rw [ho l (heap_lt a2) hne]; exact a2⟩
 ·intro d k
  obtain ⟨a1, a2⟩ := h.dok d k
  have hne : d ≠ b := by rintro rfl; rw [hb] at a2; cases a2
  exact ⟨a1, by rw [ho d (heap_lt a2) hne]; exact a2⟩
 ·intro b2 c2 hm
  obtain ⟨a1, a2, a3, a4, a5⟩ := h.rok b2 c2 hm
  have hbn : b2 ≠ b := fun e3 => a3 id (e3 ▸ hβ) cs hid
  refine ⟨a1, a2, fun i hi x hx => ?_, a4, blk _ _ hbn a5⟩
  obtain ⟨y, hy⟩ := old i x hx
  exact a3 i hi y hy
 ·intro b2 n hm
  obtain ⟨a1, c2, a2, a3⟩ := h.szok b2 n hm
  by_cases hbn : b2 = b
  ·subst hbn
   have := a2.eq hbi
   subst this
   exact ⟨a1, c', ⟨e, hb'⟩, by omega⟩
  ·exact ⟨a1, c2, blk _ _ hbn a2, a3⟩
section
variable {P : Program} {Y : YEnv} {f : FuncId} {σ : Sg} {id : Nat} {xs ys : List Int}
theorem gsl_row {Ψ : Ty} {w : World} (hs : SR Ψ σ w) {n : Nat} {x : Value} (hid : σ.store[id]? = some (some (xs.map I))) (hn : n = xs.length) (hx : VR Ψ (.gsl id n 1) x) :
  ∃ b c e cap, x = .slice (some ⟨b, 0, none⟩) xs.length cap ∧ Ψ.β[id]? = some b ∧ w.heap[b]? = some (.cells c e (0, 0)) ∧ Sort.Holds (Value.int .i64) w b 0 xs.toArray ∧ xs.length ≤ c.size ∧ xs.length ≤ cap ∧ (b, cap * 1) ∈ Ψ.sz ∧ (b, 0) ∈ Ψ.sz ∧ Ψ.base ≤ b := by
 subst hn
 cases hx with
 | gsl _ _ _ b cap hβ hz hz0 hc =>
  obtain ⟨_, c, ⟨e, hb⟩, _⟩ := hs.szok b 0 hz0
  obtain ⟨p1, _, hk⟩ := hs.block id _ b hid hβ
  obtain ⟨k1, k2⟩ := hk.cells ⟨e, hb⟩
  rw [List.length_map] at k1
  have hbi : blockIs w b c := ⟨e, hb⟩
  refine ⟨b, c, e, cap, rfl, hβ, hb, fun j hj => ?_, k1, hc, hz, hz0, p1⟩
  have hj' : j < xs.length := by simpa using hj
  have hjc : j < c.size := by omega
  refine ⟨?_, hbi.free _⟩
  rw [Nat.zero_add, hbi.cell]
  have := k2 j (I xs[j]) c[j] (by simp [hj']) (by simp [hjc])
  cases hcj : c[j] with
  | _ => (rw [hcj] at this; cases this) <;> simp [hjc, hcj, hj']
theorem SR.row {Ψ : Ty} {w : World} (hs : SR Ψ σ w) {b : Nat} {c : Array Value} {e : TypeId} {n : Nat} {os : Array Obj} (hid : σ.store[id]? = some (some (xs.map I))) (hβ : Ψ.β[id]? = some b) (hb : w.heap[b]? = some (.cells c e (0, 0))) (hl : ys.length = xs.length) (hc : xs.length ≤ c.size) :
  SR Ψ (σ.setVar id (ys.map I)) (Sort.grow (Sort.putRow (Value.int .i64) (Sort.ahead w n) b 0 ys.toArray) os) := by
 have hg := grownBy_sortedI (w := w) (g := b) (n := n) (os := os) ys.toArray
 have ht := take_putCellsI c ys (by omega)
 refine hs.rewrite (c' := Sort.putCells (Value.int .i64) 0 ys.toArray c) hid hβ hb (heap_sortedI (w := w) (n := n) (os := os) ys.toArray hb) (by simp [Sort.putCells]) hg.size (fun k hk hne => hg.block k hk (fun e2 => hne (Option.some.inj e2))) (by simp [Sort.putCells]; omega) ?_
 intro j p v h1 h2
 simp only [List.getElem?_map, Option.map_eq_some_iff] at h1
 obtain ⟨y, hy, rfl⟩ := h1
 have hj := (List.getElem?_eq_some_iff.1 hy).1
 have h3 : ((Sort.putCells (Value.int .i64) 0 ys.toArray c).toList.take ys.length)[j]? = some v := by
  rw [List.getElem?_take_of_lt hj, Array.getElem?_toList]; exact h2
 rw [ht, List.getElem?_map, hy] at h3
 injection h3 with h3
 subst h3
 exact .int _ _
theorem Below.row {Ψ : Ty} {w : World} {b n : Nat} {os : Array Obj} {d : Array Int} (hB : Ψ.base ≤ w.heap.size) (h0 : Ψ.base ≤ b) : Below Ψ.base w (Sort.grow (Sort.putRow (Value.int .i64) (Sort.ahead w n) b 0 d) os) := by
 have hg := grownBy_sortedI (w := w) (g := b) (n := n) (os := os) d
 exact ⟨hg.os, hg.tape, hg.output, hg.size, fun k hk => hg.block k (by omega) (fun e2 => by injection e2 with e2; omega)⟩
def SortsI (P : Program) (f : FuncId) : Prop := goFn P f = true ∧ (∀ (p : Option Addr) (cap : Nat) (w : World), Calls P f #[.slice p 0 cap] w fun e w' => e = .returned (.tuple #[]) ∧ w' = w) ∧
 ∀ (blk off cap : Nat) (zs : List Int) (w : World), Sort.Holds (Value.int .i64) w blk off zs.toArray → blk < w.heap.size → zs.length < 4611686018427387904 → Calls P f #[.slice (some ⟨blk, off, none⟩) zs.length cap] w fun e w' =>
  e = .returned (.tuple #[]) ∧ ∃ n os, w' = Sort.grow (Sort.putRow (Value.int .i64) (Sort.ahead w n) blk off (zs.mergeSort fun x y => decide (x ≤ y)).toArray) os
def sortI (xs : List Int) : List Int := xs.mergeSort fun x y => decide (x ≤ y)
theorem sortI_len (xs : List Int) : (sortI xs).length = xs.length := by simp [sortI, List.length_mergeSort]
theorem PC_sortI (h : SortsI P f) (hid : σ.store[id]? = some (some (xs.map I))) (hl : xs.length < 2 ^ 60) : PC P Y f [.gsl id xs.length 1] σ (.tuple []) (σ.setVar id ((sortI xs).map I)) := by
 refine PC_of_calls h.1 fun Ψ vals w hs ha => ?_
 obtain ⟨x, rfl⟩ : ∃ x, vals = #[x] := by
  have := ha.1
  match vals, this with
  | ⟨[x]⟩, _ => exact ⟨x, rfl⟩
 obtain ⟨b, c, e, cap, rfl, hβ, hb, hH, h1, _, _, _, h0⟩ := gsl_row hs hid rfl (ha.2 0 _ _ rfl rfl)
 have hbl : b < w.heap.size := (Array.getElem?_eq_some_iff.1 hb).1
 refine (h.2.2 b 0 cap xs w hH hbl (by omega)).mono ?_
 rintro e2 w2 ⟨rfl, n, os, rfl⟩
 exact ⟨_, Ψ, rfl, Ty.le.refl _, hs.row hid hβ hb (sortI_len xs) h1, skipped_ok _, Below.row hs.base h0⟩
theorem PC_sort0 (h : SortsI P f) : PC P Y f [.gnil] σ (.tuple []) σ := by
 refine PC_of_calls h.1 fun Ψ vals w hs ha => ?_
 obtain ⟨x, rfl⟩ : ∃ x, vals = #[x] := by
  have := ha.1
  match vals, this with
  | ⟨[x]⟩, _ => exact ⟨x, rfl⟩
 have hx := ha.2 0 _ _ rfl rfl
 cases hx with
 | gnil a =>
  refine (h.2.1 a 0 w).mono ?_
  rintro e2 w2 ⟨rfl, rfl⟩
  exact ⟨_, Ψ, rfl, Ty.le.refl _, hs, skipped_ok _, Below.refl _ _⟩
end
section
variable {N : Nat} {lo : Nat × Nat} {E : Env} {σ : Sg}
theorem Keeps.setOne {Ψ : Ty} {w : World} {b off : Nat} {cs : List PV} {p q : PV} (h : Keeps Ψ w b cs) (hp : cs[off]? = some p) (h0 : p ≠ .mark) (h1 : ∀ k v, p ≠ .tuple [k, v]) (hq : ∀ x, VR Ψ p x → VR Ψ q x) (h2 : ∀ m n s, p ≠ .itst m n s := by simp) : Keeps Ψ w b (cs.set off q) := by
 have hlt : off < cs.length := (List.getElem?_eq_some_iff.1 hp).1
 rcases h with ⟨c, a3, a4, a5⟩ | ⟨arr, es, rfl, a3, a4, a5⟩ | ⟨mid, r, n, seen, rfl, a3, a4⟩
 ·refine .inl ⟨c, a3, by simpa using a4, fun j r v e1 e2 => ?_⟩
  rw [List.getElem?_set] at e1
  by_cases e : off = j
  ·subst e
   rw [if_pos rfl, if_pos hlt] at e1
   injection e1 with e1
   subst e1
   exact hq _ (a5 off p v hp e2)
  ·rw [if_neg e] at e1
   exact a5 j r v e1 e2
 ·exfalso
  rcases off with _ | off
  ·simp at hp; exact h0 hp.symm
  ·simp only [List.getElem?_cons_succ] at hp
   have hlt' : off < arr.size := by rw [a4]; exact (List.getElem?_eq_some_iff.1 hp).1
   obtain ⟨_, k, v, e2, _⟩ := a5 off p arr[off] hp (by simp [hlt'])
   exact h1 k v e2
 ·exfalso
  rcases off with _ | off
  ·simp at hp; exact h2 _ _ _ hp.symm
  ·simp at hp
theorem Weak.cellV {id off : Nat} {cs : List PV} {p q : PV} (hid : σ.store[id]? = some (some cs)) (hc : cs[off]? = some p) (h0 : p ≠ .mark) (h1 : ∀ k v, p ≠ .tuple [k, v]) (hq : ∀ Ψ x, VR Ψ p x → VR Ψ q x) (h2 : ∀ m n s, p ≠ .itst m n s := by simp) : Weak N lo E σ E (σ.setVar id (cs.set off q)) := by
 intro Ψ0 Ψ D a w hb le hr
 have hs2 := hr.sg.reread (cs' := cs.set off q) hid (fun b hb2 hk => hk.setOne hc h0 h1 (hq Ψ) h2)
 exact ⟨Ψ, le, hr.size, hr.env, hs2, hr.dsub, hr.defs⟩
theorem VR.to_gnil {Ψ : Ty} {x : Value} (hv : VR Ψ (.isl [] .exact) x) : VR Ψ .gnil x := by
 cases hv with
 | islnil _ a' _ => exact .gnil a'
 | isl es _ _ b o cap vals hs h1 h2 hc ho =>
  have : cap = 0 := ho
  subst this
  exact .gnil _
theorem VR.of_gnil {Ψ : Ty} {x : Value} (hv : VR Ψ .gnil x) : VR Ψ (.isl [] .ro) x := by
 cases hv with
 | gnil a => exact .islnil .ro a trivial
theorem Weak.gnilX {l : List (Option (List PV))} {rm : List Nat} {ys : List LState} {j off : Nat} {cs : List PV} (hid : l[j]? = some (some cs)) (hc : cs[off]? = some (.isl [] .exact)) :
  Weak N lo E (σ.ext l rm ys) E (σ.ext (l.set j (some (cs.set off .gnil))) rm ys) := by
 have h := Weak.cellV (N := N) (lo := lo) (E := E) (σ := σ.ext l rm ys) (id := σ.store.length + j) (off := off) (cs := cs) (q := .gnil) (by rw [Sg.get_ext]; exact hid) hc (by simp) (by simp) (fun _ _ => VR.to_gnil)
 rw [Sg.set_ext] at h
 exact h
theorem Weak.ungnilX {l : List (Option (List PV))} {rm : List Nat} {ys : List LState} {j off : Nat} {cs : List PV} (hid : l[j]? = some (some cs)) (hc : cs[off]? = some .gnil) :
  Weak N lo E (σ.ext l rm ys) E (σ.ext (l.set j (some (cs.set off (.isl [] .ro)))) rm ys) := by
 have h := Weak.cellV (N := N) (lo := lo) (E := E) (σ := σ.ext l rm ys) (id := σ.store.length + j) (off := off) (cs := cs) (q := .isl [] .ro) (by rw [Sg.get_ext]; exact hid) hc (by simp) (by simp) (fun _ _ => VR.of_gnil)
 rw [Sg.set_ext] at h
 exact h
theorem Weak.freezeV {cid off id len es : Nat} {ccs rest : List PV} {l : List PV} (hne : cid ≠ id) (hcid : σ.store[cid]? = some (some ccs)) (hc : ccs[off]? = some (.gsl id len es)) (hs : σ.store[id]? = some (some (rowC l ++ rest))) (hl : l.length = len) (hes : ∀ q ∈ l, q.cells.length = es) :
  Weak N lo E σ E ((σ.drop id).setVar cid (ccs.set off (.isl l .ro))) := by
 intro Ψ0 Ψ D a w hb le hr
 obtain ⟨b0, hβ0⟩ : ∃ b, Ψ.β[cid]? = some b := by
  have : cid < Ψ.β.length := by rw [hr.sg.blen]; exact (List.getElem?_eq_some_iff.1 hcid).1
  exact ⟨Ψ.β[cid], by simp [this]⟩
 obtain ⟨_, _, hkc⟩ := hr.sg.block cid ccs b0 hcid hβ0
 have hv : ∃ x, VR Ψ (.gsl id len es) x := by
  rcases hkc with ⟨c, a3, a4, a5⟩ | ⟨arr, es', rfl, a3, a4, a5⟩ | ⟨mid, r, n, seen, rfl, _, _⟩
  ·have hlt : off < c.size := Nat.lt_of_lt_of_le (List.getElem?_eq_some_iff.1 hc).1 a4
   exact ⟨c[off], a5 off _ _ hc (by simp [hlt])⟩
  ·rcases off with _ | off
   ·simp at hc
   ·simp only [List.getElem?_cons_succ] at hc
    have hlt' : off < arr.size := by rw [a4]; exact (List.getElem?_eq_some_iff.1 hc).1
    obtain ⟨_, k, v, e2, _⟩ := a5 off _ arr[off] hc (by simp [hlt'])
    cases e2
  ·rcases off with _ | off
   ·simp at hc
   ·simp at hc
 obtain ⟨x0, hx0⟩ := hv
 cases hx0 with
 | gsl _ _ _ b cap hβ hz1 hz0 hcap =>
 obtain ⟨_, c, hbk, _⟩ := hr.sg.szok b 0 hz0
 obtain ⟨_, _, hkp⟩ := hr.sg.block id _ b hs hβ
 obtain ⟨a4, a5⟩ := hkp.cells hbk
 obtain ⟨le2, hs2⟩ := hr.sg.freeze hs hβ hbk
 have hcid2 : (σ.drop id).store[cid]? = some (some ccs) := by
  show (σ.store.set id none)[cid]? = _
  rw [List.getElem?_set_ne (fun e => hne e.symm)]
  exact hcid
 have hat : ∀ (k : Nat) (q : PV) (j : Nat) (p : PV), l[k]? = some q → q.cells[j]? = some p → (rowC l ++ rest)[k * es + j]? = some p ∧ k * es + j < c.size := fun k q j p q1 q2 => by
  have h1 := rowC_at hes q1 q2
  have h2 : (rowC l ++ rest)[k * es + j]? = some p := by rw [List.getElem?_append_left (List.getElem?_eq_some_iff.1 h1).1]; exact h1
  exact ⟨h2, Nat.lt_of_lt_of_le (List.getElem?_eq_some_iff.1 h2).1 a4⟩
 have hs3 := hs2.reread (cs' := ccs.set off (.isl l .ro)) hcid2 (fun b2 hb2 h2 => h2.setOne hc (by simp) (by simp) (fun y hy => by
  cases hy with
  | gsl _ _ _ b' cap' hβ' _ _ hcap' =>
  have hbb : b' = b := by
   have := le2.β id b hβ
   rw [hβ'] at this
   injection this
  subst hbb
  rw [← hl]
  refine .isl es l .ro b' 0 cap' (fun k j => c.getD (k * es + j) undef) (fun k q hk => hes q (List.mem_of_getElem? hk)) (fun k q j p q1 q2 => ?_) (fun k q j p q1 q2 => ?_) (by omega) trivial
  ·obtain ⟨_, hlt⟩ := hat k q j p q1 q2
   simp only [Ty.addImm, Nat.zero_add]
   rw [if_pos ⟨trivial, Nat.zero_le _, hlt⟩]
   simp [Array.getD, hlt]
  ·obtain ⟨h1, hlt⟩ := hat k q j p q1 q2
   refine (a5 _ p _ h1 ?_).mono le2
   simp [Array.getD, hlt]))
 refine ⟨_, le.trans le2, hr.size, fun t' => (hr.env t').mono le2, hs3, fun d hd => le2.ds _ (hr.dsub d hd), ?_⟩
 obtain ⟨rs, r1, r2, r3⟩ := hr.defs
 exact ⟨rs, r1, r2, fun r hm => ⟨le2.ds _ (r3 r hm).1, (r3 r hm).2⟩⟩
theorem Weak.freezeX {l : List (Option (List PV))} {rm : List Nat} {ys : List LState} {j k off len es : Nat} {ccs rest m : List PV} (hne : j ≠ k) (hcid : l[j]? = some (some ccs)) (hc : ccs[off]? = some (.gsl (σ.store.length + k) len es)) (hs : l[k]? = some (some (rowC m ++ rest))) (hl : m.length = len) (hes : ∀ q ∈ m, q.cells.length = es) :
  Weak N lo E (σ.ext l rm ys) E (σ.ext ((l.set k none).set j (some (ccs.set off (.isl m .ro)))) rm ys) := by
 have h := Weak.freezeV (N := N) (lo := lo) (E := E) (σ := σ.ext l rm ys) (cid := σ.store.length + j) (id := σ.store.length + k) (by omega) (by rw [Sg.get_ext]; exact hcid) hc (by rw [Sg.get_ext]; exact hs) hl hes
 rw [Sg.drop_ext, Sg.set_ext] at h
 exact h
end
def glI (n : Nat) (out : List Int) : PV := match out with
 | [] => .gnil
 | _ :: t => .gsl (n + t.length) (t.length + 1) 1
def gsI (out : List Int) : List (Option (List PV)) := match out with
 | [] => []
 | _ :: t => List.replicate t.length none ++ [some (out.map I)]
theorem gsI_len (out : List Int) : (gsI out).length = out.length := by cases out <;> simp [gsI]
theorem glI_cells (n : Nat) (out : List Int) : (glI n out).cells = [glI n out] := by cases out <;> rfl
theorem glI_scalar (n : Nat) (out : List Int) : (glI n out).scalar = true := by cases out <;> rfl
theorem glI_defd (n : Nat) (out : List Int) : defd (glI n out) = true := by cases out <;> rfl
theorem appendAny_gl {P : Program} {σ : Sg} {t t' : TypeId} {n : Nat} {out : List Int} {m : List PV} {o : Own} : appendAny P σ t t' (glI n out) (.isl m o) = appendG P σ t t' (glI n out) (.isl m o) := by cases out <;> rfl
theorem cells_gsl (a b c : Nat) : (PV.gsl a b c).cells = [PV.gsl a b c] := rfl
theorem cells_gnil : PV.gnil.cells = [PV.gnil] := rfl
attribute [go_sem] appendAny_gl cells_gsl cells_gnil
attribute [go_sem high] glI_cells glI_scalar glI_defd
theorem stX_glI {σ : Sg} {l : List (Option (List PV))} {rm : List Nat} {ys : List LState} {j off n : Nat} {out : List Int} : stX 1 (σ.ext l rm ys) (σ.store.length + j) off (glI n out) = match l[j]? with
  | some (some cs) => if off + 1 ≤ cs.length then some (σ.ext (l.set j (some (putCells cs off [glI n out]))) rm ys) else none
  | _ => none := by
 simp only [stX_ext, glI_defd, glI_cells, List.all_cons, List.all_nil, glI_scalar]
 rcases l[j]? with _ | _ | cs <;> simp
attribute [go_sem high] stX_glI
theorem glI_clean {a b c n : Nat} {out : List Int} (h : n + out.length ≤ a) : Clean a b c (glI n out) := by
 cases out with
 | nil => exact .gnil
 | cons x out => exact .gsl _ _ _ (by simp at h; omega)
theorem CleanLs_append {a b c : Nat} {l m : List (Option (List PV))} (h : CleanLs a b c l) (k : CleanLs a b c m) : CleanLs a b c (l ++ m) := fun cs hcs => by
 rcases List.mem_append.1 hcs with h' | h'
 ·exact h cs h'
 ·exact k cs h'
theorem CleanLs_rep {a b c : Nat} (n : Nat) : CleanLs a b c (List.replicate n none) := fun cs hcs => by
 have := List.eq_of_mem_replicate hcs
 cases this
theorem gsI_clean {a b c : Nat} (out : List Int) : CleanLs a b c (gsI out) := by
 cases out with
 | nil => simp only [gsI, CleanLs_nil]
 | cons x out =>
  refine CleanLs_append (CleanLs_rep _) ?_
  simp only [CleanLs_cons, CleanLs_nil, and_true]
  intro p hp
  obtain ⟨y, _, rfl⟩ := List.mem_map.1 hp
  exact .int _ _
section
variable {σ : Sg} {A : List (Option (List PV))} {rm : List Nat} {ys : List LState} {N : Nat} {lo : Nat × Nat} {E : Env} {out : List Int}
theorem get_mid {α : Type} {A B : List α} {x : α} : (A ++ x :: B)[A.length]? = some x := by simp
theorem set_mid {α : Type} {A B : List α} {x y : α} : (A ++ x :: B).set A.length y = A ++ y :: B := by simp
theorem gsI_get {x : Int} : (A ++ gsI (x :: out))[A.length + out.length]? = some (some ((x :: out).map I)) := by
 have : A.length + out.length = (A ++ List.replicate out.length (none : Option (List PV))).length := by simp
 rw [this, gsI, ← List.append_assoc]
 exact get_mid
theorem gsI_set {x : Int} {y : Option (List PV)} : (A ++ gsI (x :: out)).set (A.length + out.length) y = A ++ (List.replicate out.length none ++ [y]) := by
 have : A.length + out.length = (A ++ List.replicate out.length (none : Option (List PV))).length := by simp
 rw [this, gsI, ← List.append_assoc, ← List.append_assoc]
 exact set_mid
theorem appG_gl (x : Int) (h : (out.length + 1) * 8 ≤ 2 ^ 47) : appG 1 8 (σ.ext (A ++ gsI out) rm ys) (glI (σ.store.length + A.length) out) [I x] = some (glI (σ.store.length + A.length) (out ++ [x]), σ.ext (A ++ gsI (out ++ [x])) rm ys) := by
 cases out with
 | nil =>
  rw [glI, appG_nil (by rfl) (by simp) (by simp)]
  simp [gsI, glI, rowC, Sg.push_ext, Sg.len_ext]
 | cons y out =>
  simp only [glI]
  rw [appG_more (cs := (y :: out).map I) (by rw [Nat.add_assoc, Sg.get_ext]; exact gsI_get) (by simp) (by rfl) (by simp) (by simpa using h)]
  rw [Nat.add_assoc (Sg.store σ).length, Sg.drop_ext, gsI_set]
  simp only [Sg.push_ext, Sg.len_ext, rowC]
  have e : List.replicate (out ++ [x]).length (none : Option (List PV)) = List.replicate out.length none ++ [none] := by simp [List.replicate_succ']
  simp only [List.cons_append, gsI, e]
  simp [Nat.add_assoc]
theorem sortI_nil : sortI [] = [] := by simp [sortI]
theorem glI_sort (n : Nat) : glI n (sortI out) = glI n out := by
 have hl := sortI_len out
 cases h : sortI out with
 | nil =>
  rw [h] at hl
  cases out with
  | nil => rfl
  | cons x out => simp at hl
 | cons y s =>
  rw [h] at hl
  cases out with
  | nil => simp at hl
  | cons x out => simp only [List.length_cons] at hl; simp only [glI]; rw [show s.length = out.length by omega]
theorem sort_gl {P : Program} {Y : YEnv} {f : FuncId} (h : SortsI P f) (hl : out.length < 2 ^ 60) : PC P Y f [glI (σ.store.length + A.length) out] (σ.ext (A ++ gsI out) rm ys) (.tuple []) (σ.ext (A ++ gsI (sortI out)) rm ys) := by
 cases out with
 | nil => rw [sortI_nil]; exact PC_sort0 h
 | cons x out =>
  have h1 := PC_sortI (Y := Y) (σ := σ.ext (A ++ gsI (x :: out)) rm ys) (id := σ.store.length + A.length + out.length) (xs := x :: out) h (by rw [Nat.add_assoc, Sg.get_ext]; exact gsI_get) hl
  rw [Nat.add_assoc, Sg.set_ext, gsI_set] at h1
  have e : A ++ (List.replicate out.length none ++ [some ((sortI (x :: out)).map I)]) = A ++ gsI (sortI (x :: out)) := by
   have hs := sortI_len (x :: out)
   cases hc : sortI (x :: out) with
   | nil => rw [hc] at hs; simp at hs
   | cons y s =>
    rw [hc] at hs
    simp only [List.length_cons] at hs
    simp only [gsI]
    rw [show out.length = s.length by omega]
  rw [e] at h1
  simp only [glI]
  rw [Nat.add_assoc]
  exact h1
def glC (n : Nat) (s : List Int) : PV := match s with
 | [] => .gnil
 | _ :: t => .gsl (n + t.length) (Lib.compact s).length 1
theorem glC_cells (n : Nat) (out : List Int) : (glC n out).cells = [glC n out] := by cases out <;> rfl
theorem glC_scalar (n : Nat) (out : List Int) : (glC n out).scalar = true := by cases out <;> rfl
theorem glC_defd (n : Nat) (out : List Int) : defd (glC n out) = true := by cases out <;> rfl
attribute [go_sem high] glC_cells glC_scalar glC_defd
theorem stX_glC {σ : Sg} {l : List (Option (List PV))} {rm : List Nat} {ys : List LState} {j off n : Nat} {out : List Int} : stX 1 (σ.ext l rm ys) (σ.store.length + j) off (glC n out) = match l[j]? with
  | some (some cs) => if off + 1 ≤ cs.length then some (σ.ext (l.set j (some (putCells cs off [glC n out]))) rm ys) else none
  | _ => none := by
 simp only [stX_ext, glC_defd, glC_cells, List.all_cons, List.all_nil, glC_scalar]
 rcases l[j]? with _ | _ | cs <;> simp
attribute [go_sem high] stX_glC
end
def GLw (P : Program) (Y : YEnv) (N : Nat) (lo : Nat × Nat) (ops : Array Oper) : Nat → List Oper → Env → Sg → (Env → Sg → Prop) → Prop
 | 0, os, E, σ, K => ∃ E' σ', Weak N lo E σ E' σ' ∧ GL P Y N ops os E' σ' K
 | _ + 1, [], _, _, _ => False
 | n + 1, o :: os, E, σ, K => GL P Y N ops [o] E σ (fun E' σ' => GLw P Y N lo ops n os E' σ' K)
theorem GLw_ok {D : List Nat} {P : Program} {Y : YEnv} {N : Nat} {rd : Option Nat} {lo : Nat × Nat} {ops : Array Oper} {K : Env → Sg → Prop} {Ψ0 : Ty} {Q : Exit → Act → World → Prop} (hbd : Bnd Ψ0 lo) :
  ∀ (n : Nat) (os : List Oper) (is : List Nat), (∀ n : Nat, os[n]? = (is[n]?).bind fun i => ops[i]?) → os.length = is.length → ∀ (E : Env) (σ : Sg) (Ψ : Ty) (a : Act) (w : World), Ψ0.le Ψ → Rel N D Ψ E σ a w → YOK P Y Ψ0 →
  GLw P Y N lo ops n os E σ K → (∀ E' σ' Ψ' a' w', Ψ0.le Ψ' → Rel N D Ψ' E' σ' a' w' → Below Ψ0.base w w' → K E' σ' → Q .normal a' w') → wpOpsIn (FnOf Ψ0 rd) 0 P ops Q is a w := by
 intro n
 induction n with
 | zero =>
  intro os is his hl E σ Ψ a w le hr hy hg hk
  obtain ⟨E', σ', hw, hg⟩ := hg
  obtain ⟨Ψ', le', hr'⟩ := hw Ψ0 Ψ D a w hbd le hr
  exact GL_ok os is his hl E' σ' Ψ' a w le' hr' hy hg hk
 | succ n ihn =>
  intro os is his hl E σ Ψ a w le hr hy hg hk
  cases os with
  | nil => exact hg.elim
  | cons o os =>
  cases is with
  | nil => simp at hl
  | cons i is =>
   have h0 := his 0
   simp only [List.getElem?_cons_zero, Option.bind_some] at h0
   have his' : ∀ n : Nat, os[n]? = (is[n]?).bind fun i => ops[i]? := fun n => by simpa using his (n + 1)
   have hl' : os.length = is.length := by simpa using hl
   simp only [GLw, GL] at hg
   obtain ⟨hd, hg⟩ := hg
   simp only [wpOpsIn, ← h0]
   have fin : ∀ {v : PV} {σ' : Sg} {x : Value} {w' : World} {Ψ' : Ty}, Ψ.le Ψ' → SR Ψ' σ' w' → VR Ψ' v x → Below Ψ.base w w' → GLw P Y N lo ops n os (E.put o.dst v) σ' K → wpOpsIn (FnOf Ψ0 rd) 0 P ops Q is (a.put o.dst x) w' := by
    intro v σ' x w' Ψ' le' hs' hv hb hg'
    exact ihn os is his' hl' _ σ' Ψ' _ w' (le.trans le') (hr.put le' hs' hd hv) hy hg' fun E2 σ2 Ψ2 a2 w2 l2 r2 b2 k2 => hk E2 σ2 Ψ2 a2 w2 l2 r2 (Below.trans (by rw [← le.base]; exact hb) b2) k2
   cases hw : wantedPV ops E o with
   | none => rw [hw] at hg; exact (hg : False).elim
   | some b =>
    rw [hw] at hg
    rw [wanted_ok hw hr.env]
    cases b with
    | false =>
     rw [GWant_false] at hg
     simp only [Bool.false_eq_true, if_false]
     exact ⟨fun f _ => FnOf_fn _ _ _, fin (Ty.le.refl _) hr.sg (skipped_ok _) (Below.refl _ _) hg⟩
    | true =>
     simp only [if_true]
     refine ⟨fun f _ => FnOf_fn _ _ _, ?_⟩
     cases hwh : whom E o.op with
     | nobody =>
      rw [GWant_true, hwh, GWho_nobody] at hg
      cases heff : effOp P σ E o.op with
      | none => rw [heff] at hg; exact (hg : False).elim
      | some r =>
       obtain ⟨v, σ'⟩ := r
       rw [heff, GOpt_some] at hg
       obtain ⟨nx, x, w', Ψ', k1, k2, k3, k4, k5, k6⟩ := effOp_ok heff hr.sg hr.env
       rw [Oper.semAt_eq _ _ _ (effOp_not_defer heff), k1]
       rcases k2 with rfl | ⟨rfl, rfl⟩
       ·exact fin k3 k4 k5 k6 hg
       ·exact fin k3 k4 k5 k6 hg
     | fn f args =>
      rw [GWant_true, hwh, GWho_fn] at hg
      obtain ⟨v, σ', hpc, hg⟩ := hg
      obtain ⟨hnd, vals, k1, k2⟩ := whom_fn hwh hr.env hpc.1 w
      rw [Oper.semAt_eq _ _ _ hnd, k1]
      refine ⟨fun h => (by rw [FnOf_depth] at h; cases h), ?_⟩
      refine CallsIn.mono (callsIn_FnOf (hpc.2 Ψ vals w hr.sg k2 (hy.mono le))) fun e w' hh => ?_
      obtain ⟨x, Ψ', rfl, l1, l2, l3, l4⟩ := hh
      exact fin l1 l2 l3 l4 hg
     | yield y args =>
      rw [GWant_true, hwh, GWho_yield] at hg
      obtain ⟨b, σ', hargs, hg⟩ := hg
      obtain ⟨hnd, vals, l, d, hl1, k2, hrun⟩ := whom_yield hwh hr.env
      obtain ⟨l', r0, hl2, hround⟩ := (hy.mono le) y args σ b σ' hargs
      rw [hl1] at hl2
      injection hl2 with hl2
      injection hl2 with hl2 _
      subst hl2
      obtain ⟨r, q1, q2, q3⟩ := hround Ψ vals w (Ty.le.refl _) hr.sg k2
      rw [Oper.semAt_eq _ _ _ hnd, hrun P w r q1 q2]
      refine ⟨fun h => (by rw [FnOf_depth] at h; cases h), ?_⟩
      refine RoundIn.mono (roundIn_FnOf q3) fun e w' hh => ?_
      obtain ⟨Ψ', rfl, l1, l2, l4⟩ := hh
      exact fin l1 l2 (.bool b) l4 hg
theorem W_regionN {P : Program} {Y : YEnv} {N : Nat} {rd : Option Nat} {lo : Nat × Nat} {id : Nat} {ops : Array Oper} {E : Env} {σ : Sg} {Q : Exit → Env → Sg → Prop} (ks : List Nat) (n : Nat)
  (h : ∀ K : Env → Sg → Prop, (∀ E' σ', Q .normal (keep ks E') σ' → K E' σ') → GLw P Y N lo ops n ops.toList E σ K) : W P Y N rd lo (.region id ops false) E σ Q := by
 intro Ψ0 D hb hy _ Ψ a w le hr
 refine wpIn_region ?_
 refine GLw_ok (K := fun E' σ' => Q .normal (keep ks E') σ') hb n ops.toList (List.range ops.size) ?_ (by simp) E σ Ψ a w le hr hy (h _ fun _ _ k => k) ?_
 ·intro n
  simp only [Array.getElem?_toList]
  by_cases hn : n < ops.size
  ·simp [hn]
  ·simp [hn]
 ·intro E' σ' Ψ' a' w' le' hr' hb hq
  exact ⟨_, σ', Ψ', le', hr'.keep ks, hb, hq⟩
theorem Weak.gone {N : Nat} {lo : Nat × Nat} {E : Env} {σ : Sg} (id : Nat) : Weak N lo E σ E (σ.drop id) := fun _ Ψ _ _ _ _ le hr =>
 ⟨Ψ, le, hr.size, hr.env, hr.sg.dropVar id, hr.dsub, hr.defs⟩
theorem Weak.goneX {N : Nat} {lo : Nat × Nat} {E : Env} {σ : Sg} {l : List (Option (List PV))} {rm : List Nat} {ys : List LState} (j : Nat) : Weak N lo E (σ.ext l rm ys) E (σ.ext (l.set j none) rm ys) := by
 have h := Weak.gone (N := N) (lo := lo) (E := E) (σ := σ.ext l rm ys) (σ.store.length + j)
 rw [Sg.drop_ext] at h
 exact h
section
variable {P : Program} {Y : YEnv} {N : Nat} {rd : Option Nat} {lo : Nat × Nat} {ops : Array Oper} {E : Env} {σ : Sg}
theorem next_step {D : List Nat} {K : Env → Sg → Prop} {Ψ0 : Ty} {Q : Exit → Act → World → Prop} {o : Oper} {os : List Oper} {it : Operand} (hop : o.op = .next it false) (hg : o.guard = none) (hd : dstOK N o = true)
  {id mid : Nat} {seen : List Nat} {es : List PV} (hi : iterAt σ (ev E it) = some (id, mid, seen, es)) (is : List Nat) (his : ∀ n : Nat, (o :: os)[n]? = (is[n]?).bind fun i => ops[i]?) (hl : (o :: os).length = is.length)
  (Ψ : Ty) (a : Act) (w : World) (le : Ψ0.le Ψ) (hr : Rel N D Ψ E σ a w) (hy : YOK P Y Ψ0)
  (h0 : (∀ j, j < es.length → j ∈ seen) → GL P Y N ops os (E.put o.dst (.tuple [.bool false])) σ K)
  (h1 : ∀ j k u, es[j]? = some (.tuple [k, u]) → j ∉ seen → GL P Y N ops os (E.put o.dst (.tuple [.bool true, k, u])) (σ.setVar id [.itst mid es.length (seen ++ [j])]) K)
  (hk : ∀ E' σ' Ψ' a' w', Ψ0.le Ψ' → Rel N D Ψ' E' σ' a' w' → Below Ψ0.base w w' → K E' σ' → Q .normal a' w') : wpOpsIn (FnOf Ψ0 rd) 0 P ops Q is a w := by
 cases is with
 | nil => simp at hl
 | cons i is =>
  have e0 := his 0
  simp only [List.getElem?_cons_zero, Option.bind_some] at e0
  have his' : ∀ n : Nat, os[n]? = (is[n]?).bind fun i => ops[i]? := fun n => by simpa using his (n + 1)
  have hl' : os.length = is.length := by simpa using hl
  simp only [wpOpsIn, ← e0]
  have hw : wantedPV ops E o = some true := by unfold wantedPV; rw [hg]
  rw [wanted_ok hw hr.env]
  simp only [if_true]
  refine ⟨fun f _ => FnOf_fn _ _ _, ?_⟩
  have fin : ∀ {v : PV} {σ' : Sg} {x : Value} {w' : World} {Ψ' : Ty}, Ψ.le Ψ' → SR Ψ' σ' w' → VR Ψ' v x → Below Ψ.base w w' → GL P Y N ops os (E.put o.dst v) σ' K → wpOpsIn (FnOf Ψ0 rd) 0 P ops Q is (a.put o.dst x) w' := by
   intro v σ' x w' Ψ' le' hs' hv hb hg'
   exact GL_ok os is his' hl' _ σ' Ψ' _ w' (le.trans le') (hr.put le' hs' hd hv) hy hg' fun E2 σ2 Ψ2 a2 w2 l2 r2 b2 k2 => hk E2 σ2 Ψ2 a2 w2 l2 r2 (Below.trans (by rw [← le.base]; exact hb) b2) k2
  have hex : ∀ {v : PV} {σ' : Sg}, Did P (Instr.next (a.eval it) false o.type) Ψ w v σ' → ∃ x w' Ψ', (execOp a.eval o).run P w = .ok (.value x) w' ∧ Ψ.le Ψ' ∧ SR Ψ' σ' w' ∧ VR Ψ' v x ∧ Below Ψ.base w w' := by
   intro v σ' h
   obtain ⟨x, w', Ψ', k1, k2, k3, k4, k5⟩ := h
   refine ⟨x, w', Ψ', ?_, k2, k3, k4, k5⟩
   unfold execOp
   rw [hop]
   simp only
   rw [run_bind_ok k1]
   rfl
  have hnd : ∀ c, o.op ≠ .defer c := fun c e => by rw [hop] at e; cases e
  rcases next_ok (P := P) hr.sg hi (ev_ok hr.env it) o.type with ⟨q1, q2⟩ | ⟨j, k, u, q1, q2, q3⟩
  ·obtain ⟨x, w', Ψ', k1, k2, k3, k4, k5⟩ := hex q2
   rw [Oper.semAt_eq _ _ _ hnd, k1]
   exact fin k2 k3 k4 k5 (h0 q1)
  ·obtain ⟨x, w', Ψ', k1, k2, k3, k4, k5⟩ := hex q3
   rw [Oper.semAt_eq _ _ _ hnd, k1]
   exact fin k2 k3 k4 k5 (h1 j k u q1 q2)
theorem W_next {rid : Nat} {Q : Exit → Env → Sg → Prop} (ks : List Nat) {o : Oper} {os : List Oper} {it : Operand} (hops : ops.toList = o :: os) (hop : o.op = .next it false) (hg : o.guard = none) (hd : dstOK N o = true)
  {id mid : Nat} {seen : List Nat} {es : List PV} (hi : iterAt σ (ev E it) = some (id, mid, seen, es))
  (h0 : ∀ K : Env → Sg → Prop, (∀ E' σ', Q .normal (keep ks E') σ' → K E' σ') → (∀ j, j < es.length → j ∈ seen) → GL P Y N ops os (E.put o.dst (.tuple [.bool false])) σ K)
  (h1 : ∀ K : Env → Sg → Prop, (∀ E' σ', Q .normal (keep ks E') σ' → K E' σ') → ∀ j k u, es[j]? = some (.tuple [k, u]) → j ∉ seen → GL P Y N ops os (E.put o.dst (.tuple [.bool true, k, u])) (σ.setVar id [.itst mid es.length (seen ++ [j])]) K) :
  W P Y N rd lo (.region rid ops false) E σ Q := by
 intro Ψ0 D hb hy _ Ψ a w le hr
 refine wpIn_region ?_
 refine next_step (K := fun E' σ' => Q .normal (keep ks E') σ') (os := os) hop hg hd hi (List.range ops.size) ?_ (by rw [← hops]; simp) Ψ a w le hr hy (h0 _ fun _ _ k => k) (h1 _ fun _ _ k => k) ?_
 ·intro n
  rw [← hops]
  simp only [Array.getElem?_toList]
  by_cases hn : n < ops.size
  ·simp [hn]
  ·simp [hn]
 ·intro E' σ' Ψ' a' w' le' hr' hb hq
  exact ⟨_, σ', Ψ', le', hr'.keep ks, hb, hq⟩
end
structure Rnd where
 keep : Int
 jury : Int
 member : Int
 deriving DecidableEq
structure Contest where
 songs : Int
 juries : Int
 members : Int
 most : Int
 rounds : List Rnd
 deriving DecidableEq
structure Ballot where
 serial : Int
 round : Int
 kind : Int
 voter : Int
 song : Int
 points : Int
 deriving DecidableEq
structure Res where
 songs : List Int
 points : List Int
 votes : List Int
 scores : List Int
 kept : List Int
 deriving DecidableEq
structure Std where
 song : Int
 points : Int
 votes : Int
 score : Int
 deriving DecidableEq
abbrev intsO (o : Own) (xs : List Int) : PV := .isl (xs.map I) o
def rdCells (r : Rnd) : List PV := [I r.keep, I r.jury, I r.member]
def rdPV (r : Rnd) : PV := .agg (rdCells r)
abbrev rds (l : List Rnd) : PV := .isl (l.map rdPV) .ro
def cnCells (c : Contest) : List PV := [I c.songs, I c.juries, I c.members, I c.most, rds c.rounds]
def cnPV (c : Contest) : PV := .agg (cnCells c)
def blCells (b : Ballot) : List PV := [I b.serial, I b.round, I b.kind, I b.voter, I b.song, I b.points]
def blPV (b : Ballot) : PV := .agg (blCells b)
abbrev bls (l : List Ballot) : PV := .isl (l.map blPV) .ro
def rsCells (r : Res) : List PV := [ints r.songs, ints r.points, ints r.votes, ints r.scores, ints r.kept]
def rsPV (r : Res) : PV := .agg (rsCells r)
abbrev rss (l : List Res) : PV := .isl (l.map rsPV) .ro
def sdCells (x : Std) : List PV := [I x.song, I x.points, I x.votes, I x.score]
def sdPV (x : Std) : PV := .agg (sdCells x)
abbrev sds (l : List Std) : PV := .isl (l.map sdPV) .ro
def llPV (xs : List Int) : PV := ints xs
abbrev lls (l : List (List Int)) : PV := .isl (l.map llPV) .ro
section
variable {α : Type} {f : α → PV} {xs : List α} {i : Nat} {x : α} {c k off : Nat}
theorem iaX_map (h : xs[i]? = some x) (hc : (f x).cells.length = c) : iaX c (xs.map f) (i : Int) = some (.eptr c (xs.map f) i 0) := by
 have hlt : i < xs.length := (List.getElem?_eq_some_iff.1 h).1
 have hx : xs[i] = x := (List.getElem?_eq_some_iff.1 h).2
 unfold iaX
 rw [if_pos ⟨Int.natCast_nonneg _, by simpa using hlt⟩]
 simp [hlt, hx, hc]
theorem elS_map (h : xs[i]? = some x) : elS (xs.map f) i off = (f x).cells[off]? := by simp [elS, h]
theorem elA_map (h : xs[i]? = some x) : elA k (xs.map f) i off = if off + k ≤ (f x).cells.length then some (.agg (((f x).cells.drop off).take k)) else none := by simp [elA, h]
end
theorem noTok {b : Nat} : ∀ r n es, Own.ro = .tok r n es → r < b := fun r n es e => by cases e
theorem clean_ints {a b c : Nat} (xs : List Int) : Clean a b c (ints xs) := Clean.ints xs .ro noTok
theorem clean_ll {a b c : Nat} (xs : List Int) : Clean a b c (llPV xs) := Clean.ints xs .ro noTok
theorem cleans_rd {a b c : Nat} (r : Rnd) : ∀ p, p ∈ rdCells r → Clean a b c p := Clean.all_cons (.int _ _) (Clean.all_cons (.int _ _) (Clean.all_cons (.int _ _) Clean.all_nil))
theorem clean_rd {a b c : Nat} (r : Rnd) : Clean a b c (rdPV r) := .agg _ (cleans_rd r)
theorem cleans_bl {a b c : Nat} (x : Ballot) : ∀ p, p ∈ blCells x → Clean a b c p :=
 Clean.all_cons (.int _ _) (Clean.all_cons (.int _ _) (Clean.all_cons (.int _ _) (Clean.all_cons (.int _ _) (Clean.all_cons (.int _ _) (Clean.all_cons (.int _ _) Clean.all_nil)))))
theorem clean_bl {a b c : Nat} (x : Ballot) : Clean a b c (blPV x) := .agg _ (cleans_bl x)
theorem cleans_rs {a b c : Nat} (x : Res) : ∀ p, p ∈ rsCells x → Clean a b c p :=
 Clean.all_cons (clean_ints _) (Clean.all_cons (clean_ints _) (Clean.all_cons (clean_ints _) (Clean.all_cons (clean_ints _) (Clean.all_cons (clean_ints _) Clean.all_nil))))
theorem clean_rs {a b c : Nat} (x : Res) : Clean a b c (rsPV x) := .agg _ (cleans_rs x)
theorem cleans_sd {a b c : Nat} (x : Std) : ∀ p, p ∈ sdCells x → Clean a b c p :=
 Clean.all_cons (.int _ _) (Clean.all_cons (.int _ _) (Clean.all_cons (.int _ _) (Clean.all_cons (.int _ _) Clean.all_nil)))
theorem clean_sd {a b c : Nat} (x : Std) : Clean a b c (sdPV x) := .agg _ (cleans_sd x)
def inR (n lo hi : Int) : Bool := decide (lo ≤ n) && decide (n ≤ hi)
def allIn (lo hi : Int) (l : List Int) : Bool := l.all fun n => inR n lo hi
theorem okC_rd {xs : List Rnd} : okC 3 (xs.map rdPV) = True := okC_map fun x => by simp [okC, rdPV, rdCells, PV.cells, PV.scalar]
theorem okC_bl {xs : List Ballot} : okC 6 (xs.map blPV) = True := okC_map fun x => by simp [okC, blPV, blCells, PV.cells, PV.scalar]
theorem okC_rs {xs : List Res} : okC 5 (xs.map rsPV) = True := okC_map fun x => by simp [okC, rsPV, rsCells, PV.cells, PV.scalar]
theorem okC_sd {xs : List Std} : okC 4 (xs.map sdPV) = True := okC_map fun x => by simp [okC, sdPV, sdCells, PV.cells, PV.scalar]
theorem okC_ll {xs : List (List Int)} : okC 1 (xs.map llPV) = True := okC_map fun x => by simp [okC, llPV, PV.cells, PV.scalar]
theorem roL_rd {xs : List Rnd} : PV.roL (xs.map rdPV) = xs.map rdPV := roL_enc fun x => by simp only [rdPV, rdCells, ro_agg, roL_cons, roL_nil, ro_int]
theorem roL_bl {xs : List Ballot} : PV.roL (xs.map blPV) = xs.map blPV := roL_enc fun x => by simp only [blPV, blCells, ro_agg, roL_cons, roL_nil, ro_int]
theorem roL_rs {xs : List Res} : PV.roL (xs.map rsPV) = xs.map rsPV := roL_enc fun x => by simp only [rsPV, rsCells, ro_agg, roL_cons, roL_nil, ro_isl, roL_ints]
theorem roL_sd {xs : List Std} : PV.roL (xs.map sdPV) = xs.map sdPV := roL_enc fun x => by simp only [sdPV, sdCells, ro_agg, roL_cons, roL_nil, ro_int]
theorem roL_ll {xs : List (List Int)} : PV.roL (xs.map llPV) = xs.map llPV := roL_enc fun x => by simp only [llPV, ro_isl, roL_ints]
theorem cA_rd {a b c : Nat} {xs : List Rnd} : CleanAll a b c (xs.map rdPV) = True := CleanAll_map clean_rd
theorem cA_bl {a b c : Nat} {xs : List Ballot} : CleanAll a b c (xs.map blPV) = True := CleanAll_map clean_bl
theorem cA_rs {a b c : Nat} {xs : List Res} : CleanAll a b c (xs.map rsPV) = True := CleanAll_map clean_rs
theorem cA_sd {a b c : Nat} {xs : List Std} : CleanAll a b c (xs.map sdPV) = True := CleanAll_map clean_sd
theorem cA_ll {a b c : Nat} {xs : List (List Int)} : CleanAll a b c (xs.map llPV) = True := CleanAll_map clean_ll
attribute [go_sem] okC_rd okC_bl okC_rs okC_sd okC_ll roL_rd roL_bl roL_rs roL_sd roL_ll cA_rd cA_bl cA_rs cA_sd cA_ll rdPV rdCells cnPV cnCells blPV blCells rsPV rsCells sdPV sdCells
theorem mixed : Try.prog.follows .mixedOrders = true := by kernel_rfl
theorem own : ownKnob Try.prog.godebug = none := by kernel_rfl
theorem laidOut : laidOutB Try.prog = true := by kernel_rfl
theorem rdInt : Rd Try.prog 3 fun p => ∃ n : Int, p = I n := (Rd.int Try.underlying3).mono fun _ ⟨n, h, _⟩ => ⟨n, h⟩
def intsSz (xs : List Int) : Prop := xs.length * 8 ≤ 140737488351232
theorem rdInts : Rd Try.prog 22 fun p => ∃ xs : List Int, p = ints xs ∧ intsSz xs :=
 (Rd.slice Try.underlying22 (by kernel_rfl) rdInt).mono fun p ⟨l, h1, h2, h3⟩ => by
  obtain ⟨xs, rfl, _⟩ := map_of (f := I) (Q := fun _ => True) fun x hx => let ⟨n, e⟩ := h1 x hx; ⟨n, e, trivial⟩
  have e : Try.prog.bytesOf 3 = 8 := by kernel_rfl
  rw [e] at h2
  exact ⟨xs, h3, by simpa [reachBytes, intsSz] using h2⟩
def has (l : List Int) (v : Int) : Bool := l.any fun x => decide (x = v)
theorem has_iff {l : List Int} {v : Int} : has l v = true ↔ v ∈ l := by simp [has]
theorem has_cons {x v : Int} {l : List Int} : has (x :: l) v = (decide (x = v) || has l v) := rfl
theorem has_nil {v : Int} : has [] v = false := rfl
theorem appg22 {σ : Sg} {x : PV} {m : List PV} {own : Own} : appendG Try.prog σ 22 22 x (.isl m own) = appG 1 8 σ x m := appG_of Try.underlying22 Try.underlying3 cells3 bytes3 (by decide) (by decide) zero3 rfl
theorem iag22 {id len es : Nat} {k : IntKind} {i : Int} : indexAddrPV Try.prog 22 (.gsl id len es) (.int k i) = iaM 1 id 0 len i := iaG_of Try.underlying22 Try.underlying3 cells3 k len i
theorem leng22 {id n es : Nat} : lenPV Try.prog 22 (.gsl id n es) = some (.int .i64 n) := lenG_of Try.underlying22 n
theorem lenn22 : lenPV Try.prog 22 .gnil = some (.int .i64 0) := lenN_of Try.underlying22
theorem appg25 {σ : Sg} {x : PV} {m : List PV} {own : Own} : appendG Try.prog σ 25 25 x (.isl m own) = appG 3 24 σ x m := appG_of Try.underlying25 Try.underlying42 cells42 bytes42 (by decide) (by decide) zero42 rfl
theorem iag25 {id len es : Nat} {k : IntKind} {i : Int} : indexAddrPV Try.prog 25 (.gsl id len es) (.int k i) = iaM 3 id 0 len i := iaG_of Try.underlying25 Try.underlying42 cells42 k len i
theorem leng25 {id n es : Nat} : lenPV Try.prog 25 (.gsl id n es) = some (.int .i64 n) := lenG_of Try.underlying25 n
theorem lenn25 : lenPV Try.prog 25 .gnil = some (.int .i64 0) := lenN_of Try.underlying25
theorem appg29 {σ : Sg} {x : PV} {m : List PV} {own : Own} : appendG Try.prog σ 29 29 x (.isl m own) = appG 6 48 σ x m := appG_of Try.underlying29 Try.underlying38 cells38 bytes38 (by decide) (by decide) zero38 rfl
theorem iag29 {id len es : Nat} {k : IntKind} {i : Int} : indexAddrPV Try.prog 29 (.gsl id len es) (.int k i) = iaM 6 id 0 len i := iaG_of Try.underlying29 Try.underlying38 cells38 k len i
theorem leng29 {id n es : Nat} : lenPV Try.prog 29 (.gsl id n es) = some (.int .i64 n) := lenG_of Try.underlying29 n
theorem lenn29 : lenPV Try.prog 29 .gnil = some (.int .i64 0) := lenN_of Try.underlying29
theorem appg32 {σ : Sg} {x : PV} {m : List PV} {own : Own} : appendG Try.prog σ 32 32 x (.isl m own) = appG 5 120 σ x m := appG_of Try.underlying32 Try.underlying40 cells40 bytes40 (by decide) (by decide) zero40 rfl
theorem iag32 {id len es : Nat} {k : IntKind} {i : Int} : indexAddrPV Try.prog 32 (.gsl id len es) (.int k i) = iaM 5 id 0 len i := iaG_of Try.underlying32 Try.underlying40 cells40 k len i
theorem leng32 {id n es : Nat} : lenPV Try.prog 32 (.gsl id n es) = some (.int .i64 n) := lenG_of Try.underlying32 n
theorem lenn32 : lenPV Try.prog 32 .gnil = some (.int .i64 0) := lenN_of Try.underlying32
theorem appg36 {σ : Sg} {x : PV} {m : List PV} {own : Own} : appendG Try.prog σ 36 36 x (.isl m own) = appG 1 1 σ x m := appG_of Try.underlying36 Try.underlying4 cells4 bytes4 (by decide) (by decide) zero4 rfl
theorem iag36 {id len es : Nat} {k : IntKind} {i : Int} : indexAddrPV Try.prog 36 (.gsl id len es) (.int k i) = iaM 1 id 0 len i := iaG_of Try.underlying36 Try.underlying4 cells4 k len i
theorem leng36 {id n es : Nat} : lenPV Try.prog 36 (.gsl id n es) = some (.int .i64 n) := lenG_of Try.underlying36 n
theorem lenn36 : lenPV Try.prog 36 .gnil = some (.int .i64 0) := lenN_of Try.underlying36
theorem appg48 {σ : Sg} {x : PV} {m : List PV} {own : Own} : appendG Try.prog σ 48 48 x (.isl m own) = appG 1 24 σ x m := appG_of Try.underlying48 Try.underlying22 cells22 bytes22 (by decide) (by decide) zero22 rfl
theorem iag48 {id len es : Nat} {k : IntKind} {i : Int} : indexAddrPV Try.prog 48 (.gsl id len es) (.int k i) = iaM 1 id 0 len i := iaG_of Try.underlying48 Try.underlying22 cells22 k len i
theorem leng48 {id n es : Nat} : lenPV Try.prog 48 (.gsl id n es) = some (.int .i64 n) := lenG_of Try.underlying48 n
theorem lenn48 : lenPV Try.prog 48 .gnil = some (.int .i64 0) := lenN_of Try.underlying48
theorem appg60 {σ : Sg} {x : PV} {m : List PV} {own : Own} : appendG Try.prog σ 60 60 x (.isl m own) = appG 1 24 σ x m := appG_of Try.underlying60 Try.underlying48 cells48 bytes48 (by decide) (by decide) zero48 rfl
theorem iag60 {id len es : Nat} {k : IntKind} {i : Int} : indexAddrPV Try.prog 60 (.gsl id len es) (.int k i) = iaM 1 id 0 len i := iaG_of Try.underlying60 Try.underlying48 cells48 k len i
theorem leng60 {id n es : Nat} : lenPV Try.prog 60 (.gsl id n es) = some (.int .i64 n) := lenG_of Try.underlying60 n
theorem lenn60 : lenPV Try.prog 60 .gnil = some (.int .i64 0) := lenN_of Try.underlying60
theorem appg73 {σ : Sg} {x : PV} {m : List PV} {own : Own} : appendG Try.prog σ 73 73 x (.isl m own) = appG 21 184 σ x m := appG_of Try.underlying73 Try.underlying80 cells80 bytes80 (by decide) (by decide) zero80 rfl
theorem iag73 {id len es : Nat} {k : IntKind} {i : Int} : indexAddrPV Try.prog 73 (.gsl id len es) (.int k i) = iaM 21 id 0 len i := iaG_of Try.underlying73 Try.underlying80 cells80 k len i
theorem leng73 {id n es : Nat} : lenPV Try.prog 73 (.gsl id n es) = some (.int .i64 n) := lenG_of Try.underlying73 n
theorem lenn73 : lenPV Try.prog 73 .gnil = some (.int .i64 0) := lenN_of Try.underlying73
theorem appg103 {σ : Sg} {x : PV} {m : List PV} {own : Own} : appendG Try.prog σ 103 103 x (.isl m own) = appG 4 32 σ x m := appG_of Try.underlying103 Try.underlying105 cells105 bytes105 (by decide) (by decide) zero105 rfl
theorem iag103 {id len es : Nat} {k : IntKind} {i : Int} : indexAddrPV Try.prog 103 (.gsl id len es) (.int k i) = iaM 4 id 0 len i := iaG_of Try.underlying103 Try.underlying105 cells105 k len i
theorem leng103 {id n es : Nat} : lenPV Try.prog 103 (.gsl id n es) = some (.int .i64 n) := lenG_of Try.underlying103 n
theorem lenn103 : lenPV Try.prog 103 .gnil = some (.int .i64 0) := lenN_of Try.underlying103
theorem appg117 {σ : Sg} {x : PV} {m : List PV} {own : Own} : appendG Try.prog σ 117 117 x (.isl m own) = appG 1 8 σ x m := appG_of Try.underlying117 Try.underlying116 cells116 bytes116 (by decide) (by decide) zero116 rfl
theorem iag117 {id len es : Nat} {k : IntKind} {i : Int} : indexAddrPV Try.prog 117 (.gsl id len es) (.int k i) = iaM 1 id 0 len i := iaG_of Try.underlying117 Try.underlying116 cells116 k len i
theorem leng117 {id n es : Nat} : lenPV Try.prog 117 (.gsl id n es) = some (.int .i64 n) := lenG_of Try.underlying117 n
theorem lenn117 : lenPV Try.prog 117 .gnil = some (.int .i64 0) := lenN_of Try.underlying117
attribute [go_sem] appg22 iag22 leng22 lenn22 appg25 iag25 leng25 lenn25 appg29 iag29 leng29 lenn29 appg32 iag32 leng32 lenn32 appg36 iag36 leng36 lenn36 appg48 iag48 leng48 lenn48 appg60 iag60 leng60 lenn60 appg73 iag73 leng73 lenn73 appg103 iag103 leng103 lenn103 appg117 iag117 leng117 lenn117
set_option maxRecDepth 100000
theorem wrapU {n : Int} (h1 : 0 ≤ n) (h2 : n ≤ 18446744073709551615) : IntKind.u64.wrap n = n := IntWalk.u64_in n ⟨h1, h2⟩
theorem sv_ext_sv {σ : Sg} {d : Nat} {cs cs0 : List PV} {l : List (Option (List PV))} {rm : List Nat} {ys : List LState} (h : d < σ.store.length) : ((σ.setVar d cs0).ext l rm ys).setVar d cs = (σ.setVar d cs).ext l rm ys := by
 rw [sv_ext (by rw [sv_len]; exact h), sv_sv]
theorem sv_self {σ : Sg} {d : Nat} {cs : List PV} (h : σ.store[d]? = some (some cs)) : σ.setVar d cs = σ := by
 have : σ.store.set d (some cs) = σ.store := by
  refine List.ext_getElem? fun i => ?_
  rw [List.getElem?_set]
  by_cases e : d = i
  ·subst e; rw [if_pos rfl, if_pos (List.getElem?_eq_some_iff.1 h).1, h]
  ·rw [if_neg e]
 unfold Sg.setVar
 rw [this]
theorem get_svx {σ : Sg} {d : Nat} {cs : List PV} {l : List (Option (List PV))} {rm : List Nat} {ys : List LState} (h : d < σ.store.length) : ((σ.setVar d cs).ext l rm ys).store[d]? = some (some cs) := by
 rw [ext_get (by rw [sv_len]; exact h)]; exact sv_get h
theorem get_extx {σ : Sg} {d : Nat} {cs : List PV} {l : List (Option (List PV))} {rm : List Nat} {ys : List LState} (hd : σ.store[d]? = some (some cs)) : (σ.ext l rm ys).store[d]? = some (some cs) := by
 rw [ext_get (lt_of_get hd)]; exact hd
theorem shr1 {a : Int} : shiftPV .shr .u64 a 1 = some (.int .u64 (a.fdiv 2)) := rfl
theorem shr32 {a : Int} : shiftPV .shr .u64 a 32 = some (.int .u64 (a.fdiv 4294967296)) := rfl
theorem cv3_67 {k : IntKind} {n : Int} : convPV Try.prog 3 67 (.int k n) = some (.int .u64 (IntKind.u64.wrap n)) := by kernel_rfl
theorem cv3_91 {k : IntKind} {n : Int} : convPV Try.prog 3 91 (.int k n) = some (.int .u64 (IntKind.u64.wrap n)) := by kernel_rfl
theorem cv3_141 {k : IntKind} {n : Int} : convPV Try.prog 3 141 (.int k n) = some (.int .u64 (IntKind.u64.wrap n)) := by kernel_rfl
theorem cv5_3 {k : IntKind} {n : Int} : convPV Try.prog 5 3 (.int k n) = some (.int .i64 (IntKind.i64.wrap n)) := by kernel_rfl
theorem cv67_3 {k : IntKind} {n : Int} : convPV Try.prog 67 3 (.int k n) = some (.int .i64 (IntKind.i64.wrap n)) := by kernel_rfl
theorem cv67_5 {k : IntKind} {n : Int} : convPV Try.prog 67 5 (.int k n) = some (.int .u8 (IntKind.u8.wrap n)) := by kernel_rfl
theorem cv91_3 {k : IntKind} {n : Int} : convPV Try.prog 91 3 (.int k n) = some (.int .i64 (IntKind.i64.wrap n)) := by kernel_rfl
theorem cv91_134 {k : IntKind} {n : Int} : convPV Try.prog 91 134 (.int k n) = some (.int .u32 (IntKind.u32.wrap n)) := by kernel_rfl
theorem cv134_5 {k : IntKind} {n : Int} : convPV Try.prog 134 5 (.int k n) = some (.int .u8 (IntKind.u8.wrap n)) := by kernel_rfl
attribute [go_sem] cv3_67 cv3_91 cv3_141 cv5_3 cv67_3 cv67_5 cv91_3 cv91_134 cv134_5 nilCheckPV shr1 shr32 Sg.ext_nil
theorem slh22 {l : List PV} {own : Own} {k : IntKind} {n : Int} : slicePV Try.prog 22 (.isl l own) none (some (.int k n)) none = if 0 ≤ n then if n.toNat ≤ l.length then some (.isl (l.take n.toNat) (sliceOwn own 0 n.toNat l.length)) else none else none := slHi_of Try.underlying22 Try.underlying3 l own k n
theorem slh103 {l : List PV} {own : Own} {k : IntKind} {n : Int} : slicePV Try.prog 103 (.isl l own) none (some (.int k n)) none = if 0 ≤ n then if n.toNat ≤ l.length then some (.isl (l.take n.toNat) (sliceOwn own 0 n.toNat l.length)) else none else none := slHi_of Try.underlying103 Try.underlying105 l own k n
attribute [go_sem] slh22 slh103
abbrev Voice := Int × Int × Int
def vcPV (v : Voice) : PV := .agg [I v.1, I v.2.1, I v.2.2]
theorem clean_vc {a b c : Nat} (v : Voice) : Clean a b c (vcPV v) := .agg _ (Clean.all_cons (.int _ _) (Clean.all_cons (.int _ _) (Clean.all_cons (.int _ _) Clean.all_nil)))
theorem mkI {σ : Sg} {k : Nat} (hk : k < 2 ^ 44) : makePV Try.prog σ 22 (.int .i64 (k : Int)) (.int .i64 (k : Int)) = some (.msl σ.store.length 0 k, σ.push ((List.replicate k (0 : Int)).map I)) := by
 rw [mk_of Try.underlying22 zero3 bytes3 cells3 (by omega) (by omega), repI]
theorem mkB {σ : Sg} {k : Nat} (hk : k < 2 ^ 44) : makePV Try.prog σ 36 (.int .i64 (k : Int)) (.int .i64 (k : Int)) = some (.msl σ.store.length 0 k, σ.push ((List.replicate k false).map PV.bool)) := by
 rw [mk_of Try.underlying36 zero4 bytes4 cells4 (by omega) (by omega), repB]
theorem keyInt : KeyOK Try.prog 3 I := fun a b => by
 simp only [I, keyEq, if_true]
 congr 1
theorem intsEq3 {a b c d e f : Int} : intsEq [.int .i64 a, .int .i64 b, .int .i64 c] [.int .i64 d, .int .i64 e, .int .i64 f] = some ((a == d) && ((b == e) && ((c == f) && true))) := rfl
theorem eqF89 {a b c d e f : Int} : eqFieldsPV Try.prog [.int .i64 a, .int .i64 b, .int .i64 c] [.int .i64 d, .int .i64 e, .int .i64 f] (Try.prog.fieldsOf 89).toList = some ((a == d) && ((b == e) && ((c == f) && true))) := by kernel_rfl
theorem keyVc : KeyOK Try.prog 89 vcPV := fun x y => by
 obtain ⟨a, b, c⟩ := x
 obtain ⟨d, e, f⟩ := y
 have hf : ∃ fs, Try.prog.underlying 89 = some (.struct fs) := ⟨_, Try.underlying89⟩
 obtain ⟨fs, hf⟩ := hf
 have e1 : Try.prog.fieldsOf 89 = fs := by simp [Program.fieldsOf, hf]
 have := eqF89 (a := a) (b := b) (c := c) (d := d) (e := e) (f := f)
 rw [e1] at this
 simp only [vcPV, I, keyEq, hf, intsEq3, this]
 rw [if_pos ⟨by kernel_rfl, trivial⟩]
 refine congrArg some ?_
 rw [Bool.and_true, Bool.eq_iff_iff]
 simp [Prod.ext_iff]
theorem lk78 {σ : Sg} {id : Nat} {a b c : Int} {ok : Bool} : lookupPV Try.prog σ 78 (.map id) (.agg [.int .i64 a, .int .i64 b, .int .i64 c]) ok = lkX Try.prog 89 (I 0) σ id (.agg [.int .i64 a, .int .i64 b, .int .i64 c]) ok := lk_of Try.underlying78 Try.underlying89 (by kernel_rfl) (by kernel_rfl) σ id ok
theorem up78 {σ : Sg} {id : Nat} {a b c : Int} {v : PV} : updatePV Try.prog σ 78 (.map id) (.agg [.int .i64 a, .int .i64 b, .int .i64 c]) v = upX Try.prog 89 σ id (.agg [.int .i64 a, .int .i64 b, .int .i64 c]) v := up_of Try.underlying78 Try.underlying89 (by kernel_rfl) v σ id
theorem lkV {m : List (Voice × Int)} {a b c : Int} {ok : Bool} : lkM Try.prog 89 (I 0) (some (some (.mark :: mapE vcPV I m))) (.agg [.int .i64 a, .int .i64 b, .int .i64 c]) ok = some (packPV ok (I ((aget (a, b, c) m).getD 0)) (aget (a, b, c) m).isSome) := by
 have := lkM_map (z := I 0) keyVc I m (a, b, c) ok
 simp only [vcPV, I] at this ⊢
 rw [this]
 cases aget (a, b, c) m <;> rfl
theorem upV {m : List (Voice × Int)} {a b c v : Int} : upM Try.prog 89 (some (some (.mark :: mapE vcPV I m))) (.agg [.int .i64 a, .int .i64 b, .int .i64 c]) (.int .i64 v) = some (.mark :: mapE vcPV I (aput (a, b, c) v m)) := upM_map keyVc I m (a, b, c) v
theorem CleanAll_mapV {a b c : Nat} {l : List (Voice × Int)} : CleanAll a b c (mapE vcPV I l) = True := CleanAll_mapE clean_vc (fun _ => .int _ _)
theorem lk100 {σ : Sg} {id : Nat} {k : Int} {ok : Bool} : lookupPV Try.prog σ 100 (.map id) (.int .i64 k) ok = lkX Try.prog 3 (.bool false) σ id (.int .i64 k) ok := lk_of Try.underlying100 Try.underlying3 (by kernel_rfl) rfl σ id ok
theorem up100 {σ : Sg} {id : Nat} {k : Int} {v : PV} : updatePV Try.prog σ 100 (.map id) (.int .i64 k) v = upX Try.prog 3 σ id (.int .i64 k) v := up_of Try.underlying100 Try.underlying3 rfl v σ id
theorem lkB {m : List (Int × Bool)} {k : Int} {ok : Bool} : lkM Try.prog 3 (.bool false) (some (some (.mark :: mapE I PV.bool m))) (.int .i64 k) ok = some (packPV ok (.bool ((aget k m).getD false)) (aget k m).isSome) := by
 have := lkM_map (z := .bool false) keyInt PV.bool m k ok
 simp only [I] at this ⊢
 rw [this]
 cases aget k m <;> rfl
theorem upB {m : List (Int × Bool)} {k : Int} {v : Bool} : upM Try.prog 3 (some (some (.mark :: mapE I PV.bool m))) (.int .i64 k) (.bool v) = some (.mark :: mapE I PV.bool (aput k v m)) := upM_map keyInt PV.bool m k v
theorem CleanAll_mapB {a b c : Nat} {l : List (Int × Bool)} : CleanAll a b c (mapE I PV.bool l) = True := CleanAll_mapE (fun _ => .int _ _) (fun _ => .bool _)
theorem packT {v : PV} {b : Bool} : packPV true v b = .tuple [v, .bool b] := rfl
theorem packF {v : PV} {b : Bool} : packPV false v b = v := rfl
theorem evN_tmp {E : Env} {t : Nat} : evN E (.tmp t) = E.get t := rfl
theorem evN_int {E : Env} {k : IntKind} {n : Int} : evN E (.const (.int k n)) = .int k n := rfl
theorem evN_bool {E : Env} {b : Bool} : evN E (.const (.bool b)) = .bool b := rfl
theorem evN_nil {E : Env} : evN E (.const (.slice none 0 0)) = .nilsl := rfl
theorem sll22 {xs : List Int} {own : Own} {k : IntKind} {n : Int} : slicePV Try.prog 22 (.isl (xs.map I) own) (some (.int k n)) none none = if 0 ≤ n then if n.toNat ≤ xs.length then some (.isl ((xs.drop n.toNat).map I) own) else none else none := slLo_of Try.underlying22 Try.underlying3 cells3 (fun _ => rfl) xs own k n
theorem slb22 {xs : List Int} {own : Own} {k k' : IntKind} {n m : Int} : slicePV Try.prog 22 (.isl (xs.map I) own) (some (.int k n)) (some (.int k' m)) none = if 0 ≤ n then if 0 ≤ m then if n.toNat ≤ m.toNat ∧ m.toNat ≤ xs.length then some (.isl (((xs.drop n.toNat).take (m.toNat - n.toNat)).map I) (sliceOwn own n.toNat m.toNat xs.length)) else none else none else none := slBoth_of Try.underlying22 Try.underlying3 cells3 (fun _ => rfl) xs own k k' n m
attribute [go_sem] sll22 slb22 lk78 up78 lkV upV CleanAll_mapV lk100 up100 lkB upB CleanAll_mapB packT packF evN_tmp evN_int evN_bool evN_nil lkX_ext lkX_ext0 upX_ext upX_ext0 lkX_svx Cl_map Cl_nilmap Cl_mark Cl_gsl Cl_gnil setI setB
theorem inR_true {n lo hi : Int} : inR n lo hi = true ↔ lo ≤ n ∧ n ≤ hi := by simp [inR]
theorem allIn_nil {lo hi : Int} : allIn lo hi [] = true := rfl
theorem allIn_cons {lo hi x : Int} {l : List Int} : allIn lo hi (x :: l) = (inR x lo hi && allIn lo hi l) := rfl
def fIdx {α : Type} (q : α → Bool) : Nat → List α → Int
 | _, [] => -1
 | i, x :: l => if q x then (i : Int) else fIdx q (i + 1) l
theorem fIdx_anyi {α : Type} (q : α → Bool) : ∀ (l : List α) (i : Nat), decide (0 ≤ fIdx q i l) = l.any q := by
 intro l
 induction l with
 | nil => intro i; simp [fIdx]
 | cons x l ih =>
  intro i
  by_cases h : q x = true
  ·have e : fIdx q i (x :: l) = (i : Int) := by simp only [fIdx]; rw [if_pos h]
   rw [e]; simp [h]
  ·have e : fIdx q i (x :: l) = fIdx q (i + 1) l := by simp only [fIdx]; rw [if_neg h]
   rw [e, ih (i + 1), List.any_cons]
   have h' : q x = false := by simpa using h
   rw [h', Bool.false_or]
theorem has_comm (l : List Int) (v : Int) : (l.any fun x => decide (v = x)) = has l v := by
 unfold has
 congr 1
 funext x
 rw [Bool.eq_iff_iff]
 simp [eq_comm]
theorem fIdx_any {α : Type} (q : α → Bool) (l : List α) : decide (0 ≤ fIdx q 0 l) = l.any q := fIdx_anyi q l 0
set_option maxHeartbeats 2000000 in
theorem in_pc (Y : YEnv) (σ : Sg) (lw hg : Int) (l : List Int) (o : Own) (hl : l.length < 2 ^ 62) :
  PC Try.prog Y 49 [I lw, I hg, intsO o l] σ (.bool (allIn lw hg l)) (σ) := by
 refine PC_of_W Try.func49 rfl (by kernel_rfl) Try.ntmps49 (by simp) fun hcl hca => ?_
 obtain ⟨res, hres⟩ : ∃ r, allIn lw hg l = r := ⟨_, rfl⟩
 rw [hres]
 refine W_seq fun kz1 kq1 => ?_
 refine W_region [0, 1, 2] fun R hR => ?_
 simp only [go_sem]
 refine hR _ _ (kq1 _ _ ?_); clear hR R; try clear kq1 kz1
 try simp only [go_sem]
 refine W_seq fun kz2 kq2 => ?_
 refine W_seq fun kz3 kq3 => ?_
 refine W_region [0, 1, 9, 10, 11] fun R hR => ?_
 simp only [go_sem]
 refine hR _ _ (kq3 _ _ ?_); clear hR R; try clear kq3 kz3
 try simp only [go_sem]
 refine W_block ?_
 refine W_loopS (α := Nat) (fun (i : Nat) => [(11, I i)]) (fun (i : Nat) => i ≤ l.length ∧ res = allIn lw hg (l.drop i)) (fun (i : Nat) => l.length - i) (0) rfl (⟨Nat.zero_le _, hres.symm⟩) ?_
 rintro i ⟨hi, hinv⟩
 refine W_seq fun kz4 kq4 => ?_
 refine W_region [0, 1, 9, 10, 11, 12] fun R hR => ?_
 simp only [go_sem]
 refine hR _ _ (kq4 _ _ ?_); clear hR R; try clear kq4 kz4
 try simp only [go_sem]
 refine W_seq fun kz5 kq5 => ?_
 refine W_cond rfl (fun c1 => ?_) (fun c1 => ?_)
 ·try simp only [nrm] at c1
  have hi' : i < l.length := by first | assumption | omega
  obtain ⟨x, hx⟩ : ∃ x, l[i]? = some x := ⟨l[i], by simp [hi']⟩
  have hdrop : l.drop i = x :: l.drop (i + 1) := by
   rw [List.drop_eq_getElem_cons hi']; congr 1; exact (List.getElem?_eq_some_iff.1 hx).2
  rw [hdrop, allIn_cons] at hinv
  refine W_skip (kq5 _ _ ?_)
  refine W_seq fun kz6 kq6 => ?_
  refine W_block ?_
  refine W_seq fun kz7 kq7 => ?_
  refine W_region [0, 1, 8, 9, 10, 11] fun R hR => ?_
  simp only [go_sem, hx]
  refine hR _ _ (kq7 _ _ ?_); clear hR R; try clear kq7 kz7
  try simp only [go_sem, hx]
  refine W_seq fun kz8 kq8 => ?_
  refine W_regionJ [0, 1, 9, 10, 11, 22] [(22, .bool (!inR x lw hg))] ?_ fun R hR => ?_
  ·refine kq8 _ _ ?_
   simp only [go_sem, hx]
   refine W_cond rfl (fun c2 => ?_) (fun c2 => ?_)
   ·try simp only [nrm] at c2
    refine W_seq fun kz9 kq9 => ?_
    refine W_region [6] fun R hR => ?_
    simp only [go_sem, hx]
    refine hR _ _ (kq9 _ _ ?_); clear hR R; try clear kq9 kz9
    try simp only [go_sem, hx]
    refine W_ret ?_
    simp only [go_sem, hx]
    refine ⟨.inr (by trivial), ?_⟩
    first | refine Fin_same hcl rfl (Wk_eq ?_ (by simp only [go_sem])) | refine Fin_self hcl rfl (Wk_eq ?_ (by simp only [go_sem]))
    try simp only [go_sem]
    all_goals
     rw [hinv]; have c3 : inR x lw hg = false := by simpa using c2
     rw [c3, Bool.false_and]
   ·try simp only [nrm] at c2
    refine W_skip (kq6 _ _ ?_)
    refine W_region [0, 1, 9, 10, 11] fun R hR => ?_
    simp only [go_sem, hx]
    try simp (disch := omega) only [wrapI, wrapU]
    refine hR _ _ ?_; clear hR R
    try simp only [go_sem, hx]
    refine ⟨i + 1, ?_, by (try simp only []); omega, ?_⟩
    ·first | exact Weak.refl | exact Weak.eq (by first | rfl | (simp only [go_sem]; done) | (simp only [go_sem]; rfl) | (simp [go_sem]; done) | (simp [go_sem]; omega)) (by first | rfl | (simp only [go_sem]; done) | (simp [go_sem]; done))
    ·try dsimp only
     refine ⟨hi', ?_⟩
     rw [hinv]
     have c3 : inR x lw hg = true := by simpa using c2
     rw [c3, Bool.true_and]
  ·simp only [go_sem, hx]
   refine GWant_split (fun g1 => ?_) (fun g1 => ?_)
   ·try simp only [Bool.not_eq_true', Bool.not_eq_false'] at g1
    have n1 := g1; try simp only [nrm] at n1
    simp only [go_sem, hx, g1]
    refine hR _ ?_
    all_goals try simp only [go_sem, hx]
    all_goals
     first | rfl | (simp [inR, *]; done) | (congr 1; have hb : decide (hg < x) = !inR x lw hg := (by rw [Bool.eq_iff_iff]; simp [inR]; omega); simp [hb]; done) | (have hb : decide (hg < x) = !inR x lw hg := (by rw [Bool.eq_iff_iff]; simp [inR]; omega); simp only [hb]; first | done | rfl)
   ·try simp only [Bool.not_eq_true', Bool.not_eq_false'] at g1
    have n1 := g1; try simp only [nrm] at n1
    simp only [go_sem, hx, g1]
    refine hR _ ?_
    all_goals try simp only [go_sem, hx]
    all_goals
     first | rfl | (simp [inR, *]; done) | (congr 1; have hb : decide (hg < x) = !inR x lw hg := (by rw [Bool.eq_iff_iff]; simp [inR]; omega); simp [hb]; done) | (have hb : decide (hg < x) = !inR x lw hg := (by rw [Bool.eq_iff_iff]; simp [inR]; omega); simp only [hb]; first | done | rfl)
 ·try simp only [nrm] at c1
  have hdrop : l.drop i = [] := List.drop_eq_nil_of_le (by omega)
  rw [hdrop, allIn_nil] at hinv
  refine W_exit ?_
  simp only [go_sem]
  refine kq2 _ _ ?_
  refine W_seq fun kz10 kq10 => ?_
  refine W_region [6] fun R hR => ?_
  simp only [go_sem]
  refine hR _ _ (kq10 _ _ ?_); clear hR R; try clear kq10 kz10
  try simp only [go_sem]
  refine W_ret ?_
  simp only [go_sem]
  refine ⟨.inr (by trivial), ?_⟩
  first | refine Fin_same hcl rfl (Wk_eq ?_ (by simp only [go_sem])) | refine Fin_self hcl rfl (Wk_eq ?_ (by simp only [go_sem]))
  try simp only [go_sem]
  all_goals
   rw [hinv]
set_option maxHeartbeats 2000000 in
theorem index_pc (Y : YEnv) (σ : Sg) (l : List Int) (o : Own) (v : Int) (hl : l.length < 2 ^ 62) :
  PC Try.prog Y 56 [intsO o l, I v] σ (I (fIdx (fun x => decide (v = x)) 0 l)) (σ) := by
 refine PC_of_W Try.func56 rfl (by kernel_rfl) Try.ntmps56 (by simp) fun hcl hca => ?_
 refine W_seq fun kz1 kq1 => ?_
 refine W_region [0, 1] fun R hR => ?_
 simp only [go_sem]
 refine hR _ _ (kq1 _ _ ?_); clear hR R; try clear kq1 kz1
 try simp only [go_sem]
 refine W_seq fun kz2 kq2 => ?_
 refine W_seq fun kz3 kq3 => ?_
 refine W_region [0, 1, 7, 8] fun R hR => ?_
 simp only [go_sem]
 refine hR _ _ (kq3 _ _ ?_); clear hR R; try clear kq3 kz3
 try simp only [go_sem]
 refine W_block ?_
 refine W_loopS (α := Nat) (fun (i : Nat) => [(8, I i)]) (fun (i : Nat) => i ≤ l.length ∧ fIdx (fun x => decide (v = x)) i (l.drop i) = fIdx (fun x => decide (v = x)) 0 l) (fun (i : Nat) => l.length - i) (0) rfl (⟨Nat.zero_le _, rfl⟩) ?_
 rintro i ⟨hi, hinv⟩
 refine W_seq fun kz4 kq4 => ?_
 refine W_region [0, 1, 7, 8, 9] fun R hR => ?_
 simp only [go_sem]
 refine hR _ _ (kq4 _ _ ?_); clear hR R; try clear kq4 kz4
 try simp only [go_sem]
 refine W_seq fun kz5 kq5 => ?_
 refine W_cond rfl (fun c1 => ?_) (fun c1 => ?_)
 ·try simp only [nrm] at c1
  have hi' : i < l.length := by first | assumption | omega
  obtain ⟨x, hx⟩ : ∃ x, l[i]? = some x := ⟨l[i], by simp [hi']⟩
  have hdrop : l.drop i = x :: l.drop (i + 1) := by
   rw [List.drop_eq_getElem_cons hi']; congr 1; exact (List.getElem?_eq_some_iff.1 hx).2
  rw [hdrop] at hinv
  simp only [fIdx] at hinv
  refine W_skip (kq5 _ _ ?_)
  refine W_seq fun kz6 kq6 => ?_
  refine W_block ?_
  refine W_seq fun kz7 kq7 => ?_
  refine W_region [0, 1, 5, 7, 8] fun R hR => ?_
  simp only [go_sem, hx]
  refine hR _ _ (kq7 _ _ ?_); clear hR R; try clear kq7 kz7
  try simp only [go_sem, hx]
  refine W_seq fun kz8 kq8 => ?_
  refine W_region [0, 1, 5, 7, 8, 16] fun R hR => ?_
  simp only [go_sem, hx]
  refine hR _ _ (kq8 _ _ ?_); clear hR R; try clear kq8 kz8
  try simp only [go_sem, hx]
  refine W_cond rfl (fun c2 => ?_) (fun c2 => ?_)
  ·try simp only [nrm] at c2
   refine W_seq fun kz9 kq9 => ?_
   refine W_region [4] fun R hR => ?_
   simp only [go_sem, hx]
   refine hR _ _ (kq9 _ _ ?_); clear hR R; try clear kq9 kz9
   try simp only [go_sem, hx]
   refine W_ret ?_
   simp only [go_sem, hx]
   refine ⟨.inr (by trivial), ?_⟩
   first | refine Fin_same hcl rfl (Wk_eq ?_ (by simp only [go_sem])) | refine Fin_self hcl rfl (Wk_eq ?_ (by simp only [go_sem]))
   try simp only [go_sem]
   all_goals
    first | rfl | (simp_all; done) | (simp_all; omega)
  ·try simp only [nrm] at c2
   refine W_skip (kq6 _ _ ?_)
   refine W_region [0, 1, 7, 8] fun R hR => ?_
   simp only [go_sem, hx]
   try simp (disch := omega) only [wrapI, wrapU]
   refine hR _ _ ?_; clear hR R
   try simp only [go_sem, hx]
   refine ⟨i + 1, ?_, by (try simp only []); omega, ?_⟩
   ·first | exact Weak.refl | exact Weak.eq (by first | rfl | (simp only [go_sem]; done) | (simp only [go_sem]; rfl) | (simp [go_sem]; done) | (simp [go_sem]; omega)) (by first | rfl | (simp only [go_sem]; done) | (simp [go_sem]; done))
   ·try dsimp only
    exact ⟨hi', by simp_all⟩
 ·try simp only [nrm] at c1
  have hdrop : l.drop i = [] := List.drop_eq_nil_of_le (by omega)
  rw [hdrop] at hinv
  simp only [fIdx] at hinv
  refine W_exit ?_
  simp only [go_sem]
  refine kq2 _ _ ?_
  refine W_seq fun kz10 kq10 => ?_
  refine W_region [4] fun R hR => ?_
  simp only [go_sem]
  refine hR _ _ (kq10 _ _ ?_); clear hR R; try clear kq10 kz10
  try simp only [go_sem]
  refine W_ret ?_
  simp only [go_sem]
  refine ⟨.inr (by trivial), ?_⟩
  first | refine Fin_same hcl rfl (Wk_eq ?_ (by simp only [go_sem])) | refine Fin_self hcl rfl (Wk_eq ?_ (by simp only [go_sem]))
  try simp only [go_sem]
  all_goals
   first | rfl | (simp_all; done) | (simp_all; omega)
set_option maxHeartbeats 2000000 in
theorem contains_pc (Y : YEnv) (σ : Sg) (l : List Int) (o : Own) (v : Int) (hl : l.length < 2 ^ 62) :
  PC Try.prog Y 50 [intsO o l, I v] σ (.bool (has l v)) (σ) := by
 refine PC_of_W Try.func50 rfl (by kernel_rfl) Try.ntmps50 (by simp) fun hcl hca => ?_
 refine W_seq fun kz1 kq1 => ?_
 refine W_region [0, 1] fun R hR => ?_
 simp only [go_sem]
 refine hR _ _ (kq1 _ _ ?_); clear hR R; try clear kq1 kz1
 try simp only [go_sem]
 refine W_seq fun kz2 kq2 => ?_
 refine W_region [4] fun R hR => ?_
 simp only [go_sem]
 refine GCall_of (index_pc Y _ l o v hl) ?_
 simp only [go_sem]
 refine hR _ _ (kq2 _ _ ?_); clear hR R; try clear kq2 kz2
 try simp only [go_sem]
 refine W_ret ?_
 simp only [go_sem]
 refine ⟨.inr (by trivial), ?_⟩
 first | refine Fin_same hcl rfl (Wk_eq ?_ (by simp only [go_sem])) | refine Fin_self hcl rfl (Wk_eq ?_ (by simp only [go_sem]))
 try simp only [go_sem]
 all_goals
  simp only [fIdx_any, has_comm, go_sem]
set_option maxHeartbeats 2000000 in
theorem Has_pc (Y : YEnv) (σ : Sg) (l : List Int) (v : Int) (o : Own) (hl : l.length < 2 ^ 62) :
  PC Try.prog Y 16 [intsO o l, I v] σ (.bool (has l v)) (σ) := by
 refine PC_of_W Try.func16 rfl (by kernel_rfl) Try.ntmps16 (by simp) fun hcl hca => ?_
 obtain ⟨res, hres⟩ : ∃ r, has l v = r := ⟨_, rfl⟩
 rw [hres]
 refine W_seq fun kz1 kq1 => ?_
 refine W_region [0, 1] fun R hR => ?_
 simp only [go_sem]
 refine hR _ _ (kq1 _ _ ?_); clear hR R; try clear kq1 kz1
 try simp only [go_sem]
 refine W_seq fun kz2 kq2 => ?_
 refine W_seq fun kz3 kq3 => ?_
 refine W_region [0, 1, 5] fun R hR => ?_
 simp only [go_sem]
 refine hR _ _ (kq3 _ _ ?_); clear hR R; try clear kq3 kz3
 try simp only [go_sem]
 refine W_block ?_
 refine W_loopS (α := Nat) (fun (i : Nat) => [(5, I i)]) (fun (i : Nat) => i ≤ l.length ∧ res = has (l.drop i) v) (fun (i : Nat) => l.length - i) (0) rfl (⟨Nat.zero_le _, hres.symm⟩) ?_
 rintro i ⟨hi, hinv⟩
 refine W_seq fun kz4 kq4 => ?_
 refine W_seq fun kz5 kq5 => ?_
 refine W_region [0, 1, 5, 9] fun R hR => ?_
 simp only [go_sem]
 refine hR _ _ (kq5 _ _ ?_); clear hR R; try clear kq5 kz5
 try simp only [go_sem]
 refine W_cond rfl (fun c1 => ?_) (fun c1 => ?_)
 ·try simp only [nrm] at c1
  have hi' : i < l.length := by first | assumption | omega
  obtain ⟨x, hx⟩ : ∃ x, l[i]? = some x := ⟨l[i], by simp [hi']⟩
  have hdrop : l.drop i = x :: l.drop (i + 1) := by
   rw [List.drop_eq_getElem_cons hi']; congr 1; exact (List.getElem?_eq_some_iff.1 hx).2
  rw [hdrop, has_cons] at hinv
  refine W_skip (kq4 _ _ ?_)
  refine W_seq fun kz6 kq6 => ?_
  refine W_block ?_
  refine W_seq fun kz7 kq7 => ?_
  refine W_region [0, 1, 5, 17] fun R hR => ?_
  simp only [go_sem, hx]
  refine hR _ _ (kq7 _ _ ?_); clear hR R; try clear kq7 kz7
  try simp only [go_sem, hx]
  refine W_cond rfl (fun c2 => ?_) (fun c2 => ?_)
  ·try simp only [nrm] at c2
   refine W_seq fun kz8 kq8 => ?_
   refine W_region [4] fun R hR => ?_
   simp only [go_sem, hx]
   refine hR _ _ (kq8 _ _ ?_); clear hR R; try clear kq8 kz8
   try simp only [go_sem, hx]
   refine W_ret ?_
   simp only [go_sem, hx]
   refine ⟨.inr (by trivial), ?_⟩
   first | refine Fin_same hcl rfl (Wk_eq ?_ (by simp only [go_sem])) | refine Fin_self hcl rfl (Wk_eq ?_ (by simp only [go_sem]))
   try simp only [go_sem]
   all_goals
    first | rfl | (simp_all; done) | (simp_all; omega)
  ·try simp only [nrm] at c2
   refine W_skip (kq6 _ _ ?_)
   refine W_region [0, 1, 5] fun R hR => ?_
   simp only [go_sem, hx]
   try simp (disch := omega) only [wrapI, wrapU]
   refine hR _ _ ?_; clear hR R
   try simp only [go_sem, hx]
   refine ⟨i + 1, ?_, by (try simp only []); omega, ?_⟩
   ·first | exact Weak.refl | exact Weak.eq (by first | rfl | (simp only [go_sem]; done) | (simp only [go_sem]; rfl) | (simp [go_sem]; done) | (simp [go_sem]; omega)) (by first | rfl | (simp only [go_sem]; done) | (simp [go_sem]; done))
   ·try dsimp only
    exact ⟨hi', by simp_all⟩
 ·try simp only [nrm] at c1
  have hdrop : l.drop i = [] := List.drop_eq_nil_of_le (by omega)
  rw [hdrop, has_nil] at hinv
  refine W_exit ?_
  simp only [go_sem]
  refine kq2 _ _ ?_
  refine W_seq fun kz9 kq9 => ?_
  refine W_region [4] fun R hR => ?_
  simp only [go_sem]
  refine hR _ _ (kq9 _ _ ?_); clear hR R; try clear kq9 kz9
  try simp only [go_sem]
  refine W_ret ?_
  simp only [go_sem]
  refine ⟨.inr (by trivial), ?_⟩
  first | refine Fin_same hcl rfl (Wk_eq ?_ (by simp only [go_sem])) | refine Fin_self hcl rfl (Wk_eq ?_ (by simp only [go_sem]))
  try simp only [go_sem]
  all_goals
   first | rfl | (simp_all; done) | (simp_all; omega)
set_option maxHeartbeats 2000000 in
theorem EqInts_pc (Y : YEnv) (σ : Sg) (xs ys : List Int) (o o2 : Own) (hx : xs.length < 2 ^ 50) :
  PC Try.prog Y 33 [.isl (xs.map I) o, .isl (ys.map I) o2] σ (.bool (decide (xs = ys))) (σ) := by
 refine PC_of_W Try.func33 rfl (by kernel_rfl) Try.ntmps33 (by simp) fun hcl hca => ?_
 refine W_seq fun kz1 kq1 => ?_
 refine W_region [0, 1] fun R hR => ?_
 simp only [go_sem]
 refine hR _ _ (kq1 _ _ ?_); clear hR R; try clear kq1 kz1
 try simp only [go_sem]
 refine W_seq fun kz2 kq2 => ?_
 refine W_seq fun kz3 kq3 => ?_
 refine W_region [0, 1, 10] fun R hR => ?_
 simp only [go_sem]
 refine hR _ _ (kq3 _ _ ?_); clear hR R; try clear kq3 kz3
 try simp only [go_sem]
 refine W_cond rfl (fun c1 => ?_) (fun c1 => ?_)
 ·try simp only [nrm] at c1
  refine W_seq fun kz4 kq4 => ?_
  refine W_region [4] fun R hR => ?_
  simp only [go_sem]
  refine hR _ _ (kq4 _ _ ?_); clear hR R; try clear kq4 kz4
  try simp only [go_sem]
  refine W_ret ?_
  simp only [go_sem]
  refine ⟨.inr (by trivial), ?_⟩
  first | refine Fin_same hcl rfl (Wk_eq ?_ (by simp only [go_sem])) | refine Fin_self hcl rfl (Wk_eq ?_ (by simp only [go_sem]))
  try simp only [go_sem]
  all_goals
   simp; intro h; subst h; exact c1 rfl
 ·try simp only [nrm] at c1
  refine W_skip (kq2 _ _ ?_)
  refine W_seq fun kz5 kq5 => ?_
  refine W_seq fun kz6 kq6 => ?_
  refine W_region [0, 1, 5] fun R hR => ?_
  simp only [go_sem]
  refine hR _ _ (kq6 _ _ ?_); clear hR R; try clear kq6 kz6
  try simp only [go_sem]
  refine W_block ?_
  refine W_loopS (α := Nat) (fun (i : Nat) => [(5, I i)]) (fun (i : Nat) => i ≤ xs.length ∧ xs.take i = ys.take i) (fun (i : Nat) => xs.length - i) (0) rfl (⟨Nat.zero_le _, rfl⟩) ?_
  rintro i ⟨hi, ht⟩
  refine W_seq fun kz7 kq7 => ?_
  refine W_seq fun kz8 kq8 => ?_
  refine W_region [0, 1, 5, 14] fun R hR => ?_
  simp only [go_sem]
  refine hR _ _ (kq8 _ _ ?_); clear hR R; try clear kq8 kz8
  try simp only [go_sem]
  refine W_cond rfl (fun c2 => ?_) (fun c2 => ?_)
  ·try simp only [nrm] at c2
   have hi' : i < xs.length := by first | assumption | omega
   obtain ⟨x, hxi⟩ : ∃ x, xs[i]? = some x := ⟨xs[i], by simp⟩
   obtain ⟨y, hyi⟩ : ∃ y, ys[i]? = some y := ⟨ys[i]'(by omega), by simp⟩
   refine W_skip (kq7 _ _ ?_)
   refine W_seq fun kz9 kq9 => ?_
   refine W_block ?_
   refine W_seq fun kz10 kq10 => ?_
   refine W_draw [0, 1, 5, 25] [0, 1, 2, 3, 4, 5, 6, 7, 8] [] [[], [], [0, 1], [0, 1, 2], [], [], [4, 5], [4, 5, 6], [0, 1, 2, 3, 4, 5, 6, 7]] mixed (by kernel_rfl) fun R hR => ?_
   simp only [go_sem, hxi, hyi]
   try refine And.intro (by repeat' (first | refine And.intro ?_ ?_ | exact GOr_right (fun _ => by simp only [go_sem, hxi, hyi]))) ?_
   refine hR _ _ (kq10 _ _ ?_); clear hR R; try clear kq10 kz10
   try simp only [go_sem, hxi, hyi]
   refine W_cond rfl (fun c3 => ?_) (fun c3 => ?_)
   ·try simp only [nrm] at c3
    refine W_seq fun kz11 kq11 => ?_
    refine W_region [4] fun R hR => ?_
    simp only [go_sem, hxi, hyi]
    refine hR _ _ (kq11 _ _ ?_); clear hR R; try clear kq11 kz11
    try simp only [go_sem, hxi, hyi]
    refine W_ret ?_
    simp only [go_sem, hxi, hyi]
    refine ⟨.inr (by trivial), ?_⟩
    first | refine Fin_same hcl rfl (Wk_eq ?_ (by simp only [go_sem])) | refine Fin_self hcl rfl (Wk_eq ?_ (by simp only [go_sem]))
    try simp only [go_sem]
    all_goals
     simp; intro h; subst h; rw [hxi] at hyi; injection hyi with h; exact c3 h
   ·try simp only [nrm] at c3
    refine W_skip (kq9 _ _ ?_)
    refine W_region [0, 1, 5] fun R hR => ?_
    simp only [go_sem, hxi, hyi]
    try simp (disch := omega) only [wrapI, wrapU]
    refine hR _ _ ?_; clear hR R
    try simp only [go_sem, hxi, hyi]
    refine ⟨i + 1, ?_, by (try simp only []); omega, ?_⟩
    ·first | exact Weak.refl | exact Weak.eq (by first | rfl | (simp only [go_sem]; done) | (simp only [go_sem]; rfl) | (simp [go_sem]; done) | (simp [go_sem]; omega)) (by first | rfl | (simp only [go_sem]; done) | (simp [go_sem]; done))
    ·try dsimp only
     refine ⟨hi', ?_⟩
     rw [List.take_add_one, List.take_add_one, ht, hxi, hyi, c3]
  ·try simp only [nrm] at c2
   have hie : i = xs.length := by omega
   subst hie
   have hxy : xs = ys := by rw [List.take_length] at ht; rw [c1, List.take_length] at ht; exact ht
   refine W_exit ?_
   simp only [go_sem]
   refine kq5 _ _ ?_
   refine W_seq fun kz12 kq12 => ?_
   refine W_region [4] fun R hR => ?_
   simp only [go_sem]
   refine hR _ _ (kq12 _ _ ?_); clear hR R; try clear kq12 kz12
   try simp only [go_sem]
   refine W_ret ?_
   simp only [go_sem]
   refine ⟨.inr (by trivial), ?_⟩
   first | refine Fin_same hcl rfl (Wk_eq ?_ (by simp only [go_sem])) | refine Fin_self hcl rfl (Wk_eq ?_ (by simp only [go_sem]))
   try simp only [go_sem]
   all_goals
    simp [hxy]
def chkRd (s : Int) (r : Rnd) : Bool := allIn 0 1000 [r.jury, r.member] && allIn 1 s [r.keep]
def chkRds : Int → List Rnd → Int
 | s, [] => if s = 1 then 0 else 1
 | s, r :: l => if !(chkRd s r) then 2 else chkRds r.keep l
def chkCn0 (c : Contest) : Bool := allIn 1 8 [c.songs] && allIn 0 8 [c.juries] && allIn 0 1000 [c.members] && allIn 0 100 [c.most]
def chkCn (c : Contest) : Int := if !(chkCn0 c) then 2 else if c.rounds.length = 0 then 4 else if (c.rounds.length : Int) > 4 then 5 else chkRds c.songs c.rounds
set_option maxHeartbeats 4000000 in
theorem Check_pc (Y : YEnv) (σ : Sg) (c : Contest) (hr : c.rounds.length < 2 ^ 40) :
  PC Try.prog Y 59 [cnPV c] σ (I (chkCn c)) (σ) := by
 refine PC_of_W Try.func59 rfl (by kernel_rfl) Try.ntmps59 (by simp) fun hcl hca => ?_
 obtain ⟨res, hres⟩ : ∃ r, chkCn c = r := ⟨_, rfl⟩
 rw [hres]
 refine W_seq fun kz1 kq1 => ?_
 refine W_region [1] fun R hR => ?_
 simp only [go_sem, cnCells]
 refine hR _ _ (kq1 _ _ ?_); clear hR R; try clear kq1 kz1
 try simp only [go_sem, cnCells]
 refine W_seq fun kz2 kq2 => ?_
 refine W_block ?_
 refine W_seq fun kz3 kq3 => ?_
 refine W_seq fun kz4 kq4 => ?_
 refine W_region [1, 6] fun R hR => ?_
 simp only [go_sem, cnCells]
 refine GCall_of (in_pc Y _ 1 8 [c.songs] .exact (by simp)) ?_
 simp only [go_sem, cnCells]
 refine hR _ _ (kq4 _ _ ?_); clear hR R; try clear kq4 kz4
 try simp only [go_sem, cnCells]
 refine W_cond rfl (fun c1 => ?_) (fun c1 => ?_)
 ·try simp only [nrm] at c1
  refine W_skip (kq3 _ _ ?_)
  refine W_cond_true (by first | rfl | (simp only [go_sem]; simp [c1])) ?_
  refine W_seq fun kz5 kq5 => ?_
  refine W_region [2] fun R hR => ?_
  simp only [go_sem, cnCells]
  refine hR _ _ (kq5 _ _ ?_); clear hR R; try clear kq5 kz5
  try simp only [go_sem, cnCells]
  refine W_ret ?_
  simp only [go_sem, cnCells]
  refine ⟨.inr (by trivial), ?_⟩
  first | refine Fin_same hcl rfl (Wk_eq ?_ (by simp only [go_sem])) | refine Fin_self hcl rfl (Wk_eq ?_ (by simp only [go_sem]))
  try simp only [go_sem]
  all_goals
   first | rfl | (simp_all; done) | (simp_all; omega) | (rw [← hres]; simp only [chkCn, chkCn0]; (repeat' split) <;> ((first | rfl | omega | (simp_all; done) | (simp_all; omega))))
 ·try simp only [nrm] at c1
  refine W_seq fun kz6 kq6 => ?_
  refine W_region [1, 6] fun R hR => ?_
  simp only [go_sem, cnCells]
  refine GCall_of (in_pc Y _ 0 8 [c.juries] .exact (by simp)) ?_
  simp only [go_sem, cnCells]
  refine hR _ _ (kq6 _ _ ?_); clear hR R; try clear kq6 kz6
  try simp only [go_sem, cnCells]
  refine W_cond rfl (fun c2 => ?_) (fun c2 => ?_)
  ·try simp only [nrm] at c2
   refine W_skip (kq3 _ _ ?_)
   refine W_cond_true (by first | rfl | (simp only [go_sem]; simp [c2])) ?_
   refine W_seq fun kz7 kq7 => ?_
   refine W_region [2] fun R hR => ?_
   simp only [go_sem, cnCells]
   refine hR _ _ (kq7 _ _ ?_); clear hR R; try clear kq7 kz7
   try simp only [go_sem, cnCells]
   refine W_ret ?_
   simp only [go_sem, cnCells]
   refine ⟨.inr (by trivial), ?_⟩
   first | refine Fin_same hcl rfl (Wk_eq ?_ (by simp only [go_sem])) | refine Fin_self hcl rfl (Wk_eq ?_ (by simp only [go_sem]))
   try simp only [go_sem]
   all_goals
    first | rfl | (simp_all; done) | (simp_all; omega) | (rw [← hres]; simp only [chkCn, chkCn0]; (repeat' split) <;> ((first | rfl | omega | (simp_all; done) | (simp_all; omega))))
  ·try simp only [nrm] at c2
   refine W_seq fun kz8 kq8 => ?_
   refine W_region [1, 6] fun R hR => ?_
   simp only [go_sem, cnCells]
   refine GCall_of (in_pc Y _ 0 1000 [c.members] .exact (by simp)) ?_
   simp only [go_sem, cnCells]
   refine hR _ _ (kq8 _ _ ?_); clear hR R; try clear kq8 kz8
   try simp only [go_sem, cnCells]
   refine W_cond rfl (fun c3 => ?_) (fun c3 => ?_)
   ·try simp only [nrm] at c3
    refine W_skip (kq3 _ _ ?_)
    refine W_cond_true (by first | rfl | (simp only [go_sem]; simp [c3])) ?_
    refine W_seq fun kz9 kq9 => ?_
    refine W_region [2] fun R hR => ?_
    simp only [go_sem, cnCells]
    refine hR _ _ (kq9 _ _ ?_); clear hR R; try clear kq9 kz9
    try simp only [go_sem, cnCells]
    refine W_ret ?_
    simp only [go_sem, cnCells]
    refine ⟨.inr (by trivial), ?_⟩
    first | refine Fin_same hcl rfl (Wk_eq ?_ (by simp only [go_sem])) | refine Fin_self hcl rfl (Wk_eq ?_ (by simp only [go_sem]))
    try simp only [go_sem]
    all_goals
     first | rfl | (simp_all; done) | (simp_all; omega) | (rw [← hres]; simp only [chkCn, chkCn0]; (repeat' split) <;> ((first | rfl | omega | (simp_all; done) | (simp_all; omega))))
   ·try simp only [nrm] at c3
    refine W_region [1, 6] fun R hR => ?_
    simp only [go_sem, cnCells]
    refine GCall_of (in_pc Y _ 0 100 [c.most] .exact (by simp)) ?_
    simp only [go_sem, cnCells]
    refine hR _ _ (kq3 _ _ ?_); clear hR R; try clear kq3 kz3
    try simp only [go_sem, cnCells]
    refine W_cond rfl (fun c4 => ?_) (fun c4 => ?_)
    ·try simp only [nrm] at c4
     refine W_seq fun kz10 kq10 => ?_
     refine W_region [2] fun R hR => ?_
     simp only [go_sem, cnCells]
     refine hR _ _ (kq10 _ _ ?_); clear hR R; try clear kq10 kz10
     try simp only [go_sem, cnCells]
     refine W_ret ?_
     simp only [go_sem, cnCells]
     refine ⟨.inr (by trivial), ?_⟩
     first | refine Fin_same hcl rfl (Wk_eq ?_ (by simp only [go_sem])) | refine Fin_self hcl rfl (Wk_eq ?_ (by simp only [go_sem]))
     try simp only [go_sem]
     all_goals
      first | rfl | (simp_all; done) | (simp_all; omega) | (rw [← hres]; simp only [chkCn, chkCn0]; (repeat' split) <;> ((first | rfl | omega | (simp_all; done) | (simp_all; omega))))
    ·try simp only [nrm] at c4
     refine W_seq fun kz11 kq11 => ?_
     refine W_region [1, 27] fun R hR => ?_
     simp only [go_sem, cnCells]
     refine hR _ _ (kq11 _ _ ?_); clear hR R; try clear kq11 kz11
     try simp only [go_sem, cnCells]
     refine W_cond rfl (fun c5 => ?_) (fun c5 => ?_)
     ·try simp only [nrm] at c5
      refine W_seq fun kz12 kq12 => ?_
      refine W_region [2] fun R hR => ?_
      simp only [go_sem, cnCells]
      refine hR _ _ (kq12 _ _ ?_); clear hR R; try clear kq12 kz12
      try simp only [go_sem, cnCells]
      refine W_ret ?_
      simp only [go_sem, cnCells]
      refine ⟨.inr (by trivial), ?_⟩
      first | refine Fin_same hcl rfl (Wk_eq ?_ (by simp only [go_sem])) | refine Fin_self hcl rfl (Wk_eq ?_ (by simp only [go_sem]))
      try simp only [go_sem]
      all_goals
       first | rfl | (simp_all; done) | (simp_all; omega) | (rw [← hres]; simp only [chkCn, chkCn0]; (repeat' split) <;> ((first | rfl | omega | (simp_all; done) | (simp_all; omega))))
     ·try simp only [nrm] at c5
      refine W_seq fun kz13 kq13 => ?_
      refine W_region [1, 32] fun R hR => ?_
      simp only [go_sem, cnCells]
      refine hR _ _ (kq13 _ _ ?_); clear hR R; try clear kq13 kz13
      try simp only [go_sem, cnCells]
      refine W_cond rfl (fun c6 => ?_) (fun c6 => ?_)
      ·try simp only [nrm] at c6
       refine W_seq fun kz14 kq14 => ?_
       refine W_region [2] fun R hR => ?_
       simp only [go_sem, cnCells]
       refine hR _ _ (kq14 _ _ ?_); clear hR R; try clear kq14 kz14
       try simp only [go_sem, cnCells]
       refine W_ret ?_
       simp only [go_sem, cnCells]
       refine ⟨.inr (by trivial), ?_⟩
       first | refine Fin_same hcl rfl (Wk_eq ?_ (by simp only [go_sem])) | refine Fin_self hcl rfl (Wk_eq ?_ (by simp only [go_sem]))
       try simp only [go_sem]
       all_goals
        first | rfl | (simp_all; done) | (simp_all; omega) | (rw [← hres]; simp only [chkCn, chkCn0]; (repeat' split) <;> ((first | rfl | omega | (simp_all; done) | (simp_all; omega))))
      ·try simp only [nrm] at c6
       refine W_skip (kq2 _ _ ?_)
       refine W_seq fun kz15 kq15 => ?_
       refine W_region [1, 3] fun R hR => ?_
       simp only [go_sem, cnCells]
       refine hR _ _ (kq15 _ _ ?_); clear hR R; try clear kq15 kz15
       try simp only [go_sem, cnCells]
       refine W_seq fun kz16 kq16 => ?_
       refine W_seq fun kz17 kq17 => ?_
       refine W_region [3, 40, 41, 42] fun R hR => ?_
       simp only [go_sem, cnCells]
       refine hR _ _ (kq17 _ _ ?_); clear hR R; try clear kq17 kz17
       try simp only [go_sem, cnCells]
       refine W_block ?_
       refine W_loopT (α := Nat × Int) (fun ⟨i, s⟩ => [(3, I s), (42, I i)]) (fun ⟨i, s⟩ => σ.ext [some (cnCells c)] []) (fun ⟨i, s⟩ => i ≤ c.rounds.length ∧ chkRds c.songs c.rounds = chkRds s (c.rounds.drop i)) (fun ⟨i, s⟩ => c.rounds.length - i) ((0, c.songs)) rfl (by first | rfl | (simp only [go_sem]; done) | (simp only [go_sem]; rfl)) (⟨Nat.zero_le _, rfl⟩) ?_
       rintro ⟨i, s⟩ ⟨hi, hinv⟩
       refine W_seq fun kz18 kq18 => ?_
       refine W_region [3, 40, 41, 42, 43] fun R hR => ?_
       simp only [go_sem, cnCells]
       refine hR _ _ (kq18 _ _ ?_); clear hR R; try clear kq18 kz18
       try simp only [go_sem, cnCells]
       refine W_seq fun kz19 kq19 => ?_
       refine W_cond rfl (fun c7 => ?_) (fun c7 => ?_)
       ·try simp only [nrm] at c7
        have hi' : i < c.rounds.length := by first | assumption | omega
        obtain ⟨r, hx⟩ : ∃ r, c.rounds[i]? = some r := ⟨c.rounds[i], by simp [hi']⟩
        have hdrop : c.rounds.drop i = r :: c.rounds.drop (i + 1) := by
         rw [List.drop_eq_getElem_cons hi']; congr 1; exact (List.getElem?_eq_some_iff.1 hx).2
        rw [hdrop] at hinv
        simp only [chkRds] at hinv
        refine W_skip (kq19 _ _ ?_)
        refine W_seq fun kz20 kq20 => ?_
        refine W_block ?_
        refine W_seq fun kz21 kq21 => ?_
        refine W_region [3, 5, 40, 41, 42] fun R hR => ?_
        simp only [go_sem, cnCells, hx, rdCells, rdPV, List.getElem?_map]
        refine hR _ _ (kq21 _ _ ?_); clear hR R; try clear kq21 kz21
        try simp only [go_sem, cnCells, hx, rdCells, rdPV, List.getElem?_map]
        refine W_seq fun kz22 kq22 => ?_
        refine W_seq fun kz23 kq23 => ?_
        refine W_regionJ [5, 40, 41, 42, 60] [(60, .bool (!chkRd s r))] ?_ fun R hR => ?_
        ·refine kq23 _ _ ?_
         simp only [go_sem, cnCells, hx, rdCells, rdPV, List.getElem?_map]
         refine W_cond rfl (fun c8 => ?_) (fun c8 => ?_)
         ·try simp only [nrm] at c8
          refine W_seq fun kz24 kq24 => ?_
          refine W_region [2] fun R hR => ?_
          simp only [go_sem, cnCells, hx, rdCells, rdPV, List.getElem?_map]
          refine hR _ _ (kq24 _ _ ?_); clear hR R; try clear kq24 kz24
          try simp only [go_sem, cnCells, hx, rdCells, rdPV, List.getElem?_map]
          refine W_ret ?_
          simp only [go_sem, cnCells, hx, rdCells, rdPV, List.getElem?_map]
          refine ⟨.inr (by trivial), ?_⟩
          first | refine Fin_same hcl rfl (Wk_eq ?_ (by simp only [go_sem])) | refine Fin_self hcl rfl (Wk_eq ?_ (by simp only [go_sem]))
          try simp only [go_sem]
          all_goals
           first | rfl | (simp_all; done) | (simp_all; omega) | (rw [← hres]; simp only [chkCn, chkCn0]; (repeat' split) <;> ((first | rfl | omega | (simp_all; done) | (simp_all; omega))))
         ·try simp only [nrm] at c8
          refine W_skip (kq22 _ _ ?_)
          refine W_region [3, 40, 41, 42] fun R hR => ?_
          simp only [go_sem, cnCells, hx, rdCells, rdPV, List.getElem?_map]
          refine hR _ _ (kq20 _ _ ?_); clear hR R; try clear kq20 kz20
          try simp only [go_sem, cnCells, hx, rdCells, rdPV, List.getElem?_map]
          refine W_region [3, 40, 41, 42] fun R hR => ?_
          simp only [go_sem, cnCells, hx, rdCells, rdPV, List.getElem?_map]
          try simp (disch := omega) only [wrapI, wrapU]
          refine hR _ _ ?_; clear hR R
          try simp only [go_sem, cnCells, hx, rdCells, rdPV, List.getElem?_map]
          refine ⟨(i + 1, r.keep), ?_, by (try simp only []); omega, ?_⟩
          ·refine Weak.trans (Weak.cutX 1 0 (by omega) (by omega) hcl (by simp only [go_sem] <;> omega) (by simp only [go_sem] <;> omega)) ?_
           simp only [go_sem]
           exact Weak.eq (by first | rfl | (simp only [go_sem]; done) | (simp only [go_sem]; rfl) | (simp [go_sem]; done) | (simp [go_sem]; omega)) (by first | rfl | (simp only [go_sem]; done) | (simp [go_sem]; done))
          ·try dsimp only
           refine ⟨hi', ?_⟩
           rw [hinv]; simp [*]
        ·simp only [go_sem, cnCells, hx, rdCells, rdPV, List.getElem?_map]
         refine GCall_of (in_pc Y _ 0 1000 [r.jury, r.member] .exact (by simp)) ?_
         simp only [go_sem, cnCells, hx, rdCells, rdPV, List.getElem?_map]
         refine GWant_split (fun g1 => ?_) (fun g1 => ?_)
         ·try simp only [Bool.not_eq_true', Bool.not_eq_false'] at g1
          have n1 := g1; try simp only [nrm] at n1
          simp only [go_sem, cnCells, hx, rdCells, rdPV, List.getElem?_map, g1]
          refine GCall_of (in_pc Y _ 1 s [r.keep] .exact (by simp)) ?_
          simp only [go_sem, cnCells, hx, rdCells, rdPV, List.getElem?_map, g1]
          refine hR _ ?_
          all_goals try simp only [go_sem, cnCells, hx, rdCells, rdPV, List.getElem?_map]
          all_goals
           first | rfl | (simp [chkRd, *]; done) | (simp_all [chkRd]; done)
         ·try simp only [Bool.not_eq_true', Bool.not_eq_false'] at g1
          have n1 := g1; try simp only [nrm] at n1
          simp only [go_sem, cnCells, hx, rdCells, rdPV, List.getElem?_map, g1]
          refine hR _ ?_
          all_goals try simp only [go_sem, cnCells, hx, rdCells, rdPV, List.getElem?_map]
          all_goals
           first | rfl | (simp [chkRd, *]; done) | (simp_all [chkRd]; done)
       ·try simp only [nrm] at c7
        have hdrop : c.rounds.drop i = [] := List.drop_eq_nil_of_le (by omega)
        rw [hdrop] at hinv
        simp only [chkRds] at hinv
        refine W_exit ?_
        simp only [go_sem, cnCells]
        refine kq16 _ _ ?_
        refine W_seq fun kz25 kq25 => ?_
        refine W_seq fun kz26 kq26 => ?_
        refine W_region [65] fun R hR => ?_
        simp only [go_sem, cnCells]
        refine hR _ _ (kq26 _ _ ?_); clear hR R; try clear kq26 kz26
        try simp only [go_sem, cnCells]
        refine W_cond rfl (fun c9 => ?_) (fun c9 => ?_)
        ·try simp only [nrm] at c9
         refine W_seq fun kz27 kq27 => ?_
         refine W_region [2] fun R hR => ?_
         simp only [go_sem, cnCells]
         refine hR _ _ (kq27 _ _ ?_); clear hR R; try clear kq27 kz27
         try simp only [go_sem, cnCells]
         refine W_ret ?_
         simp only [go_sem, cnCells]
         refine ⟨.inr (by trivial), ?_⟩
         first | refine Fin_same hcl rfl (Wk_eq ?_ (by simp only [go_sem])) | refine Fin_self hcl rfl (Wk_eq ?_ (by simp only [go_sem]))
         try simp only [go_sem]
         all_goals
          first | rfl | (simp_all; done) | (simp_all; omega) | (rw [← hres]; simp only [chkCn, chkCn0]; (repeat' split) <;> ((first | rfl | omega | (simp_all; done) | (simp_all; omega))))
        ·try simp only [nrm] at c9
         refine W_skip (kq25 _ _ ?_)
         refine W_seq fun kz28 kq28 => ?_
         refine W_region [2] fun R hR => ?_
         simp only [go_sem, cnCells]
         refine hR _ _ (kq28 _ _ ?_); clear hR R; try clear kq28 kz28
         try simp only [go_sem, cnCells]
         refine W_ret ?_
         simp only [go_sem, cnCells]
         refine ⟨.inr (by trivial), ?_⟩
         first | refine Fin_same hcl rfl (Wk_eq ?_ (by simp only [go_sem])) | refine Fin_self hcl rfl (Wk_eq ?_ (by simp only [go_sem]))
         try simp only [go_sem]
         all_goals
          first | rfl | (simp_all; done) | (simp_all; omega) | (rw [← hres]; simp only [chkCn, chkCn0]; (repeat' split) <;> ((first | rfl | omega | (simp_all; done) | (simp_all; omega))))
theorem allIn1 {lo hi x : Int} : allIn lo hi [x] = inR x lo hi := by simp [allIn]
def unl (b : Bool) (e : Int) : Int := if b then 0 else e
def bl1 (c : Contest) (b : Ballot) : Int := unl (inR b.round 0 ((c.rounds.length : Int) - 1)) 2
def bl2 (b : Ballot) : Int := unl (inR b.kind 1 2) 3
def bl3 (c : Contest) (b : Ballot) : Int := unl (inR b.voter 0 ((if b.kind = 2 then c.members else c.juries) - 1)) 7
def bl4 (c : Contest) (b : Ballot) : Int := unl (inR b.song 0 (c.songs - 1)) 7
def bl5 (c : Contest) (b : Ballot) : Int := if b.kind = 2 then unl (b.points == 0) 1 else unl (inR b.points 0 c.most) 2
set_option maxHeartbeats 2000000 in
theorem unless_pc (Y : YEnv) (σ : Sg) (b : Bool) (e : Int) :
  PC Try.prog Y 70 [.bool b, I e] σ (I (unl b e)) (σ) := by
 refine PC_of_W Try.func70 rfl (by kernel_rfl) Try.ntmps70 (by simp) fun hcl hca => ?_
 refine W_seq fun kz1 kq1 => ?_
 refine W_region [0, 1] fun R hR => ?_
 simp only [go_sem]
 refine hR _ _ (kq1 _ _ ?_); clear hR R; try clear kq1 kz1
 try simp only [go_sem]
 refine W_seq fun kz2 kq2 => ?_
 refine W_seq fun kz3 kq3 => ?_
 refine W_region [1, 5] fun R hR => ?_
 simp only [go_sem]
 refine hR _ _ (kq3 _ _ ?_); clear hR R; try clear kq3 kz3
 try simp only [go_sem]
 refine W_cond rfl (fun c1 => ?_) (fun c1 => ?_)
 ·try simp only [nrm] at c1
  refine W_seq fun kz4 kq4 => ?_
  refine W_region [4] fun R hR => ?_
  simp only [go_sem]
  refine hR _ _ (kq4 _ _ ?_); clear hR R; try clear kq4 kz4
  try simp only [go_sem]
  refine W_ret ?_
  simp only [go_sem]
  refine ⟨.inr (by trivial), ?_⟩
  first | refine Fin_same hcl rfl (Wk_eq ?_ (by simp only [go_sem])) | refine Fin_self hcl rfl (Wk_eq ?_ (by simp only [go_sem]))
  try simp only [go_sem]
  all_goals
   first | rfl | (simp_all; done) | (simp_all; omega) | (simp only [unl]; (repeat' split) <;> ((first | rfl | omega | (simp_all; done) | (simp_all; omega))))
 ·try simp only [nrm] at c1
  refine W_skip (kq2 _ _ ?_)
  refine W_seq fun kz5 kq5 => ?_
  refine W_region [4] fun R hR => ?_
  simp only [go_sem]
  refine hR _ _ (kq5 _ _ ?_); clear hR R; try clear kq5 kz5
  try simp only [go_sem]
  refine W_ret ?_
  simp only [go_sem]
  refine ⟨.inr (by trivial), ?_⟩
  first | refine Fin_same hcl rfl (Wk_eq ?_ (by simp only [go_sem])) | refine Fin_self hcl rfl (Wk_eq ?_ (by simp only [go_sem]))
  try simp only [go_sem]
  all_goals
   first | rfl | (simp_all; done) | (simp_all; omega) | (simp only [unl]; (repeat' split) <;> ((first | rfl | omega | (simp_all; done) | (simp_all; omega))))
set_option maxHeartbeats 2000000 in
theorem bl1_pc (Y : YEnv) (σ : Sg) (c : Contest) (b : Ballot) (i1 i2 : Nat) (h1 : σ.store[i1]? = some (some (cnCells c))) (h2 : σ.store[i2]? = some (some (blCells b))) (hr : c.rounds.length < 2 ^ 40) :
  PC Try.prog Y 69 [.ptr i1 0, .ptr i2 0] σ (I (bl1 c b)) (σ) := by
 refine PC_of_W Try.func69 rfl (by kernel_rfl) Try.ntmps69 (by simp) fun hcl hca => ?_
 refine W_seq fun kz1 kq1 => ?_
 refine W_region [0, 1] fun R hR => ?_
 simp only [go_sem, ldS_at h1, ldS_at h2, cnCells, blCells, allIn1]
 refine hR _ _ (kq1 _ _ ?_); clear hR R; try clear kq1 kz1
 try simp only [go_sem, ldS_at h1, ldS_at h2, cnCells, blCells, allIn1]
 refine W_seq fun kz2 kq2 => ?_
 refine W_region [2] fun R hR => ?_
 simp only [go_sem, ldS_at h1, ldS_at h2, cnCells, blCells, allIn1]
 try simp (disch := omega) only [wrapI]
 try simp (disch := omega) only [wrapI, wrapU]
 refine GCall_of (in_pc Y _ 0 ((c.rounds.length : Int) - 1) [b.round] .exact (by simp)) ?_
 simp only [go_sem, ldS_at h1, ldS_at h2, cnCells, blCells, allIn1]
 try simp (disch := omega) only [wrapI, wrapU]
 refine GCall_of (unless_pc Y _ _ 2) ?_
 simp only [go_sem, ldS_at h1, ldS_at h2, cnCells, blCells, allIn1]
 try simp (disch := omega) only [wrapI, wrapU]
 refine hR _ _ (kq2 _ _ ?_); clear hR R; try clear kq2 kz2
 try simp only [go_sem, ldS_at h1, ldS_at h2, cnCells, blCells, allIn1]
 refine W_ret ?_
 simp only [go_sem, ldS_at h1, ldS_at h2, cnCells, blCells, allIn1]
 refine ⟨.inr (by trivial), ?_⟩
 first | refine Fin_same hcl rfl (Wk_eq ?_ (by simp only [go_sem])) | refine Fin_self hcl rfl (Wk_eq ?_ (by simp only [go_sem]))
 try simp only [go_sem]
 all_goals
  first | rfl | simp [bl1, allIn1]
set_option maxHeartbeats 2000000 in
theorem bl2_pc (Y : YEnv) (σ : Sg) (c : Contest) (b : Ballot) (i1 i2 : Nat) (h1 : σ.store[i1]? = some (some (cnCells c))) (h2 : σ.store[i2]? = some (some (blCells b))) :
  PC Try.prog Y 71 [.ptr i2 0] σ (I (bl2 b)) (σ) := by
 refine PC_of_W Try.func71 rfl (by kernel_rfl) Try.ntmps71 (by simp) fun hcl hca => ?_
 refine W_seq fun kz1 kq1 => ?_
 refine W_region [0] fun R hR => ?_
 simp only [go_sem, ldS_at h1, ldS_at h2, cnCells, blCells, allIn1]
 refine hR _ _ (kq1 _ _ ?_); clear hR R; try clear kq1 kz1
 try simp only [go_sem, ldS_at h1, ldS_at h2, cnCells, blCells, allIn1]
 refine W_seq fun kz2 kq2 => ?_
 refine W_region [1] fun R hR => ?_
 simp only [go_sem, ldS_at h1, ldS_at h2, cnCells, blCells, allIn1]
 refine GCall_of (in_pc Y _ 1 2 [b.kind] .exact (by simp)) ?_
 simp only [go_sem, ldS_at h1, ldS_at h2, cnCells, blCells, allIn1]
 refine GCall_of (unless_pc Y _ _ 3) ?_
 simp only [go_sem, ldS_at h1, ldS_at h2, cnCells, blCells, allIn1]
 refine hR _ _ (kq2 _ _ ?_); clear hR R; try clear kq2 kz2
 try simp only [go_sem, ldS_at h1, ldS_at h2, cnCells, blCells, allIn1]
 refine W_ret ?_
 simp only [go_sem, ldS_at h1, ldS_at h2, cnCells, blCells, allIn1]
 refine ⟨.inr (by trivial), ?_⟩
 first | refine Fin_same hcl rfl (Wk_eq ?_ (by simp only [go_sem])) | refine Fin_self hcl rfl (Wk_eq ?_ (by simp only [go_sem]))
 try simp only [go_sem]
 all_goals
  first | rfl | simp [bl2, allIn1]
set_option maxHeartbeats 2000000 in
theorem bl3_pc (Y : YEnv) (σ : Sg) (c : Contest) (b : Ballot) (i1 i2 : Nat) (h1 : σ.store[i1]? = some (some (cnCells c))) (h2 : σ.store[i2]? = some (some (blCells b))) (hm : -2 ^ 60 ≤ c.members ∧ c.members ≤ 2 ^ 60) (hj : -2 ^ 60 ≤ c.juries ∧ c.juries ≤ 2 ^ 60) :
  PC Try.prog Y 72 [.ptr i1 0, .ptr i2 0] σ (I (bl3 c b)) (σ) := by
 refine PC_of_W Try.func72 rfl (by kernel_rfl) Try.ntmps72 (by simp) fun hcl hca => ?_
 refine W_seq fun kz1 kq1 => ?_
 refine W_region [0, 1] fun R hR => ?_
 simp only [go_sem, ldS_at h1, ldS_at h2, cnCells, blCells, allIn1]
 refine hR _ _ (kq1 _ _ ?_); clear hR R; try clear kq1 kz1
 try simp only [go_sem, ldS_at h1, ldS_at h2, cnCells, blCells, allIn1]
 refine W_seq fun kz2 kq2 => ?_
 refine W_region [0, 1, 3] fun R hR => ?_
 simp only [go_sem, ldS_at h1, ldS_at h2, cnCells, blCells, allIn1]
 refine hR _ _ (kq2 _ _ ?_); clear hR R; try clear kq2 kz2
 try simp only [go_sem, ldS_at h1, ldS_at h2, cnCells, blCells, allIn1]
 refine W_seq fun kz3 kq3 => ?_
 refine W_seq fun kz4 kq4 => ?_
 refine W_region [0, 1, 3, 8] fun R hR => ?_
 simp only [go_sem, ldS_at h1, ldS_at h2, cnCells, blCells, allIn1]
 refine hR _ _ (kq4 _ _ ?_); clear hR R; try clear kq4 kz4
 try simp only [go_sem, ldS_at h1, ldS_at h2, cnCells, blCells, allIn1]
 refine W_cond rfl (fun c1 => ?_) (fun c1 => ?_)
 ·try simp only [nrm] at c1
  refine W_region [1, 3] fun R hR => ?_
  simp only [go_sem, ldS_at h1, ldS_at h2, cnCells, blCells, allIn1]
  refine hR _ _ (kq3 _ _ ?_); clear hR R; try clear kq3 kz3
  try simp only [go_sem, ldS_at h1, ldS_at h2, cnCells, blCells, allIn1]
  refine W_seq fun kz5 kq5 => ?_
  refine W_region [2] fun R hR => ?_
  simp only [go_sem, ldS_at h1, ldS_at h2, cnCells, blCells, allIn1]
  try simp (disch := omega) only [wrapI]
  try simp (disch := omega) only [wrapI, wrapU]
  refine GCall_of (in_pc Y _ 0 (c.members - 1) [b.voter] .exact (by simp)) ?_
  simp only [go_sem, ldS_at h1, ldS_at h2, cnCells, blCells, allIn1]
  try simp (disch := omega) only [wrapI, wrapU]
  refine GCall_of (unless_pc Y _ _ 7) ?_
  simp only [go_sem, ldS_at h1, ldS_at h2, cnCells, blCells, allIn1]
  try simp (disch := omega) only [wrapI, wrapU]
  refine hR _ _ (kq5 _ _ ?_); clear hR R; try clear kq5 kz5
  try simp only [go_sem, ldS_at h1, ldS_at h2, cnCells, blCells, allIn1]
  refine W_ret ?_
  simp only [go_sem, ldS_at h1, ldS_at h2, cnCells, blCells, allIn1]
  refine ⟨.inr (by trivial), ?_⟩
  first | refine Fin_same hcl rfl (Wk_eq ?_ (by simp only [go_sem])) | refine Fin_self hcl rfl (Wk_eq ?_ (by simp only [go_sem]))
  try simp only [go_sem]
  all_goals
   first | rfl | (simp [bl3, allIn1, *]; done) | simp_all [bl3, allIn1]
 ·try simp only [nrm] at c1
  refine W_skip (kq3 _ _ ?_)
  refine W_seq fun kz6 kq6 => ?_
  refine W_region [2] fun R hR => ?_
  simp only [go_sem, ldS_at h1, ldS_at h2, cnCells, blCells, allIn1]
  try simp (disch := omega) only [wrapI]
  try simp (disch := omega) only [wrapI, wrapU]
  refine GCall_of (in_pc Y _ 0 (c.juries - 1) [b.voter] .exact (by simp)) ?_
  simp only [go_sem, ldS_at h1, ldS_at h2, cnCells, blCells, allIn1]
  try simp (disch := omega) only [wrapI, wrapU]
  refine GCall_of (unless_pc Y _ _ 7) ?_
  simp only [go_sem, ldS_at h1, ldS_at h2, cnCells, blCells, allIn1]
  try simp (disch := omega) only [wrapI, wrapU]
  refine hR _ _ (kq6 _ _ ?_); clear hR R; try clear kq6 kz6
  try simp only [go_sem, ldS_at h1, ldS_at h2, cnCells, blCells, allIn1]
  refine W_ret ?_
  simp only [go_sem, ldS_at h1, ldS_at h2, cnCells, blCells, allIn1]
  refine ⟨.inr (by trivial), ?_⟩
  first | refine Fin_same hcl rfl (Wk_eq ?_ (by simp only [go_sem])) | refine Fin_self hcl rfl (Wk_eq ?_ (by simp only [go_sem]))
  try simp only [go_sem]
  all_goals
   first | rfl | (simp [bl3, allIn1, *]; done) | simp_all [bl3, allIn1]
set_option maxHeartbeats 2000000 in
theorem bl4_pc (Y : YEnv) (σ : Sg) (c : Contest) (b : Ballot) (i1 i2 : Nat) (h1 : σ.store[i1]? = some (some (cnCells c))) (h2 : σ.store[i2]? = some (some (blCells b))) (hs : -2 ^ 60 ≤ c.songs ∧ c.songs ≤ 2 ^ 60) :
  PC Try.prog Y 73 [.ptr i1 0, .ptr i2 0] σ (I (bl4 c b)) (σ) := by
 refine PC_of_W Try.func73 rfl (by kernel_rfl) Try.ntmps73 (by simp) fun hcl hca => ?_
 refine W_seq fun kz1 kq1 => ?_
 refine W_region [0, 1] fun R hR => ?_
 simp only [go_sem, ldS_at h1, ldS_at h2, cnCells, blCells, allIn1]
 refine hR _ _ (kq1 _ _ ?_); clear hR R; try clear kq1 kz1
 try simp only [go_sem, ldS_at h1, ldS_at h2, cnCells, blCells, allIn1]
 refine W_seq fun kz2 kq2 => ?_
 refine W_region [2] fun R hR => ?_
 simp only [go_sem, ldS_at h1, ldS_at h2, cnCells, blCells, allIn1]
 try simp (disch := omega) only [wrapI]
 try simp (disch := omega) only [wrapI, wrapU]
 refine GCall_of (in_pc Y _ 0 (c.songs - 1) [b.song] .exact (by simp)) ?_
 simp only [go_sem, ldS_at h1, ldS_at h2, cnCells, blCells, allIn1]
 try simp (disch := omega) only [wrapI, wrapU]
 refine GCall_of (unless_pc Y _ _ 7) ?_
 simp only [go_sem, ldS_at h1, ldS_at h2, cnCells, blCells, allIn1]
 try simp (disch := omega) only [wrapI, wrapU]
 refine hR _ _ (kq2 _ _ ?_); clear hR R; try clear kq2 kz2
 try simp only [go_sem, ldS_at h1, ldS_at h2, cnCells, blCells, allIn1]
 refine W_ret ?_
 simp only [go_sem, ldS_at h1, ldS_at h2, cnCells, blCells, allIn1]
 refine ⟨.inr (by trivial), ?_⟩
 first | refine Fin_same hcl rfl (Wk_eq ?_ (by simp only [go_sem])) | refine Fin_self hcl rfl (Wk_eq ?_ (by simp only [go_sem]))
 try simp only [go_sem]
 all_goals
  first | rfl | simp [bl4, allIn1]
set_option maxHeartbeats 2000000 in
theorem bl5_pc (Y : YEnv) (σ : Sg) (c : Contest) (b : Ballot) (i1 i2 : Nat) (h1 : σ.store[i1]? = some (some (cnCells c))) (h2 : σ.store[i2]? = some (some (blCells b))) :
  PC Try.prog Y 74 [.ptr i2 0, .ptr i1 0] σ (I (bl5 c b)) (σ) := by
 refine PC_of_W Try.func74 rfl (by kernel_rfl) Try.ntmps74 (by simp) fun hcl hca => ?_
 refine W_seq fun kz1 kq1 => ?_
 refine W_region [0, 1] fun R hR => ?_
 simp only [go_sem, ldS_at h1, ldS_at h2, cnCells, blCells, allIn1]
 refine hR _ _ (kq1 _ _ ?_); clear hR R; try clear kq1 kz1
 try simp only [go_sem, ldS_at h1, ldS_at h2, cnCells, blCells, allIn1]
 refine W_seq fun kz2 kq2 => ?_
 refine W_seq fun kz3 kq3 => ?_
 refine W_region [0, 1, 5] fun R hR => ?_
 simp only [go_sem, ldS_at h1, ldS_at h2, cnCells, blCells, allIn1]
 refine hR _ _ (kq3 _ _ ?_); clear hR R; try clear kq3 kz3
 try simp only [go_sem, ldS_at h1, ldS_at h2, cnCells, blCells, allIn1]
 refine W_cond rfl (fun c1 => ?_) (fun c1 => ?_)
 ·try simp only [nrm] at c1
  refine W_seq fun kz4 kq4 => ?_
  refine W_region [2] fun R hR => ?_
  simp only [go_sem, ldS_at h1, ldS_at h2, cnCells, blCells, allIn1]
  refine GCall_of (unless_pc Y _ _ 1) ?_
  simp only [go_sem, ldS_at h1, ldS_at h2, cnCells, blCells, allIn1]
  refine hR _ _ (kq4 _ _ ?_); clear hR R; try clear kq4 kz4
  try simp only [go_sem, ldS_at h1, ldS_at h2, cnCells, blCells, allIn1]
  refine W_ret ?_
  simp only [go_sem, ldS_at h1, ldS_at h2, cnCells, blCells, allIn1]
  refine ⟨.inr (by trivial), ?_⟩
  first | refine Fin_same hcl rfl (Wk_eq ?_ (by simp only [go_sem])) | refine Fin_self hcl rfl (Wk_eq ?_ (by simp only [go_sem]))
  try simp only [go_sem]
  all_goals
   first | rfl | (simp [bl5, allIn1, *]; done) | simp_all [bl5, allIn1]
 ·try simp only [nrm] at c1
  refine W_skip (kq2 _ _ ?_)
  refine W_seq fun kz5 kq5 => ?_
  refine W_region [2] fun R hR => ?_
  simp only [go_sem, ldS_at h1, ldS_at h2, cnCells, blCells, allIn1]
  refine GCall_of (in_pc Y _ 0 c.most [b.points] .exact (by simp)) ?_
  simp only [go_sem, ldS_at h1, ldS_at h2, cnCells, blCells, allIn1]
  refine GCall_of (unless_pc Y _ _ 2) ?_
  simp only [go_sem, ldS_at h1, ldS_at h2, cnCells, blCells, allIn1]
  refine hR _ _ (kq5 _ _ ?_); clear hR R; try clear kq5 kz5
  try simp only [go_sem, ldS_at h1, ldS_at h2, cnCells, blCells, allIn1]
  refine W_ret ?_
  simp only [go_sem, ldS_at h1, ldS_at h2, cnCells, blCells, allIn1]
  refine ⟨.inr (by trivial), ?_⟩
  first | refine Fin_same hcl rfl (Wk_eq ?_ (by simp only [go_sem])) | refine Fin_self hcl rfl (Wk_eq ?_ (by simp only [go_sem]))
  try simp only [go_sem]
  all_goals
   first | rfl | (simp [bl5, allIn1, *]; done) | simp_all [bl5, allIn1]
def firstE : List Int → Int
 | [] => 0
 | e :: l => if e ≠ 0 then e else firstE l
def blEs (c : Contest) (b : Ballot) : List Int := [bl1 c b, bl2 b, bl3 c b, bl4 c b, bl5 c b]
def chkBl (c : Contest) (b : Ballot) : Int := firstE (blEs c b)
set_option maxHeartbeats 4000000 in
theorem chkBl_pc (Y : YEnv) (σ : Sg) (c : Contest) (b : Ballot) (hr : c.rounds.length < 2 ^ 40) (hs : -2 ^ 60 ≤ c.songs ∧ c.songs ≤ 2 ^ 60) (hm : -2 ^ 60 ≤ c.members ∧ c.members ≤ 2 ^ 60) (hj : -2 ^ 60 ≤ c.juries ∧ c.juries ≤ 2 ^ 60) :
  PC Try.prog Y 60 [cnPV c, blPV b] σ (I (chkBl c b)) (σ) := by
 refine PC_of_W Try.func60 rfl (by kernel_rfl) Try.ntmps60 (by simp) fun hcl hca => ?_
 refine W_seq fun kz1 kq1 => ?_
 refine W_region [2, 3] fun R hR => ?_
 simp only [go_sem, cnPV, blPV]
 refine hR _ _ (kq1 _ _ ?_); clear hR R; try clear kq1 kz1
 try simp only [go_sem, cnPV, blPV]
 refine W_seq fun kz2 kq2 => ?_
 refine W_region [5] fun R hR => ?_
 simp only [go_sem, cnPV, blPV]
 refine hR _ _ (kq2 _ _ ?_); clear hR R; try clear kq2 kz2
 try simp only [go_sem, cnPV, blPV]
 refine W_seq fun kz3 kq3 => ?_
 refine W_seq fun kz4 kq4 => ?_
 refine W_region [15, 16, 17] fun R hR => ?_
 simp only [go_sem, cnPV, blPV]
 refine hR _ _ (kq4 _ _ ?_); clear hR R; try clear kq4 kz4
 try simp only [go_sem, cnPV, blPV]
 refine W_block ?_
 obtain ⟨fns, hfns⟩ : ∃ z, z = [PV.func (.func 69) [] [.ptr σ.store.length 0, .ptr (σ.store.length + 1) 0], .func (.func 71) [] [.ptr (σ.store.length + 1) 0], .func (.func 72) [] [.ptr σ.store.length 0, .ptr (σ.store.length + 1) 0], .func (.func 73) [] [.ptr σ.store.length 0, .ptr (σ.store.length + 1) 0], .func (.func 74) [] [.ptr (σ.store.length + 1) 0, .ptr σ.store.length 0]] := ⟨_, rfl⟩
 obtain ⟨es, hes⟩ : ∃ z, z = blEs c b := ⟨_, rfl⟩
 refine W_weak (Weak.keep [15, 16, 17]) ?_
 simp only [go_sem]
 refine W_weak (Weak.eq (E' := [(15, .isl fns .exact), (16, I 5), (17, I 0)]) (by rw [hfns]) rfl) ?_
 have ll : fns.length = 5 := by rw [hfns]; rfl
 have le : es.length = 5 := by rw [hes]; rfl
 have hall : ∀ i, i < 5 → ∃ p fr e, fns[i]? = some (.func (.func p) [] fr) ∧ es[i]? = some e ∧ PC Try.prog Y p fr (σ.ext [some (cnCells c), some (blCells b)] []) (I e) (σ.ext [some (cnCells c), some (blCells b)] []) := by
  intro i hi
  rw [hfns, hes]
  rcases (by omega : i = 0 ∨ i = 1 ∨ i = 2 ∨ i = 3 ∨ i = 4) with rfl | rfl | rfl | rfl | rfl
  ·exact ⟨_, _, _, rfl, rfl, bl1_pc Y _ c b _ _ (Sg.get_ext0 ..) (Sg.get_ext ..) hr⟩
  ·exact ⟨_, _, _, rfl, rfl, bl2_pc Y _ c b _ _ (Sg.get_ext0 ..) (Sg.get_ext ..)⟩
  ·exact ⟨_, _, _, rfl, rfl, bl3_pc Y _ c b _ _ (Sg.get_ext0 ..) (Sg.get_ext ..) hm hj⟩
  ·exact ⟨_, _, _, rfl, rfl, bl4_pc Y _ c b _ _ (Sg.get_ext0 ..) (Sg.get_ext ..) hs⟩
  ·exact ⟨_, _, _, rfl, rfl, bl5_pc Y _ c b _ _ (Sg.get_ext0 ..) (Sg.get_ext ..)⟩
 clear hfns
 refine W_loopS (α := Nat) (fun (i : Nat) => [(17, I i)]) (fun (i : Nat) => i ≤ 5 ∧ chkBl c b = firstE (es.drop i)) (fun (i : Nat) => 5 - i) (0) rfl (⟨Nat.zero_le _, by rw [hes]; rfl⟩) ?_
 rintro i ⟨hi, hinv⟩
 refine W_seq fun kz5 kq5 => ?_
 refine W_region [15, 16, 17, 18] fun R hR => ?_
 simp only [go_sem, cnPV, blPV, ll]
 refine hR _ _ (kq5 _ _ ?_); clear hR R; try clear kq5 kz5
 try simp only [go_sem, cnPV, blPV, ll]
 refine W_seq fun kz6 kq6 => ?_
 refine W_cond rfl (fun c1 => ?_) (fun c1 => ?_)
 ·try simp only [nrm] at c1
  have hi5 : i < 5 := by first | omega | (simp at c1; omega)
  obtain ⟨p, fr, e, hx, hxe, hfp⟩ := hall i hi5
  have hdrop : es.drop i = e :: es.drop (i + 1) := by
   rw [List.drop_eq_getElem_cons (by omega)]; congr 1; exact (List.getElem?_eq_some_iff.1 hxe).2
  rw [hdrop] at hinv
  simp only [firstE] at hinv
  have hi5' : (i : Int) < 5 := by omega
  have hia : iaX 1 fns (i : Int) = some (.eptr 1 fns i 0) := by
   unfold iaX
   rw [if_pos ⟨Int.natCast_nonneg _, by rw [ll]; exact hi5'⟩]
   simp [hx, PV.cells]
  have hel : elS fns i 0 = some (.func (.func p) [] fr) := by simp [elS, hx, PV.cells]
  refine W_skip (kq6 _ _ ?_)
  refine W_seq fun kz7 kq7 => ?_
  refine W_block ?_
  refine W_seq fun kz8 kq8 => ?_
  refine W_region [7, 15, 16, 17] fun R hR => ?_
  simp only [go_sem, cnPV, blPV, ll, hx, hia, hel]
  refine hR _ _ (kq8 _ _ ?_); clear hR R; try clear kq8 kz8
  try simp only [go_sem, cnPV, blPV, ll, hx, hia, hel]
  refine W_seq fun kz9 kq9 => ?_
  refine W_region [8, 15, 16, 17] fun R hR => ?_
  simp only [go_sem, cnPV, blPV, ll, hx, hia, hel]
  refine GCall_of (hfp) ?_
  simp only [go_sem, cnPV, blPV, ll, hx, hia, hel]
  refine hR _ _ (kq9 _ _ ?_); clear hR R; try clear kq9 kz9
  try simp only [go_sem, cnPV, blPV, ll, hx, hia, hel]
  refine W_seq fun kz10 kq10 => ?_
  refine W_region [8, 15, 16, 17, 24] fun R hR => ?_
  simp only [go_sem, cnPV, blPV, ll, hx, hia, hel]
  refine hR _ _ (kq10 _ _ ?_); clear hR R; try clear kq10 kz10
  try simp only [go_sem, cnPV, blPV, ll, hx, hia, hel]
  refine W_cond rfl (fun c2 => ?_) (fun c2 => ?_)
  ·try simp only [nrm] at c2
   refine W_seq fun kz11 kq11 => ?_
   refine W_region [4] fun R hR => ?_
   simp only [go_sem, cnPV, blPV, ll, hx, hia, hel]
   refine hR _ _ (kq11 _ _ ?_); clear hR R; try clear kq11 kz11
   try simp only [go_sem, cnPV, blPV, ll, hx, hia, hel]
   refine W_ret ?_
   simp only [go_sem, cnPV, blPV, ll, hx, hia, hel]
   refine ⟨.inr (by trivial), ?_⟩
   first | refine Fin_same hcl rfl (Wk_eq ?_ (by simp only [go_sem])) | refine Fin_self hcl rfl (Wk_eq ?_ (by simp only [go_sem]))
   try simp only [go_sem]
   all_goals
    rw [hinv]; first | done | rfl | (simp [*]; done)
  ·try simp only [nrm] at c2
   refine W_skip (kq7 _ _ ?_)
   refine W_region [15, 16, 17] fun R hR => ?_
   simp only [go_sem, cnPV, blPV, ll, hx, hia, hel]
   try simp (disch := omega) only [wrapI, wrapU]
   refine hR _ _ ?_; clear hR R
   try simp only [go_sem, cnPV, blPV, ll, hx, hia, hel]
   refine ⟨i + 1, ?_, by (try simp only []); omega, ?_⟩
   ·first | exact Weak.refl | exact Weak.eq (by first | rfl | (simp only [go_sem]; done) | (simp only [go_sem]; rfl) | (simp [go_sem]; done) | (simp [go_sem]; omega)) (by first | rfl | (simp only [go_sem]; done) | (simp [go_sem]; done))
   ·try dsimp only
    refine ⟨by omega, ?_⟩
    rw [hinv]; simp [*]
 ·try simp only [nrm] at c1
  have hdrop : es.drop i = [] := List.drop_eq_nil_of_le (by omega)
  rw [hdrop] at hinv
  simp only [firstE] at hinv
  refine W_exit ?_
  simp only [go_sem, cnPV, blPV, ll]
  refine kq3 _ _ ?_
  refine W_seq fun kz12 kq12 => ?_
  refine W_region [4] fun R hR => ?_
  simp only [go_sem, cnPV, blPV, ll]
  refine hR _ _ (kq12 _ _ ?_); clear hR R; try clear kq12 kz12
  try simp only [go_sem, cnPV, blPV, ll]
  refine W_ret ?_
  simp only [go_sem, cnPV, blPV, ll]
  refine ⟨.inr (by trivial), ?_⟩
  first | refine Fin_same hcl rfl (Wk_eq ?_ (by simp only [go_sem])) | refine Fin_self hcl rfl (Wk_eq ?_ (by simp only [go_sem]))
  try simp only [go_sem]
  all_goals
   rw [hinv]; first | done | rfl | (simp [*]; done)
def mapS (p : List Int) : List (Int × Bool) := p.foldl (fun m k => aput k true m) []
theorem mapS_snoc (p : List Int) (k : Int) : mapS (p ++ [k]) = aput k true (mapS p) := by simp [mapS, List.foldl_append]
theorem mapS_gen (k : Int) : ∀ (p : List Int) (m : List (Int × Bool)), (aget k (p.foldl (fun m k => aput k true m) m)).getD false = ((aget k m).getD false || has p k) := by
 intro p
 induction p with
 | nil => intro m; simp [has]
 | cons a p ih =>
  intro m
  rw [List.foldl_cons, ih, aget_put]
  by_cases h : k = a
  ·subst h; simp [has]
  ·have h' : ¬ a = k := fun e => h e.symm
   simp [has, h, h']
theorem mapS_get (k : Int) (p : List Int) : (aget k (mapS p)).getD false = has p k := by
 unfold mapS
 rw [mapS_gen]; simp [aget]
def chkBlsF (c : Contest) : List Int → List Ballot → Int
 | _, [] => 0
 | p, b :: l => if !(inR b.serial 1 1000000000) then 2 else if has p b.serial then 8 else if chkBl c b ≠ 0 then chkBl c b else chkBlsF c (p ++ [b.serial]) l
def chkBls (c : Contest) (l : List Ballot) : Int := if chkCn c ≠ 0 then chkCn c else if (l.length : Int) > 300 then 5 else chkBlsF c [] l
structure CnV (c : Contest) : Prop where
 sg : 1 ≤ c.songs ∧ c.songs ≤ 8
 jr : 0 ≤ c.juries ∧ c.juries ≤ 8
 mb : 0 ≤ c.members ∧ c.members ≤ 1000
 ms : 0 ≤ c.most ∧ c.most ≤ 100
 rl : 0 < c.rounds.length ∧ c.rounds.length ≤ 4
 rs : chkRds c.songs c.rounds = 0
theorem cnV_of {c : Contest} (h : chkCn c = 0) : CnV c := by
 unfold chkCn at h
 split at h
 ·cases h
 ·rename_i h1
  split at h
  ·cases h
  ·split at h
   ·cases h
   ·simp only [chkCn0, allIn1, Bool.not_eq_true', Bool.not_eq_false, Bool.and_eq_true, inR_true] at h1
    obtain ⟨⟨⟨a1, a2⟩, a3⟩, a4⟩ := h1
    exact ⟨a1, a2, a3, a4, by omega, h⟩
set_option maxHeartbeats 8000000 in
theorem chkBls_pc (Y : YEnv) (σ : Sg) (c : Contest) (l : List Ballot) (hr : c.rounds.length < 2 ^ 40) (hl : l.length < 2 ^ 40) :
  PC Try.prog Y 37 [cnPV c, bls l] σ (I (chkBls c l)) (σ) := by
 refine PC_of_W Try.func37 rfl (by kernel_rfl) Try.ntmps37 (by simp) fun hcl hca => ?_
 obtain ⟨res, hres⟩ : ∃ r, chkBls c l = r := ⟨_, rfl⟩
 rw [hres]
 refine W_seq fun kz1 kq1 => ?_
 refine W_region [1, 2] fun R hR => ?_
 simp only [go_sem, lk100, up100, lkX, upX, lkB, upB, CleanAll_mapB, packF, allIn1, Sg.get_ext, Sg.get_ext0, List.getElem?_cons_succ, List.getElem?_cons_zero]
 refine hR _ _ (kq1 _ _ ?_); clear hR R; try clear kq1 kz1
 try simp only [go_sem, lk100, up100, lkX, upX, lkB, upB, CleanAll_mapB, packF, allIn1, Sg.get_ext, Sg.get_ext0, List.getElem?_cons_succ, List.getElem?_cons_zero]
 refine W_seq fun kz2 kq2 => ?_
 refine W_seq fun kz3 kq3 => ?_
 refine W_region [1, 2, 5] fun R hR => ?_
 simp only [go_sem, lk100, up100, lkX, upX, lkB, upB, CleanAll_mapB, packF, allIn1, Sg.get_ext, Sg.get_ext0, List.getElem?_cons_succ, List.getElem?_cons_zero]
 refine GCall_of (Check_pc Y _ c hr) ?_
 simp only [go_sem, lk100, up100, lkX, upX, lkB, upB, CleanAll_mapB, packF, allIn1, Sg.get_ext, Sg.get_ext0, List.getElem?_cons_succ, List.getElem?_cons_zero]
 refine hR _ _ (kq3 _ _ ?_); clear hR R; try clear kq3 kz3
 try simp only [go_sem, lk100, up100, lkX, upX, lkB, upB, CleanAll_mapB, packF, allIn1, Sg.get_ext, Sg.get_ext0, List.getElem?_cons_succ, List.getElem?_cons_zero]
 refine W_seq fun kz4 kq4 => ?_
 refine W_region [1, 2, 5, 13] fun R hR => ?_
 simp only [go_sem, lk100, up100, lkX, upX, lkB, upB, CleanAll_mapB, packF, allIn1, Sg.get_ext, Sg.get_ext0, List.getElem?_cons_succ, List.getElem?_cons_zero]
 refine hR _ _ (kq4 _ _ ?_); clear hR R; try clear kq4 kz4
 try simp only [go_sem, lk100, up100, lkX, upX, lkB, upB, CleanAll_mapB, packF, allIn1, Sg.get_ext, Sg.get_ext0, List.getElem?_cons_succ, List.getElem?_cons_zero]
 refine W_cond rfl (fun c1 => ?_) (fun c1 => ?_)
 ·try simp only [nrm] at c1
  refine W_seq fun kz5 kq5 => ?_
  refine W_region [4] fun R hR => ?_
  simp only [go_sem, lk100, up100, lkX, upX, lkB, upB, CleanAll_mapB, packF, allIn1, Sg.get_ext, Sg.get_ext0, List.getElem?_cons_succ, List.getElem?_cons_zero]
  refine hR _ _ (kq5 _ _ ?_); clear hR R; try clear kq5 kz5
  try simp only [go_sem, lk100, up100, lkX, upX, lkB, upB, CleanAll_mapB, packF, allIn1, Sg.get_ext, Sg.get_ext0, List.getElem?_cons_succ, List.getElem?_cons_zero]
  refine W_ret ?_
  simp only [go_sem, lk100, up100, lkX, upX, lkB, upB, CleanAll_mapB, packF, allIn1, Sg.get_ext, Sg.get_ext0, List.getElem?_cons_succ, List.getElem?_cons_zero]
  refine ⟨.inr (by trivial), ?_⟩
  first | refine Fin_same hcl rfl (Wk_eq ?_ (by simp only [go_sem])) | refine Fin_self hcl rfl (Wk_eq ?_ (by simp only [go_sem]))
  try simp only [go_sem]
  all_goals
   first | rfl | (simp_all; done) | (simp_all; omega) | (rw [← hres]; simp only [chkBls]; (repeat' split) <;> ((first | rfl | omega | (simp_all; done) | (simp_all; omega))))
 ·try simp only [nrm] at c1
  refine W_skip (kq2 _ _ ?_)
  refine W_seq fun kz6 kq6 => ?_
  refine W_seq fun kz7 kq7 => ?_
  refine W_region [1, 2, 17] fun R hR => ?_
  simp only [go_sem, lk100, up100, lkX, upX, lkB, upB, CleanAll_mapB, packF, allIn1, Sg.get_ext, Sg.get_ext0, List.getElem?_cons_succ, List.getElem?_cons_zero]
  refine hR _ _ (kq7 _ _ ?_); clear hR R; try clear kq7 kz7
  try simp only [go_sem, lk100, up100, lkX, upX, lkB, upB, CleanAll_mapB, packF, allIn1, Sg.get_ext, Sg.get_ext0, List.getElem?_cons_succ, List.getElem?_cons_zero]
  refine W_cond rfl (fun c2 => ?_) (fun c2 => ?_)
  ·try simp only [nrm] at c2
   refine W_seq fun kz8 kq8 => ?_
   refine W_region [4] fun R hR => ?_
   simp only [go_sem, lk100, up100, lkX, upX, lkB, upB, CleanAll_mapB, packF, allIn1, Sg.get_ext, Sg.get_ext0, List.getElem?_cons_succ, List.getElem?_cons_zero]
   refine hR _ _ (kq8 _ _ ?_); clear hR R; try clear kq8 kz8
   try simp only [go_sem, lk100, up100, lkX, upX, lkB, upB, CleanAll_mapB, packF, allIn1, Sg.get_ext, Sg.get_ext0, List.getElem?_cons_succ, List.getElem?_cons_zero]
   refine W_ret ?_
   simp only [go_sem, lk100, up100, lkX, upX, lkB, upB, CleanAll_mapB, packF, allIn1, Sg.get_ext, Sg.get_ext0, List.getElem?_cons_succ, List.getElem?_cons_zero]
   refine ⟨.inr (by trivial), ?_⟩
   first | refine Fin_same hcl rfl (Wk_eq ?_ (by simp only [go_sem])) | refine Fin_self hcl rfl (Wk_eq ?_ (by simp only [go_sem]))
   try simp only [go_sem]
   all_goals
    first | rfl | (simp_all; done) | (simp_all; omega) | (rw [← hres]; simp only [chkBls]; (repeat' split) <;> ((first | rfl | omega | (simp_all; done) | (simp_all; omega))))
  ·try simp only [nrm] at c2
   refine W_skip (kq6 _ _ ?_)
   refine W_seq fun kz9 kq9 => ?_
   refine W_region [1, 2, 6] fun R hR => ?_
   simp only [go_sem, lk100, up100, lkX, upX, lkB, upB, CleanAll_mapB, packF, allIn1, Sg.get_ext, Sg.get_ext0, List.getElem?_cons_succ, List.getElem?_cons_zero]
   refine hR _ _ (kq9 _ _ ?_); clear hR R; try clear kq9 kz9
   try simp only [go_sem, lk100, up100, lkX, upX, lkB, upB, CleanAll_mapB, packF, allIn1, Sg.get_ext, Sg.get_ext0, List.getElem?_cons_succ, List.getElem?_cons_zero]
   refine W_seq fun kz10 kq10 => ?_
   refine W_seq fun kz11 kq11 => ?_
   refine W_region [2, 6, 19, 20, 21] fun R hR => ?_
   simp only [go_sem, lk100, up100, lkX, upX, lkB, upB, CleanAll_mapB, packF, allIn1, Sg.get_ext, Sg.get_ext0, List.getElem?_cons_succ, List.getElem?_cons_zero]
   refine hR _ _ (kq11 _ _ ?_); clear hR R; try clear kq11 kz11
   try simp only [go_sem, lk100, up100, lkX, upX, lkB, upB, CleanAll_mapB, packF, allIn1, Sg.get_ext, Sg.get_ext0, List.getElem?_cons_succ, List.getElem?_cons_zero]
   refine W_block ?_
   have hV := cnV_of c1
   refine W_loopT (α := Nat) (fun (i : Nat) => [(21, I i)]) (fun (i : Nat) => σ.ext [some (cnCells c), some (.mark :: mapE I PV.bool (mapS ((l.take i).map (·.serial))))] []) (fun (i : Nat) => i ≤ l.length ∧ res = chkBlsF c ((l.take i).map (·.serial)) (l.drop i)) (fun (i : Nat) => l.length - i) (0) rfl (by first | rfl | (simp only [go_sem]; done) | (simp only [go_sem]; rfl)) (⟨Nat.zero_le _, by rw [← hres]; unfold chkBls; rw [if_neg (by simp [c1]), if_neg (by omega)]; rfl⟩) ?_
   rintro i ⟨hi, hinv⟩
   refine W_seq fun kz12 kq12 => ?_
   refine W_region [2, 6, 19, 20, 21, 22] fun R hR => ?_
   simp only [go_sem, lk100, up100, lkX, upX, lkB, upB, CleanAll_mapB, packF, allIn1, Sg.get_ext, Sg.get_ext0, List.getElem?_cons_succ, List.getElem?_cons_zero]
   refine hR _ _ (kq12 _ _ ?_); clear hR R; try clear kq12 kz12
   try simp only [go_sem, lk100, up100, lkX, upX, lkB, upB, CleanAll_mapB, packF, allIn1, Sg.get_ext, Sg.get_ext0, List.getElem?_cons_succ, List.getElem?_cons_zero]
   refine W_seq fun kz13 kq13 => ?_
   refine W_cond rfl (fun c3 => ?_) (fun c3 => ?_)
   ·try simp only [nrm] at c3
    have hi' : i < l.length := by first | assumption | omega
    obtain ⟨b, hx⟩ : ∃ b, l[i]? = some b := ⟨l[i], by simp [hi']⟩
    have hdrop : l.drop i = b :: l.drop (i + 1) := by
     rw [List.drop_eq_getElem_cons hi']; congr 1; exact (List.getElem?_eq_some_iff.1 hx).2
    rw [hdrop] at hinv
    simp only [chkBlsF] at hinv
    have hsn : (l.take (i + 1)).map (·.serial) = (l.take i).map (·.serial) ++ [b.serial] := by rw [List.take_add_one, hx]; simp
    obtain ⟨p, hp⟩ : ∃ z, (l.take i).map (·.serial) = z := ⟨_, rfl⟩
    rw [hp] at hinv hsn
    rw [hp]
    have hmg := mapS_get b.serial p
    refine W_skip (kq13 _ _ ?_)
    refine W_seq fun kz14 kq14 => ?_
    refine W_block ?_
    refine W_seq fun kz15 kq15 => ?_
    refine W_region [2, 6, 8, 19, 20, 21] fun R hR => ?_
    simp only [go_sem, lk100, up100, lkX, upX, lkB, upB, CleanAll_mapB, packF, allIn1, Sg.get_ext, Sg.get_ext0, List.getElem?_cons_succ, List.getElem?_cons_zero, hx, blCells, blPV, hmg]
    refine hR _ _ (kq15 _ _ ?_); clear hR R; try clear kq15 kz15
    try simp only [go_sem, lk100, up100, lkX, upX, lkB, upB, CleanAll_mapB, packF, allIn1, Sg.get_ext, Sg.get_ext0, List.getElem?_cons_succ, List.getElem?_cons_zero, hx, blCells, blPV, hmg]
    refine W_seq fun kz16 kq16 => ?_
    refine W_block ?_
    refine W_seq fun kz17 kq17 => ?_
    refine W_region [2, 6, 8, 19, 20, 21, 25] fun R hR => ?_
    simp only [go_sem, lk100, up100, lkX, upX, lkB, upB, CleanAll_mapB, packF, allIn1, Sg.get_ext, Sg.get_ext0, List.getElem?_cons_succ, List.getElem?_cons_zero, hx, blCells, blPV, hmg]
    refine GCall_of (in_pc Y _ 1 1000000000 [b.serial] .exact (by simp)) ?_
    simp only [go_sem, lk100, up100, lkX, upX, lkB, upB, CleanAll_mapB, packF, allIn1, Sg.get_ext, Sg.get_ext0, List.getElem?_cons_succ, List.getElem?_cons_zero, hx, blCells, blPV, hmg]
    refine hR _ _ (kq17 _ _ ?_); clear hR R; try clear kq17 kz17
    try simp only [go_sem, lk100, up100, lkX, upX, lkB, upB, CleanAll_mapB, packF, allIn1, Sg.get_ext, Sg.get_ext0, List.getElem?_cons_succ, List.getElem?_cons_zero, hx, blCells, blPV, hmg]
    refine W_cond rfl (fun c4 => ?_) (fun c4 => ?_)
    ·try simp only [nrm] at c4
     refine W_seq fun kz18 kq18 => ?_
     refine W_region [4] fun R hR => ?_
     simp only [go_sem, lk100, up100, lkX, upX, lkB, upB, CleanAll_mapB, packF, allIn1, Sg.get_ext, Sg.get_ext0, List.getElem?_cons_succ, List.getElem?_cons_zero, hx, blCells, blPV, hmg]
     refine hR _ _ (kq18 _ _ ?_); clear hR R; try clear kq18 kz18
     try simp only [go_sem, lk100, up100, lkX, upX, lkB, upB, CleanAll_mapB, packF, allIn1, Sg.get_ext, Sg.get_ext0, List.getElem?_cons_succ, List.getElem?_cons_zero, hx, blCells, blPV, hmg]
     refine W_ret ?_
     simp only [go_sem, lk100, up100, lkX, upX, lkB, upB, CleanAll_mapB, packF, allIn1, Sg.get_ext, Sg.get_ext0, List.getElem?_cons_succ, List.getElem?_cons_zero, hx, blCells, blPV, hmg]
     refine ⟨.inr (by trivial), ?_⟩
     first | refine Fin_same hcl rfl (Wk_eq ?_ (by simp only [go_sem])) | refine Fin_self hcl rfl (Wk_eq ?_ (by simp only [go_sem]))
     try simp only [go_sem]
     all_goals
      first | rfl | (simp_all; done) | (simp_all; omega) | (rw [← hres]; simp only [chkBls]; (repeat' split) <;> ((first | rfl | omega | (simp_all; done) | (simp_all; omega))))
    ·try simp only [nrm] at c4
     refine W_seq fun kz19 kq19 => ?_
     refine W_region [2, 6, 8, 19, 20, 21, 31] fun R hR => ?_
     simp only [go_sem, lk100, up100, lkX, upX, lkB, upB, CleanAll_mapB, packF, allIn1, Sg.get_ext, Sg.get_ext0, List.getElem?_cons_succ, List.getElem?_cons_zero, hx, blCells, blPV, hmg]
     refine hR _ _ (kq19 _ _ ?_); clear hR R; try clear kq19 kz19
     try simp only [go_sem, lk100, up100, lkX, upX, lkB, upB, CleanAll_mapB, packF, allIn1, Sg.get_ext, Sg.get_ext0, List.getElem?_cons_succ, List.getElem?_cons_zero, hx, blCells, blPV, hmg]
     refine W_cond rfl (fun c5 => ?_) (fun c5 => ?_)
     ·try simp only [nrm] at c5
      refine W_seq fun kz20 kq20 => ?_
      refine W_region [4] fun R hR => ?_
      simp only [go_sem, lk100, up100, lkX, upX, lkB, upB, CleanAll_mapB, packF, allIn1, Sg.get_ext, Sg.get_ext0, List.getElem?_cons_succ, List.getElem?_cons_zero, hx, blCells, blPV, hmg]
      refine hR _ _ (kq20 _ _ ?_); clear hR R; try clear kq20 kz20
      try simp only [go_sem, lk100, up100, lkX, upX, lkB, upB, CleanAll_mapB, packF, allIn1, Sg.get_ext, Sg.get_ext0, List.getElem?_cons_succ, List.getElem?_cons_zero, hx, blCells, blPV, hmg]
      refine W_ret ?_
      simp only [go_sem, lk100, up100, lkX, upX, lkB, upB, CleanAll_mapB, packF, allIn1, Sg.get_ext, Sg.get_ext0, List.getElem?_cons_succ, List.getElem?_cons_zero, hx, blCells, blPV, hmg]
      refine ⟨.inr (by trivial), ?_⟩
      first | refine Fin_same hcl rfl (Wk_eq ?_ (by simp only [go_sem])) | refine Fin_self hcl rfl (Wk_eq ?_ (by simp only [go_sem]))
      try simp only [go_sem]
      all_goals
       first | rfl | (simp_all; done) | (simp_all; omega) | (rw [← hres]; simp only [chkBls]; (repeat' split) <;> ((first | rfl | omega | (simp_all; done) | (simp_all; omega))))
     ·try simp only [nrm] at c5
      refine W_skip (kq16 _ _ ?_)
      refine W_seq fun kz21 kq21 => ?_
      refine W_region [2, 6, 8, 19, 20, 21] fun R hR => ?_
      simp only [go_sem, lk100, up100, lkX, upX, lkB, upB, CleanAll_mapB, packF, allIn1, Sg.get_ext, Sg.get_ext0, List.getElem?_cons_succ, List.getElem?_cons_zero, hx, blCells, blPV, hmg]
      refine hR _ _ (kq21 _ _ ?_); clear hR R; try clear kq21 kz21
      try simp only [go_sem, lk100, up100, lkX, upX, lkB, upB, CleanAll_mapB, packF, allIn1, Sg.get_ext, Sg.get_ext0, List.getElem?_cons_succ, List.getElem?_cons_zero, hx, blCells, blPV, hmg]
      refine W_seq fun kz22 kq22 => ?_
      refine W_region [2, 6, 9, 19, 20, 21] fun R hR => ?_
      simp only [go_sem, lk100, up100, lkX, upX, lkB, upB, CleanAll_mapB, packF, allIn1, Sg.get_ext, Sg.get_ext0, List.getElem?_cons_succ, List.getElem?_cons_zero, hx, blCells, blPV, hmg]
      refine GCall_of (chkBl_pc Y _ c b hr (by have := hV.sg; omega) (by have := hV.mb; omega) (by have := hV.jr; omega)) ?_
      simp only [go_sem, lk100, up100, lkX, upX, lkB, upB, CleanAll_mapB, packF, allIn1, Sg.get_ext, Sg.get_ext0, List.getElem?_cons_succ, List.getElem?_cons_zero, hx, blCells, blPV, hmg]
      refine hR _ _ (kq22 _ _ ?_); clear hR R; try clear kq22 kz22
      try simp only [go_sem, lk100, up100, lkX, upX, lkB, upB, CleanAll_mapB, packF, allIn1, Sg.get_ext, Sg.get_ext0, List.getElem?_cons_succ, List.getElem?_cons_zero, hx, blCells, blPV, hmg]
      refine W_seq fun kz23 kq23 => ?_
      refine W_region [2, 6, 9, 19, 20, 21, 43] fun R hR => ?_
      simp only [go_sem, lk100, up100, lkX, upX, lkB, upB, CleanAll_mapB, packF, allIn1, Sg.get_ext, Sg.get_ext0, List.getElem?_cons_succ, List.getElem?_cons_zero, hx, blCells, blPV, hmg]
      refine hR _ _ (kq23 _ _ ?_); clear hR R; try clear kq23 kz23
      try simp only [go_sem, lk100, up100, lkX, upX, lkB, upB, CleanAll_mapB, packF, allIn1, Sg.get_ext, Sg.get_ext0, List.getElem?_cons_succ, List.getElem?_cons_zero, hx, blCells, blPV, hmg]
      refine W_cond rfl (fun c6 => ?_) (fun c6 => ?_)
      ·try simp only [nrm] at c6
       refine W_seq fun kz24 kq24 => ?_
       refine W_region [4] fun R hR => ?_
       simp only [go_sem, lk100, up100, lkX, upX, lkB, upB, CleanAll_mapB, packF, allIn1, Sg.get_ext, Sg.get_ext0, List.getElem?_cons_succ, List.getElem?_cons_zero, hx, blCells, blPV, hmg]
       refine hR _ _ (kq24 _ _ ?_); clear hR R; try clear kq24 kz24
       try simp only [go_sem, lk100, up100, lkX, upX, lkB, upB, CleanAll_mapB, packF, allIn1, Sg.get_ext, Sg.get_ext0, List.getElem?_cons_succ, List.getElem?_cons_zero, hx, blCells, blPV, hmg]
       refine W_ret ?_
       simp only [go_sem, lk100, up100, lkX, upX, lkB, upB, CleanAll_mapB, packF, allIn1, Sg.get_ext, Sg.get_ext0, List.getElem?_cons_succ, List.getElem?_cons_zero, hx, blCells, blPV, hmg]
       refine ⟨.inr (by trivial), ?_⟩
       first | refine Fin_same hcl rfl (Wk_eq ?_ (by simp only [go_sem])) | refine Fin_self hcl rfl (Wk_eq ?_ (by simp only [go_sem]))
       try simp only [go_sem]
       all_goals
        first | rfl | (simp_all; done) | (simp_all; omega) | (rw [← hres]; simp only [chkBls]; (repeat' split) <;> ((first | rfl | omega | (simp_all; done) | (simp_all; omega))))
      ·try simp only [nrm] at c6
       refine W_skip (kq14 _ _ ?_)
       refine W_region [2, 6, 19, 20, 21] fun R hR => ?_
       simp only [go_sem, lk100, up100, lkX, upX, lkB, upB, CleanAll_mapB, packF, allIn1, Sg.get_ext, Sg.get_ext0, List.getElem?_cons_succ, List.getElem?_cons_zero, hx, blCells, blPV, hmg]
       try simp (disch := omega) only [wrapI, wrapU]
       refine hR _ _ ?_; clear hR R
       try simp only [go_sem, lk100, up100, lkX, upX, lkB, upB, CleanAll_mapB, packF, allIn1, Sg.get_ext, Sg.get_ext0, List.getElem?_cons_succ, List.getElem?_cons_zero, hx, blCells, blPV, hmg]
       refine ⟨i + 1, ?_, by (try simp only []); omega, ?_⟩
       ·refine Weak.trans (Weak.cutX 2 0 (by omega) (by omega) hcl (by simp only [go_sem, CleanAll_mapB] <;> omega) (by simp only [go_sem] <;> omega)) ?_
        simp only [go_sem]
        exact Weak.eq rfl (by rw [hsn, mapS_snoc])
       ·try dsimp only
        refine ⟨hi', ?_⟩
        rw [hsn, hinv]; simp [*]
   ·try simp only [nrm] at c3
    have hdrop : l.drop i = [] := List.drop_eq_nil_of_le (by omega)
    rw [hdrop] at hinv
    simp only [chkBlsF] at hinv
    refine W_exit ?_
    simp only [go_sem, lk100, up100, lkX, upX, lkB, upB, CleanAll_mapB, packF, allIn1, Sg.get_ext, Sg.get_ext0, List.getElem?_cons_succ, List.getElem?_cons_zero]
    refine kq10 _ _ ?_
    refine W_seq fun kz25 kq25 => ?_
    refine W_region [4] fun R hR => ?_
    simp only [go_sem, lk100, up100, lkX, upX, lkB, upB, CleanAll_mapB, packF, allIn1, Sg.get_ext, Sg.get_ext0, List.getElem?_cons_succ, List.getElem?_cons_zero]
    refine hR _ _ (kq25 _ _ ?_); clear hR R; try clear kq25 kz25
    try simp only [go_sem, lk100, up100, lkX, upX, lkB, upB, CleanAll_mapB, packF, allIn1, Sg.get_ext, Sg.get_ext0, List.getElem?_cons_succ, List.getElem?_cons_zero]
    refine W_ret ?_
    simp only [go_sem, lk100, up100, lkX, upX, lkB, upB, CleanAll_mapB, packF, allIn1, Sg.get_ext, Sg.get_ext0, List.getElem?_cons_succ, List.getElem?_cons_zero]
    refine ⟨.inr (by trivial), ?_⟩
    first | refine Fin_same hcl rfl (Wk_eq ?_ (by simp only [go_sem])) | refine Fin_self hcl rfl (Wk_eq ?_ (by simp only [go_sem]))
    try simp only [go_sem]
    all_goals
     first | rfl | (simp_all; done) | (simp_all; omega) | (rw [← hres]; simp only [chkBls]; (repeat' split) <;> ((first | rfl | omega | (simp_all; done) | (simp_all; omega))))
def cmpI (a b : Int) : Int := if a < b then -1 else if b < a then 1 else 0
def orI : List Int → Int
 | [] => 0
 | x :: l => if x ≠ 0 then x else orI l
def weighS (s : Std) (r : Rnd) : Std := { s with score := r.jury * s.points + r.member * s.votes }
def aheadS (a b : Std) : Int := orI [cmpI b.score a.score, cmpI b.points a.points, cmpI a.song b.song]
theorem mul_bd {a b : Int} (h : 0 ≤ a ∧ a ≤ 2 ^ 20) (h2 : -2 ^ 30 ≤ b ∧ b ≤ 2 ^ 30) : -2 ^ 50 ≤ a * b ∧ a * b ≤ 2 ^ 50 := by
 have e1 : a * b ≤ a * 2 ^ 30 := Int.mul_le_mul_of_nonneg_left h2.2 h.1
 have e2 : a * (-2 ^ 30) ≤ a * b := Int.mul_le_mul_of_nonneg_left h2.1 h.1
 omega
set_option maxHeartbeats 2000000 in
theorem nan_pc (Y : YEnv) (σ : Sg) (a : Int) :
  PC Try.prog Y 84 [I a] σ (.bool false) (σ) := by
 refine PC_of_W Try.func84 rfl (by kernel_rfl) Try.ntmps84 (by simp) fun hcl hca => ?_
 refine W_seq fun kz1 kq1 => ?_
 refine W_region [0] fun R hR => ?_
 simp only [go_sem]
 refine hR _ _ (kq1 _ _ ?_); clear hR R; try clear kq1 kz1
 try simp only [go_sem]
 refine W_seq fun kz2 kq2 => ?_
 refine W_region [2] fun R hR => ?_
 simp only [go_sem]
 refine hR _ _ (kq2 _ _ ?_); clear hR R; try clear kq2 kz2
 try simp only [go_sem]
 refine W_ret ?_
 simp only [go_sem]
 refine ⟨.inr (by trivial), ?_⟩
 first | refine Fin_same hcl rfl (Wk_eq ?_ (by simp only [go_sem])) | refine Fin_self hcl rfl (Wk_eq ?_ (by simp only [go_sem]))
 try simp only [go_sem]
 all_goals
  first | rfl | simp
set_option maxHeartbeats 2000000 in
theorem cmp_pc (Y : YEnv) (σ : Sg) (a b : Int) :
  PC Try.prog Y 79 [I a, I b] σ (I (cmpI a b)) (σ) := by
 refine PC_of_W Try.func79 rfl (by kernel_rfl) Try.ntmps79 (by simp) fun hcl hca => ?_
 refine W_seq fun kz1 kq1 => ?_
 refine W_region [0, 1] fun R hR => ?_
 simp only [go_sem]
 refine hR _ _ (kq1 _ _ ?_); clear hR R; try clear kq1 kz1
 try simp only [go_sem]
 refine W_seq fun kz2 kq2 => ?_
 refine W_region [0, 1, 5] fun R hR => ?_
 simp only [go_sem]
 refine GCall_of (nan_pc Y _ a) ?_
 simp only [go_sem]
 refine hR _ _ (kq2 _ _ ?_); clear hR R; try clear kq2 kz2
 try simp only [go_sem]
 refine W_seq fun kz3 kq3 => ?_
 refine W_region [0, 1, 5, 6] fun R hR => ?_
 simp only [go_sem]
 refine GCall_of (nan_pc Y _ b) ?_
 simp only [go_sem]
 refine hR _ _ (kq3 _ _ ?_); clear hR R; try clear kq3 kz3
 try simp only [go_sem]
 refine W_seq fun kz4 kq4 => ?_
 refine W_seq fun kz5 kq5 => ?_
 refine W_region [0, 1, 6, 11] fun R hR => ?_
 simp only [go_sem]
 refine hR _ _ (kq5 _ _ ?_); clear hR R; try clear kq5 kz5
 try simp only [go_sem]
 refine W_cond rfl (fun c1 => ?_) (fun c1 => ?_)
 ·try simp only [nrm] at c1
  exfalso
  simp at c1
 ·try simp only [nrm] at c1
  refine W_skip (kq4 _ _ ?_)
  refine W_seq fun kz6 kq6 => ?_
  refine W_seq fun kz7 kq7 => ?_
  refine W_region [0, 1, 13] fun R hR => ?_
  simp only [go_sem]
  refine hR _ _ (kq7 _ _ ?_); clear hR R; try clear kq7 kz7
  try simp only [go_sem]
  refine W_cond rfl (fun c2 => ?_) (fun c2 => ?_)
  ·try simp only [nrm] at c2
   exfalso
   simp at c2
  ·try simp only [nrm] at c2
   refine W_skip (kq6 _ _ ?_)
   refine W_seq fun kz8 kq8 => ?_
   refine W_seq fun kz9 kq9 => ?_
   refine W_region [0, 1, 16] fun R hR => ?_
   simp only [go_sem]
   refine hR _ _ (kq9 _ _ ?_); clear hR R; try clear kq9 kz9
   try simp only [go_sem]
   refine W_cond rfl (fun c3 => ?_) (fun c3 => ?_)
   ·try simp only [nrm] at c3
    refine W_seq fun kz10 kq10 => ?_
    refine W_region [4] fun R hR => ?_
    simp only [go_sem]
    refine hR _ _ (kq10 _ _ ?_); clear hR R; try clear kq10 kz10
    try simp only [go_sem]
    refine W_ret ?_
    simp only [go_sem]
    refine ⟨.inr (by trivial), ?_⟩
    first | refine Fin_same hcl rfl (Wk_eq ?_ (by simp only [go_sem])) | refine Fin_self hcl rfl (Wk_eq ?_ (by simp only [go_sem]))
    try simp only [go_sem]
    all_goals
     first | rfl | (simp_all; done) | (simp_all; omega) | (simp only [cmpI]; (repeat' split) <;> ((first | rfl | omega | (simp_all; done) | (simp_all; omega))))
   ·try simp only [nrm] at c3
    refine W_skip (kq8 _ _ ?_)
    refine W_seq fun kz11 kq11 => ?_
    refine W_seq fun kz12 kq12 => ?_
    refine W_region [19] fun R hR => ?_
    simp only [go_sem]
    refine hR _ _ (kq12 _ _ ?_); clear hR R; try clear kq12 kz12
    try simp only [go_sem]
    refine W_cond rfl (fun c4 => ?_) (fun c4 => ?_)
    ·try simp only [nrm] at c4
     refine W_seq fun kz13 kq13 => ?_
     refine W_region [4] fun R hR => ?_
     simp only [go_sem]
     refine hR _ _ (kq13 _ _ ?_); clear hR R; try clear kq13 kz13
     try simp only [go_sem]
     refine W_ret ?_
     simp only [go_sem]
     refine ⟨.inr (by trivial), ?_⟩
     first | refine Fin_same hcl rfl (Wk_eq ?_ (by simp only [go_sem])) | refine Fin_self hcl rfl (Wk_eq ?_ (by simp only [go_sem]))
     try simp only [go_sem]
     all_goals
      first | rfl | (simp_all; done) | (simp_all; omega) | (simp only [cmpI]; (repeat' split) <;> ((first | rfl | omega | (simp_all; done) | (simp_all; omega))))
    ·try simp only [nrm] at c4
     refine W_skip (kq11 _ _ ?_)
     refine W_seq fun kz14 kq14 => ?_
     refine W_region [4] fun R hR => ?_
     simp only [go_sem]
     refine hR _ _ (kq14 _ _ ?_); clear hR R; try clear kq14 kz14
     try simp only [go_sem]
     refine W_ret ?_
     simp only [go_sem]
     refine ⟨.inr (by trivial), ?_⟩
     first | refine Fin_same hcl rfl (Wk_eq ?_ (by simp only [go_sem])) | refine Fin_self hcl rfl (Wk_eq ?_ (by simp only [go_sem]))
     try simp only [go_sem]
     all_goals
      first | rfl | (simp_all; done) | (simp_all; omega) | (simp only [cmpI]; (repeat' split) <;> ((first | rfl | omega | (simp_all; done) | (simp_all; omega))))
set_option maxHeartbeats 2000000 in
theorem or_pc (Y : YEnv) (σ : Sg) (l : List Int) (o : Own) (hl : l.length < 2 ^ 40) :
  PC Try.prog Y 78 [intsO o l] σ (I (orI l)) (σ) := by
 refine PC_of_W Try.func78 rfl (by kernel_rfl) Try.ntmps78 (by simp) fun hcl hca => ?_
 obtain ⟨res, hres⟩ : ∃ r, orI l = r := ⟨_, rfl⟩
 rw [hres]
 refine W_seq fun kz1 kq1 => ?_
 refine W_region [0] fun R hR => ?_
 simp only [go_sem]
 refine hR _ _ (kq1 _ _ ?_); clear hR R; try clear kq1 kz1
 try simp only [go_sem]
 refine W_seq fun kz2 kq2 => ?_
 refine W_region [0, 3] fun R hR => ?_
 simp only [go_sem]
 refine hR _ _ (kq2 _ _ ?_); clear hR R; try clear kq2 kz2
 try simp only [go_sem]
 refine W_seq fun kz3 kq3 => ?_
 refine W_seq fun kz4 kq4 => ?_
 refine W_region [3, 6, 7, 8] fun R hR => ?_
 simp only [go_sem]
 refine hR _ _ (kq4 _ _ ?_); clear hR R; try clear kq4 kz4
 try simp only [go_sem]
 refine W_block ?_
 refine W_loopS (α := Nat) (fun (i : Nat) => [(8, I i)]) (fun (i : Nat) => i ≤ l.length ∧ res = orI (l.drop i)) (fun (i : Nat) => l.length - i) (0) rfl (⟨Nat.zero_le _, hres.symm⟩) ?_
 rintro i ⟨hi, hinv⟩
 refine W_seq fun kz5 kq5 => ?_
 refine W_region [3, 6, 7, 8, 9] fun R hR => ?_
 simp only [go_sem]
 refine hR _ _ (kq5 _ _ ?_); clear hR R; try clear kq5 kz5
 try simp only [go_sem]
 refine W_seq fun kz6 kq6 => ?_
 refine W_cond rfl (fun c1 => ?_) (fun c1 => ?_)
 ·try simp only [nrm] at c1
  have hi' : i < l.length := by first | assumption | omega
  obtain ⟨x, hx⟩ : ∃ x, l[i]? = some x := ⟨l[i], by simp [hi']⟩
  have hdrop : l.drop i = x :: l.drop (i + 1) := by
   rw [List.drop_eq_getElem_cons hi']; congr 1; exact (List.getElem?_eq_some_iff.1 hx).2
  rw [hdrop] at hinv
  simp only [orI] at hinv
  refine W_skip (kq6 _ _ ?_)
  refine W_seq fun kz7 kq7 => ?_
  refine W_block ?_
  refine W_seq fun kz8 kq8 => ?_
  refine W_region [3, 5, 6, 7, 8] fun R hR => ?_
  simp only [go_sem, hx]
  refine hR _ _ (kq8 _ _ ?_); clear hR R; try clear kq8 kz8
  try simp only [go_sem, hx]
  refine W_seq fun kz9 kq9 => ?_
  refine W_region [3, 5, 6, 7, 8, 14] fun R hR => ?_
  simp only [go_sem, hx]
  refine hR _ _ (kq9 _ _ ?_); clear hR R; try clear kq9 kz9
  try simp only [go_sem, hx]
  refine W_cond rfl (fun c2 => ?_) (fun c2 => ?_)
  ·try simp only [nrm] at c2
   refine W_seq fun kz10 kq10 => ?_
   refine W_region [2] fun R hR => ?_
   simp only [go_sem, hx]
   refine hR _ _ (kq10 _ _ ?_); clear hR R; try clear kq10 kz10
   try simp only [go_sem, hx]
   refine W_ret ?_
   simp only [go_sem, hx]
   refine ⟨.inr (by trivial), ?_⟩
   first | refine Fin_same hcl rfl (Wk_eq ?_ (by simp only [go_sem])) | refine Fin_self hcl rfl (Wk_eq ?_ (by simp only [go_sem]))
   try simp only [go_sem]
   all_goals
    rw [hinv]; first | done | rfl | simp_all
  ·try simp only [nrm] at c2
   refine W_skip (kq7 _ _ ?_)
   refine W_region [3, 6, 7, 8] fun R hR => ?_
   simp only [go_sem, hx]
   try simp (disch := omega) only [wrapI, wrapU]
   refine hR _ _ ?_; clear hR R
   try simp only [go_sem, hx]
   refine ⟨i + 1, ?_, by (try simp only []); omega, ?_⟩
   ·first | exact Weak.refl | exact Weak.eq (by first | rfl | (simp only [go_sem]; done) | (simp only [go_sem]; rfl) | (simp [go_sem]; done) | (simp [go_sem]; omega)) (by first | rfl | (simp only [go_sem]; done) | (simp [go_sem]; done))
   ·try dsimp only
    refine ⟨hi', ?_⟩
    rw [hinv]; simp_all
 ·try simp only [nrm] at c1
  have hdrop : l.drop i = [] := List.drop_eq_nil_of_le (by omega)
  rw [hdrop] at hinv
  simp only [orI] at hinv
  refine W_exit ?_
  simp only [go_sem]
  refine kq3 _ _ ?_
  refine W_seq fun kz11 kq11 => ?_
  refine W_region [2] fun R hR => ?_
  simp only [go_sem]
  refine hR _ _ (kq11 _ _ ?_); clear hR R; try clear kq11 kz11
  try simp only [go_sem]
  refine W_ret ?_
  simp only [go_sem]
  refine ⟨.inr (by trivial), ?_⟩
  first | refine Fin_same hcl rfl (Wk_eq ?_ (by simp only [go_sem])) | refine Fin_self hcl rfl (Wk_eq ?_ (by simp only [go_sem]))
  try simp only [go_sem]
  all_goals
   rw [hinv]; first | done | rfl | simp_all
set_option maxHeartbeats 2000000 in
theorem weigh_pc (Y : YEnv) (σ : Sg) (s : Std) (r : Rnd) (h1 : 0 ≤ r.jury ∧ r.jury ≤ 2 ^ 20) (h2 : 0 ≤ r.member ∧ r.member ≤ 2 ^ 20) (h3 : -2 ^ 30 ≤ s.points ∧ s.points ≤ 2 ^ 30) (h4 : -2 ^ 30 ≤ s.votes ∧ s.votes ≤ 2 ^ 30) :
  PC Try.prog Y 75 [sdPV s, rdPV r] σ (sdPV (weighS s r)) (σ) := by
 refine PC_of_W Try.func75 rfl (by kernel_rfl) Try.ntmps75 (by simp) fun hcl hca => ?_
 have hm1 := mul_bd h1 h3
 have hm2 := mul_bd h2 h4
 have hw1 : IntKind.i64.wrap (r.jury * s.points) = r.jury * s.points := wrapI (by omega) (by omega)
 have hw2 : IntKind.i64.wrap (r.member * s.votes) = r.member * s.votes := wrapI (by omega) (by omega)
 have hw3 : IntKind.i64.wrap (r.jury * s.points + r.member * s.votes) = r.jury * s.points + r.member * s.votes := wrapI (by omega) (by omega)
 refine W_seq fun kz1 kq1 => ?_
 refine W_region [2, 3, 4] fun R hR => ?_
 simp only [go_sem, sdPV, sdCells, rdPV, rdCells, hw1, hw2, hw3]
 refine hR _ _ (kq1 _ _ ?_); clear hR R; try clear kq1 kz1
 try simp only [go_sem, sdPV, sdCells, rdPV, rdCells, hw1, hw2, hw3]
 refine W_seq fun kz2 kq2 => ?_
 refine W_region [2, 4] fun R hR => ?_
 simp only [go_sem, sdPV, sdCells, rdPV, rdCells, hw1, hw2, hw3]
 try simp (disch := omega) only [wrapI, wrapU]
 refine hR _ _ (kq2 _ _ ?_); clear hR R; try clear kq2 kz2
 try simp only [go_sem, sdPV, sdCells, rdPV, rdCells, hw1, hw2, hw3]
 refine W_seq fun kz3 kq3 => ?_
 refine W_region [4] fun R hR => ?_
 simp only [go_sem, sdPV, sdCells, rdPV, rdCells, hw1, hw2, hw3]
 refine hR _ _ (kq3 _ _ ?_); clear hR R; try clear kq3 kz3
 try simp only [go_sem, sdPV, sdCells, rdPV, rdCells, hw1, hw2, hw3]
 refine W_ret ?_
 simp only [go_sem, sdPV, sdCells, rdPV, rdCells, hw1, hw2, hw3]
 refine ⟨.inr (by trivial), ?_⟩
 first | refine Fin_same hcl (by show resPV Try.prog _ _ [.cell 4 105] = some _; simp only [resPV, go_sem]; rfl) (Wk_eq ?_ (by simp only [go_sem])) | refine Fin_same hcl rfl (Wk_eq ?_ (by simp only [go_sem]))
 try simp only [go_sem]
 all_goals
  first | rfl | simp [weighS, sdPV, sdCells]
set_option maxHeartbeats 2000000 in
theorem ahead_pc (Y : YEnv) (σ : Sg) (a b : Std) :
  PC Try.prog Y 64 [sdPV a, sdPV b] σ (I (aheadS a b)) (σ) := by
 refine PC_of_W Try.func64 rfl (by kernel_rfl) Try.ntmps64 (by simp) fun hcl hca => ?_
 refine W_seq fun kz1 kq1 => ?_
 refine W_region [2, 3] fun R hR => ?_
 simp only [go_sem, sdPV, sdCells]
 refine hR _ _ (kq1 _ _ ?_); clear hR R; try clear kq1 kz1
 try simp only [go_sem, sdPV, sdCells]
 refine W_seq fun kz2 kq2 => ?_
 refine W_draw [4] [0, 1, 2, 3, 4, 5, 6, 7, 8, 9, 10, 11, 12, 13, 14, 15, 16, 17] [(5, 4), (6, 4), (7, 4), (8, 4), (10, 4), (10, 9), (11, 4), (11, 9), (12, 4), (12, 9), (13, 4), (13, 9)] [[], [0], [], [2], [0, 1, 2, 3], [], [5], [], [7], [0, 1, 2, 3, 4, 5, 6, 7, 8], [], [10], [], [12], [0, 1, 2, 3, 4, 5, 6, 7, 8, 9, 10, 11, 12, 13], [0, 1, 2, 3, 4, 5, 6, 7, 8, 9, 10, 11, 12, 13, 14], [0, 1, 2, 3, 4, 5, 6, 7, 8, 9, 10, 11, 12, 13, 14, 15], [0, 1, 2, 3, 4, 5, 6, 7, 8, 9, 10, 11, 12, 13, 14, 15, 16]] mixed (by kernel_rfl) fun R hR => ?_
 simp only [go_sem, sdPV, sdCells]
 refine GCall_of (cmp_pc Y _ b.score a.score) ?_
 simp only [go_sem, sdPV, sdCells]
 refine GCall_of (cmp_pc Y _ b.points a.points) ?_
 simp only [go_sem, sdPV, sdCells]
 refine GCall_of (cmp_pc Y _ a.song b.song) ?_
 simp only [go_sem, sdPV, sdCells]
 refine GCall_of (or_pc Y _ [cmpI b.score a.score, cmpI b.points a.points, cmpI a.song b.song] .exact (by simp)) ?_
 simp only [go_sem, sdPV, sdCells]
 try refine And.intro (by repeat' (first | refine And.intro ?_ ?_ | exact GOr_right (fun _ => by simp only [go_sem, sdPV, sdCells]))) ?_
 refine hR _ _ (kq2 _ _ ?_); clear hR R; try clear kq2 kz2
 try simp only [go_sem, sdPV, sdCells]
 refine W_ret ?_
 simp only [go_sem, sdPV, sdCells]
 refine ⟨.inr (by trivial), ?_⟩
 first | refine Fin_same hcl rfl (Wk_eq ?_ (by simp only [go_sem])) | refine Fin_self hcl rfl (Wk_eq ?_ (by simp only [go_sem]))
 try simp only [go_sem]
 all_goals
  first | rfl | simp [aheadS]
structure Tally where
 rd : Rnd
 songs : List Int
 pts : Nat → Int
 vts : Nat → Int
 m : List (Voice × Int)
def tlCells (id : Nat) (t : Tally) : List PV := [I t.rd.keep, I t.rd.jury, I t.rd.member, ints t.songs, I (t.pts 0), I (t.pts 1), I (t.pts 2), I (t.pts 3), I (t.pts 4), I (t.pts 5), I (t.pts 6), I (t.pts 7), I (t.vts 0), I (t.vts 1), I (t.vts 2), I (t.vts 3), I (t.vts 4), I (t.vts 5), I (t.vts 6), I (t.vts 7), .map id]
def tlPV (id : Nat) (t : Tally) : PV := .agg (tlCells id t)
def upd (f : Nat → Int) (k : Nat) (v : Int) : Nat → Int := fun s => if s = k then v else f s
theorem tl_pts {id : Nat} {t : Tally} : ∀ {s : Nat}, s < 8 → (tlCells id t)[4 + s]? = some (I (t.pts s))
 | 0, _ => rfl
 | 1, _ => rfl
 | 2, _ => rfl
 | 3, _ => rfl
 | 4, _ => rfl
 | 5, _ => rfl
 | 6, _ => rfl
 | 7, _ => rfl
 | n + 8, h => absurd h (by omega)
theorem tl_vts {id : Nat} {t : Tally} : ∀ {s : Nat}, s < 8 → (tlCells id t)[12 + s]? = some (I (t.vts s))
 | 0, _ => rfl
 | 1, _ => rfl
 | 2, _ => rfl
 | 3, _ => rfl
 | 4, _ => rfl
 | 5, _ => rfl
 | 6, _ => rfl
 | 7, _ => rfl
 | n + 8, h => absurd h (by omega)
theorem tl_map {id : Nat} {t : Tally} : (tlCells id t)[20]? = some (.map id) := rfl
theorem tl_songs {id : Nat} {t : Tally} : (tlCells id t)[3]? = some (ints t.songs) := rfl
theorem tl_keep {id : Nat} {t : Tally} : (tlCells id t)[0]? = some (I t.rd.keep) := rfl
theorem tl_len {id : Nat} {t : Tally} : (tlCells id t).length = 21 := rfl
theorem tl_setP {id : Nat} {t : Tally} : ∀ {s : Nat}, s < 8 → ∀ v : Int, (tlCells id t).set (4 + s) (I v) = tlCells id { t with pts := upd t.pts s v }
 | 0, _, _ => rfl
 | 1, _, _ => rfl
 | 2, _, _ => rfl
 | 3, _, _ => rfl
 | 4, _, _ => rfl
 | 5, _, _ => rfl
 | 6, _, _ => rfl
 | 7, _, _ => rfl
 | n + 8, h, _ => absurd h (by omega)
theorem tl_setV {id : Nat} {t : Tally} : ∀ {s : Nat}, s < 8 → ∀ v : Int, (tlCells id t).set (12 + s) (I v) = tlCells id { t with vts := upd t.vts s v }
 | 0, _, _ => rfl
 | 1, _, _ => rfl
 | 2, _, _ => rfl
 | 3, _, _ => rfl
 | 4, _, _ => rfl
 | 5, _, _ => rfl
 | 6, _, _ => rfl
 | 7, _, _ => rfl
 | n + 8, h, _ => absurd h (by omega)
theorem cleans_tl {a b c id : Nat} (t : Tally) (hid : id < a) : CleanAll a b c (tlCells id t) := by
 intro p hp
 simp only [tlCells, List.mem_cons, List.not_mem_nil, or_false] at hp
 repeat' (first | (rcases hp with rfl | hp; first | exact .int _ _ | exact clean_ints _) | (subst hp; exact .mapv _ hid))
theorem clean_tl {a b c id : Nat} (t : Tally) (hid : id < a) : Clean a b c (tlPV id t) := .agg _ (cleans_tl t hid)
theorem mapE_len {κ ν : Type} {ek : κ → PV} {ev : ν → PV} {l : List (κ × ν)} : (mapE ek ev l).length = l.length := by simp [mapE]
theorem mapE_get {κ ν : Type} {ek : κ → PV} {ev : ν → PV} {l : List (κ × ν)} {j : Nat} {k u : PV} (h : (mapE ek ev l)[j]? = some (.tuple [k, u])) : ∃ e, l[j]? = some e ∧ k = ek e.1 ∧ u = ev e.2 := by
 unfold mapE at h
 rw [List.getElem?_map] at h
 cases he : l[j]? with
 | none => rw [he] at h; cases h
 | some e =>
  rw [he] at h
  simp only [Option.map_some, Option.some.injEq, PV.tuple.injEq, List.cons.injEq, and_true] at h
  exact ⟨e, rfl, h.1.symm, h.2.symm⟩
theorem mapE_at {κ ν : Type} {ek : κ → PV} {ev : ν → PV} {l : List (κ × ν)} {j : Nat} {e : κ × ν} (h : l[j]? = some e) : (mapE ek ev l)[j]? = some (.tuple [ek e.1, ev e.2]) := by
 unfold mapE
 rw [List.getElem?_map, h]; rfl
theorem it_ext {σ : Sg} {l : List (Option (List PV))} {rm : List Nat} {ys : List LState} {j k n : Nat} {seen : List Nat} {es : List PV} (h1 : l[j]? = some (some [.itst (σ.store.length + k) n seen])) (h2 : l[k]? = some (some (.mark :: es))) (h3 : es.length = n) :
  iterAt (σ.ext l rm ys) (.iter (σ.store.length + j)) = some (σ.store.length + j, σ.store.length + k, seen, es) := by
 simp only [iterAt, Sg.get_ext, h1, h2, h3, if_true]
theorem rg78 {σ : Sg} {id : Nat} : rangePV Try.prog σ 78 (.map id) = match σ.store[id]? with
  | some (some (.mark :: es)) => some (.iter σ.store.length, σ.push [.itst id es.length []])
  | _ => none := by
 simp only [rangePV, Try.underlying78]
 rfl
theorem Cl_iter {a b c id : Nat} : Clean a b c (.iter id) = (id < a) := propext ⟨fun h => by cases h; assumption, fun h => .iter _ h⟩
theorem Cl_itst {a b c mid n : Nat} {s : List Nat} : Clean a b c (.itst mid n s) = (mid < a) := propext ⟨fun h => by cases h; assumption, fun h => .itst _ _ _ h⟩
theorem cA_tl {a b c id : Nat} {t : Tally} : CleanAll a b c (tlCells id t) = (id < a) := propext ⟨fun h => by have := h (.map id) (by simp [tlCells]); cases this; assumption, cleans_tl t⟩
theorem C_tl {a b c id : Nat} {t : Tally} : Clean a b c (tlPV id t) = (id < a) := propext ⟨fun h => by cases h; rename_i h; exact cA_tl.mp h, clean_tl t⟩
attribute [go_sem] cA_tl C_tl
theorem cells_map {id : Nat} : (PV.map id).cells = [.map id] := rfl
attribute [go_sem] cells_map rg78 Cl_iter Cl_itst mapE_len
def keyOf (b : Ballot) : Voice := (b.kind, b.voter, if b.kind = 2 then -1 else b.song)
def isIn (rd : Int) (songs : List Int) (b : Ballot) : Bool := decide (b.round = rd) && has songs b.song
def first (l : List Ballot) (m : List (Voice × Int)) (b : Ballot) : Bool :=
 match aget (keyOf b) m with
 | none => true
 | some k => match l[k.toNat]? with
  | none => true
  | some o => decide (b.serial < o.serial)
def vstep (rd : Int) (songs : List Int) (l : List Ballot) (m : List (Voice × Int)) (i : Nat) (b : Ballot) : List (Voice × Int) :=
 if isIn rd songs b && first l m b then aput (keyOf b) (i : Int) m else m
def voices (rd : Int) (songs : List Int) (l : List Ballot) : Nat → List (Voice × Int)
 | 0 => []
 | i + 1 => match l[i]? with
  | some b => vstep rd songs l (voices rd songs l i) i b
  | none => voices rd songs l i
def PlOk (rd : Int) (songs : List Int) (l : List Ballot) (i : Nat) (m : List (Voice × Int)) : Prop :=
 ∀ e, e ∈ m → ∃ (k : Nat) (b : Ballot), e.2 = k ∧ k < i ∧ l[k]? = some b ∧ e.1 = keyOf b ∧ isIn rd songs b = true
theorem mem_aput {k : Voice} {v : Int} : ∀ {m : List (Voice × Int)} {e : Voice × Int}, e ∈ aput k v m → e = (k, v) ∨ e ∈ m := by
 intro m
 induction m with
 | nil => intro e h; simp only [aput, List.mem_singleton] at h; exact .inl h
 | cons q m ih =>
  intro e h
  simp only [aput] at h
  split at h
  ·rcases List.mem_cons.1 h with h | h
   ·exact .inl h
   ·exact .inr (by simp [h])
  ·rcases List.mem_cons.1 h with h | h
   ·exact .inr (by simp [h])
   ·rcases ih h with h | h
    ·exact .inl h
    ·exact .inr (by simp [h])
theorem voices_ok (rd : Int) (songs : List Int) (l : List Ballot) : ∀ i, PlOk rd songs l i (voices rd songs l i) := by
 intro i
 induction i with
 | zero => intro e h; cases h
 | succ i ih =>
  have up : ∀ e, e ∈ voices rd songs l i → ∃ (k : Nat) (b : Ballot), e.2 = k ∧ k < i + 1 ∧ l[k]? = some b ∧ e.1 = keyOf b ∧ isIn rd songs b = true := fun e h => by
   obtain ⟨k, b, h1, h2, h3⟩ := ih e h
   exact ⟨k, b, h1, by omega, h3⟩
  simp only [voices]
  split
  ·rename_i b hb
   unfold vstep
   split
   ·rename_i hc
    simp only [Bool.and_eq_true] at hc
    intro e h
    rcases mem_aput h with rfl | h
    ·exact ⟨i, b, rfl, by omega, hb, rfl, hc.1⟩
    ·exact up e h
   ·exact up
  ·exact up
def entB (l : List Ballot) (m : List (Voice × Int)) (j : Nat) : Option Ballot := m[j]?.bind fun e => l[e.2.toNat]?
def cpB (s : Nat) (b : Ballot) : Int := if b.kind ≠ 2 ∧ b.song = s then b.points else 0
def cvB (s : Nat) (b : Ballot) : Int := if b.kind = 2 ∧ b.song = s then 1 else 0
def optB (f : Ballot → Int) : Option Ballot → Int
 | some b => f b
 | none => 0
def sumB (f : Ballot → Int) (l : List Ballot) (m : List (Voice × Int)) (js : List Nat) : Int := (js.map fun j => optB f (entB l m j)).sum
def sumR (f : Nat → Ballot → Int) (l : List Ballot) (m : List (Voice × Int)) (js : List Nat) : Nat → Int := fun s => sumB (f s) l m js
theorem sumB_snoc {f : Ballot → Int} {l : List Ballot} {m : List (Voice × Int)} {js : List Nat} {j : Nat} {b : Ballot} (hb : entB l m j = some b) : sumB f l m (js ++ [j]) = sumB f l m js + f b := by simp [sumB, hb, optB]
theorem sumR_same {f : Nat → Ballot → Int} {l : List Ballot} {m : List (Voice × Int)} {js : List Nat} {j : Nat} {b : Ballot} (hb : entB l m j = some b) (h : ∀ s, f s b = 0) : sumR f l m (js ++ [j]) = sumR f l m js := by
 funext s
 unfold sumR
 rw [sumB_snoc hb, h, Int.add_zero]
theorem sumR_hit {f : Nat → Ballot → Int} {l : List Ballot} {m : List (Voice × Int)} {js : List Nat} {j : Nat} {b : Ballot} (hb : entB l m j = some b) {k : Nat} {v : Int} (h : ∀ s, f s b = if s = k then v else 0) : sumR f l m (js ++ [j]) = upd (sumR f l m js) k (sumR f l m js k + v) := by
 funext s
 unfold sumR upd
 rw [sumB_snoc hb, h]
 by_cases e : s = k
 ·rw [if_pos e, if_pos e, e]
 ·rw [if_neg e, if_neg e, Int.add_zero]
theorem sum_perm {α : Type} {g : α → Int} {a b : List α} (h : a.Perm b) : (a.map g).sum = (b.map g).sum := by
 induction h with
 | nil => rfl
 | cons x _ ih => simp [ih]
 | swap x y l => simp; omega
 | trans _ _ h1 h2 => rw [h1, h2]
theorem perm_range {js : List Nat} {n : Nat} (h1 : js.Nodup) (h2 : ∀ j, j ∈ js → j < n) (h3 : ∀ j, j < n → j ∈ js) : js.Perm (List.range n) := by
 rw [List.perm_iff_count]
 intro a
 rw [List.Nodup.count h1, List.Nodup.count List.nodup_range]
 simp only [List.mem_range]
 by_cases ha : a < n
 ·rw [if_pos (h3 a ha), if_pos ha]
 ·rw [if_neg (fun q => ha (h2 a q)), if_neg ha]
theorem sumR_all {f : Nat → Ballot → Int} {l : List Ballot} {m : List (Voice × Int)} {js : List Nat} {n : Nat} (h1 : js.Nodup) (h2 : ∀ j, j ∈ js → j < n) (h3 : ∀ j, j < n → j ∈ js) : sumR f l m js = sumR f l m (List.range n) := by
 funext s
 unfold sumR sumB
 exact sum_perm (perm_range h1 h2 h3)
theorem nodup_len : ∀ {n : Nat} {js : List Nat}, js.Nodup → (∀ j, j ∈ js → j < n) → js.length ≤ n := by
 intro n
 induction n with
 | zero =>
  intro js _ h
  cases js with
  | nil => exact Nat.le_refl _
  | cons j js => exact absurd (h j (by simp)) (by omega)
 | succ n ih =>
  intro js h1 h2
  have g := ih (js := js.erase n) (h1.erase n) (fun j hj => by
   have e := (h1.mem_erase_iff).1 hj
   have := h2 j e.2
   have := e.1
   omega)
  have := List.length_erase (l := js) (a := n)
  split at this <;> omega
theorem sumB_bd {f : Ballot → Int} {l : List Ballot} {m : List (Voice × Int)} {c : Int} (hc : 0 ≤ c) (hf : ∀ b, b ∈ l → 0 ≤ f b ∧ f b ≤ c) : ∀ js : List Nat, 0 ≤ sumB f l m js ∧ sumB f l m js ≤ c * js.length := by
 intro js
 induction js with
 | nil => simp [sumB]
 | cons j js ih =>
  have e : sumB f l m (j :: js) = optB f (entB l m j) + sumB f l m js := by simp [sumB]
  have h : 0 ≤ optB f (entB l m j) ∧ optB f (entB l m j) ≤ c := by
   unfold entB
   cases hm : m[j]? with
   | none => simp [optB]; exact hc
   | some p =>
    simp only [Option.bind_some]
    cases hl : l[p.2.toNat]? with
    | none => simp [optB]; exact hc
    | some b => exact hf b (List.mem_of_getElem? hl)
  rw [e, List.length_cons, show ((js.length + 1 : Nat) : Int) = js.length + 1 by omega, Int.mul_add, Int.mul_one]
  omega
theorem aput_len {k : Voice} {v : Int} : ∀ m : List (Voice × Int), (aput k v m).length ≤ m.length + 1 := by
 intro m
 induction m with
 | nil => simp [aput]
 | cons e m ih =>
  simp only [aput]
  split
  ·simp
  ·simp only [List.length_cons]; omega
theorem voices_len (rd : Int) (songs : List Int) (l : List Ballot) : ∀ i, (voices rd songs l i).length ≤ i := by
 intro i
 induction i with
 | zero => simp [voices]
 | succ i ih =>
  simp only [voices]
  split
  ·unfold vstep
   split
   ·exact Nat.le_trans (aput_len _) (by omega)
   ·omega
  ·omega
def countT (r : Rnd) (rd : Int) (songs : List Int) (l : List Ballot) : Tally :=
 let m := voices rd songs l l.length
 ⟨r, songs, sumR cpB l m (List.range m.length), sumR cvB l m (List.range m.length), m⟩
structure BlV (c : Contest) (b : Ballot) : Prop where
 sr : 1 ≤ b.serial ∧ b.serial ≤ 1000000000
 rd : 0 ≤ b.round ∧ b.round < c.rounds.length
 kd : b.kind = 1 ∨ b.kind = 2
 vt : 0 ≤ b.voter ∧ b.voter < if b.kind = 2 then c.members else c.juries
 sg : 0 ≤ b.song ∧ b.song < c.songs
 pt : 0 ≤ b.points ∧ b.points ≤ if b.kind = 2 then 0 else c.most
theorem unl_zero {b : Bool} {e : Int} (he : e ≠ 0) (h : unl b e = 0) : b = true := by
 unfold unl at h
 cases b
 ·exact absurd h he
 ·rfl
theorem blV_of {c : Contest} {b : Ballot} (hs : inR b.serial 1 1000000000 = true) (h : chkBl c b = 0) : BlV c b := by
 simp only [chkBl, blEs, firstE] at h
 split at h
 ·rename_i q; exact absurd h q
 ·rename_i h1
  split at h
  ·rename_i q; exact absurd h q
  ·rename_i h2
   split at h
   ·rename_i q; exact absurd h q
   ·rename_i h3
    split at h
    ·rename_i q; exact absurd h q
    ·rename_i h4
     split at h
     ·rename_i q; exact absurd h q
     ·rename_i h5
      simp only [ne_eq, Classical.not_not] at h1 h2 h3 h4 h5
      have g1 := inR_true.1 (unl_zero (by decide) h1)
      have g2 := inR_true.1 (unl_zero (by decide) h2)
      have g3 := inR_true.1 (unl_zero (by decide) h3)
      have g4 := inR_true.1 (unl_zero (by decide) h4)
      refine ⟨inR_true.1 hs, by omega, by omega, ⟨g3.1, by have := g3.2; omega⟩, by omega, ?_⟩
      unfold bl5 at h5
      split at h5
      ·rename_i hk
       have g5 := unl_zero (by decide) h5
       simp only [beq_iff_eq] at g5
       rw [g5, if_pos hk]; omega
      ·rename_i hk
       have g5 := inR_true.1 (unl_zero (by decide) h5)
       rw [if_neg hk]; exact g5
theorem blsF_of {c : Contest} : ∀ {l : List Ballot} {p : List Int}, chkBlsF c p l = 0 → p.Nodup → (∀ b, b ∈ l → BlV c b) ∧ (p ++ l.map (·.serial)).Nodup := by
 intro l
 induction l with
 | nil => intro p _ hp; exact ⟨fun b h => absurd h (by simp), by simpa using hp⟩
 | cons b l ih =>
  intro p h hp
  simp only [chkBlsF] at h
  split at h
  ·cases h
  ·rename_i h1
   split at h
   ·cases h
   ·rename_i h2
    split at h
    ·rename_i h3; exact absurd h h3
    ·rename_i h3
     simp only [ne_eq, Classical.not_not] at h3
     have hn : (p ++ [b.serial]).Nodup := by
      rw [List.nodup_append]
      refine ⟨hp, by simp, fun x hx y hy => ?_⟩
      simp only [List.mem_singleton] at hy
      subst hy
      intro e
      subst e
      exact h2 (has_iff.2 hx)
     obtain ⟨g1, g2⟩ := ih h hn
     refine ⟨fun x hx => ?_, by simpa using g2⟩
     rcases List.mem_cons.1 hx with rfl | hx
     ·exact blV_of (by simpa using h1) h3
     ·exact g1 x hx
theorem blsV_of {c : Contest} {l : List Ballot} (h : chkBls c l = 0) : CnV c ∧ l.length ≤ 300 ∧ (∀ b, b ∈ l → BlV c b) ∧ (l.map (·.serial)).Nodup := by
 unfold chkBls at h
 split at h
 ·rename_i q; exact absurd h q
 ·rename_i h1
  simp only [ne_eq, Classical.not_not] at h1
  split at h
  ·cases h
  ·rename_i h2
   obtain ⟨g1, g2⟩ := blsF_of h (by simp)
   exact ⟨cnV_of h1, by omega, g1, by simpa using g2⟩
def toI (n : Int) : List Int := (List.range n.toNat).map fun (i : Nat) => (i : Int)
def sink : Nat → List Std → List Std
 | 0, l => l
 | j + 1, l => match l[j + 1]?, l[j]? with
  | some x, some y => if aheadS x y < 0 then sink j ((l.set (j + 1) y).set j x) else l
  | _, _ => l
def sinkAll : Nat → Nat → List Std → List Std
 | 0, _, l => l
 | k + 1, i, l => sinkAll k (i + 1) (sink i l)
def sortSd (l : List Std) : List Std := sinkAll (l.length - 1) 1 l
def stdT (t : Tally) (s p v : Int) : Std := weighS ⟨s, t.pts s.toNat + p, t.vts s.toNat + v, 0⟩ t.rd
def allT (t : Tally) : List Std := t.songs.map fun s => stdT t s 0 0
def keptS (n : Nat) (l : List Std) : List Int := sortI (((sortSd l).take n).map (·.song))
def resT (t : Tally) : Res := ⟨t.songs, (allT t).map (·.points), (allT t).map (·.votes), (allT t).map (·.score), keptS t.rd.keep.toNat (allT t)⟩
def rdsT (l : List Ballot) : List Rnd → Nat → List Int → List Tally
 | [], _, _ => []
 | r :: rs, i, songs => countT r i songs l :: rdsT l rs (i + 1) (resT (countT r i songs l)).kept
def roundsT (c : Contest) (l : List Ballot) : List Tally := rdsT l c.rounds 0 (toI c.songs)
def resultsT (c : Contest) (l : List Ballot) : List Res := (roundsT c l).map resT
def winnerT (c : Contest) (l : List Ballot) : Int := match (resultsT c l).getLast? with
 | some r => r.kept.headD 0
 | none => 0
def runD (c : Contest) (l : List Ballot) : List Res × Int × Int := if chkBls c l ≠ 0 then ([], 0, chkBls c l) else (resultsT c l, winnerT c l, 0)
theorem rdsT_len {l : List Ballot} : ∀ {rs : List Rnd} {i : Nat} {s : List Int}, (rdsT l rs i s).length = rs.length := by
 intro rs
 induction rs with
 | nil => intro i s; rfl
 | cons r rs ih => intro i s; simp [rdsT, ih]
theorem mem_set2 {α : Type} {l : List α} {i j : Nat} {x y z : α} (hx : l[i]? = some x) (hy : l[j]? = some y) (h : z ∈ (l.set i y).set j x) : z ∈ l := by
 rcases List.mem_or_eq_of_mem_set h with h | h
 ·rcases List.mem_or_eq_of_mem_set h with h | h
  ·exact h
  ·exact h ▸ List.mem_of_getElem? hy
 ·exact h ▸ List.mem_of_getElem? hx
theorem swap_perm {α : Type} : ∀ {l : List α} {j : Nat} {x y : α}, l[j + 1]? = some x → l[j]? = some y → ((l.set (j + 1) y).set j x).Perm l := by
 intro l
 induction l with
 | nil => intro j x y h; simp at h
 | cons a l ih =>
  intro j x y hx hy
  cases j with
  | zero =>
   cases l with
   | nil => simp at hx
   | cons b l =>
    simp only [List.getElem?_cons_zero, List.getElem?_cons_succ, Option.some.injEq] at hx hy
    subst hx hy
    simp only [List.set_cons_succ, List.set_cons_zero]
    exact List.Perm.swap _ _ _
  | succ j =>
   simp only [List.getElem?_cons_succ] at hx hy
   simp only [List.set_cons_succ]
   exact List.Perm.cons _ (ih hx hy)
theorem sink_perm : ∀ (j : Nat) (l : List Std), (sink j l).Perm l := by
 intro j
 induction j with
 | zero => intro l; exact List.Perm.refl _
 | succ j ih =>
  intro l
  simp only [sink]
  split
  ·rename_i x y hx hy
   split
   ·exact (ih _).trans (swap_perm hx hy)
   ·exact List.Perm.refl _
  ·exact List.Perm.refl _
theorem sinkAll_perm : ∀ (k i : Nat) (l : List Std), (sinkAll k i l).Perm l := by
 intro k
 induction k with
 | zero => intro i l; exact List.Perm.refl _
 | succ k ih => intro i l; exact (ih _ _).trans (sink_perm _ _)
theorem sortSd_perm (l : List Std) : (sortSd l).Perm l := sinkAll_perm _ _ _
theorem sortSd_len (l : List Std) : (sortSd l).length = l.length := (sortSd_perm l).length_eq
theorem allT_len {t : Tally} : (allT t).length = t.songs.length := by simp [allT]
theorem kept_len {n : Nat} {l : List Std} (h : n ≤ l.length) : (keptS n l).length = n := by
 unfold keptS
 rw [sortI_len, List.length_map, List.length_take, sortSd_len]; omega
def cntB (l : List Ballot) (rd : Int) (songs : List Int) (b : Ballot) : Bool := isIn rd songs b && l.all fun x => !(decide (keyOf x = keyOf b) && isIn rd songs x && decide (x.serial < b.serial))
theorem aput_keys {k : Voice} {v : Int} : ∀ {m : List (Voice × Int)}, (aput k v m).map (·.1) = if aget k m = none then m.map (·.1) ++ [k] else m.map (·.1) := by
 intro m
 induction m with
 | nil => rfl
 | cons e m ih =>
  by_cases h : k = e.1
  ·have h1 : aget k (e :: m) = some e.2 := by simp only [aget]; rw [if_pos h]
   have h2 : aput k v (e :: m) = (k, v) :: m := by simp only [aput]; rw [if_pos h]
   rw [h1, h2, if_neg (by simp)]
   simp [h]
  ·have h1 : aget k (e :: m) = aget k m := by simp only [aget]; rw [if_neg h]
   have h2 : aput k v (e :: m) = e :: aput k v m := by simp only [aput]; rw [if_neg h]
   rw [h1, h2, List.map_cons, ih]
   split <;> simp
theorem aput_nodup {k : Voice} {v : Int} {m : List (Voice × Int)} (h : (m.map (·.1)).Nodup) : ((aput k v m).map (·.1)).Nodup := by
 rw [aput_keys]
 split
 ·rename_i hn
  rw [List.nodup_append]
  refine ⟨h, by simp, fun x hx y hy => ?_⟩
  simp only [List.mem_singleton] at hy
  subst hy
  obtain ⟨e, he, rfl⟩ := List.mem_map.1 hx
  exact aget_none.1 hn e he
 ·exact h
theorem aget_of_mem {e : Voice × Int} : ∀ {m : List (Voice × Int)}, (m.map (·.1)).Nodup → e ∈ m → aget e.1 m = some e.2 := by
 intro m
 induction m with
 | nil => intro _ h; cases h
 | cons q m ih =>
  intro hn h
  simp only [List.map_cons, List.nodup_cons] at hn
  simp only [aget]
  rcases List.mem_cons.1 h with rfl | h
  ·rw [if_pos rfl]
  ·rw [if_neg, ih hn.2 h]
   intro hk
   exact hn.1 (hk ▸ List.mem_map.2 ⟨e, h, rfl⟩)
theorem mem_aput2 {k : Voice} {v : Int} {m : List (Voice × Int)} {e : Voice × Int} (hn : (m.map (·.1)).Nodup) (h : e ∈ aput k v m) : e = (k, v) ∨ (e ∈ m ∧ e.1 ≠ k) := by
 have h1 := aget_of_mem (aput_nodup hn) h
 rw [aget_put] at h1
 split at h1
 ·rename_i hk
  injection h1 with h1
  left
  obtain ⟨a, b⟩ := e
  simp only at hk h1
  rw [hk, h1]
 ·rename_i hk
  exact .inr ⟨aget_mem h1, hk⟩
structure VSpec (rd : Int) (songs : List Int) (l : List Ballot) (i : Nat) (m : List (Voice × Int)) : Prop where
 nd : (m.map (·.1)).Nodup
 en : ∀ e, e ∈ m → ∃ (k : Nat) (b : Ballot), e.2 = k ∧ k < i ∧ l[k]? = some b ∧ e.1 = keyOf b ∧ isIn rd songs b = true ∧ ∀ (k' : Nat) (b' : Ballot), k' < i → l[k']? = some b' → isIn rd songs b' = true → keyOf b' = keyOf b → b.serial ≤ b'.serial
 al : ∀ (k : Nat) (b : Ballot), k < i → l[k]? = some b → isIn rd songs b = true → aget (keyOf b) m ≠ none
theorem voices_spec (rd : Int) (songs : List Int) (l : List Ballot) : ∀ i, VSpec rd songs l i (voices rd songs l i) := by
 intro i
 induction i with
 | zero => exact ⟨by simp [voices], fun e h => absurd h (by simp [voices]), fun k b h => absurd h (by omega)⟩
 | succ i ih =>
  simp only [voices]
  split
  ·rename_i b hb
   unfold vstep
   split
   ·rename_i hc
    simp only [Bool.and_eq_true] at hc
    obtain ⟨hin, hf⟩ := hc
    refine ⟨aput_nodup ih.nd, fun e he => ?_, fun k x hk hx hxi => ?_⟩
    ·rcases mem_aput2 ih.nd he with rfl | ⟨he, hne⟩
     ·refine ⟨i, b, rfl, by omega, hb, rfl, hin, fun k' b' hk' hb' hi' hkey => ?_⟩
      by_cases e : k' = i
      ·subst e; rw [hb] at hb'; injection hb' with hb'; subst hb'; exact Int.le_refl _
      ·have hk2 : k' < i := by omega
       have hsome := ih.al k' b' hk2 hb' hi'
       rw [hkey] at hsome
       cases hg : aget (keyOf b) (voices rd songs l i) with
       | none => exact absurd hg hsome
       | some v =>
        obtain ⟨k, o, h1, h2, h3, h4, h5, h6⟩ := ih.en _ (aget_mem hg)
        simp only at h1 h4
        subst h1
        have hs : b.serial < o.serial := by
         unfold first at hf
         rw [hg] at hf
         simp only [Int.toNat_natCast, h3, decide_eq_true_eq] at hf
         exact hf
        have := h6 k' b' hk2 hb' hi' (by rw [hkey]; exact h4)
        omega
     ·obtain ⟨k, o, h1, h2, h3, h4, h5, h6⟩ := ih.en _ he
      refine ⟨k, o, h1, by omega, h3, h4, h5, fun k' b' hk' hb' hi' hkey => ?_⟩
      by_cases e : k' = i
      ·subst e; rw [hb] at hb'; injection hb' with hb'; subst hb'
       exact absurd (h4.trans hkey.symm) hne
      ·exact h6 k' b' (by omega) hb' hi' hkey
    ·rw [aget_put]
     split
     ·simp
     ·rename_i hne
      by_cases e : k = i
      ·subst e; rw [hb] at hx; injection hx with hx; subst hx; exact absurd rfl hne
      ·exact ih.al k x (by omega) hx hxi
   ·rename_i hc
    refine ⟨ih.nd, fun e he => ?_, fun k x hk hx hxi => ?_⟩
    ·obtain ⟨k, o, h1, h2, h3, h4, h5, h6⟩ := ih.en _ he
     refine ⟨k, o, h1, by omega, h3, h4, h5, fun k' b' hk' hb' hi' hkey => ?_⟩
     by_cases q : k' = i
     ·subst q; rw [hb] at hb'; injection hb' with hb'; subst hb'
      have hg := aget_of_mem ih.nd he
      rw [h4, ← hkey] at hg
      have hf : first l (voices rd songs l k') b = false := by
       cases h : first l (voices rd songs l k') b with
       | false => rfl
       | true => exact absurd (by rw [hi', h]; rfl) hc
      unfold first at hf
      rw [hg] at hf
      simp only [h1, Int.toNat_natCast, h3, decide_eq_false_iff_not] at hf
      omega
     ·exact h6 k' b' (by omega) hb' hi' hkey
    ·by_cases e : k = i
     ·subst e; rw [hb] at hx; injection hx with hx; subst hx
      intro hg
      refine hc ?_
      rw [hxi]
      unfold first
      rw [hg]; rfl
     ·exact ih.al k x (by omega) hx hxi
  ·rename_i hb
   refine ⟨ih.nd, fun e he => ?_, fun k x hk hx hxi => ?_⟩
   ·obtain ⟨k, o, h1, h2, h3, h4, h5, h6⟩ := ih.en _ he
    refine ⟨k, o, h1, by omega, h3, h4, h5, fun k' b' hk' hb' hi' hkey => ?_⟩
    by_cases q : k' = i
    ·subst q; rw [hb] at hb'; cases hb'
    ·exact h6 k' b' (by omega) hb' hi' hkey
   ·by_cases e : k = i
    ·subst e; rw [hb] at hx; cases hx
    ·exact ih.al k x (by omega) hx hxi
def balOf (l : List Ballot) (m : List (Voice × Int)) : List Ballot := m.filterMap fun e => l[e.2.toNat]?
theorem sumB_bal {f : Ballot → Int} {l : List Ballot} {m : List (Voice × Int)} : sumB f l m (List.range m.length) = ((balOf l m).map f).sum := by
 have e : (List.range m.length).map (fun j => optB f (entB l m j)) = m.map fun e => optB f (l[e.2.toNat]?) := by
  apply List.ext_getElem?
  intro j
  simp only [List.getElem?_map]
  by_cases hj : j < m.length
  ·rw [List.getElem?_range hj]
   simp [entB, hj]
  ·rw [List.getElem?_eq_none (by simp; omega), List.getElem?_eq_none (by omega)]; rfl
 unfold sumB
 rw [e]
 unfold balOf
 clear e
 induction m with
 | nil => rfl
 | cons e m ih =>
  rw [List.map_cons, List.sum_cons, ih, List.filterMap_cons]
  cases l[e.2.toNat]? with
  | none => simp [optB]
  | some b => simp [optB]
theorem serial_inj {l : List Ballot} (h : (l.map (·.serial)).Nodup) {a b : Ballot} (ha : a ∈ l) (hb : b ∈ l) (e : a.serial = b.serial) : a = b := by
 induction l with
 | nil => cases ha
 | cons x l ih =>
  simp only [List.map_cons, List.nodup_cons] at h
  rcases List.mem_cons.1 ha with h1 | h1
  ·rcases List.mem_cons.1 hb with h2 | h2
   ·rw [h1, h2]
   ·exact absurd (List.mem_map.2 ⟨b, h2, by rw [← e, h1]⟩) h.1
  ·rcases List.mem_cons.1 hb with h2 | h2
   ·exact absurd (List.mem_map.2 ⟨a, h1, by rw [e, h2]⟩) h.1
   ·exact ih h.2 h1 h2
theorem nodup_of_map {α β : Type} {f : α → β} {l : List α} (h : (l.map f).Nodup) : l.Nodup := by
 rw [List.nodup_iff_pairwise_ne, List.pairwise_map] at h
 rw [List.nodup_iff_pairwise_ne]
 exact h.imp fun hn e => hn (by rw [e])
theorem mem_bal {rd : Int} {songs : List Int} {l : List Ballot} (hs : (l.map (·.serial)).Nodup) (b : Ballot) : b ∈ balOf l (voices rd songs l l.length) ↔ b ∈ l.filter (cntB l rd songs) := by
 have sp := voices_spec rd songs l l.length
 constructor
 ·intro h
  obtain ⟨e, he, hb⟩ := List.mem_filterMap.1 h
  obtain ⟨k, o, h1, h2, h3, h4, h5, h6⟩ := sp.en e he
  rw [h1, Int.toNat_natCast, h3] at hb
  injection hb with hb
  subst hb
  refine List.mem_filter.2 ⟨List.mem_of_getElem? h3, ?_⟩
  simp only [cntB, Bool.and_eq_true, h5, true_and, List.all_eq_true, Bool.not_eq_true', Bool.and_eq_false_iff, decide_eq_false_iff_not]
  intro x hx
  obtain ⟨k', hk', hxk⟩ := List.mem_iff_getElem.1 hx
  by_cases q1 : keyOf x = keyOf o
  ·by_cases q2 : isIn rd songs x = true
   ·right
    have := h6 k' x hk' (by simp [hk', hxk]) q2 q1
    omega
   ·left; right; simpa using q2
  ·left; left; exact q1
 ·intro h
  obtain ⟨hbl, hc⟩ := List.mem_filter.1 h
  simp only [cntB, Bool.and_eq_true, List.all_eq_true, Bool.not_eq_true', Bool.and_eq_false_iff, decide_eq_false_iff_not] at hc
  obtain ⟨hin, hall⟩ := hc
  obtain ⟨k, hk, hbk⟩ := List.mem_iff_getElem.1 hbl
  have hsome := sp.al k b hk (by simp [hk, hbk]) hin
  cases hg : aget (keyOf b) (voices rd songs l l.length) with
  | none => exact absurd hg hsome
  | some v =>
   have hm := aget_mem hg
   obtain ⟨k', o, h1, h2, h3, h4, h5, h6⟩ := sp.en _ hm
   simp only at h1 h4
   have hol := List.mem_of_getElem? h3
   have e1 := h6 k b hk (by simp [hk, hbk]) hin h4
   have e2 : b.serial ≤ o.serial := by
    rcases hall o hol with (q | q) | q
    ·exact absurd h4.symm q
    ·rw [h5] at q; cases q
    ·omega
   have : b = o := serial_inj hs hbl hol (by omega)
   subst this
   exact List.mem_filterMap.2 ⟨_, hm, by rw [h1, Int.toNat_natCast]; exact h3⟩
theorem bal_perm {rd : Int} {songs : List Int} {l : List Ballot} (hs : (l.map (·.serial)).Nodup) : (balOf l (voices rd songs l l.length)).Perm (l.filter (cntB l rd songs)) := by
 refine (List.perm_ext_iff_of_nodup ?_ ((nodup_of_map hs).sublist List.filter_sublist)).2 (mem_bal hs)
 have sp := voices_spec rd songs l l.length
 refine nodup_of_map (f := keyOf) ?_
 have e : (balOf l (voices rd songs l l.length)).map keyOf = (voices rd songs l l.length).map (·.1) := by
  have hall := sp.en
  generalize voices rd songs l l.length = m at hall
  unfold balOf
  induction m with
  | nil => rfl
  | cons x m ih =>
   obtain ⟨k, o, h1, h2, h3, h4, _⟩ := hall x (by simp)
   rw [List.filterMap_cons, h1, Int.toNat_natCast, h3]
   simp only [List.map_cons, h4]
   rw [ih fun e he => hall e (by simp [he])]
 rw [e]
 exact sp.nd
theorem sumB_cnt {f : Ballot → Int} {rd : Int} {songs : List Int} {l : List Ballot} (hs : (l.map (·.serial)).Nodup) : sumB f l (voices rd songs l l.length) (List.range (voices rd songs l l.length).length) = ((l.filter (cntB l rd songs)).map f).sum := by
 rw [sumB_bal]
 exact sum_perm (bal_perm hs)
def zeroTl : List PV := [I 0, I 0, I 0, .isl [] .exact, I 0, I 0, I 0, I 0, I 0, I 0, I 0, I 0, I 0, I 0, I 0, I 0, I 0, I 0, I 0, I 0, .nilmap]
def tl0 (r : Rnd) (songs : List Int) : Tally := ⟨r, songs, fun _ => 0, fun _ => 0, []⟩
def tlS (r : Rnd) (songs : List Int) (l : List Ballot) (m : List (Voice × Int)) (seen : List Nat) : Tally := ⟨r, songs, sumR cpB l m seen, sumR cvB l m seen, []⟩
theorem cleans_zt {a b c : Nat} : CleanAll a b c zeroTl = True := by simp only [zeroTl, go_sem]
attribute [go_sem] cleans_zt
theorem rn_tl {n nr ny k i : Nat} {ks : List Nat} (t : Tally) (h : ks[i]? = some k) : RnL n nr ny ks (tlCells (n + k) t) (tlCells (n + i) t) := by
 simp only [tlCells, RnL]
 exact ⟨.same _ (.int _ _), .same _ (.int _ _), .same _ (.int _ _), .same _ (clean_ints _), .same _ (.int _ _), .same _ (.int _ _), .same _ (.int _ _), .same _ (.int _ _), .same _ (.int _ _), .same _ (.int _ _), .same _ (.int _ _), .same _ (.int _ _), .same _ (.int _ _), .same _ (.int _ _), .same _ (.int _ _), .same _ (.int _ _), .same _ (.int _ _), .same _ (.int _ _), .same _ (.int _ _), .same _ (.int _ _), .mapv i k _ _ h rfl rfl, trivial⟩
theorem cpB_jury {b : Ballot} {sn : Nat} (hs : b.song = sn) (hk : b.kind ≠ 2) : ∀ s, cpB s b = if s = sn then b.points else 0 := fun s => by
 unfold cpB
 rw [hs]
 by_cases e : s = sn
 ·subst e; rw [if_pos ⟨hk, rfl⟩, if_pos rfl]
 ·rw [if_neg (by intro h; omega), if_neg e]
theorem cpB_member {b : Ballot} (hk : b.kind = 2) : ∀ s, cpB s b = 0 := fun s => by unfold cpB; rw [if_neg (by simp [hk])]
theorem cvB_member {b : Ballot} {sn : Nat} (hs : b.song = sn) (hk : b.kind = 2) : ∀ s, cvB s b = if s = sn then 1 else 0 := fun s => by
 unfold cvB
 rw [hs]
 by_cases e : s = sn
 ·subst e; rw [if_pos ⟨hk, rfl⟩, if_pos rfl]
 ·rw [if_neg (by intro h; omega), if_neg e]
theorem cvB_jury {b : Ballot} (hk : b.kind ≠ 2) : ∀ s, cvB s b = 0 := fun s => by unfold cvB; rw [if_neg (by simp [hk])]
set_option maxHeartbeats 8000000 in
theorem count_pc (Y : YEnv) (σ : Sg) (c : Contest) (l : List Ballot) (rdn : Nat) (r : Rnd) (songs : List Int) (hr : c.rounds[rdn]? = some r) (hrl : c.rounds.length < 2 ^ 40) (hl : l.length ≤ 300) (hsl : songs.length < 2 ^ 40) (hbv : ∀ b, b ∈ l → (0 ≤ b.song ∧ b.song < 8) ∧ 0 ≤ b.points ∧ b.points ≤ 100) :
  PC Try.prog Y 61 [cnPV c, bls l, I rdn, ints songs] σ (tlPV σ.store.length (countT r rdn songs l)) (σ.ext [some (.mark :: mapE vcPV I (voices rdn songs l l.length))] []) := by
 refine PC_of_W Try.func61 rfl (by kernel_rfl) Try.ntmps61 (by simp) fun hcl hca => ?_
 have hrd : rdn < c.rounds.length := (List.getElem?_eq_some_iff.1 hr).1
 have hrd2 : (rdn : Int) < (c.rounds.length : Int) := by omega
 refine W_seq fun kz1 kq1 => ?_
 refine W_region [1, 2, 3, 4, 8] fun R hR => ?_
 simp only [go_sem, tl_map, Sg.get_ext, Sg.get_ext0, List.getElem?_cons_succ, List.getElem?_cons_zero]
 refine hR _ _ (kq1 _ _ ?_); clear hR R; try clear kq1 kz1
 try simp only [go_sem, tl_map, Sg.get_ext, Sg.get_ext0, List.getElem?_cons_succ, List.getElem?_cons_zero]
 refine W_seq fun kz2 kq2 => ?_
 refine W_region [1, 2, 3, 8, 9] fun R hR => ?_
 simp only [go_sem, tl_map, Sg.get_ext, Sg.get_ext0, List.getElem?_cons_succ, List.getElem?_cons_zero, hr, hrd2]
 refine hR _ _ (kq2 _ _ ?_); clear hR R; try clear kq2 kz2
 try simp only [go_sem, tl_map, Sg.get_ext, Sg.get_ext0, List.getElem?_cons_succ, List.getElem?_cons_zero]
 refine W_seq fun kz3 kq3 => ?_
 refine W_seq fun kz4 kq4 => ?_
 refine W_weak (Weak.eq (σ' := σ.ext [some (cnCells c), some zeroTl, some (.mark :: mapE vcPV I ([])), some (tlCells (σ.store.length + 2) (tl0 r songs))] []) rfl rfl) ?_
 refine W_region [1, 2, 3, 8, 9, 26, 27, 28] fun R hR => ?_
 simp only [go_sem, tl_map, Sg.get_ext, Sg.get_ext0, List.getElem?_cons_succ, List.getElem?_cons_zero]
 refine hR _ _ (kq4 _ _ ?_); clear hR R; try clear kq4 kz4
 try simp only [go_sem, tl_map, Sg.get_ext, Sg.get_ext0, List.getElem?_cons_succ, List.getElem?_cons_zero]
 refine W_block ?_
 refine W_loopT (α := Nat) (fun (i : Nat) => [(28, I i)]) (fun (i : Nat) => σ.ext [some (cnCells c), some zeroTl, some (.mark :: mapE vcPV I (voices rdn songs l i)), some (tlCells (σ.store.length + 2) (tl0 r songs))] []) (fun (i : Nat) => i ≤ l.length) (fun (i : Nat) => l.length - i) (0) rfl (by first | rfl | (simp only [go_sem]; done) | (simp only [go_sem]; rfl)) (Nat.zero_le _) ?_
 rintro i hi
 refine W_seq fun kz5 kq5 => ?_
 refine W_region [1, 2, 3, 8, 9, 26, 27, 28, 29] fun R hR => ?_
 simp only [go_sem, tl_map, Sg.get_ext, Sg.get_ext0, List.getElem?_cons_succ, List.getElem?_cons_zero]
 refine hR _ _ (kq5 _ _ ?_); clear hR R; try clear kq5 kz5
 try simp only [go_sem, tl_map, Sg.get_ext, Sg.get_ext0, List.getElem?_cons_succ, List.getElem?_cons_zero]
 refine W_seq fun kz6 kq6 => ?_
 refine W_cond rfl (fun c1 => ?_) (fun c1 => ?_)
 ·try simp only [nrm] at c1
  have hi' : i < l.length := by first | assumption | omega
  obtain ⟨b, hx⟩ : ∃ b, l[i]? = some b := ⟨l[i], by simp [hi']⟩
  have hdrop : l.drop i = b :: l.drop (i + 1) := by
   rw [List.drop_eq_getElem_cons hi']; congr 1; exact (List.getElem?_eq_some_iff.1 hx).2
  have hvs : voices rdn songs l (i + 1) = vstep rdn songs l (voices rdn songs l i) i b := by simp only [voices, hx]
  have hpl := voices_ok rdn songs l i
  obtain ⟨m, hm⟩ : ∃ z, voices rdn songs l i = z := ⟨_, rfl⟩
  rw [hm] at hvs hpl
  simp only [hm]
  refine W_skip (kq6 _ _ ?_)
  refine W_seq fun kz7 kq7 => ?_
  refine W_block ?_
  refine W_seq fun kz8 kq8 => ?_
  refine W_region [1, 2, 3, 8, 9, 10, 11, 26, 27, 28] fun R hR => ?_
  simp only [go_sem, tl_map, Sg.get_ext, Sg.get_ext0, List.getElem?_cons_succ, List.getElem?_cons_zero, hx, blCells, blPV]
  refine hR _ _ (kq8 _ _ ?_); clear hR R; try clear kq8 kz8
  try simp only [go_sem, tl_map, Sg.get_ext, Sg.get_ext0, List.getElem?_cons_succ, List.getElem?_cons_zero, hx, blCells, blPV]
  refine W_seq fun kz9 kq9 => ?_
  refine W_seq fun kz10 kq10 => ?_
  refine W_regionJ [1, 2, 3, 8, 9, 10, 11, 26, 27, 28, 43] [(43, .bool (!(isIn rdn songs b)))] ?_ fun R hR => ?_
  ·refine kq10 _ _ ?_
   simp only [go_sem, tl_map, Sg.get_ext, Sg.get_ext0, List.getElem?_cons_succ, List.getElem?_cons_zero, hx, blCells, blPV]
   refine W_cond rfl (fun c2 => ?_) (fun c2 => ?_)
   ·try simp only [nrm] at c2
    refine W_exit ?_
    simp only [go_sem, tl_map, Sg.get_ext, Sg.get_ext0, List.getElem?_cons_succ, List.getElem?_cons_zero, hx, blCells, blPV]
    refine kq7 _ _ ?_
    refine W_region [1, 2, 3, 8, 9, 26, 27, 28] fun R hR => ?_
    simp only [go_sem, tl_map, Sg.get_ext, Sg.get_ext0, List.getElem?_cons_succ, List.getElem?_cons_zero, hx, blCells, blPV]
    try simp (disch := omega) only [wrapI, wrapU]
    refine hR _ _ ?_; clear hR R
    try simp only [go_sem, tl_map, Sg.get_ext, Sg.get_ext0, List.getElem?_cons_succ, List.getElem?_cons_zero, hx, blCells, blPV]
    refine ⟨i + 1, ?_, by (try simp only []); omega, ?_⟩
    ·refine Weak.trans (Weak.cutX 4 0 (by omega) (by omega) hcl (by simp only [go_sem, CleanAll_mapV] <;> omega) (by simp only [go_sem] <;> omega)) ?_
     simp only [go_sem]
     exact Weak.eq rfl (by rw [hvs]; unfold vstep; first | (rw [c2, c4, hkey]; rfl) | (rw [c2, c4]; rfl) | (rw [c2, c5, hkey]; rfl) | (rw [c2, c5]; rfl) | (rw [c2]; rfl))
    ·try dsimp only
     exact hi'
   ·try simp only [nrm] at c2
    refine W_skip (kq9 _ _ ?_)
    refine W_seq fun kz11 kq11 => ?_
    refine W_region [1, 2, 3, 8, 9, 10, 11, 12, 26, 27, 28] fun R hR => ?_
    simp only [go_sem, tl_map, Sg.get_ext, Sg.get_ext0, List.getElem?_cons_succ, List.getElem?_cons_zero, hx, blCells, blPV]
    refine hR _ _ (kq11 _ _ ?_); clear hR R; try clear kq11 kz11
    try simp only [go_sem, tl_map, Sg.get_ext, Sg.get_ext0, List.getElem?_cons_succ, List.getElem?_cons_zero, hx, blCells, blPV]
    refine W_seq fun kz12 kq12 => ?_
    refine W_seq fun kz13 kq13 => ?_
    refine W_region [1, 2, 3, 8, 9, 10, 11, 12, 26, 27, 28, 53] fun R hR => ?_
    simp only [go_sem, tl_map, Sg.get_ext, Sg.get_ext0, List.getElem?_cons_succ, List.getElem?_cons_zero, hx, blCells, blPV]
    refine hR _ _ (kq13 _ _ ?_); clear hR R; try clear kq13 kz13
    try simp only [go_sem, tl_map, Sg.get_ext, Sg.get_ext0, List.getElem?_cons_succ, List.getElem?_cons_zero, hx, blCells, blPV]
    refine W_cond rfl (fun c3 => ?_) (fun c3 => ?_)
    ·try simp only [nrm] at c3
     have hkey : keyOf b = (b.kind, b.voter, -1) := by simp [keyOf, c3]
     refine W_region [1, 2, 3, 8, 9, 10, 11, 12, 26, 27, 28] fun R hR => ?_
     simp only [go_sem, tl_map, Sg.get_ext, Sg.get_ext0, List.getElem?_cons_succ, List.getElem?_cons_zero, hx, blCells, blPV]
     refine hR _ _ (kq12 _ _ ?_); clear hR R; try clear kq12 kz12
     try simp only [go_sem, tl_map, Sg.get_ext, Sg.get_ext0, List.getElem?_cons_succ, List.getElem?_cons_zero, hx, blCells, blPV]
     refine W_seq fun kz14 kq14 => ?_
     refine W_region [1, 2, 3, 8, 9, 10, 11, 12, 13, 14, 26, 27, 28] fun R hR => ?_
     simp only [go_sem, tl_map, Sg.get_ext, Sg.get_ext0, List.getElem?_cons_succ, List.getElem?_cons_zero, hx, blCells, blPV]
     refine hR _ _ (kq14 _ _ ?_); clear hR R; try clear kq14 kz14
     try simp only [go_sem, tl_map, Sg.get_ext, Sg.get_ext0, List.getElem?_cons_succ, List.getElem?_cons_zero, hx, blCells, blPV]
     refine W_seq fun kz15 kq15 => ?_
     refine W_drawJ [1, 2, 3, 8, 9, 10, 12, 26, 27, 28, 73] [(73, .bool (first l m b))] [0, 1, 2, 3, 4, 5, 6, 7, 8, 9, 10, 11] [] [[], [0], [0, 1], [0, 1, 2], [0, 1, 2, 3], [0, 1, 2], [0, 1, 2], [0, 1, 2, 5, 6], [0, 1, 2, 5, 6, 7], [0, 1, 2, 5, 6, 7, 8], [0, 1, 2, 3, 4, 5, 6, 7, 8, 9], [0, 1, 2, 3, 4, 5, 6, 7, 8, 9, 10]] mixed (by kernel_rfl) ?_ fun R hR => ?_
     ·refine kq15 _ _ ?_
      simp only [go_sem, tl_map, Sg.get_ext, Sg.get_ext0, List.getElem?_cons_succ, List.getElem?_cons_zero, hx, blCells, blPV]
      refine W_cond rfl (fun c4 => ?_) (fun c4 => ?_)
      ·try simp only [nrm] at c4
       refine W_region [1, 2, 3, 8, 9, 26, 27, 28] fun R hR => ?_
       simp only [go_sem, tl_map, Sg.get_ext, Sg.get_ext0, List.getElem?_cons_succ, List.getElem?_cons_zero, hx, blCells, blPV]
       refine hR _ _ (kq7 _ _ ?_); clear hR R; try clear kq7 kz7
       try simp only [go_sem, tl_map, Sg.get_ext, Sg.get_ext0, List.getElem?_cons_succ, List.getElem?_cons_zero, hx, blCells, blPV]
       refine W_region [1, 2, 3, 8, 9, 26, 27, 28] fun R hR => ?_
       simp only [go_sem, tl_map, Sg.get_ext, Sg.get_ext0, List.getElem?_cons_succ, List.getElem?_cons_zero, hx, blCells, blPV]
       try simp (disch := omega) only [wrapI, wrapU]
       refine hR _ _ ?_; clear hR R
       try simp only [go_sem, tl_map, Sg.get_ext, Sg.get_ext0, List.getElem?_cons_succ, List.getElem?_cons_zero, hx, blCells, blPV]
       refine ⟨i + 1, ?_, by (try simp only []); omega, ?_⟩
       ·refine Weak.trans (Weak.cutX 4 0 (by omega) (by omega) hcl (by simp only [go_sem, CleanAll_mapV] <;> omega) (by simp only [go_sem] <;> omega)) ?_
        simp only [go_sem]
        exact Weak.eq rfl (by rw [hvs]; unfold vstep; first | (rw [c2, c4, hkey]; rfl) | (rw [c2, c4]; rfl) | (rw [c2, c5, hkey]; rfl) | (rw [c2, c5]; rfl) | (rw [c2]; rfl))
       ·try dsimp only
        exact hi'
      ·try simp only [nrm] at c4
       refine W_skip (kq7 _ _ ?_)
       refine W_region [1, 2, 3, 8, 9, 26, 27, 28] fun R hR => ?_
       simp only [go_sem, tl_map, Sg.get_ext, Sg.get_ext0, List.getElem?_cons_succ, List.getElem?_cons_zero, hx, blCells, blPV]
       try simp (disch := omega) only [wrapI, wrapU]
       refine hR _ _ ?_; clear hR R
       try simp only [go_sem, tl_map, Sg.get_ext, Sg.get_ext0, List.getElem?_cons_succ, List.getElem?_cons_zero, hx, blCells, blPV]
       refine ⟨i + 1, ?_, by (try simp only []); omega, ?_⟩
       ·refine Weak.trans (Weak.cutX 4 0 (by omega) (by omega) hcl (by simp only [go_sem, CleanAll_mapV] <;> omega) (by simp only [go_sem] <;> omega)) ?_
        simp only [go_sem]
        exact Weak.eq rfl (by rw [hvs]; unfold vstep; first | (rw [c2, c4, hkey]; rfl) | (rw [c2, c4]; rfl) | (rw [c2, c5, hkey]; rfl) | (rw [c2, c5]; rfl) | (rw [c2]; rfl))
       ·try dsimp only
        exact hi'
     ·simp only [go_sem, tl_map, Sg.get_ext, Sg.get_ext0, List.getElem?_cons_succ, List.getElem?_cons_zero, hx, blCells, blPV]
      refine GWant_split (fun g1 => ?_) (fun g1 => ?_)
      ·try simp only [Bool.not_eq_true', Bool.not_eq_false'] at g1
       have n1 := g1; try simp only [nrm] at n1
       obtain ⟨kz, hkz⟩ : ∃ z, aget (keyOf b) m = some z := Option.isSome_iff_exists.1 (by rw [hkey]; simpa using g1)
       obtain ⟨kk, o, e1, e2, e3, _⟩ := hpl _ (aget_mem hkz)
       simp only at e1
       subst e1
       have hfst : first l m b = decide (b.serial < o.serial) := by simp [first, hkz, e3]
       rw [hkey] at hkz
       have hkk0 : (0 : Int) ≤ (kk : Int) := by omega
       have hkl : (kk : Int) < (l.length : Int) := by omega
       simp only [go_sem, tl_map, Sg.get_ext, Sg.get_ext0, List.getElem?_cons_succ, List.getElem?_cons_zero, hx, blCells, blPV, hkz, e3, Option.getD_some, Int.toNat_natCast, hkk0, hkl, Option.isSome_some, Bool.not_true, Bool.not_false, g1]
       try refine And.intro (by repeat' (first | refine And.intro ?_ ?_ | exact GOr_right (fun _ => by simp only [go_sem, tl_map, Sg.get_ext, Sg.get_ext0, List.getElem?_cons_succ, List.getElem?_cons_zero, hx, blCells, blPV, hkz, e3, Option.getD_some, Int.toNat_natCast, hkk0, hkl, Option.isSome_some, Bool.not_true, Bool.not_false]))) ?_
       refine hR _ ?_
       all_goals try simp only [go_sem, tl_map, Sg.get_ext, Sg.get_ext0, List.getElem?_cons_succ, List.getElem?_cons_zero, hx, blCells, blPV, hkz, e3, Option.getD_some, Int.toNat_natCast, hkk0, hkl, Option.isSome_some, Bool.not_true, Bool.not_false]
       all_goals
        first | rfl | (rw [hfst]; done) | (rw [hfst]; rfl)
      ·try simp only [Bool.not_eq_true', Bool.not_eq_false'] at g1
       have n1 := g1; try simp only [nrm] at n1
       have hkn : aget (keyOf b) m = none := by rw [hkey]; simpa using g1
       have hfst : first l m b = true := by simp [first, hkn]
       simp only [go_sem, tl_map, Sg.get_ext, Sg.get_ext0, List.getElem?_cons_succ, List.getElem?_cons_zero, hx, blCells, blPV, g1]
       try refine And.intro (by repeat' (first | refine And.intro ?_ ?_ | exact GOr_right (fun _ => by simp only [go_sem, tl_map, Sg.get_ext, Sg.get_ext0, List.getElem?_cons_succ, List.getElem?_cons_zero, hx, blCells, blPV]))) ?_
       refine hR _ ?_
       all_goals try simp only [go_sem, tl_map, Sg.get_ext, Sg.get_ext0, List.getElem?_cons_succ, List.getElem?_cons_zero, hx, blCells, blPV]
       all_goals
        first | rfl | (rw [hfst]; done) | (rw [hfst]; rfl)
    ·try simp only [nrm] at c3
     have hkey : keyOf b = (b.kind, b.voter, b.song) := by simp [keyOf, c3]
     refine W_skip (kq12 _ _ ?_)
     refine W_seq fun kz16 kq16 => ?_
     refine W_region [1, 2, 3, 8, 9, 10, 11, 12, 13, 14, 26, 27, 28] fun R hR => ?_
     simp only [go_sem, tl_map, Sg.get_ext, Sg.get_ext0, List.getElem?_cons_succ, List.getElem?_cons_zero, hx, blCells, blPV]
     refine hR _ _ (kq16 _ _ ?_); clear hR R; try clear kq16 kz16
     try simp only [go_sem, tl_map, Sg.get_ext, Sg.get_ext0, List.getElem?_cons_succ, List.getElem?_cons_zero, hx, blCells, blPV]
     refine W_seq fun kz17 kq17 => ?_
     refine W_drawJ [1, 2, 3, 8, 9, 10, 12, 26, 27, 28, 73] [(73, .bool (first l m b))] [0, 1, 2, 3, 4, 5, 6, 7, 8, 9, 10, 11] [] [[], [0], [0, 1], [0, 1, 2], [0, 1, 2, 3], [0, 1, 2], [0, 1, 2], [0, 1, 2, 5, 6], [0, 1, 2, 5, 6, 7], [0, 1, 2, 5, 6, 7, 8], [0, 1, 2, 3, 4, 5, 6, 7, 8, 9], [0, 1, 2, 3, 4, 5, 6, 7, 8, 9, 10]] mixed (by kernel_rfl) ?_ fun R hR => ?_
     ·refine kq17 _ _ ?_
      simp only [go_sem, tl_map, Sg.get_ext, Sg.get_ext0, List.getElem?_cons_succ, List.getElem?_cons_zero, hx, blCells, blPV]
      refine W_cond rfl (fun c5 => ?_) (fun c5 => ?_)
      ·try simp only [nrm] at c5
       refine W_region [1, 2, 3, 8, 9, 26, 27, 28] fun R hR => ?_
       simp only [go_sem, tl_map, Sg.get_ext, Sg.get_ext0, List.getElem?_cons_succ, List.getElem?_cons_zero, hx, blCells, blPV]
       refine hR _ _ (kq7 _ _ ?_); clear hR R; try clear kq7 kz7
       try simp only [go_sem, tl_map, Sg.get_ext, Sg.get_ext0, List.getElem?_cons_succ, List.getElem?_cons_zero, hx, blCells, blPV]
       refine W_region [1, 2, 3, 8, 9, 26, 27, 28] fun R hR => ?_
       simp only [go_sem, tl_map, Sg.get_ext, Sg.get_ext0, List.getElem?_cons_succ, List.getElem?_cons_zero, hx, blCells, blPV]
       try simp (disch := omega) only [wrapI, wrapU]
       refine hR _ _ ?_; clear hR R
       try simp only [go_sem, tl_map, Sg.get_ext, Sg.get_ext0, List.getElem?_cons_succ, List.getElem?_cons_zero, hx, blCells, blPV]
       refine ⟨i + 1, ?_, by (try simp only []); omega, ?_⟩
       ·refine Weak.trans (Weak.cutX 4 0 (by omega) (by omega) hcl (by simp only [go_sem, CleanAll_mapV] <;> omega) (by simp only [go_sem] <;> omega)) ?_
        simp only [go_sem]
        exact Weak.eq rfl (by rw [hvs]; unfold vstep; first | (rw [c2, c4, hkey]; rfl) | (rw [c2, c4]; rfl) | (rw [c2, c5, hkey]; rfl) | (rw [c2, c5]; rfl) | (rw [c2]; rfl))
       ·try dsimp only
        exact hi'
      ·try simp only [nrm] at c5
       refine W_skip (kq7 _ _ ?_)
       refine W_region [1, 2, 3, 8, 9, 26, 27, 28] fun R hR => ?_
       simp only [go_sem, tl_map, Sg.get_ext, Sg.get_ext0, List.getElem?_cons_succ, List.getElem?_cons_zero, hx, blCells, blPV]
       try simp (disch := omega) only [wrapI, wrapU]
       refine hR _ _ ?_; clear hR R
       try simp only [go_sem, tl_map, Sg.get_ext, Sg.get_ext0, List.getElem?_cons_succ, List.getElem?_cons_zero, hx, blCells, blPV]
       refine ⟨i + 1, ?_, by (try simp only []); omega, ?_⟩
       ·refine Weak.trans (Weak.cutX 4 0 (by omega) (by omega) hcl (by simp only [go_sem, CleanAll_mapV] <;> omega) (by simp only [go_sem] <;> omega)) ?_
        simp only [go_sem]
        exact Weak.eq rfl (by rw [hvs]; unfold vstep; first | (rw [c2, c4, hkey]; rfl) | (rw [c2, c4]; rfl) | (rw [c2, c5, hkey]; rfl) | (rw [c2, c5]; rfl) | (rw [c2]; rfl))
       ·try dsimp only
        exact hi'
     ·simp only [go_sem, tl_map, Sg.get_ext, Sg.get_ext0, List.getElem?_cons_succ, List.getElem?_cons_zero, hx, blCells, blPV]
      refine GWant_split (fun g2 => ?_) (fun g2 => ?_)
      ·try simp only [Bool.not_eq_true', Bool.not_eq_false'] at g2
       have n2 := g2; try simp only [nrm] at n2
       obtain ⟨kz, hkz⟩ : ∃ z, aget (keyOf b) m = some z := Option.isSome_iff_exists.1 (by rw [hkey]; simpa using g2)
       obtain ⟨kk, o, e1, e2, e3, _⟩ := hpl _ (aget_mem hkz)
       simp only at e1
       subst e1
       have hfst : first l m b = decide (b.serial < o.serial) := by simp [first, hkz, e3]
       rw [hkey] at hkz
       have hkk0 : (0 : Int) ≤ (kk : Int) := by omega
       have hkl : (kk : Int) < (l.length : Int) := by omega
       simp only [go_sem, tl_map, Sg.get_ext, Sg.get_ext0, List.getElem?_cons_succ, List.getElem?_cons_zero, hx, blCells, blPV, hkz, e3, Option.getD_some, Int.toNat_natCast, hkk0, hkl, Option.isSome_some, Bool.not_true, Bool.not_false, g2]
       try refine And.intro (by repeat' (first | refine And.intro ?_ ?_ | exact GOr_right (fun _ => by simp only [go_sem, tl_map, Sg.get_ext, Sg.get_ext0, List.getElem?_cons_succ, List.getElem?_cons_zero, hx, blCells, blPV, hkz, e3, Option.getD_some, Int.toNat_natCast, hkk0, hkl, Option.isSome_some, Bool.not_true, Bool.not_false]))) ?_
       refine hR _ ?_
       all_goals try simp only [go_sem, tl_map, Sg.get_ext, Sg.get_ext0, List.getElem?_cons_succ, List.getElem?_cons_zero, hx, blCells, blPV, hkz, e3, Option.getD_some, Int.toNat_natCast, hkk0, hkl, Option.isSome_some, Bool.not_true, Bool.not_false]
       all_goals
        first | rfl | (rw [hfst]; done) | (rw [hfst]; rfl)
      ·try simp only [Bool.not_eq_true', Bool.not_eq_false'] at g2
       have n2 := g2; try simp only [nrm] at n2
       have hkn : aget (keyOf b) m = none := by rw [hkey]; simpa using g2
       have hfst : first l m b = true := by simp [first, hkn]
       simp only [go_sem, tl_map, Sg.get_ext, Sg.get_ext0, List.getElem?_cons_succ, List.getElem?_cons_zero, hx, blCells, blPV, g2]
       try refine And.intro (by repeat' (first | refine And.intro ?_ ?_ | exact GOr_right (fun _ => by simp only [go_sem, tl_map, Sg.get_ext, Sg.get_ext0, List.getElem?_cons_succ, List.getElem?_cons_zero, hx, blCells, blPV]))) ?_
       refine hR _ ?_
       all_goals try simp only [go_sem, tl_map, Sg.get_ext, Sg.get_ext0, List.getElem?_cons_succ, List.getElem?_cons_zero, hx, blCells, blPV]
       all_goals
        first | rfl | (rw [hfst]; done) | (rw [hfst]; rfl)
  ·simp only [go_sem, tl_map, Sg.get_ext, Sg.get_ext0, List.getElem?_cons_succ, List.getElem?_cons_zero, hx, blCells, blPV]
   refine GWant_split (fun g3 => ?_) (fun g3 => ?_)
   ·try simp only [Bool.not_eq_true', Bool.not_eq_false'] at g3
    have n3 := g3; try simp only [nrm] at n3
    simp only [go_sem, tl_map, Sg.get_ext, Sg.get_ext0, List.getElem?_cons_succ, List.getElem?_cons_zero, hx, blCells, blPV, g3]
    refine GCall_of (contains_pc Y _ songs .ro b.song (by omega)) ?_
    simp only [go_sem, tl_map, Sg.get_ext, Sg.get_ext0, List.getElem?_cons_succ, List.getElem?_cons_zero, hx, blCells, blPV, g3]
    refine hR _ ?_
    all_goals try simp only [go_sem, tl_map, Sg.get_ext, Sg.get_ext0, List.getElem?_cons_succ, List.getElem?_cons_zero, hx, blCells, blPV]
    all_goals
     first | rfl | (simp [isIn, *]; done) | (simp_all [isIn]; done)
   ·try simp only [Bool.not_eq_true', Bool.not_eq_false'] at g3
    have n3 := g3; try simp only [nrm] at n3
    simp only [go_sem, tl_map, Sg.get_ext, Sg.get_ext0, List.getElem?_cons_succ, List.getElem?_cons_zero, hx, blCells, blPV, g3]
    refine hR _ ?_
    all_goals try simp only [go_sem, tl_map, Sg.get_ext, Sg.get_ext0, List.getElem?_cons_succ, List.getElem?_cons_zero, hx, blCells, blPV]
    all_goals
     first | rfl | (simp [isIn, *]; done) | (simp_all [isIn]; done)
 ·try simp only [nrm] at c1
  have hie : i = l.length := by first | omega | (simp at c1; omega)
  subst hie
  refine W_exit ?_
  simp only [go_sem, tl_map, Sg.get_ext, Sg.get_ext0, List.getElem?_cons_succ, List.getElem?_cons_zero]
  refine kq3 _ _ ?_
  refine W_seq fun kz18 kq18 => ?_
  refine W_seq fun kz19 kq19 => ?_
  refine W_region [1, 8, 9, 81] fun R hR => ?_
  simp only [go_sem, tl_map, Sg.get_ext, Sg.get_ext0, List.getElem?_cons_succ, List.getElem?_cons_zero]
  refine hR _ _ (kq19 _ _ ?_); clear hR R; try clear kq19 kz19
  try simp only [go_sem, tl_map, Sg.get_ext, Sg.get_ext0, List.getElem?_cons_succ, List.getElem?_cons_zero]
  refine W_block ?_
  obtain ⟨M, hM⟩ : ∃ z, voices rdn songs l l.length = z := ⟨_, rfl⟩
  have hpl := voices_ok rdn songs l l.length
  have hml := voices_len rdn songs l l.length
  rw [hM] at hpl hml
  simp only [hM]
  refine W_loopT (α := (List Nat)) (fun (seen : List Nat) => []) (fun (seen : List Nat) => σ.ext [some (cnCells c), some zeroTl, some (.mark :: mapE vcPV I M), some (tlCells (σ.store.length + 2) (tlS r songs l M seen)), some [.itst (σ.store.length + 2) M.length seen]] []) (fun (seen : List Nat) => seen.Nodup ∧ ∀ j, j ∈ seen → j < M.length) (fun (seen : List Nat) => M.length - seen.length) ([]) rfl (by first | rfl | (simp only [go_sem]; done) | (simp only [go_sem]; rfl)) (⟨List.nodup_nil, fun j h => absurd h (by simp)⟩) ?_
  rintro seen ⟨hsn, hsl2⟩
  refine W_seq fun kz20 kq20 => ?_
  refine W_next [1, 8, 9, 81, 83] (os := _) rfl rfl rfl (by decide) (it_ext (j := 4) (k := 2) rfl rfl mapE_len) (fun K hR hall => ?_) (fun K hR j0 k0 u0 hj0 hns => ?_)
  ·have hsA := sumR_all (f := cpB) (l := l) (m := M) hsn hsl2 (by simpa [mapE_len] using hall)
   have hsB := sumR_all (f := cvB) (l := l) (m := M) hsn hsl2 (by simpa [mapE_len] using hall)
   have hct : countT r rdn songs l = ⟨r, songs, sumR cpB l M seen, sumR cvB l M seen, M⟩ := by unfold countT; rw [hM, hsA, hsB]
   simp only [go_sem, tl_map, Sg.get_ext, Sg.get_ext0, List.getElem?_cons_succ, List.getElem?_cons_zero]
   refine hR _ _ (kq20 _ _ ?_); clear hR K
   try simp only [go_sem, tl_map, Sg.get_ext, Sg.get_ext0, List.getElem?_cons_succ, List.getElem?_cons_zero]
   refine W_seq fun kz21 kq21 => ?_
   refine W_cond_false rfl ?_
   refine W_exit ?_
   simp only [go_sem, tl_map, Sg.get_ext, Sg.get_ext0, List.getElem?_cons_succ, List.getElem?_cons_zero]
   refine kq18 _ _ ?_
   refine W_seq fun kz22 kq22 => ?_
   refine W_region [8] fun R hR => ?_
   simp only [go_sem, tl_map, Sg.get_ext, Sg.get_ext0, List.getElem?_cons_succ, List.getElem?_cons_zero, tlCells, zeroTl]
   refine hR _ _ (kq22 _ _ ?_); clear hR R; try clear kq22 kz22
   try simp only [go_sem, tl_map, Sg.get_ext, Sg.get_ext0, List.getElem?_cons_succ, List.getElem?_cons_zero]
   refine W_weak (?_ : Weak _ _ _ _ [(8, .ptr (σ.store.length + 1) 0)] (σ.ext [some (.mark :: mapE vcPV I M), some (tlCells (σ.store.length + 0) ⟨r, songs, sumR cpB l M seen, sumR cvB l M seen, M⟩)] [])) ?_
   ·refine Weak.ren [2, 1] (by decide) (by simp) (by first | omega | (simp only [go_sem] <;> omega)) hcl (RnE.get ⟨rfl, .ptr 1 1 _ _ _ rfl rfl rfl, trivial⟩) ⟨⟨_, rfl, .inl ⟨?_, rfl⟩⟩, ⟨_, rfl, .inr ⟨by simp, rn_tl (k := 2) (i := 0) ⟨r, songs, sumR cpB l M seen, sumR cvB l M seen, M⟩ rfl⟩⟩, trivial⟩
    simp only [go_sem]
   simp only [tlCells, Nat.add_zero]
   refine W_ret ?_
   simp only [go_sem, tl_map, Sg.get_ext, Sg.get_ext0, List.getElem?_cons_succ, List.getElem?_cons_zero]
   refine ⟨.inr (by trivial), ?_⟩
   rw [hct, hM]
   refine Fin_ext (l := [_, _]) (rm := []) 1 0 hcl (by show resPV Try.prog _ _ [.cell 8 80] = some _; simp only [resPV, go_sem]; rfl) (Wk_eq ?_ (by simp only [go_sem] <;> omega)) ?_
   try simp only [go_sem]
   all_goals
    first | rfl | (show CleanLs _ _ _ _; simp only [go_sem] <;> omega)
  ·obtain ⟨e, he, rfl, rfl⟩ := mapE_get hj0
   obtain ⟨ky, kz⟩ := e
   obtain ⟨kk, o, e1, e2, e3, e4, e5⟩ := hpl _ (List.mem_of_getElem? he)
   simp only at e1 e4
   subst e1
   have hent : entB l M j0 = some o := by simp [entB, he, e3]
   have hbo := hbv o (List.mem_of_getElem? e3)
   obtain ⟨sn, hsn2⟩ : ∃ z : Nat, o.song = z := ⟨o.song.toNat, by omega⟩
   have hs8 : sn < 8 := by omega
   have hs8i : (sn : Int) < 8 := by omega
   have hs12 : decide (12 + sn ≤ 20) = true := by simp; omega
   have hs4 : decide (4 + sn ≤ 20) = true := by simp; omega
   have hsn' : (seen ++ [j0]).Nodup := by
    rw [List.nodup_append]
    exact ⟨hsn, by simp, fun x hx y hy e => hns (by simp at hy; rw [← hy, ← e]; exact hx)⟩
   have hsl' : ∀ j, j ∈ seen ++ [j0] → j < M.length := fun j hj => by
    rcases List.mem_append.1 hj with h | h
    ·exact hsl2 j h
    ·simp at h
     rw [h]
     exact (List.getElem?_eq_some_iff.1 he).1
   have hln : (seen ++ [j0]).length = seen.length + 1 := by simp
   have hjl' := nodup_len hsn' hsl'
   have hjl := nodup_len hsn hsl2
   have hbd1 : 0 ≤ (tlS r songs l M seen).vts sn ∧ (tlS r songs l M seen).vts sn ≤ 300 := by
    have := sumB_bd (f := cvB sn) (l := l) (m := M) (c := 1) (by omega) (fun b _ => by unfold cvB; split <;> omega) seen
    exact ⟨this.1, Int.le_trans this.2 (by omega)⟩
   have hbd2 : 0 ≤ (tlS r songs l M seen).pts sn ∧ (tlS r songs l M seen).pts sn ≤ 30000 := by
    have := sumB_bd (f := cpB sn) (l := l) (m := M) (c := 100) (by omega) (fun b hb => by have := hbv b hb; unfold cpB; split <;> omega) seen
    exact ⟨this.1, Int.le_trans this.2 (by omega)⟩
   have hw1 : IntKind.i64.wrap ((tlS r songs l M seen).vts sn + 1) = (tlS r songs l M seen).vts sn + 1 := wrapI (by omega) (by omega)
   have hw2 : IntKind.i64.wrap ((tlS r songs l M seen).pts sn + o.points) = (tlS r songs l M seen).pts sn + o.points := wrapI (by omega) (by omega)
   simp only [go_sem, tl_map, Sg.get_ext, Sg.get_ext0, List.getElem?_cons_succ, List.getElem?_cons_zero, e3, hsn2]
   refine hR _ _ (kq20 _ _ ?_); clear hR K
   try simp only [go_sem, tl_map, Sg.get_ext, Sg.get_ext0, List.getElem?_cons_succ, List.getElem?_cons_zero, e3, hsn2]
   refine W_seq fun kz23 kq23 => ?_
   refine W_cond_true rfl ?_
   refine W_skip (kq23 _ _ ?_)
   refine W_block ?_
   refine W_seq fun kz24 kq24 => ?_
   refine W_region [1, 8, 9, 16, 81] fun R hR => ?_
   simp only [go_sem, tl_map, Sg.get_ext, Sg.get_ext0, List.getElem?_cons_succ, List.getElem?_cons_zero, e3, hsn2, entryPV, iterAt, mapE_len, List.getLast?_concat, mapE_at he]
   refine hR _ _ (kq24 _ _ ?_); clear hR R; try clear kq24 kz24
   try simp only [go_sem, tl_map, Sg.get_ext, Sg.get_ext0, List.getElem?_cons_succ, List.getElem?_cons_zero, e3, hsn2]
   refine W_seq fun kz25 kq25 => ?_
   refine W_region [1, 8, 9, 17, 81] fun R hR => ?_
   simp only [go_sem, tl_map, Sg.get_ext, Sg.get_ext0, List.getElem?_cons_succ, List.getElem?_cons_zero, e3, hsn2]
   refine hR _ _ (kq25 _ _ ?_); clear hR R; try clear kq25 kz25
   try simp only [go_sem, tl_map, Sg.get_ext, Sg.get_ext0, List.getElem?_cons_succ, List.getElem?_cons_zero, e3, hsn2]
   refine W_seq fun kz26 kq26 => ?_
   refine W_region [1, 8, 9, 17, 81, 92] fun R hR => ?_
   simp only [go_sem, tl_map, Sg.get_ext, Sg.get_ext0, List.getElem?_cons_succ, List.getElem?_cons_zero, e3, hsn2]
   refine hR _ _ (kq26 _ _ ?_); clear hR R; try clear kq26 kz26
   try simp only [go_sem, tl_map, Sg.get_ext, Sg.get_ext0, List.getElem?_cons_succ, List.getElem?_cons_zero, e3, hsn2]
   refine W_cond rfl (fun c6 => ?_) (fun c6 => ?_)
   ·try simp only [nrm] at c6
    have hst : ({ tlS r songs l M seen with vts := upd (tlS r songs l M seen).vts sn ((tlS r songs l M seen).vts sn + 1) } : Tally) = tlS r songs l M (seen ++ [j0]) := by unfold tlS; rw [sumR_same hent (cpB_member c6), sumR_hit hent (cvB_member hsn2 c6)]
    refine W_region [1, 8, 9, 81] fun R hR => ?_
    simp only [go_sem, tl_map, Sg.get_ext, Sg.get_ext0, List.getElem?_cons_succ, List.getElem?_cons_zero, e3, hsn2, hs8i, Nat.mul_one, tl_vts hs8, hw1, tl_setV hs8, tl_len, hs12]
    try simp (disch := omega) only [wrapI, wrapU]
    refine hR _ _ ?_; clear hR R
    try simp only [go_sem, tl_map, Sg.get_ext, Sg.get_ext0, List.getElem?_cons_succ, List.getElem?_cons_zero, e3, hsn2]
    refine ⟨seen ++ [j0], ?_, by (try simp only []); omega, ?_⟩
    ·refine Weak.trans (Weak.cutX 5 0 (by omega) (by omega) hcl (by simp only [go_sem, CleanAll_mapV] <;> omega) (by simp only [go_sem] <;> omega)) ?_
     simp only [go_sem]
     exact Weak.eq rfl (by rw [hst])
    ·try dsimp only
     exact ⟨hsn', hsl'⟩
   ·try simp only [nrm] at c6
    have hst : ({ tlS r songs l M seen with pts := upd (tlS r songs l M seen).pts sn ((tlS r songs l M seen).pts sn + o.points) } : Tally) = tlS r songs l M (seen ++ [j0]) := by unfold tlS; rw [sumR_same hent (cvB_jury c6), sumR_hit hent (cpB_jury hsn2 c6)]
    refine W_draw [1, 8, 9, 81] [0, 1, 2, 3, 4, 5, 6, 7, 8, 9, 10, 11, 12] [] [[], [0], [], [2], [0, 1, 2, 3], [0, 1, 2, 3, 4], [], [6], [0, 1, 2, 3, 4, 5, 6, 7], [], [9], [0, 1, 2, 3, 4, 5, 6, 7, 8, 9, 10], [0, 1, 2, 3, 4, 5, 6, 7, 8, 9, 10, 11]] mixed (by kernel_rfl) fun R hR => ?_
    simp only [go_sem, tl_map, Sg.get_ext, Sg.get_ext0, List.getElem?_cons_succ, List.getElem?_cons_zero, e3, hsn2, hs8i, Nat.mul_one, tl_pts hs8, hw2, tl_setP hs8, tl_len, hs4]
    try simp (disch := omega) only [wrapI, wrapU]
    try refine And.intro (by repeat' (first | refine And.intro ?_ ?_ | exact GOr_right (fun _ => by simp only [go_sem, tl_map, Sg.get_ext, Sg.get_ext0, List.getElem?_cons_succ, List.getElem?_cons_zero, e3, hsn2, hs8i, Nat.mul_one, tl_pts hs8, hw2, tl_setP hs8, tl_len, hs4]))) ?_
    refine hR _ _ ?_; clear hR R
    try simp only [go_sem, tl_map, Sg.get_ext, Sg.get_ext0, List.getElem?_cons_succ, List.getElem?_cons_zero, e3, hsn2]
    refine ⟨seen ++ [j0], ?_, by (try simp only []); omega, ?_⟩
    ·refine Weak.trans (Weak.cutX 5 0 (by omega) (by omega) hcl (by simp only [go_sem, CleanAll_mapV] <;> omega) (by simp only [go_sem] <;> omega)) ?_
     simp only [go_sem]
     exact Weak.eq rfl (by rw [hst])
    ·try dsimp only
     exact ⟨hsn', hsl'⟩
end Go.Proofs.Ytnolifglhhjdnaa
