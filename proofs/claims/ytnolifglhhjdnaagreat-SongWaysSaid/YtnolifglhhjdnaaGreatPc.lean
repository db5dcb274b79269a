/-
  Regions that draw their order: the rule of the walk.
  Views: a state and what was added to it; owners forgotten; how functions usually end.
  What the operations do at a type, without the type.
  Loops that count down; ends that leave something new.
  Cleanness of what was added; folds over ranges of numbers.
  A slice without spare room gets a room; a value's owner is forgotten.
  Loops over a state of plain values; cleanness, loads of rows and variables that were there before, by simp.
  Regions whose ways meet again; sums that fit.
  The types of this seat's program, as the pure reading asks of them.
  What the operations do at this seat's types.
  The rules by which a walk is worked out.
  A variable's slice without spare room gets a room; what is read of a variable may be told otherwise.
  The owner of a slice in a variable is forgotten.
  A slice is held against nil: the answer is open where the slice is empty.
  Slices of slices: what goes in front is cut off.
  Slices that grow in place: operations without types; a variable moved to another number; a variable that is never written again.
-/
import Derived.Test.YtnolifglhhjdnaaGreatPb
import Derived.CallsIn
import Derived.RangeFuncLeaves
import Derived.RangeFuncRecord
import Derived.OrdersIn
import Derived.Below
import Derived.Laws.World
import Derived.Laws.StructEq
import Derived.Laws.Append
import Derived.MapKept
import Derived.ProofKit
import Derived.Carry
import Derived.Handed
import Derived.ChangeCalls
import Derived.RangeFuncIn
import Derived.RangeFuncNested
import Derived.Test.YtnolifglhhjdnaaGreatProg
import Derived.KernelRfl
import Derived.IntWalk
import Derived.Sort.OwnSortedInts
import Derived.Lib.SlicesCompact
import Derived.Test.YtnolifglhhjdnaaGreatRows
import Derived.Shelf.Sort.Plain
import Derived.Shelf.Slices.In.SortNone
import Derived.Shelf.Small.Bits
import Derived.JoinedOf
set_option linter.unusedSimpArgs false
set_option linter.unusedVariables false
namespace Go.Proofs.YtnolifglhhjdnaaGreat
open Go Go.RowKit
section
variable {P : Program} {Y : YEnv} {N : Nat} {rd : Option Nat} {D : List Nat} {Ψ0 : Ty} {w0 : World} {Q : Exit → Act → World → Prop} {ops : Array Oper} {is : List Nat} {plan : List (Nat × Nat)} {pre : List (List Nat)} {T : List St} {E0 Ef : Env} {σ0 σf : Sg}
def left (listed : Array Bool) (n : Nat) : Nat := ((List.range n).filter fun i => !listed.getD i false).length
theorem filter_lt {α : Type} {f g : α → Bool} : ∀ (l : List α), (∀ x, x ∈ l → g x = true → f x = true) → (∃ x, x ∈ l ∧ f x = true ∧ g x = false) → (l.filter g).length < (l.filter f).length := by
 intro l
 have le : ∀ l : List α, (∀ x, x ∈ l → g x = true → f x = true) → (l.filter g).length ≤ (l.filter f).length := by
  intro l
  induction l with
  | nil => intro _; simp
  | cons a l ih =>
   intro h
   have := ih (fun x hx => h x (List.mem_cons_of_mem _ hx))
   simp only [List.filter_cons]
   cases hg : g a with
   | false => simp only [Bool.false_eq_true, if_false]; split <;> simp <;> omega
   | true => rw [h a (List.mem_cons_self ..) hg]; simp; exact this
 induction l with
 | nil => rintro _ ⟨x, hx, _⟩; cases hx
 | cons a l ih =>
  intro h ⟨x, hx, hf, hg⟩
  have h' : ∀ x, x ∈ l → g x = true → f x = true := fun x hx => h x (List.mem_cons_of_mem _ hx)
  simp only [List.filter_cons]
  rcases List.mem_cons.1 hx with rfl | hx
  ·rw [hf, hg]
   have := le l h'
   simp
   omega
  ·have := ih h' ⟨x, hx, hf, hg⟩
   cases hga : g a with
   | false => simp only [Bool.false_eq_true, if_false]; split <;> simp <;> omega
   | true => rw [h a (List.mem_cons_self ..) hga]; simp; exact this
theorem Inv.all (H : Shown P Y N ops is plan pre T E0 Ef σ0 σf) (hy : YOK P Y Ψ0) (hQ : ∀ Ψ' a' w', Ψ0.le Ψ' → Rel N D Ψ' Ef σf a' w' → Below Ψ0.base w0 w' → Q .normal a' w') :
  ∀ (fuel : Nat) (listed : Array Bool) (p : Nat) (bl : Nat → Option (Nat × Array Value)) (Ψ : Ty) (a : Act) (w : World), left listed ops.size ≤ fuel → Inv P N D Ψ0 w0 ops is T E0 σf listed p bl Ψ a w →
   wpAnyIn (FnOf Ψ0 rd) 0 P .any ops Q fuel listed a w := by
 have fin : ∀ (listed : Array Bool) (p : Nat) (bl : Nat → Option (Nat × Array Value)) (Ψ : Ty) (a : Act) (w : World), Inv P N D Ψ0 w0 ops is T E0 σf listed p bl Ψ a w → (∀ i, i < ops.size → listed.getD i false = true) → Q .normal a w := by
  intro listed p bl Ψ a w I hall
  obtain ⟨p', Ψ', I', hfar⟩ := I.far H (ops.size - p) p Ψ (by have := I.pn; omega)
  have hp : p' = ops.size := by
   rcases hfar with e | ⟨_, s, hs, hl⟩
   ·exact e
   ·rw [hall s.i (H.ilt hs)] at hl; cases hl
  subst hp
  have h1 : goE ops (vis ops is listed ops.size) T E0 = Ef := goE_linked T E0 σ0 H.link fun s hs => by
   obtain ⟨q, hq⟩ := List.mem_iff_getElem?.1 hs
   unfold vis
   rw [hall s.i (H.ilt hq), H.idx hq]
   simp [H.lt hq]
  have h2 : st T σf ops.size = σf := by
   unfold st
   rw [List.getElem?_eq_none (by rw [H.len]; exact Nat.le_refl _)]
  have hr := I'.rel
  rw [h1, h2] at hr
  exact hQ Ψ' a w I'.le hr I'.bel
 have some_ready : ∀ (listed : Array Bool), listed.size = ops.size → Region.ready .any ops listed = [] → ∀ i, i < ops.size → listed.getD i false = true := by
  intro listed hsz hr i
  induction i using Nat.strongRecOn with
  | _ i ih =>
   intro hi
   cases hl : listed.getD i false with
   | true => rfl
   | false =>
    exfalso
    have : i ∈ Region.ready .any ops listed := by
     rw [mem_ready]
     refine ⟨?_, ops[i], by simp [hi], fun e he hb => ?_⟩
     ·have hi' : i < listed.size := by omega
      simp [hi'] at hl ⊢; exact hl
     ·have hmem : e.on ∈ dir ops i := by
       unfold dir
       simp only [Array.getElem?_eq_getElem hi, List.mem_map, List.mem_filter]
       exact ⟨e, ⟨by simpa using he, hb⟩, rfl⟩
      have := H.facts.dlt i hi _ hmem
      exact ih e.on this (by omega)
    rw [hr] at this
    cases this
 intro fuel
 induction fuel with
 | zero =>
  intro listed p bl Ψ a w hleft I
  have hall : ∀ i, i < ops.size → listed.getD i false = true := by
   intro i hi
   cases hl : listed.getD i false with
   | true => rfl
   | false =>
    have : i ∈ (List.range ops.size).filter fun i => !listed.getD i false := List.mem_filter.2 ⟨List.mem_range.2 hi, by rw [hl]; rfl⟩
    have := List.length_pos_of_mem this
    unfold left at hleft
    omega
  refine ⟨?_, fin listed p bl Ψ a w I hall⟩
  cases hr : Region.ready .any ops listed with
  | nil => rfl
  | cons i is' =>
   exfalso
   have : i ∈ Region.ready .any ops listed := by rw [hr]; simp
   obtain ⟨h0, o, ho, _⟩ := mem_ready.1 this
   have hi : i < ops.size := (Array.getElem?_eq_some_iff.1 ho).1
   have := hall i hi
   have hi' : i < listed.size := by rw [I.size]; exact hi
   simp [hi'] at h0 this
   rw [h0] at this; cases this
 | succ fuel ih =>
  intro listed p bl Ψ a w hleft I
  refine ⟨fun hr => fin listed p bl Ψ a w I (some_ready listed I.size hr), fun i hi => ?_⟩
  obtain ⟨h0, o, ho, hall⟩ := mem_ready.1 hi
  have hin : i < ops.size := (Array.getElem?_eq_some_iff.1 ho).1
  have hi' : i < listed.size := by rw [I.size]; exact hin
  have hun : listed.getD i false = false := by simp [hi'] at h0 ⊢; exact h0
  obtain ⟨q, s, hs, rfl⟩ := H.pos hin
  obtain ⟨p', Ψ', I', hfar⟩ := I.far H (ops.size - p) p Ψ (by have := I.pn; omega)
  refine I'.step H hy hfar hs hun (fun j hj => ?_) fun p2 bl2 Ψ2 a2 w2 I2 => ih _ p2 bl2 Ψ2 a2 w2 ?_ I2
  ·unfold dir at hj
   rw [ho] at hj
   simp only [List.mem_map, List.mem_filter] at hj
   obtain ⟨e, ⟨he, hb⟩, rfl⟩ := hj
   exact hall e (by simpa using he) hb
  ·have : left (listed.setIfInBounds s.i true) ops.size < left listed ops.size := by
    refine filter_lt _ (fun j _ hg => ?_) ⟨s.i, List.mem_range.2 hin, by rw [hun]; rfl, by rw [getL hi']; simp⟩
    rw [getL hi'] at hg
    split at hg
    ·cases hg
    ·exact hg
   omega
end
def undefs : List Oper → Env → Env
 | [], E => E
 | o :: os, E => match o.op with
  | .alloc _ => undefs os (E.put o.dst .undef)
  | _ => undefs os E
theorem undefs_or (d : Nat) : ∀ (os : List Oper) (E : Env), (undefs os E).get d = E.get d ∨ (undefs os E).get d = .undef := by
 intro os
 induction os with
 | nil => intro E; exact .inl rfl
 | cons o os ih =>
  intro E
  unfold undefs
  split
  ·rcases ih (E.put o.dst .undef) with h | h
   ·rw [h, get_put]
    split
    ·exact .inr rfl
    ·exact .inl rfl
   ·exact .inr h
  ·exact ih E
theorem undefs_get (d : Nat) : ∀ (os : List Oper) (E : Env), (∃ o, o ∈ os ∧ allocs o = true ∧ o.dst = some d) ∨ E.get d = .undef → (undefs os E).get d = .undef := by
 intro os
 induction os with
 | nil =>
  rintro E (⟨o, ho, _⟩ | h)
  ·cases ho
  ·exact h
 | cons o os ih =>
  intro E h
  unfold undefs
  split
  ·rename_i t ht
   refine ih _ ?_
   rcases h with ⟨o', ho', h1, h2⟩ | h
   ·rcases List.mem_cons.1 ho' with rfl | ho'
    ·exact .inr (by rw [get_put, if_pos h2])
    ·exact .inl ⟨o', ho', h1, h2⟩
   ·exact .inr (by rw [get_put]; split <;> first | rfl | exact h)
  ·rename_i hne
   refine ih _ ?_
   rcases h with ⟨o', ho', h1, h2⟩ | h
   ·rcases List.mem_cons.1 ho' with rfl | ho'
    ·exfalso
     unfold allocs at h1
     split at h1
     ·exact hne _ ‹_›
     ·cases h1
    ·exact .inl ⟨o', ho', h1, h2⟩
   ·exact .inr h
theorem ER.undefs {Ψ : Ty} {E : Env} {tmps : Array Value} (h : ER Ψ E tmps) (os : List Oper) : ER Ψ (undefs os E) tmps := fun t => by
 rcases undefs_or t os E with e | e
 ·rw [e]; exact h t
 ·rw [e]; exact .undef _
def GOr (p : Prop) [K : KB0] : Prop := p ∨ K.run
theorem GOr_true (K : KB0) : @GOr True K = True := by simp [GOr]
theorem GOr_right {p : Prop} {K : KB0} (h : K.run) : @GOr p K := .inr h
def Dem (P : Program) (ops : Array Oper) (T : List St) (σf : Sg) : List (Nat × Nat) → Prop
 | [] => True
 | (q, p) :: r => (match T[q]? with
  | none => True
  | some s => match ops[s.i]? with
   | none => True
   | some o => @GOr (st T σf p = s.σ) ⟨s.b = true → effOp P (st T σf p) s.E o.op = some (s.v, st T σf p)⟩) ∧ Dem P ops T σf r
theorem Dem.get {P : Program} {ops : Array Oper} {T : List St} {σf : Sg} {q p : Nat} : ∀ (plan : List (Nat × Nat)), Dem P ops T σf plan → (q, p) ∈ plan → ∀ s o, T[q]? = some s → ops[s.i]? = some o →
  st T σf p = s.σ ∨ (s.b = true → effOp P (st T σf p) s.E o.op = some (s.v, st T σf p)) := by
 intro plan
 induction plan with
 | nil => intro _ h; cases h
 | cons a plan ih =>
  intro h hm s o hs ho
  obtain ⟨h1, h2⟩ := h
  rcases List.mem_cons.1 hm with e | hm
  ·subst e
   simp only at h1
   rw [hs] at h1
   simp only at h1
   rw [ho] at h1
   exact h1
  ·exact ih h2 hm s o hs ho
theorem W_draw {P : Program} {Y : YEnv} {N : Nat} {rd : Option Nat} {lo : Nat × Nat} {id : Nat} {ops : Array Oper} {E : Env} {σ : Sg} {Q : Exit → Env → Sg → Prop} (ks : List Nat) (is : List Nat) (plan : List (Nat × Nat)) (pre : List (List Nat))
  (hm : P.follows .mixedOrders = true) (hc : drawOK ops is plan pre = true)
  (h : ∀ K : Env → Sg → Prop, (∀ E' σ', Q .normal (keep ks E') σ' → K E' σ') → GD P Y N ops is (undefs ops.toList E) σ [] (fun T E' σ' => Dem P ops T.reverse σ' plan ∧ K E' σ')) : W P Y N rd lo (.region id ops true) E σ Q := by
 intro Ψ0 D hb hy hrd Ψ a w le hr
 have hF := drawOK_facts ops is plan pre hc
 obtain ⟨T, Ef, σf, hl, hmap, hdem, hfin⟩ := GD_trace is (undefs ops.toList E) σ [] (h _ fun _ _ k => k)
 rw [List.append_nil, List.reverse_reverse] at hdem
 have hfresh : ∀ q d, allocsAt ops is q = true → dstAt ops is q = some d → (undefs ops.toList E).get d = .undef := by
  intro q d hal hd
  refine undefs_get d _ _ (.inl ?_)
  unfold allocsAt at hal
  unfold dstAt at hd
  cases ho : opAt ops is q with
  | none => rw [ho] at hal; cases hal
  | some o =>
   rw [ho] at hal hd
   refine ⟨o, ?_, hal, hd⟩
   unfold opAt at ho
   cases hi : is[q]? with
   | none => rw [hi] at ho; cases ho
   | some i => rw [hi] at ho; exact List.mem_of_getElem? (by rw [Array.getElem?_toList]; exact ho)
 have H : Shown P Y N ops is plan pre T (undefs ops.toList E) Ef σ σf := by
  refine ⟨hF, hl, hmap, fun q p hqp hcq s o hs ho hsb => ?_, hfresh⟩
  rcases hdem.get plan hqp s o hs ho with e | e
  ·obtain ⟨E', o', ho', _, _, _, hd⟩ := hl.at T _ _ q s hs
   rw [ho] at ho'
   injection ho' with ho'
   subst ho'
   have hoa : opAt ops is q = some o := by
    unfold opAt
    rw [← hmap]
    simp [hs, ho]
   unfold chainAt at hcq
   rw [hoa] at hcq
   simp only [Option.any_some, Bool.or_eq_false_iff] at hcq
   unfold DoneAs at hd
   rw [hsb] at hd
   simp only at hd
   rw [whom_quiet hcq.1] at hd
   simp only at hd
   have := quiet hcq.1 hcq.2 hd
   rw [this] at hd
   rw [e]
   exact hd
  ·exact e hsb
 refine wpIn_region_any hm ?_
 refine Inv.all (D := D) (w0 := w) (bl := fun _ => none) (p := 0) (Ψ := Ψ) H hy (fun Ψ' a' w' l1 l2 l3 => ⟨_, σf, Ψ', l1, l2.keep ks, l3, hfin⟩) ops.size _ _ _ ?_ ?_
 ·unfold left
  refine Nat.le_trans (List.length_filter_le _ _) (by simp)
 ·have hnone : ∀ i, (Array.replicate ops.size false).getD i false = false := fun i => by
   rw [Array.getD_eq_getD_getElem?, Array.getElem?_replicate]
   split <;> rfl
  have e1 : ∀ t, (goE ops (vis ops is (Array.replicate ops.size false) 0) T (undefs ops.toList E)).get t = (undefs ops.toList E).get t := fun t => goE_off _ _ fun s _ _ => by
   unfold vis; rw [hnone]; rfl
  have hst : st T σf 0 = σ := by
   unfold st
   cases T with
   | nil => exact hl.2.symm
   | cons s T => exact hl.2.1
  refine ⟨by simp, fun i hi => ?_, Nat.zero_le _, fun q s hq => by omega, fun q s _ _ _ => hnone _, le, ?_, fun q s _ _ _ hh => ?_, fun q q' b c c' hh => (by cases hh), fun q b c hh => (by cases hh), (Below.refl _ w).drew⟩
  ·rw [hnone] at hi; cases hi
  ·rw [hst]
   exact Rel.congr ⟨hr.size, hr.env.undefs _, hr.sg.drew, hr.dsub, hr.defs⟩ e1
  ·rw [hnone] at hh; cases hh
def Sg.ext (σ : Sg) (l : List (Option (List PV))) (rm : List Nat) (ys : List LState := []) : Sg := ⟨σ.store ++ l, σ.rooms ++ rm, σ.ys ++ ys⟩
section
variable (σ : Sg) (l l' : List (Option (List PV))) (rm rm' : List Nat) (ys ys' : List LState)
theorem Sg.ext_nil : σ.ext [] [] = σ := by simp [Sg.ext]
theorem Sg.push_ext (zs : List PV) : (σ.ext l rm ys).push zs = σ.ext (l ++ [some zs]) rm ys := by simp [Sg.push, Sg.ext]
theorem Sg.push_new (zs : List PV) : σ.push zs = σ.ext [some zs] [] := by simp [Sg.push, Sg.ext]
theorem Sg.pushRoom_ext (n : Nat) : (σ.ext l rm ys).pushRoom n = σ.ext l (rm ++ [n]) ys := by simp [Sg.pushRoom, Sg.ext]
theorem Sg.pushRoom_new (n : Nat) : σ.pushRoom n = σ.ext [] [n] := by simp [Sg.pushRoom, Sg.ext]
theorem Sg.pushY_ext : (σ.ext l rm ys).pushY = σ.ext l rm (ys ++ [.ready]) := by simp [Sg.pushY, Sg.ext]
theorem Sg.pushY_new : σ.pushY = σ.ext [] [] [.ready] := by simp [Sg.pushY, Sg.ext]
theorem Sg.ext_ext : (σ.ext l rm ys).ext l' rm' ys' = σ.ext (l ++ l') (rm ++ rm') (ys ++ ys') := by simp [Sg.ext]
theorem Sg.len_ext : (σ.ext l rm ys).store.length = σ.store.length + l.length := by simp [Sg.ext]
theorem Sg.rooms_ext : (σ.ext l rm ys).rooms.length = σ.rooms.length + rm.length := by simp [Sg.ext]
theorem Sg.ys_ext : (σ.ext l rm ys).ys.length = σ.ys.length + ys.length := by simp [Sg.ext]
theorem Sg.ysget_ext (k : Nat) : (σ.ext l rm ys).ys[σ.ys.length + k]? = ys[k]? := by
 show (σ.ys ++ ys)[σ.ys.length + k]? = _
 rw [List.getElem?_append_right (by omega)]
 simp
theorem Sg.ysget_ext0 : (σ.ext l rm ys).ys[σ.ys.length]? = ys[0]? := Sg.ysget_ext σ l rm ys 0
theorem Sg.setY_ext (k : Nat) (s : LState) : (σ.ext l rm ys).setY (σ.ys.length + k) s = σ.ext l rm (ys.set k s) := by
 simp [Sg.setY, Sg.ext, List.set_append_right]
theorem Sg.setY_ext0 (s : LState) : (σ.ext l rm ys).setY σ.ys.length s = σ.ext l rm (ys.set 0 s) := Sg.setY_ext σ l rm ys 0 s
theorem Sg.popY_ext (k : Nat) : (σ.ext l rm ys).popY (σ.ys.length + k) = σ.ext l rm (ys.take k) := by
 simp [Sg.popY, Sg.ext, List.take_append, List.take_of_length_le]
theorem Sg.popY_ext0 : (σ.ext l rm ys).popY σ.ys.length = σ.ext l rm [] := by
 have := Sg.popY_ext σ l rm ys 0
 simpa using this
theorem Sg.get_ext (k : Nat) : (σ.ext l rm ys).store[σ.store.length + k]? = l[k]? := by
 show (σ.store ++ l)[σ.store.length + k]? = _
 rw [List.getElem?_append_right (by omega)]
 simp
theorem Sg.get_ext0 : (σ.ext l rm ys).store[σ.store.length]? = l[0]? := Sg.get_ext σ l rm ys 0
variable {σ l rm ys}
variable (σ l rm ys)
theorem Sg.room_ext (k : Nat) : (σ.ext l rm ys).rooms[σ.rooms.length + k]? = rm[k]? := by
 show (σ.rooms ++ rm)[σ.rooms.length + k]? = _
 rw [List.getElem?_append_right (by omega)]
 simp
theorem Sg.room_ext0 : (σ.ext l rm ys).rooms[σ.rooms.length]? = rm[0]? := Sg.room_ext σ l rm ys 0
theorem Sg.set_ext (k : Nat) (cs : List PV) : (σ.ext l rm ys).setVar (σ.store.length + k) cs = σ.ext (l.set k (some cs)) rm ys := by
 simp [Sg.setVar, Sg.ext, List.set_append_right]
theorem Sg.set_ext0 (cs : List PV) : (σ.ext l rm ys).setVar σ.store.length cs = σ.ext (l.set 0 (some cs)) rm ys := Sg.set_ext σ l rm ys 0 cs
theorem Sg.setRoom_ext (k n : Nat) : (σ.ext l rm ys).setRoom (σ.rooms.length + k) n = σ.ext l (rm.set k n) ys := by
 simp [Sg.setRoom, Sg.ext, List.set_append_right]
theorem Sg.setRoom_ext0 (n : Nat) : (σ.ext l rm ys).setRoom σ.rooms.length n = σ.ext l (rm.set 0 n) ys := Sg.setRoom_ext σ l rm ys 0 n
variable {σ l rm ys}
variable (σ l rm ys)
theorem Sg.cut_ext (k : Nat) (j : Nat) : (σ.ext l rm).cut (σ.store.length + k) (σ.rooms.length + j) σ.ys.length = σ.ext (l.take k) (rm.take j) := by
 simp [Sg.cut, Sg.ext, List.take_append, List.take_of_length_le]
theorem Sg.cut_ext0 : (σ.ext l rm).cut σ.store.length σ.rooms.length σ.ys.length = σ := by
 simp [Sg.cut, Sg.ext]
theorem Sg.cut_exty (k : Nat) (j m : Nat) : (σ.ext l rm ys).cut (σ.store.length + k) (σ.rooms.length + j) (σ.ys.length + m) = σ.ext (l.take k) (rm.take j) (ys.take m) := by
 simp [Sg.cut, Sg.ext, List.take_append, List.take_of_length_le]
end
theorem Clean.mono {a b c a' b' c' : Nat} (h1 : a ≤ a') (h2 : b ≤ b') (h3 : c ≤ c') {p : PV} (h : Clean a b c p) : Clean a' b' c' p := by
 induction h with
 | undef => exact .undef
 | bool b => exact .bool b
 | int k n => exact .int k n
 | str s => exact .str s
 | nilptr => exact .nilptr
 | ptr id off h => exact .ptr id off (by omega)
 | eptr es elems i off _ ih => exact .eptr es elems i off ih
 | nilsl => exact .nilsl
 | isl elems own _ ho ih => exact .isl elems own ih fun r n es e => by have := ho r n es e; omega
 | msl id off len h => exact .msl id off len (by omega)
 | agg cs _ ih => exact .agg cs ih
 | tuple cs _ ih => exact .tuple cs ih
 | func fn fs cs _ _ ih ih' => exact .func fn fs cs ih ih'
 | yield y h => exact .yield y (by omega)
 | nilfunc => exact .nilfunc
 | niliface => exact .niliface
 | iface t p _ ih => exact .iface t p ih
 | mapv id h => exact .mapv id (by omega)
 | nilmap => exact .nilmap
 | iter id h => exact .iter id (by omega)
 | itst mid n seen h => exact .itst mid n seen (by omega)
 | gsl id len es h => exact .gsl id len es (by omega)
 | gnil => exact .gnil
 | mark => exact .mark
mutual
def PV.ro : PV → PV
 | .eptr es elems i off => .eptr es (PV.roL elems) i off
 | .isl elems _ => .isl (PV.roL elems) .ro
 | .agg cs => .agg (PV.roL cs)
 | .tuple cs => .tuple (PV.roL cs)
 | .func fn a b => .func fn (PV.roL a) (PV.roL b)
 | .iface t p => .iface t (PV.ro p)
 | p => p
def PV.roL : List PV → List PV
 | [] => []
 | p :: ps => PV.ro p :: PV.roL ps
end
theorem PV.roL_map : ∀ l : List PV, PV.roL l = l.map PV.ro := by
 intro l
 induction l with
 | nil => rfl
 | cons p ps ih => simp only [PV.roL, List.map_cons, ih]
theorem PV.ro_cells (p : PV) : p.ro.cells = p.cells.map PV.ro := by
 cases p <;> simp only [PV.ro, PV.cells, PV.roL_map, List.map_cons, List.map_nil]
theorem VR.ro {Ψ : Ty} {p : PV} {x : Value} (h : VR Ψ p x) : VR Ψ p.ro x := by
 have row : ∀ {elems : List PV} {es : Nat}, (∀ (k : Nat) (e : PV), elems[k]? = some e → e.cells.length = es) → ∀ (k : Nat) (e : PV), (elems.map PV.ro)[k]? = some e → e.cells.length = es := by
  intro elems es h k e he
  simp only [List.getElem?_map, Option.map_eq_some_iff] at he
  obtain ⟨e', he', rfl⟩ := he
  rw [PV.ro_cells, List.length_map]
  exact h k e' he'
 have each : ∀ {elems : List PV} {Pr : Nat → Nat → PV → Prop} {Pr' : Nat → Nat → PV → Prop}, (∀ (k : Nat) (e : PV) (j : Nat) (p : PV), elems[k]? = some e → e.cells[j]? = some p → Pr k j p) →
   (∀ k j p, Pr k j p → Pr' k j p.ro) → ∀ (k : Nat) (e : PV) (j : Nat) (p : PV), (elems.map PV.ro)[k]? = some e → e.cells[j]? = some p → Pr' k j p := by
  intro elems Pr Pr' h hh k e j p he hp
  simp only [List.getElem?_map, Option.map_eq_some_iff] at he
  obtain ⟨e', he', rfl⟩ := he
  rw [PV.ro_cells] at hp
  simp only [List.getElem?_map, Option.map_eq_some_iff] at hp
  obtain ⟨p', hp', rfl⟩ := hp
  exact hh k j p' (h k e' j p' he' hp')
 have each1 : ∀ {cs : List PV} {xs : Array Value}, (∀ (j : Nat) (p : PV) (v : Value), cs[j]? = some p → xs[j]? = some v → VR Ψ p.ro v) → ∀ (j : Nat) (p : PV) (v : Value), (cs.map PV.ro)[j]? = some p → xs[j]? = some v → VR Ψ p v := by
  intro cs xs h j p v hp hv
  simp only [List.getElem?_map, Option.map_eq_some_iff] at hp
  obtain ⟨p', hp', rfl⟩ := hp
  exact h j p' v hp' hv
 induction h with
 | undef x => exact .undef x
 | bool b => exact .bool b
 | int k n => exact .int k n
 | str s => exact .str s
 | nilptr => exact .nilptr
 | ptr id off b hb hz => exact .ptr id off b hb hz
 | eptr es elems i off b o vals hs h1 h2 ih =>
  simp only [PV.ro, PV.roL_map]
  exact .eptr es _ i off b o vals (row hs) (each (Pr := fun k j _ => Ψ.imm b (o + k * es + j) = some (vals k j)) (Pr' := fun k j _ => Ψ.imm b (o + k * es + j) = some (vals k j)) h1 fun _ _ _ h => h)
   (each (Pr := fun k j p => VR Ψ p.ro (vals k j)) (Pr' := fun k j p => VR Ψ p (vals k j)) ih fun _ _ _ h => h)
 | nilsl => exact .nilsl
 | islnil own a h => exact .islnil .ro a trivial
 | isl es elems own b o cap vals hs h1 h2 hc ho ih =>
  simp only [PV.ro, PV.roL_map]
  have := VR.isl (Ψ := Ψ) es (elems.map PV.ro) .ro b o cap vals (row hs) (each (Pr := fun k j _ => Ψ.imm b (o + k * es + j) = some (vals k j)) (Pr' := fun k j _ => Ψ.imm b (o + k * es + j) = some (vals k j)) h1 fun _ _ _ h => h)
   (each (Pr := fun k j p => VR Ψ p.ro (vals k j)) (Pr' := fun k j p => VR Ψ p (vals k j)) ih fun _ _ _ h => h) (by simpa using hc) trivial
  rw [List.length_map] at this
  exact this
 | msl id off len b cap h hz hc => exact .msl id off len b cap h hz hc
 | agg cs vs hl h ih => simp only [PV.ro, PV.roL_map]; exact .agg _ _ (by simpa using hl) (each1 ih)
 | tuple cs vs hl h ih => simp only [PV.ro, PV.roL_map]; exact .tuple _ _ (by simpa using hl) (each1 ih)
 | func fn fs cs xs ys hl hl' h h' ih ih' => simp only [PV.ro, PV.roL_map]; exact .func fn _ _ _ _ (by simpa using hl) (by simpa using hl') (each1 ih) (each1 ih')
 | yield y l d h => exact .yield y l d h
 | nilfunc => exact .nilfunc
 | niliface => exact .niliface
 | iface t p x h ih => exact .iface t _ x ih
 | map id b h => exact .map id b h
 | nilmap => exact .nilmap
 | iter id b h => exact .iter id b h
 | gsl id len es b cap h hz h0 hc => exact .gsl id len es b cap h hz h0 hc
 | gnil a => exact .gnil a
theorem Fin_same {P : Program} {fn : Func} {σ : Sg} {l : List (Option (List PV))} {rm : List Nat} {E : Env} {rs : List PV} {v : PV} (hcl : CleanSg σ) (hr : resPV P (σ.ext l rm) E fn.results.toList = some rs)
  (hv : Wk σ.store.length σ.rooms.length σ.ys.length (oneOr rs) v) : Fin P fn σ v σ E (σ.ext l rm) := by
 refine ⟨rs, _, _, hr, Nat.le_refl _, Nat.le_refl _, hv, (Sg.cut_ext0 σ l rm).symm, fun id cs hid hc p hp => ?_, by simp [Sg.ext]⟩
 have hc' : (σ.store ++ l)[id]? = some (some cs) := hc
 rw [List.getElem?_append_left hid] at hc'
 exact hcl id cs hid hc' p hp
theorem Fin_self {P : Program} {fn : Func} {σ : Sg} {E : Env} {rs : List PV} {v : PV} (hcl : CleanSg σ) (hr : resPV P σ E fn.results.toList = some rs)
  (hv : Wk σ.store.length σ.rooms.length σ.ys.length (oneOr rs) v) : Fin P fn σ v σ E σ := by
 have := Fin_same (l := []) (rm := []) hcl (by rw [Sg.ext_nil]; exact hr) hv
 rw [Sg.ext_nil] at this
 exact this
theorem Wk.ro {nβ nr ny : Nat} {p q : PV} (h : Clean nβ nr ny q) (e : p.ro = q) : Wk nβ nr ny p q := fun Ψ x k => by
 subst e
 exact k.ro.trim h
def ldS (σ : Sg) (id off : Nat) : Option PV :=
 match σ.store[id]? with
 | some (some cs) => cs[off]?
 | _ => none
def ldA (k : Nat) (σ : Sg) (id off : Nat) : Option PV :=
 match σ.store[id]? with
 | some (some cs) => if off + k ≤ cs.length then some (.agg ((cs.drop off).take k)) else none
 | _ => none
def elS (l : List PV) (i off : Nat) : Option PV :=
 match l[i]? with
 | some e => e.cells[off]?
 | none => none
def elA (k : Nat) (l : List PV) (i off : Nat) : Option PV :=
 match l[i]? with
 | some e => if off + k ≤ e.cells.length then some (.agg ((e.cells.drop off).take k)) else none
 | none => none
def stX (k : Nat) (σ : Sg) (id off : Nat) (p : PV) : Option Sg :=
 match σ.store[id]? with
 | some (some cs) => if defd p && p.cells.all PV.scalar && (p.cells.length == k) && decide (off + p.cells.length ≤ cs.length) then some (σ.setVar id (putCells cs off p.cells)) else none
 | _ => none
def iaX (c : Nat) (l : List PV) (i : Int) : Option PV :=
  if 0 ≤ i ∧ i < (l.length : Int) then
    (match l[i.toNat]? with
     | some el => if el.cells.length = c then some (.eptr c l i.toNat 0) else none
     | none => none) else none
def iaM (c id off len : Nat) (i : Int) : Option PV := if 0 ≤ i ∧ i < (len : Int) then some (.ptr id (off + i.toNat * c)) else none
def bsX (c len : Nat) (parts : List (Nat × PV)) : Option PV :=
 if (parts.map (·.1) == List.range len) && parts.all (fun p => defd p.2 && (p.2.cells.length == c)) && decide (len * c ≤ 2 ^ 24) then some (.isl (parts.map (·.2)) .exact) else none
def appX (c b : Nat) (σ : Sg) (l : List PV) (own : Own) (m : List PV) : Option (PV × Sg) :=
  if m.all (fun q => (q.cells.length == c) && q.cells.all PV.scalar) && decide ((l.length + m.length) * b ≤ 2 ^ 47) then
    (match own with
     | .ro => none
     | .exact => if l.all (fun q => q.cells.length == c) then some (.isl (l ++ m) (.tok σ.rooms.length (l.length + m.length) c), σ.pushRoom (l.length + m.length)) else none
     | .tok r n es => if es = c ∧ σ.rooms[r]? = some n then some (.isl (l ++ m) (.tok r (n + m.length) es), σ.setRoom r (n + m.length)) else none)
  else none
def bldX (zs : List PV) (ps : List (Nat × Nat)) (parts : List (Nat × PV)) : Option PV :=
 if parts.all (fun p => defd p.2) then (fillPV (fun i => ps[i]?) zs parts).map .agg else none
section
variable {P : Program} {t e : TypeId} {d : TypeDesc} {k c b : Nat} {σ : Sg} {id off : Nat} {l m : List PV} {own own' : Own} {es i : Nat}
theorem ldS_of (h : P.underlying t = some d) (ha : isAggD d = false) : loadPV P σ t (.ptr id off) = ldS σ id off := by simp [loadPV, h, partPV, ha, ldS]; rfl
theorem ldA_of (h : P.underlying t = some d) (ha : isAggD d = true) (hc : P.cellsOf t = k) : loadPV P σ t (.ptr id off) = ldA k σ id off := by simp [loadPV, h, partPV, ha, hc, ldA]; rfl
theorem elS_of (h : P.underlying t = some d) (ha : isAggD d = false) : loadPV P σ t (.eptr es l i off) = elS l i off := by simp [loadPV, h, partPV, ha, elS]; rfl
theorem elA_of (h : P.underlying t = some d) (ha : isAggD d = true) (hc : P.cellsOf t = k) : loadPV P σ t (.eptr es l i off) = elA k l i off := by simp [loadPV, h, partPV, ha, hc, elA]; rfl
theorem stX_of (h : P.underlying t = some d) (hc : P.cellsOf t = k) (p : PV) : storePV P σ t (.ptr id off) p = stX k σ id off p := by simp [storePV, h, hc, stX]; rfl
theorem iaX_of (h : P.underlying t = some (.slice e)) (he : P.underlying e = some d) (hc : P.cellsOf e = c) (kd : IntKind) (n : Int) : indexAddrPV P t (.isl l own) (.int kd n) = iaX c l n := by
 unfold indexAddrPV iaX
 rw [h]
 simp only [he, hc]
 split
 ·cases l[n.toNat]? <;> rfl
 ·rfl
theorem iaM_of (h : P.underlying t = some (.slice e)) (he : P.underlying e = some d) (hc : P.cellsOf e = c) (kd : IntKind) (len : Nat) (n : Int) : indexAddrPV P t (.msl id off len) (.int kd n) = iaM c id off len n := by
 simp [indexAddrPV, h, he, hc, iaM]
theorem iaA_of {len : Nat} (h : P.underlying t = some (.array len e)) (he : P.underlying e = some d) (hc : P.cellsOf e = c) (kd : IntKind) (n : Int) : indexAddrPV P t (.ptr id off) (.int kd n) = iaM c id off len n := by
 simp [indexAddrPV, h, he, hc, iaM]
theorem len_of (h : P.underlying t = some (.slice e)) : lenPV P t (.isl l own) = some (.int .i64 l.length) := by simp [lenPV, h]
theorem lenM_of (h : P.underlying t = some (.slice e)) (n : Nat) : lenPV P t (.msl id off n) = some (.int .i64 n) := by simp [lenPV, h]
theorem bsX_of {zs : List PV} (h : P.underlying t = some (.slice e)) (he : P.underlying e = some d) (hc : P.cellsOf e = c) (hz : zeroPV P e = some zs) (len : Nat) (parts : List (Nat × PV)) : buildSlicePV P t len parts = bsX c len parts := by
 unfold buildSlicePV bsX
 rw [h]
 simp only [he, hc, hz, Option.isSome_some, Bool.true_and, Bool.and_true]
theorem appX_of {zs : List PV} (h : P.underlying t = some (.slice e)) (he : P.underlying e = some d) (hc : P.cellsOf e = c) (hb : P.bytesOf e = b) (hb0 : b ≠ 0) (hc0 : 0 < c) (hz : zeroPV P e = some zs) (hzl : zs.length = c) :
  appendPV P σ t t (.isl l own) (.isl m own') = appX c b σ l own m := by
 unfold appendPV appX
 rw [h]
 simp only [he, hc, hb, hz, hzl, Option.isSome_some, Bool.true_and, Option.map_some, BEq.rfl, Bool.and_true, hb0, hc0, ne_eq, not_false_eq_true, and_self, decide_true]
 rfl
theorem bldX_of {zs : List PV} {fs : Array Field} {ps : List (Nat × Nat)} (hz : zeroPV P t = some zs) (h : P.underlying t = some (.struct fs)) (hf : fs.toList.all (fun f => (P.underlying f.type).isSome) = true) (hp : structPlaces P fs.toList = ps) (parts : List (Nat × PV)) :
  buildPV P t parts = bldX zs ps parts := by
 unfold buildPV
 rw [hz, h]
 simp only [hf, hp, bldX, Bool.true_and]
theorem fa_of {fs : Array Field} {f : Nat} {fl : Field} (h : P.underlying t = some (.struct fs)) (hf : fs[f]? = some fl) (hd : P.underlying fl.type = some d) (hc : P.cellsOf fl.type = c) (hc0 : c ≠ 0) (ho : fl.offset = k) :
  fieldAddrPV P t (.ptr id off) f = some (.ptr id (off + k)) ∧ fieldAddrPV P t (.eptr es l i off) f = some (.eptr es l i (off + k)) := by
 simp [fieldAddrPV, fieldOf, h, hf, hd, hc, hc0, ho]
theorem fa1_of {fs : Array Field} {f : Nat} {fl : Field} (h : P.underlying t = some (.struct fs)) (hf : fs[f]? = some fl) (hd : P.underlying fl.type = some d) (hc : P.cellsOf fl.type = c) (hc0 : (c == 0) = false) (ho : fl.offset = k) :
  fieldAddrPV P t (.ptr id off) f = some (.ptr id (off + k)) := (fa_of (es := 0) (l := []) (i := 0) h hf hd hc (by simpa using hc0) ho).1
theorem fa2_of {fs : Array Field} {f : Nat} {fl : Field} (h : P.underlying t = some (.struct fs)) (hf : fs[f]? = some fl) (hd : P.underlying fl.type = some d) (hc : P.cellsOf fl.type = c) (hc0 : (c == 0) = false) (ho : fl.offset = k) :
  fieldAddrPV P t (.eptr es l i off) f = some (.eptr es l i (off + k)) := (fa_of (id := 0) h hf hd hc (by simpa using hc0) ho).2
theorem fpS_of {fs : Array Field} {f : Nat} {fl : Field} (h : P.underlying t = some (.struct fs)) (hf : fs[f]? = some fl) (hd : P.underlying fl.type = some d) (ha : isAggD d = false) (ho : fl.offset = k) (cs : List PV) :
  fieldPV P t (.agg cs) f = cs[k]? := by
 simp [fieldPV, fieldOf, h, hf, hd, ho, partPV, ha]
theorem fpA_of {fs : Array Field} {f : Nat} {fl : Field} (h : P.underlying t = some (.struct fs)) (hf : fs[f]? = some fl) (hd : P.underlying fl.type = some d) (ha : isAggD d = true) (hc : P.cellsOf fl.type = c) (ho : fl.offset = k) (cs : List PV) :
  fieldPV P t (.agg cs) f = if k + c ≤ cs.length then some (.agg ((cs.drop k).take c)) else none := by
 simp [fieldPV, fieldOf, h, hf, hd, hc, ho, partPV, ha]
end
abbrev I (n : Int) : PV := .int .i64 n
abbrev ints (xs : List Int) : PV := .isl (xs.map I) .ro
theorem ldS_at {σ : Sg} {id off : Nat} {cs : List PV} (h : σ.store[id]? = some (some cs)) : ldS σ id off = cs[off]? := by simp [ldS, h]
theorem ldA_at {k : Nat} {σ : Sg} {id off : Nat} {cs : List PV} (h : σ.store[id]? = some (some cs)) : ldA k σ id off = if off + k ≤ cs.length then some (.agg ((cs.drop off).take k)) else none := by simp [ldA, h]
theorem stX_at {k : Nat} {σ : Sg} {id off : Nat} {cs : List PV} (h : σ.store[id]? = some (some cs)) (p : PV) :
  stX k σ id off p = if defd p && p.cells.all PV.scalar && (p.cells.length == k) && decide (off + p.cells.length ≤ cs.length) then some (σ.setVar id (putCells cs off p.cells)) else none := by simp [stX, h]
section ext
variable (σ : Sg) (l : List (Option (List PV))) (rm : List Nat) (ys : List LState) (j : Nat)
theorem ldS_ext (off : Nat) : ldS (σ.ext l rm ys) (σ.store.length + j) off = match l[j]? with | some (some cs) => cs[off]? | _ => none := by simp only [ldS, Sg.get_ext]
theorem ldS_ext0 (off : Nat) : ldS (σ.ext l rm ys) σ.store.length off = match l[0]? with | some (some cs) => cs[off]? | _ => none := by simp only [ldS, Sg.get_ext0]
theorem ldA_ext (k off : Nat) : ldA k (σ.ext l rm ys) (σ.store.length + j) off = match l[j]? with | some (some cs) => if off + k ≤ cs.length then some (.agg ((cs.drop off).take k)) else none | _ => none := by simp only [ldA, Sg.get_ext]
theorem ldA_ext0 (k off : Nat) : ldA k (σ.ext l rm ys) σ.store.length off = match l[0]? with | some (some cs) => if off + k ≤ cs.length then some (.agg ((cs.drop off).take k)) else none | _ => none := by simp only [ldA, Sg.get_ext0]
theorem stX_ext (k off : Nat) (p : PV) : stX k (σ.ext l rm ys) (σ.store.length + j) off p = match l[j]? with
  | some (some cs) => if defd p && p.cells.all PV.scalar && (p.cells.length == k) && decide (off + p.cells.length ≤ cs.length) then some (σ.ext (l.set j (some (putCells cs off p.cells))) rm ys) else none
  | _ => none := by
 simp only [stX, Sg.get_ext, Sg.set_ext]
theorem stX_ext0 (k off : Nat) (p : PV) : stX k (σ.ext l rm ys) σ.store.length off p = match l[0]? with
  | some (some cs) => if defd p && p.cells.all PV.scalar && (p.cells.length == k) && decide (off + p.cells.length ≤ cs.length) then some (σ.ext (l.set 0 (some (putCells cs off p.cells))) rm ys) else none
  | _ => none := by
 simp only [stX, Sg.get_ext0, Sg.set_ext0]
 rfl
end ext
theorem least (p : Nat → Prop) (h : ∃ n, p n) : ∃ n, p n ∧ ∀ m, p m → n ≤ m := by
 obtain ⟨n, hn⟩ := h
 induction n using Nat.strongRecOn with
 | _ n ih =>
  by_cases h : ∃ m, m < n ∧ p m
  ·obtain ⟨m, hm, hp⟩ := h
   exact ih m hm hp
  ·exact ⟨n, hn, fun m hm => Nat.le_of_not_lt fun hlt => h ⟨m, hlt, hm⟩⟩
section
variable {P : Program} {Y : YEnv} {N : Nat} {rd : Option Nat} {lo : Nat × Nat} {E : Env} {σ : Sg} {Q : Exit → Env → Sg → Prop}
open Classical in
theorem W_loopK {c : Code} (I : Nat → Env → Sg → Prop) (k : Nat) (h0 : I k E σ)
  (round : ∀ k E σ, I k E σ → W P Y N rd lo c E σ (Seq (fun E' σ' => ∃ k', k' < k ∧ I k' E' σ') Q)) : W P Y N rd lo (.loop c) E σ Q := by
 refine W_loop (fun E σ => ∃ k, I k E σ) (fun E σ => if h : ∃ k, I k E σ then Classical.choose (least (fun k => I k E σ) h) else 0) ⟨k, h0⟩ fun E σ h => ?_
 refine W_mono (round _ E σ (Classical.choose_spec (least (fun k => I k E σ) h)).1) fun ex E' σ' hq => ?_
 cases ex with
 | normal =>
  obtain ⟨k', hk, hI⟩ := hq
  have h' : ∃ k, I k E' σ' := ⟨k', hI⟩
  refine ⟨h', ?_⟩
  rw [dif_pos h', dif_pos h]
  exact Nat.lt_of_le_of_lt ((Classical.choose_spec (least (fun k => I k E' σ') h')).2 k' hI) hk
 | _ => exact hq
end
theorem Clean.all_nil {a b c : Nat} : ∀ p, p ∈ ([] : List PV) → Clean a b c p := fun p h => by cases h
theorem Clean.all_cons {a b c : Nat} {q : PV} {l : List PV} (h : Clean a b c q) (k : ∀ p, p ∈ l → Clean a b c p) : ∀ p, p ∈ q :: l → Clean a b c p := fun p hp => by
 rcases List.mem_cons.1 hp with rfl | hp
 ·exact h
 ·exact k p hp
theorem Clean.ints {a b c : Nat} (xs : List Int) (o : Own) (ho : ∀ r n es, o = .tok r n es → r < b) : Clean a b c (.isl (xs.map I) o) :=
 .isl _ _ (fun e he => by obtain ⟨n, _, rfl⟩ := List.mem_map.1 he; exact .int _ _) ho
theorem Fin_ext {P : Program} {fn : Func} {σ : Sg} {l : List (Option (List PV))} {rm : List Nat} {E : Env} {rs : List PV} {v : PV} (k j : Nat) (hcl : CleanSg σ)
  (hr : resPV P (σ.ext l rm) E fn.results.toList = some rs)
  (hv : Wk (σ.store.length + k) (σ.rooms.length + j) σ.ys.length (oneOr rs) v)
  (hc : ∀ cs, some cs ∈ l.take k → ∀ p, p ∈ cs → Clean (σ.store.length + k) (σ.rooms.length + j) σ.ys.length p) : Fin P fn σ v (σ.ext (l.take k) (rm.take j)) E (σ.ext l rm) := by
 refine ⟨rs, _, _, hr, Nat.le_add_right _ _, Nat.le_add_right _ _, hv, (Sg.cut_ext σ l rm k j).symm, fun id cs hid hcs p hp => ?_, by simp [Sg.ext]⟩
 have hcs' : (σ.store ++ l)[id]? = some (some cs) := hcs
 by_cases h : id < σ.store.length
 ·rw [List.getElem?_append_left h] at hcs'
  exact (hcl id cs h hcs' p hp).mono (Nat.le_add_right _ _) (Nat.le_add_right _ _) (Nat.le_refl _)
 ·rw [List.getElem?_append_right (by omega)] at hcs'
  refine hc cs ?_ p hp
  refine List.mem_of_getElem? (i := id - σ.store.length) ?_
  rw [List.getElem?_take_of_lt (by omega)]
  exact hcs'
theorem CleanCut_ext {σ : Sg} {l : List (Option (List PV))} {rm : List Nat} {ys : List LState} {nb nr ny : Nat} (hcl : CleanSg σ) (hb : σ.store.length ≤ nb) (hr : σ.rooms.length ≤ nr) (hy : σ.ys.length ≤ ny)
  (h : ∀ cs, some cs ∈ l → ∀ p, p ∈ cs → Clean nb nr ny p) : CleanCut (σ.ext l rm ys) nb nr ny := by
 intro id cs _ hcs p hp
 have hcs' : (σ.store ++ l)[id]? = some (some cs) := hcs
 by_cases hid : id < σ.store.length
 ·rw [List.getElem?_append_left hid] at hcs'
  exact (hcl id cs hid hcs' p hp).mono hb hr hy
 ·rw [List.getElem?_append_right (by omega)] at hcs'
  exact h cs (List.mem_of_getElem? hcs') p hp
theorem CleanSg_ext {σ : Sg} {l : List (Option (List PV))} {rm : List Nat} {ys : List LState} (hcl : CleanSg σ) (h : ∀ cs, some cs ∈ l → ∀ p, p ∈ cs → Clean (σ.store.length + l.length) (σ.rooms.length + rm.length) (σ.ys.length + ys.length) p) :
  CleanSg (σ.ext l rm ys) := by
 unfold CleanSg
 rw [Sg.len_ext, Sg.rooms_ext, Sg.ys_ext]
 exact CleanCut_ext hcl (Nat.le_add_right _ _) (Nat.le_add_right _ _) (Nat.le_add_right _ _) h
theorem CleanL_nil {a b c : Nat} : ∀ cs, some cs ∈ ([] : List (Option (List PV))) → ∀ p, p ∈ cs → Clean a b c p := fun cs h => by cases h
theorem CleanL_cons {a b c : Nat} {ds : List PV} {l : List (Option (List PV))} (h : ∀ p, p ∈ ds → Clean a b c p) (k : ∀ cs, some cs ∈ l → ∀ p, p ∈ cs → Clean a b c p) : ∀ cs, some cs ∈ some ds :: l → ∀ p, p ∈ cs → Clean a b c p := by
 intro cs hcs
 rcases List.mem_cons.1 hcs with e | e
 ·injection e with e; subst e; exact h
 ·exact k cs e
theorem Weak.cutExt {N : Nat} {lo : Nat × Nat} {E E' : Env} {σ : Sg} {l : List (Option (List PV))} {rm : List Nat} {ys : List LState} (k j : Nat) (h1 : lo.1 ≤ σ.store.length + k) (h2 : lo.2 ≤ σ.rooms.length + j) (hcl : CleanSg σ)
  (hc : ∀ cs, some cs ∈ l.take k → ∀ p, p ∈ cs → Clean (σ.store.length + k) (σ.rooms.length + j) (σ.ys.length + ys.length) p)
  (hE : ∀ t, Wk (σ.store.length + k) (σ.rooms.length + j) (σ.ys.length + ys.length) (E.get t) (E'.get t)) : Weak N lo E (σ.ext l rm ys) E' (σ.ext (l.take k) (rm.take j) ys) := by
 have := Weak.cut (N := N) (lo := lo) (E := E) (E' := E') (σ := σ.ext l rm ys) (σ.store.length + k) (σ.rooms.length + j) h1 h2 (by rw [Sg.ys_ext]; exact hE) (by
  rw [Sg.ys_ext]
  intro id cs hid hcs p hp
  have hcs' : (σ.store ++ l)[id]? = some (some cs) := hcs
  by_cases h : id < σ.store.length
  ·rw [List.getElem?_append_left h] at hcs'
   exact (hcl id cs h hcs' p hp).mono (Nat.le_add_right _ _) (Nat.le_add_right _ _) (Nat.le_add_right _ _)
  ·rw [List.getElem?_append_right (by omega)] at hcs'
   refine hc cs ?_ p hp
   refine List.mem_of_getElem? (i := id - σ.store.length) ?_
   rw [List.getElem?_take_of_lt (by omega)]
   exact hcs')
 rw [Sg.ys_ext, Sg.cut_exty, List.take_length] at this
 exact this
theorem Weak.room {N : Nat} {lo : Nat × Nat} {E : Env} {σ : Sg} {t es : Nat} {l : List PV} (ht : E.get t = .isl l .exact) (hes : ∀ q, q ∈ l → q.cells.length = es) :
  Weak N lo E σ ((t, .isl l (.tok σ.rooms.length l.length es)) :: E) (σ.pushRoom l.length) := by
 intro Ψ0 Ψ D a w hb le hr
 have hv := hr.env t
 rw [ht] at hv
 have fin : ∀ x : Option (Nat × Nat × Nat × Nat), (∀ b e c s, x = some (b, e, c, s) → ¬ e < c) → (∀ Ψ', Ψ.le Ψ' → Ψ'.hist σ.rooms.length l.length = some x → VR Ψ' (.isl l (.tok σ.rooms.length l.length es)) (a.tmps.getD t undef)) →
   ∃ Ψ', Ψ0.le Ψ' ∧ Rel N D Ψ' ((t, .isl l (.tok σ.rooms.length l.length es)) :: E) (σ.pushRoom l.length) a w := by
  intro x hx hvr
  obtain ⟨le', hs'⟩ := hr.sg.newRoom l.length x (fun b e c s hh hlt => absurd hlt (hx b e c s hh))
  refine ⟨_, le.trans le', hr.size, fun t' => ?_, hs', fun d hd => le'.ds _ (hr.dsub d hd), ?_⟩
  ·simp only [Env.get]
   split
   ·rename_i e; subst e
    exact hvr _ le' (by simp [Ty.addHist])
   ·exact (hr.env t').mono le'
  ·obtain ⟨rs, r1, r2, r3⟩ := hr.defs
   exact ⟨rs, r1, r2, fun r hm => ⟨le'.ds _ (r3 r hm).1, (r3 r hm).2⟩⟩
 generalize hx : a.tmps.getD t undef = x at hv fin
 cases hv with
 | islnil _ a0 _ => exact fin none (fun b e c s h => by cases h) fun Ψ' _ hh => .islnil _ a0 ⟨_, hh⟩
 | isl es0 _ _ b o cap vals hs h1 h2 hc ho =>
  have hcap : cap = l.length := ho
  subst hcap
  refine fin (some (b, o + l.length * es, o + l.length * es, es)) (fun b e c s h => by injection h with h; injection h with _ h; injection h with h1 h; injection h with h2 _; omega) fun Ψ' le' hh => ?_
  by_cases hl : l = []
  ·subst hl
   exact .isl es [] _ b o 0 vals (fun k e h => by simp at h) (fun k e j p h => by simp at h) (fun k e j p h => by simp at h) (Nat.le_refl _) ⟨rfl, hh⟩
  ·have : es0 = es := by
    cases l with
    | nil => exact absurd rfl hl
    | cons q l => rw [← hs 0 q rfl]; exact hes q (by simp)
   subst this
   exact .isl es0 l _ b o _ vals hs (fun k e j p q1 q2 => le'.imm _ _ _ (h1 k e j p q1 q2)) (fun k e j p q1 q2 => (h2 k e j p q1 q2).mono le') (Nat.le_refl _) ⟨rfl, hh⟩
theorem Weak.env {N : Nat} {lo : Nat × Nat} {E E' : Env} {σ : Sg} (h : ∀ t Ψ x, VR Ψ (E.get t) x → VR Ψ (E'.get t) x) : Weak N lo E σ E' σ := fun _ Ψ _ _ _ _ le hr =>
 ⟨Ψ, le, hr.size, fun t => h t Ψ _ (hr.env t), hr.sg, hr.dsub, hr.defs⟩
theorem Weak.keep {N : Nat} {lo : Nat × Nat} {E : Env} {σ : Sg} (ks : List Nat) : Weak N lo E σ (keep ks E) σ := fun _ Ψ _ _ _ _ le hr => ⟨Ψ, le, hr.keep ks⟩
theorem Weak.ro {N : Nat} {lo : Nat × Nat} {E : Env} {σ : Sg} (t : Nat) : Weak N lo E σ ((t, (E.get t).ro) :: E) σ := Weak.env fun t' Ψ x h => by
 simp only [Env.get]
 split
 ·rename_i e; subst e; exact h.ro
 ·exact h
theorem cleanE_nil {a b c : Nat} : ∀ kv, kv ∈ ([] : Env) → Clean a b c kv.2 := fun kv h => by cases h
theorem cleanE_cons {a b c t : Nat} {v : PV} {E : Env} (h : Clean a b c v) (k : ∀ kv, kv ∈ E → Clean a b c kv.2) : ∀ kv, kv ∈ (t, v) :: E → Clean a b c kv.2 := fun kv hk => by
 rcases List.mem_cons.1 hk with rfl | hk
 ·exact h
 ·exact k kv hk
theorem Wk.env {a b c : Nat} : ∀ {E : Env}, (∀ kv, kv ∈ E → Clean a b c kv.2) → ∀ t, Wk a b c (E.get t) (E.get t) := by
 intro E
 induction E with
 | nil => intro _ t; exact Wk.of_clean .undef
 | cons kv E ih =>
  intro h t
  obtain ⟨k, v⟩ := kv
  simp only [Env.get]
  split
  ·exact Wk.of_clean (h (k, v) (List.mem_cons_self ..))
  ·exact ih (fun kv hk => h kv (List.mem_cons_of_mem _ hk)) t
def setE1 (t : Nat) (v : PV) : Env → Env
 | [] => []
 | (k, x) :: E => if k = t then (k, v) :: E else (k, x) :: setE1 t v E
def setE : Env → Env → Env
 | E, [] => E
 | E, (t, v) :: u => setE (setE1 t v E) u
theorem setE_nil (E : Env) : setE E [] = E := rfl
theorem setE_cons (E : Env) (t : Nat) (v : PV) (u : Env) : setE E ((t, v) :: u) = setE (setE1 t v E) u := rfl
theorem setE1_nil (t : Nat) (v : PV) : setE1 t v [] = [] := rfl
theorem setE1_cons (t k : Nat) (v x : PV) (E : Env) : setE1 t v ((k, x) :: E) = if k = t then (k, v) :: E else (k, x) :: setE1 t v E := rfl
section
variable {P : Program} {Y : YEnv} {N : Nat} {rd : Option Nat} {lo : Nat × Nat} {E : Env} {σ : Sg} {Q : Exit → Env → Sg → Prop}
theorem W_loopT {α : Type} {c : Code} (upd : α → Env) (st : α → Sg) (Inv : α → Prop) (μ : α → Nat) (s0 : α) (hE : setE E (upd s0) = E) (hσ : st s0 = σ) (h0 : Inv s0)
  (round : ∀ s, Inv s → W P Y N rd lo c (setE E (upd s)) (st s) (Seq (fun E' σ' => ∃ s', Weak N lo E' σ' (setE E (upd s')) (st s') ∧ μ s' < μ s ∧ Inv s') Q)) : W P Y N rd lo (.loop c) E σ Q := by
 refine W_loopK (fun k E' σ' => ∃ s, k = μ s ∧ Inv s ∧ setE E (upd s) = E' ∧ st s = σ') (μ s0) ⟨s0, rfl, h0, hE, hσ⟩ ?_
 rintro k E' σ' ⟨s, rfl, hi, rfl, rfl⟩
 refine W_post_weak (W_mono (round s hi) ?_)
 intro ex E1 σ1 h
 cases ex with
 | normal =>
  obtain ⟨s', hw, hm, hi'⟩ := h
  exact ⟨_, _, hw, μ s', hm, s', rfl, hi', rfl, rfl⟩
 | _ => exact ⟨_, _, Weak.refl, h⟩
theorem W_loopS {α : Type} {c : Code} (upd : α → Env) (Inv : α → Prop) (μ : α → Nat) (s0 : α) (hE : setE E (upd s0) = E) (h0 : Inv s0)
  (round : ∀ s, Inv s → W P Y N rd lo c (setE E (upd s)) σ (Seq (fun E' σ' => ∃ s', Weak N lo E' σ' (setE E (upd s')) σ ∧ μ s' < μ s ∧ Inv s') Q)) : W P Y N rd lo (.loop c) E σ Q :=
 W_loopT upd (fun _ => σ) Inv μ s0 hE rfl h0 round
theorem Weak.eq {E E' : Env} {σ σ' : Sg} (h : E = E') (k : σ = σ') : Weak N lo E σ E' σ' := by subst h k; exact Weak.refl
end
def CleanAll (a b c : Nat) (l : List PV) : Prop := ∀ p, p ∈ l → Clean a b c p
def CleanLs (a b c : Nat) (l : List (Option (List PV))) : Prop := ∀ cs, some cs ∈ l → ∀ p, p ∈ cs → Clean a b c p
def CleanEs (a b c : Nat) (E : Env) : Prop := ∀ kv, kv ∈ E → Clean a b c kv.2
def OwnLt (b : Nat) (o : Own) : Prop := ∀ r n es, o = .tok r n es → r < b
section
variable {a b c : Nat}
theorem CleanAll_nil : CleanAll a b c [] = True := eq_true Clean.all_nil
theorem CleanAll_cons {p : PV} {l : List PV} : CleanAll a b c (p :: l) = (Clean a b c p ∧ CleanAll a b c l) := by simp [CleanAll]
theorem CleanAll_append {l m : List PV} : CleanAll a b c (l ++ m) = (CleanAll a b c l ∧ CleanAll a b c m) := by
 simp only [CleanAll, List.mem_append]
 exact propext ⟨fun h => ⟨fun p hp => h p (.inl hp), fun p hp => h p (.inr hp)⟩, fun h p hp => hp.elim (h.1 p) (h.2 p)⟩
theorem CleanLs_nil : CleanLs a b c [] = True := eq_true CleanL_nil
theorem CleanLs_cons {cs : List PV} {l : List (Option (List PV))} : CleanLs a b c (some cs :: l) = (CleanAll a b c cs ∧ CleanLs a b c l) := by
 refine propext ⟨fun h => ⟨h cs (List.mem_cons_self ..), fun ds hd => h ds (List.mem_cons_of_mem _ hd)⟩, fun h => CleanL_cons h.1 h.2⟩
theorem CleanEs_nil : CleanEs a b c [] = True := eq_true cleanE_nil
theorem CleanEs_cons {t : Nat} {v : PV} {E : Env} : CleanEs a b c ((t, v) :: E) = (Clean a b c v ∧ CleanEs a b c E) := by
 refine propext ⟨fun h => ⟨h (t, v) (List.mem_cons_self ..), fun ds hd => h ds (List.mem_cons_of_mem _ hd)⟩, fun h => cleanE_cons h.1 h.2⟩
theorem OwnLt_ro : OwnLt b .ro = True := eq_true fun r n es e => by cases e
theorem OwnLt_exact : OwnLt b .exact = True := eq_true fun r n es e => by cases e
theorem OwnLt_tok {r n es : Nat} : OwnLt b (.tok r n es) = (r < b) := propext ⟨fun h => h r n es rfl, fun h r' n' es' e => by cases e; exact h⟩
theorem Cl_undef : Clean a b c .undef = True := eq_true .undef
theorem Cl_bool {x : Bool} : Clean a b c (.bool x) = True := eq_true (.bool _)
theorem Cl_int {k : IntKind} {x : Int} : Clean a b c (.int k x) = True := eq_true (.int _ _)
theorem Cl_str {x : ByteArray} : Clean a b c (.str x) = True := eq_true (.str _)
theorem Cl_nilptr : Clean a b c .nilptr = True := eq_true .nilptr
theorem Cl_nilsl : Clean a b c .nilsl = True := eq_true .nilsl
theorem Cl_nilfunc : Clean a b c .nilfunc = True := eq_true .nilfunc
theorem Cl_niliface : Clean a b c .niliface = True := eq_true .niliface
theorem Cl_ptr {id off : Nat} : Clean a b c (.ptr id off) = (id < a) := propext ⟨fun h => by cases h; assumption, fun h => .ptr _ _ h⟩
theorem Cl_msl {id off len : Nat} : Clean a b c (.msl id off len) = (id < a) := propext ⟨fun h => by cases h; assumption, fun h => .msl _ _ _ h⟩
theorem Cl_yield {y : Nat} : Clean a b c (.yield y) = (y < c) := propext ⟨fun h => by cases h; assumption, fun h => .yield _ h⟩
theorem Cl_eptr {es : Nat} {l : List PV} {i off : Nat} : Clean a b c (.eptr es l i off) = CleanAll a b c l := propext ⟨fun h => by cases h; assumption, fun h => .eptr _ _ _ _ h⟩
theorem Cl_isl {l : List PV} {o : Own} : Clean a b c (.isl l o) = (CleanAll a b c l ∧ OwnLt b o) := propext ⟨fun h => by cases h; exact ⟨‹_›, ‹_›⟩, fun h => .isl _ _ h.1 h.2⟩
theorem Cl_agg {l : List PV} : Clean a b c (.agg l) = CleanAll a b c l := propext ⟨fun h => by cases h; assumption, fun h => .agg _ h⟩
theorem Cl_tuple {l : List PV} : Clean a b c (.tuple l) = CleanAll a b c l := propext ⟨fun h => by cases h; assumption, fun h => .tuple _ h⟩
theorem Cl_func {fn : Fn} {l m : List PV} : Clean a b c (.func fn l m) = (CleanAll a b c l ∧ CleanAll a b c m) := propext ⟨fun h => by cases h; exact ⟨‹_›, ‹_›⟩, fun h => .func _ _ _ h.1 h.2⟩
theorem CleanAll_ints {xs : List Int} : CleanAll a b c (xs.map I) = True := eq_true fun p hp => by obtain ⟨x, _, rfl⟩ := List.mem_map.1 hp; exact .int _ _
theorem CleanAll_map {α : Type} {f : α → PV} {xs : List α} (h : ∀ x, Clean a b c (f x)) : CleanAll a b c (xs.map f) = True := eq_true fun p hp => by obtain ⟨x, _, rfl⟩ := List.mem_map.1 hp; exact h x
end
attribute [go_sem] CleanAll_nil CleanAll_cons CleanAll_append CleanLs_nil CleanLs_cons CleanEs_nil CleanEs_cons OwnLt_ro OwnLt_exact OwnLt_tok Cl_undef Cl_bool Cl_int Cl_str Cl_nilptr Cl_nilsl Cl_nilfunc Cl_niliface Cl_ptr Cl_msl Cl_yield Cl_eptr Cl_isl Cl_agg Cl_tuple Cl_func CleanAll_ints
attribute [go_sem] setE_nil setE_cons setE1_nil setE1_cons
theorem Weak.cutX {N : Nat} {lo : Nat × Nat} {E : Env} {σ : Sg} {l : List (Option (List PV))} {rm : List Nat} {ys : List LState} (k j : Nat) (h1 : lo.1 ≤ σ.store.length + k) (h2 : lo.2 ≤ σ.rooms.length + j) (hcl : CleanSg σ)
  (hc : CleanLs (σ.store.length + k) (σ.rooms.length + j) (σ.ys.length + ys.length) (l.take k)) (hE : CleanEs (σ.store.length + k) (σ.rooms.length + j) (σ.ys.length + ys.length) E) :
  Weak N lo E (σ.ext l rm ys) E (σ.ext (l.take k) (rm.take j) ys) := Weak.cutExt k j h1 h2 hcl hc (Wk.env hE)
theorem Wk_eq {a b c : Nat} {p q : PV} (h : p = q) (hc : Clean a b c q) : Wk a b c p q := by subst h; exact Wk.of_clean hc
section
variable {α : Type} {f : α → PV} {xs : List α} {c k i off : Nat} {n : Int}
theorem iaX_m (f : α → PV) (xs : List α) : iaX c (xs.map f) n = if 0 ≤ n then (xs[n.toNat]?).bind fun x => if (f x).cells.length = c then some (.eptr c (xs.map f) n.toNat 0) else none else none := by
 unfold iaX
 by_cases h : 0 ≤ n
 ·by_cases h2 : n.toNat < xs.length
  ·rw [if_pos ⟨h, by simp; omega⟩, if_pos h]
   simp [h2]
  ·rw [if_neg (fun h' => h2 (by have := h'.2; simp at this; omega)), if_pos h]
   rw [List.getElem?_eq_none (by omega)]
   rfl
 ·rw [if_neg (fun h' => h h'.1), if_neg h]
theorem elS_m (f : α → PV) (xs : List α) : elS (xs.map f) i off = (xs[i]?).bind fun x => (f x).cells[off]? := by
 simp only [elS, List.getElem?_map]
 cases xs[i]? <;> rfl
theorem elA_m (f : α → PV) (xs : List α) : elA k (xs.map f) i off = (xs[i]?).bind fun x => if off + k ≤ (f x).cells.length then some (.agg (((f x).cells.drop off).take k)) else none := by
 simp only [elA, List.getElem?_map]
 cases xs[i]? <;> rfl
end
theorem bindSome {α β : Type} (x : α) (f : α → Option β) : (some x).bind f = f x := rfl
theorem bindNone {α β : Type} (f : α → Option β) : (none : Option α).bind f = none := rfl
attribute [go_sem] appendAny_isl appendAny_gsl appendAny_gnil
attribute [go_sem] iaX_m elS_m elA_m bindSome bindNone Int.natCast_nonneg Int.toNat_natCast
section
variable {σ : Sg} {d : Nat} {cs cs' : List PV} {l : List (Option (List PV))} {rm : List Nat} {ys : List LState} {k j off : Nat}
theorem sv_len : (σ.setVar d cs).store.length = σ.store.length := by simp [Sg.setVar]
theorem sv_rooms : (σ.setVar d cs).rooms = σ.rooms := rfl
theorem sv_ys : (σ.setVar d cs).ys = σ.ys := rfl
theorem sv_sv : (σ.setVar d cs).setVar d cs' = σ.setVar d cs' := by simp [Sg.setVar]
theorem sv_get (h : d < σ.store.length) : (σ.setVar d cs).store[d]? = some (some cs) := by simp [Sg.setVar, h]
theorem ext_get (h : d < σ.store.length) : (σ.ext l rm ys).store[d]? = σ.store[d]? := by
 show (σ.store ++ l)[d]? = _
 rw [List.getElem?_append_left h]
theorem sv_ext (h : d < σ.store.length) : (σ.ext l rm ys).setVar d cs = (σ.setVar d cs).ext l rm ys := by
 simp [Sg.setVar, Sg.ext, List.set_append_left _ _ h]
theorem stX_old (h : d < σ.store.length) (p : PV) : stX k (σ.ext l rm ys) d off p = (stX k σ d off p).map fun τ => τ.ext l rm ys := by
 unfold stX
 rw [ext_get h]
 cases σ.store[d]? with
 | none => rfl
 | some x =>
  cases x with
  | none => rfl
  | some cs =>
   simp only
   rw [sv_ext h]
   split <;> rfl
theorem ldS_sv (h : d < σ.store.length) : ldS (σ.setVar d cs) d off = cs[off]? := ldS_at (sv_get h)
theorem stX_sv (h : d < σ.store.length) (p : PV) : stX k (σ.setVar d cs) d off p = if defd p && p.cells.all PV.scalar && (p.cells.length == k) && decide (off + p.cells.length ≤ cs.length) then some (σ.setVar d (putCells cs off p.cells)) else none := by
 rw [stX_at (sv_get h), sv_sv]
theorem ldS_svx : ldS ((σ.setVar d cs).ext l rm ys) (σ.store.length + j) off = match l[j]? with | some (some cs) => cs[off]? | _ => none := by
 rw [← sv_len (d := d) (cs := cs)]; exact ldS_ext ..
theorem ldS_svx0 : ldS ((σ.setVar d cs).ext l rm ys) σ.store.length off = match l[0]? with | some (some cs) => cs[off]? | _ => none := by
 rw [← sv_len (d := d) (cs := cs)]; exact ldS_ext0 ..
theorem ldA_svx : ldA k ((σ.setVar d cs).ext l rm ys) (σ.store.length + j) off = match l[j]? with | some (some cs) => if off + k ≤ cs.length then some (.agg ((cs.drop off).take k)) else none | _ => none := by
 rw [← sv_len (d := d) (cs := cs)]; exact ldA_ext ..
theorem ldA_svx0 : ldA k ((σ.setVar d cs).ext l rm ys) σ.store.length off = match l[0]? with | some (some cs) => if off + k ≤ cs.length then some (.agg ((cs.drop off).take k)) else none | _ => none := by
 rw [← sv_len (d := d) (cs := cs)]; exact ldA_ext0 ..
theorem stX_svx (p : PV) : stX k ((σ.setVar d cs).ext l rm ys) (σ.store.length + j) off p = match l[j]? with
  | some (some ds) => if defd p && p.cells.all PV.scalar && (p.cells.length == k) && decide (off + p.cells.length ≤ ds.length) then some ((σ.setVar d cs).ext (l.set j (some (putCells ds off p.cells))) rm ys) else none
  | _ => none := by
 rw [← sv_len (d := d) (cs := cs)]; exact stX_ext ..
theorem stX_svx0 (p : PV) : stX k ((σ.setVar d cs).ext l rm ys) σ.store.length off p = match l[0]? with
  | some (some ds) => if defd p && p.cells.all PV.scalar && (p.cells.length == k) && decide (off + p.cells.length ≤ ds.length) then some ((σ.setVar d cs).ext (l.set 0 (some (putCells ds off p.cells))) rm ys) else none
  | _ => none := by
 rw [← sv_len (d := d) (cs := cs)]; exact stX_ext0 ..
theorem setVar_ext (cs : List PV) : (σ.ext l rm ys).setVar (σ.store.length + j) cs = σ.ext (l.set j (some cs)) rm ys := Sg.set_ext σ l rm ys j cs
theorem setVar_ext0 (cs : List PV) : (σ.ext l rm ys).setVar σ.store.length cs = σ.ext (l.set 0 (some cs)) rm ys := Sg.set_ext0 σ l rm ys cs
theorem setVar_svx (cs' : List PV) : ((σ.setVar d cs).ext l rm ys).setVar (σ.store.length + j) cs' = (σ.setVar d cs).ext (l.set j (some cs')) rm ys := by
 rw [← sv_len (d := d) (cs := cs)]; exact setVar_ext cs'
theorem setVar_svx0 (cs' : List PV) : ((σ.setVar d cs).ext l rm ys).setVar σ.store.length cs' = (σ.setVar d cs).ext (l.set 0 (some cs')) rm ys := by
 rw [← sv_len (d := d) (cs := cs)]; exact setVar_ext0 cs'
theorem lt_of_get {x : Option (List PV)} (h : σ.store[d]? = some x) : d < σ.store.length := (List.getElem?_eq_some_iff.1 h).1
end
attribute [go_sem] sv_len sv_rooms sv_ys sv_sv ldS_svx ldS_svx0 ldA_svx ldA_svx0 stX_svx stX_svx0 setVar_ext setVar_ext0 setVar_svx setVar_svx0
theorem CleanSg_set {σ : Sg} {d : Nat} {cs : List PV} (h : CleanSg σ) (hc : CleanAll σ.store.length σ.rooms.length σ.ys.length cs) : CleanSg (σ.setVar d cs) := by
 unfold CleanSg
 rw [sv_len, sv_rooms, sv_ys]
 intro id ds hid hds p hp
 by_cases hd : d = id
 ·subst hd
  have hds' : (σ.store.set d (some cs))[d]? = some (some ds) := hds
  rw [List.getElem?_set_self hid] at hds'
  injection hds' with e
  injection e with e
  subst e
  exact hc p hp
 ·have hds' : (σ.store.set d (some cs))[id]? = some (some ds) := hds
  rw [List.getElem?_set_ne hd] at hds'
  exact h id ds hid hds' p hp
theorem Fin_set {P : Program} {fn : Func} {σ : Sg} {d : Nat} {cs : List PV} {l : List (Option (List PV))} {rm : List Nat} {E : Env} {rs : List PV} {v : PV} (hcl : CleanSg σ) (hc : CleanAll σ.store.length σ.rooms.length σ.ys.length cs)
  (hr : resPV P ((σ.setVar d cs).ext l rm) E fn.results.toList = some rs)
  (hv : Wk σ.store.length σ.rooms.length σ.ys.length (oneOr rs) v) : Fin P fn σ v (σ.setVar d cs) E ((σ.setVar d cs).ext l rm) := by
 have hcl' := CleanSg_set (d := d) hcl hc
 refine ⟨rs, _, _, hr, Nat.le_refl _, Nat.le_refl _, hv, ?_, fun id ds hid hds p hp => ?_, by simp [Sg.ext, Sg.setVar]⟩
 ·have := Sg.cut_ext0 (σ.setVar d cs) l rm
  rw [sv_len, sv_rooms, sv_ys] at this
  exact this.symm
 ·have hc' : ((σ.setVar d cs).store ++ l)[id]? = some (some ds) := hds
  rw [List.getElem?_append_left (by rw [sv_len]; exact hid)] at hc'
  have := hcl' id ds (by rw [sv_len]; exact hid) hc' p hp
  rw [sv_len, sv_rooms, sv_ys] at this
  exact this
theorem Fin_set0 {P : Program} {fn : Func} {σ : Sg} {d : Nat} {cs : List PV} {E : Env} {rs : List PV} {v : PV} (hcl : CleanSg σ) (hc : CleanAll σ.store.length σ.rooms.length σ.ys.length cs)
  (hr : resPV P (σ.setVar d cs) E fn.results.toList = some rs)
  (hv : Wk σ.store.length σ.rooms.length σ.ys.length (oneOr rs) v) : Fin P fn σ v (σ.setVar d cs) E (σ.setVar d cs) := by
 have := Fin_set (l := []) (rm := []) hcl hc (by rw [Sg.ext_nil]; exact hr) hv
 rw [Sg.ext_nil] at this
 exact this
theorem W_regionJ {P : Program} {Y : YEnv} {N : Nat} {rd : Option Nat} {lo : Nat × Nat} {id : Nat} {ops : Array Oper} {E : Env} {σ : Sg} {Q : Exit → Env → Sg → Prop} (ks : List Nat) (upd : Env)
  (rest : Q .normal (keep ks (upd ++ E)) σ) (h : ∀ K : Env → Sg → Prop, (∀ E', keep ks E' = keep ks (upd ++ E) → K E' σ) → GL P Y N ops ops.toList E σ K) : W P Y N rd lo (.region id ops false) E σ Q :=
 W_region ks fun K hK => h K fun E' e => hK E' σ (by rw [e]; exact rest)
theorem W_drawJ {P : Program} {Y : YEnv} {N : Nat} {rd : Option Nat} {lo : Nat × Nat} {id : Nat} {ops : Array Oper} {E : Env} {σ : Sg} {Q : Exit → Env → Sg → Prop} (ks : List Nat) (upd : Env) (is : List Nat) (plan : List (Nat × Nat)) (pre : List (List Nat))
  (hm : P.follows .mixedOrders = true) (hc : drawOK ops is plan pre = true) (rest : Q .normal (keep ks (upd ++ E)) σ)
  (h : ∀ K : Env → Sg → Prop, (∀ E', keep ks E' = keep ks (upd ++ E) → K E' σ) → GD P Y N ops is (undefs ops.toList E) σ [] (fun T E' σ' => Dem P ops T.reverse σ' plan ∧ K E' σ')) : W P Y N rd lo (.region id ops true) E σ Q :=
 W_draw ks is plan pre hm hc fun K hK => h K fun E' e => hK E' σ (by rw [e]; exact rest)
theorem wrapI {n : Int} (h1 : -9223372036854775808 ≤ n) (h2 : n ≤ 9223372036854775807) : IntKind.i64.wrap n = n := wrap_i64_id (by omega) (by omega)
theorem nrm : (∀ (p : Prop) [Decidable p], (decide p = true) = p) ∧ (∀ (p : Prop) [Decidable p], (decide p = false) = ¬p) ∧ (∀ b : Bool, ((!b) = true) = (b = false)) ∧ (∀ b : Bool, ((!b) = false) = (b = true)) ∧
  (∀ a b : Nat, ((a : Int) = (b : Int)) = (a = b)) ∧ (∀ a b : Nat, ((a : Int) < (b : Int)) = (a < b)) ∧ (∀ a b : Nat, ((a : Int) ≤ (b : Int)) = (a ≤ b)) ∧
  (∀ a b : Int, ((a != b) = true) = (¬ a = b)) ∧ (∀ a b : Int, ((a != b) = false) = (a = b)) ∧ (∀ a b : Int, ((a == b) = true) = (a = b)) ∧ (∀ a b : Int, ((a == b) = false) = (¬ a = b)) ∧
  (∀ b : Bool, (¬ b = true) = (b = false)) ∧ (∀ b : Bool, (¬ b = false) = (b = true)) := by
 refine ⟨fun p _ => by simp, fun p _ => by simp, fun b => by simp, fun b => by simp, fun a b => propext Int.natCast_inj, fun a b => propext Int.ofNat_lt, fun a b => propext Int.ofNat_le, fun a b => by simp, fun a b => by simp, fun a b => by simp, fun a b => by simp, fun b => by simp, fun b => by simp⟩
def okC (c : Nat) (m : List PV) : Prop := (m.all fun q => (q.cells.length == c) && q.cells.all PV.scalar) = true
theorem okC_nil {c : Nat} : okC c [] = True := eq_true rfl
theorem okC_cons {c : Nat} {q : PV} {m : List PV} : okC c (q :: m) = ((q.cells.length = c ∧ q.cells.all PV.scalar = true) ∧ okC c m) := by simp [okC]
theorem okC_append {c : Nat} {l m : List PV} : okC c (l ++ m) = (okC c l ∧ okC c m) := by simp [okC]
theorem okC_ints {xs : List Int} : okC 1 (xs.map I) = True := eq_true (by simp [okC, PV.cells, PV.scalar])
theorem okC_map {α : Type} {c : Nat} {f : α → PV} {xs : List α} (h : ∀ x, okC c [f x]) : okC c (xs.map f) = True := eq_true (by
 unfold okC at h ⊢
 rw [List.all_eq_true]
 intro q hq
 obtain ⟨x, _, rfl⟩ := List.mem_map.1 hq
 simpa using h x)
theorem okC_len {c : Nat} {m : List PV} (h : okC c m) : (m.all fun q => q.cells.length == c) = true := by
 unfold okC at h
 rw [List.all_eq_true] at h ⊢
 intro q hq
 have := h q hq
 simp only [Bool.and_eq_true] at this
 exact this.1
theorem appX_exact {c b : Nat} {σ : Sg} {l m : List PV} (hm : okC c m) (hl : okC c l) (hs : (l.length + m.length) * b ≤ 140737488355328) :
  appX c b σ l .exact m = some (.isl (l ++ m) (.tok σ.rooms.length (l.length + m.length) c), σ.pushRoom (l.length + m.length)) := by
 have hm' : (m.all fun q => (q.cells.length == c) && q.cells.all PV.scalar) = true := hm
 unfold appX
 rw [hm', okC_len hl]
 simp [hs]
theorem appX_tok {c b : Nat} {σ : Sg} {l m : List PV} {r n : Nat} (hm : okC c m) (hr : σ.rooms[r]? = some n) (hs : (l.length + m.length) * b ≤ 140737488355328) :
  appX c b σ l (.tok r n c) m = some (.isl (l ++ m) (.tok r (n + m.length) c), σ.setRoom r (n + m.length)) := by
 have hm' : (m.all fun q => (q.cells.length == c) && q.cells.all PV.scalar) = true := hm
 unfold appX
 rw [hm']
 simp [hs, hr]
section
variable {σ : Sg} {d : Nat} {cs : List PV} {l : List (Option (List PV))} {rm : List Nat} {ys : List LState} {j n : Nat}
theorem room_svx : ((σ.setVar d cs).ext l rm ys).rooms[σ.rooms.length + j]? = rm[j]? := Sg.room_ext (σ.setVar d cs) l rm ys j
theorem room_svx0 : ((σ.setVar d cs).ext l rm ys).rooms[σ.rooms.length]? = rm[0]? := Sg.room_ext0 (σ.setVar d cs) l rm ys
theorem setRoom_svx : ((σ.setVar d cs).ext l rm ys).setRoom (σ.rooms.length + j) n = (σ.setVar d cs).ext l (rm.set j n) ys := Sg.setRoom_ext (σ.setVar d cs) l rm ys j n
theorem setRoom_svx0 : ((σ.setVar d cs).ext l rm ys).setRoom σ.rooms.length n = (σ.setVar d cs).ext l (rm.set 0 n) ys := Sg.setRoom_ext0 (σ.setVar d cs) l rm ys n
end
attribute [go_sem] bsX okC_nil okC_cons okC_append okC_ints Sg.room_ext Sg.room_ext0 Sg.setRoom_ext Sg.setRoom_ext0 room_svx room_svx0 setRoom_svx setRoom_svx0
theorem ro_isl {l : List PV} {o : Own} : (PV.isl l o).ro = .isl (PV.roL l) .ro := by simp only [PV.ro]
theorem ro_agg {l : List PV} : (PV.agg l).ro = .agg (PV.roL l) := by simp only [PV.ro]
theorem ro_tuple {l : List PV} : (PV.tuple l).ro = .tuple (PV.roL l) := by simp only [PV.ro]
theorem ro_int {k : IntKind} {n : Int} : (PV.int k n).ro = .int k n := by simp only [PV.ro]
theorem ro_bool {b : Bool} : (PV.bool b).ro = .bool b := by simp only [PV.ro]
theorem ro_str {b : ByteArray} : (PV.str b).ro = .str b := by simp only [PV.ro]
theorem ro_ptr {i o : Nat} : (PV.ptr i o).ro = .ptr i o := by simp only [PV.ro]
theorem roL_nil : PV.roL [] = [] := by simp only [PV.roL]
theorem roL_cons {p : PV} {l : List PV} : PV.roL (p :: l) = p.ro :: PV.roL l := by simp only [PV.roL]
theorem roL_append {l m : List PV} : PV.roL (l ++ m) = PV.roL l ++ PV.roL m := by simp only [PV.roL_map, List.map_append]
theorem roL_ints {xs : List Int} : PV.roL (xs.map I) = xs.map I := by simp [PV.roL_map, PV.ro]
theorem roL_enc {α : Type} {f : α → PV} {xs : List α} (h : ∀ x, (f x).ro = f x) : PV.roL (xs.map f) = xs.map f := by simp [PV.roL_map, h]
attribute [go_sem] ro_isl ro_agg ro_tuple ro_int ro_bool ro_str ro_ptr roL_nil roL_cons roL_append roL_ints oneOr
theorem PC.val {P : Program} {Y : YEnv} {f : FuncId} {args : List PV} {σ σ' : Sg} {v v' : PV} (h : PC P Y f args σ v σ') (e : v = v') : PC P Y f args σ v' σ' := by subst e; exact h
def rep (n : Nat) (v : PV) : List PV := List.replicate n v
theorem rep_len (n : Nat) (v : PV) : (rep n v).length = n := by simp [rep]
theorem ixS_of {P : Program} {t e : TypeId} {d : TypeDesc} {len : Nat} (h : P.underlying t = some (.array len e)) (he : P.underlying e = some d) (ha : isAggD d = false) (hc : P.cellsOf e = 1) (kd : IntKind) (n : Int) {cs : List PV} :
  indexPV P t (.agg cs) (.int kd n) = if 0 ≤ n ∧ n < (len : Int) then cs[n.toNat]? else none := by
 simp [indexPV, h, he, hc, partPV, ha]
attribute [go_sem] st List.reverse_cons List.reverse_nil bldX bne_self_eq_false iaM rep_len Int.cast_ofNat_Int List.getElem?_nil List.map_append List.length_append
theorem cells2 : Tryz.prog.cellsOf 2 = 1 := by kernel_rfl
theorem zero2 : zeroPV Tryz.prog 2 = some [.int .i64 0] := by kernel_rfl
theorem cells3 : Tryz.prog.cellsOf 3 = 1 := by kernel_rfl
theorem bytes3 : Tryz.prog.bytesOf 3 = 8 := by kernel_rfl
theorem zero3 : zeroPV Tryz.prog 3 = some [.int .i64 0] := by kernel_rfl
theorem cells4 : Tryz.prog.cellsOf 4 = 1 := by kernel_rfl
theorem bytes4 : Tryz.prog.bytesOf 4 = 1 := by kernel_rfl
theorem zero4 : zeroPV Tryz.prog 4 = some [.bool false] := by kernel_rfl
theorem cells5 : Tryz.prog.cellsOf 5 = 1 := by kernel_rfl
theorem zero5 : zeroPV Tryz.prog 5 = some [.int .u8 0] := by kernel_rfl
theorem cells9 : Tryz.prog.cellsOf 9 = 1 := by kernel_rfl
theorem zero9 : zeroPV Tryz.prog 9 = some [.str .empty] := by kernel_rfl
theorem cells22 : Tryz.prog.cellsOf 22 = 1 := by kernel_rfl
theorem bytes22 : Tryz.prog.bytesOf 22 = 24 := by kernel_rfl
theorem zero22 : zeroPV Tryz.prog 22 = some [.isl [] .exact] := by kernel_rfl
theorem cells23 : Tryz.prog.cellsOf 23 = 1 := by kernel_rfl
theorem zero23 : zeroPV Tryz.prog 23 = some [.isl [] .exact] := by kernel_rfl
theorem cells24 : Tryz.prog.cellsOf 24 = 5 := by kernel_rfl
theorem zero24 : zeroPV Tryz.prog 24 = some [.int .i64 0, .int .i64 0, .int .i64 0, .int .i64 0, .isl [] .exact] := by kernel_rfl
theorem cells25 : Tryz.prog.cellsOf 25 = 5 := by kernel_rfl
theorem bytes25 : Tryz.prog.bytesOf 25 = 56 := by kernel_rfl
theorem zero25 : zeroPV Tryz.prog 25 = some [.int .i64 0, .int .i64 0, .int .i64 0, .int .i64 0, .isl [] .exact] := by kernel_rfl
theorem cells26 : Tryz.prog.cellsOf 26 = 1 := by kernel_rfl
theorem bytes26 : Tryz.prog.bytesOf 26 = 24 := by kernel_rfl
theorem zero26 : zeroPV Tryz.prog 26 = some [.isl [] .exact] := by kernel_rfl
theorem cells29 : Tryz.prog.cellsOf 29 = 1 := by kernel_rfl
theorem zero29 : zeroPV Tryz.prog 29 = some [.nilptr] := by kernel_rfl
theorem cells31 : Tryz.prog.cellsOf 31 = 1 := by kernel_rfl
theorem zero31 : zeroPV Tryz.prog 31 = some [.int .i64 0] := by kernel_rfl
theorem cells34 : Tryz.prog.cellsOf 34 = 1 := by kernel_rfl
theorem zero34 : zeroPV Tryz.prog 34 = some [.isl [] .exact] := by kernel_rfl
theorem cells38 : Tryz.prog.cellsOf 38 = 5 := by kernel_rfl
theorem zero38 : zeroPV Tryz.prog 38 = some [.isl [] .exact, .isl [] .exact, .isl [] .exact, .isl [] .exact, .isl [] .exact] := by kernel_rfl
theorem cells39 : Tryz.prog.cellsOf 39 = 5 := by kernel_rfl
theorem bytes39 : Tryz.prog.bytesOf 39 = 120 := by kernel_rfl
theorem zero39 : zeroPV Tryz.prog 39 = some [.isl [] .exact, .isl [] .exact, .isl [] .exact, .isl [] .exact, .isl [] .exact] := by kernel_rfl
theorem cells44 : Tryz.prog.cellsOf 44 = 3 := by kernel_rfl
theorem zero44 : zeroPV Tryz.prog 44 = some [.int .i64 0, .int .i64 0, .int .i64 0] := by kernel_rfl
theorem cells45 : Tryz.prog.cellsOf 45 = 3 := by kernel_rfl
theorem bytes45 : Tryz.prog.bytesOf 45 = 24 := by kernel_rfl
theorem zero45 : zeroPV Tryz.prog 45 = some [.int .i64 0, .int .i64 0, .int .i64 0] := by kernel_rfl
theorem cells46 : Tryz.prog.cellsOf 46 = 1 := by kernel_rfl
theorem zero46 : zeroPV Tryz.prog 46 = some [.isl [] .exact] := by kernel_rfl
theorem cells50 : Tryz.prog.cellsOf 50 = 6 := by kernel_rfl
theorem zero50 : zeroPV Tryz.prog 50 = some [.int .i64 0, .int .i64 0, .int .i64 0, .int .i64 0, .int .i64 0, .int .i64 0] := by kernel_rfl
theorem cells51 : Tryz.prog.cellsOf 51 = 6 := by kernel_rfl
theorem bytes51 : Tryz.prog.bytesOf 51 = 48 := by kernel_rfl
theorem zero51 : zeroPV Tryz.prog 51 = some [.int .i64 0, .int .i64 0, .int .i64 0, .int .i64 0, .int .i64 0, .int .i64 0] := by kernel_rfl
theorem cells55 : Tryz.prog.cellsOf 55 = 1 := by kernel_rfl
theorem zero55 : zeroPV Tryz.prog 55 = some [.isl [] .exact] := by kernel_rfl
theorem cells57 : Tryz.prog.cellsOf 57 = 1 := by kernel_rfl
theorem zero57 : zeroPV Tryz.prog 57 = some [.isl [] .exact] := by kernel_rfl
theorem cells59 : Tryz.prog.cellsOf 59 = 1 := by kernel_rfl
theorem zero59 : zeroPV Tryz.prog 59 = some [.isl [] .exact] := by kernel_rfl
theorem cells74 : Tryz.prog.cellsOf 74 = 4 := by kernel_rfl
theorem zero74 : zeroPV Tryz.prog 74 = some [.int .i64 0, .int .i64 0, .int .i64 0, .int .i64 0] := by kernel_rfl
theorem cells75 : Tryz.prog.cellsOf 75 = 4 := by kernel_rfl
theorem bytes75 : Tryz.prog.bytesOf 75 = 32 := by kernel_rfl
theorem zero75 : zeroPV Tryz.prog 75 = some [.int .i64 0, .int .i64 0, .int .i64 0, .int .i64 0] := by kernel_rfl
theorem cells77 : Tryz.prog.cellsOf 77 = 1 := by kernel_rfl
theorem zero77 : zeroPV Tryz.prog 77 = some [.int .u64 0] := by kernel_rfl
theorem cells78 : Tryz.prog.cellsOf 78 = 1 := by kernel_rfl
theorem zero78 : zeroPV Tryz.prog 78 = some [.int .u64 0] := by kernel_rfl
theorem cells79 : Tryz.prog.cellsOf 79 = 1 := by kernel_rfl
theorem zero79 : zeroPV Tryz.prog 79 = some [.int .u64 0] := by kernel_rfl
theorem cells82 : Tryz.prog.cellsOf 82 = 8 := by kernel_rfl
theorem zero82 : zeroPV Tryz.prog 82 = some [.int .i64 0, .int .i64 0, .int .i64 0, .int .i64 0, .int .i64 0, .int .i64 0, .int .i64 0, .int .i64 0] := by kernel_rfl
theorem cells83 : Tryz.prog.cellsOf 83 = 16 := by kernel_rfl
theorem zero83 : zeroPV Tryz.prog 83 = some [.int .i64 0, .int .i64 0, .int .i64 0, .int .i64 0, .int .i64 0, .int .i64 0, .int .i64 0, .int .i64 0, .int .i64 0, .int .i64 0, .int .i64 0, .int .i64 0, .int .i64 0, .int .i64 0, .int .i64 0, .int .i64 0] := by kernel_rfl
theorem cells84 : Tryz.prog.cellsOf 84 = 16 := by kernel_rfl
theorem zero84 : zeroPV Tryz.prog 84 = some [.int .i64 0, .int .i64 0, .int .i64 0, .int .i64 0, .int .i64 0, .int .i64 0, .int .i64 0, .int .i64 0, .int .i64 0, .int .i64 0, .int .i64 0, .int .i64 0, .int .i64 0, .int .i64 0, .int .i64 0, .int .i64 0] := by kernel_rfl
theorem cells85 : Tryz.prog.cellsOf 85 = 1 := by kernel_rfl
theorem zero85 : zeroPV Tryz.prog 85 = some [.nilmap] := by kernel_rfl
theorem cells86 : Tryz.prog.cellsOf 86 = 21 := by kernel_rfl
theorem zero86 : zeroPV Tryz.prog 86 = some [.int .i64 0, .int .i64 0, .int .i64 0, .isl [] .exact, .int .i64 0, .int .i64 0, .int .i64 0, .int .i64 0, .int .i64 0, .int .i64 0, .int .i64 0, .int .i64 0, .int .i64 0, .int .i64 0, .int .i64 0, .int .i64 0, .int .i64 0, .int .i64 0, .int .i64 0, .int .i64 0, .nilmap] := by kernel_rfl
theorem cells87 : Tryz.prog.cellsOf 87 = 21 := by kernel_rfl
theorem bytes87 : Tryz.prog.bytesOf 87 = 184 := by kernel_rfl
theorem zero87 : zeroPV Tryz.prog 87 = some [.int .i64 0, .int .i64 0, .int .i64 0, .isl [] .exact, .int .i64 0, .int .i64 0, .int .i64 0, .int .i64 0, .int .i64 0, .int .i64 0, .int .i64 0, .int .i64 0, .int .i64 0, .int .i64 0, .int .i64 0, .int .i64 0, .int .i64 0, .int .i64 0, .int .i64 0, .int .i64 0, .nilmap] := by kernel_rfl
theorem cells88 : Tryz.prog.cellsOf 88 = 1 := by kernel_rfl
theorem zero88 : zeroPV Tryz.prog 88 = some [.isl [] .exact] := by kernel_rfl
theorem cells103 : Tryz.prog.cellsOf 103 = 1 := by kernel_rfl
theorem zero103 : zeroPV Tryz.prog 103 = some [.isl [] .exact] := by kernel_rfl
theorem cells109 : Tryz.prog.cellsOf 109 = 3 := by kernel_rfl
theorem zero109 : zeroPV Tryz.prog 109 = some [.int .i64 0, .int .i64 0, .int .i64 0] := by kernel_rfl
theorem cells110 : Tryz.prog.cellsOf 110 = 3 := by kernel_rfl
theorem zero110 : zeroPV Tryz.prog 110 = some [.int .i64 0, .int .i64 0, .int .i64 0] := by kernel_rfl
theorem cells112 : Tryz.prog.cellsOf 112 = 1 := by kernel_rfl
theorem zero112 : zeroPV Tryz.prog 112 = some [.nilmap] := by kernel_rfl
theorem cells115 : Tryz.prog.cellsOf 115 = 1 := by kernel_rfl
theorem zero115 : zeroPV Tryz.prog 115 = some [.int .u64 0] := by kernel_rfl
theorem cells121 : Tryz.prog.cellsOf 121 = 4 := by kernel_rfl
theorem zero121 : zeroPV Tryz.prog 121 = some [.int .i64 0, .int .i64 0, .int .i64 0, .int .i64 0] := by kernel_rfl
theorem cells122 : Tryz.prog.cellsOf 122 = 4 := by kernel_rfl
theorem bytes122 : Tryz.prog.bytesOf 122 = 32 := by kernel_rfl
theorem zero122 : zeroPV Tryz.prog 122 = some [.int .i64 0, .int .i64 0, .int .i64 0, .int .i64 0] := by kernel_rfl
theorem cells125 : Tryz.prog.cellsOf 125 = 1 := by kernel_rfl
theorem zero125 : zeroPV Tryz.prog 125 = some [.nilfunc] := by kernel_rfl
theorem cells130 : Tryz.prog.cellsOf 130 = 1 := by kernel_rfl
theorem zero130 : zeroPV Tryz.prog 130 = some [.isl [] .exact] := by kernel_rfl
theorem cells134 : Tryz.prog.cellsOf 134 = 8 := by kernel_rfl
theorem zero134 : zeroPV Tryz.prog 134 = some [.bool false, .bool false, .bool false, .bool false, .bool false, .bool false, .bool false, .bool false] := by kernel_rfl
theorem cells137 : Tryz.prog.cellsOf 137 = 1 := by kernel_rfl
theorem bytes137 : Tryz.prog.bytesOf 137 = 8 := by kernel_rfl
theorem zero137 : zeroPV Tryz.prog 137 = some [.nilfunc] := by kernel_rfl
theorem cells138 : Tryz.prog.cellsOf 138 = 1 := by kernel_rfl
theorem zero138 : zeroPV Tryz.prog 138 = some [.isl [] .exact] := by kernel_rfl
theorem cells147 : Tryz.prog.cellsOf 147 = 1 := by kernel_rfl
theorem zero147 : zeroPV Tryz.prog 147 = some [.int .i64 0] := by kernel_rfl
theorem cells155 : Tryz.prog.cellsOf 155 = 1 := by kernel_rfl
theorem zero155 : zeroPV Tryz.prog 155 = some [.int .u32 0] := by kernel_rfl
theorem cells158 : Tryz.prog.cellsOf 158 = 1 := by kernel_rfl
theorem zero158 : zeroPV Tryz.prog 158 = some [.int .u64 0] := by kernel_rfl
theorem cells161 : Tryz.prog.cellsOf 161 = 1 := by kernel_rfl
theorem zero161 : zeroPV Tryz.prog 161 = some [.nilptr] := by kernel_rfl
theorem cells168 : Tryz.prog.cellsOf 168 = 1 := by kernel_rfl
theorem zero168 : zeroPV Tryz.prog 168 = some [.nilptr] := by kernel_rfl
theorem cells175 : Tryz.prog.cellsOf 175 = 4 := by kernel_rfl
theorem zero175 : zeroPV Tryz.prog 175 = some [.nilptr, .nilptr, .nilptr, .str .empty] := by kernel_rfl
theorem cells176 : Tryz.prog.cellsOf 176 = 4 := by kernel_rfl
theorem zero176 : zeroPV Tryz.prog 176 = some [.nilptr, .nilptr, .nilptr, .str .empty] := by kernel_rfl
theorem cells177 : Tryz.prog.cellsOf 177 = 0 := by kernel_rfl
theorem zero177 : zeroPV Tryz.prog 177 = some [] := by kernel_rfl
theorem cells178 : Tryz.prog.cellsOf 178 = 0 := by kernel_rfl
theorem zero178 : zeroPV Tryz.prog 178 = some [] := by kernel_rfl
theorem cells179 : Tryz.prog.cellsOf 179 = 0 := by kernel_rfl
theorem zero179 : zeroPV Tryz.prog 179 = some [] := by kernel_rfl
theorem cells181 : Tryz.prog.cellsOf 181 = 1 := by kernel_rfl
theorem zero181 : zeroPV Tryz.prog 181 = some [.int .u8 0] := by kernel_rfl
theorem cells182 : Tryz.prog.cellsOf 182 = 1 := by kernel_rfl
theorem zero182 : zeroPV Tryz.prog 182 = some [.int .u8 0] := by kernel_rfl
theorem cells184 : Tryz.prog.cellsOf 184 = 1 := by kernel_rfl
theorem zero184 : zeroPV Tryz.prog 184 = some [.nilptr] := by kernel_rfl
theorem cells185 : Tryz.prog.cellsOf 185 = 1 := by kernel_rfl
theorem zero185 : zeroPV Tryz.prog 185 = some [.int .i32 0] := by kernel_rfl
theorem cells186 : Tryz.prog.cellsOf 186 = 1 := by kernel_rfl
theorem zero186 : zeroPV Tryz.prog 186 = some [.int .i32 0] := by kernel_rfl
theorem cells187 : Tryz.prog.cellsOf 187 = 11 := by kernel_rfl
theorem zero187 : zeroPV Tryz.prog 187 = some [.int .u64 0, .int .u64 0, .int .u32 0, .int .u8 0, .int .u8 0, .int .u8 0, .int .u8 0, .nilfunc, .nilptr, .int .i32 0, .int .i32 0] := by kernel_rfl
theorem cells188 : Tryz.prog.cellsOf 188 = 11 := by kernel_rfl
theorem zero188 : zeroPV Tryz.prog 188 = some [.int .u64 0, .int .u64 0, .int .u32 0, .int .u8 0, .int .u8 0, .int .u8 0, .int .u8 0, .nilfunc, .nilptr, .int .i32 0, .int .i32 0] := by kernel_rfl
theorem cells189 : Tryz.prog.cellsOf 189 = 1 := by kernel_rfl
theorem zero189 : zeroPV Tryz.prog 189 = some [.nilptr] := by kernel_rfl
set_option maxRecDepth 100000
theorem lda2 {σ : Sg} {id off : Nat} : loadPV Tryz.prog σ 2 (.ptr id off) = ldS σ id off := ldS_of Tryz.underlying2 rfl
theorem ela2 {σ : Sg} {es i off : Nat} {l : List PV} : loadPV Tryz.prog σ 2 (.eptr es l i off) = elS l i off := elS_of Tryz.underlying2 rfl
theorem sto2 {σ : Sg} {id off : Nat} {p : PV} : storePV Tryz.prog σ 2 (.ptr id off) p = stX 1 σ id off p := stX_of Tryz.underlying2 cells2 p
theorem lda3 {σ : Sg} {id off : Nat} : loadPV Tryz.prog σ 3 (.ptr id off) = ldS σ id off := ldS_of Tryz.underlying3 rfl
theorem ela3 {σ : Sg} {es i off : Nat} {l : List PV} : loadPV Tryz.prog σ 3 (.eptr es l i off) = elS l i off := elS_of Tryz.underlying3 rfl
theorem sto3 {σ : Sg} {id off : Nat} {p : PV} : storePV Tryz.prog σ 3 (.ptr id off) p = stX 1 σ id off p := stX_of Tryz.underlying3 cells3 p
theorem lda4 {σ : Sg} {id off : Nat} : loadPV Tryz.prog σ 4 (.ptr id off) = ldS σ id off := ldS_of Tryz.underlying4 rfl
theorem ela4 {σ : Sg} {es i off : Nat} {l : List PV} : loadPV Tryz.prog σ 4 (.eptr es l i off) = elS l i off := elS_of Tryz.underlying4 rfl
theorem sto4 {σ : Sg} {id off : Nat} {p : PV} : storePV Tryz.prog σ 4 (.ptr id off) p = stX 1 σ id off p := stX_of Tryz.underlying4 cells4 p
theorem lda5 {σ : Sg} {id off : Nat} : loadPV Tryz.prog σ 5 (.ptr id off) = ldS σ id off := ldS_of Tryz.underlying5 rfl
theorem ela5 {σ : Sg} {es i off : Nat} {l : List PV} : loadPV Tryz.prog σ 5 (.eptr es l i off) = elS l i off := elS_of Tryz.underlying5 rfl
theorem sto5 {σ : Sg} {id off : Nat} {p : PV} : storePV Tryz.prog σ 5 (.ptr id off) p = stX 1 σ id off p := stX_of Tryz.underlying5 cells5 p
theorem lda9 {σ : Sg} {id off : Nat} : loadPV Tryz.prog σ 9 (.ptr id off) = ldS σ id off := ldS_of Tryz.underlying9 rfl
theorem ela9 {σ : Sg} {es i off : Nat} {l : List PV} : loadPV Tryz.prog σ 9 (.eptr es l i off) = elS l i off := elS_of Tryz.underlying9 rfl
theorem sto9 {σ : Sg} {id off : Nat} {p : PV} : storePV Tryz.prog σ 9 (.ptr id off) p = stX 1 σ id off p := stX_of Tryz.underlying9 cells9 p
theorem lda22 {σ : Sg} {id off : Nat} : loadPV Tryz.prog σ 22 (.ptr id off) = ldS σ id off := ldS_of Tryz.underlying22 rfl
theorem ela22 {σ : Sg} {es i off : Nat} {l : List PV} : loadPV Tryz.prog σ 22 (.eptr es l i off) = elS l i off := elS_of Tryz.underlying22 rfl
theorem sto22 {σ : Sg} {id off : Nat} {p : PV} : storePV Tryz.prog σ 22 (.ptr id off) p = stX 1 σ id off p := stX_of Tryz.underlying22 cells22 p
theorem ia22 {l : List PV} {own : Own} {k : IntKind} {i : Int} : indexAddrPV Tryz.prog 22 (.isl l own) (.int k i) = iaX 1 l i := iaX_of Tryz.underlying22 Tryz.underlying3 cells3 k i
theorem iam22 {id off len : Nat} {k : IntKind} {i : Int} : indexAddrPV Tryz.prog 22 (.msl id off len) (.int k i) = iaM 1 id off len i := iaM_of Tryz.underlying22 Tryz.underlying3 cells3 k len i
theorem len22 {l : List PV} {own : Own} : lenPV Tryz.prog 22 (.isl l own) = some (.int .i64 l.length) := len_of Tryz.underlying22
theorem lenm22 {id off n : Nat} : lenPV Tryz.prog 22 (.msl id off n) = some (.int .i64 n) := lenM_of Tryz.underlying22 n
theorem bs22 {len : Nat} {parts : List (Nat × PV)} : buildSlicePV Tryz.prog 22 len parts = bsX 1 len parts := bsX_of Tryz.underlying22 Tryz.underlying3 cells3 zero3 len parts
theorem app22 {σ : Sg} {l m : List PV} {own own' : Own} : appendPV Tryz.prog σ 22 22 (.isl l own) (.isl m own') = appX 1 8 σ l own m := appX_of Tryz.underlying22 Tryz.underlying3 cells3 bytes3 (by decide) (by decide) zero3 rfl
theorem lda23 {σ : Sg} {id off : Nat} : loadPV Tryz.prog σ 23 (.ptr id off) = ldS σ id off := ldS_of Tryz.underlying23 rfl
theorem ela23 {σ : Sg} {es i off : Nat} {l : List PV} : loadPV Tryz.prog σ 23 (.eptr es l i off) = elS l i off := elS_of Tryz.underlying23 rfl
theorem sto23 {σ : Sg} {id off : Nat} {p : PV} : storePV Tryz.prog σ 23 (.ptr id off) p = stX 1 σ id off p := stX_of Tryz.underlying23 cells23 p
theorem ia23 {l : List PV} {own : Own} {k : IntKind} {i : Int} : indexAddrPV Tryz.prog 23 (.isl l own) (.int k i) = iaX 3 l i := iaX_of Tryz.underlying23 Tryz.underlying45 cells45 k i
theorem iam23 {id off len : Nat} {k : IntKind} {i : Int} : indexAddrPV Tryz.prog 23 (.msl id off len) (.int k i) = iaM 3 id off len i := iaM_of Tryz.underlying23 Tryz.underlying45 cells45 k len i
theorem len23 {l : List PV} {own : Own} : lenPV Tryz.prog 23 (.isl l own) = some (.int .i64 l.length) := len_of Tryz.underlying23
theorem lenm23 {id off n : Nat} : lenPV Tryz.prog 23 (.msl id off n) = some (.int .i64 n) := lenM_of Tryz.underlying23 n
theorem bs23 {len : Nat} {parts : List (Nat × PV)} : buildSlicePV Tryz.prog 23 len parts = bsX 3 len parts := bsX_of Tryz.underlying23 Tryz.underlying45 cells45 zero45 len parts
theorem app23 {σ : Sg} {l m : List PV} {own own' : Own} : appendPV Tryz.prog σ 23 23 (.isl l own) (.isl m own') = appX 3 24 σ l own m := appX_of Tryz.underlying23 Tryz.underlying45 cells45 bytes45 (by decide) (by decide) zero45 rfl
theorem lda24 {σ : Sg} {id off : Nat} : loadPV Tryz.prog σ 24 (.ptr id off) = ldA 5 σ id off := ldA_of Tryz.underlying24 rfl cells24
theorem ela24 {σ : Sg} {es i off : Nat} {l : List PV} : loadPV Tryz.prog σ 24 (.eptr es l i off) = elA 5 l i off := elA_of Tryz.underlying24 rfl cells24
theorem sto24 {σ : Sg} {id off : Nat} {p : PV} : storePV Tryz.prog σ 24 (.ptr id off) p = stX 5 σ id off p := stX_of Tryz.underlying24 cells24 p
theorem fa24_0 {id off : Nat} : fieldAddrPV Tryz.prog 24 (.ptr id off) 0 = some (.ptr id (off + 0)) := fa1_of Tryz.underlying24 (by rfl) (by exact Tryz.underlying3) (by exact cells3) (by rfl) (by rfl)
theorem fae24_0 {es i off : Nat} {l : List PV} : fieldAddrPV Tryz.prog 24 (.eptr es l i off) 0 = some (.eptr es l i (off + 0)) := fa2_of Tryz.underlying24 (by rfl) (by exact Tryz.underlying3) (by exact cells3) (by rfl) (by rfl)
theorem fp24_0 {cs : List PV} : fieldPV Tryz.prog 24 (.agg cs) 0 = cs[0]? := fpS_of Tryz.underlying24 (by rfl) (by exact Tryz.underlying3) (by rfl) (by rfl) cs
theorem fa24_1 {id off : Nat} : fieldAddrPV Tryz.prog 24 (.ptr id off) 1 = some (.ptr id (off + 1)) := fa1_of Tryz.underlying24 (by rfl) (by exact Tryz.underlying3) (by exact cells3) (by rfl) (by rfl)
theorem fae24_1 {es i off : Nat} {l : List PV} : fieldAddrPV Tryz.prog 24 (.eptr es l i off) 1 = some (.eptr es l i (off + 1)) := fa2_of Tryz.underlying24 (by rfl) (by exact Tryz.underlying3) (by exact cells3) (by rfl) (by rfl)
theorem fp24_1 {cs : List PV} : fieldPV Tryz.prog 24 (.agg cs) 1 = cs[1]? := fpS_of Tryz.underlying24 (by rfl) (by exact Tryz.underlying3) (by rfl) (by rfl) cs
theorem fa24_2 {id off : Nat} : fieldAddrPV Tryz.prog 24 (.ptr id off) 2 = some (.ptr id (off + 2)) := fa1_of Tryz.underlying24 (by rfl) (by exact Tryz.underlying3) (by exact cells3) (by rfl) (by rfl)
theorem fae24_2 {es i off : Nat} {l : List PV} : fieldAddrPV Tryz.prog 24 (.eptr es l i off) 2 = some (.eptr es l i (off + 2)) := fa2_of Tryz.underlying24 (by rfl) (by exact Tryz.underlying3) (by exact cells3) (by rfl) (by rfl)
theorem fp24_2 {cs : List PV} : fieldPV Tryz.prog 24 (.agg cs) 2 = cs[2]? := fpS_of Tryz.underlying24 (by rfl) (by exact Tryz.underlying3) (by rfl) (by rfl) cs
theorem fa24_3 {id off : Nat} : fieldAddrPV Tryz.prog 24 (.ptr id off) 3 = some (.ptr id (off + 3)) := fa1_of Tryz.underlying24 (by rfl) (by exact Tryz.underlying3) (by exact cells3) (by rfl) (by rfl)
theorem fae24_3 {es i off : Nat} {l : List PV} : fieldAddrPV Tryz.prog 24 (.eptr es l i off) 3 = some (.eptr es l i (off + 3)) := fa2_of Tryz.underlying24 (by rfl) (by exact Tryz.underlying3) (by exact cells3) (by rfl) (by rfl)
theorem fp24_3 {cs : List PV} : fieldPV Tryz.prog 24 (.agg cs) 3 = cs[3]? := fpS_of Tryz.underlying24 (by rfl) (by exact Tryz.underlying3) (by rfl) (by rfl) cs
theorem fa24_4 {id off : Nat} : fieldAddrPV Tryz.prog 24 (.ptr id off) 4 = some (.ptr id (off + 4)) := fa1_of Tryz.underlying24 (by rfl) (by exact Tryz.underlying23) (by exact cells23) (by rfl) (by rfl)
theorem fae24_4 {es i off : Nat} {l : List PV} : fieldAddrPV Tryz.prog 24 (.eptr es l i off) 4 = some (.eptr es l i (off + 4)) := fa2_of Tryz.underlying24 (by rfl) (by exact Tryz.underlying23) (by exact cells23) (by rfl) (by rfl)
theorem fp24_4 {cs : List PV} : fieldPV Tryz.prog 24 (.agg cs) 4 = cs[4]? := fpS_of Tryz.underlying24 (by rfl) (by exact Tryz.underlying23) (by rfl) (by rfl) cs
theorem bld24 {parts : List (Nat × PV)} : buildPV Tryz.prog 24 parts = bldX [.int .i64 0, .int .i64 0, .int .i64 0, .int .i64 0, .isl [] .exact] [(0, 1), (1, 1), (2, 1), (3, 1), (4, 1)] parts := bldX_of zero24 Tryz.underlying24 (by kernel_rfl) (by kernel_rfl) parts
theorem lda25 {σ : Sg} {id off : Nat} : loadPV Tryz.prog σ 25 (.ptr id off) = ldA 5 σ id off := ldA_of Tryz.underlying25 rfl cells25
theorem ela25 {σ : Sg} {es i off : Nat} {l : List PV} : loadPV Tryz.prog σ 25 (.eptr es l i off) = elA 5 l i off := elA_of Tryz.underlying25 rfl cells25
theorem sto25 {σ : Sg} {id off : Nat} {p : PV} : storePV Tryz.prog σ 25 (.ptr id off) p = stX 5 σ id off p := stX_of Tryz.underlying25 cells25 p
theorem fa25_0 {id off : Nat} : fieldAddrPV Tryz.prog 25 (.ptr id off) 0 = some (.ptr id (off + 0)) := fa1_of Tryz.underlying25 (by rfl) (by exact Tryz.underlying3) (by exact cells3) (by rfl) (by rfl)
theorem fae25_0 {es i off : Nat} {l : List PV} : fieldAddrPV Tryz.prog 25 (.eptr es l i off) 0 = some (.eptr es l i (off + 0)) := fa2_of Tryz.underlying25 (by rfl) (by exact Tryz.underlying3) (by exact cells3) (by rfl) (by rfl)
theorem fp25_0 {cs : List PV} : fieldPV Tryz.prog 25 (.agg cs) 0 = cs[0]? := fpS_of Tryz.underlying25 (by rfl) (by exact Tryz.underlying3) (by rfl) (by rfl) cs
theorem fa25_1 {id off : Nat} : fieldAddrPV Tryz.prog 25 (.ptr id off) 1 = some (.ptr id (off + 1)) := fa1_of Tryz.underlying25 (by rfl) (by exact Tryz.underlying3) (by exact cells3) (by rfl) (by rfl)
theorem fae25_1 {es i off : Nat} {l : List PV} : fieldAddrPV Tryz.prog 25 (.eptr es l i off) 1 = some (.eptr es l i (off + 1)) := fa2_of Tryz.underlying25 (by rfl) (by exact Tryz.underlying3) (by exact cells3) (by rfl) (by rfl)
theorem fp25_1 {cs : List PV} : fieldPV Tryz.prog 25 (.agg cs) 1 = cs[1]? := fpS_of Tryz.underlying25 (by rfl) (by exact Tryz.underlying3) (by rfl) (by rfl) cs
theorem fa25_2 {id off : Nat} : fieldAddrPV Tryz.prog 25 (.ptr id off) 2 = some (.ptr id (off + 2)) := fa1_of Tryz.underlying25 (by rfl) (by exact Tryz.underlying3) (by exact cells3) (by rfl) (by rfl)
theorem fae25_2 {es i off : Nat} {l : List PV} : fieldAddrPV Tryz.prog 25 (.eptr es l i off) 2 = some (.eptr es l i (off + 2)) := fa2_of Tryz.underlying25 (by rfl) (by exact Tryz.underlying3) (by exact cells3) (by rfl) (by rfl)
theorem fp25_2 {cs : List PV} : fieldPV Tryz.prog 25 (.agg cs) 2 = cs[2]? := fpS_of Tryz.underlying25 (by rfl) (by exact Tryz.underlying3) (by rfl) (by rfl) cs
theorem fa25_3 {id off : Nat} : fieldAddrPV Tryz.prog 25 (.ptr id off) 3 = some (.ptr id (off + 3)) := fa1_of Tryz.underlying25 (by rfl) (by exact Tryz.underlying3) (by exact cells3) (by rfl) (by rfl)
theorem fae25_3 {es i off : Nat} {l : List PV} : fieldAddrPV Tryz.prog 25 (.eptr es l i off) 3 = some (.eptr es l i (off + 3)) := fa2_of Tryz.underlying25 (by rfl) (by exact Tryz.underlying3) (by exact cells3) (by rfl) (by rfl)
theorem fp25_3 {cs : List PV} : fieldPV Tryz.prog 25 (.agg cs) 3 = cs[3]? := fpS_of Tryz.underlying25 (by rfl) (by exact Tryz.underlying3) (by rfl) (by rfl) cs
theorem fa25_4 {id off : Nat} : fieldAddrPV Tryz.prog 25 (.ptr id off) 4 = some (.ptr id (off + 4)) := fa1_of Tryz.underlying25 (by rfl) (by exact Tryz.underlying23) (by exact cells23) (by rfl) (by rfl)
theorem fae25_4 {es i off : Nat} {l : List PV} : fieldAddrPV Tryz.prog 25 (.eptr es l i off) 4 = some (.eptr es l i (off + 4)) := fa2_of Tryz.underlying25 (by rfl) (by exact Tryz.underlying23) (by exact cells23) (by rfl) (by rfl)
theorem fp25_4 {cs : List PV} : fieldPV Tryz.prog 25 (.agg cs) 4 = cs[4]? := fpS_of Tryz.underlying25 (by rfl) (by exact Tryz.underlying23) (by rfl) (by rfl) cs
theorem bld25 {parts : List (Nat × PV)} : buildPV Tryz.prog 25 parts = bldX [.int .i64 0, .int .i64 0, .int .i64 0, .int .i64 0, .isl [] .exact] [(0, 1), (1, 1), (2, 1), (3, 1), (4, 1)] parts := bldX_of zero25 Tryz.underlying25 (by kernel_rfl) (by kernel_rfl) parts
theorem lda26 {σ : Sg} {id off : Nat} : loadPV Tryz.prog σ 26 (.ptr id off) = ldS σ id off := ldS_of Tryz.underlying26 rfl
theorem ela26 {σ : Sg} {es i off : Nat} {l : List PV} : loadPV Tryz.prog σ 26 (.eptr es l i off) = elS l i off := elS_of Tryz.underlying26 rfl
theorem sto26 {σ : Sg} {id off : Nat} {p : PV} : storePV Tryz.prog σ 26 (.ptr id off) p = stX 1 σ id off p := stX_of Tryz.underlying26 cells26 p
theorem ia26 {l : List PV} {own : Own} {k : IntKind} {i : Int} : indexAddrPV Tryz.prog 26 (.isl l own) (.int k i) = iaX 6 l i := iaX_of Tryz.underlying26 Tryz.underlying51 cells51 k i
theorem iam26 {id off len : Nat} {k : IntKind} {i : Int} : indexAddrPV Tryz.prog 26 (.msl id off len) (.int k i) = iaM 6 id off len i := iaM_of Tryz.underlying26 Tryz.underlying51 cells51 k len i
theorem len26 {l : List PV} {own : Own} : lenPV Tryz.prog 26 (.isl l own) = some (.int .i64 l.length) := len_of Tryz.underlying26
theorem lenm26 {id off n : Nat} : lenPV Tryz.prog 26 (.msl id off n) = some (.int .i64 n) := lenM_of Tryz.underlying26 n
theorem bs26 {len : Nat} {parts : List (Nat × PV)} : buildSlicePV Tryz.prog 26 len parts = bsX 6 len parts := bsX_of Tryz.underlying26 Tryz.underlying51 cells51 zero51 len parts
theorem app26 {σ : Sg} {l m : List PV} {own own' : Own} : appendPV Tryz.prog σ 26 26 (.isl l own) (.isl m own') = appX 6 48 σ l own m := appX_of Tryz.underlying26 Tryz.underlying51 cells51 bytes51 (by decide) (by decide) zero51 rfl
theorem lda29 {σ : Sg} {id off : Nat} : loadPV Tryz.prog σ 29 (.ptr id off) = ldS σ id off := ldS_of Tryz.underlying29 rfl
theorem ela29 {σ : Sg} {es i off : Nat} {l : List PV} : loadPV Tryz.prog σ 29 (.eptr es l i off) = elS l i off := elS_of Tryz.underlying29 rfl
theorem sto29 {σ : Sg} {id off : Nat} {p : PV} : storePV Tryz.prog σ 29 (.ptr id off) p = stX 1 σ id off p := stX_of Tryz.underlying29 cells29 p
theorem lda31 {σ : Sg} {id off : Nat} : loadPV Tryz.prog σ 31 (.ptr id off) = ldS σ id off := ldS_of Tryz.underlying31 rfl
theorem ela31 {σ : Sg} {es i off : Nat} {l : List PV} : loadPV Tryz.prog σ 31 (.eptr es l i off) = elS l i off := elS_of Tryz.underlying31 rfl
theorem sto31 {σ : Sg} {id off : Nat} {p : PV} : storePV Tryz.prog σ 31 (.ptr id off) p = stX 1 σ id off p := stX_of Tryz.underlying31 cells31 p
theorem lda34 {σ : Sg} {id off : Nat} : loadPV Tryz.prog σ 34 (.ptr id off) = ldS σ id off := ldS_of Tryz.underlying34 rfl
theorem ela34 {σ : Sg} {es i off : Nat} {l : List PV} : loadPV Tryz.prog σ 34 (.eptr es l i off) = elS l i off := elS_of Tryz.underlying34 rfl
theorem sto34 {σ : Sg} {id off : Nat} {p : PV} : storePV Tryz.prog σ 34 (.ptr id off) p = stX 1 σ id off p := stX_of Tryz.underlying34 cells34 p
theorem ia34 {l : List PV} {own : Own} {k : IntKind} {i : Int} : indexAddrPV Tryz.prog 34 (.isl l own) (.int k i) = iaX 5 l i := iaX_of Tryz.underlying34 Tryz.underlying39 cells39 k i
theorem iam34 {id off len : Nat} {k : IntKind} {i : Int} : indexAddrPV Tryz.prog 34 (.msl id off len) (.int k i) = iaM 5 id off len i := iaM_of Tryz.underlying34 Tryz.underlying39 cells39 k len i
theorem len34 {l : List PV} {own : Own} : lenPV Tryz.prog 34 (.isl l own) = some (.int .i64 l.length) := len_of Tryz.underlying34
theorem lenm34 {id off n : Nat} : lenPV Tryz.prog 34 (.msl id off n) = some (.int .i64 n) := lenM_of Tryz.underlying34 n
theorem bs34 {len : Nat} {parts : List (Nat × PV)} : buildSlicePV Tryz.prog 34 len parts = bsX 5 len parts := bsX_of Tryz.underlying34 Tryz.underlying39 cells39 zero39 len parts
theorem app34 {σ : Sg} {l m : List PV} {own own' : Own} : appendPV Tryz.prog σ 34 34 (.isl l own) (.isl m own') = appX 5 120 σ l own m := appX_of Tryz.underlying34 Tryz.underlying39 cells39 bytes39 (by decide) (by decide) zero39 rfl
theorem lda38 {σ : Sg} {id off : Nat} : loadPV Tryz.prog σ 38 (.ptr id off) = ldA 5 σ id off := ldA_of Tryz.underlying38 rfl cells38
theorem ela38 {σ : Sg} {es i off : Nat} {l : List PV} : loadPV Tryz.prog σ 38 (.eptr es l i off) = elA 5 l i off := elA_of Tryz.underlying38 rfl cells38
theorem sto38 {σ : Sg} {id off : Nat} {p : PV} : storePV Tryz.prog σ 38 (.ptr id off) p = stX 5 σ id off p := stX_of Tryz.underlying38 cells38 p
theorem fa38_0 {id off : Nat} : fieldAddrPV Tryz.prog 38 (.ptr id off) 0 = some (.ptr id (off + 0)) := fa1_of Tryz.underlying38 (by rfl) (by exact Tryz.underlying22) (by exact cells22) (by rfl) (by rfl)
theorem fae38_0 {es i off : Nat} {l : List PV} : fieldAddrPV Tryz.prog 38 (.eptr es l i off) 0 = some (.eptr es l i (off + 0)) := fa2_of Tryz.underlying38 (by rfl) (by exact Tryz.underlying22) (by exact cells22) (by rfl) (by rfl)
theorem fp38_0 {cs : List PV} : fieldPV Tryz.prog 38 (.agg cs) 0 = cs[0]? := fpS_of Tryz.underlying38 (by rfl) (by exact Tryz.underlying22) (by rfl) (by rfl) cs
theorem fa38_1 {id off : Nat} : fieldAddrPV Tryz.prog 38 (.ptr id off) 1 = some (.ptr id (off + 1)) := fa1_of Tryz.underlying38 (by rfl) (by exact Tryz.underlying22) (by exact cells22) (by rfl) (by rfl)
theorem fae38_1 {es i off : Nat} {l : List PV} : fieldAddrPV Tryz.prog 38 (.eptr es l i off) 1 = some (.eptr es l i (off + 1)) := fa2_of Tryz.underlying38 (by rfl) (by exact Tryz.underlying22) (by exact cells22) (by rfl) (by rfl)
theorem fp38_1 {cs : List PV} : fieldPV Tryz.prog 38 (.agg cs) 1 = cs[1]? := fpS_of Tryz.underlying38 (by rfl) (by exact Tryz.underlying22) (by rfl) (by rfl) cs
theorem fa38_2 {id off : Nat} : fieldAddrPV Tryz.prog 38 (.ptr id off) 2 = some (.ptr id (off + 2)) := fa1_of Tryz.underlying38 (by rfl) (by exact Tryz.underlying22) (by exact cells22) (by rfl) (by rfl)
theorem fae38_2 {es i off : Nat} {l : List PV} : fieldAddrPV Tryz.prog 38 (.eptr es l i off) 2 = some (.eptr es l i (off + 2)) := fa2_of Tryz.underlying38 (by rfl) (by exact Tryz.underlying22) (by exact cells22) (by rfl) (by rfl)
theorem fp38_2 {cs : List PV} : fieldPV Tryz.prog 38 (.agg cs) 2 = cs[2]? := fpS_of Tryz.underlying38 (by rfl) (by exact Tryz.underlying22) (by rfl) (by rfl) cs
theorem fa38_3 {id off : Nat} : fieldAddrPV Tryz.prog 38 (.ptr id off) 3 = some (.ptr id (off + 3)) := fa1_of Tryz.underlying38 (by rfl) (by exact Tryz.underlying22) (by exact cells22) (by rfl) (by rfl)
theorem fae38_3 {es i off : Nat} {l : List PV} : fieldAddrPV Tryz.prog 38 (.eptr es l i off) 3 = some (.eptr es l i (off + 3)) := fa2_of Tryz.underlying38 (by rfl) (by exact Tryz.underlying22) (by exact cells22) (by rfl) (by rfl)
theorem fp38_3 {cs : List PV} : fieldPV Tryz.prog 38 (.agg cs) 3 = cs[3]? := fpS_of Tryz.underlying38 (by rfl) (by exact Tryz.underlying22) (by rfl) (by rfl) cs
theorem fa38_4 {id off : Nat} : fieldAddrPV Tryz.prog 38 (.ptr id off) 4 = some (.ptr id (off + 4)) := fa1_of Tryz.underlying38 (by rfl) (by exact Tryz.underlying22) (by exact cells22) (by rfl) (by rfl)
theorem fae38_4 {es i off : Nat} {l : List PV} : fieldAddrPV Tryz.prog 38 (.eptr es l i off) 4 = some (.eptr es l i (off + 4)) := fa2_of Tryz.underlying38 (by rfl) (by exact Tryz.underlying22) (by exact cells22) (by rfl) (by rfl)
theorem fp38_4 {cs : List PV} : fieldPV Tryz.prog 38 (.agg cs) 4 = cs[4]? := fpS_of Tryz.underlying38 (by rfl) (by exact Tryz.underlying22) (by rfl) (by rfl) cs
theorem bld38 {parts : List (Nat × PV)} : buildPV Tryz.prog 38 parts = bldX [.isl [] .exact, .isl [] .exact, .isl [] .exact, .isl [] .exact, .isl [] .exact] [(0, 1), (1, 1), (2, 1), (3, 1), (4, 1)] parts := bldX_of zero38 Tryz.underlying38 (by kernel_rfl) (by kernel_rfl) parts
theorem lda39 {σ : Sg} {id off : Nat} : loadPV Tryz.prog σ 39 (.ptr id off) = ldA 5 σ id off := ldA_of Tryz.underlying39 rfl cells39
theorem ela39 {σ : Sg} {es i off : Nat} {l : List PV} : loadPV Tryz.prog σ 39 (.eptr es l i off) = elA 5 l i off := elA_of Tryz.underlying39 rfl cells39
theorem sto39 {σ : Sg} {id off : Nat} {p : PV} : storePV Tryz.prog σ 39 (.ptr id off) p = stX 5 σ id off p := stX_of Tryz.underlying39 cells39 p
theorem fa39_0 {id off : Nat} : fieldAddrPV Tryz.prog 39 (.ptr id off) 0 = some (.ptr id (off + 0)) := fa1_of Tryz.underlying39 (by rfl) (by exact Tryz.underlying22) (by exact cells22) (by rfl) (by rfl)
theorem fae39_0 {es i off : Nat} {l : List PV} : fieldAddrPV Tryz.prog 39 (.eptr es l i off) 0 = some (.eptr es l i (off + 0)) := fa2_of Tryz.underlying39 (by rfl) (by exact Tryz.underlying22) (by exact cells22) (by rfl) (by rfl)
theorem fp39_0 {cs : List PV} : fieldPV Tryz.prog 39 (.agg cs) 0 = cs[0]? := fpS_of Tryz.underlying39 (by rfl) (by exact Tryz.underlying22) (by rfl) (by rfl) cs
theorem fa39_1 {id off : Nat} : fieldAddrPV Tryz.prog 39 (.ptr id off) 1 = some (.ptr id (off + 1)) := fa1_of Tryz.underlying39 (by rfl) (by exact Tryz.underlying22) (by exact cells22) (by rfl) (by rfl)
theorem fae39_1 {es i off : Nat} {l : List PV} : fieldAddrPV Tryz.prog 39 (.eptr es l i off) 1 = some (.eptr es l i (off + 1)) := fa2_of Tryz.underlying39 (by rfl) (by exact Tryz.underlying22) (by exact cells22) (by rfl) (by rfl)
theorem fp39_1 {cs : List PV} : fieldPV Tryz.prog 39 (.agg cs) 1 = cs[1]? := fpS_of Tryz.underlying39 (by rfl) (by exact Tryz.underlying22) (by rfl) (by rfl) cs
theorem fa39_2 {id off : Nat} : fieldAddrPV Tryz.prog 39 (.ptr id off) 2 = some (.ptr id (off + 2)) := fa1_of Tryz.underlying39 (by rfl) (by exact Tryz.underlying22) (by exact cells22) (by rfl) (by rfl)
theorem fae39_2 {es i off : Nat} {l : List PV} : fieldAddrPV Tryz.prog 39 (.eptr es l i off) 2 = some (.eptr es l i (off + 2)) := fa2_of Tryz.underlying39 (by rfl) (by exact Tryz.underlying22) (by exact cells22) (by rfl) (by rfl)
theorem fp39_2 {cs : List PV} : fieldPV Tryz.prog 39 (.agg cs) 2 = cs[2]? := fpS_of Tryz.underlying39 (by rfl) (by exact Tryz.underlying22) (by rfl) (by rfl) cs
theorem fa39_3 {id off : Nat} : fieldAddrPV Tryz.prog 39 (.ptr id off) 3 = some (.ptr id (off + 3)) := fa1_of Tryz.underlying39 (by rfl) (by exact Tryz.underlying22) (by exact cells22) (by rfl) (by rfl)
theorem fae39_3 {es i off : Nat} {l : List PV} : fieldAddrPV Tryz.prog 39 (.eptr es l i off) 3 = some (.eptr es l i (off + 3)) := fa2_of Tryz.underlying39 (by rfl) (by exact Tryz.underlying22) (by exact cells22) (by rfl) (by rfl)
theorem fp39_3 {cs : List PV} : fieldPV Tryz.prog 39 (.agg cs) 3 = cs[3]? := fpS_of Tryz.underlying39 (by rfl) (by exact Tryz.underlying22) (by rfl) (by rfl) cs
theorem fa39_4 {id off : Nat} : fieldAddrPV Tryz.prog 39 (.ptr id off) 4 = some (.ptr id (off + 4)) := fa1_of Tryz.underlying39 (by rfl) (by exact Tryz.underlying22) (by exact cells22) (by rfl) (by rfl)
theorem fae39_4 {es i off : Nat} {l : List PV} : fieldAddrPV Tryz.prog 39 (.eptr es l i off) 4 = some (.eptr es l i (off + 4)) := fa2_of Tryz.underlying39 (by rfl) (by exact Tryz.underlying22) (by exact cells22) (by rfl) (by rfl)
theorem fp39_4 {cs : List PV} : fieldPV Tryz.prog 39 (.agg cs) 4 = cs[4]? := fpS_of Tryz.underlying39 (by rfl) (by exact Tryz.underlying22) (by rfl) (by rfl) cs
theorem bld39 {parts : List (Nat × PV)} : buildPV Tryz.prog 39 parts = bldX [.isl [] .exact, .isl [] .exact, .isl [] .exact, .isl [] .exact, .isl [] .exact] [(0, 1), (1, 1), (2, 1), (3, 1), (4, 1)] parts := bldX_of zero39 Tryz.underlying39 (by kernel_rfl) (by kernel_rfl) parts
theorem lda44 {σ : Sg} {id off : Nat} : loadPV Tryz.prog σ 44 (.ptr id off) = ldA 3 σ id off := ldA_of Tryz.underlying44 rfl cells44
theorem ela44 {σ : Sg} {es i off : Nat} {l : List PV} : loadPV Tryz.prog σ 44 (.eptr es l i off) = elA 3 l i off := elA_of Tryz.underlying44 rfl cells44
theorem sto44 {σ : Sg} {id off : Nat} {p : PV} : storePV Tryz.prog σ 44 (.ptr id off) p = stX 3 σ id off p := stX_of Tryz.underlying44 cells44 p
theorem fa44_0 {id off : Nat} : fieldAddrPV Tryz.prog 44 (.ptr id off) 0 = some (.ptr id (off + 0)) := fa1_of Tryz.underlying44 (by rfl) (by exact Tryz.underlying3) (by exact cells3) (by rfl) (by rfl)
theorem fae44_0 {es i off : Nat} {l : List PV} : fieldAddrPV Tryz.prog 44 (.eptr es l i off) 0 = some (.eptr es l i (off + 0)) := fa2_of Tryz.underlying44 (by rfl) (by exact Tryz.underlying3) (by exact cells3) (by rfl) (by rfl)
theorem fp44_0 {cs : List PV} : fieldPV Tryz.prog 44 (.agg cs) 0 = cs[0]? := fpS_of Tryz.underlying44 (by rfl) (by exact Tryz.underlying3) (by rfl) (by rfl) cs
theorem fa44_1 {id off : Nat} : fieldAddrPV Tryz.prog 44 (.ptr id off) 1 = some (.ptr id (off + 1)) := fa1_of Tryz.underlying44 (by rfl) (by exact Tryz.underlying3) (by exact cells3) (by rfl) (by rfl)
theorem fae44_1 {es i off : Nat} {l : List PV} : fieldAddrPV Tryz.prog 44 (.eptr es l i off) 1 = some (.eptr es l i (off + 1)) := fa2_of Tryz.underlying44 (by rfl) (by exact Tryz.underlying3) (by exact cells3) (by rfl) (by rfl)
theorem fp44_1 {cs : List PV} : fieldPV Tryz.prog 44 (.agg cs) 1 = cs[1]? := fpS_of Tryz.underlying44 (by rfl) (by exact Tryz.underlying3) (by rfl) (by rfl) cs
theorem fa44_2 {id off : Nat} : fieldAddrPV Tryz.prog 44 (.ptr id off) 2 = some (.ptr id (off + 2)) := fa1_of Tryz.underlying44 (by rfl) (by exact Tryz.underlying3) (by exact cells3) (by rfl) (by rfl)
theorem fae44_2 {es i off : Nat} {l : List PV} : fieldAddrPV Tryz.prog 44 (.eptr es l i off) 2 = some (.eptr es l i (off + 2)) := fa2_of Tryz.underlying44 (by rfl) (by exact Tryz.underlying3) (by exact cells3) (by rfl) (by rfl)
theorem fp44_2 {cs : List PV} : fieldPV Tryz.prog 44 (.agg cs) 2 = cs[2]? := fpS_of Tryz.underlying44 (by rfl) (by exact Tryz.underlying3) (by rfl) (by rfl) cs
theorem eqs44 {a0 a1 a2 b0 b1 b2 : Int} : eqPV Tryz.prog 44 (.agg [.int .i64 a0, .int .i64 a1, .int .i64 a2]) (.agg [.int .i64 b0, .int .i64 b1, .int .i64 b2]) = some ((a0 == b0) && ((a1 == b1) && ((a2 == b2) && true))) := by kernel_rfl
theorem bld44 {parts : List (Nat × PV)} : buildPV Tryz.prog 44 parts = bldX [.int .i64 0, .int .i64 0, .int .i64 0] [(0, 1), (1, 1), (2, 1)] parts := bldX_of zero44 Tryz.underlying44 (by kernel_rfl) (by kernel_rfl) parts
theorem lda45 {σ : Sg} {id off : Nat} : loadPV Tryz.prog σ 45 (.ptr id off) = ldA 3 σ id off := ldA_of Tryz.underlying45 rfl cells45
theorem ela45 {σ : Sg} {es i off : Nat} {l : List PV} : loadPV Tryz.prog σ 45 (.eptr es l i off) = elA 3 l i off := elA_of Tryz.underlying45 rfl cells45
theorem sto45 {σ : Sg} {id off : Nat} {p : PV} : storePV Tryz.prog σ 45 (.ptr id off) p = stX 3 σ id off p := stX_of Tryz.underlying45 cells45 p
theorem fa45_0 {id off : Nat} : fieldAddrPV Tryz.prog 45 (.ptr id off) 0 = some (.ptr id (off + 0)) := fa1_of Tryz.underlying45 (by rfl) (by exact Tryz.underlying3) (by exact cells3) (by rfl) (by rfl)
theorem fae45_0 {es i off : Nat} {l : List PV} : fieldAddrPV Tryz.prog 45 (.eptr es l i off) 0 = some (.eptr es l i (off + 0)) := fa2_of Tryz.underlying45 (by rfl) (by exact Tryz.underlying3) (by exact cells3) (by rfl) (by rfl)
theorem fp45_0 {cs : List PV} : fieldPV Tryz.prog 45 (.agg cs) 0 = cs[0]? := fpS_of Tryz.underlying45 (by rfl) (by exact Tryz.underlying3) (by rfl) (by rfl) cs
theorem fa45_1 {id off : Nat} : fieldAddrPV Tryz.prog 45 (.ptr id off) 1 = some (.ptr id (off + 1)) := fa1_of Tryz.underlying45 (by rfl) (by exact Tryz.underlying3) (by exact cells3) (by rfl) (by rfl)
theorem fae45_1 {es i off : Nat} {l : List PV} : fieldAddrPV Tryz.prog 45 (.eptr es l i off) 1 = some (.eptr es l i (off + 1)) := fa2_of Tryz.underlying45 (by rfl) (by exact Tryz.underlying3) (by exact cells3) (by rfl) (by rfl)
theorem fp45_1 {cs : List PV} : fieldPV Tryz.prog 45 (.agg cs) 1 = cs[1]? := fpS_of Tryz.underlying45 (by rfl) (by exact Tryz.underlying3) (by rfl) (by rfl) cs
theorem fa45_2 {id off : Nat} : fieldAddrPV Tryz.prog 45 (.ptr id off) 2 = some (.ptr id (off + 2)) := fa1_of Tryz.underlying45 (by rfl) (by exact Tryz.underlying3) (by exact cells3) (by rfl) (by rfl)
theorem fae45_2 {es i off : Nat} {l : List PV} : fieldAddrPV Tryz.prog 45 (.eptr es l i off) 2 = some (.eptr es l i (off + 2)) := fa2_of Tryz.underlying45 (by rfl) (by exact Tryz.underlying3) (by exact cells3) (by rfl) (by rfl)
theorem fp45_2 {cs : List PV} : fieldPV Tryz.prog 45 (.agg cs) 2 = cs[2]? := fpS_of Tryz.underlying45 (by rfl) (by exact Tryz.underlying3) (by rfl) (by rfl) cs
theorem eqs45 {a0 a1 a2 b0 b1 b2 : Int} : eqPV Tryz.prog 45 (.agg [.int .i64 a0, .int .i64 a1, .int .i64 a2]) (.agg [.int .i64 b0, .int .i64 b1, .int .i64 b2]) = some ((a0 == b0) && ((a1 == b1) && ((a2 == b2) && true))) := by kernel_rfl
theorem bld45 {parts : List (Nat × PV)} : buildPV Tryz.prog 45 parts = bldX [.int .i64 0, .int .i64 0, .int .i64 0] [(0, 1), (1, 1), (2, 1)] parts := bldX_of zero45 Tryz.underlying45 (by kernel_rfl) (by kernel_rfl) parts
theorem lda46 {σ : Sg} {id off : Nat} : loadPV Tryz.prog σ 46 (.ptr id off) = ldS σ id off := ldS_of Tryz.underlying46 rfl
theorem ela46 {σ : Sg} {es i off : Nat} {l : List PV} : loadPV Tryz.prog σ 46 (.eptr es l i off) = elS l i off := elS_of Tryz.underlying46 rfl
theorem sto46 {σ : Sg} {id off : Nat} {p : PV} : storePV Tryz.prog σ 46 (.ptr id off) p = stX 1 σ id off p := stX_of Tryz.underlying46 cells46 p
theorem ia46 {l : List PV} {own : Own} {k : IntKind} {i : Int} : indexAddrPV Tryz.prog 46 (.isl l own) (.int k i) = iaX 4 l i := iaX_of Tryz.underlying46 Tryz.underlying75 cells75 k i
theorem iam46 {id off len : Nat} {k : IntKind} {i : Int} : indexAddrPV Tryz.prog 46 (.msl id off len) (.int k i) = iaM 4 id off len i := iaM_of Tryz.underlying46 Tryz.underlying75 cells75 k len i
theorem len46 {l : List PV} {own : Own} : lenPV Tryz.prog 46 (.isl l own) = some (.int .i64 l.length) := len_of Tryz.underlying46
theorem lenm46 {id off n : Nat} : lenPV Tryz.prog 46 (.msl id off n) = some (.int .i64 n) := lenM_of Tryz.underlying46 n
theorem bs46 {len : Nat} {parts : List (Nat × PV)} : buildSlicePV Tryz.prog 46 len parts = bsX 4 len parts := bsX_of Tryz.underlying46 Tryz.underlying75 cells75 zero75 len parts
theorem app46 {σ : Sg} {l m : List PV} {own own' : Own} : appendPV Tryz.prog σ 46 46 (.isl l own) (.isl m own') = appX 4 32 σ l own m := appX_of Tryz.underlying46 Tryz.underlying75 cells75 bytes75 (by decide) (by decide) zero75 rfl
theorem lda50 {σ : Sg} {id off : Nat} : loadPV Tryz.prog σ 50 (.ptr id off) = ldA 6 σ id off := ldA_of Tryz.underlying50 rfl cells50
theorem ela50 {σ : Sg} {es i off : Nat} {l : List PV} : loadPV Tryz.prog σ 50 (.eptr es l i off) = elA 6 l i off := elA_of Tryz.underlying50 rfl cells50
theorem sto50 {σ : Sg} {id off : Nat} {p : PV} : storePV Tryz.prog σ 50 (.ptr id off) p = stX 6 σ id off p := stX_of Tryz.underlying50 cells50 p
theorem fa50_0 {id off : Nat} : fieldAddrPV Tryz.prog 50 (.ptr id off) 0 = some (.ptr id (off + 0)) := fa1_of Tryz.underlying50 (by rfl) (by exact Tryz.underlying3) (by exact cells3) (by rfl) (by rfl)
theorem fae50_0 {es i off : Nat} {l : List PV} : fieldAddrPV Tryz.prog 50 (.eptr es l i off) 0 = some (.eptr es l i (off + 0)) := fa2_of Tryz.underlying50 (by rfl) (by exact Tryz.underlying3) (by exact cells3) (by rfl) (by rfl)
theorem fp50_0 {cs : List PV} : fieldPV Tryz.prog 50 (.agg cs) 0 = cs[0]? := fpS_of Tryz.underlying50 (by rfl) (by exact Tryz.underlying3) (by rfl) (by rfl) cs
theorem fa50_1 {id off : Nat} : fieldAddrPV Tryz.prog 50 (.ptr id off) 1 = some (.ptr id (off + 1)) := fa1_of Tryz.underlying50 (by rfl) (by exact Tryz.underlying3) (by exact cells3) (by rfl) (by rfl)
theorem fae50_1 {es i off : Nat} {l : List PV} : fieldAddrPV Tryz.prog 50 (.eptr es l i off) 1 = some (.eptr es l i (off + 1)) := fa2_of Tryz.underlying50 (by rfl) (by exact Tryz.underlying3) (by exact cells3) (by rfl) (by rfl)
theorem fp50_1 {cs : List PV} : fieldPV Tryz.prog 50 (.agg cs) 1 = cs[1]? := fpS_of Tryz.underlying50 (by rfl) (by exact Tryz.underlying3) (by rfl) (by rfl) cs
theorem fa50_2 {id off : Nat} : fieldAddrPV Tryz.prog 50 (.ptr id off) 2 = some (.ptr id (off + 2)) := fa1_of Tryz.underlying50 (by rfl) (by exact Tryz.underlying3) (by exact cells3) (by rfl) (by rfl)
theorem fae50_2 {es i off : Nat} {l : List PV} : fieldAddrPV Tryz.prog 50 (.eptr es l i off) 2 = some (.eptr es l i (off + 2)) := fa2_of Tryz.underlying50 (by rfl) (by exact Tryz.underlying3) (by exact cells3) (by rfl) (by rfl)
theorem fp50_2 {cs : List PV} : fieldPV Tryz.prog 50 (.agg cs) 2 = cs[2]? := fpS_of Tryz.underlying50 (by rfl) (by exact Tryz.underlying3) (by rfl) (by rfl) cs
theorem fa50_3 {id off : Nat} : fieldAddrPV Tryz.prog 50 (.ptr id off) 3 = some (.ptr id (off + 3)) := fa1_of Tryz.underlying50 (by rfl) (by exact Tryz.underlying3) (by exact cells3) (by rfl) (by rfl)
theorem fae50_3 {es i off : Nat} {l : List PV} : fieldAddrPV Tryz.prog 50 (.eptr es l i off) 3 = some (.eptr es l i (off + 3)) := fa2_of Tryz.underlying50 (by rfl) (by exact Tryz.underlying3) (by exact cells3) (by rfl) (by rfl)
theorem fp50_3 {cs : List PV} : fieldPV Tryz.prog 50 (.agg cs) 3 = cs[3]? := fpS_of Tryz.underlying50 (by rfl) (by exact Tryz.underlying3) (by rfl) (by rfl) cs
theorem fa50_4 {id off : Nat} : fieldAddrPV Tryz.prog 50 (.ptr id off) 4 = some (.ptr id (off + 4)) := fa1_of Tryz.underlying50 (by rfl) (by exact Tryz.underlying3) (by exact cells3) (by rfl) (by rfl)
theorem fae50_4 {es i off : Nat} {l : List PV} : fieldAddrPV Tryz.prog 50 (.eptr es l i off) 4 = some (.eptr es l i (off + 4)) := fa2_of Tryz.underlying50 (by rfl) (by exact Tryz.underlying3) (by exact cells3) (by rfl) (by rfl)
theorem fp50_4 {cs : List PV} : fieldPV Tryz.prog 50 (.agg cs) 4 = cs[4]? := fpS_of Tryz.underlying50 (by rfl) (by exact Tryz.underlying3) (by rfl) (by rfl) cs
theorem fa50_5 {id off : Nat} : fieldAddrPV Tryz.prog 50 (.ptr id off) 5 = some (.ptr id (off + 5)) := fa1_of Tryz.underlying50 (by rfl) (by exact Tryz.underlying3) (by exact cells3) (by rfl) (by rfl)
theorem fae50_5 {es i off : Nat} {l : List PV} : fieldAddrPV Tryz.prog 50 (.eptr es l i off) 5 = some (.eptr es l i (off + 5)) := fa2_of Tryz.underlying50 (by rfl) (by exact Tryz.underlying3) (by exact cells3) (by rfl) (by rfl)
theorem fp50_5 {cs : List PV} : fieldPV Tryz.prog 50 (.agg cs) 5 = cs[5]? := fpS_of Tryz.underlying50 (by rfl) (by exact Tryz.underlying3) (by rfl) (by rfl) cs
theorem eqs50 {a0 a1 a2 a3 a4 a5 b0 b1 b2 b3 b4 b5 : Int} : eqPV Tryz.prog 50 (.agg [.int .i64 a0, .int .i64 a1, .int .i64 a2, .int .i64 a3, .int .i64 a4, .int .i64 a5]) (.agg [.int .i64 b0, .int .i64 b1, .int .i64 b2, .int .i64 b3, .int .i64 b4, .int .i64 b5]) = some ((a0 == b0) && ((a1 == b1) && ((a2 == b2) && ((a3 == b3) && ((a4 == b4) && ((a5 == b5) && true)))))) := by kernel_rfl
theorem bld50 {parts : List (Nat × PV)} : buildPV Tryz.prog 50 parts = bldX [.int .i64 0, .int .i64 0, .int .i64 0, .int .i64 0, .int .i64 0, .int .i64 0] [(0, 1), (1, 1), (2, 1), (3, 1), (4, 1), (5, 1)] parts := bldX_of zero50 Tryz.underlying50 (by kernel_rfl) (by kernel_rfl) parts
theorem lda51 {σ : Sg} {id off : Nat} : loadPV Tryz.prog σ 51 (.ptr id off) = ldA 6 σ id off := ldA_of Tryz.underlying51 rfl cells51
theorem ela51 {σ : Sg} {es i off : Nat} {l : List PV} : loadPV Tryz.prog σ 51 (.eptr es l i off) = elA 6 l i off := elA_of Tryz.underlying51 rfl cells51
theorem sto51 {σ : Sg} {id off : Nat} {p : PV} : storePV Tryz.prog σ 51 (.ptr id off) p = stX 6 σ id off p := stX_of Tryz.underlying51 cells51 p
theorem fa51_0 {id off : Nat} : fieldAddrPV Tryz.prog 51 (.ptr id off) 0 = some (.ptr id (off + 0)) := fa1_of Tryz.underlying51 (by rfl) (by exact Tryz.underlying3) (by exact cells3) (by rfl) (by rfl)
theorem fae51_0 {es i off : Nat} {l : List PV} : fieldAddrPV Tryz.prog 51 (.eptr es l i off) 0 = some (.eptr es l i (off + 0)) := fa2_of Tryz.underlying51 (by rfl) (by exact Tryz.underlying3) (by exact cells3) (by rfl) (by rfl)
theorem fp51_0 {cs : List PV} : fieldPV Tryz.prog 51 (.agg cs) 0 = cs[0]? := fpS_of Tryz.underlying51 (by rfl) (by exact Tryz.underlying3) (by rfl) (by rfl) cs
theorem fa51_1 {id off : Nat} : fieldAddrPV Tryz.prog 51 (.ptr id off) 1 = some (.ptr id (off + 1)) := fa1_of Tryz.underlying51 (by rfl) (by exact Tryz.underlying3) (by exact cells3) (by rfl) (by rfl)
theorem fae51_1 {es i off : Nat} {l : List PV} : fieldAddrPV Tryz.prog 51 (.eptr es l i off) 1 = some (.eptr es l i (off + 1)) := fa2_of Tryz.underlying51 (by rfl) (by exact Tryz.underlying3) (by exact cells3) (by rfl) (by rfl)
theorem fp51_1 {cs : List PV} : fieldPV Tryz.prog 51 (.agg cs) 1 = cs[1]? := fpS_of Tryz.underlying51 (by rfl) (by exact Tryz.underlying3) (by rfl) (by rfl) cs
theorem fa51_2 {id off : Nat} : fieldAddrPV Tryz.prog 51 (.ptr id off) 2 = some (.ptr id (off + 2)) := fa1_of Tryz.underlying51 (by rfl) (by exact Tryz.underlying3) (by exact cells3) (by rfl) (by rfl)
theorem fae51_2 {es i off : Nat} {l : List PV} : fieldAddrPV Tryz.prog 51 (.eptr es l i off) 2 = some (.eptr es l i (off + 2)) := fa2_of Tryz.underlying51 (by rfl) (by exact Tryz.underlying3) (by exact cells3) (by rfl) (by rfl)
theorem fp51_2 {cs : List PV} : fieldPV Tryz.prog 51 (.agg cs) 2 = cs[2]? := fpS_of Tryz.underlying51 (by rfl) (by exact Tryz.underlying3) (by rfl) (by rfl) cs
theorem fa51_3 {id off : Nat} : fieldAddrPV Tryz.prog 51 (.ptr id off) 3 = some (.ptr id (off + 3)) := fa1_of Tryz.underlying51 (by rfl) (by exact Tryz.underlying3) (by exact cells3) (by rfl) (by rfl)
theorem fae51_3 {es i off : Nat} {l : List PV} : fieldAddrPV Tryz.prog 51 (.eptr es l i off) 3 = some (.eptr es l i (off + 3)) := fa2_of Tryz.underlying51 (by rfl) (by exact Tryz.underlying3) (by exact cells3) (by rfl) (by rfl)
theorem fp51_3 {cs : List PV} : fieldPV Tryz.prog 51 (.agg cs) 3 = cs[3]? := fpS_of Tryz.underlying51 (by rfl) (by exact Tryz.underlying3) (by rfl) (by rfl) cs
theorem fa51_4 {id off : Nat} : fieldAddrPV Tryz.prog 51 (.ptr id off) 4 = some (.ptr id (off + 4)) := fa1_of Tryz.underlying51 (by rfl) (by exact Tryz.underlying3) (by exact cells3) (by rfl) (by rfl)
theorem fae51_4 {es i off : Nat} {l : List PV} : fieldAddrPV Tryz.prog 51 (.eptr es l i off) 4 = some (.eptr es l i (off + 4)) := fa2_of Tryz.underlying51 (by rfl) (by exact Tryz.underlying3) (by exact cells3) (by rfl) (by rfl)
theorem fp51_4 {cs : List PV} : fieldPV Tryz.prog 51 (.agg cs) 4 = cs[4]? := fpS_of Tryz.underlying51 (by rfl) (by exact Tryz.underlying3) (by rfl) (by rfl) cs
theorem fa51_5 {id off : Nat} : fieldAddrPV Tryz.prog 51 (.ptr id off) 5 = some (.ptr id (off + 5)) := fa1_of Tryz.underlying51 (by rfl) (by exact Tryz.underlying3) (by exact cells3) (by rfl) (by rfl)
theorem fae51_5 {es i off : Nat} {l : List PV} : fieldAddrPV Tryz.prog 51 (.eptr es l i off) 5 = some (.eptr es l i (off + 5)) := fa2_of Tryz.underlying51 (by rfl) (by exact Tryz.underlying3) (by exact cells3) (by rfl) (by rfl)
theorem fp51_5 {cs : List PV} : fieldPV Tryz.prog 51 (.agg cs) 5 = cs[5]? := fpS_of Tryz.underlying51 (by rfl) (by exact Tryz.underlying3) (by rfl) (by rfl) cs
theorem eqs51 {a0 a1 a2 a3 a4 a5 b0 b1 b2 b3 b4 b5 : Int} : eqPV Tryz.prog 51 (.agg [.int .i64 a0, .int .i64 a1, .int .i64 a2, .int .i64 a3, .int .i64 a4, .int .i64 a5]) (.agg [.int .i64 b0, .int .i64 b1, .int .i64 b2, .int .i64 b3, .int .i64 b4, .int .i64 b5]) = some ((a0 == b0) && ((a1 == b1) && ((a2 == b2) && ((a3 == b3) && ((a4 == b4) && ((a5 == b5) && true)))))) := by kernel_rfl
theorem bld51 {parts : List (Nat × PV)} : buildPV Tryz.prog 51 parts = bldX [.int .i64 0, .int .i64 0, .int .i64 0, .int .i64 0, .int .i64 0, .int .i64 0] [(0, 1), (1, 1), (2, 1), (3, 1), (4, 1), (5, 1)] parts := bldX_of zero51 Tryz.underlying51 (by kernel_rfl) (by kernel_rfl) parts
theorem lda55 {σ : Sg} {id off : Nat} : loadPV Tryz.prog σ 55 (.ptr id off) = ldS σ id off := ldS_of Tryz.underlying55 rfl
theorem ela55 {σ : Sg} {es i off : Nat} {l : List PV} : loadPV Tryz.prog σ 55 (.eptr es l i off) = elS l i off := elS_of Tryz.underlying55 rfl
theorem sto55 {σ : Sg} {id off : Nat} {p : PV} : storePV Tryz.prog σ 55 (.ptr id off) p = stX 1 σ id off p := stX_of Tryz.underlying55 cells55 p
theorem ia55 {l : List PV} {own : Own} {k : IntKind} {i : Int} : indexAddrPV Tryz.prog 55 (.isl l own) (.int k i) = iaX 5 l i := iaX_of Tryz.underlying55 Tryz.underlying25 cells25 k i
theorem iam55 {id off len : Nat} {k : IntKind} {i : Int} : indexAddrPV Tryz.prog 55 (.msl id off len) (.int k i) = iaM 5 id off len i := iaM_of Tryz.underlying55 Tryz.underlying25 cells25 k len i
theorem len55 {l : List PV} {own : Own} : lenPV Tryz.prog 55 (.isl l own) = some (.int .i64 l.length) := len_of Tryz.underlying55
theorem lenm55 {id off n : Nat} : lenPV Tryz.prog 55 (.msl id off n) = some (.int .i64 n) := lenM_of Tryz.underlying55 n
theorem bs55 {len : Nat} {parts : List (Nat × PV)} : buildSlicePV Tryz.prog 55 len parts = bsX 5 len parts := bsX_of Tryz.underlying55 Tryz.underlying25 cells25 zero25 len parts
theorem app55 {σ : Sg} {l m : List PV} {own own' : Own} : appendPV Tryz.prog σ 55 55 (.isl l own) (.isl m own') = appX 5 56 σ l own m := appX_of Tryz.underlying55 Tryz.underlying25 cells25 bytes25 (by decide) (by decide) zero25 rfl
theorem lda57 {σ : Sg} {id off : Nat} : loadPV Tryz.prog σ 57 (.ptr id off) = ldS σ id off := ldS_of Tryz.underlying57 rfl
theorem ela57 {σ : Sg} {es i off : Nat} {l : List PV} : loadPV Tryz.prog σ 57 (.eptr es l i off) = elS l i off := elS_of Tryz.underlying57 rfl
theorem sto57 {σ : Sg} {id off : Nat} {p : PV} : storePV Tryz.prog σ 57 (.ptr id off) p = stX 1 σ id off p := stX_of Tryz.underlying57 cells57 p
theorem ia57 {l : List PV} {own : Own} {k : IntKind} {i : Int} : indexAddrPV Tryz.prog 57 (.isl l own) (.int k i) = iaX 1 l i := iaX_of Tryz.underlying57 Tryz.underlying26 cells26 k i
theorem iam57 {id off len : Nat} {k : IntKind} {i : Int} : indexAddrPV Tryz.prog 57 (.msl id off len) (.int k i) = iaM 1 id off len i := iaM_of Tryz.underlying57 Tryz.underlying26 cells26 k len i
theorem len57 {l : List PV} {own : Own} : lenPV Tryz.prog 57 (.isl l own) = some (.int .i64 l.length) := len_of Tryz.underlying57
theorem lenm57 {id off n : Nat} : lenPV Tryz.prog 57 (.msl id off n) = some (.int .i64 n) := lenM_of Tryz.underlying57 n
theorem bs57 {len : Nat} {parts : List (Nat × PV)} : buildSlicePV Tryz.prog 57 len parts = bsX 1 len parts := bsX_of Tryz.underlying57 Tryz.underlying26 cells26 zero26 len parts
theorem app57 {σ : Sg} {l m : List PV} {own own' : Own} : appendPV Tryz.prog σ 57 57 (.isl l own) (.isl m own') = appX 1 24 σ l own m := appX_of Tryz.underlying57 Tryz.underlying26 cells26 bytes26 (by decide) (by decide) zero26 rfl
theorem lda59 {σ : Sg} {id off : Nat} : loadPV Tryz.prog σ 59 (.ptr id off) = ldS σ id off := ldS_of Tryz.underlying59 rfl
theorem ela59 {σ : Sg} {es i off : Nat} {l : List PV} : loadPV Tryz.prog σ 59 (.eptr es l i off) = elS l i off := elS_of Tryz.underlying59 rfl
theorem sto59 {σ : Sg} {id off : Nat} {p : PV} : storePV Tryz.prog σ 59 (.ptr id off) p = stX 1 σ id off p := stX_of Tryz.underlying59 cells59 p
theorem ia59 {l : List PV} {own : Own} {k : IntKind} {i : Int} : indexAddrPV Tryz.prog 59 (.isl l own) (.int k i) = iaX 1 l i := iaX_of Tryz.underlying59 Tryz.underlying4 cells4 k i
theorem iam59 {id off len : Nat} {k : IntKind} {i : Int} : indexAddrPV Tryz.prog 59 (.msl id off len) (.int k i) = iaM 1 id off len i := iaM_of Tryz.underlying59 Tryz.underlying4 cells4 k len i
theorem len59 {l : List PV} {own : Own} : lenPV Tryz.prog 59 (.isl l own) = some (.int .i64 l.length) := len_of Tryz.underlying59
theorem lenm59 {id off n : Nat} : lenPV Tryz.prog 59 (.msl id off n) = some (.int .i64 n) := lenM_of Tryz.underlying59 n
theorem bs59 {len : Nat} {parts : List (Nat × PV)} : buildSlicePV Tryz.prog 59 len parts = bsX 1 len parts := bsX_of Tryz.underlying59 Tryz.underlying4 cells4 zero4 len parts
theorem app59 {σ : Sg} {l m : List PV} {own own' : Own} : appendPV Tryz.prog σ 59 59 (.isl l own) (.isl m own') = appX 1 1 σ l own m := appX_of Tryz.underlying59 Tryz.underlying4 cells4 bytes4 (by decide) (by decide) zero4 rfl
theorem lda74 {σ : Sg} {id off : Nat} : loadPV Tryz.prog σ 74 (.ptr id off) = ldA 4 σ id off := ldA_of Tryz.underlying74 rfl cells74
theorem ela74 {σ : Sg} {es i off : Nat} {l : List PV} : loadPV Tryz.prog σ 74 (.eptr es l i off) = elA 4 l i off := elA_of Tryz.underlying74 rfl cells74
theorem sto74 {σ : Sg} {id off : Nat} {p : PV} : storePV Tryz.prog σ 74 (.ptr id off) p = stX 4 σ id off p := stX_of Tryz.underlying74 cells74 p
theorem fa74_0 {id off : Nat} : fieldAddrPV Tryz.prog 74 (.ptr id off) 0 = some (.ptr id (off + 0)) := fa1_of Tryz.underlying74 (by rfl) (by exact Tryz.underlying3) (by exact cells3) (by rfl) (by rfl)
theorem fae74_0 {es i off : Nat} {l : List PV} : fieldAddrPV Tryz.prog 74 (.eptr es l i off) 0 = some (.eptr es l i (off + 0)) := fa2_of Tryz.underlying74 (by rfl) (by exact Tryz.underlying3) (by exact cells3) (by rfl) (by rfl)
theorem fp74_0 {cs : List PV} : fieldPV Tryz.prog 74 (.agg cs) 0 = cs[0]? := fpS_of Tryz.underlying74 (by rfl) (by exact Tryz.underlying3) (by rfl) (by rfl) cs
theorem fa74_1 {id off : Nat} : fieldAddrPV Tryz.prog 74 (.ptr id off) 1 = some (.ptr id (off + 1)) := fa1_of Tryz.underlying74 (by rfl) (by exact Tryz.underlying3) (by exact cells3) (by rfl) (by rfl)
theorem fae74_1 {es i off : Nat} {l : List PV} : fieldAddrPV Tryz.prog 74 (.eptr es l i off) 1 = some (.eptr es l i (off + 1)) := fa2_of Tryz.underlying74 (by rfl) (by exact Tryz.underlying3) (by exact cells3) (by rfl) (by rfl)
theorem fp74_1 {cs : List PV} : fieldPV Tryz.prog 74 (.agg cs) 1 = cs[1]? := fpS_of Tryz.underlying74 (by rfl) (by exact Tryz.underlying3) (by rfl) (by rfl) cs
theorem fa74_2 {id off : Nat} : fieldAddrPV Tryz.prog 74 (.ptr id off) 2 = some (.ptr id (off + 2)) := fa1_of Tryz.underlying74 (by rfl) (by exact Tryz.underlying3) (by exact cells3) (by rfl) (by rfl)
theorem fae74_2 {es i off : Nat} {l : List PV} : fieldAddrPV Tryz.prog 74 (.eptr es l i off) 2 = some (.eptr es l i (off + 2)) := fa2_of Tryz.underlying74 (by rfl) (by exact Tryz.underlying3) (by exact cells3) (by rfl) (by rfl)
theorem fp74_2 {cs : List PV} : fieldPV Tryz.prog 74 (.agg cs) 2 = cs[2]? := fpS_of Tryz.underlying74 (by rfl) (by exact Tryz.underlying3) (by rfl) (by rfl) cs
theorem fa74_3 {id off : Nat} : fieldAddrPV Tryz.prog 74 (.ptr id off) 3 = some (.ptr id (off + 3)) := fa1_of Tryz.underlying74 (by rfl) (by exact Tryz.underlying3) (by exact cells3) (by rfl) (by rfl)
theorem fae74_3 {es i off : Nat} {l : List PV} : fieldAddrPV Tryz.prog 74 (.eptr es l i off) 3 = some (.eptr es l i (off + 3)) := fa2_of Tryz.underlying74 (by rfl) (by exact Tryz.underlying3) (by exact cells3) (by rfl) (by rfl)
theorem fp74_3 {cs : List PV} : fieldPV Tryz.prog 74 (.agg cs) 3 = cs[3]? := fpS_of Tryz.underlying74 (by rfl) (by exact Tryz.underlying3) (by rfl) (by rfl) cs
theorem eqs74 {a0 a1 a2 a3 b0 b1 b2 b3 : Int} : eqPV Tryz.prog 74 (.agg [.int .i64 a0, .int .i64 a1, .int .i64 a2, .int .i64 a3]) (.agg [.int .i64 b0, .int .i64 b1, .int .i64 b2, .int .i64 b3]) = some ((a0 == b0) && ((a1 == b1) && ((a2 == b2) && ((a3 == b3) && true)))) := by kernel_rfl
theorem bld74 {parts : List (Nat × PV)} : buildPV Tryz.prog 74 parts = bldX [.int .i64 0, .int .i64 0, .int .i64 0, .int .i64 0] [(0, 1), (1, 1), (2, 1), (3, 1)] parts := bldX_of zero74 Tryz.underlying74 (by kernel_rfl) (by kernel_rfl) parts
theorem lda75 {σ : Sg} {id off : Nat} : loadPV Tryz.prog σ 75 (.ptr id off) = ldA 4 σ id off := ldA_of Tryz.underlying75 rfl cells75
theorem ela75 {σ : Sg} {es i off : Nat} {l : List PV} : loadPV Tryz.prog σ 75 (.eptr es l i off) = elA 4 l i off := elA_of Tryz.underlying75 rfl cells75
theorem sto75 {σ : Sg} {id off : Nat} {p : PV} : storePV Tryz.prog σ 75 (.ptr id off) p = stX 4 σ id off p := stX_of Tryz.underlying75 cells75 p
theorem fa75_0 {id off : Nat} : fieldAddrPV Tryz.prog 75 (.ptr id off) 0 = some (.ptr id (off + 0)) := fa1_of Tryz.underlying75 (by rfl) (by exact Tryz.underlying3) (by exact cells3) (by rfl) (by rfl)
theorem fae75_0 {es i off : Nat} {l : List PV} : fieldAddrPV Tryz.prog 75 (.eptr es l i off) 0 = some (.eptr es l i (off + 0)) := fa2_of Tryz.underlying75 (by rfl) (by exact Tryz.underlying3) (by exact cells3) (by rfl) (by rfl)
theorem fp75_0 {cs : List PV} : fieldPV Tryz.prog 75 (.agg cs) 0 = cs[0]? := fpS_of Tryz.underlying75 (by rfl) (by exact Tryz.underlying3) (by rfl) (by rfl) cs
theorem fa75_1 {id off : Nat} : fieldAddrPV Tryz.prog 75 (.ptr id off) 1 = some (.ptr id (off + 1)) := fa1_of Tryz.underlying75 (by rfl) (by exact Tryz.underlying3) (by exact cells3) (by rfl) (by rfl)
theorem fae75_1 {es i off : Nat} {l : List PV} : fieldAddrPV Tryz.prog 75 (.eptr es l i off) 1 = some (.eptr es l i (off + 1)) := fa2_of Tryz.underlying75 (by rfl) (by exact Tryz.underlying3) (by exact cells3) (by rfl) (by rfl)
theorem fp75_1 {cs : List PV} : fieldPV Tryz.prog 75 (.agg cs) 1 = cs[1]? := fpS_of Tryz.underlying75 (by rfl) (by exact Tryz.underlying3) (by rfl) (by rfl) cs
theorem fa75_2 {id off : Nat} : fieldAddrPV Tryz.prog 75 (.ptr id off) 2 = some (.ptr id (off + 2)) := fa1_of Tryz.underlying75 (by rfl) (by exact Tryz.underlying3) (by exact cells3) (by rfl) (by rfl)
theorem fae75_2 {es i off : Nat} {l : List PV} : fieldAddrPV Tryz.prog 75 (.eptr es l i off) 2 = some (.eptr es l i (off + 2)) := fa2_of Tryz.underlying75 (by rfl) (by exact Tryz.underlying3) (by exact cells3) (by rfl) (by rfl)
theorem fp75_2 {cs : List PV} : fieldPV Tryz.prog 75 (.agg cs) 2 = cs[2]? := fpS_of Tryz.underlying75 (by rfl) (by exact Tryz.underlying3) (by rfl) (by rfl) cs
theorem fa75_3 {id off : Nat} : fieldAddrPV Tryz.prog 75 (.ptr id off) 3 = some (.ptr id (off + 3)) := fa1_of Tryz.underlying75 (by rfl) (by exact Tryz.underlying3) (by exact cells3) (by rfl) (by rfl)
theorem fae75_3 {es i off : Nat} {l : List PV} : fieldAddrPV Tryz.prog 75 (.eptr es l i off) 3 = some (.eptr es l i (off + 3)) := fa2_of Tryz.underlying75 (by rfl) (by exact Tryz.underlying3) (by exact cells3) (by rfl) (by rfl)
theorem fp75_3 {cs : List PV} : fieldPV Tryz.prog 75 (.agg cs) 3 = cs[3]? := fpS_of Tryz.underlying75 (by rfl) (by exact Tryz.underlying3) (by rfl) (by rfl) cs
theorem eqs75 {a0 a1 a2 a3 b0 b1 b2 b3 : Int} : eqPV Tryz.prog 75 (.agg [.int .i64 a0, .int .i64 a1, .int .i64 a2, .int .i64 a3]) (.agg [.int .i64 b0, .int .i64 b1, .int .i64 b2, .int .i64 b3]) = some ((a0 == b0) && ((a1 == b1) && ((a2 == b2) && ((a3 == b3) && true)))) := by kernel_rfl
theorem bld75 {parts : List (Nat × PV)} : buildPV Tryz.prog 75 parts = bldX [.int .i64 0, .int .i64 0, .int .i64 0, .int .i64 0] [(0, 1), (1, 1), (2, 1), (3, 1)] parts := bldX_of zero75 Tryz.underlying75 (by kernel_rfl) (by kernel_rfl) parts
theorem lda77 {σ : Sg} {id off : Nat} : loadPV Tryz.prog σ 77 (.ptr id off) = ldS σ id off := ldS_of Tryz.underlying77 rfl
theorem ela77 {σ : Sg} {es i off : Nat} {l : List PV} : loadPV Tryz.prog σ 77 (.eptr es l i off) = elS l i off := elS_of Tryz.underlying77 rfl
theorem sto77 {σ : Sg} {id off : Nat} {p : PV} : storePV Tryz.prog σ 77 (.ptr id off) p = stX 1 σ id off p := stX_of Tryz.underlying77 cells77 p
theorem lda78 {σ : Sg} {id off : Nat} : loadPV Tryz.prog σ 78 (.ptr id off) = ldA 1 σ id off := ldA_of Tryz.underlying78 rfl cells78
theorem ela78 {σ : Sg} {es i off : Nat} {l : List PV} : loadPV Tryz.prog σ 78 (.eptr es l i off) = elA 1 l i off := elA_of Tryz.underlying78 rfl cells78
theorem sto78 {σ : Sg} {id off : Nat} {p : PV} : storePV Tryz.prog σ 78 (.ptr id off) p = stX 1 σ id off p := stX_of Tryz.underlying78 cells78 p
theorem fa78_0 {id off : Nat} : fieldAddrPV Tryz.prog 78 (.ptr id off) 0 = some (.ptr id (off + 0)) := fa1_of Tryz.underlying78 (by rfl) (by exact Tryz.underlying77) (by exact cells77) (by rfl) (by rfl)
theorem fae78_0 {es i off : Nat} {l : List PV} : fieldAddrPV Tryz.prog 78 (.eptr es l i off) 0 = some (.eptr es l i (off + 0)) := fa2_of Tryz.underlying78 (by rfl) (by exact Tryz.underlying77) (by exact cells77) (by rfl) (by rfl)
theorem fp78_0 {cs : List PV} : fieldPV Tryz.prog 78 (.agg cs) 0 = cs[0]? := fpS_of Tryz.underlying78 (by rfl) (by exact Tryz.underlying77) (by rfl) (by rfl) cs
theorem eqs78 {a0 b0 : Int} : eqPV Tryz.prog 78 (.agg [.int .u64 a0]) (.agg [.int .u64 b0]) = some ((a0 == b0) && true) := by kernel_rfl
theorem bld78 {parts : List (Nat × PV)} : buildPV Tryz.prog 78 parts = bldX [.int .u64 0] [(0, 1)] parts := bldX_of zero78 Tryz.underlying78 (by kernel_rfl) (by kernel_rfl) parts
theorem lda79 {σ : Sg} {id off : Nat} : loadPV Tryz.prog σ 79 (.ptr id off) = ldA 1 σ id off := ldA_of Tryz.underlying79 rfl cells79
theorem ela79 {σ : Sg} {es i off : Nat} {l : List PV} : loadPV Tryz.prog σ 79 (.eptr es l i off) = elA 1 l i off := elA_of Tryz.underlying79 rfl cells79
theorem sto79 {σ : Sg} {id off : Nat} {p : PV} : storePV Tryz.prog σ 79 (.ptr id off) p = stX 1 σ id off p := stX_of Tryz.underlying79 cells79 p
theorem fa79_0 {id off : Nat} : fieldAddrPV Tryz.prog 79 (.ptr id off) 0 = some (.ptr id (off + 0)) := fa1_of Tryz.underlying79 (by rfl) (by exact Tryz.underlying77) (by exact cells77) (by rfl) (by rfl)
theorem fae79_0 {es i off : Nat} {l : List PV} : fieldAddrPV Tryz.prog 79 (.eptr es l i off) 0 = some (.eptr es l i (off + 0)) := fa2_of Tryz.underlying79 (by rfl) (by exact Tryz.underlying77) (by exact cells77) (by rfl) (by rfl)
theorem fp79_0 {cs : List PV} : fieldPV Tryz.prog 79 (.agg cs) 0 = cs[0]? := fpS_of Tryz.underlying79 (by rfl) (by exact Tryz.underlying77) (by rfl) (by rfl) cs
theorem eqs79 {a0 b0 : Int} : eqPV Tryz.prog 79 (.agg [.int .u64 a0]) (.agg [.int .u64 b0]) = some ((a0 == b0) && true) := by kernel_rfl
theorem bld79 {parts : List (Nat × PV)} : buildPV Tryz.prog 79 parts = bldX [.int .u64 0] [(0, 1)] parts := bldX_of zero79 Tryz.underlying79 (by kernel_rfl) (by kernel_rfl) parts
theorem lda82 {σ : Sg} {id off : Nat} : loadPV Tryz.prog σ 82 (.ptr id off) = ldA 8 σ id off := ldA_of Tryz.underlying82 rfl cells82
theorem ela82 {σ : Sg} {es i off : Nat} {l : List PV} : loadPV Tryz.prog σ 82 (.eptr es l i off) = elA 8 l i off := elA_of Tryz.underlying82 rfl cells82
theorem sto82 {σ : Sg} {id off : Nat} {p : PV} : storePV Tryz.prog σ 82 (.ptr id off) p = stX 8 σ id off p := stX_of Tryz.underlying82 cells82 p
theorem iar82 {id off : Nat} {k : IntKind} {i : Int} : indexAddrPV Tryz.prog 82 (.ptr id off) (.int k i) = iaM 1 id off 8 i := iaA_of Tryz.underlying82 Tryz.underlying3 cells3 k i
theorem ix82 {cs : List PV} {k : IntKind} {i : Int} : indexPV Tryz.prog 82 (.agg cs) (.int k i) = if 0 ≤ i ∧ i < (8 : Int) then cs[i.toNat]? else none := ixS_of Tryz.underlying82 Tryz.underlying3 rfl cells3 k i
theorem lda83 {σ : Sg} {id off : Nat} : loadPV Tryz.prog σ 83 (.ptr id off) = ldA 16 σ id off := ldA_of Tryz.underlying83 rfl cells83
theorem ela83 {σ : Sg} {es i off : Nat} {l : List PV} : loadPV Tryz.prog σ 83 (.eptr es l i off) = elA 16 l i off := elA_of Tryz.underlying83 rfl cells83
theorem sto83 {σ : Sg} {id off : Nat} {p : PV} : storePV Tryz.prog σ 83 (.ptr id off) p = stX 16 σ id off p := stX_of Tryz.underlying83 cells83 p
theorem fa83_0 {id off : Nat} : fieldAddrPV Tryz.prog 83 (.ptr id off) 0 = some (.ptr id (off + 0)) := fa1_of Tryz.underlying83 (by rfl) (by exact Tryz.underlying82) (by exact cells82) (by rfl) (by rfl)
theorem fae83_0 {es i off : Nat} {l : List PV} : fieldAddrPV Tryz.prog 83 (.eptr es l i off) 0 = some (.eptr es l i (off + 0)) := fa2_of Tryz.underlying83 (by rfl) (by exact Tryz.underlying82) (by exact cells82) (by rfl) (by rfl)
theorem fp83_0 {cs : List PV} : fieldPV Tryz.prog 83 (.agg cs) 0 = if 0 + 8 ≤ cs.length then some (.agg ((cs.drop 0).take 8)) else none := fpA_of Tryz.underlying83 (by rfl) (by exact Tryz.underlying82) (by rfl) (by exact cells82) (by rfl) cs
theorem fa83_1 {id off : Nat} : fieldAddrPV Tryz.prog 83 (.ptr id off) 1 = some (.ptr id (off + 8)) := fa1_of Tryz.underlying83 (by rfl) (by exact Tryz.underlying82) (by exact cells82) (by rfl) (by rfl)
theorem fae83_1 {es i off : Nat} {l : List PV} : fieldAddrPV Tryz.prog 83 (.eptr es l i off) 1 = some (.eptr es l i (off + 8)) := fa2_of Tryz.underlying83 (by rfl) (by exact Tryz.underlying82) (by exact cells82) (by rfl) (by rfl)
theorem fp83_1 {cs : List PV} : fieldPV Tryz.prog 83 (.agg cs) 1 = if 8 + 8 ≤ cs.length then some (.agg ((cs.drop 8).take 8)) else none := fpA_of Tryz.underlying83 (by rfl) (by exact Tryz.underlying82) (by rfl) (by exact cells82) (by rfl) cs
theorem bld83 {parts : List (Nat × PV)} : buildPV Tryz.prog 83 parts = bldX [.int .i64 0, .int .i64 0, .int .i64 0, .int .i64 0, .int .i64 0, .int .i64 0, .int .i64 0, .int .i64 0, .int .i64 0, .int .i64 0, .int .i64 0, .int .i64 0, .int .i64 0, .int .i64 0, .int .i64 0, .int .i64 0] [(0, 8), (8, 8)] parts := bldX_of zero83 Tryz.underlying83 (by kernel_rfl) (by kernel_rfl) parts
theorem lda84 {σ : Sg} {id off : Nat} : loadPV Tryz.prog σ 84 (.ptr id off) = ldA 16 σ id off := ldA_of Tryz.underlying84 rfl cells84
theorem ela84 {σ : Sg} {es i off : Nat} {l : List PV} : loadPV Tryz.prog σ 84 (.eptr es l i off) = elA 16 l i off := elA_of Tryz.underlying84 rfl cells84
theorem sto84 {σ : Sg} {id off : Nat} {p : PV} : storePV Tryz.prog σ 84 (.ptr id off) p = stX 16 σ id off p := stX_of Tryz.underlying84 cells84 p
theorem fa84_0 {id off : Nat} : fieldAddrPV Tryz.prog 84 (.ptr id off) 0 = some (.ptr id (off + 0)) := fa1_of Tryz.underlying84 (by rfl) (by exact Tryz.underlying82) (by exact cells82) (by rfl) (by rfl)
theorem fae84_0 {es i off : Nat} {l : List PV} : fieldAddrPV Tryz.prog 84 (.eptr es l i off) 0 = some (.eptr es l i (off + 0)) := fa2_of Tryz.underlying84 (by rfl) (by exact Tryz.underlying82) (by exact cells82) (by rfl) (by rfl)
theorem fp84_0 {cs : List PV} : fieldPV Tryz.prog 84 (.agg cs) 0 = if 0 + 8 ≤ cs.length then some (.agg ((cs.drop 0).take 8)) else none := fpA_of Tryz.underlying84 (by rfl) (by exact Tryz.underlying82) (by rfl) (by exact cells82) (by rfl) cs
theorem fa84_1 {id off : Nat} : fieldAddrPV Tryz.prog 84 (.ptr id off) 1 = some (.ptr id (off + 8)) := fa1_of Tryz.underlying84 (by rfl) (by exact Tryz.underlying82) (by exact cells82) (by rfl) (by rfl)
theorem fae84_1 {es i off : Nat} {l : List PV} : fieldAddrPV Tryz.prog 84 (.eptr es l i off) 1 = some (.eptr es l i (off + 8)) := fa2_of Tryz.underlying84 (by rfl) (by exact Tryz.underlying82) (by exact cells82) (by rfl) (by rfl)
theorem fp84_1 {cs : List PV} : fieldPV Tryz.prog 84 (.agg cs) 1 = if 8 + 8 ≤ cs.length then some (.agg ((cs.drop 8).take 8)) else none := fpA_of Tryz.underlying84 (by rfl) (by exact Tryz.underlying82) (by rfl) (by exact cells82) (by rfl) cs
theorem bld84 {parts : List (Nat × PV)} : buildPV Tryz.prog 84 parts = bldX [.int .i64 0, .int .i64 0, .int .i64 0, .int .i64 0, .int .i64 0, .int .i64 0, .int .i64 0, .int .i64 0, .int .i64 0, .int .i64 0, .int .i64 0, .int .i64 0, .int .i64 0, .int .i64 0, .int .i64 0, .int .i64 0] [(0, 8), (8, 8)] parts := bldX_of zero84 Tryz.underlying84 (by kernel_rfl) (by kernel_rfl) parts
theorem lda85 {σ : Sg} {id off : Nat} : loadPV Tryz.prog σ 85 (.ptr id off) = ldS σ id off := ldS_of Tryz.underlying85 rfl
theorem ela85 {σ : Sg} {es i off : Nat} {l : List PV} : loadPV Tryz.prog σ 85 (.eptr es l i off) = elS l i off := elS_of Tryz.underlying85 rfl
theorem sto85 {σ : Sg} {id off : Nat} {p : PV} : storePV Tryz.prog σ 85 (.ptr id off) p = stX 1 σ id off p := stX_of Tryz.underlying85 cells85 p
theorem lda86 {σ : Sg} {id off : Nat} : loadPV Tryz.prog σ 86 (.ptr id off) = ldA 21 σ id off := ldA_of Tryz.underlying86 rfl cells86
theorem ela86 {σ : Sg} {es i off : Nat} {l : List PV} : loadPV Tryz.prog σ 86 (.eptr es l i off) = elA 21 l i off := elA_of Tryz.underlying86 rfl cells86
theorem sto86 {σ : Sg} {id off : Nat} {p : PV} : storePV Tryz.prog σ 86 (.ptr id off) p = stX 21 σ id off p := stX_of Tryz.underlying86 cells86 p
theorem fa86_0 {id off : Nat} : fieldAddrPV Tryz.prog 86 (.ptr id off) 0 = some (.ptr id (off + 0)) := fa1_of Tryz.underlying86 (by rfl) (by exact Tryz.underlying45) (by exact cells45) (by rfl) (by rfl)
theorem fae86_0 {es i off : Nat} {l : List PV} : fieldAddrPV Tryz.prog 86 (.eptr es l i off) 0 = some (.eptr es l i (off + 0)) := fa2_of Tryz.underlying86 (by rfl) (by exact Tryz.underlying45) (by exact cells45) (by rfl) (by rfl)
theorem fp86_0 {cs : List PV} : fieldPV Tryz.prog 86 (.agg cs) 0 = if 0 + 3 ≤ cs.length then some (.agg ((cs.drop 0).take 3)) else none := fpA_of Tryz.underlying86 (by rfl) (by exact Tryz.underlying45) (by rfl) (by exact cells45) (by rfl) cs
theorem fa86_1 {id off : Nat} : fieldAddrPV Tryz.prog 86 (.ptr id off) 1 = some (.ptr id (off + 3)) := fa1_of Tryz.underlying86 (by rfl) (by exact Tryz.underlying22) (by exact cells22) (by rfl) (by rfl)
theorem fae86_1 {es i off : Nat} {l : List PV} : fieldAddrPV Tryz.prog 86 (.eptr es l i off) 1 = some (.eptr es l i (off + 3)) := fa2_of Tryz.underlying86 (by rfl) (by exact Tryz.underlying22) (by exact cells22) (by rfl) (by rfl)
theorem fp86_1 {cs : List PV} : fieldPV Tryz.prog 86 (.agg cs) 1 = cs[3]? := fpS_of Tryz.underlying86 (by rfl) (by exact Tryz.underlying22) (by rfl) (by rfl) cs
theorem fa86_2 {id off : Nat} : fieldAddrPV Tryz.prog 86 (.ptr id off) 2 = some (.ptr id (off + 4)) := fa1_of Tryz.underlying86 (by rfl) (by exact Tryz.underlying84) (by exact cells84) (by rfl) (by rfl)
theorem fae86_2 {es i off : Nat} {l : List PV} : fieldAddrPV Tryz.prog 86 (.eptr es l i off) 2 = some (.eptr es l i (off + 4)) := fa2_of Tryz.underlying86 (by rfl) (by exact Tryz.underlying84) (by exact cells84) (by rfl) (by rfl)
theorem fp86_2 {cs : List PV} : fieldPV Tryz.prog 86 (.agg cs) 2 = if 4 + 16 ≤ cs.length then some (.agg ((cs.drop 4).take 16)) else none := fpA_of Tryz.underlying86 (by rfl) (by exact Tryz.underlying84) (by rfl) (by exact cells84) (by rfl) cs
theorem fa86_3 {id off : Nat} : fieldAddrPV Tryz.prog 86 (.ptr id off) 3 = some (.ptr id (off + 20)) := fa1_of Tryz.underlying86 (by rfl) (by exact Tryz.underlying85) (by exact cells85) (by rfl) (by rfl)
theorem fae86_3 {es i off : Nat} {l : List PV} : fieldAddrPV Tryz.prog 86 (.eptr es l i off) 3 = some (.eptr es l i (off + 20)) := fa2_of Tryz.underlying86 (by rfl) (by exact Tryz.underlying85) (by exact cells85) (by rfl) (by rfl)
theorem fp86_3 {cs : List PV} : fieldPV Tryz.prog 86 (.agg cs) 3 = cs[20]? := fpS_of Tryz.underlying86 (by rfl) (by exact Tryz.underlying85) (by rfl) (by rfl) cs
theorem bld86 {parts : List (Nat × PV)} : buildPV Tryz.prog 86 parts = bldX [.int .i64 0, .int .i64 0, .int .i64 0, .isl [] .exact, .int .i64 0, .int .i64 0, .int .i64 0, .int .i64 0, .int .i64 0, .int .i64 0, .int .i64 0, .int .i64 0, .int .i64 0, .int .i64 0, .int .i64 0, .int .i64 0, .int .i64 0, .int .i64 0, .int .i64 0, .int .i64 0, .nilmap] [(0, 3), (3, 1), (4, 16), (20, 1)] parts := bldX_of zero86 Tryz.underlying86 (by kernel_rfl) (by kernel_rfl) parts
theorem lda87 {σ : Sg} {id off : Nat} : loadPV Tryz.prog σ 87 (.ptr id off) = ldA 21 σ id off := ldA_of Tryz.underlying87 rfl cells87
theorem ela87 {σ : Sg} {es i off : Nat} {l : List PV} : loadPV Tryz.prog σ 87 (.eptr es l i off) = elA 21 l i off := elA_of Tryz.underlying87 rfl cells87
theorem sto87 {σ : Sg} {id off : Nat} {p : PV} : storePV Tryz.prog σ 87 (.ptr id off) p = stX 21 σ id off p := stX_of Tryz.underlying87 cells87 p
theorem fa87_0 {id off : Nat} : fieldAddrPV Tryz.prog 87 (.ptr id off) 0 = some (.ptr id (off + 0)) := fa1_of Tryz.underlying87 (by rfl) (by exact Tryz.underlying45) (by exact cells45) (by rfl) (by rfl)
theorem fae87_0 {es i off : Nat} {l : List PV} : fieldAddrPV Tryz.prog 87 (.eptr es l i off) 0 = some (.eptr es l i (off + 0)) := fa2_of Tryz.underlying87 (by rfl) (by exact Tryz.underlying45) (by exact cells45) (by rfl) (by rfl)
theorem fp87_0 {cs : List PV} : fieldPV Tryz.prog 87 (.agg cs) 0 = if 0 + 3 ≤ cs.length then some (.agg ((cs.drop 0).take 3)) else none := fpA_of Tryz.underlying87 (by rfl) (by exact Tryz.underlying45) (by rfl) (by exact cells45) (by rfl) cs
theorem fa87_1 {id off : Nat} : fieldAddrPV Tryz.prog 87 (.ptr id off) 1 = some (.ptr id (off + 3)) := fa1_of Tryz.underlying87 (by rfl) (by exact Tryz.underlying22) (by exact cells22) (by rfl) (by rfl)
theorem fae87_1 {es i off : Nat} {l : List PV} : fieldAddrPV Tryz.prog 87 (.eptr es l i off) 1 = some (.eptr es l i (off + 3)) := fa2_of Tryz.underlying87 (by rfl) (by exact Tryz.underlying22) (by exact cells22) (by rfl) (by rfl)
theorem fp87_1 {cs : List PV} : fieldPV Tryz.prog 87 (.agg cs) 1 = cs[3]? := fpS_of Tryz.underlying87 (by rfl) (by exact Tryz.underlying22) (by rfl) (by rfl) cs
theorem fa87_2 {id off : Nat} : fieldAddrPV Tryz.prog 87 (.ptr id off) 2 = some (.ptr id (off + 4)) := fa1_of Tryz.underlying87 (by rfl) (by exact Tryz.underlying84) (by exact cells84) (by rfl) (by rfl)
theorem fae87_2 {es i off : Nat} {l : List PV} : fieldAddrPV Tryz.prog 87 (.eptr es l i off) 2 = some (.eptr es l i (off + 4)) := fa2_of Tryz.underlying87 (by rfl) (by exact Tryz.underlying84) (by exact cells84) (by rfl) (by rfl)
theorem fp87_2 {cs : List PV} : fieldPV Tryz.prog 87 (.agg cs) 2 = if 4 + 16 ≤ cs.length then some (.agg ((cs.drop 4).take 16)) else none := fpA_of Tryz.underlying87 (by rfl) (by exact Tryz.underlying84) (by rfl) (by exact cells84) (by rfl) cs
theorem fa87_3 {id off : Nat} : fieldAddrPV Tryz.prog 87 (.ptr id off) 3 = some (.ptr id (off + 20)) := fa1_of Tryz.underlying87 (by rfl) (by exact Tryz.underlying85) (by exact cells85) (by rfl) (by rfl)
theorem fae87_3 {es i off : Nat} {l : List PV} : fieldAddrPV Tryz.prog 87 (.eptr es l i off) 3 = some (.eptr es l i (off + 20)) := fa2_of Tryz.underlying87 (by rfl) (by exact Tryz.underlying85) (by exact cells85) (by rfl) (by rfl)
theorem fp87_3 {cs : List PV} : fieldPV Tryz.prog 87 (.agg cs) 3 = cs[20]? := fpS_of Tryz.underlying87 (by rfl) (by exact Tryz.underlying85) (by rfl) (by rfl) cs
theorem bld87 {parts : List (Nat × PV)} : buildPV Tryz.prog 87 parts = bldX [.int .i64 0, .int .i64 0, .int .i64 0, .isl [] .exact, .int .i64 0, .int .i64 0, .int .i64 0, .int .i64 0, .int .i64 0, .int .i64 0, .int .i64 0, .int .i64 0, .int .i64 0, .int .i64 0, .int .i64 0, .int .i64 0, .int .i64 0, .int .i64 0, .int .i64 0, .int .i64 0, .nilmap] [(0, 3), (3, 1), (4, 16), (20, 1)] parts := bldX_of zero87 Tryz.underlying87 (by kernel_rfl) (by kernel_rfl) parts
theorem lda88 {σ : Sg} {id off : Nat} : loadPV Tryz.prog σ 88 (.ptr id off) = ldS σ id off := ldS_of Tryz.underlying88 rfl
theorem ela88 {σ : Sg} {es i off : Nat} {l : List PV} : loadPV Tryz.prog σ 88 (.eptr es l i off) = elS l i off := elS_of Tryz.underlying88 rfl
theorem sto88 {σ : Sg} {id off : Nat} {p : PV} : storePV Tryz.prog σ 88 (.ptr id off) p = stX 1 σ id off p := stX_of Tryz.underlying88 cells88 p
theorem ia88 {l : List PV} {own : Own} {k : IntKind} {i : Int} : indexAddrPV Tryz.prog 88 (.isl l own) (.int k i) = iaX 21 l i := iaX_of Tryz.underlying88 Tryz.underlying87 cells87 k i
theorem iam88 {id off len : Nat} {k : IntKind} {i : Int} : indexAddrPV Tryz.prog 88 (.msl id off len) (.int k i) = iaM 21 id off len i := iaM_of Tryz.underlying88 Tryz.underlying87 cells87 k len i
theorem len88 {l : List PV} {own : Own} : lenPV Tryz.prog 88 (.isl l own) = some (.int .i64 l.length) := len_of Tryz.underlying88
theorem lenm88 {id off n : Nat} : lenPV Tryz.prog 88 (.msl id off n) = some (.int .i64 n) := lenM_of Tryz.underlying88 n
theorem bs88 {len : Nat} {parts : List (Nat × PV)} : buildSlicePV Tryz.prog 88 len parts = bsX 21 len parts := bsX_of Tryz.underlying88 Tryz.underlying87 cells87 zero87 len parts
theorem app88 {σ : Sg} {l m : List PV} {own own' : Own} : appendPV Tryz.prog σ 88 88 (.isl l own) (.isl m own') = appX 21 184 σ l own m := appX_of Tryz.underlying88 Tryz.underlying87 cells87 bytes87 (by decide) (by decide) zero87 rfl
theorem lda103 {σ : Sg} {id off : Nat} : loadPV Tryz.prog σ 103 (.ptr id off) = ldS σ id off := ldS_of Tryz.underlying103 rfl
theorem ela103 {σ : Sg} {es i off : Nat} {l : List PV} : loadPV Tryz.prog σ 103 (.eptr es l i off) = elS l i off := elS_of Tryz.underlying103 rfl
theorem sto103 {σ : Sg} {id off : Nat} {p : PV} : storePV Tryz.prog σ 103 (.ptr id off) p = stX 1 σ id off p := stX_of Tryz.underlying103 cells103 p
theorem ia103 {l : List PV} {own : Own} {k : IntKind} {i : Int} : indexAddrPV Tryz.prog 103 (.isl l own) (.int k i) = iaX 1 l i := iaX_of Tryz.underlying103 Tryz.underlying22 cells22 k i
theorem iam103 {id off len : Nat} {k : IntKind} {i : Int} : indexAddrPV Tryz.prog 103 (.msl id off len) (.int k i) = iaM 1 id off len i := iaM_of Tryz.underlying103 Tryz.underlying22 cells22 k len i
theorem len103 {l : List PV} {own : Own} : lenPV Tryz.prog 103 (.isl l own) = some (.int .i64 l.length) := len_of Tryz.underlying103
theorem lenm103 {id off n : Nat} : lenPV Tryz.prog 103 (.msl id off n) = some (.int .i64 n) := lenM_of Tryz.underlying103 n
theorem bs103 {len : Nat} {parts : List (Nat × PV)} : buildSlicePV Tryz.prog 103 len parts = bsX 1 len parts := bsX_of Tryz.underlying103 Tryz.underlying22 cells22 zero22 len parts
theorem app103 {σ : Sg} {l m : List PV} {own own' : Own} : appendPV Tryz.prog σ 103 103 (.isl l own) (.isl m own') = appX 1 24 σ l own m := appX_of Tryz.underlying103 Tryz.underlying22 cells22 bytes22 (by decide) (by decide) zero22 rfl
theorem lda109 {σ : Sg} {id off : Nat} : loadPV Tryz.prog σ 109 (.ptr id off) = ldA 3 σ id off := ldA_of Tryz.underlying109 rfl cells109
theorem ela109 {σ : Sg} {es i off : Nat} {l : List PV} : loadPV Tryz.prog σ 109 (.eptr es l i off) = elA 3 l i off := elA_of Tryz.underlying109 rfl cells109
theorem sto109 {σ : Sg} {id off : Nat} {p : PV} : storePV Tryz.prog σ 109 (.ptr id off) p = stX 3 σ id off p := stX_of Tryz.underlying109 cells109 p
theorem fa109_0 {id off : Nat} : fieldAddrPV Tryz.prog 109 (.ptr id off) 0 = some (.ptr id (off + 0)) := fa1_of Tryz.underlying109 (by rfl) (by exact Tryz.underlying3) (by exact cells3) (by rfl) (by rfl)
theorem fae109_0 {es i off : Nat} {l : List PV} : fieldAddrPV Tryz.prog 109 (.eptr es l i off) 0 = some (.eptr es l i (off + 0)) := fa2_of Tryz.underlying109 (by rfl) (by exact Tryz.underlying3) (by exact cells3) (by rfl) (by rfl)
theorem fp109_0 {cs : List PV} : fieldPV Tryz.prog 109 (.agg cs) 0 = cs[0]? := fpS_of Tryz.underlying109 (by rfl) (by exact Tryz.underlying3) (by rfl) (by rfl) cs
theorem fa109_1 {id off : Nat} : fieldAddrPV Tryz.prog 109 (.ptr id off) 1 = some (.ptr id (off + 1)) := fa1_of Tryz.underlying109 (by rfl) (by exact Tryz.underlying3) (by exact cells3) (by rfl) (by rfl)
theorem fae109_1 {es i off : Nat} {l : List PV} : fieldAddrPV Tryz.prog 109 (.eptr es l i off) 1 = some (.eptr es l i (off + 1)) := fa2_of Tryz.underlying109 (by rfl) (by exact Tryz.underlying3) (by exact cells3) (by rfl) (by rfl)
theorem fp109_1 {cs : List PV} : fieldPV Tryz.prog 109 (.agg cs) 1 = cs[1]? := fpS_of Tryz.underlying109 (by rfl) (by exact Tryz.underlying3) (by rfl) (by rfl) cs
theorem fa109_2 {id off : Nat} : fieldAddrPV Tryz.prog 109 (.ptr id off) 2 = some (.ptr id (off + 2)) := fa1_of Tryz.underlying109 (by rfl) (by exact Tryz.underlying3) (by exact cells3) (by rfl) (by rfl)
theorem fae109_2 {es i off : Nat} {l : List PV} : fieldAddrPV Tryz.prog 109 (.eptr es l i off) 2 = some (.eptr es l i (off + 2)) := fa2_of Tryz.underlying109 (by rfl) (by exact Tryz.underlying3) (by exact cells3) (by rfl) (by rfl)
theorem fp109_2 {cs : List PV} : fieldPV Tryz.prog 109 (.agg cs) 2 = cs[2]? := fpS_of Tryz.underlying109 (by rfl) (by exact Tryz.underlying3) (by rfl) (by rfl) cs
theorem eqs109 {a0 a1 a2 b0 b1 b2 : Int} : eqPV Tryz.prog 109 (.agg [.int .i64 a0, .int .i64 a1, .int .i64 a2]) (.agg [.int .i64 b0, .int .i64 b1, .int .i64 b2]) = some ((a0 == b0) && ((a1 == b1) && ((a2 == b2) && true))) := by kernel_rfl
theorem bld109 {parts : List (Nat × PV)} : buildPV Tryz.prog 109 parts = bldX [.int .i64 0, .int .i64 0, .int .i64 0] [(0, 1), (1, 1), (2, 1)] parts := bldX_of zero109 Tryz.underlying109 (by kernel_rfl) (by kernel_rfl) parts
theorem lda110 {σ : Sg} {id off : Nat} : loadPV Tryz.prog σ 110 (.ptr id off) = ldA 3 σ id off := ldA_of Tryz.underlying110 rfl cells110
theorem ela110 {σ : Sg} {es i off : Nat} {l : List PV} : loadPV Tryz.prog σ 110 (.eptr es l i off) = elA 3 l i off := elA_of Tryz.underlying110 rfl cells110
theorem sto110 {σ : Sg} {id off : Nat} {p : PV} : storePV Tryz.prog σ 110 (.ptr id off) p = stX 3 σ id off p := stX_of Tryz.underlying110 cells110 p
theorem fa110_0 {id off : Nat} : fieldAddrPV Tryz.prog 110 (.ptr id off) 0 = some (.ptr id (off + 0)) := fa1_of Tryz.underlying110 (by rfl) (by exact Tryz.underlying3) (by exact cells3) (by rfl) (by rfl)
theorem fae110_0 {es i off : Nat} {l : List PV} : fieldAddrPV Tryz.prog 110 (.eptr es l i off) 0 = some (.eptr es l i (off + 0)) := fa2_of Tryz.underlying110 (by rfl) (by exact Tryz.underlying3) (by exact cells3) (by rfl) (by rfl)
theorem fp110_0 {cs : List PV} : fieldPV Tryz.prog 110 (.agg cs) 0 = cs[0]? := fpS_of Tryz.underlying110 (by rfl) (by exact Tryz.underlying3) (by rfl) (by rfl) cs
theorem fa110_1 {id off : Nat} : fieldAddrPV Tryz.prog 110 (.ptr id off) 1 = some (.ptr id (off + 1)) := fa1_of Tryz.underlying110 (by rfl) (by exact Tryz.underlying3) (by exact cells3) (by rfl) (by rfl)
theorem fae110_1 {es i off : Nat} {l : List PV} : fieldAddrPV Tryz.prog 110 (.eptr es l i off) 1 = some (.eptr es l i (off + 1)) := fa2_of Tryz.underlying110 (by rfl) (by exact Tryz.underlying3) (by exact cells3) (by rfl) (by rfl)
theorem fp110_1 {cs : List PV} : fieldPV Tryz.prog 110 (.agg cs) 1 = cs[1]? := fpS_of Tryz.underlying110 (by rfl) (by exact Tryz.underlying3) (by rfl) (by rfl) cs
theorem fa110_2 {id off : Nat} : fieldAddrPV Tryz.prog 110 (.ptr id off) 2 = some (.ptr id (off + 2)) := fa1_of Tryz.underlying110 (by rfl) (by exact Tryz.underlying3) (by exact cells3) (by rfl) (by rfl)
theorem fae110_2 {es i off : Nat} {l : List PV} : fieldAddrPV Tryz.prog 110 (.eptr es l i off) 2 = some (.eptr es l i (off + 2)) := fa2_of Tryz.underlying110 (by rfl) (by exact Tryz.underlying3) (by exact cells3) (by rfl) (by rfl)
theorem fp110_2 {cs : List PV} : fieldPV Tryz.prog 110 (.agg cs) 2 = cs[2]? := fpS_of Tryz.underlying110 (by rfl) (by exact Tryz.underlying3) (by rfl) (by rfl) cs
theorem eqs110 {a0 a1 a2 b0 b1 b2 : Int} : eqPV Tryz.prog 110 (.agg [.int .i64 a0, .int .i64 a1, .int .i64 a2]) (.agg [.int .i64 b0, .int .i64 b1, .int .i64 b2]) = some ((a0 == b0) && ((a1 == b1) && ((a2 == b2) && true))) := by kernel_rfl
theorem bld110 {parts : List (Nat × PV)} : buildPV Tryz.prog 110 parts = bldX [.int .i64 0, .int .i64 0, .int .i64 0] [(0, 1), (1, 1), (2, 1)] parts := bldX_of zero110 Tryz.underlying110 (by kernel_rfl) (by kernel_rfl) parts
theorem lda112 {σ : Sg} {id off : Nat} : loadPV Tryz.prog σ 112 (.ptr id off) = ldS σ id off := ldS_of Tryz.underlying112 rfl
theorem ela112 {σ : Sg} {es i off : Nat} {l : List PV} : loadPV Tryz.prog σ 112 (.eptr es l i off) = elS l i off := elS_of Tryz.underlying112 rfl
theorem sto112 {σ : Sg} {id off : Nat} {p : PV} : storePV Tryz.prog σ 112 (.ptr id off) p = stX 1 σ id off p := stX_of Tryz.underlying112 cells112 p
theorem lda115 {σ : Sg} {id off : Nat} : loadPV Tryz.prog σ 115 (.ptr id off) = ldS σ id off := ldS_of Tryz.underlying115 rfl
theorem ela115 {σ : Sg} {es i off : Nat} {l : List PV} : loadPV Tryz.prog σ 115 (.eptr es l i off) = elS l i off := elS_of Tryz.underlying115 rfl
theorem sto115 {σ : Sg} {id off : Nat} {p : PV} : storePV Tryz.prog σ 115 (.ptr id off) p = stX 1 σ id off p := stX_of Tryz.underlying115 cells115 p
theorem lda121 {σ : Sg} {id off : Nat} : loadPV Tryz.prog σ 121 (.ptr id off) = ldA 4 σ id off := ldA_of Tryz.underlying121 rfl cells121
theorem ela121 {σ : Sg} {es i off : Nat} {l : List PV} : loadPV Tryz.prog σ 121 (.eptr es l i off) = elA 4 l i off := elA_of Tryz.underlying121 rfl cells121
theorem sto121 {σ : Sg} {id off : Nat} {p : PV} : storePV Tryz.prog σ 121 (.ptr id off) p = stX 4 σ id off p := stX_of Tryz.underlying121 cells121 p
theorem fa121_0 {id off : Nat} : fieldAddrPV Tryz.prog 121 (.ptr id off) 0 = some (.ptr id (off + 0)) := fa1_of Tryz.underlying121 (by rfl) (by exact Tryz.underlying3) (by exact cells3) (by rfl) (by rfl)
theorem fae121_0 {es i off : Nat} {l : List PV} : fieldAddrPV Tryz.prog 121 (.eptr es l i off) 0 = some (.eptr es l i (off + 0)) := fa2_of Tryz.underlying121 (by rfl) (by exact Tryz.underlying3) (by exact cells3) (by rfl) (by rfl)
theorem fp121_0 {cs : List PV} : fieldPV Tryz.prog 121 (.agg cs) 0 = cs[0]? := fpS_of Tryz.underlying121 (by rfl) (by exact Tryz.underlying3) (by rfl) (by rfl) cs
theorem fa121_1 {id off : Nat} : fieldAddrPV Tryz.prog 121 (.ptr id off) 1 = some (.ptr id (off + 1)) := fa1_of Tryz.underlying121 (by rfl) (by exact Tryz.underlying3) (by exact cells3) (by rfl) (by rfl)
theorem fae121_1 {es i off : Nat} {l : List PV} : fieldAddrPV Tryz.prog 121 (.eptr es l i off) 1 = some (.eptr es l i (off + 1)) := fa2_of Tryz.underlying121 (by rfl) (by exact Tryz.underlying3) (by exact cells3) (by rfl) (by rfl)
theorem fp121_1 {cs : List PV} : fieldPV Tryz.prog 121 (.agg cs) 1 = cs[1]? := fpS_of Tryz.underlying121 (by rfl) (by exact Tryz.underlying3) (by rfl) (by rfl) cs
theorem fa121_2 {id off : Nat} : fieldAddrPV Tryz.prog 121 (.ptr id off) 2 = some (.ptr id (off + 2)) := fa1_of Tryz.underlying121 (by rfl) (by exact Tryz.underlying3) (by exact cells3) (by rfl) (by rfl)
theorem fae121_2 {es i off : Nat} {l : List PV} : fieldAddrPV Tryz.prog 121 (.eptr es l i off) 2 = some (.eptr es l i (off + 2)) := fa2_of Tryz.underlying121 (by rfl) (by exact Tryz.underlying3) (by exact cells3) (by rfl) (by rfl)
theorem fp121_2 {cs : List PV} : fieldPV Tryz.prog 121 (.agg cs) 2 = cs[2]? := fpS_of Tryz.underlying121 (by rfl) (by exact Tryz.underlying3) (by rfl) (by rfl) cs
theorem fa121_3 {id off : Nat} : fieldAddrPV Tryz.prog 121 (.ptr id off) 3 = some (.ptr id (off + 3)) := fa1_of Tryz.underlying121 (by rfl) (by exact Tryz.underlying3) (by exact cells3) (by rfl) (by rfl)
theorem fae121_3 {es i off : Nat} {l : List PV} : fieldAddrPV Tryz.prog 121 (.eptr es l i off) 3 = some (.eptr es l i (off + 3)) := fa2_of Tryz.underlying121 (by rfl) (by exact Tryz.underlying3) (by exact cells3) (by rfl) (by rfl)
theorem fp121_3 {cs : List PV} : fieldPV Tryz.prog 121 (.agg cs) 3 = cs[3]? := fpS_of Tryz.underlying121 (by rfl) (by exact Tryz.underlying3) (by rfl) (by rfl) cs
theorem eqs121 {a0 a1 a2 a3 b0 b1 b2 b3 : Int} : eqPV Tryz.prog 121 (.agg [.int .i64 a0, .int .i64 a1, .int .i64 a2, .int .i64 a3]) (.agg [.int .i64 b0, .int .i64 b1, .int .i64 b2, .int .i64 b3]) = some ((a0 == b0) && ((a1 == b1) && ((a2 == b2) && ((a3 == b3) && true)))) := by kernel_rfl
theorem bld121 {parts : List (Nat × PV)} : buildPV Tryz.prog 121 parts = bldX [.int .i64 0, .int .i64 0, .int .i64 0, .int .i64 0] [(0, 1), (1, 1), (2, 1), (3, 1)] parts := bldX_of zero121 Tryz.underlying121 (by kernel_rfl) (by kernel_rfl) parts
theorem lda122 {σ : Sg} {id off : Nat} : loadPV Tryz.prog σ 122 (.ptr id off) = ldA 4 σ id off := ldA_of Tryz.underlying122 rfl cells122
theorem ela122 {σ : Sg} {es i off : Nat} {l : List PV} : loadPV Tryz.prog σ 122 (.eptr es l i off) = elA 4 l i off := elA_of Tryz.underlying122 rfl cells122
theorem sto122 {σ : Sg} {id off : Nat} {p : PV} : storePV Tryz.prog σ 122 (.ptr id off) p = stX 4 σ id off p := stX_of Tryz.underlying122 cells122 p
theorem fa122_0 {id off : Nat} : fieldAddrPV Tryz.prog 122 (.ptr id off) 0 = some (.ptr id (off + 0)) := fa1_of Tryz.underlying122 (by rfl) (by exact Tryz.underlying3) (by exact cells3) (by rfl) (by rfl)
theorem fae122_0 {es i off : Nat} {l : List PV} : fieldAddrPV Tryz.prog 122 (.eptr es l i off) 0 = some (.eptr es l i (off + 0)) := fa2_of Tryz.underlying122 (by rfl) (by exact Tryz.underlying3) (by exact cells3) (by rfl) (by rfl)
theorem fp122_0 {cs : List PV} : fieldPV Tryz.prog 122 (.agg cs) 0 = cs[0]? := fpS_of Tryz.underlying122 (by rfl) (by exact Tryz.underlying3) (by rfl) (by rfl) cs
theorem fa122_1 {id off : Nat} : fieldAddrPV Tryz.prog 122 (.ptr id off) 1 = some (.ptr id (off + 1)) := fa1_of Tryz.underlying122 (by rfl) (by exact Tryz.underlying3) (by exact cells3) (by rfl) (by rfl)
theorem fae122_1 {es i off : Nat} {l : List PV} : fieldAddrPV Tryz.prog 122 (.eptr es l i off) 1 = some (.eptr es l i (off + 1)) := fa2_of Tryz.underlying122 (by rfl) (by exact Tryz.underlying3) (by exact cells3) (by rfl) (by rfl)
theorem fp122_1 {cs : List PV} : fieldPV Tryz.prog 122 (.agg cs) 1 = cs[1]? := fpS_of Tryz.underlying122 (by rfl) (by exact Tryz.underlying3) (by rfl) (by rfl) cs
theorem fa122_2 {id off : Nat} : fieldAddrPV Tryz.prog 122 (.ptr id off) 2 = some (.ptr id (off + 2)) := fa1_of Tryz.underlying122 (by rfl) (by exact Tryz.underlying3) (by exact cells3) (by rfl) (by rfl)
theorem fae122_2 {es i off : Nat} {l : List PV} : fieldAddrPV Tryz.prog 122 (.eptr es l i off) 2 = some (.eptr es l i (off + 2)) := fa2_of Tryz.underlying122 (by rfl) (by exact Tryz.underlying3) (by exact cells3) (by rfl) (by rfl)
theorem fp122_2 {cs : List PV} : fieldPV Tryz.prog 122 (.agg cs) 2 = cs[2]? := fpS_of Tryz.underlying122 (by rfl) (by exact Tryz.underlying3) (by rfl) (by rfl) cs
theorem fa122_3 {id off : Nat} : fieldAddrPV Tryz.prog 122 (.ptr id off) 3 = some (.ptr id (off + 3)) := fa1_of Tryz.underlying122 (by rfl) (by exact Tryz.underlying3) (by exact cells3) (by rfl) (by rfl)
theorem fae122_3 {es i off : Nat} {l : List PV} : fieldAddrPV Tryz.prog 122 (.eptr es l i off) 3 = some (.eptr es l i (off + 3)) := fa2_of Tryz.underlying122 (by rfl) (by exact Tryz.underlying3) (by exact cells3) (by rfl) (by rfl)
theorem fp122_3 {cs : List PV} : fieldPV Tryz.prog 122 (.agg cs) 3 = cs[3]? := fpS_of Tryz.underlying122 (by rfl) (by exact Tryz.underlying3) (by rfl) (by rfl) cs
theorem eqs122 {a0 a1 a2 a3 b0 b1 b2 b3 : Int} : eqPV Tryz.prog 122 (.agg [.int .i64 a0, .int .i64 a1, .int .i64 a2, .int .i64 a3]) (.agg [.int .i64 b0, .int .i64 b1, .int .i64 b2, .int .i64 b3]) = some ((a0 == b0) && ((a1 == b1) && ((a2 == b2) && ((a3 == b3) && true)))) := by kernel_rfl
theorem bld122 {parts : List (Nat × PV)} : buildPV Tryz.prog 122 parts = bldX [.int .i64 0, .int .i64 0, .int .i64 0, .int .i64 0] [(0, 1), (1, 1), (2, 1), (3, 1)] parts := bldX_of zero122 Tryz.underlying122 (by kernel_rfl) (by kernel_rfl) parts
theorem lda125 {σ : Sg} {id off : Nat} : loadPV Tryz.prog σ 125 (.ptr id off) = ldS σ id off := ldS_of Tryz.underlying125 rfl
theorem ela125 {σ : Sg} {es i off : Nat} {l : List PV} : loadPV Tryz.prog σ 125 (.eptr es l i off) = elS l i off := elS_of Tryz.underlying125 rfl
theorem sto125 {σ : Sg} {id off : Nat} {p : PV} : storePV Tryz.prog σ 125 (.ptr id off) p = stX 1 σ id off p := stX_of Tryz.underlying125 cells125 p
theorem lda130 {σ : Sg} {id off : Nat} : loadPV Tryz.prog σ 130 (.ptr id off) = ldS σ id off := ldS_of Tryz.underlying130 rfl
theorem ela130 {σ : Sg} {es i off : Nat} {l : List PV} : loadPV Tryz.prog σ 130 (.eptr es l i off) = elS l i off := elS_of Tryz.underlying130 rfl
theorem sto130 {σ : Sg} {id off : Nat} {p : PV} : storePV Tryz.prog σ 130 (.ptr id off) p = stX 1 σ id off p := stX_of Tryz.underlying130 cells130 p
theorem ia130 {l : List PV} {own : Own} {k : IntKind} {i : Int} : indexAddrPV Tryz.prog 130 (.isl l own) (.int k i) = iaX 4 l i := iaX_of Tryz.underlying130 Tryz.underlying122 cells122 k i
theorem iam130 {id off len : Nat} {k : IntKind} {i : Int} : indexAddrPV Tryz.prog 130 (.msl id off len) (.int k i) = iaM 4 id off len i := iaM_of Tryz.underlying130 Tryz.underlying122 cells122 k len i
theorem len130 {l : List PV} {own : Own} : lenPV Tryz.prog 130 (.isl l own) = some (.int .i64 l.length) := len_of Tryz.underlying130
theorem lenm130 {id off n : Nat} : lenPV Tryz.prog 130 (.msl id off n) = some (.int .i64 n) := lenM_of Tryz.underlying130 n
theorem bs130 {len : Nat} {parts : List (Nat × PV)} : buildSlicePV Tryz.prog 130 len parts = bsX 4 len parts := bsX_of Tryz.underlying130 Tryz.underlying122 cells122 zero122 len parts
theorem app130 {σ : Sg} {l m : List PV} {own own' : Own} : appendPV Tryz.prog σ 130 130 (.isl l own) (.isl m own') = appX 4 32 σ l own m := appX_of Tryz.underlying130 Tryz.underlying122 cells122 bytes122 (by decide) (by decide) zero122 rfl
theorem lda134 {σ : Sg} {id off : Nat} : loadPV Tryz.prog σ 134 (.ptr id off) = ldA 8 σ id off := ldA_of Tryz.underlying134 rfl cells134
theorem ela134 {σ : Sg} {es i off : Nat} {l : List PV} : loadPV Tryz.prog σ 134 (.eptr es l i off) = elA 8 l i off := elA_of Tryz.underlying134 rfl cells134
theorem sto134 {σ : Sg} {id off : Nat} {p : PV} : storePV Tryz.prog σ 134 (.ptr id off) p = stX 8 σ id off p := stX_of Tryz.underlying134 cells134 p
theorem iar134 {id off : Nat} {k : IntKind} {i : Int} : indexAddrPV Tryz.prog 134 (.ptr id off) (.int k i) = iaM 1 id off 8 i := iaA_of Tryz.underlying134 Tryz.underlying4 cells4 k i
theorem ix134 {cs : List PV} {k : IntKind} {i : Int} : indexPV Tryz.prog 134 (.agg cs) (.int k i) = if 0 ≤ i ∧ i < (8 : Int) then cs[i.toNat]? else none := ixS_of Tryz.underlying134 Tryz.underlying4 rfl cells4 k i
theorem lda137 {σ : Sg} {id off : Nat} : loadPV Tryz.prog σ 137 (.ptr id off) = ldS σ id off := ldS_of Tryz.underlying137 rfl
theorem ela137 {σ : Sg} {es i off : Nat} {l : List PV} : loadPV Tryz.prog σ 137 (.eptr es l i off) = elS l i off := elS_of Tryz.underlying137 rfl
theorem sto137 {σ : Sg} {id off : Nat} {p : PV} : storePV Tryz.prog σ 137 (.ptr id off) p = stX 1 σ id off p := stX_of Tryz.underlying137 cells137 p
theorem lda138 {σ : Sg} {id off : Nat} : loadPV Tryz.prog σ 138 (.ptr id off) = ldS σ id off := ldS_of Tryz.underlying138 rfl
theorem ela138 {σ : Sg} {es i off : Nat} {l : List PV} : loadPV Tryz.prog σ 138 (.eptr es l i off) = elS l i off := elS_of Tryz.underlying138 rfl
theorem sto138 {σ : Sg} {id off : Nat} {p : PV} : storePV Tryz.prog σ 138 (.ptr id off) p = stX 1 σ id off p := stX_of Tryz.underlying138 cells138 p
theorem ia138 {l : List PV} {own : Own} {k : IntKind} {i : Int} : indexAddrPV Tryz.prog 138 (.isl l own) (.int k i) = iaX 1 l i := iaX_of Tryz.underlying138 Tryz.underlying137 cells137 k i
theorem iam138 {id off len : Nat} {k : IntKind} {i : Int} : indexAddrPV Tryz.prog 138 (.msl id off len) (.int k i) = iaM 1 id off len i := iaM_of Tryz.underlying138 Tryz.underlying137 cells137 k len i
theorem len138 {l : List PV} {own : Own} : lenPV Tryz.prog 138 (.isl l own) = some (.int .i64 l.length) := len_of Tryz.underlying138
theorem lenm138 {id off n : Nat} : lenPV Tryz.prog 138 (.msl id off n) = some (.int .i64 n) := lenM_of Tryz.underlying138 n
theorem bs138 {len : Nat} {parts : List (Nat × PV)} : buildSlicePV Tryz.prog 138 len parts = bsX 1 len parts := bsX_of Tryz.underlying138 Tryz.underlying137 cells137 zero137 len parts
theorem app138 {σ : Sg} {l m : List PV} {own own' : Own} : appendPV Tryz.prog σ 138 138 (.isl l own) (.isl m own') = appX 1 8 σ l own m := appX_of Tryz.underlying138 Tryz.underlying137 cells137 bytes137 (by decide) (by decide) zero137 rfl
theorem lda147 {σ : Sg} {id off : Nat} : loadPV Tryz.prog σ 147 (.ptr id off) = ldS σ id off := ldS_of Tryz.underlying147 rfl
theorem ela147 {σ : Sg} {es i off : Nat} {l : List PV} : loadPV Tryz.prog σ 147 (.eptr es l i off) = elS l i off := elS_of Tryz.underlying147 rfl
theorem sto147 {σ : Sg} {id off : Nat} {p : PV} : storePV Tryz.prog σ 147 (.ptr id off) p = stX 1 σ id off p := stX_of Tryz.underlying147 cells147 p
theorem lda155 {σ : Sg} {id off : Nat} : loadPV Tryz.prog σ 155 (.ptr id off) = ldS σ id off := ldS_of Tryz.underlying155 rfl
theorem ela155 {σ : Sg} {es i off : Nat} {l : List PV} : loadPV Tryz.prog σ 155 (.eptr es l i off) = elS l i off := elS_of Tryz.underlying155 rfl
theorem sto155 {σ : Sg} {id off : Nat} {p : PV} : storePV Tryz.prog σ 155 (.ptr id off) p = stX 1 σ id off p := stX_of Tryz.underlying155 cells155 p
theorem lda158 {σ : Sg} {id off : Nat} : loadPV Tryz.prog σ 158 (.ptr id off) = ldS σ id off := ldS_of Tryz.underlying158 rfl
theorem ela158 {σ : Sg} {es i off : Nat} {l : List PV} : loadPV Tryz.prog σ 158 (.eptr es l i off) = elS l i off := elS_of Tryz.underlying158 rfl
theorem sto158 {σ : Sg} {id off : Nat} {p : PV} : storePV Tryz.prog σ 158 (.ptr id off) p = stX 1 σ id off p := stX_of Tryz.underlying158 cells158 p
theorem lda161 {σ : Sg} {id off : Nat} : loadPV Tryz.prog σ 161 (.ptr id off) = ldS σ id off := ldS_of Tryz.underlying161 rfl
theorem ela161 {σ : Sg} {es i off : Nat} {l : List PV} : loadPV Tryz.prog σ 161 (.eptr es l i off) = elS l i off := elS_of Tryz.underlying161 rfl
theorem sto161 {σ : Sg} {id off : Nat} {p : PV} : storePV Tryz.prog σ 161 (.ptr id off) p = stX 1 σ id off p := stX_of Tryz.underlying161 cells161 p
theorem lda168 {σ : Sg} {id off : Nat} : loadPV Tryz.prog σ 168 (.ptr id off) = ldS σ id off := ldS_of Tryz.underlying168 rfl
theorem ela168 {σ : Sg} {es i off : Nat} {l : List PV} : loadPV Tryz.prog σ 168 (.eptr es l i off) = elS l i off := elS_of Tryz.underlying168 rfl
theorem sto168 {σ : Sg} {id off : Nat} {p : PV} : storePV Tryz.prog σ 168 (.ptr id off) p = stX 1 σ id off p := stX_of Tryz.underlying168 cells168 p
theorem lda175 {σ : Sg} {id off : Nat} : loadPV Tryz.prog σ 175 (.ptr id off) = ldA 4 σ id off := ldA_of Tryz.underlying175 rfl cells175
theorem ela175 {σ : Sg} {es i off : Nat} {l : List PV} : loadPV Tryz.prog σ 175 (.eptr es l i off) = elA 4 l i off := elA_of Tryz.underlying175 rfl cells175
theorem sto175 {σ : Sg} {id off : Nat} {p : PV} : storePV Tryz.prog σ 175 (.ptr id off) p = stX 4 σ id off p := stX_of Tryz.underlying175 cells175 p
theorem fa175_3 {id off : Nat} : fieldAddrPV Tryz.prog 175 (.ptr id off) 3 = some (.ptr id (off + 3)) := fa1_of Tryz.underlying175 (by rfl) (by exact Tryz.underlying9) (by exact cells9) (by rfl) (by rfl)
theorem fae175_3 {es i off : Nat} {l : List PV} : fieldAddrPV Tryz.prog 175 (.eptr es l i off) 3 = some (.eptr es l i (off + 3)) := fa2_of Tryz.underlying175 (by rfl) (by exact Tryz.underlying9) (by exact cells9) (by rfl) (by rfl)
theorem fp175_3 {cs : List PV} : fieldPV Tryz.prog 175 (.agg cs) 3 = cs[3]? := fpS_of Tryz.underlying175 (by rfl) (by exact Tryz.underlying9) (by rfl) (by rfl) cs
theorem lda176 {σ : Sg} {id off : Nat} : loadPV Tryz.prog σ 176 (.ptr id off) = ldA 4 σ id off := ldA_of Tryz.underlying176 rfl cells176
theorem ela176 {σ : Sg} {es i off : Nat} {l : List PV} : loadPV Tryz.prog σ 176 (.eptr es l i off) = elA 4 l i off := elA_of Tryz.underlying176 rfl cells176
theorem sto176 {σ : Sg} {id off : Nat} {p : PV} : storePV Tryz.prog σ 176 (.ptr id off) p = stX 4 σ id off p := stX_of Tryz.underlying176 cells176 p
theorem fa176_3 {id off : Nat} : fieldAddrPV Tryz.prog 176 (.ptr id off) 3 = some (.ptr id (off + 3)) := fa1_of Tryz.underlying176 (by rfl) (by exact Tryz.underlying9) (by exact cells9) (by rfl) (by rfl)
theorem fae176_3 {es i off : Nat} {l : List PV} : fieldAddrPV Tryz.prog 176 (.eptr es l i off) 3 = some (.eptr es l i (off + 3)) := fa2_of Tryz.underlying176 (by rfl) (by exact Tryz.underlying9) (by exact cells9) (by rfl) (by rfl)
theorem fp176_3 {cs : List PV} : fieldPV Tryz.prog 176 (.agg cs) 3 = cs[3]? := fpS_of Tryz.underlying176 (by rfl) (by exact Tryz.underlying9) (by rfl) (by rfl) cs
theorem lda177 {σ : Sg} {id off : Nat} : loadPV Tryz.prog σ 177 (.ptr id off) = ldA 0 σ id off := ldA_of Tryz.underlying177 rfl cells177
theorem ela177 {σ : Sg} {es i off : Nat} {l : List PV} : loadPV Tryz.prog σ 177 (.eptr es l i off) = elA 0 l i off := elA_of Tryz.underlying177 rfl cells177
theorem sto177 {σ : Sg} {id off : Nat} {p : PV} : storePV Tryz.prog σ 177 (.ptr id off) p = stX 0 σ id off p := stX_of Tryz.underlying177 cells177 p
theorem lda178 {σ : Sg} {id off : Nat} : loadPV Tryz.prog σ 178 (.ptr id off) = ldA 0 σ id off := ldA_of Tryz.underlying178 rfl cells178
theorem ela178 {σ : Sg} {es i off : Nat} {l : List PV} : loadPV Tryz.prog σ 178 (.eptr es l i off) = elA 0 l i off := elA_of Tryz.underlying178 rfl cells178
theorem sto178 {σ : Sg} {id off : Nat} {p : PV} : storePV Tryz.prog σ 178 (.ptr id off) p = stX 0 σ id off p := stX_of Tryz.underlying178 cells178 p
theorem lda179 {σ : Sg} {id off : Nat} : loadPV Tryz.prog σ 179 (.ptr id off) = ldA 0 σ id off := ldA_of Tryz.underlying179 rfl cells179
theorem ela179 {σ : Sg} {es i off : Nat} {l : List PV} : loadPV Tryz.prog σ 179 (.eptr es l i off) = elA 0 l i off := elA_of Tryz.underlying179 rfl cells179
theorem sto179 {σ : Sg} {id off : Nat} {p : PV} : storePV Tryz.prog σ 179 (.ptr id off) p = stX 0 σ id off p := stX_of Tryz.underlying179 cells179 p
theorem lda181 {σ : Sg} {id off : Nat} : loadPV Tryz.prog σ 181 (.ptr id off) = ldS σ id off := ldS_of Tryz.underlying181 rfl
theorem ela181 {σ : Sg} {es i off : Nat} {l : List PV} : loadPV Tryz.prog σ 181 (.eptr es l i off) = elS l i off := elS_of Tryz.underlying181 rfl
theorem sto181 {σ : Sg} {id off : Nat} {p : PV} : storePV Tryz.prog σ 181 (.ptr id off) p = stX 1 σ id off p := stX_of Tryz.underlying181 cells181 p
theorem lda182 {σ : Sg} {id off : Nat} : loadPV Tryz.prog σ 182 (.ptr id off) = ldS σ id off := ldS_of Tryz.underlying182 rfl
theorem ela182 {σ : Sg} {es i off : Nat} {l : List PV} : loadPV Tryz.prog σ 182 (.eptr es l i off) = elS l i off := elS_of Tryz.underlying182 rfl
theorem sto182 {σ : Sg} {id off : Nat} {p : PV} : storePV Tryz.prog σ 182 (.ptr id off) p = stX 1 σ id off p := stX_of Tryz.underlying182 cells182 p
theorem lda184 {σ : Sg} {id off : Nat} : loadPV Tryz.prog σ 184 (.ptr id off) = ldS σ id off := ldS_of Tryz.underlying184 rfl
theorem ela184 {σ : Sg} {es i off : Nat} {l : List PV} : loadPV Tryz.prog σ 184 (.eptr es l i off) = elS l i off := elS_of Tryz.underlying184 rfl
theorem sto184 {σ : Sg} {id off : Nat} {p : PV} : storePV Tryz.prog σ 184 (.ptr id off) p = stX 1 σ id off p := stX_of Tryz.underlying184 cells184 p
theorem lda185 {σ : Sg} {id off : Nat} : loadPV Tryz.prog σ 185 (.ptr id off) = ldS σ id off := ldS_of Tryz.underlying185 rfl
theorem ela185 {σ : Sg} {es i off : Nat} {l : List PV} : loadPV Tryz.prog σ 185 (.eptr es l i off) = elS l i off := elS_of Tryz.underlying185 rfl
theorem sto185 {σ : Sg} {id off : Nat} {p : PV} : storePV Tryz.prog σ 185 (.ptr id off) p = stX 1 σ id off p := stX_of Tryz.underlying185 cells185 p
theorem lda186 {σ : Sg} {id off : Nat} : loadPV Tryz.prog σ 186 (.ptr id off) = ldS σ id off := ldS_of Tryz.underlying186 rfl
theorem ela186 {σ : Sg} {es i off : Nat} {l : List PV} : loadPV Tryz.prog σ 186 (.eptr es l i off) = elS l i off := elS_of Tryz.underlying186 rfl
theorem sto186 {σ : Sg} {id off : Nat} {p : PV} : storePV Tryz.prog σ 186 (.ptr id off) p = stX 1 σ id off p := stX_of Tryz.underlying186 cells186 p
theorem lda187 {σ : Sg} {id off : Nat} : loadPV Tryz.prog σ 187 (.ptr id off) = ldA 11 σ id off := ldA_of Tryz.underlying187 rfl cells187
theorem ela187 {σ : Sg} {es i off : Nat} {l : List PV} : loadPV Tryz.prog σ 187 (.eptr es l i off) = elA 11 l i off := elA_of Tryz.underlying187 rfl cells187
theorem sto187 {σ : Sg} {id off : Nat} {p : PV} : storePV Tryz.prog σ 187 (.ptr id off) p = stX 11 σ id off p := stX_of Tryz.underlying187 cells187 p
theorem fa187_2 {id off : Nat} : fieldAddrPV Tryz.prog 187 (.ptr id off) 2 = some (.ptr id (off + 2)) := fa1_of Tryz.underlying187 (by rfl) (by exact Tryz.underlying155) (by exact cells155) (by rfl) (by rfl)
theorem fae187_2 {es i off : Nat} {l : List PV} : fieldAddrPV Tryz.prog 187 (.eptr es l i off) 2 = some (.eptr es l i (off + 2)) := fa2_of Tryz.underlying187 (by rfl) (by exact Tryz.underlying155) (by exact cells155) (by rfl) (by rfl)
theorem fp187_2 {cs : List PV} : fieldPV Tryz.prog 187 (.agg cs) 2 = cs[2]? := fpS_of Tryz.underlying187 (by rfl) (by exact Tryz.underlying155) (by rfl) (by rfl) cs
theorem fa187_3 {id off : Nat} : fieldAddrPV Tryz.prog 187 (.ptr id off) 3 = some (.ptr id (off + 3)) := fa1_of Tryz.underlying187 (by rfl) (by exact Tryz.underlying181) (by exact cells181) (by rfl) (by rfl)
theorem fae187_3 {es i off : Nat} {l : List PV} : fieldAddrPV Tryz.prog 187 (.eptr es l i off) 3 = some (.eptr es l i (off + 3)) := fa2_of Tryz.underlying187 (by rfl) (by exact Tryz.underlying181) (by exact cells181) (by rfl) (by rfl)
theorem fp187_3 {cs : List PV} : fieldPV Tryz.prog 187 (.agg cs) 3 = cs[3]? := fpS_of Tryz.underlying187 (by rfl) (by exact Tryz.underlying181) (by rfl) (by rfl) cs
theorem fa187_4 {id off : Nat} : fieldAddrPV Tryz.prog 187 (.ptr id off) 4 = some (.ptr id (off + 4)) := fa1_of Tryz.underlying187 (by rfl) (by exact Tryz.underlying5) (by exact cells5) (by rfl) (by rfl)
theorem fae187_4 {es i off : Nat} {l : List PV} : fieldAddrPV Tryz.prog 187 (.eptr es l i off) 4 = some (.eptr es l i (off + 4)) := fa2_of Tryz.underlying187 (by rfl) (by exact Tryz.underlying5) (by exact cells5) (by rfl) (by rfl)
theorem fp187_4 {cs : List PV} : fieldPV Tryz.prog 187 (.agg cs) 4 = cs[4]? := fpS_of Tryz.underlying187 (by rfl) (by exact Tryz.underlying5) (by rfl) (by rfl) cs
theorem fa187_5 {id off : Nat} : fieldAddrPV Tryz.prog 187 (.ptr id off) 5 = some (.ptr id (off + 5)) := fa1_of Tryz.underlying187 (by rfl) (by exact Tryz.underlying5) (by exact cells5) (by rfl) (by rfl)
theorem fae187_5 {es i off : Nat} {l : List PV} : fieldAddrPV Tryz.prog 187 (.eptr es l i off) 5 = some (.eptr es l i (off + 5)) := fa2_of Tryz.underlying187 (by rfl) (by exact Tryz.underlying5) (by exact cells5) (by rfl) (by rfl)
theorem fp187_5 {cs : List PV} : fieldPV Tryz.prog 187 (.agg cs) 5 = cs[5]? := fpS_of Tryz.underlying187 (by rfl) (by exact Tryz.underlying5) (by rfl) (by rfl) cs
theorem fa187_6 {id off : Nat} : fieldAddrPV Tryz.prog 187 (.ptr id off) 6 = some (.ptr id (off + 6)) := fa1_of Tryz.underlying187 (by rfl) (by exact Tryz.underlying182) (by exact cells182) (by rfl) (by rfl)
theorem fae187_6 {es i off : Nat} {l : List PV} : fieldAddrPV Tryz.prog 187 (.eptr es l i off) 6 = some (.eptr es l i (off + 6)) := fa2_of Tryz.underlying187 (by rfl) (by exact Tryz.underlying182) (by exact cells182) (by rfl) (by rfl)
theorem fp187_6 {cs : List PV} : fieldPV Tryz.prog 187 (.agg cs) 6 = cs[6]? := fpS_of Tryz.underlying187 (by rfl) (by exact Tryz.underlying182) (by rfl) (by rfl) cs
theorem fa187_8 {id off : Nat} : fieldAddrPV Tryz.prog 187 (.ptr id off) 8 = some (.ptr id (off + 8)) := fa1_of Tryz.underlying187 (by rfl) (by exact Tryz.underlying184) (by exact cells184) (by rfl) (by rfl)
theorem fae187_8 {es i off : Nat} {l : List PV} : fieldAddrPV Tryz.prog 187 (.eptr es l i off) 8 = some (.eptr es l i (off + 8)) := fa2_of Tryz.underlying187 (by rfl) (by exact Tryz.underlying184) (by exact cells184) (by rfl) (by rfl)
theorem fp187_8 {cs : List PV} : fieldPV Tryz.prog 187 (.agg cs) 8 = cs[8]? := fpS_of Tryz.underlying187 (by rfl) (by exact Tryz.underlying184) (by rfl) (by rfl) cs
theorem fa187_9 {id off : Nat} : fieldAddrPV Tryz.prog 187 (.ptr id off) 9 = some (.ptr id (off + 9)) := fa1_of Tryz.underlying187 (by rfl) (by exact Tryz.underlying185) (by exact cells185) (by rfl) (by rfl)
theorem fae187_9 {es i off : Nat} {l : List PV} : fieldAddrPV Tryz.prog 187 (.eptr es l i off) 9 = some (.eptr es l i (off + 9)) := fa2_of Tryz.underlying187 (by rfl) (by exact Tryz.underlying185) (by exact cells185) (by rfl) (by rfl)
theorem fp187_9 {cs : List PV} : fieldPV Tryz.prog 187 (.agg cs) 9 = cs[9]? := fpS_of Tryz.underlying187 (by rfl) (by exact Tryz.underlying185) (by rfl) (by rfl) cs
theorem fa187_10 {id off : Nat} : fieldAddrPV Tryz.prog 187 (.ptr id off) 10 = some (.ptr id (off + 10)) := fa1_of Tryz.underlying187 (by rfl) (by exact Tryz.underlying186) (by exact cells186) (by rfl) (by rfl)
theorem fae187_10 {es i off : Nat} {l : List PV} : fieldAddrPV Tryz.prog 187 (.eptr es l i off) 10 = some (.eptr es l i (off + 10)) := fa2_of Tryz.underlying187 (by rfl) (by exact Tryz.underlying186) (by exact cells186) (by rfl) (by rfl)
theorem fp187_10 {cs : List PV} : fieldPV Tryz.prog 187 (.agg cs) 10 = cs[10]? := fpS_of Tryz.underlying187 (by rfl) (by exact Tryz.underlying186) (by rfl) (by rfl) cs
theorem lda188 {σ : Sg} {id off : Nat} : loadPV Tryz.prog σ 188 (.ptr id off) = ldA 11 σ id off := ldA_of Tryz.underlying188 rfl cells188
theorem ela188 {σ : Sg} {es i off : Nat} {l : List PV} : loadPV Tryz.prog σ 188 (.eptr es l i off) = elA 11 l i off := elA_of Tryz.underlying188 rfl cells188
theorem sto188 {σ : Sg} {id off : Nat} {p : PV} : storePV Tryz.prog σ 188 (.ptr id off) p = stX 11 σ id off p := stX_of Tryz.underlying188 cells188 p
theorem fa188_2 {id off : Nat} : fieldAddrPV Tryz.prog 188 (.ptr id off) 2 = some (.ptr id (off + 2)) := fa1_of Tryz.underlying188 (by rfl) (by exact Tryz.underlying155) (by exact cells155) (by rfl) (by rfl)
theorem fae188_2 {es i off : Nat} {l : List PV} : fieldAddrPV Tryz.prog 188 (.eptr es l i off) 2 = some (.eptr es l i (off + 2)) := fa2_of Tryz.underlying188 (by rfl) (by exact Tryz.underlying155) (by exact cells155) (by rfl) (by rfl)
theorem fp188_2 {cs : List PV} : fieldPV Tryz.prog 188 (.agg cs) 2 = cs[2]? := fpS_of Tryz.underlying188 (by rfl) (by exact Tryz.underlying155) (by rfl) (by rfl) cs
theorem fa188_3 {id off : Nat} : fieldAddrPV Tryz.prog 188 (.ptr id off) 3 = some (.ptr id (off + 3)) := fa1_of Tryz.underlying188 (by rfl) (by exact Tryz.underlying181) (by exact cells181) (by rfl) (by rfl)
theorem fae188_3 {es i off : Nat} {l : List PV} : fieldAddrPV Tryz.prog 188 (.eptr es l i off) 3 = some (.eptr es l i (off + 3)) := fa2_of Tryz.underlying188 (by rfl) (by exact Tryz.underlying181) (by exact cells181) (by rfl) (by rfl)
theorem fp188_3 {cs : List PV} : fieldPV Tryz.prog 188 (.agg cs) 3 = cs[3]? := fpS_of Tryz.underlying188 (by rfl) (by exact Tryz.underlying181) (by rfl) (by rfl) cs
theorem fa188_4 {id off : Nat} : fieldAddrPV Tryz.prog 188 (.ptr id off) 4 = some (.ptr id (off + 4)) := fa1_of Tryz.underlying188 (by rfl) (by exact Tryz.underlying5) (by exact cells5) (by rfl) (by rfl)
theorem fae188_4 {es i off : Nat} {l : List PV} : fieldAddrPV Tryz.prog 188 (.eptr es l i off) 4 = some (.eptr es l i (off + 4)) := fa2_of Tryz.underlying188 (by rfl) (by exact Tryz.underlying5) (by exact cells5) (by rfl) (by rfl)
theorem fp188_4 {cs : List PV} : fieldPV Tryz.prog 188 (.agg cs) 4 = cs[4]? := fpS_of Tryz.underlying188 (by rfl) (by exact Tryz.underlying5) (by rfl) (by rfl) cs
theorem fa188_5 {id off : Nat} : fieldAddrPV Tryz.prog 188 (.ptr id off) 5 = some (.ptr id (off + 5)) := fa1_of Tryz.underlying188 (by rfl) (by exact Tryz.underlying5) (by exact cells5) (by rfl) (by rfl)
theorem fae188_5 {es i off : Nat} {l : List PV} : fieldAddrPV Tryz.prog 188 (.eptr es l i off) 5 = some (.eptr es l i (off + 5)) := fa2_of Tryz.underlying188 (by rfl) (by exact Tryz.underlying5) (by exact cells5) (by rfl) (by rfl)
theorem fp188_5 {cs : List PV} : fieldPV Tryz.prog 188 (.agg cs) 5 = cs[5]? := fpS_of Tryz.underlying188 (by rfl) (by exact Tryz.underlying5) (by rfl) (by rfl) cs
theorem fa188_6 {id off : Nat} : fieldAddrPV Tryz.prog 188 (.ptr id off) 6 = some (.ptr id (off + 6)) := fa1_of Tryz.underlying188 (by rfl) (by exact Tryz.underlying182) (by exact cells182) (by rfl) (by rfl)
theorem fae188_6 {es i off : Nat} {l : List PV} : fieldAddrPV Tryz.prog 188 (.eptr es l i off) 6 = some (.eptr es l i (off + 6)) := fa2_of Tryz.underlying188 (by rfl) (by exact Tryz.underlying182) (by exact cells182) (by rfl) (by rfl)
theorem fp188_6 {cs : List PV} : fieldPV Tryz.prog 188 (.agg cs) 6 = cs[6]? := fpS_of Tryz.underlying188 (by rfl) (by exact Tryz.underlying182) (by rfl) (by rfl) cs
theorem fa188_8 {id off : Nat} : fieldAddrPV Tryz.prog 188 (.ptr id off) 8 = some (.ptr id (off + 8)) := fa1_of Tryz.underlying188 (by rfl) (by exact Tryz.underlying184) (by exact cells184) (by rfl) (by rfl)
theorem fae188_8 {es i off : Nat} {l : List PV} : fieldAddrPV Tryz.prog 188 (.eptr es l i off) 8 = some (.eptr es l i (off + 8)) := fa2_of Tryz.underlying188 (by rfl) (by exact Tryz.underlying184) (by exact cells184) (by rfl) (by rfl)
theorem fp188_8 {cs : List PV} : fieldPV Tryz.prog 188 (.agg cs) 8 = cs[8]? := fpS_of Tryz.underlying188 (by rfl) (by exact Tryz.underlying184) (by rfl) (by rfl) cs
theorem fa188_9 {id off : Nat} : fieldAddrPV Tryz.prog 188 (.ptr id off) 9 = some (.ptr id (off + 9)) := fa1_of Tryz.underlying188 (by rfl) (by exact Tryz.underlying185) (by exact cells185) (by rfl) (by rfl)
theorem fae188_9 {es i off : Nat} {l : List PV} : fieldAddrPV Tryz.prog 188 (.eptr es l i off) 9 = some (.eptr es l i (off + 9)) := fa2_of Tryz.underlying188 (by rfl) (by exact Tryz.underlying185) (by exact cells185) (by rfl) (by rfl)
theorem fp188_9 {cs : List PV} : fieldPV Tryz.prog 188 (.agg cs) 9 = cs[9]? := fpS_of Tryz.underlying188 (by rfl) (by exact Tryz.underlying185) (by rfl) (by rfl) cs
theorem fa188_10 {id off : Nat} : fieldAddrPV Tryz.prog 188 (.ptr id off) 10 = some (.ptr id (off + 10)) := fa1_of Tryz.underlying188 (by rfl) (by exact Tryz.underlying186) (by exact cells186) (by rfl) (by rfl)
theorem fae188_10 {es i off : Nat} {l : List PV} : fieldAddrPV Tryz.prog 188 (.eptr es l i off) 10 = some (.eptr es l i (off + 10)) := fa2_of Tryz.underlying188 (by rfl) (by exact Tryz.underlying186) (by exact cells186) (by rfl) (by rfl)
theorem fp188_10 {cs : List PV} : fieldPV Tryz.prog 188 (.agg cs) 10 = cs[10]? := fpS_of Tryz.underlying188 (by rfl) (by exact Tryz.underlying186) (by rfl) (by rfl) cs
theorem lda189 {σ : Sg} {id off : Nat} : loadPV Tryz.prog σ 189 (.ptr id off) = ldS σ id off := ldS_of Tryz.underlying189 rfl
theorem ela189 {σ : Sg} {es i off : Nat} {l : List PV} : loadPV Tryz.prog σ 189 (.eptr es l i off) = elS l i off := elS_of Tryz.underlying189 rfl
theorem sto189 {σ : Sg} {id off : Nat} {p : PV} : storePV Tryz.prog σ 189 (.ptr id off) p = stX 1 σ id off p := stX_of Tryz.underlying189 cells189 p
attribute [go_sem] lda2 ela2 sto2 lda3 ela3 sto3 lda4 ela4 sto4 lda5 ela5 sto5 lda9 ela9 sto9 lda22 ela22 sto22 ia22 iam22 len22 lenm22 bs22 app22 lda23 ela23 sto23 ia23 iam23 len23 lenm23 bs23 app23 lda24 ela24 sto24 fa24_0 fae24_0 fp24_0 fa24_1 fae24_1 fp24_1 fa24_2 fae24_2 fp24_2 fa24_3 fae24_3 fp24_3 fa24_4 fae24_4 fp24_4 bld24 lda25 ela25 sto25 fa25_0 fae25_0 fp25_0 fa25_1 fae25_1 fp25_1 fa25_2 fae25_2 fp25_2 fa25_3 fae25_3 fp25_3 fa25_4 fae25_4 fp25_4 bld25 lda26 ela26 sto26 ia26 iam26 len26 lenm26 bs26 app26 lda29 ela29 sto29 lda31 ela31 sto31 lda34 ela34 sto34 ia34 iam34 len34 lenm34 bs34 app34 lda38 ela38 sto38 fa38_0 fae38_0 fp38_0 fa38_1 fae38_1 fp38_1 fa38_2 fae38_2 fp38_2 fa38_3 fae38_3 fp38_3 fa38_4 fae38_4 fp38_4 bld38 lda39 ela39 sto39 fa39_0 fae39_0 fp39_0 fa39_1 fae39_1 fp39_1 fa39_2 fae39_2 fp39_2 fa39_3 fae39_3 fp39_3 fa39_4 fae39_4 fp39_4 bld39 lda44 ela44 sto44 fa44_0 fae44_0 fp44_0 fa44_1 fae44_1 fp44_1 fa44_2 fae44_2 fp44_2 eqs44 bld44 lda45 ela45 sto45 fa45_0 fae45_0 fp45_0 fa45_1 fae45_1 fp45_1 fa45_2 fae45_2 fp45_2 eqs45 bld45 lda46 ela46 sto46 ia46 iam46 len46 lenm46 bs46 app46 lda50 ela50 sto50 fa50_0 fae50_0 fp50_0 fa50_1 fae50_1 fp50_1 fa50_2 fae50_2 fp50_2 fa50_3 fae50_3 fp50_3 fa50_4 fae50_4 fp50_4 fa50_5 fae50_5 fp50_5 eqs50 bld50 lda51 ela51 sto51 fa51_0 fae51_0 fp51_0 fa51_1 fae51_1 fp51_1 fa51_2 fae51_2 fp51_2 fa51_3 fae51_3 fp51_3 fa51_4 fae51_4 fp51_4 fa51_5 fae51_5 fp51_5 eqs51 bld51 lda55 ela55 sto55 ia55 iam55 len55 lenm55 bs55 app55 lda57 ela57 sto57 ia57 iam57 len57 lenm57 bs57 app57 lda59 ela59 sto59 ia59 iam59 len59 lenm59 bs59 app59 lda74 ela74 sto74 fa74_0 fae74_0 fp74_0 fa74_1 fae74_1 fp74_1 fa74_2 fae74_2 fp74_2 fa74_3 fae74_3 fp74_3 eqs74 bld74 lda75 ela75 sto75 fa75_0 fae75_0 fp75_0 fa75_1 fae75_1 fp75_1 fa75_2 fae75_2 fp75_2 fa75_3 fae75_3 fp75_3 eqs75 bld75 lda77 ela77 sto77 lda78 ela78 sto78 fa78_0 fae78_0 fp78_0 eqs78 bld78 lda79 ela79 sto79 fa79_0 fae79_0 fp79_0 eqs79 bld79 lda82 ela82 sto82 iar82 ix82 lda83 ela83 sto83 fa83_0 fae83_0 fp83_0 fa83_1 fae83_1 fp83_1 bld83 lda84 ela84 sto84 fa84_0 fae84_0 fp84_0 fa84_1 fae84_1 fp84_1 bld84 lda85 ela85 sto85 lda86 ela86 sto86 fa86_0 fae86_0 fp86_0 fa86_1 fae86_1 fp86_1 fa86_2 fae86_2 fp86_2 fa86_3 fae86_3 fp86_3 bld86 lda87 ela87 sto87 fa87_0 fae87_0 fp87_0 fa87_1 fae87_1 fp87_1 fa87_2 fae87_2 fp87_2 fa87_3 fae87_3 fp87_3 bld87 lda88 ela88 sto88 ia88 iam88 len88 lenm88 bs88 app88 lda103 ela103 sto103 ia103 iam103 len103 lenm103 bs103 app103 lda109 ela109 sto109 fa109_0 fae109_0 fp109_0 fa109_1 fae109_1 fp109_1 fa109_2 fae109_2 fp109_2 eqs109 bld109 lda110 ela110 sto110 fa110_0 fae110_0 fp110_0 fa110_1 fae110_1 fp110_1 fa110_2 fae110_2 fp110_2 eqs110 bld110 lda112 ela112 sto112 lda115 ela115 sto115 lda121 ela121 sto121 fa121_0 fae121_0 fp121_0 fa121_1 fae121_1 fp121_1 fa121_2 fae121_2 fp121_2 fa121_3 fae121_3 fp121_3 eqs121 bld121 lda122 ela122 sto122 fa122_0 fae122_0 fp122_0 fa122_1 fae122_1 fp122_1 fa122_2 fae122_2 fp122_2 fa122_3 fae122_3 fp122_3 eqs122 bld122 lda125 ela125 sto125 lda130 ela130 sto130 ia130 iam130 len130 lenm130 bs130 app130 lda134 ela134 sto134 iar134 ix134 lda137 ela137 sto137 lda138 ela138 sto138 ia138 iam138 len138 lenm138 bs138 app138 lda147 ela147 sto147 lda155 ela155 sto155 lda158 ela158 sto158 lda161 ela161 sto161 lda168 ela168 sto168 lda175 ela175 sto175 fa175_3 fae175_3 fp175_3 lda176 ela176 sto176 fa176_3 fae176_3 fp176_3 lda177 ela177 sto177 lda178 ela178 sto178 lda179 ela179 sto179 lda181 ela181 sto181 lda182 ela182 sto182 lda184 ela184 sto184 lda185 ela185 sto185 lda186 ela186 sto186 lda187 ela187 sto187 fa187_2 fae187_2 fp187_2 fa187_3 fae187_3 fp187_3 fa187_4 fae187_4 fp187_4 fa187_5 fae187_5 fp187_5 fa187_6 fae187_6 fp187_6 fa187_8 fae187_8 fp187_8 fa187_9 fae187_9 fp187_9 fa187_10 fae187_10 fp187_10 lda188 ela188 sto188 fa188_2 fae188_2 fp188_2 fa188_3 fae188_3 fp188_3 fa188_4 fae188_4 fp188_4 fa188_5 fae188_5 fp188_5 fa188_6 fae188_6 fp188_6 fa188_8 fae188_8 fp188_8 fa188_9 fae188_9 fp188_9 fa188_10 fae188_10 fp188_10 lda189 ela189 sto189 zero2 zero3 zero4 zero5 zero9 zero22 zero23 zero24 zero25 zero26 zero29 zero31 zero34 zero38 zero39 zero44 zero45 zero46 zero50 zero51 zero55 zero57 zero59 zero74 zero75 zero77 zero78 zero79 zero82 zero83 zero84 zero85 zero86 zero87 zero88 zero103 zero109 zero110 zero112 zero115 zero121 zero122 zero125 zero130 zero134 zero137 zero138 zero147 zero155 zero158 zero161 zero168 zero175 zero176 zero177 zero178 zero179 zero181 zero182 zero184 zero185 zero186 zero187 zero188 zero189
theorem seqN {K : Env → Sg → Prop} {Q : Exit → Env → Sg → Prop} {E : Env} {σ : Sg} : Seq K Q .normal E σ = K E σ := rfl
theorem seqR {K : Env → Sg → Prop} {Q : Exit → Env → Sg → Prop} {E : Env} {σ : Sg} : Seq K Q .ret E σ = Q .ret E σ := rfl
theorem seqX {K : Env → Sg → Prop} {Q : Exit → Env → Sg → Prop} {E : Env} {σ : Sg} {i : Nat} : Seq K Q (.exit i) E σ = Q (.exit i) E σ := rfl
theorem blkN {i : Nat} {Q : Exit → Env → Sg → Prop} {E : Env} {σ : Sg} : InBlock i Q .normal E σ = Q .normal E σ := rfl
theorem blkR {i : Nat} {Q : Exit → Env → Sg → Prop} {E : Env} {σ : Sg} : InBlock i Q .ret E σ = Q .ret E σ := rfl
theorem blkX {i j : Nat} {Q : Exit → Env → Sg → Prop} {E : Env} {σ : Sg} : InBlock i Q (.exit j) E σ = if j = i then Q .normal E σ else Q (.exit j) E σ := rfl
theorem range0 : List.range 0 = [] := rfl
theorem range1 : List.range 1 = [0] := rfl
theorem range2 : List.range 2 = [0, 1] := rfl
theorem range3 : List.range 3 = [0, 1, 2] := rfl
theorem range4 : List.range 4 = [0, 1, 2, 3] := rfl
theorem range5 : List.range 5 = [0, 1, 2, 3, 4] := rfl
theorem range6 : List.range 6 = [0, 1, 2, 3, 4, 5] := rfl
theorem range7 : List.range 7 = [0, 1, 2, 3, 4, 5, 6] := rfl
theorem range8 : List.range 8 = [0, 1, 2, 3, 4, 5, 6, 7] := rfl
theorem range9 : List.range 9 = [0, 1, 2, 3, 4, 5, 6, 7, 8] := rfl
theorem range10 : List.range 10 = [0, 1, 2, 3, 4, 5, 6, 7, 8, 9] := rfl
theorem range11 : List.range 11 = [0, 1, 2, 3, 4, 5, 6, 7, 8, 9, 10] := rfl
theorem range12 : List.range 12 = [0, 1, 2, 3, 4, 5, 6, 7, 8, 9, 10, 11] := rfl
theorem range13 : List.range 13 = [0, 1, 2, 3, 4, 5, 6, 7, 8, 9, 10, 11, 12] := rfl
theorem range14 : List.range 14 = [0, 1, 2, 3, 4, 5, 6, 7, 8, 9, 10, 11, 12, 13] := rfl
theorem range15 : List.range 15 = [0, 1, 2, 3, 4, 5, 6, 7, 8, 9, 10, 11, 12, 13, 14] := rfl
theorem range16 : List.range 16 = [0, 1, 2, 3, 4, 5, 6, 7, 8, 9, 10, 11, 12, 13, 14, 15] := rfl
attribute [go_sem] range0 range1 range2 range3 range4 range5 range6 range7 range8 range9 range10 range11 range12 range13 range14 range15 range16
attribute [go_sem low] Sg.push_new Sg.pushRoom_new Sg.pushY_new
attribute [go_sem] Sg.ext_ext
attribute [go_sem] seqN seqR seqX blkN blkR blkX
attribute [go_sem] GL GD GWant_true GWant_false GOpt_some GWho_nobody GWho_fn GWho_yield GOr_true wantedPV whom effOp pureOp isNilC isNilV ev constPV constPV0 Option.map Option.bind decide_false ite_true ite_false eq_self gt_iff_lt ge_iff_le Env.put Env.get dstOK Nat.reduceLT decide_true Nat.reduceEqDiff argsEnv Nat.reduceAdd binPV bin arith isShift pickPV keep List.map Bool.true_and Bool.and_true reduceIte List.getElem?_toArray List.getElem?_cons_succ List.getElem?_cons_zero beq_true beq_false Bool.not_true Bool.not_false Bool.false_eq_true true_and and_true undefs Dem Option.map_some Option.map_none builtinPV foldMax foldMin unPV extractPV oneOr Sg.push_ext Sg.pushRoom_ext Sg.len_ext Sg.rooms_ext Sg.ys_ext Sg.pushY_ext Sg.ysget_ext Sg.ysget_ext0 Sg.setY_ext Sg.setY_ext0 Sg.popY_ext Sg.popY_ext0 ldS_ext ldS_ext0 ldA_ext ldA_ext0 stX_ext stX_ext0 List.cons_append List.nil_append List.length_cons List.length_nil Nat.zero_add Nat.add_zero List.set_cons_zero List.set_cons_succ PV.cells_agg PV.cells_int PV.cells_bool PV.cells_str PV.cells_isl PV.cells_nilsl PV.cells_func PV.cells_ptr PV.cells_undef defd PV.scalar List.all_cons List.all_nil BEq.rfl Nat.le_refl Nat.reduceLeDiff putCells fillPV List.take_succ_cons List.take_zero List.drop_succ_cons List.drop_zero and_self Nat.reduceMul Nat.reducePow Nat.lt_add_one Nat.reduceBEq List.length_map List.take_nil List.drop_nil
theorem setVar_some {σ : Sg} {id i : Nat} {cs cs' x : List PV} (hid : σ.store[id]? = some (some cs)) (h : (σ.setVar id cs').store[i]? = some (some x)) : (i = id ∧ x = cs') ∨ (i ≠ id ∧ σ.store[i]? = some (some x)) := by
 have h' : (σ.store.set id (some cs'))[i]? = some (some x) := h
 rw [List.getElem?_set] at h'
 by_cases e : id = i
 ·subst e
  rw [if_pos rfl, if_pos (List.getElem?_eq_some_iff.1 hid).1] at h'
  injection h' with h'
  injection h' with h'
  exact .inl ⟨rfl, h'.symm⟩
 ·rw [if_neg e] at h'
  exact .inr ⟨fun e' => e e'.symm, h'⟩
theorem SR.reread {Ψ : Ty} {σ : Sg} {w : World} (h : SR Ψ σ w) {id : Nat} {cs cs' : List PV} (hid : σ.store[id]? = some (some cs))
  (hv : ∀ b, Ψ.β[id]? = some b → Keeps Ψ w b cs → Keeps Ψ w b cs') : SR Ψ (σ.setVar id cs') w := by
 have old : ∀ (i : Nat) (x : List PV), (σ.setVar id cs').store[i]? = some (some x) → ∃ y, σ.store[i]? = some (some y) := fun i x hx => by
  rcases setVar_some hid hx with ⟨rfl, _⟩ | ⟨_, h'⟩
  ·exact ⟨_, hid⟩
  ·exact ⟨_, h'⟩
 refine ⟨h.base, h.imm, by rw [sv_len]; exact h.blen, ?_, ?_, ?_, h.roomsApart, h.histlt, h.histle, h.βlt, h.yok, h.ylen', h.dok, ?_, h.szok⟩
 ·intro i x b hx hb
  rcases setVar_some hid hx with ⟨rfl, rfl⟩ | ⟨_, h'⟩
  ·obtain ⟨a1, a2, a0⟩ := h.block i cs b hid hb
   exact ⟨a1, a2, hv b hb a0⟩
  ·exact h.block i x b h' hb
 ·intro i i' x x' b hx hx' hb hb'
  obtain ⟨y, hy⟩ := old i x hx
  obtain ⟨y', hy'⟩ := old i' x' hx'
  exact h.apart i i' y y' b hy hy' hb hb'
 ·intro r n b e c es hr hh hlt
  obtain ⟨a1, a2, a3, a4⟩ := h.room r n b e c es hr hh hlt
  refine ⟨a1, a2, fun i hi x hx => ?_, a4⟩
  obtain ⟨y, hy⟩ := old i x hx
  exact a3 i hi y hy
 ·intro b c hm
  obtain ⟨a1, a2, a3, a4, a5⟩ := h.rok b c hm
  refine ⟨a1, a2, fun i hi x hx => ?_, a4, a5⟩
  obtain ⟨y, hy⟩ := old i x hx
  exact a3 i hi y hy
theorem Keeps.setRo {Ψ : Ty} {w : World} {b off : Nat} {cs : List PV} {p : PV} (h : Keeps Ψ w b cs) (hp : cs[off]? = some p) : Keeps Ψ w b (cs.set off p.ro) := by
 have hlt : off < cs.length := (List.getElem?_eq_some_iff.1 hp).1
 have at' : ∀ (j : Nat) (q : PV), (cs.set off p.ro)[j]? = some q → (j = off ∧ q = p.ro) ∨ cs[j]? = some q := by
  intro j q hq
  rw [List.getElem?_set] at hq
  by_cases e : off = j
  ·rw [if_pos e, if_pos hlt] at hq
   injection hq with hq
   exact .inl ⟨e.symm, hq.symm⟩
  ·rw [if_neg e] at hq
   exact .inr hq
 rcases h with ⟨c, a3, a4, a5⟩ | ⟨arr, es, rfl, a3, a4, a5⟩ | ⟨mid, r, n, seen, rfl, a3, a4⟩
 ·refine .inl ⟨c, a3, by simpa using a4, fun j q v h1 h2 => ?_⟩
  rcases at' j q h1 with ⟨rfl, rfl⟩ | h1
  ·exact (a5 j p v hp h2).ro
  ·exact a5 j q v h1 h2
 ·rcases off with _ | off
  ·simp at hp
   subst hp
   exact .inr (.inl ⟨arr, es, rfl, a3, a4, a5⟩)
  ·refine .inr (.inl ⟨arr, es.set off p.ro, rfl, a3, by simpa using a4, fun j q e h1 h2 => ?_⟩)
   simp only [List.getElem?_cons_succ] at hp
   rcases at' (j + 1) q (by simpa using h1) with ⟨hj, rfl⟩ | h1
   ·have : j = off := by omega
    subst this
    obtain ⟨g1, k, v, rfl, g2, g3⟩ := a5 j p e hp h2
    exact ⟨g1, k.ro, v.ro, rfl, g2.ro, g3.ro⟩
   ·exact a5 j q e (by simpa using h1) h2
 ·rcases off with _ | off
  ·simp at hp
   subst hp
   exact .inr (.inr ⟨mid, r, n, seen, rfl, a3, a4⟩)
  ·simp at hp
theorem Weak.roomV {N : Nat} {lo : Nat × Nat} {E : Env} {σ : Sg} {id off es : Nat} {cs l : List PV} (hid : σ.store[id]? = some (some cs)) (hc : cs[off]? = some (.isl l .exact)) (hes : ∀ q, q ∈ l → q.cells.length = es) :
  Weak N lo E σ E ((σ.setVar id (cs.set off (.isl l (.tok σ.rooms.length l.length es)))).pushRoom l.length) := by
 intro Ψ0 Ψ D a w hb le hr
 obtain ⟨b, hβ⟩ : ∃ b, Ψ.β[id]? = some b := by
  have : id < Ψ.β.length := by rw [hr.sg.blen]; exact (List.getElem?_eq_some_iff.1 hid).1
  exact ⟨Ψ.β[id], by simp [this]⟩
 obtain ⟨_, _, h0⟩ := hr.sg.block id cs b hid hβ
 obtain ⟨c, hbi, hcl, hcv⟩ : ∃ c, blockIs w b c ∧ cs.length ≤ c.size ∧ ∀ (j : Nat) (p : PV) (v : Value), cs[j]? = some p → c[j]? = some v → VR Ψ p v := by
  rcases h0 with h0 | ⟨arr, es, rfl, _, g1, g2⟩ | ⟨mid, r, n, seen, rfl, _, _⟩
  ·exact h0
  rotate_left
  ·rcases off with _ | off
   ·simp at hc
   ·simp at hc
  ·rcases off with _ | off
   ·simp at hc
   simp only [List.getElem?_cons_succ] at hc
   have hlt : off < arr.size := by rw [g1]; exact (List.getElem?_eq_some_iff.1 hc).1
   obtain ⟨_, k, v, e, _⟩ := g2 off _ arr[off] hc (by simp [hlt])
   cases e
 have hoff : off < cs.length := (List.getElem?_eq_some_iff.1 hc).1
 have hoc : off < c.size := Nat.lt_of_lt_of_le hoff hcl
 have hv : VR Ψ (.isl l .exact) c[off] := hcv off _ _ hc (by simp [hoc])
 have fin : ∀ x : Option (Nat × Nat × Nat × Nat), (∀ b e c s, x = some (b, e, c, s) → ¬ e < c) → (∀ Ψ', Ψ.le Ψ' → Ψ'.hist σ.rooms.length l.length = some x → VR Ψ' (.isl l (.tok σ.rooms.length l.length es)) c[off]) →
   ∃ Ψ', Ψ0.le Ψ' ∧ Rel N D Ψ' E ((σ.setVar id (cs.set off (.isl l (.tok σ.rooms.length l.length es)))).pushRoom l.length) a w := by
  intro x hx hvr
  obtain ⟨le', hs'⟩ := hr.sg.newRoom l.length x (fun b e c s hh hlt => absurd hlt (hx b e c s hh))
  have hnew := hvr _ le' (by simp [Ty.addHist])
  have hid' : (σ.pushRoom l.length).store[id]? = some (some cs) := hid
  have hs2 := hs'.reread (cs' := cs.set off (.isl l (.tok σ.rooms.length l.length es))) hid' (fun b2 hb2 h2 => by
   have e1 : b2 = b := by
    have := le'.β id b hβ
    rw [hb2] at this; injection this
   subst e1
   obtain ⟨g1, g2⟩ := h2.cells hbi
   refine .inl ⟨c, hbi, by simpa using g1, fun j p v h1 h2 => ?_⟩
   rw [List.getElem?_set] at h1
   by_cases hj : off = j
   ·subst hj
    rw [if_pos rfl, if_pos hoff] at h1
    injection h1 with h1
    subst h1
    have : v = c[off] := by simpa [hoc] using h2.symm
    rw [this]; exact hnew
   ·rw [if_neg hj] at h1
    exact g2 j p v h1 h2)
  refine ⟨_, le.trans le', hr.size, fun t' => (hr.env t').mono le', hs2, fun d hd => le'.ds _ (hr.dsub d hd), ?_⟩
  obtain ⟨rs, r1, r2, r3⟩ := hr.defs
  exact ⟨rs, r1, r2, fun r hm => ⟨le'.ds _ (r3 r hm).1, (r3 r hm).2⟩⟩
 generalize hx : c[off] = x at hv fin
 cases hv with
 | islnil _ a0 _ => exact fin none (fun b e c s h => by cases h) fun Ψ' _ hh => .islnil _ a0 ⟨_, hh⟩
 | isl es0 _ _ b o cap vals hs h1 h2 hc' ho =>
  have hcap : cap = l.length := ho
  subst hcap
  refine fin (some (b, o + l.length * es, o + l.length * es, es)) (fun b e c s h => by injection h with h; injection h with _ h; injection h with h1 h; injection h with h2 _; omega) fun Ψ' le' hh => ?_
  by_cases hl : l = []
  ·subst hl
   exact .isl es [] _ b o 0 vals (fun k e h => by simp at h) (fun k e j p h => by simp at h) (fun k e j p h => by simp at h) (Nat.le_refl _) ⟨rfl, hh⟩
  ·have : es0 = es := by
    cases l with
    | nil => exact absurd rfl hl
    | cons q l => rw [← hs 0 q rfl]; exact hes q (by simp)
   subst this
   exact .isl es0 l _ b o _ vals hs (fun k e j p q1 q2 => le'.imm _ _ _ (h1 k e j p q1 q2)) (fun k e j p q1 q2 => (h2 k e j p q1 q2).mono le') (Nat.le_refl _) ⟨rfl, hh⟩
theorem Weak.roomX {N : Nat} {lo : Nat × Nat} {E : Env} {σ : Sg} {l : List (Option (List PV))} {rm : List Nat} {ys : List LState} {j off es : Nat} {cs m : List PV} (hid : l[j]? = some (some cs)) (hc : cs[off]? = some (.isl m .exact)) (hes : ∀ q, q ∈ m → q.cells.length = es) :
  Weak N lo E (σ.ext l rm ys) E (σ.ext (l.set j (some (cs.set off (.isl m (.tok (σ.rooms.length + rm.length) m.length es))))) (rm ++ [m.length]) ys) := by
 have h := Weak.roomV (N := N) (lo := lo) (E := E) (σ := σ.ext l rm ys) (id := σ.store.length + j) (off := off) (es := es) (cs := cs) (l := m) (by rw [Sg.get_ext]; exact hid) hc hes
 rw [Sg.rooms_ext, Sg.set_ext, Sg.pushRoom_ext] at h
 exact h
theorem Weak.roomSV {N : Nat} {lo : Nat × Nat} {E : Env} {σ : Sg} {d : Nat} {ds : List PV} {l : List (Option (List PV))} {rm : List Nat} {ys : List LState} {j off es : Nat} {cs m : List PV} (hid : l[j]? = some (some cs)) (hc : cs[off]? = some (.isl m .exact)) (hes : ∀ q, q ∈ m → q.cells.length = es) :
  Weak N lo E ((σ.setVar d ds).ext l rm ys) E ((σ.setVar d ds).ext (l.set j (some (cs.set off (.isl m (.tok (σ.rooms.length + rm.length) m.length es))))) (rm ++ [m.length]) ys) := by
 have h := Weak.roomX (N := N) (lo := lo) (E := E) (σ := σ.setVar d ds) (rm := rm) (ys := ys) hid hc hes
 exact h
theorem Weak.cutSV {N : Nat} {lo : Nat × Nat} {E : Env} {σ : Sg} {d : Nat} {ds : List PV} {l : List (Option (List PV))} {rm : List Nat} {ys : List LState} (k j : Nat) (h1 : lo.1 ≤ σ.store.length + k) (h2 : lo.2 ≤ σ.rooms.length + j) (hcl : CleanSg σ) (hds : CleanAll σ.store.length σ.rooms.length σ.ys.length ds)
  (hc : CleanLs (σ.store.length + k) (σ.rooms.length + j) (σ.ys.length + ys.length) (l.take k)) (hE : CleanEs (σ.store.length + k) (σ.rooms.length + j) (σ.ys.length + ys.length) E) :
  Weak N lo E ((σ.setVar d ds).ext l rm ys) E ((σ.setVar d ds).ext (l.take k) (rm.take j) ys) := by
 have h := Weak.cutX (N := N) (lo := lo) (E := E) (σ := σ.setVar d ds) (l := l) (rm := rm) (ys := ys) k j (by rw [sv_len]; exact h1) h2 (CleanSg_set hcl hds) (by rw [sv_len]; exact hc) (by rw [sv_len]; exact hE)
 exact h
theorem Weak.roV {N : Nat} {lo : Nat × Nat} {E : Env} {σ : Sg} {id off : Nat} {cs : List PV} {p : PV} (hid : σ.store[id]? = some (some cs)) (hc : cs[off]? = some p) : Weak N lo E σ E (σ.setVar id (cs.set off p.ro)) := by
 intro Ψ0 Ψ D a w hb le hr
 have hs2 := hr.sg.reread (cs' := cs.set off p.ro) hid (fun b hb2 h2 => h2.setRo hc)
 exact ⟨Ψ, le, hr.size, hr.env, hs2, hr.dsub, hr.defs⟩
theorem Weak.roX {N : Nat} {lo : Nat × Nat} {E : Env} {σ : Sg} {l : List (Option (List PV))} {rm : List Nat} {ys : List LState} {j off : Nat} {cs : List PV} {p : PV} (hid : l[j]? = some (some cs)) (hc : cs[off]? = some p) :
  Weak N lo E (σ.ext l rm ys) E (σ.ext (l.set j (some (cs.set off p.ro))) rm ys) := by
 have h := Weak.roV (N := N) (lo := lo) (E := E) (σ := σ.ext l rm ys) (id := σ.store.length + j) (off := off) (cs := cs) (p := p) (by rw [Sg.get_ext]; exact hid) hc
 rw [Sg.set_ext] at h
 exact h
theorem op_step {D : List Nat} {P : Program} {N : Nat} {rd : Option Nat} {ops : Array Oper} {Ψ0 : Ty} {Q : Exit → Act → World → Prop} {E : Env} {σ : Sg} {Ψ : Ty} {a : Act} {w : World} {o : Oper} {i : Nat} {is : List Nat} {v : PV}
  (hr : Rel N D Ψ E σ a w) (ho : ops[i]? = some o) (hd : dstOK N o = true) (hg : o.guard = none) (hnd : ∀ c, o.op ≠ .defer c) {x : Value} (hx : (execOp a.eval o).run P w = .ok (.value x) w) (hv : VR Ψ v x)
  (k : ∀ a', Rel N D Ψ (E.put o.dst v) σ a' w → wpOpsIn (FnOf Ψ0 rd) 0 P ops Q is a' w) : wpOpsIn (FnOf Ψ0 rd) 0 P ops Q (i :: is) a w := by
 simp only [wpOpsIn, ho]
 have hw : wantedPV ops E o = some true := by simp [wantedPV, hg]
 rw [wanted_ok hw hr.env]
 simp only [if_true]
 refine ⟨fun f _ => FnOf_fn _ _ _, ?_⟩
 rw [Oper.semAt_eq _ _ _ hnd, hx]
 exact k _ (hr.put (Ty.le.refl _) hr.sg hd hv)
theorem W_isnil {P : Program} {Y : YEnv} {N : Nat} {rd : Option Nat} {lo : Nat × Nat} {id d1 d2 : Nat} {x : Operand} {t ty1 ty2 e : TypeId} {p1 p2 : String} {af1 af2 : Array Edge} {sh : TypeId} {E : Env} {σ : Sg} {Q : Exit → Env → Sg → Prop} {l : List PV} {own : Own} (ks : List Nat)
  (h1 : d1 < N) (h2 : d2 < N) (hx : ev E x = .isl l own) (ht : P.underlying t = some (.slice e))
  (h : ∀ b : Bool, (b = true → l = []) → Q .normal (keep ks ((d2, .bool b) :: (d1, .isl l own) :: E)) σ) :
  W P Y N rd lo (.region id #[{ dst := some d1, op := .move x, type := ty1, pos := p1, after := af1, guard := none }, { dst := some d2, op := .binOp .eql t (.tmp d1) (.const (.slice none 0 0)) sh, type := ty2, pos := p2, after := af2, guard := none }] false) E σ Q := by
 intro Ψ0 D _ hy _ Ψ a w le hr
 refine wpIn_region ?_
 have hv := ev_ok hr.env x
 rw [hx] at hv
 refine op_step (is := [1]) (v := .isl l own) hr rfl (by simp [dstOK, h1]) rfl (fun c e => by cases e) (x := a.eval x) rfl hv fun a1 hr1 => ?_
 have hv1 : VR Ψ (.isl l own) (a1.tmps.getD d1 undef) := by
  have : VR Ψ ((Env.put E (some d1) (.isl l own)).get d1) (a1.tmps.getD d1 undef) := hr1.env d1
  rw [show (Env.put E (some d1) (.isl l own)).get d1 = .isl l own by simp [Env.get]] at this
  exact this
 have hval : ∃ q n c, a1.tmps.getD d1 undef = .slice q n c ∧ (q.isNone = true → l = []) := by
  generalize a1.tmps.getD d1 undef = z at hv1
  cases hv1 with
  | islnil _ _ _ => exact ⟨_, _, _, rfl, fun _ => rfl⟩
  | isl es _ _ b o cap vals hs h1 h2 hc ho => exact ⟨_, _, _, rfl, fun h => by simp at h⟩
 obtain ⟨q, n, c, hz, hq⟩ := hval
 have he : (a1.eval (.tmp d1)) = .slice q n c := hz
 have hrun : ∀ o : Oper, o.op = .binOp .eql t (.tmp d1) (.const (.slice none 0 0)) sh → (execOp a1.eval o).run P w = .ok (.value (.bool q.isNone)) w := by
  intro o ho
  have e1 : execOp a1.eval o = (do pure (.value (← (do eqGuard .eql t (.tmp d1) (.const (.slice none 0 0)) (a1.eval (.tmp d1)) (a1.eval (.const (.slice none 0 0))); binOp .eql t (a1.eval (.tmp d1)) (a1.eval (.const (.slice none 0 0))) : Sem Value)))) := by
   unfold execOp; rw [ho]
  have he2 : a1.eval (.const (.slice none 0 0)) = .slice none 0 0 := rfl
  rw [e1, he, he2]
  have hg : (eqGuard .eql t (.tmp d1) (.const (.slice none 0 0)) (.slice q n c) (.slice none 0 0)).run P w = .ok () w := rfl
  have hb : (binOp .eql t (.slice q n c) (.slice none 0 0)).run P w = .ok (.bool q.isNone) w := by
   have heq : (Op.equal t (.slice q n c) (.slice none 0 0)).run P w = .ok q.isNone w := by
    unfold Op.equal
    show (Op.equalIn (9999 + 1) t (.slice q n c) (.slice none 0 0)).run P w = _
    unfold Op.equalIn
    rw [run_bind_ok (run_und ht)]
    cases q <;> rfl
   show (do pure (.bool (← Op.equal t (.slice q n c) (.slice none 0 0))) : Sem Value).run P w = _
   rw [run_bind_ok heq]; rfl
  have hgb : (do eqGuard .eql t (.tmp d1) (.const (.slice none 0 0)) (.slice q n c) (.slice none 0 0); binOp .eql t (.slice q n c) (.slice none 0 0) : Sem Value).run P w = .ok (.bool q.isNone) w := by
   rw [run_bind_ok hg]; exact hb
  rw [run_bind_ok hgb]
  rfl
 refine op_step (is := []) (v := .bool q.isNone) hr1 rfl (by simp [dstOK, h2]) rfl (fun c e => by cases e) (x := .bool q.isNone) (hrun _ rfl) (.bool _) fun a2 hr2 => ?_
 exact ⟨_, σ, Ψ, le, hr2.keep ks, Below.refl _ _, h _ hq⟩
theorem slHi_of {P : Program} {t e : TypeId} {d : TypeDesc} (h : P.underlying t = some (.slice e)) (he : P.underlying e = some d) (l : List PV) (own : Own) (k : IntKind) (n : Int) :
  slicePV P t (.isl l own) none (some (.int k n)) none = if 0 ≤ n then if n.toNat ≤ l.length then some (.isl (l.take n.toNat) (sliceOwn own 0 n.toNat l.length)) else none else none := by
 unfold slicePV
 rw [h]
 simp only [he, bnd]
 by_cases hn : 0 ≤ n
 ·simp [hn]
 ·simp [hn]
theorem sliceOwn_ro {lo h len : Nat} : sliceOwn .ro lo h len = .ro := by unfold sliceOwn; split <;> rfl
theorem sliceOwn_self {own : Own} {lo len : Nat} : sliceOwn own lo len len = own := by simp [sliceOwn]
attribute [go_sem] sliceOwn_ro sliceOwn_self
theorem slLo_of {P : Program} {t e : TypeId} {d : TypeDesc} {c : Nat} (h : P.underlying t = some (.slice e)) (he : P.underlying e = some d) (hc : P.cellsOf e = c) {α : Type} {f : α → PV} (hf : ∀ x, (f x).cells.length = c) (xs : List α) (own : Own) (k : IntKind) (n : Int) :
  slicePV P t (.isl (xs.map f) own) (some (.int k n)) none none = if 0 ≤ n then if n.toNat ≤ xs.length then some (.isl ((xs.drop n.toNat).map f) own) else none else none := by
 have hall : (xs.map f).all (fun el => el.cells.length == c) = true := by
  rw [List.all_eq_true]
  intro p hp
  obtain ⟨x, _, rfl⟩ := List.mem_map.1 hp
  simp [hf]
 unfold slicePV
 rw [h]
 simp only [he, bnd, hc]
 by_cases hn : 0 ≤ n
 ·simp only [hn, if_true]
  by_cases hl : n.toNat ≤ xs.length
  ·rw [if_pos ⟨by simpa using hl, Nat.le_refl _, .inr hall⟩, if_pos hl, sliceOwn_self, ← List.map_drop, List.take_of_length_le (by simp)]
  ·rw [if_neg (fun q => hl (by simpa using q.1)), if_neg hl]
 ·simp [hn]
theorem slBoth_of {P : Program} {t e : TypeId} {d : TypeDesc} {c : Nat} (h : P.underlying t = some (.slice e)) (he : P.underlying e = some d) (hc : P.cellsOf e = c) {α : Type} {f : α → PV} (hf : ∀ x, (f x).cells.length = c) (xs : List α) (own : Own) (k k' : IntKind) (n m : Int) :
  slicePV P t (.isl (xs.map f) own) (some (.int k n)) (some (.int k' m)) none = if 0 ≤ n then if 0 ≤ m then if n.toNat ≤ m.toNat ∧ m.toNat ≤ xs.length then some (.isl (((xs.drop n.toNat).take (m.toNat - n.toNat)).map f) (sliceOwn own n.toNat m.toNat xs.length)) else none else none else none := by
 have hall : (xs.map f).all (fun el => el.cells.length == c) = true := by
  rw [List.all_eq_true]
  intro p hp
  obtain ⟨x, _, rfl⟩ := List.mem_map.1 hp
  simp [hf]
 unfold slicePV
 rw [h]
 simp only [he, bnd, hc]
 by_cases hn : 0 ≤ n
 ·by_cases hm : 0 ≤ m
  ·simp only [hn, hm, if_true]
   by_cases hl : n.toNat ≤ m.toNat ∧ m.toNat ≤ xs.length
   ·rw [if_pos ⟨hl.1, by simpa using hl.2, .inr hall⟩, if_pos hl]
    simp only [List.length_map, ← List.map_drop, ← List.map_take]
   ·rw [if_neg (fun q => hl ⟨q.1, by simpa using q.2.1⟩), if_neg hl]
  ·simp [hn, hm]
 ·simp [hn]
section
variable {P : Program} {t e : TypeId} {d : TypeDesc} {c b : Nat} {σ : Sg} {id len es : Nat}
theorem iaG_of (h : P.underlying t = some (.slice e)) (he : P.underlying e = some d) (hc : P.cellsOf e = c) (kd : IntKind) (len : Nat) (n : Int) : indexAddrPV P t (.gsl id len es) (.int kd n) = iaM c id 0 len n := by
 simp [indexAddrPV, h, he, hc, iaM]
theorem lenG_of (h : P.underlying t = some (.slice e)) (n : Nat) : lenPV P t (.gsl id n es) = some (.int .i64 n) := by simp [lenPV, h]
theorem lenN_of (h : P.underlying t = some (.slice e)) : lenPV P t .gnil = some (.int .i64 0) := by simp [lenPV, h]
def appG (c b : Nat) (σ : Sg) (x : PV) (m : List PV) : Option (PV × Sg) :=
  if m.all (fun q => (q.cells.length == c) && q.cells.all PV.scalar) && decide (0 < m.length) then
    (match x with
     | .gnil => if m.length * b ≤ 2 ^ 47 then some (.gsl σ.store.length m.length c, σ.push (rowC m)) else none
     | .gsl id len es => match σ.store[id]? with
       | some (some cs) => if es = c ∧ len * es ≤ cs.length ∧ (len + m.length) * b ≤ 2 ^ 47 then some (.gsl σ.store.length (len + m.length) es, (σ.drop id).push (cs.take (len * es) ++ rowC m)) else none
       | _ => none
     | _ => none)
  else none
theorem appG_of {zs : List PV} {x : PV} {m : List PV} {own : Own} (h : P.underlying t = some (.slice e)) (he : P.underlying e = some d) (hc : P.cellsOf e = c) (hb : P.bytesOf e = b) (hb0 : b ≠ 0) (hc0 : 0 < c) (hz : zeroPV P e = some zs) (hzl : zs.length = c) :
  appendG P σ t t x (.isl m own) = appG c b σ x m := by
 unfold appendG appG
 rw [h]
 simp only [he, hc, hb, hz, hzl, Option.isSome_some, Bool.true_and, Option.map_some, BEq.rfl, Bool.and_true, hb0, hc0, ne_eq, not_false_eq_true, and_self, decide_true]
 rfl
theorem appG_nil {m : List PV} (h1 : m.all (fun q => (q.cells.length == c) && q.cells.all PV.scalar) = true) (h2 : 0 < m.length) (h3 : m.length * b ≤ 2 ^ 47) : appG c b σ .gnil m = some (.gsl σ.store.length m.length c, σ.push (rowC m)) := by
 simp only [appG, h1, h2, h3, decide_true, Bool.and_true, if_true]
theorem appG_more {m cs : List PV} (hs : σ.store[id]? = some (some cs)) (hl : cs.length = len * c) (h1 : m.all (fun q => (q.cells.length == c) && q.cells.all PV.scalar) = true) (h2 : 0 < m.length) (h3 : (len + m.length) * b ≤ 2 ^ 47) :
  appG c b σ (.gsl id len c) m = some (.gsl σ.store.length (len + m.length) c, (σ.drop id).push (cs ++ rowC m)) := by
 simp only [appG, h1, h2, decide_true, Bool.and_true, if_true, hs]
 rw [if_pos ⟨trivial, by omega, h3⟩, List.take_of_length_le (by omega)]
end
theorem get_put1 (E : Env) (t : Nat) (v : PV) (t' : Nat) : (E.put (some t) v).get t' = if t' = t then v else E.get t' := by
 simp only [Env.put_some, Env.get]
 by_cases h : t' = t
 ·subst h; simp
 ·simp [h, Ne.symm h]
theorem rowC_at {es : Nat} : ∀ {l : List PV} (_ : ∀ q ∈ l, q.cells.length = es) {k j : Nat} {q p : PV}, l[k]? = some q → q.cells[j]? = some p → (rowC l)[k * es + j]? = some p := by
 intro l
 induction l with
 | nil => intro _ k j q p h; simp at h
 | cons a l ih =>
  intro hl k j q p h1 h2
  have ha := hl a (by simp)
  have e : rowC (a :: l) = a.cells ++ rowC l := by simp [rowC]
  rw [e]
  cases k with
  | zero =>
   simp at h1
   subst h1
   rw [Nat.zero_mul, Nat.zero_add, List.getElem?_append_left (List.getElem?_eq_some_iff.1 h2).1]
   exact h2
  | succ k =>
   have := ih (fun q hq => hl q (by simp [hq])) (by simpa using h1) h2
   rw [List.getElem?_append_right (by rw [ha, Nat.add_mul]; omega), ha, show (k + 1) * es + j - es = k * es + j by rw [Nat.add_mul]; omega]
   exact this
theorem Sg.drop_ext {σ : Sg} {l : List (Option (List PV))} {rm : List Nat} {ys : List LState} (j : Nat) : (σ.ext l rm ys).drop (σ.store.length + j) = σ.ext (l.set j none) rm ys := by
 simp [Sg.drop, Sg.ext, List.set_append]
theorem Sg.drop_ext0 {σ : Sg} {l : List (Option (List PV))} {rm : List Nat} {ys : List LState} : (σ.ext l rm ys).drop σ.store.length = σ.ext (l.set 0 none) rm ys := Sg.drop_ext 0
attribute [go_sem] Sg.drop_ext Sg.drop_ext0
theorem Weak.freeze {N : Nat} {lo : Nat × Nat} {E : Env} {σ : Sg} {t id len es : Nat} {l : List PV} (ht : E.get t = .gsl id len es) (hs : σ.store[id]? = some (some (rowC l))) (hl : l.length = len) (hes : ∀ q ∈ l, q.cells.length = es) :
  Weak N lo E σ (E.put (some t) (.isl l .ro)) (σ.drop id) := by
 intro Ψ0 Ψ D a w hb le hr
 have hv := hr.env t
 rw [ht] at hv
 generalize hx : a.tmps.getD t undef = x at hv
 cases hv with
 | gsl _ _ _ b cap hβ hz1 hz0 hc =>
 obtain ⟨_, c, hbk, _⟩ := hr.sg.szok b 0 hz0
 obtain ⟨_, _, hkp⟩ := hr.sg.block id _ b hs hβ
 obtain ⟨a4, a5⟩ := hkp.cells hbk
 obtain ⟨le2, hs2⟩ := hr.sg.freeze hs hβ hbk
 refine ⟨_, le.trans le2, hr.size, fun t' => ?_, hs2, fun d hd => le2.ds _ (hr.dsub d hd), ?_⟩
 ·rw [get_put1]
  split
  ·rename_i e
   subst e
   rw [hx, ← hl]
   have hat : ∀ (k : Nat) (q : PV) (j : Nat) (p : PV), l[k]? = some q → q.cells[j]? = some p → (rowC l)[k * es + j]? = some p ∧ k * es + j < c.size := fun k q j p q1 q2 => by
    have := rowC_at hes q1 q2
    exact ⟨this, Nat.lt_of_lt_of_le (List.getElem?_eq_some_iff.1 this).1 a4⟩
   refine .isl es l .ro b 0 cap (fun k j => c.getD (k * es + j) undef) (fun k q hk => hes q (List.mem_of_getElem? hk)) (fun k q j p q1 q2 => ?_) (fun k q j p q1 q2 => ?_) (by omega) trivial
   ·obtain ⟨_, hlt⟩ := hat k q j p q1 q2
    simp only [Ty.addImm, Nat.zero_add]
    rw [if_pos ⟨trivial, Nat.zero_le _, hlt⟩]
    simp [Array.getD, hlt]
   ·obtain ⟨h1, hlt⟩ := hat k q j p q1 q2
    refine (a5 _ p _ h1 ?_).mono le2
    simp [Array.getD, hlt]
  ·exact (hr.env t').mono le2
 ·obtain ⟨rs, r1, r2, r3⟩ := hr.defs
  exact ⟨rs, r1, r2, fun r hm => ⟨le2.ds _ (r3 r hm).1, (r3 r hm).2⟩⟩
theorem Weak.gnil {N : Nat} {lo : Nat × Nat} {E : Env} {σ : Sg} {t : Nat} (ht : E.get t = .isl [] .exact) : Weak N lo E σ (E.put (some t) .gnil) σ := by
 intro Ψ0 Ψ D a w hb le hr
 refine ⟨Ψ, le, hr.size, fun t' => ?_, hr.sg, hr.dsub, hr.defs⟩
 rw [get_put1]
 split
 ·rename_i e
  subst e
  have hv := hr.env t'
  rw [ht] at hv
  generalize a.tmps.getD t' undef = x at hv
  cases hv with
  | islnil _ a' _ => exact .gnil a'
  | isl es _ _ b o cap vals hs h1 h2 hc ho =>
   have : cap = 0 := ho
   subst this
   exact .gnil _
 ·exact hr.env t'
end Go.Proofs.YtnolifglhhjdnaaGreat
