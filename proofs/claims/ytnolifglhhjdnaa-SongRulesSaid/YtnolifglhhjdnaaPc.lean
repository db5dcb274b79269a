/-
  Regions that draw their order: the rule of the walk.
  Views: a state and what was added to it; owners forgotten; how functions usually end.
  What the operations do at a type, without the type.
  Loops that count down; ends that leave something new.
  Cleanness of what was added; folds over ranges of numbers.
  A slice without spare room gets a room; a value's owner is forgotten.
  Loops over a state of plain values; cleanness, loads of rows and variables that were there before, by simp.
  Regions whose ways meet again; sums that fit.
  The types of this seat's program, as the pure reading asks of them.
  What the operations do at this seat's types.
  The rules by which a walk is worked out.
  A variable's slice without spare room gets a room; what is read of a variable may be told otherwise.
  The owner of a slice in a variable is forgotten.
  A slice is held against nil: the answer is open where the slice is empty.
  Slices of slices: what goes in front is cut off.
  Slices that grow in place: operations without types; a variable moved to another number; a variable that is never written again.
  Maps as lists of keys with their values, without the program's types.
-/
import Derived.Test.YtnolifglhhjdnaaPb
import Derived.CallsIn
import Derived.RangeFuncLeaves
import Derived.RangeFuncRecord
import Derived.OrdersIn
import Derived.Below
import Derived.Laws.World
import Derived.Laws.StructEq
import Derived.Laws.Append
import Derived.MapKept
import Derived.ProofKit
import Derived.Carry
import Derived.Handed
import Derived.ChangeCalls
import Derived.RangeFuncIn
import Derived.RangeFuncNested
import Derived.Test.YtnolifglhhjdnaaProg
import Derived.KernelRfl
import Derived.IntWalk
import Derived.Sort.OwnSortedInts
import Derived.Lib.SlicesCompact
import Derived.Test.YtnolifglhhjdnaaRows
import Derived.Shelf.Sort.Plain
import Derived.Shelf.Slices.In.SortNone
import Derived.Shelf.Small.Bits
import Derived.JoinedOf
set_option linter.unusedSimpArgs false
set_option linter.unusedVariables false
namespace Go.Proofs.Ytnolifglhhjdnaa
open Go Go.RowKit
section
variable {P : Program} {Y : YEnv} {N : Nat} {rd : Option Nat} {D : List Nat} {Ψ0 : Ty} {w0 : World} {Q : Exit → Act → World → Prop} {ops : Array Oper} {is : List Nat} {plan : List (Nat × Nat)} {pre : List (List Nat)} {T : List St} {E0 Ef : Env} {σ0 σf : Sg}
def left (listed : Array Bool) (n : Nat) : Nat := ((List.range n).filter fun i => !listed.getD i false).length
theorem filter_lt {α : Type} {f g : α → Bool} : ∀ (l : List α), (∀ x, x ∈ l → g x = true → f x = true) → (∃ x, x ∈ l ∧ f x = true ∧ g x = false) → (l.filter g).length < (l.filter f).length := by
 intro l
 have le : ∀ l : List α, (∀ x, x ∈ l → g x = true → f x = true) → (l.filter g).length ≤ (l.filter f).length := by
  intro l
  induction l with
  | nil => intro _; simp
  | cons a l ih =>
   intro h
   have := ih (fun x hx => h x (List.mem_cons_of_mem _ hx))
   simp only [List.filter_cons]
   cases hg : g a with
   | false => simp only [Bool.false_eq_true, if_false]; split <;> simp <;> omega
   | true => rw [h a (List.mem_cons_self ..) hg]; simp; exact this
 induction l with
 | nil => rintro _ ⟨x, hx, _⟩; cases hx
 | cons a l ih =>
  intro h ⟨x, hx, hf, hg⟩
  have h' : ∀ x, x ∈ l → g x = true → f x = true := fun x hx => h x (List.mem_cons_of_mem _ hx)
  simp only [List.filter_cons]
  rcases List.mem_cons.1 hx with rfl | hx
  ·rw [hf, hg]
   have := le l h'
   simp
   omega
  ·have := ih h' ⟨x, hx, hf, hg⟩
   cases hga : g a with
   | false => simp only [Bool.false_eq_true, if_false]; split <;> simp <;> omega
   | true => rw [h a (List.mem_cons_self ..) hga]; simp; exact this
theorem Inv.all (H : Shown P Y N ops is plan pre T E0 Ef σ0 σf) (hy : YOK P Y Ψ0) (hQ : ∀ Ψ' a' w', Ψ0.le Ψ' → Rel N D Ψ' Ef σf a' w' → Below Ψ0.base w0 w' → Q .normal a' w') :
  ∀ (fuel : Nat) (listed : Array Bool) (p : Nat) (bl : Nat → Option (Nat × Array Value)) (Ψ : Ty) (a : Act) (w : World), left listed ops.size ≤ fuel → Inv P N D Ψ0 w0 ops is T E0 σf listed p bl Ψ a w →
   wpAnyIn (FnOf Ψ0 rd) 0 P .any ops Q fuel listed a w := by
 have fin : ∀ (listed : Array Bool) (p : Nat) (bl : Nat → Option (Nat × Array Value)) (Ψ : Ty) (a : Act) (w : World), Inv P N D Ψ0 w0 ops is T E0 σf listed p bl Ψ a w → (∀ i, i < ops.size → listed.getD i false = true) → Q .normal a w := by
  intro listed p bl Ψ a w I hall
  obtain ⟨p', Ψ', I', hfar⟩ := I.far H (ops.size - p) p Ψ (by have := I.pn; omega)
  have hp : p' = ops.size := by
   rcases hfar with e | ⟨_, s, hs, hl⟩
   ·exact e
   ·rw [hall s.i (H.ilt hs)] at hl; cases hl
  subst hp
  have h1 : goE ops (vis ops is listed ops.size) T E0 = Ef := goE_linked T E0 σ0 H.link fun s hs => by
   obtain ⟨q, hq⟩ := List.mem_iff_getElem?.1 hs
   unfold vis
   rw [hall s.i (H.ilt hq), H.idx hq]
   simp [H.lt hq]
  have h2 : st T σf ops.size = σf := by
   unfold st
   rw [List.getElem?_eq_none (by rw [H.len]; exact Nat.le_refl _)]
  have hr := I'.rel
  rw [h1, h2] at hr
  exact hQ Ψ' a w I'.le hr I'.bel
 have some_ready : ∀ (listed : Array Bool), listed.size = ops.size → Region.ready .any ops listed = [] → ∀ i, i < ops.size → listed.getD i false = true := by
  intro listed hsz hr i
  induction hn : is.idxOf i using Nat.strongRecOn generalizing i with
  | _ n ih =>
   intro hi
   subst hn
   cases hl : listed.getD i false with
   | true => rfl
   | false =>
    exfalso
    have : i ∈ Region.ready .any ops listed := by
     rw [mem_ready]
     refine ⟨?_, ops[i], by simp [hi], fun e he hb => ?_⟩
     ·have hi' : i < listed.size := by omega
      simp [hi'] at hl ⊢; exact hl
     ·have hmem : e.on ∈ dir ops i := by
       unfold dir
       simp only [Array.getElem?_eq_getElem hi, List.mem_map, List.mem_filter]
       exact ⟨e, ⟨by simpa using he, hb⟩, rfl⟩
      obtain ⟨hk, hlt⟩ := H.facts.dlt i hi _ hmem
      exact ih _ hlt e.on rfl hk
    rw [hr] at this
    cases this
 intro fuel
 induction fuel with
 | zero =>
  intro listed p bl Ψ a w hleft I
  have hall : ∀ i, i < ops.size → listed.getD i false = true := by
   intro i hi
   cases hl : listed.getD i false with
   | true => rfl
   | false =>
    have : i ∈ (List.range ops.size).filter fun i => !listed.getD i false := List.mem_filter.2 ⟨List.mem_range.2 hi, by rw [hl]; rfl⟩
    have := List.length_pos_of_mem this
    unfold left at hleft
    omega
  refine ⟨?_, fin listed p bl Ψ a w I hall⟩
  cases hr : Region.ready .any ops listed with
  | nil => rfl
  | cons i is' =>
   exfalso
   have : i ∈ Region.ready .any ops listed := by rw [hr]; simp
   obtain ⟨h0, o, ho, _⟩ := mem_ready.1 this
   have hi : i < ops.size := (Array.getElem?_eq_some_iff.1 ho).1
   have := hall i hi
   have hi' : i < listed.size := by rw [I.size]; exact hi
   simp [hi'] at h0 this
   rw [h0] at this; cases this
 | succ fuel ih =>
  intro listed p bl Ψ a w hleft I
  refine ⟨fun hr => fin listed p bl Ψ a w I (some_ready listed I.size hr), fun i hi => ?_⟩
  obtain ⟨h0, o, ho, hall⟩ := mem_ready.1 hi
  have hin : i < ops.size := (Array.getElem?_eq_some_iff.1 ho).1
  have hi' : i < listed.size := by rw [I.size]; exact hin
  have hun : listed.getD i false = false := by simp [hi'] at h0 ⊢; exact h0
  obtain ⟨q, s, hs, rfl⟩ := H.pos hin
  obtain ⟨p', Ψ', I', hfar⟩ := I.far H (ops.size - p) p Ψ (by have := I.pn; omega)
  refine I'.step H hy hfar hs hun (fun j hj => ?_) fun p2 bl2 Ψ2 a2 w2 I2 => ih _ p2 bl2 Ψ2 a2 w2 ?_ I2
  ·unfold dir at hj
   rw [ho] at hj
   simp only [List.mem_map, List.mem_filter] at hj
   obtain ⟨e, ⟨he, hb⟩, rfl⟩ := hj
   exact hall e (by simpa using he) hb
  ·have : left (listed.setIfInBounds s.i true) ops.size < left listed ops.size := by
    refine filter_lt _ (fun j _ hg => ?_) ⟨s.i, List.mem_range.2 hin, by rw [hun]; rfl, by rw [getL hi']; simp⟩
    rw [getL hi'] at hg
    split at hg
    ·cases hg
    ·exact hg
   omega
end
def undefs : List Oper → Env → Env
 | [], E => E
 | o :: os, E => match o.op with
  | .alloc _ => undefs os (E.put o.dst .undef)
  | _ => undefs os E
theorem undefs_or (d : Nat) : ∀ (os : List Oper) (E : Env), (undefs os E).get d = E.get d ∨ (undefs os E).get d = .undef := by
 intro os
 induction os with
 | nil => intro E; exact .inl rfl
 | cons o os ih =>
  intro E
  unfold undefs
  split
  ·rcases ih (E.put o.dst .undef) with h | h
   ·rw [h, get_put]
    split
    ·exact .inr rfl
    ·exact .inl rfl
   ·exact .inr h
  ·exact ih E
theorem undefs_get (d : Nat) : ∀ (os : List Oper) (E : Env), (∃ o, o ∈ os ∧ allocs o = true ∧ o.dst = some d) ∨ E.get d = .undef → (undefs os E).get d = .undef := by
 intro os
 induction os with
 | nil =>
  rintro E (⟨o, ho, _⟩ | h)
  ·cases ho
  ·exact h
 | cons o os ih =>
  intro E h
  unfold undefs
  split
  ·rename_i t ht
   refine ih _ ?_
   rcases h with ⟨o', ho', h1, h2⟩ | h
   ·rcases List.mem_cons.1 ho' with rfl | ho'
    ·exact .inr (by rw [get_put, if_pos h2])
    ·exact .inl ⟨o', ho', h1, h2⟩
   ·exact .inr (by rw [get_put]; split <;> first | rfl | exact h)
  ·rename_i hne
   refine ih _ ?_
   rcases h with ⟨o', ho', h1, h2⟩ | h
   ·rcases List.mem_cons.1 ho' with rfl | ho'
    ·exfalso
     unfold allocs at h1
     split at h1
     ·exact hne _ ‹_›
     ·cases h1
    ·exact .inl ⟨o', ho', h1, h2⟩
   ·exact .inr h
theorem ER.undefs {Ψ : Ty} {E : Env} {tmps : Array Value} (h : ER Ψ E tmps) (os : List Oper) : ER Ψ (undefs os E) tmps := fun t => by
 rcases undefs_or t os E with e | e
 ·rw [e]; exact h t
 ·rw [e]; exact .undef _
def GOr (p : Prop) [K : KB0] : Prop := p ∨ K.run
theorem GOr_true (K : KB0) : @GOr True K = True := by simp [GOr]
theorem GOr_right {p : Prop} {K : KB0} (h : K.run) : @GOr p K := .inr h
def Dem (P : Program) (ops : Array Oper) (T : List St) (σf : Sg) : List (Nat × Nat) → Prop
 | [] => True
 | (q, p) :: r => (match T[q]? with
  | none => True
  | some s => match ops[s.i]? with
   | none => True
   | some o => @GOr (st T σf p = s.σ) ⟨s.b = true → effOp P (st T σf p) s.E o.op = some (s.v, st T σf p)⟩) ∧ Dem P ops T σf r
theorem Dem.get {P : Program} {ops : Array Oper} {T : List St} {σf : Sg} {q p : Nat} : ∀ (plan : List (Nat × Nat)), Dem P ops T σf plan → (q, p) ∈ plan → ∀ s o, T[q]? = some s → ops[s.i]? = some o →
  st T σf p = s.σ ∨ (s.b = true → effOp P (st T σf p) s.E o.op = some (s.v, st T σf p)) := by
 intro plan
 induction plan with
 | nil => intro _ h; cases h
 | cons a plan ih =>
  intro h hm s o hs ho
  obtain ⟨h1, h2⟩ := h
  rcases List.mem_cons.1 hm with e | hm
  ·subst e
   simp only at h1
   rw [hs] at h1
   simp only at h1
   rw [ho] at h1
   exact h1
  ·exact ih h2 hm s o hs ho
theorem draw_any {P : Program} {Y : YEnv} {N : Nat} {rd : Option Nat} {D : List Nat} {Ψ0 Ψ : Ty} {ops : Array Oper} {E : Env} {σ : Sg} {a : Act} {w : World} {Q : Exit → Act → World → Prop} {K : Env → Sg → Prop} (is : List Nat) (plan : List (Nat × Nat)) (pre : List (List Nat)) (hc : drawOK ops is plan pre = true)
  (h : GD P Y N ops is (undefs ops.toList E) σ [] (fun T E' σ' => Dem P ops T.reverse σ' plan ∧ K E' σ')) (hy : YOK P Y Ψ0) (le : Ψ0.le Ψ) (hr : Rel N D Ψ E σ a w)
  (hQ : ∀ Ψ' E' σ' a' w', Ψ0.le Ψ' → Rel N D Ψ' E' σ' a' w' → Below Ψ0.base w w' → K E' σ' → Q .normal a' w') : wpAnyIn (FnOf Ψ0 rd) 0 P .any ops Q ops.size (Array.replicate ops.size false) a { w with drawn := w.drawn + 1 } := by
 have hF := drawOK_facts ops is plan pre hc
 obtain ⟨T, Ef, σf, hl, hmap, hdem, hfin⟩ := GD_trace is (undefs ops.toList E) σ [] h
 rw [List.append_nil, List.reverse_reverse] at hdem
 have hfresh : ∀ q d, allocsAt ops is q = true → dstAt ops is q = some d → (undefs ops.toList E).get d = .undef := by
  intro q d hal hd
  refine undefs_get d _ _ (.inl ?_)
  unfold allocsAt at hal
  unfold dstAt at hd
  cases ho : opAt ops is q with
  | none => rw [ho] at hal; cases hal
  | some o =>
   rw [ho] at hal hd
   refine ⟨o, ?_, hal, hd⟩
   unfold opAt at ho
   cases hi : is[q]? with
   | none => rw [hi] at ho; cases ho
   | some i => rw [hi] at ho; exact List.mem_of_getElem? (by rw [Array.getElem?_toList]; exact ho)
 have H : Shown P Y N ops is plan pre T (undefs ops.toList E) Ef σ σf := by
  refine ⟨hF, hl, hmap, fun q p hqp hcq s o hs ho hsb => ?_, hfresh⟩
  rcases hdem.get plan hqp s o hs ho with e | e
  ·obtain ⟨E', o', ho', _, _, _, hd⟩ := hl.at T _ _ q s hs
   rw [ho] at ho'
   injection ho' with ho'
   subst ho'
   have hoa : opAt ops is q = some o := by
    unfold opAt
    rw [← hmap]
    simp [hs, ho]
   unfold chainAt at hcq
   rw [hoa] at hcq
   simp only [Option.any_some, Bool.or_eq_false_iff] at hcq
   unfold DoneAs at hd
   rw [hsb] at hd
   simp only at hd
   rw [whom_quiet hcq.1] at hd
   simp only at hd
   have := quiet hcq.1 hcq.2 hd
   rw [this] at hd
   rw [e]
   exact hd
  ·exact e hsb
 refine Inv.all (D := D) (w0 := w) (bl := fun _ => none) (p := 0) (Ψ := Ψ) H hy (fun Ψ' a' w' l1 l2 l3 => hQ Ψ' _ σf a' w' l1 l2 l3 hfin) ops.size _ _ _ ?_ ?_
 ·unfold left
  refine Nat.le_trans (List.length_filter_le _ _) (by simp)
 ·have hnone : ∀ i, (Array.replicate ops.size false).getD i false = false := fun i => by
   rw [Array.getD_eq_getD_getElem?, Array.getElem?_replicate]
   split <;> rfl
  have e1 : ∀ t, (goE ops (vis ops is (Array.replicate ops.size false) 0) T (undefs ops.toList E)).get t = (undefs ops.toList E).get t := fun t => goE_off _ _ fun s _ _ => by
   unfold vis; rw [hnone]; rfl
  have hst : st T σf 0 = σ := by
   unfold st
   cases T with
   | nil => exact hl.2.symm
   | cons s T => exact hl.2.1
  refine ⟨by simp, fun i hi => ?_, Nat.zero_le _, fun q s hq => by omega, fun q s _ _ _ => hnone _, le, ?_, fun q s _ _ _ hh => ?_, fun q q' b c c' hh => (by cases hh), fun q b c hh => (by cases hh), (Below.refl _ w).drew⟩
  ·rw [hnone] at hi; cases hi
  ·rw [hst]
   exact Rel.congr ⟨hr.size, hr.env.undefs _, hr.sg.drew, hr.dsub, hr.defs⟩ e1
  ·rw [hnone] at hh; cases hh
theorem W_draw {P : Program} {Y : YEnv} {N : Nat} {rd : Option Nat} {lo : Nat × Nat} {id : Nat} {ops : Array Oper} {E : Env} {σ : Sg} {Q : Exit → Env → Sg → Prop} (ks : List Nat) (is : List Nat) (plan : List (Nat × Nat)) (pre : List (List Nat))
  (hm : P.follows .mixedOrders = true) (hc : drawOK ops is plan pre = true)
  (h : ∀ K : Env → Sg → Prop, (∀ E' σ', Q .normal (keep ks E') σ' → K E' σ') → GD P Y N ops is (undefs ops.toList E) σ [] (fun T E' σ' => Dem P ops T.reverse σ' plan ∧ K E' σ')) : W P Y N rd lo (.region id ops true) E σ Q := by
 intro Ψ0 D hb hy hrd Ψ a w le hr
 exact wpIn_region_any hm (draw_any is plan pre hc (h _ fun _ _ k => k) hy le hr fun Ψ' E' σ' a' w' l1 l2 l3 k => ⟨_, σ', Ψ', l1, l2.keep ks, l3, k⟩)
def Sg.ext (σ : Sg) (l : List (Option (List PV))) (rm : List Nat) (ys : List LState := []) : Sg := ⟨σ.store ++ l, σ.rooms ++ rm, σ.ys ++ ys⟩
section
variable (σ : Sg) (l l' : List (Option (List PV))) (rm rm' : List Nat) (ys ys' : List LState)
theorem Sg.ext_nil : σ.ext [] [] = σ := by simp [Sg.ext]
theorem Sg.push_ext (zs : List PV) : (σ.ext l rm ys).push zs = σ.ext (l ++ [some zs]) rm ys := by simp [Sg.push, Sg.ext]
theorem Sg.push_new (zs : List PV) : σ.push zs = σ.ext [some zs] [] := by simp [Sg.push, Sg.ext]
theorem Sg.pushRoom_ext (n : Nat) : (σ.ext l rm ys).pushRoom n = σ.ext l (rm ++ [n]) ys := by simp [Sg.pushRoom, Sg.ext]
theorem Sg.pushRoom_new (n : Nat) : σ.pushRoom n = σ.ext [] [n] := by simp [Sg.pushRoom, Sg.ext]
theorem Sg.pushY_ext : (σ.ext l rm ys).pushY = σ.ext l rm (ys ++ [.ready]) := by simp [Sg.pushY, Sg.ext]
theorem Sg.pushY_new : σ.pushY = σ.ext [] [] [.ready] := by simp [Sg.pushY, Sg.ext]
theorem Sg.ext_ext : (σ.ext l rm ys).ext l' rm' ys' = σ.ext (l ++ l') (rm ++ rm') (ys ++ ys') := by simp [Sg.ext]
theorem Sg.len_ext : (σ.ext l rm ys).store.length = σ.store.length + l.length := by simp [Sg.ext]
theorem Sg.rooms_ext : (σ.ext l rm ys).rooms.length = σ.rooms.length + rm.length := by simp [Sg.ext]
theorem Sg.ys_ext : (σ.ext l rm ys).ys.length = σ.ys.length + ys.length := by simp [Sg.ext]
theorem Sg.ysget_ext (k : Nat) : (σ.ext l rm ys).ys[σ.ys.length + k]? = ys[k]? := by
 show (σ.ys ++ ys)[σ.ys.length + k]? = _
 rw [List.getElem?_append_right (by omega)]
 simp
theorem Sg.ysget_ext0 : (σ.ext l rm ys).ys[σ.ys.length]? = ys[0]? := Sg.ysget_ext σ l rm ys 0
theorem Sg.setY_ext (k : Nat) (s : LState) : (σ.ext l rm ys).setY (σ.ys.length + k) s = σ.ext l rm (ys.set k s) := by
 simp [Sg.setY, Sg.ext, List.set_append_right]
theorem Sg.setY_ext0 (s : LState) : (σ.ext l rm ys).setY σ.ys.length s = σ.ext l rm (ys.set 0 s) := Sg.setY_ext σ l rm ys 0 s
theorem Sg.popY_ext (k : Nat) : (σ.ext l rm ys).popY (σ.ys.length + k) = σ.ext l rm (ys.take k) := by
 simp [Sg.popY, Sg.ext, List.take_append, List.take_of_length_le]
theorem Sg.popY_ext0 : (σ.ext l rm ys).popY σ.ys.length = σ.ext l rm [] := by
 have := Sg.popY_ext σ l rm ys 0
 simpa using this
theorem Sg.get_ext (k : Nat) : (σ.ext l rm ys).store[σ.store.length + k]? = l[k]? := by
 show (σ.store ++ l)[σ.store.length + k]? = _
 rw [List.getElem?_append_right (by omega)]
 simp
theorem Sg.get_ext0 : (σ.ext l rm ys).store[σ.store.length]? = l[0]? := Sg.get_ext σ l rm ys 0
variable {σ l rm ys}
variable (σ l rm ys)
theorem Sg.room_ext (k : Nat) : (σ.ext l rm ys).rooms[σ.rooms.length + k]? = rm[k]? := by
 show (σ.rooms ++ rm)[σ.rooms.length + k]? = _
 rw [List.getElem?_append_right (by omega)]
 simp
theorem Sg.room_ext0 : (σ.ext l rm ys).rooms[σ.rooms.length]? = rm[0]? := Sg.room_ext σ l rm ys 0
theorem Sg.set_ext (k : Nat) (cs : List PV) : (σ.ext l rm ys).setVar (σ.store.length + k) cs = σ.ext (l.set k (some cs)) rm ys := by
 simp [Sg.setVar, Sg.ext, List.set_append_right]
theorem Sg.set_ext0 (cs : List PV) : (σ.ext l rm ys).setVar σ.store.length cs = σ.ext (l.set 0 (some cs)) rm ys := Sg.set_ext σ l rm ys 0 cs
theorem Sg.setRoom_ext (k n : Nat) : (σ.ext l rm ys).setRoom (σ.rooms.length + k) n = σ.ext l (rm.set k n) ys := by
 simp [Sg.setRoom, Sg.ext, List.set_append_right]
theorem Sg.setRoom_ext0 (n : Nat) : (σ.ext l rm ys).setRoom σ.rooms.length n = σ.ext l (rm.set 0 n) ys := Sg.setRoom_ext σ l rm ys 0 n
variable {σ l rm ys}
variable (σ l rm ys)
theorem Sg.cut_ext (k : Nat) (j : Nat) : (σ.ext l rm).cut (σ.store.length + k) (σ.rooms.length + j) σ.ys.length = σ.ext (l.take k) (rm.take j) := by
 simp [Sg.cut, Sg.ext, List.take_append, List.take_of_length_le]
theorem Sg.cut_ext0 : (σ.ext l rm).cut σ.store.length σ.rooms.length σ.ys.length = σ := by
 simp [Sg.cut, Sg.ext]
theorem Sg.cut_exty (k : Nat) (j m : Nat) : (σ.ext l rm ys).cut (σ.store.length + k) (σ.rooms.length + j) (σ.ys.length + m) = σ.ext (l.take k) (rm.take j) (ys.take m) := by
 simp [Sg.cut, Sg.ext, List.take_append, List.take_of_length_le]
end
theorem Clean.mono {a b c a' b' c' : Nat} (h1 : a ≤ a') (h2 : b ≤ b') (h3 : c ≤ c') {p : PV} (h : Clean a b c p) : Clean a' b' c' p := by
 induction h with
 | undef => exact .undef
 | bool b => exact .bool b
 | int k n => exact .int k n
 | str s => exact .str s
 | nilptr => exact .nilptr
 | ptr id off h => exact .ptr id off (by omega)
 | eptr es elems i off _ ih => exact .eptr es elems i off ih
 | nilsl => exact .nilsl
 | isl elems own _ ho ih => exact .isl elems own ih fun r n es e => by have := ho r n es e; omega
 | msl id off len h => exact .msl id off len (by omega)
 | agg cs _ ih => exact .agg cs ih
 | tuple cs _ ih => exact .tuple cs ih
 | func fn fs cs _ _ ih ih' => exact .func fn fs cs ih ih'
 | yield y h => exact .yield y (by omega)
 | nilfunc => exact .nilfunc
 | niliface => exact .niliface
 | iface t p _ ih => exact .iface t p ih
 | mapv id h => exact .mapv id (by omega)
 | nilmap => exact .nilmap
 | iter id h => exact .iter id (by omega)
 | itst mid n seen h => exact .itst mid n seen (by omega)
 | gsl id len es h => exact .gsl id len es (by omega)
 | gnil => exact .gnil
 | mark => exact .mark
mutual
def PV.ro : PV → PV
 | .eptr es elems i off => .eptr es (PV.roL elems) i off
 | .isl elems _ => .isl (PV.roL elems) .ro
 | .agg cs => .agg (PV.roL cs)
 | .tuple cs => .tuple (PV.roL cs)
 | .func fn a b => .func fn (PV.roL a) (PV.roL b)
 | .iface t p => .iface t (PV.ro p)
 | p => p
def PV.roL : List PV → List PV
 | [] => []
 | p :: ps => PV.ro p :: PV.roL ps
end
theorem PV.roL_map : ∀ l : List PV, PV.roL l = l.map PV.ro := by
 intro l
 induction l with
 | nil => rfl
 | cons p ps ih => simp only [PV.roL, List.map_cons, ih]
theorem PV.ro_cells (p : PV) : p.ro.cells = p.cells.map PV.ro := by
 cases p <;> simp only [PV.ro, PV.cells, PV.roL_map, List.map_cons, List.map_nil]
theorem VR.ro {Ψ : Ty} {p : PV} {x : Value} (h : VR Ψ p x) : VR Ψ p.ro x := by
 have row : ∀ {elems : List PV} {es : Nat}, (∀ (k : Nat) (e : PV), elems[k]? = some e → e.cells.length = es) → ∀ (k : Nat) (e : PV), (elems.map PV.ro)[k]? = some e → e.cells.length = es := by
  intro elems es h k e he
  simp only [List.getElem?_map, Option.map_eq_some_iff] at he
  obtain ⟨e', he', rfl⟩ := he
  rw [PV.ro_cells, List.length_map]
  exact h k e' he'
 have each : ∀ {elems : List PV} {Pr : Nat → Nat → PV → Prop} {Pr' : Nat → Nat → PV → Prop}, (∀ (k : Nat) (e : PV) (j : Nat) (p : PV), elems[k]? = some e → e.cells[j]? = some p → Pr k j p) →
   (∀ k j p, Pr k j p → Pr' k j p.ro) → ∀ (k : Nat) (e : PV) (j : Nat) (p : PV), (elems.map PV.ro)[k]? = some e → e.cells[j]? = some p → Pr' k j p := by
  intro elems Pr Pr' h hh k e j p he hp
  simp only [List.getElem?_map, Option.map_eq_some_iff] at he
  obtain ⟨e', he', rfl⟩ := he
  rw [PV.ro_cells] at hp
  simp only [List.getElem?_map, Option.map_eq_some_iff] at hp
  obtain ⟨p', hp', rfl⟩ := hp
  exact hh k j p' (h k e' j p' he' hp')
 have each1 : ∀ {cs : List PV} {xs : Array Value}, (∀ (j : Nat) (p : PV) (v : Value), cs[j]? = some p → xs[j]? = some v → VR Ψ p.ro v) → ∀ (j : Nat) (p : PV) (v : Value), (cs.map PV.ro)[j]? = some p → xs[j]? = some v → VR Ψ p v := by
  intro cs xs h j p v hp hv
  simp only [List.getElem?_map, Option.map_eq_some_iff] at hp
  obtain ⟨p', hp', rfl⟩ := hp
  exact h j p' v hp' hv
 induction h with
 | undef x => exact .undef x
 | bool b => exact .bool b
 | int k n => exact .int k n
 | str s => exact .str s
 | nilptr => exact .nilptr
 | ptr id off b hb hz => exact .ptr id off b hb hz
 | eptr es elems i off b o vals hs h1 h2 ih =>
  simp only [PV.ro, PV.roL_map]
  exact .eptr es _ i off b o vals (row hs) (each (Pr := fun k j _ => Ψ.imm b (o + k * es + j) = some (vals k j)) (Pr' := fun k j _ => Ψ.imm b (o + k * es + j) = some (vals k j)) h1 fun _ _ _ h => h)
   (each (Pr := fun k j p => VR Ψ p.ro (vals k j)) (Pr' := fun k j p => VR Ψ p (vals k j)) ih fun _ _ _ h => h)
 | nilsl => exact .nilsl
 | islnil own a h => exact .islnil .ro a trivial
 | isl es elems own b o cap vals hs h1 h2 hc ho ih =>
  simp only [PV.ro, PV.roL_map]
  have := VR.isl (Ψ := Ψ) es (elems.map PV.ro) .ro b o cap vals (row hs) (each (Pr := fun k j _ => Ψ.imm b (o + k * es + j) = some (vals k j)) (Pr' := fun k j _ => Ψ.imm b (o + k * es + j) = some (vals k j)) h1 fun _ _ _ h => h)
   (each (Pr := fun k j p => VR Ψ p.ro (vals k j)) (Pr' := fun k j p => VR Ψ p (vals k j)) ih fun _ _ _ h => h) (by simpa using hc) trivial
  rw [List.length_map] at this
  exact this
 | msl id off len b cap h hz hc => exact .msl id off len b cap h hz hc
 | agg cs vs hl h ih => simp only [PV.ro, PV.roL_map]; exact .agg _ _ (by simpa using hl) (each1 ih)
 | tuple cs vs hl h ih => simp only [PV.ro, PV.roL_map]; exact .tuple _ _ (by simpa using hl) (each1 ih)
 | func fn fs cs xs ys hl hl' h h' ih ih' => simp only [PV.ro, PV.roL_map]; exact .func fn _ _ _ _ (by simpa using hl) (by simpa using hl') (each1 ih) (each1 ih')
 | yield y l d h => exact .yield y l d h
 | nilfunc => exact .nilfunc
 | niliface => exact .niliface
 | iface t p x h ih => exact .iface t _ x ih
 | map id b h => exact .map id b h
 | nilmap => exact .nilmap
 | iter id b h => exact .iter id b h
 | gsl id len es b cap h hz h0 hc => exact .gsl id len es b cap h hz h0 hc
 | gnil a => exact .gnil a
theorem Fin_same {P : Program} {fn : Func} {σ : Sg} {l : List (Option (List PV))} {rm : List Nat} {E : Env} {rs : List PV} {v : PV} (hcl : CleanSg σ) (hr : resPV P (σ.ext l rm) E fn.results.toList = some rs)
  (hv : Wk σ.store.length σ.rooms.length σ.ys.length (oneOr rs) v) : Fin P fn σ v σ E (σ.ext l rm) := by
 refine ⟨rs, _, _, hr, Nat.le_refl _, Nat.le_refl _, hv, (Sg.cut_ext0 σ l rm).symm, fun id cs hid hc p hp => ?_, by simp [Sg.ext]⟩
 have hc' : (σ.store ++ l)[id]? = some (some cs) := hc
 rw [List.getElem?_append_left hid] at hc'
 exact hcl id cs hid hc' p hp
theorem Fin_self {P : Program} {fn : Func} {σ : Sg} {E : Env} {rs : List PV} {v : PV} (hcl : CleanSg σ) (hr : resPV P σ E fn.results.toList = some rs)
  (hv : Wk σ.store.length σ.rooms.length σ.ys.length (oneOr rs) v) : Fin P fn σ v σ E σ := by
 have := Fin_same (l := []) (rm := []) hcl (by rw [Sg.ext_nil]; exact hr) hv
 rw [Sg.ext_nil] at this
 exact this
theorem Wk.ro {nβ nr ny : Nat} {p q : PV} (h : Clean nβ nr ny q) (e : p.ro = q) : Wk nβ nr ny p q := fun Ψ x k => by
 subst e
 exact k.ro.trim h
def ldS (σ : Sg) (id off : Nat) : Option PV :=
 match σ.store[id]? with
 | some (some cs) => cs[off]?
 | _ => none
def ldA (k : Nat) (σ : Sg) (id off : Nat) : Option PV :=
 match σ.store[id]? with
 | some (some cs) => if off + k ≤ cs.length then some (.agg ((cs.drop off).take k)) else none
 | _ => none
def elS (l : List PV) (i off : Nat) : Option PV :=
 match l[i]? with
 | some e => e.cells[off]?
 | none => none
def elA (k : Nat) (l : List PV) (i off : Nat) : Option PV :=
 match l[i]? with
 | some e => if off + k ≤ e.cells.length then some (.agg ((e.cells.drop off).take k)) else none
 | none => none
def stX (k : Nat) (σ : Sg) (id off : Nat) (p : PV) : Option Sg :=
 match σ.store[id]? with
 | some (some cs) => if defd p && p.cells.all PV.scalar && (p.cells.length == k) && decide (off + p.cells.length ≤ cs.length) then some (σ.setVar id (putCells cs off p.cells)) else none
 | _ => none
def iaX (c : Nat) (l : List PV) (i : Int) : Option PV :=
  if 0 ≤ i ∧ i < (l.length : Int) then
    (match l[i.toNat]? with
     | some el => if el.cells.length = c then some (.eptr c l i.toNat 0) else none
     | none => none) else none
def iaM (c id off len : Nat) (i : Int) : Option PV := if 0 ≤ i ∧ i < (len : Int) then some (.ptr id (off + i.toNat * c)) else none
def bsX (c len : Nat) (parts : List (Nat × PV)) : Option PV :=
 if (parts.map (·.1) == List.range len) && parts.all (fun p => defd p.2 && (p.2.cells.length == c)) && decide (len * c ≤ 2 ^ 24) then some (.isl (parts.map (·.2)) .exact) else none
def appX (c b : Nat) (σ : Sg) (l : List PV) (own : Own) (m : List PV) : Option (PV × Sg) :=
  if m.all (fun q => (q.cells.length == c) && q.cells.all PV.scalar) && decide ((l.length + m.length) * b ≤ 2 ^ 47) then
    (match own with
     | .ro => none
     | .exact => if l.all (fun q => q.cells.length == c) then some (.isl (l ++ m) (.tok σ.rooms.length (l.length + m.length) c), σ.pushRoom (l.length + m.length)) else none
     | .tok r n es => if es = c ∧ σ.rooms[r]? = some n then some (.isl (l ++ m) (.tok r (n + m.length) es), σ.setRoom r (n + m.length)) else none)
  else none
def bldX (zs : List PV) (ps : List (Nat × Nat)) (parts : List (Nat × PV)) : Option PV :=
 if parts.all (fun p => defd p.2) then (fillPV (fun i => ps[i]?) zs parts).map .agg else none
section
variable {P : Program} {t e : TypeId} {d : TypeDesc} {k c b : Nat} {σ : Sg} {id off : Nat} {l m : List PV} {own own' : Own} {es i : Nat}
theorem ldS_of (h : P.underlying t = some d) (ha : isAggD d = false) : loadPV P σ t (.ptr id off) = ldS σ id off := by simp [loadPV, h, partPV, ha, ldS]; rfl
theorem ldA_of (h : P.underlying t = some d) (ha : isAggD d = true) (hc : P.cellsOf t = k) : loadPV P σ t (.ptr id off) = ldA k σ id off := by simp [loadPV, h, partPV, ha, hc, ldA]; rfl
theorem elS_of (h : P.underlying t = some d) (ha : isAggD d = false) : loadPV P σ t (.eptr es l i off) = elS l i off := by simp [loadPV, h, partPV, ha, elS]; rfl
theorem elA_of (h : P.underlying t = some d) (ha : isAggD d = true) (hc : P.cellsOf t = k) : loadPV P σ t (.eptr es l i off) = elA k l i off := by simp [loadPV, h, partPV, ha, hc, elA]; rfl
theorem stX_of (h : P.underlying t = some d) (hc : P.cellsOf t = k) (p : PV) : storePV P σ t (.ptr id off) p = stX k σ id off p := by simp [storePV, h, hc, stX]; rfl
theorem iaX_of (h : P.underlying t = some (.slice e)) (he : P.underlying e = some d) (hc : P.cellsOf e = c) (kd : IntKind) (n : Int) : indexAddrPV P t (.isl l own) (.int kd n) = iaX c l n := by
 unfold indexAddrPV iaX
 rw [h]
 simp only [he, hc]
 split
 ·cases l[n.toNat]? <;> rfl
 ·rfl
theorem iaM_of (h : P.underlying t = some (.slice e)) (he : P.underlying e = some d) (hc : P.cellsOf e = c) (kd : IntKind) (len : Nat) (n : Int) : indexAddrPV P t (.msl id off len) (.int kd n) = iaM c id off len n := by
 simp [indexAddrPV, h, he, hc, iaM]
theorem iaA_of {len : Nat} (h : P.underlying t = some (.array len e)) (he : P.underlying e = some d) (hc : P.cellsOf e = c) (kd : IntKind) (n : Int) : indexAddrPV P t (.ptr id off) (.int kd n) = iaM c id off len n := by
 simp [indexAddrPV, h, he, hc, iaM]
theorem len_of (h : P.underlying t = some (.slice e)) : lenPV P t (.isl l own) = some (.int .i64 l.length) := by simp [lenPV, h]
theorem lenM_of (h : P.underlying t = some (.slice e)) (n : Nat) : lenPV P t (.msl id off n) = some (.int .i64 n) := by simp [lenPV, h]
theorem bsX_of {zs : List PV} (h : P.underlying t = some (.slice e)) (he : P.underlying e = some d) (hc : P.cellsOf e = c) (hz : zeroPV P e = some zs) (len : Nat) (parts : List (Nat × PV)) : buildSlicePV P t len parts = bsX c len parts := by
 unfold buildSlicePV bsX
 rw [h]
 simp only [he, hc, hz, Option.isSome_some, Bool.true_and, Bool.and_true]
theorem appX_of {zs : List PV} (h : P.underlying t = some (.slice e)) (he : P.underlying e = some d) (hc : P.cellsOf e = c) (hb : P.bytesOf e = b) (hb0 : b ≠ 0) (hc0 : 0 < c) (hz : zeroPV P e = some zs) (hzl : zs.length = c) :
  appendPV P σ t t (.isl l own) (.isl m own') = appX c b σ l own m := by
 unfold appendPV appX
 rw [h]
 simp only [he, hc, hb, hz, hzl, Option.isSome_some, Bool.true_and, Option.map_some, BEq.rfl, Bool.and_true, hb0, hc0, ne_eq, not_false_eq_true, and_self, decide_true]
 rfl
theorem bldX_of {zs : List PV} {fs : Array Field} {ps : List (Nat × Nat)} (hz : zeroPV P t = some zs) (h : P.underlying t = some (.struct fs)) (hf : fs.toList.all (fun f => (P.underlying f.type).isSome) = true) (hp : structPlaces P fs.toList = ps) (parts : List (Nat × PV)) :
  buildPV P t parts = bldX zs ps parts := by
 unfold buildPV
 rw [hz, h]
 simp only [hf, hp, bldX, Bool.true_and]
theorem fa_of {fs : Array Field} {f : Nat} {fl : Field} (h : P.underlying t = some (.struct fs)) (hf : fs[f]? = some fl) (hd : P.underlying fl.type = some d) (hc : P.cellsOf fl.type = c) (hc0 : c ≠ 0) (ho : fl.offset = k) :
  fieldAddrPV P t (.ptr id off) f = some (.ptr id (off + k)) ∧ fieldAddrPV P t (.eptr es l i off) f = some (.eptr es l i (off + k)) := by
 simp [fieldAddrPV, fieldOf, h, hf, hd, hc, hc0, ho]
theorem fa1_of {fs : Array Field} {f : Nat} {fl : Field} (h : P.underlying t = some (.struct fs)) (hf : fs[f]? = some fl) (hd : P.underlying fl.type = some d) (hc : P.cellsOf fl.type = c) (hc0 : (c == 0) = false) (ho : fl.offset = k) :
  fieldAddrPV P t (.ptr id off) f = some (.ptr id (off + k)) := (fa_of (es := 0) (l := []) (i := 0) h hf hd hc (by simpa using hc0) ho).1
theorem fa2_of {fs : Array Field} {f : Nat} {fl : Field} (h : P.underlying t = some (.struct fs)) (hf : fs[f]? = some fl) (hd : P.underlying fl.type = some d) (hc : P.cellsOf fl.type = c) (hc0 : (c == 0) = false) (ho : fl.offset = k) :
  fieldAddrPV P t (.eptr es l i off) f = some (.eptr es l i (off + k)) := (fa_of (id := 0) h hf hd hc (by simpa using hc0) ho).2
theorem fpS_of {fs : Array Field} {f : Nat} {fl : Field} (h : P.underlying t = some (.struct fs)) (hf : fs[f]? = some fl) (hd : P.underlying fl.type = some d) (ha : isAggD d = false) (ho : fl.offset = k) (cs : List PV) :
  fieldPV P t (.agg cs) f = cs[k]? := by
 simp [fieldPV, fieldOf, h, hf, hd, ho, partPV, ha]
theorem fpA_of {fs : Array Field} {f : Nat} {fl : Field} (h : P.underlying t = some (.struct fs)) (hf : fs[f]? = some fl) (hd : P.underlying fl.type = some d) (ha : isAggD d = true) (hc : P.cellsOf fl.type = c) (ho : fl.offset = k) (cs : List PV) :
  fieldPV P t (.agg cs) f = if k + c ≤ cs.length then some (.agg ((cs.drop k).take c)) else none := by
 simp [fieldPV, fieldOf, h, hf, hd, hc, ho, partPV, ha]
end
abbrev I (n : Int) : PV := .int .i64 n
abbrev ints (xs : List Int) : PV := .isl (xs.map I) .ro
theorem ldS_at {σ : Sg} {id off : Nat} {cs : List PV} (h : σ.store[id]? = some (some cs)) : ldS σ id off = cs[off]? := by simp [ldS, h]
theorem ldA_at {k : Nat} {σ : Sg} {id off : Nat} {cs : List PV} (h : σ.store[id]? = some (some cs)) : ldA k σ id off = if off + k ≤ cs.length then some (.agg ((cs.drop off).take k)) else none := by simp [ldA, h]
theorem stX_at {k : Nat} {σ : Sg} {id off : Nat} {cs : List PV} (h : σ.store[id]? = some (some cs)) (p : PV) :
  stX k σ id off p = if defd p && p.cells.all PV.scalar && (p.cells.length == k) && decide (off + p.cells.length ≤ cs.length) then some (σ.setVar id (putCells cs off p.cells)) else none := by simp [stX, h]
section ext
variable (σ : Sg) (l : List (Option (List PV))) (rm : List Nat) (ys : List LState) (j : Nat)
theorem ldS_ext (off : Nat) : ldS (σ.ext l rm ys) (σ.store.length + j) off = match l[j]? with | some (some cs) => cs[off]? | _ => none := by simp only [ldS, Sg.get_ext]
theorem ldS_ext0 (off : Nat) : ldS (σ.ext l rm ys) σ.store.length off = match l[0]? with | some (some cs) => cs[off]? | _ => none := by simp only [ldS, Sg.get_ext0]
theorem ldA_ext (k off : Nat) : ldA k (σ.ext l rm ys) (σ.store.length + j) off = match l[j]? with | some (some cs) => if off + k ≤ cs.length then some (.agg ((cs.drop off).take k)) else none | _ => none := by simp only [ldA, Sg.get_ext]
theorem ldA_ext0 (k off : Nat) : ldA k (σ.ext l rm ys) σ.store.length off = match l[0]? with | some (some cs) => if off + k ≤ cs.length then some (.agg ((cs.drop off).take k)) else none | _ => none := by simp only [ldA, Sg.get_ext0]
theorem stX_ext (k off : Nat) (p : PV) : stX k (σ.ext l rm ys) (σ.store.length + j) off p = match l[j]? with
  | some (some cs) => if defd p && p.cells.all PV.scalar && (p.cells.length == k) && decide (off + p.cells.length ≤ cs.length) then some (σ.ext (l.set j (some (putCells cs off p.cells))) rm ys) else none
  | _ => none := by
 simp only [stX, Sg.get_ext, Sg.set_ext]
theorem stX_ext0 (k off : Nat) (p : PV) : stX k (σ.ext l rm ys) σ.store.length off p = match l[0]? with
  | some (some cs) => if defd p && p.cells.all PV.scalar && (p.cells.length == k) && decide (off + p.cells.length ≤ cs.length) then some (σ.ext (l.set 0 (some (putCells cs off p.cells))) rm ys) else none
  | _ => none := by
 simp only [stX, Sg.get_ext0, Sg.set_ext0]
 rfl
end ext
theorem least (p : Nat → Prop) (h : ∃ n, p n) : ∃ n, p n ∧ ∀ m, p m → n ≤ m := by
 obtain ⟨n, hn⟩ := h
 induction n using Nat.strongRecOn with
 | _ n ih =>
  by_cases h : ∃ m, m < n ∧ p m
  ·obtain ⟨m, hm, hp⟩ := h
   exact ih m hm hp
  ·exact ⟨n, hn, fun m hm => Nat.le_of_not_lt fun hlt => h ⟨m, hlt, hm⟩⟩
section
variable {P : Program} {Y : YEnv} {N : Nat} {rd : Option Nat} {lo : Nat × Nat} {E : Env} {σ : Sg} {Q : Exit → Env → Sg → Prop}
open Classical in
theorem W_loopK {c : Code} (I : Nat → Env → Sg → Prop) (k : Nat) (h0 : I k E σ)
  (round : ∀ k E σ, I k E σ → W P Y N rd lo c E σ (Seq (fun E' σ' => ∃ k', k' < k ∧ I k' E' σ') Q)) : W P Y N rd lo (.loop c) E σ Q := by
 refine W_loop (fun E σ => ∃ k, I k E σ) (fun E σ => if h : ∃ k, I k E σ then Classical.choose (least (fun k => I k E σ) h) else 0) ⟨k, h0⟩ fun E σ h => ?_
 refine W_mono (round _ E σ (Classical.choose_spec (least (fun k => I k E σ) h)).1) fun ex E' σ' hq => ?_
 cases ex with
 | normal =>
  obtain ⟨k', hk, hI⟩ := hq
  have h' : ∃ k, I k E' σ' := ⟨k', hI⟩
  refine ⟨h', ?_⟩
  rw [dif_pos h', dif_pos h]
  exact Nat.lt_of_le_of_lt ((Classical.choose_spec (least (fun k => I k E' σ') h')).2 k' hI) hk
 | _ => exact hq
end
theorem Clean.all_nil {a b c : Nat} : ∀ p, p ∈ ([] : List PV) → Clean a b c p := fun p h => by cases h
theorem Clean.all_cons {a b c : Nat} {q : PV} {l : List PV} (h : Clean a b c q) (k : ∀ p, p ∈ l → Clean a b c p) : ∀ p, p ∈ q :: l → Clean a b c p := fun p hp => by
 rcases List.mem_cons.1 hp with rfl | hp
 ·exact h
 ·exact k p hp
theorem Clean.ints {a b c : Nat} (xs : List Int) (o : Own) (ho : ∀ r n es, o = .tok r n es → r < b) : Clean a b c (.isl (xs.map I) o) :=
 .isl _ _ (fun e he => by obtain ⟨n, _, rfl⟩ := List.mem_map.1 he; exact .int _ _) ho
theorem Fin_ext {P : Program} {fn : Func} {σ : Sg} {l : List (Option (List PV))} {rm : List Nat} {E : Env} {rs : List PV} {v : PV} (k j : Nat) (hcl : CleanSg σ)
  (hr : resPV P (σ.ext l rm) E fn.results.toList = some rs)
  (hv : Wk (σ.store.length + k) (σ.rooms.length + j) σ.ys.length (oneOr rs) v)
  (hc : ∀ cs, some cs ∈ l.take k → ∀ p, p ∈ cs → Clean (σ.store.length + k) (σ.rooms.length + j) σ.ys.length p) : Fin P fn σ v (σ.ext (l.take k) (rm.take j)) E (σ.ext l rm) := by
 refine ⟨rs, _, _, hr, Nat.le_add_right _ _, Nat.le_add_right _ _, hv, (Sg.cut_ext σ l rm k j).symm, fun id cs hid hcs p hp => ?_, by simp [Sg.ext]⟩
 have hcs' : (σ.store ++ l)[id]? = some (some cs) := hcs
 by_cases h : id < σ.store.length
 ·rw [List.getElem?_append_left h] at hcs'
  exact (hcl id cs h hcs' p hp).mono (Nat.le_add_right _ _) (Nat.le_add_right _ _) (Nat.le_refl _)
 ·rw [List.getElem?_append_right (by omega)] at hcs'
  refine hc cs ?_ p hp
  refine List.mem_of_getElem? (i := id - σ.store.length) ?_
  rw [List.getElem?_take_of_lt (by omega)]
  exact hcs'
theorem CleanCut_ext {σ : Sg} {l : List (Option (List PV))} {rm : List Nat} {ys : List LState} {nb nr ny : Nat} (hcl : CleanSg σ) (hb : σ.store.length ≤ nb) (hr : σ.rooms.length ≤ nr) (hy : σ.ys.length ≤ ny)
  (h : ∀ cs, some cs ∈ l → ∀ p, p ∈ cs → Clean nb nr ny p) : CleanCut (σ.ext l rm ys) nb nr ny := by
 intro id cs _ hcs p hp
 have hcs' : (σ.store ++ l)[id]? = some (some cs) := hcs
 by_cases hid : id < σ.store.length
 ·rw [List.getElem?_append_left hid] at hcs'
  exact (hcl id cs hid hcs' p hp).mono hb hr hy
 ·rw [List.getElem?_append_right (by omega)] at hcs'
  exact h cs (List.mem_of_getElem? hcs') p hp
theorem CleanSg_ext {σ : Sg} {l : List (Option (List PV))} {rm : List Nat} {ys : List LState} (hcl : CleanSg σ) (h : ∀ cs, some cs ∈ l → ∀ p, p ∈ cs → Clean (σ.store.length + l.length) (σ.rooms.length + rm.length) (σ.ys.length + ys.length) p) :
  CleanSg (σ.ext l rm ys) := by
 unfold CleanSg
 rw [Sg.len_ext, Sg.rooms_ext, Sg.ys_ext]
 exact CleanCut_ext hcl (Nat.le_add_right _ _) (Nat.le_add_right _ _) (Nat.le_add_right _ _) h
theorem CleanL_nil {a b c : Nat} : ∀ cs, some cs ∈ ([] : List (Option (List PV))) → ∀ p, p ∈ cs → Clean a b c p := fun cs h => by cases h
theorem CleanL_cons {a b c : Nat} {ds : List PV} {l : List (Option (List PV))} (h : ∀ p, p ∈ ds → Clean a b c p) (k : ∀ cs, some cs ∈ l → ∀ p, p ∈ cs → Clean a b c p) : ∀ cs, some cs ∈ some ds :: l → ∀ p, p ∈ cs → Clean a b c p := by
 intro cs hcs
 rcases List.mem_cons.1 hcs with e | e
 ·injection e with e; subst e; exact h
 ·exact k cs e
theorem Weak.cutExt {N : Nat} {lo : Nat × Nat} {E E' : Env} {σ : Sg} {l : List (Option (List PV))} {rm : List Nat} {ys : List LState} (k j : Nat) (h1 : lo.1 ≤ σ.store.length + k) (h2 : lo.2 ≤ σ.rooms.length + j) (hcl : CleanSg σ)
  (hc : ∀ cs, some cs ∈ l.take k → ∀ p, p ∈ cs → Clean (σ.store.length + k) (σ.rooms.length + j) (σ.ys.length + ys.length) p)
  (hE : ∀ t, Wk (σ.store.length + k) (σ.rooms.length + j) (σ.ys.length + ys.length) (E.get t) (E'.get t)) : Weak N lo E (σ.ext l rm ys) E' (σ.ext (l.take k) (rm.take j) ys) := by
 have := Weak.cut (N := N) (lo := lo) (E := E) (E' := E') (σ := σ.ext l rm ys) (σ.store.length + k) (σ.rooms.length + j) h1 h2 (by rw [Sg.ys_ext]; exact hE) (by
  rw [Sg.ys_ext]
  intro id cs hid hcs p hp
  have hcs' : (σ.store ++ l)[id]? = some (some cs) := hcs
  by_cases h : id < σ.store.length
  ·rw [List.getElem?_append_left h] at hcs'
   exact (hcl id cs h hcs' p hp).mono (Nat.le_add_right _ _) (Nat.le_add_right _ _) (Nat.le_add_right _ _)
  ·rw [List.getElem?_append_right (by omega)] at hcs'
   refine hc cs ?_ p hp
   refine List.mem_of_getElem? (i := id - σ.store.length) ?_
   rw [List.getElem?_take_of_lt (by omega)]
   exact hcs')
 rw [Sg.ys_ext, Sg.cut_exty, List.take_length] at this
 exact this
theorem Weak.room {N : Nat} {lo : Nat × Nat} {E : Env} {σ : Sg} {t es : Nat} {l : List PV} (ht : E.get t = .isl l .exact) (hes : ∀ q, q ∈ l → q.cells.length = es) :
  Weak N lo E σ ((t, .isl l (.tok σ.rooms.length l.length es)) :: E) (σ.pushRoom l.length) := by
 intro Ψ0 Ψ D a w hb le hr
 have hv := hr.env t
 rw [ht] at hv
 have fin : ∀ x : Option (Nat × Nat × Nat × Nat), (∀ b e c s, x = some (b, e, c, s) → ¬ e < c) → (∀ Ψ', Ψ.le Ψ' → Ψ'.hist σ.rooms.length l.length = some x → VR Ψ' (.isl l (.tok σ.rooms.length l.length es)) (a.tmps.getD t undef)) →
   ∃ Ψ', Ψ0.le Ψ' ∧ Rel N D Ψ' ((t, .isl l (.tok σ.rooms.length l.length es)) :: E) (σ.pushRoom l.length) a w := by
  intro x hx hvr
  obtain ⟨le', hs'⟩ := hr.sg.newRoom l.length x (fun b e c s hh hlt => absurd hlt (hx b e c s hh))
  refine ⟨_, le.trans le', hr.size, fun t' => ?_, hs', fun d hd => le'.ds _ (hr.dsub d hd), ?_⟩
  ·simp only [Env.get]
   split
   ·rename_i e; subst e
    exact hvr _ le' (by simp [Ty.addHist])
   ·exact (hr.env t').mono le'
  ·obtain ⟨rs, r1, r2, r3⟩ := hr.defs
   exact ⟨rs, r1, r2, fun r hm => ⟨le'.ds _ (r3 r hm).1, (r3 r hm).2⟩⟩
 generalize hx : a.tmps.getD t undef = x at hv fin
 cases hv with
 | islnil _ a0 _ => exact fin none (fun b e c s h => by cases h) fun Ψ' _ hh => .islnil _ a0 ⟨_, hh⟩
 | isl es0 _ _ b o cap vals hs h1 h2 hc ho =>
  have hcap : cap = l.length := ho
  subst hcap
  refine fin (some (b, o + l.length * es, o + l.length * es, es)) (fun b e c s h => by injection h with h; injection h with _ h; injection h with h1 h; injection h with h2 _; omega) fun Ψ' le' hh => ?_
  by_cases hl : l = []
  ·subst hl
   exact .isl es [] _ b o 0 vals (fun k e h => by simp at h) (fun k e j p h => by simp at h) (fun k e j p h => by simp at h) (Nat.le_refl _) ⟨rfl, hh⟩
  ·have : es0 = es := by
    cases l with
    | nil => exact absurd rfl hl
    | cons q l => rw [← hs 0 q rfl]; exact hes q (by simp)
   subst this
   exact .isl es0 l _ b o _ vals hs (fun k e j p q1 q2 => le'.imm _ _ _ (h1 k e j p q1 q2)) (fun k e j p q1 q2 => (h2 k e j p q1 q2).mono le') (Nat.le_refl _) ⟨rfl, hh⟩
theorem Weak.env {N : Nat} {lo : Nat × Nat} {E E' : Env} {σ : Sg} (h : ∀ t Ψ x, VR Ψ (E.get t) x → VR Ψ (E'.get t) x) : Weak N lo E σ E' σ := fun _ Ψ _ _ _ _ le hr =>
 ⟨Ψ, le, hr.size, fun t => h t Ψ _ (hr.env t), hr.sg, hr.dsub, hr.defs⟩
theorem Weak.keep {N : Nat} {lo : Nat × Nat} {E : Env} {σ : Sg} (ks : List Nat) : Weak N lo E σ (keep ks E) σ := fun _ Ψ _ _ _ _ le hr => ⟨Ψ, le, hr.keep ks⟩
theorem Weak.ro {N : Nat} {lo : Nat × Nat} {E : Env} {σ : Sg} (t : Nat) : Weak N lo E σ ((t, (E.get t).ro) :: E) σ := Weak.env fun t' Ψ x h => by
 simp only [Env.get]
 split
 ·rename_i e; subst e; exact h.ro
 ·exact h
theorem cleanE_nil {a b c : Nat} : ∀ kv, kv ∈ ([] : Env) → Clean a b c kv.2 := fun kv h => by cases h
theorem cleanE_cons {a b c t : Nat} {v : PV} {E : Env} (h : Clean a b c v) (k : ∀ kv, kv ∈ E → Clean a b c kv.2) : ∀ kv, kv ∈ (t, v) :: E → Clean a b c kv.2 := fun kv hk => by
 rcases List.mem_cons.1 hk with rfl | hk
 ·exact h
 ·exact k kv hk
theorem Wk.env {a b c : Nat} : ∀ {E : Env}, (∀ kv, kv ∈ E → Clean a b c kv.2) → ∀ t, Wk a b c (E.get t) (E.get t) := by
 intro E
 induction E with
 | nil => intro _ t; exact Wk.of_clean .undef
 | cons kv E ih =>
  intro h t
  obtain ⟨k, v⟩ := kv
  simp only [Env.get]
  split
  ·exact Wk.of_clean (h (k, v) (List.mem_cons_self ..))
  ·exact ih (fun kv hk => h kv (List.mem_cons_of_mem _ hk)) t
def setE1 (t : Nat) (v : PV) : Env → Env
 | [] => []
 | (k, x) :: E => if k = t then (k, v) :: E else (k, x) :: setE1 t v E
def setE : Env → Env → Env
 | E, [] => E
 | E, (t, v) :: u => setE (setE1 t v E) u
theorem setE_nil (E : Env) : setE E [] = E := rfl
theorem setE_cons (E : Env) (t : Nat) (v : PV) (u : Env) : setE E ((t, v) :: u) = setE (setE1 t v E) u := rfl
theorem setE1_nil (t : Nat) (v : PV) : setE1 t v [] = [] := rfl
theorem setE1_cons (t k : Nat) (v x : PV) (E : Env) : setE1 t v ((k, x) :: E) = if k = t then (k, v) :: E else (k, x) :: setE1 t v E := rfl
section
variable {P : Program} {Y : YEnv} {N : Nat} {rd : Option Nat} {lo : Nat × Nat} {E : Env} {σ : Sg} {Q : Exit → Env → Sg → Prop}
theorem W_loopT {α : Type} {c : Code} (upd : α → Env) (st : α → Sg) (Inv : α → Prop) (μ : α → Nat) (s0 : α) (hE : setE E (upd s0) = E) (hσ : st s0 = σ) (h0 : Inv s0)
  (round : ∀ s, Inv s → W P Y N rd lo c (setE E (upd s)) (st s) (Seq (fun E' σ' => ∃ s', Weak N lo E' σ' (setE E (upd s')) (st s') ∧ μ s' < μ s ∧ Inv s') Q)) : W P Y N rd lo (.loop c) E σ Q := by
 refine W_loopK (fun k E' σ' => ∃ s, k = μ s ∧ Inv s ∧ setE E (upd s) = E' ∧ st s = σ') (μ s0) ⟨s0, rfl, h0, hE, hσ⟩ ?_
 rintro k E' σ' ⟨s, rfl, hi, rfl, rfl⟩
 refine W_post_weak (W_mono (round s hi) ?_)
 intro ex E1 σ1 h
 cases ex with
 | normal =>
  obtain ⟨s', hw, hm, hi'⟩ := h
  exact ⟨_, _, hw, μ s', hm, s', rfl, hi', rfl, rfl⟩
 | _ => exact ⟨_, _, Weak.refl, h⟩
theorem W_loopS {α : Type} {c : Code} (upd : α → Env) (Inv : α → Prop) (μ : α → Nat) (s0 : α) (hE : setE E (upd s0) = E) (h0 : Inv s0)
  (round : ∀ s, Inv s → W P Y N rd lo c (setE E (upd s)) σ (Seq (fun E' σ' => ∃ s', Weak N lo E' σ' (setE E (upd s')) σ ∧ μ s' < μ s ∧ Inv s') Q)) : W P Y N rd lo (.loop c) E σ Q :=
 W_loopT upd (fun _ => σ) Inv μ s0 hE rfl h0 round
theorem Weak.eq {E E' : Env} {σ σ' : Sg} (h : E = E') (k : σ = σ') : Weak N lo E σ E' σ' := by subst h k; exact Weak.refl
end
def CleanAll (a b c : Nat) (l : List PV) : Prop := ∀ p, p ∈ l → Clean a b c p
def CleanLs (a b c : Nat) (l : List (Option (List PV))) : Prop := ∀ cs, some cs ∈ l → ∀ p, p ∈ cs → Clean a b c p
def CleanEs (a b c : Nat) (E : Env) : Prop := ∀ kv, kv ∈ E → Clean a b c kv.2
def OwnLt (b : Nat) (o : Own) : Prop := ∀ r n es, o = .tok r n es → r < b
section
variable {a b c : Nat}
theorem CleanAll_nil : CleanAll a b c [] = True := eq_true Clean.all_nil
theorem CleanAll_cons {p : PV} {l : List PV} : CleanAll a b c (p :: l) = (Clean a b c p ∧ CleanAll a b c l) := by simp [CleanAll]
theorem CleanAll_append {l m : List PV} : CleanAll a b c (l ++ m) = (CleanAll a b c l ∧ CleanAll a b c m) := by
 simp only [CleanAll, List.mem_append]
 exact propext ⟨fun h => ⟨fun p hp => h p (.inl hp), fun p hp => h p (.inr hp)⟩, fun h p hp => hp.elim (h.1 p) (h.2 p)⟩
theorem CleanLs_nil : CleanLs a b c [] = True := eq_true CleanL_nil
theorem CleanLs_cons {cs : List PV} {l : List (Option (List PV))} : CleanLs a b c (some cs :: l) = (CleanAll a b c cs ∧ CleanLs a b c l) := by
 refine propext ⟨fun h => ⟨h cs (List.mem_cons_self ..), fun ds hd => h ds (List.mem_cons_of_mem _ hd)⟩, fun h => CleanL_cons h.1 h.2⟩
theorem CleanEs_nil : CleanEs a b c [] = True := eq_true cleanE_nil
theorem CleanEs_cons {t : Nat} {v : PV} {E : Env} : CleanEs a b c ((t, v) :: E) = (Clean a b c v ∧ CleanEs a b c E) := by
 refine propext ⟨fun h => ⟨h (t, v) (List.mem_cons_self ..), fun ds hd => h ds (List.mem_cons_of_mem _ hd)⟩, fun h => cleanE_cons h.1 h.2⟩
theorem OwnLt_ro : OwnLt b .ro = True := eq_true fun r n es e => by cases e
theorem OwnLt_exact : OwnLt b .exact = True := eq_true fun r n es e => by cases e
theorem OwnLt_tok {r n es : Nat} : OwnLt b (.tok r n es) = (r < b) := propext ⟨fun h => h r n es rfl, fun h r' n' es' e => by cases e; exact h⟩
theorem Cl_undef : Clean a b c .undef = True := eq_true .undef
theorem Cl_bool {x : Bool} : Clean a b c (.bool x) = True := eq_true (.bool _)
theorem Cl_int {k : IntKind} {x : Int} : Clean a b c (.int k x) = True := eq_true (.int _ _)
theorem Cl_str {x : ByteArray} : Clean a b c (.str x) = True := eq_true (.str _)
theorem Cl_nilptr : Clean a b c .nilptr = True := eq_true .nilptr
theorem Cl_nilsl : Clean a b c .nilsl = True := eq_true .nilsl
theorem Cl_nilfunc : Clean a b c .nilfunc = True := eq_true .nilfunc
theorem Cl_niliface : Clean a b c .niliface = True := eq_true .niliface
theorem Cl_ptr {id off : Nat} : Clean a b c (.ptr id off) = (id < a) := propext ⟨fun h => by cases h; assumption, fun h => .ptr _ _ h⟩
theorem Cl_msl {id off len : Nat} : Clean a b c (.msl id off len) = (id < a) := propext ⟨fun h => by cases h; assumption, fun h => .msl _ _ _ h⟩
theorem Cl_yield {y : Nat} : Clean a b c (.yield y) = (y < c) := propext ⟨fun h => by cases h; assumption, fun h => .yield _ h⟩
theorem Cl_eptr {es : Nat} {l : List PV} {i off : Nat} : Clean a b c (.eptr es l i off) = CleanAll a b c l := propext ⟨fun h => by cases h; assumption, fun h => .eptr _ _ _ _ h⟩
theorem Cl_isl {l : List PV} {o : Own} : Clean a b c (.isl l o) = (CleanAll a b c l ∧ OwnLt b o) := propext ⟨fun h => by cases h; exact ⟨‹_›, ‹_›⟩, fun h => .isl _ _ h.1 h.2⟩
theorem Cl_agg {l : List PV} : Clean a b c (.agg l) = CleanAll a b c l := propext ⟨fun h => by cases h; assumption, fun h => .agg _ h⟩
theorem Cl_tuple {l : List PV} : Clean a b c (.tuple l) = CleanAll a b c l := propext ⟨fun h => by cases h; assumption, fun h => .tuple _ h⟩
theorem Cl_func {fn : Fn} {l m : List PV} : Clean a b c (.func fn l m) = (CleanAll a b c l ∧ CleanAll a b c m) := propext ⟨fun h => by cases h; exact ⟨‹_›, ‹_›⟩, fun h => .func _ _ _ h.1 h.2⟩
theorem CleanAll_ints {xs : List Int} : CleanAll a b c (xs.map I) = True := eq_true fun p hp => by obtain ⟨x, _, rfl⟩ := List.mem_map.1 hp; exact .int _ _
theorem CleanAll_map {α : Type} {f : α → PV} {xs : List α} (h : ∀ x, Clean a b c (f x)) : CleanAll a b c (xs.map f) = True := eq_true fun p hp => by obtain ⟨x, _, rfl⟩ := List.mem_map.1 hp; exact h x
end
attribute [go_sem] CleanAll_nil CleanAll_cons CleanAll_append CleanLs_nil CleanLs_cons CleanEs_nil CleanEs_cons OwnLt_ro OwnLt_exact OwnLt_tok Cl_undef Cl_bool Cl_int Cl_str Cl_nilptr Cl_nilsl Cl_nilfunc Cl_niliface Cl_ptr Cl_msl Cl_yield Cl_eptr Cl_isl Cl_agg Cl_tuple Cl_func CleanAll_ints
attribute [go_sem] setE_nil setE_cons setE1_nil setE1_cons
theorem Weak.cutX {N : Nat} {lo : Nat × Nat} {E : Env} {σ : Sg} {l : List (Option (List PV))} {rm : List Nat} {ys : List LState} (k j : Nat) (h1 : lo.1 ≤ σ.store.length + k) (h2 : lo.2 ≤ σ.rooms.length + j) (hcl : CleanSg σ)
  (hc : CleanLs (σ.store.length + k) (σ.rooms.length + j) (σ.ys.length + ys.length) (l.take k)) (hE : CleanEs (σ.store.length + k) (σ.rooms.length + j) (σ.ys.length + ys.length) E) :
  Weak N lo E (σ.ext l rm ys) E (σ.ext (l.take k) (rm.take j) ys) := Weak.cutExt k j h1 h2 hcl hc (Wk.env hE)
theorem Wk_eq {a b c : Nat} {p q : PV} (h : p = q) (hc : Clean a b c q) : Wk a b c p q := by subst h; exact Wk.of_clean hc
section
variable {α : Type} {f : α → PV} {xs : List α} {c k i off : Nat} {n : Int}
theorem iaX_m (f : α → PV) (xs : List α) : iaX c (xs.map f) n = if 0 ≤ n then (xs[n.toNat]?).bind fun x => if (f x).cells.length = c then some (.eptr c (xs.map f) n.toNat 0) else none else none := by
 unfold iaX
 by_cases h : 0 ≤ n
 ·by_cases h2 : n.toNat < xs.length
  ·rw [if_pos ⟨h, by simp; omega⟩, if_pos h]
   simp [h2]
  ·rw [if_neg (fun h' => h2 (by have := h'.2; simp at this; omega)), if_pos h]
   rw [List.getElem?_eq_none (by omega)]
   rfl
 ·rw [if_neg (fun h' => h h'.1), if_neg h]
theorem elS_m (f : α → PV) (xs : List α) : elS (xs.map f) i off = (xs[i]?).bind fun x => (f x).cells[off]? := by
 simp only [elS, List.getElem?_map]
 cases xs[i]? <;> rfl
theorem elA_m (f : α → PV) (xs : List α) : elA k (xs.map f) i off = (xs[i]?).bind fun x => if off + k ≤ (f x).cells.length then some (.agg (((f x).cells.drop off).take k)) else none := by
 simp only [elA, List.getElem?_map]
 cases xs[i]? <;> rfl
end
theorem bindSome {α β : Type} (x : α) (f : α → Option β) : (some x).bind f = f x := rfl
theorem bindNone {α β : Type} (f : α → Option β) : (none : Option α).bind f = none := rfl
attribute [go_sem] appendAny_isl appendAny_gsl appendAny_gnil
attribute [go_sem] iaX_m elS_m elA_m bindSome bindNone Int.natCast_nonneg Int.toNat_natCast
section
variable {σ : Sg} {d : Nat} {cs cs' : List PV} {l : List (Option (List PV))} {rm : List Nat} {ys : List LState} {k j off : Nat}
theorem sv_len : (σ.setVar d cs).store.length = σ.store.length := by simp [Sg.setVar]
theorem sv_rooms : (σ.setVar d cs).rooms = σ.rooms := rfl
theorem sv_ys : (σ.setVar d cs).ys = σ.ys := rfl
theorem sv_sv : (σ.setVar d cs).setVar d cs' = σ.setVar d cs' := by simp [Sg.setVar]
theorem sv_get (h : d < σ.store.length) : (σ.setVar d cs).store[d]? = some (some cs) := by simp [Sg.setVar, h]
theorem ext_get (h : d < σ.store.length) : (σ.ext l rm ys).store[d]? = σ.store[d]? := by
 show (σ.store ++ l)[d]? = _
 rw [List.getElem?_append_left h]
theorem sv_ext (h : d < σ.store.length) : (σ.ext l rm ys).setVar d cs = (σ.setVar d cs).ext l rm ys := by
 simp [Sg.setVar, Sg.ext, List.set_append_left _ _ h]
theorem ldS_sv (h : d < σ.store.length) : ldS (σ.setVar d cs) d off = cs[off]? := ldS_at (sv_get h)
theorem stX_sv (h : d < σ.store.length) (p : PV) : stX k (σ.setVar d cs) d off p = if defd p && p.cells.all PV.scalar && (p.cells.length == k) && decide (off + p.cells.length ≤ cs.length) then some (σ.setVar d (putCells cs off p.cells)) else none := by
 rw [stX_at (sv_get h), sv_sv]
theorem ldS_svx : ldS ((σ.setVar d cs).ext l rm ys) (σ.store.length + j) off = match l[j]? with | some (some cs) => cs[off]? | _ => none := by
 rw [← sv_len (d := d) (cs := cs)]; exact ldS_ext ..
theorem ldS_svx0 : ldS ((σ.setVar d cs).ext l rm ys) σ.store.length off = match l[0]? with | some (some cs) => cs[off]? | _ => none := by
 rw [← sv_len (d := d) (cs := cs)]; exact ldS_ext0 ..
theorem ldA_svx : ldA k ((σ.setVar d cs).ext l rm ys) (σ.store.length + j) off = match l[j]? with | some (some cs) => if off + k ≤ cs.length then some (.agg ((cs.drop off).take k)) else none | _ => none := by
 rw [← sv_len (d := d) (cs := cs)]; exact ldA_ext ..
theorem ldA_svx0 : ldA k ((σ.setVar d cs).ext l rm ys) σ.store.length off = match l[0]? with | some (some cs) => if off + k ≤ cs.length then some (.agg ((cs.drop off).take k)) else none | _ => none := by
 rw [← sv_len (d := d) (cs := cs)]; exact ldA_ext0 ..
theorem stX_svx (p : PV) : stX k ((σ.setVar d cs).ext l rm ys) (σ.store.length + j) off p = match l[j]? with
  | some (some ds) => if defd p && p.cells.all PV.scalar && (p.cells.length == k) && decide (off + p.cells.length ≤ ds.length) then some ((σ.setVar d cs).ext (l.set j (some (putCells ds off p.cells))) rm ys) else none
  | _ => none := by
 rw [← sv_len (d := d) (cs := cs)]; exact stX_ext ..
theorem stX_svx0 (p : PV) : stX k ((σ.setVar d cs).ext l rm ys) σ.store.length off p = match l[0]? with
  | some (some ds) => if defd p && p.cells.all PV.scalar && (p.cells.length == k) && decide (off + p.cells.length ≤ ds.length) then some ((σ.setVar d cs).ext (l.set 0 (some (putCells ds off p.cells))) rm ys) else none
  | _ => none := by
 rw [← sv_len (d := d) (cs := cs)]; exact stX_ext0 ..
theorem setVar_ext (cs : List PV) : (σ.ext l rm ys).setVar (σ.store.length + j) cs = σ.ext (l.set j (some cs)) rm ys := Sg.set_ext σ l rm ys j cs
theorem setVar_ext0 (cs : List PV) : (σ.ext l rm ys).setVar σ.store.length cs = σ.ext (l.set 0 (some cs)) rm ys := Sg.set_ext0 σ l rm ys cs
theorem setVar_svx (cs' : List PV) : ((σ.setVar d cs).ext l rm ys).setVar (σ.store.length + j) cs' = (σ.setVar d cs).ext (l.set j (some cs')) rm ys := by
 rw [← sv_len (d := d) (cs := cs)]; exact setVar_ext cs'
theorem setVar_svx0 (cs' : List PV) : ((σ.setVar d cs).ext l rm ys).setVar σ.store.length cs' = (σ.setVar d cs).ext (l.set 0 (some cs')) rm ys := by
 rw [← sv_len (d := d) (cs := cs)]; exact setVar_ext0 cs'
theorem lt_of_get {x : Option (List PV)} (h : σ.store[d]? = some x) : d < σ.store.length := (List.getElem?_eq_some_iff.1 h).1
end
attribute [go_sem] sv_len sv_rooms sv_ys sv_sv ldS_svx ldS_svx0 ldA_svx ldA_svx0 stX_svx stX_svx0 setVar_ext setVar_ext0 setVar_svx setVar_svx0
theorem CleanSg_set {σ : Sg} {d : Nat} {cs : List PV} (h : CleanSg σ) (hc : CleanAll σ.store.length σ.rooms.length σ.ys.length cs) : CleanSg (σ.setVar d cs) := by
 unfold CleanSg
 rw [sv_len, sv_rooms, sv_ys]
 intro id ds hid hds p hp
 by_cases hd : d = id
 ·subst hd
  have hds' : (σ.store.set d (some cs))[d]? = some (some ds) := hds
  rw [List.getElem?_set_self hid] at hds'
  injection hds' with e
  injection e with e
  subst e
  exact hc p hp
 ·have hds' : (σ.store.set d (some cs))[id]? = some (some ds) := hds
  rw [List.getElem?_set_ne hd] at hds'
  exact h id ds hid hds' p hp
theorem Fin_set {P : Program} {fn : Func} {σ : Sg} {d : Nat} {cs : List PV} {l : List (Option (List PV))} {rm : List Nat} {E : Env} {rs : List PV} {v : PV} (hcl : CleanSg σ) (hc : CleanAll σ.store.length σ.rooms.length σ.ys.length cs)
  (hr : resPV P ((σ.setVar d cs).ext l rm) E fn.results.toList = some rs)
  (hv : Wk σ.store.length σ.rooms.length σ.ys.length (oneOr rs) v) : Fin P fn σ v (σ.setVar d cs) E ((σ.setVar d cs).ext l rm) := by
 have hcl' := CleanSg_set (d := d) hcl hc
 refine ⟨rs, _, _, hr, Nat.le_refl _, Nat.le_refl _, hv, ?_, fun id ds hid hds p hp => ?_, by simp [Sg.ext, Sg.setVar]⟩
 ·have := Sg.cut_ext0 (σ.setVar d cs) l rm
  rw [sv_len, sv_rooms, sv_ys] at this
  exact this.symm
 ·have hc' : ((σ.setVar d cs).store ++ l)[id]? = some (some ds) := hds
  rw [List.getElem?_append_left (by rw [sv_len]; exact hid)] at hc'
  have := hcl' id ds (by rw [sv_len]; exact hid) hc' p hp
  rw [sv_len, sv_rooms, sv_ys] at this
  exact this
theorem Fin_set0 {P : Program} {fn : Func} {σ : Sg} {d : Nat} {cs : List PV} {E : Env} {rs : List PV} {v : PV} (hcl : CleanSg σ) (hc : CleanAll σ.store.length σ.rooms.length σ.ys.length cs)
  (hr : resPV P (σ.setVar d cs) E fn.results.toList = some rs)
  (hv : Wk σ.store.length σ.rooms.length σ.ys.length (oneOr rs) v) : Fin P fn σ v (σ.setVar d cs) E (σ.setVar d cs) := by
 have := Fin_set (l := []) (rm := []) hcl hc (by rw [Sg.ext_nil]; exact hr) hv
 rw [Sg.ext_nil] at this
 exact this
theorem W_regionJ {P : Program} {Y : YEnv} {N : Nat} {rd : Option Nat} {lo : Nat × Nat} {id : Nat} {ops : Array Oper} {E : Env} {σ : Sg} {Q : Exit → Env → Sg → Prop} (ks : List Nat) (upd : Env)
  (rest : Q .normal (keep ks (upd ++ E)) σ) (h : ∀ K : Env → Sg → Prop, (∀ E', keep ks E' = keep ks (upd ++ E) → K E' σ) → GL P Y N ops ops.toList E σ K) : W P Y N rd lo (.region id ops false) E σ Q :=
 W_region ks fun K hK => h K fun E' e => hK E' σ (by rw [e]; exact rest)
theorem W_drawJ {P : Program} {Y : YEnv} {N : Nat} {rd : Option Nat} {lo : Nat × Nat} {id : Nat} {ops : Array Oper} {E : Env} {σ : Sg} {Q : Exit → Env → Sg → Prop} (ks : List Nat) (upd : Env) (is : List Nat) (plan : List (Nat × Nat)) (pre : List (List Nat))
  (hm : P.follows .mixedOrders = true) (hc : drawOK ops is plan pre = true) (rest : Q .normal (keep ks (upd ++ E)) σ)
  (h : ∀ K : Env → Sg → Prop, (∀ E', keep ks E' = keep ks (upd ++ E) → K E' σ) → GD P Y N ops is (undefs ops.toList E) σ [] (fun T E' σ' => Dem P ops T.reverse σ' plan ∧ K E' σ')) : W P Y N rd lo (.region id ops true) E σ Q :=
 W_draw ks is plan pre hm hc fun K hK => h K fun E' e => hK E' σ (by rw [e]; exact rest)
theorem wrapI {n : Int} (h1 : -9223372036854775808 ≤ n) (h2 : n ≤ 9223372036854775807) : IntKind.i64.wrap n = n := wrap_i64_id (by omega) (by omega)
theorem nrm : (∀ (p : Prop) [Decidable p], (decide p = true) = p) ∧ (∀ (p : Prop) [Decidable p], (decide p = false) = ¬p) ∧ (∀ b : Bool, ((!b) = true) = (b = false)) ∧ (∀ b : Bool, ((!b) = false) = (b = true)) ∧
  (∀ a b : Nat, ((a : Int) = (b : Int)) = (a = b)) ∧ (∀ a b : Nat, ((a : Int) < (b : Int)) = (a < b)) ∧ (∀ a b : Nat, ((a : Int) ≤ (b : Int)) = (a ≤ b)) ∧
  (∀ a b : Int, ((a != b) = true) = (¬ a = b)) ∧ (∀ a b : Int, ((a != b) = false) = (a = b)) ∧ (∀ a b : Int, ((a == b) = true) = (a = b)) ∧ (∀ a b : Int, ((a == b) = false) = (¬ a = b)) ∧
  (∀ b : Bool, (¬ b = true) = (b = false)) ∧ (∀ b : Bool, (¬ b = false) = (b = true)) := by
 refine ⟨fun p _ => by simp, fun p _ => by simp, fun b => by simp, fun b => by simp, fun a b => propext Int.natCast_inj, fun a b => propext Int.ofNat_lt, fun a b => propext Int.ofNat_le, fun a b => by simp, fun a b => by simp, fun a b => by simp, fun a b => by simp, fun b => by simp, fun b => by simp⟩
def okC (c : Nat) (m : List PV) : Prop := (m.all fun q => (q.cells.length == c) && q.cells.all PV.scalar) = true
theorem okC_nil {c : Nat} : okC c [] = True := eq_true rfl
theorem okC_cons {c : Nat} {q : PV} {m : List PV} : okC c (q :: m) = ((q.cells.length = c ∧ q.cells.all PV.scalar = true) ∧ okC c m) := by simp [okC]
theorem okC_append {c : Nat} {l m : List PV} : okC c (l ++ m) = (okC c l ∧ okC c m) := by simp [okC]
theorem okC_ints {xs : List Int} : okC 1 (xs.map I) = True := eq_true (by simp [okC, PV.cells, PV.scalar])
theorem okC_map {α : Type} {c : Nat} {f : α → PV} {xs : List α} (h : ∀ x, okC c [f x]) : okC c (xs.map f) = True := eq_true (by
 unfold okC at h ⊢
 rw [List.all_eq_true]
 intro q hq
 obtain ⟨x, _, rfl⟩ := List.mem_map.1 hq
 simpa using h x)
theorem okC_len {c : Nat} {m : List PV} (h : okC c m) : (m.all fun q => q.cells.length == c) = true := by
 unfold okC at h
 rw [List.all_eq_true] at h ⊢
 intro q hq
 have := h q hq
 simp only [Bool.and_eq_true] at this
 exact this.1
theorem appX_exact {c b : Nat} {σ : Sg} {l m : List PV} (hm : okC c m) (hl : okC c l) (hs : (l.length + m.length) * b ≤ 140737488355328) :
  appX c b σ l .exact m = some (.isl (l ++ m) (.tok σ.rooms.length (l.length + m.length) c), σ.pushRoom (l.length + m.length)) := by
 have hm' : (m.all fun q => (q.cells.length == c) && q.cells.all PV.scalar) = true := hm
 unfold appX
 rw [hm', okC_len hl]
 simp [hs]
theorem appX_tok {c b : Nat} {σ : Sg} {l m : List PV} {r n : Nat} (hm : okC c m) (hr : σ.rooms[r]? = some n) (hs : (l.length + m.length) * b ≤ 140737488355328) :
  appX c b σ l (.tok r n c) m = some (.isl (l ++ m) (.tok r (n + m.length) c), σ.setRoom r (n + m.length)) := by
 have hm' : (m.all fun q => (q.cells.length == c) && q.cells.all PV.scalar) = true := hm
 unfold appX
 rw [hm']
 simp [hs, hr]
section
variable {σ : Sg} {d : Nat} {cs : List PV} {l : List (Option (List PV))} {rm : List Nat} {ys : List LState} {j n : Nat}
theorem room_svx : ((σ.setVar d cs).ext l rm ys).rooms[σ.rooms.length + j]? = rm[j]? := Sg.room_ext (σ.setVar d cs) l rm ys j
theorem room_svx0 : ((σ.setVar d cs).ext l rm ys).rooms[σ.rooms.length]? = rm[0]? := Sg.room_ext0 (σ.setVar d cs) l rm ys
theorem setRoom_svx : ((σ.setVar d cs).ext l rm ys).setRoom (σ.rooms.length + j) n = (σ.setVar d cs).ext l (rm.set j n) ys := Sg.setRoom_ext (σ.setVar d cs) l rm ys j n
theorem setRoom_svx0 : ((σ.setVar d cs).ext l rm ys).setRoom σ.rooms.length n = (σ.setVar d cs).ext l (rm.set 0 n) ys := Sg.setRoom_ext0 (σ.setVar d cs) l rm ys n
end
attribute [go_sem] bsX okC_nil okC_cons okC_append okC_ints Sg.room_ext Sg.room_ext0 Sg.setRoom_ext Sg.setRoom_ext0 room_svx room_svx0 setRoom_svx setRoom_svx0
theorem ro_isl {l : List PV} {o : Own} : (PV.isl l o).ro = .isl (PV.roL l) .ro := by simp only [PV.ro]
theorem ro_agg {l : List PV} : (PV.agg l).ro = .agg (PV.roL l) := by simp only [PV.ro]
theorem ro_tuple {l : List PV} : (PV.tuple l).ro = .tuple (PV.roL l) := by simp only [PV.ro]
theorem ro_int {k : IntKind} {n : Int} : (PV.int k n).ro = .int k n := by simp only [PV.ro]
theorem ro_bool {b : Bool} : (PV.bool b).ro = .bool b := by simp only [PV.ro]
theorem ro_str {b : ByteArray} : (PV.str b).ro = .str b := by simp only [PV.ro]
theorem ro_ptr {i o : Nat} : (PV.ptr i o).ro = .ptr i o := by simp only [PV.ro]
theorem roL_nil : PV.roL [] = [] := by simp only [PV.roL]
theorem roL_cons {p : PV} {l : List PV} : PV.roL (p :: l) = p.ro :: PV.roL l := by simp only [PV.roL]
theorem roL_append {l m : List PV} : PV.roL (l ++ m) = PV.roL l ++ PV.roL m := by simp only [PV.roL_map, List.map_append]
theorem roL_ints {xs : List Int} : PV.roL (xs.map I) = xs.map I := by simp [PV.roL_map, PV.ro]
theorem roL_enc {α : Type} {f : α → PV} {xs : List α} (h : ∀ x, (f x).ro = f x) : PV.roL (xs.map f) = xs.map f := by simp [PV.roL_map, h]
attribute [go_sem] ro_isl ro_agg ro_tuple ro_int ro_bool ro_str ro_ptr roL_nil roL_cons roL_append roL_ints oneOr
theorem PC.val {P : Program} {Y : YEnv} {f : FuncId} {args : List PV} {σ σ' : Sg} {v v' : PV} (h : PC P Y f args σ v σ') (e : v = v') : PC P Y f args σ v' σ' := by subst e; exact h
def rep (n : Nat) (v : PV) : List PV := List.replicate n v
theorem rep_len (n : Nat) (v : PV) : (rep n v).length = n := by simp [rep]
theorem ixS_of {P : Program} {t e : TypeId} {d : TypeDesc} {len : Nat} (h : P.underlying t = some (.array len e)) (he : P.underlying e = some d) (ha : isAggD d = false) (hc : P.cellsOf e = 1) (kd : IntKind) (n : Int) {cs : List PV} :
  indexPV P t (.agg cs) (.int kd n) = if 0 ≤ n ∧ n < (len : Int) then cs[n.toNat]? else none := by
 simp [indexPV, h, he, hc, partPV, ha]
attribute [go_sem] st List.reverse_cons List.reverse_nil bldX bne_self_eq_false iaM rep_len Int.cast_ofNat_Int List.getElem?_nil List.map_append List.length_append
theorem cells2 : Try.prog.cellsOf 2 = 1 := by kernel_rfl
theorem zero2 : zeroPV Try.prog 2 = some [.int .i64 0] := by kernel_rfl
theorem cells3 : Try.prog.cellsOf 3 = 1 := by kernel_rfl
theorem bytes3 : Try.prog.bytesOf 3 = 8 := by kernel_rfl
theorem zero3 : zeroPV Try.prog 3 = some [.int .i64 0] := by kernel_rfl
theorem cells4 : Try.prog.cellsOf 4 = 1 := by kernel_rfl
theorem bytes4 : Try.prog.bytesOf 4 = 1 := by kernel_rfl
theorem zero4 : zeroPV Try.prog 4 = some [.bool false] := by kernel_rfl
theorem cells5 : Try.prog.cellsOf 5 = 1 := by kernel_rfl
theorem zero5 : zeroPV Try.prog 5 = some [.int .u8 0] := by kernel_rfl
theorem cells9 : Try.prog.cellsOf 9 = 1 := by kernel_rfl
theorem zero9 : zeroPV Try.prog 9 = some [.str .empty] := by kernel_rfl
theorem cells22 : Try.prog.cellsOf 22 = 1 := by kernel_rfl
theorem bytes22 : Try.prog.bytesOf 22 = 24 := by kernel_rfl
theorem zero22 : zeroPV Try.prog 22 = some [.isl [] .exact] := by kernel_rfl
theorem cells23 : Try.prog.cellsOf 23 = 1 := by kernel_rfl
theorem zero23 : zeroPV Try.prog 23 = some [.nilptr] := by kernel_rfl
theorem cells25 : Try.prog.cellsOf 25 = 1 := by kernel_rfl
theorem zero25 : zeroPV Try.prog 25 = some [.isl [] .exact] := by kernel_rfl
theorem cells26 : Try.prog.cellsOf 26 = 5 := by kernel_rfl
theorem zero26 : zeroPV Try.prog 26 = some [.int .i64 0, .int .i64 0, .int .i64 0, .int .i64 0, .isl [] .exact] := by kernel_rfl
theorem cells27 : Try.prog.cellsOf 27 = 5 := by kernel_rfl
theorem zero27 : zeroPV Try.prog 27 = some [.int .i64 0, .int .i64 0, .int .i64 0, .int .i64 0, .isl [] .exact] := by kernel_rfl
theorem cells29 : Try.prog.cellsOf 29 = 1 := by kernel_rfl
theorem zero29 : zeroPV Try.prog 29 = some [.isl [] .exact] := by kernel_rfl
theorem cells32 : Try.prog.cellsOf 32 = 1 := by kernel_rfl
theorem zero32 : zeroPV Try.prog 32 = some [.isl [] .exact] := by kernel_rfl
theorem cells33 : Try.prog.cellsOf 33 = 1 := by kernel_rfl
theorem zero33 : zeroPV Try.prog 33 = some [.int .i64 0] := by kernel_rfl
theorem cells36 : Try.prog.cellsOf 36 = 1 := by kernel_rfl
theorem zero36 : zeroPV Try.prog 36 = some [.isl [] .exact] := by kernel_rfl
theorem cells37 : Try.prog.cellsOf 37 = 6 := by kernel_rfl
theorem zero37 : zeroPV Try.prog 37 = some [.int .i64 0, .int .i64 0, .int .i64 0, .int .i64 0, .int .i64 0, .int .i64 0] := by kernel_rfl
theorem cells38 : Try.prog.cellsOf 38 = 6 := by kernel_rfl
theorem bytes38 : Try.prog.bytesOf 38 = 48 := by kernel_rfl
theorem zero38 : zeroPV Try.prog 38 = some [.int .i64 0, .int .i64 0, .int .i64 0, .int .i64 0, .int .i64 0, .int .i64 0] := by kernel_rfl
theorem cells39 : Try.prog.cellsOf 39 = 5 := by kernel_rfl
theorem zero39 : zeroPV Try.prog 39 = some [.isl [] .exact, .isl [] .exact, .isl [] .exact, .isl [] .exact, .isl [] .exact] := by kernel_rfl
theorem cells40 : Try.prog.cellsOf 40 = 5 := by kernel_rfl
theorem bytes40 : Try.prog.bytesOf 40 = 120 := by kernel_rfl
theorem zero40 : zeroPV Try.prog 40 = some [.isl [] .exact, .isl [] .exact, .isl [] .exact, .isl [] .exact, .isl [] .exact] := by kernel_rfl
theorem cells41 : Try.prog.cellsOf 41 = 3 := by kernel_rfl
theorem zero41 : zeroPV Try.prog 41 = some [.int .i64 0, .int .i64 0, .int .i64 0] := by kernel_rfl
theorem cells42 : Try.prog.cellsOf 42 = 3 := by kernel_rfl
theorem bytes42 : Try.prog.bytesOf 42 = 24 := by kernel_rfl
theorem zero42 : zeroPV Try.prog 42 = some [.int .i64 0, .int .i64 0, .int .i64 0] := by kernel_rfl
theorem cells48 : Try.prog.cellsOf 48 = 1 := by kernel_rfl
theorem bytes48 : Try.prog.bytesOf 48 = 24 := by kernel_rfl
theorem zero48 : zeroPV Try.prog 48 = some [.isl [] .exact] := by kernel_rfl
theorem cells60 : Try.prog.cellsOf 60 = 1 := by kernel_rfl
theorem zero60 : zeroPV Try.prog 60 = some [.isl [] .exact] := by kernel_rfl
theorem cells67 : Try.prog.cellsOf 67 = 1 := by kernel_rfl
theorem zero67 : zeroPV Try.prog 67 = some [.int .u64 0] := by kernel_rfl
theorem cells68 : Try.prog.cellsOf 68 = 1 := by kernel_rfl
theorem zero68 : zeroPV Try.prog 68 = some [.int .u64 0] := by kernel_rfl
theorem cells69 : Try.prog.cellsOf 69 = 1 := by kernel_rfl
theorem zero69 : zeroPV Try.prog 69 = some [.int .u64 0] := by kernel_rfl
theorem cells73 : Try.prog.cellsOf 73 = 1 := by kernel_rfl
theorem zero73 : zeroPV Try.prog 73 = some [.isl [] .exact] := by kernel_rfl
theorem cells75 : Try.prog.cellsOf 75 = 8 := by kernel_rfl
theorem zero75 : zeroPV Try.prog 75 = some [.int .i64 0, .int .i64 0, .int .i64 0, .int .i64 0, .int .i64 0, .int .i64 0, .int .i64 0, .int .i64 0] := by kernel_rfl
theorem cells76 : Try.prog.cellsOf 76 = 16 := by kernel_rfl
theorem zero76 : zeroPV Try.prog 76 = some [.int .i64 0, .int .i64 0, .int .i64 0, .int .i64 0, .int .i64 0, .int .i64 0, .int .i64 0, .int .i64 0, .int .i64 0, .int .i64 0, .int .i64 0, .int .i64 0, .int .i64 0, .int .i64 0, .int .i64 0, .int .i64 0] := by kernel_rfl
theorem cells77 : Try.prog.cellsOf 77 = 16 := by kernel_rfl
theorem zero77 : zeroPV Try.prog 77 = some [.int .i64 0, .int .i64 0, .int .i64 0, .int .i64 0, .int .i64 0, .int .i64 0, .int .i64 0, .int .i64 0, .int .i64 0, .int .i64 0, .int .i64 0, .int .i64 0, .int .i64 0, .int .i64 0, .int .i64 0, .int .i64 0] := by kernel_rfl
theorem cells78 : Try.prog.cellsOf 78 = 1 := by kernel_rfl
theorem zero78 : zeroPV Try.prog 78 = some [.nilmap] := by kernel_rfl
theorem cells79 : Try.prog.cellsOf 79 = 21 := by kernel_rfl
theorem zero79 : zeroPV Try.prog 79 = some [.int .i64 0, .int .i64 0, .int .i64 0, .isl [] .exact, .int .i64 0, .int .i64 0, .int .i64 0, .int .i64 0, .int .i64 0, .int .i64 0, .int .i64 0, .int .i64 0, .int .i64 0, .int .i64 0, .int .i64 0, .int .i64 0, .int .i64 0, .int .i64 0, .int .i64 0, .int .i64 0, .nilmap] := by kernel_rfl
theorem cells80 : Try.prog.cellsOf 80 = 21 := by kernel_rfl
theorem bytes80 : Try.prog.bytesOf 80 = 184 := by kernel_rfl
theorem zero80 : zeroPV Try.prog 80 = some [.int .i64 0, .int .i64 0, .int .i64 0, .isl [] .exact, .int .i64 0, .int .i64 0, .int .i64 0, .int .i64 0, .int .i64 0, .int .i64 0, .int .i64 0, .int .i64 0, .int .i64 0, .int .i64 0, .int .i64 0, .int .i64 0, .int .i64 0, .int .i64 0, .int .i64 0, .int .i64 0, .nilmap] := by kernel_rfl
theorem cells86 : Try.prog.cellsOf 86 = 8 := by kernel_rfl
theorem zero86 : zeroPV Try.prog 86 = some [.bool false, .bool false, .bool false, .bool false, .bool false, .bool false, .bool false, .bool false] := by kernel_rfl
theorem cells88 : Try.prog.cellsOf 88 = 3 := by kernel_rfl
theorem zero88 : zeroPV Try.prog 88 = some [.int .i64 0, .int .i64 0, .int .i64 0] := by kernel_rfl
theorem cells89 : Try.prog.cellsOf 89 = 3 := by kernel_rfl
theorem zero89 : zeroPV Try.prog 89 = some [.int .i64 0, .int .i64 0, .int .i64 0] := by kernel_rfl
theorem cells91 : Try.prog.cellsOf 91 = 1 := by kernel_rfl
theorem zero91 : zeroPV Try.prog 91 = some [.int .u64 0] := by kernel_rfl
theorem cells100 : Try.prog.cellsOf 100 = 1 := by kernel_rfl
theorem zero100 : zeroPV Try.prog 100 = some [.nilmap] := by kernel_rfl
theorem cells103 : Try.prog.cellsOf 103 = 1 := by kernel_rfl
theorem zero103 : zeroPV Try.prog 103 = some [.isl [] .exact] := by kernel_rfl
theorem cells104 : Try.prog.cellsOf 104 = 4 := by kernel_rfl
theorem zero104 : zeroPV Try.prog 104 = some [.int .i64 0, .int .i64 0, .int .i64 0, .int .i64 0] := by kernel_rfl
theorem cells105 : Try.prog.cellsOf 105 = 4 := by kernel_rfl
theorem bytes105 : Try.prog.bytesOf 105 = 32 := by kernel_rfl
theorem zero105 : zeroPV Try.prog 105 = some [.int .i64 0, .int .i64 0, .int .i64 0, .int .i64 0] := by kernel_rfl
theorem cells111 : Try.prog.cellsOf 111 = 1 := by kernel_rfl
theorem zero111 : zeroPV Try.prog 111 = some [.nilfunc] := by kernel_rfl
theorem cells116 : Try.prog.cellsOf 116 = 1 := by kernel_rfl
theorem bytes116 : Try.prog.bytesOf 116 = 8 := by kernel_rfl
theorem zero116 : zeroPV Try.prog 116 = some [.nilfunc] := by kernel_rfl
theorem cells117 : Try.prog.cellsOf 117 = 1 := by kernel_rfl
theorem zero117 : zeroPV Try.prog 117 = some [.isl [] .exact] := by kernel_rfl
theorem cells126 : Try.prog.cellsOf 126 = 1 := by kernel_rfl
theorem zero126 : zeroPV Try.prog 126 = some [.int .i64 0] := by kernel_rfl
theorem cells134 : Try.prog.cellsOf 134 = 1 := by kernel_rfl
theorem zero134 : zeroPV Try.prog 134 = some [.int .u32 0] := by kernel_rfl
theorem cells141 : Try.prog.cellsOf 141 = 1 := by kernel_rfl
theorem zero141 : zeroPV Try.prog 141 = some [.int .u64 0] := by kernel_rfl
theorem cells144 : Try.prog.cellsOf 144 = 1 := by kernel_rfl
theorem zero144 : zeroPV Try.prog 144 = some [.nilptr] := by kernel_rfl
theorem cells148 : Try.prog.cellsOf 148 = 1 := by kernel_rfl
theorem zero148 : zeroPV Try.prog 148 = some [.nilptr] := by kernel_rfl
theorem cells153 : Try.prog.cellsOf 153 = 4 := by kernel_rfl
theorem zero153 : zeroPV Try.prog 153 = some [.nilptr, .nilptr, .nilptr, .str .empty] := by kernel_rfl
theorem cells154 : Try.prog.cellsOf 154 = 4 := by kernel_rfl
theorem zero154 : zeroPV Try.prog 154 = some [.nilptr, .nilptr, .nilptr, .str .empty] := by kernel_rfl
theorem cells155 : Try.prog.cellsOf 155 = 0 := by kernel_rfl
theorem zero155 : zeroPV Try.prog 155 = some [] := by kernel_rfl
theorem cells156 : Try.prog.cellsOf 156 = 0 := by kernel_rfl
theorem zero156 : zeroPV Try.prog 156 = some [] := by kernel_rfl
theorem cells157 : Try.prog.cellsOf 157 = 0 := by kernel_rfl
theorem zero157 : zeroPV Try.prog 157 = some [] := by kernel_rfl
theorem cells159 : Try.prog.cellsOf 159 = 1 := by kernel_rfl
theorem zero159 : zeroPV Try.prog 159 = some [.int .u8 0] := by kernel_rfl
theorem cells160 : Try.prog.cellsOf 160 = 1 := by kernel_rfl
theorem zero160 : zeroPV Try.prog 160 = some [.int .u8 0] := by kernel_rfl
theorem cells162 : Try.prog.cellsOf 162 = 1 := by kernel_rfl
theorem zero162 : zeroPV Try.prog 162 = some [.nilptr] := by kernel_rfl
theorem cells163 : Try.prog.cellsOf 163 = 1 := by kernel_rfl
theorem zero163 : zeroPV Try.prog 163 = some [.int .i32 0] := by kernel_rfl
theorem cells164 : Try.prog.cellsOf 164 = 1 := by kernel_rfl
theorem zero164 : zeroPV Try.prog 164 = some [.int .i32 0] := by kernel_rfl
theorem cells165 : Try.prog.cellsOf 165 = 11 := by kernel_rfl
theorem zero165 : zeroPV Try.prog 165 = some [.int .u64 0, .int .u64 0, .int .u32 0, .int .u8 0, .int .u8 0, .int .u8 0, .int .u8 0, .nilfunc, .nilptr, .int .i32 0, .int .i32 0] := by kernel_rfl
theorem cells166 : Try.prog.cellsOf 166 = 11 := by kernel_rfl
theorem zero166 : zeroPV Try.prog 166 = some [.int .u64 0, .int .u64 0, .int .u32 0, .int .u8 0, .int .u8 0, .int .u8 0, .int .u8 0, .nilfunc, .nilptr, .int .i32 0, .int .i32 0] := by kernel_rfl
theorem cells167 : Try.prog.cellsOf 167 = 1 := by kernel_rfl
theorem zero167 : zeroPV Try.prog 167 = some [.nilptr] := by kernel_rfl
set_option maxRecDepth 100000
theorem lda2 {σ : Sg} {id off : Nat} : loadPV Try.prog σ 2 (.ptr id off) = ldS σ id off := ldS_of Try.underlying2 rfl
theorem ela2 {σ : Sg} {es i off : Nat} {l : List PV} : loadPV Try.prog σ 2 (.eptr es l i off) = elS l i off := elS_of Try.underlying2 rfl
theorem sto2 {σ : Sg} {id off : Nat} {p : PV} : storePV Try.prog σ 2 (.ptr id off) p = stX 1 σ id off p := stX_of Try.underlying2 cells2 p
theorem lda3 {σ : Sg} {id off : Nat} : loadPV Try.prog σ 3 (.ptr id off) = ldS σ id off := ldS_of Try.underlying3 rfl
theorem ela3 {σ : Sg} {es i off : Nat} {l : List PV} : loadPV Try.prog σ 3 (.eptr es l i off) = elS l i off := elS_of Try.underlying3 rfl
theorem sto3 {σ : Sg} {id off : Nat} {p : PV} : storePV Try.prog σ 3 (.ptr id off) p = stX 1 σ id off p := stX_of Try.underlying3 cells3 p
theorem lda4 {σ : Sg} {id off : Nat} : loadPV Try.prog σ 4 (.ptr id off) = ldS σ id off := ldS_of Try.underlying4 rfl
theorem ela4 {σ : Sg} {es i off : Nat} {l : List PV} : loadPV Try.prog σ 4 (.eptr es l i off) = elS l i off := elS_of Try.underlying4 rfl
theorem sto4 {σ : Sg} {id off : Nat} {p : PV} : storePV Try.prog σ 4 (.ptr id off) p = stX 1 σ id off p := stX_of Try.underlying4 cells4 p
theorem lda5 {σ : Sg} {id off : Nat} : loadPV Try.prog σ 5 (.ptr id off) = ldS σ id off := ldS_of Try.underlying5 rfl
theorem ela5 {σ : Sg} {es i off : Nat} {l : List PV} : loadPV Try.prog σ 5 (.eptr es l i off) = elS l i off := elS_of Try.underlying5 rfl
theorem sto5 {σ : Sg} {id off : Nat} {p : PV} : storePV Try.prog σ 5 (.ptr id off) p = stX 1 σ id off p := stX_of Try.underlying5 cells5 p
theorem lda9 {σ : Sg} {id off : Nat} : loadPV Try.prog σ 9 (.ptr id off) = ldS σ id off := ldS_of Try.underlying9 rfl
theorem ela9 {σ : Sg} {es i off : Nat} {l : List PV} : loadPV Try.prog σ 9 (.eptr es l i off) = elS l i off := elS_of Try.underlying9 rfl
theorem sto9 {σ : Sg} {id off : Nat} {p : PV} : storePV Try.prog σ 9 (.ptr id off) p = stX 1 σ id off p := stX_of Try.underlying9 cells9 p
theorem lda22 {σ : Sg} {id off : Nat} : loadPV Try.prog σ 22 (.ptr id off) = ldS σ id off := ldS_of Try.underlying22 rfl
theorem ela22 {σ : Sg} {es i off : Nat} {l : List PV} : loadPV Try.prog σ 22 (.eptr es l i off) = elS l i off := elS_of Try.underlying22 rfl
theorem sto22 {σ : Sg} {id off : Nat} {p : PV} : storePV Try.prog σ 22 (.ptr id off) p = stX 1 σ id off p := stX_of Try.underlying22 cells22 p
theorem ia22 {l : List PV} {own : Own} {k : IntKind} {i : Int} : indexAddrPV Try.prog 22 (.isl l own) (.int k i) = iaX 1 l i := iaX_of Try.underlying22 Try.underlying3 cells3 k i
theorem iam22 {id off len : Nat} {k : IntKind} {i : Int} : indexAddrPV Try.prog 22 (.msl id off len) (.int k i) = iaM 1 id off len i := iaM_of Try.underlying22 Try.underlying3 cells3 k len i
theorem len22 {l : List PV} {own : Own} : lenPV Try.prog 22 (.isl l own) = some (.int .i64 l.length) := len_of Try.underlying22
theorem lenm22 {id off n : Nat} : lenPV Try.prog 22 (.msl id off n) = some (.int .i64 n) := lenM_of Try.underlying22 n
theorem bs22 {len : Nat} {parts : List (Nat × PV)} : buildSlicePV Try.prog 22 len parts = bsX 1 len parts := bsX_of Try.underlying22 Try.underlying3 cells3 zero3 len parts
theorem app22 {σ : Sg} {l m : List PV} {own own' : Own} : appendPV Try.prog σ 22 22 (.isl l own) (.isl m own') = appX 1 8 σ l own m := appX_of Try.underlying22 Try.underlying3 cells3 bytes3 (by decide) (by decide) zero3 rfl
theorem lda23 {σ : Sg} {id off : Nat} : loadPV Try.prog σ 23 (.ptr id off) = ldS σ id off := ldS_of Try.underlying23 rfl
theorem ela23 {σ : Sg} {es i off : Nat} {l : List PV} : loadPV Try.prog σ 23 (.eptr es l i off) = elS l i off := elS_of Try.underlying23 rfl
theorem sto23 {σ : Sg} {id off : Nat} {p : PV} : storePV Try.prog σ 23 (.ptr id off) p = stX 1 σ id off p := stX_of Try.underlying23 cells23 p
theorem lda25 {σ : Sg} {id off : Nat} : loadPV Try.prog σ 25 (.ptr id off) = ldS σ id off := ldS_of Try.underlying25 rfl
theorem ela25 {σ : Sg} {es i off : Nat} {l : List PV} : loadPV Try.prog σ 25 (.eptr es l i off) = elS l i off := elS_of Try.underlying25 rfl
theorem sto25 {σ : Sg} {id off : Nat} {p : PV} : storePV Try.prog σ 25 (.ptr id off) p = stX 1 σ id off p := stX_of Try.underlying25 cells25 p
theorem ia25 {l : List PV} {own : Own} {k : IntKind} {i : Int} : indexAddrPV Try.prog 25 (.isl l own) (.int k i) = iaX 3 l i := iaX_of Try.underlying25 Try.underlying42 cells42 k i
theorem iam25 {id off len : Nat} {k : IntKind} {i : Int} : indexAddrPV Try.prog 25 (.msl id off len) (.int k i) = iaM 3 id off len i := iaM_of Try.underlying25 Try.underlying42 cells42 k len i
theorem len25 {l : List PV} {own : Own} : lenPV Try.prog 25 (.isl l own) = some (.int .i64 l.length) := len_of Try.underlying25
theorem lenm25 {id off n : Nat} : lenPV Try.prog 25 (.msl id off n) = some (.int .i64 n) := lenM_of Try.underlying25 n
theorem bs25 {len : Nat} {parts : List (Nat × PV)} : buildSlicePV Try.prog 25 len parts = bsX 3 len parts := bsX_of Try.underlying25 Try.underlying42 cells42 zero42 len parts
theorem app25 {σ : Sg} {l m : List PV} {own own' : Own} : appendPV Try.prog σ 25 25 (.isl l own) (.isl m own') = appX 3 24 σ l own m := appX_of Try.underlying25 Try.underlying42 cells42 bytes42 (by decide) (by decide) zero42 rfl
theorem lda26 {σ : Sg} {id off : Nat} : loadPV Try.prog σ 26 (.ptr id off) = ldA 5 σ id off := ldA_of Try.underlying26 rfl cells26
theorem ela26 {σ : Sg} {es i off : Nat} {l : List PV} : loadPV Try.prog σ 26 (.eptr es l i off) = elA 5 l i off := elA_of Try.underlying26 rfl cells26
theorem sto26 {σ : Sg} {id off : Nat} {p : PV} : storePV Try.prog σ 26 (.ptr id off) p = stX 5 σ id off p := stX_of Try.underlying26 cells26 p
theorem fa26_0 {id off : Nat} : fieldAddrPV Try.prog 26 (.ptr id off) 0 = some (.ptr id (off + 0)) := fa1_of Try.underlying26 (by rfl) (by exact Try.underlying3) (by exact cells3) (by rfl) (by rfl)
theorem fae26_0 {es i off : Nat} {l : List PV} : fieldAddrPV Try.prog 26 (.eptr es l i off) 0 = some (.eptr es l i (off + 0)) := fa2_of Try.underlying26 (by rfl) (by exact Try.underlying3) (by exact cells3) (by rfl) (by rfl)
theorem fp26_0 {cs : List PV} : fieldPV Try.prog 26 (.agg cs) 0 = cs[0]? := fpS_of Try.underlying26 (by rfl) (by exact Try.underlying3) (by rfl) (by rfl) cs
theorem fa26_1 {id off : Nat} : fieldAddrPV Try.prog 26 (.ptr id off) 1 = some (.ptr id (off + 1)) := fa1_of Try.underlying26 (by rfl) (by exact Try.underlying3) (by exact cells3) (by rfl) (by rfl)
theorem fae26_1 {es i off : Nat} {l : List PV} : fieldAddrPV Try.prog 26 (.eptr es l i off) 1 = some (.eptr es l i (off + 1)) := fa2_of Try.underlying26 (by rfl) (by exact Try.underlying3) (by exact cells3) (by rfl) (by rfl)
theorem fp26_1 {cs : List PV} : fieldPV Try.prog 26 (.agg cs) 1 = cs[1]? := fpS_of Try.underlying26 (by rfl) (by exact Try.underlying3) (by rfl) (by rfl) cs
theorem fa26_2 {id off : Nat} : fieldAddrPV Try.prog 26 (.ptr id off) 2 = some (.ptr id (off + 2)) := fa1_of Try.underlying26 (by rfl) (by exact Try.underlying3) (by exact cells3) (by rfl) (by rfl)
theorem fae26_2 {es i off : Nat} {l : List PV} : fieldAddrPV Try.prog 26 (.eptr es l i off) 2 = some (.eptr es l i (off + 2)) := fa2_of Try.underlying26 (by rfl) (by exact Try.underlying3) (by exact cells3) (by rfl) (by rfl)
theorem fp26_2 {cs : List PV} : fieldPV Try.prog 26 (.agg cs) 2 = cs[2]? := fpS_of Try.underlying26 (by rfl) (by exact Try.underlying3) (by rfl) (by rfl) cs
theorem fa26_3 {id off : Nat} : fieldAddrPV Try.prog 26 (.ptr id off) 3 = some (.ptr id (off + 3)) := fa1_of Try.underlying26 (by rfl) (by exact Try.underlying3) (by exact cells3) (by rfl) (by rfl)
theorem fae26_3 {es i off : Nat} {l : List PV} : fieldAddrPV Try.prog 26 (.eptr es l i off) 3 = some (.eptr es l i (off + 3)) := fa2_of Try.underlying26 (by rfl) (by exact Try.underlying3) (by exact cells3) (by rfl) (by rfl)
theorem fp26_3 {cs : List PV} : fieldPV Try.prog 26 (.agg cs) 3 = cs[3]? := fpS_of Try.underlying26 (by rfl) (by exact Try.underlying3) (by rfl) (by rfl) cs
theorem fa26_4 {id off : Nat} : fieldAddrPV Try.prog 26 (.ptr id off) 4 = some (.ptr id (off + 4)) := fa1_of Try.underlying26 (by rfl) (by exact Try.underlying25) (by exact cells25) (by rfl) (by rfl)
theorem fae26_4 {es i off : Nat} {l : List PV} : fieldAddrPV Try.prog 26 (.eptr es l i off) 4 = some (.eptr es l i (off + 4)) := fa2_of Try.underlying26 (by rfl) (by exact Try.underlying25) (by exact cells25) (by rfl) (by rfl)
theorem fp26_4 {cs : List PV} : fieldPV Try.prog 26 (.agg cs) 4 = cs[4]? := fpS_of Try.underlying26 (by rfl) (by exact Try.underlying25) (by rfl) (by rfl) cs
theorem bld26 {parts : List (Nat × PV)} : buildPV Try.prog 26 parts = bldX [.int .i64 0, .int .i64 0, .int .i64 0, .int .i64 0, .isl [] .exact] [(0, 1), (1, 1), (2, 1), (3, 1), (4, 1)] parts := bldX_of zero26 Try.underlying26 (by kernel_rfl) (by kernel_rfl) parts
theorem lda27 {σ : Sg} {id off : Nat} : loadPV Try.prog σ 27 (.ptr id off) = ldA 5 σ id off := ldA_of Try.underlying27 rfl cells27
theorem ela27 {σ : Sg} {es i off : Nat} {l : List PV} : loadPV Try.prog σ 27 (.eptr es l i off) = elA 5 l i off := elA_of Try.underlying27 rfl cells27
theorem sto27 {σ : Sg} {id off : Nat} {p : PV} : storePV Try.prog σ 27 (.ptr id off) p = stX 5 σ id off p := stX_of Try.underlying27 cells27 p
theorem fa27_0 {id off : Nat} : fieldAddrPV Try.prog 27 (.ptr id off) 0 = some (.ptr id (off + 0)) := fa1_of Try.underlying27 (by rfl) (by exact Try.underlying3) (by exact cells3) (by rfl) (by rfl)
theorem fae27_0 {es i off : Nat} {l : List PV} : fieldAddrPV Try.prog 27 (.eptr es l i off) 0 = some (.eptr es l i (off + 0)) := fa2_of Try.underlying27 (by rfl) (by exact Try.underlying3) (by exact cells3) (by rfl) (by rfl)
theorem fp27_0 {cs : List PV} : fieldPV Try.prog 27 (.agg cs) 0 = cs[0]? := fpS_of Try.underlying27 (by rfl) (by exact Try.underlying3) (by rfl) (by rfl) cs
theorem fa27_1 {id off : Nat} : fieldAddrPV Try.prog 27 (.ptr id off) 1 = some (.ptr id (off + 1)) := fa1_of Try.underlying27 (by rfl) (by exact Try.underlying3) (by exact cells3) (by rfl) (by rfl)
theorem fae27_1 {es i off : Nat} {l : List PV} : fieldAddrPV Try.prog 27 (.eptr es l i off) 1 = some (.eptr es l i (off + 1)) := fa2_of Try.underlying27 (by rfl) (by exact Try.underlying3) (by exact cells3) (by rfl) (by rfl)
theorem fp27_1 {cs : List PV} : fieldPV Try.prog 27 (.agg cs) 1 = cs[1]? := fpS_of Try.underlying27 (by rfl) (by exact Try.underlying3) (by rfl) (by rfl) cs
theorem fa27_2 {id off : Nat} : fieldAddrPV Try.prog 27 (.ptr id off) 2 = some (.ptr id (off + 2)) := fa1_of Try.underlying27 (by rfl) (by exact Try.underlying3) (by exact cells3) (by rfl) (by rfl)
theorem fae27_2 {es i off : Nat} {l : List PV} : fieldAddrPV Try.prog 27 (.eptr es l i off) 2 = some (.eptr es l i (off + 2)) := fa2_of Try.underlying27 (by rfl) (by exact Try.underlying3) (by exact cells3) (by rfl) (by rfl)
theorem fp27_2 {cs : List PV} : fieldPV Try.prog 27 (.agg cs) 2 = cs[2]? := fpS_of Try.underlying27 (by rfl) (by exact Try.underlying3) (by rfl) (by rfl) cs
theorem fa27_3 {id off : Nat} : fieldAddrPV Try.prog 27 (.ptr id off) 3 = some (.ptr id (off + 3)) := fa1_of Try.underlying27 (by rfl) (by exact Try.underlying3) (by exact cells3) (by rfl) (by rfl)
theorem fae27_3 {es i off : Nat} {l : List PV} : fieldAddrPV Try.prog 27 (.eptr es l i off) 3 = some (.eptr es l i (off + 3)) := fa2_of Try.underlying27 (by rfl) (by exact Try.underlying3) (by exact cells3) (by rfl) (by rfl)
theorem fp27_3 {cs : List PV} : fieldPV Try.prog 27 (.agg cs) 3 = cs[3]? := fpS_of Try.underlying27 (by rfl) (by exact Try.underlying3) (by rfl) (by rfl) cs
theorem fa27_4 {id off : Nat} : fieldAddrPV Try.prog 27 (.ptr id off) 4 = some (.ptr id (off + 4)) := fa1_of Try.underlying27 (by rfl) (by exact Try.underlying25) (by exact cells25) (by rfl) (by rfl)
theorem fae27_4 {es i off : Nat} {l : List PV} : fieldAddrPV Try.prog 27 (.eptr es l i off) 4 = some (.eptr es l i (off + 4)) := fa2_of Try.underlying27 (by rfl) (by exact Try.underlying25) (by exact cells25) (by rfl) (by rfl)
theorem fp27_4 {cs : List PV} : fieldPV Try.prog 27 (.agg cs) 4 = cs[4]? := fpS_of Try.underlying27 (by rfl) (by exact Try.underlying25) (by rfl) (by rfl) cs
theorem bld27 {parts : List (Nat × PV)} : buildPV Try.prog 27 parts = bldX [.int .i64 0, .int .i64 0, .int .i64 0, .int .i64 0, .isl [] .exact] [(0, 1), (1, 1), (2, 1), (3, 1), (4, 1)] parts := bldX_of zero27 Try.underlying27 (by kernel_rfl) (by kernel_rfl) parts
theorem lda29 {σ : Sg} {id off : Nat} : loadPV Try.prog σ 29 (.ptr id off) = ldS σ id off := ldS_of Try.underlying29 rfl
theorem ela29 {σ : Sg} {es i off : Nat} {l : List PV} : loadPV Try.prog σ 29 (.eptr es l i off) = elS l i off := elS_of Try.underlying29 rfl
theorem sto29 {σ : Sg} {id off : Nat} {p : PV} : storePV Try.prog σ 29 (.ptr id off) p = stX 1 σ id off p := stX_of Try.underlying29 cells29 p
theorem ia29 {l : List PV} {own : Own} {k : IntKind} {i : Int} : indexAddrPV Try.prog 29 (.isl l own) (.int k i) = iaX 6 l i := iaX_of Try.underlying29 Try.underlying38 cells38 k i
theorem iam29 {id off len : Nat} {k : IntKind} {i : Int} : indexAddrPV Try.prog 29 (.msl id off len) (.int k i) = iaM 6 id off len i := iaM_of Try.underlying29 Try.underlying38 cells38 k len i
theorem len29 {l : List PV} {own : Own} : lenPV Try.prog 29 (.isl l own) = some (.int .i64 l.length) := len_of Try.underlying29
theorem lenm29 {id off n : Nat} : lenPV Try.prog 29 (.msl id off n) = some (.int .i64 n) := lenM_of Try.underlying29 n
theorem bs29 {len : Nat} {parts : List (Nat × PV)} : buildSlicePV Try.prog 29 len parts = bsX 6 len parts := bsX_of Try.underlying29 Try.underlying38 cells38 zero38 len parts
theorem app29 {σ : Sg} {l m : List PV} {own own' : Own} : appendPV Try.prog σ 29 29 (.isl l own) (.isl m own') = appX 6 48 σ l own m := appX_of Try.underlying29 Try.underlying38 cells38 bytes38 (by decide) (by decide) zero38 rfl
theorem lda32 {σ : Sg} {id off : Nat} : loadPV Try.prog σ 32 (.ptr id off) = ldS σ id off := ldS_of Try.underlying32 rfl
theorem ela32 {σ : Sg} {es i off : Nat} {l : List PV} : loadPV Try.prog σ 32 (.eptr es l i off) = elS l i off := elS_of Try.underlying32 rfl
theorem sto32 {σ : Sg} {id off : Nat} {p : PV} : storePV Try.prog σ 32 (.ptr id off) p = stX 1 σ id off p := stX_of Try.underlying32 cells32 p
theorem ia32 {l : List PV} {own : Own} {k : IntKind} {i : Int} : indexAddrPV Try.prog 32 (.isl l own) (.int k i) = iaX 5 l i := iaX_of Try.underlying32 Try.underlying40 cells40 k i
theorem iam32 {id off len : Nat} {k : IntKind} {i : Int} : indexAddrPV Try.prog 32 (.msl id off len) (.int k i) = iaM 5 id off len i := iaM_of Try.underlying32 Try.underlying40 cells40 k len i
theorem len32 {l : List PV} {own : Own} : lenPV Try.prog 32 (.isl l own) = some (.int .i64 l.length) := len_of Try.underlying32
theorem lenm32 {id off n : Nat} : lenPV Try.prog 32 (.msl id off n) = some (.int .i64 n) := lenM_of Try.underlying32 n
theorem bs32 {len : Nat} {parts : List (Nat × PV)} : buildSlicePV Try.prog 32 len parts = bsX 5 len parts := bsX_of Try.underlying32 Try.underlying40 cells40 zero40 len parts
theorem app32 {σ : Sg} {l m : List PV} {own own' : Own} : appendPV Try.prog σ 32 32 (.isl l own) (.isl m own') = appX 5 120 σ l own m := appX_of Try.underlying32 Try.underlying40 cells40 bytes40 (by decide) (by decide) zero40 rfl
theorem lda33 {σ : Sg} {id off : Nat} : loadPV Try.prog σ 33 (.ptr id off) = ldS σ id off := ldS_of Try.underlying33 rfl
theorem ela33 {σ : Sg} {es i off : Nat} {l : List PV} : loadPV Try.prog σ 33 (.eptr es l i off) = elS l i off := elS_of Try.underlying33 rfl
theorem sto33 {σ : Sg} {id off : Nat} {p : PV} : storePV Try.prog σ 33 (.ptr id off) p = stX 1 σ id off p := stX_of Try.underlying33 cells33 p
theorem lda36 {σ : Sg} {id off : Nat} : loadPV Try.prog σ 36 (.ptr id off) = ldS σ id off := ldS_of Try.underlying36 rfl
theorem ela36 {σ : Sg} {es i off : Nat} {l : List PV} : loadPV Try.prog σ 36 (.eptr es l i off) = elS l i off := elS_of Try.underlying36 rfl
theorem sto36 {σ : Sg} {id off : Nat} {p : PV} : storePV Try.prog σ 36 (.ptr id off) p = stX 1 σ id off p := stX_of Try.underlying36 cells36 p
theorem ia36 {l : List PV} {own : Own} {k : IntKind} {i : Int} : indexAddrPV Try.prog 36 (.isl l own) (.int k i) = iaX 1 l i := iaX_of Try.underlying36 Try.underlying4 cells4 k i
theorem iam36 {id off len : Nat} {k : IntKind} {i : Int} : indexAddrPV Try.prog 36 (.msl id off len) (.int k i) = iaM 1 id off len i := iaM_of Try.underlying36 Try.underlying4 cells4 k len i
theorem len36 {l : List PV} {own : Own} : lenPV Try.prog 36 (.isl l own) = some (.int .i64 l.length) := len_of Try.underlying36
theorem lenm36 {id off n : Nat} : lenPV Try.prog 36 (.msl id off n) = some (.int .i64 n) := lenM_of Try.underlying36 n
theorem bs36 {len : Nat} {parts : List (Nat × PV)} : buildSlicePV Try.prog 36 len parts = bsX 1 len parts := bsX_of Try.underlying36 Try.underlying4 cells4 zero4 len parts
theorem app36 {σ : Sg} {l m : List PV} {own own' : Own} : appendPV Try.prog σ 36 36 (.isl l own) (.isl m own') = appX 1 1 σ l own m := appX_of Try.underlying36 Try.underlying4 cells4 bytes4 (by decide) (by decide) zero4 rfl
theorem lda37 {σ : Sg} {id off : Nat} : loadPV Try.prog σ 37 (.ptr id off) = ldA 6 σ id off := ldA_of Try.underlying37 rfl cells37
theorem ela37 {σ : Sg} {es i off : Nat} {l : List PV} : loadPV Try.prog σ 37 (.eptr es l i off) = elA 6 l i off := elA_of Try.underlying37 rfl cells37
theorem sto37 {σ : Sg} {id off : Nat} {p : PV} : storePV Try.prog σ 37 (.ptr id off) p = stX 6 σ id off p := stX_of Try.underlying37 cells37 p
theorem fa37_0 {id off : Nat} : fieldAddrPV Try.prog 37 (.ptr id off) 0 = some (.ptr id (off + 0)) := fa1_of Try.underlying37 (by rfl) (by exact Try.underlying3) (by exact cells3) (by rfl) (by rfl)
theorem fae37_0 {es i off : Nat} {l : List PV} : fieldAddrPV Try.prog 37 (.eptr es l i off) 0 = some (.eptr es l i (off + 0)) := fa2_of Try.underlying37 (by rfl) (by exact Try.underlying3) (by exact cells3) (by rfl) (by rfl)
theorem fp37_0 {cs : List PV} : fieldPV Try.prog 37 (.agg cs) 0 = cs[0]? := fpS_of Try.underlying37 (by rfl) (by exact Try.underlying3) (by rfl) (by rfl) cs
theorem fa37_1 {id off : Nat} : fieldAddrPV Try.prog 37 (.ptr id off) 1 = some (.ptr id (off + 1)) := fa1_of Try.underlying37 (by rfl) (by exact Try.underlying3) (by exact cells3) (by rfl) (by rfl)
theorem fae37_1 {es i off : Nat} {l : List PV} : fieldAddrPV Try.prog 37 (.eptr es l i off) 1 = some (.eptr es l i (off + 1)) := fa2_of Try.underlying37 (by rfl) (by exact Try.underlying3) (by exact cells3) (by rfl) (by rfl)
theorem fp37_1 {cs : List PV} : fieldPV Try.prog 37 (.agg cs) 1 = cs[1]? := fpS_of Try.underlying37 (by rfl) (by exact Try.underlying3) (by rfl) (by rfl) cs
theorem fa37_2 {id off : Nat} : fieldAddrPV Try.prog 37 (.ptr id off) 2 = some (.ptr id (off + 2)) := fa1_of Try.underlying37 (by rfl) (by exact Try.underlying3) (by exact cells3) (by rfl) (by rfl)
theorem fae37_2 {es i off : Nat} {l : List PV} : fieldAddrPV Try.prog 37 (.eptr es l i off) 2 = some (.eptr es l i (off + 2)) := fa2_of Try.underlying37 (by rfl) (by exact Try.underlying3) (by exact cells3) (by rfl) (by rfl)
theorem fp37_2 {cs : List PV} : fieldPV Try.prog 37 (.agg cs) 2 = cs[2]? := fpS_of Try.underlying37 (by rfl) (by exact Try.underlying3) (by rfl) (by rfl) cs
theorem fa37_3 {id off : Nat} : fieldAddrPV Try.prog 37 (.ptr id off) 3 = some (.ptr id (off + 3)) := fa1_of Try.underlying37 (by rfl) (by exact Try.underlying3) (by exact cells3) (by rfl) (by rfl)
theorem fae37_3 {es i off : Nat} {l : List PV} : fieldAddrPV Try.prog 37 (.eptr es l i off) 3 = some (.eptr es l i (off + 3)) := fa2_of Try.underlying37 (by rfl) (by exact Try.underlying3) (by exact cells3) (by rfl) (by rfl)
theorem fp37_3 {cs : List PV} : fieldPV Try.prog 37 (.agg cs) 3 = cs[3]? := fpS_of Try.underlying37 (by rfl) (by exact Try.underlying3) (by rfl) (by rfl) cs
theorem fa37_4 {id off : Nat} : fieldAddrPV Try.prog 37 (.ptr id off) 4 = some (.ptr id (off + 4)) := fa1_of Try.underlying37 (by rfl) (by exact Try.underlying3) (by exact cells3) (by rfl) (by rfl)
theorem fae37_4 {es i off : Nat} {l : List PV} : fieldAddrPV Try.prog 37 (.eptr es l i off) 4 = some (.eptr es l i (off + 4)) := fa2_of Try.underlying37 (by rfl) (by exact Try.underlying3) (by exact cells3) (by rfl) (by rfl)
theorem fp37_4 {cs : List PV} : fieldPV Try.prog 37 (.agg cs) 4 = cs[4]? := fpS_of Try.underlying37 (by rfl) (by exact Try.underlying3) (by rfl) (by rfl) cs
theorem fa37_5 {id off : Nat} : fieldAddrPV Try.prog 37 (.ptr id off) 5 = some (.ptr id (off + 5)) := fa1_of Try.underlying37 (by rfl) (by exact Try.underlying3) (by exact cells3) (by rfl) (by rfl)
theorem fae37_5 {es i off : Nat} {l : List PV} : fieldAddrPV Try.prog 37 (.eptr es l i off) 5 = some (.eptr es l i (off + 5)) := fa2_of Try.underlying37 (by rfl) (by exact Try.underlying3) (by exact cells3) (by rfl) (by rfl)
theorem fp37_5 {cs : List PV} : fieldPV Try.prog 37 (.agg cs) 5 = cs[5]? := fpS_of Try.underlying37 (by rfl) (by exact Try.underlying3) (by rfl) (by rfl) cs
theorem eqs37 {a0 a1 a2 a3 a4 a5 b0 b1 b2 b3 b4 b5 : Int} : eqPV Try.prog 37 (.agg [.int .i64 a0, .int .i64 a1, .int .i64 a2, .int .i64 a3, .int .i64 a4, .int .i64 a5]) (.agg [.int .i64 b0, .int .i64 b1, .int .i64 b2, .int .i64 b3, .int .i64 b4, .int .i64 b5]) = some ((a0 == b0) && ((a1 == b1) && ((a2 == b2) && ((a3 == b3) && ((a4 == b4) && ((a5 == b5) && true)))))) := by kernel_rfl
theorem bld37 {parts : List (Nat × PV)} : buildPV Try.prog 37 parts = bldX [.int .i64 0, .int .i64 0, .int .i64 0, .int .i64 0, .int .i64 0, .int .i64 0] [(0, 1), (1, 1), (2, 1), (3, 1), (4, 1), (5, 1)] parts := bldX_of zero37 Try.underlying37 (by kernel_rfl) (by kernel_rfl) parts
theorem lda38 {σ : Sg} {id off : Nat} : loadPV Try.prog σ 38 (.ptr id off) = ldA 6 σ id off := ldA_of Try.underlying38 rfl cells38
theorem ela38 {σ : Sg} {es i off : Nat} {l : List PV} : loadPV Try.prog σ 38 (.eptr es l i off) = elA 6 l i off := elA_of Try.underlying38 rfl cells38
theorem sto38 {σ : Sg} {id off : Nat} {p : PV} : storePV Try.prog σ 38 (.ptr id off) p = stX 6 σ id off p := stX_of Try.underlying38 cells38 p
theorem fa38_0 {id off : Nat} : fieldAddrPV Try.prog 38 (.ptr id off) 0 = some (.ptr id (off + 0)) := fa1_of Try.underlying38 (by rfl) (by exact Try.underlying3) (by exact cells3) (by rfl) (by rfl)
theorem fae38_0 {es i off : Nat} {l : List PV} : fieldAddrPV Try.prog 38 (.eptr es l i off) 0 = some (.eptr es l i (off + 0)) := fa2_of Try.underlying38 (by rfl) (by exact Try.underlying3) (by exact cells3) (by rfl) (by rfl)
theorem fp38_0 {cs : List PV} : fieldPV Try.prog 38 (.agg cs) 0 = cs[0]? := fpS_of Try.underlying38 (by rfl) (by exact Try.underlying3) (by rfl) (by rfl) cs
theorem fa38_1 {id off : Nat} : fieldAddrPV Try.prog 38 (.ptr id off) 1 = some (.ptr id (off + 1)) := fa1_of Try.underlying38 (by rfl) (by exact Try.underlying3) (by exact cells3) (by rfl) (by rfl)
theorem fae38_1 {es i off : Nat} {l : List PV} : fieldAddrPV Try.prog 38 (.eptr es l i off) 1 = some (.eptr es l i (off + 1)) := fa2_of Try.underlying38 (by rfl) (by exact Try.underlying3) (by exact cells3) (by rfl) (by rfl)
theorem fp38_1 {cs : List PV} : fieldPV Try.prog 38 (.agg cs) 1 = cs[1]? := fpS_of Try.underlying38 (by rfl) (by exact Try.underlying3) (by rfl) (by rfl) cs
theorem fa38_2 {id off : Nat} : fieldAddrPV Try.prog 38 (.ptr id off) 2 = some (.ptr id (off + 2)) := fa1_of Try.underlying38 (by rfl) (by exact Try.underlying3) (by exact cells3) (by rfl) (by rfl)
theorem fae38_2 {es i off : Nat} {l : List PV} : fieldAddrPV Try.prog 38 (.eptr es l i off) 2 = some (.eptr es l i (off + 2)) := fa2_of Try.underlying38 (by rfl) (by exact Try.underlying3) (by exact cells3) (by rfl) (by rfl)
theorem fp38_2 {cs : List PV} : fieldPV Try.prog 38 (.agg cs) 2 = cs[2]? := fpS_of Try.underlying38 (by rfl) (by exact Try.underlying3) (by rfl) (by rfl) cs
theorem fa38_3 {id off : Nat} : fieldAddrPV Try.prog 38 (.ptr id off) 3 = some (.ptr id (off + 3)) := fa1_of Try.underlying38 (by rfl) (by exact Try.underlying3) (by exact cells3) (by rfl) (by rfl)
theorem fae38_3 {es i off : Nat} {l : List PV} : fieldAddrPV Try.prog 38 (.eptr es l i off) 3 = some (.eptr es l i (off + 3)) := fa2_of Try.underlying38 (by rfl) (by exact Try.underlying3) (by exact cells3) (by rfl) (by rfl)
theorem fp38_3 {cs : List PV} : fieldPV Try.prog 38 (.agg cs) 3 = cs[3]? := fpS_of Try.underlying38 (by rfl) (by exact Try.underlying3) (by rfl) (by rfl) cs
theorem fa38_4 {id off : Nat} : fieldAddrPV Try.prog 38 (.ptr id off) 4 = some (.ptr id (off + 4)) := fa1_of Try.underlying38 (by rfl) (by exact Try.underlying3) (by exact cells3) (by rfl) (by rfl)
theorem fae38_4 {es i off : Nat} {l : List PV} : fieldAddrPV Try.prog 38 (.eptr es l i off) 4 = some (.eptr es l i (off + 4)) := fa2_of Try.underlying38 (by rfl) (by exact Try.underlying3) (by exact cells3) (by rfl) (by rfl)
theorem fp38_4 {cs : List PV} : fieldPV Try.prog 38 (.agg cs) 4 = cs[4]? := fpS_of Try.underlying38 (by rfl) (by exact Try.underlying3) (by rfl) (by rfl) cs
theorem fa38_5 {id off : Nat} : fieldAddrPV Try.prog 38 (.ptr id off) 5 = some (.ptr id (off + 5)) := fa1_of Try.underlying38 (by rfl) (by exact Try.underlying3) (by exact cells3) (by rfl) (by rfl)
theorem fae38_5 {es i off : Nat} {l : List PV} : fieldAddrPV Try.prog 38 (.eptr es l i off) 5 = some (.eptr es l i (off + 5)) := fa2_of Try.underlying38 (by rfl) (by exact Try.underlying3) (by exact cells3) (by rfl) (by rfl)
theorem fp38_5 {cs : List PV} : fieldPV Try.prog 38 (.agg cs) 5 = cs[5]? := fpS_of Try.underlying38 (by rfl) (by exact Try.underlying3) (by rfl) (by rfl) cs
theorem eqs38 {a0 a1 a2 a3 a4 a5 b0 b1 b2 b3 b4 b5 : Int} : eqPV Try.prog 38 (.agg [.int .i64 a0, .int .i64 a1, .int .i64 a2, .int .i64 a3, .int .i64 a4, .int .i64 a5]) (.agg [.int .i64 b0, .int .i64 b1, .int .i64 b2, .int .i64 b3, .int .i64 b4, .int .i64 b5]) = some ((a0 == b0) && ((a1 == b1) && ((a2 == b2) && ((a3 == b3) && ((a4 == b4) && ((a5 == b5) && true)))))) := by kernel_rfl
theorem bld38 {parts : List (Nat × PV)} : buildPV Try.prog 38 parts = bldX [.int .i64 0, .int .i64 0, .int .i64 0, .int .i64 0, .int .i64 0, .int .i64 0] [(0, 1), (1, 1), (2, 1), (3, 1), (4, 1), (5, 1)] parts := bldX_of zero38 Try.underlying38 (by kernel_rfl) (by kernel_rfl) parts
theorem lda39 {σ : Sg} {id off : Nat} : loadPV Try.prog σ 39 (.ptr id off) = ldA 5 σ id off := ldA_of Try.underlying39 rfl cells39
theorem ela39 {σ : Sg} {es i off : Nat} {l : List PV} : loadPV Try.prog σ 39 (.eptr es l i off) = elA 5 l i off := elA_of Try.underlying39 rfl cells39
theorem sto39 {σ : Sg} {id off : Nat} {p : PV} : storePV Try.prog σ 39 (.ptr id off) p = stX 5 σ id off p := stX_of Try.underlying39 cells39 p
theorem fa39_0 {id off : Nat} : fieldAddrPV Try.prog 39 (.ptr id off) 0 = some (.ptr id (off + 0)) := fa1_of Try.underlying39 (by rfl) (by exact Try.underlying22) (by exact cells22) (by rfl) (by rfl)
theorem fae39_0 {es i off : Nat} {l : List PV} : fieldAddrPV Try.prog 39 (.eptr es l i off) 0 = some (.eptr es l i (off + 0)) := fa2_of Try.underlying39 (by rfl) (by exact Try.underlying22) (by exact cells22) (by rfl) (by rfl)
theorem fp39_0 {cs : List PV} : fieldPV Try.prog 39 (.agg cs) 0 = cs[0]? := fpS_of Try.underlying39 (by rfl) (by exact Try.underlying22) (by rfl) (by rfl) cs
theorem fa39_1 {id off : Nat} : fieldAddrPV Try.prog 39 (.ptr id off) 1 = some (.ptr id (off + 1)) := fa1_of Try.underlying39 (by rfl) (by exact Try.underlying22) (by exact cells22) (by rfl) (by rfl)
theorem fae39_1 {es i off : Nat} {l : List PV} : fieldAddrPV Try.prog 39 (.eptr es l i off) 1 = some (.eptr es l i (off + 1)) := fa2_of Try.underlying39 (by rfl) (by exact Try.underlying22) (by exact cells22) (by rfl) (by rfl)
theorem fp39_1 {cs : List PV} : fieldPV Try.prog 39 (.agg cs) 1 = cs[1]? := fpS_of Try.underlying39 (by rfl) (by exact Try.underlying22) (by rfl) (by rfl) cs
theorem fa39_2 {id off : Nat} : fieldAddrPV Try.prog 39 (.ptr id off) 2 = some (.ptr id (off + 2)) := fa1_of Try.underlying39 (by rfl) (by exact Try.underlying22) (by exact cells22) (by rfl) (by rfl)
theorem fae39_2 {es i off : Nat} {l : List PV} : fieldAddrPV Try.prog 39 (.eptr es l i off) 2 = some (.eptr es l i (off + 2)) := fa2_of Try.underlying39 (by rfl) (by exact Try.underlying22) (by exact cells22) (by rfl) (by rfl)
theorem fp39_2 {cs : List PV} : fieldPV Try.prog 39 (.agg cs) 2 = cs[2]? := fpS_of Try.underlying39 (by rfl) (by exact Try.underlying22) (by rfl) (by rfl) cs
theorem fa39_3 {id off : Nat} : fieldAddrPV Try.prog 39 (.ptr id off) 3 = some (.ptr id (off + 3)) := fa1_of Try.underlying39 (by rfl) (by exact Try.underlying22) (by exact cells22) (by rfl) (by rfl)
theorem fae39_3 {es i off : Nat} {l : List PV} : fieldAddrPV Try.prog 39 (.eptr es l i off) 3 = some (.eptr es l i (off + 3)) := fa2_of Try.underlying39 (by rfl) (by exact Try.underlying22) (by exact cells22) (by rfl) (by rfl)
theorem fp39_3 {cs : List PV} : fieldPV Try.prog 39 (.agg cs) 3 = cs[3]? := fpS_of Try.underlying39 (by rfl) (by exact Try.underlying22) (by rfl) (by rfl) cs
theorem fa39_4 {id off : Nat} : fieldAddrPV Try.prog 39 (.ptr id off) 4 = some (.ptr id (off + 4)) := fa1_of Try.underlying39 (by rfl) (by exact Try.underlying22) (by exact cells22) (by rfl) (by rfl)
theorem fae39_4 {es i off : Nat} {l : List PV} : fieldAddrPV Try.prog 39 (.eptr es l i off) 4 = some (.eptr es l i (off + 4)) := fa2_of Try.underlying39 (by rfl) (by exact Try.underlying22) (by exact cells22) (by rfl) (by rfl)
theorem fp39_4 {cs : List PV} : fieldPV Try.prog 39 (.agg cs) 4 = cs[4]? := fpS_of Try.underlying39 (by rfl) (by exact Try.underlying22) (by rfl) (by rfl) cs
theorem bld39 {parts : List (Nat × PV)} : buildPV Try.prog 39 parts = bldX [.isl [] .exact, .isl [] .exact, .isl [] .exact, .isl [] .exact, .isl [] .exact] [(0, 1), (1, 1), (2, 1), (3, 1), (4, 1)] parts := bldX_of zero39 Try.underlying39 (by kernel_rfl) (by kernel_rfl) parts
theorem lda40 {σ : Sg} {id off : Nat} : loadPV Try.prog σ 40 (.ptr id off) = ldA 5 σ id off := ldA_of Try.underlying40 rfl cells40
theorem ela40 {σ : Sg} {es i off : Nat} {l : List PV} : loadPV Try.prog σ 40 (.eptr es l i off) = elA 5 l i off := elA_of Try.underlying40 rfl cells40
theorem sto40 {σ : Sg} {id off : Nat} {p : PV} : storePV Try.prog σ 40 (.ptr id off) p = stX 5 σ id off p := stX_of Try.underlying40 cells40 p
theorem fa40_0 {id off : Nat} : fieldAddrPV Try.prog 40 (.ptr id off) 0 = some (.ptr id (off + 0)) := fa1_of Try.underlying40 (by rfl) (by exact Try.underlying22) (by exact cells22) (by rfl) (by rfl)
theorem fae40_0 {es i off : Nat} {l : List PV} : fieldAddrPV Try.prog 40 (.eptr es l i off) 0 = some (.eptr es l i (off + 0)) := fa2_of Try.underlying40 (by rfl) (by exact Try.underlying22) (by exact cells22) (by rfl) (by rfl)
theorem fp40_0 {cs : List PV} : fieldPV Try.prog 40 (.agg cs) 0 = cs[0]? := fpS_of Try.underlying40 (by rfl) (by exact Try.underlying22) (by rfl) (by rfl) cs
theorem fa40_1 {id off : Nat} : fieldAddrPV Try.prog 40 (.ptr id off) 1 = some (.ptr id (off + 1)) := fa1_of Try.underlying40 (by rfl) (by exact Try.underlying22) (by exact cells22) (by rfl) (by rfl)
theorem fae40_1 {es i off : Nat} {l : List PV} : fieldAddrPV Try.prog 40 (.eptr es l i off) 1 = some (.eptr es l i (off + 1)) := fa2_of Try.underlying40 (by rfl) (by exact Try.underlying22) (by exact cells22) (by rfl) (by rfl)
theorem fp40_1 {cs : List PV} : fieldPV Try.prog 40 (.agg cs) 1 = cs[1]? := fpS_of Try.underlying40 (by rfl) (by exact Try.underlying22) (by rfl) (by rfl) cs
theorem fa40_2 {id off : Nat} : fieldAddrPV Try.prog 40 (.ptr id off) 2 = some (.ptr id (off + 2)) := fa1_of Try.underlying40 (by rfl) (by exact Try.underlying22) (by exact cells22) (by rfl) (by rfl)
theorem fae40_2 {es i off : Nat} {l : List PV} : fieldAddrPV Try.prog 40 (.eptr es l i off) 2 = some (.eptr es l i (off + 2)) := fa2_of Try.underlying40 (by rfl) (by exact Try.underlying22) (by exact cells22) (by rfl) (by rfl)
theorem fp40_2 {cs : List PV} : fieldPV Try.prog 40 (.agg cs) 2 = cs[2]? := fpS_of Try.underlying40 (by rfl) (by exact Try.underlying22) (by rfl) (by rfl) cs
theorem fa40_3 {id off : Nat} : fieldAddrPV Try.prog 40 (.ptr id off) 3 = some (.ptr id (off + 3)) := fa1_of Try.underlying40 (by rfl) (by exact Try.underlying22) (by exact cells22) (by rfl) (by rfl)
theorem fae40_3 {es i off : Nat} {l : List PV} : fieldAddrPV Try.prog 40 (.eptr es l i off) 3 = some (.eptr es l i (off + 3)) := fa2_of Try.underlying40 (by rfl) (by exact Try.underlying22) (by exact cells22) (by rfl) (by rfl)
theorem fp40_3 {cs : List PV} : fieldPV Try.prog 40 (.agg cs) 3 = cs[3]? := fpS_of Try.underlying40 (by rfl) (by exact Try.underlying22) (by rfl) (by rfl) cs
theorem fa40_4 {id off : Nat} : fieldAddrPV Try.prog 40 (.ptr id off) 4 = some (.ptr id (off + 4)) := fa1_of Try.underlying40 (by rfl) (by exact Try.underlying22) (by exact cells22) (by rfl) (by rfl)
theorem fae40_4 {es i off : Nat} {l : List PV} : fieldAddrPV Try.prog 40 (.eptr es l i off) 4 = some (.eptr es l i (off + 4)) := fa2_of Try.underlying40 (by rfl) (by exact Try.underlying22) (by exact cells22) (by rfl) (by rfl)
theorem fp40_4 {cs : List PV} : fieldPV Try.prog 40 (.agg cs) 4 = cs[4]? := fpS_of Try.underlying40 (by rfl) (by exact Try.underlying22) (by rfl) (by rfl) cs
theorem bld40 {parts : List (Nat × PV)} : buildPV Try.prog 40 parts = bldX [.isl [] .exact, .isl [] .exact, .isl [] .exact, .isl [] .exact, .isl [] .exact] [(0, 1), (1, 1), (2, 1), (3, 1), (4, 1)] parts := bldX_of zero40 Try.underlying40 (by kernel_rfl) (by kernel_rfl) parts
theorem lda41 {σ : Sg} {id off : Nat} : loadPV Try.prog σ 41 (.ptr id off) = ldA 3 σ id off := ldA_of Try.underlying41 rfl cells41
theorem ela41 {σ : Sg} {es i off : Nat} {l : List PV} : loadPV Try.prog σ 41 (.eptr es l i off) = elA 3 l i off := elA_of Try.underlying41 rfl cells41
theorem sto41 {σ : Sg} {id off : Nat} {p : PV} : storePV Try.prog σ 41 (.ptr id off) p = stX 3 σ id off p := stX_of Try.underlying41 cells41 p
theorem fa41_0 {id off : Nat} : fieldAddrPV Try.prog 41 (.ptr id off) 0 = some (.ptr id (off + 0)) := fa1_of Try.underlying41 (by rfl) (by exact Try.underlying3) (by exact cells3) (by rfl) (by rfl)
theorem fae41_0 {es i off : Nat} {l : List PV} : fieldAddrPV Try.prog 41 (.eptr es l i off) 0 = some (.eptr es l i (off + 0)) := fa2_of Try.underlying41 (by rfl) (by exact Try.underlying3) (by exact cells3) (by rfl) (by rfl)
theorem fp41_0 {cs : List PV} : fieldPV Try.prog 41 (.agg cs) 0 = cs[0]? := fpS_of Try.underlying41 (by rfl) (by exact Try.underlying3) (by rfl) (by rfl) cs
theorem fa41_1 {id off : Nat} : fieldAddrPV Try.prog 41 (.ptr id off) 1 = some (.ptr id (off + 1)) := fa1_of Try.underlying41 (by rfl) (by exact Try.underlying3) (by exact cells3) (by rfl) (by rfl)
theorem fae41_1 {es i off : Nat} {l : List PV} : fieldAddrPV Try.prog 41 (.eptr es l i off) 1 = some (.eptr es l i (off + 1)) := fa2_of Try.underlying41 (by rfl) (by exact Try.underlying3) (by exact cells3) (by rfl) (by rfl)
theorem fp41_1 {cs : List PV} : fieldPV Try.prog 41 (.agg cs) 1 = cs[1]? := fpS_of Try.underlying41 (by rfl) (by exact Try.underlying3) (by rfl) (by rfl) cs
theorem fa41_2 {id off : Nat} : fieldAddrPV Try.prog 41 (.ptr id off) 2 = some (.ptr id (off + 2)) := fa1_of Try.underlying41 (by rfl) (by exact Try.underlying3) (by exact cells3) (by rfl) (by rfl)
theorem fae41_2 {es i off : Nat} {l : List PV} : fieldAddrPV Try.prog 41 (.eptr es l i off) 2 = some (.eptr es l i (off + 2)) := fa2_of Try.underlying41 (by rfl) (by exact Try.underlying3) (by exact cells3) (by rfl) (by rfl)
theorem fp41_2 {cs : List PV} : fieldPV Try.prog 41 (.agg cs) 2 = cs[2]? := fpS_of Try.underlying41 (by rfl) (by exact Try.underlying3) (by rfl) (by rfl) cs
theorem eqs41 {a0 a1 a2 b0 b1 b2 : Int} : eqPV Try.prog 41 (.agg [.int .i64 a0, .int .i64 a1, .int .i64 a2]) (.agg [.int .i64 b0, .int .i64 b1, .int .i64 b2]) = some ((a0 == b0) && ((a1 == b1) && ((a2 == b2) && true))) := by kernel_rfl
theorem bld41 {parts : List (Nat × PV)} : buildPV Try.prog 41 parts = bldX [.int .i64 0, .int .i64 0, .int .i64 0] [(0, 1), (1, 1), (2, 1)] parts := bldX_of zero41 Try.underlying41 (by kernel_rfl) (by kernel_rfl) parts
theorem lda42 {σ : Sg} {id off : Nat} : loadPV Try.prog σ 42 (.ptr id off) = ldA 3 σ id off := ldA_of Try.underlying42 rfl cells42
theorem ela42 {σ : Sg} {es i off : Nat} {l : List PV} : loadPV Try.prog σ 42 (.eptr es l i off) = elA 3 l i off := elA_of Try.underlying42 rfl cells42
theorem sto42 {σ : Sg} {id off : Nat} {p : PV} : storePV Try.prog σ 42 (.ptr id off) p = stX 3 σ id off p := stX_of Try.underlying42 cells42 p
theorem fa42_0 {id off : Nat} : fieldAddrPV Try.prog 42 (.ptr id off) 0 = some (.ptr id (off + 0)) := fa1_of Try.underlying42 (by rfl) (by exact Try.underlying3) (by exact cells3) (by rfl) (by rfl)
theorem fae42_0 {es i off : Nat} {l : List PV} : fieldAddrPV Try.prog 42 (.eptr es l i off) 0 = some (.eptr es l i (off + 0)) := fa2_of Try.underlying42 (by rfl) (by exact Try.underlying3) (by exact cells3) (by rfl) (by rfl)
theorem fp42_0 {cs : List PV} : fieldPV Try.prog 42 (.agg cs) 0 = cs[0]? := fpS_of Try.underlying42 (by rfl) (by exact Try.underlying3) (by rfl) (by rfl) cs
theorem fa42_1 {id off : Nat} : fieldAddrPV Try.prog 42 (.ptr id off) 1 = some (.ptr id (off + 1)) := fa1_of Try.underlying42 (by rfl) (by exact Try.underlying3) (by exact cells3) (by rfl) (by rfl)
theorem fae42_1 {es i off : Nat} {l : List PV} : fieldAddrPV Try.prog 42 (.eptr es l i off) 1 = some (.eptr es l i (off + 1)) := fa2_of Try.underlying42 (by rfl) (by exact Try.underlying3) (by exact cells3) (by rfl) (by rfl)
theorem fp42_1 {cs : List PV} : fieldPV Try.prog 42 (.agg cs) 1 = cs[1]? := fpS_of Try.underlying42 (by rfl) (by exact Try.underlying3) (by rfl) (by rfl) cs
theorem fa42_2 {id off : Nat} : fieldAddrPV Try.prog 42 (.ptr id off) 2 = some (.ptr id (off + 2)) := fa1_of Try.underlying42 (by rfl) (by exact Try.underlying3) (by exact cells3) (by rfl) (by rfl)
theorem fae42_2 {es i off : Nat} {l : List PV} : fieldAddrPV Try.prog 42 (.eptr es l i off) 2 = some (.eptr es l i (off + 2)) := fa2_of Try.underlying42 (by rfl) (by exact Try.underlying3) (by exact cells3) (by rfl) (by rfl)
theorem fp42_2 {cs : List PV} : fieldPV Try.prog 42 (.agg cs) 2 = cs[2]? := fpS_of Try.underlying42 (by rfl) (by exact Try.underlying3) (by rfl) (by rfl) cs
theorem eqs42 {a0 a1 a2 b0 b1 b2 : Int} : eqPV Try.prog 42 (.agg [.int .i64 a0, .int .i64 a1, .int .i64 a2]) (.agg [.int .i64 b0, .int .i64 b1, .int .i64 b2]) = some ((a0 == b0) && ((a1 == b1) && ((a2 == b2) && true))) := by kernel_rfl
theorem bld42 {parts : List (Nat × PV)} : buildPV Try.prog 42 parts = bldX [.int .i64 0, .int .i64 0, .int .i64 0] [(0, 1), (1, 1), (2, 1)] parts := bldX_of zero42 Try.underlying42 (by kernel_rfl) (by kernel_rfl) parts
theorem lda48 {σ : Sg} {id off : Nat} : loadPV Try.prog σ 48 (.ptr id off) = ldS σ id off := ldS_of Try.underlying48 rfl
theorem ela48 {σ : Sg} {es i off : Nat} {l : List PV} : loadPV Try.prog σ 48 (.eptr es l i off) = elS l i off := elS_of Try.underlying48 rfl
theorem sto48 {σ : Sg} {id off : Nat} {p : PV} : storePV Try.prog σ 48 (.ptr id off) p = stX 1 σ id off p := stX_of Try.underlying48 cells48 p
theorem ia48 {l : List PV} {own : Own} {k : IntKind} {i : Int} : indexAddrPV Try.prog 48 (.isl l own) (.int k i) = iaX 1 l i := iaX_of Try.underlying48 Try.underlying22 cells22 k i
theorem iam48 {id off len : Nat} {k : IntKind} {i : Int} : indexAddrPV Try.prog 48 (.msl id off len) (.int k i) = iaM 1 id off len i := iaM_of Try.underlying48 Try.underlying22 cells22 k len i
theorem len48 {l : List PV} {own : Own} : lenPV Try.prog 48 (.isl l own) = some (.int .i64 l.length) := len_of Try.underlying48
theorem lenm48 {id off n : Nat} : lenPV Try.prog 48 (.msl id off n) = some (.int .i64 n) := lenM_of Try.underlying48 n
theorem bs48 {len : Nat} {parts : List (Nat × PV)} : buildSlicePV Try.prog 48 len parts = bsX 1 len parts := bsX_of Try.underlying48 Try.underlying22 cells22 zero22 len parts
theorem app48 {σ : Sg} {l m : List PV} {own own' : Own} : appendPV Try.prog σ 48 48 (.isl l own) (.isl m own') = appX 1 24 σ l own m := appX_of Try.underlying48 Try.underlying22 cells22 bytes22 (by decide) (by decide) zero22 rfl
theorem lda60 {σ : Sg} {id off : Nat} : loadPV Try.prog σ 60 (.ptr id off) = ldS σ id off := ldS_of Try.underlying60 rfl
theorem ela60 {σ : Sg} {es i off : Nat} {l : List PV} : loadPV Try.prog σ 60 (.eptr es l i off) = elS l i off := elS_of Try.underlying60 rfl
theorem sto60 {σ : Sg} {id off : Nat} {p : PV} : storePV Try.prog σ 60 (.ptr id off) p = stX 1 σ id off p := stX_of Try.underlying60 cells60 p
theorem ia60 {l : List PV} {own : Own} {k : IntKind} {i : Int} : indexAddrPV Try.prog 60 (.isl l own) (.int k i) = iaX 1 l i := iaX_of Try.underlying60 Try.underlying48 cells48 k i
theorem iam60 {id off len : Nat} {k : IntKind} {i : Int} : indexAddrPV Try.prog 60 (.msl id off len) (.int k i) = iaM 1 id off len i := iaM_of Try.underlying60 Try.underlying48 cells48 k len i
theorem len60 {l : List PV} {own : Own} : lenPV Try.prog 60 (.isl l own) = some (.int .i64 l.length) := len_of Try.underlying60
theorem lenm60 {id off n : Nat} : lenPV Try.prog 60 (.msl id off n) = some (.int .i64 n) := lenM_of Try.underlying60 n
theorem bs60 {len : Nat} {parts : List (Nat × PV)} : buildSlicePV Try.prog 60 len parts = bsX 1 len parts := bsX_of Try.underlying60 Try.underlying48 cells48 zero48 len parts
theorem app60 {σ : Sg} {l m : List PV} {own own' : Own} : appendPV Try.prog σ 60 60 (.isl l own) (.isl m own') = appX 1 24 σ l own m := appX_of Try.underlying60 Try.underlying48 cells48 bytes48 (by decide) (by decide) zero48 rfl
theorem lda67 {σ : Sg} {id off : Nat} : loadPV Try.prog σ 67 (.ptr id off) = ldS σ id off := ldS_of Try.underlying67 rfl
theorem ela67 {σ : Sg} {es i off : Nat} {l : List PV} : loadPV Try.prog σ 67 (.eptr es l i off) = elS l i off := elS_of Try.underlying67 rfl
theorem sto67 {σ : Sg} {id off : Nat} {p : PV} : storePV Try.prog σ 67 (.ptr id off) p = stX 1 σ id off p := stX_of Try.underlying67 cells67 p
theorem lda68 {σ : Sg} {id off : Nat} : loadPV Try.prog σ 68 (.ptr id off) = ldA 1 σ id off := ldA_of Try.underlying68 rfl cells68
theorem ela68 {σ : Sg} {es i off : Nat} {l : List PV} : loadPV Try.prog σ 68 (.eptr es l i off) = elA 1 l i off := elA_of Try.underlying68 rfl cells68
theorem sto68 {σ : Sg} {id off : Nat} {p : PV} : storePV Try.prog σ 68 (.ptr id off) p = stX 1 σ id off p := stX_of Try.underlying68 cells68 p
theorem fa68_0 {id off : Nat} : fieldAddrPV Try.prog 68 (.ptr id off) 0 = some (.ptr id (off + 0)) := fa1_of Try.underlying68 (by rfl) (by exact Try.underlying67) (by exact cells67) (by rfl) (by rfl)
theorem fae68_0 {es i off : Nat} {l : List PV} : fieldAddrPV Try.prog 68 (.eptr es l i off) 0 = some (.eptr es l i (off + 0)) := fa2_of Try.underlying68 (by rfl) (by exact Try.underlying67) (by exact cells67) (by rfl) (by rfl)
theorem fp68_0 {cs : List PV} : fieldPV Try.prog 68 (.agg cs) 0 = cs[0]? := fpS_of Try.underlying68 (by rfl) (by exact Try.underlying67) (by rfl) (by rfl) cs
theorem eqs68 {a0 b0 : Int} : eqPV Try.prog 68 (.agg [.int .u64 a0]) (.agg [.int .u64 b0]) = some ((a0 == b0) && true) := by kernel_rfl
theorem bld68 {parts : List (Nat × PV)} : buildPV Try.prog 68 parts = bldX [.int .u64 0] [(0, 1)] parts := bldX_of zero68 Try.underlying68 (by kernel_rfl) (by kernel_rfl) parts
theorem lda69 {σ : Sg} {id off : Nat} : loadPV Try.prog σ 69 (.ptr id off) = ldA 1 σ id off := ldA_of Try.underlying69 rfl cells69
theorem ela69 {σ : Sg} {es i off : Nat} {l : List PV} : loadPV Try.prog σ 69 (.eptr es l i off) = elA 1 l i off := elA_of Try.underlying69 rfl cells69
theorem sto69 {σ : Sg} {id off : Nat} {p : PV} : storePV Try.prog σ 69 (.ptr id off) p = stX 1 σ id off p := stX_of Try.underlying69 cells69 p
theorem fa69_0 {id off : Nat} : fieldAddrPV Try.prog 69 (.ptr id off) 0 = some (.ptr id (off + 0)) := fa1_of Try.underlying69 (by rfl) (by exact Try.underlying67) (by exact cells67) (by rfl) (by rfl)
theorem fae69_0 {es i off : Nat} {l : List PV} : fieldAddrPV Try.prog 69 (.eptr es l i off) 0 = some (.eptr es l i (off + 0)) := fa2_of Try.underlying69 (by rfl) (by exact Try.underlying67) (by exact cells67) (by rfl) (by rfl)
theorem fp69_0 {cs : List PV} : fieldPV Try.prog 69 (.agg cs) 0 = cs[0]? := fpS_of Try.underlying69 (by rfl) (by exact Try.underlying67) (by rfl) (by rfl) cs
theorem eqs69 {a0 b0 : Int} : eqPV Try.prog 69 (.agg [.int .u64 a0]) (.agg [.int .u64 b0]) = some ((a0 == b0) && true) := by kernel_rfl
theorem bld69 {parts : List (Nat × PV)} : buildPV Try.prog 69 parts = bldX [.int .u64 0] [(0, 1)] parts := bldX_of zero69 Try.underlying69 (by kernel_rfl) (by kernel_rfl) parts
theorem lda73 {σ : Sg} {id off : Nat} : loadPV Try.prog σ 73 (.ptr id off) = ldS σ id off := ldS_of Try.underlying73 rfl
theorem ela73 {σ : Sg} {es i off : Nat} {l : List PV} : loadPV Try.prog σ 73 (.eptr es l i off) = elS l i off := elS_of Try.underlying73 rfl
theorem sto73 {σ : Sg} {id off : Nat} {p : PV} : storePV Try.prog σ 73 (.ptr id off) p = stX 1 σ id off p := stX_of Try.underlying73 cells73 p
theorem ia73 {l : List PV} {own : Own} {k : IntKind} {i : Int} : indexAddrPV Try.prog 73 (.isl l own) (.int k i) = iaX 21 l i := iaX_of Try.underlying73 Try.underlying80 cells80 k i
theorem iam73 {id off len : Nat} {k : IntKind} {i : Int} : indexAddrPV Try.prog 73 (.msl id off len) (.int k i) = iaM 21 id off len i := iaM_of Try.underlying73 Try.underlying80 cells80 k len i
theorem len73 {l : List PV} {own : Own} : lenPV Try.prog 73 (.isl l own) = some (.int .i64 l.length) := len_of Try.underlying73
theorem lenm73 {id off n : Nat} : lenPV Try.prog 73 (.msl id off n) = some (.int .i64 n) := lenM_of Try.underlying73 n
theorem bs73 {len : Nat} {parts : List (Nat × PV)} : buildSlicePV Try.prog 73 len parts = bsX 21 len parts := bsX_of Try.underlying73 Try.underlying80 cells80 zero80 len parts
theorem app73 {σ : Sg} {l m : List PV} {own own' : Own} : appendPV Try.prog σ 73 73 (.isl l own) (.isl m own') = appX 21 184 σ l own m := appX_of Try.underlying73 Try.underlying80 cells80 bytes80 (by decide) (by decide) zero80 rfl
theorem lda75 {σ : Sg} {id off : Nat} : loadPV Try.prog σ 75 (.ptr id off) = ldA 8 σ id off := ldA_of Try.underlying75 rfl cells75
theorem ela75 {σ : Sg} {es i off : Nat} {l : List PV} : loadPV Try.prog σ 75 (.eptr es l i off) = elA 8 l i off := elA_of Try.underlying75 rfl cells75
theorem sto75 {σ : Sg} {id off : Nat} {p : PV} : storePV Try.prog σ 75 (.ptr id off) p = stX 8 σ id off p := stX_of Try.underlying75 cells75 p
theorem iar75 {id off : Nat} {k : IntKind} {i : Int} : indexAddrPV Try.prog 75 (.ptr id off) (.int k i) = iaM 1 id off 8 i := iaA_of Try.underlying75 Try.underlying3 cells3 k i
theorem ix75 {cs : List PV} {k : IntKind} {i : Int} : indexPV Try.prog 75 (.agg cs) (.int k i) = if 0 ≤ i ∧ i < (8 : Int) then cs[i.toNat]? else none := ixS_of Try.underlying75 Try.underlying3 rfl cells3 k i
theorem lda76 {σ : Sg} {id off : Nat} : loadPV Try.prog σ 76 (.ptr id off) = ldA 16 σ id off := ldA_of Try.underlying76 rfl cells76
theorem ela76 {σ : Sg} {es i off : Nat} {l : List PV} : loadPV Try.prog σ 76 (.eptr es l i off) = elA 16 l i off := elA_of Try.underlying76 rfl cells76
theorem sto76 {σ : Sg} {id off : Nat} {p : PV} : storePV Try.prog σ 76 (.ptr id off) p = stX 16 σ id off p := stX_of Try.underlying76 cells76 p
theorem fa76_0 {id off : Nat} : fieldAddrPV Try.prog 76 (.ptr id off) 0 = some (.ptr id (off + 0)) := fa1_of Try.underlying76 (by rfl) (by exact Try.underlying75) (by exact cells75) (by rfl) (by rfl)
theorem fae76_0 {es i off : Nat} {l : List PV} : fieldAddrPV Try.prog 76 (.eptr es l i off) 0 = some (.eptr es l i (off + 0)) := fa2_of Try.underlying76 (by rfl) (by exact Try.underlying75) (by exact cells75) (by rfl) (by rfl)
theorem fp76_0 {cs : List PV} : fieldPV Try.prog 76 (.agg cs) 0 = if 0 + 8 ≤ cs.length then some (.agg ((cs.drop 0).take 8)) else none := fpA_of Try.underlying76 (by rfl) (by exact Try.underlying75) (by rfl) (by exact cells75) (by rfl) cs
theorem fa76_1 {id off : Nat} : fieldAddrPV Try.prog 76 (.ptr id off) 1 = some (.ptr id (off + 8)) := fa1_of Try.underlying76 (by rfl) (by exact Try.underlying75) (by exact cells75) (by rfl) (by rfl)
theorem fae76_1 {es i off : Nat} {l : List PV} : fieldAddrPV Try.prog 76 (.eptr es l i off) 1 = some (.eptr es l i (off + 8)) := fa2_of Try.underlying76 (by rfl) (by exact Try.underlying75) (by exact cells75) (by rfl) (by rfl)
theorem fp76_1 {cs : List PV} : fieldPV Try.prog 76 (.agg cs) 1 = if 8 + 8 ≤ cs.length then some (.agg ((cs.drop 8).take 8)) else none := fpA_of Try.underlying76 (by rfl) (by exact Try.underlying75) (by rfl) (by exact cells75) (by rfl) cs
theorem bld76 {parts : List (Nat × PV)} : buildPV Try.prog 76 parts = bldX [.int .i64 0, .int .i64 0, .int .i64 0, .int .i64 0, .int .i64 0, .int .i64 0, .int .i64 0, .int .i64 0, .int .i64 0, .int .i64 0, .int .i64 0, .int .i64 0, .int .i64 0, .int .i64 0, .int .i64 0, .int .i64 0] [(0, 8), (8, 8)] parts := bldX_of zero76 Try.underlying76 (by kernel_rfl) (by kernel_rfl) parts
theorem lda77 {σ : Sg} {id off : Nat} : loadPV Try.prog σ 77 (.ptr id off) = ldA 16 σ id off := ldA_of Try.underlying77 rfl cells77
theorem ela77 {σ : Sg} {es i off : Nat} {l : List PV} : loadPV Try.prog σ 77 (.eptr es l i off) = elA 16 l i off := elA_of Try.underlying77 rfl cells77
theorem sto77 {σ : Sg} {id off : Nat} {p : PV} : storePV Try.prog σ 77 (.ptr id off) p = stX 16 σ id off p := stX_of Try.underlying77 cells77 p
theorem fa77_0 {id off : Nat} : fieldAddrPV Try.prog 77 (.ptr id off) 0 = some (.ptr id (off + 0)) := fa1_of Try.underlying77 (by rfl) (by exact Try.underlying75) (by exact cells75) (by rfl) (by rfl)
theorem fae77_0 {es i off : Nat} {l : List PV} : fieldAddrPV Try.prog 77 (.eptr es l i off) 0 = some (.eptr es l i (off + 0)) := fa2_of Try.underlying77 (by rfl) (by exact Try.underlying75) (by exact cells75) (by rfl) (by rfl)
theorem fp77_0 {cs : List PV} : fieldPV Try.prog 77 (.agg cs) 0 = if 0 + 8 ≤ cs.length then some (.agg ((cs.drop 0).take 8)) else none := fpA_of Try.underlying77 (by rfl) (by exact Try.underlying75) (by rfl) (by exact cells75) (by rfl) cs
theorem fa77_1 {id off : Nat} : fieldAddrPV Try.prog 77 (.ptr id off) 1 = some (.ptr id (off + 8)) := fa1_of Try.underlying77 (by rfl) (by exact Try.underlying75) (by exact cells75) (by rfl) (by rfl)
theorem fae77_1 {es i off : Nat} {l : List PV} : fieldAddrPV Try.prog 77 (.eptr es l i off) 1 = some (.eptr es l i (off + 8)) := fa2_of Try.underlying77 (by rfl) (by exact Try.underlying75) (by exact cells75) (by rfl) (by rfl)
theorem fp77_1 {cs : List PV} : fieldPV Try.prog 77 (.agg cs) 1 = if 8 + 8 ≤ cs.length then some (.agg ((cs.drop 8).take 8)) else none := fpA_of Try.underlying77 (by rfl) (by exact Try.underlying75) (by rfl) (by exact cells75) (by rfl) cs
theorem bld77 {parts : List (Nat × PV)} : buildPV Try.prog 77 parts = bldX [.int .i64 0, .int .i64 0, .int .i64 0, .int .i64 0, .int .i64 0, .int .i64 0, .int .i64 0, .int .i64 0, .int .i64 0, .int .i64 0, .int .i64 0, .int .i64 0, .int .i64 0, .int .i64 0, .int .i64 0, .int .i64 0] [(0, 8), (8, 8)] parts := bldX_of zero77 Try.underlying77 (by kernel_rfl) (by kernel_rfl) parts
theorem lda78 {σ : Sg} {id off : Nat} : loadPV Try.prog σ 78 (.ptr id off) = ldS σ id off := ldS_of Try.underlying78 rfl
theorem ela78 {σ : Sg} {es i off : Nat} {l : List PV} : loadPV Try.prog σ 78 (.eptr es l i off) = elS l i off := elS_of Try.underlying78 rfl
theorem sto78 {σ : Sg} {id off : Nat} {p : PV} : storePV Try.prog σ 78 (.ptr id off) p = stX 1 σ id off p := stX_of Try.underlying78 cells78 p
theorem lda79 {σ : Sg} {id off : Nat} : loadPV Try.prog σ 79 (.ptr id off) = ldA 21 σ id off := ldA_of Try.underlying79 rfl cells79
theorem ela79 {σ : Sg} {es i off : Nat} {l : List PV} : loadPV Try.prog σ 79 (.eptr es l i off) = elA 21 l i off := elA_of Try.underlying79 rfl cells79
theorem sto79 {σ : Sg} {id off : Nat} {p : PV} : storePV Try.prog σ 79 (.ptr id off) p = stX 21 σ id off p := stX_of Try.underlying79 cells79 p
theorem fa79_0 {id off : Nat} : fieldAddrPV Try.prog 79 (.ptr id off) 0 = some (.ptr id (off + 0)) := fa1_of Try.underlying79 (by rfl) (by exact Try.underlying42) (by exact cells42) (by rfl) (by rfl)
theorem fae79_0 {es i off : Nat} {l : List PV} : fieldAddrPV Try.prog 79 (.eptr es l i off) 0 = some (.eptr es l i (off + 0)) := fa2_of Try.underlying79 (by rfl) (by exact Try.underlying42) (by exact cells42) (by rfl) (by rfl)
theorem fp79_0 {cs : List PV} : fieldPV Try.prog 79 (.agg cs) 0 = if 0 + 3 ≤ cs.length then some (.agg ((cs.drop 0).take 3)) else none := fpA_of Try.underlying79 (by rfl) (by exact Try.underlying42) (by rfl) (by exact cells42) (by rfl) cs
theorem fa79_1 {id off : Nat} : fieldAddrPV Try.prog 79 (.ptr id off) 1 = some (.ptr id (off + 3)) := fa1_of Try.underlying79 (by rfl) (by exact Try.underlying22) (by exact cells22) (by rfl) (by rfl)
theorem fae79_1 {es i off : Nat} {l : List PV} : fieldAddrPV Try.prog 79 (.eptr es l i off) 1 = some (.eptr es l i (off + 3)) := fa2_of Try.underlying79 (by rfl) (by exact Try.underlying22) (by exact cells22) (by rfl) (by rfl)
theorem fp79_1 {cs : List PV} : fieldPV Try.prog 79 (.agg cs) 1 = cs[3]? := fpS_of Try.underlying79 (by rfl) (by exact Try.underlying22) (by rfl) (by rfl) cs
theorem fa79_2 {id off : Nat} : fieldAddrPV Try.prog 79 (.ptr id off) 2 = some (.ptr id (off + 4)) := fa1_of Try.underlying79 (by rfl) (by exact Try.underlying77) (by exact cells77) (by rfl) (by rfl)
theorem fae79_2 {es i off : Nat} {l : List PV} : fieldAddrPV Try.prog 79 (.eptr es l i off) 2 = some (.eptr es l i (off + 4)) := fa2_of Try.underlying79 (by rfl) (by exact Try.underlying77) (by exact cells77) (by rfl) (by rfl)
theorem fp79_2 {cs : List PV} : fieldPV Try.prog 79 (.agg cs) 2 = if 4 + 16 ≤ cs.length then some (.agg ((cs.drop 4).take 16)) else none := fpA_of Try.underlying79 (by rfl) (by exact Try.underlying77) (by rfl) (by exact cells77) (by rfl) cs
theorem fa79_3 {id off : Nat} : fieldAddrPV Try.prog 79 (.ptr id off) 3 = some (.ptr id (off + 20)) := fa1_of Try.underlying79 (by rfl) (by exact Try.underlying78) (by exact cells78) (by rfl) (by rfl)
theorem fae79_3 {es i off : Nat} {l : List PV} : fieldAddrPV Try.prog 79 (.eptr es l i off) 3 = some (.eptr es l i (off + 20)) := fa2_of Try.underlying79 (by rfl) (by exact Try.underlying78) (by exact cells78) (by rfl) (by rfl)
theorem fp79_3 {cs : List PV} : fieldPV Try.prog 79 (.agg cs) 3 = cs[20]? := fpS_of Try.underlying79 (by rfl) (by exact Try.underlying78) (by rfl) (by rfl) cs
theorem bld79 {parts : List (Nat × PV)} : buildPV Try.prog 79 parts = bldX [.int .i64 0, .int .i64 0, .int .i64 0, .isl [] .exact, .int .i64 0, .int .i64 0, .int .i64 0, .int .i64 0, .int .i64 0, .int .i64 0, .int .i64 0, .int .i64 0, .int .i64 0, .int .i64 0, .int .i64 0, .int .i64 0, .int .i64 0, .int .i64 0, .int .i64 0, .int .i64 0, .nilmap] [(0, 3), (3, 1), (4, 16), (20, 1)] parts := bldX_of zero79 Try.underlying79 (by kernel_rfl) (by kernel_rfl) parts
theorem lda80 {σ : Sg} {id off : Nat} : loadPV Try.prog σ 80 (.ptr id off) = ldA 21 σ id off := ldA_of Try.underlying80 rfl cells80
theorem ela80 {σ : Sg} {es i off : Nat} {l : List PV} : loadPV Try.prog σ 80 (.eptr es l i off) = elA 21 l i off := elA_of Try.underlying80 rfl cells80
theorem sto80 {σ : Sg} {id off : Nat} {p : PV} : storePV Try.prog σ 80 (.ptr id off) p = stX 21 σ id off p := stX_of Try.underlying80 cells80 p
theorem fa80_0 {id off : Nat} : fieldAddrPV Try.prog 80 (.ptr id off) 0 = some (.ptr id (off + 0)) := fa1_of Try.underlying80 (by rfl) (by exact Try.underlying42) (by exact cells42) (by rfl) (by rfl)
theorem fae80_0 {es i off : Nat} {l : List PV} : fieldAddrPV Try.prog 80 (.eptr es l i off) 0 = some (.eptr es l i (off + 0)) := fa2_of Try.underlying80 (by rfl) (by exact Try.underlying42) (by exact cells42) (by rfl) (by rfl)
theorem fp80_0 {cs : List PV} : fieldPV Try.prog 80 (.agg cs) 0 = if 0 + 3 ≤ cs.length then some (.agg ((cs.drop 0).take 3)) else none := fpA_of Try.underlying80 (by rfl) (by exact Try.underlying42) (by rfl) (by exact cells42) (by rfl) cs
theorem fa80_1 {id off : Nat} : fieldAddrPV Try.prog 80 (.ptr id off) 1 = some (.ptr id (off + 3)) := fa1_of Try.underlying80 (by rfl) (by exact Try.underlying22) (by exact cells22) (by rfl) (by rfl)
theorem fae80_1 {es i off : Nat} {l : List PV} : fieldAddrPV Try.prog 80 (.eptr es l i off) 1 = some (.eptr es l i (off + 3)) := fa2_of Try.underlying80 (by rfl) (by exact Try.underlying22) (by exact cells22) (by rfl) (by rfl)
theorem fp80_1 {cs : List PV} : fieldPV Try.prog 80 (.agg cs) 1 = cs[3]? := fpS_of Try.underlying80 (by rfl) (by exact Try.underlying22) (by rfl) (by rfl) cs
theorem fa80_2 {id off : Nat} : fieldAddrPV Try.prog 80 (.ptr id off) 2 = some (.ptr id (off + 4)) := fa1_of Try.underlying80 (by rfl) (by exact Try.underlying77) (by exact cells77) (by rfl) (by rfl)
theorem fae80_2 {es i off : Nat} {l : List PV} : fieldAddrPV Try.prog 80 (.eptr es l i off) 2 = some (.eptr es l i (off + 4)) := fa2_of Try.underlying80 (by rfl) (by exact Try.underlying77) (by exact cells77) (by rfl) (by rfl)
theorem fp80_2 {cs : List PV} : fieldPV Try.prog 80 (.agg cs) 2 = if 4 + 16 ≤ cs.length then some (.agg ((cs.drop 4).take 16)) else none := fpA_of Try.underlying80 (by rfl) (by exact Try.underlying77) (by rfl) (by exact cells77) (by rfl) cs
theorem fa80_3 {id off : Nat} : fieldAddrPV Try.prog 80 (.ptr id off) 3 = some (.ptr id (off + 20)) := fa1_of Try.underlying80 (by rfl) (by exact Try.underlying78) (by exact cells78) (by rfl) (by rfl)
theorem fae80_3 {es i off : Nat} {l : List PV} : fieldAddrPV Try.prog 80 (.eptr es l i off) 3 = some (.eptr es l i (off + 20)) := fa2_of Try.underlying80 (by rfl) (by exact Try.underlying78) (by exact cells78) (by rfl) (by rfl)
theorem fp80_3 {cs : List PV} : fieldPV Try.prog 80 (.agg cs) 3 = cs[20]? := fpS_of Try.underlying80 (by rfl) (by exact Try.underlying78) (by rfl) (by rfl) cs
theorem bld80 {parts : List (Nat × PV)} : buildPV Try.prog 80 parts = bldX [.int .i64 0, .int .i64 0, .int .i64 0, .isl [] .exact, .int .i64 0, .int .i64 0, .int .i64 0, .int .i64 0, .int .i64 0, .int .i64 0, .int .i64 0, .int .i64 0, .int .i64 0, .int .i64 0, .int .i64 0, .int .i64 0, .int .i64 0, .int .i64 0, .int .i64 0, .int .i64 0, .nilmap] [(0, 3), (3, 1), (4, 16), (20, 1)] parts := bldX_of zero80 Try.underlying80 (by kernel_rfl) (by kernel_rfl) parts
theorem lda86 {σ : Sg} {id off : Nat} : loadPV Try.prog σ 86 (.ptr id off) = ldA 8 σ id off := ldA_of Try.underlying86 rfl cells86
theorem ela86 {σ : Sg} {es i off : Nat} {l : List PV} : loadPV Try.prog σ 86 (.eptr es l i off) = elA 8 l i off := elA_of Try.underlying86 rfl cells86
theorem sto86 {σ : Sg} {id off : Nat} {p : PV} : storePV Try.prog σ 86 (.ptr id off) p = stX 8 σ id off p := stX_of Try.underlying86 cells86 p
theorem iar86 {id off : Nat} {k : IntKind} {i : Int} : indexAddrPV Try.prog 86 (.ptr id off) (.int k i) = iaM 1 id off 8 i := iaA_of Try.underlying86 Try.underlying4 cells4 k i
theorem ix86 {cs : List PV} {k : IntKind} {i : Int} : indexPV Try.prog 86 (.agg cs) (.int k i) = if 0 ≤ i ∧ i < (8 : Int) then cs[i.toNat]? else none := ixS_of Try.underlying86 Try.underlying4 rfl cells4 k i
theorem lda88 {σ : Sg} {id off : Nat} : loadPV Try.prog σ 88 (.ptr id off) = ldA 3 σ id off := ldA_of Try.underlying88 rfl cells88
theorem ela88 {σ : Sg} {es i off : Nat} {l : List PV} : loadPV Try.prog σ 88 (.eptr es l i off) = elA 3 l i off := elA_of Try.underlying88 rfl cells88
theorem sto88 {σ : Sg} {id off : Nat} {p : PV} : storePV Try.prog σ 88 (.ptr id off) p = stX 3 σ id off p := stX_of Try.underlying88 cells88 p
theorem fa88_0 {id off : Nat} : fieldAddrPV Try.prog 88 (.ptr id off) 0 = some (.ptr id (off + 0)) := fa1_of Try.underlying88 (by rfl) (by exact Try.underlying3) (by exact cells3) (by rfl) (by rfl)
theorem fae88_0 {es i off : Nat} {l : List PV} : fieldAddrPV Try.prog 88 (.eptr es l i off) 0 = some (.eptr es l i (off + 0)) := fa2_of Try.underlying88 (by rfl) (by exact Try.underlying3) (by exact cells3) (by rfl) (by rfl)
theorem fp88_0 {cs : List PV} : fieldPV Try.prog 88 (.agg cs) 0 = cs[0]? := fpS_of Try.underlying88 (by rfl) (by exact Try.underlying3) (by rfl) (by rfl) cs
theorem fa88_1 {id off : Nat} : fieldAddrPV Try.prog 88 (.ptr id off) 1 = some (.ptr id (off + 1)) := fa1_of Try.underlying88 (by rfl) (by exact Try.underlying3) (by exact cells3) (by rfl) (by rfl)
theorem fae88_1 {es i off : Nat} {l : List PV} : fieldAddrPV Try.prog 88 (.eptr es l i off) 1 = some (.eptr es l i (off + 1)) := fa2_of Try.underlying88 (by rfl) (by exact Try.underlying3) (by exact cells3) (by rfl) (by rfl)
theorem fp88_1 {cs : List PV} : fieldPV Try.prog 88 (.agg cs) 1 = cs[1]? := fpS_of Try.underlying88 (by rfl) (by exact Try.underlying3) (by rfl) (by rfl) cs
theorem fa88_2 {id off : Nat} : fieldAddrPV Try.prog 88 (.ptr id off) 2 = some (.ptr id (off + 2)) := fa1_of Try.underlying88 (by rfl) (by exact Try.underlying3) (by exact cells3) (by rfl) (by rfl)
theorem fae88_2 {es i off : Nat} {l : List PV} : fieldAddrPV Try.prog 88 (.eptr es l i off) 2 = some (.eptr es l i (off + 2)) := fa2_of Try.underlying88 (by rfl) (by exact Try.underlying3) (by exact cells3) (by rfl) (by rfl)
theorem fp88_2 {cs : List PV} : fieldPV Try.prog 88 (.agg cs) 2 = cs[2]? := fpS_of Try.underlying88 (by rfl) (by exact Try.underlying3) (by rfl) (by rfl) cs
theorem eqs88 {a0 a1 a2 b0 b1 b2 : Int} : eqPV Try.prog 88 (.agg [.int .i64 a0, .int .i64 a1, .int .i64 a2]) (.agg [.int .i64 b0, .int .i64 b1, .int .i64 b2]) = some ((a0 == b0) && ((a1 == b1) && ((a2 == b2) && true))) := by kernel_rfl
theorem bld88 {parts : List (Nat × PV)} : buildPV Try.prog 88 parts = bldX [.int .i64 0, .int .i64 0, .int .i64 0] [(0, 1), (1, 1), (2, 1)] parts := bldX_of zero88 Try.underlying88 (by kernel_rfl) (by kernel_rfl) parts
theorem lda89 {σ : Sg} {id off : Nat} : loadPV Try.prog σ 89 (.ptr id off) = ldA 3 σ id off := ldA_of Try.underlying89 rfl cells89
theorem ela89 {σ : Sg} {es i off : Nat} {l : List PV} : loadPV Try.prog σ 89 (.eptr es l i off) = elA 3 l i off := elA_of Try.underlying89 rfl cells89
theorem sto89 {σ : Sg} {id off : Nat} {p : PV} : storePV Try.prog σ 89 (.ptr id off) p = stX 3 σ id off p := stX_of Try.underlying89 cells89 p
theorem fa89_0 {id off : Nat} : fieldAddrPV Try.prog 89 (.ptr id off) 0 = some (.ptr id (off + 0)) := fa1_of Try.underlying89 (by rfl) (by exact Try.underlying3) (by exact cells3) (by rfl) (by rfl)
theorem fae89_0 {es i off : Nat} {l : List PV} : fieldAddrPV Try.prog 89 (.eptr es l i off) 0 = some (.eptr es l i (off + 0)) := fa2_of Try.underlying89 (by rfl) (by exact Try.underlying3) (by exact cells3) (by rfl) (by rfl)
theorem fp89_0 {cs : List PV} : fieldPV Try.prog 89 (.agg cs) 0 = cs[0]? := fpS_of Try.underlying89 (by rfl) (by exact Try.underlying3) (by rfl) (by rfl) cs
theorem fa89_1 {id off : Nat} : fieldAddrPV Try.prog 89 (.ptr id off) 1 = some (.ptr id (off + 1)) := fa1_of Try.underlying89 (by rfl) (by exact Try.underlying3) (by exact cells3) (by rfl) (by rfl)
theorem fae89_1 {es i off : Nat} {l : List PV} : fieldAddrPV Try.prog 89 (.eptr es l i off) 1 = some (.eptr es l i (off + 1)) := fa2_of Try.underlying89 (by rfl) (by exact Try.underlying3) (by exact cells3) (by rfl) (by rfl)
theorem fp89_1 {cs : List PV} : fieldPV Try.prog 89 (.agg cs) 1 = cs[1]? := fpS_of Try.underlying89 (by rfl) (by exact Try.underlying3) (by rfl) (by rfl) cs
theorem fa89_2 {id off : Nat} : fieldAddrPV Try.prog 89 (.ptr id off) 2 = some (.ptr id (off + 2)) := fa1_of Try.underlying89 (by rfl) (by exact Try.underlying3) (by exact cells3) (by rfl) (by rfl)
theorem fae89_2 {es i off : Nat} {l : List PV} : fieldAddrPV Try.prog 89 (.eptr es l i off) 2 = some (.eptr es l i (off + 2)) := fa2_of Try.underlying89 (by rfl) (by exact Try.underlying3) (by exact cells3) (by rfl) (by rfl)
theorem fp89_2 {cs : List PV} : fieldPV Try.prog 89 (.agg cs) 2 = cs[2]? := fpS_of Try.underlying89 (by rfl) (by exact Try.underlying3) (by rfl) (by rfl) cs
theorem eqs89 {a0 a1 a2 b0 b1 b2 : Int} : eqPV Try.prog 89 (.agg [.int .i64 a0, .int .i64 a1, .int .i64 a2]) (.agg [.int .i64 b0, .int .i64 b1, .int .i64 b2]) = some ((a0 == b0) && ((a1 == b1) && ((a2 == b2) && true))) := by kernel_rfl
theorem bld89 {parts : List (Nat × PV)} : buildPV Try.prog 89 parts = bldX [.int .i64 0, .int .i64 0, .int .i64 0] [(0, 1), (1, 1), (2, 1)] parts := bldX_of zero89 Try.underlying89 (by kernel_rfl) (by kernel_rfl) parts
theorem lda91 {σ : Sg} {id off : Nat} : loadPV Try.prog σ 91 (.ptr id off) = ldS σ id off := ldS_of Try.underlying91 rfl
theorem ela91 {σ : Sg} {es i off : Nat} {l : List PV} : loadPV Try.prog σ 91 (.eptr es l i off) = elS l i off := elS_of Try.underlying91 rfl
theorem sto91 {σ : Sg} {id off : Nat} {p : PV} : storePV Try.prog σ 91 (.ptr id off) p = stX 1 σ id off p := stX_of Try.underlying91 cells91 p
theorem lda100 {σ : Sg} {id off : Nat} : loadPV Try.prog σ 100 (.ptr id off) = ldS σ id off := ldS_of Try.underlying100 rfl
theorem ela100 {σ : Sg} {es i off : Nat} {l : List PV} : loadPV Try.prog σ 100 (.eptr es l i off) = elS l i off := elS_of Try.underlying100 rfl
theorem sto100 {σ : Sg} {id off : Nat} {p : PV} : storePV Try.prog σ 100 (.ptr id off) p = stX 1 σ id off p := stX_of Try.underlying100 cells100 p
theorem lda103 {σ : Sg} {id off : Nat} : loadPV Try.prog σ 103 (.ptr id off) = ldS σ id off := ldS_of Try.underlying103 rfl
theorem ela103 {σ : Sg} {es i off : Nat} {l : List PV} : loadPV Try.prog σ 103 (.eptr es l i off) = elS l i off := elS_of Try.underlying103 rfl
theorem sto103 {σ : Sg} {id off : Nat} {p : PV} : storePV Try.prog σ 103 (.ptr id off) p = stX 1 σ id off p := stX_of Try.underlying103 cells103 p
theorem ia103 {l : List PV} {own : Own} {k : IntKind} {i : Int} : indexAddrPV Try.prog 103 (.isl l own) (.int k i) = iaX 4 l i := iaX_of Try.underlying103 Try.underlying105 cells105 k i
theorem iam103 {id off len : Nat} {k : IntKind} {i : Int} : indexAddrPV Try.prog 103 (.msl id off len) (.int k i) = iaM 4 id off len i := iaM_of Try.underlying103 Try.underlying105 cells105 k len i
theorem len103 {l : List PV} {own : Own} : lenPV Try.prog 103 (.isl l own) = some (.int .i64 l.length) := len_of Try.underlying103
theorem lenm103 {id off n : Nat} : lenPV Try.prog 103 (.msl id off n) = some (.int .i64 n) := lenM_of Try.underlying103 n
theorem bs103 {len : Nat} {parts : List (Nat × PV)} : buildSlicePV Try.prog 103 len parts = bsX 4 len parts := bsX_of Try.underlying103 Try.underlying105 cells105 zero105 len parts
theorem app103 {σ : Sg} {l m : List PV} {own own' : Own} : appendPV Try.prog σ 103 103 (.isl l own) (.isl m own') = appX 4 32 σ l own m := appX_of Try.underlying103 Try.underlying105 cells105 bytes105 (by decide) (by decide) zero105 rfl
theorem lda104 {σ : Sg} {id off : Nat} : loadPV Try.prog σ 104 (.ptr id off) = ldA 4 σ id off := ldA_of Try.underlying104 rfl cells104
theorem ela104 {σ : Sg} {es i off : Nat} {l : List PV} : loadPV Try.prog σ 104 (.eptr es l i off) = elA 4 l i off := elA_of Try.underlying104 rfl cells104
theorem sto104 {σ : Sg} {id off : Nat} {p : PV} : storePV Try.prog σ 104 (.ptr id off) p = stX 4 σ id off p := stX_of Try.underlying104 cells104 p
theorem fa104_0 {id off : Nat} : fieldAddrPV Try.prog 104 (.ptr id off) 0 = some (.ptr id (off + 0)) := fa1_of Try.underlying104 (by rfl) (by exact Try.underlying3) (by exact cells3) (by rfl) (by rfl)
theorem fae104_0 {es i off : Nat} {l : List PV} : fieldAddrPV Try.prog 104 (.eptr es l i off) 0 = some (.eptr es l i (off + 0)) := fa2_of Try.underlying104 (by rfl) (by exact Try.underlying3) (by exact cells3) (by rfl) (by rfl)
theorem fp104_0 {cs : List PV} : fieldPV Try.prog 104 (.agg cs) 0 = cs[0]? := fpS_of Try.underlying104 (by rfl) (by exact Try.underlying3) (by rfl) (by rfl) cs
theorem fa104_1 {id off : Nat} : fieldAddrPV Try.prog 104 (.ptr id off) 1 = some (.ptr id (off + 1)) := fa1_of Try.underlying104 (by rfl) (by exact Try.underlying3) (by exact cells3) (by rfl) (by rfl)
theorem fae104_1 {es i off : Nat} {l : List PV} : fieldAddrPV Try.prog 104 (.eptr es l i off) 1 = some (.eptr es l i (off + 1)) := fa2_of Try.underlying104 (by rfl) (by exact Try.underlying3) (by exact cells3) (by rfl) (by rfl)
theorem fp104_1 {cs : List PV} : fieldPV Try.prog 104 (.agg cs) 1 = cs[1]? := fpS_of Try.underlying104 (by rfl) (by exact Try.underlying3) (by rfl) (by rfl) cs
theorem fa104_2 {id off : Nat} : fieldAddrPV Try.prog 104 (.ptr id off) 2 = some (.ptr id (off + 2)) := fa1_of Try.underlying104 (by rfl) (by exact Try.underlying3) (by exact cells3) (by rfl) (by rfl)
theorem fae104_2 {es i off : Nat} {l : List PV} : fieldAddrPV Try.prog 104 (.eptr es l i off) 2 = some (.eptr es l i (off + 2)) := fa2_of Try.underlying104 (by rfl) (by exact Try.underlying3) (by exact cells3) (by rfl) (by rfl)
theorem fp104_2 {cs : List PV} : fieldPV Try.prog 104 (.agg cs) 2 = cs[2]? := fpS_of Try.underlying104 (by rfl) (by exact Try.underlying3) (by rfl) (by rfl) cs
theorem fa104_3 {id off : Nat} : fieldAddrPV Try.prog 104 (.ptr id off) 3 = some (.ptr id (off + 3)) := fa1_of Try.underlying104 (by rfl) (by exact Try.underlying3) (by exact cells3) (by rfl) (by rfl)
theorem fae104_3 {es i off : Nat} {l : List PV} : fieldAddrPV Try.prog 104 (.eptr es l i off) 3 = some (.eptr es l i (off + 3)) := fa2_of Try.underlying104 (by rfl) (by exact Try.underlying3) (by exact cells3) (by rfl) (by rfl)
theorem fp104_3 {cs : List PV} : fieldPV Try.prog 104 (.agg cs) 3 = cs[3]? := fpS_of Try.underlying104 (by rfl) (by exact Try.underlying3) (by rfl) (by rfl) cs
theorem eqs104 {a0 a1 a2 a3 b0 b1 b2 b3 : Int} : eqPV Try.prog 104 (.agg [.int .i64 a0, .int .i64 a1, .int .i64 a2, .int .i64 a3]) (.agg [.int .i64 b0, .int .i64 b1, .int .i64 b2, .int .i64 b3]) = some ((a0 == b0) && ((a1 == b1) && ((a2 == b2) && ((a3 == b3) && true)))) := by kernel_rfl
theorem bld104 {parts : List (Nat × PV)} : buildPV Try.prog 104 parts = bldX [.int .i64 0, .int .i64 0, .int .i64 0, .int .i64 0] [(0, 1), (1, 1), (2, 1), (3, 1)] parts := bldX_of zero104 Try.underlying104 (by kernel_rfl) (by kernel_rfl) parts
theorem lda105 {σ : Sg} {id off : Nat} : loadPV Try.prog σ 105 (.ptr id off) = ldA 4 σ id off := ldA_of Try.underlying105 rfl cells105
theorem ela105 {σ : Sg} {es i off : Nat} {l : List PV} : loadPV Try.prog σ 105 (.eptr es l i off) = elA 4 l i off := elA_of Try.underlying105 rfl cells105
theorem sto105 {σ : Sg} {id off : Nat} {p : PV} : storePV Try.prog σ 105 (.ptr id off) p = stX 4 σ id off p := stX_of Try.underlying105 cells105 p
theorem fa105_0 {id off : Nat} : fieldAddrPV Try.prog 105 (.ptr id off) 0 = some (.ptr id (off + 0)) := fa1_of Try.underlying105 (by rfl) (by exact Try.underlying3) (by exact cells3) (by rfl) (by rfl)
theorem fae105_0 {es i off : Nat} {l : List PV} : fieldAddrPV Try.prog 105 (.eptr es l i off) 0 = some (.eptr es l i (off + 0)) := fa2_of Try.underlying105 (by rfl) (by exact Try.underlying3) (by exact cells3) (by rfl) (by rfl)
theorem fp105_0 {cs : List PV} : fieldPV Try.prog 105 (.agg cs) 0 = cs[0]? := fpS_of Try.underlying105 (by rfl) (by exact Try.underlying3) (by rfl) (by rfl) cs
theorem fa105_1 {id off : Nat} : fieldAddrPV Try.prog 105 (.ptr id off) 1 = some (.ptr id (off + 1)) := fa1_of Try.underlying105 (by rfl) (by exact Try.underlying3) (by exact cells3) (by rfl) (by rfl)
theorem fae105_1 {es i off : Nat} {l : List PV} : fieldAddrPV Try.prog 105 (.eptr es l i off) 1 = some (.eptr es l i (off + 1)) := fa2_of Try.underlying105 (by rfl) (by exact Try.underlying3) (by exact cells3) (by rfl) (by rfl)
theorem fp105_1 {cs : List PV} : fieldPV Try.prog 105 (.agg cs) 1 = cs[1]? := fpS_of Try.underlying105 (by rfl) (by exact Try.underlying3) (by rfl) (by rfl) cs
theorem fa105_2 {id off : Nat} : fieldAddrPV Try.prog 105 (.ptr id off) 2 = some (.ptr id (off + 2)) := fa1_of Try.underlying105 (by rfl) (by exact Try.underlying3) (by exact cells3) (by rfl) (by rfl)
theorem fae105_2 {es i off : Nat} {l : List PV} : fieldAddrPV Try.prog 105 (.eptr es l i off) 2 = some (.eptr es l i (off + 2)) := fa2_of Try.underlying105 (by rfl) (by exact Try.underlying3) (by exact cells3) (by rfl) (by rfl)
theorem fp105_2 {cs : List PV} : fieldPV Try.prog 105 (.agg cs) 2 = cs[2]? := fpS_of Try.underlying105 (by rfl) (by exact Try.underlying3) (by rfl) (by rfl) cs
theorem fa105_3 {id off : Nat} : fieldAddrPV Try.prog 105 (.ptr id off) 3 = some (.ptr id (off + 3)) := fa1_of Try.underlying105 (by rfl) (by exact Try.underlying3) (by exact cells3) (by rfl) (by rfl)
theorem fae105_3 {es i off : Nat} {l : List PV} : fieldAddrPV Try.prog 105 (.eptr es l i off) 3 = some (.eptr es l i (off + 3)) := fa2_of Try.underlying105 (by rfl) (by exact Try.underlying3) (by exact cells3) (by rfl) (by rfl)
theorem fp105_3 {cs : List PV} : fieldPV Try.prog 105 (.agg cs) 3 = cs[3]? := fpS_of Try.underlying105 (by rfl) (by exact Try.underlying3) (by rfl) (by rfl) cs
theorem eqs105 {a0 a1 a2 a3 b0 b1 b2 b3 : Int} : eqPV Try.prog 105 (.agg [.int .i64 a0, .int .i64 a1, .int .i64 a2, .int .i64 a3]) (.agg [.int .i64 b0, .int .i64 b1, .int .i64 b2, .int .i64 b3]) = some ((a0 == b0) && ((a1 == b1) && ((a2 == b2) && ((a3 == b3) && true)))) := by kernel_rfl
theorem bld105 {parts : List (Nat × PV)} : buildPV Try.prog 105 parts = bldX [.int .i64 0, .int .i64 0, .int .i64 0, .int .i64 0] [(0, 1), (1, 1), (2, 1), (3, 1)] parts := bldX_of zero105 Try.underlying105 (by kernel_rfl) (by kernel_rfl) parts
theorem lda111 {σ : Sg} {id off : Nat} : loadPV Try.prog σ 111 (.ptr id off) = ldS σ id off := ldS_of Try.underlying111 rfl
theorem ela111 {σ : Sg} {es i off : Nat} {l : List PV} : loadPV Try.prog σ 111 (.eptr es l i off) = elS l i off := elS_of Try.underlying111 rfl
theorem sto111 {σ : Sg} {id off : Nat} {p : PV} : storePV Try.prog σ 111 (.ptr id off) p = stX 1 σ id off p := stX_of Try.underlying111 cells111 p
theorem lda116 {σ : Sg} {id off : Nat} : loadPV Try.prog σ 116 (.ptr id off) = ldS σ id off := ldS_of Try.underlying116 rfl
theorem ela116 {σ : Sg} {es i off : Nat} {l : List PV} : loadPV Try.prog σ 116 (.eptr es l i off) = elS l i off := elS_of Try.underlying116 rfl
theorem sto116 {σ : Sg} {id off : Nat} {p : PV} : storePV Try.prog σ 116 (.ptr id off) p = stX 1 σ id off p := stX_of Try.underlying116 cells116 p
theorem lda117 {σ : Sg} {id off : Nat} : loadPV Try.prog σ 117 (.ptr id off) = ldS σ id off := ldS_of Try.underlying117 rfl
theorem ela117 {σ : Sg} {es i off : Nat} {l : List PV} : loadPV Try.prog σ 117 (.eptr es l i off) = elS l i off := elS_of Try.underlying117 rfl
theorem sto117 {σ : Sg} {id off : Nat} {p : PV} : storePV Try.prog σ 117 (.ptr id off) p = stX 1 σ id off p := stX_of Try.underlying117 cells117 p
theorem ia117 {l : List PV} {own : Own} {k : IntKind} {i : Int} : indexAddrPV Try.prog 117 (.isl l own) (.int k i) = iaX 1 l i := iaX_of Try.underlying117 Try.underlying116 cells116 k i
theorem iam117 {id off len : Nat} {k : IntKind} {i : Int} : indexAddrPV Try.prog 117 (.msl id off len) (.int k i) = iaM 1 id off len i := iaM_of Try.underlying117 Try.underlying116 cells116 k len i
theorem len117 {l : List PV} {own : Own} : lenPV Try.prog 117 (.isl l own) = some (.int .i64 l.length) := len_of Try.underlying117
theorem lenm117 {id off n : Nat} : lenPV Try.prog 117 (.msl id off n) = some (.int .i64 n) := lenM_of Try.underlying117 n
theorem bs117 {len : Nat} {parts : List (Nat × PV)} : buildSlicePV Try.prog 117 len parts = bsX 1 len parts := bsX_of Try.underlying117 Try.underlying116 cells116 zero116 len parts
theorem app117 {σ : Sg} {l m : List PV} {own own' : Own} : appendPV Try.prog σ 117 117 (.isl l own) (.isl m own') = appX 1 8 σ l own m := appX_of Try.underlying117 Try.underlying116 cells116 bytes116 (by decide) (by decide) zero116 rfl
theorem lda126 {σ : Sg} {id off : Nat} : loadPV Try.prog σ 126 (.ptr id off) = ldS σ id off := ldS_of Try.underlying126 rfl
theorem ela126 {σ : Sg} {es i off : Nat} {l : List PV} : loadPV Try.prog σ 126 (.eptr es l i off) = elS l i off := elS_of Try.underlying126 rfl
theorem sto126 {σ : Sg} {id off : Nat} {p : PV} : storePV Try.prog σ 126 (.ptr id off) p = stX 1 σ id off p := stX_of Try.underlying126 cells126 p
theorem lda134 {σ : Sg} {id off : Nat} : loadPV Try.prog σ 134 (.ptr id off) = ldS σ id off := ldS_of Try.underlying134 rfl
theorem ela134 {σ : Sg} {es i off : Nat} {l : List PV} : loadPV Try.prog σ 134 (.eptr es l i off) = elS l i off := elS_of Try.underlying134 rfl
theorem sto134 {σ : Sg} {id off : Nat} {p : PV} : storePV Try.prog σ 134 (.ptr id off) p = stX 1 σ id off p := stX_of Try.underlying134 cells134 p
theorem lda141 {σ : Sg} {id off : Nat} : loadPV Try.prog σ 141 (.ptr id off) = ldS σ id off := ldS_of Try.underlying141 rfl
theorem ela141 {σ : Sg} {es i off : Nat} {l : List PV} : loadPV Try.prog σ 141 (.eptr es l i off) = elS l i off := elS_of Try.underlying141 rfl
theorem sto141 {σ : Sg} {id off : Nat} {p : PV} : storePV Try.prog σ 141 (.ptr id off) p = stX 1 σ id off p := stX_of Try.underlying141 cells141 p
theorem lda144 {σ : Sg} {id off : Nat} : loadPV Try.prog σ 144 (.ptr id off) = ldS σ id off := ldS_of Try.underlying144 rfl
theorem ela144 {σ : Sg} {es i off : Nat} {l : List PV} : loadPV Try.prog σ 144 (.eptr es l i off) = elS l i off := elS_of Try.underlying144 rfl
theorem sto144 {σ : Sg} {id off : Nat} {p : PV} : storePV Try.prog σ 144 (.ptr id off) p = stX 1 σ id off p := stX_of Try.underlying144 cells144 p
theorem lda148 {σ : Sg} {id off : Nat} : loadPV Try.prog σ 148 (.ptr id off) = ldS σ id off := ldS_of Try.underlying148 rfl
theorem ela148 {σ : Sg} {es i off : Nat} {l : List PV} : loadPV Try.prog σ 148 (.eptr es l i off) = elS l i off := elS_of Try.underlying148 rfl
theorem sto148 {σ : Sg} {id off : Nat} {p : PV} : storePV Try.prog σ 148 (.ptr id off) p = stX 1 σ id off p := stX_of Try.underlying148 cells148 p
theorem lda153 {σ : Sg} {id off : Nat} : loadPV Try.prog σ 153 (.ptr id off) = ldA 4 σ id off := ldA_of Try.underlying153 rfl cells153
theorem ela153 {σ : Sg} {es i off : Nat} {l : List PV} : loadPV Try.prog σ 153 (.eptr es l i off) = elA 4 l i off := elA_of Try.underlying153 rfl cells153
theorem sto153 {σ : Sg} {id off : Nat} {p : PV} : storePV Try.prog σ 153 (.ptr id off) p = stX 4 σ id off p := stX_of Try.underlying153 cells153 p
theorem fa153_3 {id off : Nat} : fieldAddrPV Try.prog 153 (.ptr id off) 3 = some (.ptr id (off + 3)) := fa1_of Try.underlying153 (by rfl) (by exact Try.underlying9) (by exact cells9) (by rfl) (by rfl)
theorem fae153_3 {es i off : Nat} {l : List PV} : fieldAddrPV Try.prog 153 (.eptr es l i off) 3 = some (.eptr es l i (off + 3)) := fa2_of Try.underlying153 (by rfl) (by exact Try.underlying9) (by exact cells9) (by rfl) (by rfl)
theorem fp153_3 {cs : List PV} : fieldPV Try.prog 153 (.agg cs) 3 = cs[3]? := fpS_of Try.underlying153 (by rfl) (by exact Try.underlying9) (by rfl) (by rfl) cs
theorem lda154 {σ : Sg} {id off : Nat} : loadPV Try.prog σ 154 (.ptr id off) = ldA 4 σ id off := ldA_of Try.underlying154 rfl cells154
theorem ela154 {σ : Sg} {es i off : Nat} {l : List PV} : loadPV Try.prog σ 154 (.eptr es l i off) = elA 4 l i off := elA_of Try.underlying154 rfl cells154
theorem sto154 {σ : Sg} {id off : Nat} {p : PV} : storePV Try.prog σ 154 (.ptr id off) p = stX 4 σ id off p := stX_of Try.underlying154 cells154 p
theorem fa154_3 {id off : Nat} : fieldAddrPV Try.prog 154 (.ptr id off) 3 = some (.ptr id (off + 3)) := fa1_of Try.underlying154 (by rfl) (by exact Try.underlying9) (by exact cells9) (by rfl) (by rfl)
theorem fae154_3 {es i off : Nat} {l : List PV} : fieldAddrPV Try.prog 154 (.eptr es l i off) 3 = some (.eptr es l i (off + 3)) := fa2_of Try.underlying154 (by rfl) (by exact Try.underlying9) (by exact cells9) (by rfl) (by rfl)
theorem fp154_3 {cs : List PV} : fieldPV Try.prog 154 (.agg cs) 3 = cs[3]? := fpS_of Try.underlying154 (by rfl) (by exact Try.underlying9) (by rfl) (by rfl) cs
theorem lda155 {σ : Sg} {id off : Nat} : loadPV Try.prog σ 155 (.ptr id off) = ldA 0 σ id off := ldA_of Try.underlying155 rfl cells155
theorem ela155 {σ : Sg} {es i off : Nat} {l : List PV} : loadPV Try.prog σ 155 (.eptr es l i off) = elA 0 l i off := elA_of Try.underlying155 rfl cells155
theorem sto155 {σ : Sg} {id off : Nat} {p : PV} : storePV Try.prog σ 155 (.ptr id off) p = stX 0 σ id off p := stX_of Try.underlying155 cells155 p
theorem lda156 {σ : Sg} {id off : Nat} : loadPV Try.prog σ 156 (.ptr id off) = ldA 0 σ id off := ldA_of Try.underlying156 rfl cells156
theorem ela156 {σ : Sg} {es i off : Nat} {l : List PV} : loadPV Try.prog σ 156 (.eptr es l i off) = elA 0 l i off := elA_of Try.underlying156 rfl cells156
theorem sto156 {σ : Sg} {id off : Nat} {p : PV} : storePV Try.prog σ 156 (.ptr id off) p = stX 0 σ id off p := stX_of Try.underlying156 cells156 p
theorem lda157 {σ : Sg} {id off : Nat} : loadPV Try.prog σ 157 (.ptr id off) = ldA 0 σ id off := ldA_of Try.underlying157 rfl cells157
theorem ela157 {σ : Sg} {es i off : Nat} {l : List PV} : loadPV Try.prog σ 157 (.eptr es l i off) = elA 0 l i off := elA_of Try.underlying157 rfl cells157
theorem sto157 {σ : Sg} {id off : Nat} {p : PV} : storePV Try.prog σ 157 (.ptr id off) p = stX 0 σ id off p := stX_of Try.underlying157 cells157 p
theorem lda159 {σ : Sg} {id off : Nat} : loadPV Try.prog σ 159 (.ptr id off) = ldS σ id off := ldS_of Try.underlying159 rfl
theorem ela159 {σ : Sg} {es i off : Nat} {l : List PV} : loadPV Try.prog σ 159 (.eptr es l i off) = elS l i off := elS_of Try.underlying159 rfl
theorem sto159 {σ : Sg} {id off : Nat} {p : PV} : storePV Try.prog σ 159 (.ptr id off) p = stX 1 σ id off p := stX_of Try.underlying159 cells159 p
theorem lda160 {σ : Sg} {id off : Nat} : loadPV Try.prog σ 160 (.ptr id off) = ldS σ id off := ldS_of Try.underlying160 rfl
theorem ela160 {σ : Sg} {es i off : Nat} {l : List PV} : loadPV Try.prog σ 160 (.eptr es l i off) = elS l i off := elS_of Try.underlying160 rfl
theorem sto160 {σ : Sg} {id off : Nat} {p : PV} : storePV Try.prog σ 160 (.ptr id off) p = stX 1 σ id off p := stX_of Try.underlying160 cells160 p
theorem lda162 {σ : Sg} {id off : Nat} : loadPV Try.prog σ 162 (.ptr id off) = ldS σ id off := ldS_of Try.underlying162 rfl
theorem ela162 {σ : Sg} {es i off : Nat} {l : List PV} : loadPV Try.prog σ 162 (.eptr es l i off) = elS l i off := elS_of Try.underlying162 rfl
theorem sto162 {σ : Sg} {id off : Nat} {p : PV} : storePV Try.prog σ 162 (.ptr id off) p = stX 1 σ id off p := stX_of Try.underlying162 cells162 p
theorem lda163 {σ : Sg} {id off : Nat} : loadPV Try.prog σ 163 (.ptr id off) = ldS σ id off := ldS_of Try.underlying163 rfl
theorem ela163 {σ : Sg} {es i off : Nat} {l : List PV} : loadPV Try.prog σ 163 (.eptr es l i off) = elS l i off := elS_of Try.underlying163 rfl
theorem sto163 {σ : Sg} {id off : Nat} {p : PV} : storePV Try.prog σ 163 (.ptr id off) p = stX 1 σ id off p := stX_of Try.underlying163 cells163 p
theorem lda164 {σ : Sg} {id off : Nat} : loadPV Try.prog σ 164 (.ptr id off) = ldS σ id off := ldS_of Try.underlying164 rfl
theorem ela164 {σ : Sg} {es i off : Nat} {l : List PV} : loadPV Try.prog σ 164 (.eptr es l i off) = elS l i off := elS_of Try.underlying164 rfl
theorem sto164 {σ : Sg} {id off : Nat} {p : PV} : storePV Try.prog σ 164 (.ptr id off) p = stX 1 σ id off p := stX_of Try.underlying164 cells164 p
theorem lda165 {σ : Sg} {id off : Nat} : loadPV Try.prog σ 165 (.ptr id off) = ldA 11 σ id off := ldA_of Try.underlying165 rfl cells165
theorem ela165 {σ : Sg} {es i off : Nat} {l : List PV} : loadPV Try.prog σ 165 (.eptr es l i off) = elA 11 l i off := elA_of Try.underlying165 rfl cells165
theorem sto165 {σ : Sg} {id off : Nat} {p : PV} : storePV Try.prog σ 165 (.ptr id off) p = stX 11 σ id off p := stX_of Try.underlying165 cells165 p
theorem fa165_2 {id off : Nat} : fieldAddrPV Try.prog 165 (.ptr id off) 2 = some (.ptr id (off + 2)) := fa1_of Try.underlying165 (by rfl) (by exact Try.underlying134) (by exact cells134) (by rfl) (by rfl)
theorem fae165_2 {es i off : Nat} {l : List PV} : fieldAddrPV Try.prog 165 (.eptr es l i off) 2 = some (.eptr es l i (off + 2)) := fa2_of Try.underlying165 (by rfl) (by exact Try.underlying134) (by exact cells134) (by rfl) (by rfl)
theorem fp165_2 {cs : List PV} : fieldPV Try.prog 165 (.agg cs) 2 = cs[2]? := fpS_of Try.underlying165 (by rfl) (by exact Try.underlying134) (by rfl) (by rfl) cs
theorem fa165_3 {id off : Nat} : fieldAddrPV Try.prog 165 (.ptr id off) 3 = some (.ptr id (off + 3)) := fa1_of Try.underlying165 (by rfl) (by exact Try.underlying159) (by exact cells159) (by rfl) (by rfl)
theorem fae165_3 {es i off : Nat} {l : List PV} : fieldAddrPV Try.prog 165 (.eptr es l i off) 3 = some (.eptr es l i (off + 3)) := fa2_of Try.underlying165 (by rfl) (by exact Try.underlying159) (by exact cells159) (by rfl) (by rfl)
theorem fp165_3 {cs : List PV} : fieldPV Try.prog 165 (.agg cs) 3 = cs[3]? := fpS_of Try.underlying165 (by rfl) (by exact Try.underlying159) (by rfl) (by rfl) cs
theorem fa165_4 {id off : Nat} : fieldAddrPV Try.prog 165 (.ptr id off) 4 = some (.ptr id (off + 4)) := fa1_of Try.underlying165 (by rfl) (by exact Try.underlying5) (by exact cells5) (by rfl) (by rfl)
theorem fae165_4 {es i off : Nat} {l : List PV} : fieldAddrPV Try.prog 165 (.eptr es l i off) 4 = some (.eptr es l i (off + 4)) := fa2_of Try.underlying165 (by rfl) (by exact Try.underlying5) (by exact cells5) (by rfl) (by rfl)
theorem fp165_4 {cs : List PV} : fieldPV Try.prog 165 (.agg cs) 4 = cs[4]? := fpS_of Try.underlying165 (by rfl) (by exact Try.underlying5) (by rfl) (by rfl) cs
theorem fa165_5 {id off : Nat} : fieldAddrPV Try.prog 165 (.ptr id off) 5 = some (.ptr id (off + 5)) := fa1_of Try.underlying165 (by rfl) (by exact Try.underlying5) (by exact cells5) (by rfl) (by rfl)
theorem fae165_5 {es i off : Nat} {l : List PV} : fieldAddrPV Try.prog 165 (.eptr es l i off) 5 = some (.eptr es l i (off + 5)) := fa2_of Try.underlying165 (by rfl) (by exact Try.underlying5) (by exact cells5) (by rfl) (by rfl)
theorem fp165_5 {cs : List PV} : fieldPV Try.prog 165 (.agg cs) 5 = cs[5]? := fpS_of Try.underlying165 (by rfl) (by exact Try.underlying5) (by rfl) (by rfl) cs
theorem fa165_6 {id off : Nat} : fieldAddrPV Try.prog 165 (.ptr id off) 6 = some (.ptr id (off + 6)) := fa1_of Try.underlying165 (by rfl) (by exact Try.underlying160) (by exact cells160) (by rfl) (by rfl)
theorem fae165_6 {es i off : Nat} {l : List PV} : fieldAddrPV Try.prog 165 (.eptr es l i off) 6 = some (.eptr es l i (off + 6)) := fa2_of Try.underlying165 (by rfl) (by exact Try.underlying160) (by exact cells160) (by rfl) (by rfl)
theorem fp165_6 {cs : List PV} : fieldPV Try.prog 165 (.agg cs) 6 = cs[6]? := fpS_of Try.underlying165 (by rfl) (by exact Try.underlying160) (by rfl) (by rfl) cs
theorem fa165_8 {id off : Nat} : fieldAddrPV Try.prog 165 (.ptr id off) 8 = some (.ptr id (off + 8)) := fa1_of Try.underlying165 (by rfl) (by exact Try.underlying162) (by exact cells162) (by rfl) (by rfl)
theorem fae165_8 {es i off : Nat} {l : List PV} : fieldAddrPV Try.prog 165 (.eptr es l i off) 8 = some (.eptr es l i (off + 8)) := fa2_of Try.underlying165 (by rfl) (by exact Try.underlying162) (by exact cells162) (by rfl) (by rfl)
theorem fp165_8 {cs : List PV} : fieldPV Try.prog 165 (.agg cs) 8 = cs[8]? := fpS_of Try.underlying165 (by rfl) (by exact Try.underlying162) (by rfl) (by rfl) cs
theorem fa165_9 {id off : Nat} : fieldAddrPV Try.prog 165 (.ptr id off) 9 = some (.ptr id (off + 9)) := fa1_of Try.underlying165 (by rfl) (by exact Try.underlying163) (by exact cells163) (by rfl) (by rfl)
theorem fae165_9 {es i off : Nat} {l : List PV} : fieldAddrPV Try.prog 165 (.eptr es l i off) 9 = some (.eptr es l i (off + 9)) := fa2_of Try.underlying165 (by rfl) (by exact Try.underlying163) (by exact cells163) (by rfl) (by rfl)
theorem fp165_9 {cs : List PV} : fieldPV Try.prog 165 (.agg cs) 9 = cs[9]? := fpS_of Try.underlying165 (by rfl) (by exact Try.underlying163) (by rfl) (by rfl) cs
theorem fa165_10 {id off : Nat} : fieldAddrPV Try.prog 165 (.ptr id off) 10 = some (.ptr id (off + 10)) := fa1_of Try.underlying165 (by rfl) (by exact Try.underlying164) (by exact cells164) (by rfl) (by rfl)
theorem fae165_10 {es i off : Nat} {l : List PV} : fieldAddrPV Try.prog 165 (.eptr es l i off) 10 = some (.eptr es l i (off + 10)) := fa2_of Try.underlying165 (by rfl) (by exact Try.underlying164) (by exact cells164) (by rfl) (by rfl)
theorem fp165_10 {cs : List PV} : fieldPV Try.prog 165 (.agg cs) 10 = cs[10]? := fpS_of Try.underlying165 (by rfl) (by exact Try.underlying164) (by rfl) (by rfl) cs
theorem lda166 {σ : Sg} {id off : Nat} : loadPV Try.prog σ 166 (.ptr id off) = ldA 11 σ id off := ldA_of Try.underlying166 rfl cells166
theorem ela166 {σ : Sg} {es i off : Nat} {l : List PV} : loadPV Try.prog σ 166 (.eptr es l i off) = elA 11 l i off := elA_of Try.underlying166 rfl cells166
theorem sto166 {σ : Sg} {id off : Nat} {p : PV} : storePV Try.prog σ 166 (.ptr id off) p = stX 11 σ id off p := stX_of Try.underlying166 cells166 p
theorem fa166_2 {id off : Nat} : fieldAddrPV Try.prog 166 (.ptr id off) 2 = some (.ptr id (off + 2)) := fa1_of Try.underlying166 (by rfl) (by exact Try.underlying134) (by exact cells134) (by rfl) (by rfl)
theorem fae166_2 {es i off : Nat} {l : List PV} : fieldAddrPV Try.prog 166 (.eptr es l i off) 2 = some (.eptr es l i (off + 2)) := fa2_of Try.underlying166 (by rfl) (by exact Try.underlying134) (by exact cells134) (by rfl) (by rfl)
theorem fp166_2 {cs : List PV} : fieldPV Try.prog 166 (.agg cs) 2 = cs[2]? := fpS_of Try.underlying166 (by rfl) (by exact Try.underlying134) (by rfl) (by rfl) cs
theorem fa166_3 {id off : Nat} : fieldAddrPV Try.prog 166 (.ptr id off) 3 = some (.ptr id (off + 3)) := fa1_of Try.underlying166 (by rfl) (by exact Try.underlying159) (by exact cells159) (by rfl) (by rfl)
theorem fae166_3 {es i off : Nat} {l : List PV} : fieldAddrPV Try.prog 166 (.eptr es l i off) 3 = some (.eptr es l i (off + 3)) := fa2_of Try.underlying166 (by rfl) (by exact Try.underlying159) (by exact cells159) (by rfl) (by rfl)
theorem fp166_3 {cs : List PV} : fieldPV Try.prog 166 (.agg cs) 3 = cs[3]? := fpS_of Try.underlying166 (by rfl) (by exact Try.underlying159) (by rfl) (by rfl) cs
theorem fa166_4 {id off : Nat} : fieldAddrPV Try.prog 166 (.ptr id off) 4 = some (.ptr id (off + 4)) := fa1_of Try.underlying166 (by rfl) (by exact Try.underlying5) (by exact cells5) (by rfl) (by rfl)
theorem fae166_4 {es i off : Nat} {l : List PV} : fieldAddrPV Try.prog 166 (.eptr es l i off) 4 = some (.eptr es l i (off + 4)) := fa2_of Try.underlying166 (by rfl) (by exact Try.underlying5) (by exact cells5) (by rfl) (by rfl)
theorem fp166_4 {cs : List PV} : fieldPV Try.prog 166 (.agg cs) 4 = cs[4]? := fpS_of Try.underlying166 (by rfl) (by exact Try.underlying5) (by rfl) (by rfl) cs
theorem fa166_5 {id off : Nat} : fieldAddrPV Try.prog 166 (.ptr id off) 5 = some (.ptr id (off + 5)) := fa1_of Try.underlying166 (by rfl) (by exact Try.underlying5) (by exact cells5) (by rfl) (by rfl)
theorem fae166_5 {es i off : Nat} {l : List PV} : fieldAddrPV Try.prog 166 (.eptr es l i off) 5 = some (.eptr es l i (off + 5)) := fa2_of Try.underlying166 (by rfl) (by exact Try.underlying5) (by exact cells5) (by rfl) (by rfl)
theorem fp166_5 {cs : List PV} : fieldPV Try.prog 166 (.agg cs) 5 = cs[5]? := fpS_of Try.underlying166 (by rfl) (by exact Try.underlying5) (by rfl) (by rfl) cs
theorem fa166_6 {id off : Nat} : fieldAddrPV Try.prog 166 (.ptr id off) 6 = some (.ptr id (off + 6)) := fa1_of Try.underlying166 (by rfl) (by exact Try.underlying160) (by exact cells160) (by rfl) (by rfl)
theorem fae166_6 {es i off : Nat} {l : List PV} : fieldAddrPV Try.prog 166 (.eptr es l i off) 6 = some (.eptr es l i (off + 6)) := fa2_of Try.underlying166 (by rfl) (by exact Try.underlying160) (by exact cells160) (by rfl) (by rfl)
theorem fp166_6 {cs : List PV} : fieldPV Try.prog 166 (.agg cs) 6 = cs[6]? := fpS_of Try.underlying166 (by rfl) (by exact Try.underlying160) (by rfl) (by rfl) cs
theorem fa166_8 {id off : Nat} : fieldAddrPV Try.prog 166 (.ptr id off) 8 = some (.ptr id (off + 8)) := fa1_of Try.underlying166 (by rfl) (by exact Try.underlying162) (by exact cells162) (by rfl) (by rfl)
theorem fae166_8 {es i off : Nat} {l : List PV} : fieldAddrPV Try.prog 166 (.eptr es l i off) 8 = some (.eptr es l i (off + 8)) := fa2_of Try.underlying166 (by rfl) (by exact Try.underlying162) (by exact cells162) (by rfl) (by rfl)
theorem fp166_8 {cs : List PV} : fieldPV Try.prog 166 (.agg cs) 8 = cs[8]? := fpS_of Try.underlying166 (by rfl) (by exact Try.underlying162) (by rfl) (by rfl) cs
theorem fa166_9 {id off : Nat} : fieldAddrPV Try.prog 166 (.ptr id off) 9 = some (.ptr id (off + 9)) := fa1_of Try.underlying166 (by rfl) (by exact Try.underlying163) (by exact cells163) (by rfl) (by rfl)
theorem fae166_9 {es i off : Nat} {l : List PV} : fieldAddrPV Try.prog 166 (.eptr es l i off) 9 = some (.eptr es l i (off + 9)) := fa2_of Try.underlying166 (by rfl) (by exact Try.underlying163) (by exact cells163) (by rfl) (by rfl)
theorem fp166_9 {cs : List PV} : fieldPV Try.prog 166 (.agg cs) 9 = cs[9]? := fpS_of Try.underlying166 (by rfl) (by exact Try.underlying163) (by rfl) (by rfl) cs
theorem fa166_10 {id off : Nat} : fieldAddrPV Try.prog 166 (.ptr id off) 10 = some (.ptr id (off + 10)) := fa1_of Try.underlying166 (by rfl) (by exact Try.underlying164) (by exact cells164) (by rfl) (by rfl)
theorem fae166_10 {es i off : Nat} {l : List PV} : fieldAddrPV Try.prog 166 (.eptr es l i off) 10 = some (.eptr es l i (off + 10)) := fa2_of Try.underlying166 (by rfl) (by exact Try.underlying164) (by exact cells164) (by rfl) (by rfl)
theorem fp166_10 {cs : List PV} : fieldPV Try.prog 166 (.agg cs) 10 = cs[10]? := fpS_of Try.underlying166 (by rfl) (by exact Try.underlying164) (by rfl) (by rfl) cs
theorem lda167 {σ : Sg} {id off : Nat} : loadPV Try.prog σ 167 (.ptr id off) = ldS σ id off := ldS_of Try.underlying167 rfl
theorem ela167 {σ : Sg} {es i off : Nat} {l : List PV} : loadPV Try.prog σ 167 (.eptr es l i off) = elS l i off := elS_of Try.underlying167 rfl
theorem sto167 {σ : Sg} {id off : Nat} {p : PV} : storePV Try.prog σ 167 (.ptr id off) p = stX 1 σ id off p := stX_of Try.underlying167 cells167 p
attribute [go_sem] lda2 ela2 sto2 lda3 ela3 sto3 lda4 ela4 sto4 lda5 ela5 sto5 lda9 ela9 sto9 lda22 ela22 sto22 ia22 iam22 len22 lenm22 bs22 app22 lda23 ela23 sto23 lda25 ela25 sto25 ia25 iam25 len25 lenm25 bs25 app25 lda26 ela26 sto26 fa26_0 fae26_0 fp26_0 fa26_1 fae26_1 fp26_1 fa26_2 fae26_2 fp26_2 fa26_3 fae26_3 fp26_3 fa26_4 fae26_4 fp26_4 bld26 lda27 ela27 sto27 fa27_0 fae27_0 fp27_0 fa27_1 fae27_1 fp27_1 fa27_2 fae27_2 fp27_2 fa27_3 fae27_3 fp27_3 fa27_4 fae27_4 fp27_4 bld27 lda29 ela29 sto29 ia29 iam29 len29 lenm29 bs29 app29 lda32 ela32 sto32 ia32 iam32 len32 lenm32 bs32 app32 lda33 ela33 sto33 lda36 ela36 sto36 ia36 iam36 len36 lenm36 bs36 app36 lda37 ela37 sto37 fa37_0 fae37_0 fp37_0 fa37_1 fae37_1 fp37_1 fa37_2 fae37_2 fp37_2 fa37_3 fae37_3 fp37_3 fa37_4 fae37_4 fp37_4 fa37_5 fae37_5 fp37_5 eqs37 bld37 lda38 ela38 sto38 fa38_0 fae38_0 fp38_0 fa38_1 fae38_1 fp38_1 fa38_2 fae38_2 fp38_2 fa38_3 fae38_3 fp38_3 fa38_4 fae38_4 fp38_4 fa38_5 fae38_5 fp38_5 eqs38 bld38 lda39 ela39 sto39 fa39_0 fae39_0 fp39_0 fa39_1 fae39_1 fp39_1 fa39_2 fae39_2 fp39_2 fa39_3 fae39_3 fp39_3 fa39_4 fae39_4 fp39_4 bld39 lda40 ela40 sto40 fa40_0 fae40_0 fp40_0 fa40_1 fae40_1 fp40_1 fa40_2 fae40_2 fp40_2 fa40_3 fae40_3 fp40_3 fa40_4 fae40_4 fp40_4 bld40 lda41 ela41 sto41 fa41_0 fae41_0 fp41_0 fa41_1 fae41_1 fp41_1 fa41_2 fae41_2 fp41_2 eqs41 bld41 lda42 ela42 sto42 fa42_0 fae42_0 fp42_0 fa42_1 fae42_1 fp42_1 fa42_2 fae42_2 fp42_2 eqs42 bld42 lda48 ela48 sto48 ia48 iam48 len48 lenm48 bs48 app48 lda60 ela60 sto60 ia60 iam60 len60 lenm60 bs60 app60 lda67 ela67 sto67 lda68 ela68 sto68 fa68_0 fae68_0 fp68_0 eqs68 bld68 lda69 ela69 sto69 fa69_0 fae69_0 fp69_0 eqs69 bld69 lda73 ela73 sto73 ia73 iam73 len73 lenm73 bs73 app73 lda75 ela75 sto75 iar75 ix75 lda76 ela76 sto76 fa76_0 fae76_0 fp76_0 fa76_1 fae76_1 fp76_1 bld76 lda77 ela77 sto77 fa77_0 fae77_0 fp77_0 fa77_1 fae77_1 fp77_1 bld77 lda78 ela78 sto78 lda79 ela79 sto79 fa79_0 fae79_0 fp79_0 fa79_1 fae79_1 fp79_1 fa79_2 fae79_2 fp79_2 fa79_3 fae79_3 fp79_3 bld79 lda80 ela80 sto80 fa80_0 fae80_0 fp80_0 fa80_1 fae80_1 fp80_1 fa80_2 fae80_2 fp80_2 fa80_3 fae80_3 fp80_3 bld80 lda86 ela86 sto86 iar86 ix86 lda88 ela88 sto88 fa88_0 fae88_0 fp88_0 fa88_1 fae88_1 fp88_1 fa88_2 fae88_2 fp88_2 eqs88 bld88 lda89 ela89 sto89 fa89_0 fae89_0 fp89_0 fa89_1 fae89_1 fp89_1 fa89_2 fae89_2 fp89_2 eqs89 bld89 lda91 ela91 sto91 lda100 ela100 sto100 lda103 ela103 sto103 ia103 iam103 len103 lenm103 bs103 app103 lda104 ela104 sto104 fa104_0 fae104_0 fp104_0 fa104_1 fae104_1 fp104_1 fa104_2 fae104_2 fp104_2 fa104_3 fae104_3 fp104_3 eqs104 bld104 lda105 ela105 sto105 fa105_0 fae105_0 fp105_0 fa105_1 fae105_1 fp105_1 fa105_2 fae105_2 fp105_2 fa105_3 fae105_3 fp105_3 eqs105 bld105 lda111 ela111 sto111 lda116 ela116 sto116 lda117 ela117 sto117 ia117 iam117 len117 lenm117 bs117 app117 lda126 ela126 sto126 lda134 ela134 sto134 lda141 ela141 sto141 lda144 ela144 sto144 lda148 ela148 sto148 lda153 ela153 sto153 fa153_3 fae153_3 fp153_3 lda154 ela154 sto154 fa154_3 fae154_3 fp154_3 lda155 ela155 sto155 lda156 ela156 sto156 lda157 ela157 sto157 lda159 ela159 sto159 lda160 ela160 sto160 lda162 ela162 sto162 lda163 ela163 sto163 lda164 ela164 sto164 lda165 ela165 sto165 fa165_2 fae165_2 fp165_2 fa165_3 fae165_3 fp165_3 fa165_4 fae165_4 fp165_4 fa165_5 fae165_5 fp165_5 fa165_6 fae165_6 fp165_6 fa165_8 fae165_8 fp165_8 fa165_9 fae165_9 fp165_9 fa165_10 fae165_10 fp165_10 lda166 ela166 sto166 fa166_2 fae166_2 fp166_2 fa166_3 fae166_3 fp166_3 fa166_4 fae166_4 fp166_4 fa166_5 fae166_5 fp166_5 fa166_6 fae166_6 fp166_6 fa166_8 fae166_8 fp166_8 fa166_9 fae166_9 fp166_9 fa166_10 fae166_10 fp166_10 lda167 ela167 sto167 zero2 zero3 zero4 zero5 zero9 zero22 zero23 zero25 zero26 zero27 zero29 zero32 zero33 zero36 zero37 zero38 zero39 zero40 zero41 zero42 zero48 zero60 zero67 zero68 zero69 zero73 zero75 zero76 zero77 zero78 zero79 zero80 zero86 zero88 zero89 zero91 zero100 zero103 zero104 zero105 zero111 zero116 zero117 zero126 zero134 zero141 zero144 zero148 zero153 zero154 zero155 zero156 zero157 zero159 zero160 zero162 zero163 zero164 zero165 zero166 zero167
theorem seqN {K : Env → Sg → Prop} {Q : Exit → Env → Sg → Prop} {E : Env} {σ : Sg} : Seq K Q .normal E σ = K E σ := rfl
theorem seqR {K : Env → Sg → Prop} {Q : Exit → Env → Sg → Prop} {E : Env} {σ : Sg} : Seq K Q .ret E σ = Q .ret E σ := rfl
theorem seqX {K : Env → Sg → Prop} {Q : Exit → Env → Sg → Prop} {E : Env} {σ : Sg} {i : Nat} : Seq K Q (.exit i) E σ = Q (.exit i) E σ := rfl
theorem blkN {i : Nat} {Q : Exit → Env → Sg → Prop} {E : Env} {σ : Sg} : InBlock i Q .normal E σ = Q .normal E σ := rfl
theorem blkR {i : Nat} {Q : Exit → Env → Sg → Prop} {E : Env} {σ : Sg} : InBlock i Q .ret E σ = Q .ret E σ := rfl
theorem blkX {i j : Nat} {Q : Exit → Env → Sg → Prop} {E : Env} {σ : Sg} : InBlock i Q (.exit j) E σ = if j = i then Q .normal E σ else Q (.exit j) E σ := rfl
theorem range0 : List.range 0 = [] := rfl
theorem range1 : List.range 1 = [0] := rfl
theorem range2 : List.range 2 = [0, 1] := rfl
theorem range3 : List.range 3 = [0, 1, 2] := rfl
theorem range4 : List.range 4 = [0, 1, 2, 3] := rfl
theorem range5 : List.range 5 = [0, 1, 2, 3, 4] := rfl
theorem range6 : List.range 6 = [0, 1, 2, 3, 4, 5] := rfl
theorem range7 : List.range 7 = [0, 1, 2, 3, 4, 5, 6] := rfl
theorem range8 : List.range 8 = [0, 1, 2, 3, 4, 5, 6, 7] := rfl
theorem range9 : List.range 9 = [0, 1, 2, 3, 4, 5, 6, 7, 8] := rfl
theorem range10 : List.range 10 = [0, 1, 2, 3, 4, 5, 6, 7, 8, 9] := rfl
theorem range11 : List.range 11 = [0, 1, 2, 3, 4, 5, 6, 7, 8, 9, 10] := rfl
theorem range12 : List.range 12 = [0, 1, 2, 3, 4, 5, 6, 7, 8, 9, 10, 11] := rfl
theorem range13 : List.range 13 = [0, 1, 2, 3, 4, 5, 6, 7, 8, 9, 10, 11, 12] := rfl
theorem range14 : List.range 14 = [0, 1, 2, 3, 4, 5, 6, 7, 8, 9, 10, 11, 12, 13] := rfl
theorem range15 : List.range 15 = [0, 1, 2, 3, 4, 5, 6, 7, 8, 9, 10, 11, 12, 13, 14] := rfl
theorem range16 : List.range 16 = [0, 1, 2, 3, 4, 5, 6, 7, 8, 9, 10, 11, 12, 13, 14, 15] := rfl
attribute [go_sem] range0 range1 range2 range3 range4 range5 range6 range7 range8 range9 range10 range11 range12 range13 range14 range15 range16
attribute [go_sem low] Sg.push_new Sg.pushRoom_new Sg.pushY_new
attribute [go_sem] Sg.ext_ext
attribute [go_sem] seqN seqR seqX blkN blkR blkX
attribute [go_sem] GL GD GWant_true GWant_false GOpt_some GWho_nobody GWho_fn GWho_yield GOr_true wantedPV whom effOp pureOp isNilC isNilV ev constPV constPV0 Option.map Option.bind decide_false ite_true ite_false eq_self gt_iff_lt ge_iff_le Env.put Env.get dstOK Nat.reduceLT decide_true Nat.reduceEqDiff argsEnv Nat.reduceAdd binPV bin arith isShift pickPV keep List.map Bool.true_and Bool.and_true reduceIte List.getElem?_toArray List.getElem?_cons_succ List.getElem?_cons_zero beq_true beq_false Bool.not_true Bool.not_false Bool.false_eq_true true_and and_true undefs Dem Option.map_some Option.map_none builtinPV foldMax foldMin unPV extractPV oneOr Sg.push_ext Sg.pushRoom_ext Sg.len_ext Sg.rooms_ext Sg.ys_ext Sg.pushY_ext Sg.ysget_ext Sg.ysget_ext0 Sg.setY_ext Sg.setY_ext0 Sg.popY_ext Sg.popY_ext0 ldS_ext ldS_ext0 ldA_ext ldA_ext0 stX_ext stX_ext0 List.cons_append List.nil_append List.length_cons List.length_nil Nat.zero_add Nat.add_zero List.set_cons_zero List.set_cons_succ PV.cells_agg PV.cells_int PV.cells_bool PV.cells_str PV.cells_isl PV.cells_nilsl PV.cells_func PV.cells_ptr PV.cells_undef defd PV.scalar List.all_cons List.all_nil BEq.rfl Nat.le_refl Nat.reduceLeDiff putCells fillPV List.take_succ_cons List.take_zero List.drop_succ_cons List.drop_zero and_self Nat.reduceMul Nat.reducePow Nat.lt_add_one Nat.reduceBEq List.length_map List.take_nil List.drop_nil
theorem setVar_some {σ : Sg} {id i : Nat} {cs cs' x : List PV} (hid : σ.store[id]? = some (some cs)) (h : (σ.setVar id cs').store[i]? = some (some x)) : (i = id ∧ x = cs') ∨ (i ≠ id ∧ σ.store[i]? = some (some x)) := by
 have h' : (σ.store.set id (some cs'))[i]? = some (some x) := h
 rw [List.getElem?_set] at h'
 by_cases e : id = i
 ·subst e
  rw [if_pos rfl, if_pos (List.getElem?_eq_some_iff.1 hid).1] at h'
  injection h' with h'
  injection h' with h'
  exact .inl ⟨rfl, h'.symm⟩
 ·rw [if_neg e] at h'
  exact .inr ⟨fun e' => e e'.symm, h'⟩
theorem SR.reread {Ψ : Ty} {σ : Sg} {w : World} (h : SR Ψ σ w) {id : Nat} {cs cs' : List PV} (hid : σ.store[id]? = some (some cs))
  (hv : ∀ b, Ψ.β[id]? = some b → Keeps Ψ w b cs → Keeps Ψ w b cs') : SR Ψ (σ.setVar id cs') w := by
 have old : ∀ (i : Nat) (x : List PV), (σ.setVar id cs').store[i]? = some (some x) → ∃ y, σ.store[i]? = some (some y) := fun i x hx => by
  rcases setVar_some hid hx with ⟨rfl, _⟩ | ⟨_, h'⟩
  ·exact ⟨_, hid⟩
  ·exact ⟨_, h'⟩
 refine ⟨h.base, h.imm, by rw [sv_len]; exact h.blen, ?_, ?_, ?_, h.roomsApart, h.histlt, h.histle, h.βlt, h.yok, h.ylen', h.dok, ?_, h.szok⟩
 ·intro i x b hx hb
  rcases setVar_some hid hx with ⟨rfl, rfl⟩ | ⟨_, h'⟩
  ·obtain ⟨a1, a2, a0⟩ := h.block i cs b hid hb
   exact ⟨a1, a2, hv b hb a0⟩
  ·exact h.block i x b h' hb
 ·intro i i' x x' b hx hx' hb hb'
  obtain ⟨y, hy⟩ := old i x hx
  obtain ⟨y', hy'⟩ := old i' x' hx'
  exact h.apart i i' y y' b hy hy' hb hb'
 ·intro r n b e c es hr hh hlt
  obtain ⟨a1, a2, a3, a4⟩ := h.room r n b e c es hr hh hlt
  refine ⟨a1, a2, fun i hi x hx => ?_, a4⟩
  obtain ⟨y, hy⟩ := old i x hx
  exact a3 i hi y hy
 ·intro b c hm
  obtain ⟨a1, a2, a3, a4, a5⟩ := h.rok b c hm
  refine ⟨a1, a2, fun i hi x hx => ?_, a4, a5⟩
  obtain ⟨y, hy⟩ := old i x hx
  exact a3 i hi y hy
theorem Keeps.setRo {Ψ : Ty} {w : World} {b off : Nat} {cs : List PV} {p : PV} (h : Keeps Ψ w b cs) (hp : cs[off]? = some p) : Keeps Ψ w b (cs.set off p.ro) := by
 have hlt : off < cs.length := (List.getElem?_eq_some_iff.1 hp).1
 have at' : ∀ (j : Nat) (q : PV), (cs.set off p.ro)[j]? = some q → (j = off ∧ q = p.ro) ∨ cs[j]? = some q := by
  intro j q hq
  rw [List.getElem?_set] at hq
  by_cases e : off = j
  ·rw [if_pos e, if_pos hlt] at hq
   injection hq with hq
   exact .inl ⟨e.symm, hq.symm⟩
  ·rw [if_neg e] at hq
   exact .inr hq
 rcases h with ⟨c, a3, a4, a5⟩ | ⟨arr, es, rfl, a3, a4, a5⟩ | ⟨mid, r, n, seen, rfl, a3, a4⟩
 ·refine .inl ⟨c, a3, by simpa using a4, fun j q v h1 h2 => ?_⟩
  rcases at' j q h1 with ⟨rfl, rfl⟩ | h1
  ·exact (a5 j p v hp h2).ro
  ·exact a5 j q v h1 h2
 ·rcases off with _ | off
  ·simp at hp
   subst hp
   exact .inr (.inl ⟨arr, es, rfl, a3, a4, a5⟩)
  ·refine .inr (.inl ⟨arr, es.set off p.ro, rfl, a3, by simpa using a4, fun j q e h1 h2 => ?_⟩)
   simp only [List.getElem?_cons_succ] at hp
   rcases at' (j + 1) q (by simpa using h1) with ⟨hj, rfl⟩ | h1
   ·have : j = off := by omega
    subst this
    obtain ⟨g1, k, v, rfl, g2, g3⟩ := a5 j p e hp h2
    exact ⟨g1, k.ro, v.ro, rfl, g2.ro, g3.ro⟩
   ·exact a5 j q e (by simpa using h1) h2
 ·rcases off with _ | off
  ·simp at hp
   subst hp
   exact .inr (.inr ⟨mid, r, n, seen, rfl, a3, a4⟩)
  ·simp at hp
theorem Weak.roomV {N : Nat} {lo : Nat × Nat} {E : Env} {σ : Sg} {id off es : Nat} {cs l : List PV} (hid : σ.store[id]? = some (some cs)) (hc : cs[off]? = some (.isl l .exact)) (hes : ∀ q, q ∈ l → q.cells.length = es) :
  Weak N lo E σ E ((σ.setVar id (cs.set off (.isl l (.tok σ.rooms.length l.length es)))).pushRoom l.length) := by
 intro Ψ0 Ψ D a w hb le hr
 obtain ⟨b, hβ⟩ : ∃ b, Ψ.β[id]? = some b := by
  have : id < Ψ.β.length := by rw [hr.sg.blen]; exact (List.getElem?_eq_some_iff.1 hid).1
  exact ⟨Ψ.β[id], by simp [this]⟩
 obtain ⟨_, _, h0⟩ := hr.sg.block id cs b hid hβ
 obtain ⟨c, hbi, hcl, hcv⟩ : ∃ c, blockIs w b c ∧ cs.length ≤ c.size ∧ ∀ (j : Nat) (p : PV) (v : Value), cs[j]? = some p → c[j]? = some v → VR Ψ p v := by
  rcases h0 with h0 | ⟨arr, es, rfl, _, g1, g2⟩ | ⟨mid, r, n, seen, rfl, _, _⟩
  ·exact h0
  rotate_left
  ·rcases off with _ | off
   ·simp at hc
   ·simp at hc
  ·rcases off with _ | off
   ·simp at hc
   simp only [List.getElem?_cons_succ] at hc
   have hlt : off < arr.size := by rw [g1]; exact (List.getElem?_eq_some_iff.1 hc).1
   obtain ⟨_, k, v, e, _⟩ := g2 off _ arr[off] hc (by simp [hlt])
   cases e
 have hoff : off < cs.length := (List.getElem?_eq_some_iff.1 hc).1
 have hoc : off < c.size := Nat.lt_of_lt_of_le hoff hcl
 have hv : VR Ψ (.isl l .exact) c[off] := hcv off _ _ hc (by simp [hoc])
 have fin : ∀ x : Option (Nat × Nat × Nat × Nat), (∀ b e c s, x = some (b, e, c, s) → ¬ e < c) → (∀ Ψ', Ψ.le Ψ' → Ψ'.hist σ.rooms.length l.length = some x → VR Ψ' (.isl l (.tok σ.rooms.length l.length es)) c[off]) →
   ∃ Ψ', Ψ0.le Ψ' ∧ Rel N D Ψ' E ((σ.setVar id (cs.set off (.isl l (.tok σ.rooms.length l.length es)))).pushRoom l.length) a w := by
  intro x hx hvr
  obtain ⟨le', hs'⟩ := hr.sg.newRoom l.length x (fun b e c s hh hlt => absurd hlt (hx b e c s hh))
  have hnew := hvr _ le' (by simp [Ty.addHist])
  have hid' : (σ.pushRoom l.length).store[id]? = some (some cs) := hid
  have hs2 := hs'.reread (cs' := cs.set off (.isl l (.tok σ.rooms.length l.length es))) hid' (fun b2 hb2 h2 => by
   have e1 : b2 = b := by
    have := le'.β id b hβ
    rw [hb2] at this; injection this
   subst e1
   obtain ⟨g1, g2⟩ := h2.cells hbi
   refine .inl ⟨c, hbi, by simpa using g1, fun j p v h1 h2 => ?_⟩
   rw [List.getElem?_set] at h1
   by_cases hj : off = j
   ·subst hj
    rw [if_pos rfl, if_pos hoff] at h1
    injection h1 with h1
    subst h1
    have : v = c[off] := by simpa [hoc] using h2.symm
    rw [this]; exact hnew
   ·rw [if_neg hj] at h1
    exact g2 j p v h1 h2)
  refine ⟨_, le.trans le', hr.size, fun t' => (hr.env t').mono le', hs2, fun d hd => le'.ds _ (hr.dsub d hd), ?_⟩
  obtain ⟨rs, r1, r2, r3⟩ := hr.defs
  exact ⟨rs, r1, r2, fun r hm => ⟨le'.ds _ (r3 r hm).1, (r3 r hm).2⟩⟩
 generalize hx : c[off] = x at hv fin
 cases hv with
 | islnil _ a0 _ => exact fin none (fun b e c s h => by cases h) fun Ψ' _ hh => .islnil _ a0 ⟨_, hh⟩
 | isl es0 _ _ b o cap vals hs h1 h2 hc' ho =>
  have hcap : cap = l.length := ho
  subst hcap
  refine fin (some (b, o + l.length * es, o + l.length * es, es)) (fun b e c s h => by injection h with h; injection h with _ h; injection h with h1 h; injection h with h2 _; omega) fun Ψ' le' hh => ?_
  by_cases hl : l = []
  ·subst hl
   exact .isl es [] _ b o 0 vals (fun k e h => by simp at h) (fun k e j p h => by simp at h) (fun k e j p h => by simp at h) (Nat.le_refl _) ⟨rfl, hh⟩
  ·have : es0 = es := by
    cases l with
    | nil => exact absurd rfl hl
    | cons q l => rw [← hs 0 q rfl]; exact hes q (by simp)
   subst this
   exact .isl es0 l _ b o _ vals hs (fun k e j p q1 q2 => le'.imm _ _ _ (h1 k e j p q1 q2)) (fun k e j p q1 q2 => (h2 k e j p q1 q2).mono le') (Nat.le_refl _) ⟨rfl, hh⟩
theorem Weak.roomX {N : Nat} {lo : Nat × Nat} {E : Env} {σ : Sg} {l : List (Option (List PV))} {rm : List Nat} {ys : List LState} {j off es : Nat} {cs m : List PV} (hid : l[j]? = some (some cs)) (hc : cs[off]? = some (.isl m .exact)) (hes : ∀ q, q ∈ m → q.cells.length = es) :
  Weak N lo E (σ.ext l rm ys) E (σ.ext (l.set j (some (cs.set off (.isl m (.tok (σ.rooms.length + rm.length) m.length es))))) (rm ++ [m.length]) ys) := by
 have h := Weak.roomV (N := N) (lo := lo) (E := E) (σ := σ.ext l rm ys) (id := σ.store.length + j) (off := off) (es := es) (cs := cs) (l := m) (by rw [Sg.get_ext]; exact hid) hc hes
 rw [Sg.rooms_ext, Sg.set_ext, Sg.pushRoom_ext] at h
 exact h
theorem Weak.roomSV {N : Nat} {lo : Nat × Nat} {E : Env} {σ : Sg} {d : Nat} {ds : List PV} {l : List (Option (List PV))} {rm : List Nat} {ys : List LState} {j off es : Nat} {cs m : List PV} (hid : l[j]? = some (some cs)) (hc : cs[off]? = some (.isl m .exact)) (hes : ∀ q, q ∈ m → q.cells.length = es) :
  Weak N lo E ((σ.setVar d ds).ext l rm ys) E ((σ.setVar d ds).ext (l.set j (some (cs.set off (.isl m (.tok (σ.rooms.length + rm.length) m.length es))))) (rm ++ [m.length]) ys) := by
 have h := Weak.roomX (N := N) (lo := lo) (E := E) (σ := σ.setVar d ds) (rm := rm) (ys := ys) hid hc hes
 exact h
theorem Weak.cutSV {N : Nat} {lo : Nat × Nat} {E : Env} {σ : Sg} {d : Nat} {ds : List PV} {l : List (Option (List PV))} {rm : List Nat} {ys : List LState} (k j : Nat) (h1 : lo.1 ≤ σ.store.length + k) (h2 : lo.2 ≤ σ.rooms.length + j) (hcl : CleanSg σ) (hds : CleanAll σ.store.length σ.rooms.length σ.ys.length ds)
  (hc : CleanLs (σ.store.length + k) (σ.rooms.length + j) (σ.ys.length + ys.length) (l.take k)) (hE : CleanEs (σ.store.length + k) (σ.rooms.length + j) (σ.ys.length + ys.length) E) :
  Weak N lo E ((σ.setVar d ds).ext l rm ys) E ((σ.setVar d ds).ext (l.take k) (rm.take j) ys) := by
 have h := Weak.cutX (N := N) (lo := lo) (E := E) (σ := σ.setVar d ds) (l := l) (rm := rm) (ys := ys) k j (by rw [sv_len]; exact h1) h2 (CleanSg_set hcl hds) (by rw [sv_len]; exact hc) (by rw [sv_len]; exact hE)
 exact h
theorem Weak.roV {N : Nat} {lo : Nat × Nat} {E : Env} {σ : Sg} {id off : Nat} {cs : List PV} {p : PV} (hid : σ.store[id]? = some (some cs)) (hc : cs[off]? = some p) : Weak N lo E σ E (σ.setVar id (cs.set off p.ro)) := by
 intro Ψ0 Ψ D a w hb le hr
 have hs2 := hr.sg.reread (cs' := cs.set off p.ro) hid (fun b hb2 h2 => h2.setRo hc)
 exact ⟨Ψ, le, hr.size, hr.env, hs2, hr.dsub, hr.defs⟩
theorem Weak.roX {N : Nat} {lo : Nat × Nat} {E : Env} {σ : Sg} {l : List (Option (List PV))} {rm : List Nat} {ys : List LState} {j off : Nat} {cs : List PV} {p : PV} (hid : l[j]? = some (some cs)) (hc : cs[off]? = some p) :
  Weak N lo E (σ.ext l rm ys) E (σ.ext (l.set j (some (cs.set off p.ro))) rm ys) := by
 have h := Weak.roV (N := N) (lo := lo) (E := E) (σ := σ.ext l rm ys) (id := σ.store.length + j) (off := off) (cs := cs) (p := p) (by rw [Sg.get_ext]; exact hid) hc
 rw [Sg.set_ext] at h
 exact h
theorem op_step {D : List Nat} {P : Program} {N : Nat} {rd : Option Nat} {ops : Array Oper} {Ψ0 : Ty} {Q : Exit → Act → World → Prop} {E : Env} {σ : Sg} {Ψ : Ty} {a : Act} {w : World} {o : Oper} {i : Nat} {is : List Nat} {v : PV}
  (hr : Rel N D Ψ E σ a w) (ho : ops[i]? = some o) (hd : dstOK N o = true) (hg : o.guard = none) (hnd : ∀ c, o.op ≠ .defer c) {x : Value} (hx : (execOp a.eval o).run P w = .ok (.value x) w) (hv : VR Ψ v x)
  (k : ∀ a', Rel N D Ψ (E.put o.dst v) σ a' w → wpOpsIn (FnOf Ψ0 rd) 0 P ops Q is a' w) : wpOpsIn (FnOf Ψ0 rd) 0 P ops Q (i :: is) a w := by
 simp only [wpOpsIn, ho]
 have hw : wantedPV ops E o = some true := by simp [wantedPV, hg]
 rw [wanted_ok hw hr.env]
 simp only [if_true]
 refine ⟨fun f _ => FnOf_fn _ _ _, ?_⟩
 rw [Oper.semAt_eq _ _ _ hnd, hx]
 exact k _ (hr.put (Ty.le.refl _) hr.sg hd hv)
theorem W_isnil {P : Program} {Y : YEnv} {N : Nat} {rd : Option Nat} {lo : Nat × Nat} {id d1 d2 : Nat} {x : Operand} {t ty1 ty2 e : TypeId} {p1 p2 : String} {af1 af2 : Array Edge} {sh : TypeId} {E : Env} {σ : Sg} {Q : Exit → Env → Sg → Prop} {l : List PV} {own : Own} (ks : List Nat)
  (h1 : d1 < N) (h2 : d2 < N) (hx : ev E x = .isl l own) (ht : P.underlying t = some (.slice e))
  (h : ∀ b : Bool, (b = true → l = []) → Q .normal (keep ks ((d2, .bool b) :: (d1, .isl l own) :: E)) σ) :
  W P Y N rd lo (.region id #[{ dst := some d1, op := .move x, type := ty1, pos := p1, after := af1, guard := none }, { dst := some d2, op := .binOp .eql t (.tmp d1) (.const (.slice none 0 0)) sh, type := ty2, pos := p2, after := af2, guard := none }] false) E σ Q := by
 intro Ψ0 D _ hy _ Ψ a w le hr
 refine wpIn_region ?_
 have hv := ev_ok hr.env x
 rw [hx] at hv
 refine op_step (is := [1]) (v := .isl l own) hr rfl (by simp [dstOK, h1]) rfl (fun c e => by cases e) (x := a.eval x) rfl hv fun a1 hr1 => ?_
 have hv1 : VR Ψ (.isl l own) (a1.tmps.getD d1 undef) := by
  have : VR Ψ ((Env.put E (some d1) (.isl l own)).get d1) (a1.tmps.getD d1 undef) := hr1.env d1
  rw [show (Env.put E (some d1) (.isl l own)).get d1 = .isl l own by simp [Env.get]] at this
  exact this
 have hval : ∃ q n c, a1.tmps.getD d1 undef = .slice q n c ∧ (q.isNone = true → l = []) := by
  generalize a1.tmps.getD d1 undef = z at hv1
  cases hv1 with
  | islnil _ _ _ => exact ⟨_, _, _, rfl, fun _ => rfl⟩
  | isl es _ _ b o cap vals hs h1 h2 hc ho => exact ⟨_, _, _, rfl, fun h => by simp at h⟩
 obtain ⟨q, n, c, hz, hq⟩ := hval
 have he : (a1.eval (.tmp d1)) = .slice q n c := hz
 have hrun : ∀ o : Oper, o.op = .binOp .eql t (.tmp d1) (.const (.slice none 0 0)) sh → (execOp a1.eval o).run P w = .ok (.value (.bool q.isNone)) w := by
  intro o ho
  have e1 : execOp a1.eval o = (do pure (.value (← (do eqGuard .eql t (.tmp d1) (.const (.slice none 0 0)) (a1.eval (.tmp d1)) (a1.eval (.const (.slice none 0 0))); binOp .eql t (a1.eval (.tmp d1)) (a1.eval (.const (.slice none 0 0))) : Sem Value)))) := by
   unfold execOp; rw [ho]
  have he2 : a1.eval (.const (.slice none 0 0)) = .slice none 0 0 := rfl
  rw [e1, he, he2]
  have hg : (eqGuard .eql t (.tmp d1) (.const (.slice none 0 0)) (.slice q n c) (.slice none 0 0)).run P w = .ok () w := rfl
  have hb : (binOp .eql t (.slice q n c) (.slice none 0 0)).run P w = .ok (.bool q.isNone) w := by
   have heq : (Op.equal t (.slice q n c) (.slice none 0 0)).run P w = .ok q.isNone w := by
    unfold Op.equal
    show (Op.equalIn (9999 + 1) t (.slice q n c) (.slice none 0 0)).run P w = _
    unfold Op.equalIn
    rw [run_bind_ok (run_und ht)]
    cases q <;> rfl
   show (do pure (.bool (← Op.equal t (.slice q n c) (.slice none 0 0))) : Sem Value).run P w = _
   rw [run_bind_ok heq]; rfl
  have hgb : (do eqGuard .eql t (.tmp d1) (.const (.slice none 0 0)) (.slice q n c) (.slice none 0 0); binOp .eql t (.slice q n c) (.slice none 0 0) : Sem Value).run P w = .ok (.bool q.isNone) w := by
   rw [run_bind_ok hg]; exact hb
  rw [run_bind_ok hgb]
  rfl
 refine op_step (is := []) (v := .bool q.isNone) hr1 rfl (by simp [dstOK, h2]) rfl (fun c e => by cases e) (x := .bool q.isNone) (hrun _ rfl) (.bool _) fun a2 hr2 => ?_
 exact ⟨_, σ, Ψ, le, hr2.keep ks, Below.refl _ _, h _ hq⟩
theorem slHi_of {P : Program} {t e : TypeId} {d : TypeDesc} (h : P.underlying t = some (.slice e)) (he : P.underlying e = some d) (l : List PV) (own : Own) (k : IntKind) (n : Int) :
  slicePV P t (.isl l own) none (some (.int k n)) none = if 0 ≤ n then if n.toNat ≤ l.length then some (.isl (l.take n.toNat) (sliceOwn own 0 n.toNat l.length)) else none else none := by
 unfold slicePV
 rw [h]
 simp only [he, bnd]
 by_cases hn : 0 ≤ n
 ·simp [hn]
 ·simp [hn]
theorem sliceOwn_ro {lo h len : Nat} : sliceOwn .ro lo h len = .ro := by unfold sliceOwn; split <;> rfl
theorem sliceOwn_self {own : Own} {lo len : Nat} : sliceOwn own lo len len = own := by simp [sliceOwn]
attribute [go_sem] sliceOwn_ro sliceOwn_self
theorem slLo_of {P : Program} {t e : TypeId} {d : TypeDesc} {c : Nat} (h : P.underlying t = some (.slice e)) (he : P.underlying e = some d) (hc : P.cellsOf e = c) {α : Type} {f : α → PV} (hf : ∀ x, (f x).cells.length = c) (xs : List α) (own : Own) (k : IntKind) (n : Int) :
  slicePV P t (.isl (xs.map f) own) (some (.int k n)) none none = if 0 ≤ n then if n.toNat ≤ xs.length then some (.isl ((xs.drop n.toNat).map f) own) else none else none := by
 have hall : (xs.map f).all (fun el => el.cells.length == c) = true := by
  rw [List.all_eq_true]
  intro p hp
  obtain ⟨x, _, rfl⟩ := List.mem_map.1 hp
  simp [hf]
 unfold slicePV
 rw [h]
 simp only [he, bnd, hc]
 by_cases hn : 0 ≤ n
 ·simp only [hn, if_true]
  by_cases hl : n.toNat ≤ xs.length
  ·rw [if_pos ⟨by simpa using hl, Nat.le_refl _, .inr hall⟩, if_pos hl, sliceOwn_self, ← List.map_drop, List.take_of_length_le (by simp)]
  ·rw [if_neg (fun q => hl (by simpa using q.1)), if_neg hl]
 ·simp [hn]
theorem slBoth_of {P : Program} {t e : TypeId} {d : TypeDesc} {c : Nat} (h : P.underlying t = some (.slice e)) (he : P.underlying e = some d) (hc : P.cellsOf e = c) {α : Type} {f : α → PV} (hf : ∀ x, (f x).cells.length = c) (xs : List α) (own : Own) (k k' : IntKind) (n m : Int) :
  slicePV P t (.isl (xs.map f) own) (some (.int k n)) (some (.int k' m)) none = if 0 ≤ n then if 0 ≤ m then if n.toNat ≤ m.toNat ∧ m.toNat ≤ xs.length then some (.isl (((xs.drop n.toNat).take (m.toNat - n.toNat)).map f) (sliceOwn own n.toNat m.toNat xs.length)) else none else none else none := by
 have hall : (xs.map f).all (fun el => el.cells.length == c) = true := by
  rw [List.all_eq_true]
  intro p hp
  obtain ⟨x, _, rfl⟩ := List.mem_map.1 hp
  simp [hf]
 unfold slicePV
 rw [h]
 simp only [he, bnd, hc]
 by_cases hn : 0 ≤ n
 ·by_cases hm : 0 ≤ m
  ·simp only [hn, hm, if_true]
   by_cases hl : n.toNat ≤ m.toNat ∧ m.toNat ≤ xs.length
   ·rw [if_pos ⟨hl.1, by simpa using hl.2, .inr hall⟩, if_pos hl]
    simp only [List.length_map, ← List.map_drop, ← List.map_take]
   ·rw [if_neg (fun q => hl ⟨q.1, by simpa using q.2.1⟩), if_neg hl]
  ·simp [hn, hm]
 ·simp [hn]
section
variable {P : Program} {t e : TypeId} {d : TypeDesc} {c b : Nat} {σ : Sg} {id len es : Nat}
theorem iaG_of (h : P.underlying t = some (.slice e)) (he : P.underlying e = some d) (hc : P.cellsOf e = c) (kd : IntKind) (len : Nat) (n : Int) : indexAddrPV P t (.gsl id len es) (.int kd n) = iaM c id 0 len n := by
 simp [indexAddrPV, h, he, hc, iaM]
theorem lenG_of (h : P.underlying t = some (.slice e)) (n : Nat) : lenPV P t (.gsl id n es) = some (.int .i64 n) := by simp [lenPV, h]
theorem lenN_of (h : P.underlying t = some (.slice e)) : lenPV P t .gnil = some (.int .i64 0) := by simp [lenPV, h]
def appG (c b : Nat) (σ : Sg) (x : PV) (m : List PV) : Option (PV × Sg) :=
  if m.all (fun q => (q.cells.length == c) && q.cells.all PV.scalar) && decide (0 < m.length) then
    (match x with
     | .gnil => if m.length * b ≤ 2 ^ 47 then some (.gsl σ.store.length m.length c, σ.push (rowC m)) else none
     | .gsl id len es => match σ.store[id]? with
       | some (some cs) => if es = c ∧ len * es ≤ cs.length ∧ (len + m.length) * b ≤ 2 ^ 47 then some (.gsl σ.store.length (len + m.length) es, (σ.drop id).push (cs.take (len * es) ++ rowC m)) else none
       | _ => none
     | _ => none)
  else none
theorem appG_of {zs : List PV} {x : PV} {m : List PV} {own : Own} (h : P.underlying t = some (.slice e)) (he : P.underlying e = some d) (hc : P.cellsOf e = c) (hb : P.bytesOf e = b) (hb0 : b ≠ 0) (hc0 : 0 < c) (hz : zeroPV P e = some zs) (hzl : zs.length = c) :
  appendG P σ t t x (.isl m own) = appG c b σ x m := by
 unfold appendG appG
 rw [h]
 simp only [he, hc, hb, hz, hzl, Option.isSome_some, Bool.true_and, Option.map_some, BEq.rfl, Bool.and_true, hb0, hc0, ne_eq, not_false_eq_true, and_self, decide_true]
 rfl
theorem appG_nil {m : List PV} (h1 : m.all (fun q => (q.cells.length == c) && q.cells.all PV.scalar) = true) (h2 : 0 < m.length) (h3 : m.length * b ≤ 2 ^ 47) : appG c b σ .gnil m = some (.gsl σ.store.length m.length c, σ.push (rowC m)) := by
 simp only [appG, h1, h2, h3, decide_true, Bool.and_true, if_true]
theorem appG_more {m cs : List PV} (hs : σ.store[id]? = some (some cs)) (hl : cs.length = len * c) (h1 : m.all (fun q => (q.cells.length == c) && q.cells.all PV.scalar) = true) (h2 : 0 < m.length) (h3 : (len + m.length) * b ≤ 2 ^ 47) :
  appG c b σ (.gsl id len c) m = some (.gsl σ.store.length (len + m.length) c, (σ.drop id).push (cs ++ rowC m)) := by
 simp only [appG, h1, h2, decide_true, Bool.and_true, if_true, hs]
 rw [if_pos ⟨trivial, by omega, h3⟩, List.take_of_length_le (by omega)]
end
theorem get_put1 (E : Env) (t : Nat) (v : PV) (t' : Nat) : (E.put (some t) v).get t' = if t' = t then v else E.get t' := by
 simp only [Env.put_some, Env.get]
 by_cases h : t' = t
 ·subst h; simp
 ·simp [h, Ne.symm h]
theorem rowC_at {es : Nat} : ∀ {l : List PV} (_ : ∀ q ∈ l, q.cells.length = es) {k j : Nat} {q p : PV}, l[k]? = some q → q.cells[j]? = some p → (rowC l)[k * es + j]? = some p := by
 intro l
 induction l with
 | nil => intro _ k j q p h; simp at h
 | cons a l ih =>
  intro hl k j q p h1 h2
  have ha := hl a (by simp)
  have e : rowC (a :: l) = a.cells ++ rowC l := by simp [rowC]
  rw [e]
  cases k with
  | zero =>
   simp at h1
   subst h1
   rw [Nat.zero_mul, Nat.zero_add, List.getElem?_append_left (List.getElem?_eq_some_iff.1 h2).1]
   exact h2
  | succ k =>
   have := ih (fun q hq => hl q (by simp [hq])) (by simpa using h1) h2
   rw [List.getElem?_append_right (by rw [ha, Nat.add_mul]; omega), ha, show (k + 1) * es + j - es = k * es + j by rw [Nat.add_mul]; omega]
   exact this
theorem Sg.drop_ext {σ : Sg} {l : List (Option (List PV))} {rm : List Nat} {ys : List LState} (j : Nat) : (σ.ext l rm ys).drop (σ.store.length + j) = σ.ext (l.set j none) rm ys := by
 simp [Sg.drop, Sg.ext, List.set_append]
theorem Sg.drop_ext0 {σ : Sg} {l : List (Option (List PV))} {rm : List Nat} {ys : List LState} : (σ.ext l rm ys).drop σ.store.length = σ.ext (l.set 0 none) rm ys := Sg.drop_ext 0
attribute [go_sem] Sg.drop_ext Sg.drop_ext0
theorem Weak.freeze {N : Nat} {lo : Nat × Nat} {E : Env} {σ : Sg} {t id len es : Nat} {l : List PV} (ht : E.get t = .gsl id len es) (hs : σ.store[id]? = some (some (rowC l))) (hl : l.length = len) (hes : ∀ q ∈ l, q.cells.length = es) :
  Weak N lo E σ (E.put (some t) (.isl l .ro)) (σ.drop id) := by
 intro Ψ0 Ψ D a w hb le hr
 have hv := hr.env t
 rw [ht] at hv
 generalize hx : a.tmps.getD t undef = x at hv
 cases hv with
 | gsl _ _ _ b cap hβ hz1 hz0 hc =>
 obtain ⟨_, c, hbk, _⟩ := hr.sg.szok b 0 hz0
 obtain ⟨_, _, hkp⟩ := hr.sg.block id _ b hs hβ
 obtain ⟨a4, a5⟩ := hkp.cells hbk
 obtain ⟨le2, hs2⟩ := hr.sg.freeze hs hβ hbk
 refine ⟨_, le.trans le2, hr.size, fun t' => ?_, hs2, fun d hd => le2.ds _ (hr.dsub d hd), ?_⟩
 ·rw [get_put1]
  split
  ·rename_i e
   subst e
   rw [hx, ← hl]
   have hat : ∀ (k : Nat) (q : PV) (j : Nat) (p : PV), l[k]? = some q → q.cells[j]? = some p → (rowC l)[k * es + j]? = some p ∧ k * es + j < c.size := fun k q j p q1 q2 => by
    have := rowC_at hes q1 q2
    exact ⟨this, Nat.lt_of_lt_of_le (List.getElem?_eq_some_iff.1 this).1 a4⟩
   refine .isl es l .ro b 0 cap (fun k j => c.getD (k * es + j) undef) (fun k q hk => hes q (List.mem_of_getElem? hk)) (fun k q j p q1 q2 => ?_) (fun k q j p q1 q2 => ?_) (by omega) trivial
   ·obtain ⟨_, hlt⟩ := hat k q j p q1 q2
    simp only [Ty.addImm, Nat.zero_add]
    rw [if_pos ⟨trivial, Nat.zero_le _, hlt⟩]
    simp [Array.getD, hlt]
   ·obtain ⟨h1, hlt⟩ := hat k q j p q1 q2
    refine (a5 _ p _ h1 ?_).mono le2
    simp [Array.getD, hlt]
  ·exact (hr.env t').mono le2
 ·obtain ⟨rs, r1, r2, r3⟩ := hr.defs
  exact ⟨rs, r1, r2, fun r hm => ⟨le2.ds _ (r3 r hm).1, (r3 r hm).2⟩⟩
theorem Weak.gnil {N : Nat} {lo : Nat × Nat} {E : Env} {σ : Sg} {t : Nat} (ht : E.get t = .isl [] .exact) : Weak N lo E σ (E.put (some t) .gnil) σ := by
 intro Ψ0 Ψ D a w hb le hr
 refine ⟨Ψ, le, hr.size, fun t' => ?_, hr.sg, hr.dsub, hr.defs⟩
 rw [get_put1]
 split
 ·rename_i e
  subst e
  have hv := hr.env t'
  rw [ht] at hv
  generalize a.tmps.getD t' undef = x at hv
  cases hv with
  | islnil _ a' _ => exact .gnil a'
  | isl es _ _ b o cap vals hs h1 h2 hc ho =>
   have : cap = 0 := ho
   subst this
   exact .gnil _
 ·exact hr.env t'
def mapE {κ ν : Type} (ek : κ → PV) (ev : ν → PV) (l : List (κ × ν)) : List PV := l.map fun e => .tuple [ek e.1, ev e.2]
theorem mapE_cons {κ ν : Type} (ek : κ → PV) (ev : ν → PV) (e : κ × ν) (l : List (κ × ν)) : mapE ek ev (e :: l) = .tuple [ek e.1, ev e.2] :: mapE ek ev l := rfl
theorem mapE_append {κ ν : Type} (ek : κ → PV) (ev : ν → PV) (l m : List (κ × ν)) : mapE ek ev (l ++ m) = mapE ek ev l ++ mapE ek ev m := by simp [mapE]
section
variable {κ ν : Type} [DecidableEq κ]
def aget (k : κ) : List (κ × ν) → Option ν
 | [] => none
 | e :: l => if k = e.1 then some e.2 else aget k l
def aput (k : κ) (v : ν) : List (κ × ν) → List (κ × ν)
 | [] => [(k, v)]
 | e :: l => if k = e.1 then (k, v) :: l else e :: aput k v l
theorem aget_put (k k' : κ) (v : ν) : ∀ l : List (κ × ν), aget k' (aput k v l) = if k' = k then some v else aget k' l := by
 intro l
 induction l with
 | nil => rfl
 | cons e l ih =>
  simp only [aput]
  split
  ·rename_i h
   subst h
   simp only [aget]
   split <;> rfl
  ·rename_i h
   simp only [aget]
   split
   ·rename_i h2
    subst h2
    rw [if_neg (fun e => h e.symm)]
   ·exact ih
theorem aget_append (k : κ) : ∀ l m : List (κ × ν), aget k (l ++ m) = match aget k l with | some v => some v | none => aget k m := by
 intro l m
 induction l with
 | nil => rfl
 | cons e l ih =>
  simp only [List.cons_append, aget]
  split
  ·rfl
  ·exact ih
theorem aget_mem {k : κ} {v : ν} : ∀ {l : List (κ × ν)}, aget k l = some v → (k, v) ∈ l := by
 intro l
 induction l with
 | nil => intro h; cases h
 | cons e l ih =>
  intro h
  simp only [aget] at h
  split at h
  ·rename_i he
   injection h with h
   subst he h
   simp
  ·exact List.mem_cons_of_mem _ (ih h)
theorem aget_none {k : κ} : ∀ {l : List (κ × ν)}, aget k l = none ↔ ∀ e, e ∈ l → e.1 ≠ k := by
 intro l
 induction l with
 | nil =>
  constructor
  ·intro _ e h
   cases h
  ·intro _
   rfl
 | cons e l ih =>
  simp only [aget]
  by_cases he : k = e.1
  ·rw [if_pos he]
   constructor
   ·intro h
    cases h
   ·intro h
    exact absurd he.symm (h e (by simp))
  ·rw [if_neg he, ih]
   constructor
   ·intro h x hx
    rcases List.mem_cons.1 hx with rfl | hx
    ·exact fun q => he q.symm
    ·exact h x hx
   ·intro h x hx
    exact h x (by simp [hx])
def KeyOK (P : Program) (kt : TypeId) (ek : κ → PV) : Prop := ∀ a b, keyEq P kt (ek a) (ek b) = some (decide (a = b))
def afind (k : κ) : List (κ × ν) → Nat → Option (Nat × ν)
 | [], _ => none
 | e :: l, i => if k = e.1 then some (i, e.2) else afind k l (i + 1)
theorem findPV_map {P : Program} {kt : TypeId} {ek : κ → PV} (h : KeyOK P kt ek) (ev : ν → PV) (k : κ) : ∀ (l : List (κ × ν)) (i : Nat), findPV P kt (ek k) (mapE ek ev l) i = some ((afind k l i).map fun r => (r.1, ev r.2)) := by
 intro l
 induction l with
 | nil => intro i; rfl
 | cons e l ih =>
  intro i
  simp only [mapE_cons, findPV, afind]
  rw [h k e.1]
  by_cases he : k = e.1
  ·simp [he]
  ·simp only [he, decide_false, if_neg, not_false_eq_true]
   exact ih (i + 1)
theorem afind_get (k : κ) : ∀ (l : List (κ × ν)) (i : Nat), (afind k l i).map (·.2) = aget k l := by
 intro l
 induction l with
 | nil => intro i; rfl
 | cons e l ih =>
  intro i
  simp only [afind, aget]
  split
  ·rfl
  ·exact ih (i + 1)
theorem afind_put (ek : κ → PV) (ev : ν → PV) (k : κ) (v : ν) : ∀ (l : List (κ × ν)) (i : Nat), match afind k l i with
  | none => aput k v l = l ++ [(k, v)]
  | some (j, _) => i ≤ j ∧ (mapE ek ev l).set (j - i) (.tuple [ek k, ev v]) = mapE ek ev (aput k v l) := by
 intro l
 induction l with
 | nil => intro i; rfl
 | cons e l ih =>
  intro i
  simp only [afind, aput]
  by_cases he : k = e.1
  ·rw [if_pos he, if_pos he]
   simp [mapE_cons]
  ·rw [if_neg he, if_neg he]
   have := ih (i + 1)
   cases hf : afind k l (i + 1) with
   | none => rw [hf] at this; simp only at this ⊢; rw [this]; rfl
   | some r =>
    rw [hf] at this
    obtain ⟨j, x⟩ := r
    simp only at this ⊢
    refine ⟨by omega, ?_⟩
    rw [show j - i = j - (i + 1) + 1 by omega, mapE_cons, List.set_cons_succ, this.2, mapE_cons]
def lkM (P : Program) (kt : TypeId) (z : PV) (b : Option (Option (List PV))) (k : PV) (ok : Bool) : Option PV :=
 match b with
 | some (some (.mark :: es)) => match findPV P kt k es 0 with
  | some (some (_, v)) => some (packPV ok v true)
  | some none => some (packPV ok z false)
  | none => none
 | _ => none
def lkX (P : Program) (kt : TypeId) (z : PV) (σ : Sg) (id : Nat) (k : PV) (ok : Bool) : Option PV := lkM P kt z σ.store[id]? k ok
def upM (P : Program) (kt : TypeId) (b : Option (Option (List PV))) (k v : PV) : Option (List PV) :=
 match b with
 | some (some (.mark :: es)) => match findPV P kt k es 0 with
  | some (some (j, _)) => some (.mark :: es.set j (.tuple [k, v]))
  | some none => some (.mark :: (es ++ [.tuple [k, v]]))
  | none => none
 | _ => none
def upX (P : Program) (kt : TypeId) (σ : Sg) (id : Nat) (k v : PV) : Option Sg := (upM P kt σ.store[id]? k v).map fun cs => σ.setVar id cs
theorem lk_of {P : Program} {t kt et : TypeId} {kd : TypeDesc} {z : PV} (h : P.underlying t = some (.map kt et)) (hk : P.underlying kt = some kd) (hz : zeroOne P et = some z) {k : PV} (hf : keyFor P kd k = true) (σ : Sg) (id : Nat) (ok : Bool) :
  lookupPV P σ t (.map id) k ok = lkX P kt z σ id k ok := by
 simp only [lookupPV, h, hk, hz, hf, if_true, lkX, lkM]
 rfl
theorem up_of {P : Program} {t kt et : TypeId} {kd : TypeDesc} (h : P.underlying t = some (.map kt et)) (hk : P.underlying kt = some kd) {k : PV} (hf : keyFor P kd k = true) (v : PV) (σ : Sg) (id : Nat) :
  updatePV P σ t (.map id) k v = upX P kt σ id k v := by
 simp only [updatePV, h, hk, hf, if_true, upX, upM]
 generalize σ.store[id]? = b
 rcases b with _ | _ | cs
 ·rfl
 ·rfl
 ·rcases cs with _ | ⟨c, cs⟩
  ·rfl
  ·cases c <;> try rfl
   simp only
   rcases findPV P kt k cs 0 with _ | _ | ⟨j, x⟩ <;> rfl
theorem lkM_map {P : Program} {kt : TypeId} {z : PV} {ek : κ → PV} (h : KeyOK P kt ek) (ev : ν → PV) (l : List (κ × ν)) (k : κ) (ok : Bool) :
  lkM P kt z (some (some (.mark :: mapE ek ev l))) (ek k) ok = some (packPV ok (match aget k l with | some v => ev v | none => z) (aget k l).isSome) := by
 simp only [lkM, findPV_map h]
 rw [← afind_get k l 0]
 cases afind k l 0 with
 | none => rfl
 | some r => rfl
theorem upM_map {P : Program} {kt : TypeId} {ek : κ → PV} (h : KeyOK P kt ek) (ev : ν → PV) (l : List (κ × ν)) (k : κ) (v : ν) :
  upM P kt (some (some (.mark :: mapE ek ev l))) (ek k) (ev v) = some (.mark :: mapE ek ev (aput k v l)) := by
 simp only [upM, findPV_map h]
 have := afind_put ek ev k v l 0
 cases hf : afind k l 0 with
 | none =>
  rw [hf] at this
  simp only at this
  simp only [Option.map_none, this, mapE_append]
  rfl
 | some r =>
  rw [hf] at this
  obtain ⟨j, x⟩ := r
  simp only [Option.map_some]
  have h2 := this.2
  simp only [Nat.sub_zero] at h2
  rw [h2]
end
section
variable {P : Program} {kt : TypeId} {z : PV} {σ : Sg} {l : List (Option (List PV))} {rm : List Nat} {ys : List LState} {j d : Nat} {cs : List PV} {k v : PV} {ok : Bool}
theorem lkX_ext : lkX P kt z (σ.ext l rm ys) (σ.store.length + j) k ok = lkM P kt z l[j]? k ok := by simp only [lkX, Sg.get_ext]
theorem lkX_ext0 : lkX P kt z (σ.ext l rm ys) σ.store.length k ok = lkM P kt z l[0]? k ok := by simp only [lkX, Sg.get_ext0]
theorem upX_ext : upX P kt (σ.ext l rm ys) (σ.store.length + j) k v = (upM P kt l[j]? k v).map fun cs => σ.ext (l.set j (some cs)) rm ys := by simp only [upX, Sg.get_ext, Sg.set_ext]
theorem upX_ext0 : upX P kt (σ.ext l rm ys) σ.store.length k v = (upM P kt l[0]? k v).map fun cs => σ.ext (l.set 0 (some cs)) rm ys := by simp only [upX, Sg.get_ext0, Sg.set_ext0]
theorem lkX_svx : lkX P kt z ((σ.setVar d cs).ext l rm ys) (σ.store.length + j) k ok = lkM P kt z l[j]? k ok := by
 have := lkX_ext (P := P) (kt := kt) (z := z) (σ := σ.setVar d cs) (l := l) (rm := rm) (ys := ys) (j := j) (k := k) (ok := ok)
 rw [sv_len] at this
 exact this
theorem Cl_map {a b c id : Nat} : Clean a b c (.map id) = (id < a) := propext ⟨fun h => by cases h; assumption, fun h => .mapv _ h⟩
theorem Cl_nilmap {a b c : Nat} : Clean a b c .nilmap = True := eq_true .nilmap
theorem Cl_mark {a b c : Nat} : Clean a b c .mark = True := eq_true .mark
theorem Cl_gsl {a b c id len es : Nat} : Clean a b c (.gsl id len es) = (id < a) := propext ⟨fun h => by cases h; assumption, fun h => .gsl _ _ _ h⟩
theorem Cl_gnil {a b c : Nat} : Clean a b c .gnil = True := eq_true .gnil
theorem CleanAll_mapE {κ ν : Type} {a b c : Nat} {ek : κ → PV} {ev : ν → PV} {l : List (κ × ν)} (h1 : ∀ x, Clean a b c (ek x)) (h2 : ∀ x, Clean a b c (ev x)) : CleanAll a b c (mapE ek ev l) = True := eq_true fun p hp => by
 obtain ⟨e, _, rfl⟩ := List.mem_map.1 hp
 refine .tuple _ fun q hq => ?_
 simp only [List.mem_cons, List.not_mem_nil, or_false] at hq
 rcases hq with rfl | rfl
 ·exact h1 _
 ·exact h2 _
end
end Go.Proofs.Ytnolifglhhjdnaa
