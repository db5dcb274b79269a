/-
  Regions that draw their order: the rule of the walk.
  Views: a state and what was added to it; owners forgotten; how functions usually end.
  What the operations do at a type, without the type.
  Loops that count down; ends that leave something new.
  Cleanness of what was added; folds over ranges of numbers.
  A slice without spare room gets a room; a value's owner is forgotten.
  Loops over a state of plain values; cleanness, loads of rows and variables that were there before, by simp.
  Regions whose ways meet again; sums that fit.
  A variable's slice without spare room gets a room; what is read of a variable may be told otherwise.
  The owner of a slice in a variable is forgotten.
  A slice is held against nil: the answer is open where the slice is empty.
  Slices of slices: what goes in front is cut off.
  Slices that grow in place: operations without types; a variable moved to another number; a variable that is never written again.
  Maps as lists of keys with their values, without the program's types.
  Slices made at once, written and then frozen; rows of numbers written at a place.
  Variables renumbered: the live ones, in a new order; whatever speaks of them follows.
  Regions that draw their order, two operations of which may come in either order: both are walked.
  Builders: one is made; what it holds becomes a string.
  The pure reading, run: a program's code is carried out on values that are known. What is said here is proved in the texts that follow.
  The pure reading, run: what the quick operations give.
  The pure reading, run: the quick operations are the slow ones.
  Slices that grow in place, in a variable's cell; a row sorted or written anew by the library.
  The pure reading, run: operations done another way.
-/
import Derived.Test.YtdoohibbfjdblaaGreatDoorPb
import Derived.CallsIn
import Derived.RangeFuncLeaves
import Derived.RangeFuncRecord
import Derived.OrdersIn
import Derived.Below
import Derived.Laws.World
import Derived.Laws.StructEq
import Derived.Laws.BytesString
import Derived.Laws.Append
import Derived.MapKept
import Derived.ProofKit
import Derived.Carry
import Derived.Handed
import Derived.ChangeCalls
import Derived.Stop.Joined
import Derived.Lib.LaidTab
import Derived.Shelf.Strconv.Itoa3
import Derived.RangeFuncIn
import Derived.RangeFuncNested
import Derived.Sort.OwnSortedInts
import Derived.Lib.SlicesCompact
import Derived.Test.YtdoohibbfjdblaaGreatDoorProg
import Derived.KernelRfl
import Derived.IntWalk
import Derived.Shelf.Sort.Plain
import Derived.Shelf.Slices.In.SortNone
import Derived.Shelf.Small.Bits
import Derived.Shelf.Strings.Builder1
import Derived.Lib.SplitLaws
import Derived.Lib.AtoiAll
import Derived.Lib.ItoaNum
import Derived.Lib.IndexBytes
import Derived.Shelf.Strings.Split
import Derived.Shelf.Strconv.AtoiAll
import Derived.Lib.AtoiErrMem
import Derived.Lib.ItoaLen
import Derived.Test.YtdoohibbfjdblaaGreatDoorCards
import Derived.Test.YtdoohibbfjdblaaGreatDoorTie
import Derived.JoinedOf
import Derived.LaidMore
import Derived.LaidSub
import Derived.Lay
import Derived.SevenTiedAt
import Derived.Lib.LaidU8
import Derived.Shelf.Vars
set_option linter.unusedSimpArgs false
set_option linter.unusedVariables false
namespace Go.Proofs.YtdoohibbfjdblaaGreatDoor
open Go Go.RowKit
section
variable {P : Program} {Y : YEnv} {N : Nat} {rd : Option Nat} {D : List Nat} {Ψ0 : Ty} {w0 : World} {Q : Exit → Act → World → Prop} {ops : Array Oper} {is : List Nat} {plan : List (Nat × Nat)} {pre : List (List Nat)} {T : List St} {E0 Ef : Env} {σ0 σf : Sg}
/-- How many are not taken yet. -/
def left (listed : Array Bool) (n : Nat) : Nat := ((List.range n).filter fun i => !listed.getD i false).length
theorem filter_lt {α : Type} {f g : α → Bool} : ∀ (l : List α), (∀ x, x ∈ l → g x = true → f x = true) → (∃ x, x ∈ l ∧ f x = true ∧ g x = false) → (l.filter g).length < (l.filter f).length := by
 intro l
 have le : ∀ l : List α, (∀ x, x ∈ l → g x = true → f x = true) → (l.filter g).length ≤ (l.filter f).length := by
  intro l
  induction l with
  | nil => intro _; simp
  | cons a l ih =>
   intro h
   have := ih (fun x hx => h x (List.mem_cons_of_mem _ hx))
   simp only [List.filter_cons]
   cases hg : g a with
   | false => simp only [Bool.false_eq_true, if_false]; split <;> simp <;> omega
   | true => rw [h a (List.mem_cons_self ..) hg]; simp; exact this
 induction l with
 | nil => rintro _ ⟨x, hx, _⟩; cases hx
 | cons a l ih =>
  intro h ⟨x, hx, hf, hg⟩
  have h' : ∀ x, x ∈ l → g x = true → f x = true := fun x hx => h x (List.mem_cons_of_mem _ hx)
  simp only [List.filter_cons]
  rcases List.mem_cons.1 hx with rfl | hx
  ·rw [hf, hg]
   have := le l h'
   simp
   omega
  have := ih h' ⟨x, hx, hf, hg⟩
  cases hga : g a with
  | false => simp only [Bool.false_eq_true, if_false]; split <;> simp <;> omega
  | true => rw [h a (List.mem_cons_self ..) hga]; simp; exact this
theorem Inv.all (H : Shown P Y N ops is plan pre T E0 Ef σ0 σf) (hy : YOK P Y Ψ0) (hQ : ∀ Ψ' a' w', Ψ0.le Ψ' → Rel N D Ψ' Ef σf a' w' → Below Ψ0.base w0 w' → Q .normal a' w') :
 ∀ (fuel : Nat) (listed : Array Bool) (p : Nat) (bl : Nat → Option (Nat × Array Value)) (Ψ : Ty) (a : Act) (w : World), left listed ops.size ≤ fuel → Inv P N D Ψ0 w0 ops is T E0 σf listed p bl Ψ a w →
  wpAnyIn (FnOf Ψ0 rd) 0 P .any ops Q fuel listed a w := by
 -- when all is taken
 have fin : ∀ (listed : Array Bool) (p : Nat) (bl : Nat → Option (Nat × Array Value)) (Ψ : Ty) (a : Act) (w : World), Inv P N D Ψ0 w0 ops is T E0 σf listed p bl Ψ a w → (∀ i, i < ops.size → listed.getD i false = true) → Q .normal a w := by
  intro listed p bl Ψ a w I hall
  obtain ⟨p', Ψ', I', hfar⟩ := I.far H (ops.size - p) p Ψ (by have := I.pn; omega)
  have hp : p' = ops.size := by
   rcases hfar with e | ⟨_, s, hs, hl⟩
   ·exact e
   rw [hall s.i (H.ilt hs)] at hl; cases hl
  subst hp
  have h1 : goE ops (vis ops is listed ops.size) T E0 = Ef := goE_linked T E0 σ0 H.link fun s hs => by
   obtain ⟨q, hq⟩ := List.mem_iff_getElem?.1 hs
   unfold vis
   rw [hall s.i (H.ilt hq), H.idx hq]
   simp [H.lt hq]
  have h2 : st T σf ops.size = σf := by
   unfold st
   rw [List.getElem?_eq_none (by rw [H.len]; exact Nat.le_refl _)]
  have hr := I'.rel
  rw [h1, h2] at hr
  exact hQ Ψ' a w I'.le hr I'.bel
 -- one is ready, if any is left
 have some_ready : ∀ (listed : Array Bool), listed.size = ops.size → Region.ready .any ops listed = [] → ∀ i, i < ops.size → listed.getD i false = true := by
  intro listed hsz hr i
  induction hn : is.idxOf i using Nat.strongRecOn generalizing i with
  | _ n ih =>
   intro hi
   subst hn
   cases hl : listed.getD i false with
   | true => rfl
   | false =>
    exfalso
    have : i ∈ Region.ready .any ops listed := by
     rw [mem_ready]
     refine ⟨?_, ops[i], by simp [hi], fun e he hb => ?_⟩
     ·have hi' : i < listed.size := by omega
      simp [hi'] at hl ⊢; exact hl
     have hmem : e.on ∈ dir ops i := by
      unfold dir
      simp only [Array.getElem?_eq_getElem hi, List.mem_map, List.mem_filter]
      exact ⟨e, ⟨by simpa using he, hb⟩, rfl⟩
     obtain ⟨hk, hlt⟩ := H.facts.dlt i hi _ hmem
     exact ih _ hlt e.on rfl hk
    rw [hr] at this
    cases this
 intro fuel
 induction fuel with
 | zero =>
  intro listed p bl Ψ a w hleft I
  have hall : ∀ i, i < ops.size → listed.getD i false = true := by
   intro i hi
   cases hl : listed.getD i false with
   | true => rfl
   | false =>
    have : i ∈ (List.range ops.size).filter fun i => !listed.getD i false := List.mem_filter.2 ⟨List.mem_range.2 hi, by rw [hl]; rfl⟩
    have := List.length_pos_of_mem this
    unfold left at hleft
    omega
  refine ⟨?_, fin listed p bl Ψ a w I hall⟩
  cases hr : Region.ready .any ops listed with
  | nil => rfl
  | cons i is' =>
   exfalso
   have : i ∈ Region.ready .any ops listed := by rw [hr]; simp
   obtain ⟨h0, o, ho, _⟩ := mem_ready.1 this
   have hi : i < ops.size := (Array.getElem?_eq_some_iff.1 ho).1
   have := hall i hi
   have hi' : i < listed.size := by rw [I.size]; exact hi
   simp [hi'] at h0 this
   rw [h0] at this; cases this
 | succ fuel ih =>
  intro listed p bl Ψ a w hleft I
  refine ⟨fun hr => fin listed p bl Ψ a w I (some_ready listed I.size hr), fun i hi => ?_⟩
  obtain ⟨h0, o, ho, hall⟩ := mem_ready.1 hi
  have hin : i < ops.size := (Array.getElem?_eq_some_iff.1 ho).1
  have hi' : i < listed.size := by rw [I.size]; exact hin
  have hun : listed.getD i false = false := by simp [hi'] at h0 ⊢; exact h0
  obtain ⟨q, s, hs, rfl⟩ := H.pos hin
  obtain ⟨p', Ψ', I', hfar⟩ := I.far H (ops.size - p) p Ψ (by have := I.pn; omega)
  refine I'.step H hy hfar hs hun (fun j hj => ?_) fun p2 bl2 Ψ2 a2 w2 I2 => ih _ p2 bl2 Ψ2 a2 w2 ?_ I2
  ·unfold dir at hj
   rw [ho] at hj
   simp only [List.mem_map, List.mem_filter] at hj
   obtain ⟨e, ⟨he, hb⟩, rfl⟩ := hj
   exact hall e (by simpa using he) hb
  have : left (listed.setIfInBounds s.i true) ops.size < left listed ops.size := by
   refine filter_lt _ (fun j _ hg => ?_) ⟨s.i, List.mem_range.2 hin, by rw [hun]; rfl, by rw [getL hi']; simp⟩
   rw [getL hi'] at hg
   split at hg
   ·cases hg
   exact hg
  omega
end
/-- What the new variables' temporaries held is of no use. -/
def undefs : List Oper → Env → Env
 | [], E => E
 | o :: os, E => match o.op with
  | .alloc _ => undefs os (E.put o.dst .undef)
  | _ => undefs os E
theorem undefs_or (d : Nat) : ∀ (os : List Oper) (E : Env), (undefs os E).get d = E.get d ∨ (undefs os E).get d = .undef := by
 intro os
 induction os with
 | nil => intro E; exact .inl rfl
 | cons o os ih =>
  intro E
  unfold undefs
  split
  ·rcases ih (E.put o.dst .undef) with h | h
   ·rw [h, get_put]
    split
    ·exact .inr rfl
    exact .inl rfl
   exact .inr h
  exact ih E
theorem undefs_get (d : Nat) : ∀ (os : List Oper) (E : Env), (∃ o, o ∈ os ∧ allocs o = true ∧ o.dst = some d) ∨ E.get d = .undef → (undefs os E).get d = .undef := by
 intro os
 induction os with
 | nil =>
  rintro E (⟨o, ho, _⟩ | h)
  ·cases ho
  exact h
 | cons o os ih =>
  intro E h
  unfold undefs
  split
  ·rename_i t ht
   refine ih _ ?_
   rcases h with ⟨o', ho', h1, h2⟩ | h
   ·rcases List.mem_cons.1 ho' with rfl | ho'
    ·exact .inr (by rw [get_put, if_pos h2])
    exact .inl ⟨o', ho', h1, h2⟩
   exact .inr (by rw [get_put]; split <;> first | rfl | exact h)
  rename_i hne
  refine ih _ ?_
  rcases h with ⟨o', ho', h1, h2⟩ | h
  ·rcases List.mem_cons.1 ho' with rfl | ho'
   ·exfalso
    unfold allocs at h1
    split at h1
    ·exact hne _ ‹_›
    cases h1
   exact .inl ⟨o', ho', h1, h2⟩
  exact .inr h
theorem ER.undefs {Ψ : Ty} {E : Env} {tmps : Array Value} (h : ER Ψ E tmps) (os : List Oper) : ER Ψ (undefs os E) tmps := fun t => by
 rcases undefs_or t os E with e | e
 ·rw [e]; exact h t
 rw [e]; exact .undef _
def GOr (p : Prop) [K : KB0] : Prop := p ∨ K.run
theorem GOr_true (K : KB0) : @GOr True K = True := by simp [GOr]
theorem GOr_right {p : Prop} {K : KB0} (h : K.run) : @GOr p K := .inr h
/-- What is read where the order is open: it would be the same elsewhere. -/
def Dem (P : Program) (ops : Array Oper) (T : List St) (σf : Sg) : List (Nat × Nat) → Prop
 | [] => True
 | (q, p) :: r => (match T[q]? with
  | none => True
  | some s => match ops[s.i]? with
   | none => True
   | some o => @GOr (st T σf p = s.σ) ⟨s.b = true → effOp P (st T σf p) s.E o.op = some (s.v, st T σf p)⟩) ∧ Dem P ops T σf r
theorem Dem.get {P : Program} {ops : Array Oper} {T : List St} {σf : Sg} {q p : Nat} : ∀ (plan : List (Nat × Nat)), Dem P ops T σf plan → (q, p) ∈ plan → ∀ s o, T[q]? = some s → ops[s.i]? = some o →
 st T σf p = s.σ ∨ (s.b = true → effOp P (st T σf p) s.E o.op = some (s.v, st T σf p)) := by
 intro plan
 induction plan with
 | nil => intro _ h; cases h
 | cons a plan ih =>
  intro h hm s o hs ho
  obtain ⟨h1, h2⟩ := h
  rcases List.mem_cons.1 hm with e | hm
  ·subst e
   simp only at h1
   rw [hs] at h1
   simp only at h1
   rw [ho] at h1
   exact h1
  exact ih h2 hm s o hs ho
theorem draw_any {P : Program} {Y : YEnv} {N : Nat} {rd : Option Nat} {D : List Nat} {Ψ0 Ψ : Ty} {ops : Array Oper} {E : Env} {σ : Sg} {a : Act} {w : World} {Q : Exit → Act → World → Prop} {K : Env → Sg → Prop} (is : List Nat) (plan : List (Nat × Nat)) (pre : List (List Nat)) (hc : drawOK ops is plan pre = true)
 (h : GD P Y N ops is (undefs ops.toList E) σ [] (fun T E' σ' => Dem P ops T.reverse σ' plan ∧ K E' σ')) (hy : YOK P Y Ψ0) (le : Ψ0.le Ψ) (hr : Rel N D Ψ E σ a w)
 (hQ : ∀ Ψ' E' σ' a' w', Ψ0.le Ψ' → Rel N D Ψ' E' σ' a' w' → Below Ψ0.base w w' → K E' σ' → Q .normal a' w') : wpAnyIn (FnOf Ψ0 rd) 0 P .any ops Q ops.size (Array.replicate ops.size false) a { w with drawn := w.drawn + 1 } := by
 have hF := drawOK_facts ops is plan pre hc
 obtain ⟨T, Ef, σf, hl, hmap, hdem, hfin⟩ := GD_trace is (undefs ops.toList E) σ [] h
 rw [List.append_nil, List.reverse_reverse] at hdem
 have hfresh : ∀ q d, allocsAt ops is q = true → dstAt ops is q = some d → (undefs ops.toList E).get d = .undef := by
  intro q d hal hd
  refine undefs_get d _ _ (.inl ?_)
  unfold allocsAt at hal
  unfold dstAt at hd
  cases ho : opAt ops is q with
  | none => rw [ho] at hal; cases hal
  | some o =>
   rw [ho] at hal hd
   refine ⟨o, ?_, hal, hd⟩
   unfold opAt at ho
   cases hi : is[q]? with
   | none => rw [hi] at ho; cases ho
   | some i => rw [hi] at ho; exact List.mem_of_getElem? (by rw [Array.getElem?_toList]; exact ho)
 have H : Shown P Y N ops is plan pre T (undefs ops.toList E) Ef σ σf := by
  refine ⟨hF, hl, hmap, fun q p hqp hcq s o hs ho hsb => ?_, hfresh⟩
  rcases hdem.get plan hqp s o hs ho with e | e
  ·obtain ⟨E', o', ho', _, _, _, hd⟩ := hl.at T _ _ q s hs
   rw [ho] at ho'
   injection ho' with ho'
   subst ho'
   have hoa : opAt ops is q = some o := by
    unfold opAt
    rw [← hmap]
    simp [hs, ho]
   unfold chainAt at hcq
   rw [hoa] at hcq
   simp only [Option.any_some, Bool.or_eq_false_iff] at hcq
   unfold DoneAs at hd
   rw [hsb] at hd
   simp only at hd
   rw [whom_quiet hcq.1] at hd
   simp only at hd
   have := quiet hcq.1 hcq.2 hd
   rw [this] at hd
   rw [e]
   exact hd
  exact e hsb
 refine Inv.all (D := D) (w0 := w) (bl := fun _ => none) (p := 0) (Ψ := Ψ) H hy (fun Ψ' a' w' l1 l2 l3 => hQ Ψ' _ σf a' w' l1 l2 l3 hfin) ops.size _ _ _ ?_ ?_
 ·unfold left
  refine Nat.le_trans (List.length_filter_le _ _) (by simp)
 have hnone : ∀ i, (Array.replicate ops.size false).getD i false = false := fun i => by
  rw [Array.getD_eq_getD_getElem?, Array.getElem?_replicate]
  split <;> rfl
 have e1 : ∀ t, (goE ops (vis ops is (Array.replicate ops.size false) 0) T (undefs ops.toList E)).get t = (undefs ops.toList E).get t := fun t => goE_off _ _ fun s _ _ => by
  unfold vis; rw [hnone]; rfl
 have hst : st T σf 0 = σ := by
  unfold st
  cases T with
  | nil => exact hl.2.symm
  | cons s T => exact hl.2.1
 refine ⟨by simp, fun i hi => ?_, Nat.zero_le _, fun q s hq => by omega, fun q s _ _ _ => hnone _, le, ?_, fun q s _ _ _ hh => ?_, fun q q' b c c' hh => (by cases hh), fun q b c hh => (by cases hh), (Below.refl _ w).drew⟩
 ·rw [hnone] at hi; cases hi
 ·rw [hst]
  exact Rel.congr ⟨hr.size, hr.env.undefs _, hr.sg.drew, hr.dsub, hr.defs⟩ e1
 rw [hnone] at hh; cases hh
theorem W_draw {P : Program} {Y : YEnv} {N : Nat} {rd : Option Nat} {lo : Nat × Nat} {id : Nat} {ops : Array Oper} {E : Env} {σ : Sg} {Q : Exit → Env → Sg → Prop} (ks : List Nat) (is : List Nat) (plan : List (Nat × Nat)) (pre : List (List Nat))
 (hm : P.follows .mixedOrders = true) (hc : drawOK ops is plan pre = true)
 (h : ∀ K : Env → Sg → Prop, (∀ E' σ', Q .normal (keep ks E') σ' → K E' σ') → GD P Y N ops is (undefs ops.toList E) σ [] (fun T E' σ' => Dem P ops T.reverse σ' plan ∧ K E' σ')) : W P Y N rd lo (.region id ops true) E σ Q := by
 intro Ψ0 D hb hy hrd Ψ a w le hr
 exact wpIn_region_any hm (draw_any is plan pre hc (h _ fun _ _ k => k) hy le hr fun Ψ' E' σ' a' w' l1 l2 l3 k => ⟨_, σ', Ψ', l1, l2.keep ks, l3, k⟩)
def Sg.ext (σ : Sg) (l : List (Option (List PV))) (rm : List Nat) (ys : List LState := []) : Sg := ⟨σ.store ++ l, σ.rooms ++ rm, σ.ys ++ ys⟩
section
variable (σ : Sg) (l l' : List (Option (List PV))) (rm rm' : List Nat) (ys ys' : List LState)
theorem Sg.ext_nil : σ.ext [] [] = σ := by simp [Sg.ext]
theorem Sg.push_ext (zs : List PV) : (σ.ext l rm ys).push zs = σ.ext (l ++ [some zs]) rm ys := by simp [Sg.push, Sg.ext]
theorem Sg.push_new (zs : List PV) : σ.push zs = σ.ext [some zs] [] := by simp [Sg.push, Sg.ext]
theorem Sg.pushRoom_ext (n : Nat) : (σ.ext l rm ys).pushRoom n = σ.ext l (rm ++ [n]) ys := by simp [Sg.pushRoom, Sg.ext]
theorem Sg.pushRoom_new (n : Nat) : σ.pushRoom n = σ.ext [] [n] := by simp [Sg.pushRoom, Sg.ext]
theorem Sg.pushY_ext : (σ.ext l rm ys).pushY = σ.ext l rm (ys ++ [.ready]) := by simp [Sg.pushY, Sg.ext]
theorem Sg.pushY_new : σ.pushY = σ.ext [] [] [.ready] := by simp [Sg.pushY, Sg.ext]
theorem Sg.ext_ext : (σ.ext l rm ys).ext l' rm' ys' = σ.ext (l ++ l') (rm ++ rm') (ys ++ ys') := by simp [Sg.ext]
theorem Sg.len_ext : (σ.ext l rm ys).store.length = σ.store.length + l.length := by simp [Sg.ext]
theorem Sg.rooms_ext : (σ.ext l rm ys).rooms.length = σ.rooms.length + rm.length := by simp [Sg.ext]
theorem Sg.ys_ext : (σ.ext l rm ys).ys.length = σ.ys.length + ys.length := by simp [Sg.ext]
theorem Sg.ysget_ext (k : Nat) : (σ.ext l rm ys).ys[σ.ys.length + k]? = ys[k]? := by
 show (σ.ys ++ ys)[σ.ys.length + k]? = _
 rw [List.getElem?_append_right (by omega)]
 simp
theorem Sg.ysget_ext0 : (σ.ext l rm ys).ys[σ.ys.length]? = ys[0]? := Sg.ysget_ext σ l rm ys 0
theorem Sg.setY_ext (k : Nat) (s : LState) : (σ.ext l rm ys).setY (σ.ys.length + k) s = σ.ext l rm (ys.set k s) := by
 simp [Sg.setY, Sg.ext, List.set_append_right]
theorem Sg.setY_ext0 (s : LState) : (σ.ext l rm ys).setY σ.ys.length s = σ.ext l rm (ys.set 0 s) := Sg.setY_ext σ l rm ys 0 s
theorem Sg.popY_ext (k : Nat) : (σ.ext l rm ys).popY (σ.ys.length + k) = σ.ext l rm (ys.take k) := by
 simp [Sg.popY, Sg.ext, List.take_append, List.take_of_length_le]
theorem Sg.popY_ext0 : (σ.ext l rm ys).popY σ.ys.length = σ.ext l rm [] := by
 have := Sg.popY_ext σ l rm ys 0
 simpa using this
theorem Sg.get_ext (k : Nat) : (σ.ext l rm ys).store[σ.store.length + k]? = l[k]? := by
 show (σ.store ++ l)[σ.store.length + k]? = _
 rw [List.getElem?_append_right (by omega)]
 simp
theorem Sg.get_ext0 : (σ.ext l rm ys).store[σ.store.length]? = l[0]? := Sg.get_ext σ l rm ys 0
variable {σ l rm ys}
variable (σ l rm ys)
theorem Sg.room_ext (k : Nat) : (σ.ext l rm ys).rooms[σ.rooms.length + k]? = rm[k]? := by
 show (σ.rooms ++ rm)[σ.rooms.length + k]? = _
 rw [List.getElem?_append_right (by omega)]
 simp
theorem Sg.room_ext0 : (σ.ext l rm ys).rooms[σ.rooms.length]? = rm[0]? := Sg.room_ext σ l rm ys 0
theorem Sg.set_ext (k : Nat) (cs : List PV) : (σ.ext l rm ys).setVar (σ.store.length + k) cs = σ.ext (l.set k (some cs)) rm ys := by
 simp [Sg.setVar, Sg.ext, List.set_append_right]
theorem Sg.set_ext0 (cs : List PV) : (σ.ext l rm ys).setVar σ.store.length cs = σ.ext (l.set 0 (some cs)) rm ys := Sg.set_ext σ l rm ys 0 cs
theorem Sg.setRoom_ext (k n : Nat) : (σ.ext l rm ys).setRoom (σ.rooms.length + k) n = σ.ext l (rm.set k n) ys := by
 simp [Sg.setRoom, Sg.ext, List.set_append_right]
theorem Sg.setRoom_ext0 (n : Nat) : (σ.ext l rm ys).setRoom σ.rooms.length n = σ.ext l (rm.set 0 n) ys := Sg.setRoom_ext σ l rm ys 0 n
variable {σ l rm ys}
variable (σ l rm ys)
theorem Sg.cut_ext (k : Nat) (j : Nat) : (σ.ext l rm).cut (σ.store.length + k) (σ.rooms.length + j) σ.ys.length = σ.ext (l.take k) (rm.take j) := by
 simp [Sg.cut, Sg.ext, List.take_append, List.take_of_length_le]
theorem Sg.cut_ext0 : (σ.ext l rm).cut σ.store.length σ.rooms.length σ.ys.length = σ := by
 simp [Sg.cut, Sg.ext]
theorem Sg.cut_exty (k : Nat) (j m : Nat) : (σ.ext l rm ys).cut (σ.store.length + k) (σ.rooms.length + j) (σ.ys.length + m) = σ.ext (l.take k) (rm.take j) (ys.take m) := by
 simp [Sg.cut, Sg.ext, List.take_append, List.take_of_length_le]
end
theorem Clean.mono {a b c a' b' c' : Nat} (h1 : a ≤ a') (h2 : b ≤ b') (h3 : c ≤ c') {p : PV} (h : Clean a b c p) : Clean a' b' c' p := by
 induction h with
 | undef => exact .undef
 | bool b => exact .bool b
 | int k n => exact .int k n
 | str s => exact .str s
 | nilptr => exact .nilptr
 | ptr id off h => exact .ptr id off (by omega)
 | eptr es elems i off _ ih => exact .eptr es elems i off ih
 | nilsl => exact .nilsl
 | isl elems own _ ho ih => exact .isl elems own ih fun r n es e => by have := ho r n es e; omega
 | msl id off len h => exact .msl id off len (by omega)
 | agg cs _ ih => exact .agg cs ih
 | tuple cs _ ih => exact .tuple cs ih
 | func fn fs cs _ _ ih ih' => exact .func fn fs cs ih ih'
 | yield y h => exact .yield y (by omega)
 | nilfunc => exact .nilfunc
 | niliface => exact .niliface
 | iface t p _ ih => exact .iface t p ih
 | mapv id h => exact .mapv id (by omega)
 | nilmap => exact .nilmap
 | iter id h => exact .iter id (by omega)
 | itst mid n seen h => exact .itst mid n seen (by omega)
 | gsl id len es h => exact .gsl id len es (by omega)
 | gnil => exact .gnil
 | bself id t h => exact .bself id t (by omega)
 | bbuf l r t _ ih => exact .bbuf l r t ih
 | mark => exact .mark
mutual
def PV.ro : PV → PV
  | .eptr es elems i off => .eptr es (PV.roL elems) i off
  | .isl elems _ => .isl (PV.roL elems) .ro
  | .agg cs => .agg (PV.roL cs)
  | .tuple cs => .tuple (PV.roL cs)
  | .func fn a b => .func fn (PV.roL a) (PV.roL b)
  | .iface t p => .iface t (PV.ro p)
  | p => p
def PV.roL : List PV → List PV
  | [] => []
  | p :: ps => PV.ro p :: PV.roL ps
end
theorem PV.roL_map : ∀ l : List PV, PV.roL l = l.map PV.ro := by
 intro l
 induction l with
 | nil => rfl
 | cons p ps ih => simp only [PV.roL, List.map_cons, ih]
theorem PV.ro_cells (p : PV) : p.ro.cells = p.cells.map PV.ro := by
 cases p <;> simp only [PV.ro, PV.cells, PV.roL_map, List.map_cons, List.map_nil]
theorem VR.ro {Ψ : Ty} {p : PV} {x : Value} (h : VR Ψ p x) : VR Ψ p.ro x := by
 have row : ∀ {elems : List PV} {es : Nat}, (∀ (k : Nat) (e : PV), elems[k]? = some e → e.cells.length = es) → ∀ (k : Nat) (e : PV), (elems.map PV.ro)[k]? = some e → e.cells.length = es := by
  intro elems es h k e he
  simp only [List.getElem?_map, Option.map_eq_some_iff] at he
  obtain ⟨e', he', rfl⟩ := he
  rw [PV.ro_cells, List.length_map]
  exact h k e' he'
 have each : ∀ {elems : List PV} {Pr : Nat → Nat → PV → Prop} {Pr' : Nat → Nat → PV → Prop}, (∀ (k : Nat) (e : PV) (j : Nat) (p : PV), elems[k]? = some e → e.cells[j]? = some p → Pr k j p) →
  (∀ k j p, Pr k j p → Pr' k j p.ro) → ∀ (k : Nat) (e : PV) (j : Nat) (p : PV), (elems.map PV.ro)[k]? = some e → e.cells[j]? = some p → Pr' k j p := by
  intro elems Pr Pr' h hh k e j p he hp
  simp only [List.getElem?_map, Option.map_eq_some_iff] at he
  obtain ⟨e', he', rfl⟩ := he
  rw [PV.ro_cells] at hp
  simp only [List.getElem?_map, Option.map_eq_some_iff] at hp
  obtain ⟨p', hp', rfl⟩ := hp
  exact hh k j p' (h k e' j p' he' hp')
 have each1 : ∀ {cs : List PV} {xs : Array Value}, (∀ (j : Nat) (p : PV) (v : Value), cs[j]? = some p → xs[j]? = some v → VR Ψ p.ro v) → ∀ (j : Nat) (p : PV) (v : Value), (cs.map PV.ro)[j]? = some p → xs[j]? = some v → VR Ψ p v := by
  intro cs xs h j p v hp hv
  simp only [List.getElem?_map, Option.map_eq_some_iff] at hp
  obtain ⟨p', hp', rfl⟩ := hp
  exact h j p' v hp' hv
 induction h with
 | undef x => exact .undef x
 | bool b => exact .bool b
 | int k n => exact .int k n
 | str s => exact .str s
 | nilptr => exact .nilptr
 | ptr id off b hb hz => exact .ptr id off b hb hz
 | eptr es elems i off b o vals hs h1 h2 ih =>
  simp only [PV.ro, PV.roL_map]
  exact .eptr es _ i off b o vals (row hs) (each (Pr := fun k j _ => Ψ.imm b (o + k * es + j) = some (vals k j)) (Pr' := fun k j _ => Ψ.imm b (o + k * es + j) = some (vals k j)) h1 fun _ _ _ h => h)
   (each (Pr := fun k j p => VR Ψ p.ro (vals k j)) (Pr' := fun k j p => VR Ψ p (vals k j)) ih fun _ _ _ h => h)
 | nilsl => exact .nilsl
 | islnil own a h => exact .islnil .ro a trivial
 | isl es elems own b o cap vals hs h1 h2 hc ho ih =>
  simp only [PV.ro, PV.roL_map]
  have := VR.isl (Ψ := Ψ) es (elems.map PV.ro) .ro b o cap vals (row hs) (each (Pr := fun k j _ => Ψ.imm b (o + k * es + j) = some (vals k j)) (Pr' := fun k j _ => Ψ.imm b (o + k * es + j) = some (vals k j)) h1 fun _ _ _ h => h)
   (each (Pr := fun k j p => VR Ψ p.ro (vals k j)) (Pr' := fun k j p => VR Ψ p (vals k j)) ih fun _ _ _ h => h) (by simpa using hc) trivial
  rw [List.length_map] at this
  exact this
 | msl id off len b cap h hz hc => exact .msl id off len b cap h hz hc
 | agg cs vs hl h ih => simp only [PV.ro, PV.roL_map]; exact .agg _ _ (by simpa using hl) (each1 ih)
 | tuple cs vs hl h ih => simp only [PV.ro, PV.roL_map]; exact .tuple _ _ (by simpa using hl) (each1 ih)
 | func fn fs cs xs ys hl hl' h h' ih ih' => simp only [PV.ro, PV.roL_map]; exact .func fn _ _ _ _ (by simpa using hl) (by simpa using hl') (each1 ih) (each1 ih')
 | yield y l d h => exact .yield y l d h
 | nilfunc => exact .nilfunc
 | niliface => exact .niliface
 | iface t p x h ih => exact .iface t _ x ih
 | map id b h => exact .map id b h
 | nilmap => exact .nilmap
 | iter id b h => exact .iter id b h
 | gsl id len es b cap h hz h0 hc => exact .gsl id len es b cap h hz h0 hc
 | gnil a => exact .gnil a
 | bself id t b x h hz hx => exact .bself id t b x h hz hx
 | bbuf l r t x h ht _ => exact .bbuf l r t x h ht
theorem VRs.ro {Ψ : Ty} {ps : List PV} {xs : Array Value} (h : VRs Ψ ps xs) : VRs Ψ (ps.map PV.ro) xs := by
 refine ⟨by rw [h.1, List.length_map], fun j p v h1 h2 => ?_⟩
 simp only [List.getElem?_map, Option.map_eq_some_iff] at h1
 obtain ⟨p', hp', rfl⟩ := h1
 exact (h.2 j p' v hp' h2).ro
/-- Who is called asks nothing of the owners. -/
theorem PC.ofRo {P : Program} {Y : YEnv} {f : FuncId} {args args' : List PV} {σ σ' : Sg} {v : PV} (h : PC P Y f args' σ v σ') (e : args.map PV.ro = args') : PC P Y f args σ v σ' := by
 subst e
 exact ⟨h.1, fun Ψ vals w hs ha hy => h.2 Ψ vals w hs ha.ro hy⟩
theorem Fin_same {P : Program} {fn : Func} {σ : Sg} {l : List (Option (List PV))} {rm : List Nat} {E : Env} {rs : List PV} {v : PV} (hcl : CleanSg σ) (hr : resPV P (σ.ext l rm) E fn.results.toList = some rs)
 (hv : Wk σ.store.length σ.rooms.length σ.ys.length (oneOr rs) v) : Fin P fn σ v σ E (σ.ext l rm) := by
 refine ⟨rs, _, _, hr, Nat.le_refl _, Nat.le_refl _, hv, (Sg.cut_ext0 σ l rm).symm, fun id cs hid hc p hp => ?_, by simp [Sg.ext]⟩
 have hc' : (σ.store ++ l)[id]? = some (some cs) := hc
 rw [List.getElem?_append_left hid] at hc'
 exact hcl id cs hid hc' p hp
theorem Fin_self {P : Program} {fn : Func} {σ : Sg} {E : Env} {rs : List PV} {v : PV} (hcl : CleanSg σ) (hr : resPV P σ E fn.results.toList = some rs)
 (hv : Wk σ.store.length σ.rooms.length σ.ys.length (oneOr rs) v) : Fin P fn σ v σ E σ := by
 have := Fin_same (l := []) (rm := []) hcl (by rw [Sg.ext_nil]; exact hr) hv
 rw [Sg.ext_nil] at this
 exact this
theorem Wk.ro {nβ nr ny : Nat} {p q : PV} (h : Clean nβ nr ny q) (e : p.ro = q) : Wk nβ nr ny p q := fun Ψ x k => by
 subst e
 exact k.ro.trim h
def ldS (σ : Sg) (id off : Nat) : Option PV :=
 match σ.store[id]? with
 | some (some cs) => cs[off]?
 | _ => none
def ldA (k : Nat) (σ : Sg) (id off : Nat) : Option PV :=
 match σ.store[id]? with
 | some (some cs) => if off + k ≤ cs.length then some (.agg ((cs.drop off).take k)) else none
 | _ => none
def elS (l : List PV) (i off : Nat) : Option PV :=
 match l[i]? with
 | some e => e.cells[off]?
 | none => none
def elA (k : Nat) (l : List PV) (i off : Nat) : Option PV :=
 match l[i]? with
 | some e => if off + k ≤ e.cells.length then some (.agg ((e.cells.drop off).take k)) else none
 | none => none
def stX (k : Nat) (σ : Sg) (id off : Nat) (p : PV) : Option Sg :=
 match σ.store[id]? with
 | some (some cs) => if defd p && p.cells.all PV.scalar && (p.cells.length == k) && decide (off + p.cells.length ≤ cs.length) then some (σ.setVar id (putCells cs off p.cells)) else none
 | _ => none
def iaX (c : Nat) (l : List PV) (i : Int) : Option PV :=
  if 0 ≤ i ∧ i < (l.length : Int) then
    (match l[i.toNat]? with
     | some el => if el.cells.length = c then some (.eptr c l i.toNat 0) else none
     | none => none) else none
def iaM (c id off len : Nat) (i : Int) : Option PV := if 0 ≤ i ∧ i < (len : Int) then some (.ptr id (off + i.toNat * c)) else none
def bsX (c len : Nat) (parts : List (Nat × PV)) : Option PV :=
 if (parts.map (·.1) == List.range len) && parts.all (fun p => defd p.2 && (p.2.cells.length == c)) && decide (len * c ≤ 2 ^ 24) then some (.isl (parts.map (·.2)) .exact) else none
def appX (c b : Nat) (σ : Sg) (l : List PV) (own : Own) (m : List PV) : Option (PV × Sg) :=
  if m.all (fun q => (q.cells.length == c) && q.cells.all PV.scalar) && decide ((l.length + m.length) * b ≤ 2 ^ 47) then
    (match own with
     | .ro => none
     | .exact => if l.all (fun q => q.cells.length == c) then some (.isl (l ++ m) (.tok σ.rooms.length (l.length + m.length) c), σ.pushRoom (l.length + m.length)) else none
     | .tok r n es => if es = c ∧ σ.rooms[r]? = some n then some (.isl (l ++ m) (.tok r (n + m.length) es), σ.setRoom r (n + m.length)) else none)
  else none
def bldX (zs : List PV) (ps : List (Nat × Nat)) (parts : List (Nat × PV)) : Option PV :=
 if parts.all (fun p => defd p.2) then (fillPV (fun i => ps[i]?) zs parts).map .agg else none
section
variable {P : Program} {t e : TypeId} {d : TypeDesc} {k c b : Nat} {σ : Sg} {id off : Nat} {l m : List PV} {own own' : Own} {es i : Nat}
theorem ldS_of (h : P.underlying t = some d) (ha : isAggD d = false) : loadPV P σ t (.ptr id off) = ldS σ id off := by simp [loadPV, h, partPV, ha, ldS]; rfl
theorem ldA_of (h : P.underlying t = some d) (ha : isAggD d = true) (hc : P.cellsOf t = k) : loadPV P σ t (.ptr id off) = ldA k σ id off := by simp [loadPV, h, partPV, ha, hc, ldA]; rfl
theorem elS_of (h : P.underlying t = some d) (ha : isAggD d = false) : loadPV P σ t (.eptr es l i off) = elS l i off := by simp [loadPV, h, partPV, ha, elS]; rfl
theorem elA_of (h : P.underlying t = some d) (ha : isAggD d = true) (hc : P.cellsOf t = k) : loadPV P σ t (.eptr es l i off) = elA k l i off := by simp [loadPV, h, partPV, ha, hc, elA]; rfl
theorem stX_of (h : P.underlying t = some d) (hc : P.cellsOf t = k) (p : PV) : storePV P σ t (.ptr id off) p = stX k σ id off p := by simp [storePV, h, hc, stX]; rfl
theorem iaX_of (h : P.underlying t = some (.slice e)) (he : P.underlying e = some d) (hc : P.cellsOf e = c) (kd : IntKind) (n : Int) : indexAddrPV P t (.isl l own) (.int kd n) = iaX c l n := by
 unfold indexAddrPV iaX
 rw [h]
 simp only [he, hc]
 split
 ·cases l[n.toNat]? <;> rfl
 rfl
theorem iaM_of (h : P.underlying t = some (.slice e)) (he : P.underlying e = some d) (hc : P.cellsOf e = c) (kd : IntKind) (len : Nat) (n : Int) : indexAddrPV P t (.msl id off len) (.int kd n) = iaM c id off len n := by
 simp [indexAddrPV, h, he, hc, iaM]
theorem iaA_of {len : Nat} (h : P.underlying t = some (.array len e)) (he : P.underlying e = some d) (hc : P.cellsOf e = c) (kd : IntKind) (n : Int) : indexAddrPV P t (.ptr id off) (.int kd n) = iaM c id off len n := by
 simp [indexAddrPV, h, he, hc, iaM]
theorem len_of (h : P.underlying t = some (.slice e)) : lenPV P t (.isl l own) = some (.int .i64 l.length) := by simp [lenPV, h]
theorem lenM_of (h : P.underlying t = some (.slice e)) (n : Nat) : lenPV P t (.msl id off n) = some (.int .i64 n) := by simp [lenPV, h]
theorem bsX_of {zs : List PV} (h : P.underlying t = some (.slice e)) (he : P.underlying e = some d) (hc : P.cellsOf e = c) (hz : zeroPV P e = some zs) (len : Nat) (parts : List (Nat × PV)) : buildSlicePV P t len parts = bsX c len parts := by
 unfold buildSlicePV bsX
 rw [h]
 simp only [he, hc, hz, Option.isSome_some, Bool.true_and, Bool.and_true]
theorem appX_of {zs : List PV} (h : P.underlying t = some (.slice e)) (he : P.underlying e = some d) (hc : P.cellsOf e = c) (hb : P.bytesOf e = b) (hb0 : b ≠ 0) (hc0 : 0 < c) (hz : zeroPV P e = some zs) (hzl : zs.length = c) :
 appendPV P σ t t (.isl l own) (.isl m own') = appX c b σ l own m := by
 unfold appendPV appX
 rw [h]
 simp only [he, hc, hb, hz, hzl, Option.isSome_some, Bool.true_and, Option.map_some, BEq.rfl, Bool.and_true, hb0, hc0, ne_eq, not_false_eq_true, and_self, decide_true]
 rfl
theorem bldX_of {zs : List PV} {fs : Array Field} {ps : List (Nat × Nat)} (hz : zeroPV P t = some zs) (h : P.underlying t = some (.struct fs)) (hf : fs.toList.all (fun f => (P.underlying f.type).isSome) = true) (hp : structPlaces P fs.toList = ps) (parts : List (Nat × PV)) :
 buildPV P t parts = bldX zs ps parts := by
 unfold buildPV
 rw [hz, h]
 simp only [hf, hp, bldX, Bool.true_and]
theorem fa_of {fs : Array Field} {f : Nat} {fl : Field} (h : P.underlying t = some (.struct fs)) (hf : fs[f]? = some fl) (hd : P.underlying fl.type = some d) (hc : P.cellsOf fl.type = c) (hc0 : c ≠ 0) (ho : fl.offset = k) :
 fieldAddrPV P t (.ptr id off) f = some (.ptr id (off + k)) ∧ fieldAddrPV P t (.eptr es l i off) f = some (.eptr es l i (off + k)) := by
 simp [fieldAddrPV, fieldOf, h, hf, hd, hc, hc0, ho]
theorem fa1_of {fs : Array Field} {f : Nat} {fl : Field} (h : P.underlying t = some (.struct fs)) (hf : fs[f]? = some fl) (hd : P.underlying fl.type = some d) (hc : P.cellsOf fl.type = c) (hc0 : (c == 0) = false) (ho : fl.offset = k) :
 fieldAddrPV P t (.ptr id off) f = some (.ptr id (off + k)) := (fa_of (es := 0) (l := []) (i := 0) h hf hd hc (by simpa using hc0) ho).1
theorem fa2_of {fs : Array Field} {f : Nat} {fl : Field} (h : P.underlying t = some (.struct fs)) (hf : fs[f]? = some fl) (hd : P.underlying fl.type = some d) (hc : P.cellsOf fl.type = c) (hc0 : (c == 0) = false) (ho : fl.offset = k) :
 fieldAddrPV P t (.eptr es l i off) f = some (.eptr es l i (off + k)) := (fa_of (id := 0) h hf hd hc (by simpa using hc0) ho).2
theorem fpS_of {fs : Array Field} {f : Nat} {fl : Field} (h : P.underlying t = some (.struct fs)) (hf : fs[f]? = some fl) (hd : P.underlying fl.type = some d) (ha : isAggD d = false) (ho : fl.offset = k) (cs : List PV) :
 fieldPV P t (.agg cs) f = cs[k]? := by
 simp [fieldPV, fieldOf, h, hf, hd, ho, partPV, ha]
end
abbrev I (n : Int) : PV := .int .i64 n
abbrev ints (xs : List Int) : PV := .isl (xs.map I) .ro
theorem ldS_at {σ : Sg} {id off : Nat} {cs : List PV} (h : σ.store[id]? = some (some cs)) : ldS σ id off = cs[off]? := by simp [ldS, h]
theorem ldA_at {k : Nat} {σ : Sg} {id off : Nat} {cs : List PV} (h : σ.store[id]? = some (some cs)) : ldA k σ id off = if off + k ≤ cs.length then some (.agg ((cs.drop off).take k)) else none := by simp [ldA, h]
theorem stX_at {k : Nat} {σ : Sg} {id off : Nat} {cs : List PV} (h : σ.store[id]? = some (some cs)) (p : PV) :
 stX k σ id off p = if defd p && p.cells.all PV.scalar && (p.cells.length == k) && decide (off + p.cells.length ≤ cs.length) then some (σ.setVar id (putCells cs off p.cells)) else none := by simp [stX, h]
section ext
variable (σ : Sg) (l : List (Option (List PV))) (rm : List Nat) (ys : List LState) (j : Nat)
theorem ldS_ext (off : Nat) : ldS (σ.ext l rm ys) (σ.store.length + j) off = match l[j]? with | some (some cs) => cs[off]? | _ => none := by simp only [ldS, Sg.get_ext]
theorem ldS_ext0 (off : Nat) : ldS (σ.ext l rm ys) σ.store.length off = match l[0]? with | some (some cs) => cs[off]? | _ => none := by simp only [ldS, Sg.get_ext0]
theorem ldA_ext (k off : Nat) : ldA k (σ.ext l rm ys) (σ.store.length + j) off = match l[j]? with | some (some cs) => if off + k ≤ cs.length then some (.agg ((cs.drop off).take k)) else none | _ => none := by simp only [ldA, Sg.get_ext]
theorem ldA_ext0 (k off : Nat) : ldA k (σ.ext l rm ys) σ.store.length off = match l[0]? with | some (some cs) => if off + k ≤ cs.length then some (.agg ((cs.drop off).take k)) else none | _ => none := by simp only [ldA, Sg.get_ext0]
theorem stX_ext (k off : Nat) (p : PV) : stX k (σ.ext l rm ys) (σ.store.length + j) off p = match l[j]? with
 | some (some cs) => if defd p && p.cells.all PV.scalar && (p.cells.length == k) && decide (off + p.cells.length ≤ cs.length) then some (σ.ext (l.set j (some (putCells cs off p.cells))) rm ys) else none
 | _ => none := by
 simp only [stX, Sg.get_ext, Sg.set_ext]
theorem stX_ext0 (k off : Nat) (p : PV) : stX k (σ.ext l rm ys) σ.store.length off p = match l[0]? with
 | some (some cs) => if defd p && p.cells.all PV.scalar && (p.cells.length == k) && decide (off + p.cells.length ≤ cs.length) then some (σ.ext (l.set 0 (some (putCells cs off p.cells))) rm ys) else none
 | _ => none := by
 simp only [stX, Sg.get_ext0, Sg.set_ext0]
 rfl
end ext
theorem least (p : Nat → Prop) (h : ∃ n, p n) : ∃ n, p n ∧ ∀ m, p m → n ≤ m := by
 obtain ⟨n, hn⟩ := h
 induction n using Nat.strongRecOn with
 | _ n ih =>
  by_cases h : ∃ m, m < n ∧ p m
  ·obtain ⟨m, hm, hp⟩ := h
   exact ih m hm hp
  exact ⟨n, hn, fun m hm => Nat.le_of_not_lt fun hlt => h ⟨m, hlt, hm⟩⟩
section
variable {P : Program} {Y : YEnv} {N : Nat} {rd : Option Nat} {lo : Nat × Nat} {E : Env} {σ : Sg} {Q : Exit → Env → Sg → Prop}
open Classical in
theorem W_loopK {c : Code} (I : Nat → Env → Sg → Prop) (k : Nat) (h0 : I k E σ)
 (round : ∀ k E σ, I k E σ → W P Y N rd lo c E σ (Seq (fun E' σ' => ∃ k', k' < k ∧ I k' E' σ') Q)) : W P Y N rd lo (.loop c) E σ Q := by
 refine W_loop (fun E σ => ∃ k, I k E σ) (fun E σ => if h : ∃ k, I k E σ then Classical.choose (least (fun k => I k E σ) h) else 0) ⟨k, h0⟩ fun E σ h => ?_
 refine W_mono (round _ E σ (Classical.choose_spec (least (fun k => I k E σ) h)).1) fun ex E' σ' hq => ?_
 cases ex with
 | normal =>
  obtain ⟨k', hk, hI⟩ := hq
  have h' : ∃ k, I k E' σ' := ⟨k', hI⟩
  refine ⟨h', ?_⟩
  rw [dif_pos h', dif_pos h]
  exact Nat.lt_of_le_of_lt ((Classical.choose_spec (least (fun k => I k E' σ') h')).2 k' hI) hk
 | _ => exact hq
end
theorem Clean.all_nil {a b c : Nat} : ∀ p, p ∈ ([] : List PV) → Clean a b c p := fun p h => by cases h
theorem Clean.all_cons {a b c : Nat} {q : PV} {l : List PV} (h : Clean a b c q) (k : ∀ p, p ∈ l → Clean a b c p) : ∀ p, p ∈ q :: l → Clean a b c p := fun p hp => by
 rcases List.mem_cons.1 hp with rfl | hp
 ·exact h
 exact k p hp
theorem Clean.ints {a b c : Nat} (xs : List Int) (o : Own) (ho : ∀ r n es, o = .tok r n es → r < b) : Clean a b c (.isl (xs.map I) o) :=
 .isl _ _ (fun e he => by obtain ⟨n, _, rfl⟩ := List.mem_map.1 he; exact .int _ _) ho
/-- A function that leaves new variables behind. -/
theorem Fin_ext {P : Program} {fn : Func} {σ : Sg} {l : List (Option (List PV))} {rm : List Nat} {E : Env} {rs : List PV} {v : PV} (k j : Nat) (hcl : CleanSg σ)
 (hr : resPV P (σ.ext l rm) E fn.results.toList = some rs)
 (hv : Wk (σ.store.length + k) (σ.rooms.length + j) σ.ys.length (oneOr rs) v)
 (hc : ∀ cs, some cs ∈ l.take k → ∀ p, p ∈ cs → Clean (σ.store.length + k) (σ.rooms.length + j) σ.ys.length p) : Fin P fn σ v (σ.ext (l.take k) (rm.take j)) E (σ.ext l rm) := by
 refine ⟨rs, _, _, hr, Nat.le_add_right _ _, Nat.le_add_right _ _, hv, (Sg.cut_ext σ l rm k j).symm, fun id cs hid hcs p hp => ?_, by simp [Sg.ext]⟩
 have hcs' : (σ.store ++ l)[id]? = some (some cs) := hcs
 by_cases h : id < σ.store.length
 ·rw [List.getElem?_append_left h] at hcs'
  exact (hcl id cs h hcs' p hp).mono (Nat.le_add_right _ _) (Nat.le_add_right _ _) (Nat.le_refl _)
 rw [List.getElem?_append_right (by omega)] at hcs'
 refine hc cs ?_ p hp
 refine List.mem_of_getElem? (i := id - σ.store.length) ?_
 rw [List.getElem?_take_of_lt (by omega)]
 exact hcs'
theorem CleanCut_ext {σ : Sg} {l : List (Option (List PV))} {rm : List Nat} {ys : List LState} {nb nr ny : Nat} (hcl : CleanSg σ) (hb : σ.store.length ≤ nb) (hr : σ.rooms.length ≤ nr) (hy : σ.ys.length ≤ ny)
 (h : ∀ cs, some cs ∈ l → ∀ p, p ∈ cs → Clean nb nr ny p) : CleanCut (σ.ext l rm ys) nb nr ny := by
 intro id cs _ hcs p hp
 have hcs' : (σ.store ++ l)[id]? = some (some cs) := hcs
 by_cases hid : id < σ.store.length
 ·rw [List.getElem?_append_left hid] at hcs'
  exact (hcl id cs hid hcs' p hp).mono hb hr hy
 rw [List.getElem?_append_right (by omega)] at hcs'
 exact h cs (List.mem_of_getElem? hcs') p hp
theorem CleanSg_ext {σ : Sg} {l : List (Option (List PV))} {rm : List Nat} {ys : List LState} (hcl : CleanSg σ) (h : ∀ cs, some cs ∈ l → ∀ p, p ∈ cs → Clean (σ.store.length + l.length) (σ.rooms.length + rm.length) (σ.ys.length + ys.length) p) :
 CleanSg (σ.ext l rm ys) := by
 unfold CleanSg
 rw [Sg.len_ext, Sg.rooms_ext, Sg.ys_ext]
 exact CleanCut_ext hcl (Nat.le_add_right _ _) (Nat.le_add_right _ _) (Nat.le_add_right _ _) h
/-- All of it is old, or plain. -/
theorem CleanL_nil {a b c : Nat} : ∀ cs, some cs ∈ ([] : List (Option (List PV))) → ∀ p, p ∈ cs → Clean a b c p := fun cs h => by cases h
theorem CleanL_cons {a b c : Nat} {ds : List PV} {l : List (Option (List PV))} (h : ∀ p, p ∈ ds → Clean a b c p) (k : ∀ cs, some cs ∈ l → ∀ p, p ∈ cs → Clean a b c p) : ∀ cs, some cs ∈ some ds :: l → ∀ p, p ∈ cs → Clean a b c p := by
 intro cs hcs
 rcases List.mem_cons.1 hcs with e | e
 ·injection e with e; subst e; exact h
 exact k cs e
/-- Cut back to what was there before. -/
theorem Weak.cutExt {N : Nat} {lo : Nat × Nat} {E E' : Env} {σ : Sg} {l : List (Option (List PV))} {rm : List Nat} {ys : List LState} (k j : Nat) (h1 : lo.1 ≤ σ.store.length + k) (h2 : lo.2 ≤ σ.rooms.length + j) (hcl : CleanSg σ)
 (hc : ∀ cs, some cs ∈ l.take k → ∀ p, p ∈ cs → Clean (σ.store.length + k) (σ.rooms.length + j) (σ.ys.length + ys.length) p)
 (hE : ∀ t, Wk (σ.store.length + k) (σ.rooms.length + j) (σ.ys.length + ys.length) (E.get t) (E'.get t)) : Weak N lo E (σ.ext l rm ys) E' (σ.ext (l.take k) (rm.take j) ys) := by
 have := Weak.cut (N := N) (lo := lo) (E := E) (E' := E') (σ := σ.ext l rm ys) (σ.store.length + k) (σ.rooms.length + j) h1 h2 (by rw [Sg.ys_ext]; exact hE) (by
  rw [Sg.ys_ext]
  intro id cs hid hcs p hp
  have hcs' : (σ.store ++ l)[id]? = some (some cs) := hcs
  by_cases h : id < σ.store.length
  ·rw [List.getElem?_append_left h] at hcs'
   exact (hcl id cs h hcs' p hp).mono (Nat.le_add_right _ _) (Nat.le_add_right _ _) (Nat.le_add_right _ _)
  rw [List.getElem?_append_right (by omega)] at hcs'
  refine hc cs ?_ p hp
  refine List.mem_of_getElem? (i := id - σ.store.length) ?_
  rw [List.getElem?_take_of_lt (by omega)]
  exact hcs')
 rw [Sg.ys_ext, Sg.cut_exty, List.take_length] at this
 exact this
theorem Weak.room {N : Nat} {lo : Nat × Nat} {E : Env} {σ : Sg} {t es : Nat} {l : List PV} (ht : E.get t = .isl l .exact) (hes : ∀ q, q ∈ l → q.cells.length = es) :
 Weak N lo E σ ((t, .isl l (.tok σ.rooms.length l.length es)) :: E) (σ.pushRoom l.length) := by
 intro Ψ0 Ψ D a w hb le hr
 have hv := hr.env t
 rw [ht] at hv
 have fin : ∀ x : Option (Nat × Nat × Nat × Nat), (∀ b e c s, x = some (b, e, c, s) → ¬ e < c) → (∀ Ψ', Ψ.le Ψ' → Ψ'.hist σ.rooms.length l.length = some x → VR Ψ' (.isl l (.tok σ.rooms.length l.length es)) (a.tmps.getD t undef)) →
  ∃ Ψ', Ψ0.le Ψ' ∧ Rel N D Ψ' ((t, .isl l (.tok σ.rooms.length l.length es)) :: E) (σ.pushRoom l.length) a w := by
  intro x hx hvr
  obtain ⟨le', hs'⟩ := hr.sg.newRoom l.length x (fun b e c s hh hlt => absurd hlt (hx b e c s hh))
  refine ⟨_, le.trans le', hr.size, fun t' => ?_, hs', fun d hd => le'.ds _ (hr.dsub d hd), ?_⟩
  ·simp only [Env.get]
   split
   ·rename_i e; subst e
    exact hvr _ le' (by simp [Ty.addHist])
   exact (hr.env t').mono le'
  obtain ⟨rs, r1, r2, r3⟩ := hr.defs
  exact ⟨rs, r1, r2, fun r hm => ⟨le'.ds _ (r3 r hm).1, (r3 r hm).2⟩⟩
 generalize hx : a.tmps.getD t undef = x at hv fin
 cases hv with
 | islnil _ a0 _ => exact fin none (fun b e c s h => by cases h) fun Ψ' _ hh => .islnil _ a0 ⟨_, hh⟩
 | isl es0 _ _ b o cap vals hs h1 h2 hc ho =>
  have hcap : cap = l.length := ho
  subst hcap
  refine fin (some (b, o + l.length * es, o + l.length * es, es)) (fun b e c s h => by injection h with h; injection h with _ h; injection h with h1 h; injection h with h2 _; omega) fun Ψ' le' hh => ?_
  by_cases hl : l = []
  ·subst hl
   exact .isl es [] _ b o 0 vals (fun k e h => by simp at h) (fun k e j p h => by simp at h) (fun k e j p h => by simp at h) (Nat.le_refl _) ⟨rfl, hh⟩
  have : es0 = es := by
   cases l with
   | nil => exact absurd rfl hl
   | cons q l => rw [← hs 0 q rfl]; exact hes q (by simp)
  subst this
  exact .isl es0 l _ b o _ vals hs (fun k e j p q1 q2 => le'.imm _ _ _ (h1 k e j p q1 q2)) (fun k e j p q1 q2 => (h2 k e j p q1 q2).mono le') (Nat.le_refl _) ⟨rfl, hh⟩
/-- Any part of what is known of the temporaries. -/
theorem Weak.env {N : Nat} {lo : Nat × Nat} {E E' : Env} {σ : Sg} (h : ∀ t Ψ x, VR Ψ (E.get t) x → VR Ψ (E'.get t) x) : Weak N lo E σ E' σ := fun _ Ψ _ _ _ _ le hr =>
 ⟨Ψ, le, hr.size, fun t => h t Ψ _ (hr.env t), hr.sg, hr.dsub, hr.defs⟩
theorem Weak.keep {N : Nat} {lo : Nat × Nat} {E : Env} {σ : Sg} (ks : List Nat) : Weak N lo E σ (keep ks E) σ := fun _ Ψ _ _ _ _ le hr => ⟨Ψ, le, hr.keep ks⟩
theorem Weak.ro {N : Nat} {lo : Nat × Nat} {E : Env} {σ : Sg} (t : Nat) : Weak N lo E σ ((t, (E.get t).ro) :: E) σ := Weak.env fun t' Ψ x h => by
 simp only [Env.get]
 split
 ·rename_i e; subst e; exact h.ro
 exact h
theorem cleanE_nil {a b c : Nat} : ∀ kv, kv ∈ ([] : Env) → Clean a b c kv.2 := fun kv h => by cases h
theorem cleanE_cons {a b c t : Nat} {v : PV} {E : Env} (h : Clean a b c v) (k : ∀ kv, kv ∈ E → Clean a b c kv.2) : ∀ kv, kv ∈ (t, v) :: E → Clean a b c kv.2 := fun kv hk => by
 rcases List.mem_cons.1 hk with rfl | hk
 ·exact h
 exact k kv hk
theorem Wk.env {a b c : Nat} : ∀ {E : Env}, (∀ kv, kv ∈ E → Clean a b c kv.2) → ∀ t, Wk a b c (E.get t) (E.get t) := by
 intro E
 induction E with
 | nil => intro _ t; exact Wk.of_clean .undef
 | cons kv E ih =>
  intro h t
  obtain ⟨k, v⟩ := kv
  simp only [Env.get]
  split
  ·exact Wk.of_clean (h (k, v) (List.mem_cons_self ..))
  exact ih (fun kv hk => h kv (List.mem_cons_of_mem _ hk)) t
def setE1 (t : Nat) (v : PV) : Env → Env
 | [] => []
 | (k, x) :: E => if k = t then (k, v) :: E else (k, x) :: setE1 t v E
def setE : Env → Env → Env
 | E, [] => E
 | E, (t, v) :: u => setE (setE1 t v E) u
theorem setE_nil (E : Env) : setE E [] = E := rfl
theorem setE_cons (E : Env) (t : Nat) (v : PV) (u : Env) : setE E ((t, v) :: u) = setE (setE1 t v E) u := rfl
theorem setE1_nil (t : Nat) (v : PV) : setE1 t v [] = [] := rfl
theorem setE1_cons (t k : Nat) (v x : PV) (E : Env) : setE1 t v ((k, x) :: E) = if k = t then (k, v) :: E else (k, x) :: setE1 t v E := rfl
section
variable {P : Program} {Y : YEnv} {N : Nat} {rd : Option Nat} {lo : Nat × Nat} {E : Env} {σ : Sg} {Q : Exit → Env → Sg → Prop}
theorem W_loopT {α : Type} {c : Code} (upd : α → Env) (st : α → Sg) (Inv : α → Prop) (μ : α → Nat) (s0 : α) (hE : setE E (upd s0) = E) (hσ : st s0 = σ) (h0 : Inv s0)
 (round : ∀ s, Inv s → W P Y N rd lo c (setE E (upd s)) (st s) (Seq (fun E' σ' => ∃ s', Weak N lo E' σ' (setE E (upd s')) (st s') ∧ μ s' < μ s ∧ Inv s') Q)) : W P Y N rd lo (.loop c) E σ Q := by
 refine W_loopK (fun k E' σ' => ∃ s, k = μ s ∧ Inv s ∧ setE E (upd s) = E' ∧ st s = σ') (μ s0) ⟨s0, rfl, h0, hE, hσ⟩ ?_
 rintro k E' σ' ⟨s, rfl, hi, rfl, rfl⟩
 refine W_post_weak (W_mono (round s hi) ?_)
 intro ex E1 σ1 h
 cases ex with
 | normal =>
  obtain ⟨s', hw, hm, hi'⟩ := h
  exact ⟨_, _, hw, μ s', hm, s', rfl, hi', rfl, rfl⟩
 | _ => exact ⟨_, _, Weak.refl, h⟩
theorem W_loopS {α : Type} {c : Code} (upd : α → Env) (Inv : α → Prop) (μ : α → Nat) (s0 : α) (hE : setE E (upd s0) = E) (h0 : Inv s0)
 (round : ∀ s, Inv s → W P Y N rd lo c (setE E (upd s)) σ (Seq (fun E' σ' => ∃ s', Weak N lo E' σ' (setE E (upd s')) σ ∧ μ s' < μ s ∧ Inv s') Q)) : W P Y N rd lo (.loop c) E σ Q :=
 W_loopT upd (fun _ => σ) Inv μ s0 hE rfl h0 round
theorem Weak.eq {E E' : Env} {σ σ' : Sg} (h : E = E') (k : σ = σ') : Weak N lo E σ E' σ' := by subst h k; exact Weak.refl
end
theorem Wqq {N : Nat} {lo : Nat × Nat} {E E' : Env} {σ σ' : Sg} (h : E = E' := by first | rfl | (simp only [go_sem]; done) | (simp only [go_sem]; rfl) | (simp [go_sem]; done) | (simp [go_sem]; omega)) (k : σ = σ' := by first | rfl | (simp only [go_sem]; done) | (simp [go_sem]; done)) : Weak N lo E σ E' σ' := Weak.eq h k
def CleanAll (a b c : Nat) (l : List PV) : Prop := ∀ p, p ∈ l → Clean a b c p
def CleanLs (a b c : Nat) (l : List (Option (List PV))) : Prop := ∀ cs, some cs ∈ l → ∀ p, p ∈ cs → Clean a b c p
def CleanEs (a b c : Nat) (E : Env) : Prop := ∀ kv, kv ∈ E → Clean a b c kv.2
def OwnLt (b : Nat) (o : Own) : Prop := ∀ r n es, o = .tok r n es → r < b
section
variable {a b c : Nat}
theorem CleanAll_nil : CleanAll a b c [] = True := eq_true Clean.all_nil
theorem CleanAll_cons {p : PV} {l : List PV} : CleanAll a b c (p :: l) = (Clean a b c p ∧ CleanAll a b c l) := by simp [CleanAll]
theorem CleanAll_append {l m : List PV} : CleanAll a b c (l ++ m) = (CleanAll a b c l ∧ CleanAll a b c m) := by
 simp only [CleanAll, List.mem_append]
 exact propext ⟨fun h => ⟨fun p hp => h p (.inl hp), fun p hp => h p (.inr hp)⟩, fun h p hp => hp.elim (h.1 p) (h.2 p)⟩
theorem CleanLs_nil : CleanLs a b c [] = True := eq_true CleanL_nil
theorem CleanLs_cons {cs : List PV} {l : List (Option (List PV))} : CleanLs a b c (some cs :: l) = (CleanAll a b c cs ∧ CleanLs a b c l) := by
 refine propext ⟨fun h => ⟨h cs (List.mem_cons_self ..), fun ds hd => h ds (List.mem_cons_of_mem _ hd)⟩, fun h => CleanL_cons h.1 h.2⟩
theorem CleanEs_nil : CleanEs a b c [] = True := eq_true cleanE_nil
theorem CleanEs_cons {t : Nat} {v : PV} {E : Env} : CleanEs a b c ((t, v) :: E) = (Clean a b c v ∧ CleanEs a b c E) := by
 refine propext ⟨fun h => ⟨h (t, v) (List.mem_cons_self ..), fun ds hd => h ds (List.mem_cons_of_mem _ hd)⟩, fun h => cleanE_cons h.1 h.2⟩
theorem OwnLt_ro : OwnLt b .ro = True := eq_true fun r n es e => by cases e
theorem OwnLt_exact : OwnLt b .exact = True := eq_true fun r n es e => by cases e
theorem OwnLt_tok {r n es : Nat} : OwnLt b (.tok r n es) = (r < b) := propext ⟨fun h => h r n es rfl, fun h r' n' es' e => by cases e; exact h⟩
theorem Cl_undef : Clean a b c .undef = True := eq_true .undef
theorem Cl_bool {x : Bool} : Clean a b c (.bool x) = True := eq_true (.bool _)
theorem Cl_int {k : IntKind} {x : Int} : Clean a b c (.int k x) = True := eq_true (.int _ _)
theorem Cl_str {x : ByteArray} : Clean a b c (.str x) = True := eq_true (.str _)
theorem Cl_nilptr : Clean a b c .nilptr = True := eq_true .nilptr
theorem Cl_nilsl : Clean a b c .nilsl = True := eq_true .nilsl
theorem Cl_nilfunc : Clean a b c .nilfunc = True := eq_true .nilfunc
theorem Cl_niliface : Clean a b c .niliface = True := eq_true .niliface
theorem Cl_ptr {id off : Nat} : Clean a b c (.ptr id off) = (id < a) := propext ⟨fun h => by cases h; assumption, fun h => .ptr _ _ h⟩
theorem Cl_msl {id off len : Nat} : Clean a b c (.msl id off len) = (id < a) := propext ⟨fun h => by cases h; assumption, fun h => .msl _ _ _ h⟩
theorem Cl_yield {y : Nat} : Clean a b c (.yield y) = (y < c) := propext ⟨fun h => by cases h; assumption, fun h => .yield _ h⟩
theorem Cl_eptr {es : Nat} {l : List PV} {i off : Nat} : Clean a b c (.eptr es l i off) = CleanAll a b c l := propext ⟨fun h => by cases h; assumption, fun h => .eptr _ _ _ _ h⟩
theorem Cl_isl {l : List PV} {o : Own} : Clean a b c (.isl l o) = (CleanAll a b c l ∧ OwnLt b o) := propext ⟨fun h => by cases h; exact ⟨‹_›, ‹_›⟩, fun h => .isl _ _ h.1 h.2⟩
theorem Cl_agg {l : List PV} : Clean a b c (.agg l) = CleanAll a b c l := propext ⟨fun h => by cases h; assumption, fun h => .agg _ h⟩
theorem Cl_tuple {l : List PV} : Clean a b c (.tuple l) = CleanAll a b c l := propext ⟨fun h => by cases h; assumption, fun h => .tuple _ h⟩
theorem Cl_func {fn : Fn} {l m : List PV} : Clean a b c (.func fn l m) = (CleanAll a b c l ∧ CleanAll a b c m) := propext ⟨fun h => by cases h; exact ⟨‹_›, ‹_›⟩, fun h => .func _ _ _ h.1 h.2⟩
theorem CleanAll_ints {xs : List Int} : CleanAll a b c (xs.map I) = True := eq_true fun p hp => by obtain ⟨x, _, rfl⟩ := List.mem_map.1 hp; exact .int _ _
theorem CleanAll_map {α : Type} {f : α → PV} {xs : List α} (h : ∀ x, Clean a b c (f x)) : CleanAll a b c (xs.map f) = True := eq_true fun p hp => by obtain ⟨x, _, rfl⟩ := List.mem_map.1 hp; exact h x
end
attribute [go_sem] CleanAll_nil CleanAll_cons CleanAll_append CleanLs_nil CleanLs_cons CleanEs_nil CleanEs_cons OwnLt_ro OwnLt_exact OwnLt_tok Cl_undef Cl_bool Cl_int Cl_str Cl_nilptr Cl_nilsl Cl_nilfunc Cl_niliface Cl_ptr Cl_msl Cl_yield Cl_eptr Cl_isl Cl_agg Cl_tuple Cl_func CleanAll_ints
attribute [go_sem] setE_nil setE_cons setE1_nil setE1_cons
theorem Weak.cutX {N : Nat} {lo : Nat × Nat} {E : Env} {σ : Sg} {l : List (Option (List PV))} {rm : List Nat} {ys : List LState} (k j : Nat) (h1 : lo.1 ≤ σ.store.length + k) (h2 : lo.2 ≤ σ.rooms.length + j) (hcl : CleanSg σ)
 (hc : CleanLs (σ.store.length + k) (σ.rooms.length + j) (σ.ys.length + ys.length) (l.take k)) (hE : CleanEs (σ.store.length + k) (σ.rooms.length + j) (σ.ys.length + ys.length) E) :
 Weak N lo E (σ.ext l rm ys) E (σ.ext (l.take k) (rm.take j) ys) := Weak.cutExt k j h1 h2 hcl hc (Wk.env hE)
theorem Wk_eq {a b c : Nat} {p q : PV} (h : p = q) (hc : Clean a b c q) : Wk a b c p q := by subst h; exact Wk.of_clean hc
theorem Fsa {P : Program} {fn : Func} {σ : Sg} {l : List (Option (List PV))} {rm : List Nat} {E : Env} {rs : List PV} {v : PV} (hcl : CleanSg σ) (hr : resPV P (σ.ext l rm) E fn.results.toList = some rs)
    (hv : oneOr rs = v) (hc : Clean σ.store.length σ.rooms.length σ.ys.length v := by simp only [go_sem]) : Fin P fn σ v σ E (σ.ext l rm) := Fin_same hcl hr (Wk_eq hv hc)
theorem Fse {P : Program} {fn : Func} {σ : Sg} {E : Env} {rs : List PV} {v : PV} (hcl : CleanSg σ) (hr : resPV P σ E fn.results.toList = some rs)
    (hv : oneOr rs = v) (hc : Clean σ.store.length σ.rooms.length σ.ys.length v := by simp only [go_sem]) : Fin P fn σ v σ E σ := Fin_self hcl hr (Wk_eq hv hc)
section
variable {α : Type} {f : α → PV} {xs : List α} {c k i off : Nat} {n : Int}
theorem iaX_m (f : α → PV) (xs : List α) : iaX c (xs.map f) n = if 0 ≤ n then (xs[n.toNat]?).bind fun x => if (f x).cells.length = c then some (.eptr c (xs.map f) n.toNat 0) else none else none := by
 unfold iaX
 by_cases h : 0 ≤ n
 ·by_cases h2 : n.toNat < xs.length
  ·rw [if_pos ⟨h, by simp; omega⟩, if_pos h]
   simp [h2]
  rw [if_neg (fun h' => h2 (by have := h'.2; simp at this; omega)), if_pos h]
  rw [List.getElem?_eq_none (by omega)]
  rfl
 rw [if_neg (fun h' => h h'.1), if_neg h]
theorem elS_m (f : α → PV) (xs : List α) : elS (xs.map f) i off = (xs[i]?).bind fun x => (f x).cells[off]? := by
 simp only [elS, List.getElem?_map]
 cases xs[i]? <;> rfl
theorem elA_m (f : α → PV) (xs : List α) : elA k (xs.map f) i off = (xs[i]?).bind fun x => if off + k ≤ (f x).cells.length then some (.agg (((f x).cells.drop off).take k)) else none := by
 simp only [elA, List.getElem?_map]
 cases xs[i]? <;> rfl
end
theorem bindSome {α β : Type} (x : α) (f : α → Option β) : (some x).bind f = f x := rfl
theorem bindNone {α β : Type} (f : α → Option β) : (none : Option α).bind f = none := rfl
attribute [go_sem] appendAny_isl appendAny_gsl appendAny_gnil
attribute [go_sem] iaX_m elS_m elA_m bindSome bindNone Int.natCast_nonneg Int.toNat_natCast
section
variable {σ : Sg} {d : Nat} {cs cs' : List PV} {l : List (Option (List PV))} {rm : List Nat} {ys : List LState} {k j off : Nat}
theorem sv_len : (σ.setVar d cs).store.length = σ.store.length := by simp [Sg.setVar]
theorem sv_rooms : (σ.setVar d cs).rooms = σ.rooms := rfl
theorem sv_ys : (σ.setVar d cs).ys = σ.ys := rfl
theorem sv_sv : (σ.setVar d cs).setVar d cs' = σ.setVar d cs' := by simp [Sg.setVar]
theorem sv_get (h : d < σ.store.length) : (σ.setVar d cs).store[d]? = some (some cs) := by simp [Sg.setVar, h]
theorem ext_get (h : d < σ.store.length) : (σ.ext l rm ys).store[d]? = σ.store[d]? := by
 show (σ.store ++ l)[d]? = _
 rw [List.getElem?_append_left h]
theorem sv_ext (h : d < σ.store.length) : (σ.ext l rm ys).setVar d cs = (σ.setVar d cs).ext l rm ys := by
 simp [Sg.setVar, Sg.ext, List.set_append_left _ _ h]
theorem stX_old (h : d < σ.store.length) (p : PV) : stX k (σ.ext l rm ys) d off p = (stX k σ d off p).map fun τ => τ.ext l rm ys := by
 unfold stX
 rw [ext_get h]
 cases σ.store[d]? with
 | none => rfl
 | some x =>
  cases x with
  | none => rfl
  | some cs =>
   simp only
   rw [sv_ext h]
   split <;> rfl
theorem ldS_sv (h : d < σ.store.length) : ldS (σ.setVar d cs) d off = cs[off]? := ldS_at (sv_get h)
theorem stX_sv (h : d < σ.store.length) (p : PV) : stX k (σ.setVar d cs) d off p = if defd p && p.cells.all PV.scalar && (p.cells.length == k) && decide (off + p.cells.length ≤ cs.length) then some (σ.setVar d (putCells cs off p.cells)) else none := by
 rw [stX_at (sv_get h), sv_sv]
theorem ldS_svx : ldS ((σ.setVar d cs).ext l rm ys) (σ.store.length + j) off = match l[j]? with | some (some cs) => cs[off]? | _ => none := by
 rw [← sv_len (d := d) (cs := cs)]; exact ldS_ext ..
theorem ldS_svx0 : ldS ((σ.setVar d cs).ext l rm ys) σ.store.length off = match l[0]? with | some (some cs) => cs[off]? | _ => none := by
 rw [← sv_len (d := d) (cs := cs)]; exact ldS_ext0 ..
theorem ldA_svx : ldA k ((σ.setVar d cs).ext l rm ys) (σ.store.length + j) off = match l[j]? with | some (some cs) => if off + k ≤ cs.length then some (.agg ((cs.drop off).take k)) else none | _ => none := by
 rw [← sv_len (d := d) (cs := cs)]; exact ldA_ext ..
theorem ldA_svx0 : ldA k ((σ.setVar d cs).ext l rm ys) σ.store.length off = match l[0]? with | some (some cs) => if off + k ≤ cs.length then some (.agg ((cs.drop off).take k)) else none | _ => none := by
 rw [← sv_len (d := d) (cs := cs)]; exact ldA_ext0 ..
theorem stX_svx (p : PV) : stX k ((σ.setVar d cs).ext l rm ys) (σ.store.length + j) off p = match l[j]? with
 | some (some ds) => if defd p && p.cells.all PV.scalar && (p.cells.length == k) && decide (off + p.cells.length ≤ ds.length) then some ((σ.setVar d cs).ext (l.set j (some (putCells ds off p.cells))) rm ys) else none
 | _ => none := by
 rw [← sv_len (d := d) (cs := cs)]; exact stX_ext ..
theorem stX_svx0 (p : PV) : stX k ((σ.setVar d cs).ext l rm ys) σ.store.length off p = match l[0]? with
 | some (some ds) => if defd p && p.cells.all PV.scalar && (p.cells.length == k) && decide (off + p.cells.length ≤ ds.length) then some ((σ.setVar d cs).ext (l.set 0 (some (putCells ds off p.cells))) rm ys) else none
 | _ => none := by
 rw [← sv_len (d := d) (cs := cs)]; exact stX_ext0 ..
theorem setVar_ext (cs : List PV) : (σ.ext l rm ys).setVar (σ.store.length + j) cs = σ.ext (l.set j (some cs)) rm ys := Sg.set_ext σ l rm ys j cs
theorem setVar_ext0 (cs : List PV) : (σ.ext l rm ys).setVar σ.store.length cs = σ.ext (l.set 0 (some cs)) rm ys := Sg.set_ext0 σ l rm ys cs
theorem setVar_svx (cs' : List PV) : ((σ.setVar d cs).ext l rm ys).setVar (σ.store.length + j) cs' = (σ.setVar d cs).ext (l.set j (some cs')) rm ys := by
 rw [← sv_len (d := d) (cs := cs)]; exact setVar_ext cs'
theorem setVar_svx0 (cs' : List PV) : ((σ.setVar d cs).ext l rm ys).setVar σ.store.length cs' = (σ.setVar d cs).ext (l.set 0 (some cs')) rm ys := by
 rw [← sv_len (d := d) (cs := cs)]; exact setVar_ext0 cs'
theorem lt_of_get {x : Option (List PV)} (h : σ.store[d]? = some x) : d < σ.store.length := (List.getElem?_eq_some_iff.1 h).1
end
attribute [go_sem] sv_len sv_rooms sv_ys sv_sv ldS_svx ldS_svx0 ldA_svx ldA_svx0 stX_svx stX_svx0 setVar_ext setVar_ext0 setVar_svx setVar_svx0
theorem CleanSg_set {σ : Sg} {d : Nat} {cs : List PV} (h : CleanSg σ) (hc : CleanAll σ.store.length σ.rooms.length σ.ys.length cs) : CleanSg (σ.setVar d cs) := by
 unfold CleanSg
 rw [sv_len, sv_rooms, sv_ys]
 intro id ds hid hds p hp
 by_cases hd : d = id
 ·subst hd
  have hds' : (σ.store.set d (some cs))[d]? = some (some ds) := hds
  rw [List.getElem?_set_self hid] at hds'
  injection hds' with e
  injection e with e
  subst e
  exact hc p hp
 have hds' : (σ.store.set d (some cs))[id]? = some (some ds) := hds
 rw [List.getElem?_set_ne hd] at hds'
 exact h id ds hid hds' p hp
/-- The end of a function that set a variable that was there before. -/
theorem Fin_set {P : Program} {fn : Func} {σ : Sg} {d : Nat} {cs : List PV} {l : List (Option (List PV))} {rm : List Nat} {E : Env} {rs : List PV} {v : PV} (hcl : CleanSg σ) (hc : CleanAll σ.store.length σ.rooms.length σ.ys.length cs)
 (hr : resPV P ((σ.setVar d cs).ext l rm) E fn.results.toList = some rs)
 (hv : Wk σ.store.length σ.rooms.length σ.ys.length (oneOr rs) v) : Fin P fn σ v (σ.setVar d cs) E ((σ.setVar d cs).ext l rm) := by
 have hcl' := CleanSg_set (d := d) hcl hc
 refine ⟨rs, _, _, hr, Nat.le_refl _, Nat.le_refl _, hv, ?_, fun id ds hid hds p hp => ?_, by simp [Sg.ext, Sg.setVar]⟩
 ·have := Sg.cut_ext0 (σ.setVar d cs) l rm
  rw [sv_len, sv_rooms, sv_ys] at this
  exact this.symm
 have hc' : ((σ.setVar d cs).store ++ l)[id]? = some (some ds) := hds
 rw [List.getElem?_append_left (by rw [sv_len]; exact hid)] at hc'
 have := hcl' id ds (by rw [sv_len]; exact hid) hc' p hp
 rw [sv_len, sv_rooms, sv_ys] at this
 exact this
theorem Fin_set0 {P : Program} {fn : Func} {σ : Sg} {d : Nat} {cs : List PV} {E : Env} {rs : List PV} {v : PV} (hcl : CleanSg σ) (hc : CleanAll σ.store.length σ.rooms.length σ.ys.length cs)
 (hr : resPV P (σ.setVar d cs) E fn.results.toList = some rs)
 (hv : Wk σ.store.length σ.rooms.length σ.ys.length (oneOr rs) v) : Fin P fn σ v (σ.setVar d cs) E (σ.setVar d cs) := by
 have := Fin_set (l := []) (rm := []) hcl hc (by rw [Sg.ext_nil]; exact hr) hv
 rw [Sg.ext_nil] at this
 exact this
theorem W_regionJ {P : Program} {Y : YEnv} {N : Nat} {rd : Option Nat} {lo : Nat × Nat} {id : Nat} {ops : Array Oper} {E : Env} {σ : Sg} {Q : Exit → Env → Sg → Prop} (ks : List Nat) (upd : Env)
 (rest : Q .normal (keep ks (upd ++ E)) σ) (h : ∀ K : Env → Sg → Prop, (∀ E', keep ks E' = keep ks (upd ++ E) → K E' σ) → GL P Y N ops ops.toList E σ K) : W P Y N rd lo (.region id ops false) E σ Q :=
 W_region ks fun K hK => h K fun E' e => hK E' σ (by rw [e]; exact rest)
theorem W_drawJ {P : Program} {Y : YEnv} {N : Nat} {rd : Option Nat} {lo : Nat × Nat} {id : Nat} {ops : Array Oper} {E : Env} {σ : Sg} {Q : Exit → Env → Sg → Prop} (ks : List Nat) (upd : Env) (is : List Nat) (plan : List (Nat × Nat)) (pre : List (List Nat))
 (hm : P.follows .mixedOrders = true) (hc : drawOK ops is plan pre = true) (rest : Q .normal (keep ks (upd ++ E)) σ)
 (h : ∀ K : Env → Sg → Prop, (∀ E', keep ks E' = keep ks (upd ++ E) → K E' σ) → GD P Y N ops is (undefs ops.toList E) σ [] (fun T E' σ' => Dem P ops T.reverse σ' plan ∧ K E' σ')) : W P Y N rd lo (.region id ops true) E σ Q :=
 W_draw ks is plan pre hm hc fun K hK => h K fun E' e => hK E' σ (by rw [e]; exact rest)
theorem wrapI {n : Int} (h1 : -9223372036854775808 ≤ n) (h2 : n ≤ 9223372036854775807) : IntKind.i64.wrap n = n := wrap_i64_id (by omega) (by omega)
/-- How a test is read. -/
theorem nrm : (∀ (p : Prop) [Decidable p], (decide p = true) = p) ∧ (∀ (p : Prop) [Decidable p], (decide p = false) = ¬p) ∧ (∀ b : Bool, ((!b) = true) = (b = false)) ∧ (∀ b : Bool, ((!b) = false) = (b = true)) ∧
 (∀ a b : Nat, ((a : Int) = (b : Int)) = (a = b)) ∧ (∀ a b : Nat, ((a : Int) < (b : Int)) = (a < b)) ∧ (∀ a b : Nat, ((a : Int) ≤ (b : Int)) = (a ≤ b)) ∧
 (∀ a b : Int, ((a != b) = true) = (¬ a = b)) ∧ (∀ a b : Int, ((a != b) = false) = (a = b)) ∧ (∀ a b : Int, ((a == b) = true) = (a = b)) ∧ (∀ a b : Int, ((a == b) = false) = (¬ a = b)) ∧
 (∀ b : Bool, (¬ b = true) = (b = false)) ∧ (∀ b : Bool, (¬ b = false) = (b = true)) := by
 refine ⟨fun p _ => by simp, fun p _ => by simp, fun b => by simp, fun b => by simp, fun a b => propext Int.natCast_inj, fun a b => propext Int.ofNat_lt, fun a b => propext Int.ofNat_le, fun a b => by simp, fun a b => by simp, fun a b => by simp, fun a b => by simp, fun b => by simp, fun b => by simp⟩
def okC (c : Nat) (m : List PV) : Prop := (m.all fun q => (q.cells.length == c) && q.cells.all PV.scalar) = true
theorem okC_nil {c : Nat} : okC c [] = True := eq_true rfl
theorem okC_cons {c : Nat} {q : PV} {m : List PV} : okC c (q :: m) = ((q.cells.length = c ∧ q.cells.all PV.scalar = true) ∧ okC c m) := by simp [okC]
theorem okC_append {c : Nat} {l m : List PV} : okC c (l ++ m) = (okC c l ∧ okC c m) := by simp [okC]
theorem okC_ints {xs : List Int} : okC 1 (xs.map I) = True := eq_true (by simp [okC, PV.cells, PV.scalar])
theorem okC_map {α : Type} {c : Nat} {f : α → PV} {xs : List α} (h : ∀ x, okC c [f x]) : okC c (xs.map f) = True := eq_true (by
 unfold okC at h ⊢
 rw [List.all_eq_true]
 intro q hq
 obtain ⟨x, _, rfl⟩ := List.mem_map.1 hq
 simpa using h x)
theorem okC_len {c : Nat} {m : List PV} (h : okC c m) : (m.all fun q => q.cells.length == c) = true := by
 unfold okC at h
 rw [List.all_eq_true] at h ⊢
 intro q hq
 have := h q hq
 simp only [Bool.and_eq_true] at this
 exact this.1
theorem appX_exact {c b : Nat} {σ : Sg} {l m : List PV} (hm : okC c m) (hl : okC c l) (hs : (l.length + m.length) * b ≤ 140737488355328) :
 appX c b σ l .exact m = some (.isl (l ++ m) (.tok σ.rooms.length (l.length + m.length) c), σ.pushRoom (l.length + m.length)) := by
 have hm' : (m.all fun q => (q.cells.length == c) && q.cells.all PV.scalar) = true := hm
 unfold appX
 rw [hm', okC_len hl]
 simp [hs]
theorem appX_tok {c b : Nat} {σ : Sg} {l m : List PV} {r n : Nat} (hm : okC c m) (hr : σ.rooms[r]? = some n) (hs : (l.length + m.length) * b ≤ 140737488355328) :
 appX c b σ l (.tok r n c) m = some (.isl (l ++ m) (.tok r (n + m.length) c), σ.setRoom r (n + m.length)) := by
 have hm' : (m.all fun q => (q.cells.length == c) && q.cells.all PV.scalar) = true := hm
 unfold appX
 rw [hm']
 simp [hs, hr]
section
variable {σ : Sg} {d : Nat} {cs : List PV} {l : List (Option (List PV))} {rm : List Nat} {ys : List LState} {j n : Nat}
theorem room_svx : ((σ.setVar d cs).ext l rm ys).rooms[σ.rooms.length + j]? = rm[j]? := Sg.room_ext (σ.setVar d cs) l rm ys j
theorem room_svx0 : ((σ.setVar d cs).ext l rm ys).rooms[σ.rooms.length]? = rm[0]? := Sg.room_ext0 (σ.setVar d cs) l rm ys
theorem setRoom_svx : ((σ.setVar d cs).ext l rm ys).setRoom (σ.rooms.length + j) n = (σ.setVar d cs).ext l (rm.set j n) ys := Sg.setRoom_ext (σ.setVar d cs) l rm ys j n
theorem setRoom_svx0 : ((σ.setVar d cs).ext l rm ys).setRoom σ.rooms.length n = (σ.setVar d cs).ext l (rm.set 0 n) ys := Sg.setRoom_ext0 (σ.setVar d cs) l rm ys n
end
attribute [go_sem] bsX okC_nil okC_cons okC_append okC_ints Sg.room_ext Sg.room_ext0 Sg.setRoom_ext Sg.setRoom_ext0 room_svx room_svx0 setRoom_svx setRoom_svx0
theorem ro_isl {l : List PV} {o : Own} : (PV.isl l o).ro = .isl (PV.roL l) .ro := by simp only [PV.ro]
theorem ro_agg {l : List PV} : (PV.agg l).ro = .agg (PV.roL l) := by simp only [PV.ro]
theorem ro_tuple {l : List PV} : (PV.tuple l).ro = .tuple (PV.roL l) := by simp only [PV.ro]
theorem ro_int {k : IntKind} {n : Int} : (PV.int k n).ro = .int k n := by simp only [PV.ro]
theorem ro_bool {b : Bool} : (PV.bool b).ro = .bool b := by simp only [PV.ro]
theorem ro_str {b : ByteArray} : (PV.str b).ro = .str b := by simp only [PV.ro]
theorem ro_ptr {i o : Nat} : (PV.ptr i o).ro = .ptr i o := by simp only [PV.ro]
theorem roL_nil : PV.roL [] = [] := by simp only [PV.roL]
theorem roL_cons {p : PV} {l : List PV} : PV.roL (p :: l) = p.ro :: PV.roL l := by simp only [PV.roL]
theorem roL_append {l m : List PV} : PV.roL (l ++ m) = PV.roL l ++ PV.roL m := by simp only [PV.roL_map, List.map_append]
theorem roL_ints {xs : List Int} : PV.roL (xs.map I) = xs.map I := by simp [PV.roL_map, PV.ro]
theorem roL_enc {α : Type} {f : α → PV} {xs : List α} (h : ∀ x, (f x).ro = f x) : PV.roL (xs.map f) = xs.map f := by simp [PV.roL_map, h]
attribute [go_sem] ro_isl ro_agg ro_tuple ro_int ro_bool ro_str ro_ptr roL_nil roL_cons roL_append roL_ints oneOr
theorem PC.val {P : Program} {Y : YEnv} {f : FuncId} {args : List PV} {σ σ' : Sg} {v v' : PV} (h : PC P Y f args σ v σ') (e : v = v') : PC P Y f args σ v' σ' := by subst e; exact h
/-- The same value n times. -/
def rep (n : Nat) (v : PV) : List PV := List.replicate n v
theorem rep_len (n : Nat) (v : PV) : (rep n v).length = n := by simp [rep]
attribute [go_sem] st List.reverse_cons List.reverse_nil bldX bne_self_eq_false iaM rep_len Int.cast_ofNat_Int List.getElem?_nil List.map_append List.length_append
theorem setVar_some {σ : Sg} {id i : Nat} {cs cs' x : List PV} (hid : σ.store[id]? = some (some cs)) (h : (σ.setVar id cs').store[i]? = some (some x)) : (i = id ∧ x = cs') ∨ (i ≠ id ∧ σ.store[i]? = some (some x)) := by
 have h' : (σ.store.set id (some cs'))[i]? = some (some x) := h
 rw [List.getElem?_set] at h'
 by_cases e : id = i
 ·subst e
  rw [if_pos rfl, if_pos (List.getElem?_eq_some_iff.1 hid).1] at h'
  injection h' with h'
  injection h' with h'
  exact .inl ⟨rfl, h'.symm⟩
 rw [if_neg e] at h'
 exact .inr ⟨fun e' => e e'.symm, h'⟩
theorem SR.reread {Ψ : Ty} {σ : Sg} {w : World} (h : SR Ψ σ w) {id : Nat} {cs cs' : List PV} (hid : σ.store[id]? = some (some cs))
 (hv : ∀ b, Ψ.β[id]? = some b → Keeps Ψ w b cs → Keeps Ψ w b cs') : SR Ψ (σ.setVar id cs') w := by
 have old : ∀ (i : Nat) (x : List PV), (σ.setVar id cs').store[i]? = some (some x) → ∃ y, σ.store[i]? = some (some y) := fun i x hx => by
  rcases setVar_some hid hx with ⟨rfl, _⟩ | ⟨_, h'⟩
  ·exact ⟨_, hid⟩
  exact ⟨_, h'⟩
 refine ⟨h.base, h.imm, by rw [sv_len]; exact h.blen, ?_, ?_, ?_, h.roomsApart, h.histlt, h.histle, h.βlt, h.yok, h.ylen', h.dok, ?_, h.szok⟩
 ·intro i x b hx hb
  rcases setVar_some hid hx with ⟨rfl, rfl⟩ | ⟨_, h'⟩
  ·obtain ⟨a1, a2, a0⟩ := h.block i cs b hid hb
   exact ⟨a1, a2, hv b hb a0⟩
  exact h.block i x b h' hb
 ·intro i i' x x' b hx hx' hb hb'
  obtain ⟨y, hy⟩ := old i x hx
  obtain ⟨y', hy'⟩ := old i' x' hx'
  exact h.apart i i' y y' b hy hy' hb hb'
 ·intro r n b e c es hr hh hlt
  obtain ⟨a1, a2, a3, a4⟩ := h.room r n b e c es hr hh hlt
  refine ⟨a1, a2, fun i hi x hx => ?_, a4⟩
  obtain ⟨y, hy⟩ := old i x hx
  exact a3 i hi y hy
 intro b c hm
 obtain ⟨a1, a2, a3, a4, a5⟩ := h.rok b c hm
 refine ⟨a1, a2, fun i hi x hx => ?_, a4, a5⟩
 obtain ⟨y, hy⟩ := old i x hx
 exact a3 i hi y hy
theorem Keeps.setRo {Ψ : Ty} {w : World} {b off : Nat} {cs : List PV} {p : PV} (h : Keeps Ψ w b cs) (hp : cs[off]? = some p) : Keeps Ψ w b (cs.set off p.ro) := by
 have hlt : off < cs.length := (List.getElem?_eq_some_iff.1 hp).1
 have at' : ∀ (j : Nat) (q : PV), (cs.set off p.ro)[j]? = some q → (j = off ∧ q = p.ro) ∨ cs[j]? = some q := by
  intro j q hq
  rw [List.getElem?_set] at hq
  by_cases e : off = j
  ·rw [if_pos e, if_pos hlt] at hq
   injection hq with hq
   exact .inl ⟨e.symm, hq.symm⟩
  rw [if_neg e] at hq
  exact .inr hq
 rcases h with ⟨c, a3, a4, a5⟩ | ⟨arr, es, rfl, a3, a4, a5⟩ | ⟨mid, r, n, seen, rfl, a3, a4⟩
 ·refine .inl ⟨c, a3, by simpa using a4, fun j q v h1 h2 => ?_⟩
  rcases at' j q h1 with ⟨rfl, rfl⟩ | h1
  ·exact (a5 j p v hp h2).ro
  exact a5 j q v h1 h2
 ·rcases off with _ | off
  ·simp at hp
   subst hp
   exact .inr (.inl ⟨arr, es, rfl, a3, a4, a5⟩)
  refine .inr (.inl ⟨arr, es.set off p.ro, rfl, a3, by simpa using a4, fun j q e h1 h2 => ?_⟩)
  simp only [List.getElem?_cons_succ] at hp
  rcases at' (j + 1) q (by simpa using h1) with ⟨hj, rfl⟩ | h1
  ·have : j = off := by omega
   subst this
   obtain ⟨g1, k, v, rfl, g2, g3⟩ := a5 j p e hp h2
   exact ⟨g1, k.ro, v.ro, rfl, g2.ro, g3.ro⟩
  exact a5 j q e (by simpa using h1) h2
 rcases off with _ | off
 ·simp at hp
  subst hp
  exact .inr (.inr ⟨mid, r, n, seen, rfl, a3, a4⟩)
 simp at hp
theorem Weak.roomV {N : Nat} {lo : Nat × Nat} {E : Env} {σ : Sg} {id off es : Nat} {cs l : List PV} (hid : σ.store[id]? = some (some cs)) (hc : cs[off]? = some (.isl l .exact)) (hes : ∀ q, q ∈ l → q.cells.length = es) :
 Weak N lo E σ E ((σ.setVar id (cs.set off (.isl l (.tok σ.rooms.length l.length es)))).pushRoom l.length) := by
 intro Ψ0 Ψ D a w hb le hr
 obtain ⟨b, hβ⟩ : ∃ b, Ψ.β[id]? = some b := by
  have : id < Ψ.β.length := by rw [hr.sg.blen]; exact (List.getElem?_eq_some_iff.1 hid).1
  exact ⟨Ψ.β[id], by simp [this]⟩
 obtain ⟨_, _, h0⟩ := hr.sg.block id cs b hid hβ
 obtain ⟨c, hbi, hcl, hcv⟩ : ∃ c, blockIs w b c ∧ cs.length ≤ c.size ∧ ∀ (j : Nat) (p : PV) (v : Value), cs[j]? = some p → c[j]? = some v → VR Ψ p v := by
  rcases h0 with h0 | ⟨arr, es, rfl, _, g1, g2⟩ | ⟨mid, r, n, seen, rfl, _, _⟩
  ·exact h0
  rotate_left
  ·rcases off with _ | off
   ·simp at hc
   simp at hc
  rcases off with _ | off
  ·simp at hc
  simp only [List.getElem?_cons_succ] at hc
  have hlt : off < arr.size := by rw [g1]; exact (List.getElem?_eq_some_iff.1 hc).1
  obtain ⟨_, k, v, e, _⟩ := g2 off _ arr[off] hc (by simp [hlt])
  cases e
 have hoff : off < cs.length := (List.getElem?_eq_some_iff.1 hc).1
 have hoc : off < c.size := Nat.lt_of_lt_of_le hoff hcl
 have hv : VR Ψ (.isl l .exact) c[off] := hcv off _ _ hc (by simp [hoc])
 have fin : ∀ x : Option (Nat × Nat × Nat × Nat), (∀ b e c s, x = some (b, e, c, s) → ¬ e < c) → (∀ Ψ', Ψ.le Ψ' → Ψ'.hist σ.rooms.length l.length = some x → VR Ψ' (.isl l (.tok σ.rooms.length l.length es)) c[off]) →
  ∃ Ψ', Ψ0.le Ψ' ∧ Rel N D Ψ' E ((σ.setVar id (cs.set off (.isl l (.tok σ.rooms.length l.length es)))).pushRoom l.length) a w := by
  intro x hx hvr
  obtain ⟨le', hs'⟩ := hr.sg.newRoom l.length x (fun b e c s hh hlt => absurd hlt (hx b e c s hh))
  have hnew := hvr _ le' (by simp [Ty.addHist])
  have hid' : (σ.pushRoom l.length).store[id]? = some (some cs) := hid
  have hs2 := hs'.reread (cs' := cs.set off (.isl l (.tok σ.rooms.length l.length es))) hid' (fun b2 hb2 h2 => by
   have e1 : b2 = b := by
    have := le'.β id b hβ
    rw [hb2] at this; injection this
   subst e1
   obtain ⟨g1, g2⟩ := h2.cells hbi
   refine .inl ⟨c, hbi, by simpa using g1, fun j p v h1 h2 => ?_⟩
   rw [List.getElem?_set] at h1
   by_cases hj : off = j
   ·subst hj
    rw [if_pos rfl, if_pos hoff] at h1
    injection h1 with h1
    subst h1
    have : v = c[off] := by simpa [hoc] using h2.symm
    rw [this]; exact hnew
   rw [if_neg hj] at h1
   exact g2 j p v h1 h2)
  refine ⟨_, le.trans le', hr.size, fun t' => (hr.env t').mono le', hs2, fun d hd => le'.ds _ (hr.dsub d hd), ?_⟩
  obtain ⟨rs, r1, r2, r3⟩ := hr.defs
  exact ⟨rs, r1, r2, fun r hm => ⟨le'.ds _ (r3 r hm).1, (r3 r hm).2⟩⟩
 generalize hx : c[off] = x at hv fin
 cases hv with
 | islnil _ a0 _ => exact fin none (fun b e c s h => by cases h) fun Ψ' _ hh => .islnil _ a0 ⟨_, hh⟩
 | isl es0 _ _ b o cap vals hs h1 h2 hc' ho =>
  have hcap : cap = l.length := ho
  subst hcap
  refine fin (some (b, o + l.length * es, o + l.length * es, es)) (fun b e c s h => by injection h with h; injection h with _ h; injection h with h1 h; injection h with h2 _; omega) fun Ψ' le' hh => ?_
  by_cases hl : l = []
  ·subst hl
   exact .isl es [] _ b o 0 vals (fun k e h => by simp at h) (fun k e j p h => by simp at h) (fun k e j p h => by simp at h) (Nat.le_refl _) ⟨rfl, hh⟩
  have : es0 = es := by
   cases l with
   | nil => exact absurd rfl hl
   | cons q l => rw [← hs 0 q rfl]; exact hes q (by simp)
  subst this
  exact .isl es0 l _ b o _ vals hs (fun k e j p q1 q2 => le'.imm _ _ _ (h1 k e j p q1 q2)) (fun k e j p q1 q2 => (h2 k e j p q1 q2).mono le') (Nat.le_refl _) ⟨rfl, hh⟩
/-- The same for a variable that is new. -/
theorem Weak.roomX {N : Nat} {lo : Nat × Nat} {E : Env} {σ : Sg} {l : List (Option (List PV))} {rm : List Nat} {ys : List LState} {j off es : Nat} {cs m : List PV} (hid : l[j]? = some (some cs)) (hc : cs[off]? = some (.isl m .exact)) (hes : ∀ q, q ∈ m → q.cells.length = es) :
 Weak N lo E (σ.ext l rm ys) E (σ.ext (l.set j (some (cs.set off (.isl m (.tok (σ.rooms.length + rm.length) m.length es))))) (rm ++ [m.length]) ys) := by
 have h := Weak.roomV (N := N) (lo := lo) (E := E) (σ := σ.ext l rm ys) (id := σ.store.length + j) (off := off) (es := es) (cs := cs) (l := m) (by rw [Sg.get_ext]; exact hid) hc hes
 rw [Sg.rooms_ext, Sg.set_ext, Sg.pushRoom_ext] at h
 exact h
/-- Cut back, where a variable that was there before was set. -/
theorem Weak.cutSV {N : Nat} {lo : Nat × Nat} {E : Env} {σ : Sg} {d : Nat} {ds : List PV} {l : List (Option (List PV))} {rm : List Nat} {ys : List LState} (k j : Nat) (h1 : lo.1 ≤ σ.store.length + k) (h2 : lo.2 ≤ σ.rooms.length + j) (hcl : CleanSg σ) (hds : CleanAll σ.store.length σ.rooms.length σ.ys.length ds)
 (hc : CleanLs (σ.store.length + k) (σ.rooms.length + j) (σ.ys.length + ys.length) (l.take k)) (hE : CleanEs (σ.store.length + k) (σ.rooms.length + j) (σ.ys.length + ys.length) E) :
 Weak N lo E ((σ.setVar d ds).ext l rm ys) E ((σ.setVar d ds).ext (l.take k) (rm.take j) ys) := by
 have h := Weak.cutX (N := N) (lo := lo) (E := E) (σ := σ.setVar d ds) (l := l) (rm := rm) (ys := ys) k j (by rw [sv_len]; exact h1) h2 (CleanSg_set hcl hds) (by rw [sv_len]; exact hc) (by rw [sv_len]; exact hE)
 exact h
theorem Weak.roV {N : Nat} {lo : Nat × Nat} {E : Env} {σ : Sg} {id off : Nat} {cs : List PV} {p : PV} (hid : σ.store[id]? = some (some cs)) (hc : cs[off]? = some p) : Weak N lo E σ E (σ.setVar id (cs.set off p.ro)) := by
 intro Ψ0 Ψ D a w hb le hr
 have hs2 := hr.sg.reread (cs' := cs.set off p.ro) hid (fun b hb2 h2 => h2.setRo hc)
 exact ⟨Ψ, le, hr.size, hr.env, hs2, hr.dsub, hr.defs⟩
theorem Weak.roX {N : Nat} {lo : Nat × Nat} {E : Env} {σ : Sg} {l : List (Option (List PV))} {rm : List Nat} {ys : List LState} {j off : Nat} {cs : List PV} {p : PV} (hid : l[j]? = some (some cs)) (hc : cs[off]? = some p) :
 Weak N lo E (σ.ext l rm ys) E (σ.ext (l.set j (some (cs.set off p.ro))) rm ys) := by
 have h := Weak.roV (N := N) (lo := lo) (E := E) (σ := σ.ext l rm ys) (id := σ.store.length + j) (off := off) (cs := cs) (p := p) (by rw [Sg.get_ext]; exact hid) hc
 rw [Sg.set_ext] at h
 exact h
theorem op_step {D : List Nat} {P : Program} {N : Nat} {rd : Option Nat} {ops : Array Oper} {Ψ0 : Ty} {Q : Exit → Act → World → Prop} {E : Env} {σ : Sg} {Ψ : Ty} {a : Act} {w : World} {o : Oper} {i : Nat} {is : List Nat} {v : PV}
 (hr : Rel N D Ψ E σ a w) (ho : ops[i]? = some o) (hd : dstOK N o = true) (hg : o.guard = none) (hnd : ∀ c, o.op ≠ .defer c) {x : Value} (hx : (execOp a.eval o).run P w = .ok (.value x) w) (hv : VR Ψ v x)
 (k : ∀ a', Rel N D Ψ (E.put o.dst v) σ a' w → wpOpsIn (FnOf Ψ0 rd) 0 P ops Q is a' w) : wpOpsIn (FnOf Ψ0 rd) 0 P ops Q (i :: is) a w := by
 simp only [wpOpsIn, ho]
 have hw : wantedPV ops E o = some true := by simp [wantedPV, hg]
 rw [wanted_ok hw hr.env]
 simp only [if_true]
 refine ⟨fun f _ => FnOf_fn _ _ _, ?_⟩
 rw [Oper.semAt_eq _ _ _ hnd, hx]
 exact k _ (hr.put (Ty.le.refl _) hr.sg hd hv)
theorem W_isnil {P : Program} {Y : YEnv} {N : Nat} {rd : Option Nat} {lo : Nat × Nat} {id d1 d2 : Nat} {x : Operand} {t ty1 ty2 e : TypeId} {p1 p2 : String} {af1 af2 : Array Edge} {sh : TypeId} {E : Env} {σ : Sg} {Q : Exit → Env → Sg → Prop} {l : List PV} {own : Own} (ks : List Nat)
 (h1 : d1 < N) (h2 : d2 < N) (hx : ev E x = .isl l own) (ht : P.underlying t = some (.slice e))
 (h : ∀ b : Bool, (b = true → l = []) → Q .normal (keep ks ((d2, .bool b) :: (d1, .isl l own) :: E)) σ) :
 W P Y N rd lo (.region id #[{ dst := some d1, op := .move x, type := ty1, pos := p1, after := af1, guard := none }, { dst := some d2, op := .binOp .eql t (.tmp d1) (.const (.slice none 0 0)) sh, type := ty2, pos := p2, after := af2, guard := none }] false) E σ Q := by
 intro Ψ0 D _ hy _ Ψ a w le hr
 refine wpIn_region ?_
 have hv := ev_ok hr.env x
 rw [hx] at hv
 refine op_step (is := [1]) (v := .isl l own) hr rfl (by simp [dstOK, h1]) rfl (fun c e => by cases e) (x := a.eval x) rfl hv fun a1 hr1 => ?_
 have hv1 : VR Ψ (.isl l own) (a1.tmps.getD d1 undef) := by
  have : VR Ψ ((Env.put E (some d1) (.isl l own)).get d1) (a1.tmps.getD d1 undef) := hr1.env d1
  rw [show (Env.put E (some d1) (.isl l own)).get d1 = .isl l own by simp [Env.get]] at this
  exact this
 have hval : ∃ q n c, a1.tmps.getD d1 undef = .slice q n c ∧ (q.isNone = true → l = []) := by
  generalize a1.tmps.getD d1 undef = z at hv1
  cases hv1 with
  | islnil _ _ _ => exact ⟨_, _, _, rfl, fun _ => rfl⟩
  | isl es _ _ b o cap vals hs h1 h2 hc ho => exact ⟨_, _, _, rfl, fun h => by simp at h⟩
 obtain ⟨q, n, c, hz, hq⟩ := hval
 have he : (a1.eval (.tmp d1)) = .slice q n c := hz
 have hrun : ∀ o : Oper, o.op = .binOp .eql t (.tmp d1) (.const (.slice none 0 0)) sh → (execOp a1.eval o).run P w = .ok (.value (.bool q.isNone)) w := by
  intro o ho
  have e1 : execOp a1.eval o = (do pure (.value (← (do eqGuard .eql t (.tmp d1) (.const (.slice none 0 0)) (a1.eval (.tmp d1)) (a1.eval (.const (.slice none 0 0))); binOp .eql t (a1.eval (.tmp d1)) (a1.eval (.const (.slice none 0 0))) : Sem Value)))) := by
   unfold execOp; rw [ho]
  have he2 : a1.eval (.const (.slice none 0 0)) = .slice none 0 0 := rfl
  rw [e1, he, he2]
  have hg : (eqGuard .eql t (.tmp d1) (.const (.slice none 0 0)) (.slice q n c) (.slice none 0 0)).run P w = .ok () w := rfl
  have hb : (binOp .eql t (.slice q n c) (.slice none 0 0)).run P w = .ok (.bool q.isNone) w := by
   have heq : (Op.equal t (.slice q n c) (.slice none 0 0)).run P w = .ok q.isNone w := by
    unfold Op.equal
    show (Op.equalIn (9999 + 1) t (.slice q n c) (.slice none 0 0)).run P w = _
    unfold Op.equalIn
    rw [run_bind_ok (run_und ht)]
    cases q <;> rfl
   show (do pure (.bool (← Op.equal t (.slice q n c) (.slice none 0 0))) : Sem Value).run P w = _
   rw [run_bind_ok heq]; rfl
  have hgb : (do eqGuard .eql t (.tmp d1) (.const (.slice none 0 0)) (.slice q n c) (.slice none 0 0); binOp .eql t (.slice q n c) (.slice none 0 0) : Sem Value).run P w = .ok (.bool q.isNone) w := by
   rw [run_bind_ok hg]; exact hb
  rw [run_bind_ok hgb]
  rfl
 refine op_step (is := []) (v := .bool q.isNone) hr1 rfl (by simp [dstOK, h2]) rfl (fun c e => by cases e) (x := .bool q.isNone) (hrun _ rfl) (.bool _) fun a2 hr2 => ?_
 exact ⟨_, σ, Ψ, le, hr2.keep ks, Below.refl _ _, h _ hq⟩
/-- The owner of a part of a slice. -/
theorem slHi_of {P : Program} {t e : TypeId} {d : TypeDesc} (h : P.underlying t = some (.slice e)) (he : P.underlying e = some d) (l : List PV) (own : Own) (k : IntKind) (n : Int) :
 slicePV P t (.isl l own) none (some (.int k n)) none = if 0 ≤ n then if n.toNat ≤ l.length then some (.isl (l.take n.toNat) (sliceOwn own 0 n.toNat l.length)) else none else none := by
 unfold slicePV
 rw [h]
 simp only [he, bnd]
 by_cases hn : 0 ≤ n
 ·simp [hn]
 simp [hn]
/-- Without an owner. -/
theorem sliceOwn_ro {lo h len : Nat} : sliceOwn .ro lo h len = .ro := by unfold sliceOwn; split <;> rfl
theorem sliceOwn_self {own : Own} {lo len : Nat} : sliceOwn own lo len len = own := by simp [sliceOwn]
attribute [go_sem] sliceOwn_ro sliceOwn_self
theorem slLo_of {P : Program} {t e : TypeId} {d : TypeDesc} {c : Nat} (h : P.underlying t = some (.slice e)) (he : P.underlying e = some d) (hc : P.cellsOf e = c) {α : Type} {f : α → PV} (hf : ∀ x, (f x).cells.length = c) (xs : List α) (own : Own) (k : IntKind) (n : Int) :
 slicePV P t (.isl (xs.map f) own) (some (.int k n)) none none = if 0 ≤ n then if n.toNat ≤ xs.length then some (.isl ((xs.drop n.toNat).map f) own) else none else none := by
 have hall : (xs.map f).all (fun el => el.cells.length == c) = true := by
  rw [List.all_eq_true]
  intro p hp
  obtain ⟨x, _, rfl⟩ := List.mem_map.1 hp
  simp [hf]
 unfold slicePV
 rw [h]
 simp only [he, bnd, hc]
 by_cases hn : 0 ≤ n
 ·simp only [hn, if_true]
  by_cases hl : n.toNat ≤ xs.length
  ·rw [if_pos ⟨by simpa using hl, Nat.le_refl _, .inr hall⟩, if_pos hl, sliceOwn_self, ← List.map_drop, List.take_of_length_le (by simp)]
  rw [if_neg (fun q => hl (by simpa using q.1)), if_neg hl]
 simp [hn]
theorem slBoth_of {P : Program} {t e : TypeId} {d : TypeDesc} {c : Nat} (h : P.underlying t = some (.slice e)) (he : P.underlying e = some d) (hc : P.cellsOf e = c) {α : Type} {f : α → PV} (hf : ∀ x, (f x).cells.length = c) (xs : List α) (own : Own) (k k' : IntKind) (n m : Int) :
 slicePV P t (.isl (xs.map f) own) (some (.int k n)) (some (.int k' m)) none = if 0 ≤ n then if 0 ≤ m then if n.toNat ≤ m.toNat ∧ m.toNat ≤ xs.length then some (.isl (((xs.drop n.toNat).take (m.toNat - n.toNat)).map f) (sliceOwn own n.toNat m.toNat xs.length)) else none else none else none := by
 have hall : (xs.map f).all (fun el => el.cells.length == c) = true := by
  rw [List.all_eq_true]
  intro p hp
  obtain ⟨x, _, rfl⟩ := List.mem_map.1 hp
  simp [hf]
 unfold slicePV
 rw [h]
 simp only [he, bnd, hc]
 by_cases hn : 0 ≤ n
 ·by_cases hm : 0 ≤ m
  ·simp only [hn, hm, if_true]
   by_cases hl : n.toNat ≤ m.toNat ∧ m.toNat ≤ xs.length
   ·rw [if_pos ⟨hl.1, by simpa using hl.2, .inr hall⟩, if_pos hl]
    simp only [List.length_map, ← List.map_drop, ← List.map_take]
   rw [if_neg (fun q => hl ⟨q.1, by simpa using q.2.1⟩), if_neg hl]
  simp [hn, hm]
 simp [hn]
section
variable {P : Program} {t e : TypeId} {d : TypeDesc} {c b : Nat} {σ : Sg} {id len es : Nat}
theorem iaG_of (h : P.underlying t = some (.slice e)) (he : P.underlying e = some d) (hc : P.cellsOf e = c) (kd : IntKind) (len : Nat) (n : Int) : indexAddrPV P t (.gsl id len es) (.int kd n) = iaM c id 0 len n := by
 simp [indexAddrPV, h, he, hc, iaM]
theorem lenG_of (h : P.underlying t = some (.slice e)) (n : Nat) : lenPV P t (.gsl id n es) = some (.int .i64 n) := by simp [lenPV, h]
theorem lenN_of (h : P.underlying t = some (.slice e)) : lenPV P t .gnil = some (.int .i64 0) := by simp [lenPV, h]
def appG (c b : Nat) (σ : Sg) (x : PV) (m : List PV) : Option (PV × Sg) :=
  if m.all (fun q => (q.cells.length == c) && q.cells.all PV.scalar) && decide (0 < m.length) then
    (match x with
     | .gnil => if m.length * b ≤ 2 ^ 47 then some (.gsl σ.store.length m.length c, σ.push (rowC m)) else none
     | .gsl id len es => match σ.store[id]? with
       | some (some cs) => if es = c ∧ len * es ≤ cs.length ∧ (len + m.length) * b ≤ 2 ^ 47 then some (.gsl σ.store.length (len + m.length) es, (σ.drop id).push (cs.take (len * es) ++ rowC m)) else none
       | _ => none
     | _ => none)
  else none
theorem appG_of {zs : List PV} {x : PV} {m : List PV} {own : Own} (h : P.underlying t = some (.slice e)) (he : P.underlying e = some d) (hc : P.cellsOf e = c) (hb : P.bytesOf e = b) (hb0 : b ≠ 0) (hc0 : 0 < c) (hz : zeroPV P e = some zs) (hzl : zs.length = c) :
 appendG P σ t t x (.isl m own) = appG c b σ x m := by
 unfold appendG appG
 rw [h]
 simp only [he, hc, hb, hz, hzl, Option.isSome_some, Bool.true_and, Option.map_some, BEq.rfl, Bool.and_true, hb0, hc0, ne_eq, not_false_eq_true, and_self, decide_true]
 rfl
theorem appG_nil {m : List PV} (h1 : m.all (fun q => (q.cells.length == c) && q.cells.all PV.scalar) = true) (h2 : 0 < m.length) (h3 : m.length * b ≤ 2 ^ 47) : appG c b σ .gnil m = some (.gsl σ.store.length m.length c, σ.push (rowC m)) := by
 simp only [appG, h1, h2, h3, decide_true, Bool.and_true, if_true]
theorem appG_more {m cs : List PV} (hs : σ.store[id]? = some (some cs)) (hl : cs.length = len * c) (h1 : m.all (fun q => (q.cells.length == c) && q.cells.all PV.scalar) = true) (h2 : 0 < m.length) (h3 : (len + m.length) * b ≤ 2 ^ 47) :
 appG c b σ (.gsl id len c) m = some (.gsl σ.store.length (len + m.length) c, (σ.drop id).push (cs ++ rowC m)) := by
 simp only [appG, h1, h2, decide_true, Bool.and_true, if_true, hs]
 rw [if_pos ⟨trivial, by omega, h3⟩, List.take_of_length_le (by omega)]
end
theorem get_put1 (E : Env) (t : Nat) (v : PV) (t' : Nat) : (E.put (some t) v).get t' = if t' = t then v else E.get t' := by
 simp only [Env.put_some, Env.get]
 by_cases h : t' = t
 ·subst h; simp
 simp [h, Ne.symm h]
theorem rowC_at {es : Nat} : ∀ {l : List PV} (_ : ∀ q ∈ l, q.cells.length = es) {k j : Nat} {q p : PV}, l[k]? = some q → q.cells[j]? = some p → (rowC l)[k * es + j]? = some p := by
 intro l
 induction l with
 | nil => intro _ k j q p h; simp at h
 | cons a l ih =>
  intro hl k j q p h1 h2
  have ha := hl a (by simp)
  have e : rowC (a :: l) = a.cells ++ rowC l := by simp [rowC]
  rw [e]
  cases k with
  | zero =>
   simp at h1
   subst h1
   rw [Nat.zero_mul, Nat.zero_add, List.getElem?_append_left (List.getElem?_eq_some_iff.1 h2).1]
   exact h2
  | succ k =>
   have := ih (fun q hq => hl q (by simp [hq])) (by simpa using h1) h2
   rw [List.getElem?_append_right (by rw [ha, Nat.add_mul]; omega), ha, show (k + 1) * es + j - es = k * es + j by rw [Nat.add_mul]; omega]
   exact this
theorem Sg.drop_ext {σ : Sg} {l : List (Option (List PV))} {rm : List Nat} {ys : List LState} (j : Nat) : (σ.ext l rm ys).drop (σ.store.length + j) = σ.ext (l.set j none) rm ys := by
 simp [Sg.drop, Sg.ext, List.set_append]
theorem Sg.drop_ext0 {σ : Sg} {l : List (Option (List PV))} {rm : List Nat} {ys : List LState} : (σ.ext l rm ys).drop σ.store.length = σ.ext (l.set 0 none) rm ys := Sg.drop_ext 0
attribute [go_sem] Sg.drop_ext Sg.drop_ext0
/-- What a variable held is read of a temporary, and is never written again. -/
theorem Weak.freeze {N : Nat} {lo : Nat × Nat} {E : Env} {σ : Sg} {t id len es : Nat} {l : List PV} (ht : E.get t = .gsl id len es) (hs : σ.store[id]? = some (some (rowC l))) (hl : l.length = len) (hes : ∀ q ∈ l, q.cells.length = es) :
 Weak N lo E σ (E.put (some t) (.isl l .ro)) (σ.drop id) := by
 intro Ψ0 Ψ D a w hb le hr
 have hv := hr.env t
 rw [ht] at hv
 generalize hx : a.tmps.getD t undef = x at hv
 cases hv with
 | gsl _ _ _ b cap hβ hz1 hz0 hc =>
 obtain ⟨_, _, hkp⟩ := hr.sg.block id _ b hs hβ
 obtain ⟨c, hbk, _⟩ := hkp.blk (hr.sg.szok b _ hz0)
 obtain ⟨a4, a5⟩ := hkp.cells hbk
 obtain ⟨le2, hs2⟩ := hr.sg.freeze hs hβ hbk
 refine ⟨_, le.trans le2, hr.size, fun t' => ?_, hs2, fun d hd => le2.ds _ (hr.dsub d hd), ?_⟩
 ·rw [get_put1]
  split
  ·rename_i e
   subst e
   rw [hx, ← hl]
   have hat : ∀ (k : Nat) (q : PV) (j : Nat) (p : PV), l[k]? = some q → q.cells[j]? = some p → (rowC l)[k * es + j]? = some p ∧ k * es + j < c.size := fun k q j p q1 q2 => by
    have := rowC_at hes q1 q2
    exact ⟨this, Nat.lt_of_lt_of_le (List.getElem?_eq_some_iff.1 this).1 a4⟩
   refine .isl es l .ro b 0 cap (fun k j => c.getD (k * es + j) undef) (fun k q hk => hes q (List.mem_of_getElem? hk)) (fun k q j p q1 q2 => ?_) (fun k q j p q1 q2 => ?_) (by omega) trivial
   ·obtain ⟨_, hlt⟩ := hat k q j p q1 q2
    simp only [Ty.addImm, Nat.zero_add]
    rw [if_pos ⟨trivial, Nat.zero_le _, hlt⟩]
    simp [Array.getD, hlt]
   obtain ⟨h1, hlt⟩ := hat k q j p q1 q2
   refine (a5 _ p _ h1 ?_).mono le2
   simp [Array.getD, hlt]
  exact (hr.env t').mono le2
 obtain ⟨rs, r1, r2, r3⟩ := hr.defs
 exact ⟨rs, r1, r2, fun r hm => ⟨le2.ds _ (r3 r hm).1, (r3 r hm).2⟩⟩
/-- A slice without room, told otherwise: to grow in place. -/
theorem Weak.gnil {N : Nat} {lo : Nat × Nat} {E : Env} {σ : Sg} {t : Nat} (ht : E.get t = .isl [] .exact) : Weak N lo E σ (E.put (some t) .gnil) σ := by
 intro Ψ0 Ψ D a w hb le hr
 refine ⟨Ψ, le, hr.size, fun t' => ?_, hr.sg, hr.dsub, hr.defs⟩
 rw [get_put1]
 split
 ·rename_i e
  subst e
  have hv := hr.env t'
  rw [ht] at hv
  generalize a.tmps.getD t' undef = x at hv
  cases hv with
  | islnil _ a' _ => exact .gnil a'
  | isl es _ _ b o cap vals hs h1 h2 hc ho =>
   have : cap = 0 := ho
   subst this
   exact .gnil _
 exact hr.env t'
/-- A map's entries. -/
def mapE {κ ν : Type} (ek : κ → PV) (ev : ν → PV) (l : List (κ × ν)) : List PV := l.map fun e => .tuple [ek e.1, ev e.2]
theorem mapE_cons {κ ν : Type} (ek : κ → PV) (ev : ν → PV) (e : κ × ν) (l : List (κ × ν)) : mapE ek ev (e :: l) = .tuple [ek e.1, ev e.2] :: mapE ek ev l := rfl
theorem mapE_append {κ ν : Type} (ek : κ → PV) (ev : ν → PV) (l m : List (κ × ν)) : mapE ek ev (l ++ m) = mapE ek ev l ++ mapE ek ev m := by simp [mapE]
section
variable {κ ν : Type} [DecidableEq κ]
def aget (k : κ) : List (κ × ν) → Option ν
 | [] => none
 | e :: l => if k = e.1 then some e.2 else aget k l
def aput (k : κ) (v : ν) : List (κ × ν) → List (κ × ν)
 | [] => [(k, v)]
 | e :: l => if k = e.1 then (k, v) :: l else e :: aput k v l
theorem aget_put (k k' : κ) (v : ν) : ∀ l : List (κ × ν), aget k' (aput k v l) = if k' = k then some v else aget k' l := by
 intro l
 induction l with
 | nil => rfl
 | cons e l ih =>
  simp only [aput]
  split
  ·rename_i h
   subst h
   simp only [aget]
   split <;> rfl
  rename_i h
  simp only [aget]
  split
  ·rename_i h2
   subst h2
   rw [if_neg (fun e => h e.symm)]
  exact ih
theorem aget_mem {k : κ} {v : ν} : ∀ {l : List (κ × ν)}, aget k l = some v → (k, v) ∈ l := by
 intro l
 induction l with
 | nil => intro h; cases h
 | cons e l ih =>
  intro h
  simp only [aget] at h
  split at h
  ·rename_i he
   injection h with h
   subst he h
   simp
  exact List.mem_cons_of_mem _ (ih h)
theorem aget_none {k : κ} : ∀ {l : List (κ × ν)}, aget k l = none ↔ ∀ e, e ∈ l → e.1 ≠ k := by
 intro l
 induction l with
 | nil =>
  constructor
  ·intro _ e h
   cases h
  intro _
  rfl
 | cons e l ih =>
  simp only [aget]
  by_cases he : k = e.1
  ·rw [if_pos he]
   constructor
   ·intro h
    cases h
   intro h
   exact absurd he.symm (h e (by simp))
  rw [if_neg he, ih]
  constructor
  ·intro h x hx
   rcases List.mem_cons.1 hx with rfl | hx
   ·exact fun q => he q.symm
   exact h x hx
  intro h x hx
  exact h x (by simp [hx])
/-- The keys of a type are told apart as their readings are. -/
def KeyOK (P : Program) (kt : TypeId) (ek : κ → PV) : Prop := ∀ a b, keyEq P kt (ek a) (ek b) = some (decide (a = b))
def afind (k : κ) : List (κ × ν) → Nat → Option (Nat × ν)
 | [], _ => none
 | e :: l, i => if k = e.1 then some (i, e.2) else afind k l (i + 1)
theorem findPV_map {P : Program} {kt : TypeId} {ek : κ → PV} (h : KeyOK P kt ek) (ev : ν → PV) (k : κ) : ∀ (l : List (κ × ν)) (i : Nat), findPV P kt (ek k) (mapE ek ev l) i = some ((afind k l i).map fun r => (r.1, ev r.2)) := by
 intro l
 induction l with
 | nil => intro i; rfl
 | cons e l ih =>
  intro i
  simp only [mapE_cons, findPV, afind]
  rw [h k e.1]
  by_cases he : k = e.1
  ·simp [he]
  simp only [he, decide_false, if_neg, not_false_eq_true]
  exact ih (i + 1)
theorem afind_get (k : κ) : ∀ (l : List (κ × ν)) (i : Nat), (afind k l i).map (·.2) = aget k l := by
 intro l
 induction l with
 | nil => intro i; rfl
 | cons e l ih =>
  intro i
  simp only [afind, aget]
  split
  ·rfl
  exact ih (i + 1)
theorem afind_put (ek : κ → PV) (ev : ν → PV) (k : κ) (v : ν) : ∀ (l : List (κ × ν)) (i : Nat), match afind k l i with
 | none => aput k v l = l ++ [(k, v)]
 | some (j, _) => i ≤ j ∧ (mapE ek ev l).set (j - i) (.tuple [ek k, ev v]) = mapE ek ev (aput k v l) := by
 intro l
 induction l with
 | nil => intro i; rfl
 | cons e l ih =>
  intro i
  simp only [afind, aput]
  by_cases he : k = e.1
  ·rw [if_pos he, if_pos he]
   simp [mapE_cons]
  rw [if_neg he, if_neg he]
  have := ih (i + 1)
  cases hf : afind k l (i + 1) with
  | none => rw [hf] at this; simp only at this ⊢; rw [this]; rfl
  | some r =>
   rw [hf] at this
   obtain ⟨j, x⟩ := r
   simp only at this ⊢
   refine ⟨by omega, ?_⟩
   rw [show j - i = j - (i + 1) + 1 by omega, mapE_cons, List.set_cons_succ, this.2, mapE_cons]
def lkM (P : Program) (kt : TypeId) (z : PV) (b : Option (Option (List PV))) (k : PV) (ok : Bool) : Option PV :=
 match b with
 | some (some (.mark :: es)) => match findPV P kt k es 0 with
  | some (some (_, v)) => some (packPV ok v true)
  | some none => some (packPV ok z false)
  | none => none
 | _ => none
def lkX (P : Program) (kt : TypeId) (z : PV) (σ : Sg) (id : Nat) (k : PV) (ok : Bool) : Option PV := lkM P kt z σ.store[id]? k ok
def upM (P : Program) (kt : TypeId) (b : Option (Option (List PV))) (k v : PV) : Option (List PV) :=
 match b with
 | some (some (.mark :: es)) => match findPV P kt k es 0 with
  | some (some (j, _)) => some (.mark :: es.set j (.tuple [k, v]))
  | some none => some (.mark :: (es ++ [.tuple [k, v]]))
  | none => none
 | _ => none
def upX (P : Program) (kt : TypeId) (σ : Sg) (id : Nat) (k v : PV) : Option Sg := (upM P kt σ.store[id]? k v).map fun cs => σ.setVar id cs
theorem lk_of {P : Program} {t kt et : TypeId} {kd : TypeDesc} {z : PV} (h : P.underlying t = some (.map kt et)) (hk : P.underlying kt = some kd) (hz : zeroOne P et = some z) {k : PV} (hf : keyFor P kd k = true) (σ : Sg) (id : Nat) (ok : Bool) :
 lookupPV P σ t (.map id) k ok = lkX P kt z σ id k ok := by
 simp only [lookupPV, h, hk, hz, hf, if_true, lkX, lkM]
 rfl
theorem up_of {P : Program} {t kt et : TypeId} {kd : TypeDesc} (h : P.underlying t = some (.map kt et)) (hk : P.underlying kt = some kd) {k : PV} (hf : keyFor P kd k = true) (v : PV) (σ : Sg) (id : Nat) :
 updatePV P σ t (.map id) k v = upX P kt σ id k v := by
 simp only [updatePV, h, hk, hf, if_true, upX, upM]
 generalize σ.store[id]? = b
 rcases b with _ | _ | cs
 ·rfl
 ·rfl
 rcases cs with _ | ⟨c, cs⟩
 ·rfl
 cases c <;> try rfl
 simp only
 rcases findPV P kt k cs 0 with _ | _ | ⟨j, x⟩ <;> rfl
theorem lkM_map {P : Program} {kt : TypeId} {z : PV} {ek : κ → PV} (h : KeyOK P kt ek) (ev : ν → PV) (l : List (κ × ν)) (k : κ) (ok : Bool) :
 lkM P kt z (some (some (.mark :: mapE ek ev l))) (ek k) ok = some (packPV ok (match aget k l with | some v => ev v | none => z) (aget k l).isSome) := by
 simp only [lkM, findPV_map h]
 rw [← afind_get k l 0]
 cases afind k l 0 with
 | none => rfl
 | some r => rfl
theorem upM_map {P : Program} {kt : TypeId} {ek : κ → PV} (h : KeyOK P kt ek) (ev : ν → PV) (l : List (κ × ν)) (k : κ) (v : ν) :
 upM P kt (some (some (.mark :: mapE ek ev l))) (ek k) (ev v) = some (.mark :: mapE ek ev (aput k v l)) := by
 simp only [upM, findPV_map h]
 have := afind_put ek ev k v l 0
 cases hf : afind k l 0 with
 | none =>
  rw [hf] at this
  simp only at this
  simp only [Option.map_none, this, mapE_append]
  rfl
 | some r =>
  rw [hf] at this
  obtain ⟨j, x⟩ := r
  simp only [Option.map_some]
  have h2 := this.2
  simp only [Nat.sub_zero] at h2
  rw [h2]
end
section
variable {P : Program} {kt : TypeId} {z : PV} {σ : Sg} {l : List (Option (List PV))} {rm : List Nat} {ys : List LState} {j d : Nat} {cs : List PV} {k v : PV} {ok : Bool}
theorem lkX_ext : lkX P kt z (σ.ext l rm ys) (σ.store.length + j) k ok = lkM P kt z l[j]? k ok := by simp only [lkX, Sg.get_ext]
theorem lkX_ext0 : lkX P kt z (σ.ext l rm ys) σ.store.length k ok = lkM P kt z l[0]? k ok := by simp only [lkX, Sg.get_ext0]
theorem upX_ext : upX P kt (σ.ext l rm ys) (σ.store.length + j) k v = (upM P kt l[j]? k v).map fun cs => σ.ext (l.set j (some cs)) rm ys := by simp only [upX, Sg.get_ext, Sg.set_ext]
theorem upX_ext0 : upX P kt (σ.ext l rm ys) σ.store.length k v = (upM P kt l[0]? k v).map fun cs => σ.ext (l.set 0 (some cs)) rm ys := by simp only [upX, Sg.get_ext0, Sg.set_ext0]
theorem lkX_svx : lkX P kt z ((σ.setVar d cs).ext l rm ys) (σ.store.length + j) k ok = lkM P kt z l[j]? k ok := by
 have := lkX_ext (P := P) (kt := kt) (z := z) (σ := σ.setVar d cs) (l := l) (rm := rm) (ys := ys) (j := j) (k := k) (ok := ok)
 rw [sv_len] at this
 exact this
theorem Cl_map {a b c id : Nat} : Clean a b c (.map id) = (id < a) := propext ⟨fun h => by cases h; assumption, fun h => .mapv _ h⟩
theorem Cl_nilmap {a b c : Nat} : Clean a b c .nilmap = True := eq_true .nilmap
theorem Cl_mark {a b c : Nat} : Clean a b c .mark = True := eq_true .mark
theorem Cl_gsl {a b c id len es : Nat} : Clean a b c (.gsl id len es) = (id < a) := propext ⟨fun h => by cases h; assumption, fun h => .gsl _ _ _ h⟩
theorem Cl_gnil {a b c : Nat} : Clean a b c .gnil = True := eq_true .gnil
theorem CleanAll_mapE {κ ν : Type} {a b c : Nat} {ek : κ → PV} {ev : ν → PV} {l : List (κ × ν)} (h1 : ∀ x, Clean a b c (ek x)) (h2 : ∀ x, Clean a b c (ev x)) : CleanAll a b c (mapE ek ev l) = True := eq_true fun p hp => by
 obtain ⟨e, _, rfl⟩ := List.mem_map.1 hp
 refine .tuple _ fun q hq => ?_
 simp only [List.mem_cons, List.not_mem_nil, or_false] at hq
 rcases hq with rfl | rfl
 ·exact h1 _
 exact h2 _
end
/-- What a made slice holds is read of a temporary, and is never written again. -/
theorem Weak.freezeM {N : Nat} {lo : Nat × Nat} {E : Env} {σ : Sg} {t id len es : Nat} {l : List PV} (ht : E.get t = .msl id 0 len) (hs : σ.store[id]? = some (some (rowC l))) (hl : l.length = len) (hes : ∀ q ∈ l, q.cells.length = es) :
 Weak N lo E σ (E.put (some t) (.isl l .ro)) (σ.drop id) := by
 intro Ψ0 Ψ D a w hb le hr
 have hv := hr.env t
 rw [ht] at hv
 generalize hx : a.tmps.getD t undef = x at hv
 cases hv with
 | msl _ _ _ b cap hβ hz0 hc =>
 obtain ⟨_, _, hkp⟩ := hr.sg.block id _ b hs hβ
 obtain ⟨c, hbk, _⟩ := hkp.blk (hr.sg.szok b _ hz0)
 obtain ⟨a4, a5⟩ := hkp.cells hbk
 obtain ⟨le2, hs2⟩ := hr.sg.freeze hs hβ hbk
 refine ⟨_, le.trans le2, hr.size, fun t' => ?_, hs2, fun d hd => le2.ds _ (hr.dsub d hd), ?_⟩
 ·rw [get_put1]
  split
  ·rename_i e
   subst e
   rw [hx, ← hl]
   have hat : ∀ (k : Nat) (q : PV) (j : Nat) (p : PV), l[k]? = some q → q.cells[j]? = some p → (rowC l)[k * es + j]? = some p ∧ k * es + j < c.size := fun k q j p q1 q2 => by
    have := rowC_at hes q1 q2
    exact ⟨this, Nat.lt_of_lt_of_le (List.getElem?_eq_some_iff.1 this).1 a4⟩
   refine .isl es l .ro b 0 cap (fun k j => c.getD (k * es + j) undef) (fun k q hk => hes q (List.mem_of_getElem? hk)) (fun k q j p q1 q2 => ?_) (fun k q j p q1 q2 => ?_) (by omega) trivial
   ·obtain ⟨_, hlt⟩ := hat k q j p q1 q2
    simp only [Ty.addImm, Nat.zero_add]
    rw [if_pos ⟨trivial, Nat.zero_le _, hlt⟩]
    simp [Array.getD, hlt]
   obtain ⟨h1, hlt⟩ := hat k q j p q1 q2
   refine (a5 _ p _ h1 ?_).mono le2
   simp [Array.getD, hlt]
  exact (hr.env t').mono le2
 obtain ⟨rs, r1, r2, r3⟩ := hr.defs
 exact ⟨rs, r1, r2, fun r hm => ⟨le2.ds _ (r3 r hm).1, (r3 r hm).2⟩⟩
theorem rowC_single {l : List PV} (h : ∀ q, q ∈ l → q.cells = [q]) : rowC l = l := by
 induction l with
 | nil => rfl
 | cons q l ih =>
  have := ih fun q hq => h q (by simp [hq])
  simp only [rowC, List.flatMap_cons] at this ⊢
  rw [h q (by simp), this]
  rfl
theorem rowC_ints (xs : List Int) : rowC (xs.map I) = xs.map I := rowC_single fun q hq => by obtain ⟨x, _, rfl⟩ := List.mem_map.1 hq; rfl
theorem rowC_bools (xs : List Bool) : rowC (xs.map PV.bool) = xs.map PV.bool := rowC_single fun q hq => by obtain ⟨x, _, rfl⟩ := List.mem_map.1 hq; rfl
theorem Weak.freezeB {N : Nat} {lo : Nat × Nat} {E : Env} {σ : Sg} {l : List (Option (List PV))} {rm : List Nat} {ys : List LState} {t j : Nat} {xs : List Bool} (ht : E.get t = .msl (σ.store.length + j) 0 xs.length) (hs : l[j]? = some (some (xs.map PV.bool))) :
 Weak N lo E (σ.ext l rm ys) (E.put (some t) (.isl (xs.map PV.bool) .ro)) (σ.ext (l.set j none) rm ys) := by
 have h := Weak.freezeM (N := N) (lo := lo) (E := E) (σ := σ.ext l rm ys) (t := t) (id := σ.store.length + j) (len := xs.length) (es := 1) (l := xs.map PV.bool) ht (by rw [Sg.get_ext, hs, rowC_bools]) (by simp) (fun q hq => by obtain ⟨x, _, rfl⟩ := List.mem_map.1 hq; rfl)
 rw [Sg.drop_ext] at h
 exact h
theorem mk_of {P : Program} {t e : TypeId} {z : PV} {b : Nat} (h : P.underlying t = some (.slice e)) (hz : zeroPV P e = some [z]) (hb : P.bytesOf e = b) (hc : P.cellsOf e = 1) {σ : Sg} {k : Nat} (hk : k * b ≤ 2 ^ 47) (hk2 : k < 2 ^ 63) :
 makePV P σ t (.int .i64 (k : Int)) (.int .i64 (k : Int)) = some (.msl σ.store.length 0 k, σ.push (List.replicate k z)) := by
 simp only [makePV, h, hz, hb, hc]
 rw [if_pos ⟨trivial, Int.natCast_nonneg k, by rw [← Int.natCast_mul]; omega, by omega, trivial⟩]
 simp
theorem iaM_nat {c id off len k : Nat} (h : k < len) : iaM c id off len (k : Int) = some (.ptr id (off + k * c)) := by
 unfold iaM
 rw [if_pos ⟨Int.natCast_nonneg k, by omega⟩]
 simp
theorem setI {xs : List Int} {i : Nat} {v : Int} : (xs.map I).set i (I v) = (xs.set i v).map I := by rw [List.map_set]
theorem setB {xs : List Bool} {i : Nat} {v : Bool} : (xs.map PV.bool).set i (.bool v) = (xs.set i v).map PV.bool := by rw [List.map_set]
theorem repB (n : Nat) (v : Bool) : List.replicate n (PV.bool v) = (List.replicate n v).map PV.bool := by simp
/-- A value, and what it is when the variables n + ks[i] become the variables n + i. -/
inductive Rn (n nr ny : Nat) (ks : List Nat) : PV → PV → Prop where
 | gone (p : PV) : Rn n nr ny ks p .undef
 | same (p : PV) (h : Clean n nr ny p) : Rn n nr ny ks p p
 | ptr (i k id id' off : Nat) (h : ks[i]? = some k) (e : id = n + k) (e' : id' = n + i) : Rn n nr ny ks (.ptr id off) (.ptr id' off)
 | msl (i k id id' off len : Nat) (h : ks[i]? = some k) (e : id = n + k) (e' : id' = n + i) : Rn n nr ny ks (.msl id off len) (.msl id' off len)
 | gsl (i k id id' len es : Nat) (h : ks[i]? = some k) (e : id = n + k) (e' : id' = n + i) : Rn n nr ny ks (.gsl id len es) (.gsl id' len es)
 | bself (i k id id' : Nat) (t : TypeId) (h : ks[i]? = some k) (e : id = n + k) (e' : id' = n + i) : Rn n nr ny ks (.bself id t) (.bself id' t)
 | mapv (i k id id' : Nat) (h : ks[i]? = some k) (e : id = n + k) (e' : id' = n + i) : Rn n nr ny ks (.map id) (.map id')
 | func (fn : Fn) (fs cs cs' : List PV) (hf : ∀ p, p ∈ fs → Clean n nr ny p) (hl : cs'.length = cs.length) (h : ∀ (j : Nat) (p v : PV), cs[j]? = some p → cs'[j]? = some v → Rn n nr ny ks p v) : Rn n nr ny ks (.func fn fs cs) (.func fn fs cs')
 | agg (cs cs' : List PV) (hl : cs'.length = cs.length) (h : ∀ (j : Nat) (p v : PV), cs[j]? = some p → cs'[j]? = some v → Rn n nr ny ks p v) : Rn n nr ny ks (.agg cs) (.agg cs')
 | tuple (cs cs' : List PV) (hl : cs'.length = cs.length) (h : ∀ (j : Nat) (p v : PV), cs[j]? = some p → cs'[j]? = some v → Rn n nr ny ks p v) : Rn n nr ny ks (.tuple cs) (.tuple cs')
def RnL (n nr ny : Nat) (ks : List Nat) : List PV → List PV → Prop
 | [], [] => True
 | p :: l, v :: m => Rn n nr ny ks p v ∧ RnL n nr ny ks l m
 | _, _ => False
theorem RnL.get {n nr ny : Nat} {ks : List Nat} : ∀ {l m : List PV}, RnL n nr ny ks l m → m.length = l.length ∧ ∀ (j : Nat) (p v : PV), l[j]? = some p → m[j]? = some v → Rn n nr ny ks p v := by
 intro l
 induction l with
 | nil =>
  intro m h
  cases m with
  | nil => exact ⟨rfl, fun j p v h => by simp at h⟩
  | cons => exact h.elim
 | cons q l ih =>
  intro m h
  cases m with
  | nil => exact h.elim
  | cons u m =>
   obtain ⟨h1, h2⟩ := h
   obtain ⟨g1, g2⟩ := ih h2
   refine ⟨by simp [g1], fun j p v hp hv => ?_⟩
   cases j with
   | zero => simp at hp hv; subst hp hv; exact h1
   | succ j => exact g2 j p v (by simpa using hp) (by simpa using hv)
def RnE (n nr ny : Nat) (ks : List Nat) : Env → Env → Prop
 | [], [] => True
 | (t, p) :: E, (t', v) :: E' => t = t' ∧ Rn n nr ny ks p v ∧ RnE n nr ny ks E E'
 | _, _ => False
theorem RnE.get {n nr ny : Nat} {ks : List Nat} : ∀ {E E' : Env}, RnE n nr ny ks E E' → ∀ t, Rn n nr ny ks (E.get t) (E'.get t) := by
 intro E
 induction E with
 | nil =>
  intro E' h t
  cases E' with
  | nil => exact .gone _
  | cons => exact h.elim
 | cons kv E ih =>
  intro E' h t
  obtain ⟨a, p⟩ := kv
  cases E' with
  | nil => exact h.elim
  | cons kv' E' =>
   obtain ⟨a', v⟩ := kv'
   obtain ⟨rfl, h1, h2⟩ := h
   simp only [Env.get]
   split
   ·exact h1
   exact ih h2 t
/-- A variable's cells: a map's stay as they are. -/
def RnV (n nr ny : Nat) (ks : List Nat) (cs cs' : List PV) : Prop := (CleanAll n nr ny cs ∧ cs' = cs) ∨ ((cs.head? ≠ some .mark ∧ ∀ m n s, cs.head? ≠ some (.itst m n s)) ∧ RnL n nr ny ks cs cs')
def RnS (n nr ny : Nat) (ks : List Nat) (l : List (Option (List PV))) : List Nat → List (Option (List PV)) → Prop
 | [], [] => True
 | k :: r, some cs' :: m => (∃ cs, l[k]? = some (some cs) ∧ RnV n nr ny ks cs cs') ∧ RnS n nr ny ks l r m
 | _ :: r, none :: m => RnS n nr ny ks l r m
 | _, _ => False
theorem RnS.get {n nr ny : Nat} {ks : List Nat} {l : List (Option (List PV))} : ∀ {r : List Nat} {m : List (Option (List PV))}, RnS n nr ny ks l r m → m.length = r.length ∧
 ∀ (i : Nat) (cs' : List PV), m[i]? = some (some cs') → ∃ k cs, r[i]? = some k ∧ l[k]? = some (some cs) ∧ RnV n nr ny ks cs cs' := by
 intro r
 induction r with
 | nil =>
  intro m h
  cases m with
  | nil => exact ⟨rfl, fun i cs' h => by simp at h⟩
  | cons => exact h.elim
 | cons k r ih =>
  intro m h
  cases m with
  | nil => exact h.elim
  | cons o m =>
   cases o with
   | none =>
    obtain ⟨g1, g2⟩ := ih (m := m) h
    refine ⟨by simp [g1], fun i cs' hi => ?_⟩
    cases i with
    | zero => simp at hi
    | succ i =>
     obtain ⟨k', cs, q1, q2⟩ := g2 i cs' (by simpa using hi)
     exact ⟨k', cs, by simpa using q1, q2⟩
   | some c =>
    obtain ⟨⟨cs, h1, h2⟩, h3⟩ := h
    obtain ⟨g1, g2⟩ := ih h3
    refine ⟨by simp [g1], fun i cs' hi => ?_⟩
    cases i with
    | zero => simp at hi; subst hi; exact ⟨k, cs, rfl, h1, h2⟩
    | succ i =>
     obtain ⟨k', cs, q1, q2⟩ := g2 i cs' (by simpa using hi)
     exact ⟨k', cs, by simpa using q1, q2⟩
def Ty.ren (Ψ : Ty) (n : Nat) (ks : List Nat) : Ty := { Ψ with β := Ψ.β.take n ++ ks.map fun k => Ψ.β.getD (n + k) 0 }
theorem Ty.ren_low {Ψ : Ty} {n : Nat} {ks : List Nat} {i b : Nat} (hi : i < n) (h : Ψ.β[i]? = some b) : (Ψ.ren n ks).β[i]? = some b := by
 have hl := (List.getElem?_eq_some_iff.1 h).1
 simp only [Ty.ren]
 rw [List.getElem?_append_left (by simp; omega), List.getElem?_take_of_lt hi]
 exact h
theorem Ty.ren_high {Ψ : Ty} {n : Nat} {ks : List Nat} {i k b : Nat} (hn : n ≤ Ψ.β.length) (hi : ks[i]? = some k) (h : Ψ.β[n + k]? = some b) : (Ψ.ren n ks).β[n + i]? = some b := by
 have hl : (Ψ.β.take n).length = n := by simp; omega
 simp only [Ty.ren]
 rw [List.getElem?_append_right (by omega), hl, show n + i - n = i by omega, List.getElem?_map, hi]
 simp only [Option.map_some, List.getD_eq_getElem?_getD, h, Option.getD_some]
theorem Ty.ren_inv {Ψ : Ty} {n : Nat} {ks : List Nat} {id b : Nat} (hn : n ≤ Ψ.β.length) (h : (Ψ.ren n ks).β[id]? = some b) : (id < n ∧ Ψ.β[id]? = some b) ∨ ∃ i k, id = n + i ∧ ks[i]? = some k ∧ b = Ψ.β.getD (n + k) 0 := by
 have hl : (Ψ.β.take n).length = n := by simp; omega
 simp only [Ty.ren] at h
 by_cases hi : id < n
 ·rw [List.getElem?_append_left (by omega), List.getElem?_take_of_lt hi] at h
  exact .inl ⟨hi, h⟩
 rw [List.getElem?_append_right (by omega), hl, List.getElem?_map] at h
 cases hk : ks[id - n]? with
 | none => rw [hk] at h; cases h
 | some k =>
  rw [hk] at h
  injection h with h
  exact .inr ⟨id - n, k, by omega, hk, h.symm⟩
theorem VR.renClean {Ψ : Ty} {n nr ny : Nat} {ks : List Nat} {p : PV} {x : Value} (h : VR Ψ p x) (hc : Clean n nr ny p) : VR (Ψ.ren n ks) p x := by
 refine VR.mono0 (Ψ := Ψ.trim n nr ny) (Ψ' := Ψ.ren n ks) (fun b o v k => k) (fun i b k => ?_) (fun r m y k => ?_) (fun i b k => ?_) (fun d k => k) (h.trim hc)
 ·simp only [Ty.trim] at k
  have hi : i < n := by have := (List.getElem?_eq_some_iff.1 k).1; simp at this; omega
  rw [List.getElem?_take_of_lt hi] at k
  exact Ty.ren_low hi k
 ·simp only [Ty.trim] at k
  split at k
  ·exact k
  cases k
 simp only [Ty.trim, List.getElem?_take] at k
 split at k
 ·exact k
 cases k
theorem VR.ren {Ψ : Ty} {n nr ny : Nat} {ks : List Nat} (hn : n ≤ Ψ.β.length) {p v : PV} (hr : Rn n nr ny ks p v) : ∀ {x : Value}, VR Ψ p x → VR (Ψ.ren n ks) v x := by
 induction hr with
 | gone p => intro x _; exact .undef x
 | same p hc =>
  intro x h
  exact h.renClean hc
 | ptr i k id id' off h e e' =>
  intro x hx
  cases hx with
  | ptr _ _ b hb hz => subst e e'; exact .ptr _ _ b (Ty.ren_high hn h hb) hz
 | msl i k id id' off len h e e' =>
  intro x hx
  cases hx with
  | msl _ _ _ b cap hb hz hc => subst e e'; exact .msl _ _ _ b cap (Ty.ren_high hn h hb) hz hc
 | gsl i k id id' len es h e e' =>
  intro x hx
  cases hx with
  | gsl _ _ _ b cap hb hz h0 hc => subst e e'; exact .gsl _ _ _ b cap (Ty.ren_high hn h hb) hz h0 hc
 | bself i k id id' t h e e' =>
  intro x hx
  cases hx with
  | bself _ _ b _ hb hz hx => subst e e'; exact .bself _ _ b _ (Ty.ren_high hn h hb) hz hx
 | mapv i k id id' h e e' =>
  intro x hx
  cases hx with
  | map _ b hb => subst e e'; exact .map _ b (Ty.ren_high hn h hb)
 | func fn fs cs cs' hf hl h ih =>
  intro x hx
  cases hx with
  | func _ _ _ xs ys h1 h2 h3 h4 =>
   refine .func fn fs cs' xs ys h1 (by rw [h2, hl]) (fun j p v q1 q2 => ?_) (fun j p v q1 q2 => ?_)
   ·have hc := hf p (List.mem_of_getElem? q1)
    exact (h3 j p v q1 q2).renClean hc
   have hj : j < cs.length := by rw [← hl]; exact (List.getElem?_eq_some_iff.1 q1).1
   exact ih j cs[j] p (by simp [hj]) q1 (h4 j cs[j] v (by simp [hj]) q2)
 | agg cs cs' hl h ih =>
  intro x hx
  cases hx with
  | agg _ vs h1 h2 =>
   refine .agg cs' vs (by rw [h1, hl]) fun j p v q1 q2 => ?_
   have hj : j < cs.length := by rw [← hl]; exact (List.getElem?_eq_some_iff.1 q1).1
   exact ih j cs[j] p (by simp [hj]) q1 (h2 j cs[j] v (by simp [hj]) q2)
 | tuple cs cs' hl h ih =>
  intro x hx
  cases hx with
  | tuple _ vs h1 h2 =>
   refine .tuple cs' vs (by rw [h1, hl]) fun j p v q1 q2 => ?_
   have hj : j < cs.length := by rw [← hl]; exact (List.getElem?_eq_some_iff.1 q1).1
   exact ih j cs[j] p (by simp [hj]) q1 (h2 j cs[j] v (by simp [hj]) q2)
theorem Keeps.ren {Ψ : Ty} {w : World} {n nr ny b : Nat} {ks : List Nat} {cs cs' : List PV} (hn : n ≤ Ψ.β.length) (h : Keeps Ψ w b cs) (hv : RnV n nr ny ks cs cs') : Keeps (Ψ.ren n ks) w b cs' := by
 rcases hv with ⟨hc, rfl⟩ | ⟨hm, hL⟩
 ·rcases h with ⟨c, h1, h2, h3⟩ | ⟨arr, es, h0, h1, h2, h3⟩ | ⟨mid, r, m, seen, h0, h1, h2⟩
  ·exact .inl ⟨c, h1, h2, fun j p v q1 q2 => (h3 j p v q1 q2).ren hn (.same p (hc p (List.mem_of_getElem? q1)))⟩
  rotate_left
  ·have hcl := hc _ (by rw [h0]; exact List.mem_cons_self ..)
   cases hcl with
   | itst _ _ _ hh => exact .inr (.inr ⟨mid, r, m, seen, h0, h1, h2.ren (nr := nr) (ny := ny) hn (.same _ (.mapv mid hh))⟩)
  refine .inr (.inl ⟨arr, es, h0, h1, h2, fun j p e q1 q2 => ?_⟩)
  obtain ⟨g1, k, v, rfl, g3, g4⟩ := h3 j p e q1 q2
  have hcl := hc _ (by rw [h0]; exact List.mem_cons_of_mem _ (List.mem_of_getElem? q1))
  cases hcl with
  | tuple _ hh => exact ⟨g1, k, v, rfl, g3.ren hn (.same k (hh k (by simp))), g4.ren hn (.same v (hh v (by simp)))⟩
 obtain ⟨g1, g2⟩ := hL.get
 rcases h with ⟨c, h1, h2, h3⟩ | ⟨arr, es, h0, _⟩ | ⟨mid, r, m, seen, h0, h1, h2⟩
 ·refine .inl ⟨c, h1, by omega, fun j p v q1 q2 => ?_⟩
  have hj : j < cs.length := by rw [← g1]; exact (List.getElem?_eq_some_iff.1 q1).1
  exact (h3 j cs[j] v (by simp [hj]) q2).ren hn (g2 j cs[j] p (by simp [hj]) q1)
 ·rw [h0] at hm
  exact absurd rfl hm.1
 rw [h0] at hm
 exact absurd rfl (hm.2 _ _ _)
theorem Weak.ren {N : Nat} {lo : Nat × Nat} {E E' : Env} {σ : Sg} {l l' : List (Option (List PV))} {rm : List Nat} {ys : List LState} (ks : List Nat) (hnd : ks.Nodup) (hkl : ∀ k, k ∈ ks → k < l.length) (h1 : lo.1 ≤ σ.store.length) (hcl : CleanSg σ)
 (hE : ∀ t, Rn σ.store.length (σ.rooms.length + rm.length) (σ.ys.length + ys.length) ks (E.get t) (E'.get t))
 (hL : RnS σ.store.length (σ.rooms.length + rm.length) (σ.ys.length + ys.length) ks l ks l') :
 Weak N lo E (σ.ext l rm ys) E' (σ.ext l' rm ys) := by
 intro Ψ0 Ψ D a w hb le hr
 have hs := hr.sg
 have hblen : Ψ.β.length = σ.store.length + l.length := by rw [hs.blen]; simp [Sg.ext]
 have hn : σ.store.length ≤ Ψ.β.length := by omega
 obtain ⟨l1, l2⟩ := hL.get
 have live : ∀ (id : Nat) (cs : List PV), (σ.ext l' rm ys).store[id]? = some (some cs) → ∃ id0 cs0, (σ.ext l rm ys).store[id0]? = some (some cs0) ∧ (∀ b, (Ψ.ren σ.store.length ks).β[id]? = some b → Ψ.β[id0]? = some b) ∧
  RnV σ.store.length (σ.rooms.length + rm.length) (σ.ys.length + ys.length) ks cs0 cs ∧ ((id < σ.store.length ∧ id0 = id) ∨ ∃ i k, id = σ.store.length + i ∧ ks[i]? = some k ∧ id0 = σ.store.length + k) := by
  intro id cs hid
  have hid' : (σ.store ++ l')[id]? = some (some cs) := hid
  by_cases h : id < σ.store.length
  ·rw [List.getElem?_append_left h] at hid'
   refine ⟨id, cs, ?_, fun b hb2 => ?_, .inl ⟨fun p hp => (hcl id cs h hid' p hp).mono (Nat.le_refl _) (Nat.le_add_right _ _) (Nat.le_add_right _ _), rfl⟩, .inl ⟨h, rfl⟩⟩
   ·show (σ.store ++ l)[id]? = _
    rw [List.getElem?_append_left h]; exact hid'
   rcases Ty.ren_inv hn hb2 with ⟨_, q⟩ | ⟨i, k, q, _⟩
   ·exact q
   omega
  rw [List.getElem?_append_right (by omega)] at hid'
  obtain ⟨k, cs0, q1, q2, q3⟩ := l2 _ cs hid'
  refine ⟨σ.store.length + k, cs0, ?_, fun b hb2 => ?_, q3, .inr ⟨id - σ.store.length, k, by omega, q1, rfl⟩⟩
  ·rw [Sg.get_ext]; exact q2
  rcases Ty.ren_inv hn hb2 with ⟨q, _⟩ | ⟨i, k', q4, q5, q6⟩
  ·omega
  have : i = id - σ.store.length := by omega
  subst this
  rw [q1] at q5
  injection q5 with q5
  subst q5
  have hkl : k < l.length := (List.getElem?_eq_some_iff.1 q2).1
  have : σ.store.length + k < Ψ.β.length := by omega
  rw [q6, List.getD_eq_getElem?_getD, List.getElem?_eq_getElem this]
  rfl
 refine ⟨Ψ.ren σ.store.length ks, ⟨le.base, le.imm, fun i b k => ?_, le.hist, le.ys, le.ds, le.rs, le.sz⟩, hr.size, fun t => (hr.env t).ren hn (hE t), ?_, hr.dsub, hr.defs⟩
 ·have hi : i < σ.store.length := by
   have := (List.getElem?_eq_some_iff.1 k).1
   have := hb.1
   omega
  exact Ty.ren_low hi (le.β i b k)
 refine ⟨hs.base, hs.imm, by simp [Ty.ren, Sg.ext, hblen, l1], ?_, ?_, ?_, hs.roomsApart, hs.histlt, hs.histle, ?_, hs.yok, hs.ylen', hs.dok, ?_, hs.szok⟩
 ·intro id cs b k1 k2
  obtain ⟨id0, cs0, g1, g2, g3, _⟩ := live id cs k1
  obtain ⟨a1, a2, a3⟩ := hs.block id0 cs0 b g1 (g2 b k2)
  exact ⟨a1, a2, a3.ren hn g3⟩
 ·intro id id' cs cs' b k1 k2 k3 k4
  obtain ⟨i0, c0, g1, g2, _, g4⟩ := live id cs k1
  obtain ⟨i1, c1, f1, f2, _, f4⟩ := live id' cs' k2
  have he := hs.apart i0 i1 c0 c1 b g1 f1 (g2 b k3) (f2 b k4)
  rcases g4 with ⟨q1, q2⟩ | ⟨i, k, q1, q2, q3⟩
  ·rcases f4 with ⟨p1, p2⟩ | ⟨i', k', p1, p2, p3⟩
   ·omega
   omega
  rcases f4 with ⟨p1, p2⟩ | ⟨i', k', p1, p2, p3⟩
  ·omega
  have : k = k' := by omega
  subst this
  have hi1 := (List.getElem?_eq_some_iff.1 q2)
  have hi2 := (List.getElem?_eq_some_iff.1 p2)
  have := (List.getElem_inj hnd).1 (hi1.2.trans hi2.2.symm)
  omega
 ·intro r n b e c es k hx hlt
  obtain ⟨a1, a2, a3, a4⟩ := hs.room r n b e c es k hx hlt
  refine ⟨a1, a2, fun id q cs q' => ?_, a4⟩
  obtain ⟨id0, cs0, g1, g2, _⟩ := live id cs q'
  exact a3 id0 (g2 b q) cs0 g1
 ·intro id b k
  rcases Ty.ren_inv hn k with ⟨_, q⟩ | ⟨i, k', q1, q2, q3⟩
  ·exact hs.βlt id b q
  have hk : σ.store.length + k' < Ψ.β.length := by have := hkl k' (List.mem_of_getElem? q2); omega
  refine hs.βlt (σ.store.length + k') b ?_
  rw [q3, List.getD_eq_getElem?_getD, List.getElem?_eq_getElem hk]
  rfl
 intro b c k
 obtain ⟨a1, a2, a3, a4, a5⟩ := hs.rok b c k
 refine ⟨a1, a2, fun id q cs q' => ?_, a4, a5⟩
 obtain ⟨id0, cs0, g1, g2, _⟩ := live id cs q'
 exact a3 id0 (g2 b q) cs0 g1
def NoGoto (Q : Exit → Env → Sg → Prop) : Exit → Env → Sg → Prop
 | .goto _, _, _ => False
 | e, E, σ => Q e E σ
section
variable {P : Program} {a : Act} {k : List Item} {cs : List Frame} {w : World} {Q : Exit → Env → Sg → Prop}
theorem stepR_scope {b : Frame} {c : Code} : step P (lone (b.atR a (.code (.scope c) :: k)) cs w) = .next (lone (b.atR a (.code c :: .inScope c :: k)) cs w) :=
 step_lone_go (by simp [stepG, stepG.exec, Frame.atR])
theorem stepR_inScope {b : Frame} {c : Code} : step P (lone (b.atR a (.inScope c :: k)) cs w) = .next (lone (b.atR a k) cs w) :=
 step_lone_go (by simp [stepG, stepG.exec, Frame.atR])
theorem W_scope {Y : YEnv} {N : Nat} {rd : Option Nat} {lo : Nat × Nat} {E : Env} {σ : Sg} {c : Code} (h : W P Y N rd lo c E σ (NoGoto Q)) : W P Y N rd lo (.scope c) E σ Q := by
 intro Ψ0 D h1 h2 h4 Ψ a w le hr b k cs hro hbf hroom
 obtain ⟨e, a1, w1, ⟨E1, σ1, Ψ1, k1, k2, k3, k4⟩, harr⟩ := h Ψ0 D h1 h2 h4 Ψ a w le hr b (.inScope c :: k) cs hro hbf hroom
 have h0 : (lone (b.atR a (.code (.scope c) :: k)) cs w).fenced P (FnOf Ψ0 rd) := fenced_calm hbf hroom rfl
 cases e with
 | normal => exact ⟨.normal, a1, w1, ⟨E1, σ1, Ψ1, k1, k2, k3, k4⟩, .head h0 stepR_scope (StepsIn.trans harr (.one (fenced_calm hbf hroom rfl) stepR_inScope))⟩
 | exit id =>
  refine ⟨.exit id, a1, w1, ⟨E1, σ1, Ψ1, k1, k2, k3, k4⟩, .of_steps (.one h0 stepR_scope) ?_⟩
  exact ⟨fun k' hk => harr.1 k' (by simpa [exitTo] using hk), fun hr' hk => harr.2 hr' (by simpa [exitTo] using hk)⟩
 | goto l => exact k4.elim
 | ret => exact ⟨_, a1, w1, ⟨E1, σ1, Ψ1, k1, k2, k3, k4⟩, .of_steps (.one h0 stepR_scope) harr⟩
 | panic ch => exact ⟨_, a1, w1, ⟨E1, σ1, Ψ1, k1, k2, k3, k4⟩, .of_steps (.one h0 stepR_scope) harr⟩
 | outgrown => exact ⟨_, a1, w1, ⟨E1, σ1, Ψ1, k1, k2, k3, k4⟩, .of_steps (.one h0 stepR_scope) harr⟩
theorem ngN {E : Env} {σ : Sg} : NoGoto Q .normal E σ = Q .normal E σ := rfl
theorem ngR {E : Env} {σ : Sg} : NoGoto Q .ret E σ = Q .ret E σ := rfl
theorem ngX {E : Env} {σ : Sg} {i : Nat} : NoGoto Q (.exit i) E σ = Q (.exit i) E σ := rfl
attribute [go_sem] ngN ngR ngX
end
section
variable {P : Program} {Y : YEnv} {N : Nat} {ops : Array Oper} {a b : Nat}
variable {F : Fence} {n : Nat} {Q : Exit → Act → World → Prop}
/-- In the order, b stands behind a. -/
def Behind (b a : Nat) (listed : Array Bool) (l : List Nat) : Prop := ∀ l1 l2, l = l1 ++ b :: l2 → listed.getD a false = true ∨ a ∈ l1
end
theorem W_newB {P : Program} {Y : YEnv} {N : Nat} {rd : Option Nat} {lo : Nat × Nat} {id : Nat} {ops : Array Oper} {E : Env} {σ : Sg} {Q : Exit → Env → Sg → Prop} (ks : List Nat) {T : TypeId} (te : TypeId) {d : Nat} {o : Oper} (ho : ops = #[o]) (hop : o.op = .alloc T) (hg : o.guard = none) (hd : o.dst = some d) (hdN : d < N)
 (hz : zeroPV P T = some [.nilptr, .isl [] .exact])
 (h : Q .normal (keep ks (E.put (some d) (.ptr σ.store.length 0))) ((σ.push [.bself σ.store.length T, .bbuf [] σ.rooms.length te]).pushRoom 0)) : W P Y N rd lo (.region id ops false) E σ Q := by
 intro Ψ0 D hb hy hrd Ψ a w le hr
 subst ho
 refine wpIn_region ?_
 show wpOpsIn (FnOf Ψ0 rd) 0 P #[o] (Post N D Ψ0 w Q) [0] a w
 rw [wpOpsIn_cons]
 refine exec_alloc (i := 0) rfl hop hg hz hr fun c hc0 hc2 => ?_
 obtain ⟨le1, hs1⟩ := hr.sg.newVar c T [.nilptr, .isl [] .exact] (Nat.le_of_eq hc0.symm) (hc2 Ψ)
 have hk : SzOK (Ψ.addVar w.heap.size).base (w.alloc (.cells c T)) w.heap.size (.ty T 2) := ⟨hr.sg.base, c, (0, 0), heap_alloc_new w _, hc0⟩
 have hs2 := hs1.addSz hk
 have le2 := le1.trans (Ty.addSz_le (Ψ.addVar w.heap.size) w.heap.size (.ty T 2))
 obtain ⟨le3, hs3⟩ := hs2.newRoom 0 none (fun b e c es h => by cases h)
 have le3' := le2.trans le3
 have hst : ((σ.push [.nilptr, .isl [] .exact]).pushRoom 0).store[σ.store.length]? = some (some [.nilptr, .isl [] .exact]) := by simp [Sg.push, Sg.pushRoom]
 have hβ : ((Ψ.addVar w.heap.size).addSz w.heap.size (.ty T 2)).β[σ.store.length]? = some w.heap.size := by
  show (Ψ.β ++ [w.heap.size])[σ.store.length]? = _
  rw [← hr.sg.blen]
  simp
 have hrm : (σ.push [.nilptr, .isl [] .exact]).rooms.length = σ.rooms.length := rfl
 rw [hrm] at le3 hs3 le3'
 have hbk : blockIs (w.alloc (.cells c T)) w.heap.size c := ⟨T, heap_alloc_new w _⟩
 have hs4 := hs3.reread (cs' := [.bself σ.store.length T, .bbuf [] σ.rooms.length te]) hst (fun b' hb' hK => by
  have e1 : b' = w.heap.size := by
   have : ((Ψ.addVar w.heap.size).addSz w.heap.size (.ty T 2)).β[σ.store.length]? = some b' := hb'
   rw [hβ] at this; injection this with this; exact this.symm
  subst e1
  refine .inl ⟨c, hbk, by rw [hc0]; exact Nat.le_refl _, fun j p v h1 h2 => ?_⟩
  have hv0 := hc2 ((((Ψ.addVar w.heap.size).addSz w.heap.size (.ty T 2))).addHist σ.rooms.length 0 none)
  match j, h1, h2 with
  | 0, h1, h2 =>
   simp only [List.getElem?_cons_zero, Option.some.injEq] at h1
   subst h1
   have hv := hv0 0 .nilptr v rfl h2
   refine .bself _ _ w.heap.size _ hβ (List.mem_cons_self ..) (.inl ?_)
   cases hv; rfl
  | 1, h1, h2 =>
   simp only [List.getElem?_cons_succ, List.getElem?_cons_zero, Option.some.injEq] at h1
   subst h1
   have hv := hv0 1 (.isl [] .exact) v rfl h2
   have hh : OwnNil ((((Ψ.addVar w.heap.size).addSz w.heap.size (.ty T 2))).addHist σ.rooms.length 0 none) (.tok σ.rooms.length ([] : List PV).length 1) := ⟨none, by simp [Ty.addHist]⟩
   cases hv with
   | islnil _ a' _ => exact .bbuf _ _ _ _ (.islnil _ a' hh) fun g o n cap e hc => by injection e with _ _ e; exact absurd e.symm hc
   | isl es _ _ b0 o0 cap vals hes k1 k2 hc ho =>
    have ho' : cap = 0 := ho
    subst ho'
    exact .bbuf _ _ _ _ (.islnil _ _ hh) fun g o n cap e hc => by injection e with _ _ e; exact absurd e.symm hc
  | j + 2, h1, h2 => simp at h1)
 have hσ : ((σ.push [.nilptr, .isl [] .exact]).pushRoom 0).setVar σ.store.length [.bself σ.store.length T, .bbuf [] σ.rooms.length te] = (σ.push [.bself σ.store.length T, .bbuf [] σ.rooms.length te]).pushRoom 0 := by simp [Sg.setVar, Sg.push, Sg.pushRoom]
 rw [hσ] at hs4
 have hrel := (hr.put le3' hs4 (o := o) (by unfold dstOK; rw [hd]; simpa using hdN) (v := .ptr σ.store.length 0) (x := .pointer (some ⟨w.heap.size, 0, none⟩)) (.ptr _ _ _ hβ (List.mem_cons_of_mem _ (List.mem_cons_self ..)))).keep ks
 rw [hd] at hrel ⊢
 exact ⟨_, _, _, le.trans le3', hrel, (Below.refl _ _).alloc (by rw [← le.base]; exact hr.sg.base) _, h⟩
/-- New blocks behind all that is known. -/
theorem SR.more {Ψ : Ty} {σ : Sg} {w w' : World} (h : SR Ψ σ w) (ho : ∀ k, k < w.heap.size → w'.heap[k]? = w.heap[k]?) (hz : w.heap.size ≤ w'.heap.size) : SR Ψ σ w' := by
 have cel : ∀ b o v, w.cell? ⟨b, o, none⟩ = some v → w'.cell? ⟨b, o, none⟩ = some v := fun b o v k => by rw [cell_eq, ho b (cell_lt k), ← cell_eq]; exact k
 have blk : ∀ b c, blockIs w b c → blockIs w' b c := fun b c k => k.of_heap (ho b k.lt)
 refine ⟨Nat.le_trans h.base hz, fun b o v k => cel b o v (h.imm b o v k), h.blen, ?_, h.apart, ?_, h.roomsApart, h.histlt, h.histle, fun i b k => Nat.lt_of_lt_of_le (h.βlt i b k) hz, ?_, h.ylen', ?_, ?_, ?_⟩
 ·intro id cs b k1 k2
  obtain ⟨a1, a2, a3⟩ := h.block id cs b k1 k2
  exact ⟨a1, a2, a3.of_heap (ho b a3.lt)⟩
 ·intro r n b e c' es k1 k2 k3
  obtain ⟨a1, a2, a3, cc, a4, a5⟩ := h.room r n b e c' es k1 k2 k3
  exact ⟨a1, a2, a3, cc, blk _ _ a4, a5⟩
 ·intro y l d s k1 k2
  obtain ⟨a1, a0, a2⟩ := h.yok y l d s k1 k2
  exact ⟨a1, a0, by rw [ho l (heap_lt a2)]; exact a2⟩
 ·intro d k
  obtain ⟨a1, a2⟩ := h.dok d k
  exact ⟨a1, by rw [ho d (heap_lt a2)]; exact a2⟩
 ·intro b c' k
  obtain ⟨a1, a2, a3, a4, a5⟩ := h.rok b c' k
  exact ⟨a1, a2, a3, a4, blk _ _ a5⟩
 intro b s k
 exact (h.szok b s k).of_heap (ho b (h.szok b s k).lt)
/-- A row that nobody holds is marked. -/
theorem SR.reframe {Ψ : Ty} {σ : Sg} {w w' : World} (h : SR Ψ σ w) {g : Nat} {c : Array Value} {t : TypeId} {f f' : Nat × Nat} (h1 : w.heap[g]? = some (.cells c t f)) (h2 : w'.heap[g]? = some (.cells c t f')) (ho : ∀ k, k ≠ g → w'.heap[k]? = w.heap[k]?) (hz : w'.heap.size = w.heap.size) (h0 : Ψ.base ≤ g)
 (hv : ∀ (id : Nat) (cs : List PV), σ.store[id]? = some (some cs) → Ψ.β[id]? ≠ some g) (hr : ∀ (r n e c es : Nat), σ.rooms[r]? = some n → Ψ.hist r n = some (some (g, e, c, es)) → c ≤ e) (hs : ∀ c, (g, c) ∉ Ψ.rs) : SR Ψ σ w' := by
 have cel : ∀ b o v, w.cell? ⟨b, o, none⟩ = some v → w'.cell? ⟨b, o, none⟩ = some v := fun b o v k => by
  by_cases e : b = g
  ·subst e; rw [cell_eq] at k ⊢; rw [h1] at k; rw [h2]; exact k
  rw [cell_eq, ho b e, ← cell_eq]; exact k
 refine ⟨by rw [hz]; exact h.base, fun b o v k => cel b o v (h.imm b o v k), h.blen, ?_, h.apart, ?_, h.roomsApart, h.histlt, h.histle, fun i b k => by rw [hz]; exact h.βlt i b k, ?_, h.ylen', ?_, ?_, ?_⟩
 ·intro id cs b k1 k2
  obtain ⟨a1, a2, a3⟩ := h.block id cs b k1 k2
  exact ⟨a1, a2, a3.of_heap (ho b fun e => hv id cs k1 (e ▸ k2))⟩
 ·intro r n b e c' es k1 k2 k3
  obtain ⟨a1, a2, a3, cc, a4, a5⟩ := h.room r n b e c' es k1 k2 k3
  have hne : b ≠ g := by rintro rfl; have := hr r n e c' es k1 k2; omega
  exact ⟨a1, a2, a3, cc, a4.of_heap (ho b hne), a5⟩
 ·intro y l d s k1 k2
  obtain ⟨a1, a0, a2⟩ := h.yok y l d s k1 k2
  have hne : l ≠ g := by rintro rfl; rw [h1] at a2; cases a2
  exact ⟨a1, a0, by rw [ho l hne]; exact a2⟩
 ·intro d k
  obtain ⟨a1, a2⟩ := h.dok d k
  have hne : d ≠ g := by rintro rfl; rw [h1] at a2; cases a2
  exact ⟨a1, by rw [ho d hne]; exact a2⟩
 ·intro b c' k
  obtain ⟨a1, a2, a3, a4, a5⟩ := h.rok b c' k
  exact ⟨a1, a2, a3, a4, a5.of_heap (ho b fun e => hs c' (e ▸ k))⟩
 intro b s k
 by_cases e : b = g
 ·subst e; exact (h.szok b s k).rewrite h0 h1 h2 rfl
 exact (h.szok b s k).of_heap (ho b e)
theorem freeze_at {w : World} {g n : Nat} {c : Array Value} {t : TypeId} {f : Nat × Nat} (h : w.heap[g]? = some (.cells c t f)) (hn : n ≠ 0) : ∃ f', (w.freeze ⟨g, 0, none⟩ n).heap[g]? = some (.cells c t f') := by
 unfold World.freeze
 rw [if_neg hn]
 obtain ⟨lo, hi⟩ := f
 simp only [Array.getElem?_modify, if_true, h, Option.map_some]
 exact ⟨_, rfl⟩
theorem freeze_other {w : World} {g n k : Nat} (hk : k ≠ g) : (w.freeze ⟨g, 0, none⟩ n).heap[k]? = w.heap[k]? := by
 unfold World.freeze
 split
 ·rfl
 simp only [Array.getElem?_modify]
 rw [if_neg (fun e => hk e.symm)]
theorem freeze_size {w : World} {g n : Nat} : (w.freeze ⟨g, 0, none⟩ n).heap.size = w.heap.size := by
 unfold World.freeze
 split
 ·rfl
 simp
/-- A builder's row becomes a string's. -/
theorem SR.stringed {Ψ : Ty} {σ : Sg} {w : World} (h : SR Ψ σ w) {r n g cap : Nat} {t : TypeId} (hr : σ.rooms[r]? = some n) (hh : Ψ.hist r n = some (some (g, n, cap, 1))) (ht : (g, .ty t cap) ∈ Ψ.sz) (hi : ∀ o, o < n → Ψ.imm g o ≠ none) (hn : 0 < n) :
 ∃ Ψ', Ψ.le Ψ' ∧ SR Ψ' (σ.setRoom r (n + 1)) (w.drew.freeze ⟨g, 0, none⟩ n) ∧ Below Ψ.base w (w.drew.freeze ⟨g, 0, none⟩ n) := by
 obtain ⟨hb0, c, f, hc, hcs⟩ := h.szok g _ ht
 obtain ⟨Ψ2, le2, hs2, i1, i2, i0, i3, i4, i5⟩ := h.drew.roomStep (r' := r) (n' := n + 1) (σ2 := σ.setRoom r (n + 1)) (.inr ⟨n, hr, by omega, rfl⟩) none (fun b e c es k => by cases k)
 obtain ⟨f', hf'⟩ := freeze_at (w := w.drew) (n := n) hc (by omega)
 have hi2 : ∀ o, o < n → Ψ2.imm g o ≠ none := by rw [i1]; exact hi
 have hfin : SR Ψ2 (σ.setRoom r (n + 1)) (w.drew.freeze ⟨g, 0, none⟩ n) := by
  refine hs2.reframe hc hf' (fun k hk => freeze_other hk) freeze_size (by rw [le2.base]; exact hb0) (fun id cs k1 k2 => ?_) (fun r1 n1 e c1 es k1 k2 => ?_) (fun c1 k => ?_)
  ·exact hi2 0 hn ((hs2.block id cs g k1 k2).2.1 0)
  ·by_cases hr1 : r1 = r
   ·subst hr1
    have : n1 = n + 1 := by
     simp only [Sg.setRoom] at k1
     rw [List.getElem?_set_self ((List.getElem?_eq_some_iff.1 hr).1)] at k1
     injection k1 with k1
     exact k1.symm
    subst this
    rw [i4] at k2
    injection k2 with k2
    cases k2
   obtain ⟨q1, q2⟩ := i5 r1 n1 k1 hr1
   rw [q2] at k2
   rcases Nat.lt_or_ge e c1 with hlt | hge
   ·exfalso
    obtain ⟨_, a2, _, cc, ⟨t3, a4⟩, a5⟩ := h.room r1 n1 g e c1 es q1 k2 hlt
    rw [show w.heap[g]? = w.drew.heap[g]? from rfl] at a4
    have hc' : w.drew.heap[g]? = some (.cells c t f) := hc
    rw [hc'] at a4
    injection a4 with a4
    injection a4 with a4 _ _
    subst a4
    have ha := h.roomsApart r n r1 n1 g n cap 1 e c1 es hr q1 (fun e => hr1 e.symm) hh k2 e
    have hen : e < n := by
     rcases Nat.lt_or_ge e n with h1 | h1
     ·exact h1
     exact absurd hlt (ha h1 (by omega) (Nat.le_refl _))
    exact hi e hen (a2 e (Nat.le_refl _) hlt)
   exact hge
  exact hi2 0 hn ((hs2.rok g c1 k).2.1 0)
 have hpl : (w.drew.freeze ⟨g, 0, none⟩ n).os = w.os ∧ (w.drew.freeze ⟨g, 0, none⟩ n).tape = w.tape ∧ (w.drew.freeze ⟨g, 0, none⟩ n).output = w.output := by
  unfold World.freeze
  split <;> exact ⟨rfl, rfl, rfl⟩
 refine ⟨Ψ2, le2, hfin, hpl.1, hpl.2.1, hpl.2.2, by rw [freeze_size]; exact Nat.le_refl _, fun k hk => ?_⟩
 rw [freeze_other (by omega)]
 rfl
theorem CleanSg_bld {σ : Sg} {id T r te n : Nat} {l m : List PV} (hcl : CleanSg σ) (hd : σ.store[id]? = some (some [.bself id T, .bbuf l r te])) (hr : r < σ.rooms.length) (hm : ∀ p, p ∈ m → Clean σ.store.length σ.rooms.length σ.ys.length p) :
 CleanSg ((σ.setRoom r n).setVar id [.bself id T, .bbuf (l ++ m) r te]) := by
 have hid := (List.getElem?_eq_some_iff.1 hd).1
 intro i cs hi hcs p hp
 have e1 : ((σ.setRoom r n).setVar id [.bself id T, .bbuf (l ++ m) r te]).store.length = σ.store.length := by simp [Sg.setVar, Sg.setRoom]
 have e2 : ((σ.setRoom r n).setVar id [.bself id T, .bbuf (l ++ m) r te]).rooms.length = σ.rooms.length := by simp [Sg.setVar, Sg.setRoom]
 have e3 : ((σ.setRoom r n).setVar id [.bself id T, .bbuf (l ++ m) r te]).ys.length = σ.ys.length := rfl
 rw [e1] at hi
 rw [e1, e2, e3]
 have h0 : (σ.store.set id (some [.bself id T, .bbuf (l ++ m) r te]))[i]? = some (some cs) := hcs
 rw [List.getElem?_set] at h0
 by_cases e : id = i
 ·subst e
  rw [if_pos rfl, if_pos hid] at h0
  injection h0 with h0
  injection h0 with h0
  subst h0
  have hl := hcl id _ hid hd (.bbuf l r te) (by simp)
  simp only [List.mem_cons, List.not_mem_nil, or_false] at hp
  rcases hp with rfl | rfl
  ·exact .bself _ _ hid
  cases hl with
  | bbuf _ _ _ hl =>
  cases hl with
  | isl _ _ h1 h2 =>
  refine .bbuf _ _ _ (.isl _ _ (fun e he => ?_) fun r' n' es' e => by injection e with e _ _; subst e; exact hr)
  rcases List.mem_append.1 he with he | he
  ·exact h1 e he
  exact hm e he
 rw [if_neg e] at h0
 exact hcl i cs hi h0 p hp
theorem strPV_clean {s : ByteArray} {a b c : Nat} : ∀ p, p ∈ strPV s → Clean a b c p := fun p hp => by
 obtain ⟨x, _, rfl⟩ := List.mem_map.1 hp
 exact .int _ _
noncomputable section
/-- An element, found with few steps. -/
def nthF {α : Type} (l : List α) : Nat → Option α := List.rec (motive := fun _ => Nat → Option α) (fun _ => none) (fun a _ ih n => Nat.rec (motive := fun _ => Option α) (some a) (fun m _ => ih m) n) l
def lenF {α : Type} (l : List α) : Nat := List.rec (motive := fun _ => Nat) 0 (fun _ _ ih => Nat.succ ih) l
def allS (l : List PV) : Bool := List.rec (motive := fun _ => Bool) true (fun a _ ih => cond a.scalar ih false) l
def snocN {α : Type} (x : α) (l : List α) : List α := List.rec (motive := fun _ => List α) [x] (fun a _ ih => a :: ih) l
/-- A number, reckoned out before it goes on. -/
def normN {α : Type} (n : Nat) (f : Nat → α) : α :=
 match n + 1 with
 | 0 => f 0
 | k + 1 => f k
def drop16 {α : Type} (l : List α) : List α :=
 match l with
 | _ :: _ :: _ :: _ :: _ :: _ :: _ :: _ :: _ :: _ :: _ :: _ :: _ :: _ :: _ :: _ :: r => r
 | _ => []
def dropC {α : Type} (l : List α) (q : Nat) : List α := Nat.rec (motive := fun _ => List α) l (fun _ ih => drop16 ih) q
/-- An element of a long list. -/
def nthC {α : Type} (l : List α) (n : Nat) : Option α := cond (Nat.ble n 31) (nthF l n) (nthF (dropC l (n / 16)) (n % 16))
/-- The temporaries, eight times eight times eight. -/
structure T8 (α : Type) where
 a0 : α
 a1 : α
 a2 : α
 a3 : α
 a4 : α
 a5 : α
 a6 : α
 a7 : α
abbrev TE := T8 (T8 (T8 PV))
structure SelF (α : Type) where
 f : T8 α → α
structure UpdF (α : Type) where
 f : (α → α) → T8 α → T8 α
def selF {α : Type} (i : Nat) : SelF α :=
 match i with
 | 0 => ⟨fun t => t.a0⟩
 | 1 => ⟨fun t => t.a1⟩
 | 2 => ⟨fun t => t.a2⟩
 | 3 => ⟨fun t => t.a3⟩
 | 4 => ⟨fun t => t.a4⟩
 | 5 => ⟨fun t => t.a5⟩
 | 6 => ⟨fun t => t.a6⟩
 | _ => ⟨fun t => t.a7⟩
def updF {α : Type} (i : Nat) : UpdF α :=
 match i with
 | 0 => ⟨fun g => T8.rec (motive := fun _ => T8 α) fun a0 a1 a2 a3 a4 a5 a6 a7 => ⟨g a0, a1, a2, a3, a4, a5, a6, a7⟩⟩
 | 1 => ⟨fun g => T8.rec (motive := fun _ => T8 α) fun a0 a1 a2 a3 a4 a5 a6 a7 => ⟨a0, g a1, a2, a3, a4, a5, a6, a7⟩⟩
 | 2 => ⟨fun g => T8.rec (motive := fun _ => T8 α) fun a0 a1 a2 a3 a4 a5 a6 a7 => ⟨a0, a1, g a2, a3, a4, a5, a6, a7⟩⟩
 | 3 => ⟨fun g => T8.rec (motive := fun _ => T8 α) fun a0 a1 a2 a3 a4 a5 a6 a7 => ⟨a0, a1, a2, g a3, a4, a5, a6, a7⟩⟩
 | 4 => ⟨fun g => T8.rec (motive := fun _ => T8 α) fun a0 a1 a2 a3 a4 a5 a6 a7 => ⟨a0, a1, a2, a3, g a4, a5, a6, a7⟩⟩
 | 5 => ⟨fun g => T8.rec (motive := fun _ => T8 α) fun a0 a1 a2 a3 a4 a5 a6 a7 => ⟨a0, a1, a2, a3, a4, g a5, a6, a7⟩⟩
 | 6 => ⟨fun g => T8.rec (motive := fun _ => T8 α) fun a0 a1 a2 a3 a4 a5 a6 a7 => ⟨a0, a1, a2, a3, a4, a5, g a6, a7⟩⟩
 | _ => ⟨fun g => T8.rec (motive := fun _ => T8 α) fun a0 a1 a2 a3 a4 a5 a6 a7 => ⟨a0, a1, a2, a3, a4, a5, a6, g a7⟩⟩
structure GF where
 get : TE → PV
structure PF where
 put : PV → TE → TE
def getF (t : Nat) : GF :=
 match Nat.ble t 511 with
 | true => ⟨fun T => (selF (t % 8)).f ((selF (t / 8 % 8)).f ((selF (t / 64)).f T))⟩
 | false => ⟨fun _ => .undef⟩
def putF (t : Nat) : PF := ⟨fun v T => (updF (t / 64)).f (fun A => (updF (t / 8 % 8)).f (fun B => (updF (t % 8)).f (fun _ => v) B) A) T⟩
def all8 {α : Type} (a : α) : T8 α := ⟨a, a, a, a, a, a, a, a⟩
def TE.leaf : TE := all8 (all8 (all8 .undef))
def TE.get (T : TE) (t : Nat) : PV := (getF t).get T
/-- The temporaries that an operation reads. -/
def tmO : Operand → List Nat → List Nat
 | .tmp t, l => t :: l
 | _, l => l
def tmM (x : Option Operand) (l : List Nat) : List Nat :=
 match x with
 | some x => tmO x l
 | none => l
def tmL : List Operand → List Nat
 | [] => []
 | x :: r => tmO x (tmL r)
def tmP : List (Nat × Operand) → List Nat
 | [] => []
 | x :: r => tmO x.2 (tmP r)
def opT : Op → List Nat
 | .move x | .assign x | .box _ x | .load _ x | .nilCheck x | .unOp _ _ x | .convert _ _ x | .fieldAddr _ x _ | .field _ x _ | .range _ x | .entry x | .extract x _ | .makeInterface _ x | .typeAssert x _ _ _ => tmO x []
 | .pick c a b => tmO c (tmO a (tmO b []))
 | .build _ ps => tmP ps.toList
 | .buildSlice _ _ ps => tmP ps.toList
 | .store _ a v | .binOp _ _ a v _ | .makeSlice _ a v | .indexAddr _ a v | .index _ a v | .lookup _ a v _ => tmO a (tmO v [])
 | .makeFunc _ a b => tmL a.toList ++ tmL b.toList
 | .slice _ x l h m => tmO x (tmM l (tmM h (tmM m [])))
 | .mapUpdate _ m k v | .insert _ m k v => tmO m (tmO k (tmO v []))
 | .call ⟨.value f, args, _⟩ => tmO f (tmL args.toList)
 | .call ⟨.builtin _, args, _⟩ => tmL args.toList
 | _ => []
def TE.mini (T : TE) (op : Op) : Env := (opT op).map fun t => (t, T.get t)
def wantT (ops : Array Oper) (T : TE) (o : Oper) : Option Bool :=
 match o.guard with
 | none => some true
 | some (j, want) => match (ops[j]?).bind (·.dst) with
  | none => none
  | some t => match T.get t with
   | .bool b => some (b == want)
   | .tuple [] => some false
   | _ => none
def dst12 (o : Oper) : Bool :=
 match o.dst with
 | none => true
 | some d => Nat.ble d 511
abbrev YF := Nat → List PV → Sg → Option (PV × Sg)
abbrev Orc := FuncId → List PV → Sg → Option (PV × Sg)
abbrev CallT := FuncId → List PV → Sg → Option (PV × Sg)
def dn : PV → PV
 | .nilsl => .isl [] .exact
 | v => v
def denil (E : Env) : Env := E.map fun kv => (kv.1, dn kv.2)
/-- An operation, run: a nil slice that is laid into a temporary is known to be nil. -/
def effI (P : Program) (σ : Sg) (E : Env) (op : Op) : Option (PV × Sg) :=
 match op with
 | .assign (.const v) => if isNilV v then some (.nilsl, σ) else some (constPV v, σ)
 | op => match effOp P σ E op with
  | some r => some r
  | none => effOp P σ (denil E) op
/-- A literal slice that will be written in place. -/
def litM (P : Program) (σ : Sg) (t : TypeId) (len : Nat) (parts : List (Nat × PV)) : Option (PV × Sg) :=
 match buildSlicePV P t len parts with
 | some (.isl l _) => some (.msl σ.store.length 0 len, σ.push (rowC l))
 | _ => none
/-- A builder. -/
def newB (P : Program) (σ : Sg) (t te : TypeId) : Option (PV × Sg) :=
 match zeroPV P t with
 | some [.nilptr, .isl [] .exact] => some (.ptr σ.store.length 0, (σ.push [.bself σ.store.length t, .bbuf [] σ.rooms.length te]).pushRoom 0)
 | _ => none
/-- Operations done another way, where a hint says so. -/
def modeI (P : Program) (m : Nat) (σ : Sg) (E : Env) (op : Op) : Option (PV × Sg) :=
 match m with
 | 0 => none
 | 1 => match op with
  | .assign (.const v) => if isNilV v then some (.gnil, σ) else none
  | .assign (.tmp k) => some (ev E (.tmp k), σ)
  | .alloc t => match zeroPV P t with
   | some [.isl [] .exact] => some (.ptr σ.store.length 0, σ.push [.gnil])
   | _ => none
  | _ => none
 | 2 => match op with
  | .buildSlice t len parts => litM P σ t len (parts.toList.map fun p => (p.1, ev E p.2))
  | _ => none
 | te + 3 => match op with
  | .alloc t => newB P σ t te
  | _ => none
/-- One operation on known values. -/
def opI (P : Program) (call : CallT) (Y : YF) (σ : Sg) (E : Env) (op : Op) : Option (PV × Sg) :=
 match whom E op with
 | .nobody => effI P σ E op
 | .fn f args => call f args σ
 | .yield y args => Y y args σ
/-- What was done, the last first. -/
structure TSt where
 i : Nat
 T : TE
 σ : Sg
 b : Bool
 v : PV
/-- Two values, the same. -/
def samePV : Nat → List PV → List PV → Bool
 | 0, _, _ => false
 | _ + 1, [], [] => true
 | n + 1, a :: r, b :: q => match a, b with
  | .undef, .undef => samePV n r q
  | .bool x, .bool y => (x == y) && samePV n r q
  | .int k x, .int j y => decide (k = j) && decide (x = y) && samePV n r q
  | .str x, .str y => decide (x = y) && samePV n r q
  | .nilptr, .nilptr => samePV n r q
  | .ptr i o, .ptr j u => Nat.beq i j && Nat.beq o u && samePV n r q
  | .eptr s l i o, .eptr t m j u => Nat.beq s t && Nat.beq i j && Nat.beq o u && samePV n (l ++ r) (m ++ q) && Nat.beq l.length m.length
  | .nilsl, .nilsl => samePV n r q
  | .isl l o, .isl m u => decide (o = u) && Nat.beq l.length m.length && samePV n (l ++ r) (m ++ q)
  | .msl i o l, .msl j u m => Nat.beq i j && Nat.beq o u && Nat.beq l m && samePV n r q
  | .agg l, .agg m => Nat.beq l.length m.length && samePV n (l ++ r) (m ++ q)
  | .tuple l, .tuple m => Nat.beq l.length m.length && samePV n (l ++ r) (m ++ q)
  | .niliface, .niliface => samePV n r q
  | .map i, .map j => Nat.beq i j && samePV n r q
  | .nilmap, .nilmap => samePV n r q
  | .gsl i l e, .gsl j m f => Nat.beq i j && Nat.beq l m && Nat.beq e f && samePV n r q
  | .gnil, .gnil => samePV n r q
  | .nilfunc, .nilfunc => samePV n r q
  | .func (.func f) a b, .func (.func g) c d => Nat.beq f g && samePV n (a ++ (b ++ r)) (c ++ (d ++ q)) && Nat.beq a.length c.length && Nat.beq b.length d.length
  | _, _ => false
 | _, _, _ => false
def stT (tr : List TSt) (σf : Sg) (p : Nat) : Sg :=
 match tr[p]? with
 | some s => s.σ
 | none => σf
def demT (P : Program) (ops : Array Oper) (tr : List TSt) (σf : Sg) : List (Nat × Nat) → Bool
 | [] => true
 | (q, p) :: r => (match tr[q]? with
  | none => true
  | some s => match s.b with
   | false => true
   | true => match ops[s.i]? with
    | none => true
    | some o => !writes o && !allocs o && (match effOp P (stT tr σf p) (s.T.mini o.op) o.op with
     | some (v, _) => samePV 10000 [v] [s.v]
     | none => false)) && demT P ops tr σf r
/-- A plan for each region that draws: function, region; order, what is read where, what goes before. -/
abbrev Plans := FuncId → Nat → List Nat × List (Nat × Nat) × List (List Nat)
def ownB (nr : Nat) : Own → Bool
 | .tok r _ _ => Nat.ble (r + 1) nr
 | _ => true
def cleanL (nb nr ny : Nat) : Nat → List PV → Bool
 | 0, _ => false
 | _ + 1, [] => true
 | n + 1, v :: q => match v with
  | .ptr id _ => Nat.ble (id + 1) nb && cleanL nb nr ny n q
  | .eptr _ es _ _ => cleanL nb nr ny n (es ++ q)
  | .isl es own => ownB nr own && cleanL nb nr ny n (es ++ q)
  | .msl id _ _ => Nat.ble (id + 1) nb && cleanL nb nr ny n q
  | .agg cs => cleanL nb nr ny n (cs ++ q)
  | .tuple cs => cleanL nb nr ny n (cs ++ q)
  | .func _ a b => cleanL nb nr ny n (a ++ b ++ q)
  | .yield y => Nat.ble (y + 1) ny && cleanL nb nr ny n q
  | .iface _ v => cleanL nb nr ny n (v :: q)
  | .map id => Nat.ble (id + 1) nb && cleanL nb nr ny n q
  | .iter id => Nat.ble (id + 1) nb && cleanL nb nr ny n q
  | .itst id _ _ => Nat.ble (id + 1) nb && cleanL nb nr ny n q
  | .gsl id _ _ => Nat.ble (id + 1) nb && cleanL nb nr ny n q
  | .bself id _ => Nat.ble (id + 1) nb && cleanL nb nr ny n q
  | .bbuf l r _ => Nat.ble (r + 1) nr && cleanL nb nr ny n (l ++ q)
  | _ => cleanL nb nr ny n q
def cleanS (nb nr ny : Nat) : List (Option (List PV)) → Bool
 | [] => true
 | none :: r => cleanS nb nr ny r
 | some cs :: r => cleanL nb nr ny 100000 cs && cleanS nb nr ny r
/-- What a run leans on: plans for the regions that draw; calls that are known. -/
structure Aid where
 plans : Plans
 orc : Orc
 mode : FuncId → Nat → Nat
structure VF where
 get : TE → PV
structure OF where
 run : CallT → YF → Sg → TE → Option (PV × Sg)
structure RF where
 run : CallT → YF → TE → Sg → Option (TE × Sg)
abbrev Out := Option (Exit × TE × Sg)
structure CF where
 run : (YF → CallT) → Nat → YF → TE → Sg → Out
def putOF : Option Nat → PF
 | some d => putF d
 | none => ⟨fun _ T => T⟩
def opdF (x : Operand) : VF :=
 match x with
 | .tmp t => ⟨fun T => (getF t).get T⟩
 | .const v => ⟨fun _ => constPV v⟩
 | .global _ => ⟨fun _ => .undef⟩
 | .func f => ⟨fun _ => .func (.func f) [] []⟩
def opdsF : List Operand → List VF
 | [] => []
 | x :: r => opdF x :: opdsF r
def getsF : List VF → TE → List PV
 | [], _ => []
 | x :: r, T => x.get T :: getsF r T
structure ArgF where
 lay : List PV → TE → TE
def argsF : List Nat → ArgF
 | [] => ⟨fun _ T => T⟩
 | p :: ps => ⟨fun vs T => match vs with
  | v :: vs => (argsF ps).lay vs ((putF p).put v T)
  | [] => T⟩
structure ResF where
 get : Sg → TE → Option (List PV)
structure IF where
 run : Int → Int → Sg → Option (PV × Sg)
/-- A number that fits, as it is. -/
def wrapF (n : Int) : Int :=
 match n with
 | .ofNat m => cond (Nat.ble m 9223372036854775807) (.ofNat m) (IntKind.i64.wrap n)
 | .negSucc m => cond (Nat.ble m 9223372036854775807) (.negSucc m) (IntKind.i64.wrap n)
def ltF (a b : Int) : Bool :=
 match a, b with
 | .ofNat m, .ofNat n => Nat.ble (m + 1) n
 | .negSucc _, .ofNat _ => true
 | .ofNat _, .negSucc _ => false
 | .negSucc m, .negSucc n => Nat.ble (n + 1) m
def eqF (a b : Int) : Bool :=
 match a, b with
 | .ofNat m, .ofNat n => Nat.beq m n
 | .negSucc m, .negSucc n => Nat.beq m n
 | _, _ => false
def arF (op : BinOp) : Option IF :=
 match op with
 | .add => some ⟨fun a b σ => some (.int .i64 (wrapF (a + b)), σ)⟩
 | .sub => some ⟨fun a b σ => some (.int .i64 (wrapF (a - b)), σ)⟩
 | .mul => some ⟨fun a b σ => some (.int .i64 (wrapF (a * b)), σ)⟩
 | .eql => some ⟨fun a b σ => some (.bool (eqF a b), σ)⟩
 | .neq => some ⟨fun a b σ => some (.bool (!eqF a b), σ)⟩
 | .lss => some ⟨fun a b σ => some (.bool (ltF a b), σ)⟩
 | .leq => some ⟨fun a b σ => some (.bool (!ltF b a), σ)⟩
 | .gtr => some ⟨fun a b σ => some (.bool (ltF b a), σ)⟩
 | .geq => some ⟨fun a b σ => some (.bool (!ltF a b), σ)⟩
 | _ => none
def int64 (v : PV) : Option Int :=
 match v with
 | .int .i64 n => some n
 | _ => none
def strOf (v : PV) : Option (List UInt8) :=
 match v with
 | .str s => some s.data.toList
 | _ => none
def bytesEq : List UInt8 → List UInt8 → Bool
 | [], [] => true
 | a :: r, b :: q => Nat.beq a.toNat b.toNat && bytesEq r q
 | _, _ => false
def strOp (op : BinOp) (a b : List UInt8) : Option PV :=
 match op with
 | .add => match Nat.ble (lenF a + lenF b) 4611686018427387904 with
  | true => some (.str ⟨(a ++ b).toArray⟩)
  | false => none
 | .eql => some (.bool (bytesEq a b))
 | .neq => some (.bool (!bytesEq a b))
 | _ => none
def binF (f : IF) (op : BinOp) (x y : VF) : OF := ⟨fun _ _ σ T => match int64 (x.get T) with
 | some a => match int64 (y.get T) with
  | some b => f.run a b σ
  | none => none
 | none => match strOf (x.get T) with
  | some a => match strOf (y.get T) with
   | some b => match strOp op a b with
    | some v => some (v, σ)
    | none => none
   | none => none
  | none => none⟩
def keepF (σ : Sg) (v : Option PV) : Option (PV × Sg) :=
 match v with
 | some v => some (v, σ)
 | none => none
def callF (f : VF) (args : List VF) : OF := ⟨fun call Y σ T => match f.get T with
 | .func (.func g) first captured => call g (first ++ getsF args T ++ captured) σ
 | .yield y => Y y (getsF args T) σ
 | _ => none⟩
structure SF where
 run : Sg → PV → Option PV
def ptrF (v : PV) : Option (Nat × Nat) :=
 match v with
 | .ptr id off => some (id, off)
 | _ => none
def eptrF (v : PV) : Option (List PV × Nat × Nat) :=
 match v with
 | .eptr _ l i off => some (l, i, off)
 | _ => none
def partF (agg : Bool) (n : Nat) : List PV → Nat → Option PV :=
 match agg with
 | true => fun cs off => match Nat.beq off 0 && Nat.beq n (lenF cs) with
  | true => some (.agg cs)
  | false => match Nat.ble (off + n) (lenF cs) with
   | true => some (.agg ((cs.drop off).take n))
   | false => none
 | false => nthC
def loadF (P : Program) (t : TypeId) : SF :=
 match P.underlying t with
 | none => ⟨fun _ _ => none⟩
 | some d => ⟨fun σ p => match ptrF p with
  | some (id, off) => match nthF σ.store id with
   | some (some cs) => partF (isAggD d) (P.cellsOf t) cs off
   | _ => none
  | none => match eptrF p with
   | some (l, i, off) => match nthF l i with
    | some e => partF (isAggD d) (P.cellsOf t) e.cells off
    | none => none
   | none => none⟩
def setN {α : Type} (v : α) (l : List α) : Nat → List α := List.rec (motive := fun _ => Nat → List α) (fun _ => []) (fun a tl ih n => Nat.rec (motive := fun _ => List α) (v :: tl) (fun m _ => a :: ih m) n) l
def layN (cs : List PV) (off : Nat) (vs : List PV) : List PV :=
 match vs with
 | [v] => setN v cs off
 | _ => match Nat.beq off 0 && Nat.beq (lenF vs) (lenF cs) with
  | true => vs
  | false => cs.take off ++ (vs ++ cs.drop (off + vs.length))
def storeF (P : Program) (t : TypeId) (σ : Sg) (a p : PV) : Option (PV × Sg) :=
 match ptrF a with
 | some (id, off) => match nthF σ.store id with
  | some (some cs) => match (P.underlying t).isSome && defd p && allS p.cells && Nat.beq (lenF p.cells) (P.cellsOf t) && Nat.ble (off + lenF p.cells) (lenF cs) with
   | true => some (.undef, { σ with store := setN (some (layN cs off p.cells)) σ.store id })
   | false => none
  | _ => none
 | none => none
def islF (v : PV) : Option (List PV) :=
 match v with
 | .isl l _ => some l
 | _ => none
def aggF (v : PV) : Option (List PV) :=
 match v with
 | .agg l => some l
 | _ => none
def natF (n : Int) : Option Nat :=
 match n with
 | .ofNat m => some m
 | _ => none
def boxF (x : VF) : OF := ⟨fun _ _ σ T => match defd (x.get T) with
 | true => normN (lenF σ.store) fun id => some (.ptr id 0, { σ with store := snocN (some (x.get T).cells) σ.store })
 | false => none⟩
def allocF (P : Program) (t : TypeId) : Option OF :=
 match zeroPV P t with
 | some zs => some ⟨fun _ _ σ _ => normN (lenF σ.store) fun id => some (.ptr id 0, { σ with store := snocN (some zs) σ.store })⟩
 | none => none
structure AF where
 run : PV → Option PV
def fieldAddrF (P : Program) (s : TypeId) (f : Nat) : Option AF :=
 match fieldOf P s f with
 | some (fl, _) => match Nat.beq (P.cellsOf fl.type) 0 with
  | true => none
  | false => some ⟨fun x => match x with
   | .ptr id off => some (.ptr id (off + fl.offset))
   | .eptr es l i off => some (.eptr es l i (off + fl.offset))
   | _ => none⟩
 | none => none
def fieldF (P : Program) (s : TypeId) (f : Nat) : Option AF :=
 match fieldOf P s f with
 | some (fl, d) => some ⟨fun x => match aggF x with
  | some cs => partF (isAggD d) (P.cellsOf fl.type) cs fl.offset
  | none => none⟩
 | none => none
def lenOp (P : Program) (t : TypeId) : Option AF :=
 match P.underlying t with
 | some (.slice _) => some ⟨fun x => match islF x with
  | some l => some (.int .i64 (.ofNat (lenF l)))
  | none => none⟩
 | _ => none
def aF (f : Option AF) (x : VF) : Option OF :=
 match f with
 | some f => some ⟨fun _ _ σ T => keepF σ (f.run (x.get T))⟩
 | none => none
structure XF where
 run : PV → Int → Option PV
def indexAddrF (P : Program) (t : TypeId) : Option XF :=
 match P.underlying t with
 | some (.slice e) => match P.underlying e with
  | some _ => some ⟨fun x n => match natF n with
   | some m => match islF x with
    | some l => match nthF l m with
     | some el => match Nat.beq (lenF el.cells) (P.cellsOf e) with
      | true => some (.eptr (P.cellsOf e) l m 0)
      | false => none
     | none => none
    | none => none
   | none => none⟩
  | none => none
 | _ => none
def indexF (P : Program) (t : TypeId) : Option XF :=
 match P.underlying t with
 | some (.array len e) => match P.underlying e with
  | some d => some ⟨fun x n => match natF n with
   | some m => match Nat.ble (m + 1) len with
    | true => match aggF x with
     | some cs => partF (isAggD d) (P.cellsOf e) cs (m * P.cellsOf e)
     | none => none
    | false => none
   | none => none⟩
  | none => none
 | _ => none
def xF (f : XF) (x i : VF) : OF := ⟨fun _ _ σ T => match int64 (i.get T) with
 | some n => keepF σ (f.run (x.get T) n)
 | none => none⟩
/-- An operation, made ready (where it is one of the common ones). -/
def fastF (P : Program) (op : Op) : Option OF :=
 match op with
 | .move x => some ⟨fun _ _ σ T => some ((opdF x).get T, σ)⟩
 | .assign (.tmp t) => some ⟨fun _ _ σ T => some ((getF t).get T, σ)⟩
 | .binOp op _ x y _ => match isNilC y || isNilI y with
  | true => none
  | false => match arF op with
   | some f => some (binF f op (opdF x) (opdF y))
   | none => none
 | .load t a => some ⟨fun _ _ σ T => keepF σ ((loadF P t).run σ ((opdF a).get T))⟩
 | .store t a x => some ⟨fun _ _ σ T => storeF P t σ ((opdF a).get T) ((opdF x).get T)⟩
 | .pick c a b => some ⟨fun _ _ σ T => keepF σ (pickPV ((opdF c).get T) ((opdF a).get T) ((opdF b).get T))⟩
 | .fieldAddr s x f => aF (fieldAddrF P s f) (opdF x)
 | .field s x f => aF (fieldF P s f) (opdF x)
 | .box _ x => some (boxF (opdF x))
 | .alloc t => allocF P t
 | .indexAddr t x i => match indexAddrF P t with
  | some f => some (xF f (opdF x) (opdF i))
  | none => none
 | .index t x i => match indexF P t with
  | some f => some (xF f (opdF x) (opdF i))
  | none => none
 | .call ⟨.builtin .len, args, ts⟩ => match args.toList, ts.toList with
  | [x], [t] => aF (lenOp P t) (opdF x)
  | _, _ => none
 | .unOp o _ x => some ⟨fun _ _ σ T => keepF σ (unPV o ((opdF x).get T))⟩
 | .extract x i => some ⟨fun _ _ σ T => keepF σ (extractPV ((opdF x).get T) i)⟩
 | .call ⟨.value f, args, _⟩ => some (callF (opdF f) (opdsF args.toList))
 | _ => none
def constF (op : Op) : Option PV :=
 match op with
 | .assign (.const v) => some (if isNilV v then .nilsl else constPV v)
 | _ => none
def opF (P : Program) (op : Op) : OF :=
 match constF op with
 | some v => ⟨fun _ _ σ _ => some (v, σ)⟩
 | none => match fastF P op with
 | some f => ⟨fun call Y σ T => match f.run call Y σ T with
  | some r => some r
  | none => opI P call Y σ (T.mini op) op⟩
 | none => ⟨fun call Y σ T => opI P call Y σ (T.mini op) op⟩
def opM (P : Program) (m : Nat) (op : Op) : OF :=
 match m with
 | 0 => opF P op
 | m + 1 => ⟨fun _ _ σ T => modeI P (m + 1) σ (T.mini op) op⟩
def modeOf (mo : Nat → Nat) (d : Option Nat) : Nat :=
 match d with
 | some d => mo d
 | none => 0
structure GT where
 run : TE → TE
structure WF where
 want : TE → Option Bool
def wantF (ops : Array Oper) (o : Oper) : Option WF :=
 match o.guard with
 | none => none
 | some (j, want) => match (ops[j]?).bind (·.dst) with
  | none => some ⟨fun _ => none⟩
  | some t => some ⟨fun T => match (getF t).get T with
   | .bool b => some (b == want)
   | .tuple [] => some false
   | _ => none⟩
/-- A region, made ready. -/
def opsF (P : Program) (mo : Nat → Nat) (N : Nat) (ops : Array Oper) : List Oper → RF
 | [] => ⟨fun _ _ T σ => some (T, σ)⟩
 | o :: r => match dstOK N o && dst12 o with
  | false => ⟨fun _ _ _ _ => none⟩
  | true => match wantF ops o with
   | none => ⟨fun call Y T σ => match (opM P (modeOf mo o.dst) o.op).run call Y σ T with
    | none => none
    | some (v, σ') => (opsF P mo N ops r).run call Y ((putOF o.dst).put v T) σ'⟩
   | some w => ⟨fun call Y T σ => match w.want T with
    | none => none
    | some false => (opsF P mo N ops r).run call Y ((putOF o.dst).put (.tuple []) T) σ
    | some true => match (opM P (modeOf mo o.dst) o.op).run call Y σ T with
     | none => none
     | some (v, σ') => (opsF P mo N ops r).run call Y ((putOF o.dst).put v T) σ'⟩
def opD (P : Program) (call : CallT) (Y : YF) (σ : Sg) (E : Env) (op : Op) : Option (PV × Sg) :=
 match whom E op with
 | .nobody => effOp P σ E op
 | .fn f args => call f args σ
 | .yield y args => Y y args σ
def opDF (P : Program) (op : Op) : OF :=
 match fastF P op with
 | some f => ⟨fun call Y σ T => match f.run call Y σ T with
  | some r => some r
  | none => opD P call Y σ (T.mini op) op⟩
 | none => ⟨fun call Y σ T => opD P call Y σ (T.mini op) op⟩
structure DF where
 run : CallT → YF → TE → Sg → List TSt → Option (List TSt × TE × Sg)
def drawF (P : Program) (N : Nat) (ops : Array Oper) : List Nat → DF
 | [] => ⟨fun _ _ T σ tr => some (tr, T, σ)⟩
 | i :: r => match ops[i]? with
  | none => ⟨fun _ _ _ _ _ => none⟩
  | some o => match dstOK N o && dst12 o with
   | false => ⟨fun _ _ _ _ _ => none⟩
   | true => match wantF ops o with
    | none => ⟨fun call Y T σ tr => match (opDF P o.op).run call Y σ T with
     | none => none
     | some (v, σ') => (drawF P N ops r).run call Y ((putOF o.dst).put v T) σ' (⟨i, T, σ, true, v⟩ :: tr)⟩
    | some w => ⟨fun call Y T σ tr => match w.want T with
     | none => none
     | some false => (drawF P N ops r).run call Y ((putOF o.dst).put (.tuple []) T) σ (⟨i, T, σ, false, .tuple []⟩ :: tr)
     | some true => match (opDF P o.op).run call Y σ T with
      | none => none
      | some (v, σ') => (drawF P N ops r).run call Y ((putOF o.dst).put v T) σ' (⟨i, T, σ, true, v⟩ :: tr)⟩
def undefsF : List Oper → GT
 | [] => ⟨fun T => T⟩
 | o :: r => match o.op with
  | .alloc _ => ⟨fun T => (undefsF r).run ((putOF o.dst).put .undef T)⟩
  | _ => undefsF r
def regionF (P : Program) (pl : List Nat × List (Nat × Nat) × List (List Nat)) (N : Nat) (ops : Array Oper) : RF :=
 match drawOK ops pl.1 pl.2.1 pl.2.2 && ops.toList.all dst12 with
 | false => ⟨fun _ _ _ _ => none⟩
 | true => ⟨fun call Y T σ => match (drawF P N ops pl.1).run call Y ((undefsF ops.toList).run T) σ [] with
  | none => none
  | some (tr, T', σ') => match demT P ops tr.reverse σ' pl.2.1 with
   | true => some (T', σ')
   | false => none⟩
/-- A result: a nil slice is said to be empty; where a hint says so, nobody may grow it. -/
def roS (m : Nat) (v : PV) : PV :=
 match m with
 | 0 => dn v
 | _ => match v with
  | .isl l _ => .isl l .ro
  | .nilsl => .isl [] .ro
  | v => v
def roC (m : Nat) (v : PV) : PV :=
 match m with
 | 0 => v
 | m => roS m v
def resF (P : Program) (m : Nat) : List ResultVar → ResF
 | [] => ⟨fun _ _ => some []⟩
 | .tmp t :: r => ⟨fun σ T => match (resF P m r).get σ T with
  | some l => some (roS m ((getF t).get T) :: l)
  | none => none⟩
 | .cell a t :: r => ⟨fun σ T => match (loadF P t).run σ ((getF a).get T) with
  | some v => match (resF P m r).get σ T with
   | some l => some (roC m v :: l)
   | none => none
  | none => none⟩
/-- A call's end: what it made is forgotten where nothing speaks of it. -/
def finT (P : Program) (m : Nat) (fn : Func) (σ0 : Sg) (T : TE) (σ : Sg) : Option (PV × Sg) :=
 match (resF P m fn.results.toList).get σ T with
 | none => none
 | some l => match Nat.beq (lenF σ.ys) (lenF σ0.ys) && Nat.ble (lenF σ0.store) (lenF σ.store) && Nat.ble (lenF σ0.rooms) (lenF σ.rooms) with
  | false => none
  | true => match Nat.beq (lenF σ.store) (lenF σ0.store) && Nat.beq (lenF σ.rooms) (lenF σ0.rooms) with
   | true => some (oneOr l, σ)
   | false => normN (lenF σ0.store) fun nb => normN (lenF σ0.rooms) fun nr => normN (lenF σ0.ys) fun ny => match cleanL nb nr ny 100000 [oneOr l] && cleanS nb nr ny (σ.store.take nb) with
    | true => some (oneOr l, σ.cut nb nr ny)
    | false => some (oneOr l, σ)
/-- A round of a loop over a function. -/
def roundF (assign body : TE → Sg → Out) (ps : List Nat) (T : TE) (y : Nat) (args : List PV) (σ : Sg) : Option (PV × Sg) :=
 match Nat.beq args.length ps.length with
 | false => none
 | true => match σ.ys[y]? with
  | some .ready => match assign ((argsF ps).lay args T) σ with
   | some (.normal, T3, σ3) => match σ3.ys[y]? with
    | some .ready => match body T3 (σ3.setY y .busy) with
     | some (ex, _, σ4) => match σ4.ys[y]? with
      | some .busy => match ex with
       | .normal => some (.bool true, σ4.setY y .ready)
       | .ret => some (.bool false, σ4.setY y (.done .ret))
       | .exit id => some (.bool false, σ4.setY y (.done (.exit id)))
       | _ => none
      | _ => none
     | none => none
    | _ => none
   | _ => none
  | _ => none
def YF.at (Y : YF) (y : Nat) (g : List PV → Sg → Option (PV × Sg)) : YF := fun i args σ => match Nat.beq i y with
 | true => g args σ
 | false => Y i args σ
/-- Behind the loop over a function. -/
def afterF (T : TE) (y : Nat) (σ : Sg) : Out :=
 match σ.ys[y]? with
 | some .ready => some (.normal, T, σ.popY y)
 | some (.done .ret) => some (.ret, T, σ.popY y)
 | some (.done (.exit id)) => some (.exit id, T, σ.popY y)
 | _ => none
/-- The variables that speak of what is gone. -/
def badS (nb nr ny : Nat) : Nat → List (Option (List PV)) → List Nat
 | _, [] => []
 | i, none :: r => badS nb nr ny (i + 1) r
 | i, some cs :: r => match cleanL nb nr ny 100000 cs with
  | true => badS nb nr ny (i + 1) r
  | false => i :: badS nb nr ny (i + 1) r
def dropsF : List Nat → Sg → Sg
 | [], σ => σ
 | i :: r, σ => dropsF r (σ.drop i)
/-- Behind the loop, where nothing speaks of its record any more. -/
def afterD (T : TE) (y : Nat) (σ : Sg) : Out :=
 match cleanS σ.store.length σ.rooms.length y σ.store with
 | true => afterF T y σ
 | false => match cleanS (dropsF (badS σ.store.length σ.rooms.length y 0 σ.store) σ).store.length (dropsF (badS σ.store.length σ.rooms.length y 0 σ.store) σ).rooms.length y (dropsF (badS σ.store.length σ.rooms.length y 0 σ.store) σ).store with
  | true => afterF T y (dropsF (badS σ.store.length σ.rooms.length y 0 σ.store) σ)
  | false => none
/-- What follows, where a piece of code has ended as usual. -/
def thenF (r : Out) (k : TE → Sg → Out) : Out :=
 match r with
 | some (.normal, T, σ) => k T σ
 | r => r
def blockF (id : Nat) (r : Out) : Out :=
 match r with
 | some (.exit id', T, σ) => match Nat.beq id' id with
  | true => some (.normal, T, σ)
  | false => some (.exit id', T, σ)
 | r => r
def scopeF (r : Out) : Out :=
 match r with
 | some (.goto _, _, _) => none
 | r => r
def regF (r : Option (TE × Sg)) : Out :=
 match r with
 | some (T, σ) => some (.normal, T, σ)
 | none => none
def loopF (c : CF) (call : YF → CallT) : Nat → YF → TE → Sg → Out
 | 0, _, _, _ => none
 | n + 1, Y, T, σ => thenF (c.run call n Y T σ) fun T' σ' => loopF c call n Y T' σ'
def codeF (P : Program) (A : Aid) (f : FuncId) (N : Nat) : Code → CF
 | .skip => ⟨fun _ _ _ T σ => some (.normal, T, σ)⟩
 | .label _ => ⟨fun _ _ _ T σ => some (.normal, T, σ)⟩
 | .exit id => ⟨fun _ _ _ T σ => some (.exit id, T, σ)⟩
 | .ret => ⟨fun _ _ _ T σ => some (.ret, T, σ)⟩
 | .seq x y => ⟨fun call n Y T σ => thenF ((codeF P A f N x).run call n Y T σ) fun T' σ' => (codeF P A f N y).run call n Y T' σ'⟩
 | .region id ops d => match d with
  | false => ⟨fun call _ Y T σ => regF ((opsF P (A.mode f) N ops ops.toList).run (call Y) Y T σ)⟩
  | true => ⟨fun call _ Y T σ => regF ((regionF P (A.plans f id) N ops).run (call Y) Y T σ)⟩
 | .cond x a b => ⟨fun call n Y T σ => match (opdF x).get T with
  | .bool true => (codeF P A f N a).run call n Y T σ
  | .bool false => (codeF P A f N b).run call n Y T σ
  | _ => none⟩
 | .loop c => ⟨fun call n Y T σ => loopF (codeF P A f N c) call n Y T σ⟩
 | .block id c => ⟨fun call n Y T σ => blockF id ((codeF P A f N c).run call n Y T σ)⟩
 | .scope c => ⟨fun call n Y T σ => scopeF ((codeF P A f N c).run call n Y T σ)⟩
 | .rangeFunc g ps assign body => match ps.toList.all fun t => Nat.ble (t + 1) N && Nat.ble t 511 with
  | false => ⟨fun _ _ _ _ _ => none⟩
  | true => ⟨fun call n Y T σ => match (opdF g).get T with
   | .func (.func gf) fs cs =>
    match call (Y.at σ.ys.length (roundF ((codeF P A f N assign).run call n Y) ((codeF P A f N body).run call n Y) ps.toList T σ.ys.length)) gf (fs ++ [.yield σ.ys.length] ++ cs) σ.pushY with
    | some (_, σ5) => afterD T σ.ys.length σ5
    | none => none
   | _ => none⟩
 | _ => ⟨fun _ _ _ _ _ => none⟩
structure FF where
 run : (YF → CallT) → Nat → YF → List PV → Sg → Option (PV × Sg)
def endF (P : Program) (m : Nat) (fn : Func) (σ : Sg) (r : Out) : Option (PV × Sg) :=
 match r with
 | some (.normal, T, σ') => finT P m fn σ T σ'
 | some (.ret, T, σ') => finT P m fn σ T σ'
 | _ => none
/-- A function, made ready. -/
def funF (P : Program) (A : Aid) (f : FuncId) : FF :=
 match P.funcs[f]? with
 | none => ⟨fun _ _ _ _ _ => none⟩
 | some fn => match fn.body with
  | none => ⟨fun _ _ _ _ _ => none⟩
  | some c => match goFn P f && Nat.ble fn.ntmps 512 with
   | false => ⟨fun _ _ _ _ _ => none⟩
   | true => ⟨fun call n Y args σ => match Nat.ble args.length fn.ntmps with
    | false => none
    | true => endF P (A.mode f 999) fn σ ((codeF P A f fn.ntmps c).run call n Y ((argsF (List.range fn.ntmps)).lay args .leaf) σ)⟩
def callK (P : Program) (A : Aid) : Nat → YF → CallT
 | 0, _, _, _, _ => none
 | n + 1, Y, f, args, σ => match A.orc f args σ with
  | some r => some r
  | none => (funF P A f).run (callK P A n) n Y args σ
end
theorem nthF_eq {α : Type} : ∀ (l : List α) (n : Nat), nthF l n = l[n]? := by
 intro l
 induction l with
 | nil => intro n; rfl
 | cons a l ih =>
  intro n
  cases n with
  | zero => rfl
  | succ n => exact ih n
theorem lenF_eq {α : Type} : ∀ (l : List α), lenF l = l.length := by
 intro l
 induction l with
 | nil => rfl
 | cons a l ih => exact congrArg Nat.succ ih
theorem allS_eq : ∀ (l : List PV), allS l = l.all PV.scalar := by
 intro l
 induction l with
 | nil => rfl
 | cons a l ih =>
  show cond a.scalar (allS l) false = _
  rw [ih, List.all_cons]
  cases a.scalar <;> rfl
theorem snocN_eq {α : Type} (x : α) : ∀ (l : List α), snocN x l = l ++ [x] := by
 intro l
 induction l with
 | nil => rfl
 | cons a l ih => exact congrArg (a :: ·) ih
theorem setN_eq {α : Type} (v : α) : ∀ (l : List α) (n : Nat), setN v l n = l.set n v := by
 intro l
 induction l with
 | nil => intro n; rfl
 | cons a l ih =>
  intro n
  cases n with
  | zero => rfl
  | succ n => exact congrArg (a :: ·) (ih n)
theorem normN_eq {α : Type} (n : Nat) (f : Nat → α) : normN n f = f n := rfl
theorem drop16_eq {α : Type} (l : List α) (n : Nat) : nthF (drop16 l) n = l[n + 16]? := by
 rw [nthF_eq]
 unfold drop16
 split
 ·rfl
 rename_i h
 have hl : l.length < 16 := by
  rcases l with _ | ⟨_, _ | ⟨_, _ | ⟨_, _ | ⟨_, _ | ⟨_, _ | ⟨_, _ | ⟨_, _ | ⟨_, _ | ⟨_, _ | ⟨_, _ | ⟨_, _ | ⟨_, _ | ⟨_, _ | ⟨_, _ | ⟨_, _ | ⟨_, _⟩⟩⟩⟩⟩⟩⟩⟩⟩⟩⟩⟩⟩⟩⟩⟩ <;> first | (simp; done) | exact absurd rfl (h _ _ _ _ _ _ _ _ _ _ _ _ _ _ _ _ _)
 exact (List.getElem?_eq_none (by omega)).symm
theorem dropC_eq {α : Type} (l : List α) : ∀ (q n : Nat), nthF (dropC l q) n = l[n + 16 * q]? := by
 intro q
 induction q with
 | zero => intro n; exact nthF_eq l n
 | succ q ih =>
  intro n
  show nthF (drop16 (dropC l q)) n = _
  rw [drop16_eq, ← nthF_eq, ih]
  congr 1
  omega
theorem nthC_eq {α : Type} (l : List α) (n : Nat) : nthC l n = l[n]? := by
 unfold nthC
 cases Nat.ble n 31 with
 | true => exact nthF_eq l n
 | false =>
  show nthF (dropC l (n / 16)) (n % 16) = _
  rw [dropC_eq]
  congr 1
  omega
theorem sel_upd {α : Type} {i j : Nat} (hi : i < 8) (hj : j < 8) (g : α → α) (t : T8 α) : (selF i).f ((updF j).f g t) = if i = j then g ((selF i).f t) else (selF i).f t := by
 have a : i = 0 ∨ i = 1 ∨ i = 2 ∨ i = 3 ∨ i = 4 ∨ i = 5 ∨ i = 6 ∨ i = 7 := by omega
 have b : j = 0 ∨ j = 1 ∨ j = 2 ∨ j = 3 ∨ j = 4 ∨ j = 5 ∨ j = 6 ∨ j = 7 := by omega
 rcases a with rfl | rfl | rfl | rfl | rfl | rfl | rfl | rfl <;> rcases b with rfl | rfl | rfl | rfl | rfl | rfl | rfl | rfl <;> rfl
theorem ble_iff {a b : Nat} : Nat.ble a b = true ↔ a ≤ b := ⟨Nat.le_of_ble_eq_true, Nat.ble_eq_true_of_le⟩
theorem ble_false {a b : Nat} (h : ¬ a ≤ b) : Nat.ble a b = false := by
 cases e : Nat.ble a b with
 | false => rfl
 | true => exact absurd (ble_iff.1 e) h
theorem get_eq {T : TE} {t : Nat} (h : t ≤ 511) : TE.get T t = (selF (t % 8)).f ((selF (t / 8 % 8)).f ((selF (t / 64)).f T)) := by
 unfold TE.get getF
 rw [ble_iff.2 h]
theorem get_far {T : TE} {t : Nat} (h : ¬ t ≤ 511) : TE.get T t = .undef := by
 unfold TE.get getF
 rw [ble_false h]
theorem tget_put {T : TE} {v : PV} {t d : Nat} (hd : d ≤ 511) : TE.get ((putF d).put v T) t = if d = t then v else TE.get T t := by
 by_cases h : t ≤ 511
 ·rw [get_eq h, get_eq h]
  unfold putF
  simp only
  rw [sel_upd (by omega) (by omega)]
  by_cases h1 : t / 64 = d / 64
  ·rw [if_pos h1, sel_upd (by omega) (by omega)]
   by_cases h2 : t / 8 % 8 = d / 8 % 8
   ·rw [if_pos h2, sel_upd (by omega) (by omega)]
    by_cases h3 : t % 8 = d % 8
    ·rw [if_pos h3, if_pos (by omega)]
    rw [if_neg h3, if_neg (by omega)]
   rw [if_neg h2, if_neg (by omega)]
  rw [if_neg h1, if_neg (by omega)]
 rw [get_far h, get_far h, if_neg (by omega)]
theorem get_leaf (t : Nat) : TE.get TE.leaf t = .undef := by
 by_cases h : t ≤ 511
 ·rw [get_eq h]
  have a : ∀ i, i < 8 → ∀ {α : Type} (x : α), (selF i).f (all8 x) = x := by
   intro i hi α x
   have a : i = 0 ∨ i = 1 ∨ i = 2 ∨ i = 3 ∨ i = 4 ∨ i = 5 ∨ i = 6 ∨ i = 7 := by omega
   rcases a with rfl | rfl | rfl | rfl | rfl | rfl | rfl | rfl <;> rfl
  unfold TE.leaf
  rw [a _ (by omega), a _ (by omega), a _ (by omega)]
 exact get_far h
/-- A tree and a list of temporaries that say the same. -/
def Same (E : Env) (T : TE) : Prop := ∀ t, E.get t = TE.get T t
theorem Same.put {E : Env} {T : TE} (h : Same E T) {d : Option Nat} (hd : ∀ n, d = some n → n ≤ 511) (v : PV) : Same (E.put d v) ((putOF d).put v T) := by
 intro t
 cases d with
 | none => exact h t
 | some d =>
  simp only [Env.put_some, Env.get, putOF]
  rw [tget_put (hd d rfl), h t]
theorem dst12_le {o : Oper} (h : dst12 o = true) : ∀ n, o.dst = some n → n ≤ 511 := by
 intro n hn
 unfold dst12 at h
 rw [hn] at h
 exact ble_iff.1 h
theorem mini_or (T : TE) (l : List Nat) (t : Nat) : Env.get (l.map fun t => (t, TE.get T t)) t = TE.get T t ∨ Env.get (l.map fun t => (t, TE.get T t)) t = .undef := by
 induction l with
 | nil => exact .inr rfl
 | cons a l ih =>
  simp only [List.map_cons, Env.get]
  split
  ·rename_i e; subst e; exact .inl rfl
  exact ih
theorem mini_get {T : TE} {l : List Nat} {t : Nat} (h : t ∈ l) : Env.get (l.map fun t => (t, TE.get T t)) t = TE.get T t := by
 induction l with
 | nil => cases h
 | cons a l ih =>
  simp only [List.map_cons, Env.get]
  split
  ·rename_i e; subst e; rfl
  rename_i e
  rcases List.mem_cons.1 h with rfl | h
  ·exact absurd rfl e
  exact ih h
/-- An operand's value, and what its reader finds. -/
theorem ev_opd {T : TE} {E : Env} {x : Operand} (h : ∀ t, x = .tmp t → E.get t = TE.get T t) : ev E x = (opdF x).get T := by
 cases x with
 | tmp t => exact h t rfl
 | const v => rfl
 | global g => rfl
 | func f => rfl
theorem ev_tmO {T : TE} {x : Operand} {l l' : List Nat} (h : ∀ t, t ∈ tmO x l → t ∈ l') : ev (l'.map fun t => (t, TE.get T t)) x = (opdF x).get T :=
 ev_opd fun t e => mini_get (h t (by subst e; simp [tmO]))
theorem tmO_sub {x : Operand} {l : List Nat} {t : Nat} (h : t ∈ l) : t ∈ tmO x l := by
 cases x <;> first | exact List.mem_cons_of_mem _ h | exact h
theorem tmL_mem {xs : List Operand} {t : Nat} (h : Operand.tmp t ∈ xs) : t ∈ tmL xs := by
 induction xs with
 | nil => cases h
 | cons x r ih =>
  rcases List.mem_cons.1 h with rfl | h
  ·exact List.mem_cons_self ..
  exact tmO_sub (ih h)
theorem gets_eq {T : TE} {E : Env} {xs : List Operand} (h : ∀ t, Operand.tmp t ∈ xs → E.get t = TE.get T t) : xs.map (ev E) = getsF (opdsF xs) T := by
 induction xs with
 | nil => rfl
 | cons x r ih =>
  simp only [List.map_cons, opdsF, getsF]
  rw [ev_opd (T := T) fun t e => h t (by subst e; exact List.mem_cons_self ..), ih fun t ht => h t (List.mem_cons_of_mem _ ht)]
theorem wrapF_eq (n : Int) : wrapF n = IntKind.i64.wrap n := by
 unfold wrapF
 split
 ·rename_i m
  by_cases h : m ≤ 9223372036854775807
  ·rw [ble_iff.2 h]
   have e : IntKind.i64.wrap (Int.ofNat m) = Int.ofNat m := wrap_i64_id (by simp only [Int.ofNat_eq_natCast]; omega) (by simp only [Int.ofNat_eq_natCast]; omega)
   rw [e, cond_true]
  rw [ble_false h, cond_false]
 rename_i m
 by_cases h : m ≤ 9223372036854775807
 ·rw [ble_iff.2 h]
  have e : IntKind.i64.wrap (Int.negSucc m) = Int.negSucc m := wrap_i64_id (by omega) (by omega)
  rw [e, cond_true]
 rw [ble_false h, cond_false]
theorem ltF_eq (a b : Int) : ltF a b = decide (a < b) := by
 unfold ltF
 cases a with
 | ofNat m =>
  cases b with
  | ofNat n =>
   simp only
   by_cases h : m + 1 ≤ n
   ·rw [ble_iff.2 h]; simp; omega
   rw [ble_false h]; simp; omega
  | negSucc n => simp; omega
 | negSucc m =>
  cases b with
  | ofNat n => simp; omega
  | negSucc n =>
   simp only
   by_cases h : n + 1 ≤ m
   ·rw [ble_iff.2 h]; simp; omega
   rw [ble_false h]; simp; omega
theorem beq_nat (a b : Nat) : Nat.beq a b = (a == b) := by rw [Bool.eq_iff_iff]; simp
theorem eqF_eq (a b : Int) : eqF a b = (a == b) := by
 unfold eqF
 cases a <;> cases b <;> simp only [beq_nat] <;> rw [Bool.eq_iff_iff] <;> first | (simp; done) | (simp; omega)
theorem int64_inv {v : PV} {n : Int} (h : int64 v = some n) : v = .int .i64 n := by
 unfold int64 at h
 split at h
 ·injection h with h; subst h; rfl
 cases h
theorem arF_ok {op : BinOp} {f : IF} (h : arF op = some f) {a b : Int} {σ : Sg} {r : PV × Sg} (hr : f.run a b σ = some r) : ∃ v, r = (v, σ) ∧ arith op .i64 a b = some v ∧ isShift op = false := by
  cases op <;> simp only [arF] at h <;> first
    | (cases h; done)
    | (injection h with h
       subst h
       injection hr with hr
       subst hr
       refine ⟨_, rfl, ?_, rfl⟩
       first
         | (simp only [arith, wrapF_eq, ltF_eq, eqF_eq]; done)
         | (simp only [arith, wrapF_eq, ltF_eq, eqF_eq]; rfl)
         | (simp only [arith, ltF_eq]; congr 2; rw [Bool.eq_iff_iff]; simp; done)
         | (simp only [arith, ltF_eq]; congr 2; rw [Bool.eq_iff_iff]; simp; omega))
theorem beq_eq {a b : Nat} : Nat.beq a b = true ↔ a = b := by rw [beq_nat]; simp
theorem ptrF_inv {v : PV} {i o : Nat} (h : ptrF v = some (i, o)) : v = .ptr i o := by
 unfold ptrF at h
 split at h
 ·injection h with h; injection h with h1 h2; subst h1 h2; rfl
 cases h
theorem eptrF_inv {v : PV} {l : List PV} {i o : Nat} (h : eptrF v = some (l, i, o)) : ∃ es, v = .eptr es l i o := by
 unfold eptrF at h
 split at h
 ·injection h with h; injection h with h1 h2; injection h2 with h2 h3; subst h1 h2 h3; exact ⟨_, rfl⟩
 cases h
theorem islF_inv {v : PV} {l : List PV} (h : islF v = some l) : ∃ o, v = .isl l o := by
 unfold islF at h
 split at h
 ·injection h with h; subst h; exact ⟨_, rfl⟩
 cases h
theorem aggF_inv {v : PV} {l : List PV} (h : aggF v = some l) : v = .agg l := by
 unfold aggF at h
 split at h
 ·injection h with h; subst h; rfl
 cases h
theorem natF_inv {n : Int} {m : Nat} (h : natF n = some m) : n = (m : Int) := by
 unfold natF at h
 split at h
 ·injection h with h; subst h; rfl
 cases h
theorem keepF_inv {σ : Sg} {x : Option PV} {r : PV × Sg} (h : keepF σ x = some r) : ∃ v, x = some v ∧ r = (v, σ) := by
 unfold keepF at h
 split at h
 ·injection h with h; exact ⟨_, rfl, h.symm⟩
 cases h
theorem partF_ok {d : TypeDesc} {n : Nat} {cs : List PV} {off : Nat} {v : PV} (h : partF (isAggD d) n cs off = some v) : partPV d n cs off = some v := by
 unfold partPV
 cases ha : isAggD d with
 | false =>
  rw [ha] at h
  simp only [partF, nthC_eq] at h
  rw [if_neg (by simp)]
  exact h
 | true =>
  rw [ha] at h
  simp only [partF, lenF_eq] at h
  rw [if_pos rfl]
  split at h
  ·rename_i hh
   simp only [Bool.and_eq_true, beq_eq] at hh
   obtain ⟨h1, h2⟩ := hh
   subst h1 h2
   rw [if_pos (by omega)]
   simpa using h
  split at h
  ·rename_i hh
   rw [if_pos (ble_iff.1 hh)]
   exact h
  cases h
theorem loadF_ok {P : Program} {t : TypeId} {σ : Sg} {p v : PV} (h : (loadF P t).run σ p = some v) : loadPV P σ t p = some v := by
 unfold loadF at h
 unfold loadPV
 cases hu : P.underlying t with
 | none => rw [hu] at h; cases h
 | some d =>
  rw [hu] at h
  simp only at h ⊢
  cases hp : ptrF p with
  | some r =>
   obtain ⟨i, o⟩ := r
   rw [hp] at h
   rw [ptrF_inv hp]
   simp only [nthF_eq] at h ⊢
   split at h
   ·rename_i cs hc
    simp only [hc]
    exact partF_ok h
   cases h
  | none =>
   rw [hp] at h
   simp only at h
   cases hq : eptrF p with
   | none => rw [hq] at h; cases h
   | some r =>
    obtain ⟨l, i, o⟩ := r
    rw [hq] at h
    obtain ⟨es, rfl⟩ := eptrF_inv hq
    simp only [nthF_eq] at h ⊢
    split at h
    ·rename_i e he
     simp only [he]
     exact partF_ok h
    cases h
theorem putCells_eq : ∀ (vs : List PV) (off : Nat) (cs : List PV), off + vs.length ≤ cs.length → putCells cs off vs = cs.take off ++ (vs ++ cs.drop (off + vs.length)) := by
 intro vs
 induction vs with
 | nil => intro off cs h; simp [putCells]
 | cons v vs ih =>
  intro off cs h
  simp only [List.length_cons] at h
  simp only [putCells]
  rw [ih _ _ (by simp; omega)]
  have e : cs.set off v = cs.take off ++ v :: cs.drop (off + 1) := by
   rw [List.set_eq_take_append_cons_drop, if_pos (by omega)]
  have hl : (cs.take off).length = off := by simp; omega
  have a : (cs.take off ++ v :: cs.drop (off + 1)).take (off + 1) = cs.take off ++ [v] := by
   rw [List.take_append, hl, List.take_of_length_le (by rw [hl]; omega), show off + 1 - off = 1 by omega]
   rfl
  have b : (cs.take off ++ v :: cs.drop (off + 1)).drop (off + 1 + vs.length) = cs.drop (off + (vs.length + 1)) := by
   rw [List.drop_append, hl, List.drop_eq_nil_of_le (by rw [hl]; omega), show off + 1 + vs.length - off = vs.length + 1 by omega, List.nil_append, List.drop_succ_cons, List.drop_drop]
   congr 1
   omega
  rw [e, a, b]
  simp only [List.append_assoc, List.length_cons, List.cons_append, List.nil_append]
theorem layN_eq {cs vs : List PV} {off : Nat} (h : off + vs.length ≤ cs.length) : layN cs off vs = putCells cs off vs := by
 unfold layN
 split
 ·rename_i v
  rw [setN_eq]; rfl
 simp only [lenF_eq]
 rw [putCells_eq _ _ _ h]
 split
 ·rename_i hh
  simp only [Bool.and_eq_true, beq_eq] at hh
  obtain ⟨h1, h2⟩ := hh
  subst h1
  simp [h2]
 rfl
theorem storeF_ok {P : Program} {t : TypeId} {σ : Sg} {a p : PV} {r : PV × Sg} (h : storeF P t σ a p = some r) : ∃ σ', r = (.undef, σ') ∧ storePV P σ t a p = some σ' := by
 unfold storeF at h
 unfold storePV
 cases hp : ptrF a with
 | none => rw [hp] at h; cases h
 | some x =>
  obtain ⟨id, off⟩ := x
  rw [hp] at h
  rw [ptrF_inv hp]
  simp only [nthF_eq, lenF_eq, allS_eq] at h ⊢
  split at h
  ·rename_i cs hc
   simp only [hc]
   split at h
   ·rename_i hh
    injection h with h
    simp only [Bool.and_eq_true, beq_eq, ble_iff] at hh
    obtain ⟨⟨⟨⟨h1, h2⟩, h3⟩, h4⟩, h5⟩ := hh
    rw [if_pos (by simp only [h1, h2, h3, Bool.true_and, Bool.and_eq_true, beq_iff_eq, decide_eq_true_eq]; exact ⟨h4, h5⟩)]
    refine ⟨_, h.symm, ?_⟩
    rw [layN_eq h5, setN_eq]
    rfl
   cases h
  cases h
theorem indexAddrF_ok {P : Program} {t : TypeId} {f : XF} (hf : indexAddrF P t = some f) {x v : PV} {n : Int} (h : f.run x n = some v) (k : IntKind) : indexAddrPV P t x (.int k n) = some v := by
 unfold indexAddrF at hf
 split at hf
 ·rename_i e he
  split at hf
  ·rename_i d hd
   injection hf with hf
   subst hf
   simp only at h
   split at h
   ·rename_i m hm
    split at h
    ·rename_i l hl
     obtain ⟨o, rfl⟩ := islF_inv hl
     split at h
     ·rename_i el hel
      split at h
      ·rename_i hb
       injection h with h
       subst h
       rw [nthF_eq] at hel
       rw [natF_inv hm]
       unfold indexAddrPV
       simp only [he, hd]
       have hlt := (List.getElem?_eq_some_iff.1 hel).1
       rw [if_pos ⟨by omega, by omega⟩]
       simp only [Int.toNat_natCast, hel]
       rw [lenF_eq] at hb
       rw [if_pos (beq_eq.1 hb)]
      cases h
     cases h
    cases h
   cases h
  cases hf
 cases hf
theorem indexF_ok {P : Program} {t : TypeId} {f : XF} (hf : indexF P t = some f) {x v : PV} {n : Int} (h : f.run x n = some v) (k : IntKind) : indexPV P t x (.int k n) = some v := by
 unfold indexF at hf
 split at hf
 ·rename_i len e he
  split at hf
  ·rename_i d hd
   injection hf with hf
   subst hf
   simp only at h
   split at h
   ·rename_i m hm
    split at h
    ·rename_i hb
     split at h
     ·rename_i cs hcs
      rw [aggF_inv hcs, natF_inv hm]
      unfold indexPV
      have := ble_iff.1 hb
      simp only [he]
      rw [if_pos ⟨by omega, by omega⟩]
      simp only [hd, Int.toNat_natCast]
      exact partF_ok h
     cases h
    cases h
   cases h
  cases hf
 cases hf
theorem fieldAddrF_ok {P : Program} {s : TypeId} {f : Nat} {g : AF} (hg : fieldAddrF P s f = some g) {x v : PV} (h : g.run x = some v) : fieldAddrPV P s x f = some v := by
 unfold fieldAddrF at hg
 unfold fieldAddrPV
 split at hg
 ·rename_i fl d hf
  rw [hf]
  simp only
  split at hg
  ·cases hg
  rename_i hb
  injection hg with hg
  subst hg
  rw [if_neg (by intro e; rw [e] at hb; cases hb)]
  exact h
 cases hg
theorem fieldF_ok {P : Program} {s : TypeId} {f : Nat} {g : AF} (hg : fieldF P s f = some g) {x v : PV} (h : g.run x = some v) : fieldPV P s x f = some v := by
 unfold fieldF at hg
 unfold fieldPV
 split at hg
 ·rename_i fl d hf
  injection hg with hg
  subst hg
  simp only at h
  split at h
  ·rename_i cs hc
   rw [hf, aggF_inv hc]
   exact partF_ok h
  cases h
 cases hg
theorem lenOp_ok {P : Program} {t : TypeId} {g : AF} (hg : lenOp P t = some g) {x v : PV} (h : g.run x = some v) : lenPV P t x = some v := by
 unfold lenOp at hg
 split at hg
 ·rename_i e he
  injection hg with hg
  subst hg
  simp only at h
  split at h
  ·rename_i l hl
   obtain ⟨o, rfl⟩ := islF_inv hl
   unfold lenPV
   simp only [he]
   rw [lenF_eq] at h
   exact h
  cases h
 cases hg
theorem opD_eff {P : Program} {call : CallT} {Y : YF} {σ : Sg} {E : Env} {op : Op} {r : PV × Sg} (hw : whom E op = .nobody) (he : effOp P σ E op = some r) : opD P call Y σ E op = some r := by
 unfold opD; rw [hw]; exact he
theorem aF_ok {f : Option AF} {x : VF} {F : OF} (h : aF f x = some F) : ∃ g, f = some g ∧ F = ⟨fun _ _ σ T => keepF σ (g.run (x.get T))⟩ := by
 unfold aF at h
 split at h
 ·injection h with h; exact ⟨_, rfl, h.symm⟩
 cases h
theorem xF_inv {f : XF} {x i : VF} {call : CallT} {Y : YF} {σ : Sg} {T : TE} {r : PV × Sg} (h : (xF f x i).run call Y σ T = some r) : ∃ n v, i.get T = .int .i64 n ∧ f.run (x.get T) n = some v ∧ r = (v, σ) := by
 unfold xF at h
 simp only at h
 split at h
 ·rename_i n hn
  obtain ⟨v, h1, h2⟩ := keepF_inv h
  exact ⟨n, v, int64_inv hn, h1, h2⟩
 cases h
theorem strOf_inv {v : PV} {l : List UInt8} (h : strOf v = some l) : v = .str ⟨l.toArray⟩ := by
 unfold strOf at h
 split at h
 ·injection h with h
  subst h
  simp
 cases h
theorem bytesEq_eq : ∀ (a b : List UInt8), bytesEq a b = true ↔ a = b := by
 intro a
 induction a with
 | nil => intro b; cases b <;> simp [bytesEq]
 | cons x a ih =>
  intro b
  cases b with
  | nil => simp [bytesEq]
  | cons y b =>
   simp only [bytesEq, Bool.and_eq_true, beq_eq, ih, List.cons.injEq]
   constructor
   ·rintro ⟨h1, h2⟩; exact ⟨UInt8.toNat_inj.1 h1, h2⟩
   rintro ⟨h1, h2⟩; exact ⟨by rw [h1], h2⟩
theorem bytes_beq (a b : List UInt8) : ((⟨a.toArray⟩ : ByteArray) == ⟨b.toArray⟩) = bytesEq a b := by
 show (a.toArray == b.toArray) = bytesEq a b
 rw [Bool.eq_iff_iff, bytesEq_eq, beq_iff_eq]
 simp
theorem strOp_ok {op : BinOp} {a b : List UInt8} {v : PV} (h : strOp op a b = some v) : strBin op ⟨a.toArray⟩ ⟨b.toArray⟩ = some v := by
 cases op <;> simp only [strOp] at h <;> first
  | (cases h; done)
  | skip
 ·split at h
  ·rename_i hl
   have hl := ble_iff.1 hl
   rw [lenF_eq, lenF_eq] at hl
   unfold strBin
   simp only
   have e1 : (⟨a.toArray⟩ : ByteArray).size = a.length := by simp [ByteArray.size]
   have e2 : (⟨b.toArray⟩ : ByteArray).size = b.length := by simp [ByteArray.size]
   rw [if_pos (by rw [e1, e2]; omega), ← h]
   have e3 : (⟨a.toArray⟩ : ByteArray) ++ ⟨b.toArray⟩ = ⟨(a ++ b).toArray⟩ := ByteArray.ext (by simp)
   rw [e3]
  cases h
 ·unfold strBin; simp only; rw [bytes_beq]; exact h
 unfold strBin; simp only; rw [bne, bytes_beq]; exact h
theorem fast_ok {P : Program} {op : Op} {F : OF} (hF : fastF P op = some F) {call : CallT} {Y : YF} {σ : Sg} {T : TE} {r : PV × Sg} (h : F.run call Y σ T = some r) : opD P call Y σ (TE.mini T op) op = some r := by
 have m1 : ∀ x : Operand, (∀ t, t ∈ tmO x [] → t ∈ opT op) → ev (TE.mini T op) x = (opdF x).get T := fun x hx => ev_tmO hx
 have m2 : ∀ x : Operand, (∀ t, x = .tmp t → t ∈ opT op) → ev (TE.mini T op) x = (opdF x).get T := fun x hx => ev_opd fun t e => mini_get (hx t e)
 have s1 : ∀ (x : Operand) (t : Nat) (l : List Nat), x = .tmp t → t ∈ tmO x l := fun x t l e => by subst e; exact List.mem_cons_self ..
 unfold fastF at hF
 split at hF
 ·rename_i x
  injection hF with hF
  subst hF
  injection h with h
  subst h
  refine opD_eff rfl ?_
  show some (ev _ x, σ) = _
  rw [m2 x fun t e => s1 x t [] e]
 ·rename_i t
  injection hF with hF
  subst hF
  injection h with h
  subst h
  refine opD_eff rfl ?_
  show some (ev _ (.tmp t), σ) = _
  rw [m2 (.tmp t) fun t' e => s1 _ t' [] e]
  rfl
 ·rename_i op t x y sh
  split at hF
  ·cases hF
  rename_i hn
  split at hF
  ·rename_i f hf
   injection hF with hF
   subst hF
   simp only [binF] at h
   simp only [Bool.or_eq_false_iff] at hn
   have ex := m2 x fun t e => s1 x t _ e
   have ey := m2 y fun t e => tmO_sub (s1 y t [] e)
   split at h
   ·rename_i a ha
    split at h
    ·rename_i b hb
     obtain ⟨v, rfl, h2, h3⟩ := arF_ok hf h
     refine opD_eff rfl ?_
     unfold effOp
     simp only [hn.1, hn.2]
     rw [ex, ey, int64_inv ha, int64_inv hb]
     simp only [binPV, bin]
     rw [if_neg (by simp [h3]), if_pos trivial, h2]
     rfl
    cases h
   split at h
   ·rename_i a ha
    split at h
    ·rename_i b hb
     split at h
     ·rename_i v hv
      injection h with h
      subst h
      refine opD_eff rfl ?_
      unfold effOp
      simp only [hn.1, hn.2]
      rw [ex, ey, strOf_inv ha, strOf_inv hb]
      simp only [binPV]
      rw [strOp_ok hv]
      rfl
     cases h
    cases h
   cases h
  cases hF
 ·rename_i t a
  injection hF with hF
  subst hF
  obtain ⟨v, h1, rfl⟩ := keepF_inv h
  refine opD_eff rfl ?_
  show (loadPV P σ t (ev _ a)).map _ = _
  rw [m2 a fun t e => s1 a t [] e, loadF_ok h1]
  rfl
 ·rename_i t a x
  injection hF with hF
  subst hF
  obtain ⟨σ', rfl, h1⟩ := storeF_ok h
  refine opD_eff rfl ?_
  show (storePV P σ t (ev _ a) (ev _ x)).map _ = _
  rw [m2 a fun t e => s1 a t _ e, m2 x fun t e => tmO_sub (s1 x t [] e), h1]
  rfl
 ·rename_i c a b
  injection hF with hF
  subst hF
  obtain ⟨v, h1, rfl⟩ := keepF_inv h
  refine opD_eff rfl ?_
  show (pickPV (ev _ c) (ev _ a) (ev _ b)).map _ = _
  rw [m2 c fun t e => s1 c t _ e, m2 a fun t e => tmO_sub (s1 a t _ e), m2 b fun t e => tmO_sub (tmO_sub (s1 b t [] e)), h1]
  rfl
 ·rename_i s x f
  obtain ⟨g, hg, rfl⟩ := aF_ok hF
  obtain ⟨v, h1, rfl⟩ := keepF_inv h
  refine opD_eff rfl ?_
  show (fieldAddrPV P s (ev _ x) f).map _ = _
  rw [m2 x fun t e => s1 x t [] e, fieldAddrF_ok hg h1]
  rfl
 ·rename_i s x f
  obtain ⟨g, hg, rfl⟩ := aF_ok hF
  obtain ⟨v, h1, rfl⟩ := keepF_inv h
  refine opD_eff rfl ?_
  show (fieldPV P s (ev _ x) f).map _ = _
  rw [m2 x fun t e => s1 x t [] e, fieldF_ok hg h1]
  rfl
 ·rename_i t x
  injection hF with hF
  subst hF
  simp only [boxF] at h
  split at h
  ·rename_i hd
   simp only [normN_eq, lenF_eq, snocN_eq] at h
   injection h with h
   subst h
   refine opD_eff rfl ?_
   show (if defd (ev _ x) then some (PV.ptr σ.store.length 0, σ.push (ev _ x).cells) else none) = _
   rw [m2 x fun t e => s1 x t [] e, if_pos hd]
   rfl
  cases h
 ·rename_i t
  unfold allocF at hF
  split at hF
  ·rename_i zs hz
   injection hF with hF
   subst hF
   simp only [normN_eq, lenF_eq, snocN_eq] at h
   injection h with h
   subst h
   refine opD_eff rfl ?_
   show (zeroPV P t).map _ = _
   rw [hz]
   rfl
  cases hF
 ·rename_i t x i
  split at hF
  ·rename_i f hf
   injection hF with hF
   subst hF
   obtain ⟨n, v, h1, h2, rfl⟩ := xF_inv h
   refine opD_eff rfl ?_
   show (indexAddrPV P t (ev _ x) (ev _ i)).map _ = _
   rw [m2 x fun t e => s1 x t _ e, m2 i fun t e => tmO_sub (s1 i t [] e), h1, indexAddrF_ok hf h2]
   rfl
  cases hF
 ·rename_i t x i
  split at hF
  ·rename_i f hf
   injection hF with hF
   subst hF
   obtain ⟨n, v, h1, h2, rfl⟩ := xF_inv h
   refine opD_eff rfl ?_
   show (indexPV P t (ev _ x) (ev _ i)).map _ = _
   rw [m2 x fun t e => s1 x t _ e, m2 i fun t e => tmO_sub (s1 i t [] e), h1, indexF_ok hf h2]
   rfl
  cases hF
 ·rename_i args ts
  split at hF
  ·rename_i x t h1 h2
   have e1 : args = #[x] := Array.toList_inj.1 h1
   have e2 : ts = #[t] := Array.toList_inj.1 h2
   subst e1 e2
   obtain ⟨g, hg, rfl⟩ := aF_ok hF
   obtain ⟨v, h1, rfl⟩ := keepF_inv h
   refine opD_eff rfl ?_
   show (builtinPV P .len #[t] [ev _ x]).map _ = _
   rw [m2 x fun t e => s1 x t [] e]
   have := lenOp_ok hg h1
   simp only [builtinPV]
   simp [this]
  cases hF
 ·rename_i o t x
  injection hF with hF
  subst hF
  obtain ⟨v, h1, rfl⟩ := keepF_inv h
  refine opD_eff rfl ?_
  show (unPV o (ev _ x)).map _ = _
  rw [m2 x fun t e => s1 x t [] e, h1]
  rfl
 ·rename_i x i
  injection hF with hF
  subst hF
  obtain ⟨v, h1, rfl⟩ := keepF_inv h
  refine opD_eff rfl ?_
  show (extractPV (ev _ x) i).map _ = _
  rw [m2 x fun t e => s1 x t [] e, h1]
  rfl
 ·rename_i f args ts
  injection hF with hF
  subst hF
  simp only [callF] at h
  have ef := m2 f fun t e => s1 f t _ e
  have ea : args.toList.map (ev (TE.mini T (.call ⟨.value f, args, ts⟩))) = getsF (opdsF args.toList) T := gets_eq fun t ht => mini_get (tmO_sub (tmL_mem ht))
  unfold opD whom
  simp only
  split at h
  ·rename_i g first captured hf
   rw [ef, hf]
   simp only
   rw [ea]
   exact h
  ·rename_i y hf
   rw [ef, hf]
   simp only
   rw [ea]
   exact h
  cases h
 cases hF
/-- A contract of the library's, as a contract. -/
theorem PC_of_calls {P : Program} {Y : YEnv} {f : FuncId} {args : List PV} {σ σ' : Sg} {v : PV} (hg : goFn P f = true)
 (h : ∀ Ψ vals w, SR Ψ σ w → VRs Ψ args vals → Calls P f vals w (fun e w' => ∃ x Ψ', e = .returned x ∧ Ψ.le Ψ' ∧ SR Ψ' σ' w' ∧ VR Ψ' v x ∧ Below Ψ.base w w')) : PC P Y f args σ v σ' :=
 ⟨hg, fun Ψ vals w hs ha _ => callsIn_wide.2 (h Ψ vals w hs ha)⟩
/-- A variable's block is written anew. -/
theorem SR.rewrite {Ψ : Ty} {σ : Sg} {w w' : World} (h : SR Ψ σ w) {id b : Nat} {cs cs' : List PV} {c c' : Array Value} {e : TypeId} (hid : σ.store[id]? = some (some cs)) (hβ : Ψ.β[id]? = some b)
 (hb : w.heap[b]? = some (.cells c e (0, 0))) (hb' : w'.heap[b]? = some (.cells c' e (0, 0))) (hsz : c'.size = c.size) (hz : w.heap.size ≤ w'.heap.size) (ho : ∀ k, k < w.heap.size → k ≠ b → w'.heap[k]? = w.heap[k]?)
 (hl : cs'.length ≤ c'.size) (hv : ∀ (j : Nat) (p : PV) (v : Value), cs'[j]? = some p → c'[j]? = some v → VR Ψ p v) : SR Ψ (σ.setVar id cs') w' := by
 obtain ⟨p1, p2, p3⟩ := h.block id cs b hid hβ
 have old : ∀ (i : Nat) (x : List PV), (σ.setVar id cs').store[i]? = some (some x) → ∃ y, σ.store[i]? = some (some y) := fun i x hx => by
  rcases setVar_some hid hx with ⟨rfl, _⟩ | ⟨_, h'⟩
  ·exact ⟨_, hid⟩
  exact ⟨_, h'⟩
 have hbi : blockIs w b c := ⟨e, hb⟩
 have cel : ∀ b2 o v, b2 ≠ b → w.cell? ⟨b2, o, none⟩ = some v → w'.cell? ⟨b2, o, none⟩ = some v := fun b2 o v hne hv => by
  rw [cell_eq, ho b2 (cell_lt hv) hne, ← cell_eq]; exact hv
 have blk : ∀ b2 c2, b2 ≠ b → blockIs w b2 c2 → blockIs w' b2 c2 := fun b2 c2 hne hk => hk.of_heap (ho b2 hk.lt hne)
 refine ⟨Nat.le_trans h.base hz, fun b2 o v hk => cel b2 o v (fun e2 => by subst e2; rw [p2] at hk; cases hk) (h.imm b2 o v hk), by rw [sv_len]; exact h.blen, ?_, ?_, ?_, h.roomsApart, h.histlt, h.histle, fun i b2 hk => Nat.lt_of_lt_of_le (h.βlt i b2 hk) hz, ?_, h.ylen', ?_, ?_, ?_⟩
 ·intro i x b2 hx hb2
  rcases setVar_some hid hx with ⟨rfl, rfl⟩ | ⟨hne, h'⟩
  ·have : b2 = b := by rw [hβ] at hb2; injection hb2 with hb2; exact hb2.symm
   subst this
   exact ⟨p1, p2, .inl ⟨c', ⟨e, hb'⟩, hl, hv⟩⟩
  have hbn : b2 ≠ b := fun e2 => hne (h.apart i id x cs b2 h' hid hb2 (e2 ▸ hβ))
  obtain ⟨a1, a2, a3⟩ := h.block i x b2 h' hb2
  exact ⟨a1, a2, a3.of_heap (ho b2 (h.βlt i b2 hb2) hbn)⟩
 ·intro i i' x x' b2 hx hx' hb2 hb2'
  obtain ⟨y, hy⟩ := old i x hx
  obtain ⟨y', hy'⟩ := old i' x' hx'
  exact h.apart i i' y y' b2 hy hy' hb2 hb2'
 ·intro r n b2 e2 c2 es hr hh hlt
  obtain ⟨a1, a2, a3, cc, a4, a5⟩ := h.room r n b2 e2 c2 es hr hh hlt
  have hbn : b2 ≠ b := fun e3 => a3 id (e3 ▸ hβ) cs hid
  refine ⟨a1, a2, fun i hi x hx => ?_, cc, blk _ _ hbn a4, a5⟩
  obtain ⟨y, hy⟩ := old i x hx
  exact a3 i hi y hy
 ·intro y l d s k1 k2
  obtain ⟨a1, a0, a2⟩ := h.yok y l d s k1 k2
  have hne : l ≠ b := by rintro rfl; rw [hb] at a2; cases a2
  exact ⟨a1, a0, by rw [ho l (heap_lt a2) hne]; exact a2⟩
 ·intro d k
  obtain ⟨a1, a2⟩ := h.dok d k
  have hne : d ≠ b := by rintro rfl; rw [hb] at a2; cases a2
  exact ⟨a1, by rw [ho d (heap_lt a2) hne]; exact a2⟩
 ·intro b2 c2 hm
  obtain ⟨a1, a2, a3, a4, a5⟩ := h.rok b2 c2 hm
  have hbn : b2 ≠ b := fun e3 => a3 id (e3 ▸ hβ) cs hid
  refine ⟨a1, a2, fun i hi x hx => ?_, a4, blk _ _ hbn a5⟩
  obtain ⟨y, hy⟩ := old i x hx
  exact a3 i hi y hy
 intro b2 n hm
 by_cases hbn : b2 = b
 ·subst hbn
  exact (h.szok b2 n hm).rewrite p1 hb hb' hsz
 exact (h.szok b2 n hm).of_heap (ho b2 (h.szok b2 n hm).lt hbn)
section
variable {P : Program} {Y : YEnv} {f : FuncId} {σ : Sg} {id : Nat} {xs ys : List Int}
theorem gsl_row {Ψ : Ty} {w : World} (hs : SR Ψ σ w) {n : Nat} {x : Value} (hid : σ.store[id]? = some (some (xs.map I))) (hn : n = xs.length) (hx : VR Ψ (.gsl id n 1) x) :
 ∃ b c e cap, x = .slice (some ⟨b, 0, none⟩) xs.length cap ∧ Ψ.β[id]? = some b ∧ w.heap[b]? = some (.cells c e (0, 0)) ∧ Sort.Holds (Value.int .i64) w b 0 xs.toArray ∧ xs.length ≤ c.size ∧ xs.length ≤ cap ∧ (b, .n (cap * 1)) ∈ Ψ.sz ∧ (b, .n 0) ∈ Ψ.sz ∧ Ψ.base ≤ b := by
 subst hn
 cases hx with
 | gsl _ _ _ b cap hβ hz hz0 hc =>
  obtain ⟨p1, _, hk⟩ := hs.block id _ b hid hβ
  obtain ⟨c, ⟨e, hb⟩, _⟩ := hk.blk (hs.szok b _ hz0)
  obtain ⟨k1, k2⟩ := hk.cells ⟨e, hb⟩
  rw [List.length_map] at k1
  have hbi : blockIs w b c := ⟨e, hb⟩
  refine ⟨b, c, e, cap, rfl, hβ, hb, fun j hj => ?_, k1, hc, hz, hz0, p1⟩
  have hj' : j < xs.length := by simpa using hj
  have hjc : j < c.size := by omega
  refine ⟨?_, hbi.free _⟩
  rw [Nat.zero_add, hbi.cell]
  have := k2 j (I xs[j]) c[j] (by simp [hj']) (by simp [hjc])
  cases hcj : c[j] with
  | _ => (rw [hcj] at this; cases this) <;> simp [hjc, hcj, hj']
theorem SR.row {Ψ : Ty} {w : World} (hs : SR Ψ σ w) {b : Nat} {c : Array Value} {e : TypeId} {n : Nat} {os : Array Obj} (hid : σ.store[id]? = some (some (xs.map I))) (hβ : Ψ.β[id]? = some b) (hb : w.heap[b]? = some (.cells c e (0, 0))) (hl : ys.length = xs.length) (hc : xs.length ≤ c.size) :
 SR Ψ (σ.setVar id (ys.map I)) (Sort.grow (Sort.putRow (Value.int .i64) (Sort.ahead w n) b 0 ys.toArray) os) := by
 have hg := grownBy_sortedI (w := w) (g := b) (n := n) (os := os) ys.toArray
 have ht := take_putCellsI c ys (by omega)
 refine hs.rewrite (c' := Sort.putCells (Value.int .i64) 0 ys.toArray c) hid hβ hb (heap_sortedI (w := w) (n := n) (os := os) ys.toArray hb) (by simp [Sort.putCells]) hg.size (fun k hk hne => hg.block k hk (fun e2 => hne (Option.some.inj e2))) (by simp [Sort.putCells]; omega) ?_
 intro j p v h1 h2
 simp only [List.getElem?_map, Option.map_eq_some_iff] at h1
 obtain ⟨y, hy, rfl⟩ := h1
 have hj := (List.getElem?_eq_some_iff.1 hy).1
 have h3 : ((Sort.putCells (Value.int .i64) 0 ys.toArray c).toList.take ys.length)[j]? = some v := by
  rw [List.getElem?_take_of_lt hj, Array.getElem?_toList]; exact h2
 rw [ht, List.getElem?_map, hy] at h3
 injection h3 with h3
 subst h3
 exact .int _ _
theorem Below.row {Ψ : Ty} {w : World} {b n : Nat} {os : Array Obj} {d : Array Int} (hB : Ψ.base ≤ w.heap.size) (h0 : Ψ.base ≤ b) : Below Ψ.base w (Sort.grow (Sort.putRow (Value.int .i64) (Sort.ahead w n) b 0 d) os) := by
 have hg := grownBy_sortedI (w := w) (g := b) (n := n) (os := os) d
 exact ⟨hg.os, hg.tape, hg.output, hg.size, fun k hk => hg.block k (by omega) (fun e2 => by injection e2 with e2; omega)⟩
/-- What a contract of the library's must say of sorting. -/
def SortsI (P : Program) (f : FuncId) : Prop := goFn P f = true ∧ (∀ (p : Option Addr) (cap : Nat) (w : World), Calls P f #[.slice p 0 cap] w fun e w' => e = .returned (.tuple #[]) ∧ w' = w) ∧
 ∀ (blk off cap : Nat) (zs : List Int) (w : World), Sort.Holds (Value.int .i64) w blk off zs.toArray → blk < w.heap.size → zs.length < 4611686018427387904 → Calls P f #[.slice (some ⟨blk, off, none⟩) zs.length cap] w fun e w' =>
  e = .returned (.tuple #[]) ∧ ∃ n os, w' = Sort.grow (Sort.putRow (Value.int .i64) (Sort.ahead w n) blk off (zs.mergeSort fun x y => decide (x ≤ y)).toArray) os
def sortI (xs : List Int) : List Int := xs.mergeSort fun x y => decide (x ≤ y)
theorem sortI_len (xs : List Int) : (sortI xs).length = xs.length := by simp [sortI, List.length_mergeSort]
theorem PC_sortI (h : SortsI P f) (hid : σ.store[id]? = some (some (xs.map I))) (hl : xs.length < 2 ^ 60) : PC P Y f [.gsl id xs.length 1] σ (.tuple []) (σ.setVar id ((sortI xs).map I)) := by
 refine PC_of_calls h.1 fun Ψ vals w hs ha => ?_
 obtain ⟨x, rfl⟩ : ∃ x, vals = #[x] := by
  have := ha.1
  match vals, this with
  | ⟨[x]⟩, _ => exact ⟨x, rfl⟩
 obtain ⟨b, c, e, cap, rfl, hβ, hb, hH, h1, _, _, _, h0⟩ := gsl_row hs hid rfl (ha.2 0 _ _ rfl rfl)
 have hbl : b < w.heap.size := (Array.getElem?_eq_some_iff.1 hb).1
 refine (h.2.2 b 0 cap xs w hH hbl (by omega)).mono ?_
 rintro e2 w2 ⟨rfl, n, os, rfl⟩
 exact ⟨_, Ψ, rfl, Ty.le.refl _, hs.row hid hβ hb (sortI_len xs) h1, skipped_ok _, Below.row hs.base h0⟩
theorem PC_sort0 (h : SortsI P f) : PC P Y f [.gnil] σ (.tuple []) σ := by
 refine PC_of_calls h.1 fun Ψ vals w hs ha => ?_
 obtain ⟨x, rfl⟩ : ∃ x, vals = #[x] := by
  have := ha.1
  match vals, this with
  | ⟨[x]⟩, _ => exact ⟨x, rfl⟩
 have hx := ha.2 0 _ _ rfl rfl
 cases hx with
 | gnil a =>
  refine (h.2.1 a 0 w).mono ?_
  rintro e2 w2 ⟨rfl, rfl⟩
  exact ⟨_, Ψ, rfl, Ty.le.refl _, hs, skipped_ok _, Below.refl _ _⟩
end
section
variable {N : Nat} {lo : Nat × Nat} {E : Env} {σ : Sg}
theorem Keeps.setOne {Ψ : Ty} {w : World} {b off : Nat} {cs : List PV} {p q : PV} (h : Keeps Ψ w b cs) (hp : cs[off]? = some p) (h0 : p ≠ .mark) (h1 : ∀ k v, p ≠ .tuple [k, v]) (hq : ∀ x, VR Ψ p x → VR Ψ q x) (h2 : ∀ m n s, p ≠ .itst m n s := by simp) : Keeps Ψ w b (cs.set off q) := by
 have hlt : off < cs.length := (List.getElem?_eq_some_iff.1 hp).1
 rcases h with ⟨c, a3, a4, a5⟩ | ⟨arr, es, rfl, a3, a4, a5⟩ | ⟨mid, r, n, seen, rfl, a3, a4⟩
 ·refine .inl ⟨c, a3, by simpa using a4, fun j r v e1 e2 => ?_⟩
  rw [List.getElem?_set] at e1
  by_cases e : off = j
  ·subst e
   rw [if_pos rfl, if_pos hlt] at e1
   injection e1 with e1
   subst e1
   exact hq _ (a5 off p v hp e2)
  rw [if_neg e] at e1
  exact a5 j r v e1 e2
 ·exfalso
  rcases off with _ | off
  ·simp at hp; exact h0 hp.symm
  simp only [List.getElem?_cons_succ] at hp
  have hlt' : off < arr.size := by rw [a4]; exact (List.getElem?_eq_some_iff.1 hp).1
  obtain ⟨_, k, v, e2, _⟩ := a5 off p arr[off] hp (by simp [hlt'])
  exact h1 k v e2
 exfalso
 rcases off with _ | off
 ·simp at hp; exact h2 _ _ _ hp.symm
 simp at hp
/-- A cell is told otherwise. -/
theorem Weak.cellV {id off : Nat} {cs : List PV} {p q : PV} (hid : σ.store[id]? = some (some cs)) (hc : cs[off]? = some p) (h0 : p ≠ .mark) (h1 : ∀ k v, p ≠ .tuple [k, v]) (hq : ∀ Ψ x, VR Ψ p x → VR Ψ q x) (h2 : ∀ m n s, p ≠ .itst m n s := by simp) : Weak N lo E σ E (σ.setVar id (cs.set off q)) := by
 intro Ψ0 Ψ D a w hb le hr
 have hs2 := hr.sg.reread (cs' := cs.set off q) hid (fun b hb2 hk => hk.setOne hc h0 h1 (hq Ψ) h2)
 exact ⟨Ψ, le, hr.size, hr.env, hs2, hr.dsub, hr.defs⟩
theorem VR.to_gnil {Ψ : Ty} {x : Value} (hv : VR Ψ (.isl [] .exact) x) : VR Ψ .gnil x := by
 cases hv with
 | islnil _ a' _ => exact .gnil a'
 | isl es _ _ b o cap vals hs h1 h2 hc ho =>
  have : cap = 0 := ho
  subst this
  exact .gnil _
theorem VR.of_gnil {Ψ : Ty} {x : Value} (hv : VR Ψ .gnil x) : VR Ψ (.isl [] .ro) x := by
 cases hv with
 | gnil a => exact .islnil .ro a trivial
/-- A slice without room in a new variable's cell: to grow in place. -/
theorem Weak.gnilX {l : List (Option (List PV))} {rm : List Nat} {ys : List LState} {j off : Nat} {cs : List PV} (hid : l[j]? = some (some cs)) (hc : cs[off]? = some (.isl [] .exact)) :
 Weak N lo E (σ.ext l rm ys) E (σ.ext (l.set j (some (cs.set off .gnil))) rm ys) := by
 have h := Weak.cellV (N := N) (lo := lo) (E := E) (σ := σ.ext l rm ys) (id := σ.store.length + j) (off := off) (cs := cs) (q := .gnil) (by rw [Sg.get_ext]; exact hid) hc (by simp) (by simp) (fun _ _ => VR.to_gnil)
 rw [Sg.set_ext] at h
 exact h
theorem Weak.ungnilX {l : List (Option (List PV))} {rm : List Nat} {ys : List LState} {j off : Nat} {cs : List PV} (hid : l[j]? = some (some cs)) (hc : cs[off]? = some .gnil) :
 Weak N lo E (σ.ext l rm ys) E (σ.ext (l.set j (some (cs.set off (.isl [] .ro)))) rm ys) := by
 have h := Weak.cellV (N := N) (lo := lo) (E := E) (σ := σ.ext l rm ys) (id := σ.store.length + j) (off := off) (cs := cs) (q := .isl [] .ro) (by rw [Sg.get_ext]; exact hid) hc (by simp) (by simp) (fun _ _ => VR.of_gnil)
 rw [Sg.set_ext] at h
 exact h
/-- What a slice in a cell held is never written again. -/
theorem Weak.freezeV {cid off id len es : Nat} {ccs rest : List PV} {l : List PV} (hne : cid ≠ id) (hcid : σ.store[cid]? = some (some ccs)) (hc : ccs[off]? = some (.gsl id len es)) (hs : σ.store[id]? = some (some (rowC l ++ rest))) (hl : l.length = len) (hes : ∀ q ∈ l, q.cells.length = es) :
 Weak N lo E σ E ((σ.drop id).setVar cid (ccs.set off (.isl l .ro))) := by
 intro Ψ0 Ψ D a w hb le hr
 obtain ⟨b0, hβ0⟩ : ∃ b, Ψ.β[cid]? = some b := by
  have : cid < Ψ.β.length := by rw [hr.sg.blen]; exact (List.getElem?_eq_some_iff.1 hcid).1
  exact ⟨Ψ.β[cid], by simp [this]⟩
 obtain ⟨_, _, hkc⟩ := hr.sg.block cid ccs b0 hcid hβ0
 -- the slice
 have hv : ∃ x, VR Ψ (.gsl id len es) x := by
  rcases hkc with ⟨c, a3, a4, a5⟩ | ⟨arr, es', rfl, a3, a4, a5⟩ | ⟨mid, r, n, seen, rfl, _, _⟩
  ·have hlt : off < c.size := Nat.lt_of_lt_of_le (List.getElem?_eq_some_iff.1 hc).1 a4
   exact ⟨c[off], a5 off _ _ hc (by simp [hlt])⟩
  ·rcases off with _ | off
   ·simp at hc
   simp only [List.getElem?_cons_succ] at hc
   have hlt' : off < arr.size := by rw [a4]; exact (List.getElem?_eq_some_iff.1 hc).1
   obtain ⟨_, k, v, e2, _⟩ := a5 off _ arr[off] hc (by simp [hlt'])
   cases e2
  rcases off with _ | off
  ·simp at hc
  simp at hc
 obtain ⟨x0, hx0⟩ := hv
 cases hx0 with
 | gsl _ _ _ b cap hβ hz1 hz0 hcap =>
 obtain ⟨_, _, hkp⟩ := hr.sg.block id _ b hs hβ
 obtain ⟨c, hbk, _⟩ := hkp.blk (hr.sg.szok b _ hz0)
 obtain ⟨a4, a5⟩ := hkp.cells hbk
 obtain ⟨le2, hs2⟩ := hr.sg.freeze hs hβ hbk
 have hcid2 : (σ.drop id).store[cid]? = some (some ccs) := by
  show (σ.store.set id none)[cid]? = _
  rw [List.getElem?_set_ne (fun e => hne e.symm)]
  exact hcid
 have hat : ∀ (k : Nat) (q : PV) (j : Nat) (p : PV), l[k]? = some q → q.cells[j]? = some p → (rowC l ++ rest)[k * es + j]? = some p ∧ k * es + j < c.size := fun k q j p q1 q2 => by
  have h1 := rowC_at hes q1 q2
  have h2 : (rowC l ++ rest)[k * es + j]? = some p := by rw [List.getElem?_append_left (List.getElem?_eq_some_iff.1 h1).1]; exact h1
  exact ⟨h2, Nat.lt_of_lt_of_le (List.getElem?_eq_some_iff.1 h2).1 a4⟩
 have hs3 := hs2.reread (cs' := ccs.set off (.isl l .ro)) hcid2 (fun b2 hb2 h2 => h2.setOne hc (by simp) (by simp) (fun y hy => by
  cases hy with
  | gsl _ _ _ b' cap' hβ' _ _ hcap' =>
  have hbb : b' = b := by
   have := le2.β id b hβ
   rw [hβ'] at this
   injection this
  subst hbb
  rw [← hl]
  refine .isl es l .ro b' 0 cap' (fun k j => c.getD (k * es + j) undef) (fun k q hk => hes q (List.mem_of_getElem? hk)) (fun k q j p q1 q2 => ?_) (fun k q j p q1 q2 => ?_) (by omega) trivial
  ·obtain ⟨_, hlt⟩ := hat k q j p q1 q2
   simp only [Ty.addImm, Nat.zero_add]
   rw [if_pos ⟨trivial, Nat.zero_le _, hlt⟩]
   simp [Array.getD, hlt]
  obtain ⟨h1, hlt⟩ := hat k q j p q1 q2
  refine (a5 _ p _ h1 ?_).mono le2
  simp [Array.getD, hlt]))
 refine ⟨_, le.trans le2, hr.size, fun t' => (hr.env t').mono le2, hs3, fun d hd => le2.ds _ (hr.dsub d hd), ?_⟩
 obtain ⟨rs, r1, r2, r3⟩ := hr.defs
 exact ⟨rs, r1, r2, fun r hm => ⟨le2.ds _ (r3 r hm).1, (r3 r hm).2⟩⟩
theorem Weak.freezeX {l : List (Option (List PV))} {rm : List Nat} {ys : List LState} {j k off len es : Nat} {ccs rest m : List PV} (hne : j ≠ k) (hcid : l[j]? = some (some ccs)) (hc : ccs[off]? = some (.gsl (σ.store.length + k) len es)) (hs : l[k]? = some (some (rowC m ++ rest))) (hl : m.length = len) (hes : ∀ q ∈ m, q.cells.length = es) :
 Weak N lo E (σ.ext l rm ys) E (σ.ext ((l.set k none).set j (some (ccs.set off (.isl m .ro)))) rm ys) := by
 have h := Weak.freezeV (N := N) (lo := lo) (E := E) (σ := σ.ext l rm ys) (cid := σ.store.length + j) (id := σ.store.length + k) (by omega) (by rw [Sg.get_ext]; exact hcid) hc (by rw [Sg.get_ext]; exact hs) hl hes
 rw [Sg.drop_ext, Sg.set_ext] at h
 exact h
end
theorem litM_ok {P : Program} {Ψ : Ty} {σ σ' : Sg} {w : World} (hs : SR Ψ σ w) {t : TypeId} {len : Nat} {parts : List (Nat × PV)} {v : PV} (h : litM P σ t len parts = some (v, σ'))
 {xs : Array (Nat × Value)} (hl : parts.length = xs.size) (hv : ∀ (j : Nat) (p : Nat × PV) (x : Nat × Value), parts[j]? = some p → xs[j]? = some x → p.1 = x.1 ∧ VR Ψ p.2 x.2) :
 Did P (Instr.buildSlice t len xs) Ψ w v σ' := by
 unfold litM at h
 split at h
 ·rename_i l own hb
  injection h with h
  injection h with e1 e2
  subst e1 e2
  unfold buildSlicePV at hb
  split at hb
  ·rename_i e hu
   split at hb
   ·rename_i hh
    injection hb with hb
    injection hb with hb _
    subst hb
    simp only [Bool.and_eq_true, beq_iff_eq, decide_eq_true_eq] at hh
    obtain ⟨⟨⟨⟨h1, h2⟩, h3⟩, h4⟩, h5⟩ := hh
    obtain ⟨d, hd⟩ := Option.isSome_iff_exists.1 h1
    obtain ⟨zs, hz⟩ := Option.isSome_iff_exists.1 h5
    have hlen : (parts.map (·.2)).length = len := by
     have := congrArg List.length h2
     simpa using this
    have hdef : ∀ p ∈ parts, defd p.2 = true ∧ p.2.cells.length = P.cellsOf e := by
     intro p hp
     have := List.all_eq_true.1 h3 p hp
     simpa using this
    have hes : ∀ x, x ∈ parts.map (·.2) → x.cells.length = P.cellsOf e := by
     intro x hx
     obtain ⟨p, hp, rfl⟩ := List.mem_map.1 hx
     exact (hdef p hp).2
    obtain ⟨out, hout⟩ := fill_total (P.cellsOf e) (parts.map (·.2)) 0 (List.replicate (len * P.cellsOf e) .undef) hes (by simp [hlen])
    have hparts : (List.range' 0 (parts.map (·.2)).length).zip (parts.map (·.2)) = parts := by
     rw [hlen, ← List.range_eq_range', ← h2, zip_fst_snd]
    rw [hparts] at hout
    have hrow := fill_row (P.cellsOf e) (parts.map (·.2)) 0 (List.replicate (len * P.cellsOf e) .undef) out (by rw [hparts]; exact hout)
    obtain ⟨Z, hZ⟩ : ∃ Z : Array Value, (len * P.cellsOf e = 0 ∧ Z = #[]) ∨ (len * P.cellsOf e ≠ 0 ∧ ∃ z, (zeroValue e).run P w = .ok z w ∧ Z = z.cells) := by
     by_cases h0 : len * P.cellsOf e = 0
     ·exact ⟨#[], .inl ⟨h0, rfl⟩⟩
     obtain ⟨z, k1, _⟩ := zeroPV_ok (w := w) hz Ψ
     exact ⟨z.cells, .inr ⟨h0, z, k1, rfl⟩⟩
    have hys : VRs Ψ (List.replicate (len * P.cellsOf e) .undef) ((Array.range (len * P.cellsOf e)).map (Z[· % Z.size]!)) := by
     refine ⟨by simp, fun j p x k1 _ => ?_⟩
     have : p = .undef := by
      have := List.mem_of_getElem? k1
      exact List.eq_of_mem_replicate this
     subst this
     exact .undef x
    obtain ⟨cs, hc1, hc2⟩ := fill_ok _ parts xs.toList _ out _ hys hout (by simpa using hl) (fun j p x k1 k2 => by
     obtain ⟨a, b⟩ := hv j p x k1 (by simpa using k2)
     refine ⟨a, b, fun hu => ?_⟩
     have := (hdef p (List.mem_of_getElem? k1)).1
     rw [hu] at this
     cases this)
    have hat : ∀ (j : Nat) (p : PV), (rowC (parts.map (·.2)))[j]? = some p → out[j]? = some p := fun j p hj => by
     obtain ⟨k, q, i, e1, e2, e3⟩ := rowC_get (es := P.cellsOf e) hes hj
     obtain ⟨i1, i2⟩ := hrow.2.2 k q e2
     have hi : i < P.cellsOf e := by rw [← i1]; exact (List.getElem?_eq_some_iff.1 e3).1
     have := i2 i hi
     rw [Nat.zero_add, e3, ← e1] at this
     exact this
    obtain ⟨le, hs'⟩ := hs.newVar cs e (rowC (parts.map (·.2))) (by
     rw [rowC_length hes, hlen]
     rcases Nat.eq_zero_or_pos (len * P.cellsOf e) with h0 | h0
     ·omega
     have hlast : len * P.cellsOf e - 1 < (rowC (parts.map (·.2))).length := by rw [rowC_length hes, hlen]; omega
     have := hat _ _ (List.getElem?_eq_getElem hlast)
     have := (List.getElem?_eq_some_iff.1 this).1
     rw [hc2.1]
     omega) (fun j p x k1 k2 => hc2.2 j p x (hat j p k1) k2)
    refine ⟨.slice (some ⟨w.heap.size, 0, none⟩) len len, _, _, ?_, le, hs', .msl _ _ _ w.heap.size _ (by simp [Ty.addVar, ← hs.blen]) (by simp [Ty.addVar]) (Nat.le_refl _), (Below.refl _ _).alloc hs.base _⟩
    unfold Instr.buildSlice
    rw [run_bind_ok (run_und hu)]
    simp only
    rw [run_bind_ok (run_size hd)]
    rw [if_neg (by omega)]
    rcases hZ with ⟨h0, hZ⟩ | ⟨h0, z, k1, hZ⟩
    ·rw [if_pos h0, run_bind_ok (run_pure _), ← hZ]
     simp only [hc1]
     rfl
    rw [if_neg h0, run_bind_ok k1, run_bind_ok (run_pure _), ← hZ]
    simp only [hc1]
    rfl
   cases hb
  cases hb
 cases h
theorem newB_ok {P : Program} {Ψ : Ty} {σ σ' : Sg} {w : World} (hs : SR Ψ σ w) {T te : TypeId} {v : PV} (h : newB P σ T te = some (v, σ')) : Did P (Instr.alloc T true (.tuple #[])) Ψ w v σ' := by
 unfold newB at h
 split at h
 ·rename_i hz
  injection h with h
  injection h with e1 e2
  subst e1 e2
  obtain ⟨z, h1, _⟩ := zeroPV_ok (w := w) hz Ψ
  have hc2 : ∀ Ψ, VRs Ψ [.nilptr, .isl [] .exact] z.cells := fun Ψ' => by
   obtain ⟨z', h1', h2'⟩ := zeroPV_ok (w := w) hz Ψ'
   rw [h1] at h1'
   injection h1' with h1' _
   subst h1'
   exact h2'
  obtain ⟨c, hc⟩ : ∃ c, c = z.cells := ⟨_, rfl⟩
  have hc0 : c.size = 2 := by rw [hc]; exact (hc2 Ψ).1
  have hc3 : ∀ Ψ (j : Nat) (p : PV) (v : Value), [PV.nilptr, .isl [] .exact][j]? = some p → c[j]? = some v → VR Ψ p v := fun Ψ j p v a b => (hc2 Ψ).2 j p v a (by rw [← hc]; exact b)
  obtain ⟨le1, hs1⟩ := hs.newVar c T [.nilptr, .isl [] .exact] (Nat.le_of_eq hc0.symm) (hc3 Ψ)
  have hk : SzOK (Ψ.addVar w.heap.size).base (w.alloc (.cells c T)) w.heap.size (.ty T 2) := ⟨hs.base, c, (0, 0), heap_alloc_new w _, hc0⟩
  have hs2 := hs1.addSz hk
  have le2 := le1.trans (Ty.addSz_le (Ψ.addVar w.heap.size) w.heap.size (.ty T 2))
  obtain ⟨le3, hs3⟩ := hs2.newRoom 0 none (fun b e c es h => by cases h)
  have le3' := le2.trans le3
  have hst : ((σ.push [.nilptr, .isl [] .exact]).pushRoom 0).store[σ.store.length]? = some (some [.nilptr, .isl [] .exact]) := by simp [Sg.push, Sg.pushRoom]
  have hβ : ((Ψ.addVar w.heap.size).addSz w.heap.size (.ty T 2)).β[σ.store.length]? = some w.heap.size := by
   show (Ψ.β ++ [w.heap.size])[σ.store.length]? = _
   rw [← hs.blen]
   simp
  have hrm : (σ.push [.nilptr, .isl [] .exact]).rooms.length = σ.rooms.length := rfl
  rw [hrm] at le3 hs3 le3'
  have hbk : blockIs (w.alloc (.cells c T)) w.heap.size c := ⟨T, heap_alloc_new w _⟩
  have hs4 := hs3.reread (cs' := [.bself σ.store.length T, .bbuf [] σ.rooms.length te]) hst (fun b' hb' hK => by
   have e1 : b' = w.heap.size := by
    have : ((Ψ.addVar w.heap.size).addSz w.heap.size (.ty T 2)).β[σ.store.length]? = some b' := hb'
    rw [hβ] at this; injection this with this; exact this.symm
   subst e1
   refine .inl ⟨c, hbk, by rw [hc0]; exact Nat.le_refl _, fun j p v h1 h2 => ?_⟩
   have hv0 := hc3 ((((Ψ.addVar w.heap.size).addSz w.heap.size (.ty T 2))).addHist σ.rooms.length 0 none)
   match j, h1, h2 with
   | 0, h1, h2 =>
    simp only [List.getElem?_cons_zero, Option.some.injEq] at h1
    subst h1
    have hv := hv0 0 .nilptr v rfl h2
    refine .bself _ _ w.heap.size _ hβ (List.mem_cons_self ..) (.inl ?_)
    cases hv; rfl
   | 1, h1, h2 =>
    simp only [List.getElem?_cons_succ, List.getElem?_cons_zero, Option.some.injEq] at h1
    subst h1
    have hv := hv0 1 (.isl [] .exact) v rfl h2
    have hh : OwnNil ((((Ψ.addVar w.heap.size).addSz w.heap.size (.ty T 2))).addHist σ.rooms.length 0 none) (.tok σ.rooms.length ([] : List PV).length 1) := ⟨none, by simp [Ty.addHist]⟩
    cases hv with
    | islnil _ a' _ => exact .bbuf _ _ _ _ (.islnil _ a' hh) fun g o n cap e hc => by injection e with _ _ e; exact absurd e.symm hc
    | isl es _ _ b0 o0 cap vals hes k1 k2 hc ho =>
     have ho' : cap = 0 := ho
     subst ho'
     exact .bbuf _ _ _ _ (.islnil _ _ hh) fun g o n cap e hc => by injection e with _ _ e; exact absurd e.symm hc
   | j + 2, h1, h2 => simp at h1)
  have hσ : ((σ.push [.nilptr, .isl [] .exact]).pushRoom 0).setVar σ.store.length [.bself σ.store.length T, .bbuf [] σ.rooms.length te] = (σ.push [.bself σ.store.length T, .bbuf [] σ.rooms.length te]).pushRoom 0 := by simp [Sg.setVar, Sg.push, Sg.pushRoom]
  rw [hσ] at hs4
  refine ⟨.pointer (some ⟨w.heap.size, 0, none⟩), _, _, ?_, le3', hs4, .ptr _ _ _ hβ (List.mem_cons_of_mem _ (List.mem_cons_self ..)), (Below.refl _ _).alloc hs.base _⟩
  unfold Instr.alloc
  rw [run_bind_ok h1, hc]
  rfl
 cases h
theorem gnilA_ok {P : Program} {Ψ : Ty} {σ : Sg} {w : World} (hs : SR Ψ σ w) {t : TypeId} (hz : zeroPV P t = some [.isl [] .exact]) : Did P (Instr.alloc t true (.tuple #[])) Ψ w (.ptr σ.store.length 0) (σ.push [.gnil]) := by
 obtain ⟨z, h1, h2⟩ := zeroPV_ok (w := w) hz Ψ
 obtain ⟨le, hs'⟩ := hs.newVar z.cells t [.gnil] (by rw [h2.1]; exact Nat.le_refl _) (fun j p v a b => by
  cases j with
  | zero =>
   simp at a
   subst a
   exact (h2.2 0 _ v rfl b).to_gnil
  | succ j => simp at a)
 refine ⟨.pointer (some ⟨w.heap.size, 0, none⟩), _, _, ?_, le, hs', .ptr _ _ _ (by simp [Ty.addVar, ← hs.blen]) (by simp [Ty.addVar]), (Below.refl _ _).alloc hs.base _⟩
 unfold Instr.alloc
 rw [run_bind_ok h1]
 rfl
theorem modeI_ok {P : Program} {m : Nat} {σ : Sg} {E : Env} {o : Oper} {r : PV × Sg} (h : modeI P m σ E o.op = some r) {Ψ : Ty} {w : World} {a : Act} (hs : SR Ψ σ w) (he : ER Ψ E a.tmps) :
 (∀ c, o.op ≠ .defer c) ∧ ∃ x w' Ψ', (execOp a.eval o).run P w = .ok (.value x) w' ∧ Ψ.le Ψ' ∧ SR Ψ' r.2 w' ∧ VR Ψ' r.1 x ∧ Below Ψ.base w w' := by
 have did : ∀ {s : Sem Value}, Did P s Ψ w r.1 r.2 → (execOp a.eval o = do pure (.value (← s)) : Prop) → ∃ x w' Ψ', (execOp a.eval o).run P w = .ok (.value x) w' ∧ Ψ.le Ψ' ∧ SR Ψ' r.2 w' ∧ VR Ψ' r.1 x ∧ Below Ψ.base w w' := by
  intro s hd hex
  obtain ⟨x, w', Ψ', h1, h2, h3, h4, h5⟩ := hd
  exact ⟨x, w', Ψ', by rw [hex, run_bind_ok h1]; rfl, h2, h3, h4, h5⟩
 obtain ⟨dst, op, type, pos, after, guard⟩ := o
 simp only at h
 unfold modeI at h
 split at h
 ·cases h
 ·split at h
  ·rename_i v
   split at h
   ·rename_i hv
    injection h with h
    subst h
    have := isNilC_inv (x := .const v) hv
    injection this with this
    subst this
    exact ⟨fun c e => (by cases e), _, w, Ψ, rfl, Ty.le.refl _, hs, .gnil none, Below.refl _ _⟩
   cases h
  ·injection h with h
   subst h
   exact ⟨fun c e => (by cases e), _, w, Ψ, rfl, Ty.le.refl _, hs, ev_ok he (.tmp _), Below.refl _ _⟩
  ·split at h
   ·rename_i hz
    injection h with h
    subst h
    exact ⟨fun c e => (by cases e), did (gnilA_ok hs hz) rfl⟩
   cases h
  cases h
 ·split at h
  ·rename_i t len parts
   refine ⟨fun c e => (by cases e), did (litM_ok hs h (xs := parts.map fun (p : Nat × Operand) => (p.1, a.eval p.2)) (by simp) (fun j p x k1 k2 => ?_)) rfl⟩
   simp only [List.getElem?_map, Array.getElem?_toList] at k1
   simp only [Array.getElem?_map] at k2
   cases hx : parts[j]? with
   | none => rw [hx] at k1; cases k1
   | some q =>
    rw [hx] at k1 k2
    simp at k1 k2
    subst k1 k2
    exact ⟨rfl, ev_ok he _⟩
  cases h
 split at h
 ·exact ⟨fun c e => (by cases e), did (newB_ok hs h) rfl⟩
 cases h
end Go.Proofs.YtdoohibbfjdblaaGreatDoor
