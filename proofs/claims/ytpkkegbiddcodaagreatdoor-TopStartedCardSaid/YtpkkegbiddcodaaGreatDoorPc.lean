/-
  Regions that draw their order: the rule of the walk.
  Views: a state and what was added to it; owners forgotten; how functions usually end.
  What the operations do at a type, without the type.
  Loops that count down; ends that leave something new.
  Cleanness of what was added; folds over ranges of numbers.
  A slice without spare room gets a room; a value's owner is forgotten.
  Loops over a state of plain values; cleanness, loads of rows and variables that were there before, by simp.
  Regions whose ways meet again; sums that fit.
  The types of this seat's program, as the pure reading asks of them.
  What the operations do at this seat's types.
  The rules by which a walk is worked out.
  A variable's slice without spare room gets a room; what is read of a variable may be told otherwise.
  The owner of a slice in a variable is forgotten.
  A slice is held against nil: the answer is open where the slice is empty.
  Slices of slices: what goes in front is cut off.
  Slices that grow in place: operations without types; a variable moved to another number; a variable that is never written again.
  Facts of this seat's types for slices that grow in place.
  Conversions at this seat's types; shifts; pointers that are not nil.
  Parts of slices at this seat's types.
  What is done to texts at this seat's types.
  What the arguments of the laws are read as: rows of numbers.
  Schools on an avenue, plainly (parade): their data, starts, ways, how long a parade lasts.
  Maps as lists of keys with their values, without the program's types.
  Slices made at once, written and then frozen; rows of numbers written at a place.
  Variables renumbered: the live ones, in a new order; whatever speaks of them follows.
  Regions that draw their order, two operations of which may come in either order: both are walked.
  Builders: one is made; what it holds becomes a string.
  Slices that grow in place, in a variable's cell; a row sorted or written anew by the library.
  A slice of numbers that grows in place in a variable's cell, is sorted, compacted, and read at last.
  Builders and decimal numerals, as the library makes them.
  A text trimmed of its small letters, as the library does it.
  Walks: numbers, paces, a school's check (parade).
-/
import Derived.Test.YtpkkegbiddcodaaGreatDoorPb
import Derived.CallsIn
import Derived.RangeFuncLeaves
import Derived.RangeFuncRecord
import Derived.OrdersIn
import Derived.Below
import Derived.Laws.World
import Derived.Laws.StructEq
import Derived.Laws.BytesString
import Derived.Laws.Append
import Derived.MapKept
import Derived.ProofKit
import Derived.Carry
import Derived.Handed
import Derived.ChangeCalls
import Derived.Stop.Joined
import Derived.Lib.LaidTab
import Derived.Shelf.Strconv.Itoa3
import Derived.RangeFuncIn
import Derived.RangeFuncNested
import Derived.Test.YtpkkegbiddcodaaGreatDoorProg
import Derived.KernelRfl
import Derived.IntWalk
import Derived.Sort.OwnSortedInts
import Derived.Lib.SlicesCompact
import Derived.Shelf.Strings.Builder1
import Derived.Shelf.Strings.SlTrimAscii
import Derived.Lib.SplitLaws
import Derived.Lib.AtoiAll
import Derived.Lib.ItoaNum
import Derived.Lib.IndexBytes
import Derived.Shelf.Strings.Split
import Derived.Shelf.Strconv.AtoiAll
import Derived.Lib.AtoiErrMem
import Derived.Lib.ItoaLen
import Derived.Tactics
import Derived.Tactics2
import Derived.StillTactics
import Derived.Laws.RangeString
import Derived.Laws.RangeAny
import Derived.LoopTactic
import Derived.Scope
import Derived.FnLit
import Derived.Shelf.Strings.Prefix
import Derived.Shelf.Strings.Count
import Derived.Shelf.Strings.Cut
import Derived.Test.YtpkkegbiddcodaaGreatDoorCards
import Derived.Test.YtpkkegbiddcodaaGreatDoorChecked
import Derived.JoinedOf
import Derived.Test.YtpkkegbiddcodaaGreatDoorTie
import Derived.LaidMore
import Derived.LaidSub
import Derived.Lay
import Derived.SevenTiedAt
import Derived.Lib.LaidU8
import Derived.Shelf.Vars
import Derived.OpenShut
set_option linter.unusedSimpArgs false
set_option linter.unusedVariables false
namespace Go.Proofs.YtpkkegbiddcodaaGreatDoor
open Go Go.RowKit
section
variable {P : Program} {Y : YEnv} {N : Nat} {rd : Option Nat} {D : List Nat} {Ψ0 : Ty} {w0 : World} {Q : Exit → Act → World → Prop} {ops : Array Oper} {is : List Nat} {plan : List (Nat × Nat)} {pre : List (List Nat)} {T : List St} {E0 Ef : Env} {σ0 σf : Sg}
/-- How many are not taken yet. -/
def left (listed : Array Bool) (n : Nat) : Nat := ((List.range n).filter fun i => !listed.getD i false).length
theorem filter_lt {α : Type} {f g : α → Bool} : ∀ (l : List α), (∀ x, x ∈ l → g x = true → f x = true) → (∃ x, x ∈ l ∧ f x = true ∧ g x = false) → (l.filter g).length < (l.filter f).length := by
 intro l
 have le : ∀ l : List α, (∀ x, x ∈ l → g x = true → f x = true) → (l.filter g).length ≤ (l.filter f).length := by
  intro l
  induction l with
  | nil => intro _; simp
  | cons a l ih =>
   intro h
   have := ih (fun x hx => h x (List.mem_cons_of_mem _ hx))
   simp only [List.filter_cons]
   cases hg : g a with
   | false => simp only [Bool.false_eq_true, if_false]; split <;> simp <;> omega
   | true => rw [h a (List.mem_cons_self ..) hg]; simp; exact this
 induction l with
 | nil => rintro _ ⟨x, hx, _⟩; cases hx
 | cons a l ih =>
  intro h ⟨x, hx, hf, hg⟩
  have h' : ∀ x, x ∈ l → g x = true → f x = true := fun x hx => h x (List.mem_cons_of_mem _ hx)
  simp only [List.filter_cons]
  rcases List.mem_cons.1 hx with rfl | hx
  ·rw [hf, hg]
   have := le l h'
   simp
   omega
  have := ih h' ⟨x, hx, hf, hg⟩
  cases hga : g a with
  | false => simp only [Bool.false_eq_true, if_false]; split <;> simp <;> omega
  | true => rw [h a (List.mem_cons_self ..) hga]; simp; exact this
theorem Inv.all (H : Shown P Y N ops is plan pre T E0 Ef σ0 σf) (hy : YOK P Y Ψ0) (hQ : ∀ Ψ' a' w', Ψ0.le Ψ' → Rel N D Ψ' Ef σf a' w' → Below Ψ0.base w0 w' → Q .normal a' w') :
 ∀ (fuel : Nat) (listed : Array Bool) (p : Nat) (bl : Nat → Option (Nat × Array Value)) (Ψ : Ty) (a : Act) (w : World), left listed ops.size ≤ fuel → Inv P N D Ψ0 w0 ops is T E0 σf listed p bl Ψ a w →
  wpAnyIn (FnOf Ψ0 rd) 0 P .any ops Q fuel listed a w := by
 -- when all is taken
 have fin : ∀ (listed : Array Bool) (p : Nat) (bl : Nat → Option (Nat × Array Value)) (Ψ : Ty) (a : Act) (w : World), Inv P N D Ψ0 w0 ops is T E0 σf listed p bl Ψ a w → (∀ i, i < ops.size → listed.getD i false = true) → Q .normal a w := by
  intro listed p bl Ψ a w I hall
  obtain ⟨p', Ψ', I', hfar⟩ := I.far H (ops.size - p) p Ψ (by have := I.pn; omega)
  have hp : p' = ops.size := by
   rcases hfar with e | ⟨_, s, hs, hl⟩
   ·exact e
   rw [hall s.i (H.ilt hs)] at hl; cases hl
  subst hp
  have h1 : goE ops (vis ops is listed ops.size) T E0 = Ef := goE_linked T E0 σ0 H.link fun s hs => by
   obtain ⟨q, hq⟩ := List.mem_iff_getElem?.1 hs
   unfold vis
   rw [hall s.i (H.ilt hq), H.idx hq]
   simp [H.lt hq]
  have h2 : st T σf ops.size = σf := by
   unfold st
   rw [List.getElem?_eq_none (by rw [H.len]; exact Nat.le_refl _)]
  have hr := I'.rel
  rw [h1, h2] at hr
  exact hQ Ψ' a w I'.le hr I'.bel
 -- one is ready, if any is left
 have some_ready : ∀ (listed : Array Bool), listed.size = ops.size → Region.ready .any ops listed = [] → ∀ i, i < ops.size → listed.getD i false = true := by
  intro listed hsz hr i
  induction hn : is.idxOf i using Nat.strongRecOn generalizing i with
  | _ n ih =>
   intro hi
   subst hn
   cases hl : listed.getD i false with
   | true => rfl
   | false =>
    exfalso
    have : i ∈ Region.ready .any ops listed := by
     rw [mem_ready]
     refine ⟨?_, ops[i], by simp [hi], fun e he hb => ?_⟩
     ·have hi' : i < listed.size := by omega
      simp [hi'] at hl ⊢; exact hl
     have hmem : e.on ∈ dir ops i := by
      unfold dir
      simp only [Array.getElem?_eq_getElem hi, List.mem_map, List.mem_filter]
      exact ⟨e, ⟨by simpa using he, hb⟩, rfl⟩
     obtain ⟨hk, hlt⟩ := H.facts.dlt i hi _ hmem
     exact ih _ hlt e.on rfl hk
    rw [hr] at this
    cases this
 intro fuel
 induction fuel with
 | zero =>
  intro listed p bl Ψ a w hleft I
  have hall : ∀ i, i < ops.size → listed.getD i false = true := by
   intro i hi
   cases hl : listed.getD i false with
   | true => rfl
   | false =>
    have : i ∈ (List.range ops.size).filter fun i => !listed.getD i false := List.mem_filter.2 ⟨List.mem_range.2 hi, by rw [hl]; rfl⟩
    have := List.length_pos_of_mem this
    unfold left at hleft
    omega
  refine ⟨?_, fin listed p bl Ψ a w I hall⟩
  cases hr : Region.ready .any ops listed with
  | nil => rfl
  | cons i is' =>
   exfalso
   have : i ∈ Region.ready .any ops listed := by rw [hr]; simp
   obtain ⟨h0, o, ho, _⟩ := mem_ready.1 this
   have hi : i < ops.size := (Array.getElem?_eq_some_iff.1 ho).1
   have := hall i hi
   have hi' : i < listed.size := by rw [I.size]; exact hi
   simp [hi'] at h0 this
   rw [h0] at this; cases this
 | succ fuel ih =>
  intro listed p bl Ψ a w hleft I
  refine ⟨fun hr => fin listed p bl Ψ a w I (some_ready listed I.size hr), fun i hi => ?_⟩
  obtain ⟨h0, o, ho, hall⟩ := mem_ready.1 hi
  have hin : i < ops.size := (Array.getElem?_eq_some_iff.1 ho).1
  have hi' : i < listed.size := by rw [I.size]; exact hin
  have hun : listed.getD i false = false := by simp [hi'] at h0 ⊢; exact h0
  obtain ⟨q, s, hs, rfl⟩ := H.pos hin
  obtain ⟨p', Ψ', I', hfar⟩ := I.far H (ops.size - p) p Ψ (by have := I.pn; omega)
  refine I'.step H hy hfar hs hun (fun j hj => ?_) fun p2 bl2 Ψ2 a2 w2 I2 => ih _ p2 bl2 Ψ2 a2 w2 ?_ I2
  ·unfold dir at hj
   rw [ho] at hj
   simp only [List.mem_map, List.mem_filter] at hj
   obtain ⟨e, ⟨he, hb⟩, rfl⟩ := hj
   exact hall e (by simpa using he) hb
  have : left (listed.setIfInBounds s.i true) ops.size < left listed ops.size := by
   refine filter_lt _ (fun j _ hg => ?_) ⟨s.i, List.mem_range.2 hin, by rw [hun]; rfl, by rw [getL hi']; simp⟩
   rw [getL hi'] at hg
   split at hg
   ·cases hg
   exact hg
  omega
end
/-- What the new variables' temporaries held is of no use. -/
def undefs : List Oper → Env → Env
 | [], E => E
 | o :: os, E => match o.op with
  | .alloc _ => undefs os (E.put o.dst .undef)
  | _ => undefs os E
theorem undefs_or (d : Nat) : ∀ (os : List Oper) (E : Env), (undefs os E).get d = E.get d ∨ (undefs os E).get d = .undef := by
 intro os
 induction os with
 | nil => intro E; exact .inl rfl
 | cons o os ih =>
  intro E
  unfold undefs
  split
  ·rcases ih (E.put o.dst .undef) with h | h
   ·rw [h, get_put]
    split
    ·exact .inr rfl
    exact .inl rfl
   exact .inr h
  exact ih E
theorem undefs_get (d : Nat) : ∀ (os : List Oper) (E : Env), (∃ o, o ∈ os ∧ allocs o = true ∧ o.dst = some d) ∨ E.get d = .undef → (undefs os E).get d = .undef := by
 intro os
 induction os with
 | nil =>
  rintro E (⟨o, ho, _⟩ | h)
  ·cases ho
  exact h
 | cons o os ih =>
  intro E h
  unfold undefs
  split
  ·rename_i t ht
   refine ih _ ?_
   rcases h with ⟨o', ho', h1, h2⟩ | h
   ·rcases List.mem_cons.1 ho' with rfl | ho'
    ·exact .inr (by rw [get_put, if_pos h2])
    exact .inl ⟨o', ho', h1, h2⟩
   exact .inr (by rw [get_put]; split <;> first | rfl | exact h)
  rename_i hne
  refine ih _ ?_
  rcases h with ⟨o', ho', h1, h2⟩ | h
  ·rcases List.mem_cons.1 ho' with rfl | ho'
   ·exfalso
    unfold allocs at h1
    split at h1
    ·exact hne _ ‹_›
    cases h1
   exact .inl ⟨o', ho', h1, h2⟩
  exact .inr h
theorem ER.undefs {Ψ : Ty} {E : Env} {tmps : Array Value} (h : ER Ψ E tmps) (os : List Oper) : ER Ψ (undefs os E) tmps := by
 refine ⟨fun t => ?_, h.gt⟩
 rcases undefs_or t os E with e | e
 ·rw [e]; exact h t
 rw [e]; exact .undef _
def GOr (p : Prop) [K : KB0] : Prop := p ∨ K.run
theorem GOr_true (K : KB0) : @GOr True K = True := by simp [GOr]
theorem GOr_right {p : Prop} {K : KB0} (h : K.run) : @GOr p K := .inr h
/-- What is read where the order is open: it would be the same elsewhere. -/
def Dem (P : Program) (ops : Array Oper) (T : List St) (σf : Sg) : List (Nat × Nat) → Prop
 | [] => True
 | (q, p) :: r => (match T[q]? with
  | none => True
  | some s => match ops[s.i]? with
   | none => True
   | some o => @GOr (st T σf p = s.σ) ⟨s.b = true → effOp P (st T σf p) s.E o.op = some (s.v, st T σf p)⟩) ∧ Dem P ops T σf r
theorem Dem.get {P : Program} {ops : Array Oper} {T : List St} {σf : Sg} {q p : Nat} : ∀ (plan : List (Nat × Nat)), Dem P ops T σf plan → (q, p) ∈ plan → ∀ s o, T[q]? = some s → ops[s.i]? = some o →
 st T σf p = s.σ ∨ (s.b = true → effOp P (st T σf p) s.E o.op = some (s.v, st T σf p)) := by
 intro plan
 induction plan with
 | nil => intro _ h; cases h
 | cons a plan ih =>
  intro h hm s o hs ho
  obtain ⟨h1, h2⟩ := h
  rcases List.mem_cons.1 hm with e | hm
  ·subst e
   simp only at h1
   rw [hs] at h1
   simp only at h1
   rw [ho] at h1
   exact h1
  exact ih h2 hm s o hs ho
theorem draw_any {P : Program} {Y : YEnv} {N : Nat} {rd : Option Nat} {D : List Nat} {Ψ0 Ψ : Ty} {ops : Array Oper} {E : Env} {σ : Sg} {a : Act} {w : World} {Q : Exit → Act → World → Prop} {K : Env → Sg → Prop} (is : List Nat) (plan : List (Nat × Nat)) (pre : List (List Nat)) (hc : drawOK ops is plan pre = true)
 (h : GD P Y N ops is (undefs ops.toList E) σ [] (fun T E' σ' => Dem P ops T.reverse σ' plan ∧ K E' σ')) (hy : YOK P Y Ψ0) (le : Ψ0.le Ψ) (hr : Rel N D Ψ E σ a w)
 (hQ : ∀ Ψ' E' σ' a' w', Ψ0.le Ψ' → Rel N D Ψ' E' σ' a' w' → Below Ψ0.base w w' → K E' σ' → Q .normal a' w') : wpAnyIn (FnOf Ψ0 rd) 0 P .any ops Q ops.size (Array.replicate ops.size false) a { w with drawn := w.drawn + 1 } := by
 have hF := drawOK_facts ops is plan pre hc
 obtain ⟨T, Ef, σf, hl, hmap, hdem, hfin⟩ := GD_trace is (undefs ops.toList E) σ [] h
 rw [List.append_nil, List.reverse_reverse] at hdem
 have hfresh : ∀ q d, allocsAt ops is q = true → dstAt ops is q = some d → (undefs ops.toList E).get d = .undef := by
  intro q d hal hd
  refine undefs_get d _ _ (.inl ?_)
  unfold allocsAt at hal
  unfold dstAt at hd
  cases ho : opAt ops is q with
  | none => rw [ho] at hal; cases hal
  | some o =>
   rw [ho] at hal hd
   refine ⟨o, ?_, hal, hd⟩
   unfold opAt at ho
   cases hi : is[q]? with
   | none => rw [hi] at ho; cases ho
   | some i => rw [hi] at ho; exact List.mem_of_getElem? (by rw [Array.getElem?_toList]; exact ho)
 have H : Shown P Y N ops is plan pre T (undefs ops.toList E) Ef σ σf := by
  refine ⟨hF, hl, hmap, fun q p hqp hcq s o hs ho hsb => ?_, hfresh⟩
  rcases hdem.get plan hqp s o hs ho with e | e
  ·obtain ⟨E', o', ho', _, _, _, hd⟩ := hl.at T _ _ q s hs
   rw [ho] at ho'
   injection ho' with ho'
   subst ho'
   have hoa : opAt ops is q = some o := by
    unfold opAt
    rw [← hmap]
    simp [hs, ho]
   unfold chainAt at hcq
   rw [hoa] at hcq
   simp only [Option.any_some, Bool.or_eq_false_iff] at hcq
   unfold DoneAs at hd
   rw [hsb] at hd
   simp only at hd
   rw [whom_quiet hcq.1] at hd
   simp only at hd
   have := quiet hcq.1 hcq.2 hd
   rw [this] at hd
   rw [e]
   exact hd
  exact e hsb
 refine Inv.all (D := D) (w0 := w) (bl := fun _ => none) (p := 0) (Ψ := Ψ) H hy (fun Ψ' a' w' l1 l2 l3 => hQ Ψ' _ σf a' w' l1 l2 l3 hfin) ops.size _ _ _ ?_ ?_
 ·unfold left
  refine Nat.le_trans (List.length_filter_le _ _) (by simp)
 have hnone : ∀ i, (Array.replicate ops.size false).getD i false = false := fun i => by
  rw [Array.getD_eq_getD_getElem?, Array.getElem?_replicate]
  split <;> rfl
 have e1 : ∀ t, (goE ops (vis ops is (Array.replicate ops.size false) 0) T (undefs ops.toList E)).get t = (undefs ops.toList E).get t := fun t => goE_off _ _ fun s _ _ => by
  unfold vis; rw [hnone]; rfl
 have hst : st T σf 0 = σ := by
  unfold st
  cases T with
  | nil => exact hl.2.symm
  | cons s T => exact hl.2.1
 refine ⟨by simp, fun i hi => ?_, Nat.zero_le _, fun q s hq => by omega, fun q s _ _ _ => hnone _, le, ?_, fun q s _ _ _ hh => ?_, fun q q' b c c' hh => (by cases hh), fun q b c hh => (by cases hh), (Below.refl _ w).drew⟩
 ·rw [hnone] at hi; cases hi
 ·rw [hst]
  exact Rel.congr ⟨hr.size, hr.env.undefs _, hr.sg.drew, hr.dsub, hr.defs⟩ e1
 rw [hnone] at hh; cases hh
theorem W_draw {P : Program} {Y : YEnv} {N : Nat} {rd : Option Nat} {lo : Nat × Nat} {id : Nat} {ops : Array Oper} {E : Env} {σ : Sg} {Q : Exit → Env → Sg → Prop} (ks : List Nat) (is : List Nat) (plan : List (Nat × Nat)) (pre : List (List Nat))
 (hm : P.follows .mixedOrders = true) (hc : drawOK ops is plan pre = true)
 (h : ∀ K : Env → Sg → Prop, (∀ E' σ', Q .normal (keep ks E') σ' → K E' σ') → GD P Y N ops is (undefs ops.toList E) σ [] (fun T E' σ' => Dem P ops T.reverse σ' plan ∧ K E' σ')) : W P Y N rd lo (.region id ops true) E σ Q := by
 intro Ψ0 D hb hy hrd Ψ a w le hr
 exact wpIn_region_any hm (draw_any is plan pre hc (h _ fun _ _ k => k) hy le hr fun Ψ' E' σ' a' w' l1 l2 l3 k => ⟨_, σ', Ψ', l1, l2.keep ks, l3, k⟩)
def Sg.ext (σ : Sg) (l : List (Option (List PV))) (rm : List Nat) (ys : List LState := []) : Sg := ⟨σ.store ++ l, σ.rooms ++ rm, σ.ys ++ ys⟩
section
variable (σ : Sg) (l l' : List (Option (List PV))) (rm rm' : List Nat) (ys ys' : List LState)
theorem Sg.ext_nil : σ.ext [] [] = σ := by simp [Sg.ext]
theorem Sg.push_ext (zs : List PV) : (σ.ext l rm ys).push zs = σ.ext (l ++ [some zs]) rm ys := by simp [Sg.push, Sg.ext]
theorem Sg.push_new (zs : List PV) : σ.push zs = σ.ext [some zs] [] := by simp [Sg.push, Sg.ext]
theorem Sg.pushRoom_ext (n : Nat) : (σ.ext l rm ys).pushRoom n = σ.ext l (rm ++ [n]) ys := by simp [Sg.pushRoom, Sg.ext]
theorem Sg.pushRoom_new (n : Nat) : σ.pushRoom n = σ.ext [] [n] := by simp [Sg.pushRoom, Sg.ext]
theorem Sg.pushY_ext : (σ.ext l rm ys).pushY = σ.ext l rm (ys ++ [.ready]) := by simp [Sg.pushY, Sg.ext]
theorem Sg.pushY_new : σ.pushY = σ.ext [] [] [.ready] := by simp [Sg.pushY, Sg.ext]
theorem Sg.ext_ext : (σ.ext l rm ys).ext l' rm' ys' = σ.ext (l ++ l') (rm ++ rm') (ys ++ ys') := by simp [Sg.ext]
theorem Sg.len_ext : (σ.ext l rm ys).store.length = σ.store.length + l.length := by simp [Sg.ext]
theorem Sg.rooms_ext : (σ.ext l rm ys).rooms.length = σ.rooms.length + rm.length := by simp [Sg.ext]
theorem Sg.ys_ext : (σ.ext l rm ys).ys.length = σ.ys.length + ys.length := by simp [Sg.ext]
theorem Sg.ysget_ext (k : Nat) : (σ.ext l rm ys).ys[σ.ys.length + k]? = ys[k]? := by
 show (σ.ys ++ ys)[σ.ys.length + k]? = _
 rw [List.getElem?_append_right (by omega)]
 simp
theorem Sg.ysget_ext0 : (σ.ext l rm ys).ys[σ.ys.length]? = ys[0]? := Sg.ysget_ext σ l rm ys 0
theorem Sg.setY_ext (k : Nat) (s : LState) : (σ.ext l rm ys).setY (σ.ys.length + k) s = σ.ext l rm (ys.set k s) := by
 simp [Sg.setY, Sg.ext, List.set_append_right]
theorem Sg.setY_ext0 (s : LState) : (σ.ext l rm ys).setY σ.ys.length s = σ.ext l rm (ys.set 0 s) := Sg.setY_ext σ l rm ys 0 s
theorem Sg.popY_ext (k : Nat) : (σ.ext l rm ys).popY (σ.ys.length + k) = σ.ext l rm (ys.take k) := by
 simp [Sg.popY, Sg.ext, List.take_append, List.take_of_length_le]
theorem Sg.popY_ext0 : (σ.ext l rm ys).popY σ.ys.length = σ.ext l rm [] := by
 have := Sg.popY_ext σ l rm ys 0
 simpa using this
theorem Sg.get_ext (k : Nat) : (σ.ext l rm ys).store[σ.store.length + k]? = l[k]? := by
 show (σ.store ++ l)[σ.store.length + k]? = _
 rw [List.getElem?_append_right (by omega)]
 simp
theorem Sg.get_ext0 : (σ.ext l rm ys).store[σ.store.length]? = l[0]? := Sg.get_ext σ l rm ys 0
variable {σ l rm ys}
theorem Sg.get_old {id : Nat} {cs : List PV} (h : σ.store[id]? = some (some cs)) : (σ.ext l rm ys).store[id]? = some (some cs) := by
 show (σ.store ++ l)[id]? = _
 rw [List.getElem?_append_left (List.getElem?_eq_some_iff.1 h).1]
 exact h
variable (σ l rm ys)
theorem Sg.room_ext (k : Nat) : (σ.ext l rm ys).rooms[σ.rooms.length + k]? = rm[k]? := by
 show (σ.rooms ++ rm)[σ.rooms.length + k]? = _
 rw [List.getElem?_append_right (by omega)]
 simp
theorem Sg.room_ext0 : (σ.ext l rm ys).rooms[σ.rooms.length]? = rm[0]? := Sg.room_ext σ l rm ys 0
theorem Sg.set_ext (k : Nat) (cs : List PV) : (σ.ext l rm ys).setVar (σ.store.length + k) cs = σ.ext (l.set k (some cs)) rm ys := by
 simp [Sg.setVar, Sg.ext, List.set_append_right]
theorem Sg.set_ext0 (cs : List PV) : (σ.ext l rm ys).setVar σ.store.length cs = σ.ext (l.set 0 (some cs)) rm ys := Sg.set_ext σ l rm ys 0 cs
theorem Sg.setRoom_ext (k n : Nat) : (σ.ext l rm ys).setRoom (σ.rooms.length + k) n = σ.ext l (rm.set k n) ys := by
 simp [Sg.setRoom, Sg.ext, List.set_append_right]
theorem Sg.setRoom_ext0 (n : Nat) : (σ.ext l rm ys).setRoom σ.rooms.length n = σ.ext l (rm.set 0 n) ys := Sg.setRoom_ext σ l rm ys 0 n
variable {σ l rm ys}
variable (σ l rm ys)
theorem Sg.cut_ext (k : Nat) (j : Nat) : (σ.ext l rm).cut (σ.store.length + k) (σ.rooms.length + j) σ.ys.length = σ.ext (l.take k) (rm.take j) := by
 simp [Sg.cut, Sg.ext, List.take_append, List.take_of_length_le]
theorem Sg.cut_ext0 : (σ.ext l rm).cut σ.store.length σ.rooms.length σ.ys.length = σ := by
 simp [Sg.cut, Sg.ext]
theorem Sg.cut_exty (k : Nat) (j m : Nat) : (σ.ext l rm ys).cut (σ.store.length + k) (σ.rooms.length + j) (σ.ys.length + m) = σ.ext (l.take k) (rm.take j) (ys.take m) := by
 simp [Sg.cut, Sg.ext, List.take_append, List.take_of_length_le]
end
theorem Clean.mono {a b c a' b' c' : Nat} (h1 : a ≤ a') (h2 : b ≤ b') (h3 : c ≤ c') {p : PV} (h : Clean a b c p) : Clean a' b' c' p := by
 induction h with
 | undef => exact .undef
 | bool b => exact .bool b
 | int k n => exact .int k n
 | str s => exact .str s
 | nilptr => exact .nilptr
 | ptr id off h => exact .ptr id off (by omega)
 | eptr es elems i off _ ih => exact .eptr es elems i off ih
 | nilsl => exact .nilsl
 | isl elems own _ ho ih => exact .isl elems own ih fun r n es e => by have := ho r n es e; omega
 | msl id off len h => exact .msl id off len (by omega)
 | agg cs _ ih => exact .agg cs ih
 | tuple cs _ ih => exact .tuple cs ih
 | func fn fs cs _ _ ih ih' => exact .func fn fs cs ih ih'
 | yield y h => exact .yield y (by omega)
 | nilfunc => exact .nilfunc
 | niliface => exact .niliface
 | iface t p _ ih => exact .iface t p ih
 | mapv id h => exact .mapv id (by omega)
 | nilmap => exact .nilmap
 | iter id h => exact .iter id (by omega)
 | itst mid n seen h => exact .itst mid n seen (by omega)
 | gsl id len es h => exact .gsl id len es (by omega)
 | gnil => exact .gnil
 | bself id t h => exact .bself id t (by omega)
 | bbuf l r t _ ih => exact .bbuf l r t ih
 | mark => exact .mark
mutual
def PV.ro : PV → PV
  | .eptr es elems i off => .eptr es (PV.roL elems) i off
  | .isl elems _ => .isl (PV.roL elems) .ro
  | .agg cs => .agg (PV.roL cs)
  | .tuple cs => .tuple (PV.roL cs)
  | .func fn a b => .func fn (PV.roL a) (PV.roL b)
  | .iface t p => .iface t (PV.ro p)
  | p => p
def PV.roL : List PV → List PV
  | [] => []
  | p :: ps => PV.ro p :: PV.roL ps
end
theorem PV.roL_map : ∀ l : List PV, PV.roL l = l.map PV.ro := by
 intro l
 induction l with
 | nil => rfl
 | cons p ps ih => simp only [PV.roL, List.map_cons, ih]
theorem PV.ro_cells (p : PV) : p.ro.cells = p.cells.map PV.ro := by
 cases p <;> simp only [PV.ro, PV.cells, PV.roL_map, List.map_cons, List.map_nil]
theorem VR.ro {Ψ : Ty} {p : PV} {x : Value} (h : VR Ψ p x) : VR Ψ p.ro x := by
 have row : ∀ {elems : List PV} {es : Nat}, (∀ (k : Nat) (e : PV), elems[k]? = some e → e.cells.length = es) → ∀ (k : Nat) (e : PV), (elems.map PV.ro)[k]? = some e → e.cells.length = es := by
  intro elems es h k e he
  simp only [List.getElem?_map, Option.map_eq_some_iff] at he
  obtain ⟨e', he', rfl⟩ := he
  rw [PV.ro_cells, List.length_map]
  exact h k e' he'
 have each : ∀ {elems : List PV} {Pr : Nat → Nat → PV → Prop} {Pr' : Nat → Nat → PV → Prop}, (∀ (k : Nat) (e : PV) (j : Nat) (p : PV), elems[k]? = some e → e.cells[j]? = some p → Pr k j p) →
  (∀ k j p, Pr k j p → Pr' k j p.ro) → ∀ (k : Nat) (e : PV) (j : Nat) (p : PV), (elems.map PV.ro)[k]? = some e → e.cells[j]? = some p → Pr' k j p := by
  intro elems Pr Pr' h hh k e j p he hp
  simp only [List.getElem?_map, Option.map_eq_some_iff] at he
  obtain ⟨e', he', rfl⟩ := he
  rw [PV.ro_cells] at hp
  simp only [List.getElem?_map, Option.map_eq_some_iff] at hp
  obtain ⟨p', hp', rfl⟩ := hp
  exact hh k j p' (h k e' j p' he' hp')
 have each1 : ∀ {cs : List PV} {xs : Array Value}, (∀ (j : Nat) (p : PV) (v : Value), cs[j]? = some p → xs[j]? = some v → VR Ψ p.ro v) → ∀ (j : Nat) (p : PV) (v : Value), (cs.map PV.ro)[j]? = some p → xs[j]? = some v → VR Ψ p v := by
  intro cs xs h j p v hp hv
  simp only [List.getElem?_map, Option.map_eq_some_iff] at hp
  obtain ⟨p', hp', rfl⟩ := hp
  exact h j p' v hp' hv
 induction h with
 | undef x => exact .undef x
 | bool b => exact .bool b
 | int k n => exact .int k n
 | str s => exact .str s
 | nilptr => exact .nilptr
 | ptr id off b hb hz => exact .ptr id off b hb hz
 | eptr es elems i off b o vals hs h1 h2 ih =>
  simp only [PV.ro, PV.roL_map]
  exact .eptr es _ i off b o vals (row hs) (each (Pr := fun k j _ => Ψ.imm b (o + k * es + j) = some (vals k j)) (Pr' := fun k j _ => Ψ.imm b (o + k * es + j) = some (vals k j)) h1 fun _ _ _ h => h)
   (each (Pr := fun k j p => VR Ψ p.ro (vals k j)) (Pr' := fun k j p => VR Ψ p (vals k j)) ih fun _ _ _ h => h)
 | nilsl => exact .nilsl
 | islnil own a h => exact .islnil .ro a trivial
 | isl es elems own b o cap vals hs h1 h2 hc ho ih =>
  simp only [PV.ro, PV.roL_map]
  have := VR.isl (Ψ := Ψ) es (elems.map PV.ro) .ro b o cap vals (row hs) (each (Pr := fun k j _ => Ψ.imm b (o + k * es + j) = some (vals k j)) (Pr' := fun k j _ => Ψ.imm b (o + k * es + j) = some (vals k j)) h1 fun _ _ _ h => h)
   (each (Pr := fun k j p => VR Ψ p.ro (vals k j)) (Pr' := fun k j p => VR Ψ p (vals k j)) ih fun _ _ _ h => h) (by simpa using hc) trivial
  rw [List.length_map] at this
  exact this
 | msl id off len b cap h hz hc => exact .msl id off len b cap h hz hc
 | agg cs vs hl h ih => simp only [PV.ro, PV.roL_map]; exact .agg _ _ (by simpa using hl) (each1 ih)
 | tuple cs vs hl h ih => simp only [PV.ro, PV.roL_map]; exact .tuple _ _ (by simpa using hl) (each1 ih)
 | func fn fs cs xs ys hl hl' h h' ih ih' => simp only [PV.ro, PV.roL_map]; exact .func fn _ _ _ _ (by simpa using hl) (by simpa using hl') (each1 ih) (each1 ih')
 | yield y l d h => exact .yield y l d h
 | nilfunc => exact .nilfunc
 | niliface => exact .niliface
 | iface t p x h ih => exact .iface t _ x ih
 | map id b h => exact .map id b h
 | nilmap => exact .nilmap
 | iter id b h => exact .iter id b h
 | gsl id len es b cap h hz h0 hc => exact .gsl id len es b cap h hz h0 hc
 | gnil a => exact .gnil a
 | bself id t b x h hz hx => exact .bself id t b x h hz hx
 | bbuf l r t x h ht _ => exact .bbuf l r t x h ht
theorem VRs.ro {Ψ : Ty} {ps : List PV} {xs : Array Value} (h : VRs Ψ ps xs) : VRs Ψ (ps.map PV.ro) xs := by
 refine ⟨by rw [h.1, List.length_map], fun j p v h1 h2 => ?_⟩
 simp only [List.getElem?_map, Option.map_eq_some_iff] at h1
 obtain ⟨p', hp', rfl⟩ := h1
 exact (h.2 j p' v hp' h2).ro
/-- Who is called asks nothing of the owners. -/
theorem PC.ofRo {P : Program} {Y : YEnv} {f : FuncId} {args args' : List PV} {σ σ' : Sg} {v : PV} (h : PC P Y f args' σ v σ') (e : args.map PV.ro = args') : PC P Y f args σ v σ' := by
 subst e
 exact ⟨h.1, fun Ψ vals w hs ha hy => h.2 Ψ vals w hs ha.ro hy⟩
theorem Fin_same {P : Program} {fn : Func} {σ : Sg} {l : List (Option (List PV))} {rm : List Nat} {E : Env} {rs : List PV} {v : PV} (hcl : CleanSg σ) (hr : resPV P (σ.ext l rm) E fn.results.toList = some rs)
 (hv : Wk σ.store.length σ.rooms.length σ.ys.length (oneOr rs) v) : Fin P fn σ v σ E (σ.ext l rm) := by
 refine ⟨rs, _, _, hr, Nat.le_refl _, Nat.le_refl _, hv, (Sg.cut_ext0 σ l rm).symm, fun id cs hid hc p hp => ?_, by simp [Sg.ext]⟩
 have hc' : (σ.store ++ l)[id]? = some (some cs) := hc
 rw [List.getElem?_append_left hid] at hc'
 exact hcl id cs hid hc' p hp
theorem Fin_self {P : Program} {fn : Func} {σ : Sg} {E : Env} {rs : List PV} {v : PV} (hcl : CleanSg σ) (hr : resPV P σ E fn.results.toList = some rs)
 (hv : Wk σ.store.length σ.rooms.length σ.ys.length (oneOr rs) v) : Fin P fn σ v σ E σ := by
 have := Fin_same (l := []) (rm := []) hcl (by rw [Sg.ext_nil]; exact hr) hv
 rw [Sg.ext_nil] at this
 exact this
theorem Wk.ro {nβ nr ny : Nat} {p q : PV} (h : Clean nβ nr ny q) (e : p.ro = q) : Wk nβ nr ny p q := fun Ψ x k => by
 subst e
 exact k.ro.trim h
def ldS (σ : Sg) (id off : Nat) : Option PV :=
 match σ.store[id]? with
 | some (some cs) => cs[off]?
 | _ => none
def ldA (k : Nat) (σ : Sg) (id off : Nat) : Option PV :=
 match σ.store[id]? with
 | some (some cs) => if off + k ≤ cs.length then some (.agg ((cs.drop off).take k)) else none
 | _ => none
def elS (l : List PV) (i off : Nat) : Option PV :=
 match l[i]? with
 | some e => e.cells[off]?
 | none => none
def elA (k : Nat) (l : List PV) (i off : Nat) : Option PV :=
 match l[i]? with
 | some e => if off + k ≤ e.cells.length then some (.agg ((e.cells.drop off).take k)) else none
 | none => none
def stX (k : Nat) (σ : Sg) (id off : Nat) (p : PV) : Option Sg :=
 match σ.store[id]? with
 | some (some cs) => if defd p && p.cells.all PV.scalar && (p.cells.length == k) && decide (off + p.cells.length ≤ cs.length) then some (σ.setVar id (putCells cs off p.cells)) else none
 | _ => none
def iaX (c : Nat) (l : List PV) (i : Int) : Option PV :=
  if 0 ≤ i ∧ i < (l.length : Int) then
    (match l[i.toNat]? with
     | some el => if el.cells.length = c then some (.eptr c l i.toNat 0) else none
     | none => none) else none
def iaM (c id off len : Nat) (i : Int) : Option PV := if 0 ≤ i ∧ i < (len : Int) then some (.ptr id (off + i.toNat * c)) else none
def bsX (c len : Nat) (parts : List (Nat × PV)) : Option PV :=
 if (parts.map (·.1) == List.range len) && parts.all (fun p => defd p.2 && (p.2.cells.length == c)) && decide (len * c ≤ 2 ^ 24) then some (.isl (parts.map (·.2)) .exact) else none
def appX (c b : Nat) (σ : Sg) (l : List PV) (own : Own) (m : List PV) : Option (PV × Sg) :=
  if m.all (fun q => (q.cells.length == c) && q.cells.all PV.scalar) && decide ((l.length + m.length) * b ≤ 2 ^ 47) then
    (match own with
     | .ro => none
     | .exact => if l.all (fun q => q.cells.length == c) then some (.isl (l ++ m) (.tok σ.rooms.length (l.length + m.length) c), σ.pushRoom (l.length + m.length)) else none
     | .tok r n es => if es = c ∧ σ.rooms[r]? = some n then some (.isl (l ++ m) (.tok r (n + m.length) es), σ.setRoom r (n + m.length)) else none)
  else none
def bldX (zs : List PV) (ps : List (Nat × Nat)) (parts : List (Nat × PV)) : Option PV :=
 if parts.all (fun p => defd p.2) then (fillPV (fun i => ps[i]?) zs parts).map .agg else none
section
variable {P : Program} {t e : TypeId} {d : TypeDesc} {k c b : Nat} {σ : Sg} {id off : Nat} {l m : List PV} {own own' : Own} {es i : Nat}
theorem ldS_of (h : P.underlying t = some d) (ha : isAggD d = false) : loadPV P σ t (.ptr id off) = ldS σ id off := by simp [loadPV, h, partPV, ha, ldS]; rfl
theorem ldA_of (h : P.underlying t = some d) (ha : isAggD d = true) (hc : P.cellsOf t = k) : loadPV P σ t (.ptr id off) = ldA k σ id off := by simp [loadPV, h, partPV, ha, hc, ldA]; rfl
theorem elS_of (h : P.underlying t = some d) (ha : isAggD d = false) : loadPV P σ t (.eptr es l i off) = elS l i off := by simp [loadPV, h, partPV, ha, elS]; rfl
theorem elA_of (h : P.underlying t = some d) (ha : isAggD d = true) (hc : P.cellsOf t = k) : loadPV P σ t (.eptr es l i off) = elA k l i off := by simp [loadPV, h, partPV, ha, hc, elA]; rfl
theorem stX_of (h : P.underlying t = some d) (hc : P.cellsOf t = k) (p : PV) : storePV P σ t (.ptr id off) p = stX k σ id off p := by simp [storePV, h, hc, stX]; rfl
theorem iaX_of (h : P.underlying t = some (.slice e)) (he : P.underlying e = some d) (hc : P.cellsOf e = c) (kd : IntKind) (n : Int) : indexAddrPV P t (.isl l own) (.int kd n) = iaX c l n := by
 unfold indexAddrPV iaX
 rw [h]
 simp only [he, hc]
 split
 ·cases l[n.toNat]? <;> rfl
 rfl
theorem iaE_of {len es i : Nat} (h : P.underlying t = some (.array len e)) (he : P.underlying e = some d) (hc : P.cellsOf e = c) (kd : IntKind) (n : Int) : indexAddrPV P t (.eptr es l i off) (.int kd n) = if 0 ≤ n ∧ n < (len : Int) then some (.eptr es l i (off + n.toNat * c)) else none := by
 simp [indexAddrPV, h, he, hc]
theorem len_of (h : P.underlying t = some (.slice e)) : lenPV P t (.isl l own) = some (.int .i64 l.length) := by simp [lenPV, h]
theorem bsX_of {zs : List PV} (h : P.underlying t = some (.slice e)) (he : P.underlying e = some d) (hc : P.cellsOf e = c) (hz : zeroPV P e = some zs) (len : Nat) (parts : List (Nat × PV)) : buildSlicePV P t len parts = bsX c len parts := by
 unfold buildSlicePV bsX
 rw [h]
 simp only [he, hc, hz, Option.isSome_some, Bool.true_and, Bool.and_true]
theorem appX_of {zs : List PV} (h : P.underlying t = some (.slice e)) (he : P.underlying e = some d) (hc : P.cellsOf e = c) (hb : P.bytesOf e = b) (hb0 : b ≠ 0) (hc0 : 0 < c) (hz : zeroPV P e = some zs) (hzl : zs.length = c) :
 appendPV P σ t t (.isl l own) (.isl m own') = appX c b σ l own m := by
 unfold appendPV appX
 rw [h]
 simp only [he, hc, hb, hz, hzl, Option.isSome_some, Bool.true_and, Option.map_some, BEq.rfl, Bool.and_true, hb0, hc0, ne_eq, not_false_eq_true, and_self, decide_true]
 rfl
theorem bldX_of {zs : List PV} {fs : Array Field} {ps : List (Nat × Nat)} (hz : zeroPV P t = some zs) (h : P.underlying t = some (.struct fs)) (hf : fs.toList.all (fun f => (P.underlying f.type).isSome) = true) (hp : structPlaces P fs.toList = ps) (parts : List (Nat × PV)) :
 buildPV P t parts = bldX zs ps parts := by
 unfold buildPV
 rw [hz, h]
 simp only [hf, hp, bldX, Bool.true_and]
theorem fa_of {fs : Array Field} {f : Nat} {fl : Field} (h : P.underlying t = some (.struct fs)) (hf : fs[f]? = some fl) (hd : P.underlying fl.type = some d) (hc : P.cellsOf fl.type = c) (hc0 : c ≠ 0) (ho : fl.offset = k) :
 fieldAddrPV P t (.ptr id off) f = some (.ptr id (off + k)) ∧ fieldAddrPV P t (.eptr es l i off) f = some (.eptr es l i (off + k)) := by
 simp [fieldAddrPV, fieldOf, h, hf, hd, hc, hc0, ho]
theorem fa1_of {fs : Array Field} {f : Nat} {fl : Field} (h : P.underlying t = some (.struct fs)) (hf : fs[f]? = some fl) (hd : P.underlying fl.type = some d) (hc : P.cellsOf fl.type = c) (hc0 : (c == 0) = false) (ho : fl.offset = k) :
 fieldAddrPV P t (.ptr id off) f = some (.ptr id (off + k)) := (fa_of (es := 0) (l := []) (i := 0) h hf hd hc (by simpa using hc0) ho).1
theorem fa2_of {fs : Array Field} {f : Nat} {fl : Field} (h : P.underlying t = some (.struct fs)) (hf : fs[f]? = some fl) (hd : P.underlying fl.type = some d) (hc : P.cellsOf fl.type = c) (hc0 : (c == 0) = false) (ho : fl.offset = k) :
 fieldAddrPV P t (.eptr es l i off) f = some (.eptr es l i (off + k)) := (fa_of (id := 0) h hf hd hc (by simpa using hc0) ho).2
theorem fpS_of {fs : Array Field} {f : Nat} {fl : Field} (h : P.underlying t = some (.struct fs)) (hf : fs[f]? = some fl) (hd : P.underlying fl.type = some d) (ha : isAggD d = false) (ho : fl.offset = k) (cs : List PV) :
 fieldPV P t (.agg cs) f = cs[k]? := by
 simp [fieldPV, fieldOf, h, hf, hd, ho, partPV, ha]
end
abbrev I (n : Int) : PV := .int .i64 n
abbrev ints (xs : List Int) : PV := .isl (xs.map I) .ro
theorem ldS_at {σ : Sg} {id off : Nat} {cs : List PV} (h : σ.store[id]? = some (some cs)) : ldS σ id off = cs[off]? := by simp [ldS, h]
theorem ldA_at {k : Nat} {σ : Sg} {id off : Nat} {cs : List PV} (h : σ.store[id]? = some (some cs)) : ldA k σ id off = if off + k ≤ cs.length then some (.agg ((cs.drop off).take k)) else none := by simp [ldA, h]
theorem stX_at {k : Nat} {σ : Sg} {id off : Nat} {cs : List PV} (h : σ.store[id]? = some (some cs)) (p : PV) :
 stX k σ id off p = if defd p && p.cells.all PV.scalar && (p.cells.length == k) && decide (off + p.cells.length ≤ cs.length) then some (σ.setVar id (putCells cs off p.cells)) else none := by simp [stX, h]
section ext
variable (σ : Sg) (l : List (Option (List PV))) (rm : List Nat) (ys : List LState) (j : Nat)
theorem ldS_ext (off : Nat) : ldS (σ.ext l rm ys) (σ.store.length + j) off = match l[j]? with | some (some cs) => cs[off]? | _ => none := by simp only [ldS, Sg.get_ext]
theorem ldS_ext0 (off : Nat) : ldS (σ.ext l rm ys) σ.store.length off = match l[0]? with | some (some cs) => cs[off]? | _ => none := by simp only [ldS, Sg.get_ext0]
theorem ldA_ext (k off : Nat) : ldA k (σ.ext l rm ys) (σ.store.length + j) off = match l[j]? with | some (some cs) => if off + k ≤ cs.length then some (.agg ((cs.drop off).take k)) else none | _ => none := by simp only [ldA, Sg.get_ext]
theorem ldA_ext0 (k off : Nat) : ldA k (σ.ext l rm ys) σ.store.length off = match l[0]? with | some (some cs) => if off + k ≤ cs.length then some (.agg ((cs.drop off).take k)) else none | _ => none := by simp only [ldA, Sg.get_ext0]
theorem stX_ext (k off : Nat) (p : PV) : stX k (σ.ext l rm ys) (σ.store.length + j) off p = match l[j]? with
 | some (some cs) => if defd p && p.cells.all PV.scalar && (p.cells.length == k) && decide (off + p.cells.length ≤ cs.length) then some (σ.ext (l.set j (some (putCells cs off p.cells))) rm ys) else none
 | _ => none := by
 simp only [stX, Sg.get_ext, Sg.set_ext]
theorem stX_ext0 (k off : Nat) (p : PV) : stX k (σ.ext l rm ys) σ.store.length off p = match l[0]? with
 | some (some cs) => if defd p && p.cells.all PV.scalar && (p.cells.length == k) && decide (off + p.cells.length ≤ cs.length) then some (σ.ext (l.set 0 (some (putCells cs off p.cells))) rm ys) else none
 | _ => none := by
 simp only [stX, Sg.get_ext0, Sg.set_ext0]
 rfl
end ext
theorem least (p : Nat → Prop) (h : ∃ n, p n) : ∃ n, p n ∧ ∀ m, p m → n ≤ m := by
 obtain ⟨n, hn⟩ := h
 induction n using Nat.strongRecOn with
 | _ n ih =>
  by_cases h : ∃ m, m < n ∧ p m
  ·obtain ⟨m, hm, hp⟩ := h
   exact ih m hm hp
  exact ⟨n, hn, fun m hm => Nat.le_of_not_lt fun hlt => h ⟨m, hlt, hm⟩⟩
section
variable {P : Program} {Y : YEnv} {N : Nat} {rd : Option Nat} {lo : Nat × Nat} {E : Env} {σ : Sg} {Q : Exit → Env → Sg → Prop}
open Classical in
theorem W_loopK {c : Code} (I : Nat → Env → Sg → Prop) (k : Nat) (h0 : I k E σ)
 (round : ∀ k E σ, I k E σ → W P Y N rd lo c E σ (Seq (fun E' σ' => ∃ k', k' < k ∧ I k' E' σ') Q)) : W P Y N rd lo (.loop c) E σ Q := by
 refine W_loop (fun E σ => ∃ k, I k E σ) (fun E σ => if h : ∃ k, I k E σ then Classical.choose (least (fun k => I k E σ) h) else 0) ⟨k, h0⟩ fun E σ h => ?_
 refine W_mono (round _ E σ (Classical.choose_spec (least (fun k => I k E σ) h)).1) fun ex E' σ' hq => ?_
 cases ex with
 | normal =>
  obtain ⟨k', hk, hI⟩ := hq
  have h' : ∃ k, I k E' σ' := ⟨k', hI⟩
  refine ⟨h', ?_⟩
  rw [dif_pos h', dif_pos h]
  exact Nat.lt_of_le_of_lt ((Classical.choose_spec (least (fun k => I k E' σ') h')).2 k' hI) hk
 | _ => exact hq
end
theorem Clean.all_nil {a b c : Nat} : ∀ p, p ∈ ([] : List PV) → Clean a b c p := fun p h => by cases h
theorem Clean.all_cons {a b c : Nat} {q : PV} {l : List PV} (h : Clean a b c q) (k : ∀ p, p ∈ l → Clean a b c p) : ∀ p, p ∈ q :: l → Clean a b c p := fun p hp => by
 rcases List.mem_cons.1 hp with rfl | hp
 ·exact h
 exact k p hp
theorem Clean.ints {a b c : Nat} (xs : List Int) (o : Own) (ho : ∀ r n es, o = .tok r n es → r < b) : Clean a b c (.isl (xs.map I) o) :=
 .isl _ _ (fun e he => by obtain ⟨n, _, rfl⟩ := List.mem_map.1 he; exact .int _ _) ho
/-- A function that leaves new variables behind. -/
theorem Fin_ext {P : Program} {fn : Func} {σ : Sg} {l : List (Option (List PV))} {rm : List Nat} {E : Env} {rs : List PV} {v : PV} (k j : Nat) (hcl : CleanSg σ)
 (hr : resPV P (σ.ext l rm) E fn.results.toList = some rs)
 (hv : Wk (σ.store.length + k) (σ.rooms.length + j) σ.ys.length (oneOr rs) v)
 (hc : ∀ cs, some cs ∈ l.take k → ∀ p, p ∈ cs → Clean (σ.store.length + k) (σ.rooms.length + j) σ.ys.length p) : Fin P fn σ v (σ.ext (l.take k) (rm.take j)) E (σ.ext l rm) := by
 refine ⟨rs, _, _, hr, Nat.le_add_right _ _, Nat.le_add_right _ _, hv, (Sg.cut_ext σ l rm k j).symm, fun id cs hid hcs p hp => ?_, by simp [Sg.ext]⟩
 have hcs' : (σ.store ++ l)[id]? = some (some cs) := hcs
 by_cases h : id < σ.store.length
 ·rw [List.getElem?_append_left h] at hcs'
  exact (hcl id cs h hcs' p hp).mono (Nat.le_add_right _ _) (Nat.le_add_right _ _) (Nat.le_refl _)
 rw [List.getElem?_append_right (by omega)] at hcs'
 refine hc cs ?_ p hp
 refine List.mem_of_getElem? (i := id - σ.store.length) ?_
 rw [List.getElem?_take_of_lt (by omega)]
 exact hcs'
/-- In a state of which nothing was added. -/
theorem Fin_end {P : Program} {fn : Func} {σ σ' : Sg} {E : Env} {rs : List PV} {v : PV} (hcl : CleanSg σ') (h1 : σ'.store.length = σ.store.length) (h2 : σ'.rooms.length = σ.rooms.length) (h3 : σ'.ys.length = σ.ys.length)
 (hr : resPV P σ' E fn.results.toList = some rs) (hv : Wk σ.store.length σ.rooms.length σ.ys.length (oneOr rs) v) : Fin P fn σ v σ' E σ' := by
 refine ⟨rs, _, _, hr, Nat.le_refl _, Nat.le_refl _, hv, ?_, ?_, h3⟩
 ·rw [← h1, ← h2, ← h3]; simp [Sg.cut]
 unfold CleanSg at hcl; rw [h1, h2, h3] at hcl; exact hcl
theorem CleanCut_ext {σ : Sg} {l : List (Option (List PV))} {rm : List Nat} {ys : List LState} {nb nr ny : Nat} (hcl : CleanSg σ) (hb : σ.store.length ≤ nb) (hr : σ.rooms.length ≤ nr) (hy : σ.ys.length ≤ ny)
 (h : ∀ cs, some cs ∈ l → ∀ p, p ∈ cs → Clean nb nr ny p) : CleanCut (σ.ext l rm ys) nb nr ny := by
 intro id cs _ hcs p hp
 have hcs' : (σ.store ++ l)[id]? = some (some cs) := hcs
 by_cases hid : id < σ.store.length
 ·rw [List.getElem?_append_left hid] at hcs'
  exact (hcl id cs hid hcs' p hp).mono hb hr hy
 rw [List.getElem?_append_right (by omega)] at hcs'
 exact h cs (List.mem_of_getElem? hcs') p hp
theorem CleanSg_ext {σ : Sg} {l : List (Option (List PV))} {rm : List Nat} {ys : List LState} (hcl : CleanSg σ) (h : ∀ cs, some cs ∈ l → ∀ p, p ∈ cs → Clean (σ.store.length + l.length) (σ.rooms.length + rm.length) (σ.ys.length + ys.length) p) :
 CleanSg (σ.ext l rm ys) := by
 unfold CleanSg
 rw [Sg.len_ext, Sg.rooms_ext, Sg.ys_ext]
 exact CleanCut_ext hcl (Nat.le_add_right _ _) (Nat.le_add_right _ _) (Nat.le_add_right _ _) h
/-- All of it is old, or plain. -/
theorem CleanL_nil {a b c : Nat} : ∀ cs, some cs ∈ ([] : List (Option (List PV))) → ∀ p, p ∈ cs → Clean a b c p := fun cs h => by cases h
theorem CleanL_cons {a b c : Nat} {ds : List PV} {l : List (Option (List PV))} (h : ∀ p, p ∈ ds → Clean a b c p) (k : ∀ cs, some cs ∈ l → ∀ p, p ∈ cs → Clean a b c p) : ∀ cs, some cs ∈ some ds :: l → ∀ p, p ∈ cs → Clean a b c p := by
 intro cs hcs
 rcases List.mem_cons.1 hcs with e | e
 ·injection e with e; subst e; exact h
 exact k cs e
/-- Cut back to what was there before. -/
theorem Weak.cutExt {N : Nat} {lo : Nat × Nat} {E E' : Env} {σ : Sg} {l : List (Option (List PV))} {rm : List Nat} {ys : List LState} (k j : Nat) (h1 : lo.1 ≤ σ.store.length + k) (h2 : lo.2 ≤ σ.rooms.length + j) (hcl : CleanSg σ)
 (hc : ∀ cs, some cs ∈ l.take k → ∀ p, p ∈ cs → Clean (σ.store.length + k) (σ.rooms.length + j) (σ.ys.length + ys.length) p)
 (hE : ∀ t, Wk (σ.store.length + k) (σ.rooms.length + j) (σ.ys.length + ys.length) (E.get t) (E'.get t)) : Weak N lo E (σ.ext l rm ys) E' (σ.ext (l.take k) (rm.take j) ys) := by
 have := Weak.cut (N := N) (lo := lo) (E := E) (E' := E') (σ := σ.ext l rm ys) (σ.store.length + k) (σ.rooms.length + j) h1 h2 (by rw [Sg.ys_ext]; exact hE) (by
  rw [Sg.ys_ext]
  intro id cs hid hcs p hp
  have hcs' : (σ.store ++ l)[id]? = some (some cs) := hcs
  by_cases h : id < σ.store.length
  ·rw [List.getElem?_append_left h] at hcs'
   exact (hcl id cs h hcs' p hp).mono (Nat.le_add_right _ _) (Nat.le_add_right _ _) (Nat.le_add_right _ _)
  rw [List.getElem?_append_right (by omega)] at hcs'
  refine hc cs ?_ p hp
  refine List.mem_of_getElem? (i := id - σ.store.length) ?_
  rw [List.getElem?_take_of_lt (by omega)]
  exact hcs')
 rw [Sg.ys_ext, Sg.cut_exty, List.take_length] at this
 exact this
theorem Weak.room {N : Nat} {lo : Nat × Nat} {E : Env} {σ : Sg} {t es : Nat} {l : List PV} (ht : E.get t = .isl l .exact) (hes : ∀ q, q ∈ l → q.cells.length = es) :
 Weak N lo E σ ((t, .isl l (.tok σ.rooms.length l.length es)) :: E) (σ.pushRoom l.length) := by
 intro Ψ0 Ψ D a w hb le hr
 have hv := hr.env t
 rw [ht] at hv
 have fin : ∀ x : Option (Nat × Nat × Nat × Nat), (∀ b e c s, x = some (b, e, c, s) → ¬ e < c) → (∀ Ψ', Ψ.le Ψ' → Ψ'.hist σ.rooms.length l.length = some x → VR Ψ' (.isl l (.tok σ.rooms.length l.length es)) (a.tmps.getD t undef)) →
  ∃ Ψ', Ψ0.le Ψ' ∧ Rel N D Ψ' ((t, .isl l (.tok σ.rooms.length l.length es)) :: E) (σ.pushRoom l.length) a w := by
  intro x hx hvr
  obtain ⟨le', hs'⟩ := hr.sg.newRoom l.length x (fun b e c s hh hlt => absurd hlt (hx b e c s hh))
  refine ⟨_, le.trans le', hr.size, ⟨fun t' => ?_, hr.env.gt.mono le'⟩, hs', fun d hd => le'.ds _ (hr.dsub d hd), ?_⟩
  ·simp only [Env.get]
   split
   ·rename_i e; subst e
    exact hvr _ le' (by simp [Ty.addHist])
   exact (hr.env t').mono le'
  obtain ⟨rs, r1, r2, r3⟩ := hr.defs
  exact ⟨rs, r1, r2, fun r hm => ⟨le'.ds _ (r3 r hm).1, (r3 r hm).2⟩⟩
 generalize hx : a.tmps.getD t undef = x at hv fin
 cases hv with
 | islnil _ a0 _ => exact fin none (fun b e c s h => by cases h) fun Ψ' _ hh => .islnil _ a0 ⟨_, hh⟩
 | isl es0 _ _ b o cap vals hs h1 h2 hc ho =>
  have hcap : cap = l.length := ho
  subst hcap
  refine fin (some (b, o + l.length * es, o + l.length * es, es)) (fun b e c s h => by injection h with h; injection h with _ h; injection h with h1 h; injection h with h2 _; omega) fun Ψ' le' hh => ?_
  by_cases hl : l = []
  ·subst hl
   exact .isl es [] _ b o 0 vals (fun k e h => by simp at h) (fun k e j p h => by simp at h) (fun k e j p h => by simp at h) (Nat.le_refl _) ⟨rfl, hh⟩
  have : es0 = es := by
   cases l with
   | nil => exact absurd rfl hl
   | cons q l => rw [← hs 0 q rfl]; exact hes q (by simp)
  subst this
  exact .isl es0 l _ b o _ vals hs (fun k e j p q1 q2 => le'.imm _ _ _ (h1 k e j p q1 q2)) (fun k e j p q1 q2 => (h2 k e j p q1 q2).mono le') (Nat.le_refl _) ⟨rfl, hh⟩
theorem Weak.keep {N : Nat} {lo : Nat × Nat} {E : Env} {σ : Sg} (ks : List Nat) : Weak N lo E σ (keep ks E) σ := fun _ Ψ _ _ _ _ le hr => ⟨Ψ, le, hr.keep ks⟩
theorem cleanE_nil {a b c : Nat} : ∀ kv, kv ∈ ([] : Env) → Clean a b c kv.2 := fun kv h => by cases h
theorem cleanE_cons {a b c t : Nat} {v : PV} {E : Env} (h : Clean a b c v) (k : ∀ kv, kv ∈ E → Clean a b c kv.2) : ∀ kv, kv ∈ (t, v) :: E → Clean a b c kv.2 := fun kv hk => by
 rcases List.mem_cons.1 hk with rfl | hk
 ·exact h
 exact k kv hk
theorem Wk.env {a b c : Nat} : ∀ {E : Env}, (∀ kv, kv ∈ E → Clean a b c kv.2) → ∀ t, Wk a b c (E.get t) (E.get t) := by
 intro E
 induction E with
 | nil => intro _ t; exact Wk.of_clean .undef
 | cons kv E ih =>
  intro h t
  obtain ⟨k, v⟩ := kv
  simp only [Env.get]
  split
  ·exact Wk.of_clean (h (k, v) (List.mem_cons_self ..))
  exact ih (fun kv hk => h kv (List.mem_cons_of_mem _ hk)) t
def setE1 (t : Nat) (v : PV) : Env → Env
 | [] => []
 | (k, x) :: E => if k = t then (k, v) :: E else (k, x) :: setE1 t v E
def setE : Env → Env → Env
 | E, [] => E
 | E, (t, v) :: u => setE (setE1 t v E) u
theorem setE_nil (E : Env) : setE E [] = E := rfl
theorem setE_cons (E : Env) (t : Nat) (v : PV) (u : Env) : setE E ((t, v) :: u) = setE (setE1 t v E) u := rfl
theorem setE1_nil (t : Nat) (v : PV) : setE1 t v [] = [] := rfl
theorem setE1_cons (t k : Nat) (v x : PV) (E : Env) : setE1 t v ((k, x) :: E) = if k = t then (k, v) :: E else (k, x) :: setE1 t v E := rfl
section
variable {P : Program} {Y : YEnv} {N : Nat} {rd : Option Nat} {lo : Nat × Nat} {E : Env} {σ : Sg} {Q : Exit → Env → Sg → Prop}
theorem W_loopT {α : Type} {c : Code} (upd : α → Env) (st : α → Sg) (Inv : α → Prop) (μ : α → Nat) (s0 : α) (hE : setE E (upd s0) = E) (hσ : st s0 = σ) (h0 : Inv s0)
 (round : ∀ s, Inv s → W P Y N rd lo c (setE E (upd s)) (st s) (Seq (fun E' σ' => ∃ s', Weak N lo E' σ' (setE E (upd s')) (st s') ∧ μ s' < μ s ∧ Inv s') Q)) : W P Y N rd lo (.loop c) E σ Q := by
 refine W_loopK (fun k E' σ' => ∃ s, k = μ s ∧ Inv s ∧ setE E (upd s) = E' ∧ st s = σ') (μ s0) ⟨s0, rfl, h0, hE, hσ⟩ ?_
 rintro k E' σ' ⟨s, rfl, hi, rfl, rfl⟩
 refine W_post_weak (W_mono (round s hi) ?_)
 intro ex E1 σ1 h
 cases ex with
 | normal =>
  obtain ⟨s', hw, hm, hi'⟩ := h
  exact ⟨_, _, hw, μ s', hm, s', rfl, hi', rfl, rfl⟩
 | _ => exact ⟨_, _, Weak.refl, h⟩
theorem W_loopS {α : Type} {c : Code} (upd : α → Env) (Inv : α → Prop) (μ : α → Nat) (s0 : α) (hE : setE E (upd s0) = E) (h0 : Inv s0)
 (round : ∀ s, Inv s → W P Y N rd lo c (setE E (upd s)) σ (Seq (fun E' σ' => ∃ s', Weak N lo E' σ' (setE E (upd s')) σ ∧ μ s' < μ s ∧ Inv s') Q)) : W P Y N rd lo (.loop c) E σ Q :=
 W_loopT upd (fun _ => σ) Inv μ s0 hE rfl h0 round
theorem Weak.eq {E E' : Env} {σ σ' : Sg} (h : E = E') (k : σ = σ') : Weak N lo E σ E' σ' := by subst h k; exact Weak.refl
end
theorem Wqq {N : Nat} {lo : Nat × Nat} {E E' : Env} {σ σ' : Sg} (h : E = E' := by first | rfl | (simp only [go_sem]; done) | (simp only [go_sem]; rfl) | (simp [go_sem]; done) | (simp [go_sem]; omega)) (k : σ = σ' := by first | rfl | (simp only [go_sem]; done) | (simp [go_sem]; done)) : Weak N lo E σ E' σ' := Weak.eq h k
def CleanAll (a b c : Nat) (l : List PV) : Prop := ∀ p, p ∈ l → Clean a b c p
def CleanLs (a b c : Nat) (l : List (Option (List PV))) : Prop := ∀ cs, some cs ∈ l → ∀ p, p ∈ cs → Clean a b c p
def CleanEs (a b c : Nat) (E : Env) : Prop := ∀ kv, kv ∈ E → Clean a b c kv.2
def OwnLt (b : Nat) (o : Own) : Prop := ∀ r n es, o = .tok r n es → r < b
section
variable {a b c : Nat}
theorem CleanAll_nil : CleanAll a b c [] = True := eq_true Clean.all_nil
theorem CleanAll_cons {p : PV} {l : List PV} : CleanAll a b c (p :: l) = (Clean a b c p ∧ CleanAll a b c l) := by simp [CleanAll]
theorem CleanAll_append {l m : List PV} : CleanAll a b c (l ++ m) = (CleanAll a b c l ∧ CleanAll a b c m) := by
 simp only [CleanAll, List.mem_append]
 exact propext ⟨fun h => ⟨fun p hp => h p (.inl hp), fun p hp => h p (.inr hp)⟩, fun h p hp => hp.elim (h.1 p) (h.2 p)⟩
theorem CleanLs_nil : CleanLs a b c [] = True := eq_true CleanL_nil
theorem CleanLs_cons {cs : List PV} {l : List (Option (List PV))} : CleanLs a b c (some cs :: l) = (CleanAll a b c cs ∧ CleanLs a b c l) := by
 refine propext ⟨fun h => ⟨h cs (List.mem_cons_self ..), fun ds hd => h ds (List.mem_cons_of_mem _ hd)⟩, fun h => CleanL_cons h.1 h.2⟩
theorem CleanEs_nil : CleanEs a b c [] = True := eq_true cleanE_nil
theorem CleanEs_cons {t : Nat} {v : PV} {E : Env} : CleanEs a b c ((t, v) :: E) = (Clean a b c v ∧ CleanEs a b c E) := by
 refine propext ⟨fun h => ⟨h (t, v) (List.mem_cons_self ..), fun ds hd => h ds (List.mem_cons_of_mem _ hd)⟩, fun h => cleanE_cons h.1 h.2⟩
theorem OwnLt_ro : OwnLt b .ro = True := eq_true fun r n es e => by cases e
theorem OwnLt_exact : OwnLt b .exact = True := eq_true fun r n es e => by cases e
theorem OwnLt_tok {r n es : Nat} : OwnLt b (.tok r n es) = (r < b) := propext ⟨fun h => h r n es rfl, fun h r' n' es' e => by cases e; exact h⟩
theorem Cl_undef : Clean a b c .undef = True := eq_true .undef
theorem Cl_bool {x : Bool} : Clean a b c (.bool x) = True := eq_true (.bool _)
theorem Cl_int {k : IntKind} {x : Int} : Clean a b c (.int k x) = True := eq_true (.int _ _)
theorem Cl_str {x : ByteArray} : Clean a b c (.str x) = True := eq_true (.str _)
theorem Cl_nilptr : Clean a b c .nilptr = True := eq_true .nilptr
theorem Cl_nilsl : Clean a b c .nilsl = True := eq_true .nilsl
theorem Cl_nilfunc : Clean a b c .nilfunc = True := eq_true .nilfunc
theorem Cl_niliface : Clean a b c .niliface = True := eq_true .niliface
theorem Cl_ptr {id off : Nat} : Clean a b c (.ptr id off) = (id < a) := propext ⟨fun h => by cases h; assumption, fun h => .ptr _ _ h⟩
theorem Cl_msl {id off len : Nat} : Clean a b c (.msl id off len) = (id < a) := propext ⟨fun h => by cases h; assumption, fun h => .msl _ _ _ h⟩
theorem Cl_yield {y : Nat} : Clean a b c (.yield y) = (y < c) := propext ⟨fun h => by cases h; assumption, fun h => .yield _ h⟩
theorem Cl_eptr {es : Nat} {l : List PV} {i off : Nat} : Clean a b c (.eptr es l i off) = CleanAll a b c l := propext ⟨fun h => by cases h; assumption, fun h => .eptr _ _ _ _ h⟩
theorem Cl_isl {l : List PV} {o : Own} : Clean a b c (.isl l o) = (CleanAll a b c l ∧ OwnLt b o) := propext ⟨fun h => by cases h; exact ⟨‹_›, ‹_›⟩, fun h => .isl _ _ h.1 h.2⟩
theorem Cl_agg {l : List PV} : Clean a b c (.agg l) = CleanAll a b c l := propext ⟨fun h => by cases h; assumption, fun h => .agg _ h⟩
theorem Cl_tuple {l : List PV} : Clean a b c (.tuple l) = CleanAll a b c l := propext ⟨fun h => by cases h; assumption, fun h => .tuple _ h⟩
theorem Cl_func {fn : Fn} {l m : List PV} : Clean a b c (.func fn l m) = (CleanAll a b c l ∧ CleanAll a b c m) := propext ⟨fun h => by cases h; exact ⟨‹_›, ‹_›⟩, fun h => .func _ _ _ h.1 h.2⟩
theorem CleanAll_ints {xs : List Int} : CleanAll a b c (xs.map I) = True := eq_true fun p hp => by obtain ⟨x, _, rfl⟩ := List.mem_map.1 hp; exact .int _ _
theorem CleanAll_map {α : Type} {f : α → PV} {xs : List α} (h : ∀ x, Clean a b c (f x)) : CleanAll a b c (xs.map f) = True := eq_true fun p hp => by obtain ⟨x, _, rfl⟩ := List.mem_map.1 hp; exact h x
end
attribute [go_sem] CleanAll_nil CleanAll_cons CleanAll_append CleanLs_nil CleanLs_cons CleanEs_nil CleanEs_cons OwnLt_ro OwnLt_exact OwnLt_tok Cl_undef Cl_bool Cl_int Cl_str Cl_nilptr Cl_nilsl Cl_nilfunc Cl_niliface Cl_ptr Cl_msl Cl_yield Cl_eptr Cl_isl Cl_agg Cl_tuple Cl_func CleanAll_ints
attribute [go_sem] setE_nil setE_cons setE1_nil setE1_cons
theorem Weak.cutX {N : Nat} {lo : Nat × Nat} {E : Env} {σ : Sg} {l : List (Option (List PV))} {rm : List Nat} {ys : List LState} (k j : Nat) (h1 : lo.1 ≤ σ.store.length + k) (h2 : lo.2 ≤ σ.rooms.length + j) (hcl : CleanSg σ)
 (hc : CleanLs (σ.store.length + k) (σ.rooms.length + j) (σ.ys.length + ys.length) (l.take k)) (hE : CleanEs (σ.store.length + k) (σ.rooms.length + j) (σ.ys.length + ys.length) E) :
 Weak N lo E (σ.ext l rm ys) E (σ.ext (l.take k) (rm.take j) ys) := Weak.cutExt k j h1 h2 hcl hc (Wk.env hE)
theorem Wk_eq {a b c : Nat} {p q : PV} (h : p = q) (hc : Clean a b c q) : Wk a b c p q := by subst h; exact Wk.of_clean hc
theorem Fsa {P : Program} {fn : Func} {σ : Sg} {l : List (Option (List PV))} {rm : List Nat} {E : Env} {rs : List PV} {v : PV} (hcl : CleanSg σ) (hr : resPV P (σ.ext l rm) E fn.results.toList = some rs)
    (hv : oneOr rs = v) (hc : Clean σ.store.length σ.rooms.length σ.ys.length v := by simp only [go_sem]) : Fin P fn σ v σ E (σ.ext l rm) := Fin_same hcl hr (Wk_eq hv hc)
theorem Fse {P : Program} {fn : Func} {σ : Sg} {E : Env} {rs : List PV} {v : PV} (hcl : CleanSg σ) (hr : resPV P σ E fn.results.toList = some rs)
    (hv : oneOr rs = v) (hc : Clean σ.store.length σ.rooms.length σ.ys.length v := by simp only [go_sem]) : Fin P fn σ v σ E σ := Fin_self hcl hr (Wk_eq hv hc)
section
variable {α : Type} {f : α → PV} {xs : List α} {c k i off : Nat} {n : Int}
theorem iaX_m (f : α → PV) (xs : List α) : iaX c (xs.map f) n = if 0 ≤ n then (xs[n.toNat]?).bind fun x => if (f x).cells.length = c then some (.eptr c (xs.map f) n.toNat 0) else none else none := by
 unfold iaX
 by_cases h : 0 ≤ n
 ·by_cases h2 : n.toNat < xs.length
  ·rw [if_pos ⟨h, by simp; omega⟩, if_pos h]
   simp [h2]
  rw [if_neg (fun h' => h2 (by have := h'.2; simp at this; omega)), if_pos h]
  rw [List.getElem?_eq_none (by omega)]
  rfl
 rw [if_neg (fun h' => h h'.1), if_neg h]
theorem elS_m (f : α → PV) (xs : List α) : elS (xs.map f) i off = (xs[i]?).bind fun x => (f x).cells[off]? := by
 simp only [elS, List.getElem?_map]
 cases xs[i]? <;> rfl
theorem elA_m (f : α → PV) (xs : List α) : elA k (xs.map f) i off = (xs[i]?).bind fun x => if off + k ≤ (f x).cells.length then some (.agg (((f x).cells.drop off).take k)) else none := by
 simp only [elA, List.getElem?_map]
 cases xs[i]? <;> rfl
end
theorem bindSome {α β : Type} (x : α) (f : α → Option β) : (some x).bind f = f x := rfl
theorem bindNone {α β : Type} (f : α → Option β) : (none : Option α).bind f = none := rfl
attribute [go_sem] appendAny_isl appendAny_gsl appendAny_gnil
attribute [go_sem] iaX_m elS_m elA_m bindSome bindNone Int.natCast_nonneg Int.toNat_natCast
section
variable {σ : Sg} {d : Nat} {cs cs' : List PV} {l : List (Option (List PV))} {rm : List Nat} {ys : List LState} {k j off : Nat}
theorem sv_len : (σ.setVar d cs).store.length = σ.store.length := by simp [Sg.setVar]
theorem sv_rooms : (σ.setVar d cs).rooms = σ.rooms := rfl
theorem sv_ys : (σ.setVar d cs).ys = σ.ys := rfl
theorem sv_sv : (σ.setVar d cs).setVar d cs' = σ.setVar d cs' := by simp [Sg.setVar]
theorem sv_get (h : d < σ.store.length) : (σ.setVar d cs).store[d]? = some (some cs) := by simp [Sg.setVar, h]
theorem ext_get (h : d < σ.store.length) : (σ.ext l rm ys).store[d]? = σ.store[d]? := by
 show (σ.store ++ l)[d]? = _
 rw [List.getElem?_append_left h]
theorem sv_ext (h : d < σ.store.length) : (σ.ext l rm ys).setVar d cs = (σ.setVar d cs).ext l rm ys := by
 simp [Sg.setVar, Sg.ext, List.set_append_left _ _ h]
theorem stX_old (h : d < σ.store.length) (p : PV) : stX k (σ.ext l rm ys) d off p = (stX k σ d off p).map fun τ => τ.ext l rm ys := by
 unfold stX
 rw [ext_get h]
 cases σ.store[d]? with
 | none => rfl
 | some x =>
  cases x with
  | none => rfl
  | some cs =>
   simp only
   rw [sv_ext h]
   split <;> rfl
theorem ldS_sv (h : d < σ.store.length) : ldS (σ.setVar d cs) d off = cs[off]? := ldS_at (sv_get h)
theorem stX_sv (h : d < σ.store.length) (p : PV) : stX k (σ.setVar d cs) d off p = if defd p && p.cells.all PV.scalar && (p.cells.length == k) && decide (off + p.cells.length ≤ cs.length) then some (σ.setVar d (putCells cs off p.cells)) else none := by
 rw [stX_at (sv_get h), sv_sv]
theorem ldS_svx : ldS ((σ.setVar d cs).ext l rm ys) (σ.store.length + j) off = match l[j]? with | some (some cs) => cs[off]? | _ => none := by
 rw [← sv_len (d := d) (cs := cs)]; exact ldS_ext ..
theorem ldS_svx0 : ldS ((σ.setVar d cs).ext l rm ys) σ.store.length off = match l[0]? with | some (some cs) => cs[off]? | _ => none := by
 rw [← sv_len (d := d) (cs := cs)]; exact ldS_ext0 ..
theorem ldA_svx : ldA k ((σ.setVar d cs).ext l rm ys) (σ.store.length + j) off = match l[j]? with | some (some cs) => if off + k ≤ cs.length then some (.agg ((cs.drop off).take k)) else none | _ => none := by
 rw [← sv_len (d := d) (cs := cs)]; exact ldA_ext ..
theorem ldA_svx0 : ldA k ((σ.setVar d cs).ext l rm ys) σ.store.length off = match l[0]? with | some (some cs) => if off + k ≤ cs.length then some (.agg ((cs.drop off).take k)) else none | _ => none := by
 rw [← sv_len (d := d) (cs := cs)]; exact ldA_ext0 ..
theorem stX_svx (p : PV) : stX k ((σ.setVar d cs).ext l rm ys) (σ.store.length + j) off p = match l[j]? with
 | some (some ds) => if defd p && p.cells.all PV.scalar && (p.cells.length == k) && decide (off + p.cells.length ≤ ds.length) then some ((σ.setVar d cs).ext (l.set j (some (putCells ds off p.cells))) rm ys) else none
 | _ => none := by
 rw [← sv_len (d := d) (cs := cs)]; exact stX_ext ..
theorem stX_svx0 (p : PV) : stX k ((σ.setVar d cs).ext l rm ys) σ.store.length off p = match l[0]? with
 | some (some ds) => if defd p && p.cells.all PV.scalar && (p.cells.length == k) && decide (off + p.cells.length ≤ ds.length) then some ((σ.setVar d cs).ext (l.set 0 (some (putCells ds off p.cells))) rm ys) else none
 | _ => none := by
 rw [← sv_len (d := d) (cs := cs)]; exact stX_ext0 ..
theorem setVar_ext (cs : List PV) : (σ.ext l rm ys).setVar (σ.store.length + j) cs = σ.ext (l.set j (some cs)) rm ys := Sg.set_ext σ l rm ys j cs
theorem setVar_ext0 (cs : List PV) : (σ.ext l rm ys).setVar σ.store.length cs = σ.ext (l.set 0 (some cs)) rm ys := Sg.set_ext0 σ l rm ys cs
theorem setVar_svx (cs' : List PV) : ((σ.setVar d cs).ext l rm ys).setVar (σ.store.length + j) cs' = (σ.setVar d cs).ext (l.set j (some cs')) rm ys := by
 rw [← sv_len (d := d) (cs := cs)]; exact setVar_ext cs'
theorem setVar_svx0 (cs' : List PV) : ((σ.setVar d cs).ext l rm ys).setVar σ.store.length cs' = (σ.setVar d cs).ext (l.set 0 (some cs')) rm ys := by
 rw [← sv_len (d := d) (cs := cs)]; exact setVar_ext0 cs'
theorem lt_of_get {x : Option (List PV)} (h : σ.store[d]? = some x) : d < σ.store.length := (List.getElem?_eq_some_iff.1 h).1
end
attribute [go_sem] sv_len sv_rooms sv_ys sv_sv ldS_svx ldS_svx0 ldA_svx ldA_svx0 stX_svx stX_svx0 setVar_ext setVar_ext0 setVar_svx setVar_svx0
theorem CleanSg_set {σ : Sg} {d : Nat} {cs : List PV} (h : CleanSg σ) (hc : CleanAll σ.store.length σ.rooms.length σ.ys.length cs) : CleanSg (σ.setVar d cs) := by
 unfold CleanSg
 rw [sv_len, sv_rooms, sv_ys]
 intro id ds hid hds p hp
 by_cases hd : d = id
 ·subst hd
  have hds' : (σ.store.set d (some cs))[d]? = some (some ds) := hds
  rw [List.getElem?_set_self hid] at hds'
  injection hds' with e
  injection e with e
  subst e
  exact hc p hp
 have hds' : (σ.store.set d (some cs))[id]? = some (some ds) := hds
 rw [List.getElem?_set_ne hd] at hds'
 exact h id ds hid hds' p hp
/-- The end of a function that set a variable that was there before. -/
theorem Fin_set {P : Program} {fn : Func} {σ : Sg} {d : Nat} {cs : List PV} {l : List (Option (List PV))} {rm : List Nat} {E : Env} {rs : List PV} {v : PV} (hcl : CleanSg σ) (hc : CleanAll σ.store.length σ.rooms.length σ.ys.length cs)
 (hr : resPV P ((σ.setVar d cs).ext l rm) E fn.results.toList = some rs)
 (hv : Wk σ.store.length σ.rooms.length σ.ys.length (oneOr rs) v) : Fin P fn σ v (σ.setVar d cs) E ((σ.setVar d cs).ext l rm) := by
 have hcl' := CleanSg_set (d := d) hcl hc
 refine ⟨rs, _, _, hr, Nat.le_refl _, Nat.le_refl _, hv, ?_, fun id ds hid hds p hp => ?_, by simp [Sg.ext, Sg.setVar]⟩
 ·have := Sg.cut_ext0 (σ.setVar d cs) l rm
  rw [sv_len, sv_rooms, sv_ys] at this
  exact this.symm
 have hc' : ((σ.setVar d cs).store ++ l)[id]? = some (some ds) := hds
 rw [List.getElem?_append_left (by rw [sv_len]; exact hid)] at hc'
 have := hcl' id ds (by rw [sv_len]; exact hid) hc' p hp
 rw [sv_len, sv_rooms, sv_ys] at this
 exact this
theorem Fin_set0 {P : Program} {fn : Func} {σ : Sg} {d : Nat} {cs : List PV} {E : Env} {rs : List PV} {v : PV} (hcl : CleanSg σ) (hc : CleanAll σ.store.length σ.rooms.length σ.ys.length cs)
 (hr : resPV P (σ.setVar d cs) E fn.results.toList = some rs)
 (hv : Wk σ.store.length σ.rooms.length σ.ys.length (oneOr rs) v) : Fin P fn σ v (σ.setVar d cs) E (σ.setVar d cs) := by
 have := Fin_set (l := []) (rm := []) hcl hc (by rw [Sg.ext_nil]; exact hr) hv
 rw [Sg.ext_nil] at this
 exact this
theorem W_regionJ {P : Program} {Y : YEnv} {N : Nat} {rd : Option Nat} {lo : Nat × Nat} {id : Nat} {ops : Array Oper} {E : Env} {σ : Sg} {Q : Exit → Env → Sg → Prop} (ks : List Nat) (upd : Env)
 (rest : Q .normal (keep ks (upd ++ E)) σ) (h : ∀ K : Env → Sg → Prop, (∀ E', keep ks E' = keep ks (upd ++ E) → K E' σ) → GL P Y N ops ops.toList E σ K) : W P Y N rd lo (.region id ops false) E σ Q :=
 W_region ks fun K hK => h K fun E' e => hK E' σ (by rw [e]; exact rest)
theorem W_drawJ {P : Program} {Y : YEnv} {N : Nat} {rd : Option Nat} {lo : Nat × Nat} {id : Nat} {ops : Array Oper} {E : Env} {σ : Sg} {Q : Exit → Env → Sg → Prop} (ks : List Nat) (upd : Env) (is : List Nat) (plan : List (Nat × Nat)) (pre : List (List Nat))
 (hm : P.follows .mixedOrders = true) (hc : drawOK ops is plan pre = true) (rest : Q .normal (keep ks (upd ++ E)) σ)
 (h : ∀ K : Env → Sg → Prop, (∀ E', keep ks E' = keep ks (upd ++ E) → K E' σ) → GD P Y N ops is (undefs ops.toList E) σ [] (fun T E' σ' => Dem P ops T.reverse σ' plan ∧ K E' σ')) : W P Y N rd lo (.region id ops true) E σ Q :=
 W_draw ks is plan pre hm hc fun K hK => h K fun E' e => hK E' σ (by rw [e]; exact rest)
theorem wrapI {n : Int} (h1 : -9223372036854775808 ≤ n) (h2 : n ≤ 9223372036854775807) : IntKind.i64.wrap n = n := wrap_i64_id (by omega) (by omega)
/-- How a test is read. -/
theorem nrm : (∀ (p : Prop) [Decidable p], (decide p = true) = p) ∧ (∀ (p : Prop) [Decidable p], (decide p = false) = ¬p) ∧ (∀ b : Bool, ((!b) = true) = (b = false)) ∧ (∀ b : Bool, ((!b) = false) = (b = true)) ∧
 (∀ a b : Nat, ((a : Int) = (b : Int)) = (a = b)) ∧ (∀ a b : Nat, ((a : Int) < (b : Int)) = (a < b)) ∧ (∀ a b : Nat, ((a : Int) ≤ (b : Int)) = (a ≤ b)) ∧
 (∀ a b : Int, ((a != b) = true) = (¬ a = b)) ∧ (∀ a b : Int, ((a != b) = false) = (a = b)) ∧ (∀ a b : Int, ((a == b) = true) = (a = b)) ∧ (∀ a b : Int, ((a == b) = false) = (¬ a = b)) ∧
 (∀ b : Bool, (¬ b = true) = (b = false)) ∧ (∀ b : Bool, (¬ b = false) = (b = true)) := by
 refine ⟨fun p _ => by simp, fun p _ => by simp, fun b => by simp, fun b => by simp, fun a b => propext Int.natCast_inj, fun a b => propext Int.ofNat_lt, fun a b => propext Int.ofNat_le, fun a b => by simp, fun a b => by simp, fun a b => by simp, fun a b => by simp, fun b => by simp, fun b => by simp⟩
def okC (c : Nat) (m : List PV) : Prop := (m.all fun q => (q.cells.length == c) && q.cells.all PV.scalar) = true
theorem okC_nil {c : Nat} : okC c [] = True := eq_true rfl
theorem okC_cons {c : Nat} {q : PV} {m : List PV} : okC c (q :: m) = ((q.cells.length = c ∧ q.cells.all PV.scalar = true) ∧ okC c m) := by simp [okC]
theorem okC_append {c : Nat} {l m : List PV} : okC c (l ++ m) = (okC c l ∧ okC c m) := by simp [okC]
theorem okC_ints {xs : List Int} : okC 1 (xs.map I) = True := eq_true (by simp [okC, PV.cells, PV.scalar])
theorem okC_map {α : Type} {c : Nat} {f : α → PV} {xs : List α} (h : ∀ x, okC c [f x]) : okC c (xs.map f) = True := eq_true (by
 unfold okC at h ⊢
 rw [List.all_eq_true]
 intro q hq
 obtain ⟨x, _, rfl⟩ := List.mem_map.1 hq
 simpa using h x)
theorem okC_len {c : Nat} {m : List PV} (h : okC c m) : (m.all fun q => q.cells.length == c) = true := by
 unfold okC at h
 rw [List.all_eq_true] at h ⊢
 intro q hq
 have := h q hq
 simp only [Bool.and_eq_true] at this
 exact this.1
theorem appX_exact {c b : Nat} {σ : Sg} {l m : List PV} (hm : okC c m) (hl : okC c l) (hs : (l.length + m.length) * b ≤ 140737488355328) :
 appX c b σ l .exact m = some (.isl (l ++ m) (.tok σ.rooms.length (l.length + m.length) c), σ.pushRoom (l.length + m.length)) := by
 have hm' : (m.all fun q => (q.cells.length == c) && q.cells.all PV.scalar) = true := hm
 unfold appX
 rw [hm', okC_len hl]
 simp [hs]
theorem appX_tok {c b : Nat} {σ : Sg} {l m : List PV} {r n : Nat} (hm : okC c m) (hr : σ.rooms[r]? = some n) (hs : (l.length + m.length) * b ≤ 140737488355328) :
 appX c b σ l (.tok r n c) m = some (.isl (l ++ m) (.tok r (n + m.length) c), σ.setRoom r (n + m.length)) := by
 have hm' : (m.all fun q => (q.cells.length == c) && q.cells.all PV.scalar) = true := hm
 unfold appX
 rw [hm']
 simp [hs, hr]
section
variable {σ : Sg} {d : Nat} {cs : List PV} {l : List (Option (List PV))} {rm : List Nat} {ys : List LState} {j n : Nat}
theorem room_svx : ((σ.setVar d cs).ext l rm ys).rooms[σ.rooms.length + j]? = rm[j]? := Sg.room_ext (σ.setVar d cs) l rm ys j
theorem room_svx0 : ((σ.setVar d cs).ext l rm ys).rooms[σ.rooms.length]? = rm[0]? := Sg.room_ext0 (σ.setVar d cs) l rm ys
theorem setRoom_svx : ((σ.setVar d cs).ext l rm ys).setRoom (σ.rooms.length + j) n = (σ.setVar d cs).ext l (rm.set j n) ys := Sg.setRoom_ext (σ.setVar d cs) l rm ys j n
theorem setRoom_svx0 : ((σ.setVar d cs).ext l rm ys).setRoom σ.rooms.length n = (σ.setVar d cs).ext l (rm.set 0 n) ys := Sg.setRoom_ext0 (σ.setVar d cs) l rm ys n
end
attribute [go_sem] bsX okC_nil okC_cons okC_append okC_ints Sg.room_ext Sg.room_ext0 Sg.setRoom_ext Sg.setRoom_ext0 room_svx room_svx0 setRoom_svx setRoom_svx0
theorem ro_isl {l : List PV} {o : Own} : (PV.isl l o).ro = .isl (PV.roL l) .ro := by simp only [PV.ro]
theorem ro_agg {l : List PV} : (PV.agg l).ro = .agg (PV.roL l) := by simp only [PV.ro]
theorem ro_tuple {l : List PV} : (PV.tuple l).ro = .tuple (PV.roL l) := by simp only [PV.ro]
theorem ro_int {k : IntKind} {n : Int} : (PV.int k n).ro = .int k n := by simp only [PV.ro]
theorem ro_bool {b : Bool} : (PV.bool b).ro = .bool b := by simp only [PV.ro]
theorem ro_str {b : ByteArray} : (PV.str b).ro = .str b := by simp only [PV.ro]
theorem ro_ptr {i o : Nat} : (PV.ptr i o).ro = .ptr i o := by simp only [PV.ro]
theorem roL_nil : PV.roL [] = [] := by simp only [PV.roL]
theorem roL_cons {p : PV} {l : List PV} : PV.roL (p :: l) = p.ro :: PV.roL l := by simp only [PV.roL]
theorem roL_append {l m : List PV} : PV.roL (l ++ m) = PV.roL l ++ PV.roL m := by simp only [PV.roL_map, List.map_append]
theorem roL_ints {xs : List Int} : PV.roL (xs.map I) = xs.map I := by simp [PV.roL_map, PV.ro]
theorem roL_enc {α : Type} {f : α → PV} {xs : List α} (h : ∀ x, (f x).ro = f x) : PV.roL (xs.map f) = xs.map f := by simp [PV.roL_map, h]
attribute [go_sem] ro_isl ro_agg ro_tuple ro_int ro_bool ro_str ro_ptr roL_nil roL_cons roL_append roL_ints oneOr
theorem PC.val {P : Program} {Y : YEnv} {f : FuncId} {args : List PV} {σ σ' : Sg} {v v' : PV} (h : PC P Y f args σ v σ') (e : v = v') : PC P Y f args σ v' σ' := by subst e; exact h
/-- The same value n times. -/
def rep (n : Nat) (v : PV) : List PV := List.replicate n v
theorem rep_len (n : Nat) (v : PV) : (rep n v).length = n := by simp [rep]
theorem ixS_of {P : Program} {t e : TypeId} {d : TypeDesc} {len : Nat} (h : P.underlying t = some (.array len e)) (he : P.underlying e = some d) (ha : isAggD d = false) (hc : P.cellsOf e = 1) (kd : IntKind) (n : Int) {cs : List PV} :
 indexPV P t (.agg cs) (.int kd n) = if 0 ≤ n ∧ n < (len : Int) then cs[n.toNat]? else none := by
 simp [indexPV, h, he, hc, partPV, ha]
attribute [go_sem] st List.reverse_cons List.reverse_nil bldX bne_self_eq_false iaM rep_len Int.cast_ofNat_Int List.getElem?_nil List.map_append List.length_append
theorem cells3 : Tryz.prog.cellsOf 3 = 1 := by kernel_rfl
theorem bytes3 : Tryz.prog.bytesOf 3 = 8 := by kernel_rfl
theorem zero3 : zeroPV Tryz.prog 3 = some [.int .i64 0] := by kernel_rfl
theorem cells5 : Tryz.prog.cellsOf 5 = 1 := by kernel_rfl
theorem bytes5 : Tryz.prog.bytesOf 5 = 1 := by kernel_rfl
theorem zero5 : zeroPV Tryz.prog 5 = some [.int .u8 0] := by kernel_rfl
theorem cells9 : Tryz.prog.cellsOf 9 = 1 := by kernel_rfl
theorem bytes9 : Tryz.prog.bytesOf 9 = 16 := by kernel_rfl
theorem zero9 : zeroPV Tryz.prog 9 = some [.str .empty] := by kernel_rfl
theorem cells22 : Tryz.prog.cellsOf 22 = 1 := by kernel_rfl
theorem cells25 : Tryz.prog.cellsOf 25 = 1 := by kernel_rfl
theorem cells27 : Tryz.prog.cellsOf 27 = 2 := by kernel_rfl
theorem zero27 : zeroPV Tryz.prog 27 = some [.int .i64 0, .isl [] .exact] := by kernel_rfl
theorem cells29 : Tryz.prog.cellsOf 29 = 3 := by kernel_rfl
theorem zero29 : zeroPV Tryz.prog 29 = some [.int .i64 0, .int .i64 0, .int .i64 0] := by kernel_rfl
theorem cells31 : Tryz.prog.cellsOf 31 = 7 := by kernel_rfl
theorem zero31 : zeroPV Tryz.prog 31 = some [.int .i64 0, .int .i64 0, .int .i64 0, .int .i64 0, .int .i64 0, .int .i64 0, .isl [] .exact] := by kernel_rfl
theorem cells32 : Tryz.prog.cellsOf 32 = 1 := by kernel_rfl
theorem cells33 : Tryz.prog.cellsOf 33 = 1 := by kernel_rfl
theorem cells35 : Tryz.prog.cellsOf 35 = 4 := by kernel_rfl
theorem zero35 : zeroPV Tryz.prog 35 = some [.isl [] .exact, .isl [] .exact, .isl [] .exact, .int .i64 0] := by kernel_rfl
theorem cells37 : Tryz.prog.cellsOf 37 = 6 := by kernel_rfl
theorem zero37 : zeroPV Tryz.prog 37 = some [.isl [] .exact, .isl [] .exact, .isl [] .exact, .int .i64 0, .int .i64 0, .isl [] .exact] := by kernel_rfl
theorem cells38 : Tryz.prog.cellsOf 38 = 1 := by kernel_rfl
theorem cells40 : Tryz.prog.cellsOf 40 = 20 := by kernel_rfl
theorem zero40 : zeroPV Tryz.prog 40 = some [.int .i64 0, .isl [] .exact, .int .i64 0, .int .i64 0, .int .i64 0, .int .i64 0, .int .i64 0, .int .i64 0, .int .i64 0, .int .i64 0, .int .i64 0, .isl [] .exact, .isl [] .exact, .isl [] .exact, .isl [] .exact, .int .i64 0, .int .i64 0, .isl [] .exact, .isl [] .exact, .int .i64 0] := by kernel_rfl
theorem cells48 : Tryz.prog.cellsOf 48 = 2 := by kernel_rfl
theorem zero48 : zeroPV Tryz.prog 48 = some [.int .i64 0, .int .i64 0] := by kernel_rfl
theorem cells52 : Tryz.prog.cellsOf 52 = 1 := by kernel_rfl
theorem zero52 : zeroPV Tryz.prog 52 = some [.isl [] .exact] := by kernel_rfl
theorem cells66 : Tryz.prog.cellsOf 66 = 1 := by kernel_rfl
theorem cells68 : Tryz.prog.cellsOf 68 = 7 := by kernel_rfl
theorem cells82 : Tryz.prog.cellsOf 82 = 2 := by kernel_rfl
theorem zero82 : zeroPV Tryz.prog 82 = some [.isl [] .exact, .isl [] .exact] := by kernel_rfl
theorem cells98 : Tryz.prog.cellsOf 98 = 1 := by kernel_rfl
theorem zero100 : zeroPV Tryz.prog 100 = some [.int .u64 0] := by kernel_rfl
theorem cells112 : Tryz.prog.cellsOf 112 = 3 := by kernel_rfl
theorem bytes112 : Tryz.prog.bytesOf 112 = 24 := by kernel_rfl
theorem zero112 : zeroPV Tryz.prog 112 = some [.int .i64 0, .int .i64 0, .int .i64 0] := by kernel_rfl
theorem cells114 : Tryz.prog.cellsOf 114 = 1 := by kernel_rfl
theorem zero114 : zeroPV Tryz.prog 114 = some [.nilfunc] := by kernel_rfl
theorem cells121 : Tryz.prog.cellsOf 121 = 1 := by kernel_rfl
theorem zero121 : zeroPV Tryz.prog 121 = some [.nilptr] := by kernel_rfl
theorem zero125 : zeroPV Tryz.prog 125 = some [.int .i64 0, .isl [] .exact, .isl [] .exact, .isl [] .exact, .isl [] .exact, .isl [] .exact, .isl [] .exact, .int .i64 0, .isl [] .exact, .int .i64 0, .int .i64 0, .int .i64 0, .int .i64 0, .int .i64 0, .int .i64 0, .int .i64 0, .int .i64 0, .int .i64 0, .isl [] .exact, .isl [] .exact, .isl [] .exact, .isl [] .exact, .int .i64 0, .int .i64 0, .isl [] .exact, .isl [] .exact, .int .i64 0] := by kernel_rfl
theorem cells143 : Tryz.prog.cellsOf 143 = 1 := by kernel_rfl
theorem cells152 : Tryz.prog.cellsOf 152 = 4 := by kernel_rfl
theorem bytes152 : Tryz.prog.bytesOf 152 = 40 := by kernel_rfl
theorem zero152 : zeroPV Tryz.prog 152 = some [.str .empty, .int .i64 0, .int .i64 0, .int .i64 0] := by kernel_rfl
theorem cells166 : Tryz.prog.cellsOf 166 = 4 := by kernel_rfl
theorem bytes166 : Tryz.prog.bytesOf 166 = 48 := by kernel_rfl
theorem zero166 : zeroPV Tryz.prog 166 = some [.int .i64 0, .int .i64 0, .int .i64 0, .isl [] .exact] := by kernel_rfl
theorem cells169 : Tryz.prog.cellsOf 169 = 3 := by kernel_rfl
theorem bytes169 : Tryz.prog.bytesOf 169 = 24 := by kernel_rfl
theorem zero169 : zeroPV Tryz.prog 169 = some [.int .i64 0, .int .i64 0, .int .i64 0] := by kernel_rfl
theorem cells201 : Tryz.prog.cellsOf 201 = 3 := by kernel_rfl
theorem zero201 : zeroPV Tryz.prog 201 = some [.isl [] .exact, .isl [] .exact, .int .i64 0] := by kernel_rfl
theorem cells211 : Tryz.prog.cellsOf 211 = 1 := by kernel_rfl
theorem zero211 : zeroPV Tryz.prog 211 = some [.nilfunc] := by kernel_rfl
theorem cells223 : Tryz.prog.cellsOf 223 = 2 := by kernel_rfl
theorem bytes223 : Tryz.prog.bytesOf 223 = 16 := by kernel_rfl
theorem zero223 : zeroPV Tryz.prog 223 = some [.int .i64 0, .int .i64 0] := by kernel_rfl
theorem cells258 : Tryz.prog.cellsOf 258 = 7 := by kernel_rfl
theorem bytes258 : Tryz.prog.bytesOf 258 = 72 := by kernel_rfl
theorem zero258 : zeroPV Tryz.prog 258 = some [.int .i64 0, .int .i64 0, .int .i64 0, .int .i64 0, .int .i64 0, .int .i64 0, .isl [] .exact] := by kernel_rfl
theorem cells276 : Tryz.prog.cellsOf 276 = 2 := by kernel_rfl
theorem zero276 : zeroPV Tryz.prog 276 = some [.nilptr, .isl [] .exact] := by kernel_rfl
theorem cells277 : Tryz.prog.cellsOf 277 = 1 := by kernel_rfl
theorem cells279 : Tryz.prog.cellsOf 279 = 2 := by kernel_rfl
theorem zero279 : zeroPV Tryz.prog 279 = some [.str .empty, .nilfunc] := by kernel_rfl
theorem cells330 : Tryz.prog.cellsOf 330 = 2 := by kernel_rfl
theorem zero330 : zeroPV Tryz.prog 330 = some [.int .i64 0, .int .i64 0] := by kernel_rfl
set_option maxRecDepth 100000
theorem lda3 {σ : Sg} {id off : Nat} : loadPV Tryz.prog σ 3 (.ptr id off) = ldS σ id off := ldS_of Tryz.underlying3 rfl
theorem ela3 {σ : Sg} {es i off : Nat} {l : List PV} : loadPV Tryz.prog σ 3 (.eptr es l i off) = elS l i off := elS_of Tryz.underlying3 rfl
theorem sto3 {σ : Sg} {id off : Nat} {p : PV} : storePV Tryz.prog σ 3 (.ptr id off) p = stX 1 σ id off p := stX_of Tryz.underlying3 cells3 p
theorem lda9 {σ : Sg} {id off : Nat} : loadPV Tryz.prog σ 9 (.ptr id off) = ldS σ id off := ldS_of Tryz.underlying9 rfl
theorem ela9 {σ : Sg} {es i off : Nat} {l : List PV} : loadPV Tryz.prog σ 9 (.eptr es l i off) = elS l i off := elS_of Tryz.underlying9 rfl
theorem sto9 {σ : Sg} {id off : Nat} {p : PV} : storePV Tryz.prog σ 9 (.ptr id off) p = stX 1 σ id off p := stX_of Tryz.underlying9 cells9 p
theorem lda22 {σ : Sg} {id off : Nat} : loadPV Tryz.prog σ 22 (.ptr id off) = ldS σ id off := ldS_of Tryz.underlying22 rfl
theorem sto22 {σ : Sg} {id off : Nat} {p : PV} : storePV Tryz.prog σ 22 (.ptr id off) p = stX 1 σ id off p := stX_of Tryz.underlying22 cells22 p
theorem ia22 {l : List PV} {own : Own} {k : IntKind} {i : Int} : indexAddrPV Tryz.prog 22 (.isl l own) (.int k i) = iaX 1 l i := iaX_of Tryz.underlying22 Tryz.underlying3 cells3 k i
theorem len22 {l : List PV} {own : Own} : lenPV Tryz.prog 22 (.isl l own) = some (.int .i64 l.length) := len_of Tryz.underlying22
theorem bs22 {len : Nat} {parts : List (Nat × PV)} : buildSlicePV Tryz.prog 22 len parts = bsX 1 len parts := bsX_of Tryz.underlying22 Tryz.underlying3 cells3 zero3 len parts
theorem app22 {σ : Sg} {l m : List PV} {own own' : Own} : appendPV Tryz.prog σ 22 22 (.isl l own) (.isl m own') = appX 1 8 σ l own m := appX_of Tryz.underlying22 Tryz.underlying3 cells3 bytes3 (by decide) (by decide) zero3 rfl
theorem lda25 {σ : Sg} {id off : Nat} : loadPV Tryz.prog σ 25 (.ptr id off) = ldS σ id off := ldS_of Tryz.underlying25 rfl
theorem sto25 {σ : Sg} {id off : Nat} {p : PV} : storePV Tryz.prog σ 25 (.ptr id off) p = stX 1 σ id off p := stX_of Tryz.underlying25 cells25 p
theorem ia25 {l : List PV} {own : Own} {k : IntKind} {i : Int} : indexAddrPV Tryz.prog 25 (.isl l own) (.int k i) = iaX 4 l i := iaX_of Tryz.underlying25 Tryz.underlying152 cells152 k i
theorem len25 {l : List PV} {own : Own} : lenPV Tryz.prog 25 (.isl l own) = some (.int .i64 l.length) := len_of Tryz.underlying25
theorem bs25 {len : Nat} {parts : List (Nat × PV)} : buildSlicePV Tryz.prog 25 len parts = bsX 4 len parts := bsX_of Tryz.underlying25 Tryz.underlying152 cells152 zero152 len parts
theorem app25 {σ : Sg} {l m : List PV} {own own' : Own} : appendPV Tryz.prog σ 25 25 (.isl l own) (.isl m own') = appX 4 40 σ l own m := appX_of Tryz.underlying25 Tryz.underlying152 cells152 bytes152 (by decide) (by decide) zero152 rfl
theorem lda27 {σ : Sg} {id off : Nat} : loadPV Tryz.prog σ 27 (.ptr id off) = ldA 2 σ id off := ldA_of Tryz.underlying27 rfl cells27
theorem sto27 {σ : Sg} {id off : Nat} {p : PV} : storePV Tryz.prog σ 27 (.ptr id off) p = stX 2 σ id off p := stX_of Tryz.underlying27 cells27 p
theorem fa27_0 {id off : Nat} : fieldAddrPV Tryz.prog 27 (.ptr id off) 0 = some (.ptr id (off + 0)) := fa1_of Tryz.underlying27 (by rfl) (by exact Tryz.underlying3) (by exact cells3) (by rfl) (by rfl)
theorem fa27_1 {id off : Nat} : fieldAddrPV Tryz.prog 27 (.ptr id off) 1 = some (.ptr id (off + 1)) := fa1_of Tryz.underlying27 (by rfl) (by exact Tryz.underlying25) (by exact cells25) (by rfl) (by rfl)
theorem bld27 {parts : List (Nat × PV)} : buildPV Tryz.prog 27 parts = bldX [.int .i64 0, .isl [] .exact] [(0, 1), (1, 1)] parts := bldX_of zero27 Tryz.underlying27 (by kernel_rfl) (by kernel_rfl) parts
theorem lda29 {σ : Sg} {id off : Nat} : loadPV Tryz.prog σ 29 (.ptr id off) = ldA 3 σ id off := ldA_of Tryz.underlying29 rfl cells29
theorem sto29 {σ : Sg} {id off : Nat} {p : PV} : storePV Tryz.prog σ 29 (.ptr id off) p = stX 3 σ id off p := stX_of Tryz.underlying29 cells29 p
theorem fa29_0 {id off : Nat} : fieldAddrPV Tryz.prog 29 (.ptr id off) 0 = some (.ptr id (off + 0)) := fa1_of Tryz.underlying29 (by rfl) (by exact Tryz.underlying3) (by exact cells3) (by rfl) (by rfl)
theorem fa29_1 {id off : Nat} : fieldAddrPV Tryz.prog 29 (.ptr id off) 1 = some (.ptr id (off + 1)) := fa1_of Tryz.underlying29 (by rfl) (by exact Tryz.underlying3) (by exact cells3) (by rfl) (by rfl)
theorem fa29_2 {id off : Nat} : fieldAddrPV Tryz.prog 29 (.ptr id off) 2 = some (.ptr id (off + 2)) := fa1_of Tryz.underlying29 (by rfl) (by exact Tryz.underlying3) (by exact cells3) (by rfl) (by rfl)
theorem bld29 {parts : List (Nat × PV)} : buildPV Tryz.prog 29 parts = bldX [.int .i64 0, .int .i64 0, .int .i64 0] [(0, 1), (1, 1), (2, 1)] parts := bldX_of zero29 Tryz.underlying29 (by kernel_rfl) (by kernel_rfl) parts
theorem lda31 {σ : Sg} {id off : Nat} : loadPV Tryz.prog σ 31 (.ptr id off) = ldA 7 σ id off := ldA_of Tryz.underlying31 rfl cells31
theorem sto31 {σ : Sg} {id off : Nat} {p : PV} : storePV Tryz.prog σ 31 (.ptr id off) p = stX 7 σ id off p := stX_of Tryz.underlying31 cells31 p
theorem fa31_0 {id off : Nat} : fieldAddrPV Tryz.prog 31 (.ptr id off) 0 = some (.ptr id (off + 0)) := fa1_of Tryz.underlying31 (by rfl) (by exact Tryz.underlying3) (by exact cells3) (by rfl) (by rfl)
theorem fa31_1 {id off : Nat} : fieldAddrPV Tryz.prog 31 (.ptr id off) 1 = some (.ptr id (off + 1)) := fa1_of Tryz.underlying31 (by rfl) (by exact Tryz.underlying3) (by exact cells3) (by rfl) (by rfl)
theorem fa31_2 {id off : Nat} : fieldAddrPV Tryz.prog 31 (.ptr id off) 2 = some (.ptr id (off + 2)) := fa1_of Tryz.underlying31 (by rfl) (by exact Tryz.underlying3) (by exact cells3) (by rfl) (by rfl)
theorem fa31_3 {id off : Nat} : fieldAddrPV Tryz.prog 31 (.ptr id off) 3 = some (.ptr id (off + 3)) := fa1_of Tryz.underlying31 (by rfl) (by exact Tryz.underlying3) (by exact cells3) (by rfl) (by rfl)
theorem fa31_4 {id off : Nat} : fieldAddrPV Tryz.prog 31 (.ptr id off) 4 = some (.ptr id (off + 4)) := fa1_of Tryz.underlying31 (by rfl) (by exact Tryz.underlying3) (by exact cells3) (by rfl) (by rfl)
theorem fa31_5 {id off : Nat} : fieldAddrPV Tryz.prog 31 (.ptr id off) 5 = some (.ptr id (off + 5)) := fa1_of Tryz.underlying31 (by rfl) (by exact Tryz.underlying3) (by exact cells3) (by rfl) (by rfl)
theorem fa31_6 {id off : Nat} : fieldAddrPV Tryz.prog 31 (.ptr id off) 6 = some (.ptr id (off + 6)) := fa1_of Tryz.underlying31 (by rfl) (by exact Tryz.underlying22) (by exact cells22) (by rfl) (by rfl)
theorem bld31 {parts : List (Nat × PV)} : buildPV Tryz.prog 31 parts = bldX [.int .i64 0, .int .i64 0, .int .i64 0, .int .i64 0, .int .i64 0, .int .i64 0, .isl [] .exact] [(0, 1), (1, 1), (2, 1), (3, 1), (4, 1), (5, 1), (6, 1)] parts := bldX_of zero31 Tryz.underlying31 (by kernel_rfl) (by kernel_rfl) parts
theorem lda32 {σ : Sg} {id off : Nat} : loadPV Tryz.prog σ 32 (.ptr id off) = ldS σ id off := ldS_of Tryz.underlying32 rfl
theorem sto32 {σ : Sg} {id off : Nat} {p : PV} : storePV Tryz.prog σ 32 (.ptr id off) p = stX 1 σ id off p := stX_of Tryz.underlying32 cells32 p
theorem ia32 {l : List PV} {own : Own} {k : IntKind} {i : Int} : indexAddrPV Tryz.prog 32 (.isl l own) (.int k i) = iaX 2 l i := iaX_of Tryz.underlying32 Tryz.underlying223 cells223 k i
theorem len32 {l : List PV} {own : Own} : lenPV Tryz.prog 32 (.isl l own) = some (.int .i64 l.length) := len_of Tryz.underlying32
theorem bs32 {len : Nat} {parts : List (Nat × PV)} : buildSlicePV Tryz.prog 32 len parts = bsX 2 len parts := bsX_of Tryz.underlying32 Tryz.underlying223 cells223 zero223 len parts
theorem app32 {σ : Sg} {l m : List PV} {own own' : Own} : appendPV Tryz.prog σ 32 32 (.isl l own) (.isl m own') = appX 2 16 σ l own m := appX_of Tryz.underlying32 Tryz.underlying223 cells223 bytes223 (by decide) (by decide) zero223 rfl
theorem lda33 {σ : Sg} {id off : Nat} : loadPV Tryz.prog σ 33 (.ptr id off) = ldS σ id off := ldS_of Tryz.underlying33 rfl
theorem sto33 {σ : Sg} {id off : Nat} {p : PV} : storePV Tryz.prog σ 33 (.ptr id off) p = stX 1 σ id off p := stX_of Tryz.underlying33 cells33 p
theorem ia33 {l : List PV} {own : Own} {k : IntKind} {i : Int} : indexAddrPV Tryz.prog 33 (.isl l own) (.int k i) = iaX 7 l i := iaX_of Tryz.underlying33 Tryz.underlying258 cells258 k i
theorem len33 {l : List PV} {own : Own} : lenPV Tryz.prog 33 (.isl l own) = some (.int .i64 l.length) := len_of Tryz.underlying33
theorem bs33 {len : Nat} {parts : List (Nat × PV)} : buildSlicePV Tryz.prog 33 len parts = bsX 7 len parts := bsX_of Tryz.underlying33 Tryz.underlying258 cells258 zero258 len parts
theorem app33 {σ : Sg} {l m : List PV} {own own' : Own} : appendPV Tryz.prog σ 33 33 (.isl l own) (.isl m own') = appX 7 72 σ l own m := appX_of Tryz.underlying33 Tryz.underlying258 cells258 bytes258 (by decide) (by decide) zero258 rfl
theorem lda35 {σ : Sg} {id off : Nat} : loadPV Tryz.prog σ 35 (.ptr id off) = ldA 4 σ id off := ldA_of Tryz.underlying35 rfl cells35
theorem sto35 {σ : Sg} {id off : Nat} {p : PV} : storePV Tryz.prog σ 35 (.ptr id off) p = stX 4 σ id off p := stX_of Tryz.underlying35 cells35 p
theorem fa35_0 {id off : Nat} : fieldAddrPV Tryz.prog 35 (.ptr id off) 0 = some (.ptr id (off + 0)) := fa1_of Tryz.underlying35 (by rfl) (by exact Tryz.underlying22) (by exact cells22) (by rfl) (by rfl)
theorem fa35_1 {id off : Nat} : fieldAddrPV Tryz.prog 35 (.ptr id off) 1 = some (.ptr id (off + 1)) := fa1_of Tryz.underlying35 (by rfl) (by exact Tryz.underlying32) (by exact cells32) (by rfl) (by rfl)
theorem fa35_2 {id off : Nat} : fieldAddrPV Tryz.prog 35 (.ptr id off) 2 = some (.ptr id (off + 2)) := fa1_of Tryz.underlying35 (by rfl) (by exact Tryz.underlying33) (by exact cells33) (by rfl) (by rfl)
theorem fa35_3 {id off : Nat} : fieldAddrPV Tryz.prog 35 (.ptr id off) 3 = some (.ptr id (off + 3)) := fa1_of Tryz.underlying35 (by rfl) (by exact Tryz.underlying3) (by exact cells3) (by rfl) (by rfl)
theorem bld35 {parts : List (Nat × PV)} : buildPV Tryz.prog 35 parts = bldX [.isl [] .exact, .isl [] .exact, .isl [] .exact, .int .i64 0] [(0, 1), (1, 1), (2, 1), (3, 1)] parts := bldX_of zero35 Tryz.underlying35 (by kernel_rfl) (by kernel_rfl) parts
theorem lda37 {σ : Sg} {id off : Nat} : loadPV Tryz.prog σ 37 (.ptr id off) = ldA 6 σ id off := ldA_of Tryz.underlying37 rfl cells37
theorem sto37 {σ : Sg} {id off : Nat} {p : PV} : storePV Tryz.prog σ 37 (.ptr id off) p = stX 6 σ id off p := stX_of Tryz.underlying37 cells37 p
theorem fa37_0 {id off : Nat} : fieldAddrPV Tryz.prog 37 (.ptr id off) 0 = some (.ptr id (off + 0)) := fa1_of Tryz.underlying37 (by rfl) (by exact Tryz.underlying35) (by exact cells35) (by rfl) (by rfl)
theorem fa37_1 {id off : Nat} : fieldAddrPV Tryz.prog 37 (.ptr id off) 1 = some (.ptr id (off + 4)) := fa1_of Tryz.underlying37 (by rfl) (by exact Tryz.underlying3) (by exact cells3) (by rfl) (by rfl)
theorem fa37_2 {id off : Nat} : fieldAddrPV Tryz.prog 37 (.ptr id off) 2 = some (.ptr id (off + 5)) := fa1_of Tryz.underlying37 (by rfl) (by exact Tryz.underlying22) (by exact cells22) (by rfl) (by rfl)
theorem bld37 {parts : List (Nat × PV)} : buildPV Tryz.prog 37 parts = bldX [.isl [] .exact, .isl [] .exact, .isl [] .exact, .int .i64 0, .int .i64 0, .isl [] .exact] [(0, 4), (4, 1), (5, 1)] parts := bldX_of zero37 Tryz.underlying37 (by kernel_rfl) (by kernel_rfl) parts
theorem lda38 {σ : Sg} {id off : Nat} : loadPV Tryz.prog σ 38 (.ptr id off) = ldS σ id off := ldS_of Tryz.underlying38 rfl
theorem sto38 {σ : Sg} {id off : Nat} {p : PV} : storePV Tryz.prog σ 38 (.ptr id off) p = stX 1 σ id off p := stX_of Tryz.underlying38 cells38 p
theorem ia38 {l : List PV} {own : Own} {k : IntKind} {i : Int} : indexAddrPV Tryz.prog 38 (.isl l own) (.int k i) = iaX 4 l i := iaX_of Tryz.underlying38 Tryz.underlying166 cells166 k i
theorem len38 {l : List PV} {own : Own} : lenPV Tryz.prog 38 (.isl l own) = some (.int .i64 l.length) := len_of Tryz.underlying38
theorem bs38 {len : Nat} {parts : List (Nat × PV)} : buildSlicePV Tryz.prog 38 len parts = bsX 4 len parts := bsX_of Tryz.underlying38 Tryz.underlying166 cells166 zero166 len parts
theorem app38 {σ : Sg} {l m : List PV} {own own' : Own} : appendPV Tryz.prog σ 38 38 (.isl l own) (.isl m own') = appX 4 48 σ l own m := appX_of Tryz.underlying38 Tryz.underlying166 cells166 bytes166 (by decide) (by decide) zero166 rfl
theorem lda40 {σ : Sg} {id off : Nat} : loadPV Tryz.prog σ 40 (.ptr id off) = ldA 20 σ id off := ldA_of Tryz.underlying40 rfl cells40
theorem sto40 {σ : Sg} {id off : Nat} {p : PV} : storePV Tryz.prog σ 40 (.ptr id off) p = stX 20 σ id off p := stX_of Tryz.underlying40 cells40 p
theorem fa40_0 {id off : Nat} : fieldAddrPV Tryz.prog 40 (.ptr id off) 0 = some (.ptr id (off + 0)) := fa1_of Tryz.underlying40 (by rfl) (by exact Tryz.underlying27) (by exact cells27) (by rfl) (by rfl)
theorem fa40_1 {id off : Nat} : fieldAddrPV Tryz.prog 40 (.ptr id off) 1 = some (.ptr id (off + 2)) := fa1_of Tryz.underlying40 (by rfl) (by exact Tryz.underlying29) (by exact cells29) (by rfl) (by rfl)
theorem fa40_2 {id off : Nat} : fieldAddrPV Tryz.prog 40 (.ptr id off) 2 = some (.ptr id (off + 5)) := fa1_of Tryz.underlying40 (by rfl) (by exact Tryz.underlying31) (by exact cells31) (by rfl) (by rfl)
theorem fa40_3 {id off : Nat} : fieldAddrPV Tryz.prog 40 (.ptr id off) 3 = some (.ptr id (off + 12)) := fa1_of Tryz.underlying40 (by rfl) (by exact Tryz.underlying37) (by exact cells37) (by rfl) (by rfl)
theorem fa40_4 {id off : Nat} : fieldAddrPV Tryz.prog 40 (.ptr id off) 4 = some (.ptr id (off + 18)) := fa1_of Tryz.underlying40 (by rfl) (by exact Tryz.underlying38) (by exact cells38) (by rfl) (by rfl)
theorem fa40_5 {id off : Nat} : fieldAddrPV Tryz.prog 40 (.ptr id off) 5 = some (.ptr id (off + 19)) := fa1_of Tryz.underlying40 (by rfl) (by exact Tryz.underlying3) (by exact cells3) (by rfl) (by rfl)
theorem bld40 {parts : List (Nat × PV)} : buildPV Tryz.prog 40 parts = bldX [.int .i64 0, .isl [] .exact, .int .i64 0, .int .i64 0, .int .i64 0, .int .i64 0, .int .i64 0, .int .i64 0, .int .i64 0, .int .i64 0, .int .i64 0, .isl [] .exact, .isl [] .exact, .isl [] .exact, .isl [] .exact, .int .i64 0, .int .i64 0, .isl [] .exact, .isl [] .exact, .int .i64 0] [(0, 2), (2, 3), (5, 7), (12, 6), (18, 1), (19, 1)] parts := bldX_of zero40 Tryz.underlying40 (by kernel_rfl) (by kernel_rfl) parts
theorem lda48 {σ : Sg} {id off : Nat} : loadPV Tryz.prog σ 48 (.ptr id off) = ldA 2 σ id off := ldA_of Tryz.underlying48 rfl cells48
theorem sto48 {σ : Sg} {id off : Nat} {p : PV} : storePV Tryz.prog σ 48 (.ptr id off) p = stX 2 σ id off p := stX_of Tryz.underlying48 cells48 p
theorem fa48_0 {id off : Nat} : fieldAddrPV Tryz.prog 48 (.ptr id off) 0 = some (.ptr id (off + 0)) := fa1_of Tryz.underlying48 (by rfl) (by exact Tryz.underlying3) (by exact cells3) (by rfl) (by rfl)
theorem fa48_1 {id off : Nat} : fieldAddrPV Tryz.prog 48 (.ptr id off) 1 = some (.ptr id (off + 1)) := fa1_of Tryz.underlying48 (by rfl) (by exact Tryz.underlying3) (by exact cells3) (by rfl) (by rfl)
theorem bld48 {parts : List (Nat × PV)} : buildPV Tryz.prog 48 parts = bldX [.int .i64 0, .int .i64 0] [(0, 1), (1, 1)] parts := bldX_of zero48 Tryz.underlying48 (by kernel_rfl) (by kernel_rfl) parts
theorem lda51 {σ : Sg} {id off : Nat} : loadPV Tryz.prog σ 51 (.ptr id off) = ldS σ id off := ldS_of Tryz.underlying51 rfl
theorem lda52 {σ : Sg} {id off : Nat} : loadPV Tryz.prog σ 52 (.ptr id off) = ldS σ id off := ldS_of Tryz.underlying52 rfl
theorem sto52 {σ : Sg} {id off : Nat} {p : PV} : storePV Tryz.prog σ 52 (.ptr id off) p = stX 1 σ id off p := stX_of Tryz.underlying52 cells52 p
theorem ia52 {l : List PV} {own : Own} {k : IntKind} {i : Int} : indexAddrPV Tryz.prog 52 (.isl l own) (.int k i) = iaX 1 l i := iaX_of Tryz.underlying52 Tryz.underlying9 cells9 k i
theorem len52 {l : List PV} {own : Own} : lenPV Tryz.prog 52 (.isl l own) = some (.int .i64 l.length) := len_of Tryz.underlying52
theorem bs52 {len : Nat} {parts : List (Nat × PV)} : buildSlicePV Tryz.prog 52 len parts = bsX 1 len parts := bsX_of Tryz.underlying52 Tryz.underlying9 cells9 zero9 len parts
theorem app52 {σ : Sg} {l m : List PV} {own own' : Own} : appendPV Tryz.prog σ 52 52 (.isl l own) (.isl m own') = appX 1 16 σ l own m := appX_of Tryz.underlying52 Tryz.underlying9 cells9 bytes9 (by decide) (by decide) zero9 rfl
theorem lda66 {σ : Sg} {id off : Nat} : loadPV Tryz.prog σ 66 (.ptr id off) = ldS σ id off := ldS_of Tryz.underlying66 rfl
theorem sto66 {σ : Sg} {id off : Nat} {p : PV} : storePV Tryz.prog σ 66 (.ptr id off) p = stX 1 σ id off p := stX_of Tryz.underlying66 cells66 p
theorem ia66 {l : List PV} {own : Own} {k : IntKind} {i : Int} : indexAddrPV Tryz.prog 66 (.isl l own) (.int k i) = iaX 3 l i := iaX_of Tryz.underlying66 Tryz.underlying169 cells169 k i
theorem len66 {l : List PV} {own : Own} : lenPV Tryz.prog 66 (.isl l own) = some (.int .i64 l.length) := len_of Tryz.underlying66
theorem bs66 {len : Nat} {parts : List (Nat × PV)} : buildSlicePV Tryz.prog 66 len parts = bsX 3 len parts := bsX_of Tryz.underlying66 Tryz.underlying169 cells169 zero169 len parts
theorem app66 {σ : Sg} {l m : List PV} {own own' : Own} : appendPV Tryz.prog σ 66 66 (.isl l own) (.isl m own') = appX 3 24 σ l own m := appX_of Tryz.underlying66 Tryz.underlying169 cells169 bytes169 (by decide) (by decide) zero169 rfl
theorem fa68_0 {id off : Nat} : fieldAddrPV Tryz.prog 68 (.ptr id off) 0 = some (.ptr id (off + 0)) := fa1_of Tryz.underlying68 (by rfl) (by exact Tryz.underlying3) (by exact cells3) (by rfl) (by rfl)
theorem fa68_1 {id off : Nat} : fieldAddrPV Tryz.prog 68 (.ptr id off) 1 = some (.ptr id (off + 1)) := fa1_of Tryz.underlying68 (by rfl) (by exact Tryz.underlying22) (by exact cells22) (by rfl) (by rfl)
theorem lda82 {σ : Sg} {id off : Nat} : loadPV Tryz.prog σ 82 (.ptr id off) = ldA 2 σ id off := ldA_of Tryz.underlying82 rfl cells82
theorem sto82 {σ : Sg} {id off : Nat} {p : PV} : storePV Tryz.prog σ 82 (.ptr id off) p = stX 2 σ id off p := stX_of Tryz.underlying82 cells82 p
theorem fa82_0 {id off : Nat} : fieldAddrPV Tryz.prog 82 (.ptr id off) 0 = some (.ptr id (off + 0)) := fa1_of Tryz.underlying82 (by rfl) (by exact Tryz.underlying38) (by exact cells38) (by rfl) (by rfl)
theorem fp82_0 {cs : List PV} : fieldPV Tryz.prog 82 (.agg cs) 0 = cs[0]? := fpS_of Tryz.underlying82 (by rfl) (by exact Tryz.underlying38) (by rfl) (by rfl) cs
theorem fa82_1 {id off : Nat} : fieldAddrPV Tryz.prog 82 (.ptr id off) 1 = some (.ptr id (off + 1)) := fa1_of Tryz.underlying82 (by rfl) (by exact Tryz.underlying66) (by exact cells66) (by rfl) (by rfl)
theorem bld82 {parts : List (Nat × PV)} : buildPV Tryz.prog 82 parts = bldX [.isl [] .exact, .isl [] .exact] [(0, 1), (1, 1)] parts := bldX_of zero82 Tryz.underlying82 (by kernel_rfl) (by kernel_rfl) parts
theorem lda98 {σ : Sg} {id off : Nat} : loadPV Tryz.prog σ 98 (.ptr id off) = ldS σ id off := ldS_of Tryz.underlying98 rfl
theorem sto98 {σ : Sg} {id off : Nat} {p : PV} : storePV Tryz.prog σ 98 (.ptr id off) p = stX 1 σ id off p := stX_of Tryz.underlying98 cells98 p
theorem fa100_0 {id off : Nat} : fieldAddrPV Tryz.prog 100 (.ptr id off) 0 = some (.ptr id (off + 0)) := fa1_of Tryz.underlying100 (by rfl) (by exact Tryz.underlying98) (by exact cells98) (by rfl) (by rfl)
theorem bld100 {parts : List (Nat × PV)} : buildPV Tryz.prog 100 parts = bldX [.int .u64 0] [(0, 1)] parts := bldX_of zero100 Tryz.underlying100 (by kernel_rfl) (by kernel_rfl) parts
theorem lda112 {σ : Sg} {id off : Nat} : loadPV Tryz.prog σ 112 (.ptr id off) = ldA 3 σ id off := ldA_of Tryz.underlying112 rfl cells112
theorem ela112 {σ : Sg} {es i off : Nat} {l : List PV} : loadPV Tryz.prog σ 112 (.eptr es l i off) = elA 3 l i off := elA_of Tryz.underlying112 rfl cells112
theorem sto112 {σ : Sg} {id off : Nat} {p : PV} : storePV Tryz.prog σ 112 (.ptr id off) p = stX 3 σ id off p := stX_of Tryz.underlying112 cells112 p
theorem fa112_2 {id off : Nat} : fieldAddrPV Tryz.prog 112 (.ptr id off) 2 = some (.ptr id (off + 2)) := fa1_of Tryz.underlying112 (by rfl) (by exact Tryz.underlying3) (by exact cells3) (by rfl) (by rfl)
theorem bld112 {parts : List (Nat × PV)} : buildPV Tryz.prog 112 parts = bldX [.int .i64 0, .int .i64 0, .int .i64 0] [(0, 1), (1, 1), (2, 1)] parts := bldX_of zero112 Tryz.underlying112 (by kernel_rfl) (by kernel_rfl) parts
theorem lda114 {σ : Sg} {id off : Nat} : loadPV Tryz.prog σ 114 (.ptr id off) = ldS σ id off := ldS_of Tryz.underlying114 rfl
theorem sto114 {σ : Sg} {id off : Nat} {p : PV} : storePV Tryz.prog σ 114 (.ptr id off) p = stX 1 σ id off p := stX_of Tryz.underlying114 cells114 p
theorem lda121 {σ : Sg} {id off : Nat} : loadPV Tryz.prog σ 121 (.ptr id off) = ldS σ id off := ldS_of Tryz.underlying121 rfl
theorem sto121 {σ : Sg} {id off : Nat} {p : PV} : storePV Tryz.prog σ 121 (.ptr id off) p = stX 1 σ id off p := stX_of Tryz.underlying121 cells121 p
theorem fa125_0 {id off : Nat} : fieldAddrPV Tryz.prog 125 (.ptr id off) 0 = some (.ptr id (off + 0)) := fa1_of Tryz.underlying125 (by rfl) (by exact Tryz.underlying68) (by exact cells68) (by rfl) (by rfl)
theorem fa125_1 {id off : Nat} : fieldAddrPV Tryz.prog 125 (.ptr id off) 1 = some (.ptr id (off + 7)) := fa1_of Tryz.underlying125 (by rfl) (by exact Tryz.underlying40) (by exact cells40) (by rfl) (by rfl)
theorem bld125 {parts : List (Nat × PV)} : buildPV Tryz.prog 125 parts = bldX [.int .i64 0, .isl [] .exact, .isl [] .exact, .isl [] .exact, .isl [] .exact, .isl [] .exact, .isl [] .exact, .int .i64 0, .isl [] .exact, .int .i64 0, .int .i64 0, .int .i64 0, .int .i64 0, .int .i64 0, .int .i64 0, .int .i64 0, .int .i64 0, .int .i64 0, .isl [] .exact, .isl [] .exact, .isl [] .exact, .isl [] .exact, .int .i64 0, .int .i64 0, .isl [] .exact, .isl [] .exact, .int .i64 0] [(0, 7), (7, 20)] parts := bldX_of zero125 Tryz.underlying125 (by kernel_rfl) (by kernel_rfl) parts
theorem lda143 {σ : Sg} {id off : Nat} : loadPV Tryz.prog σ 143 (.ptr id off) = ldS σ id off := ldS_of Tryz.underlying143 rfl
theorem sto143 {σ : Sg} {id off : Nat} {p : PV} : storePV Tryz.prog σ 143 (.ptr id off) p = stX 1 σ id off p := stX_of Tryz.underlying143 cells143 p
theorem app143 {σ : Sg} {l m : List PV} {own own' : Own} : appendPV Tryz.prog σ 143 143 (.isl l own) (.isl m own') = appX 1 1 σ l own m := appX_of Tryz.underlying143 Tryz.underlying5 cells5 bytes5 (by decide) (by decide) zero5 rfl
theorem fa145_1 {id off : Nat} : fieldAddrPV Tryz.prog 145 (.ptr id off) 1 = some (.ptr id (off + 1)) := fa1_of Tryz.underlying145 (by rfl) (by exact Tryz.underlying143) (by exact cells143) (by rfl) (by rfl)
theorem ela152 {σ : Sg} {es i off : Nat} {l : List PV} : loadPV Tryz.prog σ 152 (.eptr es l i off) = elA 4 l i off := elA_of Tryz.underlying152 rfl cells152
theorem sto152 {σ : Sg} {id off : Nat} {p : PV} : storePV Tryz.prog σ 152 (.ptr id off) p = stX 4 σ id off p := stX_of Tryz.underlying152 cells152 p
theorem fa152_0 {id off : Nat} : fieldAddrPV Tryz.prog 152 (.ptr id off) 0 = some (.ptr id (off + 0)) := fa1_of Tryz.underlying152 (by rfl) (by exact Tryz.underlying9) (by exact cells9) (by rfl) (by rfl)
theorem fa152_1 {id off : Nat} : fieldAddrPV Tryz.prog 152 (.ptr id off) 1 = some (.ptr id (off + 1)) := fa1_of Tryz.underlying152 (by rfl) (by exact Tryz.underlying3) (by exact cells3) (by rfl) (by rfl)
theorem fae152_1 {es i off : Nat} {l : List PV} : fieldAddrPV Tryz.prog 152 (.eptr es l i off) 1 = some (.eptr es l i (off + 1)) := fa2_of Tryz.underlying152 (by rfl) (by exact Tryz.underlying3) (by exact cells3) (by rfl) (by rfl)
theorem fa152_2 {id off : Nat} : fieldAddrPV Tryz.prog 152 (.ptr id off) 2 = some (.ptr id (off + 2)) := fa1_of Tryz.underlying152 (by rfl) (by exact Tryz.underlying48) (by exact cells48) (by rfl) (by rfl)
theorem bld152 {parts : List (Nat × PV)} : buildPV Tryz.prog 152 parts = bldX [.str .empty, .int .i64 0, .int .i64 0, .int .i64 0] [(0, 1), (1, 1), (2, 2)] parts := bldX_of zero152 Tryz.underlying152 (by kernel_rfl) (by kernel_rfl) parts
theorem lda166 {σ : Sg} {id off : Nat} : loadPV Tryz.prog σ 166 (.ptr id off) = ldA 4 σ id off := ldA_of Tryz.underlying166 rfl cells166
theorem ela166 {σ : Sg} {es i off : Nat} {l : List PV} : loadPV Tryz.prog σ 166 (.eptr es l i off) = elA 4 l i off := elA_of Tryz.underlying166 rfl cells166
theorem sto166 {σ : Sg} {id off : Nat} {p : PV} : storePV Tryz.prog σ 166 (.ptr id off) p = stX 4 σ id off p := stX_of Tryz.underlying166 cells166 p
theorem fa166_0 {id off : Nat} : fieldAddrPV Tryz.prog 166 (.ptr id off) 0 = some (.ptr id (off + 0)) := fa1_of Tryz.underlying166 (by rfl) (by exact Tryz.underlying3) (by exact cells3) (by rfl) (by rfl)
theorem fa166_1 {id off : Nat} : fieldAddrPV Tryz.prog 166 (.ptr id off) 1 = some (.ptr id (off + 1)) := fa1_of Tryz.underlying166 (by rfl) (by exact Tryz.underlying3) (by exact cells3) (by rfl) (by rfl)
theorem fa166_2 {id off : Nat} : fieldAddrPV Tryz.prog 166 (.ptr id off) 2 = some (.ptr id (off + 2)) := fa1_of Tryz.underlying166 (by rfl) (by exact Tryz.underlying3) (by exact cells3) (by rfl) (by rfl)
theorem fa166_3 {id off : Nat} : fieldAddrPV Tryz.prog 166 (.ptr id off) 3 = some (.ptr id (off + 3)) := fa1_of Tryz.underlying166 (by rfl) (by exact Tryz.underlying22) (by exact cells22) (by rfl) (by rfl)
theorem bld166 {parts : List (Nat × PV)} : buildPV Tryz.prog 166 parts = bldX [.int .i64 0, .int .i64 0, .int .i64 0, .isl [] .exact] [(0, 1), (1, 1), (2, 1), (3, 1)] parts := bldX_of zero166 Tryz.underlying166 (by kernel_rfl) (by kernel_rfl) parts
theorem ela169 {σ : Sg} {es i off : Nat} {l : List PV} : loadPV Tryz.prog σ 169 (.eptr es l i off) = elA 3 l i off := elA_of Tryz.underlying169 rfl cells169
theorem sto169 {σ : Sg} {id off : Nat} {p : PV} : storePV Tryz.prog σ 169 (.ptr id off) p = stX 3 σ id off p := stX_of Tryz.underlying169 cells169 p
theorem fa169_0 {id off : Nat} : fieldAddrPV Tryz.prog 169 (.ptr id off) 0 = some (.ptr id (off + 0)) := fa1_of Tryz.underlying169 (by rfl) (by exact Tryz.underlying3) (by exact cells3) (by rfl) (by rfl)
theorem fa169_1 {id off : Nat} : fieldAddrPV Tryz.prog 169 (.ptr id off) 1 = some (.ptr id (off + 1)) := fa1_of Tryz.underlying169 (by rfl) (by exact Tryz.underlying3) (by exact cells3) (by rfl) (by rfl)
theorem fa169_2 {id off : Nat} : fieldAddrPV Tryz.prog 169 (.ptr id off) 2 = some (.ptr id (off + 2)) := fa1_of Tryz.underlying169 (by rfl) (by exact Tryz.underlying3) (by exact cells3) (by rfl) (by rfl)
theorem bld169 {parts : List (Nat × PV)} : buildPV Tryz.prog 169 parts = bldX [.int .i64 0, .int .i64 0, .int .i64 0] [(0, 1), (1, 1), (2, 1)] parts := bldX_of zero169 Tryz.underlying169 (by kernel_rfl) (by kernel_rfl) parts
theorem lda201 {σ : Sg} {id off : Nat} : loadPV Tryz.prog σ 201 (.ptr id off) = ldA 3 σ id off := ldA_of Tryz.underlying201 rfl cells201
theorem sto201 {σ : Sg} {id off : Nat} {p : PV} : storePV Tryz.prog σ 201 (.ptr id off) p = stX 3 σ id off p := stX_of Tryz.underlying201 cells201 p
theorem fa201_0 {id off : Nat} : fieldAddrPV Tryz.prog 201 (.ptr id off) 0 = some (.ptr id (off + 0)) := fa1_of Tryz.underlying201 (by rfl) (by exact Tryz.underlying25) (by exact cells25) (by rfl) (by rfl)
theorem fa201_1 {id off : Nat} : fieldAddrPV Tryz.prog 201 (.ptr id off) 1 = some (.ptr id (off + 1)) := fa1_of Tryz.underlying201 (by rfl) (by exact Tryz.underlying22) (by exact cells22) (by rfl) (by rfl)
theorem fa201_2 {id off : Nat} : fieldAddrPV Tryz.prog 201 (.ptr id off) 2 = some (.ptr id (off + 2)) := fa1_of Tryz.underlying201 (by rfl) (by exact Tryz.underlying3) (by exact cells3) (by rfl) (by rfl)
theorem bld201 {parts : List (Nat × PV)} : buildPV Tryz.prog 201 parts = bldX [.isl [] .exact, .isl [] .exact, .int .i64 0] [(0, 1), (1, 1), (2, 1)] parts := bldX_of zero201 Tryz.underlying201 (by kernel_rfl) (by kernel_rfl) parts
theorem ia204 {l : List PV} {own : Own} {k : IntKind} {i : Int} : indexAddrPV Tryz.prog 204 (.isl l own) (.int k i) = iaX 3 l i := iaX_of Tryz.underlying204 Tryz.underlying112 cells112 k i
theorem len204 {l : List PV} {own : Own} : lenPV Tryz.prog 204 (.isl l own) = some (.int .i64 l.length) := len_of Tryz.underlying204
theorem bs204 {len : Nat} {parts : List (Nat × PV)} : buildSlicePV Tryz.prog 204 len parts = bsX 3 len parts := bsX_of Tryz.underlying204 Tryz.underlying112 cells112 zero112 len parts
theorem app204 {σ : Sg} {l m : List PV} {own own' : Own} : appendPV Tryz.prog σ 204 204 (.isl l own) (.isl m own') = appX 3 24 σ l own m := appX_of Tryz.underlying204 Tryz.underlying112 cells112 bytes112 (by decide) (by decide) zero112 rfl
theorem ela211 {σ : Sg} {es i off : Nat} {l : List PV} : loadPV Tryz.prog σ 211 (.eptr es l i off) = elS l i off := elS_of Tryz.underlying211 rfl
theorem ela223 {σ : Sg} {es i off : Nat} {l : List PV} : loadPV Tryz.prog σ 223 (.eptr es l i off) = elA 2 l i off := elA_of Tryz.underlying223 rfl cells223
theorem sto223 {σ : Sg} {id off : Nat} {p : PV} : storePV Tryz.prog σ 223 (.ptr id off) p = stX 2 σ id off p := stX_of Tryz.underlying223 cells223 p
theorem fa223_0 {id off : Nat} : fieldAddrPV Tryz.prog 223 (.ptr id off) 0 = some (.ptr id (off + 0)) := fa1_of Tryz.underlying223 (by rfl) (by exact Tryz.underlying3) (by exact cells3) (by rfl) (by rfl)
theorem fa223_1 {id off : Nat} : fieldAddrPV Tryz.prog 223 (.ptr id off) 1 = some (.ptr id (off + 1)) := fa1_of Tryz.underlying223 (by rfl) (by exact Tryz.underlying3) (by exact cells3) (by rfl) (by rfl)
theorem bld223 {parts : List (Nat × PV)} : buildPV Tryz.prog 223 parts = bldX [.int .i64 0, .int .i64 0] [(0, 1), (1, 1)] parts := bldX_of zero223 Tryz.underlying223 (by kernel_rfl) (by kernel_rfl) parts
theorem lda258 {σ : Sg} {id off : Nat} : loadPV Tryz.prog σ 258 (.ptr id off) = ldA 7 σ id off := ldA_of Tryz.underlying258 rfl cells258
theorem ela258 {σ : Sg} {es i off : Nat} {l : List PV} : loadPV Tryz.prog σ 258 (.eptr es l i off) = elA 7 l i off := elA_of Tryz.underlying258 rfl cells258
theorem sto258 {σ : Sg} {id off : Nat} {p : PV} : storePV Tryz.prog σ 258 (.ptr id off) p = stX 7 σ id off p := stX_of Tryz.underlying258 cells258 p
theorem fa258_0 {id off : Nat} : fieldAddrPV Tryz.prog 258 (.ptr id off) 0 = some (.ptr id (off + 0)) := fa1_of Tryz.underlying258 (by rfl) (by exact Tryz.underlying48) (by exact cells48) (by rfl) (by rfl)
theorem fa258_1 {id off : Nat} : fieldAddrPV Tryz.prog 258 (.ptr id off) 1 = some (.ptr id (off + 2)) := fa1_of Tryz.underlying258 (by rfl) (by exact Tryz.underlying48) (by exact cells48) (by rfl) (by rfl)
theorem fa258_2 {id off : Nat} : fieldAddrPV Tryz.prog 258 (.ptr id off) 2 = some (.ptr id (off + 4)) := fa1_of Tryz.underlying258 (by rfl) (by exact Tryz.underlying3) (by exact cells3) (by rfl) (by rfl)
theorem fa258_3 {id off : Nat} : fieldAddrPV Tryz.prog 258 (.ptr id off) 3 = some (.ptr id (off + 5)) := fa1_of Tryz.underlying258 (by rfl) (by exact Tryz.underlying3) (by exact cells3) (by rfl) (by rfl)
theorem fa258_4 {id off : Nat} : fieldAddrPV Tryz.prog 258 (.ptr id off) 4 = some (.ptr id (off + 6)) := fa1_of Tryz.underlying258 (by rfl) (by exact Tryz.underlying22) (by exact cells22) (by rfl) (by rfl)
theorem bld258 {parts : List (Nat × PV)} : buildPV Tryz.prog 258 parts = bldX [.int .i64 0, .int .i64 0, .int .i64 0, .int .i64 0, .int .i64 0, .int .i64 0, .isl [] .exact] [(0, 2), (2, 2), (4, 1), (5, 1), (6, 1)] parts := bldX_of zero258 Tryz.underlying258 (by kernel_rfl) (by kernel_rfl) parts
theorem ia269 {l : List PV} {own : Own} {k : IntKind} {i : Int} : indexAddrPV Tryz.prog 269 (.isl l own) (.int k i) = iaX 1 l i := iaX_of Tryz.underlying269 Tryz.underlying211 cells211 k i
theorem len269 {l : List PV} {own : Own} : lenPV Tryz.prog 269 (.isl l own) = some (.int .i64 l.length) := len_of Tryz.underlying269
theorem bs269 {len : Nat} {parts : List (Nat × PV)} : buildSlicePV Tryz.prog 269 len parts = bsX 1 len parts := bsX_of Tryz.underlying269 Tryz.underlying211 cells211 zero211 len parts
theorem lda276 {σ : Sg} {id off : Nat} : loadPV Tryz.prog σ 276 (.ptr id off) = ldA 2 σ id off := ldA_of Tryz.underlying276 rfl cells276
theorem sto276 {σ : Sg} {id off : Nat} {p : PV} : storePV Tryz.prog σ 276 (.ptr id off) p = stX 2 σ id off p := stX_of Tryz.underlying276 cells276 p
theorem fa276_0 {id off : Nat} : fieldAddrPV Tryz.prog 276 (.ptr id off) 0 = some (.ptr id (off + 0)) := fa1_of Tryz.underlying276 (by rfl) (by exact Tryz.underlying121) (by exact cells121) (by rfl) (by rfl)
theorem fa276_1 {id off : Nat} : fieldAddrPV Tryz.prog 276 (.ptr id off) 1 = some (.ptr id (off + 1)) := fa1_of Tryz.underlying276 (by rfl) (by exact Tryz.underlying22) (by exact cells22) (by rfl) (by rfl)
theorem bld276 {parts : List (Nat × PV)} : buildPV Tryz.prog 276 parts = bldX [.nilptr, .isl [] .exact] [(0, 1), (1, 1)] parts := bldX_of zero276 Tryz.underlying276 (by kernel_rfl) (by kernel_rfl) parts
theorem lda277 {σ : Sg} {id off : Nat} : loadPV Tryz.prog σ 277 (.ptr id off) = ldS σ id off := ldS_of Tryz.underlying277 rfl
theorem sto279 {σ : Sg} {id off : Nat} {p : PV} : storePV Tryz.prog σ 279 (.ptr id off) p = stX 2 σ id off p := stX_of Tryz.underlying279 cells279 p
theorem fa279_0 {id off : Nat} : fieldAddrPV Tryz.prog 279 (.ptr id off) 0 = some (.ptr id (off + 0)) := fa1_of Tryz.underlying279 (by rfl) (by exact Tryz.underlying9) (by exact cells9) (by rfl) (by rfl)
theorem fa279_1 {id off : Nat} : fieldAddrPV Tryz.prog 279 (.ptr id off) 1 = some (.ptr id (off + 1)) := fa1_of Tryz.underlying279 (by rfl) (by exact Tryz.underlying277) (by exact cells277) (by rfl) (by rfl)
theorem bld279 {parts : List (Nat × PV)} : buildPV Tryz.prog 279 parts = bldX [.str .empty, .nilfunc] [(0, 1), (1, 1)] parts := bldX_of zero279 Tryz.underlying279 (by kernel_rfl) (by kernel_rfl) parts
theorem lda330 {σ : Sg} {id off : Nat} : loadPV Tryz.prog σ 330 (.ptr id off) = ldA 2 σ id off := ldA_of Tryz.underlying330 rfl cells330
theorem sto330 {σ : Sg} {id off : Nat} {p : PV} : storePV Tryz.prog σ 330 (.ptr id off) p = stX 2 σ id off p := stX_of Tryz.underlying330 cells330 p
theorem ix330 {cs : List PV} {k : IntKind} {i : Int} : indexPV Tryz.prog 330 (.agg cs) (.int k i) = if 0 ≤ i ∧ i < (2 : Int) then cs[i.toNat]? else none := ixS_of Tryz.underlying330 Tryz.underlying3 rfl cells3 k i
attribute [go_sem] lda3 ela3 sto3 lda9 ela9 sto9 lda22 sto22 ia22 len22 bs22 app22 lda25 sto25 ia25 len25 bs25 app25 lda27 sto27 fa27_0 fa27_1 bld27 lda29 sto29 fa29_0 fa29_1 fa29_2 bld29 lda31 sto31 fa31_0 fa31_1 fa31_2 fa31_3 fa31_4 fa31_5 fa31_6 bld31 lda32 sto32 ia32 len32 bs32 app32 lda33 sto33 ia33 len33 bs33 app33 lda35 sto35 fa35_0 fa35_1 fa35_2 fa35_3 bld35 lda37 sto37 fa37_0 fa37_1 fa37_2 bld37 lda38 sto38 ia38 len38 bs38 app38 lda40 sto40 fa40_0 fa40_1 fa40_2 fa40_3 fa40_4 fa40_5 bld40 lda48 sto48 fa48_0 fa48_1 bld48 lda51 lda52 sto52 ia52 len52 bs52 app52 lda66 sto66 ia66 len66 bs66 app66 fa68_0 fa68_1 lda82 sto82 fa82_0 fp82_0 fa82_1 bld82 lda98 sto98 fa100_0 bld100 lda112 ela112 sto112 fa112_2 bld112 lda114 sto114 lda121 sto121 fa125_0 fa125_1 bld125 lda143 sto143 app143 fa145_1 ela152 sto152 fa152_0 fa152_1 fae152_1 fa152_2 bld152 lda166 ela166 sto166 fa166_0 fa166_1 fa166_2 fa166_3 bld166 ela169 sto169 fa169_0 fa169_1 fa169_2 bld169 lda201 sto201 fa201_0 fa201_1 fa201_2 bld201 ia204 len204 bs204 app204 ela211 ela223 sto223 fa223_0 fa223_1 bld223 lda258 ela258 sto258 fa258_0 fa258_1 fa258_2 fa258_3 fa258_4 bld258 ia269 len269 bs269 lda276 sto276 fa276_0 fa276_1 bld276 lda277 sto279 fa279_0 fa279_1 bld279 lda330 sto330 ix330 zero3 zero5 zero9 zero27 zero29 zero31 zero35 zero37 zero40 zero48 zero52 zero82 zero100 zero112 zero114 zero121 zero125 zero152 zero166 zero169 zero201 zero211 zero223 zero258 zero276 zero279 zero330
theorem seqN {K : Env → Sg → Prop} {Q : Exit → Env → Sg → Prop} {E : Env} {σ : Sg} : Seq K Q .normal E σ = K E σ := rfl
theorem seqR {K : Env → Sg → Prop} {Q : Exit → Env → Sg → Prop} {E : Env} {σ : Sg} : Seq K Q .ret E σ = Q .ret E σ := rfl
theorem seqX {K : Env → Sg → Prop} {Q : Exit → Env → Sg → Prop} {E : Env} {σ : Sg} {i : Nat} : Seq K Q (.exit i) E σ = Q (.exit i) E σ := rfl
theorem blkN {i : Nat} {Q : Exit → Env → Sg → Prop} {E : Env} {σ : Sg} : InBlock i Q .normal E σ = Q .normal E σ := rfl
theorem blkR {i : Nat} {Q : Exit → Env → Sg → Prop} {E : Env} {σ : Sg} : InBlock i Q .ret E σ = Q .ret E σ := rfl
theorem blkX {i j : Nat} {Q : Exit → Env → Sg → Prop} {E : Env} {σ : Sg} : InBlock i Q (.exit j) E σ = if j = i then Q .normal E σ else Q (.exit j) E σ := rfl
theorem range0 : List.range 0 = [] := rfl
theorem range1 : List.range 1 = [0] := rfl
theorem range2 : List.range 2 = [0, 1] := rfl
theorem range3 : List.range 3 = [0, 1, 2] := rfl
theorem range4 : List.range 4 = [0, 1, 2, 3] := rfl
theorem range5 : List.range 5 = [0, 1, 2, 3, 4] := rfl
theorem range6 : List.range 6 = [0, 1, 2, 3, 4, 5] := rfl
theorem range7 : List.range 7 = [0, 1, 2, 3, 4, 5, 6] := rfl
theorem range8 : List.range 8 = [0, 1, 2, 3, 4, 5, 6, 7] := rfl
theorem range9 : List.range 9 = [0, 1, 2, 3, 4, 5, 6, 7, 8] := rfl
theorem range10 : List.range 10 = [0, 1, 2, 3, 4, 5, 6, 7, 8, 9] := rfl
theorem range11 : List.range 11 = [0, 1, 2, 3, 4, 5, 6, 7, 8, 9, 10] := rfl
theorem range12 : List.range 12 = [0, 1, 2, 3, 4, 5, 6, 7, 8, 9, 10, 11] := rfl
theorem range13 : List.range 13 = [0, 1, 2, 3, 4, 5, 6, 7, 8, 9, 10, 11, 12] := rfl
theorem range14 : List.range 14 = [0, 1, 2, 3, 4, 5, 6, 7, 8, 9, 10, 11, 12, 13] := rfl
theorem range15 : List.range 15 = [0, 1, 2, 3, 4, 5, 6, 7, 8, 9, 10, 11, 12, 13, 14] := rfl
theorem range16 : List.range 16 = [0, 1, 2, 3, 4, 5, 6, 7, 8, 9, 10, 11, 12, 13, 14, 15] := rfl
attribute [go_sem] range0 range1 range2 range3 range4 range5 range6 range7 range8 range9 range10 range11 range12 range13 range14 range15 range16
attribute [go_sem low] Sg.push_new Sg.pushRoom_new Sg.pushY_new
attribute [go_sem] Sg.ext_ext
attribute [go_sem] seqN seqR seqX blkN blkR blkX
attribute [go_sem] GL GD GWant_true GWant_false GOpt_some GWho_nobody GWho_fn GWho_yield GOr_true wantedPV whom effOp pureOp isNilC isNilV isNilI ev constPV constPV0 Option.map Option.bind decide_false ite_true ite_false eq_self gt_iff_lt ge_iff_le Env.put Env.get dstOK Nat.reduceLT decide_true Nat.reduceEqDiff argsEnv Nat.reduceAdd binPV bin arith isShift pickPV keep List.map Bool.true_and Bool.and_true reduceIte List.getElem?_toArray List.getElem?_cons_succ List.getElem?_cons_zero beq_true beq_false Bool.not_true Bool.not_false Bool.false_eq_true true_and and_true undefs Dem Option.map_some Option.map_none builtinPV foldMax foldMin unPV extractPV oneOr Sg.push_ext Sg.pushRoom_ext Sg.len_ext Sg.rooms_ext Sg.ys_ext Sg.pushY_ext Sg.ysget_ext Sg.ysget_ext0 Sg.setY_ext Sg.setY_ext0 Sg.popY_ext Sg.popY_ext0 ldS_ext ldS_ext0 ldA_ext ldA_ext0 stX_ext stX_ext0 List.cons_append List.nil_append List.length_cons List.length_nil Nat.zero_add Nat.add_zero List.set_cons_zero List.set_cons_succ PV.cells_agg PV.cells_int PV.cells_bool PV.cells_str PV.cells_isl PV.cells_nilsl PV.cells_func PV.cells_ptr PV.cells_undef defd PV.scalar List.all_cons List.all_nil BEq.rfl Nat.le_refl Nat.reduceLeDiff putCells fillPV List.take_succ_cons List.take_zero List.drop_succ_cons List.drop_zero and_self Nat.reduceMul Nat.reducePow Nat.lt_add_one Nat.reduceBEq List.length_map List.take_nil List.drop_nil
theorem setVar_some {σ : Sg} {id i : Nat} {cs cs' x : List PV} (hid : σ.store[id]? = some (some cs)) (h : (σ.setVar id cs').store[i]? = some (some x)) : (i = id ∧ x = cs') ∨ (i ≠ id ∧ σ.store[i]? = some (some x)) := by
 have h' : (σ.store.set id (some cs'))[i]? = some (some x) := h
 rw [List.getElem?_set] at h'
 by_cases e : id = i
 ·subst e
  rw [if_pos rfl, if_pos (List.getElem?_eq_some_iff.1 hid).1] at h'
  injection h' with h'
  injection h' with h'
  exact .inl ⟨rfl, h'.symm⟩
 rw [if_neg e] at h'
 exact .inr ⟨fun e' => e e'.symm, h'⟩
theorem SR.reread {Ψ : Ty} {σ : Sg} {w : World} (h : SR Ψ σ w) {id : Nat} {cs cs' : List PV} (hid : σ.store[id]? = some (some cs))
 (hv : ∀ b, Ψ.β[id]? = some b → Keeps Ψ w b cs → Keeps Ψ w b cs') : SR Ψ (σ.setVar id cs') w := by
 have old : ∀ (i : Nat) (x : List PV), (σ.setVar id cs').store[i]? = some (some x) → ∃ y, σ.store[i]? = some (some y) := fun i x hx => by
  rcases setVar_some hid hx with ⟨rfl, _⟩ | ⟨_, h'⟩
  ·exact ⟨_, hid⟩
  exact ⟨_, h'⟩
 refine ⟨h.base, h.imm, by rw [sv_len]; exact h.blen, ?_, ?_, ?_, h.roomsApart, h.histlt, h.histle, h.βlt, h.yok, h.ylen', h.dok, ?_, h.szok⟩
 ·intro i x b hx hb
  rcases setVar_some hid hx with ⟨rfl, rfl⟩ | ⟨_, h'⟩
  ·obtain ⟨a1, a2, a0⟩ := h.block i cs b hid hb
   exact ⟨a1, a2, hv b hb a0⟩
  exact h.block i x b h' hb
 ·intro i i' x x' b hx hx' hb hb'
  obtain ⟨y, hy⟩ := old i x hx
  obtain ⟨y', hy'⟩ := old i' x' hx'
  exact h.apart i i' y y' b hy hy' hb hb'
 ·intro r n b e c es hr hh hlt
  obtain ⟨a1, a2, a3, a4⟩ := h.room r n b e c es hr hh hlt
  refine ⟨a1, a2, fun i hi x hx => ?_, a4⟩
  obtain ⟨y, hy⟩ := old i x hx
  exact a3 i hi y hy
 intro b c hm
 obtain ⟨a1, a2, a3, a4, a5⟩ := h.rok b c hm
 refine ⟨a1, a2, fun i hi x hx => ?_, a4, a5⟩
 obtain ⟨y, hy⟩ := old i x hx
 exact a3 i hi y hy
theorem Keeps.setRo {Ψ : Ty} {w : World} {b off : Nat} {cs : List PV} {p : PV} (h : Keeps Ψ w b cs) (hp : cs[off]? = some p) : Keeps Ψ w b (cs.set off p.ro) := by
 have hlt : off < cs.length := (List.getElem?_eq_some_iff.1 hp).1
 have at' : ∀ (j : Nat) (q : PV), (cs.set off p.ro)[j]? = some q → (j = off ∧ q = p.ro) ∨ cs[j]? = some q := by
  intro j q hq
  rw [List.getElem?_set] at hq
  by_cases e : off = j
  ·rw [if_pos e, if_pos hlt] at hq
   injection hq with hq
   exact .inl ⟨e.symm, hq.symm⟩
  rw [if_neg e] at hq
  exact .inr hq
 rcases h with ⟨c, a3, a4, a5⟩ | ⟨arr, es, rfl, a3, a4, a5⟩ | ⟨mid, r, n, seen, rfl, a3, a4⟩
 ·refine .inl ⟨c, a3, by simpa using a4, fun j q v h1 h2 => ?_⟩
  rcases at' j q h1 with ⟨rfl, rfl⟩ | h1
  ·exact (a5 j p v hp h2).ro
  exact a5 j q v h1 h2
 ·rcases off with _ | off
  ·simp at hp
   subst hp
   exact .inr (.inl ⟨arr, es, rfl, a3, a4, a5⟩)
  refine .inr (.inl ⟨arr, es.set off p.ro, rfl, a3, by simpa using a4, fun j q e h1 h2 => ?_⟩)
  simp only [List.getElem?_cons_succ] at hp
  rcases at' (j + 1) q (by simpa using h1) with ⟨hj, rfl⟩ | h1
  ·have : j = off := by omega
   subst this
   obtain ⟨g1, k, v, rfl, g2, g3⟩ := a5 j p e hp h2
   exact ⟨g1, k.ro, v.ro, rfl, g2.ro, g3.ro⟩
  exact a5 j q e (by simpa using h1) h2
 rcases off with _ | off
 ·simp at hp
  subst hp
  exact .inr (.inr ⟨mid, r, n, seen, rfl, a3, a4⟩)
 simp at hp
theorem Weak.roomV {N : Nat} {lo : Nat × Nat} {E : Env} {σ : Sg} {id off es : Nat} {cs l : List PV} (hid : σ.store[id]? = some (some cs)) (hc : cs[off]? = some (.isl l .exact)) (hes : ∀ q, q ∈ l → q.cells.length = es) :
 Weak N lo E σ E ((σ.setVar id (cs.set off (.isl l (.tok σ.rooms.length l.length es)))).pushRoom l.length) := by
 intro Ψ0 Ψ D a w hb le hr
 obtain ⟨b, hβ⟩ : ∃ b, Ψ.β[id]? = some b := by
  have : id < Ψ.β.length := by rw [hr.sg.blen]; exact (List.getElem?_eq_some_iff.1 hid).1
  exact ⟨Ψ.β[id], by simp [this]⟩
 obtain ⟨_, _, h0⟩ := hr.sg.block id cs b hid hβ
 obtain ⟨c, hbi, hcl, hcv⟩ : ∃ c, blockIs w b c ∧ cs.length ≤ c.size ∧ ∀ (j : Nat) (p : PV) (v : Value), cs[j]? = some p → c[j]? = some v → VR Ψ p v := by
  rcases h0 with h0 | ⟨arr, es, rfl, _, g1, g2⟩ | ⟨mid, r, n, seen, rfl, _, _⟩
  ·exact h0
  rotate_left
  ·rcases off with _ | off
   ·simp at hc
   simp at hc
  rcases off with _ | off
  ·simp at hc
  simp only [List.getElem?_cons_succ] at hc
  have hlt : off < arr.size := by rw [g1]; exact (List.getElem?_eq_some_iff.1 hc).1
  obtain ⟨_, k, v, e, _⟩ := g2 off _ arr[off] hc (by simp [hlt])
  cases e
 have hoff : off < cs.length := (List.getElem?_eq_some_iff.1 hc).1
 have hoc : off < c.size := Nat.lt_of_lt_of_le hoff hcl
 have hv : VR Ψ (.isl l .exact) c[off] := hcv off _ _ hc (by simp [hoc])
 have fin : ∀ x : Option (Nat × Nat × Nat × Nat), (∀ b e c s, x = some (b, e, c, s) → ¬ e < c) → (∀ Ψ', Ψ.le Ψ' → Ψ'.hist σ.rooms.length l.length = some x → VR Ψ' (.isl l (.tok σ.rooms.length l.length es)) c[off]) →
  ∃ Ψ', Ψ0.le Ψ' ∧ Rel N D Ψ' E ((σ.setVar id (cs.set off (.isl l (.tok σ.rooms.length l.length es)))).pushRoom l.length) a w := by
  intro x hx hvr
  obtain ⟨le', hs'⟩ := hr.sg.newRoom l.length x (fun b e c s hh hlt => absurd hlt (hx b e c s hh))
  have hnew := hvr _ le' (by simp [Ty.addHist])
  have hid' : (σ.pushRoom l.length).store[id]? = some (some cs) := hid
  have hs2 := hs'.reread (cs' := cs.set off (.isl l (.tok σ.rooms.length l.length es))) hid' (fun b2 hb2 h2 => by
   have e1 : b2 = b := by
    have := le'.β id b hβ
    rw [hb2] at this; injection this
   subst e1
   obtain ⟨g1, g2⟩ := h2.cells hbi
   refine .inl ⟨c, hbi, by simpa using g1, fun j p v h1 h2 => ?_⟩
   rw [List.getElem?_set] at h1
   by_cases hj : off = j
   ·subst hj
    rw [if_pos rfl, if_pos hoff] at h1
    injection h1 with h1
    subst h1
    have : v = c[off] := by simpa [hoc] using h2.symm
    rw [this]; exact hnew
   rw [if_neg hj] at h1
   exact g2 j p v h1 h2)
  refine ⟨_, le.trans le', hr.size, ⟨fun t' => (hr.env t').mono le', hr.env.gt.mono le'⟩, hs2, fun d hd => le'.ds _ (hr.dsub d hd), ?_⟩
  obtain ⟨rs, r1, r2, r3⟩ := hr.defs
  exact ⟨rs, r1, r2, fun r hm => ⟨le'.ds _ (r3 r hm).1, (r3 r hm).2⟩⟩
 generalize hx : c[off] = x at hv fin
 cases hv with
 | islnil _ a0 _ => exact fin none (fun b e c s h => by cases h) fun Ψ' _ hh => .islnil _ a0 ⟨_, hh⟩
 | isl es0 _ _ b o cap vals hs h1 h2 hc' ho =>
  have hcap : cap = l.length := ho
  subst hcap
  refine fin (some (b, o + l.length * es, o + l.length * es, es)) (fun b e c s h => by injection h with h; injection h with _ h; injection h with h1 h; injection h with h2 _; omega) fun Ψ' le' hh => ?_
  by_cases hl : l = []
  ·subst hl
   exact .isl es [] _ b o 0 vals (fun k e h => by simp at h) (fun k e j p h => by simp at h) (fun k e j p h => by simp at h) (Nat.le_refl _) ⟨rfl, hh⟩
  have : es0 = es := by
   cases l with
   | nil => exact absurd rfl hl
   | cons q l => rw [← hs 0 q rfl]; exact hes q (by simp)
  subst this
  exact .isl es0 l _ b o _ vals hs (fun k e j p q1 q2 => le'.imm _ _ _ (h1 k e j p q1 q2)) (fun k e j p q1 q2 => (h2 k e j p q1 q2).mono le') (Nat.le_refl _) ⟨rfl, hh⟩
/-- The same for a variable that is new. -/
theorem Weak.roomX {N : Nat} {lo : Nat × Nat} {E : Env} {σ : Sg} {l : List (Option (List PV))} {rm : List Nat} {ys : List LState} {j off es : Nat} {cs m : List PV} (hid : l[j]? = some (some cs)) (hc : cs[off]? = some (.isl m .exact)) (hes : ∀ q, q ∈ m → q.cells.length = es) :
 Weak N lo E (σ.ext l rm ys) E (σ.ext (l.set j (some (cs.set off (.isl m (.tok (σ.rooms.length + rm.length) m.length es))))) (rm ++ [m.length]) ys) := by
 have h := Weak.roomV (N := N) (lo := lo) (E := E) (σ := σ.ext l rm ys) (id := σ.store.length + j) (off := off) (es := es) (cs := cs) (l := m) (by rw [Sg.get_ext]; exact hid) hc hes
 rw [Sg.rooms_ext, Sg.set_ext, Sg.pushRoom_ext] at h
 exact h
theorem Weak.roomSV {N : Nat} {lo : Nat × Nat} {E : Env} {σ : Sg} {d : Nat} {ds : List PV} {l : List (Option (List PV))} {rm : List Nat} {ys : List LState} {j off es : Nat} {cs m : List PV} (hid : l[j]? = some (some cs)) (hc : cs[off]? = some (.isl m .exact)) (hes : ∀ q, q ∈ m → q.cells.length = es) :
 Weak N lo E ((σ.setVar d ds).ext l rm ys) E ((σ.setVar d ds).ext (l.set j (some (cs.set off (.isl m (.tok (σ.rooms.length + rm.length) m.length es))))) (rm ++ [m.length]) ys) := by
 have h := Weak.roomX (N := N) (lo := lo) (E := E) (σ := σ.setVar d ds) (rm := rm) (ys := ys) hid hc hes
 exact h
/-- Cut back, where a variable that was there before was set. -/
theorem Weak.cutSV {N : Nat} {lo : Nat × Nat} {E : Env} {σ : Sg} {d : Nat} {ds : List PV} {l : List (Option (List PV))} {rm : List Nat} {ys : List LState} (k j : Nat) (h1 : lo.1 ≤ σ.store.length + k) (h2 : lo.2 ≤ σ.rooms.length + j) (hcl : CleanSg σ) (hds : CleanAll σ.store.length σ.rooms.length σ.ys.length ds)
 (hc : CleanLs (σ.store.length + k) (σ.rooms.length + j) (σ.ys.length + ys.length) (l.take k)) (hE : CleanEs (σ.store.length + k) (σ.rooms.length + j) (σ.ys.length + ys.length) E) :
 Weak N lo E ((σ.setVar d ds).ext l rm ys) E ((σ.setVar d ds).ext (l.take k) (rm.take j) ys) := by
 have h := Weak.cutX (N := N) (lo := lo) (E := E) (σ := σ.setVar d ds) (l := l) (rm := rm) (ys := ys) k j (by rw [sv_len]; exact h1) h2 (CleanSg_set hcl hds) (by rw [sv_len]; exact hc) (by rw [sv_len]; exact hE)
 exact h
theorem Weak.roV {N : Nat} {lo : Nat × Nat} {E : Env} {σ : Sg} {id off : Nat} {cs : List PV} {p : PV} (hid : σ.store[id]? = some (some cs)) (hc : cs[off]? = some p) : Weak N lo E σ E (σ.setVar id (cs.set off p.ro)) := by
 intro Ψ0 Ψ D a w hb le hr
 have hs2 := hr.sg.reread (cs' := cs.set off p.ro) hid (fun b hb2 h2 => h2.setRo hc)
 exact ⟨Ψ, le, hr.size, hr.env, hs2, hr.dsub, hr.defs⟩
theorem Weak.roX {N : Nat} {lo : Nat × Nat} {E : Env} {σ : Sg} {l : List (Option (List PV))} {rm : List Nat} {ys : List LState} {j off : Nat} {cs : List PV} {p : PV} (hid : l[j]? = some (some cs)) (hc : cs[off]? = some p) :
 Weak N lo E (σ.ext l rm ys) E (σ.ext (l.set j (some (cs.set off p.ro))) rm ys) := by
 have h := Weak.roV (N := N) (lo := lo) (E := E) (σ := σ.ext l rm ys) (id := σ.store.length + j) (off := off) (cs := cs) (p := p) (by rw [Sg.get_ext]; exact hid) hc
 rw [Sg.set_ext] at h
 exact h
theorem Weak.roSV {N : Nat} {lo : Nat × Nat} {E : Env} {σ : Sg} {d : Nat} {ds : List PV} {l : List (Option (List PV))} {rm : List Nat} {ys : List LState} {j off : Nat} {cs : List PV} {p : PV} (hid : l[j]? = some (some cs)) (hc : cs[off]? = some p) :
 Weak N lo E ((σ.setVar d ds).ext l rm ys) E ((σ.setVar d ds).ext (l.set j (some (cs.set off p.ro))) rm ys) := Weak.roX hid hc
theorem op_step {D : List Nat} {P : Program} {N : Nat} {rd : Option Nat} {ops : Array Oper} {Ψ0 : Ty} {Q : Exit → Act → World → Prop} {E : Env} {σ : Sg} {Ψ : Ty} {a : Act} {w : World} {o : Oper} {i : Nat} {is : List Nat} {v : PV}
 (hr : Rel N D Ψ E σ a w) (ho : ops[i]? = some o) (hd : dstOK N o = true) (hg : o.guard = none) (hnd : ∀ c, o.op ≠ .defer c) {x : Value} (hx : (execOp a.eval o).run P w = .ok (.value x) w) (hv : VR Ψ v x)
 (k : ∀ a', Rel N D Ψ (E.put o.dst v) σ a' w → wpOpsIn (FnOf Ψ0 rd) 0 P ops Q is a' w) : wpOpsIn (FnOf Ψ0 rd) 0 P ops Q (i :: is) a w := by
 simp only [wpOpsIn, ho]
 have hw : wantedPV ops E o = some true := by simp [wantedPV, hg]
 rw [wanted_ok hw hr.env]
 simp only [if_true]
 refine ⟨fun f _ => FnOf_fn _ _ _, ?_⟩
 rw [Oper.semAt_eq _ _ _ hnd, hx]
 exact k _ (hr.put (Ty.le.refl _) hr.sg hd hv)
theorem W_isnil {P : Program} {Y : YEnv} {N : Nat} {rd : Option Nat} {lo : Nat × Nat} {id d1 d2 : Nat} {x : Operand} {t ty1 ty2 e : TypeId} {p1 p2 : String} {af1 af2 : Array Edge} {sh : TypeId} {E : Env} {σ : Sg} {Q : Exit → Env → Sg → Prop} {l : List PV} {own : Own} (ks : List Nat)
 (h1 : d1 < N) (h2 : d2 < N) (hx : ev E x = .isl l own) (ht : P.underlying t = some (.slice e))
 (h : ∀ b : Bool, (b = true → l = []) → Q .normal (keep ks ((d2, .bool b) :: (d1, .isl l own) :: E)) σ) :
 W P Y N rd lo (.region id #[{ dst := some d1, op := .move x, type := ty1, pos := p1, after := af1, guard := none }, { dst := some d2, op := .binOp .eql t (.tmp d1) (.const (.slice none 0 0)) sh, type := ty2, pos := p2, after := af2, guard := none }] false) E σ Q := by
 intro Ψ0 D _ hy _ Ψ a w le hr
 refine wpIn_region ?_
 have hv := ev_ok hr.env x
 rw [hx] at hv
 refine op_step (is := [1]) (v := .isl l own) hr rfl (by simp [dstOK, h1]) rfl (fun c e => by cases e) (x := a.eval x) rfl hv fun a1 hr1 => ?_
 have hv1 : VR Ψ (.isl l own) (a1.tmps.getD d1 undef) := by
  have : VR Ψ ((Env.put E (some d1) (.isl l own)).get d1) (a1.tmps.getD d1 undef) := hr1.env d1
  rw [show (Env.put E (some d1) (.isl l own)).get d1 = .isl l own by simp [Env.get]] at this
  exact this
 have hval : ∃ q n c, a1.tmps.getD d1 undef = .slice q n c ∧ (q.isNone = true → l = []) := by
  generalize a1.tmps.getD d1 undef = z at hv1
  cases hv1 with
  | islnil _ _ _ => exact ⟨_, _, _, rfl, fun _ => rfl⟩
  | isl es _ _ b o cap vals hs h1 h2 hc ho => exact ⟨_, _, _, rfl, fun h => by simp at h⟩
 obtain ⟨q, n, c, hz, hq⟩ := hval
 have he : (a1.eval (.tmp d1)) = .slice q n c := hz
 have hrun : ∀ o : Oper, o.op = .binOp .eql t (.tmp d1) (.const (.slice none 0 0)) sh → (execOp a1.eval o).run P w = .ok (.value (.bool q.isNone)) w := by
  intro o ho
  have e1 : execOp a1.eval o = (do pure (.value (← (do eqGuard .eql t (.tmp d1) (.const (.slice none 0 0)) (a1.eval (.tmp d1)) (a1.eval (.const (.slice none 0 0))); binOp .eql t (a1.eval (.tmp d1)) (a1.eval (.const (.slice none 0 0))) : Sem Value)))) := by
   unfold execOp; rw [ho]
  have he2 : a1.eval (.const (.slice none 0 0)) = .slice none 0 0 := rfl
  rw [e1, he, he2]
  have hg : (eqGuard .eql t (.tmp d1) (.const (.slice none 0 0)) (.slice q n c) (.slice none 0 0)).run P w = .ok () w := rfl
  have hb : (binOp .eql t (.slice q n c) (.slice none 0 0)).run P w = .ok (.bool q.isNone) w := by
   have heq : (Op.equal t (.slice q n c) (.slice none 0 0)).run P w = .ok q.isNone w := by
    unfold Op.equal
    show (Op.equalIn (9999 + 1) t (.slice q n c) (.slice none 0 0)).run P w = _
    unfold Op.equalIn
    rw [run_bind_ok (run_und ht)]
    cases q <;> rfl
   show (do pure (.bool (← Op.equal t (.slice q n c) (.slice none 0 0))) : Sem Value).run P w = _
   rw [run_bind_ok heq]; rfl
  have hgb : (do eqGuard .eql t (.tmp d1) (.const (.slice none 0 0)) (.slice q n c) (.slice none 0 0); binOp .eql t (.slice q n c) (.slice none 0 0) : Sem Value).run P w = .ok (.bool q.isNone) w := by
   rw [run_bind_ok hg]; exact hb
  rw [run_bind_ok hgb]
  rfl
 refine op_step (is := []) (v := .bool q.isNone) hr1 rfl (by simp [dstOK, h2]) rfl (fun c e => by cases e) (x := .bool q.isNone) (hrun _ rfl) (.bool _) fun a2 hr2 => ?_
 exact ⟨_, σ, Ψ, le, hr2.keep ks, Below.refl _ _, h _ hq⟩
/-- The owner of a part of a slice. -/
theorem slHi_of {P : Program} {t e : TypeId} {d : TypeDesc} (h : P.underlying t = some (.slice e)) (he : P.underlying e = some d) (l : List PV) (own : Own) (k : IntKind) (n : Int) :
 slicePV P t (.isl l own) none (some (.int k n)) none = if 0 ≤ n then if n.toNat ≤ l.length then some (.isl (l.take n.toNat) (sliceOwn own 0 n.toNat l.length)) else none else none := by
 unfold slicePV
 rw [h]
 simp only [he, bnd]
 by_cases hn : 0 ≤ n
 ·simp [hn]
 simp [hn]
/-- Without an owner. -/
theorem sliceOwn_ro {lo h len : Nat} : sliceOwn .ro lo h len = .ro := by unfold sliceOwn; split <;> rfl
theorem sliceOwn_self {own : Own} {lo len : Nat} : sliceOwn own lo len len = own := by simp [sliceOwn]
attribute [go_sem] sliceOwn_ro sliceOwn_self
theorem slLo_of {P : Program} {t e : TypeId} {d : TypeDesc} {c : Nat} (h : P.underlying t = some (.slice e)) (he : P.underlying e = some d) (hc : P.cellsOf e = c) {α : Type} {f : α → PV} (hf : ∀ x, (f x).cells.length = c) (xs : List α) (own : Own) (k : IntKind) (n : Int) :
 slicePV P t (.isl (xs.map f) own) (some (.int k n)) none none = if 0 ≤ n then if n.toNat ≤ xs.length then some (.isl ((xs.drop n.toNat).map f) own) else none else none := by
 have hall : (xs.map f).all (fun el => el.cells.length == c) = true := by
  rw [List.all_eq_true]
  intro p hp
  obtain ⟨x, _, rfl⟩ := List.mem_map.1 hp
  simp [hf]
 unfold slicePV
 rw [h]
 simp only [he, bnd, hc]
 by_cases hn : 0 ≤ n
 ·simp only [hn, if_true]
  by_cases hl : n.toNat ≤ xs.length
  ·rw [if_pos ⟨by simpa using hl, Nat.le_refl _, .inr hall⟩, if_pos hl, sliceOwn_self, ← List.map_drop, List.take_of_length_le (by simp)]
  rw [if_neg (fun q => hl (by simpa using q.1)), if_neg hl]
 simp [hn]
theorem slBoth_of {P : Program} {t e : TypeId} {d : TypeDesc} {c : Nat} (h : P.underlying t = some (.slice e)) (he : P.underlying e = some d) (hc : P.cellsOf e = c) {α : Type} {f : α → PV} (hf : ∀ x, (f x).cells.length = c) (xs : List α) (own : Own) (k k' : IntKind) (n m : Int) :
 slicePV P t (.isl (xs.map f) own) (some (.int k n)) (some (.int k' m)) none = if 0 ≤ n then if 0 ≤ m then if n.toNat ≤ m.toNat ∧ m.toNat ≤ xs.length then some (.isl (((xs.drop n.toNat).take (m.toNat - n.toNat)).map f) (sliceOwn own n.toNat m.toNat xs.length)) else none else none else none := by
 have hall : (xs.map f).all (fun el => el.cells.length == c) = true := by
  rw [List.all_eq_true]
  intro p hp
  obtain ⟨x, _, rfl⟩ := List.mem_map.1 hp
  simp [hf]
 unfold slicePV
 rw [h]
 simp only [he, bnd, hc]
 by_cases hn : 0 ≤ n
 ·by_cases hm : 0 ≤ m
  ·simp only [hn, hm, if_true]
   by_cases hl : n.toNat ≤ m.toNat ∧ m.toNat ≤ xs.length
   ·rw [if_pos ⟨hl.1, by simpa using hl.2, .inr hall⟩, if_pos hl]
    simp only [List.length_map, ← List.map_drop, ← List.map_take]
   rw [if_neg (fun q => hl ⟨q.1, by simpa using q.2.1⟩), if_neg hl]
  simp [hn, hm]
 simp [hn]
section
variable {P : Program} {t e : TypeId} {d : TypeDesc} {c b : Nat} {σ : Sg} {id len es : Nat}
theorem iaG_of (h : P.underlying t = some (.slice e)) (he : P.underlying e = some d) (hc : P.cellsOf e = c) (kd : IntKind) (len : Nat) (n : Int) : indexAddrPV P t (.gsl id len es) (.int kd n) = iaM c id 0 len n := by
 simp [indexAddrPV, h, he, hc, iaM]
def appG (c b : Nat) (σ : Sg) (x : PV) (m : List PV) : Option (PV × Sg) :=
  if m.all (fun q => (q.cells.length == c) && q.cells.all PV.scalar) && decide (0 < m.length) then
    (match x with
     | .gnil => if m.length * b ≤ 2 ^ 47 then some (.gsl σ.store.length m.length c, σ.push (rowC m)) else none
     | .gsl id len es => match σ.store[id]? with
       | some (some cs) => if es = c ∧ len * es ≤ cs.length ∧ (len + m.length) * b ≤ 2 ^ 47 then some (.gsl σ.store.length (len + m.length) es, (σ.drop id).push (cs.take (len * es) ++ rowC m)) else none
       | _ => none
     | _ => none)
  else none
theorem appG_of {zs : List PV} {x : PV} {m : List PV} {own : Own} (h : P.underlying t = some (.slice e)) (he : P.underlying e = some d) (hc : P.cellsOf e = c) (hb : P.bytesOf e = b) (hb0 : b ≠ 0) (hc0 : 0 < c) (hz : zeroPV P e = some zs) (hzl : zs.length = c) :
 appendG P σ t t x (.isl m own) = appG c b σ x m := by
 unfold appendG appG
 rw [h]
 simp only [he, hc, hb, hz, hzl, Option.isSome_some, Bool.true_and, Option.map_some, BEq.rfl, Bool.and_true, hb0, hc0, ne_eq, not_false_eq_true, and_self, decide_true]
 rfl
theorem appG_nil {m : List PV} (h1 : m.all (fun q => (q.cells.length == c) && q.cells.all PV.scalar) = true) (h2 : 0 < m.length) (h3 : m.length * b ≤ 2 ^ 47) : appG c b σ .gnil m = some (.gsl σ.store.length m.length c, σ.push (rowC m)) := by
 simp only [appG, h1, h2, h3, decide_true, Bool.and_true, if_true]
theorem appG_more {m cs : List PV} (hs : σ.store[id]? = some (some cs)) (hl : cs.length = len * c) (h1 : m.all (fun q => (q.cells.length == c) && q.cells.all PV.scalar) = true) (h2 : 0 < m.length) (h3 : (len + m.length) * b ≤ 2 ^ 47) :
 appG c b σ (.gsl id len c) m = some (.gsl σ.store.length (len + m.length) c, (σ.drop id).push (cs ++ rowC m)) := by
 simp only [appG, h1, h2, decide_true, Bool.and_true, if_true, hs]
 rw [if_pos ⟨trivial, by omega, h3⟩, List.take_of_length_le (by omega)]
end
theorem get_put1 (E : Env) (t : Nat) (v : PV) (t' : Nat) : (E.put (some t) v).get t' = if t' = t then v else E.get t' := by
 simp only [Env.put_some, Env.get]
 by_cases h : t' = t
 ·subst h; simp
 simp [h, Ne.symm h]
theorem rowC_at {es : Nat} : ∀ {l : List PV} (_ : ∀ q ∈ l, q.cells.length = es) {k j : Nat} {q p : PV}, l[k]? = some q → q.cells[j]? = some p → (rowC l)[k * es + j]? = some p := by
 intro l
 induction l with
 | nil => intro _ k j q p h; simp at h
 | cons a l ih =>
  intro hl k j q p h1 h2
  have ha := hl a (by simp)
  have e : rowC (a :: l) = a.cells ++ rowC l := by simp [rowC]
  rw [e]
  cases k with
  | zero =>
   simp at h1
   subst h1
   rw [Nat.zero_mul, Nat.zero_add, List.getElem?_append_left (List.getElem?_eq_some_iff.1 h2).1]
   exact h2
  | succ k =>
   have := ih (fun q hq => hl q (by simp [hq])) (by simpa using h1) h2
   rw [List.getElem?_append_right (by rw [ha, Nat.add_mul]; omega), ha, show (k + 1) * es + j - es = k * es + j by rw [Nat.add_mul]; omega]
   exact this
theorem Sg.drop_ext {σ : Sg} {l : List (Option (List PV))} {rm : List Nat} {ys : List LState} (j : Nat) : (σ.ext l rm ys).drop (σ.store.length + j) = σ.ext (l.set j none) rm ys := by
 simp [Sg.drop, Sg.ext, List.set_append]
theorem Sg.drop_ext0 {σ : Sg} {l : List (Option (List PV))} {rm : List Nat} {ys : List LState} : (σ.ext l rm ys).drop σ.store.length = σ.ext (l.set 0 none) rm ys := Sg.drop_ext 0
attribute [go_sem] Sg.drop_ext Sg.drop_ext0
/-- What a variable held is read of a temporary, and is never written again. -/
theorem Weak.freeze {N : Nat} {lo : Nat × Nat} {E : Env} {σ : Sg} {t id len es : Nat} {l : List PV} (ht : E.get t = .gsl id len es) (hs : σ.store[id]? = some (some (rowC l))) (hl : l.length = len) (hes : ∀ q ∈ l, q.cells.length = es) :
 Weak N lo E σ (E.put (some t) (.isl l .ro)) (σ.drop id) := by
 intro Ψ0 Ψ D a w hb le hr
 have hv := hr.env t
 rw [ht] at hv
 generalize hx : a.tmps.getD t undef = x at hv
 cases hv with
 | gsl _ _ _ b cap hβ hz1 hz0 hc =>
 obtain ⟨_, _, hkp⟩ := hr.sg.block id _ b hs hβ
 obtain ⟨c, hbk, _⟩ := hkp.blk (hr.sg.szok b _ hz0)
 obtain ⟨a4, a5⟩ := hkp.cells hbk
 obtain ⟨le2, hs2⟩ := hr.sg.freeze hs hβ hbk
 refine ⟨_, le.trans le2, hr.size, ⟨fun t' => ?_, hr.env.gt.mono le2⟩, hs2, fun d hd => le2.ds _ (hr.dsub d hd), ?_⟩
 ·rw [get_put1]
  split
  ·rename_i e
   subst e
   rw [hx, ← hl]
   have hat : ∀ (k : Nat) (q : PV) (j : Nat) (p : PV), l[k]? = some q → q.cells[j]? = some p → (rowC l)[k * es + j]? = some p ∧ k * es + j < c.size := fun k q j p q1 q2 => by
    have := rowC_at hes q1 q2
    exact ⟨this, Nat.lt_of_lt_of_le (List.getElem?_eq_some_iff.1 this).1 a4⟩
   refine .isl es l .ro b 0 cap (fun k j => c.getD (k * es + j) undef) (fun k q hk => hes q (List.mem_of_getElem? hk)) (fun k q j p q1 q2 => ?_) (fun k q j p q1 q2 => ?_) (by omega) trivial
   ·obtain ⟨_, hlt⟩ := hat k q j p q1 q2
    simp only [Ty.addImm, Nat.zero_add]
    rw [if_pos ⟨trivial, Nat.zero_le _, hlt⟩]
    simp [Array.getD, hlt]
   obtain ⟨h1, hlt⟩ := hat k q j p q1 q2
   refine (a5 _ p _ h1 ?_).mono le2
   simp [Array.getD, hlt]
  exact (hr.env t').mono le2
 obtain ⟨rs, r1, r2, r3⟩ := hr.defs
 exact ⟨rs, r1, r2, fun r hm => ⟨le2.ds _ (r3 r hm).1, (r3 r hm).2⟩⟩
/-- A slice without room, told otherwise: to grow in place. -/
theorem Weak.gnil {N : Nat} {lo : Nat × Nat} {E : Env} {σ : Sg} {t : Nat} (ht : E.get t = .isl [] .exact) : Weak N lo E σ (E.put (some t) .gnil) σ := by
 intro Ψ0 Ψ D a w hb le hr
 refine ⟨Ψ, le, hr.size, ⟨fun t' => ?_, hr.env.gt⟩, hr.sg, hr.dsub, hr.defs⟩
 rw [get_put1]
 split
 ·rename_i e
  subst e
  have hv := hr.env t'
  rw [ht] at hv
  generalize a.tmps.getD t' undef = x at hv
  cases hv with
  | islnil _ a' _ => exact .gnil a'
  | isl es _ _ b o cap vals hs h1 h2 hc ho =>
   have : cap = 0 := ho
   subst this
   exact .gnil _
 exact hr.env t'
theorem appg22 {σ : Sg} {x : PV} {m : List PV} {own : Own} : appendG Tryz.prog σ 22 22 x (.isl m own) = appG 1 8 σ x m := appG_of Tryz.underlying22 Tryz.underlying3 cells3 bytes3 (by decide) (by decide) zero3 rfl
theorem iag22 {id len es : Nat} {k : IntKind} {i : Int} : indexAddrPV Tryz.prog 22 (.gsl id len es) (.int k i) = iaM 1 id 0 len i := iaG_of Tryz.underlying22 Tryz.underlying3 cells3 k len i
attribute [go_sem] appg22 iag22
theorem wrapU {n : Int} (h1 : 0 ≤ n) (h2 : n ≤ 18446744073709551615) : IntKind.u64.wrap n = n := IntWalk.u64_in n ⟨h1, h2⟩
theorem sv_ext_sv {σ : Sg} {d : Nat} {cs cs0 : List PV} {l : List (Option (List PV))} {rm : List Nat} {ys : List LState} (h : d < σ.store.length) : ((σ.setVar d cs0).ext l rm ys).setVar d cs = (σ.setVar d cs).ext l rm ys := by
 rw [sv_ext (by rw [sv_len]; exact h), sv_sv]
theorem sv_self {σ : Sg} {d : Nat} {cs : List PV} (h : σ.store[d]? = some (some cs)) : σ.setVar d cs = σ := by
 have : σ.store.set d (some cs) = σ.store := by
  refine List.ext_getElem? fun i => ?_
  rw [List.getElem?_set]
  by_cases e : d = i
  ·subst e; rw [if_pos rfl, if_pos (List.getElem?_eq_some_iff.1 h).1, h]
  rw [if_neg e]
 unfold Sg.setVar
 rw [this]
theorem get_svx {σ : Sg} {d : Nat} {cs : List PV} {l : List (Option (List PV))} {rm : List Nat} {ys : List LState} (h : d < σ.store.length) : ((σ.setVar d cs).ext l rm ys).store[d]? = some (some cs) := by
 rw [ext_get (by rw [sv_len]; exact h)]; exact sv_get h
theorem get_extx {σ : Sg} {d : Nat} {cs : List PV} {l : List (Option (List PV))} {rm : List Nat} {ys : List LState} (hd : σ.store[d]? = some (some cs)) : (σ.ext l rm ys).store[d]? = some (some cs) := by
 rw [ext_get (lt_of_get hd)]; exact hd
theorem shr1 {a : Int} : shiftPV .shr .u64 a 1 = some (.int .u64 (a.fdiv 2)) := rfl
theorem shr32 {a : Int} : shiftPV .shr .u64 a 32 = some (.int .u64 (a.fdiv 4294967296)) := rfl
theorem cv2_98 {k : IntKind} {n : Int} : convPV Tryz.prog 2 98 (.int k n) = some (.int .u64 (IntKind.u64.wrap n)) := by kernel_rfl
theorem cv3_5 {k : IntKind} {n : Int} : convPV Tryz.prog 3 5 (.int k n) = some (.int .u8 (IntKind.u8.wrap n)) := by kernel_rfl
theorem cv3_98 {k : IntKind} {n : Int} : convPV Tryz.prog 3 98 (.int k n) = some (.int .u64 (IntKind.u64.wrap n)) := by kernel_rfl
theorem cv3_119 {k : IntKind} {n : Int} : convPV Tryz.prog 3 119 (.int k n) = some (.int .u64 (IntKind.u64.wrap n)) := by kernel_rfl
theorem cv3_411 {k : IntKind} {n : Int} : convPV Tryz.prog 3 411 (.int k n) = some (.int .u64 (IntKind.u64.wrap n)) := by kernel_rfl
theorem cv5_3 {k : IntKind} {n : Int} : convPV Tryz.prog 5 3 (.int k n) = some (.int .i64 (IntKind.i64.wrap n)) := by kernel_rfl
theorem cv5_21 {k : IntKind} {n : Int} : convPV Tryz.prog 5 21 (.int k n) = some (.int .i32 (IntKind.i32.wrap n)) := by kernel_rfl
theorem cv5_98 {k : IntKind} {n : Int} : convPV Tryz.prog 5 98 (.int k n) = some (.int .u64 (IntKind.u64.wrap n)) := by kernel_rfl
theorem cv5_353 {k : IntKind} {n : Int} : convPV Tryz.prog 5 353 (.int k n) = some (.int .u32 (IntKind.u32.wrap n)) := by kernel_rfl
theorem cv21_5 {k : IntKind} {n : Int} : convPV Tryz.prog 21 5 (.int k n) = some (.int .u8 (IntKind.u8.wrap n)) := by kernel_rfl
theorem cv98_2 {k : IntKind} {n : Int} : convPV Tryz.prog 98 2 (.int k n) = some (.int .i64 (IntKind.i64.wrap n)) := by kernel_rfl
theorem cv98_3 {k : IntKind} {n : Int} : convPV Tryz.prog 98 3 (.int k n) = some (.int .i64 (IntKind.i64.wrap n)) := by kernel_rfl
theorem cv98_5 {k : IntKind} {n : Int} : convPV Tryz.prog 98 5 (.int k n) = some (.int .u8 (IntKind.u8.wrap n)) := by kernel_rfl
theorem cv98_353 {k : IntKind} {n : Int} : convPV Tryz.prog 98 353 (.int k n) = some (.int .u32 (IntKind.u32.wrap n)) := by kernel_rfl
theorem cv119_3 {k : IntKind} {n : Int} : convPV Tryz.prog 119 3 (.int k n) = some (.int .i64 (IntKind.i64.wrap n)) := by kernel_rfl
theorem cv119_353 {k : IntKind} {n : Int} : convPV Tryz.prog 119 353 (.int k n) = some (.int .u32 (IntKind.u32.wrap n)) := by kernel_rfl
theorem cv353_5 {k : IntKind} {n : Int} : convPV Tryz.prog 353 5 (.int k n) = some (.int .u8 (IntKind.u8.wrap n)) := by kernel_rfl
attribute [go_sem] cv2_98 cv3_5 cv3_98 cv3_119 cv3_411 cv5_3 cv5_21 cv5_98 cv5_353 cv21_5 cv98_2 cv98_3 cv98_5 cv98_353 cv119_3 cv119_353 cv353_5 nilCheckPV shr1 shr32 Sg.ext_nil
theorem slh22 {l : List PV} {own : Own} {k : IntKind} {n : Int} : slicePV Tryz.prog 22 (.isl l own) none (some (.int k n)) none = if 0 ≤ n then if n.toNat ≤ l.length then some (.isl (l.take n.toNat) (sliceOwn own 0 n.toNat l.length)) else none else none := slHi_of Tryz.underlying22 Tryz.underlying3 l own k n
theorem slh25 {l : List PV} {own : Own} {k : IntKind} {n : Int} : slicePV Tryz.prog 25 (.isl l own) none (some (.int k n)) none = if 0 ≤ n then if n.toNat ≤ l.length then some (.isl (l.take n.toNat) (sliceOwn own 0 n.toNat l.length)) else none else none := slHi_of Tryz.underlying25 Tryz.underlying152 l own k n
theorem slh52 {l : List PV} {own : Own} {k : IntKind} {n : Int} : slicePV Tryz.prog 52 (.isl l own) none (some (.int k n)) none = if 0 ≤ n then if n.toNat ≤ l.length then some (.isl (l.take n.toNat) (sliceOwn own 0 n.toNat l.length)) else none else none := slHi_of Tryz.underlying52 Tryz.underlying9 l own k n
attribute [go_sem] slh22 slh25 slh52
abbrev txt (l : List UInt8) : PV := .str ⟨l.toArray⟩
theorem lens9 {s : ByteArray} : lenPV Tryz.prog 9 (.str s) = some (.int .i64 s.size) := by unfold lenPV; simp only [Tryz.underlying9]
theorem size_txt {l : List UInt8} : (⟨l.toArray⟩ : ByteArray).size = l.length := by simp [ByteArray.size]
theorem extract_txt {l : List UInt8} {a b : Nat} : (⟨l.toArray⟩ : ByteArray).extract a b = ⟨((l.drop a).take (b - a)).toArray⟩ := by
 apply ByteArray.ext
 simp [ByteArray.data_extract, List.extract_toArray]
/-- Parts of a text. -/
theorem slT {l : List UInt8} {a b : Nat} (h1 : a ≤ b) (h2 : b ≤ l.length) : slicePV Tryz.prog 9 (.str ⟨l.toArray⟩) (some (.int .i64 (a : Int))) (some (.int .i64 (b : Int))) none = some (.str ⟨((l.drop a).take (b - a)).toArray⟩) := by
 unfold slicePV
 simp only [Tryz.underlying9, bnd, Int.natCast_nonneg, if_true, Int.toNat_natCast, extract_txt]
 rw [if_pos ⟨h1, by rw [size_txt]; exact h2⟩]
theorem slTa {l : List UInt8} {a : Nat} (h2 : a ≤ l.length) : slicePV Tryz.prog 9 (.str ⟨l.toArray⟩) (some (.int .i64 (a : Int))) none none = some (.str ⟨(l.drop a).toArray⟩) := by
 unfold slicePV
 simp only [Tryz.underlying9, bnd, Int.natCast_nonneg, if_true, Int.toNat_natCast, extract_txt, size_txt]
 rw [if_pos ⟨h2, Nat.le_refl _⟩, List.take_of_length_le (by simp)]
theorem slTb {l : List UInt8} {b : Nat} (h2 : b ≤ l.length) : slicePV Tryz.prog 9 (.str ⟨l.toArray⟩) none (some (.int .i64 (b : Int))) none = some (.str ⟨(l.take b).toArray⟩) := by
 unfold slicePV
 simp only [Tryz.underlying9, bnd, Int.natCast_nonneg, if_true, Int.toNat_natCast, extract_txt, size_txt]
 rw [if_pos ⟨Nat.zero_le _, h2⟩]
 simp
theorem cvs9 {s : ByteArray} : convPV Tryz.prog 9 9 (.str s) = some (.str s) := by unfold convPV; simp only [Tryz.underlying9]
theorem strAdd {a b : List UInt8} (h : a.length + b.length ≤ 2 ^ 62) : strBin .add ⟨a.toArray⟩ ⟨b.toArray⟩ = some (.str ⟨(a ++ b).toArray⟩) := by
 unfold strBin
 simp only
 rw [if_pos (by rw [size_txt, size_txt]; exact h)]
 congr 2
 try (apply ByteArray.ext; simp [ByteArray.data_append])
theorem txt_eq {a b : List UInt8} : ((⟨a.toArray⟩ : ByteArray) == ⟨b.toArray⟩) = decide (a = b) := by
 have e : ((⟨a.toArray⟩ : ByteArray) == ⟨b.toArray⟩) = (a.toArray == b.toArray) := rfl
 rw [e, Bool.eq_iff_iff, beq_iff_eq, decide_eq_true_eq]
 simp
theorem strEql {a b : List UInt8} : strBin .eql ⟨a.toArray⟩ ⟨b.toArray⟩ = some (.bool (decide (a = b))) := by unfold strBin; simp only [txt_eq]
theorem strNeq {a b : List UInt8} : strBin .neq ⟨a.toArray⟩ ⟨b.toArray⟩ = some (.bool (!decide (a = b))) := by unfold strBin; simp only [bne, txt_eq]
theorem okC_txt {xs : List (List UInt8)} : okC 1 (xs.map txt) = True := okC_map fun x => by simp [okC, PV.cells, PV.scalar]
theorem cA_txt {a b c : Nat} {xs : List (List UInt8)} : CleanAll a b c (xs.map txt) = True := CleanAll_map fun x => by simp only [go_sem]
theorem roL_txt {xs : List (List UInt8)} : PV.roL (xs.map txt) = xs.map txt := roL_enc fun x => by simp only [ro_str]
attribute [go_sem] lens9 size_txt List.size_toArray cvs9 extract_txt strEql strNeq okC_txt cA_txt roL_txt
theorem cvb {l : List PV} {o : Own} : convPV Tryz.prog 143 9 (.isl l o) = (bytesOfPV l).map fun ns => .str (bytesStr ns) := by unfold convPV; simp only [Tryz.underlying143, Tryz.underlying9, Tryz.underlying5]
attribute [go_sem] cvb
theorem sllT {xs : List (List UInt8)} {own : Own} {k : IntKind} {n : Int} : slicePV Tryz.prog 52 (.isl (xs.map txt) own) (some (.int k n)) none none = if 0 ≤ n then if n.toNat ≤ xs.length then some (.isl ((xs.drop n.toNat).map txt) own) else none else none := slLo_of Tryz.underlying52 Tryz.underlying9 cells9 (fun _ => rfl) xs own k n
attribute [go_sem] sllT
theorem own : ownKnob Tryz.prog.godebug = none := by kernel_rfl
theorem laidOut : laidOutB Tryz.prog = true := by kernel_rfl
theorem rdInt : Rd Tryz.prog 3 fun p => ∃ n, p = I n := (Rd.int Tryz.underlying3).mono fun _ ⟨n, h, _⟩ => ⟨n, h⟩
theorem rdInts : Rd Tryz.prog 22 fun p => ∃ xs : List Int, p = ints xs ∧ xs.length * 8 ≤ 140737488351232 :=
 (Rd.slice Tryz.underlying22 (by kernel_rfl) rdInt).mono fun p ⟨l, h1, h2, h3⟩ => by
  obtain ⟨xs, rfl, _⟩ := map_of (f := I) (Q := fun _ => True) fun x hx => let ⟨n, e⟩ := h1 x hx; ⟨n, e, trivial⟩
  have e : Tryz.prog.bytesOf 3 = 8 := by kernel_rfl
  rw [e] at h2
  exact ⟨xs, h3, by simpa [reachBytes] using h2⟩
end Go.Proofs.YtpkkegbiddcodaaGreatDoor
namespace Go.Proofs.YtpkkegbiddcodaaGreatDoor.Pa
open Go Go.RowKit
set_option maxRecDepth 100000
structure Wing where
 name : List UInt8
 len : Int
 lo : Int
 hi : Int
 deriving DecidableEq
structure School where
 route : Int
 wings : List Wing
 deriving DecidableEq
structure Rules where
 least : Int
 most : Int
 gap : Int
abbrev intsO (o : Own) (xs : List Int) : PV := .isl (xs.map I) o
def wgCells (w : Wing) : List PV := [txt w.name, I w.len, I w.lo, I w.hi]
def wgPV (w : Wing) : PV := .agg (wgCells w)
abbrev wgs (l : List Wing) : PV := .isl (l.map wgPV) .ro
def shCells (s : School) : List PV := [I s.route, wgs s.wings]
def shPV (s : School) : PV := .agg (shCells s)
def ruCells (r : Rules) : List PV := [I r.least, I r.most, I r.gap]
def ruPV (r : Rules) : PV := .agg (ruCells r)
theorem cleans_wg {a b c : Nat} (w : Wing) : ∀ p, p ∈ wgCells w → Clean a b c p := Clean.all_cons (.str _) (Clean.all_cons (.int _ _) (Clean.all_cons (.int _ _) (Clean.all_cons (.int _ _) Clean.all_nil)))
theorem clean_wg {a b c : Nat} (w : Wing) : Clean a b c (wgPV w) := .agg _ (cleans_wg w)
theorem okC_wg {xs : List Wing} : okC 4 (xs.map wgPV) = True := okC_map fun x => by simp [okC, wgPV, wgCells, PV.cells, PV.scalar]
theorem roL_wg {xs : List Wing} : PV.roL (xs.map wgPV) = xs.map wgPV := roL_enc fun x => by simp only [wgPV, wgCells, ro_agg, roL_cons, roL_nil, ro_int, PV.ro]
theorem cA_wg {a b c : Nat} {xs : List Wing} : CleanAll a b c (xs.map wgPV) = True := CleanAll_map clean_wg
attribute [go_sem] okC_wg roL_wg cA_wg wgPV wgCells shPV shCells ruPV ruCells
def inR (n lo hi : Int) : Bool := decide (lo ≤ n) && decide (n ≤ hi)
theorem inR_true {n lo hi : Int} : inR n lo hi = true ↔ lo ≤ n ∧ n ≤ hi := by simp [inR]
def lenW (ws : List Wing) (i : Nat) : Int := match ws[i]? with | some w => w.len | none => 0
/-- The pace of a wing: 0 the slow one. -/
def paceW (ws : List Wing) (e : Int) (i : Nat) : Int := match ws[i]? with | some w => if e = 0 then w.lo else w.hi | none => 1
def stW (st : List Int) (i : Nat) : Int := (st[i]?).getD 0
/-- The wings up to one, with the distance from their fronts to the front of this one. -/
def aheadL (ws : List Wing) : Nat → Int → List (Nat × Int)
 | 0, far => [(0, far)]
 | i + 1, far => (i + 1, far) :: aheadL ws i (far + lenW ws i)
def frontOne (ws : List Wing) (st : List Int) (e sec : Int) (m : Int) (p : Nat × Int) : Int := min m (paceW ws e p.1 * (sec - stW st p.1) - p.2)
def frontW (ws : List Wing) (st : List Int) (e : Int) (i : Nat) (sec : Int) : Int := (aheadL ws i 0).foldl (frontOne ws st e sec) 1152921504606846976
def passOne (ws : List Wing) (st : List Int) (e place : Int) (m : Int) (p : Nat × Int) : Int := max m (stW st p.1 + (place + p.2 + paceW ws e p.1 - 1).tdiv (paceW ws e p.1))
def passW (ws : List Wing) (st : List Int) (e : Int) (i : Nat) (place : Int) : Int := (aheadL ws i 0).foldl (passOne ws st e place) (stW st i)
def clearW (ws : List Wing) (st : List Int) (e : Int) (i : Nat) (place : Int) : Int := passW ws st e i (place + lenW ws i)
def leastW (ws : List Wing) (st : List Int) : Nat → Int
 | 0 => 0
 | k + 1 => clearW ws st 0 k 0
/-- A wing that may be, but for its name. -/
structure WgV (w : Wing) : Prop where
 ln : 1 ≤ w.len ∧ w.len ≤ 5000
 lo : 1 ≤ w.lo ∧ w.lo ≤ 200
 hi : 1 ≤ w.hi ∧ w.hi ≤ 200
 lh : w.lo ≤ w.hi
def wgErr (p : List Wing) (w : Wing) : Int :=
 if !(inR w.name.length 1 8) || !(w.name.all fun c => decide (97 ≤ c.toNat) && decide (c.toNat ≤ 122)) then 1
 else if p.any (fun v => decide (v.name = w.name)) then 8
 else if !(inR w.len 1 5000) || (!(inR w.lo 1 200) || !(inR w.hi 1 200)) then 2
 else if w.lo > w.hi then 9 else 0
def wgsErr : List Wing → List Wing → Int
 | _, [] => 0
 | p, w :: r => if wgErr p w ≠ 0 then wgErr p w else wgsErr (p ++ [w]) r
def chkS (s : School) : Int :=
 if !(inR s.route 1 100000) then 2 else if s.wings.length = 0 then 4 else if (s.wings.length : Int) > 8 then 5 else wgsErr [] s.wings
structure ShV (s : School) : Prop where
 rt : 1 ≤ s.route ∧ s.route ≤ 100000
 wl : 0 < s.wings.length ∧ s.wings.length ≤ 8
 wv : ∀ w, w ∈ s.wings → WgV w
theorem wgsErr_v : ∀ (l p : List Wing), wgsErr p l = 0 → ∀ w, w ∈ l → WgV w := by
 intro l
 induction l with
 | nil => intro p _ w h; cases h
 | cons x l ih =>
  intro p h w hw
  simp only [wgsErr] at h
  split at h
  ·rename_i q; exact absurd h q
  rename_i q
  simp only [ne_eq, Classical.not_not] at q
  rcases List.mem_cons.1 hw with rfl | hw
  ·unfold wgErr at q
   split at q
   ·cases q
   split at q
   ·cases q
   split at q
   ·cases q
   rename_i q1
   split at q
   ·cases q
   simp only [Bool.or_eq_true, Bool.not_eq_true', not_or, Bool.not_eq_false, inR_true] at q1
   exact ⟨q1.1, q1.2.1, q1.2.2, by omega⟩
  exact ih _ h w hw
theorem shV_of {s : School} (h : chkS s = 0) : ShV s := by
 unfold chkS at h
 split at h
 ·cases h
 rename_i h1
 split at h
 ·cases h
 split at h
 ·cases h
 simp only [Bool.not_eq_true', Bool.not_eq_false, inR_true] at h1
 exact ⟨h1, by omega, wgsErr_v _ _ h⟩
def chkStF (ws : List Wing) (st : List Int) : Nat → List Int → Int
 | _, [] => 0
 | i, x :: r => if !(inR x 0 20000) then 2 else if x < leastW ws st i then 12 else chkStF ws st (i + 1) r
/-- The error of a school and starts. -/
def chkSt (s : School) (st : List Int) : Int := if chkS s ≠ 0 then chkS s else if st.length ≠ s.wings.length then 1 else chkStF s.wings st 0 st
def leastsF (ws : List Wing) : Nat → List Int → List Int × Int
 | 0, acc => (acc, 0)
 | k + 1, acc => if leastW ws acc acc.length > 20000 then ([], 2) else leastsF ws k (acc ++ [leastW ws acc acc.length])
def leastsS (s : School) : List Int × Int := if chkS s ≠ 0 then ([], chkS s) else leastsF s.wings s.wings.length []
def chkRu (r : Rules) : Int := if !(inR r.least 0 100000) || (!(inR r.most 0 100000) || !(inR r.gap 0 20000)) then 2 else if r.least > r.most then 9 else 0
def lastsW (s : School) (st : List Int) : Int × Int := (clearW s.wings st 1 (s.wings.length - 1) s.route - stW st 0, clearW s.wings st 0 (s.wings.length - 1) s.route - stW st 0)
def verdict (r : Rules) (x : Int × Int) : Int := if inR x.1 r.least r.most && inR x.2 r.least r.most then 1 else if x.1 > r.most ∨ x.2 < r.least then 2 else 3
def lastsA (s : School) (st : List Int) (r : Rules) : Int × (Int × Int) × Int :=
 if chkSt s st ≠ 0 then (0, (0, 0), chkSt s st) else if chkRu r ≠ 0 then (0, (0, 0), chkRu r) else (verdict r (lastsW s st), lastsW s st, 0)
section
variable {ws : List Wing} {st : List Int} {e : Int}
theorem lenW_bd (h : ∀ w, w ∈ ws → WgV w) (i : Nat) : 0 ≤ lenW ws i ∧ lenW ws i ≤ 5000 := by
 unfold lenW
 split
 ·rename_i w hw; have := (h w (List.mem_of_getElem? hw)).ln; omega
 omega
theorem paceW_bd (h : ∀ w, w ∈ ws → WgV w) (e : Int) (i : Nat) : 1 ≤ paceW ws e i ∧ paceW ws e i ≤ 200 := by
 unfold paceW
 split
 ·rename_i w hw
  have := (h w (List.mem_of_getElem? hw)).lo
  have := (h w (List.mem_of_getElem? hw)).hi
  split <;> omega
 omega
theorem paceW_le (h : ∀ w, w ∈ ws → WgV w) (i : Nat) : paceW ws 0 i ≤ paceW ws 1 i := by
 unfold paceW
 split
 ·rename_i w hw
  have := (h w (List.mem_of_getElem? hw)).lh
  simp
  omega
 omega
theorem aheadL_bd (h : ∀ w, w ∈ ws → WgV w) : ∀ (i : Nat) (far : Int), 0 ≤ far → ∀ p, p ∈ aheadL ws i far → p.1 ≤ i ∧ 0 ≤ p.2 ∧ p.2 ≤ far + 5000 * i := by
 intro i
 induction i with
 | zero => intro far hf p hp; simp [aheadL] at hp; subst hp; simp; omega
 | succ i ih =>
  intro far hf p hp
  have hl := lenW_bd h i
  simp only [aheadL, List.mem_cons] at hp
  rcases hp with rfl | hp
  ·simp only; omega
  have := ih (far + lenW ws i) (by omega) p hp
  omega
theorem passF_ge {place : Int} : ∀ (l : List (Nat × Int)) (m : Int), m ≤ l.foldl (passOne ws st e place) m := by
 intro l
 induction l with
 | nil => intro m; exact Int.le_refl _
 | cons p l ih =>
  intro m
  rw [List.foldl_cons]
  have := ih (passOne ws st e place m p)
  have h2 : m ≤ passOne ws st e place m p := by unfold passOne; omega
  omega
theorem passW_ge (i : Nat) (place : Int) : stW st i ≤ passW ws st e i place := passF_ge _ _
theorem tdiv_bd {a b : Int} (ha : 0 ≤ a) (hb : 1 ≤ b) : 0 ≤ a.tdiv b ∧ a.tdiv b ≤ a := by
 rw [Int.tdiv_eq_ediv_of_nonneg ha]
 have h1 := Int.ediv_nonneg ha (show 0 ≤ b by omega)
 have h2 := Int.ediv_mul_le a (show b ≠ 0 by omega)
 have h3 : a / b ≤ a / b * b := by
  have := Int.mul_le_mul_of_nonneg_left hb h1
  omega
 omega
end
end Go.Proofs.YtpkkegbiddcodaaGreatDoor.Pa
namespace Go.Proofs.YtpkkegbiddcodaaGreatDoor
open Go Go.RowKit
/-- A map's entries. -/
def mapE {κ ν : Type} (ek : κ → PV) (ev : ν → PV) (l : List (κ × ν)) : List PV := l.map fun e => .tuple [ek e.1, ev e.2]
theorem mapE_cons {κ ν : Type} (ek : κ → PV) (ev : ν → PV) (e : κ × ν) (l : List (κ × ν)) : mapE ek ev (e :: l) = .tuple [ek e.1, ev e.2] :: mapE ek ev l := rfl
theorem mapE_append {κ ν : Type} (ek : κ → PV) (ev : ν → PV) (l m : List (κ × ν)) : mapE ek ev (l ++ m) = mapE ek ev l ++ mapE ek ev m := by simp [mapE]
section
variable {κ ν : Type} [DecidableEq κ]
def aget (k : κ) : List (κ × ν) → Option ν
 | [] => none
 | e :: l => if k = e.1 then some e.2 else aget k l
def aput (k : κ) (v : ν) : List (κ × ν) → List (κ × ν)
 | [] => [(k, v)]
 | e :: l => if k = e.1 then (k, v) :: l else e :: aput k v l
/-- The keys of a type are told apart as their readings are. -/
def KeyOK (P : Program) (kt : TypeId) (ek : κ → PV) : Prop := ∀ a b, keyEq P kt (ek a) (ek b) = some (decide (a = b))
def afind (k : κ) : List (κ × ν) → Nat → Option (Nat × ν)
 | [], _ => none
 | e :: l, i => if k = e.1 then some (i, e.2) else afind k l (i + 1)
theorem findPV_map {P : Program} {kt : TypeId} {ek : κ → PV} (h : KeyOK P kt ek) (ev : ν → PV) (k : κ) : ∀ (l : List (κ × ν)) (i : Nat), findPV P kt (ek k) (mapE ek ev l) i = some ((afind k l i).map fun r => (r.1, ev r.2)) := by
 intro l
 induction l with
 | nil => intro i; rfl
 | cons e l ih =>
  intro i
  simp only [mapE_cons, findPV, afind]
  rw [h k e.1]
  by_cases he : k = e.1
  ·simp [he]
  simp only [he, decide_false, if_neg, not_false_eq_true]
  exact ih (i + 1)
theorem afind_get (k : κ) : ∀ (l : List (κ × ν)) (i : Nat), (afind k l i).map (·.2) = aget k l := by
 intro l
 induction l with
 | nil => intro i; rfl
 | cons e l ih =>
  intro i
  simp only [afind, aget]
  split
  ·rfl
  exact ih (i + 1)
theorem afind_put (ek : κ → PV) (ev : ν → PV) (k : κ) (v : ν) : ∀ (l : List (κ × ν)) (i : Nat), match afind k l i with
 | none => aput k v l = l ++ [(k, v)]
 | some (j, _) => i ≤ j ∧ (mapE ek ev l).set (j - i) (.tuple [ek k, ev v]) = mapE ek ev (aput k v l) := by
 intro l
 induction l with
 | nil => intro i; rfl
 | cons e l ih =>
  intro i
  simp only [afind, aput]
  by_cases he : k = e.1
  ·rw [if_pos he, if_pos he]
   simp [mapE_cons]
  rw [if_neg he, if_neg he]
  have := ih (i + 1)
  cases hf : afind k l (i + 1) with
  | none => rw [hf] at this; simp only at this ⊢; rw [this]; rfl
  | some r =>
   rw [hf] at this
   obtain ⟨j, x⟩ := r
   simp only at this ⊢
   refine ⟨by omega, ?_⟩
   rw [show j - i = j - (i + 1) + 1 by omega, mapE_cons, List.set_cons_succ, this.2, mapE_cons]
def lkM (P : Program) (kt : TypeId) (z : PV) (b : Option (Option (List PV))) (k : PV) (ok : Bool) : Option PV :=
 match b with
 | some (some (.mark :: es)) => match findPV P kt k es 0 with
  | some (some (_, v)) => some (packPV ok v true)
  | some none => some (packPV ok z false)
  | none => none
 | _ => none
def lkX (P : Program) (kt : TypeId) (z : PV) (σ : Sg) (id : Nat) (k : PV) (ok : Bool) : Option PV := lkM P kt z σ.store[id]? k ok
def upM (P : Program) (kt : TypeId) (b : Option (Option (List PV))) (k v : PV) : Option (List PV) :=
 match b with
 | some (some (.mark :: es)) => match findPV P kt k es 0 with
  | some (some (j, _)) => some (.mark :: es.set j (.tuple [k, v]))
  | some none => some (.mark :: (es ++ [.tuple [k, v]]))
  | none => none
 | _ => none
def upX (P : Program) (kt : TypeId) (σ : Sg) (id : Nat) (k v : PV) : Option Sg := (upM P kt σ.store[id]? k v).map fun cs => σ.setVar id cs
theorem lk_of {P : Program} {t kt et : TypeId} {kd : TypeDesc} {z : PV} (h : P.underlying t = some (.map kt et)) (hk : P.underlying kt = some kd) (hz : zeroOne P et = some z) {k : PV} (hf : keyFor P kd k = true) (σ : Sg) (id : Nat) (ok : Bool) :
 lookupPV P σ t (.map id) k ok = lkX P kt z σ id k ok := by
 simp only [lookupPV, h, hk, hz, hf, if_true, lkX, lkM]
 rfl
theorem up_of {P : Program} {t kt et : TypeId} {kd : TypeDesc} (h : P.underlying t = some (.map kt et)) (hk : P.underlying kt = some kd) {k : PV} (hf : keyFor P kd k = true) (v : PV) (σ : Sg) (id : Nat) :
 updatePV P σ t (.map id) k v = upX P kt σ id k v := by
 simp only [updatePV, h, hk, hf, if_true, upX, upM]
 generalize σ.store[id]? = b
 rcases b with _ | _ | cs
 ·rfl
 ·rfl
 rcases cs with _ | ⟨c, cs⟩
 ·rfl
 cases c <;> try rfl
 simp only
 rcases findPV P kt k cs 0 with _ | _ | ⟨j, x⟩ <;> rfl
theorem lkM_map {P : Program} {kt : TypeId} {z : PV} {ek : κ → PV} (h : KeyOK P kt ek) (ev : ν → PV) (l : List (κ × ν)) (k : κ) (ok : Bool) :
 lkM P kt z (some (some (.mark :: mapE ek ev l))) (ek k) ok = some (packPV ok (match aget k l with | some v => ev v | none => z) (aget k l).isSome) := by
 simp only [lkM, findPV_map h]
 rw [← afind_get k l 0]
 cases afind k l 0 with
 | none => rfl
 | some r => rfl
theorem upM_map {P : Program} {kt : TypeId} {ek : κ → PV} (h : KeyOK P kt ek) (ev : ν → PV) (l : List (κ × ν)) (k : κ) (v : ν) :
 upM P kt (some (some (.mark :: mapE ek ev l))) (ek k) (ev v) = some (.mark :: mapE ek ev (aput k v l)) := by
 simp only [upM, findPV_map h]
 have := afind_put ek ev k v l 0
 cases hf : afind k l 0 with
 | none =>
  rw [hf] at this
  simp only at this
  simp only [Option.map_none, this, mapE_append]
  rfl
 | some r =>
  rw [hf] at this
  obtain ⟨j, x⟩ := r
  simp only [Option.map_some]
  have h2 := this.2
  simp only [Nat.sub_zero] at h2
  rw [h2]
end
section
variable {P : Program} {kt : TypeId} {z : PV} {σ : Sg} {l : List (Option (List PV))} {rm : List Nat} {ys : List LState} {j d : Nat} {cs : List PV} {k v : PV} {ok : Bool}
theorem lkX_ext : lkX P kt z (σ.ext l rm ys) (σ.store.length + j) k ok = lkM P kt z l[j]? k ok := by simp only [lkX, Sg.get_ext]
theorem lkX_ext0 : lkX P kt z (σ.ext l rm ys) σ.store.length k ok = lkM P kt z l[0]? k ok := by simp only [lkX, Sg.get_ext0]
theorem upX_ext : upX P kt (σ.ext l rm ys) (σ.store.length + j) k v = (upM P kt l[j]? k v).map fun cs => σ.ext (l.set j (some cs)) rm ys := by simp only [upX, Sg.get_ext, Sg.set_ext]
theorem upX_ext0 : upX P kt (σ.ext l rm ys) σ.store.length k v = (upM P kt l[0]? k v).map fun cs => σ.ext (l.set 0 (some cs)) rm ys := by simp only [upX, Sg.get_ext0, Sg.set_ext0]
theorem lkX_svx : lkX P kt z ((σ.setVar d cs).ext l rm ys) (σ.store.length + j) k ok = lkM P kt z l[j]? k ok := by
 have := lkX_ext (P := P) (kt := kt) (z := z) (σ := σ.setVar d cs) (l := l) (rm := rm) (ys := ys) (j := j) (k := k) (ok := ok)
 rw [sv_len] at this
 exact this
theorem Cl_map {a b c id : Nat} : Clean a b c (.map id) = (id < a) := propext ⟨fun h => by cases h; assumption, fun h => .mapv _ h⟩
theorem Cl_nilmap {a b c : Nat} : Clean a b c .nilmap = True := eq_true .nilmap
theorem Cl_mark {a b c : Nat} : Clean a b c .mark = True := eq_true .mark
theorem Cl_gsl {a b c id len es : Nat} : Clean a b c (.gsl id len es) = (id < a) := propext ⟨fun h => by cases h; assumption, fun h => .gsl _ _ _ h⟩
theorem Cl_gnil {a b c : Nat} : Clean a b c .gnil = True := eq_true .gnil
theorem CleanAll_mapE {κ ν : Type} {a b c : Nat} {ek : κ → PV} {ev : ν → PV} {l : List (κ × ν)} (h1 : ∀ x, Clean a b c (ek x)) (h2 : ∀ x, Clean a b c (ev x)) : CleanAll a b c (mapE ek ev l) = True := eq_true fun p hp => by
 obtain ⟨e, _, rfl⟩ := List.mem_map.1 hp
 refine .tuple _ fun q hq => ?_
 simp only [List.mem_cons, List.not_mem_nil, or_false] at hq
 rcases hq with rfl | rfl
 ·exact h1 _
 exact h2 _
end
theorem rowC_single {l : List PV} (h : ∀ q, q ∈ l → q.cells = [q]) : rowC l = l := by
 induction l with
 | nil => rfl
 | cons q l ih =>
  have := ih fun q hq => h q (by simp [hq])
  simp only [rowC, List.flatMap_cons] at this ⊢
  rw [h q (by simp), this]
  rfl
theorem rowC_ints (xs : List Int) : rowC (xs.map I) = xs.map I := rowC_single fun q hq => by obtain ⟨x, _, rfl⟩ := List.mem_map.1 hq; rfl
theorem iaM_nat {c id off len k : Nat} (h : k < len) : iaM c id off len (k : Int) = some (.ptr id (off + k * c)) := by
 unfold iaM
 rw [if_pos ⟨Int.natCast_nonneg k, by omega⟩]
 simp
theorem setI {xs : List Int} {i : Nat} {v : Int} : (xs.map I).set i (I v) = (xs.set i v).map I := by rw [List.map_set]
theorem setB {xs : List Bool} {i : Nat} {v : Bool} : (xs.map PV.bool).set i (.bool v) = (xs.set i v).map PV.bool := by rw [List.map_set]
def NoGoto (Q : Exit → Env → Sg → Prop) : Exit → Env → Sg → Prop
 | .goto _, _, _ => False
 | e, E, σ => Q e E σ
section
variable {P : Program} {a : Act} {k : List Item} {cs : List Frame} {w : World} {Q : Exit → Env → Sg → Prop}
theorem ngN {E : Env} {σ : Sg} : NoGoto Q .normal E σ = Q .normal E σ := rfl
theorem ngR {E : Env} {σ : Sg} : NoGoto Q .ret E σ = Q .ret E σ := rfl
theorem ngX {E : Env} {σ : Sg} {i : Nat} : NoGoto Q (.exit i) E σ = Q (.exit i) E σ := rfl
attribute [go_sem] ngN ngR ngX
end
section
variable {P : Program} {Y : YEnv} {N : Nat} {ops : Array Oper} {a b : Nat}
variable {F : Fence} {n : Nat} {Q : Exit → Act → World → Prop}
/-- In the order, b stands behind a. -/
def Behind (b a : Nat) (listed : Array Bool) (l : List Nat) : Prop := ∀ l1 l2, l = l1 ++ b :: l2 → listed.getD a false = true ∨ a ∈ l1
end
theorem W_newB {P : Program} {Y : YEnv} {N : Nat} {rd : Option Nat} {lo : Nat × Nat} {id : Nat} {ops : Array Oper} {E : Env} {σ : Sg} {Q : Exit → Env → Sg → Prop} (ks : List Nat) {T : TypeId} (te : TypeId) {d : Nat} {o : Oper} (ho : ops = #[o]) (hop : o.op = .alloc T) (hg : o.guard = none) (hd : o.dst = some d) (hdN : d < N)
 (hz : zeroPV P T = some [.nilptr, .isl [] .exact])
 (h : Q .normal (keep ks (E.put (some d) (.ptr σ.store.length 0))) ((σ.push [.bself σ.store.length T, .bbuf [] σ.rooms.length te]).pushRoom 0)) : W P Y N rd lo (.region id ops false) E σ Q := by
 intro Ψ0 D hb hy hrd Ψ a w le hr
 subst ho
 refine wpIn_region ?_
 show wpOpsIn (FnOf Ψ0 rd) 0 P #[o] (Post N D Ψ0 w Q) [0] a w
 rw [wpOpsIn_cons]
 refine exec_alloc (i := 0) rfl hop hg hz hr fun c hc0 hc2 => ?_
 obtain ⟨le1, hs1⟩ := hr.sg.newVar c T [.nilptr, .isl [] .exact] (Nat.le_of_eq hc0.symm) (hc2 Ψ)
 have hk : SzOK (Ψ.addVar w.heap.size).base (w.alloc (.cells c T)) w.heap.size (.ty T 2) := ⟨hr.sg.base, c, (0, 0), heap_alloc_new w _, hc0⟩
 have hs2 := hs1.addSz hk
 have le2 := le1.trans (Ty.addSz_le (Ψ.addVar w.heap.size) w.heap.size (.ty T 2))
 obtain ⟨le3, hs3⟩ := hs2.newRoom 0 none (fun b e c es h => by cases h)
 have le3' := le2.trans le3
 have hst : ((σ.push [.nilptr, .isl [] .exact]).pushRoom 0).store[σ.store.length]? = some (some [.nilptr, .isl [] .exact]) := by simp [Sg.push, Sg.pushRoom]
 have hβ : ((Ψ.addVar w.heap.size).addSz w.heap.size (.ty T 2)).β[σ.store.length]? = some w.heap.size := by
  show (Ψ.β ++ [w.heap.size])[σ.store.length]? = _
  rw [← hr.sg.blen]
  simp
 have hrm : (σ.push [.nilptr, .isl [] .exact]).rooms.length = σ.rooms.length := rfl
 rw [hrm] at le3 hs3 le3'
 have hbk : blockIs (w.alloc (.cells c T)) w.heap.size c := ⟨T, heap_alloc_new w _⟩
 have hs4 := hs3.reread (cs' := [.bself σ.store.length T, .bbuf [] σ.rooms.length te]) hst (fun b' hb' hK => by
  have e1 : b' = w.heap.size := by
   have : ((Ψ.addVar w.heap.size).addSz w.heap.size (.ty T 2)).β[σ.store.length]? = some b' := hb'
   rw [hβ] at this; injection this with this; exact this.symm
  subst e1
  refine .inl ⟨c, hbk, by rw [hc0]; exact Nat.le_refl _, fun j p v h1 h2 => ?_⟩
  have hv0 := hc2 ((((Ψ.addVar w.heap.size).addSz w.heap.size (.ty T 2))).addHist σ.rooms.length 0 none)
  match j, h1, h2 with
  | 0, h1, h2 =>
   simp only [List.getElem?_cons_zero, Option.some.injEq] at h1
   subst h1
   have hv := hv0 0 .nilptr v rfl h2
   refine .bself _ _ w.heap.size _ hβ (List.mem_cons_self ..) (.inl ?_)
   cases hv; rfl
  | 1, h1, h2 =>
   simp only [List.getElem?_cons_succ, List.getElem?_cons_zero, Option.some.injEq] at h1
   subst h1
   have hv := hv0 1 (.isl [] .exact) v rfl h2
   have hh : OwnNil ((((Ψ.addVar w.heap.size).addSz w.heap.size (.ty T 2))).addHist σ.rooms.length 0 none) (.tok σ.rooms.length ([] : List PV).length 1) := ⟨none, by simp [Ty.addHist]⟩
   cases hv with
   | islnil _ a' _ => exact .bbuf _ _ _ _ (.islnil _ a' hh) fun g o n cap e hc => by injection e with _ _ e; exact absurd e.symm hc
   | isl es _ _ b0 o0 cap vals hes k1 k2 hc ho =>
    have ho' : cap = 0 := ho
    subst ho'
    exact .bbuf _ _ _ _ (.islnil _ _ hh) fun g o n cap e hc => by injection e with _ _ e; exact absurd e.symm hc
  | j + 2, h1, h2 => simp at h1)
 have hσ : ((σ.push [.nilptr, .isl [] .exact]).pushRoom 0).setVar σ.store.length [.bself σ.store.length T, .bbuf [] σ.rooms.length te] = (σ.push [.bself σ.store.length T, .bbuf [] σ.rooms.length te]).pushRoom 0 := by simp [Sg.setVar, Sg.push, Sg.pushRoom]
 rw [hσ] at hs4
 have hrel := (hr.put le3' hs4 (o := o) (by unfold dstOK; rw [hd]; simpa using hdN) (v := .ptr σ.store.length 0) (x := .pointer (some ⟨w.heap.size, 0, none⟩)) (.ptr _ _ _ hβ (List.mem_cons_of_mem _ (List.mem_cons_self ..)))).keep ks
 rw [hd] at hrel ⊢
 exact ⟨_, _, _, le.trans le3', hrel, (Below.refl _ _).alloc (by rw [← le.base]; exact hr.sg.base) _, h⟩
/-- New blocks behind all that is known. -/
theorem SR.more {Ψ : Ty} {σ : Sg} {w w' : World} (h : SR Ψ σ w) (ho : ∀ k, k < w.heap.size → w'.heap[k]? = w.heap[k]?) (hz : w.heap.size ≤ w'.heap.size) : SR Ψ σ w' := by
 have cel : ∀ b o v, w.cell? ⟨b, o, none⟩ = some v → w'.cell? ⟨b, o, none⟩ = some v := fun b o v k => by rw [cell_eq, ho b (cell_lt k), ← cell_eq]; exact k
 have blk : ∀ b c, blockIs w b c → blockIs w' b c := fun b c k => k.of_heap (ho b k.lt)
 refine ⟨Nat.le_trans h.base hz, fun b o v k => cel b o v (h.imm b o v k), h.blen, ?_, h.apart, ?_, h.roomsApart, h.histlt, h.histle, fun i b k => Nat.lt_of_lt_of_le (h.βlt i b k) hz, ?_, h.ylen', ?_, ?_, ?_⟩
 ·intro id cs b k1 k2
  obtain ⟨a1, a2, a3⟩ := h.block id cs b k1 k2
  exact ⟨a1, a2, a3.of_heap (ho b a3.lt)⟩
 ·intro r n b e c' es k1 k2 k3
  obtain ⟨a1, a2, a3, cc, a4, a5⟩ := h.room r n b e c' es k1 k2 k3
  exact ⟨a1, a2, a3, cc, blk _ _ a4, a5⟩
 ·intro y l d s k1 k2
  obtain ⟨a1, a0, a2⟩ := h.yok y l d s k1 k2
  exact ⟨a1, a0, by rw [ho l (heap_lt a2)]; exact a2⟩
 ·intro d k
  obtain ⟨a1, a2⟩ := h.dok d k
  exact ⟨a1, by rw [ho d (heap_lt a2)]; exact a2⟩
 ·intro b c' k
  obtain ⟨a1, a2, a3, a4, a5⟩ := h.rok b c' k
  exact ⟨a1, a2, a3, a4, blk _ _ a5⟩
 intro b s k
 exact (h.szok b s k).of_heap (ho b (h.szok b s k).lt)
/-- A row that nobody holds is marked. -/
theorem SR.reframe {Ψ : Ty} {σ : Sg} {w w' : World} (h : SR Ψ σ w) {g : Nat} {c : Array Value} {t : TypeId} {f f' : Nat × Nat} (h1 : w.heap[g]? = some (.cells c t f)) (h2 : w'.heap[g]? = some (.cells c t f')) (ho : ∀ k, k ≠ g → w'.heap[k]? = w.heap[k]?) (hz : w'.heap.size = w.heap.size) (h0 : Ψ.base ≤ g)
 (hv : ∀ (id : Nat) (cs : List PV), σ.store[id]? = some (some cs) → Ψ.β[id]? ≠ some g) (hr : ∀ (r n e c es : Nat), σ.rooms[r]? = some n → Ψ.hist r n = some (some (g, e, c, es)) → c ≤ e) (hs : ∀ c, (g, c) ∉ Ψ.rs) : SR Ψ σ w' := by
 have cel : ∀ b o v, w.cell? ⟨b, o, none⟩ = some v → w'.cell? ⟨b, o, none⟩ = some v := fun b o v k => by
  by_cases e : b = g
  ·subst e; rw [cell_eq] at k ⊢; rw [h1] at k; rw [h2]; exact k
  rw [cell_eq, ho b e, ← cell_eq]; exact k
 refine ⟨by rw [hz]; exact h.base, fun b o v k => cel b o v (h.imm b o v k), h.blen, ?_, h.apart, ?_, h.roomsApart, h.histlt, h.histle, fun i b k => by rw [hz]; exact h.βlt i b k, ?_, h.ylen', ?_, ?_, ?_⟩
 ·intro id cs b k1 k2
  obtain ⟨a1, a2, a3⟩ := h.block id cs b k1 k2
  exact ⟨a1, a2, a3.of_heap (ho b fun e => hv id cs k1 (e ▸ k2))⟩
 ·intro r n b e c' es k1 k2 k3
  obtain ⟨a1, a2, a3, cc, a4, a5⟩ := h.room r n b e c' es k1 k2 k3
  have hne : b ≠ g := by rintro rfl; have := hr r n e c' es k1 k2; omega
  exact ⟨a1, a2, a3, cc, a4.of_heap (ho b hne), a5⟩
 ·intro y l d s k1 k2
  obtain ⟨a1, a0, a2⟩ := h.yok y l d s k1 k2
  have hne : l ≠ g := by rintro rfl; rw [h1] at a2; cases a2
  exact ⟨a1, a0, by rw [ho l hne]; exact a2⟩
 ·intro d k
  obtain ⟨a1, a2⟩ := h.dok d k
  have hne : d ≠ g := by rintro rfl; rw [h1] at a2; cases a2
  exact ⟨a1, by rw [ho d hne]; exact a2⟩
 ·intro b c' k
  obtain ⟨a1, a2, a3, a4, a5⟩ := h.rok b c' k
  exact ⟨a1, a2, a3, a4, a5.of_heap (ho b fun e => hs c' (e ▸ k))⟩
 intro b s k
 by_cases e : b = g
 ·subst e; exact (h.szok b s k).rewrite h0 h1 h2 rfl
 exact (h.szok b s k).of_heap (ho b e)
theorem freeze_at {w : World} {g n : Nat} {c : Array Value} {t : TypeId} {f : Nat × Nat} (h : w.heap[g]? = some (.cells c t f)) (hn : n ≠ 0) : ∃ f', (w.freeze ⟨g, 0, none⟩ n).heap[g]? = some (.cells c t f') := by
 unfold World.freeze
 rw [if_neg hn]
 obtain ⟨lo, hi⟩ := f
 simp only [Array.getElem?_modify, if_true, h, Option.map_some]
 exact ⟨_, rfl⟩
theorem freeze_other {w : World} {g n k : Nat} (hk : k ≠ g) : (w.freeze ⟨g, 0, none⟩ n).heap[k]? = w.heap[k]? := by
 unfold World.freeze
 split
 ·rfl
 simp only [Array.getElem?_modify]
 rw [if_neg (fun e => hk e.symm)]
theorem freeze_size {w : World} {g n : Nat} : (w.freeze ⟨g, 0, none⟩ n).heap.size = w.heap.size := by
 unfold World.freeze
 split
 ·rfl
 simp
/-- A builder's row becomes a string's. -/
theorem SR.stringed {Ψ : Ty} {σ : Sg} {w : World} (h : SR Ψ σ w) {r n g cap : Nat} {t : TypeId} (hr : σ.rooms[r]? = some n) (hh : Ψ.hist r n = some (some (g, n, cap, 1))) (ht : (g, .ty t cap) ∈ Ψ.sz) (hi : ∀ o, o < n → Ψ.imm g o ≠ none) (hn : 0 < n) :
 ∃ Ψ', Ψ.le Ψ' ∧ SR Ψ' (σ.setRoom r (n + 1)) (w.drew.freeze ⟨g, 0, none⟩ n) ∧ Below Ψ.base w (w.drew.freeze ⟨g, 0, none⟩ n) := by
 obtain ⟨hb0, c, f, hc, hcs⟩ := h.szok g _ ht
 obtain ⟨Ψ2, le2, hs2, i1, i2, i0, i3, i4, i5⟩ := h.drew.roomStep (r' := r) (n' := n + 1) (σ2 := σ.setRoom r (n + 1)) (.inr ⟨n, hr, by omega, rfl⟩) none (fun b e c es k => by cases k)
 obtain ⟨f', hf'⟩ := freeze_at (w := w.drew) (n := n) hc (by omega)
 have hi2 : ∀ o, o < n → Ψ2.imm g o ≠ none := by rw [i1]; exact hi
 have hfin : SR Ψ2 (σ.setRoom r (n + 1)) (w.drew.freeze ⟨g, 0, none⟩ n) := by
  refine hs2.reframe hc hf' (fun k hk => freeze_other hk) freeze_size (by rw [le2.base]; exact hb0) (fun id cs k1 k2 => ?_) (fun r1 n1 e c1 es k1 k2 => ?_) (fun c1 k => ?_)
  ·exact hi2 0 hn ((hs2.block id cs g k1 k2).2.1 0)
  ·by_cases hr1 : r1 = r
   ·subst hr1
    have : n1 = n + 1 := by
     simp only [Sg.setRoom] at k1
     rw [List.getElem?_set_self ((List.getElem?_eq_some_iff.1 hr).1)] at k1
     injection k1 with k1
     exact k1.symm
    subst this
    rw [i4] at k2
    injection k2 with k2
    cases k2
   obtain ⟨q1, q2⟩ := i5 r1 n1 k1 hr1
   rw [q2] at k2
   rcases Nat.lt_or_ge e c1 with hlt | hge
   ·exfalso
    obtain ⟨_, a2, _, cc, ⟨t3, a4⟩, a5⟩ := h.room r1 n1 g e c1 es q1 k2 hlt
    rw [show w.heap[g]? = w.drew.heap[g]? from rfl] at a4
    have hc' : w.drew.heap[g]? = some (.cells c t f) := hc
    rw [hc'] at a4
    injection a4 with a4
    injection a4 with a4 _ _
    subst a4
    have ha := h.roomsApart r n r1 n1 g n cap 1 e c1 es hr q1 (fun e => hr1 e.symm) hh k2 e
    have hen : e < n := by
     rcases Nat.lt_or_ge e n with h1 | h1
     ·exact h1
     exact absurd hlt (ha h1 (by omega) (Nat.le_refl _))
    exact hi e hen (a2 e (Nat.le_refl _) hlt)
   exact hge
  exact hi2 0 hn ((hs2.rok g c1 k).2.1 0)
 have hpl : (w.drew.freeze ⟨g, 0, none⟩ n).os = w.os ∧ (w.drew.freeze ⟨g, 0, none⟩ n).tape = w.tape ∧ (w.drew.freeze ⟨g, 0, none⟩ n).output = w.output := by
  unfold World.freeze
  split <;> exact ⟨rfl, rfl, rfl⟩
 refine ⟨Ψ2, le2, hfin, hpl.1, hpl.2.1, hpl.2.2, by rw [freeze_size]; exact Nat.le_refl _, fun k hk => ?_⟩
 rw [freeze_other (by omega)]
 rfl
theorem CleanSg_bld {σ : Sg} {id T r te n : Nat} {l m : List PV} (hcl : CleanSg σ) (hd : σ.store[id]? = some (some [.bself id T, .bbuf l r te])) (hr : r < σ.rooms.length) (hm : ∀ p, p ∈ m → Clean σ.store.length σ.rooms.length σ.ys.length p) :
 CleanSg ((σ.setRoom r n).setVar id [.bself id T, .bbuf (l ++ m) r te]) := by
 have hid := (List.getElem?_eq_some_iff.1 hd).1
 intro i cs hi hcs p hp
 have e1 : ((σ.setRoom r n).setVar id [.bself id T, .bbuf (l ++ m) r te]).store.length = σ.store.length := by simp [Sg.setVar, Sg.setRoom]
 have e2 : ((σ.setRoom r n).setVar id [.bself id T, .bbuf (l ++ m) r te]).rooms.length = σ.rooms.length := by simp [Sg.setVar, Sg.setRoom]
 have e3 : ((σ.setRoom r n).setVar id [.bself id T, .bbuf (l ++ m) r te]).ys.length = σ.ys.length := rfl
 rw [e1] at hi
 rw [e1, e2, e3]
 have h0 : (σ.store.set id (some [.bself id T, .bbuf (l ++ m) r te]))[i]? = some (some cs) := hcs
 rw [List.getElem?_set] at h0
 by_cases e : id = i
 ·subst e
  rw [if_pos rfl, if_pos hid] at h0
  injection h0 with h0
  injection h0 with h0
  subst h0
  have hl := hcl id _ hid hd (.bbuf l r te) (by simp)
  simp only [List.mem_cons, List.not_mem_nil, or_false] at hp
  rcases hp with rfl | rfl
  ·exact .bself _ _ hid
  cases hl with
  | bbuf _ _ _ hl =>
  cases hl with
  | isl _ _ h1 h2 =>
  refine .bbuf _ _ _ (.isl _ _ (fun e he => ?_) fun r' n' es' e => by injection e with e _ _; subst e; exact hr)
  rcases List.mem_append.1 he with he | he
  ·exact h1 e he
  exact hm e he
 rw [if_neg e] at h0
 exact hcl i cs hi h0 p hp
theorem strPV_clean {s : ByteArray} {a b c : Nat} : ∀ p, p ∈ strPV s → Clean a b c p := fun p hp => by
 obtain ⟨x, _, rfl⟩ := List.mem_map.1 hp
 exact .int _ _
/-- A contract of the library's, as a contract. -/
theorem PC_of_calls {P : Program} {Y : YEnv} {f : FuncId} {args : List PV} {σ σ' : Sg} {v : PV} (hg : goFn P f = true)
 (h : ∀ Ψ vals w, SR Ψ σ w → VRs Ψ args vals → Calls P f vals w (fun e w' => ∃ x Ψ', e = .returned x ∧ Ψ.le Ψ' ∧ SR Ψ' σ' w' ∧ VR Ψ' v x ∧ Below Ψ.base w w')) : PC P Y f args σ v σ' :=
 ⟨hg, fun Ψ vals w hs ha _ => callsIn_wide.2 (h Ψ vals w hs ha)⟩
section
variable {P : Program} {Y : YEnv} {f : FuncId} {σ : Sg} {id : Nat} {xs ys : List Int}
end
section
variable {N : Nat} {lo : Nat × Nat} {E : Env} {σ : Sg}
theorem VR.of_gnil {Ψ : Ty} {x : Value} (hv : VR Ψ .gnil x) : VR Ψ (.isl [] .ro) x := by
 cases hv with
 | gnil a => exact .islnil .ro a trivial
end
/-- A slice of numbers that grows in place: nothing yet, or the last of a row of variables (those before it are gone). -/
def glI (n : Nat) (out : List Int) : PV := match out with
 | [] => .gnil
 | _ :: t => .gsl (n + t.length) (t.length + 1) 1
def gsI (out : List Int) : List (Option (List PV)) := match out with
 | [] => []
 | _ :: t => List.replicate t.length none ++ [some (out.map I)]
theorem glI_cells (n : Nat) (out : List Int) : (glI n out).cells = [glI n out] := by cases out <;> rfl
theorem glI_scalar (n : Nat) (out : List Int) : (glI n out).scalar = true := by cases out <;> rfl
theorem glI_defd (n : Nat) (out : List Int) : defd (glI n out) = true := by cases out <;> rfl
theorem appendAny_gl {P : Program} {σ : Sg} {t t' : TypeId} {n : Nat} {out : List Int} {m : List PV} {o : Own} : appendAny P σ t t' (glI n out) (.isl m o) = appendG P σ t t' (glI n out) (.isl m o) := by cases out <;> rfl
theorem cells_gsl (a b c : Nat) : (PV.gsl a b c).cells = [PV.gsl a b c] := rfl
theorem cells_gnil : PV.gnil.cells = [PV.gnil] := rfl
attribute [go_sem] appendAny_gl cells_gsl cells_gnil
attribute [go_sem high] glI_cells glI_scalar glI_defd
theorem stX_glI {σ : Sg} {l : List (Option (List PV))} {rm : List Nat} {ys : List LState} {j off n : Nat} {out : List Int} : stX 1 (σ.ext l rm ys) (σ.store.length + j) off (glI n out) = match l[j]? with
 | some (some cs) => if off + 1 ≤ cs.length then some (σ.ext (l.set j (some (putCells cs off [glI n out]))) rm ys) else none
 | _ => none := by
 simp only [stX_ext, glI_defd, glI_cells, List.all_cons, List.all_nil, glI_scalar]
 rcases l[j]? with _ | _ | cs <;> simp
attribute [go_sem high] stX_glI
section
variable {σ : Sg} {A : List (Option (List PV))} {rm : List Nat} {ys : List LState} {N : Nat} {lo : Nat × Nat} {E : Env} {out : List Int}
theorem get_mid {α : Type} {A B : List α} {x : α} : (A ++ x :: B)[A.length]? = some x := by simp
theorem set_mid {α : Type} {A B : List α} {x y : α} : (A ++ x :: B).set A.length y = A ++ y :: B := by simp
theorem gsI_get {x : Int} : (A ++ gsI (x :: out))[A.length + out.length]? = some (some ((x :: out).map I)) := by
 have : A.length + out.length = (A ++ List.replicate out.length (none : Option (List PV))).length := by simp
 rw [this, gsI, ← List.append_assoc]
 exact get_mid
theorem gsI_set {x : Int} {y : Option (List PV)} : (A ++ gsI (x :: out)).set (A.length + out.length) y = A ++ (List.replicate out.length none ++ [y]) := by
 have : A.length + out.length = (A ++ List.replicate out.length (none : Option (List PV))).length := by simp
 rw [this, gsI, ← List.append_assoc, ← List.append_assoc]
 exact set_mid
theorem appG_gl (x : Int) (h : (out.length + 1) * 8 ≤ 2 ^ 47) : appG 1 8 (σ.ext (A ++ gsI out) rm ys) (glI (σ.store.length + A.length) out) [I x] = some (glI (σ.store.length + A.length) (out ++ [x]), σ.ext (A ++ gsI (out ++ [x])) rm ys) := by
 cases out with
 | nil =>
  rw [glI, appG_nil (by rfl) (by simp) (by simp)]
  simp [gsI, glI, rowC, Sg.push_ext, Sg.len_ext]
 | cons y out =>
  simp only [glI]
  rw [appG_more (cs := (y :: out).map I) (by rw [Nat.add_assoc, Sg.get_ext]; exact gsI_get) (by simp) (by rfl) (by simp) (by simpa using h)]
  rw [Nat.add_assoc (Sg.store σ).length, Sg.drop_ext, gsI_set]
  simp only [Sg.push_ext, Sg.len_ext, rowC]
  have e : List.replicate (out ++ [x]).length (none : Option (List PV)) = List.replicate out.length none ++ [none] := by simp [List.replicate_succ']
  simp only [List.cons_append, gsI, e]
  simp [Nat.add_assoc]
/-- Compacted. -/
def glC (n : Nat) (s : List Int) : PV := match s with
 | [] => .gnil
 | _ :: t => .gsl (n + t.length) (Lib.compact s).length 1
theorem glC_cells (n : Nat) (out : List Int) : (glC n out).cells = [glC n out] := by cases out <;> rfl
theorem glC_scalar (n : Nat) (out : List Int) : (glC n out).scalar = true := by cases out <;> rfl
theorem glC_defd (n : Nat) (out : List Int) : defd (glC n out) = true := by cases out <;> rfl
attribute [go_sem high] glC_cells glC_scalar glC_defd
theorem stX_glC {σ : Sg} {l : List (Option (List PV))} {rm : List Nat} {ys : List LState} {j off n : Nat} {out : List Int} : stX 1 (σ.ext l rm ys) (σ.store.length + j) off (glC n out) = match l[j]? with
 | some (some cs) => if off + 1 ≤ cs.length then some (σ.ext (l.set j (some (putCells cs off [glC n out]))) rm ys) else none
 | _ => none := by
 simp only [stX_ext, glC_defd, glC_cells, List.all_cons, List.all_nil, glC_scalar]
 rcases l[j]? with _ | _ | cs <;> simp
attribute [go_sem high] stX_glC
end
open Go Go.RowKit Go.Shelf
set_option maxRecDepth 100000
def bld_ren : Go.Shelf.Ren := ⟨fun | 240 => 120 | 276 => 183 | 169 => 64 | 166 => 62 | 167 => 130 | n => n, fun | 37 => 143 | 70 => 142 | 72 => 145 | 164 => 289 | 127 => 224 | n => n, fun n => n⟩
theorem lays240 : Lays.n240 Tryz.prog bld_ren where
 mixed := by kernel_rfl
 f240 := Tryz.func120.trans (congrArg some (by kernel_rfl))
 f276 := Tryz.func183.trans (congrArg some (by kernel_rfl))
 t0 := Tryz.underlying0
 a0 := Tryz.isAgg0
 z0 := Tryz.sizeOf0
 v0 := Tryz.zeroValue0
 t4 := Tryz.underlying4
 a4 := Tryz.isAgg4
 z4 := Tryz.sizeOf4
 v4 := Tryz.zeroValue4
 t9 := Tryz.underlying9
 a9 := Tryz.isAgg9
 z9 := Tryz.sizeOf9
 v9 := Tryz.zeroValue9
 t20 := Tryz.underlying20
 a20 := Tryz.isAgg20
 z20 := Tryz.sizeOf20
 v20 := Tryz.zeroValue20
 t70 := Tryz.underlying142
 a70 := Tryz.isAgg142
 z70 := Tryz.sizeOf142
 v70 := Tryz.zeroValue142
 t72 := Tryz.underlying145
 a72 := Tryz.isAgg145
 z72 := Tryz.sizeOf145
 v72 := Tryz.zeroValue145
 t164 := Tryz.underlying289
 a164 := Tryz.isAgg289
 z164 := Tryz.sizeOf289
 v164 := Tryz.zeroValue289
theorem lays169 : Lays.n169 Tryz.prog bld_ren where
 mixed := by kernel_rfl
 f169 := Tryz.func64.trans (congrArg some (by kernel_rfl))
 t0 := Tryz.underlying0
 a0 := Tryz.isAgg0
 z0 := Tryz.sizeOf0
 v0 := Tryz.zeroValue0
 t3 := Tryz.underlying3
 a3 := Tryz.isAgg3
 z3 := Tryz.sizeOf3
 v3 := Tryz.zeroValue3
 t9 := Tryz.underlying9
 a9 := Tryz.isAgg9
 z9 := Tryz.sizeOf9
 v9 := Tryz.zeroValue9
 t37 := Tryz.underlying143
 a37 := Tryz.isAgg143
 z37 := Tryz.sizeOf143
 v37 := Tryz.zeroValue143
 t70 := Tryz.underlying142
 a70 := Tryz.isAgg142
 z70 := Tryz.sizeOf142
 v70 := Tryz.zeroValue142
 t72 := Tryz.underlying145
 a72 := Tryz.isAgg145
 z72 := Tryz.sizeOf145
 v72 := Tryz.zeroValue145
 t127 := Tryz.underlying224
 a127 := Tryz.isAgg224
 z127 := Tryz.sizeOf224
 v127 := Tryz.zeroValue224
def lays171_ren : Go.Shelf.Ren := ⟨fun | 171 => 51 | 243 => 105 | 246 => 163 | 283 => 219 | 284 => 220 | 285 => 221 | 286 => 222 | 129 => 264 | 317 => 263 | 318 => 265 | 319 => 266 | 320 => 267 | 337 => 312 | 338 => 313 | n => n, fun | 3 => 3 | 9 => 9 | 2 => 2 | 4 => 4 | 171 => 333 | 0 => 0 | 53 => 98 | 37 => 143 | 5 => 5 | 173 => 336 | 212 => 352 | 51 => 353 | 20 => 20 | 213 => 354 | 46 => 119 | 232 => 408 | 233 => 409 | n => n, fun | 17 => 3 | 18 => 7 | 19 => 8 | n => n⟩
theorem lays171_p : Lays.n171 Tryz.prog lays171_ren where
 mixed := by kernel_rfl
 f129 := Tryz.func264.trans (congrArg some (by kernel_rfl))
 f171 := Tryz.func51.trans (congrArg some (by kernel_rfl))
 f243 := Tryz.func105.trans (congrArg some (by kernel_rfl))
 f246 := Tryz.func163.trans (congrArg some (by kernel_rfl))
 f283 := Tryz.func219.trans (congrArg some (by kernel_rfl))
 f284 := Tryz.func220.trans (congrArg some (by kernel_rfl))
 f285 := Tryz.func221.trans (congrArg some (by kernel_rfl))
 f286 := Tryz.func222.trans (congrArg some (by kernel_rfl))
 f317 := Tryz.func263.trans (congrArg some (by kernel_rfl))
 f318 := Tryz.func265.trans (congrArg some (by kernel_rfl))
 f319 := Tryz.func266.trans (congrArg some (by kernel_rfl))
 f320 := Tryz.func267.trans (congrArg some (by kernel_rfl))
 f337 := Tryz.func312.trans (congrArg some (by kernel_rfl))
 f338 := Tryz.func313.trans (congrArg some (by kernel_rfl))
 t0 := Tryz.underlying0
 a0 := Tryz.isAgg0
 z0 := Tryz.sizeOf0
 v0 := Tryz.zeroValue0
 t2 := Tryz.underlying2
 a2 := Tryz.isAgg2
 z2 := Tryz.sizeOf2
 v2 := Tryz.zeroValue2
 t3 := Tryz.underlying3
 a3 := Tryz.isAgg3
 z3 := Tryz.sizeOf3
 v3 := Tryz.zeroValue3
 t4 := Tryz.underlying4
 a4 := Tryz.isAgg4
 z4 := Tryz.sizeOf4
 v4 := Tryz.zeroValue4
 t5 := Tryz.underlying5
 a5 := Tryz.isAgg5
 z5 := Tryz.sizeOf5
 v5 := Tryz.zeroValue5
 t9 := Tryz.underlying9
 a9 := Tryz.isAgg9
 z9 := Tryz.sizeOf9
 v9 := Tryz.zeroValue9
 t20 := Tryz.underlying20
 a20 := Tryz.isAgg20
 z20 := Tryz.sizeOf20
 v20 := Tryz.zeroValue20
 t37 := Tryz.underlying143
 a37 := Tryz.isAgg143
 z37 := Tryz.sizeOf143
 v37 := Tryz.zeroValue143
 t46 := Tryz.underlying119
 a46 := Tryz.isAgg119
 z46 := Tryz.sizeOf119
 v46 := Tryz.zeroValue119
 t51 := Tryz.underlying353
 a51 := Tryz.isAgg353
 z51 := Tryz.sizeOf353
 v51 := Tryz.zeroValue353
 t53 := Tryz.underlying98
 a53 := Tryz.isAgg98
 z53 := Tryz.sizeOf98
 v53 := Tryz.zeroValue98
 t171 := Tryz.underlying333
 a171 := Tryz.isAgg333
 z171 := Tryz.sizeOf333
 v171 := Tryz.zeroValue333
 t173 := Tryz.underlying336
 a173 := Tryz.isAgg336
 z173 := Tryz.sizeOf336
 v173 := Tryz.zeroValue336
 t212 := Tryz.underlying352
 a212 := Tryz.isAgg352
 z212 := Tryz.sizeOf352
 v212 := Tryz.zeroValue352
 t213 := Tryz.underlying354
 a213 := Tryz.isAgg354
 z213 := Tryz.sizeOf354
 t232 := Tryz.underlying408
 a232 := Tryz.isAgg408
 z232 := Tryz.sizeOf408
 v232 := Tryz.zeroValue408
 t233 := Tryz.underlying409
 a233 := Tryz.isAgg409
 z233 := Tryz.sizeOf409
 v233 := Tryz.zeroValue409
 g17 := by kernel_rfl
 g18 := by kernel_rfl
 g19 := by kernel_rfl
theorem lays171 : LaysM.n171 Tryz.prog lays171_ren := { lays171_p with
 i0 := by kernel_rfl,
 i2 := by kernel_rfl,
 i3 := by kernel_rfl,
 i4 := by kernel_rfl,
 i5 := by kernel_rfl,
 i9 := by kernel_rfl,
 i20 := by kernel_rfl,
 i37 := by kernel_rfl,
 i46 := by kernel_rfl,
 i51 := by kernel_rfl,
 i53 := by kernel_rfl,
 i171 := by kernel_rfl,
 i173 := by kernel_rfl,
 i212 := by kernel_rfl,
 i232 := by kernel_rfl,
 i233 := by kernel_rfl,
 m17 := by kernel_rfl,
 m18 := by kernel_rfl,
 m19 := by kernel_rfl }
theorem PC_of_callsG {P : Program} {Y : YEnv} {f : FuncId} {args : List PV} {σ σ' : Sg} {v : PV} (hg : goFn P f = true)
 (h : ∀ Ψ vals w, SR Ψ σ w → VRs Ψ args vals → GOK P Ψ → Calls P f vals w (fun e w' => ∃ x Ψ', e = .returned x ∧ Ψ.le Ψ' ∧ SR Ψ' σ' w' ∧ VR Ψ' v x ∧ Below Ψ.base w w')) : PC P Y f args σ v σ' :=
 ⟨hg, fun Ψ vals w hs ha hy => callsIn_wide.2 (h Ψ vals w hs ha hy.1)⟩
theorem one_arg {Ψ : Ty} {p : PV} {vals : Array Value} (ha : VRs Ψ [p] vals) : ∃ x, vals = #[x] ∧ VR Ψ p x := by
 have := ha.1
 match vals, this with
 | ⟨[x]⟩, _ => exact ⟨x, rfl, ha.2 0 _ _ rfl rfl⟩
theorem x72 : Builder.X72 Tryz.prog bld_ren := ⟨by kernel_rfl, by kernel_rfl⟩
/-- A builder in a variable. -/
theorem bld_at {Ψ : Ty} {σ : Sg} {w : World} (hs : SR Ψ σ w) {id T r te : Nat} {l : List PV} {b : Nat} (hst : σ.store[id]? = some (some [.bself id T, .bbuf l r te])) (hβ : Ψ.β[id]? = some b) :
 ∃ x v, Ψ.base ≤ b ∧ w.heap[b]? = some (.cells #[x, v] T (0, 0)) ∧ (x = .pointer none ∨ x = .pointer (some ⟨b, 0, none⟩)) ∧ VR Ψ (.bbuf l r te) v := by
 obtain ⟨a1, _, hk⟩ := hs.block id _ b hst hβ
 rcases hk with ⟨c, hb, h1, h2⟩ | ⟨arr, es, h0, _⟩ | ⟨mid, r', n, seen, h0, _⟩
 ·simp only [List.length_cons, List.length_nil] at h1
  have v0 := h2 0 _ c[0] rfl (by simp)
  have v1 := h2 1 _ c[1] rfl (by simp)
  cases v0 with
  | bself _ _ b' _ hβ' hz hx =>
  rw [hβ] at hβ'
  injection hβ' with hβ'
  subst hβ'
  obtain ⟨_, c', f, hc', hsz⟩ := hs.szok _ _ hz
  obtain ⟨e, hbe⟩ := hb
  rw [hbe] at hc'
  injection hc' with hc'
  injection hc' with e1 e2 e3
  subst e1 e2
  refine ⟨c[0], c[1], a1, ?_, hx, v1⟩
  rw [hbe]
  congr 2
  apply Array.ext
  ·simp [hsz]
  intro i h1 h2
  match i, h2 with
  | 0, _ => rfl
  | 1, _ => rfl
 ·cases h0
 cases h0
theorem copyCheck_pc (Y : YEnv) (σ : Sg) {id r te : Nat} {l : List PV} (hst : σ.store[id]? = some (some [.bself id 145, .bbuf l r te])) : PC Tryz.prog Y 120 [.ptr id 0] σ (.tuple []) σ := by
 refine PC_of_calls (by kernel_rfl) fun Ψ vals w hs ha => ?_
 obtain ⟨x, rfl, hx⟩ := one_arg ha
 obtain ⟨b, hβ, hz, rfl⟩ := hx.ptr_inv
 obtain ⟨y, v, a1, hb, hy, hv⟩ := bld_at hs hst hβ
 have hc0 : w.cell? ⟨b, 0, none⟩ = some y := by rw [cell_eq, hb]; rfl
 rcases hy with rfl | rfl
 ·refine (Any.Builder_copyCheck_fresh lays240 x72 b w hc0 (by simp [World.shape?, hb]; rfl) (by simp [World.frozen?, hb])).mono ?_
  rintro e w' ⟨rfl, rfl⟩
  have hself : VR Ψ (.bself id 145) (.pointer (some ⟨b, 0, none⟩)) := by
   obtain ⟨_, _, hk⟩ := hs.block id _ b hst hβ
   obtain ⟨_, h2⟩ := hk.cells ⟨_, hb⟩
   have v0 := h2 0 _ _ rfl rfl
   cases v0 with
   | bself _ _ b' _ hβ' hz' _ =>
   rw [hβ] at hβ'
   injection hβ' with hβ'
   subst hβ'
   exact .bself _ _ b _ hβ hz' (.inr rfl)
  have h2 : SR Ψ (σ.setVar id [.bself id 145, .bbuf l r te]) (w.setCell ⟨b, 0, none⟩ (.pointer (some ⟨b, 0, none⟩))) := hs.setVar hst hβ hz hself (off := 0)
  rw [setVar_same σ id _ hst] at h2
  exact ⟨_, Ψ, rfl, Ty.le.refl _, h2, skipped_ok _, (Below.refl _ _).setCell (p := ⟨b, 0, none⟩) a1 _⟩
 refine (Any.Builder_copyCheck_used lays240 x72 b w hc0).mono ?_
 rintro e w' ⟨rfl, rfl⟩
 exact ⟨_, Ψ, rfl, Ty.le.refl _, hs, skipped_ok _, Below.refl _ _⟩
/-- What a builder holds, as a string: its row is marked. -/
theorem bldString (b g : Nat) (p : Value) (cap : Nat) (l : List UInt8) (w : World) (h0 : l ≠ []) (hbk : w.heap[b]? = some (.cells #[p, .slice (some ⟨g, 0, none⟩) l.length cap] 145 (0, 0))) {cur : Array Value} {fz : Nat × Nat} (hg : w.heap[g]? = some (.cells cur 5 fz)) (hn : l.length ≤ cur.size) (hcap : l.length ≤ cap) (h63 : l.length ≤ 9223372036854775807)
 (hcell : ∀ j x, l[j]? = some x → w.cell? ⟨g, j, none⟩ = some (.int .u8 x.toNat)) :
 Calls Tryz.prog 64 #[.pointer (some ⟨b, 0, none⟩)] w fun e w' => e = .returned (.string ⟨l.toArray⟩) ∧ w' = w.drew.freeze ⟨g, 0, none⟩ l.length := by
 have hl0 : l.length ≠ 0 := by simpa using h0
 have hb1 : w.drew.heap[b]? = some (.cells #[p, .slice (some ⟨g, 0, none⟩) l.length cap] 145 (0, 0)) := hbk
 have c1 : w.drew.cell? ⟨b, 1, none⟩ = some (.slice (some ⟨g, 0, none⟩) l.length cap) := by rw [Lib.cell_of_heap hb1]; rfl
 have hg' : w.drew.heap[g]? = some (.cells cur 5 fz) := hg
 have hSD : (Builtin.unsafeSliceData_ #[bld_ren.t 37] (bld_ren.t 127) #[.slice (some ⟨g, 0, none⟩) l.length cap]).run Tryz.prog w.drew = .ok (.pointer (some ⟨g, 0, none⟩)) w.drew :=
  Lib.run_unsafeSliceData_row _ _ _ _ _ _ (by omega)
 have hUS : (Builtin.unsafeString_ #[bld_ren.t 127, bld_ren.t 3] (bld_ren.t 9) #[.pointer (some ⟨g, 0, none⟩), .int .i64 l.length]).run Tryz.prog w.drew = .ok (.string ⟨l.toArray⟩) (w.drew.freeze ⟨g, 0, none⟩ l.length) :=
  Lib.run_unsafeString_row w.drew (bld_ren.t 127) (bld_ren.t 3) (bld_ren.t 9) 5 Tryz.underlying224 cells5 g cur.size (by simp [World.shape?, hg']) l h0 hn h63 fun j x hx => by
   have := hcell j x hx
   simpa using this
 have L := lays169
 have mixed := L.mixed
 have t72 := L.t72; have a72 := L.a72; have z72 := L.z72; have v72 := L.v72; have u72 := run_underlying L.t72
 have t70 := L.t70; have a70 := L.a70; have z70 := L.z70; have v70 := L.v70; have u70 := run_underlying L.t70
 have t37 := L.t37; have a37 := L.a37; have z37 := L.z37; have v37 := L.v37; have u37 := run_underlying L.t37
 have t127 := L.t127; have a127 := L.a127; have z127 := L.z127; have v127 := L.v127; have u127 := run_underlying L.t127
 have t3 := L.t3; have a3 := L.a3; have z3 := L.z3; have v3 := L.v3; have u3 := run_underlying L.t3
 have t9 := L.t9; have a9 := L.a9; have z9 := L.z9; have v9 := L.v9; have u9 := run_underlying L.t9
 go_enter L.f169, Body.n169_ntmps bld_ren
 go_wp2
 go_region_o
 all_goals (go_wp2; go_ret; exact ⟨rfl, rfl⟩)
theorem Itoa_pc (Y : YEnv) (σ : Sg) (n : Int) (h0 : -9223372036854775808 ≤ n) (h1 : n ≤ 9223372036854775807) : PC Tryz.prog Y 51 [I n] σ (.str ⟨(Lib.itoa n).toArray⟩) σ := by
 refine PC_of_callsG (by kernel_rfl) fun Ψ vals w hs ha hG => ?_
 obtain ⟨x, rfl, hx⟩ := one_arg ha
 obtain rfl := hx.int_inv
 have hgn : Tryz.prog.globalNamed "internal/strconv.uint64pow10" = some 3 := by kernel_rfl
 obtain ⟨_, e, f, hh⟩ := hs.szok _ _ (hG.tab 3 hgn)
 have htab : Lib.TabIs Tryz.prog w "internal/strconv.uint64pow10" .u64 Lib.pow10Tab := by
  unfold Lib.TabIs World.var?
  rw [hgn]
  simp only [Option.bind_some, hh]
  rfl
 refine (Any.strconv_Itoa lays171 n h0 h1 w htab).mono ?_
 rintro e2 w2 ⟨rfl, k, os, rfl⟩
 have ho : ∀ g, g < w.heap.size → (Sort.grow (w.drewN k) os).heap[g]? = w.heap[g]? := fun g hg => Sort.heap_grow_old (w.drewN k) os hg
 have hz : w.heap.size ≤ (Sort.grow (w.drewN k) os).heap.size := by simp [Sort.grow, World.drewN]
 exact ⟨_, Ψ, rfl, Ty.le.refl _, hs.more ho hz, .str _, ⟨rfl, rfl, rfl, hz, fun g hg => ho g (by have := hs.base; omega)⟩⟩
open Go Go.RowKit Go.Shelf
def lays160_ren : Go.Shelf.Ren := ⟨fun | 160 => 94 | 232 => 152 | 231 => 151 | 227 => 153 | 234 => 155 | 233 => 154 | 236 => 157 | 235 => 156 | 228 => 210 | 271 => 213 | 151 => 212 | 197 => 211 | 120 => 261 | 152 => 260 | 260 => 259 | 137 => 310 | 119 => 311 | 224 => 270 | 225 => 269 | 217 => 268 | 266 => 314 | n => n, fun | 9 => 9 | 4 => 4 | 3 => 3 | 5 => 5 | 117 => 262 | 116 => 261 | 0 => 0 | 124 => 265 | 21 => 21 | 105 => 323 | 46 => 119 | 119 => 385 | 139 => 388 | 138 => 387 | n => n, fun | 3 => 5 | 4 => 6 | n => n⟩
theorem lays160 : Lays.n160 Tryz.prog lays160_ren where
 mixed := by kernel_rfl
 f119 := Tryz.func311.trans (congrArg some (by kernel_rfl))
 f120 := Tryz.func261.trans (congrArg some (by kernel_rfl))
 f137 := Tryz.func310.trans (congrArg some (by kernel_rfl))
 f151 := Tryz.func212.trans (congrArg some (by kernel_rfl))
 f152 := Tryz.func260.trans (congrArg some (by kernel_rfl))
 f160 := Tryz.func94.trans (congrArg some (by kernel_rfl))
 f197 := Tryz.func211.trans (congrArg some (by kernel_rfl))
 f217 := Tryz.func268.trans (congrArg some (by kernel_rfl))
 f224 := Tryz.func270.trans (congrArg some (by kernel_rfl))
 f225 := Tryz.func269.trans (congrArg some (by kernel_rfl))
 f227 := Tryz.func153.trans (congrArg some (by kernel_rfl))
 f228 := Tryz.func210.trans (congrArg some (by kernel_rfl))
 f231 := Tryz.func151.trans (congrArg some (by kernel_rfl))
 f232 := Tryz.func152.trans (congrArg some (by kernel_rfl))
 f233 := Tryz.func154.trans (congrArg some (by kernel_rfl))
 f234 := Tryz.func155.trans (congrArg some (by kernel_rfl))
 f235 := Tryz.func156.trans (congrArg some (by kernel_rfl))
 f236 := Tryz.func157.trans (congrArg some (by kernel_rfl))
 f260 := Tryz.func259.trans (congrArg some (by kernel_rfl))
 f266 := Tryz.func314.trans (congrArg some (by kernel_rfl))
 f271 := Tryz.func213.trans (congrArg some (by kernel_rfl))
 t0 := Tryz.underlying0
 a0 := Tryz.isAgg0
 z0 := Tryz.sizeOf0
 v0 := Tryz.zeroValue0
 t3 := Tryz.underlying3
 a3 := Tryz.isAgg3
 z3 := Tryz.sizeOf3
 v3 := Tryz.zeroValue3
 t4 := Tryz.underlying4
 a4 := Tryz.isAgg4
 z4 := Tryz.sizeOf4
 v4 := Tryz.zeroValue4
 t5 := Tryz.underlying5
 a5 := Tryz.isAgg5
 z5 := Tryz.sizeOf5
 v5 := Tryz.zeroValue5
 t9 := Tryz.underlying9
 a9 := Tryz.isAgg9
 z9 := Tryz.sizeOf9
 v9 := Tryz.zeroValue9
 t21 := Tryz.underlying21
 a21 := Tryz.isAgg21
 z21 := Tryz.sizeOf21
 v21 := Tryz.zeroValue21
 t46 := Tryz.underlying119
 a46 := Tryz.isAgg119
 z46 := Tryz.sizeOf119
 v46 := Tryz.zeroValue119
 t105 := Tryz.underlying323
 a105 := Tryz.isAgg323
 z105 := Tryz.sizeOf323
 v105 := Tryz.zeroValue323
 t116 := Tryz.underlying261
 a116 := Tryz.isAgg261
 z116 := Tryz.sizeOf261
 t117 := Tryz.underlying262
 a117 := Tryz.isAgg262
 z117 := Tryz.sizeOf262
 v117 := Tryz.zeroValue262
 t119 := Tryz.underlying385
 a119 := Tryz.isAgg385
 z119 := Tryz.sizeOf385
 t124 := Tryz.underlying265
 a124 := Tryz.isAgg265
 z124 := Tryz.sizeOf265
 v124 := Tryz.zeroValue265
 t138 := Tryz.underlying387
 a138 := Tryz.isAgg387
 z138 := Tryz.sizeOf387
 v138 := Tryz.zeroValue387
 t139 := Tryz.underlying388
 a139 := Tryz.isAgg388
 z139 := Tryz.sizeOf388
 v139 := Tryz.zeroValue388
 g3 := by kernel_rfl
 g4 := by kernel_rfl
def azL : List UInt8 := [97,98,99,100,101,102,103,104,105,106,107,108,109,110,111,112,113,114,115,116,117,118,119,120,121,122]
theorem azL_has : ∀ c : UInt8, azL.contains c = (decide (97 ≤ c.toNat) && decide (c.toNat ≤ 122)) := fun c => by
 have h : ∀ n, n < 256 → azL.contains (UInt8.ofNat n) = (decide (97 ≤ n) && decide (n ≤ 122)) := by decide +kernel
 have h2 := h c.toNat c.toNat_lt
 rwa [UInt8.ofNat_toNat] at h2
theorem dropW_nil {α : Type} {p : α → Bool} : ∀ {l : List α}, l.dropWhile p = [] ↔ ∀ x, x ∈ l → p x = true := by
 intro l
 induction l with
 | nil => simp
 | cons x l ih =>
  by_cases h : p x = true
  ·rw [List.dropWhile_cons_of_pos h, ih]; simp [h]
  rw [List.dropWhile_cons_of_neg h]; simp [h]
theorem dropW_all {α : Type} {p : α → Bool} {l : List α} : (∀ x, x ∈ l.dropWhile p → p x = true) ↔ ∀ x, x ∈ l → p x = true := by
 induction l with
 | nil => simp
 | cons x l ih =>
  by_cases h : p x = true
  ·rw [List.dropWhile_cons_of_pos h, ih]; simp [h]
  rw [List.dropWhile_cons_of_neg h]
theorem trimS_nil (l cs : List UInt8) : Lib.trimS l cs = [] ↔ (l.all fun c => cs.contains c) = true := by
 unfold Lib.trimS Lib.trimLeftS Lib.trimRightS
 rw [dropW_nil, List.all_eq_true]
 constructor
 ·intro h x hx
  have h2 : ∀ y, y ∈ l.reverse.dropWhile (fun c => cs.contains c) → cs.contains y = true := fun y hy => h y (List.mem_reverse.2 hy)
  exact dropW_all.1 h2 x (List.mem_reverse.2 hx)
 intro h x hx
 have h2 : ∀ y, y ∈ l.reverse → cs.contains y = true := fun y hy => h y (List.mem_reverse.1 hy)
 exact dropW_all.2 h2 x (List.mem_reverse.1 hx)
theorem Trim_pc (Y : YEnv) (σ : Sg) (l : List UInt8) (hl : l.length ≤ 2 ^ 62) :
 PC Tryz.prog Y 94 [txt l, txt azL] σ (txt (Lib.trimS l azL)) σ := by
 refine PC_of_callsG (by kernel_rfl) fun Ψ vals w hs ha hG => ?_
 obtain ⟨x, y, rfl, hx, hy⟩ : ∃ x y, vals = #[x, y] ∧ VR Ψ (txt l) x ∧ VR Ψ (txt azL) y := by
  have := ha.1
  match vals, this with
  | ⟨[x, y]⟩, _ => exact ⟨x, y, rfl, ha.2 0 _ _ rfl rfl, ha.2 1 _ _ rfl rfl⟩
 obtain rfl := hx.str_inv
 obtain rfl := hy.str_inv
 have hsz : (⟨l.toArray⟩ : ByteArray).size = l.length := by simp [ByteArray.size]
 refine (Any.strings_Trim_laid lays160 (by kernel_rfl) ⟨l.toArray⟩ ⟨azL.toArray⟩ w (by rw [hsz]; omega) (by decide) (ascii_of_all (by decide))).mono ?_
 rintro e2 w2 ⟨rfl, hB⟩
 have low : ∀ {w2 : World}, Below w.heap.size w w2 → SR Ψ σ w2 ∧ Below Ψ.base w w2 := fun hb =>
  ⟨hs.more (fun k hk => hb.block k hk) hb.size, ⟨hb.os, hb.tape, hb.output, hb.size, fun k hk => hb.block k (Nat.lt_of_lt_of_le hk hs.base)⟩⟩
 have he : (⟨l.toArray⟩ : ByteArray).data.toList = l := by simp
 exact ⟨_, Ψ, rfl, Ty.le.refl _, (low hB).1, by rw [he]; exact .str _, (low hB).2⟩
end Go.Proofs.YtpkkegbiddcodaaGreatDoor
namespace Go.Proofs.YtpkkegbiddcodaaGreatDoor.Pa
open Go Go.RowKit
set_option maxRecDepth 100000
/-- The first place of a thing, or -1. -/
def fIdx {α : Type} (q : α → Bool) : Nat → List α → Int
 | _, [] => -1
 | i, x :: l => if q x then (i : Int) else fIdx q (i + 1) l
theorem fIdx_anyi {α : Type} (q : α → Bool) : ∀ (l : List α) (i : Nat), decide (0 ≤ fIdx q i l) = l.any q := by
 intro l
 induction l with
 | nil => intro i; simp [fIdx]
 | cons x l ih =>
  intro i
  by_cases h : q x = true
  ·have e : fIdx q i (x :: l) = (i : Int) := by simp only [fIdx]; rw [if_pos h]
   rw [e]; simp [h]
  have e : fIdx q i (x :: l) = fIdx q (i + 1) l := by simp only [fIdx]; rw [if_neg h]
  rw [e, ih (i + 1), List.any_cons]
  have h' : q x = false := by simpa using h
  rw [h', Bool.false_or]
theorem fIdx_any {α : Type} (q : α → Bool) (l : List α) : decide (0 ≤ fIdx q 0 l) = l.any q := fIdx_anyi q l 0
theorem bld330 {a b : Int} {k k2 : IntKind} : buildPV Tryz.prog 330 [(0, .int k a), (1, .int k2 b)] = some (.agg [.int k a, .int k2 b]) := by kernel_rfl
attribute [go_sem] bld330
theorem trim_azI (l : List UInt8) : Lib.trimS l azL = [] ↔ (l.all fun c => decide (97 ≤ c.toNat) && decide (c.toNat ≤ 122)) = true := by
 rw [trimS_nil]
 simp only [azL_has]
theorem trim_az {l : List UInt8} (h : Lib.trimS l azL = []) : (l.all fun c => decide (97 ≤ c.toNat) && decide (c.toNat ≤ 122)) = true := (trim_azI l).1 h
theorem trim_azF {l : List UInt8} (h : ¬ Lib.trimS l azL = []) : (l.all fun c => decide (97 ≤ c.toNat) && decide (c.toNat ≤ 122)) = false := by
 rw [trim_azI] at h
 simpa using h
theorem inR_false {n lo hi : Int} : inR n lo hi = false ↔ ¬ (lo ≤ n ∧ n ≤ hi) := by
 rw [← inR_true]; simp
set_option maxHeartbeats 2000000 in
theorem in_pc (Y : YEnv) (σ : Sg) (n lo hi : Int) :
 PC Tryz.prog Y 50 [I n, I lo, I hi] σ (.bool (inR n lo hi)) (σ) := by
 refine PC_of_W Tryz.func50 rfl (by kernel_rfl) Tryz.ntmps50 (by simp) fun hcl hca => ?_
 refine W_sr [0, 1, 2] fun R hR => ?_
 simp only [go_sem]
 refine hR _ _ ?_; clear hR R
 try simp only [go_sem]
 refine W_sr [6] fun R hR => ?_
 simp only [go_sem]
 refine GWant_split (fun g1 => ?_) (fun g1 => ?_)
 ·try simp only [Bool.not_eq_true', Bool.not_eq_false'] at g1
  have n1 := g1; try simp only [nrm] at n1
  simp only [go_sem, g1]
  refine hR _ _ ?_; clear hR R
  try simp only [go_sem]
  refine W_ret ?_
  simp only [go_sem]
  refine ⟨.inr (by trivial), ?_⟩
  first | refine Fsa hcl rfl ?_ | refine Fse hcl rfl ?_
  try simp only [go_sem]
  all_goals
   simp [inR, *]
 try simp only [Bool.not_eq_true', Bool.not_eq_false'] at g1
 have n1 := g1; try simp only [nrm] at n1
 simp only [go_sem, g1]
 refine hR _ _ ?_; clear hR R
 try simp only [go_sem]
 refine W_ret ?_
 simp only [go_sem]
 refine ⟨.inr (by trivial), ?_⟩
 first | refine Fsa hcl rfl ?_ | refine Fse hcl rfl ?_
 try simp only [go_sem]
 all_goals
  simp [inR, *]
set_option maxHeartbeats 2000000 in
theorem indexW_pc (Y : YEnv) (σ : Sg) (l : List Wing) (hl : l.length < 2 ^ 62) (g : FuncId) (p : PV) (q : Wing → Bool) (hq : ∀ (x : Wing), PC Tryz.prog Y g [wgPV x, p] σ (.bool (q x)) σ) :
 PC Tryz.prog Y 158 [wgs l, .func (.func g) [] [p]] σ (I (fIdx q 0 l)) (σ) := by
 refine PC_of_W Tryz.func158 rfl (by kernel_rfl) Tryz.ntmps158 (by simp) fun hcl hca => ?_
 refine W_sr [0, 1] fun R hR => ?_
 simp only [go_sem]
 refine hR _ _ ?_; clear hR R
 try simp only [go_sem]
 refine W_seq fun Z2 K2 => ?_
 refine W_sr [0, 1, 7, 8] fun R hR => ?_
 simp only [go_sem]
 refine hR _ _ ?_; clear hR R
 try simp only [go_sem]
 refine W_block ?_
 refine W_loopS (α := Nat) (fun (i : Nat) => [(8, I i)]) (fun (i : Nat) => i ≤ l.length ∧ fIdx q i (l.drop i) = fIdx q 0 l) (fun (i : Nat) => l.length - i) (0) rfl (⟨Nat.zero_le _, rfl⟩) ?_
 rintro i ⟨hi, hinv⟩
 refine W_sr [0, 1, 7, 8, 9] fun R hR => ?_
 simp only [go_sem]
 refine hR _ _ ?_; clear hR R
 try simp only [go_sem]
 refine W_seq fun Z5 K5 => ?_
 refine W_cond rfl (fun c1 => ?_) (fun c1 => ?_)
 ·
  try simp only [nrm] at c1
  have hi' : i < l.length := by first | assumption | omega
  obtain ⟨x, hx⟩ : ∃ x, l[i]? = some x := ⟨l[i], by simp [hi']⟩
  have hdrop : l.drop i = x :: l.drop (i + 1) := by
   rw [List.drop_eq_getElem_cons hi']; congr 1; exact (List.getElem?_eq_some_iff.1 hx).2
  rw [hdrop] at hinv
  simp only [fIdx] at hinv
  refine W_skip (K5 _ _ ?_)
  refine W_seq fun Z6 K6 => ?_
  refine W_block ?_
  refine W_sr [0, 1, 5, 7, 8] fun R hR => ?_
  simp only [go_sem, hx]
  refine hR _ _ ?_; clear hR R
  try simp only [go_sem, hx]
  refine W_sr [0, 1, 5, 7, 8, 16] fun R hR => ?_
  simp only [go_sem, hx]
  refine GCall_of (hq x) ?_
  simp only [go_sem, hx]
  refine hR _ _ ?_; clear hR R
  try simp only [go_sem, hx]
  refine W_cond rfl (fun c2 => ?_) (fun c2 => ?_)
  ·
   try simp only [nrm] at c2
   refine W_sr [4] fun R hR => ?_
   simp only [go_sem, hx]
   refine hR _ _ ?_; clear hR R
   try simp only [go_sem, hx]
   refine W_ret ?_
   simp only [go_sem, hx]
   refine ⟨.inr (by trivial), ?_⟩
   first | refine Fsa hcl rfl ?_ | refine Fse hcl rfl ?_
   try simp only [go_sem]
   all_goals
    first | rfl | (simp_all; done) | (simp_all; omega)
  try simp only [nrm] at c2
  refine W_skip (K6 _ _ ?_)
  refine W_region [0, 1, 7, 8] fun R hR => ?_
  simp only [go_sem, hx]
  try simp (disch := (first | omega | (simp only [go_sem, List.length_append] <;> omega))) only [wrapI, wrapU, strAdd, slT, slTa, slTb]
  refine hR _ _ ?_; clear hR R
  try simp only [go_sem, hx]
  refine ⟨i + 1, ?_, by (try simp only []); omega, ?_⟩
  ·first | exact Weak.refl | exact Wqq
  try dsimp only
  exact ⟨hi', by simp_all⟩
 try simp only [nrm] at c1
 have hdrop : l.drop i = [] := List.drop_eq_nil_of_le (by omega)
 rw [hdrop] at hinv
 simp only [fIdx] at hinv
 refine W_exit ?_
 simp only [go_sem]
 refine K2 _ _ ?_
 refine W_sr [4] fun R hR => ?_
 simp only [go_sem]
 refine hR _ _ ?_; clear hR R
 try simp only [go_sem]
 refine W_ret ?_
 simp only [go_sem]
 refine ⟨.inr (by trivial), ?_⟩
 first | refine Fsa hcl rfl ?_ | refine Fse hcl rfl ?_
 try simp only [go_sem]
 all_goals
  first | rfl | (simp_all; done) | (simp_all; omega)
set_option maxHeartbeats 2000000 in
theorem containsW_pc (Y : YEnv) (σ : Sg) (l : List Wing) (hl : l.length < 2 ^ 62) (g : FuncId) (p : PV) (q : Wing → Bool) (hq : ∀ (x : Wing), PC Tryz.prog Y g [wgPV x, p] σ (.bool (q x)) σ) :
 PC Tryz.prog Y 95 [wgs l, .func (.func g) [] [p]] σ (.bool (l.any q)) (σ) := by
 refine PC_of_W Tryz.func95 rfl (by kernel_rfl) Tryz.ntmps95 (by simp) fun hcl hca => ?_
 refine W_sr [0, 1] fun R hR => ?_
 simp only [go_sem]
 refine hR _ _ ?_; clear hR R
 try simp only [go_sem]
 refine W_sr [4] fun R hR => ?_
 simp only [go_sem]
 refine GCall_of (indexW_pc Y _ l hl g p q hq) ?_
 simp only [go_sem]
 refine hR _ _ ?_; clear hR R
 try simp only [go_sem]
 refine W_ret ?_
 simp only [go_sem]
 refine ⟨.inr (by trivial), ?_⟩
 first | refine Fsa hcl rfl ?_ | refine Fse hcl rfl ?_
 try simp only [go_sem]
 all_goals
  simp only [fIdx_any, go_sem]
set_option maxHeartbeats 2000000 in
theorem check1_pc (Y : YEnv) (σ : Sg) (id : Nat) (u : Wing) (hd : σ.store[id]? = some (some (wgCells u))) (v : Wing) :
 PC Tryz.prog Y 96 [wgPV v, .ptr id 0] σ (.bool (decide (v.name = u.name))) (σ) := by
 refine PC_of_W Tryz.func96 rfl (by kernel_rfl) Tryz.ntmps96 (by simp) fun hcl hca => ?_
 refine W_sr [1, 2] fun R hR => ?_
 simp only [go_sem, ldS_at (get_extx hd)]
 refine hR _ _ ?_; clear hR R
 try simp only [go_sem, ldS_at (get_extx hd)]
 refine W_sr [3] fun R hR => ?_
 simp only [go_sem, ldS_at (get_extx hd)]
 refine hR _ _ ?_; clear hR R
 try simp only [go_sem, ldS_at (get_extx hd)]
 refine W_ret ?_
 simp only [go_sem, ldS_at (get_extx hd)]
 refine ⟨.inr (by trivial), ?_⟩
 first | refine Fsa hcl rfl ?_ | refine Fse hcl rfl ?_
 try simp only [go_sem]
 all_goals
  first | rfl | (simp_all; done) | (simp_all; omega)
set_option maxHeartbeats 2000000 in
theorem paces_pc (Y : YEnv) (σ : Sg) (v : Wing) :
 PC Tryz.prog Y 215 [wgPV v] σ (.agg [I v.lo, I v.hi]) (σ) := by
 refine PC_of_W Tryz.func215 rfl (by kernel_rfl) Tryz.ntmps215 (by simp) fun hcl hca => ?_
 refine W_sr [1, 2] fun R hR => ?_
 simp only [go_sem]
 refine hR _ _ ?_; clear hR R
 try simp only [go_sem]
 refine W_sr [2] fun R hR => ?_
 simp only [go_sem]
 refine hR _ _ ?_; clear hR R
 try simp only [go_sem]
 refine W_ret ?_
 simp only [go_sem]
 refine ⟨.inr (by trivial), ?_⟩
 first | refine Fin_same hcl (by show resPV Tryz.prog _ _ [.cell 2 330] = some _; simp only [resPV, go_sem]; rfl) (Wk_eq ?_ (by simp only [go_sem])) | refine Fin_same hcl rfl (Wk_eq ?_ (by simp only [go_sem]))
 try simp only [go_sem]
 all_goals
  first | rfl | (simp_all; done) | (simp_all; omega)
set_option maxHeartbeats 2000000 in
theorem truthOf_pc (Y : YEnv) (σ : Sg) (s : School) (st : List Int) (o : Own) (e : Int) :
 PC Tryz.prog Y 100 [shPV s, intsO o st, I e] σ (.agg [wgs s.wings, intsO o st, I e]) (σ) := by
 refine PC_of_W Tryz.func100 rfl (by kernel_rfl) Tryz.ntmps100 (by simp) fun hcl hca => ?_
 have ho : OwnLt σ.rooms.length o := by
  have h := hca (intsO o st) (by simp)
  cases h
  assumption
 refine W_sr [1, 2, 3, 6] fun R hR => ?_
 simp only [go_sem]
 refine hR _ _ ?_; clear hR R
 try simp only [go_sem]
 refine W_sr [6] fun R hR => ?_
 simp only [go_sem]
 refine hR _ _ ?_; clear hR R
 try simp only [go_sem]
 refine W_ret ?_
 simp only [go_sem]
 refine ⟨.inr (by trivial), ?_⟩
 refine Fin_same hcl (by show resPV Tryz.prog _ _ [.cell 6 201] = some _; simp only [resPV, go_sem]; rfl) (Wk_eq ?_ (by simp only [go_sem]; exact ho))
 try simp only [go_sem]
 all_goals
  first | rfl | (simp_all; done) | (simp_all; omega)
set_option maxHeartbeats 4000000 in
theorem Check_pc (Y : YEnv) (σ : Sg) (s : School) (hn : ∀ v, v ∈ s.wings → v.name.length ≤ 2 ^ 62) (hl : s.wings.length < 2 ^ 40) :
 PC Tryz.prog Y 41 [shPV s] σ (I (chkS s)) (σ) := by
 refine PC_of_W Tryz.func41 rfl (by kernel_rfl) Tryz.ntmps41 (by simp) fun hcl hca => ?_
 obtain ⟨res, hres⟩ : ∃ r, chkS s = r := ⟨_, rfl⟩
 rw [hres]
 refine W_sr [1] fun R hR => ?_
 simp only [go_sem]
 refine hR _ _ ?_; clear hR R
 try simp only [go_sem]
 refine W_seq fun Z2 K2 => ?_
 refine W_block ?_
 refine W_sr [1, 5] fun R hR => ?_
 simp only [go_sem]
 refine GCall_of (in_pc Y _ s.route 1 100000) ?_
 simp only [go_sem]
 refine hR _ _ ?_; clear hR R
 try simp only [go_sem]
 refine W_cond rfl (fun c1 => ?_) (fun c1 => ?_)
 ·
  try simp only [nrm] at c1
  refine W_sr [2] fun R hR => ?_
  simp only [go_sem]
  refine hR _ _ ?_; clear hR R
  try simp only [go_sem]
  refine W_ret ?_
  simp only [go_sem]
  refine ⟨.inr (by trivial), ?_⟩
  first | refine Fsa hcl rfl ?_ | refine Fse hcl rfl ?_
  try simp only [go_sem]
  all_goals
   first | rfl | (rw [hinv]; done) | (rw [← hres]; unfold chkS; repeat' split) <;> first | rfl | omega | (simp_all; done) | (simp_all; omega)
 try simp only [nrm] at c1
 refine W_sr [1, 10] fun R hR => ?_
 simp only [go_sem]
 refine hR _ _ ?_; clear hR R
 try simp only [go_sem]
 refine W_cond rfl (fun c2 => ?_) (fun c2 => ?_)
 ·
  try simp only [nrm] at c2
  refine W_sr [2] fun R hR => ?_
  simp only [go_sem]
  refine hR _ _ ?_; clear hR R
  try simp only [go_sem]
  refine W_ret ?_
  simp only [go_sem]
  refine ⟨.inr (by trivial), ?_⟩
  first | refine Fsa hcl rfl ?_ | refine Fse hcl rfl ?_
  try simp only [go_sem]
  all_goals
   first | rfl | (rw [hinv]; done) | (rw [← hres]; unfold chkS; repeat' split) <;> first | rfl | omega | (simp_all; done) | (simp_all; omega)
 try simp only [nrm] at c2
 refine W_sr [1, 15] fun R hR => ?_
 simp only [go_sem]
 refine hR _ _ ?_; clear hR R
 try simp only [go_sem]
 refine W_cond rfl (fun c3 => ?_) (fun c3 => ?_)
 ·
  try simp only [nrm] at c3
  refine W_sr [2] fun R hR => ?_
  simp only [go_sem]
  refine hR _ _ ?_; clear hR R
  try simp only [go_sem]
  refine W_ret ?_
  simp only [go_sem]
  refine ⟨.inr (by trivial), ?_⟩
  first | refine Fsa hcl rfl ?_ | refine Fse hcl rfl ?_
  try simp only [go_sem]
  all_goals
   first | rfl | (rw [hinv]; done) | (rw [← hres]; unfold chkS; repeat' split) <;> first | rfl | omega | (simp_all; done) | (simp_all; omega)
 try simp only [nrm] at c3
 refine W_skip (K2 _ _ ?_)
 refine W_seq fun Z9 K9 => ?_
 refine W_sr [1, 21, 22, 23] fun R hR => ?_
 simp only [go_sem]
 refine hR _ _ ?_; clear hR R
 try simp only [go_sem]
 refine W_block ?_
 refine W_loopS (α := Nat) (fun (i : Nat) => [(23, I i)]) (fun (i : Nat) => i ≤ s.wings.length ∧ res = wgsErr (s.wings.take i) (s.wings.drop i)) (fun (i : Nat) => s.wings.length - i) (0) rfl (⟨Nat.zero_le _, by rw [← hres, List.take_zero, List.drop_zero]; unfold chkS; (repeat' split) <;> first | rfl | omega | (simp_all; done) | (simp_all; omega)⟩) ?_
 rintro i ⟨hi, hinv⟩
 refine W_sr [1, 21, 22, 23, 24] fun R hR => ?_
 simp only [go_sem]
 refine hR _ _ ?_; clear hR R
 try simp only [go_sem]
 refine W_seq fun Z12 K12 => ?_
 refine W_cond rfl (fun c4 => ?_) (fun c4 => ?_)
 ·
  try simp only [nrm] at c4
  have hi' : i < s.wings.length := by first | assumption | omega
  obtain ⟨x, hx⟩ : ∃ x, s.wings[i]? = some x := ⟨s.wings[i], by simp [hi']⟩
  have hdrop : s.wings.drop i = x :: s.wings.drop (i + 1) := by
   rw [List.drop_eq_getElem_cons hi']; congr 1; exact (List.getElem?_eq_some_iff.1 hx).2
  rw [hdrop] at hinv
  simp only [wgsErr] at hinv
  have htk : s.wings.take i ++ [x] = s.wings.take (i + 1) := by rw [List.take_add_one, hx]; rfl
  rw [htk] at hinv
  refine W_skip (K12 _ _ ?_)
  refine W_seq fun Z13 K13 => ?_
  refine W_block ?_
  refine W_sr [1, 3, 4, 21, 22, 23] fun R hR => ?_
  simp only [go_sem, hx]
  refine hR _ _ ?_; clear hR R
  try simp only [go_sem, hx]
  refine W_block ?_
  refine W_seq fun Z15 K15 => ?_
  refine W_sr [1, 3, 4, 21, 22, 23, 28] fun R hR => ?_
  simp only [go_sem, hx]
  refine GCall_of (in_pc Y _ x.name.length 1 8) ?_
  simp only [go_sem, hx]
  refine hR _ _ ?_; clear hR R
  try simp only [go_sem, hx]
  refine W_cond rfl (fun c5 => ?_) (fun c5 => ?_)
  ·
   try simp only [nrm] at c5
   refine W_skip (K15 _ _ ?_)
   refine W_cond_true (by first | rfl | (simp only [go_sem]; simp [c5])) ?_
   refine W_sr [2] fun R hR => ?_
   simp only [go_sem, hx]
   refine hR _ _ ?_; clear hR R
   try simp only [go_sem, hx]
   refine W_ret ?_
   simp only [go_sem, hx]
   refine ⟨.inr (by trivial), ?_⟩
   first | refine Fsa hcl rfl ?_ | refine Fse hcl rfl ?_
   try simp only [go_sem]
   all_goals
    congr 1; rw [hinv]; first | (simp [wgErr, c5, cz, c7, c8, c9, c10, c11]; done) | (simp [wgErr, c5, cz, c7, c8, c9, c10]; done) | (simp [wgErr, c5, cz, c7, c8, c9]; done) | (simp [wgErr, c5, cz, c7, c8]; done) | (simp [wgErr, c5, cz, c7]; done) | (simp [wgErr, c5, cz]; done) | (simp [wgErr, c5]; done)
  try simp only [nrm] at c5
  refine W_region [1, 3, 4, 21, 22, 23, 28] fun R hR => ?_
  simp only [go_sem, hx]
  refine GCall_of (Trim_pc Y _ x.name (hn x (List.mem_of_getElem? hx))) ?_
  simp only [go_sem, hx]
  refine hR _ _ (K15 _ _ ?_); clear hR R; try clear K15 Z15
  try simp only [go_sem, hx]
  refine W_cond rfl (fun c6 => ?_) (fun c6 => ?_)
  ·
   try simp only [nrm] at c6
   have cz := trim_azF c6
   refine W_sr [2] fun R hR => ?_
   simp only [go_sem, hx, cz]
   refine hR _ _ ?_; clear hR R
   try simp only [go_sem, hx, cz]
   refine W_ret ?_
   simp only [go_sem, hx, cz]
   refine ⟨.inr (by trivial), ?_⟩
   first | refine Fsa hcl rfl ?_ | refine Fse hcl rfl ?_
   try simp only [go_sem]
   all_goals
    congr 1; rw [hinv]; first | (simp [wgErr, c5, cz, c7, c8, c9, c10, c11]; done) | (simp [wgErr, c5, cz, c7, c8, c9, c10]; done) | (simp [wgErr, c5, cz, c7, c8, c9]; done) | (simp [wgErr, c5, cz, c7, c8]; done) | (simp [wgErr, c5, cz, c7]; done) | (simp [wgErr, c5, cz]; done) | (simp [wgErr, c5]; done)
  try simp only [nrm] at c6
  have cz := trim_az c6
  refine W_sr [1, 4, 21, 22, 23, 38] fun R hR => ?_
  simp only [go_sem, hx, cz, hi, ← List.map_take]
  refine GCall_of (containsW_pc Y _ (s.wings.take i) (by rw [List.length_take]; omega) 96 (.ptr _ 0) (fun v => decide (v.name = x.name)) (fun v => check1_pc Y _ _ x (Sg.get_ext ..) v)) ?_
  simp only [go_sem, hx, cz, hi, ← List.map_take]
  try simp (disch := (first | omega | (simp only [go_sem, List.length_append] <;> omega))) only [wrapI, wrapU, strAdd, slT, slTa, slTb]
  refine hR _ _ ?_; clear hR R
  try simp only [go_sem, hx, cz]
  refine W_cond rfl (fun c7 => ?_) (fun c7 => ?_)
  ·
   try simp only [nrm] at c7
   refine W_sr [2] fun R hR => ?_
   simp only [go_sem, hx, cz]
   refine hR _ _ ?_; clear hR R
   try simp only [go_sem, hx, cz]
   refine W_ret ?_
   simp only [go_sem, hx, cz]
   refine ⟨.inr (by trivial), ?_⟩
   first | refine Fsa hcl rfl ?_ | refine Fse hcl rfl ?_
   try simp only [go_sem]
   all_goals
    congr 1; rw [hinv]; first | (simp [wgErr, c5, cz, c7, c8, c9, c10, c11]; done) | (simp [wgErr, c5, cz, c7, c8, c9, c10]; done) | (simp [wgErr, c5, cz, c7, c8, c9]; done) | (simp [wgErr, c5, cz, c7, c8]; done) | (simp [wgErr, c5, cz, c7]; done) | (simp [wgErr, c5, cz]; done) | (simp [wgErr, c5]; done)
  try simp only [nrm] at c7
  refine W_seq fun Z21 K21 => ?_
  refine W_sr [1, 4, 21, 22, 23, 45] fun R hR => ?_
  simp only [go_sem, hx, cz]
  refine GCall_of (in_pc Y _ x.len 1 5000) ?_
  simp only [go_sem, hx, cz]
  refine hR _ _ ?_; clear hR R
  try simp only [go_sem, hx, cz]
  refine W_cond rfl (fun c8 => ?_) (fun c8 => ?_)
  ·
   try simp only [nrm] at c8
   refine W_skip (K21 _ _ ?_)
   refine W_cond_true (by first | rfl | (simp only [go_sem]; simp [c8])) ?_
   refine W_sr [2] fun R hR => ?_
   simp only [go_sem, hx, cz]
   refine hR _ _ ?_; clear hR R
   try simp only [go_sem, hx, cz]
   refine W_ret ?_
   simp only [go_sem, hx, cz]
   refine ⟨.inr (by trivial), ?_⟩
   first | refine Fsa hcl rfl ?_ | refine Fse hcl rfl ?_
   try simp only [go_sem]
   all_goals
    congr 1; rw [hinv]; first | (simp [wgErr, c5, cz, c7, c8, c9, c10, c11]; done) | (simp [wgErr, c5, cz, c7, c8, c9, c10]; done) | (simp [wgErr, c5, cz, c7, c8, c9]; done) | (simp [wgErr, c5, cz, c7, c8]; done) | (simp [wgErr, c5, cz, c7]; done) | (simp [wgErr, c5, cz]; done) | (simp [wgErr, c5]; done)
  try simp only [nrm] at c8
  refine W_sr [1, 4, 21, 22, 23, 45] fun R hR => ?_
  simp only [go_sem, hx, cz]
  refine GCall_of (in_pc Y _ x.lo 1 200) ?_
  simp only [go_sem, hx, cz]
  refine hR _ _ ?_; clear hR R
  try simp only [go_sem, hx, cz]
  refine W_cond rfl (fun c9 => ?_) (fun c9 => ?_)
  ·
   try simp only [nrm] at c9
   refine W_skip (K21 _ _ ?_)
   refine W_cond_true (by first | rfl | (simp only [go_sem]; simp [c9])) ?_
   refine W_sr [2] fun R hR => ?_
   simp only [go_sem, hx, cz]
   refine hR _ _ ?_; clear hR R
   try simp only [go_sem, hx, cz]
   refine W_ret ?_
   simp only [go_sem, hx, cz]
   refine ⟨.inr (by trivial), ?_⟩
   first | refine Fsa hcl rfl ?_ | refine Fse hcl rfl ?_
   try simp only [go_sem]
   all_goals
    congr 1; rw [hinv]; first | (simp [wgErr, c5, cz, c7, c8, c9, c10, c11]; done) | (simp [wgErr, c5, cz, c7, c8, c9, c10]; done) | (simp [wgErr, c5, cz, c7, c8, c9]; done) | (simp [wgErr, c5, cz, c7, c8]; done) | (simp [wgErr, c5, cz, c7]; done) | (simp [wgErr, c5, cz]; done) | (simp [wgErr, c5]; done)
  try simp only [nrm] at c9
  refine W_region [1, 4, 21, 22, 23, 45] fun R hR => ?_
  simp only [go_sem, hx, cz]
  refine GCall_of (in_pc Y _ x.hi 1 200) ?_
  simp only [go_sem, hx, cz]
  refine hR _ _ (K21 _ _ ?_); clear hR R; try clear K21 Z21
  try simp only [go_sem, hx, cz]
  refine W_cond rfl (fun c10 => ?_) (fun c10 => ?_)
  ·
   try simp only [nrm] at c10
   refine W_sr [2] fun R hR => ?_
   simp only [go_sem, hx, cz]
   refine hR _ _ ?_; clear hR R
   try simp only [go_sem, hx, cz]
   refine W_ret ?_
   simp only [go_sem, hx, cz]
   refine ⟨.inr (by trivial), ?_⟩
   first | refine Fsa hcl rfl ?_ | refine Fse hcl rfl ?_
   try simp only [go_sem]
   all_goals
    congr 1; rw [hinv]; first | (simp [wgErr, c5, cz, c7, c8, c9, c10, c11]; done) | (simp [wgErr, c5, cz, c7, c8, c9, c10]; done) | (simp [wgErr, c5, cz, c7, c8, c9]; done) | (simp [wgErr, c5, cz, c7, c8]; done) | (simp [wgErr, c5, cz, c7]; done) | (simp [wgErr, c5, cz]; done) | (simp [wgErr, c5]; done)
  try simp only [nrm] at c10
  refine W_sr [1, 21, 22, 23, 60] fun R hR => ?_
  simp only [go_sem, hx, cz]
  refine hR _ _ ?_; clear hR R
  try simp only [go_sem, hx, cz]
  refine W_cond rfl (fun c11 => ?_) (fun c11 => ?_)
  ·
   try simp only [nrm] at c11
   refine W_sr [2] fun R hR => ?_
   simp only [go_sem, hx, cz]
   refine hR _ _ ?_; clear hR R
   try simp only [go_sem, hx, cz]
   refine W_ret ?_
   simp only [go_sem, hx, cz]
   refine ⟨.inr (by trivial), ?_⟩
   first | refine Fsa hcl rfl ?_ | refine Fse hcl rfl ?_
   try simp only [go_sem]
   all_goals
    congr 1; rw [hinv]; first | (simp [wgErr, c5, cz, c7, c8, c9, c10, c11]; done) | (simp [wgErr, c5, cz, c7, c8, c9, c10]; done) | (simp [wgErr, c5, cz, c7, c8, c9]; done) | (simp [wgErr, c5, cz, c7, c8]; done) | (simp [wgErr, c5, cz, c7]; done) | (simp [wgErr, c5, cz]; done) | (simp [wgErr, c5]; done)
  try simp only [nrm] at c11
  refine W_skip (K13 _ _ ?_)
  refine W_region [1, 21, 22, 23] fun R hR => ?_
  simp only [go_sem, hx, cz]
  try simp (disch := (first | omega | (simp only [go_sem, List.length_append] <;> omega))) only [wrapI, wrapU, strAdd, slT, slTa, slTb]
  refine hR _ _ ?_; clear hR R
  try simp only [go_sem, hx, cz]
  refine ⟨i + 1, ?_, by (try simp only []); omega, ?_⟩
  ·refine Weak.trans (Weak.cutX 1 0 (by omega) (by omega) hcl (by simp only [go_sem] <;> omega) (by simp only [go_sem] <;> omega)) ?_
   simp only [go_sem]
   exact Weak.eq rfl rfl
  try dsimp only
  refine ⟨hi', ?_⟩
  rw [hinv, if_neg]
  simp [wgErr, c5, cz, c7, c8, c9, c10, c11]
 try simp only [nrm] at c4
 have hdrop : s.wings.drop i = [] := List.drop_eq_nil_of_le (by omega)
 rw [hdrop] at hinv
 simp only [wgsErr] at hinv
 refine W_exit ?_
 simp only [go_sem]
 refine K9 _ _ ?_
 refine W_sr [2] fun R hR => ?_
 simp only [go_sem]
 refine hR _ _ ?_; clear hR R
 try simp only [go_sem]
 refine W_ret ?_
 simp only [go_sem]
 refine ⟨.inr (by trivial), ?_⟩
 first | refine Fsa hcl rfl ?_ | refine Fse hcl rfl ?_
 try simp only [go_sem]
 all_goals
  first | rfl | (rw [hinv]; done) | (rw [← hres]; unfold chkS; repeat' split) <;> first | rfl | omega | (simp_all; done) | (simp_all; omega)
end Go.Proofs.YtpkkegbiddcodaaGreatDoor.Pa
