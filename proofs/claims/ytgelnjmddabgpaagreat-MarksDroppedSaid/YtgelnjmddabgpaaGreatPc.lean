/-
  Regions that draw their order: the rule of the walk.
  Views: a state and what was added to it; owners forgotten; how functions usually end.
  What the operations do at a type, without the type.
  Loops that count down; ends that leave something new.
  Cleanness of what was added; folds over ranges of numbers.
  A slice without spare room gets a room; a value's owner is forgotten.
  Loops over a state of plain values; cleanness, loads of rows and variables that were there before, by simp.
  Regions whose ways meet again; sums that fit.
  The types of this seat's program, as the pure reading asks of them.
  What the operations do at this seat's types.
  The rules by which a walk is worked out.
  A variable's slice without spare room gets a room; what is read of a variable may be told otherwise.
  The owner of a slice in a variable is forgotten.
  A slice is held against nil: the answer is open where the slice is empty.
  Slices of slices: what goes in front is cut off.
  Slices that grow in place: operations without types; a variable moved to another number; a variable that is never written again.
  Maps as lists of keys with their values, without the program's types.
  The data of the laws, read: scales, envelopes, nights, standings; rows of things.
  What the arguments of the laws are read as: numbers, lists of numbers.
  What scales, nights and envelopes are read as.
  Slices made at once, written and then frozen; rows of numbers written at a place.
  Variables renumbered: the live ones, in a new order; whatever speaks of them follows.
  Slices that grow in place, in a variable's cell; a row sorted or written anew by the library.
  A slice of numbers that grows in place in a variable's cell, is sorted, compacted, and read at last.
-/
import Derived.Test.YtgelnjmddabgpaaGreatPb
import Derived.CallsIn
import Derived.RangeFuncLeaves
import Derived.RangeFuncRecord
import Derived.OrdersIn
import Derived.Below
import Derived.Laws.World
import Derived.Laws.StructEq
import Derived.Laws.Append
import Derived.MapKept
import Derived.ProofKit
import Derived.Carry
import Derived.Handed
import Derived.ChangeCalls
import Derived.RangeFuncIn
import Derived.RangeFuncNested
import Derived.Test.YtgelnjmddabgpaaGreatProg
import Derived.KernelRfl
import Derived.IntWalk
import Derived.Test.YtgelnjmddabgpaaGreatRows
import Derived.Sort.OwnSortedInts
import Derived.Lib.SlicesCompact
import Derived.Shelf.Sort.Plain
import Derived.Shelf.Slices.In.SortNone
import Derived.Shelf.Small.Bits
import Derived.JoinedOf
set_option linter.unusedSimpArgs false
set_option linter.unusedVariables false
namespace Go.Proofs.YtgelnjmddabgpaaGreat
open Go Go.RowKit
section
variable {P : Program} {Y : YEnv} {N : Nat} {rd : Option Nat} {D : List Nat} {Ψ0 : Ty} {w0 : World} {Q : Exit → Act → World → Prop} {ops : Array Oper} {is : List Nat} {plan : List (Nat × Nat)} {pre : List (List Nat)} {T : List St} {E0 Ef : Env} {σ0 σf : Sg}
/-- How many are not taken yet. -/
def left (listed : Array Bool) (n : Nat) : Nat := ((List.range n).filter fun i => !listed.getD i false).length
theorem filter_lt {α : Type} {f g : α → Bool} : ∀ (l : List α), (∀ x, x ∈ l → g x = true → f x = true) → (∃ x, x ∈ l ∧ f x = true ∧ g x = false) → (l.filter g).length < (l.filter f).length := by
  intro l
  have le : ∀ l : List α, (∀ x, x ∈ l → g x = true → f x = true) → (l.filter g).length ≤ (l.filter f).length := by
    intro l
    induction l with
    | nil => intro _; simp
    | cons a l ih =>
      intro h
      have := ih (fun x hx => h x (List.mem_cons_of_mem _ hx))
      simp only [List.filter_cons]
      cases hg : g a with
      | false => simp only [Bool.false_eq_true, if_false]; split <;> simp <;> omega
      | true => rw [h a (List.mem_cons_self ..) hg]; simp; exact this
  induction l with
  | nil => rintro _ ⟨x, hx, _⟩; cases hx
  | cons a l ih =>
    intro h ⟨x, hx, hf, hg⟩
    have h' : ∀ x, x ∈ l → g x = true → f x = true := fun x hx => h x (List.mem_cons_of_mem _ hx)
    simp only [List.filter_cons]
    rcases List.mem_cons.1 hx with rfl | hx
    · rw [hf, hg]
      have := le l h'
      simp
      omega
    · have := ih h' ⟨x, hx, hf, hg⟩
      cases hga : g a with
      | false => simp only [Bool.false_eq_true, if_false]; split <;> simp <;> omega
      | true => rw [h a (List.mem_cons_self ..) hga]; simp; exact this
theorem Inv.all (H : Shown P Y N ops is plan pre T E0 Ef σ0 σf) (hy : YOK P Y Ψ0) (hQ : ∀ Ψ' a' w', Ψ0.le Ψ' → Rel N D Ψ' Ef σf a' w' → Below Ψ0.base w0 w' → Q .normal a' w') :
    ∀ (fuel : Nat) (listed : Array Bool) (p : Nat) (bl : Nat → Option (Nat × Array Value)) (Ψ : Ty) (a : Act) (w : World), left listed ops.size ≤ fuel → Inv P N D Ψ0 w0 ops is T E0 σf listed p bl Ψ a w →
      wpAnyIn (FnOf Ψ0 rd) 0 P .any ops Q fuel listed a w := by
  -- when all is taken
  have fin : ∀ (listed : Array Bool) (p : Nat) (bl : Nat → Option (Nat × Array Value)) (Ψ : Ty) (a : Act) (w : World), Inv P N D Ψ0 w0 ops is T E0 σf listed p bl Ψ a w → (∀ i, i < ops.size → listed.getD i false = true) → Q .normal a w := by
    intro listed p bl Ψ a w I hall
    obtain ⟨p', Ψ', I', hfar⟩ := I.far H (ops.size - p) p Ψ (by have := I.pn; omega)
    have hp : p' = ops.size := by
      rcases hfar with e | ⟨_, s, hs, hl⟩
      · exact e
      · rw [hall s.i (H.ilt hs)] at hl; cases hl
    subst hp
    have h1 : goE ops (vis ops is listed ops.size) T E0 = Ef := goE_linked T E0 σ0 H.link fun s hs => by
      obtain ⟨q, hq⟩ := List.mem_iff_getElem?.1 hs
      unfold vis
      rw [hall s.i (H.ilt hq), H.idx hq]
      simp [H.lt hq]
    have h2 : st T σf ops.size = σf := by
      unfold st
      rw [List.getElem?_eq_none (by rw [H.len]; exact Nat.le_refl _)]
    have hr := I'.rel
    rw [h1, h2] at hr
    exact hQ Ψ' a w I'.le hr I'.bel
  -- one is ready, if any is left
  have some_ready : ∀ (listed : Array Bool), listed.size = ops.size → Region.ready .any ops listed = [] → ∀ i, i < ops.size → listed.getD i false = true := by
    intro listed hsz hr i
    induction i using Nat.strongRecOn with
    | _ i ih =>
      intro hi
      cases hl : listed.getD i false with
      | true => rfl
      | false =>
        exfalso
        have : i ∈ Region.ready .any ops listed := by
          rw [mem_ready]
          refine ⟨?_, ops[i], by simp [hi], fun e he hb => ?_⟩
          · have hi' : i < listed.size := by omega
            simp [hi'] at hl ⊢; exact hl
          · have hmem : e.on ∈ dir ops i := by
              unfold dir
              simp only [Array.getElem?_eq_getElem hi, List.mem_map, List.mem_filter]
              exact ⟨e, ⟨by simpa using he, hb⟩, rfl⟩
            have := H.facts.dlt i hi _ hmem
            exact ih e.on this (by omega)
        rw [hr] at this
        cases this
  intro fuel
  induction fuel with
  | zero =>
    intro listed p bl Ψ a w hleft I
    have hall : ∀ i, i < ops.size → listed.getD i false = true := by
      intro i hi
      cases hl : listed.getD i false with
      | true => rfl
      | false =>
        have : i ∈ (List.range ops.size).filter fun i => !listed.getD i false := List.mem_filter.2 ⟨List.mem_range.2 hi, by rw [hl]; rfl⟩
        have := List.length_pos_of_mem this
        unfold left at hleft
        omega
    refine ⟨?_, fin listed p bl Ψ a w I hall⟩
    cases hr : Region.ready .any ops listed with
    | nil => rfl
    | cons i is' =>
      exfalso
      have : i ∈ Region.ready .any ops listed := by rw [hr]; simp
      obtain ⟨h0, o, ho, _⟩ := mem_ready.1 this
      have hi : i < ops.size := (Array.getElem?_eq_some_iff.1 ho).1
      have := hall i hi
      have hi' : i < listed.size := by rw [I.size]; exact hi
      simp [hi'] at h0 this
      rw [h0] at this; cases this
  | succ fuel ih =>
    intro listed p bl Ψ a w hleft I
    refine ⟨fun hr => fin listed p bl Ψ a w I (some_ready listed I.size hr), fun i hi => ?_⟩
    obtain ⟨h0, o, ho, hall⟩ := mem_ready.1 hi
    have hin : i < ops.size := (Array.getElem?_eq_some_iff.1 ho).1
    have hi' : i < listed.size := by rw [I.size]; exact hin
    have hun : listed.getD i false = false := by simp [hi'] at h0 ⊢; exact h0
    obtain ⟨q, s, hs, rfl⟩ := H.pos hin
    obtain ⟨p', Ψ', I', hfar⟩ := I.far H (ops.size - p) p Ψ (by have := I.pn; omega)
    refine I'.step H hy hfar hs hun (fun j hj => ?_) fun p2 bl2 Ψ2 a2 w2 I2 => ih _ p2 bl2 Ψ2 a2 w2 ?_ I2
    · unfold dir at hj
      rw [ho] at hj
      simp only [List.mem_map, List.mem_filter] at hj
      obtain ⟨e, ⟨he, hb⟩, rfl⟩ := hj
      exact hall e (by simpa using he) hb
    · have : left (listed.setIfInBounds s.i true) ops.size < left listed ops.size := by
        refine filter_lt _ (fun j _ hg => ?_) ⟨s.i, List.mem_range.2 hin, by rw [hun]; rfl, by rw [getL hi']; simp⟩
        rw [getL hi'] at hg
        split at hg
        · cases hg
        · exact hg
      omega
end
/-- What the new variables' temporaries held is of no use. -/
def undefs : List Oper → Env → Env
  | [], E => E
  | o :: os, E => match o.op with
    | .alloc _ => undefs os (E.put o.dst .undef)
    | _ => undefs os E
theorem undefs_or (d : Nat) : ∀ (os : List Oper) (E : Env), (undefs os E).get d = E.get d ∨ (undefs os E).get d = .undef := by
  intro os
  induction os with
  | nil => intro E; exact .inl rfl
  | cons o os ih =>
    intro E
    unfold undefs
    split
    · rcases ih (E.put o.dst .undef) with h | h
      · rw [h, get_put]
        split
        · exact .inr rfl
        · exact .inl rfl
      · exact .inr h
    · exact ih E
theorem undefs_get (d : Nat) : ∀ (os : List Oper) (E : Env), (∃ o, o ∈ os ∧ allocs o = true ∧ o.dst = some d) ∨ E.get d = .undef → (undefs os E).get d = .undef := by
  intro os
  induction os with
  | nil =>
    rintro E (⟨o, ho, _⟩ | h)
    · cases ho
    · exact h
  | cons o os ih =>
    intro E h
    unfold undefs
    split
    · rename_i t ht
      refine ih _ ?_
      rcases h with ⟨o', ho', h1, h2⟩ | h
      · rcases List.mem_cons.1 ho' with rfl | ho'
        · exact .inr (by rw [get_put, if_pos h2])
        · exact .inl ⟨o', ho', h1, h2⟩
      · exact .inr (by rw [get_put]; split <;> first | rfl | exact h)
    · rename_i hne
      refine ih _ ?_
      rcases h with ⟨o', ho', h1, h2⟩ | h
      · rcases List.mem_cons.1 ho' with rfl | ho'
        · exfalso
          unfold allocs at h1
          split at h1
          · exact hne _ ‹_›
          · cases h1
        · exact .inl ⟨o', ho', h1, h2⟩
      · exact .inr h
theorem ER.undefs {Ψ : Ty} {E : Env} {tmps : Array Value} (h : ER Ψ E tmps) (os : List Oper) : ER Ψ (undefs os E) tmps := fun t => by
  rcases undefs_or t os E with e | e
  · rw [e]; exact h t
  · rw [e]; exact .undef _
def GOr (p : Prop) [K : KB0] : Prop := p ∨ K.run
theorem GOr_true (K : KB0) : @GOr True K = True := by simp [GOr]
theorem GOr_right {p : Prop} {K : KB0} (h : K.run) : @GOr p K := .inr h
/-- What is read where the order is open: it would be the same elsewhere. -/
def Dem (P : Program) (ops : Array Oper) (T : List St) (σf : Sg) : List (Nat × Nat) → Prop
  | [] => True
  | (q, p) :: r => (match T[q]? with
    | none => True
    | some s => match ops[s.i]? with
      | none => True
      | some o => @GOr (st T σf p = s.σ) ⟨s.b = true → effOp P (st T σf p) s.E o.op = some (s.v, st T σf p)⟩) ∧ Dem P ops T σf r
theorem Dem.get {P : Program} {ops : Array Oper} {T : List St} {σf : Sg} {q p : Nat} : ∀ (plan : List (Nat × Nat)), Dem P ops T σf plan → (q, p) ∈ plan → ∀ s o, T[q]? = some s → ops[s.i]? = some o →
    st T σf p = s.σ ∨ (s.b = true → effOp P (st T σf p) s.E o.op = some (s.v, st T σf p)) := by
  intro plan
  induction plan with
  | nil => intro _ h; cases h
  | cons a plan ih =>
    intro h hm s o hs ho
    obtain ⟨h1, h2⟩ := h
    rcases List.mem_cons.1 hm with e | hm
    · subst e
      simp only at h1
      rw [hs] at h1
      simp only at h1
      rw [ho] at h1
      exact h1
    · exact ih h2 hm s o hs ho
theorem W_draw {P : Program} {Y : YEnv} {N : Nat} {rd : Option Nat} {lo : Nat × Nat} {id : Nat} {ops : Array Oper} {E : Env} {σ : Sg} {Q : Exit → Env → Sg → Prop} (ks : List Nat) (is : List Nat) (plan : List (Nat × Nat)) (pre : List (List Nat))
    (hm : P.follows .mixedOrders = true) (hc : drawOK ops is plan pre = true)
    (h : ∀ K : Env → Sg → Prop, (∀ E' σ', Q .normal (keep ks E') σ' → K E' σ') → GD P Y N ops is (undefs ops.toList E) σ [] (fun T E' σ' => Dem P ops T.reverse σ' plan ∧ K E' σ')) : W P Y N rd lo (.region id ops true) E σ Q := by
  intro Ψ0 D hb hy hrd Ψ a w le hr
  have hF := drawOK_facts ops is plan pre hc
  obtain ⟨T, Ef, σf, hl, hmap, hdem, hfin⟩ := GD_trace is (undefs ops.toList E) σ [] (h _ fun _ _ k => k)
  rw [List.append_nil, List.reverse_reverse] at hdem
  have hfresh : ∀ q d, allocsAt ops is q = true → dstAt ops is q = some d → (undefs ops.toList E).get d = .undef := by
    intro q d hal hd
    refine undefs_get d _ _ (.inl ?_)
    unfold allocsAt at hal
    unfold dstAt at hd
    cases ho : opAt ops is q with
    | none => rw [ho] at hal; cases hal
    | some o =>
      rw [ho] at hal hd
      refine ⟨o, ?_, hal, hd⟩
      unfold opAt at ho
      cases hi : is[q]? with
      | none => rw [hi] at ho; cases ho
      | some i => rw [hi] at ho; exact List.mem_of_getElem? (by rw [Array.getElem?_toList]; exact ho)
  have H : Shown P Y N ops is plan pre T (undefs ops.toList E) Ef σ σf := by
    refine ⟨hF, hl, hmap, fun q p hqp hcq s o hs ho hsb => ?_, hfresh⟩
    rcases hdem.get plan hqp s o hs ho with e | e
    · obtain ⟨E', o', ho', _, _, _, hd⟩ := hl.at T _ _ q s hs
      rw [ho] at ho'
      injection ho' with ho'
      subst ho'
      have hoa : opAt ops is q = some o := by
        unfold opAt
        rw [← hmap]
        simp [hs, ho]
      unfold chainAt at hcq
      rw [hoa] at hcq
      simp only [Option.any_some, Bool.or_eq_false_iff] at hcq
      unfold DoneAs at hd
      rw [hsb] at hd
      simp only at hd
      rw [whom_quiet hcq.1] at hd
      simp only at hd
      have := quiet hcq.1 hcq.2 hd
      rw [this] at hd
      rw [e]
      exact hd
    · exact e hsb
  refine wpIn_region_any hm ?_
  refine Inv.all (D := D) (w0 := w) (bl := fun _ => none) (p := 0) (Ψ := Ψ) H hy (fun Ψ' a' w' l1 l2 l3 => ⟨_, σf, Ψ', l1, l2.keep ks, l3, hfin⟩) ops.size _ _ _ ?_ ?_
  · unfold left
    refine Nat.le_trans (List.length_filter_le _ _) (by simp)
  · have hnone : ∀ i, (Array.replicate ops.size false).getD i false = false := fun i => by
      rw [Array.getD_eq_getD_getElem?, Array.getElem?_replicate]
      split <;> rfl
    have e1 : ∀ t, (goE ops (vis ops is (Array.replicate ops.size false) 0) T (undefs ops.toList E)).get t = (undefs ops.toList E).get t := fun t => goE_off _ _ fun s _ _ => by
      unfold vis; rw [hnone]; rfl
    have hst : st T σf 0 = σ := by
      unfold st
      cases T with
      | nil => exact hl.2.symm
      | cons s T => exact hl.2.1
    refine ⟨by simp, fun i hi => ?_, Nat.zero_le _, fun q s hq => by omega, fun q s _ _ _ => hnone _, le, ?_, fun q s _ _ _ hh => ?_, fun q q' b c c' hh => (by cases hh), fun q b c hh => (by cases hh), (Below.refl _ w).drew⟩
    · rw [hnone] at hi; cases hi
    · rw [hst]
      exact Rel.congr ⟨hr.size, hr.env.undefs _, hr.sg.drew, hr.dsub, hr.defs⟩ e1
    · rw [hnone] at hh; cases hh
end Go.Proofs.YtgelnjmddabgpaaGreat
namespace Go.Proofs.YtgelnjmddabgpaaGreat
open Go Go.RowKit
def Sg.ext (σ : Sg) (l : List (Option (List PV))) (rm : List Nat) (ys : List LState := []) : Sg := ⟨σ.store ++ l, σ.rooms ++ rm, σ.ys ++ ys⟩
section
variable (σ : Sg) (l l' : List (Option (List PV))) (rm rm' : List Nat) (ys ys' : List LState)
theorem Sg.ext_nil : σ.ext [] [] = σ := by simp [Sg.ext]
theorem Sg.push_ext (zs : List PV) : (σ.ext l rm ys).push zs = σ.ext (l ++ [some zs]) rm ys := by simp [Sg.push, Sg.ext]
theorem Sg.push_new (zs : List PV) : σ.push zs = σ.ext [some zs] [] := by simp [Sg.push, Sg.ext]
theorem Sg.pushRoom_ext (n : Nat) : (σ.ext l rm ys).pushRoom n = σ.ext l (rm ++ [n]) ys := by simp [Sg.pushRoom, Sg.ext]
theorem Sg.pushRoom_new (n : Nat) : σ.pushRoom n = σ.ext [] [n] := by simp [Sg.pushRoom, Sg.ext]
theorem Sg.pushY_ext : (σ.ext l rm ys).pushY = σ.ext l rm (ys ++ [.ready]) := by simp [Sg.pushY, Sg.ext]
theorem Sg.pushY_new : σ.pushY = σ.ext [] [] [.ready] := by simp [Sg.pushY, Sg.ext]
theorem Sg.ext_ext : (σ.ext l rm ys).ext l' rm' ys' = σ.ext (l ++ l') (rm ++ rm') (ys ++ ys') := by simp [Sg.ext]
theorem Sg.len_ext : (σ.ext l rm ys).store.length = σ.store.length + l.length := by simp [Sg.ext]
theorem Sg.rooms_ext : (σ.ext l rm ys).rooms.length = σ.rooms.length + rm.length := by simp [Sg.ext]
theorem Sg.ys_ext : (σ.ext l rm ys).ys.length = σ.ys.length + ys.length := by simp [Sg.ext]
theorem Sg.ysget_ext (k : Nat) : (σ.ext l rm ys).ys[σ.ys.length + k]? = ys[k]? := by
  show (σ.ys ++ ys)[σ.ys.length + k]? = _
  rw [List.getElem?_append_right (by omega)]
  simp
theorem Sg.ysget_ext0 : (σ.ext l rm ys).ys[σ.ys.length]? = ys[0]? := Sg.ysget_ext σ l rm ys 0
theorem Sg.setY_ext (k : Nat) (s : LState) : (σ.ext l rm ys).setY (σ.ys.length + k) s = σ.ext l rm (ys.set k s) := by
  simp [Sg.setY, Sg.ext, List.set_append_right]
theorem Sg.setY_ext0 (s : LState) : (σ.ext l rm ys).setY σ.ys.length s = σ.ext l rm (ys.set 0 s) := Sg.setY_ext σ l rm ys 0 s
theorem Sg.popY_ext (k : Nat) : (σ.ext l rm ys).popY (σ.ys.length + k) = σ.ext l rm (ys.take k) := by
  simp [Sg.popY, Sg.ext, List.take_append, List.take_of_length_le]
theorem Sg.popY_ext0 : (σ.ext l rm ys).popY σ.ys.length = σ.ext l rm [] := by
  have := Sg.popY_ext σ l rm ys 0
  simpa using this
theorem Sg.get_ext (k : Nat) : (σ.ext l rm ys).store[σ.store.length + k]? = l[k]? := by
  show (σ.store ++ l)[σ.store.length + k]? = _
  rw [List.getElem?_append_right (by omega)]
  simp
theorem Sg.get_ext0 : (σ.ext l rm ys).store[σ.store.length]? = l[0]? := Sg.get_ext σ l rm ys 0
variable {σ l rm ys}
variable (σ l rm ys)
theorem Sg.room_ext (k : Nat) : (σ.ext l rm ys).rooms[σ.rooms.length + k]? = rm[k]? := by
  show (σ.rooms ++ rm)[σ.rooms.length + k]? = _
  rw [List.getElem?_append_right (by omega)]
  simp
theorem Sg.room_ext0 : (σ.ext l rm ys).rooms[σ.rooms.length]? = rm[0]? := Sg.room_ext σ l rm ys 0
theorem Sg.set_ext (k : Nat) (cs : List PV) : (σ.ext l rm ys).setVar (σ.store.length + k) cs = σ.ext (l.set k (some cs)) rm ys := by
  simp [Sg.setVar, Sg.ext, List.set_append_right]
theorem Sg.set_ext0 (cs : List PV) : (σ.ext l rm ys).setVar σ.store.length cs = σ.ext (l.set 0 (some cs)) rm ys := Sg.set_ext σ l rm ys 0 cs
theorem Sg.setRoom_ext (k n : Nat) : (σ.ext l rm ys).setRoom (σ.rooms.length + k) n = σ.ext l (rm.set k n) ys := by
  simp [Sg.setRoom, Sg.ext, List.set_append_right]
theorem Sg.setRoom_ext0 (n : Nat) : (σ.ext l rm ys).setRoom σ.rooms.length n = σ.ext l (rm.set 0 n) ys := Sg.setRoom_ext σ l rm ys 0 n
variable {σ l rm ys}
variable (σ l rm ys)
theorem Sg.cut_ext (k : Nat) (j : Nat) : (σ.ext l rm).cut (σ.store.length + k) (σ.rooms.length + j) σ.ys.length = σ.ext (l.take k) (rm.take j) := by
  simp [Sg.cut, Sg.ext, List.take_append, List.take_of_length_le]
theorem Sg.cut_ext0 : (σ.ext l rm).cut σ.store.length σ.rooms.length σ.ys.length = σ := by
  simp [Sg.cut, Sg.ext]
theorem Sg.cut_exty (k : Nat) (j m : Nat) : (σ.ext l rm ys).cut (σ.store.length + k) (σ.rooms.length + j) (σ.ys.length + m) = σ.ext (l.take k) (rm.take j) (ys.take m) := by
  simp [Sg.cut, Sg.ext, List.take_append, List.take_of_length_le]
end
theorem Clean.mono {a b c a' b' c' : Nat} (h1 : a ≤ a') (h2 : b ≤ b') (h3 : c ≤ c') {p : PV} (h : Clean a b c p) : Clean a' b' c' p := by
  induction h with
  | undef => exact .undef
  | bool b => exact .bool b
  | int k n => exact .int k n
  | str s => exact .str s
  | nilptr => exact .nilptr
  | ptr id off h => exact .ptr id off (by omega)
  | eptr es elems i off _ ih => exact .eptr es elems i off ih
  | nilsl => exact .nilsl
  | isl elems own _ ho ih => exact .isl elems own ih fun r n es e => by have := ho r n es e; omega
  | msl id off len h => exact .msl id off len (by omega)
  | agg cs _ ih => exact .agg cs ih
  | tuple cs _ ih => exact .tuple cs ih
  | func fn fs cs _ _ ih ih' => exact .func fn fs cs ih ih'
  | yield y h => exact .yield y (by omega)
  | nilfunc => exact .nilfunc
  | niliface => exact .niliface
  | iface t p _ ih => exact .iface t p ih
  | mapv id h => exact .mapv id (by omega)
  | nilmap => exact .nilmap
  | gsl id len es h => exact .gsl id len es (by omega)
  | gnil => exact .gnil
  | mark => exact .mark
mutual
def PV.ro : PV → PV
  | .eptr es elems i off => .eptr es (PV.roL elems) i off
  | .isl elems _ => .isl (PV.roL elems) .ro
  | .agg cs => .agg (PV.roL cs)
  | .tuple cs => .tuple (PV.roL cs)
  | .func fn a b => .func fn (PV.roL a) (PV.roL b)
  | .iface t p => .iface t (PV.ro p)
  | p => p
def PV.roL : List PV → List PV
  | [] => []
  | p :: ps => PV.ro p :: PV.roL ps
end
theorem PV.roL_map : ∀ l : List PV, PV.roL l = l.map PV.ro := by
  intro l
  induction l with
  | nil => rfl
  | cons p ps ih => simp only [PV.roL, List.map_cons, ih]
theorem PV.ro_cells (p : PV) : p.ro.cells = p.cells.map PV.ro := by
  cases p <;> simp only [PV.ro, PV.cells, PV.roL_map, List.map_cons, List.map_nil]
theorem VR.ro {Ψ : Ty} {p : PV} {x : Value} (h : VR Ψ p x) : VR Ψ p.ro x := by
  have row : ∀ {elems : List PV} {es : Nat}, (∀ (k : Nat) (e : PV), elems[k]? = some e → e.cells.length = es) → ∀ (k : Nat) (e : PV), (elems.map PV.ro)[k]? = some e → e.cells.length = es := by
    intro elems es h k e he
    simp only [List.getElem?_map, Option.map_eq_some_iff] at he
    obtain ⟨e', he', rfl⟩ := he
    rw [PV.ro_cells, List.length_map]
    exact h k e' he'
  have each : ∀ {elems : List PV} {Pr : Nat → Nat → PV → Prop} {Pr' : Nat → Nat → PV → Prop}, (∀ (k : Nat) (e : PV) (j : Nat) (p : PV), elems[k]? = some e → e.cells[j]? = some p → Pr k j p) →
      (∀ k j p, Pr k j p → Pr' k j p.ro) → ∀ (k : Nat) (e : PV) (j : Nat) (p : PV), (elems.map PV.ro)[k]? = some e → e.cells[j]? = some p → Pr' k j p := by
    intro elems Pr Pr' h hh k e j p he hp
    simp only [List.getElem?_map, Option.map_eq_some_iff] at he
    obtain ⟨e', he', rfl⟩ := he
    rw [PV.ro_cells] at hp
    simp only [List.getElem?_map, Option.map_eq_some_iff] at hp
    obtain ⟨p', hp', rfl⟩ := hp
    exact hh k j p' (h k e' j p' he' hp')
  have each1 : ∀ {cs : List PV} {xs : Array Value}, (∀ (j : Nat) (p : PV) (v : Value), cs[j]? = some p → xs[j]? = some v → VR Ψ p.ro v) → ∀ (j : Nat) (p : PV) (v : Value), (cs.map PV.ro)[j]? = some p → xs[j]? = some v → VR Ψ p v := by
    intro cs xs h j p v hp hv
    simp only [List.getElem?_map, Option.map_eq_some_iff] at hp
    obtain ⟨p', hp', rfl⟩ := hp
    exact h j p' v hp' hv
  induction h with
  | undef x => exact .undef x
  | bool b => exact .bool b
  | int k n => exact .int k n
  | str s => exact .str s
  | nilptr => exact .nilptr
  | ptr id off b hb hz => exact .ptr id off b hb hz
  | eptr es elems i off b o vals hs h1 h2 ih =>
    simp only [PV.ro, PV.roL_map]
    exact .eptr es _ i off b o vals (row hs) (each (Pr := fun k j _ => Ψ.imm b (o + k * es + j) = some (vals k j)) (Pr' := fun k j _ => Ψ.imm b (o + k * es + j) = some (vals k j)) h1 fun _ _ _ h => h)
      (each (Pr := fun k j p => VR Ψ p.ro (vals k j)) (Pr' := fun k j p => VR Ψ p (vals k j)) ih fun _ _ _ h => h)
  | nilsl => exact .nilsl
  | islnil own a h => exact .islnil .ro a trivial
  | isl es elems own b o cap vals hs h1 h2 hc ho ih =>
    simp only [PV.ro, PV.roL_map]
    have := VR.isl (Ψ := Ψ) es (elems.map PV.ro) .ro b o cap vals (row hs) (each (Pr := fun k j _ => Ψ.imm b (o + k * es + j) = some (vals k j)) (Pr' := fun k j _ => Ψ.imm b (o + k * es + j) = some (vals k j)) h1 fun _ _ _ h => h)
      (each (Pr := fun k j p => VR Ψ p.ro (vals k j)) (Pr' := fun k j p => VR Ψ p (vals k j)) ih fun _ _ _ h => h) (by simpa using hc) trivial
    rw [List.length_map] at this
    exact this
  | msl id off len b cap h hz hc => exact .msl id off len b cap h hz hc
  | agg cs vs hl h ih => simp only [PV.ro, PV.roL_map]; exact .agg _ _ (by simpa using hl) (each1 ih)
  | tuple cs vs hl h ih => simp only [PV.ro, PV.roL_map]; exact .tuple _ _ (by simpa using hl) (each1 ih)
  | func fn fs cs xs ys hl hl' h h' ih ih' => simp only [PV.ro, PV.roL_map]; exact .func fn _ _ _ _ (by simpa using hl) (by simpa using hl') (each1 ih) (each1 ih')
  | yield y l d h => exact .yield y l d h
  | nilfunc => exact .nilfunc
  | niliface => exact .niliface
  | iface t p x h ih => exact .iface t _ x ih
  | map id b h => exact .map id b h
  | nilmap => exact .nilmap
  | gsl id len es b cap h hz h0 hc => exact .gsl id len es b cap h hz h0 hc
  | gnil a => exact .gnil a
theorem VRs.ro {Ψ : Ty} {ps : List PV} {xs : Array Value} (h : VRs Ψ ps xs) : VRs Ψ (ps.map PV.ro) xs := by
  refine ⟨by rw [h.1, List.length_map], fun j p v h1 h2 => ?_⟩
  simp only [List.getElem?_map, Option.map_eq_some_iff] at h1
  obtain ⟨p', hp', rfl⟩ := h1
  exact (h.2 j p' v hp' h2).ro
/-- Who is called asks nothing of the owners. -/
theorem PC.ofRo {P : Program} {Y : YEnv} {f : FuncId} {args args' : List PV} {σ σ' : Sg} {v : PV} (h : PC P Y f args' σ v σ') (e : args.map PV.ro = args') : PC P Y f args σ v σ' := by
  subst e
  exact ⟨h.1, fun Ψ vals w hs ha hy => h.2 Ψ vals w hs ha.ro hy⟩
theorem Fin_same {P : Program} {fn : Func} {σ : Sg} {l : List (Option (List PV))} {rm : List Nat} {E : Env} {rs : List PV} {v : PV} (hcl : CleanSg σ) (hr : resPV P (σ.ext l rm) E fn.results.toList = some rs)
    (hv : Wk σ.store.length σ.rooms.length σ.ys.length (oneOr rs) v) : Fin P fn σ v σ E (σ.ext l rm) := by
  refine ⟨rs, _, _, hr, Nat.le_refl _, Nat.le_refl _, hv, (Sg.cut_ext0 σ l rm).symm, fun id cs hid hc p hp => ?_, by simp [Sg.ext]⟩
  have hc' : (σ.store ++ l)[id]? = some (some cs) := hc
  rw [List.getElem?_append_left hid] at hc'
  exact hcl id cs hid hc' p hp
theorem Fin_self {P : Program} {fn : Func} {σ : Sg} {E : Env} {rs : List PV} {v : PV} (hcl : CleanSg σ) (hr : resPV P σ E fn.results.toList = some rs)
    (hv : Wk σ.store.length σ.rooms.length σ.ys.length (oneOr rs) v) : Fin P fn σ v σ E σ := by
  have := Fin_same (l := []) (rm := []) hcl (by rw [Sg.ext_nil]; exact hr) hv
  rw [Sg.ext_nil] at this
  exact this
theorem Wk.ro {nβ nr ny : Nat} {p q : PV} (h : Clean nβ nr ny q) (e : p.ro = q) : Wk nβ nr ny p q := fun Ψ x k => by
  subst e
  exact k.ro.trim h
end Go.Proofs.YtgelnjmddabgpaaGreat
namespace Go.Proofs.YtgelnjmddabgpaaGreat
open Go Go.RowKit
def ldS (σ : Sg) (id off : Nat) : Option PV :=
  match σ.store[id]? with
  | some (some cs) => cs[off]?
  | _ => none
def ldA (k : Nat) (σ : Sg) (id off : Nat) : Option PV :=
  match σ.store[id]? with
  | some (some cs) => if off + k ≤ cs.length then some (.agg ((cs.drop off).take k)) else none
  | _ => none
def elS (l : List PV) (i off : Nat) : Option PV :=
  match l[i]? with
  | some e => e.cells[off]?
  | none => none
def elA (k : Nat) (l : List PV) (i off : Nat) : Option PV :=
  match l[i]? with
  | some e => if off + k ≤ e.cells.length then some (.agg ((e.cells.drop off).take k)) else none
  | none => none
def stX (k : Nat) (σ : Sg) (id off : Nat) (p : PV) : Option Sg :=
  match σ.store[id]? with
  | some (some cs) => if defd p && p.cells.all PV.scalar && (p.cells.length == k) && decide (off + p.cells.length ≤ cs.length) then some (σ.setVar id (putCells cs off p.cells)) else none
  | _ => none
def iaX (c : Nat) (l : List PV) (i : Int) : Option PV :=
  if 0 ≤ i ∧ i < (l.length : Int) then
    (match l[i.toNat]? with
     | some el => if el.cells.length = c then some (.eptr c l i.toNat 0) else none
     | none => none) else none
def iaM (c id off len : Nat) (i : Int) : Option PV := if 0 ≤ i ∧ i < (len : Int) then some (.ptr id (off + i.toNat * c)) else none
def bsX (c len : Nat) (parts : List (Nat × PV)) : Option PV :=
  if (parts.map (·.1) == List.range len) && parts.all (fun p => defd p.2 && (p.2.cells.length == c)) && decide (len * c ≤ 2 ^ 24) then some (.isl (parts.map (·.2)) .exact) else none
def appX (c b : Nat) (σ : Sg) (l : List PV) (own : Own) (m : List PV) : Option (PV × Sg) :=
  if m.all (fun q => (q.cells.length == c) && q.cells.all PV.scalar) && decide ((l.length + m.length) * b ≤ 2 ^ 47) then
    (match own with
     | .ro => none
     | .exact => if l.all (fun q => q.cells.length == c) then some (.isl (l ++ m) (.tok σ.rooms.length (l.length + m.length) c), σ.pushRoom (l.length + m.length)) else none
     | .tok r n es => if es = c ∧ σ.rooms[r]? = some n then some (.isl (l ++ m) (.tok r (n + m.length) es), σ.setRoom r (n + m.length)) else none)
  else none
def bldX (zs : List PV) (ps : List (Nat × Nat)) (parts : List (Nat × PV)) : Option PV :=
  if parts.all (fun p => defd p.2) then (fillPV (fun i => ps[i]?) zs parts).map .agg else none
section
variable {P : Program} {t e : TypeId} {d : TypeDesc} {k c b : Nat} {σ : Sg} {id off : Nat} {l m : List PV} {own own' : Own} {es i : Nat}
theorem ldS_of (h : P.underlying t = some d) (ha : isAggD d = false) : loadPV P σ t (.ptr id off) = ldS σ id off := by simp [loadPV, h, partPV, ha, ldS]; rfl
theorem ldA_of (h : P.underlying t = some d) (ha : isAggD d = true) (hc : P.cellsOf t = k) : loadPV P σ t (.ptr id off) = ldA k σ id off := by simp [loadPV, h, partPV, ha, hc, ldA]; rfl
theorem elS_of (h : P.underlying t = some d) (ha : isAggD d = false) : loadPV P σ t (.eptr es l i off) = elS l i off := by simp [loadPV, h, partPV, ha, elS]; rfl
theorem elA_of (h : P.underlying t = some d) (ha : isAggD d = true) (hc : P.cellsOf t = k) : loadPV P σ t (.eptr es l i off) = elA k l i off := by simp [loadPV, h, partPV, ha, hc, elA]; rfl
theorem stX_of (h : P.underlying t = some d) (hc : P.cellsOf t = k) (p : PV) : storePV P σ t (.ptr id off) p = stX k σ id off p := by simp [storePV, h, hc, stX]; rfl
theorem iaX_of (h : P.underlying t = some (.slice e)) (he : P.underlying e = some d) (hc : P.cellsOf e = c) (kd : IntKind) (n : Int) : indexAddrPV P t (.isl l own) (.int kd n) = iaX c l n := by
  unfold indexAddrPV iaX
  rw [h]
  simp only [he, hc]
  split
  · cases l[n.toNat]? <;> rfl
  · rfl
theorem iaM_of (h : P.underlying t = some (.slice e)) (he : P.underlying e = some d) (hc : P.cellsOf e = c) (kd : IntKind) (len : Nat) (n : Int) : indexAddrPV P t (.msl id off len) (.int kd n) = iaM c id off len n := by
  simp [indexAddrPV, h, he, hc, iaM]
theorem iaA_of {len : Nat} (h : P.underlying t = some (.array len e)) (he : P.underlying e = some d) (hc : P.cellsOf e = c) (kd : IntKind) (n : Int) : indexAddrPV P t (.ptr id off) (.int kd n) = iaM c id off len n := by
  simp [indexAddrPV, h, he, hc, iaM]
theorem len_of (h : P.underlying t = some (.slice e)) : lenPV P t (.isl l own) = some (.int .i64 l.length) := by simp [lenPV, h]
theorem lenM_of (h : P.underlying t = some (.slice e)) (n : Nat) : lenPV P t (.msl id off n) = some (.int .i64 n) := by simp [lenPV, h]
theorem bsX_of {zs : List PV} (h : P.underlying t = some (.slice e)) (he : P.underlying e = some d) (hc : P.cellsOf e = c) (hz : zeroPV P e = some zs) (len : Nat) (parts : List (Nat × PV)) : buildSlicePV P t len parts = bsX c len parts := by
  unfold buildSlicePV bsX
  rw [h]
  simp only [he, hc, hz, Option.isSome_some, Bool.true_and, Bool.and_true]
theorem appX_of {zs : List PV} (h : P.underlying t = some (.slice e)) (he : P.underlying e = some d) (hc : P.cellsOf e = c) (hb : P.bytesOf e = b) (hb0 : b ≠ 0) (hc0 : 0 < c) (hz : zeroPV P e = some zs) (hzl : zs.length = c) :
    appendPV P σ t t (.isl l own) (.isl m own') = appX c b σ l own m := by
  unfold appendPV appX
  rw [h]
  simp only [he, hc, hb, hz, hzl, Option.isSome_some, Bool.true_and, Option.map_some, BEq.rfl, Bool.and_true, hb0, hc0, ne_eq, not_false_eq_true, and_self, decide_true]
  rfl
theorem bldX_of {zs : List PV} {fs : Array Field} {ps : List (Nat × Nat)} (hz : zeroPV P t = some zs) (h : P.underlying t = some (.struct fs)) (hf : fs.toList.all (fun f => (P.underlying f.type).isSome) = true) (hp : structPlaces P fs.toList = ps) (parts : List (Nat × PV)) :
    buildPV P t parts = bldX zs ps parts := by
  unfold buildPV
  rw [hz, h]
  simp only [hf, hp, bldX, Bool.true_and]
theorem fa_of {fs : Array Field} {f : Nat} {fl : Field} (h : P.underlying t = some (.struct fs)) (hf : fs[f]? = some fl) (hd : P.underlying fl.type = some d) (hc : P.cellsOf fl.type = c) (hc0 : c ≠ 0) (ho : fl.offset = k) :
    fieldAddrPV P t (.ptr id off) f = some (.ptr id (off + k)) ∧ fieldAddrPV P t (.eptr es l i off) f = some (.eptr es l i (off + k)) := by
  simp [fieldAddrPV, fieldOf, h, hf, hd, hc, hc0, ho]
theorem fa1_of {fs : Array Field} {f : Nat} {fl : Field} (h : P.underlying t = some (.struct fs)) (hf : fs[f]? = some fl) (hd : P.underlying fl.type = some d) (hc : P.cellsOf fl.type = c) (hc0 : (c == 0) = false) (ho : fl.offset = k) :
    fieldAddrPV P t (.ptr id off) f = some (.ptr id (off + k)) := (fa_of (es := 0) (l := []) (i := 0) h hf hd hc (by simpa using hc0) ho).1
theorem fa2_of {fs : Array Field} {f : Nat} {fl : Field} (h : P.underlying t = some (.struct fs)) (hf : fs[f]? = some fl) (hd : P.underlying fl.type = some d) (hc : P.cellsOf fl.type = c) (hc0 : (c == 0) = false) (ho : fl.offset = k) :
    fieldAddrPV P t (.eptr es l i off) f = some (.eptr es l i (off + k)) := (fa_of (id := 0) h hf hd hc (by simpa using hc0) ho).2
theorem fpS_of {fs : Array Field} {f : Nat} {fl : Field} (h : P.underlying t = some (.struct fs)) (hf : fs[f]? = some fl) (hd : P.underlying fl.type = some d) (ha : isAggD d = false) (ho : fl.offset = k) (cs : List PV) :
    fieldPV P t (.agg cs) f = cs[k]? := by
  simp [fieldPV, fieldOf, h, hf, hd, ho, partPV, ha]
end
abbrev I (n : Int) : PV := .int .i64 n
abbrev ints (xs : List Int) : PV := .isl (xs.map I) .ro
theorem ldS_at {σ : Sg} {id off : Nat} {cs : List PV} (h : σ.store[id]? = some (some cs)) : ldS σ id off = cs[off]? := by simp [ldS, h]
theorem ldA_at {k : Nat} {σ : Sg} {id off : Nat} {cs : List PV} (h : σ.store[id]? = some (some cs)) : ldA k σ id off = if off + k ≤ cs.length then some (.agg ((cs.drop off).take k)) else none := by simp [ldA, h]
theorem stX_at {k : Nat} {σ : Sg} {id off : Nat} {cs : List PV} (h : σ.store[id]? = some (some cs)) (p : PV) :
    stX k σ id off p = if defd p && p.cells.all PV.scalar && (p.cells.length == k) && decide (off + p.cells.length ≤ cs.length) then some (σ.setVar id (putCells cs off p.cells)) else none := by simp [stX, h]
section ext
variable (σ : Sg) (l : List (Option (List PV))) (rm : List Nat) (ys : List LState) (j : Nat)
theorem ldS_ext (off : Nat) : ldS (σ.ext l rm ys) (σ.store.length + j) off = match l[j]? with | some (some cs) => cs[off]? | _ => none := by simp only [ldS, Sg.get_ext]
theorem ldS_ext0 (off : Nat) : ldS (σ.ext l rm ys) σ.store.length off = match l[0]? with | some (some cs) => cs[off]? | _ => none := by simp only [ldS, Sg.get_ext0]
theorem ldA_ext (k off : Nat) : ldA k (σ.ext l rm ys) (σ.store.length + j) off = match l[j]? with | some (some cs) => if off + k ≤ cs.length then some (.agg ((cs.drop off).take k)) else none | _ => none := by simp only [ldA, Sg.get_ext]
theorem ldA_ext0 (k off : Nat) : ldA k (σ.ext l rm ys) σ.store.length off = match l[0]? with | some (some cs) => if off + k ≤ cs.length then some (.agg ((cs.drop off).take k)) else none | _ => none := by simp only [ldA, Sg.get_ext0]
theorem stX_ext (k off : Nat) (p : PV) : stX k (σ.ext l rm ys) (σ.store.length + j) off p = match l[j]? with
    | some (some cs) => if defd p && p.cells.all PV.scalar && (p.cells.length == k) && decide (off + p.cells.length ≤ cs.length) then some (σ.ext (l.set j (some (putCells cs off p.cells))) rm ys) else none
    | _ => none := by
  simp only [stX, Sg.get_ext, Sg.set_ext]
theorem stX_ext0 (k off : Nat) (p : PV) : stX k (σ.ext l rm ys) σ.store.length off p = match l[0]? with
    | some (some cs) => if defd p && p.cells.all PV.scalar && (p.cells.length == k) && decide (off + p.cells.length ≤ cs.length) then some (σ.ext (l.set 0 (some (putCells cs off p.cells))) rm ys) else none
    | _ => none := by
  simp only [stX, Sg.get_ext0, Sg.set_ext0]
  rfl
end ext
end Go.Proofs.YtgelnjmddabgpaaGreat
namespace Go.Proofs.YtgelnjmddabgpaaGreat
open Go Go.RowKit
theorem least (p : Nat → Prop) (h : ∃ n, p n) : ∃ n, p n ∧ ∀ m, p m → n ≤ m := by
  obtain ⟨n, hn⟩ := h
  induction n using Nat.strongRecOn with
  | _ n ih =>
    by_cases h : ∃ m, m < n ∧ p m
    · obtain ⟨m, hm, hp⟩ := h
      exact ih m hm hp
    · exact ⟨n, hn, fun m hm => Nat.le_of_not_lt fun hlt => h ⟨m, hlt, hm⟩⟩
section
variable {P : Program} {Y : YEnv} {N : Nat} {rd : Option Nat} {lo : Nat × Nat} {E : Env} {σ : Sg} {Q : Exit → Env → Sg → Prop}
open Classical in
theorem W_loopK {c : Code} (I : Nat → Env → Sg → Prop) (k : Nat) (h0 : I k E σ)
    (round : ∀ k E σ, I k E σ → W P Y N rd lo c E σ (Seq (fun E' σ' => ∃ k', k' < k ∧ I k' E' σ') Q)) : W P Y N rd lo (.loop c) E σ Q := by
  refine W_loop (fun E σ => ∃ k, I k E σ) (fun E σ => if h : ∃ k, I k E σ then Classical.choose (least (fun k => I k E σ) h) else 0) ⟨k, h0⟩ fun E σ h => ?_
  refine W_mono (round _ E σ (Classical.choose_spec (least (fun k => I k E σ) h)).1) fun ex E' σ' hq => ?_
  cases ex with
  | normal =>
    obtain ⟨k', hk, hI⟩ := hq
    have h' : ∃ k, I k E' σ' := ⟨k', hI⟩
    refine ⟨h', ?_⟩
    rw [dif_pos h', dif_pos h]
    exact Nat.lt_of_le_of_lt ((Classical.choose_spec (least (fun k => I k E' σ') h')).2 k' hI) hk
  | _ => exact hq
end
theorem Clean.all_nil {a b c : Nat} : ∀ p, p ∈ ([] : List PV) → Clean a b c p := fun p h => by cases h
theorem Clean.all_cons {a b c : Nat} {q : PV} {l : List PV} (h : Clean a b c q) (k : ∀ p, p ∈ l → Clean a b c p) : ∀ p, p ∈ q :: l → Clean a b c p := fun p hp => by
  rcases List.mem_cons.1 hp with rfl | hp
  · exact h
  · exact k p hp
theorem Clean.ints {a b c : Nat} (xs : List Int) (o : Own) (ho : ∀ r n es, o = .tok r n es → r < b) : Clean a b c (.isl (xs.map I) o) :=
  .isl _ _ (fun e he => by obtain ⟨n, _, rfl⟩ := List.mem_map.1 he; exact .int _ _) ho
/-- A function that leaves new variables behind. -/
theorem Fin_ext {P : Program} {fn : Func} {σ : Sg} {l : List (Option (List PV))} {rm : List Nat} {E : Env} {rs : List PV} {v : PV} (k j : Nat) (hcl : CleanSg σ)
    (hr : resPV P (σ.ext l rm) E fn.results.toList = some rs)
    (hv : Wk (σ.store.length + k) (σ.rooms.length + j) σ.ys.length (oneOr rs) v)
    (hc : ∀ cs, some cs ∈ l.take k → ∀ p, p ∈ cs → Clean (σ.store.length + k) (σ.rooms.length + j) σ.ys.length p) : Fin P fn σ v (σ.ext (l.take k) (rm.take j)) E (σ.ext l rm) := by
  refine ⟨rs, _, _, hr, Nat.le_add_right _ _, Nat.le_add_right _ _, hv, (Sg.cut_ext σ l rm k j).symm, fun id cs hid hcs p hp => ?_, by simp [Sg.ext]⟩
  have hcs' : (σ.store ++ l)[id]? = some (some cs) := hcs
  by_cases h : id < σ.store.length
  · rw [List.getElem?_append_left h] at hcs'
    exact (hcl id cs h hcs' p hp).mono (Nat.le_add_right _ _) (Nat.le_add_right _ _) (Nat.le_refl _)
  · rw [List.getElem?_append_right (by omega)] at hcs'
    refine hc cs ?_ p hp
    refine List.mem_of_getElem? (i := id - σ.store.length) ?_
    rw [List.getElem?_take_of_lt (by omega)]
    exact hcs'
/-- In a state of which nothing was added. -/
theorem Fin_end {P : Program} {fn : Func} {σ σ' : Sg} {E : Env} {rs : List PV} {v : PV} (hcl : CleanSg σ') (h1 : σ'.store.length = σ.store.length) (h2 : σ'.rooms.length = σ.rooms.length) (h3 : σ'.ys.length = σ.ys.length)
    (hr : resPV P σ' E fn.results.toList = some rs) (hv : Wk σ.store.length σ.rooms.length σ.ys.length (oneOr rs) v) : Fin P fn σ v σ' E σ' := by
  refine ⟨rs, _, _, hr, Nat.le_refl _, Nat.le_refl _, hv, ?_, ?_, h3⟩
  · rw [← h1, ← h2, ← h3]; simp [Sg.cut]
  · unfold CleanSg at hcl; rw [h1, h2, h3] at hcl; exact hcl
end Go.Proofs.YtgelnjmddabgpaaGreat
namespace Go.Proofs.YtgelnjmddabgpaaGreat
open Go Go.RowKit
theorem CleanCut_ext {σ : Sg} {l : List (Option (List PV))} {rm : List Nat} {ys : List LState} {nb nr ny : Nat} (hcl : CleanSg σ) (hb : σ.store.length ≤ nb) (hr : σ.rooms.length ≤ nr) (hy : σ.ys.length ≤ ny)
    (h : ∀ cs, some cs ∈ l → ∀ p, p ∈ cs → Clean nb nr ny p) : CleanCut (σ.ext l rm ys) nb nr ny := by
  intro id cs _ hcs p hp
  have hcs' : (σ.store ++ l)[id]? = some (some cs) := hcs
  by_cases hid : id < σ.store.length
  · rw [List.getElem?_append_left hid] at hcs'
    exact (hcl id cs hid hcs' p hp).mono hb hr hy
  · rw [List.getElem?_append_right (by omega)] at hcs'
    exact h cs (List.mem_of_getElem? hcs') p hp
theorem CleanSg_ext {σ : Sg} {l : List (Option (List PV))} {rm : List Nat} {ys : List LState} (hcl : CleanSg σ) (h : ∀ cs, some cs ∈ l → ∀ p, p ∈ cs → Clean (σ.store.length + l.length) (σ.rooms.length + rm.length) (σ.ys.length + ys.length) p) :
    CleanSg (σ.ext l rm ys) := by
  unfold CleanSg
  rw [Sg.len_ext, Sg.rooms_ext, Sg.ys_ext]
  exact CleanCut_ext hcl (Nat.le_add_right _ _) (Nat.le_add_right _ _) (Nat.le_add_right _ _) h
/-- All of it is old, or plain. -/
theorem CleanL_nil {a b c : Nat} : ∀ cs, some cs ∈ ([] : List (Option (List PV))) → ∀ p, p ∈ cs → Clean a b c p := fun cs h => by cases h
theorem CleanL_cons {a b c : Nat} {ds : List PV} {l : List (Option (List PV))} (h : ∀ p, p ∈ ds → Clean a b c p) (k : ∀ cs, some cs ∈ l → ∀ p, p ∈ cs → Clean a b c p) : ∀ cs, some cs ∈ some ds :: l → ∀ p, p ∈ cs → Clean a b c p := by
  intro cs hcs
  rcases List.mem_cons.1 hcs with e | e
  · injection e with e; subst e; exact h
  · exact k cs e
/-- Cut back to what was there before. -/
theorem Weak.cutExt {N : Nat} {lo : Nat × Nat} {E E' : Env} {σ : Sg} {l : List (Option (List PV))} {rm : List Nat} {ys : List LState} (k j : Nat) (h1 : lo.1 ≤ σ.store.length + k) (h2 : lo.2 ≤ σ.rooms.length + j) (hcl : CleanSg σ)
    (hc : ∀ cs, some cs ∈ l.take k → ∀ p, p ∈ cs → Clean (σ.store.length + k) (σ.rooms.length + j) (σ.ys.length + ys.length) p)
    (hE : ∀ t, Wk (σ.store.length + k) (σ.rooms.length + j) (σ.ys.length + ys.length) (E.get t) (E'.get t)) : Weak N lo E (σ.ext l rm ys) E' (σ.ext (l.take k) (rm.take j) ys) := by
  have := Weak.cut (N := N) (lo := lo) (E := E) (E' := E') (σ := σ.ext l rm ys) (σ.store.length + k) (σ.rooms.length + j) h1 h2 (by rw [Sg.ys_ext]; exact hE) (by
    rw [Sg.ys_ext]
    intro id cs hid hcs p hp
    have hcs' : (σ.store ++ l)[id]? = some (some cs) := hcs
    by_cases h : id < σ.store.length
    · rw [List.getElem?_append_left h] at hcs'
      exact (hcl id cs h hcs' p hp).mono (Nat.le_add_right _ _) (Nat.le_add_right _ _) (Nat.le_add_right _ _)
    · rw [List.getElem?_append_right (by omega)] at hcs'
      refine hc cs ?_ p hp
      refine List.mem_of_getElem? (i := id - σ.store.length) ?_
      rw [List.getElem?_take_of_lt (by omega)]
      exact hcs')
  rw [Sg.ys_ext, Sg.cut_exty, List.take_length] at this
  exact this
theorem Wk.nil_get {a b c : Nat} {E : Env} : ∀ t, Wk a b c (E.get t) (Env.get [] t) := fun _ _ _ _ => .undef _
end Go.Proofs.YtgelnjmddabgpaaGreat
namespace Go.Proofs.YtgelnjmddabgpaaGreat
open Go Go.RowKit
theorem Weak.room {N : Nat} {lo : Nat × Nat} {E : Env} {σ : Sg} {t es : Nat} {l : List PV} (ht : E.get t = .isl l .exact) (hes : ∀ q, q ∈ l → q.cells.length = es) :
    Weak N lo E σ ((t, .isl l (.tok σ.rooms.length l.length es)) :: E) (σ.pushRoom l.length) := by
  intro Ψ0 Ψ D a w hb le hr
  have hv := hr.env t
  rw [ht] at hv
  have fin : ∀ x : Option (Nat × Nat × Nat × Nat), (∀ b e c s, x = some (b, e, c, s) → ¬ e < c) → (∀ Ψ', Ψ.le Ψ' → Ψ'.hist σ.rooms.length l.length = some x → VR Ψ' (.isl l (.tok σ.rooms.length l.length es)) (a.tmps.getD t undef)) →
      ∃ Ψ', Ψ0.le Ψ' ∧ Rel N D Ψ' ((t, .isl l (.tok σ.rooms.length l.length es)) :: E) (σ.pushRoom l.length) a w := by
    intro x hx hvr
    obtain ⟨le', hs'⟩ := hr.sg.newRoom l.length x (fun b e c s hh hlt => absurd hlt (hx b e c s hh))
    refine ⟨_, le.trans le', hr.size, fun t' => ?_, hs', fun d hd => le'.ds _ (hr.dsub d hd), ?_⟩
    · simp only [Env.get]
      split
      · rename_i e; subst e
        exact hvr _ le' (by simp [Ty.addHist])
      · exact (hr.env t').mono le'
    · obtain ⟨rs, r1, r2, r3⟩ := hr.defs
      exact ⟨rs, r1, r2, fun r hm => ⟨le'.ds _ (r3 r hm).1, (r3 r hm).2⟩⟩
  generalize hx : a.tmps.getD t undef = x at hv fin
  cases hv with
  | islnil _ a0 _ => exact fin none (fun b e c s h => by cases h) fun Ψ' _ hh => .islnil _ a0 ⟨_, hh⟩
  | isl es0 _ _ b o cap vals hs h1 h2 hc ho =>
    have hcap : cap = l.length := ho
    subst hcap
    refine fin (some (b, o + l.length * es, o + l.length * es, es)) (fun b e c s h => by injection h with h; injection h with _ h; injection h with h1 h; injection h with h2 _; omega) fun Ψ' le' hh => ?_
    by_cases hl : l = []
    · subst hl
      exact .isl es [] _ b o 0 vals (fun k e h => by simp at h) (fun k e j p h => by simp at h) (fun k e j p h => by simp at h) (Nat.le_refl _) ⟨rfl, hh⟩
    · have : es0 = es := by
        cases l with
        | nil => exact absurd rfl hl
        | cons q l => rw [← hs 0 q rfl]; exact hes q (by simp)
      subst this
      exact .isl es0 l _ b o _ vals hs (fun k e j p q1 q2 => le'.imm _ _ _ (h1 k e j p q1 q2)) (fun k e j p q1 q2 => (h2 k e j p q1 q2).mono le') (Nat.le_refl _) ⟨rfl, hh⟩
theorem Weak.keep {N : Nat} {lo : Nat × Nat} {E : Env} {σ : Sg} (ks : List Nat) : Weak N lo E σ (keep ks E) σ := fun _ Ψ _ _ _ _ le hr => ⟨Ψ, le, hr.keep ks⟩
theorem cleanE_nil {a b c : Nat} : ∀ kv, kv ∈ ([] : Env) → Clean a b c kv.2 := fun kv h => by cases h
theorem cleanE_cons {a b c t : Nat} {v : PV} {E : Env} (h : Clean a b c v) (k : ∀ kv, kv ∈ E → Clean a b c kv.2) : ∀ kv, kv ∈ (t, v) :: E → Clean a b c kv.2 := fun kv hk => by
  rcases List.mem_cons.1 hk with rfl | hk
  · exact h
  · exact k kv hk
theorem Wk.env {a b c : Nat} : ∀ {E : Env}, (∀ kv, kv ∈ E → Clean a b c kv.2) → ∀ t, Wk a b c (E.get t) (E.get t) := by
  intro E
  induction E with
  | nil => intro _ t; exact Wk.of_clean .undef
  | cons kv E ih =>
    intro h t
    obtain ⟨k, v⟩ := kv
    simp only [Env.get]
    split
    · exact Wk.of_clean (h (k, v) (List.mem_cons_self ..))
    · exact ih (fun kv hk => h kv (List.mem_cons_of_mem _ hk)) t
end Go.Proofs.YtgelnjmddabgpaaGreat
namespace Go.Proofs.YtgelnjmddabgpaaGreat
open Go Go.RowKit
def setE1 (t : Nat) (v : PV) : Env → Env
  | [] => []
  | (k, x) :: E => if k = t then (k, v) :: E else (k, x) :: setE1 t v E
def setE : Env → Env → Env
  | E, [] => E
  | E, (t, v) :: u => setE (setE1 t v E) u
theorem setE_nil (E : Env) : setE E [] = E := rfl
theorem setE_cons (E : Env) (t : Nat) (v : PV) (u : Env) : setE E ((t, v) :: u) = setE (setE1 t v E) u := rfl
theorem setE1_nil (t : Nat) (v : PV) : setE1 t v [] = [] := rfl
theorem setE1_cons (t k : Nat) (v x : PV) (E : Env) : setE1 t v ((k, x) :: E) = if k = t then (k, v) :: E else (k, x) :: setE1 t v E := rfl
section
variable {P : Program} {Y : YEnv} {N : Nat} {rd : Option Nat} {lo : Nat × Nat} {E : Env} {σ : Sg} {Q : Exit → Env → Sg → Prop}
theorem W_loopT {α : Type} {c : Code} (upd : α → Env) (st : α → Sg) (Inv : α → Prop) (μ : α → Nat) (s0 : α) (hE : setE E (upd s0) = E) (hσ : st s0 = σ) (h0 : Inv s0)
    (round : ∀ s, Inv s → W P Y N rd lo c (setE E (upd s)) (st s) (Seq (fun E' σ' => ∃ s', Weak N lo E' σ' (setE E (upd s')) (st s') ∧ μ s' < μ s ∧ Inv s') Q)) : W P Y N rd lo (.loop c) E σ Q := by
  refine W_loopK (fun k E' σ' => ∃ s, k = μ s ∧ Inv s ∧ setE E (upd s) = E' ∧ st s = σ') (μ s0) ⟨s0, rfl, h0, hE, hσ⟩ ?_
  rintro k E' σ' ⟨s, rfl, hi, rfl, rfl⟩
  refine W_post_weak (W_mono (round s hi) ?_)
  intro ex E1 σ1 h
  cases ex with
  | normal =>
    obtain ⟨s', hw, hm, hi'⟩ := h
    exact ⟨_, _, hw, μ s', hm, s', rfl, hi', rfl, rfl⟩
  | _ => exact ⟨_, _, Weak.refl, h⟩
theorem W_loopS {α : Type} {c : Code} (upd : α → Env) (Inv : α → Prop) (μ : α → Nat) (s0 : α) (hE : setE E (upd s0) = E) (h0 : Inv s0)
    (round : ∀ s, Inv s → W P Y N rd lo c (setE E (upd s)) σ (Seq (fun E' σ' => ∃ s', Weak N lo E' σ' (setE E (upd s')) σ ∧ μ s' < μ s ∧ Inv s') Q)) : W P Y N rd lo (.loop c) E σ Q :=
  W_loopT upd (fun _ => σ) Inv μ s0 hE rfl h0 round
theorem Weak.eq {E E' : Env} {σ σ' : Sg} (h : E = E') (k : σ = σ') : Weak N lo E σ E' σ' := by subst h k; exact Weak.refl
end
def CleanAll (a b c : Nat) (l : List PV) : Prop := ∀ p, p ∈ l → Clean a b c p
def CleanLs (a b c : Nat) (l : List (Option (List PV))) : Prop := ∀ cs, some cs ∈ l → ∀ p, p ∈ cs → Clean a b c p
def CleanEs (a b c : Nat) (E : Env) : Prop := ∀ kv, kv ∈ E → Clean a b c kv.2
def OwnLt (b : Nat) (o : Own) : Prop := ∀ r n es, o = .tok r n es → r < b
section
variable {a b c : Nat}
theorem CleanAll_nil : CleanAll a b c [] = True := eq_true Clean.all_nil
theorem CleanAll_cons {p : PV} {l : List PV} : CleanAll a b c (p :: l) = (Clean a b c p ∧ CleanAll a b c l) := by simp [CleanAll]
theorem CleanAll_append {l m : List PV} : CleanAll a b c (l ++ m) = (CleanAll a b c l ∧ CleanAll a b c m) := by
  simp only [CleanAll, List.mem_append]
  exact propext ⟨fun h => ⟨fun p hp => h p (.inl hp), fun p hp => h p (.inr hp)⟩, fun h p hp => hp.elim (h.1 p) (h.2 p)⟩
theorem CleanLs_nil : CleanLs a b c [] = True := eq_true CleanL_nil
theorem CleanLs_cons {cs : List PV} {l : List (Option (List PV))} : CleanLs a b c (some cs :: l) = (CleanAll a b c cs ∧ CleanLs a b c l) := by
  refine propext ⟨fun h => ⟨h cs (List.mem_cons_self ..), fun ds hd => h ds (List.mem_cons_of_mem _ hd)⟩, fun h => CleanL_cons h.1 h.2⟩
theorem CleanEs_nil : CleanEs a b c [] = True := eq_true cleanE_nil
theorem CleanEs_cons {t : Nat} {v : PV} {E : Env} : CleanEs a b c ((t, v) :: E) = (Clean a b c v ∧ CleanEs a b c E) := by
  refine propext ⟨fun h => ⟨h (t, v) (List.mem_cons_self ..), fun ds hd => h ds (List.mem_cons_of_mem _ hd)⟩, fun h => cleanE_cons h.1 h.2⟩
theorem OwnLt_ro : OwnLt b .ro = True := eq_true fun r n es e => by cases e
theorem OwnLt_exact : OwnLt b .exact = True := eq_true fun r n es e => by cases e
theorem OwnLt_tok {r n es : Nat} : OwnLt b (.tok r n es) = (r < b) := propext ⟨fun h => h r n es rfl, fun h r' n' es' e => by cases e; exact h⟩
theorem Cl_undef : Clean a b c .undef = True := eq_true .undef
theorem Cl_bool {x : Bool} : Clean a b c (.bool x) = True := eq_true (.bool _)
theorem Cl_int {k : IntKind} {x : Int} : Clean a b c (.int k x) = True := eq_true (.int _ _)
theorem Cl_str {x : ByteArray} : Clean a b c (.str x) = True := eq_true (.str _)
theorem Cl_nilptr : Clean a b c .nilptr = True := eq_true .nilptr
theorem Cl_nilsl : Clean a b c .nilsl = True := eq_true .nilsl
theorem Cl_nilfunc : Clean a b c .nilfunc = True := eq_true .nilfunc
theorem Cl_niliface : Clean a b c .niliface = True := eq_true .niliface
theorem Cl_ptr {id off : Nat} : Clean a b c (.ptr id off) = (id < a) := propext ⟨fun h => by cases h; assumption, fun h => .ptr _ _ h⟩
theorem Cl_msl {id off len : Nat} : Clean a b c (.msl id off len) = (id < a) := propext ⟨fun h => by cases h; assumption, fun h => .msl _ _ _ h⟩
theorem Cl_yield {y : Nat} : Clean a b c (.yield y) = (y < c) := propext ⟨fun h => by cases h; assumption, fun h => .yield _ h⟩
theorem Cl_eptr {es : Nat} {l : List PV} {i off : Nat} : Clean a b c (.eptr es l i off) = CleanAll a b c l := propext ⟨fun h => by cases h; assumption, fun h => .eptr _ _ _ _ h⟩
theorem Cl_isl {l : List PV} {o : Own} : Clean a b c (.isl l o) = (CleanAll a b c l ∧ OwnLt b o) := propext ⟨fun h => by cases h; exact ⟨‹_›, ‹_›⟩, fun h => .isl _ _ h.1 h.2⟩
theorem Cl_agg {l : List PV} : Clean a b c (.agg l) = CleanAll a b c l := propext ⟨fun h => by cases h; assumption, fun h => .agg _ h⟩
theorem Cl_tuple {l : List PV} : Clean a b c (.tuple l) = CleanAll a b c l := propext ⟨fun h => by cases h; assumption, fun h => .tuple _ h⟩
theorem Cl_func {fn : Fn} {l m : List PV} : Clean a b c (.func fn l m) = (CleanAll a b c l ∧ CleanAll a b c m) := propext ⟨fun h => by cases h; exact ⟨‹_›, ‹_›⟩, fun h => .func _ _ _ h.1 h.2⟩
theorem CleanAll_ints {xs : List Int} : CleanAll a b c (xs.map I) = True := eq_true fun p hp => by obtain ⟨x, _, rfl⟩ := List.mem_map.1 hp; exact .int _ _
theorem CleanAll_map {α : Type} {f : α → PV} {xs : List α} (h : ∀ x, Clean a b c (f x)) : CleanAll a b c (xs.map f) = True := eq_true fun p hp => by obtain ⟨x, _, rfl⟩ := List.mem_map.1 hp; exact h x
end
attribute [go_sem] CleanAll_nil CleanAll_cons CleanAll_append CleanLs_nil CleanLs_cons CleanEs_nil CleanEs_cons OwnLt_ro OwnLt_exact OwnLt_tok Cl_undef Cl_bool Cl_int Cl_str Cl_nilptr Cl_nilsl Cl_nilfunc Cl_niliface Cl_ptr Cl_msl Cl_yield Cl_eptr Cl_isl Cl_agg Cl_tuple Cl_func CleanAll_ints
attribute [go_sem] setE_nil setE_cons setE1_nil setE1_cons
theorem Weak.cutX {N : Nat} {lo : Nat × Nat} {E : Env} {σ : Sg} {l : List (Option (List PV))} {rm : List Nat} {ys : List LState} (k j : Nat) (h1 : lo.1 ≤ σ.store.length + k) (h2 : lo.2 ≤ σ.rooms.length + j) (hcl : CleanSg σ)
    (hc : CleanLs (σ.store.length + k) (σ.rooms.length + j) (σ.ys.length + ys.length) (l.take k)) (hE : CleanEs (σ.store.length + k) (σ.rooms.length + j) (σ.ys.length + ys.length) E) :
    Weak N lo E (σ.ext l rm ys) E (σ.ext (l.take k) (rm.take j) ys) := Weak.cutExt k j h1 h2 hcl hc (Wk.env hE)
theorem Wk_eq {a b c : Nat} {p q : PV} (h : p = q) (hc : Clean a b c q) : Wk a b c p q := by subst h; exact Wk.of_clean hc
section
variable {α : Type} {f : α → PV} {xs : List α} {c k i off : Nat} {n : Int}
theorem iaX_m (f : α → PV) (xs : List α) : iaX c (xs.map f) n = if 0 ≤ n then (xs[n.toNat]?).bind fun x => if (f x).cells.length = c then some (.eptr c (xs.map f) n.toNat 0) else none else none := by
  unfold iaX
  by_cases h : 0 ≤ n
  · by_cases h2 : n.toNat < xs.length
    · rw [if_pos ⟨h, by simp; omega⟩, if_pos h]
      simp [h2]
    · rw [if_neg (fun h' => h2 (by have := h'.2; simp at this; omega)), if_pos h]
      rw [List.getElem?_eq_none (by omega)]
      rfl
  · rw [if_neg (fun h' => h h'.1), if_neg h]
theorem elS_m (f : α → PV) (xs : List α) : elS (xs.map f) i off = (xs[i]?).bind fun x => (f x).cells[off]? := by
  simp only [elS, List.getElem?_map]
  cases xs[i]? <;> rfl
theorem elA_m (f : α → PV) (xs : List α) : elA k (xs.map f) i off = (xs[i]?).bind fun x => if off + k ≤ (f x).cells.length then some (.agg (((f x).cells.drop off).take k)) else none := by
  simp only [elA, List.getElem?_map]
  cases xs[i]? <;> rfl
end
theorem bindSome {α β : Type} (x : α) (f : α → Option β) : (some x).bind f = f x := rfl
theorem bindNone {α β : Type} (f : α → Option β) : (none : Option α).bind f = none := rfl
attribute [go_sem] appendAny_isl appendAny_gsl appendAny_gnil
attribute [go_sem] iaX_m elS_m elA_m bindSome bindNone Int.natCast_nonneg Int.toNat_natCast
section
variable {σ : Sg} {d : Nat} {cs cs' : List PV} {l : List (Option (List PV))} {rm : List Nat} {ys : List LState} {k j off : Nat}
theorem sv_len : (σ.setVar d cs).store.length = σ.store.length := by simp [Sg.setVar]
theorem sv_rooms : (σ.setVar d cs).rooms = σ.rooms := rfl
theorem sv_ys : (σ.setVar d cs).ys = σ.ys := rfl
theorem sv_sv : (σ.setVar d cs).setVar d cs' = σ.setVar d cs' := by simp [Sg.setVar]
theorem sv_get (h : d < σ.store.length) : (σ.setVar d cs).store[d]? = some (some cs) := by simp [Sg.setVar, h]
theorem ext_get (h : d < σ.store.length) : (σ.ext l rm ys).store[d]? = σ.store[d]? := by
  show (σ.store ++ l)[d]? = _
  rw [List.getElem?_append_left h]
theorem sv_ext (h : d < σ.store.length) : (σ.ext l rm ys).setVar d cs = (σ.setVar d cs).ext l rm ys := by
  simp [Sg.setVar, Sg.ext, List.set_append_left _ _ h]
theorem ldS_sv (h : d < σ.store.length) : ldS (σ.setVar d cs) d off = cs[off]? := ldS_at (sv_get h)
theorem stX_sv (h : d < σ.store.length) (p : PV) : stX k (σ.setVar d cs) d off p = if defd p && p.cells.all PV.scalar && (p.cells.length == k) && decide (off + p.cells.length ≤ cs.length) then some (σ.setVar d (putCells cs off p.cells)) else none := by
  rw [stX_at (sv_get h), sv_sv]
theorem ldS_svx : ldS ((σ.setVar d cs).ext l rm ys) (σ.store.length + j) off = match l[j]? with | some (some cs) => cs[off]? | _ => none := by
  rw [← sv_len (d := d) (cs := cs)]; exact ldS_ext ..
theorem ldS_svx0 : ldS ((σ.setVar d cs).ext l rm ys) σ.store.length off = match l[0]? with | some (some cs) => cs[off]? | _ => none := by
  rw [← sv_len (d := d) (cs := cs)]; exact ldS_ext0 ..
theorem ldA_svx : ldA k ((σ.setVar d cs).ext l rm ys) (σ.store.length + j) off = match l[j]? with | some (some cs) => if off + k ≤ cs.length then some (.agg ((cs.drop off).take k)) else none | _ => none := by
  rw [← sv_len (d := d) (cs := cs)]; exact ldA_ext ..
theorem ldA_svx0 : ldA k ((σ.setVar d cs).ext l rm ys) σ.store.length off = match l[0]? with | some (some cs) => if off + k ≤ cs.length then some (.agg ((cs.drop off).take k)) else none | _ => none := by
  rw [← sv_len (d := d) (cs := cs)]; exact ldA_ext0 ..
theorem stX_svx (p : PV) : stX k ((σ.setVar d cs).ext l rm ys) (σ.store.length + j) off p = match l[j]? with
    | some (some ds) => if defd p && p.cells.all PV.scalar && (p.cells.length == k) && decide (off + p.cells.length ≤ ds.length) then some ((σ.setVar d cs).ext (l.set j (some (putCells ds off p.cells))) rm ys) else none
    | _ => none := by
  rw [← sv_len (d := d) (cs := cs)]; exact stX_ext ..
theorem stX_svx0 (p : PV) : stX k ((σ.setVar d cs).ext l rm ys) σ.store.length off p = match l[0]? with
    | some (some ds) => if defd p && p.cells.all PV.scalar && (p.cells.length == k) && decide (off + p.cells.length ≤ ds.length) then some ((σ.setVar d cs).ext (l.set 0 (some (putCells ds off p.cells))) rm ys) else none
    | _ => none := by
  rw [← sv_len (d := d) (cs := cs)]; exact stX_ext0 ..
theorem setVar_ext (cs : List PV) : (σ.ext l rm ys).setVar (σ.store.length + j) cs = σ.ext (l.set j (some cs)) rm ys := Sg.set_ext σ l rm ys j cs
theorem setVar_ext0 (cs : List PV) : (σ.ext l rm ys).setVar σ.store.length cs = σ.ext (l.set 0 (some cs)) rm ys := Sg.set_ext0 σ l rm ys cs
theorem setVar_svx (cs' : List PV) : ((σ.setVar d cs).ext l rm ys).setVar (σ.store.length + j) cs' = (σ.setVar d cs).ext (l.set j (some cs')) rm ys := by
  rw [← sv_len (d := d) (cs := cs)]; exact setVar_ext cs'
theorem setVar_svx0 (cs' : List PV) : ((σ.setVar d cs).ext l rm ys).setVar σ.store.length cs' = (σ.setVar d cs).ext (l.set 0 (some cs')) rm ys := by
  rw [← sv_len (d := d) (cs := cs)]; exact setVar_ext0 cs'
theorem lt_of_get {x : Option (List PV)} (h : σ.store[d]? = some x) : d < σ.store.length := (List.getElem?_eq_some_iff.1 h).1
end
attribute [go_sem] sv_len sv_rooms sv_ys sv_sv ldS_svx ldS_svx0 ldA_svx ldA_svx0 stX_svx stX_svx0 setVar_ext setVar_ext0 setVar_svx setVar_svx0
theorem CleanSg_set {σ : Sg} {d : Nat} {cs : List PV} (h : CleanSg σ) (hc : CleanAll σ.store.length σ.rooms.length σ.ys.length cs) : CleanSg (σ.setVar d cs) := by
  unfold CleanSg
  rw [sv_len, sv_rooms, sv_ys]
  intro id ds hid hds p hp
  by_cases hd : d = id
  · subst hd
    have hds' : (σ.store.set d (some cs))[d]? = some (some ds) := hds
    rw [List.getElem?_set_self hid] at hds'
    injection hds' with e
    injection e with e
    subst e
    exact hc p hp
  · have hds' : (σ.store.set d (some cs))[id]? = some (some ds) := hds
    rw [List.getElem?_set_ne hd] at hds'
    exact h id ds hid hds' p hp
/-- The end of a function that set a variable that was there before. -/
theorem Fin_set {P : Program} {fn : Func} {σ : Sg} {d : Nat} {cs : List PV} {l : List (Option (List PV))} {rm : List Nat} {E : Env} {rs : List PV} {v : PV} (hcl : CleanSg σ) (hc : CleanAll σ.store.length σ.rooms.length σ.ys.length cs)
    (hr : resPV P ((σ.setVar d cs).ext l rm) E fn.results.toList = some rs)
    (hv : Wk σ.store.length σ.rooms.length σ.ys.length (oneOr rs) v) : Fin P fn σ v (σ.setVar d cs) E ((σ.setVar d cs).ext l rm) := by
  have hcl' := CleanSg_set (d := d) hcl hc
  refine ⟨rs, _, _, hr, Nat.le_refl _, Nat.le_refl _, hv, ?_, fun id ds hid hds p hp => ?_, by simp [Sg.ext, Sg.setVar]⟩
  · have := Sg.cut_ext0 (σ.setVar d cs) l rm
    rw [sv_len, sv_rooms, sv_ys] at this
    exact this.symm
  · have hc' : ((σ.setVar d cs).store ++ l)[id]? = some (some ds) := hds
    rw [List.getElem?_append_left (by rw [sv_len]; exact hid)] at hc'
    have := hcl' id ds (by rw [sv_len]; exact hid) hc' p hp
    rw [sv_len, sv_rooms, sv_ys] at this
    exact this
theorem Fin_set0 {P : Program} {fn : Func} {σ : Sg} {d : Nat} {cs : List PV} {E : Env} {rs : List PV} {v : PV} (hcl : CleanSg σ) (hc : CleanAll σ.store.length σ.rooms.length σ.ys.length cs)
    (hr : resPV P (σ.setVar d cs) E fn.results.toList = some rs)
    (hv : Wk σ.store.length σ.rooms.length σ.ys.length (oneOr rs) v) : Fin P fn σ v (σ.setVar d cs) E (σ.setVar d cs) := by
  have := Fin_set (l := []) (rm := []) hcl hc (by rw [Sg.ext_nil]; exact hr) hv
  rw [Sg.ext_nil] at this
  exact this
end Go.Proofs.YtgelnjmddabgpaaGreat
namespace Go.Proofs.YtgelnjmddabgpaaGreat
open Go Go.RowKit
theorem W_regionJ {P : Program} {Y : YEnv} {N : Nat} {rd : Option Nat} {lo : Nat × Nat} {id : Nat} {ops : Array Oper} {E : Env} {σ : Sg} {Q : Exit → Env → Sg → Prop} (ks : List Nat) (upd : Env)
    (rest : Q .normal (keep ks (upd ++ E)) σ) (h : ∀ K : Env → Sg → Prop, (∀ E', keep ks E' = keep ks (upd ++ E) → K E' σ) → GL P Y N ops ops.toList E σ K) : W P Y N rd lo (.region id ops false) E σ Q :=
  W_region ks fun K hK => h K fun E' e => hK E' σ (by rw [e]; exact rest)
theorem W_drawJ {P : Program} {Y : YEnv} {N : Nat} {rd : Option Nat} {lo : Nat × Nat} {id : Nat} {ops : Array Oper} {E : Env} {σ : Sg} {Q : Exit → Env → Sg → Prop} (ks : List Nat) (upd : Env) (is : List Nat) (plan : List (Nat × Nat)) (pre : List (List Nat))
    (hm : P.follows .mixedOrders = true) (hc : drawOK ops is plan pre = true) (rest : Q .normal (keep ks (upd ++ E)) σ)
    (h : ∀ K : Env → Sg → Prop, (∀ E', keep ks E' = keep ks (upd ++ E) → K E' σ) → GD P Y N ops is (undefs ops.toList E) σ [] (fun T E' σ' => Dem P ops T.reverse σ' plan ∧ K E' σ')) : W P Y N rd lo (.region id ops true) E σ Q :=
  W_draw ks is plan pre hm hc fun K hK => h K fun E' e => hK E' σ (by rw [e]; exact rest)
theorem wrapI {n : Int} (h1 : -9223372036854775808 ≤ n) (h2 : n ≤ 9223372036854775807) : IntKind.i64.wrap n = n := wrap_i64_id (by omega) (by omega)
/-- How a test is read. -/
theorem nrm : (∀ (p : Prop) [Decidable p], (decide p = true) = p) ∧ (∀ (p : Prop) [Decidable p], (decide p = false) = ¬p) ∧ (∀ b : Bool, ((!b) = true) = (b = false)) ∧ (∀ b : Bool, ((!b) = false) = (b = true)) ∧
    (∀ a b : Nat, ((a : Int) = (b : Int)) = (a = b)) ∧ (∀ a b : Nat, ((a : Int) < (b : Int)) = (a < b)) ∧ (∀ a b : Nat, ((a : Int) ≤ (b : Int)) = (a ≤ b)) ∧
    (∀ a b : Int, ((a != b) = true) = (¬ a = b)) ∧ (∀ a b : Int, ((a != b) = false) = (a = b)) ∧ (∀ a b : Int, ((a == b) = true) = (a = b)) ∧ (∀ a b : Int, ((a == b) = false) = (¬ a = b)) ∧
    (∀ b : Bool, (¬ b = true) = (b = false)) ∧ (∀ b : Bool, (¬ b = false) = (b = true)) := by
  refine ⟨fun p _ => by simp, fun p _ => by simp, fun b => by simp, fun b => by simp, fun a b => propext Int.natCast_inj, fun a b => propext Int.ofNat_lt, fun a b => propext Int.ofNat_le, fun a b => by simp, fun a b => by simp, fun a b => by simp, fun a b => by simp, fun b => by simp, fun b => by simp⟩
def okC (c : Nat) (m : List PV) : Prop := (m.all fun q => (q.cells.length == c) && q.cells.all PV.scalar) = true
theorem okC_nil {c : Nat} : okC c [] = True := eq_true rfl
theorem okC_cons {c : Nat} {q : PV} {m : List PV} : okC c (q :: m) = ((q.cells.length = c ∧ q.cells.all PV.scalar = true) ∧ okC c m) := by simp [okC]
theorem okC_append {c : Nat} {l m : List PV} : okC c (l ++ m) = (okC c l ∧ okC c m) := by simp [okC]
theorem okC_ints {xs : List Int} : okC 1 (xs.map I) = True := eq_true (by simp [okC, PV.cells, PV.scalar])
theorem okC_map {α : Type} {c : Nat} {f : α → PV} {xs : List α} (h : ∀ x, okC c [f x]) : okC c (xs.map f) = True := eq_true (by
  unfold okC at h ⊢
  rw [List.all_eq_true]
  intro q hq
  obtain ⟨x, _, rfl⟩ := List.mem_map.1 hq
  simpa using h x)
theorem okC_len {c : Nat} {m : List PV} (h : okC c m) : (m.all fun q => q.cells.length == c) = true := by
  unfold okC at h
  rw [List.all_eq_true] at h ⊢
  intro q hq
  have := h q hq
  simp only [Bool.and_eq_true] at this
  exact this.1
theorem appX_exact {c b : Nat} {σ : Sg} {l m : List PV} (hm : okC c m) (hl : okC c l) (hs : (l.length + m.length) * b ≤ 140737488355328) :
    appX c b σ l .exact m = some (.isl (l ++ m) (.tok σ.rooms.length (l.length + m.length) c), σ.pushRoom (l.length + m.length)) := by
  have hm' : (m.all fun q => (q.cells.length == c) && q.cells.all PV.scalar) = true := hm
  unfold appX
  rw [hm', okC_len hl]
  simp [hs]
theorem appX_tok {c b : Nat} {σ : Sg} {l m : List PV} {r n : Nat} (hm : okC c m) (hr : σ.rooms[r]? = some n) (hs : (l.length + m.length) * b ≤ 140737488355328) :
    appX c b σ l (.tok r n c) m = some (.isl (l ++ m) (.tok r (n + m.length) c), σ.setRoom r (n + m.length)) := by
  have hm' : (m.all fun q => (q.cells.length == c) && q.cells.all PV.scalar) = true := hm
  unfold appX
  rw [hm']
  simp [hs, hr]
section
variable {σ : Sg} {d : Nat} {cs : List PV} {l : List (Option (List PV))} {rm : List Nat} {ys : List LState} {j n : Nat}
theorem room_svx : ((σ.setVar d cs).ext l rm ys).rooms[σ.rooms.length + j]? = rm[j]? := Sg.room_ext (σ.setVar d cs) l rm ys j
theorem room_svx0 : ((σ.setVar d cs).ext l rm ys).rooms[σ.rooms.length]? = rm[0]? := Sg.room_ext0 (σ.setVar d cs) l rm ys
theorem setRoom_svx : ((σ.setVar d cs).ext l rm ys).setRoom (σ.rooms.length + j) n = (σ.setVar d cs).ext l (rm.set j n) ys := Sg.setRoom_ext (σ.setVar d cs) l rm ys j n
theorem setRoom_svx0 : ((σ.setVar d cs).ext l rm ys).setRoom σ.rooms.length n = (σ.setVar d cs).ext l (rm.set 0 n) ys := Sg.setRoom_ext0 (σ.setVar d cs) l rm ys n
end
attribute [go_sem] bsX okC_nil okC_cons okC_append okC_ints Sg.room_ext Sg.room_ext0 Sg.setRoom_ext Sg.setRoom_ext0 room_svx room_svx0 setRoom_svx setRoom_svx0
theorem ro_isl {l : List PV} {o : Own} : (PV.isl l o).ro = .isl (PV.roL l) .ro := by simp only [PV.ro]
theorem ro_agg {l : List PV} : (PV.agg l).ro = .agg (PV.roL l) := by simp only [PV.ro]
theorem ro_tuple {l : List PV} : (PV.tuple l).ro = .tuple (PV.roL l) := by simp only [PV.ro]
theorem ro_int {k : IntKind} {n : Int} : (PV.int k n).ro = .int k n := by simp only [PV.ro]
theorem ro_bool {b : Bool} : (PV.bool b).ro = .bool b := by simp only [PV.ro]
theorem ro_str {b : ByteArray} : (PV.str b).ro = .str b := by simp only [PV.ro]
theorem ro_ptr {i o : Nat} : (PV.ptr i o).ro = .ptr i o := by simp only [PV.ro]
theorem roL_nil : PV.roL [] = [] := by simp only [PV.roL]
theorem roL_cons {p : PV} {l : List PV} : PV.roL (p :: l) = p.ro :: PV.roL l := by simp only [PV.roL]
theorem roL_append {l m : List PV} : PV.roL (l ++ m) = PV.roL l ++ PV.roL m := by simp only [PV.roL_map, List.map_append]
theorem roL_ints {xs : List Int} : PV.roL (xs.map I) = xs.map I := by simp [PV.roL_map, PV.ro]
theorem roL_enc {α : Type} {f : α → PV} {xs : List α} (h : ∀ x, (f x).ro = f x) : PV.roL (xs.map f) = xs.map f := by simp [PV.roL_map, h]
attribute [go_sem] ro_isl ro_agg ro_tuple ro_int ro_bool ro_str ro_ptr roL_nil roL_cons roL_append roL_ints oneOr
theorem PC.val {P : Program} {Y : YEnv} {f : FuncId} {args : List PV} {σ σ' : Sg} {v v' : PV} (h : PC P Y f args σ v σ') (e : v = v') : PC P Y f args σ v' σ' := by subst e; exact h
/-- The same value n times. -/
def rep (n : Nat) (v : PV) : List PV := List.replicate n v
theorem rep_len (n : Nat) (v : PV) : (rep n v).length = n := by simp [rep]
theorem ixS_of {P : Program} {t e : TypeId} {d : TypeDesc} {len : Nat} (h : P.underlying t = some (.array len e)) (he : P.underlying e = some d) (ha : isAggD d = false) (hc : P.cellsOf e = 1) (kd : IntKind) (n : Int) {cs : List PV} :
    indexPV P t (.agg cs) (.int kd n) = if 0 ≤ n ∧ n < (len : Int) then cs[n.toNat]? else none := by
  simp [indexPV, h, he, hc, partPV, ha]
attribute [go_sem] st List.reverse_cons List.reverse_nil bldX bne_self_eq_false iaM rep_len Int.cast_ofNat_Int List.getElem?_nil List.map_append List.length_append
end Go.Proofs.YtgelnjmddabgpaaGreat
namespace Go.Proofs.YtgelnjmddabgpaaGreat
open Go
theorem cells2 : Tryz.prog.cellsOf 2 = 1 := by kernel_rfl
theorem zero2 : zeroPV Tryz.prog 2 = some [.int .i64 0] := by kernel_rfl
theorem cells3 : Tryz.prog.cellsOf 3 = 1 := by kernel_rfl
theorem bytes3 : Tryz.prog.bytesOf 3 = 8 := by kernel_rfl
theorem zero3 : zeroPV Tryz.prog 3 = some [.int .i64 0] := by kernel_rfl
theorem cells4 : Tryz.prog.cellsOf 4 = 1 := by kernel_rfl
theorem bytes4 : Tryz.prog.bytesOf 4 = 1 := by kernel_rfl
theorem zero4 : zeroPV Tryz.prog 4 = some [.bool false] := by kernel_rfl
theorem cells5 : Tryz.prog.cellsOf 5 = 1 := by kernel_rfl
theorem zero5 : zeroPV Tryz.prog 5 = some [.int .u8 0] := by kernel_rfl
theorem cells9 : Tryz.prog.cellsOf 9 = 1 := by kernel_rfl
theorem zero9 : zeroPV Tryz.prog 9 = some [.str .empty] := by kernel_rfl
theorem cells22 : Tryz.prog.cellsOf 22 = 1 := by kernel_rfl
theorem bytes22 : Tryz.prog.bytesOf 22 = 24 := by kernel_rfl
theorem zero22 : zeroPV Tryz.prog 22 = some [.isl [] .exact] := by kernel_rfl
theorem cells23 : Tryz.prog.cellsOf 23 = 7 := by kernel_rfl
theorem zero23 : zeroPV Tryz.prog 23 = some [.int .i64 0, .int .i64 0, .int .i64 0, .int .i64 0, .int .i64 0, .int .i64 0, .isl [] .exact] := by kernel_rfl
theorem cells24 : Tryz.prog.cellsOf 24 = 7 := by kernel_rfl
theorem bytes24 : Tryz.prog.bytesOf 24 = 72 := by kernel_rfl
theorem zero24 : zeroPV Tryz.prog 24 = some [.int .i64 0, .int .i64 0, .int .i64 0, .int .i64 0, .int .i64 0, .int .i64 0, .isl [] .exact] := by kernel_rfl
theorem cells25 : Tryz.prog.cellsOf 25 = 1 := by kernel_rfl
theorem zero25 : zeroPV Tryz.prog 25 = some [.isl [] .exact] := by kernel_rfl
theorem cells26 : Tryz.prog.cellsOf 26 = 1 := by kernel_rfl
theorem zero26 : zeroPV Tryz.prog 26 = some [.isl [] .exact] := by kernel_rfl
theorem cells27 : Tryz.prog.cellsOf 27 = 1 := by kernel_rfl
theorem zero27 : zeroPV Tryz.prog 27 = some [.isl [] .exact] := by kernel_rfl
theorem cells28 : Tryz.prog.cellsOf 28 = 3 := by kernel_rfl
theorem zero28 : zeroPV Tryz.prog 28 = some [.isl [] .exact, .isl [] .exact, .isl [] .exact] := by kernel_rfl
theorem cells29 : Tryz.prog.cellsOf 29 = 3 := by kernel_rfl
theorem bytes29 : Tryz.prog.bytesOf 29 = 72 := by kernel_rfl
theorem zero29 : zeroPV Tryz.prog 29 = some [.isl [] .exact, .isl [] .exact, .isl [] .exact] := by kernel_rfl
theorem cells32 : Tryz.prog.cellsOf 32 = 1 := by kernel_rfl
theorem zero32 : zeroPV Tryz.prog 32 = some [.nilptr] := by kernel_rfl
theorem cells35 : Tryz.prog.cellsOf 35 = 1 := by kernel_rfl
theorem zero35 : zeroPV Tryz.prog 35 = some [.isl [] .exact] := by kernel_rfl
theorem cells38 : Tryz.prog.cellsOf 38 = 1 := by kernel_rfl
theorem zero38 : zeroPV Tryz.prog 38 = some [.isl [] .exact] := by kernel_rfl
theorem cells41 : Tryz.prog.cellsOf 41 = 1 := by kernel_rfl
theorem zero41 : zeroPV Tryz.prog 41 = some [.isl [] .exact] := by kernel_rfl
theorem cells42 : Tryz.prog.cellsOf 42 = 1 := by kernel_rfl
theorem zero42 : zeroPV Tryz.prog 42 = some [.int .i64 0] := by kernel_rfl
theorem cells50 : Tryz.prog.cellsOf 50 = 4 := by kernel_rfl
theorem zero50 : zeroPV Tryz.prog 50 = some [.int .i64 0, .int .i64 0, .isl [] .exact, .int .i64 0] := by kernel_rfl
theorem cells51 : Tryz.prog.cellsOf 51 = 4 := by kernel_rfl
theorem bytes51 : Tryz.prog.bytesOf 51 = 48 := by kernel_rfl
theorem zero51 : zeroPV Tryz.prog 51 = some [.int .i64 0, .int .i64 0, .isl [] .exact, .int .i64 0] := by kernel_rfl
theorem cells54 : Tryz.prog.cellsOf 54 = 3 := by kernel_rfl
theorem zero54 : zeroPV Tryz.prog 54 = some [.int .i64 0, .int .i64 0, .isl [] .exact] := by kernel_rfl
theorem cells55 : Tryz.prog.cellsOf 55 = 3 := by kernel_rfl
theorem bytes55 : Tryz.prog.bytesOf 55 = 40 := by kernel_rfl
theorem zero55 : zeroPV Tryz.prog 55 = some [.int .i64 0, .int .i64 0, .isl [] .exact] := by kernel_rfl
theorem cells59 : Tryz.prog.cellsOf 59 = 1 := by kernel_rfl
theorem zero59 : zeroPV Tryz.prog 59 = some [.isl [] .exact] := by kernel_rfl
theorem cells62 : Tryz.prog.cellsOf 62 = 2 := by kernel_rfl
theorem zero62 : zeroPV Tryz.prog 62 = some [.int .i64 0, .int .i64 0] := by kernel_rfl
theorem cells63 : Tryz.prog.cellsOf 63 = 2 := by kernel_rfl
theorem bytes63 : Tryz.prog.bytesOf 63 = 16 := by kernel_rfl
theorem zero63 : zeroPV Tryz.prog 63 = some [.int .i64 0, .int .i64 0] := by kernel_rfl
theorem cells75 : Tryz.prog.cellsOf 75 = 1 := by kernel_rfl
theorem zero75 : zeroPV Tryz.prog 75 = some [.isl [] .exact] := by kernel_rfl
theorem cells87 : Tryz.prog.cellsOf 87 = 1 := by kernel_rfl
theorem zero87 : zeroPV Tryz.prog 87 = some [.int .u64 0] := by kernel_rfl
theorem cells88 : Tryz.prog.cellsOf 88 = 1 := by kernel_rfl
theorem zero88 : zeroPV Tryz.prog 88 = some [.int .u64 0] := by kernel_rfl
theorem cells89 : Tryz.prog.cellsOf 89 = 1 := by kernel_rfl
theorem zero89 : zeroPV Tryz.prog 89 = some [.int .u64 0] := by kernel_rfl
theorem cells93 : Tryz.prog.cellsOf 93 = 2 := by kernel_rfl
theorem zero93 : zeroPV Tryz.prog 93 = some [.int .i64 0, .int .i64 0] := by kernel_rfl
theorem cells94 : Tryz.prog.cellsOf 94 = 2 := by kernel_rfl
theorem bytes94 : Tryz.prog.bytesOf 94 = 16 := by kernel_rfl
theorem zero94 : zeroPV Tryz.prog 94 = some [.int .i64 0, .int .i64 0] := by kernel_rfl
theorem cells96 : Tryz.prog.cellsOf 96 = 2 := by kernel_rfl
theorem zero96 : zeroPV Tryz.prog 96 = some [.int .i64 0, .int .i64 0] := by kernel_rfl
theorem cells97 : Tryz.prog.cellsOf 97 = 2 := by kernel_rfl
theorem bytes97 : Tryz.prog.bytesOf 97 = 16 := by kernel_rfl
theorem zero97 : zeroPV Tryz.prog 97 = some [.int .i64 0, .int .i64 0] := by kernel_rfl
theorem cells98 : Tryz.prog.cellsOf 98 = 1 := by kernel_rfl
theorem zero98 : zeroPV Tryz.prog 98 = some [.nilmap] := by kernel_rfl
theorem cells99 : Tryz.prog.cellsOf 99 = 1 := by kernel_rfl
theorem zero99 : zeroPV Tryz.prog 99 = some [.nilmap] := by kernel_rfl
theorem cells103 : Tryz.prog.cellsOf 103 = 1 := by kernel_rfl
theorem zero103 : zeroPV Tryz.prog 103 = some [.nilfunc] := by kernel_rfl
theorem cells107 : Tryz.prog.cellsOf 107 = 1 := by kernel_rfl
theorem zero107 : zeroPV Tryz.prog 107 = some [.isl [] .exact] := by kernel_rfl
theorem cells108 : Tryz.prog.cellsOf 108 = 1 := by kernel_rfl
theorem zero108 : zeroPV Tryz.prog 108 = some [.isl [] .exact] := by kernel_rfl
theorem cells112 : Tryz.prog.cellsOf 112 = 1 := by kernel_rfl
theorem zero112 : zeroPV Tryz.prog 112 = some [.int .u64 0] := by kernel_rfl
theorem cells115 : Tryz.prog.cellsOf 115 = 2 := by kernel_rfl
theorem zero115 : zeroPV Tryz.prog 115 = some [.int .i64 0, .int .i64 0] := by kernel_rfl
theorem cells116 : Tryz.prog.cellsOf 116 = 2 := by kernel_rfl
theorem zero116 : zeroPV Tryz.prog 116 = some [.int .i64 0, .int .i64 0] := by kernel_rfl
theorem cells125 : Tryz.prog.cellsOf 125 = 1 := by kernel_rfl
theorem zero125 : zeroPV Tryz.prog 125 = some [.isl [] .exact] := by kernel_rfl
theorem cells126 : Tryz.prog.cellsOf 126 = 1 := by kernel_rfl
theorem zero126 : zeroPV Tryz.prog 126 = some [.nilfunc] := by kernel_rfl
theorem cells131 : Tryz.prog.cellsOf 131 = 1 := by kernel_rfl
theorem bytes131 : Tryz.prog.bytesOf 131 = 8 := by kernel_rfl
theorem zero131 : zeroPV Tryz.prog 131 = some [.nilfunc] := by kernel_rfl
theorem cells132 : Tryz.prog.cellsOf 132 = 1 := by kernel_rfl
theorem zero132 : zeroPV Tryz.prog 132 = some [.isl [] .exact] := by kernel_rfl
theorem cells141 : Tryz.prog.cellsOf 141 = 5 := by kernel_rfl
theorem zero141 : zeroPV Tryz.prog 141 = some [.int .i64 0, .int .i64 0, .int .i64 0, .int .i64 0, .int .i64 0] := by kernel_rfl
theorem cells142 : Tryz.prog.cellsOf 142 = 5 := by kernel_rfl
theorem zero142 : zeroPV Tryz.prog 142 = some [.int .i64 0, .int .i64 0, .int .i64 0, .int .i64 0, .int .i64 0] := by kernel_rfl
theorem cells145 : Tryz.prog.cellsOf 145 = 1 := by kernel_rfl
theorem zero145 : zeroPV Tryz.prog 145 = some [.nilfunc] := by kernel_rfl
theorem cells148 : Tryz.prog.cellsOf 148 = 1 := by kernel_rfl
theorem zero148 : zeroPV Tryz.prog 148 = some [.int .i64 0] := by kernel_rfl
theorem cells156 : Tryz.prog.cellsOf 156 = 1 := by kernel_rfl
theorem zero156 : zeroPV Tryz.prog 156 = some [.int .u32 0] := by kernel_rfl
theorem cells161 : Tryz.prog.cellsOf 161 = 1 := by kernel_rfl
theorem zero161 : zeroPV Tryz.prog 161 = some [.int .u64 0] := by kernel_rfl
theorem cells164 : Tryz.prog.cellsOf 164 = 1 := by kernel_rfl
theorem zero164 : zeroPV Tryz.prog 164 = some [.nilptr] := by kernel_rfl
theorem cells168 : Tryz.prog.cellsOf 168 = 1 := by kernel_rfl
theorem zero168 : zeroPV Tryz.prog 168 = some [.nilptr] := by kernel_rfl
end Go.Proofs.YtgelnjmddabgpaaGreat
namespace Go.Proofs.YtgelnjmddabgpaaGreat
open Go
set_option maxRecDepth 100000
theorem lda2 {σ : Sg} {id off : Nat} : loadPV Tryz.prog σ 2 (.ptr id off) = ldS σ id off := ldS_of Tryz.underlying2 rfl
theorem ela2 {σ : Sg} {es i off : Nat} {l : List PV} : loadPV Tryz.prog σ 2 (.eptr es l i off) = elS l i off := elS_of Tryz.underlying2 rfl
theorem sto2 {σ : Sg} {id off : Nat} {p : PV} : storePV Tryz.prog σ 2 (.ptr id off) p = stX 1 σ id off p := stX_of Tryz.underlying2 cells2 p
theorem lda3 {σ : Sg} {id off : Nat} : loadPV Tryz.prog σ 3 (.ptr id off) = ldS σ id off := ldS_of Tryz.underlying3 rfl
theorem ela3 {σ : Sg} {es i off : Nat} {l : List PV} : loadPV Tryz.prog σ 3 (.eptr es l i off) = elS l i off := elS_of Tryz.underlying3 rfl
theorem sto3 {σ : Sg} {id off : Nat} {p : PV} : storePV Tryz.prog σ 3 (.ptr id off) p = stX 1 σ id off p := stX_of Tryz.underlying3 cells3 p
theorem lda4 {σ : Sg} {id off : Nat} : loadPV Tryz.prog σ 4 (.ptr id off) = ldS σ id off := ldS_of Tryz.underlying4 rfl
theorem ela4 {σ : Sg} {es i off : Nat} {l : List PV} : loadPV Tryz.prog σ 4 (.eptr es l i off) = elS l i off := elS_of Tryz.underlying4 rfl
theorem sto4 {σ : Sg} {id off : Nat} {p : PV} : storePV Tryz.prog σ 4 (.ptr id off) p = stX 1 σ id off p := stX_of Tryz.underlying4 cells4 p
theorem lda5 {σ : Sg} {id off : Nat} : loadPV Tryz.prog σ 5 (.ptr id off) = ldS σ id off := ldS_of Tryz.underlying5 rfl
theorem ela5 {σ : Sg} {es i off : Nat} {l : List PV} : loadPV Tryz.prog σ 5 (.eptr es l i off) = elS l i off := elS_of Tryz.underlying5 rfl
theorem sto5 {σ : Sg} {id off : Nat} {p : PV} : storePV Tryz.prog σ 5 (.ptr id off) p = stX 1 σ id off p := stX_of Tryz.underlying5 cells5 p
theorem lda9 {σ : Sg} {id off : Nat} : loadPV Tryz.prog σ 9 (.ptr id off) = ldS σ id off := ldS_of Tryz.underlying9 rfl
theorem ela9 {σ : Sg} {es i off : Nat} {l : List PV} : loadPV Tryz.prog σ 9 (.eptr es l i off) = elS l i off := elS_of Tryz.underlying9 rfl
theorem sto9 {σ : Sg} {id off : Nat} {p : PV} : storePV Tryz.prog σ 9 (.ptr id off) p = stX 1 σ id off p := stX_of Tryz.underlying9 cells9 p
theorem lda22 {σ : Sg} {id off : Nat} : loadPV Tryz.prog σ 22 (.ptr id off) = ldS σ id off := ldS_of Tryz.underlying22 rfl
theorem ela22 {σ : Sg} {es i off : Nat} {l : List PV} : loadPV Tryz.prog σ 22 (.eptr es l i off) = elS l i off := elS_of Tryz.underlying22 rfl
theorem sto22 {σ : Sg} {id off : Nat} {p : PV} : storePV Tryz.prog σ 22 (.ptr id off) p = stX 1 σ id off p := stX_of Tryz.underlying22 cells22 p
theorem ia22 {l : List PV} {own : Own} {k : IntKind} {i : Int} : indexAddrPV Tryz.prog 22 (.isl l own) (.int k i) = iaX 1 l i := iaX_of Tryz.underlying22 Tryz.underlying3 cells3 k i
theorem iam22 {id off len : Nat} {k : IntKind} {i : Int} : indexAddrPV Tryz.prog 22 (.msl id off len) (.int k i) = iaM 1 id off len i := iaM_of Tryz.underlying22 Tryz.underlying3 cells3 k len i
theorem len22 {l : List PV} {own : Own} : lenPV Tryz.prog 22 (.isl l own) = some (.int .i64 l.length) := len_of Tryz.underlying22
theorem lenm22 {id off n : Nat} : lenPV Tryz.prog 22 (.msl id off n) = some (.int .i64 n) := lenM_of Tryz.underlying22 n
theorem bs22 {len : Nat} {parts : List (Nat × PV)} : buildSlicePV Tryz.prog 22 len parts = bsX 1 len parts := bsX_of Tryz.underlying22 Tryz.underlying3 cells3 zero3 len parts
theorem app22 {σ : Sg} {l m : List PV} {own own' : Own} : appendPV Tryz.prog σ 22 22 (.isl l own) (.isl m own') = appX 1 8 σ l own m := appX_of Tryz.underlying22 Tryz.underlying3 cells3 bytes3 (by decide) (by decide) zero3 rfl
theorem lda23 {σ : Sg} {id off : Nat} : loadPV Tryz.prog σ 23 (.ptr id off) = ldA 7 σ id off := ldA_of Tryz.underlying23 rfl cells23
theorem ela23 {σ : Sg} {es i off : Nat} {l : List PV} : loadPV Tryz.prog σ 23 (.eptr es l i off) = elA 7 l i off := elA_of Tryz.underlying23 rfl cells23
theorem sto23 {σ : Sg} {id off : Nat} {p : PV} : storePV Tryz.prog σ 23 (.ptr id off) p = stX 7 σ id off p := stX_of Tryz.underlying23 cells23 p
theorem fa23_0 {id off : Nat} : fieldAddrPV Tryz.prog 23 (.ptr id off) 0 = some (.ptr id (off + 0)) := fa1_of Tryz.underlying23 (by rfl) (by exact Tryz.underlying3) (by exact cells3) (by rfl) (by rfl)
theorem fae23_0 {es i off : Nat} {l : List PV} : fieldAddrPV Tryz.prog 23 (.eptr es l i off) 0 = some (.eptr es l i (off + 0)) := fa2_of Tryz.underlying23 (by rfl) (by exact Tryz.underlying3) (by exact cells3) (by rfl) (by rfl)
theorem fp23_0 {cs : List PV} : fieldPV Tryz.prog 23 (.agg cs) 0 = cs[0]? := fpS_of Tryz.underlying23 (by rfl) (by exact Tryz.underlying3) (by rfl) (by rfl) cs
theorem fa23_1 {id off : Nat} : fieldAddrPV Tryz.prog 23 (.ptr id off) 1 = some (.ptr id (off + 1)) := fa1_of Tryz.underlying23 (by rfl) (by exact Tryz.underlying3) (by exact cells3) (by rfl) (by rfl)
theorem fae23_1 {es i off : Nat} {l : List PV} : fieldAddrPV Tryz.prog 23 (.eptr es l i off) 1 = some (.eptr es l i (off + 1)) := fa2_of Tryz.underlying23 (by rfl) (by exact Tryz.underlying3) (by exact cells3) (by rfl) (by rfl)
theorem fp23_1 {cs : List PV} : fieldPV Tryz.prog 23 (.agg cs) 1 = cs[1]? := fpS_of Tryz.underlying23 (by rfl) (by exact Tryz.underlying3) (by rfl) (by rfl) cs
theorem fa23_2 {id off : Nat} : fieldAddrPV Tryz.prog 23 (.ptr id off) 2 = some (.ptr id (off + 2)) := fa1_of Tryz.underlying23 (by rfl) (by exact Tryz.underlying3) (by exact cells3) (by rfl) (by rfl)
theorem fae23_2 {es i off : Nat} {l : List PV} : fieldAddrPV Tryz.prog 23 (.eptr es l i off) 2 = some (.eptr es l i (off + 2)) := fa2_of Tryz.underlying23 (by rfl) (by exact Tryz.underlying3) (by exact cells3) (by rfl) (by rfl)
theorem fp23_2 {cs : List PV} : fieldPV Tryz.prog 23 (.agg cs) 2 = cs[2]? := fpS_of Tryz.underlying23 (by rfl) (by exact Tryz.underlying3) (by rfl) (by rfl) cs
theorem fa23_3 {id off : Nat} : fieldAddrPV Tryz.prog 23 (.ptr id off) 3 = some (.ptr id (off + 3)) := fa1_of Tryz.underlying23 (by rfl) (by exact Tryz.underlying3) (by exact cells3) (by rfl) (by rfl)
theorem fae23_3 {es i off : Nat} {l : List PV} : fieldAddrPV Tryz.prog 23 (.eptr es l i off) 3 = some (.eptr es l i (off + 3)) := fa2_of Tryz.underlying23 (by rfl) (by exact Tryz.underlying3) (by exact cells3) (by rfl) (by rfl)
theorem fp23_3 {cs : List PV} : fieldPV Tryz.prog 23 (.agg cs) 3 = cs[3]? := fpS_of Tryz.underlying23 (by rfl) (by exact Tryz.underlying3) (by rfl) (by rfl) cs
theorem fa23_4 {id off : Nat} : fieldAddrPV Tryz.prog 23 (.ptr id off) 4 = some (.ptr id (off + 4)) := fa1_of Tryz.underlying23 (by rfl) (by exact Tryz.underlying3) (by exact cells3) (by rfl) (by rfl)
theorem fae23_4 {es i off : Nat} {l : List PV} : fieldAddrPV Tryz.prog 23 (.eptr es l i off) 4 = some (.eptr es l i (off + 4)) := fa2_of Tryz.underlying23 (by rfl) (by exact Tryz.underlying3) (by exact cells3) (by rfl) (by rfl)
theorem fp23_4 {cs : List PV} : fieldPV Tryz.prog 23 (.agg cs) 4 = cs[4]? := fpS_of Tryz.underlying23 (by rfl) (by exact Tryz.underlying3) (by rfl) (by rfl) cs
theorem fa23_5 {id off : Nat} : fieldAddrPV Tryz.prog 23 (.ptr id off) 5 = some (.ptr id (off + 5)) := fa1_of Tryz.underlying23 (by rfl) (by exact Tryz.underlying3) (by exact cells3) (by rfl) (by rfl)
theorem fae23_5 {es i off : Nat} {l : List PV} : fieldAddrPV Tryz.prog 23 (.eptr es l i off) 5 = some (.eptr es l i (off + 5)) := fa2_of Tryz.underlying23 (by rfl) (by exact Tryz.underlying3) (by exact cells3) (by rfl) (by rfl)
theorem fp23_5 {cs : List PV} : fieldPV Tryz.prog 23 (.agg cs) 5 = cs[5]? := fpS_of Tryz.underlying23 (by rfl) (by exact Tryz.underlying3) (by rfl) (by rfl) cs
theorem fa23_6 {id off : Nat} : fieldAddrPV Tryz.prog 23 (.ptr id off) 6 = some (.ptr id (off + 6)) := fa1_of Tryz.underlying23 (by rfl) (by exact Tryz.underlying22) (by exact cells22) (by rfl) (by rfl)
theorem fae23_6 {es i off : Nat} {l : List PV} : fieldAddrPV Tryz.prog 23 (.eptr es l i off) 6 = some (.eptr es l i (off + 6)) := fa2_of Tryz.underlying23 (by rfl) (by exact Tryz.underlying22) (by exact cells22) (by rfl) (by rfl)
theorem fp23_6 {cs : List PV} : fieldPV Tryz.prog 23 (.agg cs) 6 = cs[6]? := fpS_of Tryz.underlying23 (by rfl) (by exact Tryz.underlying22) (by rfl) (by rfl) cs
theorem bld23 {parts : List (Nat × PV)} : buildPV Tryz.prog 23 parts = bldX [.int .i64 0, .int .i64 0, .int .i64 0, .int .i64 0, .int .i64 0, .int .i64 0, .isl [] .exact] [(0, 1), (1, 1), (2, 1), (3, 1), (4, 1), (5, 1), (6, 1)] parts := bldX_of zero23 Tryz.underlying23 (by kernel_rfl) (by kernel_rfl) parts
theorem lda24 {σ : Sg} {id off : Nat} : loadPV Tryz.prog σ 24 (.ptr id off) = ldA 7 σ id off := ldA_of Tryz.underlying24 rfl cells24
theorem ela24 {σ : Sg} {es i off : Nat} {l : List PV} : loadPV Tryz.prog σ 24 (.eptr es l i off) = elA 7 l i off := elA_of Tryz.underlying24 rfl cells24
theorem sto24 {σ : Sg} {id off : Nat} {p : PV} : storePV Tryz.prog σ 24 (.ptr id off) p = stX 7 σ id off p := stX_of Tryz.underlying24 cells24 p
theorem fa24_0 {id off : Nat} : fieldAddrPV Tryz.prog 24 (.ptr id off) 0 = some (.ptr id (off + 0)) := fa1_of Tryz.underlying24 (by rfl) (by exact Tryz.underlying3) (by exact cells3) (by rfl) (by rfl)
theorem fae24_0 {es i off : Nat} {l : List PV} : fieldAddrPV Tryz.prog 24 (.eptr es l i off) 0 = some (.eptr es l i (off + 0)) := fa2_of Tryz.underlying24 (by rfl) (by exact Tryz.underlying3) (by exact cells3) (by rfl) (by rfl)
theorem fp24_0 {cs : List PV} : fieldPV Tryz.prog 24 (.agg cs) 0 = cs[0]? := fpS_of Tryz.underlying24 (by rfl) (by exact Tryz.underlying3) (by rfl) (by rfl) cs
theorem fa24_1 {id off : Nat} : fieldAddrPV Tryz.prog 24 (.ptr id off) 1 = some (.ptr id (off + 1)) := fa1_of Tryz.underlying24 (by rfl) (by exact Tryz.underlying3) (by exact cells3) (by rfl) (by rfl)
theorem fae24_1 {es i off : Nat} {l : List PV} : fieldAddrPV Tryz.prog 24 (.eptr es l i off) 1 = some (.eptr es l i (off + 1)) := fa2_of Tryz.underlying24 (by rfl) (by exact Tryz.underlying3) (by exact cells3) (by rfl) (by rfl)
theorem fp24_1 {cs : List PV} : fieldPV Tryz.prog 24 (.agg cs) 1 = cs[1]? := fpS_of Tryz.underlying24 (by rfl) (by exact Tryz.underlying3) (by rfl) (by rfl) cs
theorem fa24_2 {id off : Nat} : fieldAddrPV Tryz.prog 24 (.ptr id off) 2 = some (.ptr id (off + 2)) := fa1_of Tryz.underlying24 (by rfl) (by exact Tryz.underlying3) (by exact cells3) (by rfl) (by rfl)
theorem fae24_2 {es i off : Nat} {l : List PV} : fieldAddrPV Tryz.prog 24 (.eptr es l i off) 2 = some (.eptr es l i (off + 2)) := fa2_of Tryz.underlying24 (by rfl) (by exact Tryz.underlying3) (by exact cells3) (by rfl) (by rfl)
theorem fp24_2 {cs : List PV} : fieldPV Tryz.prog 24 (.agg cs) 2 = cs[2]? := fpS_of Tryz.underlying24 (by rfl) (by exact Tryz.underlying3) (by rfl) (by rfl) cs
theorem fa24_3 {id off : Nat} : fieldAddrPV Tryz.prog 24 (.ptr id off) 3 = some (.ptr id (off + 3)) := fa1_of Tryz.underlying24 (by rfl) (by exact Tryz.underlying3) (by exact cells3) (by rfl) (by rfl)
theorem fae24_3 {es i off : Nat} {l : List PV} : fieldAddrPV Tryz.prog 24 (.eptr es l i off) 3 = some (.eptr es l i (off + 3)) := fa2_of Tryz.underlying24 (by rfl) (by exact Tryz.underlying3) (by exact cells3) (by rfl) (by rfl)
theorem fp24_3 {cs : List PV} : fieldPV Tryz.prog 24 (.agg cs) 3 = cs[3]? := fpS_of Tryz.underlying24 (by rfl) (by exact Tryz.underlying3) (by rfl) (by rfl) cs
theorem fa24_4 {id off : Nat} : fieldAddrPV Tryz.prog 24 (.ptr id off) 4 = some (.ptr id (off + 4)) := fa1_of Tryz.underlying24 (by rfl) (by exact Tryz.underlying3) (by exact cells3) (by rfl) (by rfl)
theorem fae24_4 {es i off : Nat} {l : List PV} : fieldAddrPV Tryz.prog 24 (.eptr es l i off) 4 = some (.eptr es l i (off + 4)) := fa2_of Tryz.underlying24 (by rfl) (by exact Tryz.underlying3) (by exact cells3) (by rfl) (by rfl)
theorem fp24_4 {cs : List PV} : fieldPV Tryz.prog 24 (.agg cs) 4 = cs[4]? := fpS_of Tryz.underlying24 (by rfl) (by exact Tryz.underlying3) (by rfl) (by rfl) cs
theorem fa24_5 {id off : Nat} : fieldAddrPV Tryz.prog 24 (.ptr id off) 5 = some (.ptr id (off + 5)) := fa1_of Tryz.underlying24 (by rfl) (by exact Tryz.underlying3) (by exact cells3) (by rfl) (by rfl)
theorem fae24_5 {es i off : Nat} {l : List PV} : fieldAddrPV Tryz.prog 24 (.eptr es l i off) 5 = some (.eptr es l i (off + 5)) := fa2_of Tryz.underlying24 (by rfl) (by exact Tryz.underlying3) (by exact cells3) (by rfl) (by rfl)
theorem fp24_5 {cs : List PV} : fieldPV Tryz.prog 24 (.agg cs) 5 = cs[5]? := fpS_of Tryz.underlying24 (by rfl) (by exact Tryz.underlying3) (by rfl) (by rfl) cs
theorem fa24_6 {id off : Nat} : fieldAddrPV Tryz.prog 24 (.ptr id off) 6 = some (.ptr id (off + 6)) := fa1_of Tryz.underlying24 (by rfl) (by exact Tryz.underlying22) (by exact cells22) (by rfl) (by rfl)
theorem fae24_6 {es i off : Nat} {l : List PV} : fieldAddrPV Tryz.prog 24 (.eptr es l i off) 6 = some (.eptr es l i (off + 6)) := fa2_of Tryz.underlying24 (by rfl) (by exact Tryz.underlying22) (by exact cells22) (by rfl) (by rfl)
theorem fp24_6 {cs : List PV} : fieldPV Tryz.prog 24 (.agg cs) 6 = cs[6]? := fpS_of Tryz.underlying24 (by rfl) (by exact Tryz.underlying22) (by rfl) (by rfl) cs
theorem bld24 {parts : List (Nat × PV)} : buildPV Tryz.prog 24 parts = bldX [.int .i64 0, .int .i64 0, .int .i64 0, .int .i64 0, .int .i64 0, .int .i64 0, .isl [] .exact] [(0, 1), (1, 1), (2, 1), (3, 1), (4, 1), (5, 1), (6, 1)] parts := bldX_of zero24 Tryz.underlying24 (by kernel_rfl) (by kernel_rfl) parts
theorem lda25 {σ : Sg} {id off : Nat} : loadPV Tryz.prog σ 25 (.ptr id off) = ldS σ id off := ldS_of Tryz.underlying25 rfl
theorem ela25 {σ : Sg} {es i off : Nat} {l : List PV} : loadPV Tryz.prog σ 25 (.eptr es l i off) = elS l i off := elS_of Tryz.underlying25 rfl
theorem sto25 {σ : Sg} {id off : Nat} {p : PV} : storePV Tryz.prog σ 25 (.ptr id off) p = stX 1 σ id off p := stX_of Tryz.underlying25 cells25 p
theorem ia25 {l : List PV} {own : Own} {k : IntKind} {i : Int} : indexAddrPV Tryz.prog 25 (.isl l own) (.int k i) = iaX 4 l i := iaX_of Tryz.underlying25 Tryz.underlying51 cells51 k i
theorem iam25 {id off len : Nat} {k : IntKind} {i : Int} : indexAddrPV Tryz.prog 25 (.msl id off len) (.int k i) = iaM 4 id off len i := iaM_of Tryz.underlying25 Tryz.underlying51 cells51 k len i
theorem len25 {l : List PV} {own : Own} : lenPV Tryz.prog 25 (.isl l own) = some (.int .i64 l.length) := len_of Tryz.underlying25
theorem lenm25 {id off n : Nat} : lenPV Tryz.prog 25 (.msl id off n) = some (.int .i64 n) := lenM_of Tryz.underlying25 n
theorem bs25 {len : Nat} {parts : List (Nat × PV)} : buildSlicePV Tryz.prog 25 len parts = bsX 4 len parts := bsX_of Tryz.underlying25 Tryz.underlying51 cells51 zero51 len parts
theorem app25 {σ : Sg} {l m : List PV} {own own' : Own} : appendPV Tryz.prog σ 25 25 (.isl l own) (.isl m own') = appX 4 48 σ l own m := appX_of Tryz.underlying25 Tryz.underlying51 cells51 bytes51 (by decide) (by decide) zero51 rfl
theorem lda26 {σ : Sg} {id off : Nat} : loadPV Tryz.prog σ 26 (.ptr id off) = ldS σ id off := ldS_of Tryz.underlying26 rfl
theorem ela26 {σ : Sg} {es i off : Nat} {l : List PV} : loadPV Tryz.prog σ 26 (.eptr es l i off) = elS l i off := elS_of Tryz.underlying26 rfl
theorem sto26 {σ : Sg} {id off : Nat} {p : PV} : storePV Tryz.prog σ 26 (.ptr id off) p = stX 1 σ id off p := stX_of Tryz.underlying26 cells26 p
theorem ia26 {l : List PV} {own : Own} {k : IntKind} {i : Int} : indexAddrPV Tryz.prog 26 (.isl l own) (.int k i) = iaX 2 l i := iaX_of Tryz.underlying26 Tryz.underlying94 cells94 k i
theorem iam26 {id off len : Nat} {k : IntKind} {i : Int} : indexAddrPV Tryz.prog 26 (.msl id off len) (.int k i) = iaM 2 id off len i := iaM_of Tryz.underlying26 Tryz.underlying94 cells94 k len i
theorem len26 {l : List PV} {own : Own} : lenPV Tryz.prog 26 (.isl l own) = some (.int .i64 l.length) := len_of Tryz.underlying26
theorem lenm26 {id off n : Nat} : lenPV Tryz.prog 26 (.msl id off n) = some (.int .i64 n) := lenM_of Tryz.underlying26 n
theorem bs26 {len : Nat} {parts : List (Nat × PV)} : buildSlicePV Tryz.prog 26 len parts = bsX 2 len parts := bsX_of Tryz.underlying26 Tryz.underlying94 cells94 zero94 len parts
theorem app26 {σ : Sg} {l m : List PV} {own own' : Own} : appendPV Tryz.prog σ 26 26 (.isl l own) (.isl m own') = appX 2 16 σ l own m := appX_of Tryz.underlying26 Tryz.underlying94 cells94 bytes94 (by decide) (by decide) zero94 rfl
theorem lda27 {σ : Sg} {id off : Nat} : loadPV Tryz.prog σ 27 (.ptr id off) = ldS σ id off := ldS_of Tryz.underlying27 rfl
theorem ela27 {σ : Sg} {es i off : Nat} {l : List PV} : loadPV Tryz.prog σ 27 (.eptr es l i off) = elS l i off := elS_of Tryz.underlying27 rfl
theorem sto27 {σ : Sg} {id off : Nat} {p : PV} : storePV Tryz.prog σ 27 (.ptr id off) p = stX 1 σ id off p := stX_of Tryz.underlying27 cells27 p
theorem ia27 {l : List PV} {own : Own} {k : IntKind} {i : Int} : indexAddrPV Tryz.prog 27 (.isl l own) (.int k i) = iaX 2 l i := iaX_of Tryz.underlying27 Tryz.underlying97 cells97 k i
theorem iam27 {id off len : Nat} {k : IntKind} {i : Int} : indexAddrPV Tryz.prog 27 (.msl id off len) (.int k i) = iaM 2 id off len i := iaM_of Tryz.underlying27 Tryz.underlying97 cells97 k len i
theorem len27 {l : List PV} {own : Own} : lenPV Tryz.prog 27 (.isl l own) = some (.int .i64 l.length) := len_of Tryz.underlying27
theorem lenm27 {id off n : Nat} : lenPV Tryz.prog 27 (.msl id off n) = some (.int .i64 n) := lenM_of Tryz.underlying27 n
theorem bs27 {len : Nat} {parts : List (Nat × PV)} : buildSlicePV Tryz.prog 27 len parts = bsX 2 len parts := bsX_of Tryz.underlying27 Tryz.underlying97 cells97 zero97 len parts
theorem app27 {σ : Sg} {l m : List PV} {own own' : Own} : appendPV Tryz.prog σ 27 27 (.isl l own) (.isl m own') = appX 2 16 σ l own m := appX_of Tryz.underlying27 Tryz.underlying97 cells97 bytes97 (by decide) (by decide) zero97 rfl
theorem lda28 {σ : Sg} {id off : Nat} : loadPV Tryz.prog σ 28 (.ptr id off) = ldA 3 σ id off := ldA_of Tryz.underlying28 rfl cells28
theorem ela28 {σ : Sg} {es i off : Nat} {l : List PV} : loadPV Tryz.prog σ 28 (.eptr es l i off) = elA 3 l i off := elA_of Tryz.underlying28 rfl cells28
theorem sto28 {σ : Sg} {id off : Nat} {p : PV} : storePV Tryz.prog σ 28 (.ptr id off) p = stX 3 σ id off p := stX_of Tryz.underlying28 cells28 p
theorem fa28_0 {id off : Nat} : fieldAddrPV Tryz.prog 28 (.ptr id off) 0 = some (.ptr id (off + 0)) := fa1_of Tryz.underlying28 (by rfl) (by exact Tryz.underlying25) (by exact cells25) (by rfl) (by rfl)
theorem fae28_0 {es i off : Nat} {l : List PV} : fieldAddrPV Tryz.prog 28 (.eptr es l i off) 0 = some (.eptr es l i (off + 0)) := fa2_of Tryz.underlying28 (by rfl) (by exact Tryz.underlying25) (by exact cells25) (by rfl) (by rfl)
theorem fp28_0 {cs : List PV} : fieldPV Tryz.prog 28 (.agg cs) 0 = cs[0]? := fpS_of Tryz.underlying28 (by rfl) (by exact Tryz.underlying25) (by rfl) (by rfl) cs
theorem fa28_1 {id off : Nat} : fieldAddrPV Tryz.prog 28 (.ptr id off) 1 = some (.ptr id (off + 1)) := fa1_of Tryz.underlying28 (by rfl) (by exact Tryz.underlying26) (by exact cells26) (by rfl) (by rfl)
theorem fae28_1 {es i off : Nat} {l : List PV} : fieldAddrPV Tryz.prog 28 (.eptr es l i off) 1 = some (.eptr es l i (off + 1)) := fa2_of Tryz.underlying28 (by rfl) (by exact Tryz.underlying26) (by exact cells26) (by rfl) (by rfl)
theorem fp28_1 {cs : List PV} : fieldPV Tryz.prog 28 (.agg cs) 1 = cs[1]? := fpS_of Tryz.underlying28 (by rfl) (by exact Tryz.underlying26) (by rfl) (by rfl) cs
theorem fa28_2 {id off : Nat} : fieldAddrPV Tryz.prog 28 (.ptr id off) 2 = some (.ptr id (off + 2)) := fa1_of Tryz.underlying28 (by rfl) (by exact Tryz.underlying27) (by exact cells27) (by rfl) (by rfl)
theorem fae28_2 {es i off : Nat} {l : List PV} : fieldAddrPV Tryz.prog 28 (.eptr es l i off) 2 = some (.eptr es l i (off + 2)) := fa2_of Tryz.underlying28 (by rfl) (by exact Tryz.underlying27) (by exact cells27) (by rfl) (by rfl)
theorem fp28_2 {cs : List PV} : fieldPV Tryz.prog 28 (.agg cs) 2 = cs[2]? := fpS_of Tryz.underlying28 (by rfl) (by exact Tryz.underlying27) (by rfl) (by rfl) cs
theorem bld28 {parts : List (Nat × PV)} : buildPV Tryz.prog 28 parts = bldX [.isl [] .exact, .isl [] .exact, .isl [] .exact] [(0, 1), (1, 1), (2, 1)] parts := bldX_of zero28 Tryz.underlying28 (by kernel_rfl) (by kernel_rfl) parts
theorem lda29 {σ : Sg} {id off : Nat} : loadPV Tryz.prog σ 29 (.ptr id off) = ldA 3 σ id off := ldA_of Tryz.underlying29 rfl cells29
theorem ela29 {σ : Sg} {es i off : Nat} {l : List PV} : loadPV Tryz.prog σ 29 (.eptr es l i off) = elA 3 l i off := elA_of Tryz.underlying29 rfl cells29
theorem sto29 {σ : Sg} {id off : Nat} {p : PV} : storePV Tryz.prog σ 29 (.ptr id off) p = stX 3 σ id off p := stX_of Tryz.underlying29 cells29 p
theorem fa29_0 {id off : Nat} : fieldAddrPV Tryz.prog 29 (.ptr id off) 0 = some (.ptr id (off + 0)) := fa1_of Tryz.underlying29 (by rfl) (by exact Tryz.underlying25) (by exact cells25) (by rfl) (by rfl)
theorem fae29_0 {es i off : Nat} {l : List PV} : fieldAddrPV Tryz.prog 29 (.eptr es l i off) 0 = some (.eptr es l i (off + 0)) := fa2_of Tryz.underlying29 (by rfl) (by exact Tryz.underlying25) (by exact cells25) (by rfl) (by rfl)
theorem fp29_0 {cs : List PV} : fieldPV Tryz.prog 29 (.agg cs) 0 = cs[0]? := fpS_of Tryz.underlying29 (by rfl) (by exact Tryz.underlying25) (by rfl) (by rfl) cs
theorem fa29_1 {id off : Nat} : fieldAddrPV Tryz.prog 29 (.ptr id off) 1 = some (.ptr id (off + 1)) := fa1_of Tryz.underlying29 (by rfl) (by exact Tryz.underlying26) (by exact cells26) (by rfl) (by rfl)
theorem fae29_1 {es i off : Nat} {l : List PV} : fieldAddrPV Tryz.prog 29 (.eptr es l i off) 1 = some (.eptr es l i (off + 1)) := fa2_of Tryz.underlying29 (by rfl) (by exact Tryz.underlying26) (by exact cells26) (by rfl) (by rfl)
theorem fp29_1 {cs : List PV} : fieldPV Tryz.prog 29 (.agg cs) 1 = cs[1]? := fpS_of Tryz.underlying29 (by rfl) (by exact Tryz.underlying26) (by rfl) (by rfl) cs
theorem fa29_2 {id off : Nat} : fieldAddrPV Tryz.prog 29 (.ptr id off) 2 = some (.ptr id (off + 2)) := fa1_of Tryz.underlying29 (by rfl) (by exact Tryz.underlying27) (by exact cells27) (by rfl) (by rfl)
theorem fae29_2 {es i off : Nat} {l : List PV} : fieldAddrPV Tryz.prog 29 (.eptr es l i off) 2 = some (.eptr es l i (off + 2)) := fa2_of Tryz.underlying29 (by rfl) (by exact Tryz.underlying27) (by exact cells27) (by rfl) (by rfl)
theorem fp29_2 {cs : List PV} : fieldPV Tryz.prog 29 (.agg cs) 2 = cs[2]? := fpS_of Tryz.underlying29 (by rfl) (by exact Tryz.underlying27) (by rfl) (by rfl) cs
theorem bld29 {parts : List (Nat × PV)} : buildPV Tryz.prog 29 parts = bldX [.isl [] .exact, .isl [] .exact, .isl [] .exact] [(0, 1), (1, 1), (2, 1)] parts := bldX_of zero29 Tryz.underlying29 (by kernel_rfl) (by kernel_rfl) parts
theorem lda32 {σ : Sg} {id off : Nat} : loadPV Tryz.prog σ 32 (.ptr id off) = ldS σ id off := ldS_of Tryz.underlying32 rfl
theorem ela32 {σ : Sg} {es i off : Nat} {l : List PV} : loadPV Tryz.prog σ 32 (.eptr es l i off) = elS l i off := elS_of Tryz.underlying32 rfl
theorem sto32 {σ : Sg} {id off : Nat} {p : PV} : storePV Tryz.prog σ 32 (.ptr id off) p = stX 1 σ id off p := stX_of Tryz.underlying32 cells32 p
theorem lda35 {σ : Sg} {id off : Nat} : loadPV Tryz.prog σ 35 (.ptr id off) = ldS σ id off := ldS_of Tryz.underlying35 rfl
theorem ela35 {σ : Sg} {es i off : Nat} {l : List PV} : loadPV Tryz.prog σ 35 (.eptr es l i off) = elS l i off := elS_of Tryz.underlying35 rfl
theorem sto35 {σ : Sg} {id off : Nat} {p : PV} : storePV Tryz.prog σ 35 (.ptr id off) p = stX 1 σ id off p := stX_of Tryz.underlying35 cells35 p
theorem ia35 {l : List PV} {own : Own} {k : IntKind} {i : Int} : indexAddrPV Tryz.prog 35 (.isl l own) (.int k i) = iaX 7 l i := iaX_of Tryz.underlying35 Tryz.underlying24 cells24 k i
theorem iam35 {id off len : Nat} {k : IntKind} {i : Int} : indexAddrPV Tryz.prog 35 (.msl id off len) (.int k i) = iaM 7 id off len i := iaM_of Tryz.underlying35 Tryz.underlying24 cells24 k len i
theorem len35 {l : List PV} {own : Own} : lenPV Tryz.prog 35 (.isl l own) = some (.int .i64 l.length) := len_of Tryz.underlying35
theorem lenm35 {id off n : Nat} : lenPV Tryz.prog 35 (.msl id off n) = some (.int .i64 n) := lenM_of Tryz.underlying35 n
theorem bs35 {len : Nat} {parts : List (Nat × PV)} : buildSlicePV Tryz.prog 35 len parts = bsX 7 len parts := bsX_of Tryz.underlying35 Tryz.underlying24 cells24 zero24 len parts
theorem app35 {σ : Sg} {l m : List PV} {own own' : Own} : appendPV Tryz.prog σ 35 35 (.isl l own) (.isl m own') = appX 7 72 σ l own m := appX_of Tryz.underlying35 Tryz.underlying24 cells24 bytes24 (by decide) (by decide) zero24 rfl
theorem lda38 {σ : Sg} {id off : Nat} : loadPV Tryz.prog σ 38 (.ptr id off) = ldS σ id off := ldS_of Tryz.underlying38 rfl
theorem ela38 {σ : Sg} {es i off : Nat} {l : List PV} : loadPV Tryz.prog σ 38 (.eptr es l i off) = elS l i off := elS_of Tryz.underlying38 rfl
theorem sto38 {σ : Sg} {id off : Nat} {p : PV} : storePV Tryz.prog σ 38 (.ptr id off) p = stX 1 σ id off p := stX_of Tryz.underlying38 cells38 p
theorem ia38 {l : List PV} {own : Own} {k : IntKind} {i : Int} : indexAddrPV Tryz.prog 38 (.isl l own) (.int k i) = iaX 3 l i := iaX_of Tryz.underlying38 Tryz.underlying29 cells29 k i
theorem iam38 {id off len : Nat} {k : IntKind} {i : Int} : indexAddrPV Tryz.prog 38 (.msl id off len) (.int k i) = iaM 3 id off len i := iaM_of Tryz.underlying38 Tryz.underlying29 cells29 k len i
theorem len38 {l : List PV} {own : Own} : lenPV Tryz.prog 38 (.isl l own) = some (.int .i64 l.length) := len_of Tryz.underlying38
theorem lenm38 {id off n : Nat} : lenPV Tryz.prog 38 (.msl id off n) = some (.int .i64 n) := lenM_of Tryz.underlying38 n
theorem bs38 {len : Nat} {parts : List (Nat × PV)} : buildSlicePV Tryz.prog 38 len parts = bsX 3 len parts := bsX_of Tryz.underlying38 Tryz.underlying29 cells29 zero29 len parts
theorem app38 {σ : Sg} {l m : List PV} {own own' : Own} : appendPV Tryz.prog σ 38 38 (.isl l own) (.isl m own') = appX 3 72 σ l own m := appX_of Tryz.underlying38 Tryz.underlying29 cells29 bytes29 (by decide) (by decide) zero29 rfl
theorem lda41 {σ : Sg} {id off : Nat} : loadPV Tryz.prog σ 41 (.ptr id off) = ldS σ id off := ldS_of Tryz.underlying41 rfl
theorem ela41 {σ : Sg} {es i off : Nat} {l : List PV} : loadPV Tryz.prog σ 41 (.eptr es l i off) = elS l i off := elS_of Tryz.underlying41 rfl
theorem sto41 {σ : Sg} {id off : Nat} {p : PV} : storePV Tryz.prog σ 41 (.ptr id off) p = stX 1 σ id off p := stX_of Tryz.underlying41 cells41 p
theorem ia41 {l : List PV} {own : Own} {k : IntKind} {i : Int} : indexAddrPV Tryz.prog 41 (.isl l own) (.int k i) = iaX 3 l i := iaX_of Tryz.underlying41 Tryz.underlying55 cells55 k i
theorem iam41 {id off len : Nat} {k : IntKind} {i : Int} : indexAddrPV Tryz.prog 41 (.msl id off len) (.int k i) = iaM 3 id off len i := iaM_of Tryz.underlying41 Tryz.underlying55 cells55 k len i
theorem len41 {l : List PV} {own : Own} : lenPV Tryz.prog 41 (.isl l own) = some (.int .i64 l.length) := len_of Tryz.underlying41
theorem lenm41 {id off n : Nat} : lenPV Tryz.prog 41 (.msl id off n) = some (.int .i64 n) := lenM_of Tryz.underlying41 n
theorem bs41 {len : Nat} {parts : List (Nat × PV)} : buildSlicePV Tryz.prog 41 len parts = bsX 3 len parts := bsX_of Tryz.underlying41 Tryz.underlying55 cells55 zero55 len parts
theorem app41 {σ : Sg} {l m : List PV} {own own' : Own} : appendPV Tryz.prog σ 41 41 (.isl l own) (.isl m own') = appX 3 40 σ l own m := appX_of Tryz.underlying41 Tryz.underlying55 cells55 bytes55 (by decide) (by decide) zero55 rfl
theorem lda42 {σ : Sg} {id off : Nat} : loadPV Tryz.prog σ 42 (.ptr id off) = ldS σ id off := ldS_of Tryz.underlying42 rfl
theorem ela42 {σ : Sg} {es i off : Nat} {l : List PV} : loadPV Tryz.prog σ 42 (.eptr es l i off) = elS l i off := elS_of Tryz.underlying42 rfl
theorem sto42 {σ : Sg} {id off : Nat} {p : PV} : storePV Tryz.prog σ 42 (.ptr id off) p = stX 1 σ id off p := stX_of Tryz.underlying42 cells42 p
theorem lda50 {σ : Sg} {id off : Nat} : loadPV Tryz.prog σ 50 (.ptr id off) = ldA 4 σ id off := ldA_of Tryz.underlying50 rfl cells50
theorem ela50 {σ : Sg} {es i off : Nat} {l : List PV} : loadPV Tryz.prog σ 50 (.eptr es l i off) = elA 4 l i off := elA_of Tryz.underlying50 rfl cells50
theorem sto50 {σ : Sg} {id off : Nat} {p : PV} : storePV Tryz.prog σ 50 (.ptr id off) p = stX 4 σ id off p := stX_of Tryz.underlying50 cells50 p
theorem fa50_0 {id off : Nat} : fieldAddrPV Tryz.prog 50 (.ptr id off) 0 = some (.ptr id (off + 0)) := fa1_of Tryz.underlying50 (by rfl) (by exact Tryz.underlying3) (by exact cells3) (by rfl) (by rfl)
theorem fae50_0 {es i off : Nat} {l : List PV} : fieldAddrPV Tryz.prog 50 (.eptr es l i off) 0 = some (.eptr es l i (off + 0)) := fa2_of Tryz.underlying50 (by rfl) (by exact Tryz.underlying3) (by exact cells3) (by rfl) (by rfl)
theorem fp50_0 {cs : List PV} : fieldPV Tryz.prog 50 (.agg cs) 0 = cs[0]? := fpS_of Tryz.underlying50 (by rfl) (by exact Tryz.underlying3) (by rfl) (by rfl) cs
theorem fa50_1 {id off : Nat} : fieldAddrPV Tryz.prog 50 (.ptr id off) 1 = some (.ptr id (off + 1)) := fa1_of Tryz.underlying50 (by rfl) (by exact Tryz.underlying3) (by exact cells3) (by rfl) (by rfl)
theorem fae50_1 {es i off : Nat} {l : List PV} : fieldAddrPV Tryz.prog 50 (.eptr es l i off) 1 = some (.eptr es l i (off + 1)) := fa2_of Tryz.underlying50 (by rfl) (by exact Tryz.underlying3) (by exact cells3) (by rfl) (by rfl)
theorem fp50_1 {cs : List PV} : fieldPV Tryz.prog 50 (.agg cs) 1 = cs[1]? := fpS_of Tryz.underlying50 (by rfl) (by exact Tryz.underlying3) (by rfl) (by rfl) cs
theorem fa50_2 {id off : Nat} : fieldAddrPV Tryz.prog 50 (.ptr id off) 2 = some (.ptr id (off + 2)) := fa1_of Tryz.underlying50 (by rfl) (by exact Tryz.underlying22) (by exact cells22) (by rfl) (by rfl)
theorem fae50_2 {es i off : Nat} {l : List PV} : fieldAddrPV Tryz.prog 50 (.eptr es l i off) 2 = some (.eptr es l i (off + 2)) := fa2_of Tryz.underlying50 (by rfl) (by exact Tryz.underlying22) (by exact cells22) (by rfl) (by rfl)
theorem fp50_2 {cs : List PV} : fieldPV Tryz.prog 50 (.agg cs) 2 = cs[2]? := fpS_of Tryz.underlying50 (by rfl) (by exact Tryz.underlying22) (by rfl) (by rfl) cs
theorem fa50_3 {id off : Nat} : fieldAddrPV Tryz.prog 50 (.ptr id off) 3 = some (.ptr id (off + 3)) := fa1_of Tryz.underlying50 (by rfl) (by exact Tryz.underlying3) (by exact cells3) (by rfl) (by rfl)
theorem fae50_3 {es i off : Nat} {l : List PV} : fieldAddrPV Tryz.prog 50 (.eptr es l i off) 3 = some (.eptr es l i (off + 3)) := fa2_of Tryz.underlying50 (by rfl) (by exact Tryz.underlying3) (by exact cells3) (by rfl) (by rfl)
theorem fp50_3 {cs : List PV} : fieldPV Tryz.prog 50 (.agg cs) 3 = cs[3]? := fpS_of Tryz.underlying50 (by rfl) (by exact Tryz.underlying3) (by rfl) (by rfl) cs
theorem bld50 {parts : List (Nat × PV)} : buildPV Tryz.prog 50 parts = bldX [.int .i64 0, .int .i64 0, .isl [] .exact, .int .i64 0] [(0, 1), (1, 1), (2, 1), (3, 1)] parts := bldX_of zero50 Tryz.underlying50 (by kernel_rfl) (by kernel_rfl) parts
theorem lda51 {σ : Sg} {id off : Nat} : loadPV Tryz.prog σ 51 (.ptr id off) = ldA 4 σ id off := ldA_of Tryz.underlying51 rfl cells51
theorem ela51 {σ : Sg} {es i off : Nat} {l : List PV} : loadPV Tryz.prog σ 51 (.eptr es l i off) = elA 4 l i off := elA_of Tryz.underlying51 rfl cells51
theorem sto51 {σ : Sg} {id off : Nat} {p : PV} : storePV Tryz.prog σ 51 (.ptr id off) p = stX 4 σ id off p := stX_of Tryz.underlying51 cells51 p
theorem fa51_0 {id off : Nat} : fieldAddrPV Tryz.prog 51 (.ptr id off) 0 = some (.ptr id (off + 0)) := fa1_of Tryz.underlying51 (by rfl) (by exact Tryz.underlying3) (by exact cells3) (by rfl) (by rfl)
theorem fae51_0 {es i off : Nat} {l : List PV} : fieldAddrPV Tryz.prog 51 (.eptr es l i off) 0 = some (.eptr es l i (off + 0)) := fa2_of Tryz.underlying51 (by rfl) (by exact Tryz.underlying3) (by exact cells3) (by rfl) (by rfl)
theorem fp51_0 {cs : List PV} : fieldPV Tryz.prog 51 (.agg cs) 0 = cs[0]? := fpS_of Tryz.underlying51 (by rfl) (by exact Tryz.underlying3) (by rfl) (by rfl) cs
theorem fa51_1 {id off : Nat} : fieldAddrPV Tryz.prog 51 (.ptr id off) 1 = some (.ptr id (off + 1)) := fa1_of Tryz.underlying51 (by rfl) (by exact Tryz.underlying3) (by exact cells3) (by rfl) (by rfl)
theorem fae51_1 {es i off : Nat} {l : List PV} : fieldAddrPV Tryz.prog 51 (.eptr es l i off) 1 = some (.eptr es l i (off + 1)) := fa2_of Tryz.underlying51 (by rfl) (by exact Tryz.underlying3) (by exact cells3) (by rfl) (by rfl)
theorem fp51_1 {cs : List PV} : fieldPV Tryz.prog 51 (.agg cs) 1 = cs[1]? := fpS_of Tryz.underlying51 (by rfl) (by exact Tryz.underlying3) (by rfl) (by rfl) cs
theorem fa51_2 {id off : Nat} : fieldAddrPV Tryz.prog 51 (.ptr id off) 2 = some (.ptr id (off + 2)) := fa1_of Tryz.underlying51 (by rfl) (by exact Tryz.underlying22) (by exact cells22) (by rfl) (by rfl)
theorem fae51_2 {es i off : Nat} {l : List PV} : fieldAddrPV Tryz.prog 51 (.eptr es l i off) 2 = some (.eptr es l i (off + 2)) := fa2_of Tryz.underlying51 (by rfl) (by exact Tryz.underlying22) (by exact cells22) (by rfl) (by rfl)
theorem fp51_2 {cs : List PV} : fieldPV Tryz.prog 51 (.agg cs) 2 = cs[2]? := fpS_of Tryz.underlying51 (by rfl) (by exact Tryz.underlying22) (by rfl) (by rfl) cs
theorem fa51_3 {id off : Nat} : fieldAddrPV Tryz.prog 51 (.ptr id off) 3 = some (.ptr id (off + 3)) := fa1_of Tryz.underlying51 (by rfl) (by exact Tryz.underlying3) (by exact cells3) (by rfl) (by rfl)
theorem fae51_3 {es i off : Nat} {l : List PV} : fieldAddrPV Tryz.prog 51 (.eptr es l i off) 3 = some (.eptr es l i (off + 3)) := fa2_of Tryz.underlying51 (by rfl) (by exact Tryz.underlying3) (by exact cells3) (by rfl) (by rfl)
theorem fp51_3 {cs : List PV} : fieldPV Tryz.prog 51 (.agg cs) 3 = cs[3]? := fpS_of Tryz.underlying51 (by rfl) (by exact Tryz.underlying3) (by rfl) (by rfl) cs
theorem bld51 {parts : List (Nat × PV)} : buildPV Tryz.prog 51 parts = bldX [.int .i64 0, .int .i64 0, .isl [] .exact, .int .i64 0] [(0, 1), (1, 1), (2, 1), (3, 1)] parts := bldX_of zero51 Tryz.underlying51 (by kernel_rfl) (by kernel_rfl) parts
theorem lda54 {σ : Sg} {id off : Nat} : loadPV Tryz.prog σ 54 (.ptr id off) = ldA 3 σ id off := ldA_of Tryz.underlying54 rfl cells54
theorem ela54 {σ : Sg} {es i off : Nat} {l : List PV} : loadPV Tryz.prog σ 54 (.eptr es l i off) = elA 3 l i off := elA_of Tryz.underlying54 rfl cells54
theorem sto54 {σ : Sg} {id off : Nat} {p : PV} : storePV Tryz.prog σ 54 (.ptr id off) p = stX 3 σ id off p := stX_of Tryz.underlying54 cells54 p
theorem fa54_0 {id off : Nat} : fieldAddrPV Tryz.prog 54 (.ptr id off) 0 = some (.ptr id (off + 0)) := fa1_of Tryz.underlying54 (by rfl) (by exact Tryz.underlying3) (by exact cells3) (by rfl) (by rfl)
theorem fae54_0 {es i off : Nat} {l : List PV} : fieldAddrPV Tryz.prog 54 (.eptr es l i off) 0 = some (.eptr es l i (off + 0)) := fa2_of Tryz.underlying54 (by rfl) (by exact Tryz.underlying3) (by exact cells3) (by rfl) (by rfl)
theorem fp54_0 {cs : List PV} : fieldPV Tryz.prog 54 (.agg cs) 0 = cs[0]? := fpS_of Tryz.underlying54 (by rfl) (by exact Tryz.underlying3) (by rfl) (by rfl) cs
theorem fa54_1 {id off : Nat} : fieldAddrPV Tryz.prog 54 (.ptr id off) 1 = some (.ptr id (off + 1)) := fa1_of Tryz.underlying54 (by rfl) (by exact Tryz.underlying3) (by exact cells3) (by rfl) (by rfl)
theorem fae54_1 {es i off : Nat} {l : List PV} : fieldAddrPV Tryz.prog 54 (.eptr es l i off) 1 = some (.eptr es l i (off + 1)) := fa2_of Tryz.underlying54 (by rfl) (by exact Tryz.underlying3) (by exact cells3) (by rfl) (by rfl)
theorem fp54_1 {cs : List PV} : fieldPV Tryz.prog 54 (.agg cs) 1 = cs[1]? := fpS_of Tryz.underlying54 (by rfl) (by exact Tryz.underlying3) (by rfl) (by rfl) cs
theorem fa54_2 {id off : Nat} : fieldAddrPV Tryz.prog 54 (.ptr id off) 2 = some (.ptr id (off + 2)) := fa1_of Tryz.underlying54 (by rfl) (by exact Tryz.underlying22) (by exact cells22) (by rfl) (by rfl)
theorem fae54_2 {es i off : Nat} {l : List PV} : fieldAddrPV Tryz.prog 54 (.eptr es l i off) 2 = some (.eptr es l i (off + 2)) := fa2_of Tryz.underlying54 (by rfl) (by exact Tryz.underlying22) (by exact cells22) (by rfl) (by rfl)
theorem fp54_2 {cs : List PV} : fieldPV Tryz.prog 54 (.agg cs) 2 = cs[2]? := fpS_of Tryz.underlying54 (by rfl) (by exact Tryz.underlying22) (by rfl) (by rfl) cs
theorem bld54 {parts : List (Nat × PV)} : buildPV Tryz.prog 54 parts = bldX [.int .i64 0, .int .i64 0, .isl [] .exact] [(0, 1), (1, 1), (2, 1)] parts := bldX_of zero54 Tryz.underlying54 (by kernel_rfl) (by kernel_rfl) parts
theorem lda55 {σ : Sg} {id off : Nat} : loadPV Tryz.prog σ 55 (.ptr id off) = ldA 3 σ id off := ldA_of Tryz.underlying55 rfl cells55
theorem ela55 {σ : Sg} {es i off : Nat} {l : List PV} : loadPV Tryz.prog σ 55 (.eptr es l i off) = elA 3 l i off := elA_of Tryz.underlying55 rfl cells55
theorem sto55 {σ : Sg} {id off : Nat} {p : PV} : storePV Tryz.prog σ 55 (.ptr id off) p = stX 3 σ id off p := stX_of Tryz.underlying55 cells55 p
theorem fa55_0 {id off : Nat} : fieldAddrPV Tryz.prog 55 (.ptr id off) 0 = some (.ptr id (off + 0)) := fa1_of Tryz.underlying55 (by rfl) (by exact Tryz.underlying3) (by exact cells3) (by rfl) (by rfl)
theorem fae55_0 {es i off : Nat} {l : List PV} : fieldAddrPV Tryz.prog 55 (.eptr es l i off) 0 = some (.eptr es l i (off + 0)) := fa2_of Tryz.underlying55 (by rfl) (by exact Tryz.underlying3) (by exact cells3) (by rfl) (by rfl)
theorem fp55_0 {cs : List PV} : fieldPV Tryz.prog 55 (.agg cs) 0 = cs[0]? := fpS_of Tryz.underlying55 (by rfl) (by exact Tryz.underlying3) (by rfl) (by rfl) cs
theorem fa55_1 {id off : Nat} : fieldAddrPV Tryz.prog 55 (.ptr id off) 1 = some (.ptr id (off + 1)) := fa1_of Tryz.underlying55 (by rfl) (by exact Tryz.underlying3) (by exact cells3) (by rfl) (by rfl)
theorem fae55_1 {es i off : Nat} {l : List PV} : fieldAddrPV Tryz.prog 55 (.eptr es l i off) 1 = some (.eptr es l i (off + 1)) := fa2_of Tryz.underlying55 (by rfl) (by exact Tryz.underlying3) (by exact cells3) (by rfl) (by rfl)
theorem fp55_1 {cs : List PV} : fieldPV Tryz.prog 55 (.agg cs) 1 = cs[1]? := fpS_of Tryz.underlying55 (by rfl) (by exact Tryz.underlying3) (by rfl) (by rfl) cs
theorem fa55_2 {id off : Nat} : fieldAddrPV Tryz.prog 55 (.ptr id off) 2 = some (.ptr id (off + 2)) := fa1_of Tryz.underlying55 (by rfl) (by exact Tryz.underlying22) (by exact cells22) (by rfl) (by rfl)
theorem fae55_2 {es i off : Nat} {l : List PV} : fieldAddrPV Tryz.prog 55 (.eptr es l i off) 2 = some (.eptr es l i (off + 2)) := fa2_of Tryz.underlying55 (by rfl) (by exact Tryz.underlying22) (by exact cells22) (by rfl) (by rfl)
theorem fp55_2 {cs : List PV} : fieldPV Tryz.prog 55 (.agg cs) 2 = cs[2]? := fpS_of Tryz.underlying55 (by rfl) (by exact Tryz.underlying22) (by rfl) (by rfl) cs
theorem bld55 {parts : List (Nat × PV)} : buildPV Tryz.prog 55 parts = bldX [.int .i64 0, .int .i64 0, .isl [] .exact] [(0, 1), (1, 1), (2, 1)] parts := bldX_of zero55 Tryz.underlying55 (by kernel_rfl) (by kernel_rfl) parts
theorem lda59 {σ : Sg} {id off : Nat} : loadPV Tryz.prog σ 59 (.ptr id off) = ldS σ id off := ldS_of Tryz.underlying59 rfl
theorem ela59 {σ : Sg} {es i off : Nat} {l : List PV} : loadPV Tryz.prog σ 59 (.eptr es l i off) = elS l i off := elS_of Tryz.underlying59 rfl
theorem sto59 {σ : Sg} {id off : Nat} {p : PV} : storePV Tryz.prog σ 59 (.ptr id off) p = stX 1 σ id off p := stX_of Tryz.underlying59 cells59 p
theorem ia59 {l : List PV} {own : Own} {k : IntKind} {i : Int} : indexAddrPV Tryz.prog 59 (.isl l own) (.int k i) = iaX 2 l i := iaX_of Tryz.underlying59 Tryz.underlying63 cells63 k i
theorem iam59 {id off len : Nat} {k : IntKind} {i : Int} : indexAddrPV Tryz.prog 59 (.msl id off len) (.int k i) = iaM 2 id off len i := iaM_of Tryz.underlying59 Tryz.underlying63 cells63 k len i
theorem len59 {l : List PV} {own : Own} : lenPV Tryz.prog 59 (.isl l own) = some (.int .i64 l.length) := len_of Tryz.underlying59
theorem lenm59 {id off n : Nat} : lenPV Tryz.prog 59 (.msl id off n) = some (.int .i64 n) := lenM_of Tryz.underlying59 n
theorem bs59 {len : Nat} {parts : List (Nat × PV)} : buildSlicePV Tryz.prog 59 len parts = bsX 2 len parts := bsX_of Tryz.underlying59 Tryz.underlying63 cells63 zero63 len parts
theorem app59 {σ : Sg} {l m : List PV} {own own' : Own} : appendPV Tryz.prog σ 59 59 (.isl l own) (.isl m own') = appX 2 16 σ l own m := appX_of Tryz.underlying59 Tryz.underlying63 cells63 bytes63 (by decide) (by decide) zero63 rfl
theorem lda62 {σ : Sg} {id off : Nat} : loadPV Tryz.prog σ 62 (.ptr id off) = ldA 2 σ id off := ldA_of Tryz.underlying62 rfl cells62
theorem ela62 {σ : Sg} {es i off : Nat} {l : List PV} : loadPV Tryz.prog σ 62 (.eptr es l i off) = elA 2 l i off := elA_of Tryz.underlying62 rfl cells62
theorem sto62 {σ : Sg} {id off : Nat} {p : PV} : storePV Tryz.prog σ 62 (.ptr id off) p = stX 2 σ id off p := stX_of Tryz.underlying62 cells62 p
theorem fa62_0 {id off : Nat} : fieldAddrPV Tryz.prog 62 (.ptr id off) 0 = some (.ptr id (off + 0)) := fa1_of Tryz.underlying62 (by rfl) (by exact Tryz.underlying3) (by exact cells3) (by rfl) (by rfl)
theorem fae62_0 {es i off : Nat} {l : List PV} : fieldAddrPV Tryz.prog 62 (.eptr es l i off) 0 = some (.eptr es l i (off + 0)) := fa2_of Tryz.underlying62 (by rfl) (by exact Tryz.underlying3) (by exact cells3) (by rfl) (by rfl)
theorem fp62_0 {cs : List PV} : fieldPV Tryz.prog 62 (.agg cs) 0 = cs[0]? := fpS_of Tryz.underlying62 (by rfl) (by exact Tryz.underlying3) (by rfl) (by rfl) cs
theorem fa62_1 {id off : Nat} : fieldAddrPV Tryz.prog 62 (.ptr id off) 1 = some (.ptr id (off + 1)) := fa1_of Tryz.underlying62 (by rfl) (by exact Tryz.underlying3) (by exact cells3) (by rfl) (by rfl)
theorem fae62_1 {es i off : Nat} {l : List PV} : fieldAddrPV Tryz.prog 62 (.eptr es l i off) 1 = some (.eptr es l i (off + 1)) := fa2_of Tryz.underlying62 (by rfl) (by exact Tryz.underlying3) (by exact cells3) (by rfl) (by rfl)
theorem fp62_1 {cs : List PV} : fieldPV Tryz.prog 62 (.agg cs) 1 = cs[1]? := fpS_of Tryz.underlying62 (by rfl) (by exact Tryz.underlying3) (by rfl) (by rfl) cs
theorem eqs62 {a0 a1 b0 b1 : Int} : eqPV Tryz.prog 62 (.agg [.int .i64 a0, .int .i64 a1]) (.agg [.int .i64 b0, .int .i64 b1]) = some ((a0 == b0) && ((a1 == b1) && true)) := by kernel_rfl
theorem bld62 {parts : List (Nat × PV)} : buildPV Tryz.prog 62 parts = bldX [.int .i64 0, .int .i64 0] [(0, 1), (1, 1)] parts := bldX_of zero62 Tryz.underlying62 (by kernel_rfl) (by kernel_rfl) parts
theorem lda63 {σ : Sg} {id off : Nat} : loadPV Tryz.prog σ 63 (.ptr id off) = ldA 2 σ id off := ldA_of Tryz.underlying63 rfl cells63
theorem ela63 {σ : Sg} {es i off : Nat} {l : List PV} : loadPV Tryz.prog σ 63 (.eptr es l i off) = elA 2 l i off := elA_of Tryz.underlying63 rfl cells63
theorem sto63 {σ : Sg} {id off : Nat} {p : PV} : storePV Tryz.prog σ 63 (.ptr id off) p = stX 2 σ id off p := stX_of Tryz.underlying63 cells63 p
theorem fa63_0 {id off : Nat} : fieldAddrPV Tryz.prog 63 (.ptr id off) 0 = some (.ptr id (off + 0)) := fa1_of Tryz.underlying63 (by rfl) (by exact Tryz.underlying3) (by exact cells3) (by rfl) (by rfl)
theorem fae63_0 {es i off : Nat} {l : List PV} : fieldAddrPV Tryz.prog 63 (.eptr es l i off) 0 = some (.eptr es l i (off + 0)) := fa2_of Tryz.underlying63 (by rfl) (by exact Tryz.underlying3) (by exact cells3) (by rfl) (by rfl)
theorem fp63_0 {cs : List PV} : fieldPV Tryz.prog 63 (.agg cs) 0 = cs[0]? := fpS_of Tryz.underlying63 (by rfl) (by exact Tryz.underlying3) (by rfl) (by rfl) cs
theorem fa63_1 {id off : Nat} : fieldAddrPV Tryz.prog 63 (.ptr id off) 1 = some (.ptr id (off + 1)) := fa1_of Tryz.underlying63 (by rfl) (by exact Tryz.underlying3) (by exact cells3) (by rfl) (by rfl)
theorem fae63_1 {es i off : Nat} {l : List PV} : fieldAddrPV Tryz.prog 63 (.eptr es l i off) 1 = some (.eptr es l i (off + 1)) := fa2_of Tryz.underlying63 (by rfl) (by exact Tryz.underlying3) (by exact cells3) (by rfl) (by rfl)
theorem fp63_1 {cs : List PV} : fieldPV Tryz.prog 63 (.agg cs) 1 = cs[1]? := fpS_of Tryz.underlying63 (by rfl) (by exact Tryz.underlying3) (by rfl) (by rfl) cs
theorem eqs63 {a0 a1 b0 b1 : Int} : eqPV Tryz.prog 63 (.agg [.int .i64 a0, .int .i64 a1]) (.agg [.int .i64 b0, .int .i64 b1]) = some ((a0 == b0) && ((a1 == b1) && true)) := by kernel_rfl
theorem bld63 {parts : List (Nat × PV)} : buildPV Tryz.prog 63 parts = bldX [.int .i64 0, .int .i64 0] [(0, 1), (1, 1)] parts := bldX_of zero63 Tryz.underlying63 (by kernel_rfl) (by kernel_rfl) parts
theorem lda75 {σ : Sg} {id off : Nat} : loadPV Tryz.prog σ 75 (.ptr id off) = ldS σ id off := ldS_of Tryz.underlying75 rfl
theorem ela75 {σ : Sg} {es i off : Nat} {l : List PV} : loadPV Tryz.prog σ 75 (.eptr es l i off) = elS l i off := elS_of Tryz.underlying75 rfl
theorem sto75 {σ : Sg} {id off : Nat} {p : PV} : storePV Tryz.prog σ 75 (.ptr id off) p = stX 1 σ id off p := stX_of Tryz.underlying75 cells75 p
theorem ia75 {l : List PV} {own : Own} {k : IntKind} {i : Int} : indexAddrPV Tryz.prog 75 (.isl l own) (.int k i) = iaX 1 l i := iaX_of Tryz.underlying75 Tryz.underlying22 cells22 k i
theorem iam75 {id off len : Nat} {k : IntKind} {i : Int} : indexAddrPV Tryz.prog 75 (.msl id off len) (.int k i) = iaM 1 id off len i := iaM_of Tryz.underlying75 Tryz.underlying22 cells22 k len i
theorem len75 {l : List PV} {own : Own} : lenPV Tryz.prog 75 (.isl l own) = some (.int .i64 l.length) := len_of Tryz.underlying75
theorem lenm75 {id off n : Nat} : lenPV Tryz.prog 75 (.msl id off n) = some (.int .i64 n) := lenM_of Tryz.underlying75 n
theorem bs75 {len : Nat} {parts : List (Nat × PV)} : buildSlicePV Tryz.prog 75 len parts = bsX 1 len parts := bsX_of Tryz.underlying75 Tryz.underlying22 cells22 zero22 len parts
theorem app75 {σ : Sg} {l m : List PV} {own own' : Own} : appendPV Tryz.prog σ 75 75 (.isl l own) (.isl m own') = appX 1 24 σ l own m := appX_of Tryz.underlying75 Tryz.underlying22 cells22 bytes22 (by decide) (by decide) zero22 rfl
theorem lda87 {σ : Sg} {id off : Nat} : loadPV Tryz.prog σ 87 (.ptr id off) = ldS σ id off := ldS_of Tryz.underlying87 rfl
theorem ela87 {σ : Sg} {es i off : Nat} {l : List PV} : loadPV Tryz.prog σ 87 (.eptr es l i off) = elS l i off := elS_of Tryz.underlying87 rfl
theorem sto87 {σ : Sg} {id off : Nat} {p : PV} : storePV Tryz.prog σ 87 (.ptr id off) p = stX 1 σ id off p := stX_of Tryz.underlying87 cells87 p
theorem lda88 {σ : Sg} {id off : Nat} : loadPV Tryz.prog σ 88 (.ptr id off) = ldA 1 σ id off := ldA_of Tryz.underlying88 rfl cells88
theorem ela88 {σ : Sg} {es i off : Nat} {l : List PV} : loadPV Tryz.prog σ 88 (.eptr es l i off) = elA 1 l i off := elA_of Tryz.underlying88 rfl cells88
theorem sto88 {σ : Sg} {id off : Nat} {p : PV} : storePV Tryz.prog σ 88 (.ptr id off) p = stX 1 σ id off p := stX_of Tryz.underlying88 cells88 p
theorem fa88_0 {id off : Nat} : fieldAddrPV Tryz.prog 88 (.ptr id off) 0 = some (.ptr id (off + 0)) := fa1_of Tryz.underlying88 (by rfl) (by exact Tryz.underlying87) (by exact cells87) (by rfl) (by rfl)
theorem fae88_0 {es i off : Nat} {l : List PV} : fieldAddrPV Tryz.prog 88 (.eptr es l i off) 0 = some (.eptr es l i (off + 0)) := fa2_of Tryz.underlying88 (by rfl) (by exact Tryz.underlying87) (by exact cells87) (by rfl) (by rfl)
theorem fp88_0 {cs : List PV} : fieldPV Tryz.prog 88 (.agg cs) 0 = cs[0]? := fpS_of Tryz.underlying88 (by rfl) (by exact Tryz.underlying87) (by rfl) (by rfl) cs
theorem eqs88 {a0 b0 : Int} : eqPV Tryz.prog 88 (.agg [.int .u64 a0]) (.agg [.int .u64 b0]) = some ((a0 == b0) && true) := by kernel_rfl
theorem bld88 {parts : List (Nat × PV)} : buildPV Tryz.prog 88 parts = bldX [.int .u64 0] [(0, 1)] parts := bldX_of zero88 Tryz.underlying88 (by kernel_rfl) (by kernel_rfl) parts
theorem lda89 {σ : Sg} {id off : Nat} : loadPV Tryz.prog σ 89 (.ptr id off) = ldA 1 σ id off := ldA_of Tryz.underlying89 rfl cells89
theorem ela89 {σ : Sg} {es i off : Nat} {l : List PV} : loadPV Tryz.prog σ 89 (.eptr es l i off) = elA 1 l i off := elA_of Tryz.underlying89 rfl cells89
theorem sto89 {σ : Sg} {id off : Nat} {p : PV} : storePV Tryz.prog σ 89 (.ptr id off) p = stX 1 σ id off p := stX_of Tryz.underlying89 cells89 p
theorem fa89_0 {id off : Nat} : fieldAddrPV Tryz.prog 89 (.ptr id off) 0 = some (.ptr id (off + 0)) := fa1_of Tryz.underlying89 (by rfl) (by exact Tryz.underlying87) (by exact cells87) (by rfl) (by rfl)
theorem fae89_0 {es i off : Nat} {l : List PV} : fieldAddrPV Tryz.prog 89 (.eptr es l i off) 0 = some (.eptr es l i (off + 0)) := fa2_of Tryz.underlying89 (by rfl) (by exact Tryz.underlying87) (by exact cells87) (by rfl) (by rfl)
theorem fp89_0 {cs : List PV} : fieldPV Tryz.prog 89 (.agg cs) 0 = cs[0]? := fpS_of Tryz.underlying89 (by rfl) (by exact Tryz.underlying87) (by rfl) (by rfl) cs
theorem eqs89 {a0 b0 : Int} : eqPV Tryz.prog 89 (.agg [.int .u64 a0]) (.agg [.int .u64 b0]) = some ((a0 == b0) && true) := by kernel_rfl
theorem bld89 {parts : List (Nat × PV)} : buildPV Tryz.prog 89 parts = bldX [.int .u64 0] [(0, 1)] parts := bldX_of zero89 Tryz.underlying89 (by kernel_rfl) (by kernel_rfl) parts
theorem lda93 {σ : Sg} {id off : Nat} : loadPV Tryz.prog σ 93 (.ptr id off) = ldA 2 σ id off := ldA_of Tryz.underlying93 rfl cells93
theorem ela93 {σ : Sg} {es i off : Nat} {l : List PV} : loadPV Tryz.prog σ 93 (.eptr es l i off) = elA 2 l i off := elA_of Tryz.underlying93 rfl cells93
theorem sto93 {σ : Sg} {id off : Nat} {p : PV} : storePV Tryz.prog σ 93 (.ptr id off) p = stX 2 σ id off p := stX_of Tryz.underlying93 cells93 p
theorem fa93_0 {id off : Nat} : fieldAddrPV Tryz.prog 93 (.ptr id off) 0 = some (.ptr id (off + 0)) := fa1_of Tryz.underlying93 (by rfl) (by exact Tryz.underlying3) (by exact cells3) (by rfl) (by rfl)
theorem fae93_0 {es i off : Nat} {l : List PV} : fieldAddrPV Tryz.prog 93 (.eptr es l i off) 0 = some (.eptr es l i (off + 0)) := fa2_of Tryz.underlying93 (by rfl) (by exact Tryz.underlying3) (by exact cells3) (by rfl) (by rfl)
theorem fp93_0 {cs : List PV} : fieldPV Tryz.prog 93 (.agg cs) 0 = cs[0]? := fpS_of Tryz.underlying93 (by rfl) (by exact Tryz.underlying3) (by rfl) (by rfl) cs
theorem fa93_1 {id off : Nat} : fieldAddrPV Tryz.prog 93 (.ptr id off) 1 = some (.ptr id (off + 1)) := fa1_of Tryz.underlying93 (by rfl) (by exact Tryz.underlying3) (by exact cells3) (by rfl) (by rfl)
theorem fae93_1 {es i off : Nat} {l : List PV} : fieldAddrPV Tryz.prog 93 (.eptr es l i off) 1 = some (.eptr es l i (off + 1)) := fa2_of Tryz.underlying93 (by rfl) (by exact Tryz.underlying3) (by exact cells3) (by rfl) (by rfl)
theorem fp93_1 {cs : List PV} : fieldPV Tryz.prog 93 (.agg cs) 1 = cs[1]? := fpS_of Tryz.underlying93 (by rfl) (by exact Tryz.underlying3) (by rfl) (by rfl) cs
theorem eqs93 {a0 a1 b0 b1 : Int} : eqPV Tryz.prog 93 (.agg [.int .i64 a0, .int .i64 a1]) (.agg [.int .i64 b0, .int .i64 b1]) = some ((a0 == b0) && ((a1 == b1) && true)) := by kernel_rfl
theorem bld93 {parts : List (Nat × PV)} : buildPV Tryz.prog 93 parts = bldX [.int .i64 0, .int .i64 0] [(0, 1), (1, 1)] parts := bldX_of zero93 Tryz.underlying93 (by kernel_rfl) (by kernel_rfl) parts
theorem lda94 {σ : Sg} {id off : Nat} : loadPV Tryz.prog σ 94 (.ptr id off) = ldA 2 σ id off := ldA_of Tryz.underlying94 rfl cells94
theorem ela94 {σ : Sg} {es i off : Nat} {l : List PV} : loadPV Tryz.prog σ 94 (.eptr es l i off) = elA 2 l i off := elA_of Tryz.underlying94 rfl cells94
theorem sto94 {σ : Sg} {id off : Nat} {p : PV} : storePV Tryz.prog σ 94 (.ptr id off) p = stX 2 σ id off p := stX_of Tryz.underlying94 cells94 p
theorem fa94_0 {id off : Nat} : fieldAddrPV Tryz.prog 94 (.ptr id off) 0 = some (.ptr id (off + 0)) := fa1_of Tryz.underlying94 (by rfl) (by exact Tryz.underlying3) (by exact cells3) (by rfl) (by rfl)
theorem fae94_0 {es i off : Nat} {l : List PV} : fieldAddrPV Tryz.prog 94 (.eptr es l i off) 0 = some (.eptr es l i (off + 0)) := fa2_of Tryz.underlying94 (by rfl) (by exact Tryz.underlying3) (by exact cells3) (by rfl) (by rfl)
theorem fp94_0 {cs : List PV} : fieldPV Tryz.prog 94 (.agg cs) 0 = cs[0]? := fpS_of Tryz.underlying94 (by rfl) (by exact Tryz.underlying3) (by rfl) (by rfl) cs
theorem fa94_1 {id off : Nat} : fieldAddrPV Tryz.prog 94 (.ptr id off) 1 = some (.ptr id (off + 1)) := fa1_of Tryz.underlying94 (by rfl) (by exact Tryz.underlying3) (by exact cells3) (by rfl) (by rfl)
theorem fae94_1 {es i off : Nat} {l : List PV} : fieldAddrPV Tryz.prog 94 (.eptr es l i off) 1 = some (.eptr es l i (off + 1)) := fa2_of Tryz.underlying94 (by rfl) (by exact Tryz.underlying3) (by exact cells3) (by rfl) (by rfl)
theorem fp94_1 {cs : List PV} : fieldPV Tryz.prog 94 (.agg cs) 1 = cs[1]? := fpS_of Tryz.underlying94 (by rfl) (by exact Tryz.underlying3) (by rfl) (by rfl) cs
theorem eqs94 {a0 a1 b0 b1 : Int} : eqPV Tryz.prog 94 (.agg [.int .i64 a0, .int .i64 a1]) (.agg [.int .i64 b0, .int .i64 b1]) = some ((a0 == b0) && ((a1 == b1) && true)) := by kernel_rfl
theorem bld94 {parts : List (Nat × PV)} : buildPV Tryz.prog 94 parts = bldX [.int .i64 0, .int .i64 0] [(0, 1), (1, 1)] parts := bldX_of zero94 Tryz.underlying94 (by kernel_rfl) (by kernel_rfl) parts
theorem lda96 {σ : Sg} {id off : Nat} : loadPV Tryz.prog σ 96 (.ptr id off) = ldA 2 σ id off := ldA_of Tryz.underlying96 rfl cells96
theorem ela96 {σ : Sg} {es i off : Nat} {l : List PV} : loadPV Tryz.prog σ 96 (.eptr es l i off) = elA 2 l i off := elA_of Tryz.underlying96 rfl cells96
theorem sto96 {σ : Sg} {id off : Nat} {p : PV} : storePV Tryz.prog σ 96 (.ptr id off) p = stX 2 σ id off p := stX_of Tryz.underlying96 cells96 p
theorem fa96_0 {id off : Nat} : fieldAddrPV Tryz.prog 96 (.ptr id off) 0 = some (.ptr id (off + 0)) := fa1_of Tryz.underlying96 (by rfl) (by exact Tryz.underlying3) (by exact cells3) (by rfl) (by rfl)
theorem fae96_0 {es i off : Nat} {l : List PV} : fieldAddrPV Tryz.prog 96 (.eptr es l i off) 0 = some (.eptr es l i (off + 0)) := fa2_of Tryz.underlying96 (by rfl) (by exact Tryz.underlying3) (by exact cells3) (by rfl) (by rfl)
theorem fp96_0 {cs : List PV} : fieldPV Tryz.prog 96 (.agg cs) 0 = cs[0]? := fpS_of Tryz.underlying96 (by rfl) (by exact Tryz.underlying3) (by rfl) (by rfl) cs
theorem fa96_1 {id off : Nat} : fieldAddrPV Tryz.prog 96 (.ptr id off) 1 = some (.ptr id (off + 1)) := fa1_of Tryz.underlying96 (by rfl) (by exact Tryz.underlying3) (by exact cells3) (by rfl) (by rfl)
theorem fae96_1 {es i off : Nat} {l : List PV} : fieldAddrPV Tryz.prog 96 (.eptr es l i off) 1 = some (.eptr es l i (off + 1)) := fa2_of Tryz.underlying96 (by rfl) (by exact Tryz.underlying3) (by exact cells3) (by rfl) (by rfl)
theorem fp96_1 {cs : List PV} : fieldPV Tryz.prog 96 (.agg cs) 1 = cs[1]? := fpS_of Tryz.underlying96 (by rfl) (by exact Tryz.underlying3) (by rfl) (by rfl) cs
theorem eqs96 {a0 a1 b0 b1 : Int} : eqPV Tryz.prog 96 (.agg [.int .i64 a0, .int .i64 a1]) (.agg [.int .i64 b0, .int .i64 b1]) = some ((a0 == b0) && ((a1 == b1) && true)) := by kernel_rfl
theorem bld96 {parts : List (Nat × PV)} : buildPV Tryz.prog 96 parts = bldX [.int .i64 0, .int .i64 0] [(0, 1), (1, 1)] parts := bldX_of zero96 Tryz.underlying96 (by kernel_rfl) (by kernel_rfl) parts
theorem lda97 {σ : Sg} {id off : Nat} : loadPV Tryz.prog σ 97 (.ptr id off) = ldA 2 σ id off := ldA_of Tryz.underlying97 rfl cells97
theorem ela97 {σ : Sg} {es i off : Nat} {l : List PV} : loadPV Tryz.prog σ 97 (.eptr es l i off) = elA 2 l i off := elA_of Tryz.underlying97 rfl cells97
theorem sto97 {σ : Sg} {id off : Nat} {p : PV} : storePV Tryz.prog σ 97 (.ptr id off) p = stX 2 σ id off p := stX_of Tryz.underlying97 cells97 p
theorem fa97_0 {id off : Nat} : fieldAddrPV Tryz.prog 97 (.ptr id off) 0 = some (.ptr id (off + 0)) := fa1_of Tryz.underlying97 (by rfl) (by exact Tryz.underlying3) (by exact cells3) (by rfl) (by rfl)
theorem fae97_0 {es i off : Nat} {l : List PV} : fieldAddrPV Tryz.prog 97 (.eptr es l i off) 0 = some (.eptr es l i (off + 0)) := fa2_of Tryz.underlying97 (by rfl) (by exact Tryz.underlying3) (by exact cells3) (by rfl) (by rfl)
theorem fp97_0 {cs : List PV} : fieldPV Tryz.prog 97 (.agg cs) 0 = cs[0]? := fpS_of Tryz.underlying97 (by rfl) (by exact Tryz.underlying3) (by rfl) (by rfl) cs
theorem fa97_1 {id off : Nat} : fieldAddrPV Tryz.prog 97 (.ptr id off) 1 = some (.ptr id (off + 1)) := fa1_of Tryz.underlying97 (by rfl) (by exact Tryz.underlying3) (by exact cells3) (by rfl) (by rfl)
theorem fae97_1 {es i off : Nat} {l : List PV} : fieldAddrPV Tryz.prog 97 (.eptr es l i off) 1 = some (.eptr es l i (off + 1)) := fa2_of Tryz.underlying97 (by rfl) (by exact Tryz.underlying3) (by exact cells3) (by rfl) (by rfl)
theorem fp97_1 {cs : List PV} : fieldPV Tryz.prog 97 (.agg cs) 1 = cs[1]? := fpS_of Tryz.underlying97 (by rfl) (by exact Tryz.underlying3) (by rfl) (by rfl) cs
theorem eqs97 {a0 a1 b0 b1 : Int} : eqPV Tryz.prog 97 (.agg [.int .i64 a0, .int .i64 a1]) (.agg [.int .i64 b0, .int .i64 b1]) = some ((a0 == b0) && ((a1 == b1) && true)) := by kernel_rfl
theorem bld97 {parts : List (Nat × PV)} : buildPV Tryz.prog 97 parts = bldX [.int .i64 0, .int .i64 0] [(0, 1), (1, 1)] parts := bldX_of zero97 Tryz.underlying97 (by kernel_rfl) (by kernel_rfl) parts
theorem lda98 {σ : Sg} {id off : Nat} : loadPV Tryz.prog σ 98 (.ptr id off) = ldS σ id off := ldS_of Tryz.underlying98 rfl
theorem ela98 {σ : Sg} {es i off : Nat} {l : List PV} : loadPV Tryz.prog σ 98 (.eptr es l i off) = elS l i off := elS_of Tryz.underlying98 rfl
theorem sto98 {σ : Sg} {id off : Nat} {p : PV} : storePV Tryz.prog σ 98 (.ptr id off) p = stX 1 σ id off p := stX_of Tryz.underlying98 cells98 p
theorem lda99 {σ : Sg} {id off : Nat} : loadPV Tryz.prog σ 99 (.ptr id off) = ldS σ id off := ldS_of Tryz.underlying99 rfl
theorem ela99 {σ : Sg} {es i off : Nat} {l : List PV} : loadPV Tryz.prog σ 99 (.eptr es l i off) = elS l i off := elS_of Tryz.underlying99 rfl
theorem sto99 {σ : Sg} {id off : Nat} {p : PV} : storePV Tryz.prog σ 99 (.ptr id off) p = stX 1 σ id off p := stX_of Tryz.underlying99 cells99 p
theorem lda103 {σ : Sg} {id off : Nat} : loadPV Tryz.prog σ 103 (.ptr id off) = ldS σ id off := ldS_of Tryz.underlying103 rfl
theorem ela103 {σ : Sg} {es i off : Nat} {l : List PV} : loadPV Tryz.prog σ 103 (.eptr es l i off) = elS l i off := elS_of Tryz.underlying103 rfl
theorem sto103 {σ : Sg} {id off : Nat} {p : PV} : storePV Tryz.prog σ 103 (.ptr id off) p = stX 1 σ id off p := stX_of Tryz.underlying103 cells103 p
theorem lda107 {σ : Sg} {id off : Nat} : loadPV Tryz.prog σ 107 (.ptr id off) = ldA 1 σ id off := ldA_of Tryz.underlying107 rfl cells107
theorem ela107 {σ : Sg} {es i off : Nat} {l : List PV} : loadPV Tryz.prog σ 107 (.eptr es l i off) = elA 1 l i off := elA_of Tryz.underlying107 rfl cells107
theorem sto107 {σ : Sg} {id off : Nat} {p : PV} : storePV Tryz.prog σ 107 (.ptr id off) p = stX 1 σ id off p := stX_of Tryz.underlying107 cells107 p
theorem fa107_0 {id off : Nat} : fieldAddrPV Tryz.prog 107 (.ptr id off) 0 = some (.ptr id (off + 0)) := fa1_of Tryz.underlying107 (by rfl) (by exact Tryz.underlying22) (by exact cells22) (by rfl) (by rfl)
theorem fae107_0 {es i off : Nat} {l : List PV} : fieldAddrPV Tryz.prog 107 (.eptr es l i off) 0 = some (.eptr es l i (off + 0)) := fa2_of Tryz.underlying107 (by rfl) (by exact Tryz.underlying22) (by exact cells22) (by rfl) (by rfl)
theorem fp107_0 {cs : List PV} : fieldPV Tryz.prog 107 (.agg cs) 0 = cs[0]? := fpS_of Tryz.underlying107 (by rfl) (by exact Tryz.underlying22) (by rfl) (by rfl) cs
theorem bld107 {parts : List (Nat × PV)} : buildPV Tryz.prog 107 parts = bldX [.isl [] .exact] [(0, 1)] parts := bldX_of zero107 Tryz.underlying107 (by kernel_rfl) (by kernel_rfl) parts
theorem lda108 {σ : Sg} {id off : Nat} : loadPV Tryz.prog σ 108 (.ptr id off) = ldA 1 σ id off := ldA_of Tryz.underlying108 rfl cells108
theorem ela108 {σ : Sg} {es i off : Nat} {l : List PV} : loadPV Tryz.prog σ 108 (.eptr es l i off) = elA 1 l i off := elA_of Tryz.underlying108 rfl cells108
theorem sto108 {σ : Sg} {id off : Nat} {p : PV} : storePV Tryz.prog σ 108 (.ptr id off) p = stX 1 σ id off p := stX_of Tryz.underlying108 cells108 p
theorem fa108_0 {id off : Nat} : fieldAddrPV Tryz.prog 108 (.ptr id off) 0 = some (.ptr id (off + 0)) := fa1_of Tryz.underlying108 (by rfl) (by exact Tryz.underlying22) (by exact cells22) (by rfl) (by rfl)
theorem fae108_0 {es i off : Nat} {l : List PV} : fieldAddrPV Tryz.prog 108 (.eptr es l i off) 0 = some (.eptr es l i (off + 0)) := fa2_of Tryz.underlying108 (by rfl) (by exact Tryz.underlying22) (by exact cells22) (by rfl) (by rfl)
theorem fp108_0 {cs : List PV} : fieldPV Tryz.prog 108 (.agg cs) 0 = cs[0]? := fpS_of Tryz.underlying108 (by rfl) (by exact Tryz.underlying22) (by rfl) (by rfl) cs
theorem bld108 {parts : List (Nat × PV)} : buildPV Tryz.prog 108 parts = bldX [.isl [] .exact] [(0, 1)] parts := bldX_of zero108 Tryz.underlying108 (by kernel_rfl) (by kernel_rfl) parts
theorem lda112 {σ : Sg} {id off : Nat} : loadPV Tryz.prog σ 112 (.ptr id off) = ldS σ id off := ldS_of Tryz.underlying112 rfl
theorem ela112 {σ : Sg} {es i off : Nat} {l : List PV} : loadPV Tryz.prog σ 112 (.eptr es l i off) = elS l i off := elS_of Tryz.underlying112 rfl
theorem sto112 {σ : Sg} {id off : Nat} {p : PV} : storePV Tryz.prog σ 112 (.ptr id off) p = stX 1 σ id off p := stX_of Tryz.underlying112 cells112 p
theorem lda115 {σ : Sg} {id off : Nat} : loadPV Tryz.prog σ 115 (.ptr id off) = ldA 2 σ id off := ldA_of Tryz.underlying115 rfl cells115
theorem ela115 {σ : Sg} {es i off : Nat} {l : List PV} : loadPV Tryz.prog σ 115 (.eptr es l i off) = elA 2 l i off := elA_of Tryz.underlying115 rfl cells115
theorem sto115 {σ : Sg} {id off : Nat} {p : PV} : storePV Tryz.prog σ 115 (.ptr id off) p = stX 2 σ id off p := stX_of Tryz.underlying115 cells115 p
theorem fa115_0 {id off : Nat} : fieldAddrPV Tryz.prog 115 (.ptr id off) 0 = some (.ptr id (off + 0)) := fa1_of Tryz.underlying115 (by rfl) (by exact Tryz.underlying3) (by exact cells3) (by rfl) (by rfl)
theorem fae115_0 {es i off : Nat} {l : List PV} : fieldAddrPV Tryz.prog 115 (.eptr es l i off) 0 = some (.eptr es l i (off + 0)) := fa2_of Tryz.underlying115 (by rfl) (by exact Tryz.underlying3) (by exact cells3) (by rfl) (by rfl)
theorem fp115_0 {cs : List PV} : fieldPV Tryz.prog 115 (.agg cs) 0 = cs[0]? := fpS_of Tryz.underlying115 (by rfl) (by exact Tryz.underlying3) (by rfl) (by rfl) cs
theorem fa115_1 {id off : Nat} : fieldAddrPV Tryz.prog 115 (.ptr id off) 1 = some (.ptr id (off + 1)) := fa1_of Tryz.underlying115 (by rfl) (by exact Tryz.underlying3) (by exact cells3) (by rfl) (by rfl)
theorem fae115_1 {es i off : Nat} {l : List PV} : fieldAddrPV Tryz.prog 115 (.eptr es l i off) 1 = some (.eptr es l i (off + 1)) := fa2_of Tryz.underlying115 (by rfl) (by exact Tryz.underlying3) (by exact cells3) (by rfl) (by rfl)
theorem fp115_1 {cs : List PV} : fieldPV Tryz.prog 115 (.agg cs) 1 = cs[1]? := fpS_of Tryz.underlying115 (by rfl) (by exact Tryz.underlying3) (by rfl) (by rfl) cs
theorem eqs115 {a0 a1 b0 b1 : Int} : eqPV Tryz.prog 115 (.agg [.int .i64 a0, .int .i64 a1]) (.agg [.int .i64 b0, .int .i64 b1]) = some ((a0 == b0) && ((a1 == b1) && true)) := by kernel_rfl
theorem bld115 {parts : List (Nat × PV)} : buildPV Tryz.prog 115 parts = bldX [.int .i64 0, .int .i64 0] [(0, 1), (1, 1)] parts := bldX_of zero115 Tryz.underlying115 (by kernel_rfl) (by kernel_rfl) parts
theorem lda116 {σ : Sg} {id off : Nat} : loadPV Tryz.prog σ 116 (.ptr id off) = ldA 2 σ id off := ldA_of Tryz.underlying116 rfl cells116
theorem ela116 {σ : Sg} {es i off : Nat} {l : List PV} : loadPV Tryz.prog σ 116 (.eptr es l i off) = elA 2 l i off := elA_of Tryz.underlying116 rfl cells116
theorem sto116 {σ : Sg} {id off : Nat} {p : PV} : storePV Tryz.prog σ 116 (.ptr id off) p = stX 2 σ id off p := stX_of Tryz.underlying116 cells116 p
theorem fa116_0 {id off : Nat} : fieldAddrPV Tryz.prog 116 (.ptr id off) 0 = some (.ptr id (off + 0)) := fa1_of Tryz.underlying116 (by rfl) (by exact Tryz.underlying3) (by exact cells3) (by rfl) (by rfl)
theorem fae116_0 {es i off : Nat} {l : List PV} : fieldAddrPV Tryz.prog 116 (.eptr es l i off) 0 = some (.eptr es l i (off + 0)) := fa2_of Tryz.underlying116 (by rfl) (by exact Tryz.underlying3) (by exact cells3) (by rfl) (by rfl)
theorem fp116_0 {cs : List PV} : fieldPV Tryz.prog 116 (.agg cs) 0 = cs[0]? := fpS_of Tryz.underlying116 (by rfl) (by exact Tryz.underlying3) (by rfl) (by rfl) cs
theorem fa116_1 {id off : Nat} : fieldAddrPV Tryz.prog 116 (.ptr id off) 1 = some (.ptr id (off + 1)) := fa1_of Tryz.underlying116 (by rfl) (by exact Tryz.underlying3) (by exact cells3) (by rfl) (by rfl)
theorem fae116_1 {es i off : Nat} {l : List PV} : fieldAddrPV Tryz.prog 116 (.eptr es l i off) 1 = some (.eptr es l i (off + 1)) := fa2_of Tryz.underlying116 (by rfl) (by exact Tryz.underlying3) (by exact cells3) (by rfl) (by rfl)
theorem fp116_1 {cs : List PV} : fieldPV Tryz.prog 116 (.agg cs) 1 = cs[1]? := fpS_of Tryz.underlying116 (by rfl) (by exact Tryz.underlying3) (by rfl) (by rfl) cs
theorem eqs116 {a0 a1 b0 b1 : Int} : eqPV Tryz.prog 116 (.agg [.int .i64 a0, .int .i64 a1]) (.agg [.int .i64 b0, .int .i64 b1]) = some ((a0 == b0) && ((a1 == b1) && true)) := by kernel_rfl
theorem bld116 {parts : List (Nat × PV)} : buildPV Tryz.prog 116 parts = bldX [.int .i64 0, .int .i64 0] [(0, 1), (1, 1)] parts := bldX_of zero116 Tryz.underlying116 (by kernel_rfl) (by kernel_rfl) parts
theorem lda125 {σ : Sg} {id off : Nat} : loadPV Tryz.prog σ 125 (.ptr id off) = ldS σ id off := ldS_of Tryz.underlying125 rfl
theorem ela125 {σ : Sg} {es i off : Nat} {l : List PV} : loadPV Tryz.prog σ 125 (.eptr es l i off) = elS l i off := elS_of Tryz.underlying125 rfl
theorem sto125 {σ : Sg} {id off : Nat} {p : PV} : storePV Tryz.prog σ 125 (.ptr id off) p = stX 1 σ id off p := stX_of Tryz.underlying125 cells125 p
theorem ia125 {l : List PV} {own : Own} {k : IntKind} {i : Int} : indexAddrPV Tryz.prog 125 (.isl l own) (.int k i) = iaX 1 l i := iaX_of Tryz.underlying125 Tryz.underlying4 cells4 k i
theorem iam125 {id off len : Nat} {k : IntKind} {i : Int} : indexAddrPV Tryz.prog 125 (.msl id off len) (.int k i) = iaM 1 id off len i := iaM_of Tryz.underlying125 Tryz.underlying4 cells4 k len i
theorem len125 {l : List PV} {own : Own} : lenPV Tryz.prog 125 (.isl l own) = some (.int .i64 l.length) := len_of Tryz.underlying125
theorem lenm125 {id off n : Nat} : lenPV Tryz.prog 125 (.msl id off n) = some (.int .i64 n) := lenM_of Tryz.underlying125 n
theorem bs125 {len : Nat} {parts : List (Nat × PV)} : buildSlicePV Tryz.prog 125 len parts = bsX 1 len parts := bsX_of Tryz.underlying125 Tryz.underlying4 cells4 zero4 len parts
theorem app125 {σ : Sg} {l m : List PV} {own own' : Own} : appendPV Tryz.prog σ 125 125 (.isl l own) (.isl m own') = appX 1 1 σ l own m := appX_of Tryz.underlying125 Tryz.underlying4 cells4 bytes4 (by decide) (by decide) zero4 rfl
theorem lda126 {σ : Sg} {id off : Nat} : loadPV Tryz.prog σ 126 (.ptr id off) = ldS σ id off := ldS_of Tryz.underlying126 rfl
theorem ela126 {σ : Sg} {es i off : Nat} {l : List PV} : loadPV Tryz.prog σ 126 (.eptr es l i off) = elS l i off := elS_of Tryz.underlying126 rfl
theorem sto126 {σ : Sg} {id off : Nat} {p : PV} : storePV Tryz.prog σ 126 (.ptr id off) p = stX 1 σ id off p := stX_of Tryz.underlying126 cells126 p
theorem lda131 {σ : Sg} {id off : Nat} : loadPV Tryz.prog σ 131 (.ptr id off) = ldS σ id off := ldS_of Tryz.underlying131 rfl
theorem ela131 {σ : Sg} {es i off : Nat} {l : List PV} : loadPV Tryz.prog σ 131 (.eptr es l i off) = elS l i off := elS_of Tryz.underlying131 rfl
theorem sto131 {σ : Sg} {id off : Nat} {p : PV} : storePV Tryz.prog σ 131 (.ptr id off) p = stX 1 σ id off p := stX_of Tryz.underlying131 cells131 p
theorem lda132 {σ : Sg} {id off : Nat} : loadPV Tryz.prog σ 132 (.ptr id off) = ldS σ id off := ldS_of Tryz.underlying132 rfl
theorem ela132 {σ : Sg} {es i off : Nat} {l : List PV} : loadPV Tryz.prog σ 132 (.eptr es l i off) = elS l i off := elS_of Tryz.underlying132 rfl
theorem sto132 {σ : Sg} {id off : Nat} {p : PV} : storePV Tryz.prog σ 132 (.ptr id off) p = stX 1 σ id off p := stX_of Tryz.underlying132 cells132 p
theorem ia132 {l : List PV} {own : Own} {k : IntKind} {i : Int} : indexAddrPV Tryz.prog 132 (.isl l own) (.int k i) = iaX 1 l i := iaX_of Tryz.underlying132 Tryz.underlying131 cells131 k i
theorem iam132 {id off len : Nat} {k : IntKind} {i : Int} : indexAddrPV Tryz.prog 132 (.msl id off len) (.int k i) = iaM 1 id off len i := iaM_of Tryz.underlying132 Tryz.underlying131 cells131 k len i
theorem len132 {l : List PV} {own : Own} : lenPV Tryz.prog 132 (.isl l own) = some (.int .i64 l.length) := len_of Tryz.underlying132
theorem lenm132 {id off n : Nat} : lenPV Tryz.prog 132 (.msl id off n) = some (.int .i64 n) := lenM_of Tryz.underlying132 n
theorem bs132 {len : Nat} {parts : List (Nat × PV)} : buildSlicePV Tryz.prog 132 len parts = bsX 1 len parts := bsX_of Tryz.underlying132 Tryz.underlying131 cells131 zero131 len parts
theorem app132 {σ : Sg} {l m : List PV} {own own' : Own} : appendPV Tryz.prog σ 132 132 (.isl l own) (.isl m own') = appX 1 8 σ l own m := appX_of Tryz.underlying132 Tryz.underlying131 cells131 bytes131 (by decide) (by decide) zero131 rfl
theorem lda141 {σ : Sg} {id off : Nat} : loadPV Tryz.prog σ 141 (.ptr id off) = ldA 5 σ id off := ldA_of Tryz.underlying141 rfl cells141
theorem ela141 {σ : Sg} {es i off : Nat} {l : List PV} : loadPV Tryz.prog σ 141 (.eptr es l i off) = elA 5 l i off := elA_of Tryz.underlying141 rfl cells141
theorem sto141 {σ : Sg} {id off : Nat} {p : PV} : storePV Tryz.prog σ 141 (.ptr id off) p = stX 5 σ id off p := stX_of Tryz.underlying141 cells141 p
theorem iar141 {id off : Nat} {k : IntKind} {i : Int} : indexAddrPV Tryz.prog 141 (.ptr id off) (.int k i) = iaM 1 id off 5 i := iaA_of Tryz.underlying141 Tryz.underlying3 cells3 k i
theorem ix141 {cs : List PV} {k : IntKind} {i : Int} : indexPV Tryz.prog 141 (.agg cs) (.int k i) = if 0 ≤ i ∧ i < (5 : Int) then cs[i.toNat]? else none := ixS_of Tryz.underlying141 Tryz.underlying3 rfl cells3 k i
theorem lda142 {σ : Sg} {id off : Nat} : loadPV Tryz.prog σ 142 (.ptr id off) = ldA 5 σ id off := ldA_of Tryz.underlying142 rfl cells142
theorem ela142 {σ : Sg} {es i off : Nat} {l : List PV} : loadPV Tryz.prog σ 142 (.eptr es l i off) = elA 5 l i off := elA_of Tryz.underlying142 rfl cells142
theorem sto142 {σ : Sg} {id off : Nat} {p : PV} : storePV Tryz.prog σ 142 (.ptr id off) p = stX 5 σ id off p := stX_of Tryz.underlying142 cells142 p
theorem iar142 {id off : Nat} {k : IntKind} {i : Int} : indexAddrPV Tryz.prog 142 (.ptr id off) (.int k i) = iaM 1 id off 5 i := iaA_of Tryz.underlying142 Tryz.underlying3 cells3 k i
theorem ix142 {cs : List PV} {k : IntKind} {i : Int} : indexPV Tryz.prog 142 (.agg cs) (.int k i) = if 0 ≤ i ∧ i < (5 : Int) then cs[i.toNat]? else none := ixS_of Tryz.underlying142 Tryz.underlying3 rfl cells3 k i
theorem lda145 {σ : Sg} {id off : Nat} : loadPV Tryz.prog σ 145 (.ptr id off) = ldS σ id off := ldS_of Tryz.underlying145 rfl
theorem ela145 {σ : Sg} {es i off : Nat} {l : List PV} : loadPV Tryz.prog σ 145 (.eptr es l i off) = elS l i off := elS_of Tryz.underlying145 rfl
theorem sto145 {σ : Sg} {id off : Nat} {p : PV} : storePV Tryz.prog σ 145 (.ptr id off) p = stX 1 σ id off p := stX_of Tryz.underlying145 cells145 p
theorem lda148 {σ : Sg} {id off : Nat} : loadPV Tryz.prog σ 148 (.ptr id off) = ldS σ id off := ldS_of Tryz.underlying148 rfl
theorem ela148 {σ : Sg} {es i off : Nat} {l : List PV} : loadPV Tryz.prog σ 148 (.eptr es l i off) = elS l i off := elS_of Tryz.underlying148 rfl
theorem sto148 {σ : Sg} {id off : Nat} {p : PV} : storePV Tryz.prog σ 148 (.ptr id off) p = stX 1 σ id off p := stX_of Tryz.underlying148 cells148 p
theorem lda156 {σ : Sg} {id off : Nat} : loadPV Tryz.prog σ 156 (.ptr id off) = ldS σ id off := ldS_of Tryz.underlying156 rfl
theorem ela156 {σ : Sg} {es i off : Nat} {l : List PV} : loadPV Tryz.prog σ 156 (.eptr es l i off) = elS l i off := elS_of Tryz.underlying156 rfl
theorem sto156 {σ : Sg} {id off : Nat} {p : PV} : storePV Tryz.prog σ 156 (.ptr id off) p = stX 1 σ id off p := stX_of Tryz.underlying156 cells156 p
theorem lda161 {σ : Sg} {id off : Nat} : loadPV Tryz.prog σ 161 (.ptr id off) = ldS σ id off := ldS_of Tryz.underlying161 rfl
theorem ela161 {σ : Sg} {es i off : Nat} {l : List PV} : loadPV Tryz.prog σ 161 (.eptr es l i off) = elS l i off := elS_of Tryz.underlying161 rfl
theorem sto161 {σ : Sg} {id off : Nat} {p : PV} : storePV Tryz.prog σ 161 (.ptr id off) p = stX 1 σ id off p := stX_of Tryz.underlying161 cells161 p
theorem lda164 {σ : Sg} {id off : Nat} : loadPV Tryz.prog σ 164 (.ptr id off) = ldS σ id off := ldS_of Tryz.underlying164 rfl
theorem ela164 {σ : Sg} {es i off : Nat} {l : List PV} : loadPV Tryz.prog σ 164 (.eptr es l i off) = elS l i off := elS_of Tryz.underlying164 rfl
theorem sto164 {σ : Sg} {id off : Nat} {p : PV} : storePV Tryz.prog σ 164 (.ptr id off) p = stX 1 σ id off p := stX_of Tryz.underlying164 cells164 p
theorem lda168 {σ : Sg} {id off : Nat} : loadPV Tryz.prog σ 168 (.ptr id off) = ldS σ id off := ldS_of Tryz.underlying168 rfl
theorem ela168 {σ : Sg} {es i off : Nat} {l : List PV} : loadPV Tryz.prog σ 168 (.eptr es l i off) = elS l i off := elS_of Tryz.underlying168 rfl
theorem sto168 {σ : Sg} {id off : Nat} {p : PV} : storePV Tryz.prog σ 168 (.ptr id off) p = stX 1 σ id off p := stX_of Tryz.underlying168 cells168 p
attribute [go_sem] lda2 ela2 sto2 lda3 ela3 sto3 lda4 ela4 sto4 lda5 ela5 sto5 lda9 ela9 sto9 lda22 ela22 sto22 ia22 iam22 len22 lenm22 bs22 app22 lda23 ela23 sto23 fa23_0 fae23_0 fp23_0 fa23_1 fae23_1 fp23_1 fa23_2 fae23_2 fp23_2 fa23_3 fae23_3 fp23_3 fa23_4 fae23_4 fp23_4 fa23_5 fae23_5 fp23_5 fa23_6 fae23_6 fp23_6 bld23 lda24 ela24 sto24 fa24_0 fae24_0 fp24_0 fa24_1 fae24_1 fp24_1 fa24_2 fae24_2 fp24_2 fa24_3 fae24_3 fp24_3 fa24_4 fae24_4 fp24_4 fa24_5 fae24_5 fp24_5 fa24_6 fae24_6 fp24_6 bld24 lda25 ela25 sto25 ia25 iam25 len25 lenm25 bs25 app25 lda26 ela26 sto26 ia26 iam26 len26 lenm26 bs26 app26 lda27 ela27 sto27 ia27 iam27 len27 lenm27 bs27 app27 lda28 ela28 sto28 fa28_0 fae28_0 fp28_0 fa28_1 fae28_1 fp28_1 fa28_2 fae28_2 fp28_2 bld28 lda29 ela29 sto29 fa29_0 fae29_0 fp29_0 fa29_1 fae29_1 fp29_1 fa29_2 fae29_2 fp29_2 bld29 lda32 ela32 sto32 lda35 ela35 sto35 ia35 iam35 len35 lenm35 bs35 app35 lda38 ela38 sto38 ia38 iam38 len38 lenm38 bs38 app38 lda41 ela41 sto41 ia41 iam41 len41 lenm41 bs41 app41 lda42 ela42 sto42 lda50 ela50 sto50 fa50_0 fae50_0 fp50_0 fa50_1 fae50_1 fp50_1 fa50_2 fae50_2 fp50_2 fa50_3 fae50_3 fp50_3 bld50 lda51 ela51 sto51 fa51_0 fae51_0 fp51_0 fa51_1 fae51_1 fp51_1 fa51_2 fae51_2 fp51_2 fa51_3 fae51_3 fp51_3 bld51 lda54 ela54 sto54 fa54_0 fae54_0 fp54_0 fa54_1 fae54_1 fp54_1 fa54_2 fae54_2 fp54_2 bld54 lda55 ela55 sto55 fa55_0 fae55_0 fp55_0 fa55_1 fae55_1 fp55_1 fa55_2 fae55_2 fp55_2 bld55 lda59 ela59 sto59 ia59 iam59 len59 lenm59 bs59 app59 lda62 ela62 sto62 fa62_0 fae62_0 fp62_0 fa62_1 fae62_1 fp62_1 eqs62 bld62 lda63 ela63 sto63 fa63_0 fae63_0 fp63_0 fa63_1 fae63_1 fp63_1 eqs63 bld63 lda75 ela75 sto75 ia75 iam75 len75 lenm75 bs75 app75 lda87 ela87 sto87 lda88 ela88 sto88 fa88_0 fae88_0 fp88_0 eqs88 bld88 lda89 ela89 sto89 fa89_0 fae89_0 fp89_0 eqs89 bld89 lda93 ela93 sto93 fa93_0 fae93_0 fp93_0 fa93_1 fae93_1 fp93_1 eqs93 bld93 lda94 ela94 sto94 fa94_0 fae94_0 fp94_0 fa94_1 fae94_1 fp94_1 eqs94 bld94 lda96 ela96 sto96 fa96_0 fae96_0 fp96_0 fa96_1 fae96_1 fp96_1 eqs96 bld96 lda97 ela97 sto97 fa97_0 fae97_0 fp97_0 fa97_1 fae97_1 fp97_1 eqs97 bld97 lda98 ela98 sto98 lda99 ela99 sto99 lda103 ela103 sto103 lda107 ela107 sto107 fa107_0 fae107_0 fp107_0 bld107 lda108 ela108 sto108 fa108_0 fae108_0 fp108_0 bld108 lda112 ela112 sto112 lda115 ela115 sto115 fa115_0 fae115_0 fp115_0 fa115_1 fae115_1 fp115_1 eqs115 bld115 lda116 ela116 sto116 fa116_0 fae116_0 fp116_0 fa116_1 fae116_1 fp116_1 eqs116 bld116 lda125 ela125 sto125 ia125 iam125 len125 lenm125 bs125 app125 lda126 ela126 sto126 lda131 ela131 sto131 lda132 ela132 sto132 ia132 iam132 len132 lenm132 bs132 app132 lda141 ela141 sto141 iar141 ix141 lda142 ela142 sto142 iar142 ix142 lda145 ela145 sto145 lda148 ela148 sto148 lda156 ela156 sto156 lda161 ela161 sto161 lda164 ela164 sto164 lda168 ela168 sto168 zero2 zero3 zero4 zero5 zero9 zero22 zero23 zero24 zero25 zero26 zero27 zero28 zero29 zero32 zero35 zero38 zero41 zero42 zero50 zero51 zero54 zero55 zero59 zero62 zero63 zero75 zero87 zero88 zero89 zero93 zero94 zero96 zero97 zero98 zero99 zero103 zero107 zero108 zero112 zero115 zero116 zero125 zero126 zero131 zero132 zero141 zero142 zero145 zero148 zero156 zero161 zero164 zero168
end Go.Proofs.YtgelnjmddabgpaaGreat
namespace Go.Proofs.YtgelnjmddabgpaaGreat
open Go Go.RowKit
theorem seqN {K : Env → Sg → Prop} {Q : Exit → Env → Sg → Prop} {E : Env} {σ : Sg} : Seq K Q .normal E σ = K E σ := rfl
theorem seqR {K : Env → Sg → Prop} {Q : Exit → Env → Sg → Prop} {E : Env} {σ : Sg} : Seq K Q .ret E σ = Q .ret E σ := rfl
theorem seqX {K : Env → Sg → Prop} {Q : Exit → Env → Sg → Prop} {E : Env} {σ : Sg} {i : Nat} : Seq K Q (.exit i) E σ = Q (.exit i) E σ := rfl
theorem blkN {i : Nat} {Q : Exit → Env → Sg → Prop} {E : Env} {σ : Sg} : InBlock i Q .normal E σ = Q .normal E σ := rfl
theorem blkR {i : Nat} {Q : Exit → Env → Sg → Prop} {E : Env} {σ : Sg} : InBlock i Q .ret E σ = Q .ret E σ := rfl
theorem blkX {i j : Nat} {Q : Exit → Env → Sg → Prop} {E : Env} {σ : Sg} : InBlock i Q (.exit j) E σ = if j = i then Q .normal E σ else Q (.exit j) E σ := rfl
theorem range0 : List.range 0 = [] := rfl
theorem range1 : List.range 1 = [0] := rfl
theorem range2 : List.range 2 = [0, 1] := rfl
theorem range3 : List.range 3 = [0, 1, 2] := rfl
theorem range4 : List.range 4 = [0, 1, 2, 3] := rfl
theorem range5 : List.range 5 = [0, 1, 2, 3, 4] := rfl
theorem range6 : List.range 6 = [0, 1, 2, 3, 4, 5] := rfl
theorem range7 : List.range 7 = [0, 1, 2, 3, 4, 5, 6] := rfl
theorem range8 : List.range 8 = [0, 1, 2, 3, 4, 5, 6, 7] := rfl
theorem range9 : List.range 9 = [0, 1, 2, 3, 4, 5, 6, 7, 8] := rfl
theorem range10 : List.range 10 = [0, 1, 2, 3, 4, 5, 6, 7, 8, 9] := rfl
theorem range11 : List.range 11 = [0, 1, 2, 3, 4, 5, 6, 7, 8, 9, 10] := rfl
theorem range12 : List.range 12 = [0, 1, 2, 3, 4, 5, 6, 7, 8, 9, 10, 11] := rfl
theorem range13 : List.range 13 = [0, 1, 2, 3, 4, 5, 6, 7, 8, 9, 10, 11, 12] := rfl
theorem range14 : List.range 14 = [0, 1, 2, 3, 4, 5, 6, 7, 8, 9, 10, 11, 12, 13] := rfl
theorem range15 : List.range 15 = [0, 1, 2, 3, 4, 5, 6, 7, 8, 9, 10, 11, 12, 13, 14] := rfl
theorem range16 : List.range 16 = [0, 1, 2, 3, 4, 5, 6, 7, 8, 9, 10, 11, 12, 13, 14, 15] := rfl
attribute [go_sem] range0 range1 range2 range3 range4 range5 range6 range7 range8 range9 range10 range11 range12 range13 range14 range15 range16
attribute [go_sem low] Sg.push_new Sg.pushRoom_new Sg.pushY_new
attribute [go_sem] Sg.ext_ext
attribute [go_sem] seqN seqR seqX blkN blkR blkX
attribute [go_sem] GL GD GWant_true GWant_false GOpt_some GWho_nobody GWho_fn GWho_yield GOr_true wantedPV whom effOp pureOp isNilC isNilV ev constPV constPV0 Option.map Option.bind decide_false ite_true ite_false eq_self gt_iff_lt ge_iff_le Env.put Env.get dstOK Nat.reduceLT decide_true Nat.reduceEqDiff argsEnv Nat.reduceAdd binPV bin arith isShift pickPV keep List.map Bool.true_and Bool.and_true reduceIte List.getElem?_toArray List.getElem?_cons_succ List.getElem?_cons_zero beq_true beq_false Bool.not_true Bool.not_false Bool.false_eq_true true_and and_true undefs Dem Option.map_some Option.map_none builtinPV foldMax foldMin unPV extractPV oneOr Sg.push_ext Sg.pushRoom_ext Sg.len_ext Sg.rooms_ext Sg.ys_ext Sg.pushY_ext Sg.ysget_ext Sg.ysget_ext0 Sg.setY_ext Sg.setY_ext0 Sg.popY_ext Sg.popY_ext0 ldS_ext ldS_ext0 ldA_ext ldA_ext0 stX_ext stX_ext0 List.cons_append List.nil_append List.length_cons List.length_nil Nat.zero_add Nat.add_zero List.set_cons_zero List.set_cons_succ PV.cells_agg PV.cells_int PV.cells_bool PV.cells_str PV.cells_isl PV.cells_nilsl PV.cells_func PV.cells_ptr PV.cells_undef defd PV.scalar List.all_cons List.all_nil BEq.rfl Nat.le_refl Nat.reduceLeDiff putCells fillPV List.take_succ_cons List.take_zero List.drop_succ_cons List.drop_zero and_self Nat.reduceMul Nat.reducePow Nat.lt_add_one Nat.reduceBEq List.length_map List.take_nil List.drop_nil
end Go.Proofs.YtgelnjmddabgpaaGreat
namespace Go.Proofs.YtgelnjmddabgpaaGreat
open Go Go.RowKit
theorem setVar_some {σ : Sg} {id i : Nat} {cs cs' x : List PV} (hid : σ.store[id]? = some (some cs)) (h : (σ.setVar id cs').store[i]? = some (some x)) : (i = id ∧ x = cs') ∨ (i ≠ id ∧ σ.store[i]? = some (some x)) := by
  have h' : (σ.store.set id (some cs'))[i]? = some (some x) := h
  rw [List.getElem?_set] at h'
  by_cases e : id = i
  · subst e
    rw [if_pos rfl, if_pos (List.getElem?_eq_some_iff.1 hid).1] at h'
    injection h' with h'
    injection h' with h'
    exact .inl ⟨rfl, h'.symm⟩
  · rw [if_neg e] at h'
    exact .inr ⟨fun e' => e e'.symm, h'⟩
theorem SR.reread {Ψ : Ty} {σ : Sg} {w : World} (h : SR Ψ σ w) {id : Nat} {cs cs' : List PV} (hid : σ.store[id]? = some (some cs))
    (hv : ∀ b, Ψ.β[id]? = some b → Keeps Ψ w b cs → Keeps Ψ w b cs') : SR Ψ (σ.setVar id cs') w := by
  have old : ∀ (i : Nat) (x : List PV), (σ.setVar id cs').store[i]? = some (some x) → ∃ y, σ.store[i]? = some (some y) := fun i x hx => by
    rcases setVar_some hid hx with ⟨rfl, _⟩ | ⟨_, h'⟩
    · exact ⟨_, hid⟩
    · exact ⟨_, h'⟩
  refine ⟨h.base, h.imm, by rw [sv_len]; exact h.blen, ?_, ?_, ?_, h.roomsApart, h.histlt, h.histle, h.βlt, h.yok, h.ylen', h.dok, ?_, h.szok⟩
  · intro i x b hx hb
    rcases setVar_some hid hx with ⟨rfl, rfl⟩ | ⟨_, h'⟩
    · obtain ⟨a1, a2, a0⟩ := h.block i cs b hid hb
      exact ⟨a1, a2, hv b hb a0⟩
    · exact h.block i x b h' hb
  · intro i i' x x' b hx hx' hb hb'
    obtain ⟨y, hy⟩ := old i x hx
    obtain ⟨y', hy'⟩ := old i' x' hx'
    exact h.apart i i' y y' b hy hy' hb hb'
  · intro r n b e c es hr hh hlt
    obtain ⟨a1, a2, a3, a4⟩ := h.room r n b e c es hr hh hlt
    refine ⟨a1, a2, fun i hi x hx => ?_, a4⟩
    obtain ⟨y, hy⟩ := old i x hx
    exact a3 i hi y hy
  · intro b c hm
    obtain ⟨a1, a2, a3, a4, a5⟩ := h.rok b c hm
    refine ⟨a1, a2, fun i hi x hx => ?_, a4, a5⟩
    obtain ⟨y, hy⟩ := old i x hx
    exact a3 i hi y hy
theorem Weak.roomV {N : Nat} {lo : Nat × Nat} {E : Env} {σ : Sg} {id off es : Nat} {cs l : List PV} (hid : σ.store[id]? = some (some cs)) (hc : cs[off]? = some (.isl l .exact)) (hes : ∀ q, q ∈ l → q.cells.length = es) :
    Weak N lo E σ E ((σ.setVar id (cs.set off (.isl l (.tok σ.rooms.length l.length es)))).pushRoom l.length) := by
  intro Ψ0 Ψ D a w hb le hr
  obtain ⟨b, hβ⟩ : ∃ b, Ψ.β[id]? = some b := by
    have : id < Ψ.β.length := by rw [hr.sg.blen]; exact (List.getElem?_eq_some_iff.1 hid).1
    exact ⟨Ψ.β[id], by simp [this]⟩
  obtain ⟨_, _, h0⟩ := hr.sg.block id cs b hid hβ
  obtain ⟨c, hbi, hcl, hcv⟩ : ∃ c, blockIs w b c ∧ cs.length ≤ c.size ∧ ∀ (j : Nat) (p : PV) (v : Value), cs[j]? = some p → c[j]? = some v → VR Ψ p v := by
    rcases h0 with h0 | ⟨arr, es, rfl, _, g1, g2⟩
    · exact h0
    · rcases off with _ | off
      · simp at hc
      simp only [List.getElem?_cons_succ] at hc
      have hlt : off < arr.size := by rw [g1]; exact (List.getElem?_eq_some_iff.1 hc).1
      obtain ⟨_, k, v, e, _⟩ := g2 off _ arr[off] hc (by simp [hlt])
      cases e
  have hoff : off < cs.length := (List.getElem?_eq_some_iff.1 hc).1
  have hoc : off < c.size := Nat.lt_of_lt_of_le hoff hcl
  have hv : VR Ψ (.isl l .exact) c[off] := hcv off _ _ hc (by simp [hoc])
  have fin : ∀ x : Option (Nat × Nat × Nat × Nat), (∀ b e c s, x = some (b, e, c, s) → ¬ e < c) → (∀ Ψ', Ψ.le Ψ' → Ψ'.hist σ.rooms.length l.length = some x → VR Ψ' (.isl l (.tok σ.rooms.length l.length es)) c[off]) →
      ∃ Ψ', Ψ0.le Ψ' ∧ Rel N D Ψ' E ((σ.setVar id (cs.set off (.isl l (.tok σ.rooms.length l.length es)))).pushRoom l.length) a w := by
    intro x hx hvr
    obtain ⟨le', hs'⟩ := hr.sg.newRoom l.length x (fun b e c s hh hlt => absurd hlt (hx b e c s hh))
    have hnew := hvr _ le' (by simp [Ty.addHist])
    have hid' : (σ.pushRoom l.length).store[id]? = some (some cs) := hid
    have hs2 := hs'.reread (cs' := cs.set off (.isl l (.tok σ.rooms.length l.length es))) hid' (fun b2 hb2 h2 => by
      have e1 : b2 = b := by
        have := le'.β id b hβ
        rw [hb2] at this; injection this
      subst e1
      obtain ⟨g1, g2⟩ := h2.cells hbi
      refine .inl ⟨c, hbi, by simpa using g1, fun j p v h1 h2 => ?_⟩
      rw [List.getElem?_set] at h1
      by_cases hj : off = j
      · subst hj
        rw [if_pos rfl, if_pos hoff] at h1
        injection h1 with h1
        subst h1
        have : v = c[off] := by simpa [hoc] using h2.symm
        rw [this]; exact hnew
      · rw [if_neg hj] at h1
        exact g2 j p v h1 h2)
    refine ⟨_, le.trans le', hr.size, fun t' => (hr.env t').mono le', hs2, fun d hd => le'.ds _ (hr.dsub d hd), ?_⟩
    obtain ⟨rs, r1, r2, r3⟩ := hr.defs
    exact ⟨rs, r1, r2, fun r hm => ⟨le'.ds _ (r3 r hm).1, (r3 r hm).2⟩⟩
  generalize hx : c[off] = x at hv fin
  cases hv with
  | islnil _ a0 _ => exact fin none (fun b e c s h => by cases h) fun Ψ' _ hh => .islnil _ a0 ⟨_, hh⟩
  | isl es0 _ _ b o cap vals hs h1 h2 hc' ho =>
    have hcap : cap = l.length := ho
    subst hcap
    refine fin (some (b, o + l.length * es, o + l.length * es, es)) (fun b e c s h => by injection h with h; injection h with _ h; injection h with h1 h; injection h with h2 _; omega) fun Ψ' le' hh => ?_
    by_cases hl : l = []
    · subst hl
      exact .isl es [] _ b o 0 vals (fun k e h => by simp at h) (fun k e j p h => by simp at h) (fun k e j p h => by simp at h) (Nat.le_refl _) ⟨rfl, hh⟩
    · have : es0 = es := by
        cases l with
        | nil => exact absurd rfl hl
        | cons q l => rw [← hs 0 q rfl]; exact hes q (by simp)
      subst this
      exact .isl es0 l _ b o _ vals hs (fun k e j p q1 q2 => le'.imm _ _ _ (h1 k e j p q1 q2)) (fun k e j p q1 q2 => (h2 k e j p q1 q2).mono le') (Nat.le_refl _) ⟨rfl, hh⟩
/-- The same for a variable that is new. -/
theorem Weak.roomX {N : Nat} {lo : Nat × Nat} {E : Env} {σ : Sg} {l : List (Option (List PV))} {rm : List Nat} {ys : List LState} {j off es : Nat} {cs m : List PV} (hid : l[j]? = some (some cs)) (hc : cs[off]? = some (.isl m .exact)) (hes : ∀ q, q ∈ m → q.cells.length = es) :
    Weak N lo E (σ.ext l rm ys) E (σ.ext (l.set j (some (cs.set off (.isl m (.tok (σ.rooms.length + rm.length) m.length es))))) (rm ++ [m.length]) ys) := by
  have h := Weak.roomV (N := N) (lo := lo) (E := E) (σ := σ.ext l rm ys) (id := σ.store.length + j) (off := off) (es := es) (cs := cs) (l := m) (by rw [Sg.get_ext]; exact hid) hc hes
  rw [Sg.rooms_ext, Sg.set_ext, Sg.pushRoom_ext] at h
  exact h
/-- Cut back, where a variable that was there before was set. -/
theorem Weak.cutSV {N : Nat} {lo : Nat × Nat} {E : Env} {σ : Sg} {d : Nat} {ds : List PV} {l : List (Option (List PV))} {rm : List Nat} {ys : List LState} (k j : Nat) (h1 : lo.1 ≤ σ.store.length + k) (h2 : lo.2 ≤ σ.rooms.length + j) (hcl : CleanSg σ) (hds : CleanAll σ.store.length σ.rooms.length σ.ys.length ds)
    (hc : CleanLs (σ.store.length + k) (σ.rooms.length + j) (σ.ys.length + ys.length) (l.take k)) (hE : CleanEs (σ.store.length + k) (σ.rooms.length + j) (σ.ys.length + ys.length) E) :
    Weak N lo E ((σ.setVar d ds).ext l rm ys) E ((σ.setVar d ds).ext (l.take k) (rm.take j) ys) := by
  have h := Weak.cutX (N := N) (lo := lo) (E := E) (σ := σ.setVar d ds) (l := l) (rm := rm) (ys := ys) k j (by rw [sv_len]; exact h1) h2 (CleanSg_set hcl hds) (by rw [sv_len]; exact hc) (by rw [sv_len]; exact hE)
  exact h
end Go.Proofs.YtgelnjmddabgpaaGreat
namespace Go.Proofs.YtgelnjmddabgpaaGreat
open Go Go.RowKit
end Go.Proofs.YtgelnjmddabgpaaGreat
namespace Go.Proofs.YtgelnjmddabgpaaGreat
open Go Go.RowKit
end Go.Proofs.YtgelnjmddabgpaaGreat
namespace Go.Proofs.YtgelnjmddabgpaaGreat
open Go Go.RowKit
/-- The owner of a part of a slice. -/
theorem slHi_of {P : Program} {t e : TypeId} {d : TypeDesc} (h : P.underlying t = some (.slice e)) (he : P.underlying e = some d) (l : List PV) (own : Own) (k : IntKind) (n : Int) :
    slicePV P t (.isl l own) none (some (.int k n)) none = if 0 ≤ n then if n.toNat ≤ l.length then some (.isl (l.take n.toNat) (sliceOwn own 0 n.toNat l.length)) else none else none := by
  unfold slicePV
  rw [h]
  simp only [he, bnd]
  by_cases hn : 0 ≤ n
  · simp [hn]
  · simp [hn]
/-- Without an owner. -/
theorem sliceOwn_ro {lo h len : Nat} : sliceOwn .ro lo h len = .ro := by unfold sliceOwn; split <;> rfl
theorem sliceOwn_self {own : Own} {lo len : Nat} : sliceOwn own lo len len = own := by simp [sliceOwn]
attribute [go_sem] sliceOwn_ro sliceOwn_self
theorem slLo_of {P : Program} {t e : TypeId} {d : TypeDesc} {c : Nat} (h : P.underlying t = some (.slice e)) (he : P.underlying e = some d) (hc : P.cellsOf e = c) {α : Type} {f : α → PV} (hf : ∀ x, (f x).cells.length = c) (xs : List α) (own : Own) (k : IntKind) (n : Int) :
    slicePV P t (.isl (xs.map f) own) (some (.int k n)) none none = if 0 ≤ n then if n.toNat ≤ xs.length then some (.isl ((xs.drop n.toNat).map f) own) else none else none := by
  have hall : (xs.map f).all (fun el => el.cells.length == c) = true := by
    rw [List.all_eq_true]
    intro p hp
    obtain ⟨x, _, rfl⟩ := List.mem_map.1 hp
    simp [hf]
  unfold slicePV
  rw [h]
  simp only [he, bnd, hc]
  by_cases hn : 0 ≤ n
  · simp only [hn, if_true]
    by_cases hl : n.toNat ≤ xs.length
    · rw [if_pos ⟨by simpa using hl, Nat.le_refl _, .inr hall⟩, if_pos hl, sliceOwn_self, ← List.map_drop, List.take_of_length_le (by simp)]
    · rw [if_neg (fun q => hl (by simpa using q.1)), if_neg hl]
  · simp [hn]
theorem slBoth_of {P : Program} {t e : TypeId} {d : TypeDesc} {c : Nat} (h : P.underlying t = some (.slice e)) (he : P.underlying e = some d) (hc : P.cellsOf e = c) {α : Type} {f : α → PV} (hf : ∀ x, (f x).cells.length = c) (xs : List α) (own : Own) (k k' : IntKind) (n m : Int) :
    slicePV P t (.isl (xs.map f) own) (some (.int k n)) (some (.int k' m)) none = if 0 ≤ n then if 0 ≤ m then if n.toNat ≤ m.toNat ∧ m.toNat ≤ xs.length then some (.isl (((xs.drop n.toNat).take (m.toNat - n.toNat)).map f) (sliceOwn own n.toNat m.toNat xs.length)) else none else none else none := by
  have hall : (xs.map f).all (fun el => el.cells.length == c) = true := by
    rw [List.all_eq_true]
    intro p hp
    obtain ⟨x, _, rfl⟩ := List.mem_map.1 hp
    simp [hf]
  unfold slicePV
  rw [h]
  simp only [he, bnd, hc]
  by_cases hn : 0 ≤ n
  · by_cases hm : 0 ≤ m
    · simp only [hn, hm, if_true]
      by_cases hl : n.toNat ≤ m.toNat ∧ m.toNat ≤ xs.length
      · rw [if_pos ⟨hl.1, by simpa using hl.2, .inr hall⟩, if_pos hl]
        simp only [List.length_map, ← List.map_drop, ← List.map_take]
      · rw [if_neg (fun q => hl ⟨q.1, by simpa using q.2.1⟩), if_neg hl]
    · simp [hn, hm]
  · simp [hn]
end Go.Proofs.YtgelnjmddabgpaaGreat
namespace Go.Proofs.YtgelnjmddabgpaaGreat
open Go Go.RowKit
section
variable {P : Program} {t e : TypeId} {d : TypeDesc} {c b : Nat} {σ : Sg} {id len es : Nat}
theorem iaG_of (h : P.underlying t = some (.slice e)) (he : P.underlying e = some d) (hc : P.cellsOf e = c) (kd : IntKind) (len : Nat) (n : Int) : indexAddrPV P t (.gsl id len es) (.int kd n) = iaM c id 0 len n := by
  simp [indexAddrPV, h, he, hc, iaM]
theorem lenG_of (h : P.underlying t = some (.slice e)) (n : Nat) : lenPV P t (.gsl id n es) = some (.int .i64 n) := by simp [lenPV, h]
theorem lenN_of (h : P.underlying t = some (.slice e)) : lenPV P t .gnil = some (.int .i64 0) := by simp [lenPV, h]
def appG (c b : Nat) (σ : Sg) (x : PV) (m : List PV) : Option (PV × Sg) :=
  if m.all (fun q => (q.cells.length == c) && q.cells.all PV.scalar) && decide (0 < m.length) then
    (match x with
     | .gnil => if m.length * b ≤ 2 ^ 47 then some (.gsl σ.store.length m.length c, σ.push (rowC m)) else none
     | .gsl id len es => match σ.store[id]? with
       | some (some cs) => if es = c ∧ len * es ≤ cs.length ∧ (len + m.length) * b ≤ 2 ^ 47 then some (.gsl σ.store.length (len + m.length) es, (σ.drop id).push (cs.take (len * es) ++ rowC m)) else none
       | _ => none
     | _ => none)
  else none
theorem appG_of {zs : List PV} {x : PV} {m : List PV} {own : Own} (h : P.underlying t = some (.slice e)) (he : P.underlying e = some d) (hc : P.cellsOf e = c) (hb : P.bytesOf e = b) (hb0 : b ≠ 0) (hc0 : 0 < c) (hz : zeroPV P e = some zs) (hzl : zs.length = c) :
    appendG P σ t t x (.isl m own) = appG c b σ x m := by
  unfold appendG appG
  rw [h]
  simp only [he, hc, hb, hz, hzl, Option.isSome_some, Bool.true_and, Option.map_some, BEq.rfl, Bool.and_true, hb0, hc0, ne_eq, not_false_eq_true, and_self, decide_true]
  rfl
theorem appG_nil {m : List PV} (h1 : m.all (fun q => (q.cells.length == c) && q.cells.all PV.scalar) = true) (h2 : 0 < m.length) (h3 : m.length * b ≤ 2 ^ 47) : appG c b σ .gnil m = some (.gsl σ.store.length m.length c, σ.push (rowC m)) := by
  simp only [appG, h1, h2, h3, decide_true, Bool.and_true, if_true]
theorem appG_more {m cs : List PV} (hs : σ.store[id]? = some (some cs)) (hl : cs.length = len * c) (h1 : m.all (fun q => (q.cells.length == c) && q.cells.all PV.scalar) = true) (h2 : 0 < m.length) (h3 : (len + m.length) * b ≤ 2 ^ 47) :
    appG c b σ (.gsl id len c) m = some (.gsl σ.store.length (len + m.length) c, (σ.drop id).push (cs ++ rowC m)) := by
  simp only [appG, h1, h2, decide_true, Bool.and_true, if_true, hs]
  rw [if_pos ⟨trivial, by omega, h3⟩, List.take_of_length_le (by omega)]
end
theorem get_put1 (E : Env) (t : Nat) (v : PV) (t' : Nat) : (E.put (some t) v).get t' = if t' = t then v else E.get t' := by
  simp only [Env.put_some, Env.get]
  by_cases h : t' = t
  · subst h; simp
  · simp [h, Ne.symm h]
theorem rowC_at {es : Nat} : ∀ {l : List PV} (_ : ∀ q ∈ l, q.cells.length = es) {k j : Nat} {q p : PV}, l[k]? = some q → q.cells[j]? = some p → (rowC l)[k * es + j]? = some p := by
  intro l
  induction l with
  | nil => intro _ k j q p h; simp at h
  | cons a l ih =>
    intro hl k j q p h1 h2
    have ha := hl a (by simp)
    have e : rowC (a :: l) = a.cells ++ rowC l := by simp [rowC]
    rw [e]
    cases k with
    | zero =>
      simp at h1
      subst h1
      rw [Nat.zero_mul, Nat.zero_add, List.getElem?_append_left (List.getElem?_eq_some_iff.1 h2).1]
      exact h2
    | succ k =>
      have := ih (fun q hq => hl q (by simp [hq])) (by simpa using h1) h2
      rw [List.getElem?_append_right (by rw [ha, Nat.add_mul]; omega), ha, show (k + 1) * es + j - es = k * es + j by rw [Nat.add_mul]; omega]
      exact this
theorem Sg.drop_ext {σ : Sg} {l : List (Option (List PV))} {rm : List Nat} {ys : List LState} (j : Nat) : (σ.ext l rm ys).drop (σ.store.length + j) = σ.ext (l.set j none) rm ys := by
  simp [Sg.drop, Sg.ext, List.set_append]
theorem Sg.drop_ext0 {σ : Sg} {l : List (Option (List PV))} {rm : List Nat} {ys : List LState} : (σ.ext l rm ys).drop σ.store.length = σ.ext (l.set 0 none) rm ys := Sg.drop_ext 0
attribute [go_sem] Sg.drop_ext Sg.drop_ext0
/-- What a variable held is read of a temporary, and is never written again. -/
theorem Weak.freeze {N : Nat} {lo : Nat × Nat} {E : Env} {σ : Sg} {t id len es : Nat} {l : List PV} (ht : E.get t = .gsl id len es) (hs : σ.store[id]? = some (some (rowC l))) (hl : l.length = len) (hes : ∀ q ∈ l, q.cells.length = es) :
    Weak N lo E σ (E.put (some t) (.isl l .ro)) (σ.drop id) := by
  intro Ψ0 Ψ D a w hb le hr
  have hv := hr.env t
  rw [ht] at hv
  generalize hx : a.tmps.getD t undef = x at hv
  cases hv with
  | gsl _ _ _ b cap hβ hz1 hz0 hc =>
  obtain ⟨_, c, hbk, _⟩ := hr.sg.szok b 0 hz0
  obtain ⟨_, _, hkp⟩ := hr.sg.block id _ b hs hβ
  obtain ⟨a4, a5⟩ := hkp.cells hbk
  obtain ⟨le2, hs2⟩ := hr.sg.freeze hs hβ hbk
  refine ⟨_, le.trans le2, hr.size, fun t' => ?_, hs2, fun d hd => le2.ds _ (hr.dsub d hd), ?_⟩
  · rw [get_put1]
    split
    · rename_i e
      subst e
      rw [hx, ← hl]
      have hat : ∀ (k : Nat) (q : PV) (j : Nat) (p : PV), l[k]? = some q → q.cells[j]? = some p → (rowC l)[k * es + j]? = some p ∧ k * es + j < c.size := fun k q j p q1 q2 => by
        have := rowC_at hes q1 q2
        exact ⟨this, Nat.lt_of_lt_of_le (List.getElem?_eq_some_iff.1 this).1 a4⟩
      refine .isl es l .ro b 0 cap (fun k j => c.getD (k * es + j) undef) (fun k q hk => hes q (List.mem_of_getElem? hk)) (fun k q j p q1 q2 => ?_) (fun k q j p q1 q2 => ?_) (by omega) trivial
      · obtain ⟨_, hlt⟩ := hat k q j p q1 q2
        simp only [Ty.addImm, Nat.zero_add]
        rw [if_pos ⟨trivial, Nat.zero_le _, hlt⟩]
        simp [Array.getD, hlt]
      · obtain ⟨h1, hlt⟩ := hat k q j p q1 q2
        refine (a5 _ p _ h1 ?_).mono le2
        simp [Array.getD, hlt]
    · exact (hr.env t').mono le2
  · obtain ⟨rs, r1, r2, r3⟩ := hr.defs
    exact ⟨rs, r1, r2, fun r hm => ⟨le2.ds _ (r3 r hm).1, (r3 r hm).2⟩⟩
/-- A slice without room, told otherwise: to grow in place. -/
theorem Weak.gnil {N : Nat} {lo : Nat × Nat} {E : Env} {σ : Sg} {t : Nat} (ht : E.get t = .isl [] .exact) : Weak N lo E σ (E.put (some t) .gnil) σ := by
  intro Ψ0 Ψ D a w hb le hr
  refine ⟨Ψ, le, hr.size, fun t' => ?_, hr.sg, hr.dsub, hr.defs⟩
  rw [get_put1]
  split
  · rename_i e
    subst e
    have hv := hr.env t'
    rw [ht] at hv
    generalize a.tmps.getD t' undef = x at hv
    cases hv with
    | islnil _ a' _ => exact .gnil a'
    | isl es _ _ b o cap vals hs h1 h2 hc ho =>
      have : cap = 0 := ho
      subst this
      exact .gnil _
  · exact hr.env t'
end Go.Proofs.YtgelnjmddabgpaaGreat
namespace Go.Proofs.YtgelnjmddabgpaaGreat
open Go Go.RowKit
/-- A map's entries. -/
def mapE {κ ν : Type} (ek : κ → PV) (ev : ν → PV) (l : List (κ × ν)) : List PV := l.map fun e => .tuple [ek e.1, ev e.2]
theorem mapE_cons {κ ν : Type} (ek : κ → PV) (ev : ν → PV) (e : κ × ν) (l : List (κ × ν)) : mapE ek ev (e :: l) = .tuple [ek e.1, ev e.2] :: mapE ek ev l := rfl
theorem mapE_append {κ ν : Type} (ek : κ → PV) (ev : ν → PV) (l m : List (κ × ν)) : mapE ek ev (l ++ m) = mapE ek ev l ++ mapE ek ev m := by simp [mapE]
section
variable {κ ν : Type} [DecidableEq κ]
def aget (k : κ) : List (κ × ν) → Option ν
  | [] => none
  | e :: l => if k = e.1 then some e.2 else aget k l
def aput (k : κ) (v : ν) : List (κ × ν) → List (κ × ν)
  | [] => [(k, v)]
  | e :: l => if k = e.1 then (k, v) :: l else e :: aput k v l
theorem aget_put (k k' : κ) (v : ν) : ∀ l : List (κ × ν), aget k' (aput k v l) = if k' = k then some v else aget k' l := by
  intro l
  induction l with
  | nil => rfl
  | cons e l ih =>
    simp only [aput]
    split
    · rename_i h
      subst h
      simp only [aget]
      split <;> rfl
    · rename_i h
      simp only [aget]
      split
      · rename_i h2
        subst h2
        rw [if_neg (fun e => h e.symm)]
      · exact ih
theorem aget_append (k : κ) : ∀ l m : List (κ × ν), aget k (l ++ m) = match aget k l with | some v => some v | none => aget k m := by
  intro l m
  induction l with
  | nil => rfl
  | cons e l ih =>
    simp only [List.cons_append, aget]
    split
    · rfl
    · exact ih
theorem aget_mem {k : κ} {v : ν} : ∀ {l : List (κ × ν)}, aget k l = some v → (k, v) ∈ l := by
  intro l
  induction l with
  | nil => intro h; cases h
  | cons e l ih =>
    intro h
    simp only [aget] at h
    split at h
    · rename_i he
      injection h with h
      subst he h
      simp
    · exact List.mem_cons_of_mem _ (ih h)
/-- The keys of a type are told apart as their readings are. -/
def KeyOK (P : Program) (kt : TypeId) (ek : κ → PV) : Prop := ∀ a b, keyEq P kt (ek a) (ek b) = some (decide (a = b))
def afind (k : κ) : List (κ × ν) → Nat → Option (Nat × ν)
  | [], _ => none
  | e :: l, i => if k = e.1 then some (i, e.2) else afind k l (i + 1)
theorem findPV_map {P : Program} {kt : TypeId} {ek : κ → PV} (h : KeyOK P kt ek) (ev : ν → PV) (k : κ) : ∀ (l : List (κ × ν)) (i : Nat), findPV P kt (ek k) (mapE ek ev l) i = some ((afind k l i).map fun r => (r.1, ev r.2)) := by
  intro l
  induction l with
  | nil => intro i; rfl
  | cons e l ih =>
    intro i
    simp only [mapE_cons, findPV, afind]
    rw [h k e.1]
    by_cases he : k = e.1
    · simp [he]
    · simp only [he, decide_false, if_neg, not_false_eq_true]
      exact ih (i + 1)
theorem afind_get (k : κ) : ∀ (l : List (κ × ν)) (i : Nat), (afind k l i).map (·.2) = aget k l := by
  intro l
  induction l with
  | nil => intro i; rfl
  | cons e l ih =>
    intro i
    simp only [afind, aget]
    split
    · rfl
    · exact ih (i + 1)
theorem afind_put (ek : κ → PV) (ev : ν → PV) (k : κ) (v : ν) : ∀ (l : List (κ × ν)) (i : Nat), match afind k l i with
    | none => aput k v l = l ++ [(k, v)]
    | some (j, _) => i ≤ j ∧ (mapE ek ev l).set (j - i) (.tuple [ek k, ev v]) = mapE ek ev (aput k v l) := by
  intro l
  induction l with
  | nil => intro i; rfl
  | cons e l ih =>
    intro i
    simp only [afind, aput]
    by_cases he : k = e.1
    · rw [if_pos he, if_pos he]
      simp [mapE_cons]
    · rw [if_neg he, if_neg he]
      have := ih (i + 1)
      cases hf : afind k l (i + 1) with
      | none => rw [hf] at this; simp only at this ⊢; rw [this]; rfl
      | some r =>
        rw [hf] at this
        obtain ⟨j, x⟩ := r
        simp only at this ⊢
        refine ⟨by omega, ?_⟩
        rw [show j - i = j - (i + 1) + 1 by omega, mapE_cons, List.set_cons_succ, this.2, mapE_cons]
def lkM (P : Program) (kt : TypeId) (z : PV) (b : Option (Option (List PV))) (k : PV) (ok : Bool) : Option PV :=
  match b with
  | some (some (.mark :: es)) => match findPV P kt k es 0 with
    | some (some (_, v)) => some (packPV ok v true)
    | some none => some (packPV ok z false)
    | none => none
  | _ => none
def lkX (P : Program) (kt : TypeId) (z : PV) (σ : Sg) (id : Nat) (k : PV) (ok : Bool) : Option PV := lkM P kt z σ.store[id]? k ok
def upM (P : Program) (kt : TypeId) (b : Option (Option (List PV))) (k v : PV) : Option (List PV) :=
  match b with
  | some (some (.mark :: es)) => match findPV P kt k es 0 with
    | some (some (j, _)) => some (.mark :: es.set j (.tuple [k, v]))
    | some none => some (.mark :: (es ++ [.tuple [k, v]]))
    | none => none
  | _ => none
def upX (P : Program) (kt : TypeId) (σ : Sg) (id : Nat) (k v : PV) : Option Sg := (upM P kt σ.store[id]? k v).map fun cs => σ.setVar id cs
theorem lk_of {P : Program} {t kt et : TypeId} {kd : TypeDesc} {z : PV} (h : P.underlying t = some (.map kt et)) (hk : P.underlying kt = some kd) (hz : zeroOne P et = some z) {k : PV} (hf : keyFor P kd k = true) (σ : Sg) (id : Nat) (ok : Bool) :
    lookupPV P σ t (.map id) k ok = lkX P kt z σ id k ok := by
  simp only [lookupPV, h, hk, hz, hf, if_true, lkX, lkM]
  rfl
theorem up_of {P : Program} {t kt et : TypeId} {kd : TypeDesc} (h : P.underlying t = some (.map kt et)) (hk : P.underlying kt = some kd) {k : PV} (hf : keyFor P kd k = true) (v : PV) (σ : Sg) (id : Nat) :
    updatePV P σ t (.map id) k v = upX P kt σ id k v := by
  simp only [updatePV, h, hk, hf, if_true, upX, upM]
  generalize σ.store[id]? = b
  rcases b with _ | _ | cs
  · rfl
  · rfl
  · rcases cs with _ | ⟨c, cs⟩
    · rfl
    · cases c <;> try rfl
      simp only
      rcases findPV P kt k cs 0 with _ | _ | ⟨j, x⟩ <;> rfl
theorem lkM_map {P : Program} {kt : TypeId} {z : PV} {ek : κ → PV} (h : KeyOK P kt ek) (ev : ν → PV) (l : List (κ × ν)) (k : κ) (ok : Bool) :
    lkM P kt z (some (some (.mark :: mapE ek ev l))) (ek k) ok = some (packPV ok (match aget k l with | some v => ev v | none => z) (aget k l).isSome) := by
  simp only [lkM, findPV_map h]
  rw [← afind_get k l 0]
  cases afind k l 0 with
  | none => rfl
  | some r => rfl
theorem upM_map {P : Program} {kt : TypeId} {ek : κ → PV} (h : KeyOK P kt ek) (ev : ν → PV) (l : List (κ × ν)) (k : κ) (v : ν) :
    upM P kt (some (some (.mark :: mapE ek ev l))) (ek k) (ev v) = some (.mark :: mapE ek ev (aput k v l)) := by
  simp only [upM, findPV_map h]
  have := afind_put ek ev k v l 0
  cases hf : afind k l 0 with
  | none =>
    rw [hf] at this
    simp only at this
    simp only [Option.map_none, this, mapE_append]
    rfl
  | some r =>
    rw [hf] at this
    obtain ⟨j, x⟩ := r
    simp only [Option.map_some]
    have h2 := this.2
    simp only [Nat.sub_zero] at h2
    rw [h2]
end
section
variable {P : Program} {kt : TypeId} {z : PV} {σ : Sg} {l : List (Option (List PV))} {rm : List Nat} {ys : List LState} {j d : Nat} {cs : List PV} {k v : PV} {ok : Bool}
theorem lkX_at (h : σ.store[d]? = some (some cs)) : lkX P kt z σ d k ok = lkM P kt z (some (some cs)) k ok := by simp only [lkX, h]
theorem lkX_ext : lkX P kt z (σ.ext l rm ys) (σ.store.length + j) k ok = lkM P kt z l[j]? k ok := by simp only [lkX, Sg.get_ext]
theorem lkX_ext0 : lkX P kt z (σ.ext l rm ys) σ.store.length k ok = lkM P kt z l[0]? k ok := by simp only [lkX, Sg.get_ext0]
theorem lkX_old (h : d < σ.store.length) : lkX P kt z (σ.ext l rm ys) d k ok = lkX P kt z σ d k ok := by simp only [lkX, ext_get h]
theorem upX_ext : upX P kt (σ.ext l rm ys) (σ.store.length + j) k v = (upM P kt l[j]? k v).map fun cs => σ.ext (l.set j (some cs)) rm ys := by simp only [upX, Sg.get_ext, Sg.set_ext]
theorem upX_ext0 : upX P kt (σ.ext l rm ys) σ.store.length k v = (upM P kt l[0]? k v).map fun cs => σ.ext (l.set 0 (some cs)) rm ys := by simp only [upX, Sg.get_ext0, Sg.set_ext0]
theorem lkX_svx : lkX P kt z ((σ.setVar d cs).ext l rm ys) (σ.store.length + j) k ok = lkM P kt z l[j]? k ok := by
  have := lkX_ext (P := P) (kt := kt) (z := z) (σ := σ.setVar d cs) (l := l) (rm := rm) (ys := ys) (j := j) (k := k) (ok := ok)
  rw [sv_len] at this
  exact this
theorem Cl_map {a b c id : Nat} : Clean a b c (.map id) = (id < a) := propext ⟨fun h => by cases h; assumption, fun h => .mapv _ h⟩
theorem Cl_nilmap {a b c : Nat} : Clean a b c .nilmap = True := eq_true .nilmap
theorem Cl_mark {a b c : Nat} : Clean a b c .mark = True := eq_true .mark
theorem Cl_gsl {a b c id len es : Nat} : Clean a b c (.gsl id len es) = (id < a) := propext ⟨fun h => by cases h; assumption, fun h => .gsl _ _ _ h⟩
theorem Cl_gnil {a b c : Nat} : Clean a b c .gnil = True := eq_true .gnil
theorem CleanAll_mapE {κ ν : Type} {a b c : Nat} {ek : κ → PV} {ev : ν → PV} {l : List (κ × ν)} (h1 : ∀ x, Clean a b c (ek x)) (h2 : ∀ x, Clean a b c (ev x)) : CleanAll a b c (mapE ek ev l) = True := eq_true fun p hp => by
  obtain ⟨e, _, rfl⟩ := List.mem_map.1 hp
  refine .tuple _ fun q hq => ?_
  simp only [List.mem_cons, List.not_mem_nil, or_false] at hq
  rcases hq with rfl | rfl
  · exact h1 _
  · exact h2 _
end
end Go.Proofs.YtgelnjmddabgpaaGreat
namespace Go.Proofs.YtgelnjmddabgpaaGreat
open Go Go.RowKit
structure Scale where
  schools : Int
  matters : Int
  judges : Int
  drop : Int
  low : Int
  high : Int
  order : List Int
  deriving DecidableEq
structure Envl where
  matter : Int
  judge : Int
  marks : List Int
  sl : Int
  deriving DecidableEq
structure Night where
  opened : List Envl
  absent : List (Int × Int)
  fines : List (Int × Int)
  deriving DecidableEq
structure Stand where
  school : Int
  total : Int
  points : List Int
  deriving DecidableEq
abbrev intsO (o : Own) (xs : List Int) : PV := .isl (xs.map I) o
def stPV (s : Int × Int) : PV := .agg [I s.1, I s.2]
def scCells (s : Scale) : List PV := [I s.schools, I s.matters, I s.judges, I s.drop, I s.low, I s.high, ints s.order]
def scPV (s : Scale) : PV := .agg (scCells s)
def evCells (e : Envl) : List PV := [I e.matter, I e.judge, ints e.marks, I e.sl]
def evPV (e : Envl) : PV := .agg (evCells e)
abbrev sts (l : List (Int × Int)) : PV := .isl (l.map stPV) .ro
abbrev evs (l : List Envl) : PV := .isl (l.map evPV) .ro
def ngCells (n : Night) : List PV := [evs n.opened, sts n.absent, sts n.fines]
def ngPV (n : Night) : PV := .agg (ngCells n)
def sdCells (x : Stand) : List PV := [I x.school, I x.total, ints x.points]
def sdPV (x : Stand) : PV := .agg (sdCells x)
abbrev sds (l : List Stand) : PV := .isl (l.map sdPV) .ro
def llPV (xs : List Int) : PV := ints xs
section
variable {α : Type} {f : α → PV} {xs : List α} {i : Nat} {x : α} {c k off : Nat}
theorem iaX_map (h : xs[i]? = some x) (hc : (f x).cells.length = c) : iaX c (xs.map f) (i : Int) = some (.eptr c (xs.map f) i 0) := by
  have hlt : i < xs.length := (List.getElem?_eq_some_iff.1 h).1
  have hx : xs[i] = x := (List.getElem?_eq_some_iff.1 h).2
  unfold iaX
  rw [if_pos ⟨Int.natCast_nonneg _, by simpa using hlt⟩]
  simp [hlt, hx, hc]
end
theorem Clean.map {α : Type} {a b c : Nat} {f : α → PV} {xs : List α} {o : Own} (ho : ∀ r n es, o = .tok r n es → r < b) (h : ∀ x, Clean a b c (f x)) : Clean a b c (.isl (xs.map f) o) :=
  .isl _ _ (fun e he => by obtain ⟨x, _, rfl⟩ := List.mem_map.1 he; exact h x) ho
theorem noTok {b : Nat} : ∀ r n es, Own.ro = .tok r n es → r < b := fun r n es e => by cases e
theorem clean_ints {a b c : Nat} (xs : List Int) : Clean a b c (ints xs) := Clean.ints xs .ro noTok
theorem clean_ll {a b c : Nat} (xs : List Int) : Clean a b c (llPV xs) := Clean.ints xs .ro noTok
theorem clean_st {a b c : Nat} (s : Int × Int) : Clean a b c (stPV s) := .agg _ (Clean.all_cons (.int _ _) (Clean.all_cons (.int _ _) Clean.all_nil))
theorem cleans_sc {a b c : Nat} (s : Scale) : ∀ p, p ∈ scCells s → Clean a b c p :=
  Clean.all_cons (.int _ _) (Clean.all_cons (.int _ _) (Clean.all_cons (.int _ _) (Clean.all_cons (.int _ _) (Clean.all_cons (.int _ _) (Clean.all_cons (.int _ _) (Clean.all_cons (clean_ints _) Clean.all_nil))))))
theorem cleans_ev {a b c : Nat} (x : Envl) : ∀ p, p ∈ evCells x → Clean a b c p :=
  Clean.all_cons (.int _ _) (Clean.all_cons (.int _ _) (Clean.all_cons (clean_ints _) (Clean.all_cons (.int _ _) Clean.all_nil)))
theorem clean_ev {a b c : Nat} (x : Envl) : Clean a b c (evPV x) := .agg _ (cleans_ev x)
theorem cleans_ng {a b c : Nat} (n : Night) : ∀ p, p ∈ ngCells n → Clean a b c p :=
  Clean.all_cons (Clean.map noTok clean_ev) (Clean.all_cons (Clean.map noTok clean_st) (Clean.all_cons (Clean.map noTok clean_st) Clean.all_nil))
theorem cleans_sd {a b c : Nat} (x : Stand) : ∀ p, p ∈ sdCells x → Clean a b c p :=
  Clean.all_cons (.int _ _) (Clean.all_cons (.int _ _) (Clean.all_cons (clean_ints _) Clean.all_nil))
theorem clean_sd {a b c : Nat} (x : Stand) : Clean a b c (sdPV x) := .agg _ (cleans_sd x)
def inR (n lo hi : Int) : Bool := decide (lo ≤ n) && decide (n ≤ hi)
theorem okC_st {xs : List (Int × Int)} : okC 2 (xs.map stPV) = True := okC_map fun x => by simp [okC, stPV, PV.cells, PV.scalar]
theorem okC_ev {xs : List Envl} : okC 4 (xs.map evPV) = True := okC_map fun x => by simp [okC, evPV, evCells, PV.cells, PV.scalar]
theorem okC_sd {xs : List Stand} : okC 3 (xs.map sdPV) = True := okC_map fun x => by simp [okC, sdPV, sdCells, PV.cells, PV.scalar]
theorem okC_ll {xs : List (List Int)} : okC 1 (xs.map llPV) = True := okC_map fun x => by simp [okC, llPV, PV.cells, PV.scalar]
theorem roL_st {xs : List (Int × Int)} : PV.roL (xs.map stPV) = xs.map stPV := roL_enc fun x => by simp only [stPV, ro_agg, roL_cons, roL_nil, ro_int]
theorem roL_ev {xs : List Envl} : PV.roL (xs.map evPV) = xs.map evPV := roL_enc fun x => by simp only [evPV, evCells, ro_agg, roL_cons, roL_nil, ro_int, ro_isl, roL_ints]
theorem roL_sd {xs : List Stand} : PV.roL (xs.map sdPV) = xs.map sdPV := roL_enc fun x => by simp only [sdPV, sdCells, ro_agg, roL_cons, roL_nil, ro_int, ro_isl, roL_ints]
theorem roL_ll {xs : List (List Int)} : PV.roL (xs.map llPV) = xs.map llPV := roL_enc fun x => by simp only [llPV, ro_isl, roL_ints]
theorem cA_st {a b c : Nat} {xs : List (Int × Int)} : CleanAll a b c (xs.map stPV) = True := CleanAll_map clean_st
theorem cA_ev {a b c : Nat} {xs : List Envl} : CleanAll a b c (xs.map evPV) = True := CleanAll_map clean_ev
theorem cA_sd {a b c : Nat} {xs : List Stand} : CleanAll a b c (xs.map sdPV) = True := CleanAll_map clean_sd
theorem cA_ll {a b c : Nat} {xs : List (List Int)} : CleanAll a b c (xs.map llPV) = True := CleanAll_map clean_ll
attribute [go_sem] okC_st okC_ev okC_sd okC_ll roL_st roL_ev roL_sd roL_ll cA_st cA_ev cA_sd cA_ll stPV scPV scCells evPV evCells ngPV ngCells sdPV sdCells
theorem mixed : Tryz.prog.follows .mixedOrders = true := by kernel_rfl
abbrev Kn := List ((Int × Int) × List Int)
def mkPV : List Int → PV
  | [] => .nilsl
  | x :: l => ints (x :: l)
def knE (k : Kn) : List PV := mapE stPV mkPV k
theorem clean_mk {a b c : Nat} (l : List Int) : Clean a b c (mkPV l) := by
  cases l with
  | nil => exact .nilsl
  | cons x l => exact clean_ints _
theorem cA_kn {a b c : Nat} {k : Kn} : CleanAll a b c (knE k) = True := CleanAll_mapE clean_st clean_mk
attribute [go_sem] cA_kn
end Go.Proofs.YtgelnjmddabgpaaGreat
namespace Go.Proofs.YtgelnjmddabgpaaGreat
open Go Go.RowKit
theorem own : ownKnob Tryz.prog.godebug = none := by kernel_rfl
theorem laidOut : laidOutB Tryz.prog = true := by kernel_rfl
theorem rdInt : Rd Tryz.prog 3 fun p => ∃ n : Int, p = I n := (Rd.int Tryz.underlying3).mono fun _ ⟨n, h, _⟩ => ⟨n, h⟩
def intsSz (xs : List Int) : Prop := xs.length * 8 ≤ 140737488351232
theorem rdInts : Rd Tryz.prog 22 fun p => ∃ xs : List Int, p = ints xs ∧ intsSz xs :=
  (Rd.slice Tryz.underlying22 (by kernel_rfl) rdInt).mono fun p ⟨l, h1, h2, h3⟩ => by
    obtain ⟨xs, rfl, _⟩ := map_of (f := I) (Q := fun _ => True) fun x hx => let ⟨n, e⟩ := h1 x hx; ⟨n, e, trivial⟩
    have e : Tryz.prog.bytesOf 3 = 8 := by kernel_rfl
    rw [e] at h2
    exact ⟨xs, h3, by simpa [reachBytes, intsSz] using h2⟩
end Go.Proofs.YtgelnjmddabgpaaGreat
namespace Go.Proofs.YtgelnjmddabgpaaGreat
open Go Go.RowKit
end Go.Proofs.YtgelnjmddabgpaaGreat
namespace Go.Proofs.YtgelnjmddabgpaaGreat
open Go Go.RowKit
theorem rowC_single {l : List PV} (h : ∀ q, q ∈ l → q.cells = [q]) : rowC l = l := by
  induction l with
  | nil => rfl
  | cons q l ih =>
    have := ih fun q hq => h q (by simp [hq])
    simp only [rowC, List.flatMap_cons] at this ⊢
    rw [h q (by simp), this]
    rfl
theorem rowC_ints (xs : List Int) : rowC (xs.map I) = xs.map I := rowC_single fun q hq => by obtain ⟨x, _, rfl⟩ := List.mem_map.1 hq; rfl
theorem mk_of {P : Program} {t e : TypeId} {z : PV} {b : Nat} (h : P.underlying t = some (.slice e)) (hz : zeroPV P e = some [z]) (hb : P.bytesOf e = b) (hc : P.cellsOf e = 1) {σ : Sg} {k : Nat} (hk : k * b ≤ 2 ^ 47) (hk2 : k < 2 ^ 63) :
    makePV P σ t (.int .i64 (k : Int)) (.int .i64 (k : Int)) = some (.msl σ.store.length 0 k, σ.push (List.replicate k z)) := by
  simp only [makePV, h, hz, hb, hc]
  rw [if_pos ⟨trivial, Int.natCast_nonneg k, by rw [← Int.natCast_mul]; omega, by omega, trivial⟩]
  simp
theorem iaM_nat {c id off len k : Nat} (h : k < len) : iaM c id off len (k : Int) = some (.ptr id (off + k * c)) := by
  unfold iaM
  rw [if_pos ⟨Int.natCast_nonneg k, by omega⟩]
  simp
theorem setI {xs : List Int} {i : Nat} {v : Int} : (xs.map I).set i (I v) = (xs.set i v).map I := by rw [List.map_set]
theorem setB {xs : List Bool} {i : Nat} {v : Bool} : (xs.map PV.bool).set i (.bool v) = (xs.set i v).map PV.bool := by rw [List.map_set]
theorem repB (n : Nat) (v : Bool) : List.replicate n (PV.bool v) = (List.replicate n v).map PV.bool := by simp
end Go.Proofs.YtgelnjmddabgpaaGreat
namespace Go.Proofs.YtgelnjmddabgpaaGreat
open Go Go.RowKit
def NoGoto (Q : Exit → Env → Sg → Prop) : Exit → Env → Sg → Prop
  | .goto _, _, _ => False
  | e, E, σ => Q e E σ
section
variable {P : Program} {a : Act} {k : List Item} {cs : List Frame} {w : World} {Q : Exit → Env → Sg → Prop}
theorem ngN {E : Env} {σ : Sg} : NoGoto Q .normal E σ = Q .normal E σ := rfl
theorem ngR {E : Env} {σ : Sg} : NoGoto Q .ret E σ = Q .ret E σ := rfl
theorem ngX {E : Env} {σ : Sg} {i : Nat} : NoGoto Q (.exit i) E σ = Q (.exit i) E σ := rfl
attribute [go_sem] ngN ngR ngX
end
end Go.Proofs.YtgelnjmddabgpaaGreat
namespace Go.Proofs.YtgelnjmddabgpaaGreat
open Go Go.RowKit
/-- A contract of the library's, as a contract. -/
theorem PC_of_calls {P : Program} {Y : YEnv} {f : FuncId} {args : List PV} {σ σ' : Sg} {v : PV} (hg : goFn P f = true)
    (h : ∀ Ψ vals w, SR Ψ σ w → VRs Ψ args vals → Calls P f vals w (fun e w' => ∃ x Ψ', e = .returned x ∧ Ψ.le Ψ' ∧ SR Ψ' σ' w' ∧ VR Ψ' v x ∧ Below Ψ.base w w')) : PC P Y f args σ v σ' :=
  ⟨hg, fun Ψ vals w hs ha _ => callsIn_wide.2 (h Ψ vals w hs ha)⟩
/-- A variable's block is written anew. -/
theorem SR.rewrite {Ψ : Ty} {σ : Sg} {w w' : World} (h : SR Ψ σ w) {id b : Nat} {cs cs' : List PV} {c c' : Array Value} {e : TypeId} (hid : σ.store[id]? = some (some cs)) (hβ : Ψ.β[id]? = some b)
    (hb : w.heap[b]? = some (.cells c e (0, 0))) (hb' : w'.heap[b]? = some (.cells c' e (0, 0))) (hsz : c'.size = c.size) (hz : w.heap.size ≤ w'.heap.size) (ho : ∀ k, k < w.heap.size → k ≠ b → w'.heap[k]? = w.heap[k]?)
    (hl : cs'.length ≤ c'.size) (hv : ∀ (j : Nat) (p : PV) (v : Value), cs'[j]? = some p → c'[j]? = some v → VR Ψ p v) : SR Ψ (σ.setVar id cs') w' := by
  obtain ⟨p1, p2, p3⟩ := h.block id cs b hid hβ
  have old : ∀ (i : Nat) (x : List PV), (σ.setVar id cs').store[i]? = some (some x) → ∃ y, σ.store[i]? = some (some y) := fun i x hx => by
    rcases setVar_some hid hx with ⟨rfl, _⟩ | ⟨_, h'⟩
    · exact ⟨_, hid⟩
    · exact ⟨_, h'⟩
  have hbi : blockIs w b c := ⟨e, hb⟩
  have cel : ∀ b2 o v, b2 ≠ b → w.cell? ⟨b2, o, none⟩ = some v → w'.cell? ⟨b2, o, none⟩ = some v := fun b2 o v hne hv => by
    rw [cell_eq, ho b2 (cell_lt hv) hne, ← cell_eq]; exact hv
  have blk : ∀ b2 c2, b2 ≠ b → blockIs w b2 c2 → blockIs w' b2 c2 := fun b2 c2 hne hk => hk.of_heap (ho b2 hk.lt hne)
  refine ⟨Nat.le_trans h.base hz, fun b2 o v hk => cel b2 o v (fun e2 => by subst e2; rw [p2] at hk; cases hk) (h.imm b2 o v hk), by rw [sv_len]; exact h.blen, ?_, ?_, ?_, h.roomsApart, h.histlt, h.histle, fun i b2 hk => Nat.lt_of_lt_of_le (h.βlt i b2 hk) hz, ?_, h.ylen', ?_, ?_, ?_⟩
  · intro i x b2 hx hb2
    rcases setVar_some hid hx with ⟨rfl, rfl⟩ | ⟨hne, h'⟩
    · have : b2 = b := by rw [hβ] at hb2; injection hb2 with hb2; exact hb2.symm
      subst this
      exact ⟨p1, p2, .inl ⟨c', ⟨e, hb'⟩, hl, hv⟩⟩
    · have hbn : b2 ≠ b := fun e2 => hne (h.apart i id x cs b2 h' hid hb2 (e2 ▸ hβ))
      obtain ⟨a1, a2, a3⟩ := h.block i x b2 h' hb2
      exact ⟨a1, a2, a3.of_heap (ho b2 (h.βlt i b2 hb2) hbn)⟩
  · intro i i' x x' b2 hx hx' hb2 hb2'
    obtain ⟨y, hy⟩ := old i x hx
    obtain ⟨y', hy'⟩ := old i' x' hx'
    exact h.apart i i' y y' b2 hy hy' hb2 hb2'
  · intro r n b2 e2 c2 es hr hh hlt
    obtain ⟨a1, a2, a3, cc, a4, a5⟩ := h.room r n b2 e2 c2 es hr hh hlt
    have hbn : b2 ≠ b := fun e3 => a3 id (e3 ▸ hβ) cs hid
    refine ⟨a1, a2, fun i hi x hx => ?_, cc, blk _ _ hbn a4, a5⟩
    obtain ⟨y, hy⟩ := old i x hx
    exact a3 i hi y hy
  · intro y l d s k1 k2
    obtain ⟨a1, a0, a2⟩ := h.yok y l d s k1 k2
    have hne : l ≠ b := by rintro rfl; rw [hb] at a2; cases a2
    exact ⟨a1, a0, by rw [ho l (heap_lt a2) hne]; exact a2⟩
  · intro d k
    obtain ⟨a1, a2⟩ := h.dok d k
    have hne : d ≠ b := by rintro rfl; rw [hb] at a2; cases a2
    exact ⟨a1, by rw [ho d (heap_lt a2) hne]; exact a2⟩
  · intro b2 c2 hm
    obtain ⟨a1, a2, a3, a4, a5⟩ := h.rok b2 c2 hm
    have hbn : b2 ≠ b := fun e3 => a3 id (e3 ▸ hβ) cs hid
    refine ⟨a1, a2, fun i hi x hx => ?_, a4, blk _ _ hbn a5⟩
    obtain ⟨y, hy⟩ := old i x hx
    exact a3 i hi y hy
  · intro b2 n hm
    obtain ⟨a1, c2, a2, a3⟩ := h.szok b2 n hm
    by_cases hbn : b2 = b
    · subst hbn
      have := a2.eq hbi
      subst this
      exact ⟨a1, c', ⟨e, hb'⟩, by omega⟩
    · exact ⟨a1, c2, blk _ _ hbn a2, a3⟩
section
variable {P : Program} {Y : YEnv} {f : FuncId} {σ : Sg} {id : Nat} {xs ys : List Int}
theorem gsl_row {Ψ : Ty} {w : World} (hs : SR Ψ σ w) {n : Nat} {x : Value} (hid : σ.store[id]? = some (some (xs.map I))) (hn : n = xs.length) (hx : VR Ψ (.gsl id n 1) x) :
    ∃ b c e cap, x = .slice (some ⟨b, 0, none⟩) xs.length cap ∧ Ψ.β[id]? = some b ∧ w.heap[b]? = some (.cells c e (0, 0)) ∧ Sort.Holds (Value.int .i64) w b 0 xs.toArray ∧ xs.length ≤ c.size ∧ xs.length ≤ cap ∧ (b, cap * 1) ∈ Ψ.sz ∧ (b, 0) ∈ Ψ.sz ∧ Ψ.base ≤ b := by
  subst hn
  cases hx with
  | gsl _ _ _ b cap hβ hz hz0 hc =>
    obtain ⟨_, c, ⟨e, hb⟩, _⟩ := hs.szok b 0 hz0
    obtain ⟨p1, _, hk⟩ := hs.block id _ b hid hβ
    obtain ⟨k1, k2⟩ := hk.cells ⟨e, hb⟩
    rw [List.length_map] at k1
    have hbi : blockIs w b c := ⟨e, hb⟩
    refine ⟨b, c, e, cap, rfl, hβ, hb, fun j hj => ?_, k1, hc, hz, hz0, p1⟩
    have hj' : j < xs.length := by simpa using hj
    have hjc : j < c.size := by omega
    refine ⟨?_, hbi.free _⟩
    rw [Nat.zero_add, hbi.cell]
    have := k2 j (I xs[j]) c[j] (by simp [hj']) (by simp [hjc])
    cases hcj : c[j] with
    | _ => (rw [hcj] at this; cases this) <;> simp [hjc, hcj, hj']
theorem SR.row {Ψ : Ty} {w : World} (hs : SR Ψ σ w) {b : Nat} {c : Array Value} {e : TypeId} {n : Nat} {os : Array Obj} (hid : σ.store[id]? = some (some (xs.map I))) (hβ : Ψ.β[id]? = some b) (hb : w.heap[b]? = some (.cells c e (0, 0))) (hl : ys.length = xs.length) (hc : xs.length ≤ c.size) :
    SR Ψ (σ.setVar id (ys.map I)) (Sort.grow (Sort.putRow (Value.int .i64) (Sort.ahead w n) b 0 ys.toArray) os) := by
  have hg := grownBy_sortedI (w := w) (g := b) (n := n) (os := os) ys.toArray
  have ht := take_putCellsI c ys (by omega)
  refine hs.rewrite (c' := Sort.putCells (Value.int .i64) 0 ys.toArray c) hid hβ hb (heap_sortedI (w := w) (n := n) (os := os) ys.toArray hb) (by simp [Sort.putCells]) hg.size (fun k hk hne => hg.block k hk (fun e2 => hne (Option.some.inj e2))) (by simp [Sort.putCells]; omega) ?_
  intro j p v h1 h2
  simp only [List.getElem?_map, Option.map_eq_some_iff] at h1
  obtain ⟨y, hy, rfl⟩ := h1
  have hj := (List.getElem?_eq_some_iff.1 hy).1
  have h3 : ((Sort.putCells (Value.int .i64) 0 ys.toArray c).toList.take ys.length)[j]? = some v := by
    rw [List.getElem?_take_of_lt hj, Array.getElem?_toList]; exact h2
  rw [ht, List.getElem?_map, hy] at h3
  injection h3 with h3
  subst h3
  exact .int _ _
theorem Below.row {Ψ : Ty} {w : World} {b n : Nat} {os : Array Obj} {d : Array Int} (hB : Ψ.base ≤ w.heap.size) (h0 : Ψ.base ≤ b) : Below Ψ.base w (Sort.grow (Sort.putRow (Value.int .i64) (Sort.ahead w n) b 0 d) os) := by
  have hg := grownBy_sortedI (w := w) (g := b) (n := n) (os := os) d
  exact ⟨hg.os, hg.tape, hg.output, hg.size, fun k hk => hg.block k (by omega) (fun e2 => by injection e2 with e2; omega)⟩
/-- What a contract of the library's must say of sorting. -/
def SortsI (P : Program) (f : FuncId) : Prop := goFn P f = true ∧ (∀ (p : Option Addr) (cap : Nat) (w : World), Calls P f #[.slice p 0 cap] w fun e w' => e = .returned (.tuple #[]) ∧ w' = w) ∧
  ∀ (blk off cap : Nat) (zs : List Int) (w : World), Sort.Holds (Value.int .i64) w blk off zs.toArray → blk < w.heap.size → zs.length < 4611686018427387904 → Calls P f #[.slice (some ⟨blk, off, none⟩) zs.length cap] w fun e w' =>
    e = .returned (.tuple #[]) ∧ ∃ n os, w' = Sort.grow (Sort.putRow (Value.int .i64) (Sort.ahead w n) blk off (zs.mergeSort fun x y => decide (x ≤ y)).toArray) os
def sortI (xs : List Int) : List Int := xs.mergeSort fun x y => decide (x ≤ y)
theorem sortI_len (xs : List Int) : (sortI xs).length = xs.length := by simp [sortI, List.length_mergeSort]
theorem PC_sortI (h : SortsI P f) (hid : σ.store[id]? = some (some (xs.map I))) (hl : xs.length < 2 ^ 60) : PC P Y f [.gsl id xs.length 1] σ (.tuple []) (σ.setVar id ((sortI xs).map I)) := by
  refine PC_of_calls h.1 fun Ψ vals w hs ha => ?_
  obtain ⟨x, rfl⟩ : ∃ x, vals = #[x] := by
    have := ha.1
    match vals, this with
    | ⟨[x]⟩, _ => exact ⟨x, rfl⟩
  obtain ⟨b, c, e, cap, rfl, hβ, hb, hH, h1, _, _, _, h0⟩ := gsl_row hs hid rfl (ha.2 0 _ _ rfl rfl)
  have hbl : b < w.heap.size := (Array.getElem?_eq_some_iff.1 hb).1
  refine (h.2.2 b 0 cap xs w hH hbl (by omega)).mono ?_
  rintro e2 w2 ⟨rfl, n, os, rfl⟩
  exact ⟨_, Ψ, rfl, Ty.le.refl _, hs.row hid hβ hb (sortI_len xs) h1, skipped_ok _, Below.row hs.base h0⟩
theorem PC_sort0 (h : SortsI P f) : PC P Y f [.gnil] σ (.tuple []) σ := by
  refine PC_of_calls h.1 fun Ψ vals w hs ha => ?_
  obtain ⟨x, rfl⟩ : ∃ x, vals = #[x] := by
    have := ha.1
    match vals, this with
    | ⟨[x]⟩, _ => exact ⟨x, rfl⟩
  have hx := ha.2 0 _ _ rfl rfl
  cases hx with
  | gnil a =>
    refine (h.2.1 a 0 w).mono ?_
    rintro e2 w2 ⟨rfl, rfl⟩
    exact ⟨_, Ψ, rfl, Ty.le.refl _, hs, skipped_ok _, Below.refl _ _⟩
end
section
variable {N : Nat} {lo : Nat × Nat} {E : Env} {σ : Sg}
theorem Keeps.setOne {Ψ : Ty} {w : World} {b off : Nat} {cs : List PV} {p q : PV} (h : Keeps Ψ w b cs) (hp : cs[off]? = some p) (h0 : p ≠ .mark) (h1 : ∀ k v, p ≠ .tuple [k, v]) (hq : ∀ x, VR Ψ p x → VR Ψ q x) : Keeps Ψ w b (cs.set off q) := by
  have hlt : off < cs.length := (List.getElem?_eq_some_iff.1 hp).1
  rcases h with ⟨c, a3, a4, a5⟩ | ⟨arr, es, rfl, a3, a4, a5⟩
  · refine .inl ⟨c, a3, by simpa using a4, fun j r v e1 e2 => ?_⟩
    rw [List.getElem?_set] at e1
    by_cases e : off = j
    · subst e
      rw [if_pos rfl, if_pos hlt] at e1
      injection e1 with e1
      subst e1
      exact hq _ (a5 off p v hp e2)
    · rw [if_neg e] at e1
      exact a5 j r v e1 e2
  · exfalso
    rcases off with _ | off
    · simp at hp; exact h0 hp.symm
    · simp only [List.getElem?_cons_succ] at hp
      have hlt' : off < arr.size := by rw [a4]; exact (List.getElem?_eq_some_iff.1 hp).1
      obtain ⟨_, k, v, e2, _⟩ := a5 off p arr[off] hp (by simp [hlt'])
      exact h1 k v e2
/-- A cell is told otherwise. -/
theorem Weak.cellV {id off : Nat} {cs : List PV} {p q : PV} (hid : σ.store[id]? = some (some cs)) (hc : cs[off]? = some p) (h0 : p ≠ .mark) (h1 : ∀ k v, p ≠ .tuple [k, v]) (hq : ∀ Ψ x, VR Ψ p x → VR Ψ q x) : Weak N lo E σ E (σ.setVar id (cs.set off q)) := by
  intro Ψ0 Ψ D a w hb le hr
  have hs2 := hr.sg.reread (cs' := cs.set off q) hid (fun b hb2 h2 => h2.setOne hc h0 h1 (hq Ψ))
  exact ⟨Ψ, le, hr.size, hr.env, hs2, hr.dsub, hr.defs⟩
theorem VR.to_gnil {Ψ : Ty} {x : Value} (hv : VR Ψ (.isl [] .exact) x) : VR Ψ .gnil x := by
  cases hv with
  | islnil _ a' _ => exact .gnil a'
  | isl es _ _ b o cap vals hs h1 h2 hc ho =>
    have : cap = 0 := ho
    subst this
    exact .gnil _
theorem VR.of_gnil {Ψ : Ty} {x : Value} (hv : VR Ψ .gnil x) : VR Ψ (.isl [] .ro) x := by
  cases hv with
  | gnil a => exact .islnil .ro a trivial
/-- A slice without room in a new variable's cell: to grow in place. -/
theorem Weak.gnilX {l : List (Option (List PV))} {rm : List Nat} {ys : List LState} {j off : Nat} {cs : List PV} (hid : l[j]? = some (some cs)) (hc : cs[off]? = some (.isl [] .exact)) :
    Weak N lo E (σ.ext l rm ys) E (σ.ext (l.set j (some (cs.set off .gnil))) rm ys) := by
  have h := Weak.cellV (N := N) (lo := lo) (E := E) (σ := σ.ext l rm ys) (id := σ.store.length + j) (off := off) (cs := cs) (q := .gnil) (by rw [Sg.get_ext]; exact hid) hc (by simp) (by simp) (fun _ _ => VR.to_gnil)
  rw [Sg.set_ext] at h
  exact h
/-- What a slice in a cell held is never written again. -/
theorem Weak.freezeV {cid off id len es : Nat} {ccs rest : List PV} {l : List PV} (hne : cid ≠ id) (hcid : σ.store[cid]? = some (some ccs)) (hc : ccs[off]? = some (.gsl id len es)) (hs : σ.store[id]? = some (some (rowC l ++ rest))) (hl : l.length = len) (hes : ∀ q ∈ l, q.cells.length = es) :
    Weak N lo E σ E ((σ.drop id).setVar cid (ccs.set off (.isl l .ro))) := by
  intro Ψ0 Ψ D a w hb le hr
  obtain ⟨b0, hβ0⟩ : ∃ b, Ψ.β[cid]? = some b := by
    have : cid < Ψ.β.length := by rw [hr.sg.blen]; exact (List.getElem?_eq_some_iff.1 hcid).1
    exact ⟨Ψ.β[cid], by simp [this]⟩
  obtain ⟨_, _, hkc⟩ := hr.sg.block cid ccs b0 hcid hβ0
  -- the slice
  have hv : ∃ x, VR Ψ (.gsl id len es) x := by
    rcases hkc with ⟨c, a3, a4, a5⟩ | ⟨arr, es', rfl, a3, a4, a5⟩
    · have hlt : off < c.size := Nat.lt_of_lt_of_le (List.getElem?_eq_some_iff.1 hc).1 a4
      exact ⟨c[off], a5 off _ _ hc (by simp [hlt])⟩
    · rcases off with _ | off
      · simp at hc
      · simp only [List.getElem?_cons_succ] at hc
        have hlt' : off < arr.size := by rw [a4]; exact (List.getElem?_eq_some_iff.1 hc).1
        obtain ⟨_, k, v, e2, _⟩ := a5 off _ arr[off] hc (by simp [hlt'])
        cases e2
  obtain ⟨x0, hx0⟩ := hv
  cases hx0 with
  | gsl _ _ _ b cap hβ hz1 hz0 hcap =>
  obtain ⟨_, c, hbk, _⟩ := hr.sg.szok b 0 hz0
  obtain ⟨_, _, hkp⟩ := hr.sg.block id _ b hs hβ
  obtain ⟨a4, a5⟩ := hkp.cells hbk
  obtain ⟨le2, hs2⟩ := hr.sg.freeze hs hβ hbk
  have hcid2 : (σ.drop id).store[cid]? = some (some ccs) := by
    show (σ.store.set id none)[cid]? = _
    rw [List.getElem?_set_ne (fun e => hne e.symm)]
    exact hcid
  have hat : ∀ (k : Nat) (q : PV) (j : Nat) (p : PV), l[k]? = some q → q.cells[j]? = some p → (rowC l ++ rest)[k * es + j]? = some p ∧ k * es + j < c.size := fun k q j p q1 q2 => by
    have h1 := rowC_at hes q1 q2
    have h2 : (rowC l ++ rest)[k * es + j]? = some p := by rw [List.getElem?_append_left (List.getElem?_eq_some_iff.1 h1).1]; exact h1
    exact ⟨h2, Nat.lt_of_lt_of_le (List.getElem?_eq_some_iff.1 h2).1 a4⟩
  have hs3 := hs2.reread (cs' := ccs.set off (.isl l .ro)) hcid2 (fun b2 hb2 h2 => h2.setOne hc (by simp) (by simp) (fun y hy => by
    cases hy with
    | gsl _ _ _ b' cap' hβ' _ _ hcap' =>
    have hbb : b' = b := by
      have := le2.β id b hβ
      rw [hβ'] at this
      injection this
    subst hbb
    rw [← hl]
    refine .isl es l .ro b' 0 cap' (fun k j => c.getD (k * es + j) undef) (fun k q hk => hes q (List.mem_of_getElem? hk)) (fun k q j p q1 q2 => ?_) (fun k q j p q1 q2 => ?_) (by omega) trivial
    · obtain ⟨_, hlt⟩ := hat k q j p q1 q2
      simp only [Ty.addImm, Nat.zero_add]
      rw [if_pos ⟨trivial, Nat.zero_le _, hlt⟩]
      simp [Array.getD, hlt]
    · obtain ⟨h1, hlt⟩ := hat k q j p q1 q2
      refine (a5 _ p _ h1 ?_).mono le2
      simp [Array.getD, hlt]))
  refine ⟨_, le.trans le2, hr.size, fun t' => (hr.env t').mono le2, hs3, fun d hd => le2.ds _ (hr.dsub d hd), ?_⟩
  obtain ⟨rs, r1, r2, r3⟩ := hr.defs
  exact ⟨rs, r1, r2, fun r hm => ⟨le2.ds _ (r3 r hm).1, (r3 r hm).2⟩⟩
theorem Weak.freezeX {l : List (Option (List PV))} {rm : List Nat} {ys : List LState} {j k off len es : Nat} {ccs rest m : List PV} (hne : j ≠ k) (hcid : l[j]? = some (some ccs)) (hc : ccs[off]? = some (.gsl (σ.store.length + k) len es)) (hs : l[k]? = some (some (rowC m ++ rest))) (hl : m.length = len) (hes : ∀ q ∈ m, q.cells.length = es) :
    Weak N lo E (σ.ext l rm ys) E (σ.ext ((l.set k none).set j (some (ccs.set off (.isl m .ro)))) rm ys) := by
  have h := Weak.freezeV (N := N) (lo := lo) (E := E) (σ := σ.ext l rm ys) (cid := σ.store.length + j) (id := σ.store.length + k) (by omega) (by rw [Sg.get_ext]; exact hcid) hc (by rw [Sg.get_ext]; exact hs) hl hes
  rw [Sg.drop_ext, Sg.set_ext] at h
  exact h
end
end Go.Proofs.YtgelnjmddabgpaaGreat
namespace Go.Proofs.YtgelnjmddabgpaaGreat
open Go Go.RowKit
/-- A slice of numbers that grows in place: nothing yet, or the last of a row of variables (those before it are gone). -/
def glI (n : Nat) (out : List Int) : PV := match out with
  | [] => .gnil
  | _ :: t => .gsl (n + t.length) (t.length + 1) 1
def gsI (out : List Int) : List (Option (List PV)) := match out with
  | [] => []
  | _ :: t => List.replicate t.length none ++ [some (out.map I)]
theorem gsI_len (out : List Int) : (gsI out).length = out.length := by cases out <;> simp [gsI]
theorem glI_cells (n : Nat) (out : List Int) : (glI n out).cells = [glI n out] := by cases out <;> rfl
theorem glI_scalar (n : Nat) (out : List Int) : (glI n out).scalar = true := by cases out <;> rfl
theorem glI_defd (n : Nat) (out : List Int) : defd (glI n out) = true := by cases out <;> rfl
theorem appendAny_gl {P : Program} {σ : Sg} {t t' : TypeId} {n : Nat} {out : List Int} {m : List PV} {o : Own} : appendAny P σ t t' (glI n out) (.isl m o) = appendG P σ t t' (glI n out) (.isl m o) := by cases out <;> rfl
theorem cells_gsl (a b c : Nat) : (PV.gsl a b c).cells = [PV.gsl a b c] := rfl
theorem cells_gnil : PV.gnil.cells = [PV.gnil] := rfl
attribute [go_sem] appendAny_gl cells_gsl cells_gnil
attribute [go_sem high] glI_cells glI_scalar glI_defd
theorem stX_glI {σ : Sg} {l : List (Option (List PV))} {rm : List Nat} {ys : List LState} {j off n : Nat} {out : List Int} : stX 1 (σ.ext l rm ys) (σ.store.length + j) off (glI n out) = match l[j]? with
    | some (some cs) => if off + 1 ≤ cs.length then some (σ.ext (l.set j (some (putCells cs off [glI n out]))) rm ys) else none
    | _ => none := by
  simp only [stX_ext, glI_defd, glI_cells, List.all_cons, List.all_nil, glI_scalar]
  rcases l[j]? with _ | _ | cs <;> simp
attribute [go_sem high] stX_glI
theorem glI_clean {a b c n : Nat} {out : List Int} (h : n + out.length ≤ a) : Clean a b c (glI n out) := by
  cases out with
  | nil => exact .gnil
  | cons x out => exact .gsl _ _ _ (by simp at h; omega)
theorem CleanLs_append {a b c : Nat} {l m : List (Option (List PV))} (h : CleanLs a b c l) (k : CleanLs a b c m) : CleanLs a b c (l ++ m) := fun cs hcs => by
  rcases List.mem_append.1 hcs with h' | h'
  · exact h cs h'
  · exact k cs h'
theorem CleanLs_none {a b c : Nat} {l : List (Option (List PV))} (h : CleanLs a b c l) : CleanLs a b c (none :: l) := fun cs hcs => by
  rcases List.mem_cons.1 hcs with h' | h'
  · cases h'
  · exact h cs h'
theorem CleanLs_rep {a b c : Nat} (n : Nat) : CleanLs a b c (List.replicate n none) := fun cs hcs => by
  have := List.eq_of_mem_replicate hcs
  cases this
theorem gsI_clean {a b c : Nat} (out : List Int) : CleanLs a b c (gsI out) := by
  cases out with
  | nil => simp only [gsI, CleanLs_nil]
  | cons x out =>
    refine CleanLs_append (CleanLs_rep _) ?_
    simp only [CleanLs_cons, CleanLs_nil, and_true]
    intro p hp
    obtain ⟨y, _, rfl⟩ := List.mem_map.1 hp
    exact .int _ _
section
variable {σ : Sg} {A : List (Option (List PV))} {rm : List Nat} {ys : List LState} {N : Nat} {lo : Nat × Nat} {E : Env} {out : List Int}
theorem get_mid {α : Type} {A B : List α} {x : α} : (A ++ x :: B)[A.length]? = some x := by simp
theorem set_mid {α : Type} {A B : List α} {x y : α} : (A ++ x :: B).set A.length y = A ++ y :: B := by simp
theorem gsI_get {x : Int} : (A ++ gsI (x :: out))[A.length + out.length]? = some (some ((x :: out).map I)) := by
  have : A.length + out.length = (A ++ List.replicate out.length (none : Option (List PV))).length := by simp
  rw [this, gsI, ← List.append_assoc]
  exact get_mid
theorem gsI_set {x : Int} {y : Option (List PV)} : (A ++ gsI (x :: out)).set (A.length + out.length) y = A ++ (List.replicate out.length none ++ [y]) := by
  have : A.length + out.length = (A ++ List.replicate out.length (none : Option (List PV))).length := by simp
  rw [this, gsI, ← List.append_assoc, ← List.append_assoc]
  exact set_mid
theorem appG_gl (x : Int) (h : (out.length + 1) * 8 ≤ 2 ^ 47) : appG 1 8 (σ.ext (A ++ gsI out) rm ys) (glI (σ.store.length + A.length) out) [I x] = some (glI (σ.store.length + A.length) (out ++ [x]), σ.ext (A ++ gsI (out ++ [x])) rm ys) := by
  cases out with
  | nil =>
    rw [glI, appG_nil (by rfl) (by simp) (by simp)]
    simp [gsI, glI, rowC, Sg.push_ext, Sg.len_ext]
  | cons y out =>
    simp only [glI]
    rw [appG_more (cs := (y :: out).map I) (by rw [Nat.add_assoc, Sg.get_ext]; exact gsI_get) (by simp) (by rfl) (by simp) (by simpa using h)]
    rw [Nat.add_assoc (Sg.store σ).length, Sg.drop_ext, gsI_set]
    simp only [Sg.push_ext, Sg.len_ext, rowC]
    have e : List.replicate (out ++ [x]).length (none : Option (List PV)) = List.replicate out.length none ++ [none] := by simp [List.replicate_succ']
    simp only [List.cons_append, gsI, e]
    simp [Nat.add_assoc]
theorem sortI_nil : sortI [] = [] := by simp [sortI]
theorem glI_sort (n : Nat) : glI n (sortI out) = glI n out := by
  have hl := sortI_len out
  cases h : sortI out with
  | nil =>
    rw [h] at hl
    cases out with
    | nil => rfl
    | cons x out => simp at hl
  | cons y s =>
    rw [h] at hl
    cases out with
    | nil => simp at hl
    | cons x out => simp only [List.length_cons] at hl; simp only [glI]; rw [show s.length = out.length by omega]
theorem sort_gl {P : Program} {Y : YEnv} {f : FuncId} (h : SortsI P f) (hl : out.length < 2 ^ 60) : PC P Y f [glI (σ.store.length + A.length) out] (σ.ext (A ++ gsI out) rm ys) (.tuple []) (σ.ext (A ++ gsI (sortI out)) rm ys) := by
  cases out with
  | nil => rw [sortI_nil]; exact PC_sort0 h
  | cons x out =>
    have h1 := PC_sortI (Y := Y) (σ := σ.ext (A ++ gsI (x :: out)) rm ys) (id := σ.store.length + A.length + out.length) (xs := x :: out) h (by rw [Nat.add_assoc, Sg.get_ext]; exact gsI_get) hl
    rw [Nat.add_assoc, Sg.set_ext, gsI_set] at h1
    have e : A ++ (List.replicate out.length none ++ [some ((sortI (x :: out)).map I)]) = A ++ gsI (sortI (x :: out)) := by
      have hs := sortI_len (x :: out)
      cases hc : sortI (x :: out) with
      | nil => rw [hc] at hs; simp at hs
      | cons y s =>
        rw [hc] at hs
        simp only [List.length_cons] at hs
        simp only [gsI]
        rw [show out.length = s.length by omega]
    rw [e] at h1
    simp only [glI]
    rw [Nat.add_assoc]
    exact h1
/-- Compacted. -/
def glC (n : Nat) (s : List Int) : PV := match s with
  | [] => .gnil
  | _ :: t => .gsl (n + t.length) (Lib.compact s).length 1
theorem glC_cells (n : Nat) (out : List Int) : (glC n out).cells = [glC n out] := by cases out <;> rfl
theorem glC_scalar (n : Nat) (out : List Int) : (glC n out).scalar = true := by cases out <;> rfl
theorem glC_defd (n : Nat) (out : List Int) : defd (glC n out) = true := by cases out <;> rfl
attribute [go_sem high] glC_cells glC_scalar glC_defd
theorem stX_glC {σ : Sg} {l : List (Option (List PV))} {rm : List Nat} {ys : List LState} {j off n : Nat} {out : List Int} : stX 1 (σ.ext l rm ys) (σ.store.length + j) off (glC n out) = match l[j]? with
    | some (some cs) => if off + 1 ≤ cs.length then some (σ.ext (l.set j (some (putCells cs off [glC n out]))) rm ys) else none
    | _ => none := by
  simp only [stX_ext, glC_defd, glC_cells, List.all_cons, List.all_nil, glC_scalar]
  rcases l[j]? with _ | _ | cs <;> simp
attribute [go_sem high] stX_glC
end
end Go.Proofs.YtgelnjmddabgpaaGreat
