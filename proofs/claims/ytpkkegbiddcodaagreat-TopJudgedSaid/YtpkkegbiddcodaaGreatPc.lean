/-
  Regions that draw their order: the rule.
  Regions that draw their order: the rule of the walk.
  Views: a state and what was added to it; owners forgotten; how functions usually end.
  What the operations do at a type, without the type.
  Loops that count down; ends that leave something new.
  Cleanness of what was added; folds over ranges of numbers.
  A slice without spare room gets a room; a value's owner is forgotten.
  Loops over a state of plain values; cleanness, loads of rows and variables that were there before, by simp.
  Regions whose ways meet again; sums that fit.
  The types of this seat's program, as the pure reading asks of them.
  What the operations do at this seat's types.
  The rules by which a walk is worked out.
  A variable's slice without spare room gets a room; what is read of a variable may be told otherwise.
  The owner of a slice in a variable is forgotten.
  A slice is held against nil: the answer is open where the slice is empty.
  Slices of slices: what goes in front is cut off.
  Slices that grow in place: operations without types; a variable moved to another number; a variable that is never written again.
  Maps as lists of keys with their values, without the program's types.
  The data of the laws, read: scales, envelopes, nights, standings; rows of things.
  What the arguments of the laws are read as: numbers, lists of numbers.
  Slices made at once, written and then frozen; rows of numbers written at a place.
  Variables renumbered: the live ones, in a new order; whatever speaks of them follows.
  Slices that grow in place, in a variable's cell; a row sorted or written anew by the library.
  What the functions of marks compute, in plain Lean.
  Facts of this seat's types for slices that grow in place.
  Conversions at this seat's types; shifts; pointers that are not nil.
  Parts of slices at this seat's types.
  Facts of this seat's types for maps and made slices.
-/
import Derived.Test.YtpkkegbiddcodaaGreatPb
import Derived.CallsIn
import Derived.RangeFuncLeaves
import Derived.RangeFuncRecord
import Derived.OrdersIn
import Derived.Below
import Derived.Laws.World
import Derived.Laws.StructEq
import Derived.Laws.BytesString
import Derived.Laws.Append
import Derived.MapKept
import Derived.ProofKit
import Derived.Carry
import Derived.Handed
import Derived.ChangeCalls
import Derived.Stop.Joined
import Derived.Lib.LaidTab
import Derived.Shelf.Strconv.Itoa3
import Derived.RangeFuncIn
import Derived.RangeFuncNested
import Derived.Test.YtpkkegbiddcodaaGreatProg
import Derived.KernelRfl
import Derived.IntWalk
import Derived.Test.YtpkkegbiddcodaaGreatRows
import Derived.Sort.OwnSortedInts
import Derived.Lib.SlicesCompact
import Derived.Shelf.Sort.Plain
import Derived.Shelf.Slices.In.SortNone
import Derived.Shelf.Small.Bits
import Derived.JoinedOf
set_option linter.unusedSimpArgs false
set_option linter.unusedVariables false
namespace Go.Proofs.YtpkkegbiddcodaaGreat
open Go Go.RowKit
theorem getL {listed : Array Bool} {i j : Nat} (hi : i < listed.size) : (listed.setIfInBounds i true).getD j false = if j = i then true else listed.getD j false := by
 by_cases h : j = i
 ·subst h; simp [hi]
 rw [getD_set_ne false (fun e => h e.symm), if_neg h]
section
variable {P : Program} {Y : YEnv} {N : Nat} {rd : Option Nat} {D : List Nat} {Ψ0 : Ty} {w0 : World} {Q : Exit → Act → World → Prop} {ops : Array Oper} {is : List Nat} {plan : List (Nat × Nat)} {pre : List (List Nat)} {T : List St} {E0 Ef : Env} {σ0 σf : Sg}
theorem Inv.step (H : Shown P Y N ops is plan pre T E0 Ef σ0 σf) (hy : YOK P Y Ψ0) {listed : Array Bool} {p : Nat} {bl : Nat → Option (Nat × Array Value)} {Ψ : Ty} {a : Act} {w : World} (I : Inv P N D Ψ0 w0 ops is T E0 σf listed p bl Ψ a w)
 (hfar : p = ops.size ∨ (chainAt ops is p = true ∧ ∃ s, T[p]? = some s ∧ listed.getD s.i false = false)) {q : Nat} {s : St} (hs : T[q]? = some s) (hun : listed.getD s.i false = false) (hdir : ∀ j, j ∈ dir ops s.i → listed.getD j false = true)
 {K : Act → World → Prop} (hK : ∀ p' bl' Ψ' a' w', Inv P N D Ψ0 w0 ops is T E0 σf (listed.setIfInBounds s.i true) p' bl' Ψ' a' w' → K a' w') : wpOpIn (FnOf Ψ0 rd) 0 P ops Q s.i K a w := by
 obtain ⟨o, ho, hoa, hdok, hwt, hdone⟩ := H.opS hs
 have hq := H.lt hs
 have hsz : s.i < listed.size := by rw [I.size]; exact H.ilt hs
 have hL : ∀ j, (listed.setIfInBounds s.i true).getD j false = if j = s.i then true else listed.getD j false := fun j => getL hsz
 have hpre : ∀ (q' : Nat) (s' : St), T[q']? = some s' → preAt is pre q q' = true → listed.getD s'.i false = true := fun q' s' hs' hp =>
  H.preListed I.closed s.i (H.ilt hs) hdir s'.i ((H.preAt hs hs').1 hp)
 have hpost : ∀ (q' : Nat) (s' : St), T[q']? = some s' → preAt is pre q' q = true → listed.getD s'.i false = false := fun q' s' hs' hp => by
  cases hl : listed.getD s'.i false with
  | false => rfl
  | true => rw [I.preL H hs' hs hl hp] at hun; cases hun
 have hdstq : dstAt ops is q = o.dst := by unfold dstAt; rw [hoa]; rfl
 have hdsti : ∀ (q' : Nat) (s' : St), T[q']? = some s' → (ops[s'.i]?).bind (·.dst) = dstAt ops is q' := fun q' s' hs' => by unfold dstAt; rw [H.opEq hs']
 have hchain : ∀ q', q' < ops.size → writesAt ops is q' = false → allocsAt ops is q' = false → chainAt ops is q' = false := by
  intro q' _ h1 h2
  unfold chainAt writesAt allocsAt at *
  cases hh : opAt ops is q' with
  | none => rfl
  | some o' => rw [hh] at h1 h2; simp only [Option.any_some] at h1 h2 ⊢; rw [h1, h2]; rfl
 have hchain' : ∀ q', allocsAt ops is q' = true → chainAt ops is q' = true := by
  intro q' h
  unfold chainAt allocsAt at *
  cases hh : opAt ops is q' with
  | none => rw [hh] at h; cases h
  | some o' => rw [hh] at h; simp only [Option.any_some] at h ⊢; rw [h]; simp
 have hchainw : ∀ q', writesAt ops is q' = true → chainAt ops is q' = true := by
  intro q' h
  unfold chainAt writesAt at *
  cases hh : opAt ops is q' with
  | none => rw [hh] at h; cases h
  | some o' => rw [hh] at h; simp only [Option.any_some] at h ⊢; rw [h]; simp
 -- what it looks at is there
 have hlook : ∀ t, t ∈ looks ops o → s.E.get t = (goE ops (vis ops is listed p) T E0).get t := by
  intro t ht
  have htq : t ∈ looksAt ops is q := by unfold looksAt; rw [hoa]; exact ht
  refine (goE_before H.link hs (fun q' s' hlt hs' hd => ?_) (fun q' s' hle hs' hd => ?_)).symm
  ·rw [hdsti q' s' hs'] at hd
   obtain ⟨⟨c1, c2⟩, _⟩ : (preAt is pre q q' = true ∧ (allocsAt ops is q' = true → ∀ r, r ≤ q' → chainAt ops is r = true → preAt is pre q r = true)) ∧ True :=
    ⟨(H.facts.c5 q q' t hq (H.lt hs') hd htq).1 hlt, trivial⟩
   unfold vis
   rw [hpre q' s' hs' c1, H.idx hs']
   cases hal : allocsAt ops is q' with
   | false =>
    have : (ops[s'.i]?).any allocs = false := by rw [← H.opEq hs']; exact hal
    rw [this]; rfl
   | true =>
    have hlt' : q' < p := by
     rcases Nat.lt_or_ge q' p with h | h
     ·exact h
     rcases hfar with e | ⟨e1, s2, e2, e3⟩
     ·have := H.lt hs'; omega
     have := hpre p s2 e2 (c2 hal p h e1)
     rw [e3] at this; cases this
    simp [hlt']
  rw [hdsti q' s' hs'] at hd
  unfold vis
  rcases Nat.lt_or_ge q q' with hlt | hge
  ·rw [hpost q' s' hs' ((H.facts.c5 q q' t hq (H.lt hs') hd htq).2 hlt)]; rfl
  have : q = q' := by omega
  subst this
  rw [hs] at hs'
  injection hs' with hs'
  subst hs'
  rw [hun]; rfl
 have hwt' : wantedPV ops (goE ops (vis ops is listed p) T E0) o = some s.b := by rw [← wantedPV_congr hlook]; exact hwt
 have closed' : ∀ i, (listed.setIfInBounds s.i true).getD i false = true → ∀ j, j ∈ dir ops i → (listed.setIfInBounds s.i true).getD j false = true := by
  intro i hi j hj
  rw [hL] at hi ⊢
  split
  ·rfl
  split at hi
  ·rename_i e; subst e; exact hdir j hj
  exact I.closed i hi j hj
 have keepL : ∀ j, listed.getD j false = true → (listed.setIfInBounds s.i true).getD j false = true := fun j h => by rw [hL]; split <;> first | rfl | exact h
 have hple : ∀ r s', T[r]? = some s' → chainAt ops is r = true → listed.getD s'.i false = false → p ≤ r := by
  intro r s' hs' hc hl
  rcases Nat.lt_or_ge r p with h | h
  ·rw [I.below r s' h hs' hc] at hl; cases hl
  exact h
 cases hal : allocsAt ops is q with
 | true =>
  -- a new variable
  obtain ⟨o2, d, ho2, hguard, hd⟩ := H.facts.c7b q hq hal
  rw [hoa] at ho2
  injection ho2 with ho2
  subst ho2
  have hpq := hple q s hs (hchain' q hal) hun
  obtain ⟨t, hop⟩ : ∃ t, o.op = .alloc t := by
   unfold allocsAt at hal
   rw [hoa] at hal
   simp only [Option.any_some] at hal
   unfold allocs at hal
   split at hal
   ·exact ⟨_, ‹_›⟩
   cases hal
  have hb : s.b = true := by
   unfold wantedPV at hwt
   rw [hguard] at hwt
   injection hwt with hwt
   exact hwt.symm
  obtain ⟨zs, hz⟩ : ∃ zs, zeroPV P t = some zs := by
   unfold DoneAs at hdone
   rw [hb] at hdone
   simp only at hdone
   have : whom s.E o.op = .nobody := by rw [hop]; rfl
   rw [this, hop] at hdone
   simp only [effOp] at hdone
   cases hz : zeroPV P t with
   | none => rw [hz] at hdone; cases hdone
   | some zs => exact ⟨zs, rfl⟩
  refine exec_alloc ho hop hguard hz I.rel fun c hc0 hc2 => ?_
  have hc1 : zs.length ≤ c.size := Nat.le_of_eq hc0.symm
  obtain ⟨le', hs'⟩ := I.rel.sg.reserve c t
  refine hK p (fun x => if x = q then some (w.heap.size, c) else bl x) _ _ _ ⟨by simpa using I.size, closed', I.pn, fun q2 s2 h1 h2 h3 => keepL _ (I.below q2 s2 h1 h2 h3), ?_, I.le.trans le', ?_, ?_, ?_, ?_, ?_⟩
  ·intro q2 s2 h1 h2 h3
   rw [hL, if_neg]
   ·exact I.above q2 s2 h1 h2 h3
   intro e
   have := H.inj h2 hs e
   subst this
   unfold writesAt at h3
   rw [hoa] at h3
   simp [writes, hop] at h3
  ·have hput := I.rel.put le' hs' hdok (v := .undef) (x := .pointer (some ⟨w.heap.size, 0, none⟩)) (.undef _)
   refine hput.congr fun t' => ?_
   have vsame : ∀ i, vis ops is (listed.setIfInBounds s.i true) p i = vis ops is listed p i := by
    intro i
    unfold vis
    rw [hL]
    by_cases e : i = s.i
    ·subst e
     rw [hun, ho]
     have : allocs o = true := by unfold allocs; rw [hop]
     rw [H.idx hs]
     simp [this]
     omega
    rw [if_neg e]
   rw [get_put]
   have e1 : (goE ops (vis ops is (listed.setIfInBounds s.i true) p) T E0).get t' = (goE ops (vis ops is listed p) T E0).get t' := goE_congr _ _ _ (fun s' _ _ => vsame _) rfl
   rw [e1]
   split
   ·rename_i hdt
    rw [goE_off]
    ·exact H.fresh q t' hal (by rw [hdstq]; exact hdt)
    intro s' hs' hd'
    obtain ⟨q', hq'⟩ := List.mem_iff_getElem?.1 hs'
    by_cases e : q' = q
    ·subst e
     rw [hs] at hq'
     injection hq' with hq'
     subst hq'
     unfold vis
     rw [hun]; rfl
    exfalso
    rw [hdsti q' s' hq'] at hd'
    exact H.facts.c7 q q' t' hq (H.lt hq') hal e (by rw [hdstq]; exact hdt) hd'
   rfl
  ·intro q2 s2 h1 h2 h3 h4
   by_cases e : q2 = q
   ·subst e
    refine ⟨w.heap.size, c, by simp, d, o, t, zs, by rw [hdstq]; exact hd, hoa, hop, hz, hc1, hc2, ?_, List.mem_cons_self .., fun c' k => ?_⟩
    ·have : d < a.tmps.size := by
      unfold dstOK at hdok
      rw [hd] at hdok
      rw [I.rel.size]
      simpa using hdok
     rw [hd]
     simp [Act.put, Array.getD, this]
    have := I.rel.sg.fresh.rs c'
    exact this (I.le.rs _ k)
   have hne : s2.i ≠ s.i := fun e' => e (H.inj h2 hs e')
   rw [hL, if_neg hne] at h4
   obtain ⟨b', c', x0, d', o', t', zs', x1, x2, x3, x4, x5, x6, x7, x8, x9⟩ := I.pend q2 s2 h1 h2 h3 h4
   refine ⟨b', c', by rw [if_neg e]; exact x0, d', o', t', zs', x1, x2, x3, x4, x5, x6, ?_, List.mem_cons_of_mem _ x8, x9⟩
   have hdd : d' ≠ d := by
    rintro rfl
    exact H.facts.c7 q q2 d' hq (H.lt h2) hal e (by rw [hdstq]; exact hd) x1
   rw [hd]
   simp only [Act.put, Array.getD_eq_getD_getElem?, Array.getElem?_setIfInBounds_ne (fun e => hdd e.symm)]
   simpa [Array.getD_eq_getD_getElem?] using x7
  ·intro q1 q2 b c1 c2 h1 h2
   split at h1
   ·split at h2
    ·omega
    injection h1 with h1
    injection h1 with h1 _
    have := I.blt q2 b c2 h2
    omega
   split at h2
   ·injection h2 with h2
    injection h2 with h2 _
    have := I.blt q1 b c1 h1
    omega
   exact I.apart q1 q2 b c1 c2 h1 h2
  ·intro q1 b c1 h1
   rw [World.size_alloc]
   split at h1
   ·injection h1 with h1
    injection h1 with h1 _
    omega
   have := I.blt q1 b c1 h1
   omega
  exact I.bel.alloc (by rw [← I.le.base]; exact I.rel.sg.base) _
 | false =>
  have hna : allocs o = false := by
   unfold allocsAt at hal
   rw [hoa] at hal
   exact hal
  -- what follows when it is done
  have after : ∀ (p' : Nat), ((p' = p ∧ writesAt ops is q = false) ∨ (p = q ∧ p' = q + 1)) → ∀ Ψ' w' x, Ψ.le Ψ' → SR Ψ' (st T σf p') w' → VR Ψ' s.v x → Below Ψ.base w w' → K (a.put o.dst x) w' := by
   intro p' hp' Ψ' w' x le' hsr hv hb
   refine hK p' bl Ψ' _ _ ⟨by simpa using I.size, closed', ?_, ?_, ?_, I.le.trans le', ?_, ?_, I.apart, fun q1 b c1 h1 => Nat.lt_of_lt_of_le (I.blt q1 b c1 h1) hb.size, I.bel.trans (by rw [← I.le.base]; exact hb)⟩
   ·rcases hp' with ⟨rfl, _⟩ | ⟨_, rfl⟩
    ·exact I.pn
    omega
   ·intro q2 s2 h1 h2 h3
    rw [hL]
    split
    ·rfl
    rename_i hne
    rcases hp' with ⟨rfl, _⟩ | ⟨e, rfl⟩
    ·exact I.below q2 s2 h1 h2 h3
    have : q2 ≠ q := by rintro rfl; rw [hs] at h2; injection h2 with h2; exact hne (by rw [h2])
    exact I.below q2 s2 (by omega) h2 h3
   ·intro q2 s2 h1 h2 h3
    have hne : s2.i ≠ s.i := by
     intro e
     have := H.inj h2 hs e
     subst this
     rcases hp' with ⟨_, e⟩ | ⟨_, e⟩
     ·rw [h3] at e; cases e
     omega
    rw [hL, if_neg hne]
    exact I.above q2 s2 (by rcases hp' with ⟨e, _⟩ | ⟨e, e'⟩ <;> omega) h2 h3
   ·have hput := I.rel.put le' hsr hdok hv
    refine hput.congr fun t => ?_
    rw [get_put]
    split
    ·rename_i hdt
     refine goE_just hs (by rw [ho]; exact hdt) ?_ ?_
     ·unfold vis
      rw [hL, if_pos rfl, ho]
      simp [hna]
     intro q' s' hq' hs' hd'
     have hne : s'.i ≠ s.i := fun e => by have := H.inj hs' hs e; omega
     unfold vis
     rw [hL, if_neg hne, hpost q' s' hs' (H.facts.c6 q' q t (H.lt hs') hq' (by rw [← hdsti q' s' hs']; exact hd') (by rw [hdstq]; exact hdt))]
     rfl
    rename_i hdt
    refine goE_congr _ _ _ (fun s' hs' hd' => ?_) rfl
    obtain ⟨q', hq'⟩ := List.mem_iff_getElem?.1 hs'
    have hne : s'.i ≠ s.i := by
     intro e
     rw [e, ho] at hd'
     exact hdt hd'
    have hqne : q' ≠ q := by rintro rfl; rw [hs] at hq'; injection hq' with hq'; exact hne (by rw [hq'])
    unfold vis
    rw [hL, if_neg hne, H.idx hq']
    congr 2
    simp only [decide_eq_decide]
    rcases hp' with ⟨rfl, _⟩ | ⟨e, rfl⟩
    ·exact Iff.rfl
    omega
   intro q2 s2 h1 h2 h3 h4
   have hne : s2.i ≠ s.i := by
    intro e
    have := H.inj h2 hs e
    subst this
    rw [h3] at hal; cases hal
   rw [hL, if_neg hne] at h4
   have hpq2 : p ≤ q2 := by rcases hp' with ⟨e, _⟩ | ⟨e, e'⟩ <;> omega
   obtain ⟨b', c', x0, d', o', t', zs', x1, x2, x3, x4, x5, x6, x7, x8, x9⟩ := I.pend q2 s2 hpq2 h2 h3 h4
   refine ⟨b', c', x0, d', o', t', zs', x1, x2, x3, x4, x5, x6, ?_, le'.rs _ x8, x9⟩
   have hqne : q ≠ q2 := by rintro rfl; rw [hs] at h2; injection h2 with h2; exact hne (by rw [h2])
   have hdd : o.dst ≠ some d' := by
    intro e
    exact H.facts.c7 q2 q d' (H.lt h2) hq h3 hqne x1 (by rw [hdstq]; exact e)
   cases hod : o.dst with
   | none => exact x7
   | some d2 =>
    have : d2 ≠ d' := fun e => hdd (by rw [hod, e])
    simp only [Act.put, Array.getD_eq_getD_getElem?, Array.getElem?_setIfInBounds_ne this]
    simpa [Array.getD_eq_getD_getElem?] using x7
  cases hwr : writesAt ops is q with
  | true =>
   have hpq : p = q := by
    have h1 := hple q s hs (hchainw q hwr) hun
    rcases hfar with e | ⟨e1, s2, e2, e3⟩
    ·omega
    rcases Nat.lt_or_ge p q with h | h
    ·have := hpre p s2 e2 (H.facts.c4 q p hq h hwr e1)
     rw [e3] at this; cases this
    omega
   have hst : st T σf p = s.σ := by rw [hpq]; simp [st, hs]
   have hd : DoneAs P Y o ⟨s.i, goE ops (vis ops is listed p) T E0, st T σf p, s.b, s.v⟩ (st T σf (q + 1)) := by
    rw [hst]
    exact DoneAs_congr hlook (i := s.i) (E := s.E) (σ := s.σ) (b := s.b) (v := s.v) hdone
   exact exec_ok ho I.rel I.le hy hwt' hd fun Ψ' w' x k1 k2 k3 k4 => after (q + 1) (.inr ⟨hpq, rfl⟩) Ψ' w' x k1 k2 k3 k4
  | false =>
   have hnw : writes o = false := by
    unfold writesAt at hwr
    rw [hoa] at hwr
    exact hwr
   have hcq := hchain q hq hwr hal
   have hd0 : DoneAs P Y o ⟨s.i, s.E, st T σf p, s.b, s.v⟩ (st T σf p) := by
    unfold DoneAs at hdone ⊢
    simp only
    cases hb : s.b with
    | false =>
     rw [hb] at hdone
     exact ⟨hdone.1, trivial⟩
    | true =>
     rw [hb] at hdone
     simp only at hdone ⊢
     rw [whom_quiet hnw] at hdone ⊢
     simp only at hdone ⊢
     have hqs := quiet hnw hna hdone
     rcases H.facts.c8 q p hq I.pn hcq (hfar.imp id fun h => h.1) (fun r hr hc => by
      obtain ⟨s2, h2⟩ := H.has (Nat.lt_of_lt_of_le hr I.pn)
      cases hp : preAt is pre r q with
      | false => rfl
      | true =>
       have := I.below r s2 hr h2 hc
       rw [hpost r s2 h2 hp] at this; cases this) (fun r hr hrn hc => by
      obtain ⟨s2, h2⟩ := H.has hrn
      cases hp : preAt is pre q r with
      | false => rfl
      | true =>
       have := I.above r s2 hr h2 hc
       rw [hpre r s2 h2 hp] at this; cases this) with h | h
     ·have hst : st T σf p = s.σ := by
       have e0 : st T σf q = s.σ := by simp [st, hs]
       rw [← e0]
       have hpn := I.pn
       rcases Nat.le_total q p with hle | hle
       ·have := H.same (q := q) (k := p - q) (by omega) (fun r h1 h2 => by
         cases hc : chainAt ops is r with
         | false => rfl
         | true => have := h r (by omega) hc; omega)
        rw [show q + (p - q) = p by omega] at this
        exact this
       have := H.same (q := p) (k := q - p) (by omega) (fun r h1 h2 => by
        cases hc : chainAt ops is r with
        | false => rfl
        | true => have := h r (by omega) hc; omega)
       rw [show p + (q - p) = q by omega] at this
       exact this.symm
      rw [hst]
      rw [hqs] at hdone
      exact hdone
     exact H.dem q p h hcq s o hs ho hb
   have hd := DoneAs_congr hlook (i := s.i) (σ := st T σf p) (b := s.b) (v := s.v) hd0
   exact exec_ok ho I.rel I.le hy hwt' hd fun Ψ' w' x k1 k2 k3 k4 => after p (.inl ⟨rfl, hwr⟩) Ψ' w' x k1 k2 k3 k4
end
section
variable {P : Program} {Y : YEnv} {N : Nat} {rd : Option Nat} {D : List Nat} {Ψ0 : Ty} {w0 : World} {Q : Exit → Act → World → Prop} {ops : Array Oper} {is : List Nat} {plan : List (Nat × Nat)} {pre : List (List Nat)} {T : List St} {E0 Ef : Env} {σ0 σf : Sg}
/-- How many are not taken yet. -/
def left (listed : Array Bool) (n : Nat) : Nat := ((List.range n).filter fun i => !listed.getD i false).length
theorem filter_lt {α : Type} {f g : α → Bool} : ∀ (l : List α), (∀ x, x ∈ l → g x = true → f x = true) → (∃ x, x ∈ l ∧ f x = true ∧ g x = false) → (l.filter g).length < (l.filter f).length := by
 intro l
 have le : ∀ l : List α, (∀ x, x ∈ l → g x = true → f x = true) → (l.filter g).length ≤ (l.filter f).length := by
  intro l
  induction l with
  | nil => intro _; simp
  | cons a l ih =>
   intro h
   have := ih (fun x hx => h x (List.mem_cons_of_mem _ hx))
   simp only [List.filter_cons]
   cases hg : g a with
   | false => simp only [Bool.false_eq_true, if_false]; split <;> simp <;> omega
   | true => rw [h a (List.mem_cons_self ..) hg]; simp; exact this
 induction l with
 | nil => rintro _ ⟨x, hx, _⟩; cases hx
 | cons a l ih =>
  intro h ⟨x, hx, hf, hg⟩
  have h' : ∀ x, x ∈ l → g x = true → f x = true := fun x hx => h x (List.mem_cons_of_mem _ hx)
  simp only [List.filter_cons]
  rcases List.mem_cons.1 hx with rfl | hx
  ·rw [hf, hg]
   have := le l h'
   simp
   omega
  have := ih h' ⟨x, hx, hf, hg⟩
  cases hga : g a with
  | false => simp only [Bool.false_eq_true, if_false]; split <;> simp <;> omega
  | true => rw [h a (List.mem_cons_self ..) hga]; simp; exact this
theorem Inv.all (H : Shown P Y N ops is plan pre T E0 Ef σ0 σf) (hy : YOK P Y Ψ0) (hQ : ∀ Ψ' a' w', Ψ0.le Ψ' → Rel N D Ψ' Ef σf a' w' → Below Ψ0.base w0 w' → Q .normal a' w') :
 ∀ (fuel : Nat) (listed : Array Bool) (p : Nat) (bl : Nat → Option (Nat × Array Value)) (Ψ : Ty) (a : Act) (w : World), left listed ops.size ≤ fuel → Inv P N D Ψ0 w0 ops is T E0 σf listed p bl Ψ a w →
  wpAnyIn (FnOf Ψ0 rd) 0 P .any ops Q fuel listed a w := by
 -- when all is taken
 have fin : ∀ (listed : Array Bool) (p : Nat) (bl : Nat → Option (Nat × Array Value)) (Ψ : Ty) (a : Act) (w : World), Inv P N D Ψ0 w0 ops is T E0 σf listed p bl Ψ a w → (∀ i, i < ops.size → listed.getD i false = true) → Q .normal a w := by
  intro listed p bl Ψ a w I hall
  obtain ⟨p', Ψ', I', hfar⟩ := I.far H (ops.size - p) p Ψ (by have := I.pn; omega)
  have hp : p' = ops.size := by
   rcases hfar with e | ⟨_, s, hs, hl⟩
   ·exact e
   rw [hall s.i (H.ilt hs)] at hl; cases hl
  subst hp
  have h1 : goE ops (vis ops is listed ops.size) T E0 = Ef := goE_linked T E0 σ0 H.link fun s hs => by
   obtain ⟨q, hq⟩ := List.mem_iff_getElem?.1 hs
   unfold vis
   rw [hall s.i (H.ilt hq), H.idx hq]
   simp [H.lt hq]
  have h2 : st T σf ops.size = σf := by
   unfold st
   rw [List.getElem?_eq_none (by rw [H.len]; exact Nat.le_refl _)]
  have hr := I'.rel
  rw [h1, h2] at hr
  exact hQ Ψ' a w I'.le hr I'.bel
 -- one is ready, if any is left
 have some_ready : ∀ (listed : Array Bool), listed.size = ops.size → Region.ready .any ops listed = [] → ∀ i, i < ops.size → listed.getD i false = true := by
  intro listed hsz hr i
  induction hn : is.idxOf i using Nat.strongRecOn generalizing i with
  | _ n ih =>
   intro hi
   subst hn
   cases hl : listed.getD i false with
   | true => rfl
   | false =>
    exfalso
    have : i ∈ Region.ready .any ops listed := by
     rw [mem_ready]
     refine ⟨?_, ops[i], by simp [hi], fun e he hb => ?_⟩
     ·have hi' : i < listed.size := by omega
      simp [hi'] at hl ⊢; exact hl
     have hmem : e.on ∈ dir ops i := by
      unfold dir
      simp only [Array.getElem?_eq_getElem hi, List.mem_map, List.mem_filter]
      exact ⟨e, ⟨by simpa using he, hb⟩, rfl⟩
     obtain ⟨hk, hlt⟩ := H.facts.dlt i hi _ hmem
     exact ih _ hlt e.on rfl hk
    rw [hr] at this
    cases this
 intro fuel
 induction fuel with
 | zero =>
  intro listed p bl Ψ a w hleft I
  have hall : ∀ i, i < ops.size → listed.getD i false = true := by
   intro i hi
   cases hl : listed.getD i false with
   | true => rfl
   | false =>
    have : i ∈ (List.range ops.size).filter fun i => !listed.getD i false := List.mem_filter.2 ⟨List.mem_range.2 hi, by rw [hl]; rfl⟩
    have := List.length_pos_of_mem this
    unfold left at hleft
    omega
  refine ⟨?_, fin listed p bl Ψ a w I hall⟩
  cases hr : Region.ready .any ops listed with
  | nil => rfl
  | cons i is' =>
   exfalso
   have : i ∈ Region.ready .any ops listed := by rw [hr]; simp
   obtain ⟨h0, o, ho, _⟩ := mem_ready.1 this
   have hi : i < ops.size := (Array.getElem?_eq_some_iff.1 ho).1
   have := hall i hi
   have hi' : i < listed.size := by rw [I.size]; exact hi
   simp [hi'] at h0 this
   rw [h0] at this; cases this
 | succ fuel ih =>
  intro listed p bl Ψ a w hleft I
  refine ⟨fun hr => fin listed p bl Ψ a w I (some_ready listed I.size hr), fun i hi => ?_⟩
  obtain ⟨h0, o, ho, hall⟩ := mem_ready.1 hi
  have hin : i < ops.size := (Array.getElem?_eq_some_iff.1 ho).1
  have hi' : i < listed.size := by rw [I.size]; exact hin
  have hun : listed.getD i false = false := by simp [hi'] at h0 ⊢; exact h0
  obtain ⟨q, s, hs, rfl⟩ := H.pos hin
  obtain ⟨p', Ψ', I', hfar⟩ := I.far H (ops.size - p) p Ψ (by have := I.pn; omega)
  refine I'.step H hy hfar hs hun (fun j hj => ?_) fun p2 bl2 Ψ2 a2 w2 I2 => ih _ p2 bl2 Ψ2 a2 w2 ?_ I2
  ·unfold dir at hj
   rw [ho] at hj
   simp only [List.mem_map, List.mem_filter] at hj
   obtain ⟨e, ⟨he, hb⟩, rfl⟩ := hj
   exact hall e (by simpa using he) hb
  have : left (listed.setIfInBounds s.i true) ops.size < left listed ops.size := by
   refine filter_lt _ (fun j _ hg => ?_) ⟨s.i, List.mem_range.2 hin, by rw [hun]; rfl, by rw [getL hi']; simp⟩
   rw [getL hi'] at hg
   split at hg
   ·cases hg
   exact hg
  omega
end
/-- What the new variables' temporaries held is of no use. -/
def undefs : List Oper → Env → Env
 | [], E => E
 | o :: os, E => match o.op with
  | .alloc _ => undefs os (E.put o.dst .undef)
  | _ => undefs os E
theorem undefs_or (d : Nat) : ∀ (os : List Oper) (E : Env), (undefs os E).get d = E.get d ∨ (undefs os E).get d = .undef := by
 intro os
 induction os with
 | nil => intro E; exact .inl rfl
 | cons o os ih =>
  intro E
  unfold undefs
  split
  ·rcases ih (E.put o.dst .undef) with h | h
   ·rw [h, get_put]
    split
    ·exact .inr rfl
    exact .inl rfl
   exact .inr h
  exact ih E
theorem undefs_get (d : Nat) : ∀ (os : List Oper) (E : Env), (∃ o, o ∈ os ∧ allocs o = true ∧ o.dst = some d) ∨ E.get d = .undef → (undefs os E).get d = .undef := by
 intro os
 induction os with
 | nil =>
  rintro E (⟨o, ho, _⟩ | h)
  ·cases ho
  exact h
 | cons o os ih =>
  intro E h
  unfold undefs
  split
  ·rename_i t ht
   refine ih _ ?_
   rcases h with ⟨o', ho', h1, h2⟩ | h
   ·rcases List.mem_cons.1 ho' with rfl | ho'
    ·exact .inr (by rw [get_put, if_pos h2])
    exact .inl ⟨o', ho', h1, h2⟩
   exact .inr (by rw [get_put]; split <;> first | rfl | exact h)
  rename_i hne
  refine ih _ ?_
  rcases h with ⟨o', ho', h1, h2⟩ | h
  ·rcases List.mem_cons.1 ho' with rfl | ho'
   ·exfalso
    unfold allocs at h1
    split at h1
    ·exact hne _ ‹_›
    cases h1
   exact .inl ⟨o', ho', h1, h2⟩
  exact .inr h
theorem ER.undefs {Ψ : Ty} {E : Env} {tmps : Array Value} (h : ER Ψ E tmps) (os : List Oper) : ER Ψ (undefs os E) tmps := fun t => by
 rcases undefs_or t os E with e | e
 ·rw [e]; exact h t
 rw [e]; exact .undef _
def GOr (p : Prop) [K : KB0] : Prop := p ∨ K.run
theorem GOr_true (K : KB0) : @GOr True K = True := by simp [GOr]
theorem GOr_right {p : Prop} {K : KB0} (h : K.run) : @GOr p K := .inr h
/-- What is read where the order is open: it would be the same elsewhere. -/
def Dem (P : Program) (ops : Array Oper) (T : List St) (σf : Sg) : List (Nat × Nat) → Prop
 | [] => True
 | (q, p) :: r => (match T[q]? with
  | none => True
  | some s => match ops[s.i]? with
   | none => True
   | some o => @GOr (st T σf p = s.σ) ⟨s.b = true → effOp P (st T σf p) s.E o.op = some (s.v, st T σf p)⟩) ∧ Dem P ops T σf r
theorem Dem.get {P : Program} {ops : Array Oper} {T : List St} {σf : Sg} {q p : Nat} : ∀ (plan : List (Nat × Nat)), Dem P ops T σf plan → (q, p) ∈ plan → ∀ s o, T[q]? = some s → ops[s.i]? = some o →
 st T σf p = s.σ ∨ (s.b = true → effOp P (st T σf p) s.E o.op = some (s.v, st T σf p)) := by
 intro plan
 induction plan with
 | nil => intro _ h; cases h
 | cons a plan ih =>
  intro h hm s o hs ho
  obtain ⟨h1, h2⟩ := h
  rcases List.mem_cons.1 hm with e | hm
  ·subst e
   simp only at h1
   rw [hs] at h1
   simp only at h1
   rw [ho] at h1
   exact h1
  exact ih h2 hm s o hs ho
theorem draw_any {P : Program} {Y : YEnv} {N : Nat} {rd : Option Nat} {D : List Nat} {Ψ0 Ψ : Ty} {ops : Array Oper} {E : Env} {σ : Sg} {a : Act} {w : World} {Q : Exit → Act → World → Prop} {K : Env → Sg → Prop} (is : List Nat) (plan : List (Nat × Nat)) (pre : List (List Nat)) (hc : drawOK ops is plan pre = true)
 (h : GD P Y N ops is (undefs ops.toList E) σ [] (fun T E' σ' => Dem P ops T.reverse σ' plan ∧ K E' σ')) (hy : YOK P Y Ψ0) (le : Ψ0.le Ψ) (hr : Rel N D Ψ E σ a w)
 (hQ : ∀ Ψ' E' σ' a' w', Ψ0.le Ψ' → Rel N D Ψ' E' σ' a' w' → Below Ψ0.base w w' → K E' σ' → Q .normal a' w') : wpAnyIn (FnOf Ψ0 rd) 0 P .any ops Q ops.size (Array.replicate ops.size false) a { w with drawn := w.drawn + 1 } := by
 have hF := drawOK_facts ops is plan pre hc
 obtain ⟨T, Ef, σf, hl, hmap, hdem, hfin⟩ := GD_trace is (undefs ops.toList E) σ [] h
 rw [List.append_nil, List.reverse_reverse] at hdem
 have hfresh : ∀ q d, allocsAt ops is q = true → dstAt ops is q = some d → (undefs ops.toList E).get d = .undef := by
  intro q d hal hd
  refine undefs_get d _ _ (.inl ?_)
  unfold allocsAt at hal
  unfold dstAt at hd
  cases ho : opAt ops is q with
  | none => rw [ho] at hal; cases hal
  | some o =>
   rw [ho] at hal hd
   refine ⟨o, ?_, hal, hd⟩
   unfold opAt at ho
   cases hi : is[q]? with
   | none => rw [hi] at ho; cases ho
   | some i => rw [hi] at ho; exact List.mem_of_getElem? (by rw [Array.getElem?_toList]; exact ho)
 have H : Shown P Y N ops is plan pre T (undefs ops.toList E) Ef σ σf := by
  refine ⟨hF, hl, hmap, fun q p hqp hcq s o hs ho hsb => ?_, hfresh⟩
  rcases hdem.get plan hqp s o hs ho with e | e
  ·obtain ⟨E', o', ho', _, _, _, hd⟩ := hl.at T _ _ q s hs
   rw [ho] at ho'
   injection ho' with ho'
   subst ho'
   have hoa : opAt ops is q = some o := by
    unfold opAt
    rw [← hmap]
    simp [hs, ho]
   unfold chainAt at hcq
   rw [hoa] at hcq
   simp only [Option.any_some, Bool.or_eq_false_iff] at hcq
   unfold DoneAs at hd
   rw [hsb] at hd
   simp only at hd
   rw [whom_quiet hcq.1] at hd
   simp only at hd
   have := quiet hcq.1 hcq.2 hd
   rw [this] at hd
   rw [e]
   exact hd
  exact e hsb
 refine Inv.all (D := D) (w0 := w) (bl := fun _ => none) (p := 0) (Ψ := Ψ) H hy (fun Ψ' a' w' l1 l2 l3 => hQ Ψ' _ σf a' w' l1 l2 l3 hfin) ops.size _ _ _ ?_ ?_
 ·unfold left
  refine Nat.le_trans (List.length_filter_le _ _) (by simp)
 have hnone : ∀ i, (Array.replicate ops.size false).getD i false = false := fun i => by
  rw [Array.getD_eq_getD_getElem?, Array.getElem?_replicate]
  split <;> rfl
 have e1 : ∀ t, (goE ops (vis ops is (Array.replicate ops.size false) 0) T (undefs ops.toList E)).get t = (undefs ops.toList E).get t := fun t => goE_off _ _ fun s _ _ => by
  unfold vis; rw [hnone]; rfl
 have hst : st T σf 0 = σ := by
  unfold st
  cases T with
  | nil => exact hl.2.symm
  | cons s T => exact hl.2.1
 refine ⟨by simp, fun i hi => ?_, Nat.zero_le _, fun q s hq => by omega, fun q s _ _ _ => hnone _, le, ?_, fun q s _ _ _ hh => ?_, fun q q' b c c' hh => (by cases hh), fun q b c hh => (by cases hh), (Below.refl _ w).drew⟩
 ·rw [hnone] at hi; cases hi
 ·rw [hst]
  exact Rel.congr ⟨hr.size, hr.env.undefs _, hr.sg.drew, hr.dsub, hr.defs⟩ e1
 rw [hnone] at hh; cases hh
theorem W_draw {P : Program} {Y : YEnv} {N : Nat} {rd : Option Nat} {lo : Nat × Nat} {id : Nat} {ops : Array Oper} {E : Env} {σ : Sg} {Q : Exit → Env → Sg → Prop} (ks : List Nat) (is : List Nat) (plan : List (Nat × Nat)) (pre : List (List Nat))
 (hm : P.follows .mixedOrders = true) (hc : drawOK ops is plan pre = true)
 (h : ∀ K : Env → Sg → Prop, (∀ E' σ', Q .normal (keep ks E') σ' → K E' σ') → GD P Y N ops is (undefs ops.toList E) σ [] (fun T E' σ' => Dem P ops T.reverse σ' plan ∧ K E' σ')) : W P Y N rd lo (.region id ops true) E σ Q := by
 intro Ψ0 D hb hy hrd Ψ a w le hr
 exact wpIn_region_any hm (draw_any is plan pre hc (h _ fun _ _ k => k) hy le hr fun Ψ' E' σ' a' w' l1 l2 l3 k => ⟨_, σ', Ψ', l1, l2.keep ks, l3, k⟩)
def Sg.ext (σ : Sg) (l : List (Option (List PV))) (rm : List Nat) (ys : List LState := []) : Sg := ⟨σ.store ++ l, σ.rooms ++ rm, σ.ys ++ ys⟩
section
variable (σ : Sg) (l l' : List (Option (List PV))) (rm rm' : List Nat) (ys ys' : List LState)
theorem Sg.ext_nil : σ.ext [] [] = σ := by simp [Sg.ext]
theorem Sg.push_ext (zs : List PV) : (σ.ext l rm ys).push zs = σ.ext (l ++ [some zs]) rm ys := by simp [Sg.push, Sg.ext]
theorem Sg.push_new (zs : List PV) : σ.push zs = σ.ext [some zs] [] := by simp [Sg.push, Sg.ext]
theorem Sg.pushRoom_ext (n : Nat) : (σ.ext l rm ys).pushRoom n = σ.ext l (rm ++ [n]) ys := by simp [Sg.pushRoom, Sg.ext]
theorem Sg.pushRoom_new (n : Nat) : σ.pushRoom n = σ.ext [] [n] := by simp [Sg.pushRoom, Sg.ext]
theorem Sg.pushY_ext : (σ.ext l rm ys).pushY = σ.ext l rm (ys ++ [.ready]) := by simp [Sg.pushY, Sg.ext]
theorem Sg.pushY_new : σ.pushY = σ.ext [] [] [.ready] := by simp [Sg.pushY, Sg.ext]
theorem Sg.ext_ext : (σ.ext l rm ys).ext l' rm' ys' = σ.ext (l ++ l') (rm ++ rm') (ys ++ ys') := by simp [Sg.ext]
theorem Sg.len_ext : (σ.ext l rm ys).store.length = σ.store.length + l.length := by simp [Sg.ext]
theorem Sg.rooms_ext : (σ.ext l rm ys).rooms.length = σ.rooms.length + rm.length := by simp [Sg.ext]
theorem Sg.ys_ext : (σ.ext l rm ys).ys.length = σ.ys.length + ys.length := by simp [Sg.ext]
theorem Sg.ysget_ext (k : Nat) : (σ.ext l rm ys).ys[σ.ys.length + k]? = ys[k]? := by
 show (σ.ys ++ ys)[σ.ys.length + k]? = _
 rw [List.getElem?_append_right (by omega)]
 simp
theorem Sg.ysget_ext0 : (σ.ext l rm ys).ys[σ.ys.length]? = ys[0]? := Sg.ysget_ext σ l rm ys 0
theorem Sg.setY_ext (k : Nat) (s : LState) : (σ.ext l rm ys).setY (σ.ys.length + k) s = σ.ext l rm (ys.set k s) := by
 simp [Sg.setY, Sg.ext, List.set_append_right]
theorem Sg.setY_ext0 (s : LState) : (σ.ext l rm ys).setY σ.ys.length s = σ.ext l rm (ys.set 0 s) := Sg.setY_ext σ l rm ys 0 s
theorem Sg.popY_ext (k : Nat) : (σ.ext l rm ys).popY (σ.ys.length + k) = σ.ext l rm (ys.take k) := by
 simp [Sg.popY, Sg.ext, List.take_append, List.take_of_length_le]
theorem Sg.popY_ext0 : (σ.ext l rm ys).popY σ.ys.length = σ.ext l rm [] := by
 have := Sg.popY_ext σ l rm ys 0
 simpa using this
theorem Sg.get_ext (k : Nat) : (σ.ext l rm ys).store[σ.store.length + k]? = l[k]? := by
 show (σ.store ++ l)[σ.store.length + k]? = _
 rw [List.getElem?_append_right (by omega)]
 simp
theorem Sg.get_ext0 : (σ.ext l rm ys).store[σ.store.length]? = l[0]? := Sg.get_ext σ l rm ys 0
variable {σ l rm ys}
variable (σ l rm ys)
theorem Sg.room_ext (k : Nat) : (σ.ext l rm ys).rooms[σ.rooms.length + k]? = rm[k]? := by
 show (σ.rooms ++ rm)[σ.rooms.length + k]? = _
 rw [List.getElem?_append_right (by omega)]
 simp
theorem Sg.room_ext0 : (σ.ext l rm ys).rooms[σ.rooms.length]? = rm[0]? := Sg.room_ext σ l rm ys 0
theorem Sg.set_ext (k : Nat) (cs : List PV) : (σ.ext l rm ys).setVar (σ.store.length + k) cs = σ.ext (l.set k (some cs)) rm ys := by
 simp [Sg.setVar, Sg.ext, List.set_append_right]
theorem Sg.set_ext0 (cs : List PV) : (σ.ext l rm ys).setVar σ.store.length cs = σ.ext (l.set 0 (some cs)) rm ys := Sg.set_ext σ l rm ys 0 cs
theorem Sg.setRoom_ext (k n : Nat) : (σ.ext l rm ys).setRoom (σ.rooms.length + k) n = σ.ext l (rm.set k n) ys := by
 simp [Sg.setRoom, Sg.ext, List.set_append_right]
theorem Sg.setRoom_ext0 (n : Nat) : (σ.ext l rm ys).setRoom σ.rooms.length n = σ.ext l (rm.set 0 n) ys := Sg.setRoom_ext σ l rm ys 0 n
variable {σ l rm ys}
variable (σ l rm ys)
theorem Sg.cut_ext (k : Nat) (j : Nat) : (σ.ext l rm).cut (σ.store.length + k) (σ.rooms.length + j) σ.ys.length = σ.ext (l.take k) (rm.take j) := by
 simp [Sg.cut, Sg.ext, List.take_append, List.take_of_length_le]
theorem Sg.cut_ext0 : (σ.ext l rm).cut σ.store.length σ.rooms.length σ.ys.length = σ := by
 simp [Sg.cut, Sg.ext]
theorem Sg.cut_exty (k : Nat) (j m : Nat) : (σ.ext l rm ys).cut (σ.store.length + k) (σ.rooms.length + j) (σ.ys.length + m) = σ.ext (l.take k) (rm.take j) (ys.take m) := by
 simp [Sg.cut, Sg.ext, List.take_append, List.take_of_length_le]
end
theorem Clean.mono {a b c a' b' c' : Nat} (h1 : a ≤ a') (h2 : b ≤ b') (h3 : c ≤ c') {p : PV} (h : Clean a b c p) : Clean a' b' c' p := by
 induction h with
 | undef => exact .undef
 | bool b => exact .bool b
 | int k n => exact .int k n
 | str s => exact .str s
 | nilptr => exact .nilptr
 | ptr id off h => exact .ptr id off (by omega)
 | eptr es elems i off _ ih => exact .eptr es elems i off ih
 | nilsl => exact .nilsl
 | isl elems own _ ho ih => exact .isl elems own ih fun r n es e => by have := ho r n es e; omega
 | msl id off len h => exact .msl id off len (by omega)
 | agg cs _ ih => exact .agg cs ih
 | tuple cs _ ih => exact .tuple cs ih
 | func fn fs cs _ _ ih ih' => exact .func fn fs cs ih ih'
 | yield y h => exact .yield y (by omega)
 | nilfunc => exact .nilfunc
 | niliface => exact .niliface
 | iface t p _ ih => exact .iface t p ih
 | mapv id h => exact .mapv id (by omega)
 | nilmap => exact .nilmap
 | iter id h => exact .iter id (by omega)
 | itst mid n seen h => exact .itst mid n seen (by omega)
 | gsl id len es h => exact .gsl id len es (by omega)
 | gnil => exact .gnil
 | bself id t h => exact .bself id t (by omega)
 | bbuf l r t _ ih => exact .bbuf l r t ih
 | mark => exact .mark
mutual
def PV.ro : PV → PV
  | .eptr es elems i off => .eptr es (PV.roL elems) i off
  | .isl elems _ => .isl (PV.roL elems) .ro
  | .agg cs => .agg (PV.roL cs)
  | .tuple cs => .tuple (PV.roL cs)
  | .func fn a b => .func fn (PV.roL a) (PV.roL b)
  | .iface t p => .iface t (PV.ro p)
  | p => p
def PV.roL : List PV → List PV
  | [] => []
  | p :: ps => PV.ro p :: PV.roL ps
end
theorem PV.roL_map : ∀ l : List PV, PV.roL l = l.map PV.ro := by
 intro l
 induction l with
 | nil => rfl
 | cons p ps ih => simp only [PV.roL, List.map_cons, ih]
theorem PV.ro_cells (p : PV) : p.ro.cells = p.cells.map PV.ro := by
 cases p <;> simp only [PV.ro, PV.cells, PV.roL_map, List.map_cons, List.map_nil]
theorem VR.ro {Ψ : Ty} {p : PV} {x : Value} (h : VR Ψ p x) : VR Ψ p.ro x := by
 have row : ∀ {elems : List PV} {es : Nat}, (∀ (k : Nat) (e : PV), elems[k]? = some e → e.cells.length = es) → ∀ (k : Nat) (e : PV), (elems.map PV.ro)[k]? = some e → e.cells.length = es := by
  intro elems es h k e he
  simp only [List.getElem?_map, Option.map_eq_some_iff] at he
  obtain ⟨e', he', rfl⟩ := he
  rw [PV.ro_cells, List.length_map]
  exact h k e' he'
 have each : ∀ {elems : List PV} {Pr : Nat → Nat → PV → Prop} {Pr' : Nat → Nat → PV → Prop}, (∀ (k : Nat) (e : PV) (j : Nat) (p : PV), elems[k]? = some e → e.cells[j]? = some p → Pr k j p) →
  (∀ k j p, Pr k j p → Pr' k j p.ro) → ∀ (k : Nat) (e : PV) (j : Nat) (p : PV), (elems.map PV.ro)[k]? = some e → e.cells[j]? = some p → Pr' k j p := by
  intro elems Pr Pr' h hh k e j p he hp
  simp only [List.getElem?_map, Option.map_eq_some_iff] at he
  obtain ⟨e', he', rfl⟩ := he
  rw [PV.ro_cells] at hp
  simp only [List.getElem?_map, Option.map_eq_some_iff] at hp
  obtain ⟨p', hp', rfl⟩ := hp
  exact hh k j p' (h k e' j p' he' hp')
 have each1 : ∀ {cs : List PV} {xs : Array Value}, (∀ (j : Nat) (p : PV) (v : Value), cs[j]? = some p → xs[j]? = some v → VR Ψ p.ro v) → ∀ (j : Nat) (p : PV) (v : Value), (cs.map PV.ro)[j]? = some p → xs[j]? = some v → VR Ψ p v := by
  intro cs xs h j p v hp hv
  simp only [List.getElem?_map, Option.map_eq_some_iff] at hp
  obtain ⟨p', hp', rfl⟩ := hp
  exact h j p' v hp' hv
 induction h with
 | undef x => exact .undef x
 | bool b => exact .bool b
 | int k n => exact .int k n
 | str s => exact .str s
 | nilptr => exact .nilptr
 | ptr id off b hb hz => exact .ptr id off b hb hz
 | eptr es elems i off b o vals hs h1 h2 ih =>
  simp only [PV.ro, PV.roL_map]
  exact .eptr es _ i off b o vals (row hs) (each (Pr := fun k j _ => Ψ.imm b (o + k * es + j) = some (vals k j)) (Pr' := fun k j _ => Ψ.imm b (o + k * es + j) = some (vals k j)) h1 fun _ _ _ h => h)
   (each (Pr := fun k j p => VR Ψ p.ro (vals k j)) (Pr' := fun k j p => VR Ψ p (vals k j)) ih fun _ _ _ h => h)
 | nilsl => exact .nilsl
 | islnil own a h => exact .islnil .ro a trivial
 | isl es elems own b o cap vals hs h1 h2 hc ho ih =>
  simp only [PV.ro, PV.roL_map]
  have := VR.isl (Ψ := Ψ) es (elems.map PV.ro) .ro b o cap vals (row hs) (each (Pr := fun k j _ => Ψ.imm b (o + k * es + j) = some (vals k j)) (Pr' := fun k j _ => Ψ.imm b (o + k * es + j) = some (vals k j)) h1 fun _ _ _ h => h)
   (each (Pr := fun k j p => VR Ψ p.ro (vals k j)) (Pr' := fun k j p => VR Ψ p (vals k j)) ih fun _ _ _ h => h) (by simpa using hc) trivial
  rw [List.length_map] at this
  exact this
 | msl id off len b cap h hz hc => exact .msl id off len b cap h hz hc
 | agg cs vs hl h ih => simp only [PV.ro, PV.roL_map]; exact .agg _ _ (by simpa using hl) (each1 ih)
 | tuple cs vs hl h ih => simp only [PV.ro, PV.roL_map]; exact .tuple _ _ (by simpa using hl) (each1 ih)
 | func fn fs cs xs ys hl hl' h h' ih ih' => simp only [PV.ro, PV.roL_map]; exact .func fn _ _ _ _ (by simpa using hl) (by simpa using hl') (each1 ih) (each1 ih')
 | yield y l d h => exact .yield y l d h
 | nilfunc => exact .nilfunc
 | niliface => exact .niliface
 | iface t p x h ih => exact .iface t _ x ih
 | map id b h => exact .map id b h
 | nilmap => exact .nilmap
 | iter id b h => exact .iter id b h
 | gsl id len es b cap h hz h0 hc => exact .gsl id len es b cap h hz h0 hc
 | gnil a => exact .gnil a
 | bself id t b x h hz hx => exact .bself id t b x h hz hx
 | bbuf l r t x h ht _ => exact .bbuf l r t x h ht
theorem VRs.ro {Ψ : Ty} {ps : List PV} {xs : Array Value} (h : VRs Ψ ps xs) : VRs Ψ (ps.map PV.ro) xs := by
 refine ⟨by rw [h.1, List.length_map], fun j p v h1 h2 => ?_⟩
 simp only [List.getElem?_map, Option.map_eq_some_iff] at h1
 obtain ⟨p', hp', rfl⟩ := h1
 exact (h.2 j p' v hp' h2).ro
/-- Who is called asks nothing of the owners. -/
theorem PC.ofRo {P : Program} {Y : YEnv} {f : FuncId} {args args' : List PV} {σ σ' : Sg} {v : PV} (h : PC P Y f args' σ v σ') (e : args.map PV.ro = args') : PC P Y f args σ v σ' := by
 subst e
 exact ⟨h.1, fun Ψ vals w hs ha hy => h.2 Ψ vals w hs ha.ro hy⟩
theorem Fin_same {P : Program} {fn : Func} {σ : Sg} {l : List (Option (List PV))} {rm : List Nat} {E : Env} {rs : List PV} {v : PV} (hcl : CleanSg σ) (hr : resPV P (σ.ext l rm) E fn.results.toList = some rs)
 (hv : Wk σ.store.length σ.rooms.length σ.ys.length (oneOr rs) v) : Fin P fn σ v σ E (σ.ext l rm) := by
 refine ⟨rs, _, _, hr, Nat.le_refl _, Nat.le_refl _, hv, (Sg.cut_ext0 σ l rm).symm, fun id cs hid hc p hp => ?_, by simp [Sg.ext]⟩
 have hc' : (σ.store ++ l)[id]? = some (some cs) := hc
 rw [List.getElem?_append_left hid] at hc'
 exact hcl id cs hid hc' p hp
theorem Fin_self {P : Program} {fn : Func} {σ : Sg} {E : Env} {rs : List PV} {v : PV} (hcl : CleanSg σ) (hr : resPV P σ E fn.results.toList = some rs)
 (hv : Wk σ.store.length σ.rooms.length σ.ys.length (oneOr rs) v) : Fin P fn σ v σ E σ := by
 have := Fin_same (l := []) (rm := []) hcl (by rw [Sg.ext_nil]; exact hr) hv
 rw [Sg.ext_nil] at this
 exact this
theorem Wk.ro {nβ nr ny : Nat} {p q : PV} (h : Clean nβ nr ny q) (e : p.ro = q) : Wk nβ nr ny p q := fun Ψ x k => by
 subst e
 exact k.ro.trim h
def ldS (σ : Sg) (id off : Nat) : Option PV :=
 match σ.store[id]? with
 | some (some cs) => cs[off]?
 | _ => none
def ldA (k : Nat) (σ : Sg) (id off : Nat) : Option PV :=
 match σ.store[id]? with
 | some (some cs) => if off + k ≤ cs.length then some (.agg ((cs.drop off).take k)) else none
 | _ => none
def elS (l : List PV) (i off : Nat) : Option PV :=
 match l[i]? with
 | some e => e.cells[off]?
 | none => none
def elA (k : Nat) (l : List PV) (i off : Nat) : Option PV :=
 match l[i]? with
 | some e => if off + k ≤ e.cells.length then some (.agg ((e.cells.drop off).take k)) else none
 | none => none
def stX (k : Nat) (σ : Sg) (id off : Nat) (p : PV) : Option Sg :=
 match σ.store[id]? with
 | some (some cs) => if defd p && p.cells.all PV.scalar && (p.cells.length == k) && decide (off + p.cells.length ≤ cs.length) then some (σ.setVar id (putCells cs off p.cells)) else none
 | _ => none
def iaX (c : Nat) (l : List PV) (i : Int) : Option PV :=
  if 0 ≤ i ∧ i < (l.length : Int) then
    (match l[i.toNat]? with
     | some el => if el.cells.length = c then some (.eptr c l i.toNat 0) else none
     | none => none) else none
def iaM (c id off len : Nat) (i : Int) : Option PV := if 0 ≤ i ∧ i < (len : Int) then some (.ptr id (off + i.toNat * c)) else none
def bsX (c len : Nat) (parts : List (Nat × PV)) : Option PV :=
 if (parts.map (·.1) == List.range len) && parts.all (fun p => defd p.2 && (p.2.cells.length == c)) && decide (len * c ≤ 2 ^ 24) then some (.isl (parts.map (·.2)) .exact) else none
def appX (c b : Nat) (σ : Sg) (l : List PV) (own : Own) (m : List PV) : Option (PV × Sg) :=
  if m.all (fun q => (q.cells.length == c) && q.cells.all PV.scalar) && decide ((l.length + m.length) * b ≤ 2 ^ 47) then
    (match own with
     | .ro => none
     | .exact => if l.all (fun q => q.cells.length == c) then some (.isl (l ++ m) (.tok σ.rooms.length (l.length + m.length) c), σ.pushRoom (l.length + m.length)) else none
     | .tok r n es => if es = c ∧ σ.rooms[r]? = some n then some (.isl (l ++ m) (.tok r (n + m.length) es), σ.setRoom r (n + m.length)) else none)
  else none
def bldX (zs : List PV) (ps : List (Nat × Nat)) (parts : List (Nat × PV)) : Option PV :=
 if parts.all (fun p => defd p.2) then (fillPV (fun i => ps[i]?) zs parts).map .agg else none
section
variable {P : Program} {t e : TypeId} {d : TypeDesc} {k c b : Nat} {σ : Sg} {id off : Nat} {l m : List PV} {own own' : Own} {es i : Nat}
theorem ldS_of (h : P.underlying t = some d) (ha : isAggD d = false) : loadPV P σ t (.ptr id off) = ldS σ id off := by simp [loadPV, h, partPV, ha, ldS]; rfl
theorem ldA_of (h : P.underlying t = some d) (ha : isAggD d = true) (hc : P.cellsOf t = k) : loadPV P σ t (.ptr id off) = ldA k σ id off := by simp [loadPV, h, partPV, ha, hc, ldA]; rfl
theorem elS_of (h : P.underlying t = some d) (ha : isAggD d = false) : loadPV P σ t (.eptr es l i off) = elS l i off := by simp [loadPV, h, partPV, ha, elS]; rfl
theorem elA_of (h : P.underlying t = some d) (ha : isAggD d = true) (hc : P.cellsOf t = k) : loadPV P σ t (.eptr es l i off) = elA k l i off := by simp [loadPV, h, partPV, ha, hc, elA]; rfl
theorem stX_of (h : P.underlying t = some d) (hc : P.cellsOf t = k) (p : PV) : storePV P σ t (.ptr id off) p = stX k σ id off p := by simp [storePV, h, hc, stX]; rfl
theorem iaX_of (h : P.underlying t = some (.slice e)) (he : P.underlying e = some d) (hc : P.cellsOf e = c) (kd : IntKind) (n : Int) : indexAddrPV P t (.isl l own) (.int kd n) = iaX c l n := by
 unfold indexAddrPV iaX
 rw [h]
 simp only [he, hc]
 split
 ·cases l[n.toNat]? <;> rfl
 rfl
theorem iaM_of (h : P.underlying t = some (.slice e)) (he : P.underlying e = some d) (hc : P.cellsOf e = c) (kd : IntKind) (len : Nat) (n : Int) : indexAddrPV P t (.msl id off len) (.int kd n) = iaM c id off len n := by
 simp [indexAddrPV, h, he, hc, iaM]
theorem iaA_of {len : Nat} (h : P.underlying t = some (.array len e)) (he : P.underlying e = some d) (hc : P.cellsOf e = c) (kd : IntKind) (n : Int) : indexAddrPV P t (.ptr id off) (.int kd n) = iaM c id off len n := by
 simp [indexAddrPV, h, he, hc, iaM]
theorem len_of (h : P.underlying t = some (.slice e)) : lenPV P t (.isl l own) = some (.int .i64 l.length) := by simp [lenPV, h]
theorem lenM_of (h : P.underlying t = some (.slice e)) (n : Nat) : lenPV P t (.msl id off n) = some (.int .i64 n) := by simp [lenPV, h]
theorem bsX_of {zs : List PV} (h : P.underlying t = some (.slice e)) (he : P.underlying e = some d) (hc : P.cellsOf e = c) (hz : zeroPV P e = some zs) (len : Nat) (parts : List (Nat × PV)) : buildSlicePV P t len parts = bsX c len parts := by
 unfold buildSlicePV bsX
 rw [h]
 simp only [he, hc, hz, Option.isSome_some, Bool.true_and, Bool.and_true]
theorem appX_of {zs : List PV} (h : P.underlying t = some (.slice e)) (he : P.underlying e = some d) (hc : P.cellsOf e = c) (hb : P.bytesOf e = b) (hb0 : b ≠ 0) (hc0 : 0 < c) (hz : zeroPV P e = some zs) (hzl : zs.length = c) :
 appendPV P σ t t (.isl l own) (.isl m own') = appX c b σ l own m := by
 unfold appendPV appX
 rw [h]
 simp only [he, hc, hb, hz, hzl, Option.isSome_some, Bool.true_and, Option.map_some, BEq.rfl, Bool.and_true, hb0, hc0, ne_eq, not_false_eq_true, and_self, decide_true]
 rfl
theorem bldX_of {zs : List PV} {fs : Array Field} {ps : List (Nat × Nat)} (hz : zeroPV P t = some zs) (h : P.underlying t = some (.struct fs)) (hf : fs.toList.all (fun f => (P.underlying f.type).isSome) = true) (hp : structPlaces P fs.toList = ps) (parts : List (Nat × PV)) :
 buildPV P t parts = bldX zs ps parts := by
 unfold buildPV
 rw [hz, h]
 simp only [hf, hp, bldX, Bool.true_and]
theorem fa_of {fs : Array Field} {f : Nat} {fl : Field} (h : P.underlying t = some (.struct fs)) (hf : fs[f]? = some fl) (hd : P.underlying fl.type = some d) (hc : P.cellsOf fl.type = c) (hc0 : c ≠ 0) (ho : fl.offset = k) :
 fieldAddrPV P t (.ptr id off) f = some (.ptr id (off + k)) ∧ fieldAddrPV P t (.eptr es l i off) f = some (.eptr es l i (off + k)) := by
 simp [fieldAddrPV, fieldOf, h, hf, hd, hc, hc0, ho]
theorem fa1_of {fs : Array Field} {f : Nat} {fl : Field} (h : P.underlying t = some (.struct fs)) (hf : fs[f]? = some fl) (hd : P.underlying fl.type = some d) (hc : P.cellsOf fl.type = c) (hc0 : (c == 0) = false) (ho : fl.offset = k) :
 fieldAddrPV P t (.ptr id off) f = some (.ptr id (off + k)) := (fa_of (es := 0) (l := []) (i := 0) h hf hd hc (by simpa using hc0) ho).1
theorem fa2_of {fs : Array Field} {f : Nat} {fl : Field} (h : P.underlying t = some (.struct fs)) (hf : fs[f]? = some fl) (hd : P.underlying fl.type = some d) (hc : P.cellsOf fl.type = c) (hc0 : (c == 0) = false) (ho : fl.offset = k) :
 fieldAddrPV P t (.eptr es l i off) f = some (.eptr es l i (off + k)) := (fa_of (id := 0) h hf hd hc (by simpa using hc0) ho).2
theorem fpS_of {fs : Array Field} {f : Nat} {fl : Field} (h : P.underlying t = some (.struct fs)) (hf : fs[f]? = some fl) (hd : P.underlying fl.type = some d) (ha : isAggD d = false) (ho : fl.offset = k) (cs : List PV) :
 fieldPV P t (.agg cs) f = cs[k]? := by
 simp [fieldPV, fieldOf, h, hf, hd, ho, partPV, ha]
end
abbrev I (n : Int) : PV := .int .i64 n
abbrev ints (xs : List Int) : PV := .isl (xs.map I) .ro
theorem ldS_at {σ : Sg} {id off : Nat} {cs : List PV} (h : σ.store[id]? = some (some cs)) : ldS σ id off = cs[off]? := by simp [ldS, h]
theorem ldA_at {k : Nat} {σ : Sg} {id off : Nat} {cs : List PV} (h : σ.store[id]? = some (some cs)) : ldA k σ id off = if off + k ≤ cs.length then some (.agg ((cs.drop off).take k)) else none := by simp [ldA, h]
theorem stX_at {k : Nat} {σ : Sg} {id off : Nat} {cs : List PV} (h : σ.store[id]? = some (some cs)) (p : PV) :
 stX k σ id off p = if defd p && p.cells.all PV.scalar && (p.cells.length == k) && decide (off + p.cells.length ≤ cs.length) then some (σ.setVar id (putCells cs off p.cells)) else none := by simp [stX, h]
section ext
variable (σ : Sg) (l : List (Option (List PV))) (rm : List Nat) (ys : List LState) (j : Nat)
theorem ldS_ext (off : Nat) : ldS (σ.ext l rm ys) (σ.store.length + j) off = match l[j]? with | some (some cs) => cs[off]? | _ => none := by simp only [ldS, Sg.get_ext]
theorem ldS_ext0 (off : Nat) : ldS (σ.ext l rm ys) σ.store.length off = match l[0]? with | some (some cs) => cs[off]? | _ => none := by simp only [ldS, Sg.get_ext0]
theorem ldA_ext (k off : Nat) : ldA k (σ.ext l rm ys) (σ.store.length + j) off = match l[j]? with | some (some cs) => if off + k ≤ cs.length then some (.agg ((cs.drop off).take k)) else none | _ => none := by simp only [ldA, Sg.get_ext]
theorem ldA_ext0 (k off : Nat) : ldA k (σ.ext l rm ys) σ.store.length off = match l[0]? with | some (some cs) => if off + k ≤ cs.length then some (.agg ((cs.drop off).take k)) else none | _ => none := by simp only [ldA, Sg.get_ext0]
theorem stX_ext (k off : Nat) (p : PV) : stX k (σ.ext l rm ys) (σ.store.length + j) off p = match l[j]? with
 | some (some cs) => if defd p && p.cells.all PV.scalar && (p.cells.length == k) && decide (off + p.cells.length ≤ cs.length) then some (σ.ext (l.set j (some (putCells cs off p.cells))) rm ys) else none
 | _ => none := by
 simp only [stX, Sg.get_ext, Sg.set_ext]
theorem stX_ext0 (k off : Nat) (p : PV) : stX k (σ.ext l rm ys) σ.store.length off p = match l[0]? with
 | some (some cs) => if defd p && p.cells.all PV.scalar && (p.cells.length == k) && decide (off + p.cells.length ≤ cs.length) then some (σ.ext (l.set 0 (some (putCells cs off p.cells))) rm ys) else none
 | _ => none := by
 simp only [stX, Sg.get_ext0, Sg.set_ext0]
 rfl
end ext
theorem least (p : Nat → Prop) (h : ∃ n, p n) : ∃ n, p n ∧ ∀ m, p m → n ≤ m := by
 obtain ⟨n, hn⟩ := h
 induction n using Nat.strongRecOn with
 | _ n ih =>
  by_cases h : ∃ m, m < n ∧ p m
  ·obtain ⟨m, hm, hp⟩ := h
   exact ih m hm hp
  exact ⟨n, hn, fun m hm => Nat.le_of_not_lt fun hlt => h ⟨m, hlt, hm⟩⟩
section
variable {P : Program} {Y : YEnv} {N : Nat} {rd : Option Nat} {lo : Nat × Nat} {E : Env} {σ : Sg} {Q : Exit → Env → Sg → Prop}
open Classical in
theorem W_loopK {c : Code} (I : Nat → Env → Sg → Prop) (k : Nat) (h0 : I k E σ)
 (round : ∀ k E σ, I k E σ → W P Y N rd lo c E σ (Seq (fun E' σ' => ∃ k', k' < k ∧ I k' E' σ') Q)) : W P Y N rd lo (.loop c) E σ Q := by
 refine W_loop (fun E σ => ∃ k, I k E σ) (fun E σ => if h : ∃ k, I k E σ then Classical.choose (least (fun k => I k E σ) h) else 0) ⟨k, h0⟩ fun E σ h => ?_
 refine W_mono (round _ E σ (Classical.choose_spec (least (fun k => I k E σ) h)).1) fun ex E' σ' hq => ?_
 cases ex with
 | normal =>
  obtain ⟨k', hk, hI⟩ := hq
  have h' : ∃ k, I k E' σ' := ⟨k', hI⟩
  refine ⟨h', ?_⟩
  rw [dif_pos h', dif_pos h]
  exact Nat.lt_of_le_of_lt ((Classical.choose_spec (least (fun k => I k E' σ') h')).2 k' hI) hk
 | _ => exact hq
end
theorem Clean.all_nil {a b c : Nat} : ∀ p, p ∈ ([] : List PV) → Clean a b c p := fun p h => by cases h
theorem Clean.all_cons {a b c : Nat} {q : PV} {l : List PV} (h : Clean a b c q) (k : ∀ p, p ∈ l → Clean a b c p) : ∀ p, p ∈ q :: l → Clean a b c p := fun p hp => by
 rcases List.mem_cons.1 hp with rfl | hp
 ·exact h
 exact k p hp
theorem Clean.ints {a b c : Nat} (xs : List Int) (o : Own) (ho : ∀ r n es, o = .tok r n es → r < b) : Clean a b c (.isl (xs.map I) o) :=
 .isl _ _ (fun e he => by obtain ⟨n, _, rfl⟩ := List.mem_map.1 he; exact .int _ _) ho
/-- A function that leaves new variables behind. -/
theorem Fin_ext {P : Program} {fn : Func} {σ : Sg} {l : List (Option (List PV))} {rm : List Nat} {E : Env} {rs : List PV} {v : PV} (k j : Nat) (hcl : CleanSg σ)
 (hr : resPV P (σ.ext l rm) E fn.results.toList = some rs)
 (hv : Wk (σ.store.length + k) (σ.rooms.length + j) σ.ys.length (oneOr rs) v)
 (hc : ∀ cs, some cs ∈ l.take k → ∀ p, p ∈ cs → Clean (σ.store.length + k) (σ.rooms.length + j) σ.ys.length p) : Fin P fn σ v (σ.ext (l.take k) (rm.take j)) E (σ.ext l rm) := by
 refine ⟨rs, _, _, hr, Nat.le_add_right _ _, Nat.le_add_right _ _, hv, (Sg.cut_ext σ l rm k j).symm, fun id cs hid hcs p hp => ?_, by simp [Sg.ext]⟩
 have hcs' : (σ.store ++ l)[id]? = some (some cs) := hcs
 by_cases h : id < σ.store.length
 ·rw [List.getElem?_append_left h] at hcs'
  exact (hcl id cs h hcs' p hp).mono (Nat.le_add_right _ _) (Nat.le_add_right _ _) (Nat.le_refl _)
 rw [List.getElem?_append_right (by omega)] at hcs'
 refine hc cs ?_ p hp
 refine List.mem_of_getElem? (i := id - σ.store.length) ?_
 rw [List.getElem?_take_of_lt (by omega)]
 exact hcs'
/-- In a state of which nothing was added. -/
theorem Fin_end {P : Program} {fn : Func} {σ σ' : Sg} {E : Env} {rs : List PV} {v : PV} (hcl : CleanSg σ') (h1 : σ'.store.length = σ.store.length) (h2 : σ'.rooms.length = σ.rooms.length) (h3 : σ'.ys.length = σ.ys.length)
 (hr : resPV P σ' E fn.results.toList = some rs) (hv : Wk σ.store.length σ.rooms.length σ.ys.length (oneOr rs) v) : Fin P fn σ v σ' E σ' := by
 refine ⟨rs, _, _, hr, Nat.le_refl _, Nat.le_refl _, hv, ?_, ?_, h3⟩
 ·rw [← h1, ← h2, ← h3]; simp [Sg.cut]
 unfold CleanSg at hcl; rw [h1, h2, h3] at hcl; exact hcl
theorem CleanCut_ext {σ : Sg} {l : List (Option (List PV))} {rm : List Nat} {ys : List LState} {nb nr ny : Nat} (hcl : CleanSg σ) (hb : σ.store.length ≤ nb) (hr : σ.rooms.length ≤ nr) (hy : σ.ys.length ≤ ny)
 (h : ∀ cs, some cs ∈ l → ∀ p, p ∈ cs → Clean nb nr ny p) : CleanCut (σ.ext l rm ys) nb nr ny := by
 intro id cs _ hcs p hp
 have hcs' : (σ.store ++ l)[id]? = some (some cs) := hcs
 by_cases hid : id < σ.store.length
 ·rw [List.getElem?_append_left hid] at hcs'
  exact (hcl id cs hid hcs' p hp).mono hb hr hy
 rw [List.getElem?_append_right (by omega)] at hcs'
 exact h cs (List.mem_of_getElem? hcs') p hp
theorem CleanSg_ext {σ : Sg} {l : List (Option (List PV))} {rm : List Nat} {ys : List LState} (hcl : CleanSg σ) (h : ∀ cs, some cs ∈ l → ∀ p, p ∈ cs → Clean (σ.store.length + l.length) (σ.rooms.length + rm.length) (σ.ys.length + ys.length) p) :
 CleanSg (σ.ext l rm ys) := by
 unfold CleanSg
 rw [Sg.len_ext, Sg.rooms_ext, Sg.ys_ext]
 exact CleanCut_ext hcl (Nat.le_add_right _ _) (Nat.le_add_right _ _) (Nat.le_add_right _ _) h
/-- All of it is old, or plain. -/
theorem CleanL_nil {a b c : Nat} : ∀ cs, some cs ∈ ([] : List (Option (List PV))) → ∀ p, p ∈ cs → Clean a b c p := fun cs h => by cases h
theorem CleanL_cons {a b c : Nat} {ds : List PV} {l : List (Option (List PV))} (h : ∀ p, p ∈ ds → Clean a b c p) (k : ∀ cs, some cs ∈ l → ∀ p, p ∈ cs → Clean a b c p) : ∀ cs, some cs ∈ some ds :: l → ∀ p, p ∈ cs → Clean a b c p := by
 intro cs hcs
 rcases List.mem_cons.1 hcs with e | e
 ·injection e with e; subst e; exact h
 exact k cs e
/-- Cut back to what was there before. -/
theorem Weak.cutExt {N : Nat} {lo : Nat × Nat} {E E' : Env} {σ : Sg} {l : List (Option (List PV))} {rm : List Nat} {ys : List LState} (k j : Nat) (h1 : lo.1 ≤ σ.store.length + k) (h2 : lo.2 ≤ σ.rooms.length + j) (hcl : CleanSg σ)
 (hc : ∀ cs, some cs ∈ l.take k → ∀ p, p ∈ cs → Clean (σ.store.length + k) (σ.rooms.length + j) (σ.ys.length + ys.length) p)
 (hE : ∀ t, Wk (σ.store.length + k) (σ.rooms.length + j) (σ.ys.length + ys.length) (E.get t) (E'.get t)) : Weak N lo E (σ.ext l rm ys) E' (σ.ext (l.take k) (rm.take j) ys) := by
 have := Weak.cut (N := N) (lo := lo) (E := E) (E' := E') (σ := σ.ext l rm ys) (σ.store.length + k) (σ.rooms.length + j) h1 h2 (by rw [Sg.ys_ext]; exact hE) (by
  rw [Sg.ys_ext]
  intro id cs hid hcs p hp
  have hcs' : (σ.store ++ l)[id]? = some (some cs) := hcs
  by_cases h : id < σ.store.length
  ·rw [List.getElem?_append_left h] at hcs'
   exact (hcl id cs h hcs' p hp).mono (Nat.le_add_right _ _) (Nat.le_add_right _ _) (Nat.le_add_right _ _)
  rw [List.getElem?_append_right (by omega)] at hcs'
  refine hc cs ?_ p hp
  refine List.mem_of_getElem? (i := id - σ.store.length) ?_
  rw [List.getElem?_take_of_lt (by omega)]
  exact hcs')
 rw [Sg.ys_ext, Sg.cut_exty, List.take_length] at this
 exact this
theorem Wk.nil_get {a b c : Nat} {E : Env} : ∀ t, Wk a b c (E.get t) (Env.get [] t) := fun _ _ _ _ => .undef _
theorem Weak.room {N : Nat} {lo : Nat × Nat} {E : Env} {σ : Sg} {t es : Nat} {l : List PV} (ht : E.get t = .isl l .exact) (hes : ∀ q, q ∈ l → q.cells.length = es) :
 Weak N lo E σ ((t, .isl l (.tok σ.rooms.length l.length es)) :: E) (σ.pushRoom l.length) := by
 intro Ψ0 Ψ D a w hb le hr
 have hv := hr.env t
 rw [ht] at hv
 have fin : ∀ x : Option (Nat × Nat × Nat × Nat), (∀ b e c s, x = some (b, e, c, s) → ¬ e < c) → (∀ Ψ', Ψ.le Ψ' → Ψ'.hist σ.rooms.length l.length = some x → VR Ψ' (.isl l (.tok σ.rooms.length l.length es)) (a.tmps.getD t undef)) →
  ∃ Ψ', Ψ0.le Ψ' ∧ Rel N D Ψ' ((t, .isl l (.tok σ.rooms.length l.length es)) :: E) (σ.pushRoom l.length) a w := by
  intro x hx hvr
  obtain ⟨le', hs'⟩ := hr.sg.newRoom l.length x (fun b e c s hh hlt => absurd hlt (hx b e c s hh))
  refine ⟨_, le.trans le', hr.size, fun t' => ?_, hs', fun d hd => le'.ds _ (hr.dsub d hd), ?_⟩
  ·simp only [Env.get]
   split
   ·rename_i e; subst e
    exact hvr _ le' (by simp [Ty.addHist])
   exact (hr.env t').mono le'
  obtain ⟨rs, r1, r2, r3⟩ := hr.defs
  exact ⟨rs, r1, r2, fun r hm => ⟨le'.ds _ (r3 r hm).1, (r3 r hm).2⟩⟩
 generalize hx : a.tmps.getD t undef = x at hv fin
 cases hv with
 | islnil _ a0 _ => exact fin none (fun b e c s h => by cases h) fun Ψ' _ hh => .islnil _ a0 ⟨_, hh⟩
 | isl es0 _ _ b o cap vals hs h1 h2 hc ho =>
  have hcap : cap = l.length := ho
  subst hcap
  refine fin (some (b, o + l.length * es, o + l.length * es, es)) (fun b e c s h => by injection h with h; injection h with _ h; injection h with h1 h; injection h with h2 _; omega) fun Ψ' le' hh => ?_
  by_cases hl : l = []
  ·subst hl
   exact .isl es [] _ b o 0 vals (fun k e h => by simp at h) (fun k e j p h => by simp at h) (fun k e j p h => by simp at h) (Nat.le_refl _) ⟨rfl, hh⟩
  have : es0 = es := by
   cases l with
   | nil => exact absurd rfl hl
   | cons q l => rw [← hs 0 q rfl]; exact hes q (by simp)
  subst this
  exact .isl es0 l _ b o _ vals hs (fun k e j p q1 q2 => le'.imm _ _ _ (h1 k e j p q1 q2)) (fun k e j p q1 q2 => (h2 k e j p q1 q2).mono le') (Nat.le_refl _) ⟨rfl, hh⟩
/-- Any part of what is known of the temporaries. -/
theorem Weak.env {N : Nat} {lo : Nat × Nat} {E E' : Env} {σ : Sg} (h : ∀ t Ψ x, VR Ψ (E.get t) x → VR Ψ (E'.get t) x) : Weak N lo E σ E' σ := fun _ Ψ _ _ _ _ le hr =>
 ⟨Ψ, le, hr.size, fun t => h t Ψ _ (hr.env t), hr.sg, hr.dsub, hr.defs⟩
theorem Weak.keep {N : Nat} {lo : Nat × Nat} {E : Env} {σ : Sg} (ks : List Nat) : Weak N lo E σ (keep ks E) σ := fun _ Ψ _ _ _ _ le hr => ⟨Ψ, le, hr.keep ks⟩
theorem Weak.ro {N : Nat} {lo : Nat × Nat} {E : Env} {σ : Sg} (t : Nat) : Weak N lo E σ ((t, (E.get t).ro) :: E) σ := Weak.env fun t' Ψ x h => by
 simp only [Env.get]
 split
 ·rename_i e; subst e; exact h.ro
 exact h
theorem cleanE_nil {a b c : Nat} : ∀ kv, kv ∈ ([] : Env) → Clean a b c kv.2 := fun kv h => by cases h
theorem cleanE_cons {a b c t : Nat} {v : PV} {E : Env} (h : Clean a b c v) (k : ∀ kv, kv ∈ E → Clean a b c kv.2) : ∀ kv, kv ∈ (t, v) :: E → Clean a b c kv.2 := fun kv hk => by
 rcases List.mem_cons.1 hk with rfl | hk
 ·exact h
 exact k kv hk
theorem Wk.env {a b c : Nat} : ∀ {E : Env}, (∀ kv, kv ∈ E → Clean a b c kv.2) → ∀ t, Wk a b c (E.get t) (E.get t) := by
 intro E
 induction E with
 | nil => intro _ t; exact Wk.of_clean .undef
 | cons kv E ih =>
  intro h t
  obtain ⟨k, v⟩ := kv
  simp only [Env.get]
  split
  ·exact Wk.of_clean (h (k, v) (List.mem_cons_self ..))
  exact ih (fun kv hk => h kv (List.mem_cons_of_mem _ hk)) t
def setE1 (t : Nat) (v : PV) : Env → Env
 | [] => []
 | (k, x) :: E => if k = t then (k, v) :: E else (k, x) :: setE1 t v E
def setE : Env → Env → Env
 | E, [] => E
 | E, (t, v) :: u => setE (setE1 t v E) u
theorem setE_nil (E : Env) : setE E [] = E := rfl
theorem setE_cons (E : Env) (t : Nat) (v : PV) (u : Env) : setE E ((t, v) :: u) = setE (setE1 t v E) u := rfl
theorem setE1_nil (t : Nat) (v : PV) : setE1 t v [] = [] := rfl
theorem setE1_cons (t k : Nat) (v x : PV) (E : Env) : setE1 t v ((k, x) :: E) = if k = t then (k, v) :: E else (k, x) :: setE1 t v E := rfl
section
variable {P : Program} {Y : YEnv} {N : Nat} {rd : Option Nat} {lo : Nat × Nat} {E : Env} {σ : Sg} {Q : Exit → Env → Sg → Prop}
theorem W_loopT {α : Type} {c : Code} (upd : α → Env) (st : α → Sg) (Inv : α → Prop) (μ : α → Nat) (s0 : α) (hE : setE E (upd s0) = E) (hσ : st s0 = σ) (h0 : Inv s0)
 (round : ∀ s, Inv s → W P Y N rd lo c (setE E (upd s)) (st s) (Seq (fun E' σ' => ∃ s', Weak N lo E' σ' (setE E (upd s')) (st s') ∧ μ s' < μ s ∧ Inv s') Q)) : W P Y N rd lo (.loop c) E σ Q := by
 refine W_loopK (fun k E' σ' => ∃ s, k = μ s ∧ Inv s ∧ setE E (upd s) = E' ∧ st s = σ') (μ s0) ⟨s0, rfl, h0, hE, hσ⟩ ?_
 rintro k E' σ' ⟨s, rfl, hi, rfl, rfl⟩
 refine W_post_weak (W_mono (round s hi) ?_)
 intro ex E1 σ1 h
 cases ex with
 | normal =>
  obtain ⟨s', hw, hm, hi'⟩ := h
  exact ⟨_, _, hw, μ s', hm, s', rfl, hi', rfl, rfl⟩
 | _ => exact ⟨_, _, Weak.refl, h⟩
theorem W_loopS {α : Type} {c : Code} (upd : α → Env) (Inv : α → Prop) (μ : α → Nat) (s0 : α) (hE : setE E (upd s0) = E) (h0 : Inv s0)
 (round : ∀ s, Inv s → W P Y N rd lo c (setE E (upd s)) σ (Seq (fun E' σ' => ∃ s', Weak N lo E' σ' (setE E (upd s')) σ ∧ μ s' < μ s ∧ Inv s') Q)) : W P Y N rd lo (.loop c) E σ Q :=
 W_loopT upd (fun _ => σ) Inv μ s0 hE rfl h0 round
theorem Weak.eq {E E' : Env} {σ σ' : Sg} (h : E = E') (k : σ = σ') : Weak N lo E σ E' σ' := by subst h k; exact Weak.refl
end
theorem Wqq {N : Nat} {lo : Nat × Nat} {E E' : Env} {σ σ' : Sg} (h : E = E' := by first | rfl | (simp only [go_sem]; done) | (simp only [go_sem]; rfl) | (simp [go_sem]; done) | (simp [go_sem]; omega)) (k : σ = σ' := by first | rfl | (simp only [go_sem]; done) | (simp [go_sem]; done)) : Weak N lo E σ E' σ' := Weak.eq h k
def CleanAll (a b c : Nat) (l : List PV) : Prop := ∀ p, p ∈ l → Clean a b c p
def CleanLs (a b c : Nat) (l : List (Option (List PV))) : Prop := ∀ cs, some cs ∈ l → ∀ p, p ∈ cs → Clean a b c p
def CleanEs (a b c : Nat) (E : Env) : Prop := ∀ kv, kv ∈ E → Clean a b c kv.2
def OwnLt (b : Nat) (o : Own) : Prop := ∀ r n es, o = .tok r n es → r < b
section
variable {a b c : Nat}
theorem CleanAll_nil : CleanAll a b c [] = True := eq_true Clean.all_nil
theorem CleanAll_cons {p : PV} {l : List PV} : CleanAll a b c (p :: l) = (Clean a b c p ∧ CleanAll a b c l) := by simp [CleanAll]
theorem CleanAll_append {l m : List PV} : CleanAll a b c (l ++ m) = (CleanAll a b c l ∧ CleanAll a b c m) := by
 simp only [CleanAll, List.mem_append]
 exact propext ⟨fun h => ⟨fun p hp => h p (.inl hp), fun p hp => h p (.inr hp)⟩, fun h p hp => hp.elim (h.1 p) (h.2 p)⟩
theorem CleanLs_nil : CleanLs a b c [] = True := eq_true CleanL_nil
theorem CleanLs_cons {cs : List PV} {l : List (Option (List PV))} : CleanLs a b c (some cs :: l) = (CleanAll a b c cs ∧ CleanLs a b c l) := by
 refine propext ⟨fun h => ⟨h cs (List.mem_cons_self ..), fun ds hd => h ds (List.mem_cons_of_mem _ hd)⟩, fun h => CleanL_cons h.1 h.2⟩
theorem CleanEs_nil : CleanEs a b c [] = True := eq_true cleanE_nil
theorem CleanEs_cons {t : Nat} {v : PV} {E : Env} : CleanEs a b c ((t, v) :: E) = (Clean a b c v ∧ CleanEs a b c E) := by
 refine propext ⟨fun h => ⟨h (t, v) (List.mem_cons_self ..), fun ds hd => h ds (List.mem_cons_of_mem _ hd)⟩, fun h => cleanE_cons h.1 h.2⟩
theorem OwnLt_ro : OwnLt b .ro = True := eq_true fun r n es e => by cases e
theorem OwnLt_exact : OwnLt b .exact = True := eq_true fun r n es e => by cases e
theorem OwnLt_tok {r n es : Nat} : OwnLt b (.tok r n es) = (r < b) := propext ⟨fun h => h r n es rfl, fun h r' n' es' e => by cases e; exact h⟩
theorem Cl_undef : Clean a b c .undef = True := eq_true .undef
theorem Cl_bool {x : Bool} : Clean a b c (.bool x) = True := eq_true (.bool _)
theorem Cl_int {k : IntKind} {x : Int} : Clean a b c (.int k x) = True := eq_true (.int _ _)
theorem Cl_str {x : ByteArray} : Clean a b c (.str x) = True := eq_true (.str _)
theorem Cl_nilptr : Clean a b c .nilptr = True := eq_true .nilptr
theorem Cl_nilsl : Clean a b c .nilsl = True := eq_true .nilsl
theorem Cl_nilfunc : Clean a b c .nilfunc = True := eq_true .nilfunc
theorem Cl_niliface : Clean a b c .niliface = True := eq_true .niliface
theorem Cl_ptr {id off : Nat} : Clean a b c (.ptr id off) = (id < a) := propext ⟨fun h => by cases h; assumption, fun h => .ptr _ _ h⟩
theorem Cl_msl {id off len : Nat} : Clean a b c (.msl id off len) = (id < a) := propext ⟨fun h => by cases h; assumption, fun h => .msl _ _ _ h⟩
theorem Cl_yield {y : Nat} : Clean a b c (.yield y) = (y < c) := propext ⟨fun h => by cases h; assumption, fun h => .yield _ h⟩
theorem Cl_eptr {es : Nat} {l : List PV} {i off : Nat} : Clean a b c (.eptr es l i off) = CleanAll a b c l := propext ⟨fun h => by cases h; assumption, fun h => .eptr _ _ _ _ h⟩
theorem Cl_isl {l : List PV} {o : Own} : Clean a b c (.isl l o) = (CleanAll a b c l ∧ OwnLt b o) := propext ⟨fun h => by cases h; exact ⟨‹_›, ‹_›⟩, fun h => .isl _ _ h.1 h.2⟩
theorem Cl_agg {l : List PV} : Clean a b c (.agg l) = CleanAll a b c l := propext ⟨fun h => by cases h; assumption, fun h => .agg _ h⟩
theorem Cl_tuple {l : List PV} : Clean a b c (.tuple l) = CleanAll a b c l := propext ⟨fun h => by cases h; assumption, fun h => .tuple _ h⟩
theorem Cl_func {fn : Fn} {l m : List PV} : Clean a b c (.func fn l m) = (CleanAll a b c l ∧ CleanAll a b c m) := propext ⟨fun h => by cases h; exact ⟨‹_›, ‹_›⟩, fun h => .func _ _ _ h.1 h.2⟩
theorem CleanAll_ints {xs : List Int} : CleanAll a b c (xs.map I) = True := eq_true fun p hp => by obtain ⟨x, _, rfl⟩ := List.mem_map.1 hp; exact .int _ _
theorem CleanAll_map {α : Type} {f : α → PV} {xs : List α} (h : ∀ x, Clean a b c (f x)) : CleanAll a b c (xs.map f) = True := eq_true fun p hp => by obtain ⟨x, _, rfl⟩ := List.mem_map.1 hp; exact h x
end
attribute [go_sem] CleanAll_nil CleanAll_cons CleanAll_append CleanLs_nil CleanLs_cons CleanEs_nil CleanEs_cons OwnLt_ro OwnLt_exact OwnLt_tok Cl_undef Cl_bool Cl_int Cl_str Cl_nilptr Cl_nilsl Cl_nilfunc Cl_niliface Cl_ptr Cl_msl Cl_yield Cl_eptr Cl_isl Cl_agg Cl_tuple Cl_func CleanAll_ints
attribute [go_sem] setE_nil setE_cons setE1_nil setE1_cons
theorem Weak.cutX {N : Nat} {lo : Nat × Nat} {E : Env} {σ : Sg} {l : List (Option (List PV))} {rm : List Nat} {ys : List LState} (k j : Nat) (h1 : lo.1 ≤ σ.store.length + k) (h2 : lo.2 ≤ σ.rooms.length + j) (hcl : CleanSg σ)
 (hc : CleanLs (σ.store.length + k) (σ.rooms.length + j) (σ.ys.length + ys.length) (l.take k)) (hE : CleanEs (σ.store.length + k) (σ.rooms.length + j) (σ.ys.length + ys.length) E) :
 Weak N lo E (σ.ext l rm ys) E (σ.ext (l.take k) (rm.take j) ys) := Weak.cutExt k j h1 h2 hcl hc (Wk.env hE)
theorem Wk_eq {a b c : Nat} {p q : PV} (h : p = q) (hc : Clean a b c q) : Wk a b c p q := by subst h; exact Wk.of_clean hc
theorem Fsa {P : Program} {fn : Func} {σ : Sg} {l : List (Option (List PV))} {rm : List Nat} {E : Env} {rs : List PV} {v : PV} (hcl : CleanSg σ) (hr : resPV P (σ.ext l rm) E fn.results.toList = some rs)
    (hv : oneOr rs = v) (hc : Clean σ.store.length σ.rooms.length σ.ys.length v := by simp only [go_sem]) : Fin P fn σ v σ E (σ.ext l rm) := Fin_same hcl hr (Wk_eq hv hc)
theorem Fse {P : Program} {fn : Func} {σ : Sg} {E : Env} {rs : List PV} {v : PV} (hcl : CleanSg σ) (hr : resPV P σ E fn.results.toList = some rs)
    (hv : oneOr rs = v) (hc : Clean σ.store.length σ.rooms.length σ.ys.length v := by simp only [go_sem]) : Fin P fn σ v σ E σ := Fin_self hcl hr (Wk_eq hv hc)
section
variable {α : Type} {f : α → PV} {xs : List α} {c k i off : Nat} {n : Int}
theorem iaX_m (f : α → PV) (xs : List α) : iaX c (xs.map f) n = if 0 ≤ n then (xs[n.toNat]?).bind fun x => if (f x).cells.length = c then some (.eptr c (xs.map f) n.toNat 0) else none else none := by
 unfold iaX
 by_cases h : 0 ≤ n
 ·by_cases h2 : n.toNat < xs.length
  ·rw [if_pos ⟨h, by simp; omega⟩, if_pos h]
   simp [h2]
  rw [if_neg (fun h' => h2 (by have := h'.2; simp at this; omega)), if_pos h]
  rw [List.getElem?_eq_none (by omega)]
  rfl
 rw [if_neg (fun h' => h h'.1), if_neg h]
theorem elS_m (f : α → PV) (xs : List α) : elS (xs.map f) i off = (xs[i]?).bind fun x => (f x).cells[off]? := by
 simp only [elS, List.getElem?_map]
 cases xs[i]? <;> rfl
theorem elA_m (f : α → PV) (xs : List α) : elA k (xs.map f) i off = (xs[i]?).bind fun x => if off + k ≤ (f x).cells.length then some (.agg (((f x).cells.drop off).take k)) else none := by
 simp only [elA, List.getElem?_map]
 cases xs[i]? <;> rfl
end
theorem bindSome {α β : Type} (x : α) (f : α → Option β) : (some x).bind f = f x := rfl
theorem bindNone {α β : Type} (f : α → Option β) : (none : Option α).bind f = none := rfl
attribute [go_sem] appendAny_isl appendAny_gsl appendAny_gnil
attribute [go_sem] iaX_m elS_m elA_m bindSome bindNone Int.natCast_nonneg Int.toNat_natCast
section
variable {σ : Sg} {d : Nat} {cs cs' : List PV} {l : List (Option (List PV))} {rm : List Nat} {ys : List LState} {k j off : Nat}
theorem sv_len : (σ.setVar d cs).store.length = σ.store.length := by simp [Sg.setVar]
theorem sv_rooms : (σ.setVar d cs).rooms = σ.rooms := rfl
theorem sv_ys : (σ.setVar d cs).ys = σ.ys := rfl
theorem sv_sv : (σ.setVar d cs).setVar d cs' = σ.setVar d cs' := by simp [Sg.setVar]
theorem sv_get (h : d < σ.store.length) : (σ.setVar d cs).store[d]? = some (some cs) := by simp [Sg.setVar, h]
theorem ext_get (h : d < σ.store.length) : (σ.ext l rm ys).store[d]? = σ.store[d]? := by
 show (σ.store ++ l)[d]? = _
 rw [List.getElem?_append_left h]
theorem sv_ext (h : d < σ.store.length) : (σ.ext l rm ys).setVar d cs = (σ.setVar d cs).ext l rm ys := by
 simp [Sg.setVar, Sg.ext, List.set_append_left _ _ h]
theorem ldS_sv (h : d < σ.store.length) : ldS (σ.setVar d cs) d off = cs[off]? := ldS_at (sv_get h)
theorem stX_sv (h : d < σ.store.length) (p : PV) : stX k (σ.setVar d cs) d off p = if defd p && p.cells.all PV.scalar && (p.cells.length == k) && decide (off + p.cells.length ≤ cs.length) then some (σ.setVar d (putCells cs off p.cells)) else none := by
 rw [stX_at (sv_get h), sv_sv]
theorem ldS_svx : ldS ((σ.setVar d cs).ext l rm ys) (σ.store.length + j) off = match l[j]? with | some (some cs) => cs[off]? | _ => none := by
 rw [← sv_len (d := d) (cs := cs)]; exact ldS_ext ..
theorem ldS_svx0 : ldS ((σ.setVar d cs).ext l rm ys) σ.store.length off = match l[0]? with | some (some cs) => cs[off]? | _ => none := by
 rw [← sv_len (d := d) (cs := cs)]; exact ldS_ext0 ..
theorem ldA_svx : ldA k ((σ.setVar d cs).ext l rm ys) (σ.store.length + j) off = match l[j]? with | some (some cs) => if off + k ≤ cs.length then some (.agg ((cs.drop off).take k)) else none | _ => none := by
 rw [← sv_len (d := d) (cs := cs)]; exact ldA_ext ..
theorem ldA_svx0 : ldA k ((σ.setVar d cs).ext l rm ys) σ.store.length off = match l[0]? with | some (some cs) => if off + k ≤ cs.length then some (.agg ((cs.drop off).take k)) else none | _ => none := by
 rw [← sv_len (d := d) (cs := cs)]; exact ldA_ext0 ..
theorem stX_svx (p : PV) : stX k ((σ.setVar d cs).ext l rm ys) (σ.store.length + j) off p = match l[j]? with
 | some (some ds) => if defd p && p.cells.all PV.scalar && (p.cells.length == k) && decide (off + p.cells.length ≤ ds.length) then some ((σ.setVar d cs).ext (l.set j (some (putCells ds off p.cells))) rm ys) else none
 | _ => none := by
 rw [← sv_len (d := d) (cs := cs)]; exact stX_ext ..
theorem stX_svx0 (p : PV) : stX k ((σ.setVar d cs).ext l rm ys) σ.store.length off p = match l[0]? with
 | some (some ds) => if defd p && p.cells.all PV.scalar && (p.cells.length == k) && decide (off + p.cells.length ≤ ds.length) then some ((σ.setVar d cs).ext (l.set 0 (some (putCells ds off p.cells))) rm ys) else none
 | _ => none := by
 rw [← sv_len (d := d) (cs := cs)]; exact stX_ext0 ..
theorem setVar_ext (cs : List PV) : (σ.ext l rm ys).setVar (σ.store.length + j) cs = σ.ext (l.set j (some cs)) rm ys := Sg.set_ext σ l rm ys j cs
theorem setVar_ext0 (cs : List PV) : (σ.ext l rm ys).setVar σ.store.length cs = σ.ext (l.set 0 (some cs)) rm ys := Sg.set_ext0 σ l rm ys cs
theorem setVar_svx (cs' : List PV) : ((σ.setVar d cs).ext l rm ys).setVar (σ.store.length + j) cs' = (σ.setVar d cs).ext (l.set j (some cs')) rm ys := by
 rw [← sv_len (d := d) (cs := cs)]; exact setVar_ext cs'
theorem setVar_svx0 (cs' : List PV) : ((σ.setVar d cs).ext l rm ys).setVar σ.store.length cs' = (σ.setVar d cs).ext (l.set 0 (some cs')) rm ys := by
 rw [← sv_len (d := d) (cs := cs)]; exact setVar_ext0 cs'
theorem lt_of_get {x : Option (List PV)} (h : σ.store[d]? = some x) : d < σ.store.length := (List.getElem?_eq_some_iff.1 h).1
end
attribute [go_sem] sv_len sv_rooms sv_ys sv_sv ldS_svx ldS_svx0 ldA_svx ldA_svx0 stX_svx stX_svx0 setVar_ext setVar_ext0 setVar_svx setVar_svx0
theorem CleanSg_set {σ : Sg} {d : Nat} {cs : List PV} (h : CleanSg σ) (hc : CleanAll σ.store.length σ.rooms.length σ.ys.length cs) : CleanSg (σ.setVar d cs) := by
 unfold CleanSg
 rw [sv_len, sv_rooms, sv_ys]
 intro id ds hid hds p hp
 by_cases hd : d = id
 ·subst hd
  have hds' : (σ.store.set d (some cs))[d]? = some (some ds) := hds
  rw [List.getElem?_set_self hid] at hds'
  injection hds' with e
  injection e with e
  subst e
  exact hc p hp
 have hds' : (σ.store.set d (some cs))[id]? = some (some ds) := hds
 rw [List.getElem?_set_ne hd] at hds'
 exact h id ds hid hds' p hp
/-- The end of a function that set a variable that was there before. -/
theorem Fin_set {P : Program} {fn : Func} {σ : Sg} {d : Nat} {cs : List PV} {l : List (Option (List PV))} {rm : List Nat} {E : Env} {rs : List PV} {v : PV} (hcl : CleanSg σ) (hc : CleanAll σ.store.length σ.rooms.length σ.ys.length cs)
 (hr : resPV P ((σ.setVar d cs).ext l rm) E fn.results.toList = some rs)
 (hv : Wk σ.store.length σ.rooms.length σ.ys.length (oneOr rs) v) : Fin P fn σ v (σ.setVar d cs) E ((σ.setVar d cs).ext l rm) := by
 have hcl' := CleanSg_set (d := d) hcl hc
 refine ⟨rs, _, _, hr, Nat.le_refl _, Nat.le_refl _, hv, ?_, fun id ds hid hds p hp => ?_, by simp [Sg.ext, Sg.setVar]⟩
 ·have := Sg.cut_ext0 (σ.setVar d cs) l rm
  rw [sv_len, sv_rooms, sv_ys] at this
  exact this.symm
 have hc' : ((σ.setVar d cs).store ++ l)[id]? = some (some ds) := hds
 rw [List.getElem?_append_left (by rw [sv_len]; exact hid)] at hc'
 have := hcl' id ds (by rw [sv_len]; exact hid) hc' p hp
 rw [sv_len, sv_rooms, sv_ys] at this
 exact this
theorem Fin_set0 {P : Program} {fn : Func} {σ : Sg} {d : Nat} {cs : List PV} {E : Env} {rs : List PV} {v : PV} (hcl : CleanSg σ) (hc : CleanAll σ.store.length σ.rooms.length σ.ys.length cs)
 (hr : resPV P (σ.setVar d cs) E fn.results.toList = some rs)
 (hv : Wk σ.store.length σ.rooms.length σ.ys.length (oneOr rs) v) : Fin P fn σ v (σ.setVar d cs) E (σ.setVar d cs) := by
 have := Fin_set (l := []) (rm := []) hcl hc (by rw [Sg.ext_nil]; exact hr) hv
 rw [Sg.ext_nil] at this
 exact this
theorem W_regionJ {P : Program} {Y : YEnv} {N : Nat} {rd : Option Nat} {lo : Nat × Nat} {id : Nat} {ops : Array Oper} {E : Env} {σ : Sg} {Q : Exit → Env → Sg → Prop} (ks : List Nat) (upd : Env)
 (rest : Q .normal (keep ks (upd ++ E)) σ) (h : ∀ K : Env → Sg → Prop, (∀ E', keep ks E' = keep ks (upd ++ E) → K E' σ) → GL P Y N ops ops.toList E σ K) : W P Y N rd lo (.region id ops false) E σ Q :=
 W_region ks fun K hK => h K fun E' e => hK E' σ (by rw [e]; exact rest)
theorem W_drawJ {P : Program} {Y : YEnv} {N : Nat} {rd : Option Nat} {lo : Nat × Nat} {id : Nat} {ops : Array Oper} {E : Env} {σ : Sg} {Q : Exit → Env → Sg → Prop} (ks : List Nat) (upd : Env) (is : List Nat) (plan : List (Nat × Nat)) (pre : List (List Nat))
 (hm : P.follows .mixedOrders = true) (hc : drawOK ops is plan pre = true) (rest : Q .normal (keep ks (upd ++ E)) σ)
 (h : ∀ K : Env → Sg → Prop, (∀ E', keep ks E' = keep ks (upd ++ E) → K E' σ) → GD P Y N ops is (undefs ops.toList E) σ [] (fun T E' σ' => Dem P ops T.reverse σ' plan ∧ K E' σ')) : W P Y N rd lo (.region id ops true) E σ Q :=
 W_draw ks is plan pre hm hc fun K hK => h K fun E' e => hK E' σ (by rw [e]; exact rest)
theorem wrapI {n : Int} (h1 : -9223372036854775808 ≤ n) (h2 : n ≤ 9223372036854775807) : IntKind.i64.wrap n = n := wrap_i64_id (by omega) (by omega)
/-- How a test is read. -/
theorem nrm : (∀ (p : Prop) [Decidable p], (decide p = true) = p) ∧ (∀ (p : Prop) [Decidable p], (decide p = false) = ¬p) ∧ (∀ b : Bool, ((!b) = true) = (b = false)) ∧ (∀ b : Bool, ((!b) = false) = (b = true)) ∧
 (∀ a b : Nat, ((a : Int) = (b : Int)) = (a = b)) ∧ (∀ a b : Nat, ((a : Int) < (b : Int)) = (a < b)) ∧ (∀ a b : Nat, ((a : Int) ≤ (b : Int)) = (a ≤ b)) ∧
 (∀ a b : Int, ((a != b) = true) = (¬ a = b)) ∧ (∀ a b : Int, ((a != b) = false) = (a = b)) ∧ (∀ a b : Int, ((a == b) = true) = (a = b)) ∧ (∀ a b : Int, ((a == b) = false) = (¬ a = b)) ∧
 (∀ b : Bool, (¬ b = true) = (b = false)) ∧ (∀ b : Bool, (¬ b = false) = (b = true)) := by
 refine ⟨fun p _ => by simp, fun p _ => by simp, fun b => by simp, fun b => by simp, fun a b => propext Int.natCast_inj, fun a b => propext Int.ofNat_lt, fun a b => propext Int.ofNat_le, fun a b => by simp, fun a b => by simp, fun a b => by simp, fun a b => by simp, fun b => by simp, fun b => by simp⟩
def okC (c : Nat) (m : List PV) : Prop := (m.all fun q => (q.cells.length == c) && q.cells.all PV.scalar) = true
theorem okC_nil {c : Nat} : okC c [] = True := eq_true rfl
theorem okC_cons {c : Nat} {q : PV} {m : List PV} : okC c (q :: m) = ((q.cells.length = c ∧ q.cells.all PV.scalar = true) ∧ okC c m) := by simp [okC]
theorem okC_append {c : Nat} {l m : List PV} : okC c (l ++ m) = (okC c l ∧ okC c m) := by simp [okC]
theorem okC_ints {xs : List Int} : okC 1 (xs.map I) = True := eq_true (by simp [okC, PV.cells, PV.scalar])
theorem okC_map {α : Type} {c : Nat} {f : α → PV} {xs : List α} (h : ∀ x, okC c [f x]) : okC c (xs.map f) = True := eq_true (by
 unfold okC at h ⊢
 rw [List.all_eq_true]
 intro q hq
 obtain ⟨x, _, rfl⟩ := List.mem_map.1 hq
 simpa using h x)
theorem okC_len {c : Nat} {m : List PV} (h : okC c m) : (m.all fun q => q.cells.length == c) = true := by
 unfold okC at h
 rw [List.all_eq_true] at h ⊢
 intro q hq
 have := h q hq
 simp only [Bool.and_eq_true] at this
 exact this.1
theorem appX_exact {c b : Nat} {σ : Sg} {l m : List PV} (hm : okC c m) (hl : okC c l) (hs : (l.length + m.length) * b ≤ 140737488355328) :
 appX c b σ l .exact m = some (.isl (l ++ m) (.tok σ.rooms.length (l.length + m.length) c), σ.pushRoom (l.length + m.length)) := by
 have hm' : (m.all fun q => (q.cells.length == c) && q.cells.all PV.scalar) = true := hm
 unfold appX
 rw [hm', okC_len hl]
 simp [hs]
theorem appX_tok {c b : Nat} {σ : Sg} {l m : List PV} {r n : Nat} (hm : okC c m) (hr : σ.rooms[r]? = some n) (hs : (l.length + m.length) * b ≤ 140737488355328) :
 appX c b σ l (.tok r n c) m = some (.isl (l ++ m) (.tok r (n + m.length) c), σ.setRoom r (n + m.length)) := by
 have hm' : (m.all fun q => (q.cells.length == c) && q.cells.all PV.scalar) = true := hm
 unfold appX
 rw [hm']
 simp [hs, hr]
section
variable {σ : Sg} {d : Nat} {cs : List PV} {l : List (Option (List PV))} {rm : List Nat} {ys : List LState} {j n : Nat}
theorem room_svx : ((σ.setVar d cs).ext l rm ys).rooms[σ.rooms.length + j]? = rm[j]? := Sg.room_ext (σ.setVar d cs) l rm ys j
theorem room_svx0 : ((σ.setVar d cs).ext l rm ys).rooms[σ.rooms.length]? = rm[0]? := Sg.room_ext0 (σ.setVar d cs) l rm ys
theorem setRoom_svx : ((σ.setVar d cs).ext l rm ys).setRoom (σ.rooms.length + j) n = (σ.setVar d cs).ext l (rm.set j n) ys := Sg.setRoom_ext (σ.setVar d cs) l rm ys j n
theorem setRoom_svx0 : ((σ.setVar d cs).ext l rm ys).setRoom σ.rooms.length n = (σ.setVar d cs).ext l (rm.set 0 n) ys := Sg.setRoom_ext0 (σ.setVar d cs) l rm ys n
end
attribute [go_sem] bsX okC_nil okC_cons okC_append okC_ints Sg.room_ext Sg.room_ext0 Sg.setRoom_ext Sg.setRoom_ext0 room_svx room_svx0 setRoom_svx setRoom_svx0
theorem ro_isl {l : List PV} {o : Own} : (PV.isl l o).ro = .isl (PV.roL l) .ro := by simp only [PV.ro]
theorem ro_agg {l : List PV} : (PV.agg l).ro = .agg (PV.roL l) := by simp only [PV.ro]
theorem ro_tuple {l : List PV} : (PV.tuple l).ro = .tuple (PV.roL l) := by simp only [PV.ro]
theorem ro_int {k : IntKind} {n : Int} : (PV.int k n).ro = .int k n := by simp only [PV.ro]
theorem ro_bool {b : Bool} : (PV.bool b).ro = .bool b := by simp only [PV.ro]
theorem ro_str {b : ByteArray} : (PV.str b).ro = .str b := by simp only [PV.ro]
theorem ro_ptr {i o : Nat} : (PV.ptr i o).ro = .ptr i o := by simp only [PV.ro]
theorem roL_nil : PV.roL [] = [] := by simp only [PV.roL]
theorem roL_cons {p : PV} {l : List PV} : PV.roL (p :: l) = p.ro :: PV.roL l := by simp only [PV.roL]
theorem roL_append {l m : List PV} : PV.roL (l ++ m) = PV.roL l ++ PV.roL m := by simp only [PV.roL_map, List.map_append]
theorem roL_ints {xs : List Int} : PV.roL (xs.map I) = xs.map I := by simp [PV.roL_map, PV.ro]
theorem roL_enc {α : Type} {f : α → PV} {xs : List α} (h : ∀ x, (f x).ro = f x) : PV.roL (xs.map f) = xs.map f := by simp [PV.roL_map, h]
attribute [go_sem] ro_isl ro_agg ro_tuple ro_int ro_bool ro_str ro_ptr roL_nil roL_cons roL_append roL_ints oneOr
theorem PC.val {P : Program} {Y : YEnv} {f : FuncId} {args : List PV} {σ σ' : Sg} {v v' : PV} (h : PC P Y f args σ v σ') (e : v = v') : PC P Y f args σ v' σ' := by subst e; exact h
/-- The same value n times. -/
def rep (n : Nat) (v : PV) : List PV := List.replicate n v
theorem rep_len (n : Nat) (v : PV) : (rep n v).length = n := by simp [rep]
attribute [go_sem] st List.reverse_cons List.reverse_nil bldX bne_self_eq_false iaM rep_len Int.cast_ofNat_Int List.getElem?_nil List.map_append List.length_append
theorem cells3 : Tryz.prog.cellsOf 3 = 1 := by kernel_rfl
theorem bytes3 : Tryz.prog.bytesOf 3 = 8 := by kernel_rfl
theorem zero3 : zeroPV Tryz.prog 3 = some [.int .i64 0] := by kernel_rfl
theorem cells4 : Tryz.prog.cellsOf 4 = 1 := by kernel_rfl
theorem bytes4 : Tryz.prog.bytesOf 4 = 1 := by kernel_rfl
theorem zero4 : zeroPV Tryz.prog 4 = some [.bool false] := by kernel_rfl
theorem cells22 : Tryz.prog.cellsOf 22 = 1 := by kernel_rfl
theorem zero22 : zeroPV Tryz.prog 22 = some [.isl [] .exact] := by kernel_rfl
theorem cells26 : Tryz.prog.cellsOf 26 = 7 := by kernel_rfl
theorem zero26 : zeroPV Tryz.prog 26 = some [.int .i64 0, .int .i64 0, .int .i64 0, .int .i64 0, .int .i64 0, .int .i64 0, .isl [] .exact] := by kernel_rfl
theorem cells30 : Tryz.prog.cellsOf 30 = 3 := by kernel_rfl
theorem zero30 : zeroPV Tryz.prog 30 = some [.int .i64 0, .int .i64 0, .int .i64 0] := by kernel_rfl
theorem cells31 : Tryz.prog.cellsOf 31 = 1 := by kernel_rfl
theorem cells33 : Tryz.prog.cellsOf 33 = 5 := by kernel_rfl
theorem zero33 : zeroPV Tryz.prog 33 = some [.int .i64 0, .int .i64 0, .int .i64 0, .int .i64 0, .isl [] .exact] := by kernel_rfl
theorem cells34 : Tryz.prog.cellsOf 34 = 1 := by kernel_rfl
theorem cells35 : Tryz.prog.cellsOf 35 = 1 := by kernel_rfl
theorem cells36 : Tryz.prog.cellsOf 36 = 1 := by kernel_rfl
theorem cells38 : Tryz.prog.cellsOf 38 = 3 := by kernel_rfl
theorem zero38 : zeroPV Tryz.prog 38 = some [.isl [] .exact, .isl [] .exact, .isl [] .exact] := by kernel_rfl
theorem cells42 : Tryz.prog.cellsOf 42 = 4 := by kernel_rfl
theorem bytes42 : Tryz.prog.bytesOf 42 = 48 := by kernel_rfl
theorem zero42 : zeroPV Tryz.prog 42 = some [.int .i64 0, .int .i64 0, .isl [] .exact, .int .i64 0] := by kernel_rfl
theorem cells46 : Tryz.prog.cellsOf 46 = 6 := by kernel_rfl
theorem bytes46 : Tryz.prog.bytesOf 46 = 48 := by kernel_rfl
theorem zero46 : zeroPV Tryz.prog 46 = some [.int .i64 0, .int .i64 0, .int .i64 0, .int .i64 0, .int .i64 0, .int .i64 0] := by kernel_rfl
theorem cells47 : Tryz.prog.cellsOf 47 = 1 := by kernel_rfl
theorem zero47 : zeroPV Tryz.prog 47 = some [.isl [] .exact] := by kernel_rfl
theorem cells48 : Tryz.prog.cellsOf 48 = 1 := by kernel_rfl
theorem zero48 : zeroPV Tryz.prog 48 = some [.int .i64 0] := by kernel_rfl
theorem cells55 : Tryz.prog.cellsOf 55 = 5 := by kernel_rfl
theorem bytes55 : Tryz.prog.bytesOf 55 = 120 := by kernel_rfl
theorem zero55 : zeroPV Tryz.prog 55 = some [.isl [] .exact, .isl [] .exact, .isl [] .exact, .isl [] .exact, .isl [] .exact] := by kernel_rfl
theorem cells57 : Tryz.prog.cellsOf 57 = 3 := by kernel_rfl
theorem bytes57 : Tryz.prog.bytesOf 57 = 40 := by kernel_rfl
theorem zero57 : zeroPV Tryz.prog 57 = some [.int .i64 0, .int .i64 0, .isl [] .exact] := by kernel_rfl
theorem cells60 : Tryz.prog.cellsOf 60 = 1 := by kernel_rfl
theorem zero62 : zeroPV Tryz.prog 62 = some [.int .u64 0] := by kernel_rfl
theorem cells69 : Tryz.prog.cellsOf 69 = 1 := by kernel_rfl
theorem zero69 : zeroPV Tryz.prog 69 = some [.nilmap] := by kernel_rfl
theorem zero78 : zeroPV Tryz.prog 78 = some [.isl [] .exact] := by kernel_rfl
theorem cells83 : Tryz.prog.cellsOf 83 = 8 := by kernel_rfl
theorem zero83 : zeroPV Tryz.prog 83 = some [.int .i64 0, .int .i64 0, .int .i64 0, .int .i64 0, .int .i64 0, .int .i64 0, .int .i64 0, .int .i64 0] := by kernel_rfl
theorem cells85 : Tryz.prog.cellsOf 85 = 16 := by kernel_rfl
theorem cells86 : Tryz.prog.cellsOf 86 = 1 := by kernel_rfl
theorem cells88 : Tryz.prog.cellsOf 88 = 21 := by kernel_rfl
theorem bytes88 : Tryz.prog.bytesOf 88 = 184 := by kernel_rfl
theorem zero88 : zeroPV Tryz.prog 88 = some [.int .i64 0, .int .i64 0, .int .i64 0, .isl [] .exact, .int .i64 0, .int .i64 0, .int .i64 0, .int .i64 0, .int .i64 0, .int .i64 0, .int .i64 0, .int .i64 0, .int .i64 0, .int .i64 0, .int .i64 0, .int .i64 0, .int .i64 0, .int .i64 0, .int .i64 0, .int .i64 0, .nilmap] := by kernel_rfl
theorem cells101 : Tryz.prog.cellsOf 101 = 1 := by kernel_rfl
theorem zero101 : zeroPV Tryz.prog 101 = some [.isl [] .exact] := by kernel_rfl
theorem cells103 : Tryz.prog.cellsOf 103 = 2 := by kernel_rfl
theorem zero103 : zeroPV Tryz.prog 103 = some [.int .i64 0, .int .i64 0] := by kernel_rfl
theorem cells110 : Tryz.prog.cellsOf 110 = 2 := by kernel_rfl
theorem zero110 : zeroPV Tryz.prog 110 = some [.int .i64 0, .int .i64 0] := by kernel_rfl
theorem cells111 : Tryz.prog.cellsOf 111 = 1 := by kernel_rfl
theorem bytes111 : Tryz.prog.bytesOf 111 = 8 := by kernel_rfl
theorem zero111 : zeroPV Tryz.prog 111 = some [.nilfunc] := by kernel_rfl
theorem cells122 : Tryz.prog.cellsOf 122 = 4 := by kernel_rfl
theorem bytes122 : Tryz.prog.bytesOf 122 = 32 := by kernel_rfl
theorem zero122 : zeroPV Tryz.prog 122 = some [.int .i64 0, .int .i64 0, .int .i64 0, .int .i64 0] := by kernel_rfl
theorem zero130 : zeroPV Tryz.prog 130 = some [.bool false, .bool false, .bool false, .bool false, .bool false, .bool false, .bool false, .bool false] := by kernel_rfl
theorem cells135 : Tryz.prog.cellsOf 135 = 2 := by kernel_rfl
theorem zero135 : zeroPV Tryz.prog 135 = some [.int .i64 0, .int .i64 0] := by kernel_rfl
theorem zero138 : zeroPV Tryz.prog 138 = some [.int .i64 0, .int .i64 0, .int .i64 0, .int .i64 0, .int .i64 0] := by kernel_rfl
theorem cells155 : Tryz.prog.cellsOf 155 = 1 := by kernel_rfl
theorem zero155 : zeroPV Tryz.prog 155 = some [.nilfunc] := by kernel_rfl
theorem cells158 : Tryz.prog.cellsOf 158 = 3 := by kernel_rfl
theorem zero158 : zeroPV Tryz.prog 158 = some [.int .i64 0, .int .i64 0, .int .i64 0] := by kernel_rfl
set_option maxRecDepth 100000
theorem lda3 {σ : Sg} {id off : Nat} : loadPV Tryz.prog σ 3 (.ptr id off) = ldS σ id off := ldS_of Tryz.underlying3 rfl
theorem ela3 {σ : Sg} {es i off : Nat} {l : List PV} : loadPV Tryz.prog σ 3 (.eptr es l i off) = elS l i off := elS_of Tryz.underlying3 rfl
theorem sto3 {σ : Sg} {id off : Nat} {p : PV} : storePV Tryz.prog σ 3 (.ptr id off) p = stX 1 σ id off p := stX_of Tryz.underlying3 cells3 p
theorem lda4 {σ : Sg} {id off : Nat} : loadPV Tryz.prog σ 4 (.ptr id off) = ldS σ id off := ldS_of Tryz.underlying4 rfl
theorem sto4 {σ : Sg} {id off : Nat} {p : PV} : storePV Tryz.prog σ 4 (.ptr id off) p = stX 1 σ id off p := stX_of Tryz.underlying4 cells4 p
theorem lda22 {σ : Sg} {id off : Nat} : loadPV Tryz.prog σ 22 (.ptr id off) = ldS σ id off := ldS_of Tryz.underlying22 rfl
theorem ela22 {σ : Sg} {es i off : Nat} {l : List PV} : loadPV Tryz.prog σ 22 (.eptr es l i off) = elS l i off := elS_of Tryz.underlying22 rfl
theorem sto22 {σ : Sg} {id off : Nat} {p : PV} : storePV Tryz.prog σ 22 (.ptr id off) p = stX 1 σ id off p := stX_of Tryz.underlying22 cells22 p
theorem ia22 {l : List PV} {own : Own} {k : IntKind} {i : Int} : indexAddrPV Tryz.prog 22 (.isl l own) (.int k i) = iaX 1 l i := iaX_of Tryz.underlying22 Tryz.underlying3 cells3 k i
theorem iam22 {id off len : Nat} {k : IntKind} {i : Int} : indexAddrPV Tryz.prog 22 (.msl id off len) (.int k i) = iaM 1 id off len i := iaM_of Tryz.underlying22 Tryz.underlying3 cells3 k len i
theorem len22 {l : List PV} {own : Own} : lenPV Tryz.prog 22 (.isl l own) = some (.int .i64 l.length) := len_of Tryz.underlying22
theorem lenm22 {id off n : Nat} : lenPV Tryz.prog 22 (.msl id off n) = some (.int .i64 n) := lenM_of Tryz.underlying22 n
theorem bs22 {len : Nat} {parts : List (Nat × PV)} : buildSlicePV Tryz.prog 22 len parts = bsX 1 len parts := bsX_of Tryz.underlying22 Tryz.underlying3 cells3 zero3 len parts
theorem app22 {σ : Sg} {l m : List PV} {own own' : Own} : appendPV Tryz.prog σ 22 22 (.isl l own) (.isl m own') = appX 1 8 σ l own m := appX_of Tryz.underlying22 Tryz.underlying3 cells3 bytes3 (by decide) (by decide) zero3 rfl
theorem lda26 {σ : Sg} {id off : Nat} : loadPV Tryz.prog σ 26 (.ptr id off) = ldA 7 σ id off := ldA_of Tryz.underlying26 rfl cells26
theorem sto26 {σ : Sg} {id off : Nat} {p : PV} : storePV Tryz.prog σ 26 (.ptr id off) p = stX 7 σ id off p := stX_of Tryz.underlying26 cells26 p
theorem fa26_0 {id off : Nat} : fieldAddrPV Tryz.prog 26 (.ptr id off) 0 = some (.ptr id (off + 0)) := fa1_of Tryz.underlying26 (by rfl) (by exact Tryz.underlying3) (by exact cells3) (by rfl) (by rfl)
theorem fa26_1 {id off : Nat} : fieldAddrPV Tryz.prog 26 (.ptr id off) 1 = some (.ptr id (off + 1)) := fa1_of Tryz.underlying26 (by rfl) (by exact Tryz.underlying3) (by exact cells3) (by rfl) (by rfl)
theorem fa26_2 {id off : Nat} : fieldAddrPV Tryz.prog 26 (.ptr id off) 2 = some (.ptr id (off + 2)) := fa1_of Tryz.underlying26 (by rfl) (by exact Tryz.underlying3) (by exact cells3) (by rfl) (by rfl)
theorem fa26_3 {id off : Nat} : fieldAddrPV Tryz.prog 26 (.ptr id off) 3 = some (.ptr id (off + 3)) := fa1_of Tryz.underlying26 (by rfl) (by exact Tryz.underlying3) (by exact cells3) (by rfl) (by rfl)
theorem fa26_4 {id off : Nat} : fieldAddrPV Tryz.prog 26 (.ptr id off) 4 = some (.ptr id (off + 4)) := fa1_of Tryz.underlying26 (by rfl) (by exact Tryz.underlying3) (by exact cells3) (by rfl) (by rfl)
theorem fa26_5 {id off : Nat} : fieldAddrPV Tryz.prog 26 (.ptr id off) 5 = some (.ptr id (off + 5)) := fa1_of Tryz.underlying26 (by rfl) (by exact Tryz.underlying3) (by exact cells3) (by rfl) (by rfl)
theorem fa26_6 {id off : Nat} : fieldAddrPV Tryz.prog 26 (.ptr id off) 6 = some (.ptr id (off + 6)) := fa1_of Tryz.underlying26 (by rfl) (by exact Tryz.underlying22) (by exact cells22) (by rfl) (by rfl)
theorem bld26 {parts : List (Nat × PV)} : buildPV Tryz.prog 26 parts = bldX [.int .i64 0, .int .i64 0, .int .i64 0, .int .i64 0, .int .i64 0, .int .i64 0, .isl [] .exact] [(0, 1), (1, 1), (2, 1), (3, 1), (4, 1), (5, 1), (6, 1)] parts := bldX_of zero26 Tryz.underlying26 (by kernel_rfl) (by kernel_rfl) parts
theorem lda30 {σ : Sg} {id off : Nat} : loadPV Tryz.prog σ 30 (.ptr id off) = ldA 3 σ id off := ldA_of Tryz.underlying30 rfl cells30
theorem ela30 {σ : Sg} {es i off : Nat} {l : List PV} : loadPV Tryz.prog σ 30 (.eptr es l i off) = elA 3 l i off := elA_of Tryz.underlying30 rfl cells30
theorem sto30 {σ : Sg} {id off : Nat} {p : PV} : storePV Tryz.prog σ 30 (.ptr id off) p = stX 3 σ id off p := stX_of Tryz.underlying30 cells30 p
theorem fa30_0 {id off : Nat} : fieldAddrPV Tryz.prog 30 (.ptr id off) 0 = some (.ptr id (off + 0)) := fa1_of Tryz.underlying30 (by rfl) (by exact Tryz.underlying3) (by exact cells3) (by rfl) (by rfl)
theorem fa30_1 {id off : Nat} : fieldAddrPV Tryz.prog 30 (.ptr id off) 1 = some (.ptr id (off + 1)) := fa1_of Tryz.underlying30 (by rfl) (by exact Tryz.underlying3) (by exact cells3) (by rfl) (by rfl)
theorem fa30_2 {id off : Nat} : fieldAddrPV Tryz.prog 30 (.ptr id off) 2 = some (.ptr id (off + 2)) := fa1_of Tryz.underlying30 (by rfl) (by exact Tryz.underlying3) (by exact cells3) (by rfl) (by rfl)
theorem bld30 {parts : List (Nat × PV)} : buildPV Tryz.prog 30 parts = bldX [.int .i64 0, .int .i64 0, .int .i64 0] [(0, 1), (1, 1), (2, 1)] parts := bldX_of zero30 Tryz.underlying30 (by kernel_rfl) (by kernel_rfl) parts
theorem lda31 {σ : Sg} {id off : Nat} : loadPV Tryz.prog σ 31 (.ptr id off) = ldS σ id off := ldS_of Tryz.underlying31 rfl
theorem ia31 {l : List PV} {own : Own} {k : IntKind} {i : Int} : indexAddrPV Tryz.prog 31 (.isl l own) (.int k i) = iaX 3 l i := iaX_of Tryz.underlying31 Tryz.underlying30 cells30 k i
theorem len31 {l : List PV} {own : Own} : lenPV Tryz.prog 31 (.isl l own) = some (.int .i64 l.length) := len_of Tryz.underlying31
theorem bs31 {len : Nat} {parts : List (Nat × PV)} : buildSlicePV Tryz.prog 31 len parts = bsX 3 len parts := bsX_of Tryz.underlying31 Tryz.underlying30 cells30 zero30 len parts
theorem lda33 {σ : Sg} {id off : Nat} : loadPV Tryz.prog σ 33 (.ptr id off) = ldA 5 σ id off := ldA_of Tryz.underlying33 rfl cells33
theorem sto33 {σ : Sg} {id off : Nat} {p : PV} : storePV Tryz.prog σ 33 (.ptr id off) p = stX 5 σ id off p := stX_of Tryz.underlying33 cells33 p
theorem fa33_0 {id off : Nat} : fieldAddrPV Tryz.prog 33 (.ptr id off) 0 = some (.ptr id (off + 0)) := fa1_of Tryz.underlying33 (by rfl) (by exact Tryz.underlying3) (by exact cells3) (by rfl) (by rfl)
theorem fa33_1 {id off : Nat} : fieldAddrPV Tryz.prog 33 (.ptr id off) 1 = some (.ptr id (off + 1)) := fa1_of Tryz.underlying33 (by rfl) (by exact Tryz.underlying3) (by exact cells3) (by rfl) (by rfl)
theorem fa33_2 {id off : Nat} : fieldAddrPV Tryz.prog 33 (.ptr id off) 2 = some (.ptr id (off + 2)) := fa1_of Tryz.underlying33 (by rfl) (by exact Tryz.underlying3) (by exact cells3) (by rfl) (by rfl)
theorem fa33_3 {id off : Nat} : fieldAddrPV Tryz.prog 33 (.ptr id off) 3 = some (.ptr id (off + 3)) := fa1_of Tryz.underlying33 (by rfl) (by exact Tryz.underlying3) (by exact cells3) (by rfl) (by rfl)
theorem fa33_4 {id off : Nat} : fieldAddrPV Tryz.prog 33 (.ptr id off) 4 = some (.ptr id (off + 4)) := fa1_of Tryz.underlying33 (by rfl) (by exact Tryz.underlying31) (by exact cells31) (by rfl) (by rfl)
theorem bld33 {parts : List (Nat × PV)} : buildPV Tryz.prog 33 parts = bldX [.int .i64 0, .int .i64 0, .int .i64 0, .int .i64 0, .isl [] .exact] [(0, 1), (1, 1), (2, 1), (3, 1), (4, 1)] parts := bldX_of zero33 Tryz.underlying33 (by kernel_rfl) (by kernel_rfl) parts
theorem lda34 {σ : Sg} {id off : Nat} : loadPV Tryz.prog σ 34 (.ptr id off) = ldS σ id off := ldS_of Tryz.underlying34 rfl
theorem sto34 {σ : Sg} {id off : Nat} {p : PV} : storePV Tryz.prog σ 34 (.ptr id off) p = stX 1 σ id off p := stX_of Tryz.underlying34 cells34 p
theorem ia34 {l : List PV} {own : Own} {k : IntKind} {i : Int} : indexAddrPV Tryz.prog 34 (.isl l own) (.int k i) = iaX 4 l i := iaX_of Tryz.underlying34 Tryz.underlying42 cells42 k i
theorem len34 {l : List PV} {own : Own} : lenPV Tryz.prog 34 (.isl l own) = some (.int .i64 l.length) := len_of Tryz.underlying34
theorem bs34 {len : Nat} {parts : List (Nat × PV)} : buildSlicePV Tryz.prog 34 len parts = bsX 4 len parts := bsX_of Tryz.underlying34 Tryz.underlying42 cells42 zero42 len parts
theorem app34 {σ : Sg} {l m : List PV} {own own' : Own} : appendPV Tryz.prog σ 34 34 (.isl l own) (.isl m own') = appX 4 48 σ l own m := appX_of Tryz.underlying34 Tryz.underlying42 cells42 bytes42 (by decide) (by decide) zero42 rfl
theorem lda35 {σ : Sg} {id off : Nat} : loadPV Tryz.prog σ 35 (.ptr id off) = ldS σ id off := ldS_of Tryz.underlying35 rfl
theorem ia35 {l : List PV} {own : Own} {k : IntKind} {i : Int} : indexAddrPV Tryz.prog 35 (.isl l own) (.int k i) = iaX 2 l i := iaX_of Tryz.underlying35 Tryz.underlying135 cells135 k i
theorem len35 {l : List PV} {own : Own} : lenPV Tryz.prog 35 (.isl l own) = some (.int .i64 l.length) := len_of Tryz.underlying35
theorem lda36 {σ : Sg} {id off : Nat} : loadPV Tryz.prog σ 36 (.ptr id off) = ldS σ id off := ldS_of Tryz.underlying36 rfl
theorem ia36 {l : List PV} {own : Own} {k : IntKind} {i : Int} : indexAddrPV Tryz.prog 36 (.isl l own) (.int k i) = iaX 2 l i := iaX_of Tryz.underlying36 Tryz.underlying110 cells110 k i
theorem len36 {l : List PV} {own : Own} : lenPV Tryz.prog 36 (.isl l own) = some (.int .i64 l.length) := len_of Tryz.underlying36
theorem lda38 {σ : Sg} {id off : Nat} : loadPV Tryz.prog σ 38 (.ptr id off) = ldA 3 σ id off := ldA_of Tryz.underlying38 rfl cells38
theorem fa38_0 {id off : Nat} : fieldAddrPV Tryz.prog 38 (.ptr id off) 0 = some (.ptr id (off + 0)) := fa1_of Tryz.underlying38 (by rfl) (by exact Tryz.underlying34) (by exact cells34) (by rfl) (by rfl)
theorem fa38_1 {id off : Nat} : fieldAddrPV Tryz.prog 38 (.ptr id off) 1 = some (.ptr id (off + 1)) := fa1_of Tryz.underlying38 (by rfl) (by exact Tryz.underlying35) (by exact cells35) (by rfl) (by rfl)
theorem fa38_2 {id off : Nat} : fieldAddrPV Tryz.prog 38 (.ptr id off) 2 = some (.ptr id (off + 2)) := fa1_of Tryz.underlying38 (by rfl) (by exact Tryz.underlying36) (by exact cells36) (by rfl) (by rfl)
theorem ia39 {l : List PV} {own : Own} {k : IntKind} {i : Int} : indexAddrPV Tryz.prog 39 (.isl l own) (.int k i) = iaX 6 l i := iaX_of Tryz.underlying39 Tryz.underlying46 cells46 k i
theorem len39 {l : List PV} {own : Own} : lenPV Tryz.prog 39 (.isl l own) = some (.int .i64 l.length) := len_of Tryz.underlying39
theorem bs39 {len : Nat} {parts : List (Nat × PV)} : buildSlicePV Tryz.prog 39 len parts = bsX 6 len parts := bsX_of Tryz.underlying39 Tryz.underlying46 cells46 zero46 len parts
theorem app39 {σ : Sg} {l m : List PV} {own own' : Own} : appendPV Tryz.prog σ 39 39 (.isl l own) (.isl m own') = appX 6 48 σ l own m := appX_of Tryz.underlying39 Tryz.underlying46 cells46 bytes46 (by decide) (by decide) zero46 rfl
theorem lda42 {σ : Sg} {id off : Nat} : loadPV Tryz.prog σ 42 (.ptr id off) = ldA 4 σ id off := ldA_of Tryz.underlying42 rfl cells42
theorem ela42 {σ : Sg} {es i off : Nat} {l : List PV} : loadPV Tryz.prog σ 42 (.eptr es l i off) = elA 4 l i off := elA_of Tryz.underlying42 rfl cells42
theorem sto42 {σ : Sg} {id off : Nat} {p : PV} : storePV Tryz.prog σ 42 (.ptr id off) p = stX 4 σ id off p := stX_of Tryz.underlying42 cells42 p
theorem fa42_0 {id off : Nat} : fieldAddrPV Tryz.prog 42 (.ptr id off) 0 = some (.ptr id (off + 0)) := fa1_of Tryz.underlying42 (by rfl) (by exact Tryz.underlying3) (by exact cells3) (by rfl) (by rfl)
theorem fa42_1 {id off : Nat} : fieldAddrPV Tryz.prog 42 (.ptr id off) 1 = some (.ptr id (off + 1)) := fa1_of Tryz.underlying42 (by rfl) (by exact Tryz.underlying3) (by exact cells3) (by rfl) (by rfl)
theorem fa42_2 {id off : Nat} : fieldAddrPV Tryz.prog 42 (.ptr id off) 2 = some (.ptr id (off + 2)) := fa1_of Tryz.underlying42 (by rfl) (by exact Tryz.underlying22) (by exact cells22) (by rfl) (by rfl)
theorem fa42_3 {id off : Nat} : fieldAddrPV Tryz.prog 42 (.ptr id off) 3 = some (.ptr id (off + 3)) := fa1_of Tryz.underlying42 (by rfl) (by exact Tryz.underlying3) (by exact cells3) (by rfl) (by rfl)
theorem bld42 {parts : List (Nat × PV)} : buildPV Tryz.prog 42 parts = bldX [.int .i64 0, .int .i64 0, .isl [] .exact, .int .i64 0] [(0, 1), (1, 1), (2, 1), (3, 1)] parts := bldX_of zero42 Tryz.underlying42 (by kernel_rfl) (by kernel_rfl) parts
theorem lda46 {σ : Sg} {id off : Nat} : loadPV Tryz.prog σ 46 (.ptr id off) = ldA 6 σ id off := ldA_of Tryz.underlying46 rfl cells46
theorem ela46 {σ : Sg} {es i off : Nat} {l : List PV} : loadPV Tryz.prog σ 46 (.eptr es l i off) = elA 6 l i off := elA_of Tryz.underlying46 rfl cells46
theorem sto46 {σ : Sg} {id off : Nat} {p : PV} : storePV Tryz.prog σ 46 (.ptr id off) p = stX 6 σ id off p := stX_of Tryz.underlying46 cells46 p
theorem fa46_0 {id off : Nat} : fieldAddrPV Tryz.prog 46 (.ptr id off) 0 = some (.ptr id (off + 0)) := fa1_of Tryz.underlying46 (by rfl) (by exact Tryz.underlying3) (by exact cells3) (by rfl) (by rfl)
theorem fae46_0 {es i off : Nat} {l : List PV} : fieldAddrPV Tryz.prog 46 (.eptr es l i off) 0 = some (.eptr es l i (off + 0)) := fa2_of Tryz.underlying46 (by rfl) (by exact Tryz.underlying3) (by exact cells3) (by rfl) (by rfl)
theorem fa46_1 {id off : Nat} : fieldAddrPV Tryz.prog 46 (.ptr id off) 1 = some (.ptr id (off + 1)) := fa1_of Tryz.underlying46 (by rfl) (by exact Tryz.underlying3) (by exact cells3) (by rfl) (by rfl)
theorem fa46_2 {id off : Nat} : fieldAddrPV Tryz.prog 46 (.ptr id off) 2 = some (.ptr id (off + 2)) := fa1_of Tryz.underlying46 (by rfl) (by exact Tryz.underlying3) (by exact cells3) (by rfl) (by rfl)
theorem fa46_3 {id off : Nat} : fieldAddrPV Tryz.prog 46 (.ptr id off) 3 = some (.ptr id (off + 3)) := fa1_of Tryz.underlying46 (by rfl) (by exact Tryz.underlying3) (by exact cells3) (by rfl) (by rfl)
theorem fa46_4 {id off : Nat} : fieldAddrPV Tryz.prog 46 (.ptr id off) 4 = some (.ptr id (off + 4)) := fa1_of Tryz.underlying46 (by rfl) (by exact Tryz.underlying3) (by exact cells3) (by rfl) (by rfl)
theorem fa46_5 {id off : Nat} : fieldAddrPV Tryz.prog 46 (.ptr id off) 5 = some (.ptr id (off + 5)) := fa1_of Tryz.underlying46 (by rfl) (by exact Tryz.underlying3) (by exact cells3) (by rfl) (by rfl)
theorem bld46 {parts : List (Nat × PV)} : buildPV Tryz.prog 46 parts = bldX [.int .i64 0, .int .i64 0, .int .i64 0, .int .i64 0, .int .i64 0, .int .i64 0] [(0, 1), (1, 1), (2, 1), (3, 1), (4, 1), (5, 1)] parts := bldX_of zero46 Tryz.underlying46 (by kernel_rfl) (by kernel_rfl) parts
theorem lda47 {σ : Sg} {id off : Nat} : loadPV Tryz.prog σ 47 (.ptr id off) = ldS σ id off := ldS_of Tryz.underlying47 rfl
theorem sto47 {σ : Sg} {id off : Nat} {p : PV} : storePV Tryz.prog σ 47 (.ptr id off) p = stX 1 σ id off p := stX_of Tryz.underlying47 cells47 p
theorem ia47 {l : List PV} {own : Own} {k : IntKind} {i : Int} : indexAddrPV Tryz.prog 47 (.isl l own) (.int k i) = iaX 3 l i := iaX_of Tryz.underlying47 Tryz.underlying57 cells57 k i
theorem len47 {l : List PV} {own : Own} : lenPV Tryz.prog 47 (.isl l own) = some (.int .i64 l.length) := len_of Tryz.underlying47
theorem bs47 {len : Nat} {parts : List (Nat × PV)} : buildSlicePV Tryz.prog 47 len parts = bsX 3 len parts := bsX_of Tryz.underlying47 Tryz.underlying57 cells57 zero57 len parts
theorem lda48 {σ : Sg} {id off : Nat} : loadPV Tryz.prog σ 48 (.ptr id off) = ldS σ id off := ldS_of Tryz.underlying48 rfl
theorem sto48 {σ : Sg} {id off : Nat} {p : PV} : storePV Tryz.prog σ 48 (.ptr id off) p = stX 1 σ id off p := stX_of Tryz.underlying48 cells48 p
theorem ia51 {l : List PV} {own : Own} {k : IntKind} {i : Int} : indexAddrPV Tryz.prog 51 (.isl l own) (.int k i) = iaX 5 l i := iaX_of Tryz.underlying51 Tryz.underlying55 cells55 k i
theorem len51 {l : List PV} {own : Own} : lenPV Tryz.prog 51 (.isl l own) = some (.int .i64 l.length) := len_of Tryz.underlying51
theorem bs51 {len : Nat} {parts : List (Nat × PV)} : buildSlicePV Tryz.prog 51 len parts = bsX 5 len parts := bsX_of Tryz.underlying51 Tryz.underlying55 cells55 zero55 len parts
theorem app51 {σ : Sg} {l m : List PV} {own own' : Own} : appendPV Tryz.prog σ 51 51 (.isl l own) (.isl m own') = appX 5 120 σ l own m := appX_of Tryz.underlying51 Tryz.underlying55 cells55 bytes55 (by decide) (by decide) zero55 rfl
theorem lda55 {σ : Sg} {id off : Nat} : loadPV Tryz.prog σ 55 (.ptr id off) = ldA 5 σ id off := ldA_of Tryz.underlying55 rfl cells55
theorem sto55 {σ : Sg} {id off : Nat} {p : PV} : storePV Tryz.prog σ 55 (.ptr id off) p = stX 5 σ id off p := stX_of Tryz.underlying55 cells55 p
theorem fa55_0 {id off : Nat} : fieldAddrPV Tryz.prog 55 (.ptr id off) 0 = some (.ptr id (off + 0)) := fa1_of Tryz.underlying55 (by rfl) (by exact Tryz.underlying22) (by exact cells22) (by rfl) (by rfl)
theorem fa55_1 {id off : Nat} : fieldAddrPV Tryz.prog 55 (.ptr id off) 1 = some (.ptr id (off + 1)) := fa1_of Tryz.underlying55 (by rfl) (by exact Tryz.underlying22) (by exact cells22) (by rfl) (by rfl)
theorem fae55_1 {es i off : Nat} {l : List PV} : fieldAddrPV Tryz.prog 55 (.eptr es l i off) 1 = some (.eptr es l i (off + 1)) := fa2_of Tryz.underlying55 (by rfl) (by exact Tryz.underlying22) (by exact cells22) (by rfl) (by rfl)
theorem fa55_2 {id off : Nat} : fieldAddrPV Tryz.prog 55 (.ptr id off) 2 = some (.ptr id (off + 2)) := fa1_of Tryz.underlying55 (by rfl) (by exact Tryz.underlying22) (by exact cells22) (by rfl) (by rfl)
theorem fa55_3 {id off : Nat} : fieldAddrPV Tryz.prog 55 (.ptr id off) 3 = some (.ptr id (off + 3)) := fa1_of Tryz.underlying55 (by rfl) (by exact Tryz.underlying22) (by exact cells22) (by rfl) (by rfl)
theorem fa55_4 {id off : Nat} : fieldAddrPV Tryz.prog 55 (.ptr id off) 4 = some (.ptr id (off + 4)) := fa1_of Tryz.underlying55 (by rfl) (by exact Tryz.underlying22) (by exact cells22) (by rfl) (by rfl)
theorem fae55_4 {es i off : Nat} {l : List PV} : fieldAddrPV Tryz.prog 55 (.eptr es l i off) 4 = some (.eptr es l i (off + 4)) := fa2_of Tryz.underlying55 (by rfl) (by exact Tryz.underlying22) (by exact cells22) (by rfl) (by rfl)
theorem fp55_4 {cs : List PV} : fieldPV Tryz.prog 55 (.agg cs) 4 = cs[4]? := fpS_of Tryz.underlying55 (by rfl) (by exact Tryz.underlying22) (by rfl) (by rfl) cs
theorem lda57 {σ : Sg} {id off : Nat} : loadPV Tryz.prog σ 57 (.ptr id off) = ldA 3 σ id off := ldA_of Tryz.underlying57 rfl cells57
theorem sto57 {σ : Sg} {id off : Nat} {p : PV} : storePV Tryz.prog σ 57 (.ptr id off) p = stX 3 σ id off p := stX_of Tryz.underlying57 cells57 p
theorem fa57_0 {id off : Nat} : fieldAddrPV Tryz.prog 57 (.ptr id off) 0 = some (.ptr id (off + 0)) := fa1_of Tryz.underlying57 (by rfl) (by exact Tryz.underlying3) (by exact cells3) (by rfl) (by rfl)
theorem fae57_0 {es i off : Nat} {l : List PV} : fieldAddrPV Tryz.prog 57 (.eptr es l i off) 0 = some (.eptr es l i (off + 0)) := fa2_of Tryz.underlying57 (by rfl) (by exact Tryz.underlying3) (by exact cells3) (by rfl) (by rfl)
theorem fa57_1 {id off : Nat} : fieldAddrPV Tryz.prog 57 (.ptr id off) 1 = some (.ptr id (off + 1)) := fa1_of Tryz.underlying57 (by rfl) (by exact Tryz.underlying3) (by exact cells3) (by rfl) (by rfl)
theorem fae57_1 {es i off : Nat} {l : List PV} : fieldAddrPV Tryz.prog 57 (.eptr es l i off) 1 = some (.eptr es l i (off + 1)) := fa2_of Tryz.underlying57 (by rfl) (by exact Tryz.underlying3) (by exact cells3) (by rfl) (by rfl)
theorem fa57_2 {id off : Nat} : fieldAddrPV Tryz.prog 57 (.ptr id off) 2 = some (.ptr id (off + 2)) := fa1_of Tryz.underlying57 (by rfl) (by exact Tryz.underlying22) (by exact cells22) (by rfl) (by rfl)
theorem bld57 {parts : List (Nat × PV)} : buildPV Tryz.prog 57 parts = bldX [.int .i64 0, .int .i64 0, .isl [] .exact] [(0, 1), (1, 1), (2, 1)] parts := bldX_of zero57 Tryz.underlying57 (by kernel_rfl) (by kernel_rfl) parts
theorem lda60 {σ : Sg} {id off : Nat} : loadPV Tryz.prog σ 60 (.ptr id off) = ldS σ id off := ldS_of Tryz.underlying60 rfl
theorem sto60 {σ : Sg} {id off : Nat} {p : PV} : storePV Tryz.prog σ 60 (.ptr id off) p = stX 1 σ id off p := stX_of Tryz.underlying60 cells60 p
theorem fa62_0 {id off : Nat} : fieldAddrPV Tryz.prog 62 (.ptr id off) 0 = some (.ptr id (off + 0)) := fa1_of Tryz.underlying62 (by rfl) (by exact Tryz.underlying60) (by exact cells60) (by rfl) (by rfl)
theorem bld62 {parts : List (Nat × PV)} : buildPV Tryz.prog 62 parts = bldX [.int .u64 0] [(0, 1)] parts := bldX_of zero62 Tryz.underlying62 (by kernel_rfl) (by kernel_rfl) parts
theorem lda69 {σ : Sg} {id off : Nat} : loadPV Tryz.prog σ 69 (.ptr id off) = ldS σ id off := ldS_of Tryz.underlying69 rfl
theorem sto69 {σ : Sg} {id off : Nat} {p : PV} : storePV Tryz.prog σ 69 (.ptr id off) p = stX 1 σ id off p := stX_of Tryz.underlying69 cells69 p
theorem fa78_0 {id off : Nat} : fieldAddrPV Tryz.prog 78 (.ptr id off) 0 = some (.ptr id (off + 0)) := fa1_of Tryz.underlying78 (by rfl) (by exact Tryz.underlying22) (by exact cells22) (by rfl) (by rfl)
theorem bld78 {parts : List (Nat × PV)} : buildPV Tryz.prog 78 parts = bldX [.isl [] .exact] [(0, 1)] parts := bldX_of zero78 Tryz.underlying78 (by kernel_rfl) (by kernel_rfl) parts
theorem ia81 {l : List PV} {own : Own} {k : IntKind} {i : Int} : indexAddrPV Tryz.prog 81 (.isl l own) (.int k i) = iaX 21 l i := iaX_of Tryz.underlying81 Tryz.underlying88 cells88 k i
theorem len81 {l : List PV} {own : Own} : lenPV Tryz.prog 81 (.isl l own) = some (.int .i64 l.length) := len_of Tryz.underlying81
theorem bs81 {len : Nat} {parts : List (Nat × PV)} : buildSlicePV Tryz.prog 81 len parts = bsX 21 len parts := bsX_of Tryz.underlying81 Tryz.underlying88 cells88 zero88 len parts
theorem app81 {σ : Sg} {l m : List PV} {own own' : Own} : appendPV Tryz.prog σ 81 81 (.isl l own) (.isl m own') = appX 21 184 σ l own m := appX_of Tryz.underlying81 Tryz.underlying88 cells88 bytes88 (by decide) (by decide) zero88 rfl
theorem iar83 {id off : Nat} {k : IntKind} {i : Int} : indexAddrPV Tryz.prog 83 (.ptr id off) (.int k i) = iaM 1 id off 8 i := iaA_of Tryz.underlying83 Tryz.underlying3 cells3 k i
theorem fa85_0 {id off : Nat} : fieldAddrPV Tryz.prog 85 (.ptr id off) 0 = some (.ptr id (off + 0)) := fa1_of Tryz.underlying85 (by rfl) (by exact Tryz.underlying83) (by exact cells83) (by rfl) (by rfl)
theorem fa85_1 {id off : Nat} : fieldAddrPV Tryz.prog 85 (.ptr id off) 1 = some (.ptr id (off + 8)) := fa1_of Tryz.underlying85 (by rfl) (by exact Tryz.underlying83) (by exact cells83) (by rfl) (by rfl)
theorem lda86 {σ : Sg} {id off : Nat} : loadPV Tryz.prog σ 86 (.ptr id off) = ldS σ id off := ldS_of Tryz.underlying86 rfl
theorem lda88 {σ : Sg} {id off : Nat} : loadPV Tryz.prog σ 88 (.ptr id off) = ldA 21 σ id off := ldA_of Tryz.underlying88 rfl cells88
theorem ela88 {σ : Sg} {es i off : Nat} {l : List PV} : loadPV Tryz.prog σ 88 (.eptr es l i off) = elA 21 l i off := elA_of Tryz.underlying88 rfl cells88
theorem sto88 {σ : Sg} {id off : Nat} {p : PV} : storePV Tryz.prog σ 88 (.ptr id off) p = stX 21 σ id off p := stX_of Tryz.underlying88 cells88 p
theorem fa88_0 {id off : Nat} : fieldAddrPV Tryz.prog 88 (.ptr id off) 0 = some (.ptr id (off + 0)) := fa1_of Tryz.underlying88 (by rfl) (by exact Tryz.underlying30) (by exact cells30) (by rfl) (by rfl)
theorem fa88_1 {id off : Nat} : fieldAddrPV Tryz.prog 88 (.ptr id off) 1 = some (.ptr id (off + 3)) := fa1_of Tryz.underlying88 (by rfl) (by exact Tryz.underlying22) (by exact cells22) (by rfl) (by rfl)
theorem fa88_2 {id off : Nat} : fieldAddrPV Tryz.prog 88 (.ptr id off) 2 = some (.ptr id (off + 4)) := fa1_of Tryz.underlying88 (by rfl) (by exact Tryz.underlying85) (by exact cells85) (by rfl) (by rfl)
theorem fa88_3 {id off : Nat} : fieldAddrPV Tryz.prog 88 (.ptr id off) 3 = some (.ptr id (off + 20)) := fa1_of Tryz.underlying88 (by rfl) (by exact Tryz.underlying86) (by exact cells86) (by rfl) (by rfl)
theorem bld88 {parts : List (Nat × PV)} : buildPV Tryz.prog 88 parts = bldX [.int .i64 0, .int .i64 0, .int .i64 0, .isl [] .exact, .int .i64 0, .int .i64 0, .int .i64 0, .int .i64 0, .int .i64 0, .int .i64 0, .int .i64 0, .int .i64 0, .int .i64 0, .int .i64 0, .int .i64 0, .int .i64 0, .int .i64 0, .int .i64 0, .int .i64 0, .int .i64 0, .nilmap] [(0, 3), (3, 1), (4, 16), (20, 1)] parts := bldX_of zero88 Tryz.underlying88 (by kernel_rfl) (by kernel_rfl) parts
theorem ia92 {l : List PV} {own : Own} {k : IntKind} {i : Int} : indexAddrPV Tryz.prog 92 (.isl l own) (.int k i) = iaX 1 l i := iaX_of Tryz.underlying92 Tryz.underlying22 cells22 k i
theorem len92 {l : List PV} {own : Own} : lenPV Tryz.prog 92 (.isl l own) = some (.int .i64 l.length) := len_of Tryz.underlying92
theorem bs92 {len : Nat} {parts : List (Nat × PV)} : buildSlicePV Tryz.prog 92 len parts = bsX 1 len parts := bsX_of Tryz.underlying92 Tryz.underlying22 cells22 zero22 len parts
theorem lda101 {σ : Sg} {id off : Nat} : loadPV Tryz.prog σ 101 (.ptr id off) = ldS σ id off := ldS_of Tryz.underlying101 rfl
theorem sto101 {σ : Sg} {id off : Nat} {p : PV} : storePV Tryz.prog σ 101 (.ptr id off) p = stX 1 σ id off p := stX_of Tryz.underlying101 cells101 p
theorem iam101 {id off len : Nat} {k : IntKind} {i : Int} : indexAddrPV Tryz.prog 101 (.msl id off len) (.int k i) = iaM 1 id off len i := iaM_of Tryz.underlying101 Tryz.underlying4 cells4 k len i
theorem lenm101 {id off n : Nat} : lenPV Tryz.prog 101 (.msl id off n) = some (.int .i64 n) := lenM_of Tryz.underlying101 n
theorem lda103 {σ : Sg} {id off : Nat} : loadPV Tryz.prog σ 103 (.ptr id off) = ldA 2 σ id off := ldA_of Tryz.underlying103 rfl cells103
theorem sto103 {σ : Sg} {id off : Nat} {p : PV} : storePV Tryz.prog σ 103 (.ptr id off) p = stX 2 σ id off p := stX_of Tryz.underlying103 cells103 p
theorem fa103_0 {id off : Nat} : fieldAddrPV Tryz.prog 103 (.ptr id off) 0 = some (.ptr id (off + 0)) := fa1_of Tryz.underlying103 (by rfl) (by exact Tryz.underlying3) (by exact cells3) (by rfl) (by rfl)
theorem fa103_1 {id off : Nat} : fieldAddrPV Tryz.prog 103 (.ptr id off) 1 = some (.ptr id (off + 1)) := fa1_of Tryz.underlying103 (by rfl) (by exact Tryz.underlying3) (by exact cells3) (by rfl) (by rfl)
theorem bld103 {parts : List (Nat × PV)} : buildPV Tryz.prog 103 parts = bldX [.int .i64 0, .int .i64 0] [(0, 1), (1, 1)] parts := bldX_of zero103 Tryz.underlying103 (by kernel_rfl) (by kernel_rfl) parts
theorem lda104 {σ : Sg} {id off : Nat} : loadPV Tryz.prog σ 104 (.ptr id off) = ldS σ id off := ldS_of Tryz.underlying104 rfl
theorem ela110 {σ : Sg} {es i off : Nat} {l : List PV} : loadPV Tryz.prog σ 110 (.eptr es l i off) = elA 2 l i off := elA_of Tryz.underlying110 rfl cells110
theorem sto110 {σ : Sg} {id off : Nat} {p : PV} : storePV Tryz.prog σ 110 (.ptr id off) p = stX 2 σ id off p := stX_of Tryz.underlying110 cells110 p
theorem fa110_0 {id off : Nat} : fieldAddrPV Tryz.prog 110 (.ptr id off) 0 = some (.ptr id (off + 0)) := fa1_of Tryz.underlying110 (by rfl) (by exact Tryz.underlying3) (by exact cells3) (by rfl) (by rfl)
theorem fa110_1 {id off : Nat} : fieldAddrPV Tryz.prog 110 (.ptr id off) 1 = some (.ptr id (off + 1)) := fa1_of Tryz.underlying110 (by rfl) (by exact Tryz.underlying3) (by exact cells3) (by rfl) (by rfl)
theorem ela111 {σ : Sg} {es i off : Nat} {l : List PV} : loadPV Tryz.prog σ 111 (.eptr es l i off) = elS l i off := elS_of Tryz.underlying111 rfl
theorem ia112 {l : List PV} {own : Own} {k : IntKind} {i : Int} : indexAddrPV Tryz.prog 112 (.isl l own) (.int k i) = iaX 1 l i := iaX_of Tryz.underlying112 Tryz.underlying111 cells111 k i
theorem len112 {l : List PV} {own : Own} : lenPV Tryz.prog 112 (.isl l own) = some (.int .i64 l.length) := len_of Tryz.underlying112
theorem bs112 {len : Nat} {parts : List (Nat × PV)} : buildSlicePV Tryz.prog 112 len parts = bsX 1 len parts := bsX_of Tryz.underlying112 Tryz.underlying111 cells111 zero111 len parts
theorem app112 {σ : Sg} {l m : List PV} {own own' : Own} : appendPV Tryz.prog σ 112 112 (.isl l own) (.isl m own') = appX 1 8 σ l own m := appX_of Tryz.underlying112 Tryz.underlying111 cells111 bytes111 (by decide) (by decide) zero111 rfl
theorem ia120 {l : List PV} {own : Own} {k : IntKind} {i : Int} : indexAddrPV Tryz.prog 120 (.isl l own) (.int k i) = iaX 4 l i := iaX_of Tryz.underlying120 Tryz.underlying122 cells122 k i
theorem len120 {l : List PV} {own : Own} : lenPV Tryz.prog 120 (.isl l own) = some (.int .i64 l.length) := len_of Tryz.underlying120
theorem bs120 {len : Nat} {parts : List (Nat × PV)} : buildSlicePV Tryz.prog 120 len parts = bsX 4 len parts := bsX_of Tryz.underlying120 Tryz.underlying122 cells122 zero122 len parts
theorem app120 {σ : Sg} {l m : List PV} {own own' : Own} : appendPV Tryz.prog σ 120 120 (.isl l own) (.isl m own') = appX 4 32 σ l own m := appX_of Tryz.underlying120 Tryz.underlying122 cells122 bytes122 (by decide) (by decide) zero122 rfl
theorem lda122 {σ : Sg} {id off : Nat} : loadPV Tryz.prog σ 122 (.ptr id off) = ldA 4 σ id off := ldA_of Tryz.underlying122 rfl cells122
theorem ela122 {σ : Sg} {es i off : Nat} {l : List PV} : loadPV Tryz.prog σ 122 (.eptr es l i off) = elA 4 l i off := elA_of Tryz.underlying122 rfl cells122
theorem sto122 {σ : Sg} {id off : Nat} {p : PV} : storePV Tryz.prog σ 122 (.ptr id off) p = stX 4 σ id off p := stX_of Tryz.underlying122 cells122 p
theorem fa122_0 {id off : Nat} : fieldAddrPV Tryz.prog 122 (.ptr id off) 0 = some (.ptr id (off + 0)) := fa1_of Tryz.underlying122 (by rfl) (by exact Tryz.underlying3) (by exact cells3) (by rfl) (by rfl)
theorem fa122_1 {id off : Nat} : fieldAddrPV Tryz.prog 122 (.ptr id off) 1 = some (.ptr id (off + 1)) := fa1_of Tryz.underlying122 (by rfl) (by exact Tryz.underlying3) (by exact cells3) (by rfl) (by rfl)
theorem fa122_2 {id off : Nat} : fieldAddrPV Tryz.prog 122 (.ptr id off) 2 = some (.ptr id (off + 2)) := fa1_of Tryz.underlying122 (by rfl) (by exact Tryz.underlying3) (by exact cells3) (by rfl) (by rfl)
theorem fa122_3 {id off : Nat} : fieldAddrPV Tryz.prog 122 (.ptr id off) 3 = some (.ptr id (off + 3)) := fa1_of Tryz.underlying122 (by rfl) (by exact Tryz.underlying3) (by exact cells3) (by rfl) (by rfl)
theorem bld122 {parts : List (Nat × PV)} : buildPV Tryz.prog 122 parts = bldX [.int .i64 0, .int .i64 0, .int .i64 0, .int .i64 0] [(0, 1), (1, 1), (2, 1), (3, 1)] parts := bldX_of zero122 Tryz.underlying122 (by kernel_rfl) (by kernel_rfl) parts
theorem iar130 {id off : Nat} {k : IntKind} {i : Int} : indexAddrPV Tryz.prog 130 (.ptr id off) (.int k i) = iaM 1 id off 8 i := iaA_of Tryz.underlying130 Tryz.underlying4 cells4 k i
theorem ela135 {σ : Sg} {es i off : Nat} {l : List PV} : loadPV Tryz.prog σ 135 (.eptr es l i off) = elA 2 l i off := elA_of Tryz.underlying135 rfl cells135
theorem sto135 {σ : Sg} {id off : Nat} {p : PV} : storePV Tryz.prog σ 135 (.ptr id off) p = stX 2 σ id off p := stX_of Tryz.underlying135 cells135 p
theorem fa135_0 {id off : Nat} : fieldAddrPV Tryz.prog 135 (.ptr id off) 0 = some (.ptr id (off + 0)) := fa1_of Tryz.underlying135 (by rfl) (by exact Tryz.underlying3) (by exact cells3) (by rfl) (by rfl)
theorem fa135_1 {id off : Nat} : fieldAddrPV Tryz.prog 135 (.ptr id off) 1 = some (.ptr id (off + 1)) := fa1_of Tryz.underlying135 (by rfl) (by exact Tryz.underlying3) (by exact cells3) (by rfl) (by rfl)
theorem iar138 {id off : Nat} {k : IntKind} {i : Int} : indexAddrPV Tryz.prog 138 (.ptr id off) (.int k i) = iaM 1 id off 5 i := iaA_of Tryz.underlying138 Tryz.underlying3 cells3 k i
theorem ela155 {σ : Sg} {es i off : Nat} {l : List PV} : loadPV Tryz.prog σ 155 (.eptr es l i off) = elS l i off := elS_of Tryz.underlying155 rfl
theorem ia156 {l : List PV} {own : Own} {k : IntKind} {i : Int} : indexAddrPV Tryz.prog 156 (.isl l own) (.int k i) = iaX 1 l i := iaX_of Tryz.underlying156 Tryz.underlying155 cells155 k i
theorem len156 {l : List PV} {own : Own} : lenPV Tryz.prog 156 (.isl l own) = some (.int .i64 l.length) := len_of Tryz.underlying156
theorem bs156 {len : Nat} {parts : List (Nat × PV)} : buildSlicePV Tryz.prog 156 len parts = bsX 1 len parts := bsX_of Tryz.underlying156 Tryz.underlying155 cells155 zero155 len parts
theorem lda158 {σ : Sg} {id off : Nat} : loadPV Tryz.prog σ 158 (.ptr id off) = ldA 3 σ id off := ldA_of Tryz.underlying158 rfl cells158
theorem sto158 {σ : Sg} {id off : Nat} {p : PV} : storePV Tryz.prog σ 158 (.ptr id off) p = stX 3 σ id off p := stX_of Tryz.underlying158 cells158 p
theorem fa158_2 {id off : Nat} : fieldAddrPV Tryz.prog 158 (.ptr id off) 2 = some (.ptr id (off + 2)) := fa1_of Tryz.underlying158 (by rfl) (by exact Tryz.underlying3) (by exact cells3) (by rfl) (by rfl)
theorem bld158 {parts : List (Nat × PV)} : buildPV Tryz.prog 158 parts = bldX [.int .i64 0, .int .i64 0, .int .i64 0] [(0, 1), (1, 1), (2, 1)] parts := bldX_of zero158 Tryz.underlying158 (by kernel_rfl) (by kernel_rfl) parts
attribute [go_sem] lda3 ela3 sto3 lda4 sto4 lda22 ela22 sto22 ia22 iam22 len22 lenm22 bs22 app22 lda26 sto26 fa26_0 fa26_1 fa26_2 fa26_3 fa26_4 fa26_5 fa26_6 bld26 lda30 ela30 sto30 fa30_0 fa30_1 fa30_2 bld30 lda31 ia31 len31 bs31 lda33 sto33 fa33_0 fa33_1 fa33_2 fa33_3 fa33_4 bld33 lda34 sto34 ia34 len34 bs34 app34 lda35 ia35 len35 lda36 ia36 len36 lda38 fa38_0 fa38_1 fa38_2 ia39 len39 bs39 app39 lda42 ela42 sto42 fa42_0 fa42_1 fa42_2 fa42_3 bld42 lda46 ela46 sto46 fa46_0 fae46_0 fa46_1 fa46_2 fa46_3 fa46_4 fa46_5 bld46 lda47 sto47 ia47 len47 bs47 lda48 sto48 ia51 len51 bs51 app51 lda55 sto55 fa55_0 fa55_1 fae55_1 fa55_2 fa55_3 fa55_4 fae55_4 fp55_4 lda57 sto57 fa57_0 fae57_0 fa57_1 fae57_1 fa57_2 bld57 lda60 sto60 fa62_0 bld62 lda69 sto69 fa78_0 bld78 ia81 len81 bs81 app81 iar83 fa85_0 fa85_1 lda86 lda88 ela88 sto88 fa88_0 fa88_1 fa88_2 fa88_3 bld88 ia92 len92 bs92 lda101 sto101 iam101 lenm101 lda103 sto103 fa103_0 fa103_1 bld103 lda104 ela110 sto110 fa110_0 fa110_1 ela111 ia112 len112 bs112 app112 ia120 len120 bs120 app120 lda122 ela122 sto122 fa122_0 fa122_1 fa122_2 fa122_3 bld122 iar130 ela135 sto135 fa135_0 fa135_1 iar138 ela155 ia156 len156 bs156 lda158 sto158 fa158_2 bld158 zero3 zero4 zero22 zero26 zero30 zero33 zero38 zero42 zero46 zero47 zero48 zero55 zero57 zero62 zero69 zero78 zero83 zero88 zero101 zero103 zero110 zero111 zero122 zero130 zero135 zero138 zero155 zero158
theorem seqN {K : Env → Sg → Prop} {Q : Exit → Env → Sg → Prop} {E : Env} {σ : Sg} : Seq K Q .normal E σ = K E σ := rfl
theorem seqR {K : Env → Sg → Prop} {Q : Exit → Env → Sg → Prop} {E : Env} {σ : Sg} : Seq K Q .ret E σ = Q .ret E σ := rfl
theorem seqX {K : Env → Sg → Prop} {Q : Exit → Env → Sg → Prop} {E : Env} {σ : Sg} {i : Nat} : Seq K Q (.exit i) E σ = Q (.exit i) E σ := rfl
theorem blkN {i : Nat} {Q : Exit → Env → Sg → Prop} {E : Env} {σ : Sg} : InBlock i Q .normal E σ = Q .normal E σ := rfl
theorem blkR {i : Nat} {Q : Exit → Env → Sg → Prop} {E : Env} {σ : Sg} : InBlock i Q .ret E σ = Q .ret E σ := rfl
theorem blkX {i j : Nat} {Q : Exit → Env → Sg → Prop} {E : Env} {σ : Sg} : InBlock i Q (.exit j) E σ = if j = i then Q .normal E σ else Q (.exit j) E σ := rfl
theorem range0 : List.range 0 = [] := rfl
theorem range1 : List.range 1 = [0] := rfl
theorem range2 : List.range 2 = [0, 1] := rfl
theorem range3 : List.range 3 = [0, 1, 2] := rfl
theorem range4 : List.range 4 = [0, 1, 2, 3] := rfl
theorem range5 : List.range 5 = [0, 1, 2, 3, 4] := rfl
theorem range6 : List.range 6 = [0, 1, 2, 3, 4, 5] := rfl
theorem range7 : List.range 7 = [0, 1, 2, 3, 4, 5, 6] := rfl
theorem range8 : List.range 8 = [0, 1, 2, 3, 4, 5, 6, 7] := rfl
theorem range9 : List.range 9 = [0, 1, 2, 3, 4, 5, 6, 7, 8] := rfl
theorem range10 : List.range 10 = [0, 1, 2, 3, 4, 5, 6, 7, 8, 9] := rfl
theorem range11 : List.range 11 = [0, 1, 2, 3, 4, 5, 6, 7, 8, 9, 10] := rfl
theorem range12 : List.range 12 = [0, 1, 2, 3, 4, 5, 6, 7, 8, 9, 10, 11] := rfl
theorem range13 : List.range 13 = [0, 1, 2, 3, 4, 5, 6, 7, 8, 9, 10, 11, 12] := rfl
theorem range14 : List.range 14 = [0, 1, 2, 3, 4, 5, 6, 7, 8, 9, 10, 11, 12, 13] := rfl
theorem range15 : List.range 15 = [0, 1, 2, 3, 4, 5, 6, 7, 8, 9, 10, 11, 12, 13, 14] := rfl
theorem range16 : List.range 16 = [0, 1, 2, 3, 4, 5, 6, 7, 8, 9, 10, 11, 12, 13, 14, 15] := rfl
attribute [go_sem] range0 range1 range2 range3 range4 range5 range6 range7 range8 range9 range10 range11 range12 range13 range14 range15 range16
attribute [go_sem low] Sg.push_new Sg.pushRoom_new Sg.pushY_new
attribute [go_sem] Sg.ext_ext
attribute [go_sem] seqN seqR seqX blkN blkR blkX
attribute [go_sem] GL GD GWant_true GWant_false GOpt_some GWho_nobody GWho_fn GWho_yield GOr_true wantedPV whom effOp pureOp isNilC isNilV isNilI ev constPV constPV0 Option.map Option.bind decide_false ite_true ite_false eq_self gt_iff_lt ge_iff_le Env.put Env.get dstOK Nat.reduceLT decide_true Nat.reduceEqDiff argsEnv Nat.reduceAdd binPV bin arith isShift pickPV keep List.map Bool.true_and Bool.and_true reduceIte List.getElem?_toArray List.getElem?_cons_succ List.getElem?_cons_zero beq_true beq_false Bool.not_true Bool.not_false Bool.false_eq_true true_and and_true undefs Dem Option.map_some Option.map_none builtinPV foldMax foldMin unPV extractPV oneOr Sg.push_ext Sg.pushRoom_ext Sg.len_ext Sg.rooms_ext Sg.ys_ext Sg.pushY_ext Sg.ysget_ext Sg.ysget_ext0 Sg.setY_ext Sg.setY_ext0 Sg.popY_ext Sg.popY_ext0 ldS_ext ldS_ext0 ldA_ext ldA_ext0 stX_ext stX_ext0 List.cons_append List.nil_append List.length_cons List.length_nil Nat.zero_add Nat.add_zero List.set_cons_zero List.set_cons_succ PV.cells_agg PV.cells_int PV.cells_bool PV.cells_str PV.cells_isl PV.cells_nilsl PV.cells_func PV.cells_ptr PV.cells_undef defd PV.scalar List.all_cons List.all_nil BEq.rfl Nat.le_refl Nat.reduceLeDiff putCells fillPV List.take_succ_cons List.take_zero List.drop_succ_cons List.drop_zero and_self Nat.reduceMul Nat.reducePow Nat.lt_add_one Nat.reduceBEq List.length_map List.take_nil List.drop_nil
theorem setVar_some {σ : Sg} {id i : Nat} {cs cs' x : List PV} (hid : σ.store[id]? = some (some cs)) (h : (σ.setVar id cs').store[i]? = some (some x)) : (i = id ∧ x = cs') ∨ (i ≠ id ∧ σ.store[i]? = some (some x)) := by
 have h' : (σ.store.set id (some cs'))[i]? = some (some x) := h
 rw [List.getElem?_set] at h'
 by_cases e : id = i
 ·subst e
  rw [if_pos rfl, if_pos (List.getElem?_eq_some_iff.1 hid).1] at h'
  injection h' with h'
  injection h' with h'
  exact .inl ⟨rfl, h'.symm⟩
 rw [if_neg e] at h'
 exact .inr ⟨fun e' => e e'.symm, h'⟩
theorem SR.reread {Ψ : Ty} {σ : Sg} {w : World} (h : SR Ψ σ w) {id : Nat} {cs cs' : List PV} (hid : σ.store[id]? = some (some cs))
 (hv : ∀ b, Ψ.β[id]? = some b → Keeps Ψ w b cs → Keeps Ψ w b cs') : SR Ψ (σ.setVar id cs') w := by
 have old : ∀ (i : Nat) (x : List PV), (σ.setVar id cs').store[i]? = some (some x) → ∃ y, σ.store[i]? = some (some y) := fun i x hx => by
  rcases setVar_some hid hx with ⟨rfl, _⟩ | ⟨_, h'⟩
  ·exact ⟨_, hid⟩
  exact ⟨_, h'⟩
 refine ⟨h.base, h.imm, by rw [sv_len]; exact h.blen, ?_, ?_, ?_, h.roomsApart, h.histlt, h.histle, h.βlt, h.yok, h.ylen', h.dok, ?_, h.szok⟩
 ·intro i x b hx hb
  rcases setVar_some hid hx with ⟨rfl, rfl⟩ | ⟨_, h'⟩
  ·obtain ⟨a1, a2, a0⟩ := h.block i cs b hid hb
   exact ⟨a1, a2, hv b hb a0⟩
  exact h.block i x b h' hb
 ·intro i i' x x' b hx hx' hb hb'
  obtain ⟨y, hy⟩ := old i x hx
  obtain ⟨y', hy'⟩ := old i' x' hx'
  exact h.apart i i' y y' b hy hy' hb hb'
 ·intro r n b e c es hr hh hlt
  obtain ⟨a1, a2, a3, a4⟩ := h.room r n b e c es hr hh hlt
  refine ⟨a1, a2, fun i hi x hx => ?_, a4⟩
  obtain ⟨y, hy⟩ := old i x hx
  exact a3 i hi y hy
 intro b c hm
 obtain ⟨a1, a2, a3, a4, a5⟩ := h.rok b c hm
 refine ⟨a1, a2, fun i hi x hx => ?_, a4, a5⟩
 obtain ⟨y, hy⟩ := old i x hx
 exact a3 i hi y hy
theorem Keeps.setRo {Ψ : Ty} {w : World} {b off : Nat} {cs : List PV} {p : PV} (h : Keeps Ψ w b cs) (hp : cs[off]? = some p) : Keeps Ψ w b (cs.set off p.ro) := by
 have hlt : off < cs.length := (List.getElem?_eq_some_iff.1 hp).1
 have at' : ∀ (j : Nat) (q : PV), (cs.set off p.ro)[j]? = some q → (j = off ∧ q = p.ro) ∨ cs[j]? = some q := by
  intro j q hq
  rw [List.getElem?_set] at hq
  by_cases e : off = j
  ·rw [if_pos e, if_pos hlt] at hq
   injection hq with hq
   exact .inl ⟨e.symm, hq.symm⟩
  rw [if_neg e] at hq
  exact .inr hq
 rcases h with ⟨c, a3, a4, a5⟩ | ⟨arr, es, rfl, a3, a4, a5⟩ | ⟨mid, r, n, seen, rfl, a3, a4⟩
 ·refine .inl ⟨c, a3, by simpa using a4, fun j q v h1 h2 => ?_⟩
  rcases at' j q h1 with ⟨rfl, rfl⟩ | h1
  ·exact (a5 j p v hp h2).ro
  exact a5 j q v h1 h2
 ·rcases off with _ | off
  ·simp at hp
   subst hp
   exact .inr (.inl ⟨arr, es, rfl, a3, a4, a5⟩)
  refine .inr (.inl ⟨arr, es.set off p.ro, rfl, a3, by simpa using a4, fun j q e h1 h2 => ?_⟩)
  simp only [List.getElem?_cons_succ] at hp
  rcases at' (j + 1) q (by simpa using h1) with ⟨hj, rfl⟩ | h1
  ·have : j = off := by omega
   subst this
   obtain ⟨g1, k, v, rfl, g2, g3⟩ := a5 j p e hp h2
   exact ⟨g1, k.ro, v.ro, rfl, g2.ro, g3.ro⟩
  exact a5 j q e (by simpa using h1) h2
 rcases off with _ | off
 ·simp at hp
  subst hp
  exact .inr (.inr ⟨mid, r, n, seen, rfl, a3, a4⟩)
 simp at hp
theorem Weak.roomV {N : Nat} {lo : Nat × Nat} {E : Env} {σ : Sg} {id off es : Nat} {cs l : List PV} (hid : σ.store[id]? = some (some cs)) (hc : cs[off]? = some (.isl l .exact)) (hes : ∀ q, q ∈ l → q.cells.length = es) :
 Weak N lo E σ E ((σ.setVar id (cs.set off (.isl l (.tok σ.rooms.length l.length es)))).pushRoom l.length) := by
 intro Ψ0 Ψ D a w hb le hr
 obtain ⟨b, hβ⟩ : ∃ b, Ψ.β[id]? = some b := by
  have : id < Ψ.β.length := by rw [hr.sg.blen]; exact (List.getElem?_eq_some_iff.1 hid).1
  exact ⟨Ψ.β[id], by simp [this]⟩
 obtain ⟨_, _, h0⟩ := hr.sg.block id cs b hid hβ
 obtain ⟨c, hbi, hcl, hcv⟩ : ∃ c, blockIs w b c ∧ cs.length ≤ c.size ∧ ∀ (j : Nat) (p : PV) (v : Value), cs[j]? = some p → c[j]? = some v → VR Ψ p v := by
  rcases h0 with h0 | ⟨arr, es, rfl, _, g1, g2⟩ | ⟨mid, r, n, seen, rfl, _, _⟩
  ·exact h0
  rotate_left
  ·rcases off with _ | off
   ·simp at hc
   simp at hc
  rcases off with _ | off
  ·simp at hc
  simp only [List.getElem?_cons_succ] at hc
  have hlt : off < arr.size := by rw [g1]; exact (List.getElem?_eq_some_iff.1 hc).1
  obtain ⟨_, k, v, e, _⟩ := g2 off _ arr[off] hc (by simp [hlt])
  cases e
 have hoff : off < cs.length := (List.getElem?_eq_some_iff.1 hc).1
 have hoc : off < c.size := Nat.lt_of_lt_of_le hoff hcl
 have hv : VR Ψ (.isl l .exact) c[off] := hcv off _ _ hc (by simp [hoc])
 have fin : ∀ x : Option (Nat × Nat × Nat × Nat), (∀ b e c s, x = some (b, e, c, s) → ¬ e < c) → (∀ Ψ', Ψ.le Ψ' → Ψ'.hist σ.rooms.length l.length = some x → VR Ψ' (.isl l (.tok σ.rooms.length l.length es)) c[off]) →
  ∃ Ψ', Ψ0.le Ψ' ∧ Rel N D Ψ' E ((σ.setVar id (cs.set off (.isl l (.tok σ.rooms.length l.length es)))).pushRoom l.length) a w := by
  intro x hx hvr
  obtain ⟨le', hs'⟩ := hr.sg.newRoom l.length x (fun b e c s hh hlt => absurd hlt (hx b e c s hh))
  have hnew := hvr _ le' (by simp [Ty.addHist])
  have hid' : (σ.pushRoom l.length).store[id]? = some (some cs) := hid
  have hs2 := hs'.reread (cs' := cs.set off (.isl l (.tok σ.rooms.length l.length es))) hid' (fun b2 hb2 h2 => by
   have e1 : b2 = b := by
    have := le'.β id b hβ
    rw [hb2] at this; injection this
   subst e1
   obtain ⟨g1, g2⟩ := h2.cells hbi
   refine .inl ⟨c, hbi, by simpa using g1, fun j p v h1 h2 => ?_⟩
   rw [List.getElem?_set] at h1
   by_cases hj : off = j
   ·subst hj
    rw [if_pos rfl, if_pos hoff] at h1
    injection h1 with h1
    subst h1
    have : v = c[off] := by simpa [hoc] using h2.symm
    rw [this]; exact hnew
   rw [if_neg hj] at h1
   exact g2 j p v h1 h2)
  refine ⟨_, le.trans le', hr.size, fun t' => (hr.env t').mono le', hs2, fun d hd => le'.ds _ (hr.dsub d hd), ?_⟩
  obtain ⟨rs, r1, r2, r3⟩ := hr.defs
  exact ⟨rs, r1, r2, fun r hm => ⟨le'.ds _ (r3 r hm).1, (r3 r hm).2⟩⟩
 generalize hx : c[off] = x at hv fin
 cases hv with
 | islnil _ a0 _ => exact fin none (fun b e c s h => by cases h) fun Ψ' _ hh => .islnil _ a0 ⟨_, hh⟩
 | isl es0 _ _ b o cap vals hs h1 h2 hc' ho =>
  have hcap : cap = l.length := ho
  subst hcap
  refine fin (some (b, o + l.length * es, o + l.length * es, es)) (fun b e c s h => by injection h with h; injection h with _ h; injection h with h1 h; injection h with h2 _; omega) fun Ψ' le' hh => ?_
  by_cases hl : l = []
  ·subst hl
   exact .isl es [] _ b o 0 vals (fun k e h => by simp at h) (fun k e j p h => by simp at h) (fun k e j p h => by simp at h) (Nat.le_refl _) ⟨rfl, hh⟩
  have : es0 = es := by
   cases l with
   | nil => exact absurd rfl hl
   | cons q l => rw [← hs 0 q rfl]; exact hes q (by simp)
  subst this
  exact .isl es0 l _ b o _ vals hs (fun k e j p q1 q2 => le'.imm _ _ _ (h1 k e j p q1 q2)) (fun k e j p q1 q2 => (h2 k e j p q1 q2).mono le') (Nat.le_refl _) ⟨rfl, hh⟩
/-- The same for a variable that is new. -/
theorem Weak.roomX {N : Nat} {lo : Nat × Nat} {E : Env} {σ : Sg} {l : List (Option (List PV))} {rm : List Nat} {ys : List LState} {j off es : Nat} {cs m : List PV} (hid : l[j]? = some (some cs)) (hc : cs[off]? = some (.isl m .exact)) (hes : ∀ q, q ∈ m → q.cells.length = es) :
 Weak N lo E (σ.ext l rm ys) E (σ.ext (l.set j (some (cs.set off (.isl m (.tok (σ.rooms.length + rm.length) m.length es))))) (rm ++ [m.length]) ys) := by
 have h := Weak.roomV (N := N) (lo := lo) (E := E) (σ := σ.ext l rm ys) (id := σ.store.length + j) (off := off) (es := es) (cs := cs) (l := m) (by rw [Sg.get_ext]; exact hid) hc hes
 rw [Sg.rooms_ext, Sg.set_ext, Sg.pushRoom_ext] at h
 exact h
/-- Cut back, where a variable that was there before was set. -/
theorem Weak.cutSV {N : Nat} {lo : Nat × Nat} {E : Env} {σ : Sg} {d : Nat} {ds : List PV} {l : List (Option (List PV))} {rm : List Nat} {ys : List LState} (k j : Nat) (h1 : lo.1 ≤ σ.store.length + k) (h2 : lo.2 ≤ σ.rooms.length + j) (hcl : CleanSg σ) (hds : CleanAll σ.store.length σ.rooms.length σ.ys.length ds)
 (hc : CleanLs (σ.store.length + k) (σ.rooms.length + j) (σ.ys.length + ys.length) (l.take k)) (hE : CleanEs (σ.store.length + k) (σ.rooms.length + j) (σ.ys.length + ys.length) E) :
 Weak N lo E ((σ.setVar d ds).ext l rm ys) E ((σ.setVar d ds).ext (l.take k) (rm.take j) ys) := by
 have h := Weak.cutX (N := N) (lo := lo) (E := E) (σ := σ.setVar d ds) (l := l) (rm := rm) (ys := ys) k j (by rw [sv_len]; exact h1) h2 (CleanSg_set hcl hds) (by rw [sv_len]; exact hc) (by rw [sv_len]; exact hE)
 exact h
theorem Weak.roV {N : Nat} {lo : Nat × Nat} {E : Env} {σ : Sg} {id off : Nat} {cs : List PV} {p : PV} (hid : σ.store[id]? = some (some cs)) (hc : cs[off]? = some p) : Weak N lo E σ E (σ.setVar id (cs.set off p.ro)) := by
 intro Ψ0 Ψ D a w hb le hr
 have hs2 := hr.sg.reread (cs' := cs.set off p.ro) hid (fun b hb2 h2 => h2.setRo hc)
 exact ⟨Ψ, le, hr.size, hr.env, hs2, hr.dsub, hr.defs⟩
theorem Weak.roX {N : Nat} {lo : Nat × Nat} {E : Env} {σ : Sg} {l : List (Option (List PV))} {rm : List Nat} {ys : List LState} {j off : Nat} {cs : List PV} {p : PV} (hid : l[j]? = some (some cs)) (hc : cs[off]? = some p) :
 Weak N lo E (σ.ext l rm ys) E (σ.ext (l.set j (some (cs.set off p.ro))) rm ys) := by
 have h := Weak.roV (N := N) (lo := lo) (E := E) (σ := σ.ext l rm ys) (id := σ.store.length + j) (off := off) (cs := cs) (p := p) (by rw [Sg.get_ext]; exact hid) hc
 rw [Sg.set_ext] at h
 exact h
theorem op_step {D : List Nat} {P : Program} {N : Nat} {rd : Option Nat} {ops : Array Oper} {Ψ0 : Ty} {Q : Exit → Act → World → Prop} {E : Env} {σ : Sg} {Ψ : Ty} {a : Act} {w : World} {o : Oper} {i : Nat} {is : List Nat} {v : PV}
 (hr : Rel N D Ψ E σ a w) (ho : ops[i]? = some o) (hd : dstOK N o = true) (hg : o.guard = none) (hnd : ∀ c, o.op ≠ .defer c) {x : Value} (hx : (execOp a.eval o).run P w = .ok (.value x) w) (hv : VR Ψ v x)
 (k : ∀ a', Rel N D Ψ (E.put o.dst v) σ a' w → wpOpsIn (FnOf Ψ0 rd) 0 P ops Q is a' w) : wpOpsIn (FnOf Ψ0 rd) 0 P ops Q (i :: is) a w := by
 simp only [wpOpsIn, ho]
 have hw : wantedPV ops E o = some true := by simp [wantedPV, hg]
 rw [wanted_ok hw hr.env]
 simp only [if_true]
 refine ⟨fun f _ => FnOf_fn _ _ _, ?_⟩
 rw [Oper.semAt_eq _ _ _ hnd, hx]
 exact k _ (hr.put (Ty.le.refl _) hr.sg hd hv)
theorem W_isnil {P : Program} {Y : YEnv} {N : Nat} {rd : Option Nat} {lo : Nat × Nat} {id d1 d2 : Nat} {x : Operand} {t ty1 ty2 e : TypeId} {p1 p2 : String} {af1 af2 : Array Edge} {sh : TypeId} {E : Env} {σ : Sg} {Q : Exit → Env → Sg → Prop} {l : List PV} {own : Own} (ks : List Nat)
 (h1 : d1 < N) (h2 : d2 < N) (hx : ev E x = .isl l own) (ht : P.underlying t = some (.slice e))
 (h : ∀ b : Bool, (b = true → l = []) → Q .normal (keep ks ((d2, .bool b) :: (d1, .isl l own) :: E)) σ) :
 W P Y N rd lo (.region id #[{ dst := some d1, op := .move x, type := ty1, pos := p1, after := af1, guard := none }, { dst := some d2, op := .binOp .eql t (.tmp d1) (.const (.slice none 0 0)) sh, type := ty2, pos := p2, after := af2, guard := none }] false) E σ Q := by
 intro Ψ0 D _ hy _ Ψ a w le hr
 refine wpIn_region ?_
 have hv := ev_ok hr.env x
 rw [hx] at hv
 refine op_step (is := [1]) (v := .isl l own) hr rfl (by simp [dstOK, h1]) rfl (fun c e => by cases e) (x := a.eval x) rfl hv fun a1 hr1 => ?_
 have hv1 : VR Ψ (.isl l own) (a1.tmps.getD d1 undef) := by
  have : VR Ψ ((Env.put E (some d1) (.isl l own)).get d1) (a1.tmps.getD d1 undef) := hr1.env d1
  rw [show (Env.put E (some d1) (.isl l own)).get d1 = .isl l own by simp [Env.get]] at this
  exact this
 have hval : ∃ q n c, a1.tmps.getD d1 undef = .slice q n c ∧ (q.isNone = true → l = []) := by
  generalize a1.tmps.getD d1 undef = z at hv1
  cases hv1 with
  | islnil _ _ _ => exact ⟨_, _, _, rfl, fun _ => rfl⟩
  | isl es _ _ b o cap vals hs h1 h2 hc ho => exact ⟨_, _, _, rfl, fun h => by simp at h⟩
 obtain ⟨q, n, c, hz, hq⟩ := hval
 have he : (a1.eval (.tmp d1)) = .slice q n c := hz
 have hrun : ∀ o : Oper, o.op = .binOp .eql t (.tmp d1) (.const (.slice none 0 0)) sh → (execOp a1.eval o).run P w = .ok (.value (.bool q.isNone)) w := by
  intro o ho
  have e1 : execOp a1.eval o = (do pure (.value (← (do eqGuard .eql t (.tmp d1) (.const (.slice none 0 0)) (a1.eval (.tmp d1)) (a1.eval (.const (.slice none 0 0))); binOp .eql t (a1.eval (.tmp d1)) (a1.eval (.const (.slice none 0 0))) : Sem Value)))) := by
   unfold execOp; rw [ho]
  have he2 : a1.eval (.const (.slice none 0 0)) = .slice none 0 0 := rfl
  rw [e1, he, he2]
  have hg : (eqGuard .eql t (.tmp d1) (.const (.slice none 0 0)) (.slice q n c) (.slice none 0 0)).run P w = .ok () w := rfl
  have hb : (binOp .eql t (.slice q n c) (.slice none 0 0)).run P w = .ok (.bool q.isNone) w := by
   have heq : (Op.equal t (.slice q n c) (.slice none 0 0)).run P w = .ok q.isNone w := by
    unfold Op.equal
    show (Op.equalIn (9999 + 1) t (.slice q n c) (.slice none 0 0)).run P w = _
    unfold Op.equalIn
    rw [run_bind_ok (run_und ht)]
    cases q <;> rfl
   show (do pure (.bool (← Op.equal t (.slice q n c) (.slice none 0 0))) : Sem Value).run P w = _
   rw [run_bind_ok heq]; rfl
  have hgb : (do eqGuard .eql t (.tmp d1) (.const (.slice none 0 0)) (.slice q n c) (.slice none 0 0); binOp .eql t (.slice q n c) (.slice none 0 0) : Sem Value).run P w = .ok (.bool q.isNone) w := by
   rw [run_bind_ok hg]; exact hb
  rw [run_bind_ok hgb]
  rfl
 refine op_step (is := []) (v := .bool q.isNone) hr1 rfl (by simp [dstOK, h2]) rfl (fun c e => by cases e) (x := .bool q.isNone) (hrun _ rfl) (.bool _) fun a2 hr2 => ?_
 exact ⟨_, σ, Ψ, le, hr2.keep ks, Below.refl _ _, h _ hq⟩
/-- The owner of a part of a slice. -/
theorem slHi_of {P : Program} {t e : TypeId} {d : TypeDesc} (h : P.underlying t = some (.slice e)) (he : P.underlying e = some d) (l : List PV) (own : Own) (k : IntKind) (n : Int) :
 slicePV P t (.isl l own) none (some (.int k n)) none = if 0 ≤ n then if n.toNat ≤ l.length then some (.isl (l.take n.toNat) (sliceOwn own 0 n.toNat l.length)) else none else none := by
 unfold slicePV
 rw [h]
 simp only [he, bnd]
 by_cases hn : 0 ≤ n
 ·simp [hn]
 simp [hn]
/-- Without an owner. -/
theorem sliceOwn_ro {lo h len : Nat} : sliceOwn .ro lo h len = .ro := by unfold sliceOwn; split <;> rfl
theorem sliceOwn_self {own : Own} {lo len : Nat} : sliceOwn own lo len len = own := by simp [sliceOwn]
attribute [go_sem] sliceOwn_ro sliceOwn_self
theorem slLo_of {P : Program} {t e : TypeId} {d : TypeDesc} {c : Nat} (h : P.underlying t = some (.slice e)) (he : P.underlying e = some d) (hc : P.cellsOf e = c) {α : Type} {f : α → PV} (hf : ∀ x, (f x).cells.length = c) (xs : List α) (own : Own) (k : IntKind) (n : Int) :
 slicePV P t (.isl (xs.map f) own) (some (.int k n)) none none = if 0 ≤ n then if n.toNat ≤ xs.length then some (.isl ((xs.drop n.toNat).map f) own) else none else none := by
 have hall : (xs.map f).all (fun el => el.cells.length == c) = true := by
  rw [List.all_eq_true]
  intro p hp
  obtain ⟨x, _, rfl⟩ := List.mem_map.1 hp
  simp [hf]
 unfold slicePV
 rw [h]
 simp only [he, bnd, hc]
 by_cases hn : 0 ≤ n
 ·simp only [hn, if_true]
  by_cases hl : n.toNat ≤ xs.length
  ·rw [if_pos ⟨by simpa using hl, Nat.le_refl _, .inr hall⟩, if_pos hl, sliceOwn_self, ← List.map_drop, List.take_of_length_le (by simp)]
  rw [if_neg (fun q => hl (by simpa using q.1)), if_neg hl]
 simp [hn]
theorem slBoth_of {P : Program} {t e : TypeId} {d : TypeDesc} {c : Nat} (h : P.underlying t = some (.slice e)) (he : P.underlying e = some d) (hc : P.cellsOf e = c) {α : Type} {f : α → PV} (hf : ∀ x, (f x).cells.length = c) (xs : List α) (own : Own) (k k' : IntKind) (n m : Int) :
 slicePV P t (.isl (xs.map f) own) (some (.int k n)) (some (.int k' m)) none = if 0 ≤ n then if 0 ≤ m then if n.toNat ≤ m.toNat ∧ m.toNat ≤ xs.length then some (.isl (((xs.drop n.toNat).take (m.toNat - n.toNat)).map f) (sliceOwn own n.toNat m.toNat xs.length)) else none else none else none := by
 have hall : (xs.map f).all (fun el => el.cells.length == c) = true := by
  rw [List.all_eq_true]
  intro p hp
  obtain ⟨x, _, rfl⟩ := List.mem_map.1 hp
  simp [hf]
 unfold slicePV
 rw [h]
 simp only [he, bnd, hc]
 by_cases hn : 0 ≤ n
 ·by_cases hm : 0 ≤ m
  ·simp only [hn, hm, if_true]
   by_cases hl : n.toNat ≤ m.toNat ∧ m.toNat ≤ xs.length
   ·rw [if_pos ⟨hl.1, by simpa using hl.2, .inr hall⟩, if_pos hl]
    simp only [List.length_map, ← List.map_drop, ← List.map_take]
   rw [if_neg (fun q => hl ⟨q.1, by simpa using q.2.1⟩), if_neg hl]
  simp [hn, hm]
 simp [hn]
section
variable {P : Program} {t e : TypeId} {d : TypeDesc} {c b : Nat} {σ : Sg} {id len es : Nat}
theorem iaG_of (h : P.underlying t = some (.slice e)) (he : P.underlying e = some d) (hc : P.cellsOf e = c) (kd : IntKind) (len : Nat) (n : Int) : indexAddrPV P t (.gsl id len es) (.int kd n) = iaM c id 0 len n := by
 simp [indexAddrPV, h, he, hc, iaM]
theorem lenG_of (h : P.underlying t = some (.slice e)) (n : Nat) : lenPV P t (.gsl id n es) = some (.int .i64 n) := by simp [lenPV, h]
def appG (c b : Nat) (σ : Sg) (x : PV) (m : List PV) : Option (PV × Sg) :=
  if m.all (fun q => (q.cells.length == c) && q.cells.all PV.scalar) && decide (0 < m.length) then
    (match x with
     | .gnil => if m.length * b ≤ 2 ^ 47 then some (.gsl σ.store.length m.length c, σ.push (rowC m)) else none
     | .gsl id len es => match σ.store[id]? with
       | some (some cs) => if es = c ∧ len * es ≤ cs.length ∧ (len + m.length) * b ≤ 2 ^ 47 then some (.gsl σ.store.length (len + m.length) es, (σ.drop id).push (cs.take (len * es) ++ rowC m)) else none
       | _ => none
     | _ => none)
  else none
theorem appG_of {zs : List PV} {x : PV} {m : List PV} {own : Own} (h : P.underlying t = some (.slice e)) (he : P.underlying e = some d) (hc : P.cellsOf e = c) (hb : P.bytesOf e = b) (hb0 : b ≠ 0) (hc0 : 0 < c) (hz : zeroPV P e = some zs) (hzl : zs.length = c) :
 appendG P σ t t x (.isl m own) = appG c b σ x m := by
 unfold appendG appG
 rw [h]
 simp only [he, hc, hb, hz, hzl, Option.isSome_some, Bool.true_and, Option.map_some, BEq.rfl, Bool.and_true, hb0, hc0, ne_eq, not_false_eq_true, and_self, decide_true]
 rfl
theorem appG_nil {m : List PV} (h1 : m.all (fun q => (q.cells.length == c) && q.cells.all PV.scalar) = true) (h2 : 0 < m.length) (h3 : m.length * b ≤ 2 ^ 47) : appG c b σ .gnil m = some (.gsl σ.store.length m.length c, σ.push (rowC m)) := by
 simp only [appG, h1, h2, h3, decide_true, Bool.and_true, if_true]
theorem appG_more {m cs : List PV} (hs : σ.store[id]? = some (some cs)) (hl : cs.length = len * c) (h1 : m.all (fun q => (q.cells.length == c) && q.cells.all PV.scalar) = true) (h2 : 0 < m.length) (h3 : (len + m.length) * b ≤ 2 ^ 47) :
 appG c b σ (.gsl id len c) m = some (.gsl σ.store.length (len + m.length) c, (σ.drop id).push (cs ++ rowC m)) := by
 simp only [appG, h1, h2, decide_true, Bool.and_true, if_true, hs]
 rw [if_pos ⟨trivial, by omega, h3⟩, List.take_of_length_le (by omega)]
end
theorem get_put1 (E : Env) (t : Nat) (v : PV) (t' : Nat) : (E.put (some t) v).get t' = if t' = t then v else E.get t' := by
 simp only [Env.put_some, Env.get]
 by_cases h : t' = t
 ·subst h; simp
 simp [h, Ne.symm h]
theorem rowC_at {es : Nat} : ∀ {l : List PV} (_ : ∀ q ∈ l, q.cells.length = es) {k j : Nat} {q p : PV}, l[k]? = some q → q.cells[j]? = some p → (rowC l)[k * es + j]? = some p := by
 intro l
 induction l with
 | nil => intro _ k j q p h; simp at h
 | cons a l ih =>
  intro hl k j q p h1 h2
  have ha := hl a (by simp)
  have e : rowC (a :: l) = a.cells ++ rowC l := by simp [rowC]
  rw [e]
  cases k with
  | zero =>
   simp at h1
   subst h1
   rw [Nat.zero_mul, Nat.zero_add, List.getElem?_append_left (List.getElem?_eq_some_iff.1 h2).1]
   exact h2
  | succ k =>
   have := ih (fun q hq => hl q (by simp [hq])) (by simpa using h1) h2
   rw [List.getElem?_append_right (by rw [ha, Nat.add_mul]; omega), ha, show (k + 1) * es + j - es = k * es + j by rw [Nat.add_mul]; omega]
   exact this
theorem Sg.drop_ext {σ : Sg} {l : List (Option (List PV))} {rm : List Nat} {ys : List LState} (j : Nat) : (σ.ext l rm ys).drop (σ.store.length + j) = σ.ext (l.set j none) rm ys := by
 simp [Sg.drop, Sg.ext, List.set_append]
theorem Sg.drop_ext0 {σ : Sg} {l : List (Option (List PV))} {rm : List Nat} {ys : List LState} : (σ.ext l rm ys).drop σ.store.length = σ.ext (l.set 0 none) rm ys := Sg.drop_ext 0
attribute [go_sem] Sg.drop_ext Sg.drop_ext0
/-- What a variable held is read of a temporary, and is never written again. -/
theorem Weak.freeze {N : Nat} {lo : Nat × Nat} {E : Env} {σ : Sg} {t id len es : Nat} {l : List PV} (ht : E.get t = .gsl id len es) (hs : σ.store[id]? = some (some (rowC l))) (hl : l.length = len) (hes : ∀ q ∈ l, q.cells.length = es) :
 Weak N lo E σ (E.put (some t) (.isl l .ro)) (σ.drop id) := by
 intro Ψ0 Ψ D a w hb le hr
 have hv := hr.env t
 rw [ht] at hv
 generalize hx : a.tmps.getD t undef = x at hv
 cases hv with
 | gsl _ _ _ b cap hβ hz1 hz0 hc =>
 obtain ⟨_, _, hkp⟩ := hr.sg.block id _ b hs hβ
 obtain ⟨c, hbk, _⟩ := hkp.blk (hr.sg.szok b _ hz0)
 obtain ⟨a4, a5⟩ := hkp.cells hbk
 obtain ⟨le2, hs2⟩ := hr.sg.freeze hs hβ hbk
 refine ⟨_, le.trans le2, hr.size, fun t' => ?_, hs2, fun d hd => le2.ds _ (hr.dsub d hd), ?_⟩
 ·rw [get_put1]
  split
  ·rename_i e
   subst e
   rw [hx, ← hl]
   have hat : ∀ (k : Nat) (q : PV) (j : Nat) (p : PV), l[k]? = some q → q.cells[j]? = some p → (rowC l)[k * es + j]? = some p ∧ k * es + j < c.size := fun k q j p q1 q2 => by
    have := rowC_at hes q1 q2
    exact ⟨this, Nat.lt_of_lt_of_le (List.getElem?_eq_some_iff.1 this).1 a4⟩
   refine .isl es l .ro b 0 cap (fun k j => c.getD (k * es + j) undef) (fun k q hk => hes q (List.mem_of_getElem? hk)) (fun k q j p q1 q2 => ?_) (fun k q j p q1 q2 => ?_) (by omega) trivial
   ·obtain ⟨_, hlt⟩ := hat k q j p q1 q2
    simp only [Ty.addImm, Nat.zero_add]
    rw [if_pos ⟨trivial, Nat.zero_le _, hlt⟩]
    simp [Array.getD, hlt]
   obtain ⟨h1, hlt⟩ := hat k q j p q1 q2
   refine (a5 _ p _ h1 ?_).mono le2
   simp [Array.getD, hlt]
  exact (hr.env t').mono le2
 obtain ⟨rs, r1, r2, r3⟩ := hr.defs
 exact ⟨rs, r1, r2, fun r hm => ⟨le2.ds _ (r3 r hm).1, (r3 r hm).2⟩⟩
/-- A slice without room, told otherwise: to grow in place. -/
theorem Weak.gnil {N : Nat} {lo : Nat × Nat} {E : Env} {σ : Sg} {t : Nat} (ht : E.get t = .isl [] .exact) : Weak N lo E σ (E.put (some t) .gnil) σ := by
 intro Ψ0 Ψ D a w hb le hr
 refine ⟨Ψ, le, hr.size, fun t' => ?_, hr.sg, hr.dsub, hr.defs⟩
 rw [get_put1]
 split
 ·rename_i e
  subst e
  have hv := hr.env t'
  rw [ht] at hv
  generalize a.tmps.getD t' undef = x at hv
  cases hv with
  | islnil _ a' _ => exact .gnil a'
  | isl es _ _ b o cap vals hs h1 h2 hc ho =>
   have : cap = 0 := ho
   subst this
   exact .gnil _
 exact hr.env t'
/-- A map's entries. -/
def mapE {κ ν : Type} (ek : κ → PV) (ev : ν → PV) (l : List (κ × ν)) : List PV := l.map fun e => .tuple [ek e.1, ev e.2]
theorem mapE_cons {κ ν : Type} (ek : κ → PV) (ev : ν → PV) (e : κ × ν) (l : List (κ × ν)) : mapE ek ev (e :: l) = .tuple [ek e.1, ev e.2] :: mapE ek ev l := rfl
theorem mapE_append {κ ν : Type} (ek : κ → PV) (ev : ν → PV) (l m : List (κ × ν)) : mapE ek ev (l ++ m) = mapE ek ev l ++ mapE ek ev m := by simp [mapE]
section
variable {κ ν : Type} [DecidableEq κ]
def aget (k : κ) : List (κ × ν) → Option ν
 | [] => none
 | e :: l => if k = e.1 then some e.2 else aget k l
def aput (k : κ) (v : ν) : List (κ × ν) → List (κ × ν)
 | [] => [(k, v)]
 | e :: l => if k = e.1 then (k, v) :: l else e :: aput k v l
theorem aget_put (k k' : κ) (v : ν) : ∀ l : List (κ × ν), aget k' (aput k v l) = if k' = k then some v else aget k' l := by
 intro l
 induction l with
 | nil => rfl
 | cons e l ih =>
  simp only [aput]
  split
  ·rename_i h
   subst h
   simp only [aget]
   split <;> rfl
  rename_i h
  simp only [aget]
  split
  ·rename_i h2
   subst h2
   rw [if_neg (fun e => h e.symm)]
  exact ih
theorem aget_mem {k : κ} {v : ν} : ∀ {l : List (κ × ν)}, aget k l = some v → (k, v) ∈ l := by
 intro l
 induction l with
 | nil => intro h; cases h
 | cons e l ih =>
  intro h
  simp only [aget] at h
  split at h
  ·rename_i he
   injection h with h
   subst he h
   simp
  exact List.mem_cons_of_mem _ (ih h)
theorem aget_none {k : κ} : ∀ {l : List (κ × ν)}, aget k l = none ↔ ∀ e, e ∈ l → e.1 ≠ k := by
 intro l
 induction l with
 | nil =>
  constructor
  ·intro _ e h
   cases h
  intro _
  rfl
 | cons e l ih =>
  simp only [aget]
  by_cases he : k = e.1
  ·rw [if_pos he]
   constructor
   ·intro h
    cases h
   intro h
   exact absurd he.symm (h e (by simp))
  rw [if_neg he, ih]
  constructor
  ·intro h x hx
   rcases List.mem_cons.1 hx with rfl | hx
   ·exact fun q => he q.symm
   exact h x hx
  intro h x hx
  exact h x (by simp [hx])
/-- The keys of a type are told apart as their readings are. -/
def KeyOK (P : Program) (kt : TypeId) (ek : κ → PV) : Prop := ∀ a b, keyEq P kt (ek a) (ek b) = some (decide (a = b))
def afind (k : κ) : List (κ × ν) → Nat → Option (Nat × ν)
 | [], _ => none
 | e :: l, i => if k = e.1 then some (i, e.2) else afind k l (i + 1)
theorem findPV_map {P : Program} {kt : TypeId} {ek : κ → PV} (h : KeyOK P kt ek) (ev : ν → PV) (k : κ) : ∀ (l : List (κ × ν)) (i : Nat), findPV P kt (ek k) (mapE ek ev l) i = some ((afind k l i).map fun r => (r.1, ev r.2)) := by
 intro l
 induction l with
 | nil => intro i; rfl
 | cons e l ih =>
  intro i
  simp only [mapE_cons, findPV, afind]
  rw [h k e.1]
  by_cases he : k = e.1
  ·simp [he]
  simp only [he, decide_false, if_neg, not_false_eq_true]
  exact ih (i + 1)
theorem afind_get (k : κ) : ∀ (l : List (κ × ν)) (i : Nat), (afind k l i).map (·.2) = aget k l := by
 intro l
 induction l with
 | nil => intro i; rfl
 | cons e l ih =>
  intro i
  simp only [afind, aget]
  split
  ·rfl
  exact ih (i + 1)
theorem afind_put (ek : κ → PV) (ev : ν → PV) (k : κ) (v : ν) : ∀ (l : List (κ × ν)) (i : Nat), match afind k l i with
 | none => aput k v l = l ++ [(k, v)]
 | some (j, _) => i ≤ j ∧ (mapE ek ev l).set (j - i) (.tuple [ek k, ev v]) = mapE ek ev (aput k v l) := by
 intro l
 induction l with
 | nil => intro i; rfl
 | cons e l ih =>
  intro i
  simp only [afind, aput]
  by_cases he : k = e.1
  ·rw [if_pos he, if_pos he]
   simp [mapE_cons]
  rw [if_neg he, if_neg he]
  have := ih (i + 1)
  cases hf : afind k l (i + 1) with
  | none => rw [hf] at this; simp only at this ⊢; rw [this]; rfl
  | some r =>
   rw [hf] at this
   obtain ⟨j, x⟩ := r
   simp only at this ⊢
   refine ⟨by omega, ?_⟩
   rw [show j - i = j - (i + 1) + 1 by omega, mapE_cons, List.set_cons_succ, this.2, mapE_cons]
def lkM (P : Program) (kt : TypeId) (z : PV) (b : Option (Option (List PV))) (k : PV) (ok : Bool) : Option PV :=
 match b with
 | some (some (.mark :: es)) => match findPV P kt k es 0 with
  | some (some (_, v)) => some (packPV ok v true)
  | some none => some (packPV ok z false)
  | none => none
 | _ => none
def lkX (P : Program) (kt : TypeId) (z : PV) (σ : Sg) (id : Nat) (k : PV) (ok : Bool) : Option PV := lkM P kt z σ.store[id]? k ok
def upM (P : Program) (kt : TypeId) (b : Option (Option (List PV))) (k v : PV) : Option (List PV) :=
 match b with
 | some (some (.mark :: es)) => match findPV P kt k es 0 with
  | some (some (j, _)) => some (.mark :: es.set j (.tuple [k, v]))
  | some none => some (.mark :: (es ++ [.tuple [k, v]]))
  | none => none
 | _ => none
def upX (P : Program) (kt : TypeId) (σ : Sg) (id : Nat) (k v : PV) : Option Sg := (upM P kt σ.store[id]? k v).map fun cs => σ.setVar id cs
theorem lk_of {P : Program} {t kt et : TypeId} {kd : TypeDesc} {z : PV} (h : P.underlying t = some (.map kt et)) (hk : P.underlying kt = some kd) (hz : zeroOne P et = some z) {k : PV} (hf : keyFor P kd k = true) (σ : Sg) (id : Nat) (ok : Bool) :
 lookupPV P σ t (.map id) k ok = lkX P kt z σ id k ok := by
 simp only [lookupPV, h, hk, hz, hf, if_true, lkX, lkM]
 rfl
theorem up_of {P : Program} {t kt et : TypeId} {kd : TypeDesc} (h : P.underlying t = some (.map kt et)) (hk : P.underlying kt = some kd) {k : PV} (hf : keyFor P kd k = true) (v : PV) (σ : Sg) (id : Nat) :
 updatePV P σ t (.map id) k v = upX P kt σ id k v := by
 simp only [updatePV, h, hk, hf, if_true, upX, upM]
 generalize σ.store[id]? = b
 rcases b with _ | _ | cs
 ·rfl
 ·rfl
 rcases cs with _ | ⟨c, cs⟩
 ·rfl
 cases c <;> try rfl
 simp only
 rcases findPV P kt k cs 0 with _ | _ | ⟨j, x⟩ <;> rfl
theorem lkM_map {P : Program} {kt : TypeId} {z : PV} {ek : κ → PV} (h : KeyOK P kt ek) (ev : ν → PV) (l : List (κ × ν)) (k : κ) (ok : Bool) :
 lkM P kt z (some (some (.mark :: mapE ek ev l))) (ek k) ok = some (packPV ok (match aget k l with | some v => ev v | none => z) (aget k l).isSome) := by
 simp only [lkM, findPV_map h]
 rw [← afind_get k l 0]
 cases afind k l 0 with
 | none => rfl
 | some r => rfl
theorem upM_map {P : Program} {kt : TypeId} {ek : κ → PV} (h : KeyOK P kt ek) (ev : ν → PV) (l : List (κ × ν)) (k : κ) (v : ν) :
 upM P kt (some (some (.mark :: mapE ek ev l))) (ek k) (ev v) = some (.mark :: mapE ek ev (aput k v l)) := by
 simp only [upM, findPV_map h]
 have := afind_put ek ev k v l 0
 cases hf : afind k l 0 with
 | none =>
  rw [hf] at this
  simp only at this
  simp only [Option.map_none, this, mapE_append]
  rfl
 | some r =>
  rw [hf] at this
  obtain ⟨j, x⟩ := r
  simp only [Option.map_some]
  have h2 := this.2
  simp only [Nat.sub_zero] at h2
  rw [h2]
end
section
variable {P : Program} {kt : TypeId} {z : PV} {σ : Sg} {l : List (Option (List PV))} {rm : List Nat} {ys : List LState} {j d : Nat} {cs : List PV} {k v : PV} {ok : Bool}
theorem lkX_at (h : σ.store[d]? = some (some cs)) : lkX P kt z σ d k ok = lkM P kt z (some (some cs)) k ok := by simp only [lkX, h]
theorem lkX_ext : lkX P kt z (σ.ext l rm ys) (σ.store.length + j) k ok = lkM P kt z l[j]? k ok := by simp only [lkX, Sg.get_ext]
theorem lkX_ext0 : lkX P kt z (σ.ext l rm ys) σ.store.length k ok = lkM P kt z l[0]? k ok := by simp only [lkX, Sg.get_ext0]
theorem lkX_old (h : d < σ.store.length) : lkX P kt z (σ.ext l rm ys) d k ok = lkX P kt z σ d k ok := by simp only [lkX, ext_get h]
theorem upX_ext : upX P kt (σ.ext l rm ys) (σ.store.length + j) k v = (upM P kt l[j]? k v).map fun cs => σ.ext (l.set j (some cs)) rm ys := by simp only [upX, Sg.get_ext, Sg.set_ext]
theorem upX_ext0 : upX P kt (σ.ext l rm ys) σ.store.length k v = (upM P kt l[0]? k v).map fun cs => σ.ext (l.set 0 (some cs)) rm ys := by simp only [upX, Sg.get_ext0, Sg.set_ext0]
theorem lkX_svx : lkX P kt z ((σ.setVar d cs).ext l rm ys) (σ.store.length + j) k ok = lkM P kt z l[j]? k ok := by
 have := lkX_ext (P := P) (kt := kt) (z := z) (σ := σ.setVar d cs) (l := l) (rm := rm) (ys := ys) (j := j) (k := k) (ok := ok)
 rw [sv_len] at this
 exact this
theorem Cl_map {a b c id : Nat} : Clean a b c (.map id) = (id < a) := propext ⟨fun h => by cases h; assumption, fun h => .mapv _ h⟩
theorem Cl_nilmap {a b c : Nat} : Clean a b c .nilmap = True := eq_true .nilmap
theorem Cl_mark {a b c : Nat} : Clean a b c .mark = True := eq_true .mark
theorem Cl_gsl {a b c id len es : Nat} : Clean a b c (.gsl id len es) = (id < a) := propext ⟨fun h => by cases h; assumption, fun h => .gsl _ _ _ h⟩
theorem Cl_gnil {a b c : Nat} : Clean a b c .gnil = True := eq_true .gnil
theorem CleanAll_mapE {κ ν : Type} {a b c : Nat} {ek : κ → PV} {ev : ν → PV} {l : List (κ × ν)} (h1 : ∀ x, Clean a b c (ek x)) (h2 : ∀ x, Clean a b c (ev x)) : CleanAll a b c (mapE ek ev l) = True := eq_true fun p hp => by
 obtain ⟨e, _, rfl⟩ := List.mem_map.1 hp
 refine .tuple _ fun q hq => ?_
 simp only [List.mem_cons, List.not_mem_nil, or_false] at hq
 rcases hq with rfl | rfl
 ·exact h1 _
 exact h2 _
end
end Go.Proofs.YtpkkegbiddcodaaGreat
namespace Go.Proofs.YtpkkegbiddcodaaGreat.Mk
open Go Go.RowKit
structure Scale where
 schools : Int
 matters : Int
 judges : Int
 drop : Int
 low : Int
 high : Int
 order : List Int
 deriving DecidableEq
structure Envl where
 matter : Int
 judge : Int
 marks : List Int
 sl : Int
 deriving DecidableEq
structure Night where
 opened : List Envl
 absent : List (Int × Int)
 fines : List (Int × Int)
 deriving DecidableEq
structure Stand where
 school : Int
 total : Int
 points : List Int
 deriving DecidableEq
abbrev intsO (o : Own) (xs : List Int) : PV := .isl (xs.map I) o
def stPV (s : Int × Int) : PV := .agg [I s.1, I s.2]
def scCells (s : Scale) : List PV := [I s.schools, I s.matters, I s.judges, I s.drop, I s.low, I s.high, ints s.order]
def scPV (s : Scale) : PV := .agg (scCells s)
def evCells (e : Envl) : List PV := [I e.matter, I e.judge, ints e.marks, I e.sl]
def evPV (e : Envl) : PV := .agg (evCells e)
abbrev sts (l : List (Int × Int)) : PV := .isl (l.map stPV) .ro
abbrev evs (l : List Envl) : PV := .isl (l.map evPV) .ro
def ngCells (n : Night) : List PV := [evs n.opened, sts n.absent, sts n.fines]
def ngPV (n : Night) : PV := .agg (ngCells n)
def sdCells (x : Stand) : List PV := [I x.school, I x.total, ints x.points]
def sdPV (x : Stand) : PV := .agg (sdCells x)
abbrev sds (l : List Stand) : PV := .isl (l.map sdPV) .ro
def llPV (xs : List Int) : PV := ints xs
section
variable {α : Type} {f : α → PV} {xs : List α} {i : Nat} {x : α} {c k off : Nat}
theorem iaX_map (h : xs[i]? = some x) (hc : (f x).cells.length = c) : iaX c (xs.map f) (i : Int) = some (.eptr c (xs.map f) i 0) := by
 have hlt : i < xs.length := (List.getElem?_eq_some_iff.1 h).1
 have hx : xs[i] = x := (List.getElem?_eq_some_iff.1 h).2
 unfold iaX
 rw [if_pos ⟨Int.natCast_nonneg _, by simpa using hlt⟩]
 simp [hlt, hx, hc]
end
theorem Clean.map {α : Type} {a b c : Nat} {f : α → PV} {xs : List α} {o : Own} (ho : ∀ r n es, o = .tok r n es → r < b) (h : ∀ x, Clean a b c (f x)) : Clean a b c (.isl (xs.map f) o) :=
 .isl _ _ (fun e he => by obtain ⟨x, _, rfl⟩ := List.mem_map.1 he; exact h x) ho
theorem noTok {b : Nat} : ∀ r n es, Own.ro = .tok r n es → r < b := fun r n es e => by cases e
theorem clean_ints {a b c : Nat} (xs : List Int) : Clean a b c (ints xs) := Clean.ints xs .ro noTok
theorem clean_ll {a b c : Nat} (xs : List Int) : Clean a b c (llPV xs) := Clean.ints xs .ro noTok
theorem clean_st {a b c : Nat} (s : Int × Int) : Clean a b c (stPV s) := .agg _ (Clean.all_cons (.int _ _) (Clean.all_cons (.int _ _) Clean.all_nil))
theorem cleans_sc {a b c : Nat} (s : Scale) : ∀ p, p ∈ scCells s → Clean a b c p :=
 Clean.all_cons (.int _ _) (Clean.all_cons (.int _ _) (Clean.all_cons (.int _ _) (Clean.all_cons (.int _ _) (Clean.all_cons (.int _ _) (Clean.all_cons (.int _ _) (Clean.all_cons (clean_ints _) Clean.all_nil))))))
theorem cleans_ev {a b c : Nat} (x : Envl) : ∀ p, p ∈ evCells x → Clean a b c p :=
 Clean.all_cons (.int _ _) (Clean.all_cons (.int _ _) (Clean.all_cons (clean_ints _) (Clean.all_cons (.int _ _) Clean.all_nil)))
theorem clean_ev {a b c : Nat} (x : Envl) : Clean a b c (evPV x) := .agg _ (cleans_ev x)
theorem cleans_ng {a b c : Nat} (n : Night) : ∀ p, p ∈ ngCells n → Clean a b c p :=
 Clean.all_cons (Clean.map noTok clean_ev) (Clean.all_cons (Clean.map noTok clean_st) (Clean.all_cons (Clean.map noTok clean_st) Clean.all_nil))
theorem cleans_sd {a b c : Nat} (x : Stand) : ∀ p, p ∈ sdCells x → Clean a b c p :=
 Clean.all_cons (.int _ _) (Clean.all_cons (.int _ _) (Clean.all_cons (clean_ints _) Clean.all_nil))
theorem clean_sd {a b c : Nat} (x : Stand) : Clean a b c (sdPV x) := .agg _ (cleans_sd x)
def inR (n lo hi : Int) : Bool := decide (lo ≤ n) && decide (n ≤ hi)
theorem okC_st {xs : List (Int × Int)} : okC 2 (xs.map stPV) = True := okC_map fun x => by simp [okC, stPV, PV.cells, PV.scalar]
theorem okC_ev {xs : List Envl} : okC 4 (xs.map evPV) = True := okC_map fun x => by simp [okC, evPV, evCells, PV.cells, PV.scalar]
theorem okC_sd {xs : List Stand} : okC 3 (xs.map sdPV) = True := okC_map fun x => by simp [okC, sdPV, sdCells, PV.cells, PV.scalar]
theorem okC_ll {xs : List (List Int)} : okC 1 (xs.map llPV) = True := okC_map fun x => by simp [okC, llPV, PV.cells, PV.scalar]
theorem roL_st {xs : List (Int × Int)} : PV.roL (xs.map stPV) = xs.map stPV := roL_enc fun x => by simp only [stPV, ro_agg, roL_cons, roL_nil, ro_int]
theorem roL_ev {xs : List Envl} : PV.roL (xs.map evPV) = xs.map evPV := roL_enc fun x => by simp only [evPV, evCells, ro_agg, roL_cons, roL_nil, ro_int, ro_isl, roL_ints]
theorem roL_sd {xs : List Stand} : PV.roL (xs.map sdPV) = xs.map sdPV := roL_enc fun x => by simp only [sdPV, sdCells, ro_agg, roL_cons, roL_nil, ro_int, ro_isl, roL_ints]
theorem roL_ll {xs : List (List Int)} : PV.roL (xs.map llPV) = xs.map llPV := roL_enc fun x => by simp only [llPV, ro_isl, roL_ints]
theorem cA_st {a b c : Nat} {xs : List (Int × Int)} : CleanAll a b c (xs.map stPV) = True := CleanAll_map clean_st
theorem cA_ev {a b c : Nat} {xs : List Envl} : CleanAll a b c (xs.map evPV) = True := CleanAll_map clean_ev
theorem cA_sd {a b c : Nat} {xs : List Stand} : CleanAll a b c (xs.map sdPV) = True := CleanAll_map clean_sd
theorem cA_ll {a b c : Nat} {xs : List (List Int)} : CleanAll a b c (xs.map llPV) = True := CleanAll_map clean_ll
attribute [go_sem] okC_st okC_ev okC_sd okC_ll roL_st roL_ev roL_sd roL_ll cA_st cA_ev cA_sd cA_ll stPV scPV scCells evPV evCells ngPV ngCells sdPV sdCells
theorem mixed : Tryz.prog.follows .mixedOrders = true := by kernel_rfl
abbrev Kn := List ((Int × Int) × List Int)
def mkPV : List Int → PV
 | [] => .nilsl
 | x :: l => ints (x :: l)
def knE (k : Kn) : List PV := mapE stPV mkPV k
theorem clean_mk {a b c : Nat} (l : List Int) : Clean a b c (mkPV l) := by
 cases l with
 | nil => exact .nilsl
 | cons x l => exact clean_ints _
theorem cA_kn {a b c : Nat} {k : Kn} : CleanAll a b c (knE k) = True := CleanAll_mapE clean_st clean_mk
attribute [go_sem] cA_kn
theorem own : ownKnob Tryz.prog.godebug = none := by kernel_rfl
theorem laidOut : laidOutB Tryz.prog = true := by kernel_rfl
theorem rdInt : Rd Tryz.prog 3 fun p => ∃ n : Int, p = I n := (Rd.int Tryz.underlying3).mono fun _ ⟨n, h, _⟩ => ⟨n, h⟩
def intsSz (xs : List Int) : Prop := xs.length * 8 ≤ 140737488351232
theorem rdInts : Rd Tryz.prog 22 fun p => ∃ xs : List Int, p = ints xs ∧ intsSz xs :=
 (Rd.slice Tryz.underlying22 (by kernel_rfl) rdInt).mono fun p ⟨l, h1, h2, h3⟩ => by
  obtain ⟨xs, rfl, _⟩ := map_of (f := I) (Q := fun _ => True) fun x hx => let ⟨n, e⟩ := h1 x hx; ⟨n, e, trivial⟩
  have e : Tryz.prog.bytesOf 3 = 8 := by kernel_rfl
  rw [e] at h2
  exact ⟨xs, h3, by simpa [reachBytes, intsSz] using h2⟩
end Go.Proofs.YtpkkegbiddcodaaGreat.Mk
namespace Go.Proofs.YtpkkegbiddcodaaGreat
open Go Go.RowKit
theorem rowC_single {l : List PV} (h : ∀ q, q ∈ l → q.cells = [q]) : rowC l = l := by
 induction l with
 | nil => rfl
 | cons q l ih =>
  have := ih fun q hq => h q (by simp [hq])
  simp only [rowC, List.flatMap_cons] at this ⊢
  rw [h q (by simp), this]
  rfl
theorem rowC_ints (xs : List Int) : rowC (xs.map I) = xs.map I := rowC_single fun q hq => by obtain ⟨x, _, rfl⟩ := List.mem_map.1 hq; rfl
theorem mk_of {P : Program} {t e : TypeId} {z : PV} {b : Nat} (h : P.underlying t = some (.slice e)) (hz : zeroPV P e = some [z]) (hb : P.bytesOf e = b) (hc : P.cellsOf e = 1) {σ : Sg} {k : Nat} (hk : k * b ≤ 2 ^ 47) (hk2 : k < 2 ^ 63) :
 makePV P σ t (.int .i64 (k : Int)) (.int .i64 (k : Int)) = some (.msl σ.store.length 0 k, σ.push (List.replicate k z)) := by
 simp only [makePV, h, hz, hb, hc]
 rw [if_pos ⟨trivial, Int.natCast_nonneg k, by rw [← Int.natCast_mul]; omega, by omega, trivial⟩]
 simp
theorem iaM_nat {c id off len k : Nat} (h : k < len) : iaM c id off len (k : Int) = some (.ptr id (off + k * c)) := by
 unfold iaM
 rw [if_pos ⟨Int.natCast_nonneg k, by omega⟩]
 simp
theorem setI {xs : List Int} {i : Nat} {v : Int} : (xs.map I).set i (I v) = (xs.set i v).map I := by rw [List.map_set]
theorem setB {xs : List Bool} {i : Nat} {v : Bool} : (xs.map PV.bool).set i (.bool v) = (xs.set i v).map PV.bool := by rw [List.map_set]
theorem repB (n : Nat) (v : Bool) : List.replicate n (PV.bool v) = (List.replicate n v).map PV.bool := by simp
/-- A value, and what it is when the variables n + ks[i] become the variables n + i. -/
inductive Rn (n nr ny : Nat) (ks : List Nat) : PV → PV → Prop where
 | gone (p : PV) : Rn n nr ny ks p .undef
 | same (p : PV) (h : Clean n nr ny p) : Rn n nr ny ks p p
 | ptr (i k id id' off : Nat) (h : ks[i]? = some k) (e : id = n + k) (e' : id' = n + i) : Rn n nr ny ks (.ptr id off) (.ptr id' off)
 | msl (i k id id' off len : Nat) (h : ks[i]? = some k) (e : id = n + k) (e' : id' = n + i) : Rn n nr ny ks (.msl id off len) (.msl id' off len)
 | gsl (i k id id' len es : Nat) (h : ks[i]? = some k) (e : id = n + k) (e' : id' = n + i) : Rn n nr ny ks (.gsl id len es) (.gsl id' len es)
 | bself (i k id id' : Nat) (t : TypeId) (h : ks[i]? = some k) (e : id = n + k) (e' : id' = n + i) : Rn n nr ny ks (.bself id t) (.bself id' t)
 | mapv (i k id id' : Nat) (h : ks[i]? = some k) (e : id = n + k) (e' : id' = n + i) : Rn n nr ny ks (.map id) (.map id')
 | func (fn : Fn) (fs cs cs' : List PV) (hf : ∀ p, p ∈ fs → Clean n nr ny p) (hl : cs'.length = cs.length) (h : ∀ (j : Nat) (p v : PV), cs[j]? = some p → cs'[j]? = some v → Rn n nr ny ks p v) : Rn n nr ny ks (.func fn fs cs) (.func fn fs cs')
 | agg (cs cs' : List PV) (hl : cs'.length = cs.length) (h : ∀ (j : Nat) (p v : PV), cs[j]? = some p → cs'[j]? = some v → Rn n nr ny ks p v) : Rn n nr ny ks (.agg cs) (.agg cs')
 | tuple (cs cs' : List PV) (hl : cs'.length = cs.length) (h : ∀ (j : Nat) (p v : PV), cs[j]? = some p → cs'[j]? = some v → Rn n nr ny ks p v) : Rn n nr ny ks (.tuple cs) (.tuple cs')
def RnL (n nr ny : Nat) (ks : List Nat) : List PV → List PV → Prop
 | [], [] => True
 | p :: l, v :: m => Rn n nr ny ks p v ∧ RnL n nr ny ks l m
 | _, _ => False
theorem RnL.get {n nr ny : Nat} {ks : List Nat} : ∀ {l m : List PV}, RnL n nr ny ks l m → m.length = l.length ∧ ∀ (j : Nat) (p v : PV), l[j]? = some p → m[j]? = some v → Rn n nr ny ks p v := by
 intro l
 induction l with
 | nil =>
  intro m h
  cases m with
  | nil => exact ⟨rfl, fun j p v h => by simp at h⟩
  | cons => exact h.elim
 | cons q l ih =>
  intro m h
  cases m with
  | nil => exact h.elim
  | cons u m =>
   obtain ⟨h1, h2⟩ := h
   obtain ⟨g1, g2⟩ := ih h2
   refine ⟨by simp [g1], fun j p v hp hv => ?_⟩
   cases j with
   | zero => simp at hp hv; subst hp hv; exact h1
   | succ j => exact g2 j p v (by simpa using hp) (by simpa using hv)
def RnE (n nr ny : Nat) (ks : List Nat) : Env → Env → Prop
 | [], [] => True
 | (t, p) :: E, (t', v) :: E' => t = t' ∧ Rn n nr ny ks p v ∧ RnE n nr ny ks E E'
 | _, _ => False
theorem RnE.get {n nr ny : Nat} {ks : List Nat} : ∀ {E E' : Env}, RnE n nr ny ks E E' → ∀ t, Rn n nr ny ks (E.get t) (E'.get t) := by
 intro E
 induction E with
 | nil =>
  intro E' h t
  cases E' with
  | nil => exact .gone _
  | cons => exact h.elim
 | cons kv E ih =>
  intro E' h t
  obtain ⟨a, p⟩ := kv
  cases E' with
  | nil => exact h.elim
  | cons kv' E' =>
   obtain ⟨a', v⟩ := kv'
   obtain ⟨rfl, h1, h2⟩ := h
   simp only [Env.get]
   split
   ·exact h1
   exact ih h2 t
/-- A variable's cells: a map's stay as they are. -/
def RnV (n nr ny : Nat) (ks : List Nat) (cs cs' : List PV) : Prop := (CleanAll n nr ny cs ∧ cs' = cs) ∨ ((cs.head? ≠ some .mark ∧ ∀ m n s, cs.head? ≠ some (.itst m n s)) ∧ RnL n nr ny ks cs cs')
def RnS (n nr ny : Nat) (ks : List Nat) (l : List (Option (List PV))) : List Nat → List (Option (List PV)) → Prop
 | [], [] => True
 | k :: r, some cs' :: m => (∃ cs, l[k]? = some (some cs) ∧ RnV n nr ny ks cs cs') ∧ RnS n nr ny ks l r m
 | _ :: r, none :: m => RnS n nr ny ks l r m
 | _, _ => False
theorem RnS.get {n nr ny : Nat} {ks : List Nat} {l : List (Option (List PV))} : ∀ {r : List Nat} {m : List (Option (List PV))}, RnS n nr ny ks l r m → m.length = r.length ∧
 ∀ (i : Nat) (cs' : List PV), m[i]? = some (some cs') → ∃ k cs, r[i]? = some k ∧ l[k]? = some (some cs) ∧ RnV n nr ny ks cs cs' := by
 intro r
 induction r with
 | nil =>
  intro m h
  cases m with
  | nil => exact ⟨rfl, fun i cs' h => by simp at h⟩
  | cons => exact h.elim
 | cons k r ih =>
  intro m h
  cases m with
  | nil => exact h.elim
  | cons o m =>
   cases o with
   | none =>
    obtain ⟨g1, g2⟩ := ih (m := m) h
    refine ⟨by simp [g1], fun i cs' hi => ?_⟩
    cases i with
    | zero => simp at hi
    | succ i =>
     obtain ⟨k', cs, q1, q2⟩ := g2 i cs' (by simpa using hi)
     exact ⟨k', cs, by simpa using q1, q2⟩
   | some c =>
    obtain ⟨⟨cs, h1, h2⟩, h3⟩ := h
    obtain ⟨g1, g2⟩ := ih h3
    refine ⟨by simp [g1], fun i cs' hi => ?_⟩
    cases i with
    | zero => simp at hi; subst hi; exact ⟨k, cs, rfl, h1, h2⟩
    | succ i =>
     obtain ⟨k', cs, q1, q2⟩ := g2 i cs' (by simpa using hi)
     exact ⟨k', cs, by simpa using q1, q2⟩
def Ty.ren (Ψ : Ty) (n : Nat) (ks : List Nat) : Ty := { Ψ with β := Ψ.β.take n ++ ks.map fun k => Ψ.β.getD (n + k) 0 }
theorem Ty.ren_low {Ψ : Ty} {n : Nat} {ks : List Nat} {i b : Nat} (hi : i < n) (h : Ψ.β[i]? = some b) : (Ψ.ren n ks).β[i]? = some b := by
 have hl := (List.getElem?_eq_some_iff.1 h).1
 simp only [Ty.ren]
 rw [List.getElem?_append_left (by simp; omega), List.getElem?_take_of_lt hi]
 exact h
theorem Ty.ren_high {Ψ : Ty} {n : Nat} {ks : List Nat} {i k b : Nat} (hn : n ≤ Ψ.β.length) (hi : ks[i]? = some k) (h : Ψ.β[n + k]? = some b) : (Ψ.ren n ks).β[n + i]? = some b := by
 have hl : (Ψ.β.take n).length = n := by simp; omega
 simp only [Ty.ren]
 rw [List.getElem?_append_right (by omega), hl, show n + i - n = i by omega, List.getElem?_map, hi]
 simp only [Option.map_some, List.getD_eq_getElem?_getD, h, Option.getD_some]
theorem Ty.ren_inv {Ψ : Ty} {n : Nat} {ks : List Nat} {id b : Nat} (hn : n ≤ Ψ.β.length) (h : (Ψ.ren n ks).β[id]? = some b) : (id < n ∧ Ψ.β[id]? = some b) ∨ ∃ i k, id = n + i ∧ ks[i]? = some k ∧ b = Ψ.β.getD (n + k) 0 := by
 have hl : (Ψ.β.take n).length = n := by simp; omega
 simp only [Ty.ren] at h
 by_cases hi : id < n
 ·rw [List.getElem?_append_left (by omega), List.getElem?_take_of_lt hi] at h
  exact .inl ⟨hi, h⟩
 rw [List.getElem?_append_right (by omega), hl, List.getElem?_map] at h
 cases hk : ks[id - n]? with
 | none => rw [hk] at h; cases h
 | some k =>
  rw [hk] at h
  injection h with h
  exact .inr ⟨id - n, k, by omega, hk, h.symm⟩
theorem VR.renClean {Ψ : Ty} {n nr ny : Nat} {ks : List Nat} {p : PV} {x : Value} (h : VR Ψ p x) (hc : Clean n nr ny p) : VR (Ψ.ren n ks) p x := by
 refine VR.mono0 (Ψ := Ψ.trim n nr ny) (Ψ' := Ψ.ren n ks) (fun b o v k => k) (fun i b k => ?_) (fun r m y k => ?_) (fun i b k => ?_) (fun d k => k) (h.trim hc)
 ·simp only [Ty.trim] at k
  have hi : i < n := by have := (List.getElem?_eq_some_iff.1 k).1; simp at this; omega
  rw [List.getElem?_take_of_lt hi] at k
  exact Ty.ren_low hi k
 ·simp only [Ty.trim] at k
  split at k
  ·exact k
  cases k
 simp only [Ty.trim, List.getElem?_take] at k
 split at k
 ·exact k
 cases k
theorem VR.ren {Ψ : Ty} {n nr ny : Nat} {ks : List Nat} (hn : n ≤ Ψ.β.length) {p v : PV} (hr : Rn n nr ny ks p v) : ∀ {x : Value}, VR Ψ p x → VR (Ψ.ren n ks) v x := by
 induction hr with
 | gone p => intro x _; exact .undef x
 | same p hc =>
  intro x h
  exact h.renClean hc
 | ptr i k id id' off h e e' =>
  intro x hx
  cases hx with
  | ptr _ _ b hb hz => subst e e'; exact .ptr _ _ b (Ty.ren_high hn h hb) hz
 | msl i k id id' off len h e e' =>
  intro x hx
  cases hx with
  | msl _ _ _ b cap hb hz hc => subst e e'; exact .msl _ _ _ b cap (Ty.ren_high hn h hb) hz hc
 | gsl i k id id' len es h e e' =>
  intro x hx
  cases hx with
  | gsl _ _ _ b cap hb hz h0 hc => subst e e'; exact .gsl _ _ _ b cap (Ty.ren_high hn h hb) hz h0 hc
 | bself i k id id' t h e e' =>
  intro x hx
  cases hx with
  | bself _ _ b _ hb hz hx => subst e e'; exact .bself _ _ b _ (Ty.ren_high hn h hb) hz hx
 | mapv i k id id' h e e' =>
  intro x hx
  cases hx with
  | map _ b hb => subst e e'; exact .map _ b (Ty.ren_high hn h hb)
 | func fn fs cs cs' hf hl h ih =>
  intro x hx
  cases hx with
  | func _ _ _ xs ys h1 h2 h3 h4 =>
   refine .func fn fs cs' xs ys h1 (by rw [h2, hl]) (fun j p v q1 q2 => ?_) (fun j p v q1 q2 => ?_)
   ·have hc := hf p (List.mem_of_getElem? q1)
    exact (h3 j p v q1 q2).renClean hc
   have hj : j < cs.length := by rw [← hl]; exact (List.getElem?_eq_some_iff.1 q1).1
   exact ih j cs[j] p (by simp [hj]) q1 (h4 j cs[j] v (by simp [hj]) q2)
 | agg cs cs' hl h ih =>
  intro x hx
  cases hx with
  | agg _ vs h1 h2 =>
   refine .agg cs' vs (by rw [h1, hl]) fun j p v q1 q2 => ?_
   have hj : j < cs.length := by rw [← hl]; exact (List.getElem?_eq_some_iff.1 q1).1
   exact ih j cs[j] p (by simp [hj]) q1 (h2 j cs[j] v (by simp [hj]) q2)
 | tuple cs cs' hl h ih =>
  intro x hx
  cases hx with
  | tuple _ vs h1 h2 =>
   refine .tuple cs' vs (by rw [h1, hl]) fun j p v q1 q2 => ?_
   have hj : j < cs.length := by rw [← hl]; exact (List.getElem?_eq_some_iff.1 q1).1
   exact ih j cs[j] p (by simp [hj]) q1 (h2 j cs[j] v (by simp [hj]) q2)
theorem Keeps.ren {Ψ : Ty} {w : World} {n nr ny b : Nat} {ks : List Nat} {cs cs' : List PV} (hn : n ≤ Ψ.β.length) (h : Keeps Ψ w b cs) (hv : RnV n nr ny ks cs cs') : Keeps (Ψ.ren n ks) w b cs' := by
 rcases hv with ⟨hc, rfl⟩ | ⟨hm, hL⟩
 ·rcases h with ⟨c, h1, h2, h3⟩ | ⟨arr, es, h0, h1, h2, h3⟩ | ⟨mid, r, m, seen, h0, h1, h2⟩
  ·exact .inl ⟨c, h1, h2, fun j p v q1 q2 => (h3 j p v q1 q2).ren hn (.same p (hc p (List.mem_of_getElem? q1)))⟩
  rotate_left
  ·have hcl := hc _ (by rw [h0]; exact List.mem_cons_self ..)
   cases hcl with
   | itst _ _ _ hh => exact .inr (.inr ⟨mid, r, m, seen, h0, h1, h2.ren (nr := nr) (ny := ny) hn (.same _ (.mapv mid hh))⟩)
  refine .inr (.inl ⟨arr, es, h0, h1, h2, fun j p e q1 q2 => ?_⟩)
  obtain ⟨g1, k, v, rfl, g3, g4⟩ := h3 j p e q1 q2
  have hcl := hc _ (by rw [h0]; exact List.mem_cons_of_mem _ (List.mem_of_getElem? q1))
  cases hcl with
  | tuple _ hh => exact ⟨g1, k, v, rfl, g3.ren hn (.same k (hh k (by simp))), g4.ren hn (.same v (hh v (by simp)))⟩
 obtain ⟨g1, g2⟩ := hL.get
 rcases h with ⟨c, h1, h2, h3⟩ | ⟨arr, es, h0, _⟩ | ⟨mid, r, m, seen, h0, h1, h2⟩
 ·refine .inl ⟨c, h1, by omega, fun j p v q1 q2 => ?_⟩
  have hj : j < cs.length := by rw [← g1]; exact (List.getElem?_eq_some_iff.1 q1).1
  exact (h3 j cs[j] v (by simp [hj]) q2).ren hn (g2 j cs[j] p (by simp [hj]) q1)
 ·rw [h0] at hm
  exact absurd rfl hm.1
 rw [h0] at hm
 exact absurd rfl (hm.2 _ _ _)
theorem Weak.ren {N : Nat} {lo : Nat × Nat} {E E' : Env} {σ : Sg} {l l' : List (Option (List PV))} {rm : List Nat} {ys : List LState} (ks : List Nat) (hnd : ks.Nodup) (hkl : ∀ k, k ∈ ks → k < l.length) (h1 : lo.1 ≤ σ.store.length) (hcl : CleanSg σ)
 (hE : ∀ t, Rn σ.store.length (σ.rooms.length + rm.length) (σ.ys.length + ys.length) ks (E.get t) (E'.get t))
 (hL : RnS σ.store.length (σ.rooms.length + rm.length) (σ.ys.length + ys.length) ks l ks l') :
 Weak N lo E (σ.ext l rm ys) E' (σ.ext l' rm ys) := by
 intro Ψ0 Ψ D a w hb le hr
 have hs := hr.sg
 have hblen : Ψ.β.length = σ.store.length + l.length := by rw [hs.blen]; simp [Sg.ext]
 have hn : σ.store.length ≤ Ψ.β.length := by omega
 obtain ⟨l1, l2⟩ := hL.get
 have live : ∀ (id : Nat) (cs : List PV), (σ.ext l' rm ys).store[id]? = some (some cs) → ∃ id0 cs0, (σ.ext l rm ys).store[id0]? = some (some cs0) ∧ (∀ b, (Ψ.ren σ.store.length ks).β[id]? = some b → Ψ.β[id0]? = some b) ∧
  RnV σ.store.length (σ.rooms.length + rm.length) (σ.ys.length + ys.length) ks cs0 cs ∧ ((id < σ.store.length ∧ id0 = id) ∨ ∃ i k, id = σ.store.length + i ∧ ks[i]? = some k ∧ id0 = σ.store.length + k) := by
  intro id cs hid
  have hid' : (σ.store ++ l')[id]? = some (some cs) := hid
  by_cases h : id < σ.store.length
  ·rw [List.getElem?_append_left h] at hid'
   refine ⟨id, cs, ?_, fun b hb2 => ?_, .inl ⟨fun p hp => (hcl id cs h hid' p hp).mono (Nat.le_refl _) (Nat.le_add_right _ _) (Nat.le_add_right _ _), rfl⟩, .inl ⟨h, rfl⟩⟩
   ·show (σ.store ++ l)[id]? = _
    rw [List.getElem?_append_left h]; exact hid'
   rcases Ty.ren_inv hn hb2 with ⟨_, q⟩ | ⟨i, k, q, _⟩
   ·exact q
   omega
  rw [List.getElem?_append_right (by omega)] at hid'
  obtain ⟨k, cs0, q1, q2, q3⟩ := l2 _ cs hid'
  refine ⟨σ.store.length + k, cs0, ?_, fun b hb2 => ?_, q3, .inr ⟨id - σ.store.length, k, by omega, q1, rfl⟩⟩
  ·rw [Sg.get_ext]; exact q2
  rcases Ty.ren_inv hn hb2 with ⟨q, _⟩ | ⟨i, k', q4, q5, q6⟩
  ·omega
  have : i = id - σ.store.length := by omega
  subst this
  rw [q1] at q5
  injection q5 with q5
  subst q5
  have hkl : k < l.length := (List.getElem?_eq_some_iff.1 q2).1
  have : σ.store.length + k < Ψ.β.length := by omega
  rw [q6, List.getD_eq_getElem?_getD, List.getElem?_eq_getElem this]
  rfl
 refine ⟨Ψ.ren σ.store.length ks, ⟨le.base, le.imm, fun i b k => ?_, le.hist, le.ys, le.ds, le.rs, le.sz⟩, hr.size, fun t => (hr.env t).ren hn (hE t), ?_, hr.dsub, hr.defs⟩
 ·have hi : i < σ.store.length := by
   have := (List.getElem?_eq_some_iff.1 k).1
   have := hb.1
   omega
  exact Ty.ren_low hi (le.β i b k)
 refine ⟨hs.base, hs.imm, by simp [Ty.ren, Sg.ext, hblen, l1], ?_, ?_, ?_, hs.roomsApart, hs.histlt, hs.histle, ?_, hs.yok, hs.ylen', hs.dok, ?_, hs.szok⟩
 ·intro id cs b k1 k2
  obtain ⟨id0, cs0, g1, g2, g3, _⟩ := live id cs k1
  obtain ⟨a1, a2, a3⟩ := hs.block id0 cs0 b g1 (g2 b k2)
  exact ⟨a1, a2, a3.ren hn g3⟩
 ·intro id id' cs cs' b k1 k2 k3 k4
  obtain ⟨i0, c0, g1, g2, _, g4⟩ := live id cs k1
  obtain ⟨i1, c1, f1, f2, _, f4⟩ := live id' cs' k2
  have he := hs.apart i0 i1 c0 c1 b g1 f1 (g2 b k3) (f2 b k4)
  rcases g4 with ⟨q1, q2⟩ | ⟨i, k, q1, q2, q3⟩
  ·rcases f4 with ⟨p1, p2⟩ | ⟨i', k', p1, p2, p3⟩
   ·omega
   omega
  rcases f4 with ⟨p1, p2⟩ | ⟨i', k', p1, p2, p3⟩
  ·omega
  have : k = k' := by omega
  subst this
  have hi1 := (List.getElem?_eq_some_iff.1 q2)
  have hi2 := (List.getElem?_eq_some_iff.1 p2)
  have := (List.getElem_inj hnd).1 (hi1.2.trans hi2.2.symm)
  omega
 ·intro r n b e c es k hx hlt
  obtain ⟨a1, a2, a3, a4⟩ := hs.room r n b e c es k hx hlt
  refine ⟨a1, a2, fun id q cs q' => ?_, a4⟩
  obtain ⟨id0, cs0, g1, g2, _⟩ := live id cs q'
  exact a3 id0 (g2 b q) cs0 g1
 ·intro id b k
  rcases Ty.ren_inv hn k with ⟨_, q⟩ | ⟨i, k', q1, q2, q3⟩
  ·exact hs.βlt id b q
  have hk : σ.store.length + k' < Ψ.β.length := by have := hkl k' (List.mem_of_getElem? q2); omega
  refine hs.βlt (σ.store.length + k') b ?_
  rw [q3, List.getD_eq_getElem?_getD, List.getElem?_eq_getElem hk]
  rfl
 intro b c k
 obtain ⟨a1, a2, a3, a4, a5⟩ := hs.rok b c k
 refine ⟨a1, a2, fun id q cs q' => ?_, a4, a5⟩
 obtain ⟨id0, cs0, g1, g2, _⟩ := live id cs q'
 exact a3 id0 (g2 b q) cs0 g1
def NoGoto (Q : Exit → Env → Sg → Prop) : Exit → Env → Sg → Prop
 | .goto _, _, _ => False
 | e, E, σ => Q e E σ
section
variable {P : Program} {a : Act} {k : List Item} {cs : List Frame} {w : World} {Q : Exit → Env → Sg → Prop}
theorem stepR_scope {b : Frame} {c : Code} : step P (lone (b.atR a (.code (.scope c) :: k)) cs w) = .next (lone (b.atR a (.code c :: .inScope c :: k)) cs w) :=
 step_lone_go (by simp [stepG, stepG.exec, Frame.atR])
theorem stepR_inScope {b : Frame} {c : Code} : step P (lone (b.atR a (.inScope c :: k)) cs w) = .next (lone (b.atR a k) cs w) :=
 step_lone_go (by simp [stepG, stepG.exec, Frame.atR])
theorem W_scope {Y : YEnv} {N : Nat} {rd : Option Nat} {lo : Nat × Nat} {E : Env} {σ : Sg} {c : Code} (h : W P Y N rd lo c E σ (NoGoto Q)) : W P Y N rd lo (.scope c) E σ Q := by
 intro Ψ0 D h1 h2 h4 Ψ a w le hr b k cs hro hbf hroom
 obtain ⟨e, a1, w1, ⟨E1, σ1, Ψ1, k1, k2, k3, k4⟩, harr⟩ := h Ψ0 D h1 h2 h4 Ψ a w le hr b (.inScope c :: k) cs hro hbf hroom
 have h0 : (lone (b.atR a (.code (.scope c) :: k)) cs w).fenced P (FnOf Ψ0 rd) := fenced_calm hbf hroom rfl
 cases e with
 | normal => exact ⟨.normal, a1, w1, ⟨E1, σ1, Ψ1, k1, k2, k3, k4⟩, .head h0 stepR_scope (StepsIn.trans harr (.one (fenced_calm hbf hroom rfl) stepR_inScope))⟩
 | exit id =>
  refine ⟨.exit id, a1, w1, ⟨E1, σ1, Ψ1, k1, k2, k3, k4⟩, .of_steps (.one h0 stepR_scope) ?_⟩
  exact ⟨fun k' hk => harr.1 k' (by simpa [exitTo] using hk), fun hr' hk => harr.2 hr' (by simpa [exitTo] using hk)⟩
 | goto l => exact k4.elim
 | ret => exact ⟨_, a1, w1, ⟨E1, σ1, Ψ1, k1, k2, k3, k4⟩, .of_steps (.one h0 stepR_scope) harr⟩
 | panic ch => exact ⟨_, a1, w1, ⟨E1, σ1, Ψ1, k1, k2, k3, k4⟩, .of_steps (.one h0 stepR_scope) harr⟩
 | outgrown => exact ⟨_, a1, w1, ⟨E1, σ1, Ψ1, k1, k2, k3, k4⟩, .of_steps (.one h0 stepR_scope) harr⟩
theorem ngN {E : Env} {σ : Sg} : NoGoto Q .normal E σ = Q .normal E σ := rfl
theorem ngR {E : Env} {σ : Sg} : NoGoto Q .ret E σ = Q .ret E σ := rfl
theorem ngX {E : Env} {σ : Sg} {i : Nat} : NoGoto Q (.exit i) E σ = Q (.exit i) E σ := rfl
attribute [go_sem] ngN ngR ngX
end
/-- A contract of the library's, as a contract. -/
theorem PC_of_calls {P : Program} {Y : YEnv} {f : FuncId} {args : List PV} {σ σ' : Sg} {v : PV} (hg : goFn P f = true)
 (h : ∀ Ψ vals w, SR Ψ σ w → VRs Ψ args vals → Calls P f vals w (fun e w' => ∃ x Ψ', e = .returned x ∧ Ψ.le Ψ' ∧ SR Ψ' σ' w' ∧ VR Ψ' v x ∧ Below Ψ.base w w')) : PC P Y f args σ v σ' :=
 ⟨hg, fun Ψ vals w hs ha _ => callsIn_wide.2 (h Ψ vals w hs ha)⟩
/-- A variable's block is written anew. -/
theorem SR.rewrite {Ψ : Ty} {σ : Sg} {w w' : World} (h : SR Ψ σ w) {id b : Nat} {cs cs' : List PV} {c c' : Array Value} {e : TypeId} (hid : σ.store[id]? = some (some cs)) (hβ : Ψ.β[id]? = some b)
 (hb : w.heap[b]? = some (.cells c e (0, 0))) (hb' : w'.heap[b]? = some (.cells c' e (0, 0))) (hsz : c'.size = c.size) (hz : w.heap.size ≤ w'.heap.size) (ho : ∀ k, k < w.heap.size → k ≠ b → w'.heap[k]? = w.heap[k]?)
 (hl : cs'.length ≤ c'.size) (hv : ∀ (j : Nat) (p : PV) (v : Value), cs'[j]? = some p → c'[j]? = some v → VR Ψ p v) : SR Ψ (σ.setVar id cs') w' := by
 obtain ⟨p1, p2, p3⟩ := h.block id cs b hid hβ
 have old : ∀ (i : Nat) (x : List PV), (σ.setVar id cs').store[i]? = some (some x) → ∃ y, σ.store[i]? = some (some y) := fun i x hx => by
  rcases setVar_some hid hx with ⟨rfl, _⟩ | ⟨_, h'⟩
  ·exact ⟨_, hid⟩
  exact ⟨_, h'⟩
 have hbi : blockIs w b c := ⟨e, hb⟩
 have cel : ∀ b2 o v, b2 ≠ b → w.cell? ⟨b2, o, none⟩ = some v → w'.cell? ⟨b2, o, none⟩ = some v := fun b2 o v hne hv => by
  rw [cell_eq, ho b2 (cell_lt hv) hne, ← cell_eq]; exact hv
 have blk : ∀ b2 c2, b2 ≠ b → blockIs w b2 c2 → blockIs w' b2 c2 := fun b2 c2 hne hk => hk.of_heap (ho b2 hk.lt hne)
 refine ⟨Nat.le_trans h.base hz, fun b2 o v hk => cel b2 o v (fun e2 => by subst e2; rw [p2] at hk; cases hk) (h.imm b2 o v hk), by rw [sv_len]; exact h.blen, ?_, ?_, ?_, h.roomsApart, h.histlt, h.histle, fun i b2 hk => Nat.lt_of_lt_of_le (h.βlt i b2 hk) hz, ?_, h.ylen', ?_, ?_, ?_⟩
 ·intro i x b2 hx hb2
  rcases setVar_some hid hx with ⟨rfl, rfl⟩ | ⟨hne, h'⟩
  ·have : b2 = b := by rw [hβ] at hb2; injection hb2 with hb2; exact hb2.symm
   subst this
   exact ⟨p1, p2, .inl ⟨c', ⟨e, hb'⟩, hl, hv⟩⟩
  have hbn : b2 ≠ b := fun e2 => hne (h.apart i id x cs b2 h' hid hb2 (e2 ▸ hβ))
  obtain ⟨a1, a2, a3⟩ := h.block i x b2 h' hb2
  exact ⟨a1, a2, a3.of_heap (ho b2 (h.βlt i b2 hb2) hbn)⟩
 ·intro i i' x x' b2 hx hx' hb2 hb2'
  obtain ⟨y, hy⟩ := old i x hx
  obtain ⟨y', hy'⟩ := old i' x' hx'
  exact h.apart i i' y y' b2 hy hy' hb2 hb2'
 ·intro r n b2 e2 c2 es hr hh hlt
  obtain ⟨a1, a2, a3, cc, a4, a5⟩ := h.room r n b2 e2 c2 es hr hh hlt
  have hbn : b2 ≠ b := fun e3 => a3 id (e3 ▸ hβ) cs hid
  refine ⟨a1, a2, fun i hi x hx => ?_, cc, blk _ _ hbn a4, a5⟩
  obtain ⟨y, hy⟩ := old i x hx
  exact a3 i hi y hy
 ·intro y l d s k1 k2
  obtain ⟨a1, a0, a2⟩ := h.yok y l d s k1 k2
  have hne : l ≠ b := by rintro rfl; rw [hb] at a2; cases a2
  exact ⟨a1, a0, by rw [ho l (heap_lt a2) hne]; exact a2⟩
 ·intro d k
  obtain ⟨a1, a2⟩ := h.dok d k
  have hne : d ≠ b := by rintro rfl; rw [hb] at a2; cases a2
  exact ⟨a1, by rw [ho d (heap_lt a2) hne]; exact a2⟩
 ·intro b2 c2 hm
  obtain ⟨a1, a2, a3, a4, a5⟩ := h.rok b2 c2 hm
  have hbn : b2 ≠ b := fun e3 => a3 id (e3 ▸ hβ) cs hid
  refine ⟨a1, a2, fun i hi x hx => ?_, a4, blk _ _ hbn a5⟩
  obtain ⟨y, hy⟩ := old i x hx
  exact a3 i hi y hy
 intro b2 n hm
 by_cases hbn : b2 = b
 ·subst hbn
  exact (h.szok b2 n hm).rewrite p1 hb hb' hsz
 exact (h.szok b2 n hm).of_heap (ho b2 (h.szok b2 n hm).lt hbn)
section
variable {P : Program} {Y : YEnv} {f : FuncId} {σ : Sg} {id : Nat} {xs ys : List Int}
theorem gsl_row {Ψ : Ty} {w : World} (hs : SR Ψ σ w) {n : Nat} {x : Value} (hid : σ.store[id]? = some (some (xs.map I))) (hn : n = xs.length) (hx : VR Ψ (.gsl id n 1) x) :
 ∃ b c e cap, x = .slice (some ⟨b, 0, none⟩) xs.length cap ∧ Ψ.β[id]? = some b ∧ w.heap[b]? = some (.cells c e (0, 0)) ∧ Sort.Holds (Value.int .i64) w b 0 xs.toArray ∧ xs.length ≤ c.size ∧ xs.length ≤ cap ∧ (b, .n (cap * 1)) ∈ Ψ.sz ∧ (b, .n 0) ∈ Ψ.sz ∧ Ψ.base ≤ b := by
 subst hn
 cases hx with
 | gsl _ _ _ b cap hβ hz hz0 hc =>
  obtain ⟨p1, _, hk⟩ := hs.block id _ b hid hβ
  obtain ⟨c, ⟨e, hb⟩, _⟩ := hk.blk (hs.szok b _ hz0)
  obtain ⟨k1, k2⟩ := hk.cells ⟨e, hb⟩
  rw [List.length_map] at k1
  have hbi : blockIs w b c := ⟨e, hb⟩
  refine ⟨b, c, e, cap, rfl, hβ, hb, fun j hj => ?_, k1, hc, hz, hz0, p1⟩
  have hj' : j < xs.length := by simpa using hj
  have hjc : j < c.size := by omega
  refine ⟨?_, hbi.free _⟩
  rw [Nat.zero_add, hbi.cell]
  have := k2 j (I xs[j]) c[j] (by simp [hj']) (by simp [hjc])
  cases hcj : c[j] with
  | _ => (rw [hcj] at this; cases this) <;> simp [hjc, hcj, hj']
theorem SR.row {Ψ : Ty} {w : World} (hs : SR Ψ σ w) {b : Nat} {c : Array Value} {e : TypeId} {n : Nat} {os : Array Obj} (hid : σ.store[id]? = some (some (xs.map I))) (hβ : Ψ.β[id]? = some b) (hb : w.heap[b]? = some (.cells c e (0, 0))) (hl : ys.length = xs.length) (hc : xs.length ≤ c.size) :
 SR Ψ (σ.setVar id (ys.map I)) (Sort.grow (Sort.putRow (Value.int .i64) (Sort.ahead w n) b 0 ys.toArray) os) := by
 have hg := grownBy_sortedI (w := w) (g := b) (n := n) (os := os) ys.toArray
 have ht := take_putCellsI c ys (by omega)
 refine hs.rewrite (c' := Sort.putCells (Value.int .i64) 0 ys.toArray c) hid hβ hb (heap_sortedI (w := w) (n := n) (os := os) ys.toArray hb) (by simp [Sort.putCells]) hg.size (fun k hk hne => hg.block k hk (fun e2 => hne (Option.some.inj e2))) (by simp [Sort.putCells]; omega) ?_
 intro j p v h1 h2
 simp only [List.getElem?_map, Option.map_eq_some_iff] at h1
 obtain ⟨y, hy, rfl⟩ := h1
 have hj := (List.getElem?_eq_some_iff.1 hy).1
 have h3 : ((Sort.putCells (Value.int .i64) 0 ys.toArray c).toList.take ys.length)[j]? = some v := by
  rw [List.getElem?_take_of_lt hj, Array.getElem?_toList]; exact h2
 rw [ht, List.getElem?_map, hy] at h3
 injection h3 with h3
 subst h3
 exact .int _ _
theorem Below.row {Ψ : Ty} {w : World} {b n : Nat} {os : Array Obj} {d : Array Int} (hB : Ψ.base ≤ w.heap.size) (h0 : Ψ.base ≤ b) : Below Ψ.base w (Sort.grow (Sort.putRow (Value.int .i64) (Sort.ahead w n) b 0 d) os) := by
 have hg := grownBy_sortedI (w := w) (g := b) (n := n) (os := os) d
 exact ⟨hg.os, hg.tape, hg.output, hg.size, fun k hk => hg.block k (by omega) (fun e2 => by injection e2 with e2; omega)⟩
/-- What a contract of the library's must say of sorting. -/
def SortsI (P : Program) (f : FuncId) : Prop := goFn P f = true ∧ (∀ (p : Option Addr) (cap : Nat) (w : World), Calls P f #[.slice p 0 cap] w fun e w' => e = .returned (.tuple #[]) ∧ w' = w) ∧
 ∀ (blk off cap : Nat) (zs : List Int) (w : World), Sort.Holds (Value.int .i64) w blk off zs.toArray → blk < w.heap.size → zs.length < 4611686018427387904 → Calls P f #[.slice (some ⟨blk, off, none⟩) zs.length cap] w fun e w' =>
  e = .returned (.tuple #[]) ∧ ∃ n os, w' = Sort.grow (Sort.putRow (Value.int .i64) (Sort.ahead w n) blk off (zs.mergeSort fun x y => decide (x ≤ y)).toArray) os
def sortI (xs : List Int) : List Int := xs.mergeSort fun x y => decide (x ≤ y)
theorem sortI_len (xs : List Int) : (sortI xs).length = xs.length := by simp [sortI, List.length_mergeSort]
theorem PC_sortI (h : SortsI P f) (hid : σ.store[id]? = some (some (xs.map I))) (hl : xs.length < 2 ^ 60) : PC P Y f [.gsl id xs.length 1] σ (.tuple []) (σ.setVar id ((sortI xs).map I)) := by
 refine PC_of_calls h.1 fun Ψ vals w hs ha => ?_
 obtain ⟨x, rfl⟩ : ∃ x, vals = #[x] := by
  have := ha.1
  match vals, this with
  | ⟨[x]⟩, _ => exact ⟨x, rfl⟩
 obtain ⟨b, c, e, cap, rfl, hβ, hb, hH, h1, _, _, _, h0⟩ := gsl_row hs hid rfl (ha.2 0 _ _ rfl rfl)
 have hbl : b < w.heap.size := (Array.getElem?_eq_some_iff.1 hb).1
 refine (h.2.2 b 0 cap xs w hH hbl (by omega)).mono ?_
 rintro e2 w2 ⟨rfl, n, os, rfl⟩
 exact ⟨_, Ψ, rfl, Ty.le.refl _, hs.row hid hβ hb (sortI_len xs) h1, skipped_ok _, Below.row hs.base h0⟩
theorem PC_sort0 (h : SortsI P f) : PC P Y f [.gnil] σ (.tuple []) σ := by
 refine PC_of_calls h.1 fun Ψ vals w hs ha => ?_
 obtain ⟨x, rfl⟩ : ∃ x, vals = #[x] := by
  have := ha.1
  match vals, this with
  | ⟨[x]⟩, _ => exact ⟨x, rfl⟩
 have hx := ha.2 0 _ _ rfl rfl
 cases hx with
 | gnil a =>
  refine (h.2.1 a 0 w).mono ?_
  rintro e2 w2 ⟨rfl, rfl⟩
  exact ⟨_, Ψ, rfl, Ty.le.refl _, hs, skipped_ok _, Below.refl _ _⟩
end
section
variable {N : Nat} {lo : Nat × Nat} {E : Env} {σ : Sg}
theorem Keeps.setOne {Ψ : Ty} {w : World} {b off : Nat} {cs : List PV} {p q : PV} (h : Keeps Ψ w b cs) (hp : cs[off]? = some p) (h0 : p ≠ .mark) (h1 : ∀ k v, p ≠ .tuple [k, v]) (hq : ∀ x, VR Ψ p x → VR Ψ q x) (h2 : ∀ m n s, p ≠ .itst m n s := by simp) : Keeps Ψ w b (cs.set off q) := by
 have hlt : off < cs.length := (List.getElem?_eq_some_iff.1 hp).1
 rcases h with ⟨c, a3, a4, a5⟩ | ⟨arr, es, rfl, a3, a4, a5⟩ | ⟨mid, r, n, seen, rfl, a3, a4⟩
 ·refine .inl ⟨c, a3, by simpa using a4, fun j r v e1 e2 => ?_⟩
  rw [List.getElem?_set] at e1
  by_cases e : off = j
  ·subst e
   rw [if_pos rfl, if_pos hlt] at e1
   injection e1 with e1
   subst e1
   exact hq _ (a5 off p v hp e2)
  rw [if_neg e] at e1
  exact a5 j r v e1 e2
 ·exfalso
  rcases off with _ | off
  ·simp at hp; exact h0 hp.symm
  simp only [List.getElem?_cons_succ] at hp
  have hlt' : off < arr.size := by rw [a4]; exact (List.getElem?_eq_some_iff.1 hp).1
  obtain ⟨_, k, v, e2, _⟩ := a5 off p arr[off] hp (by simp [hlt'])
  exact h1 k v e2
 exfalso
 rcases off with _ | off
 ·simp at hp; exact h2 _ _ _ hp.symm
 simp at hp
/-- A cell is told otherwise. -/
theorem Weak.cellV {id off : Nat} {cs : List PV} {p q : PV} (hid : σ.store[id]? = some (some cs)) (hc : cs[off]? = some p) (h0 : p ≠ .mark) (h1 : ∀ k v, p ≠ .tuple [k, v]) (hq : ∀ Ψ x, VR Ψ p x → VR Ψ q x) (h2 : ∀ m n s, p ≠ .itst m n s := by simp) : Weak N lo E σ E (σ.setVar id (cs.set off q)) := by
 intro Ψ0 Ψ D a w hb le hr
 have hs2 := hr.sg.reread (cs' := cs.set off q) hid (fun b hb2 hk => hk.setOne hc h0 h1 (hq Ψ) h2)
 exact ⟨Ψ, le, hr.size, hr.env, hs2, hr.dsub, hr.defs⟩
theorem VR.to_gnil {Ψ : Ty} {x : Value} (hv : VR Ψ (.isl [] .exact) x) : VR Ψ .gnil x := by
 cases hv with
 | islnil _ a' _ => exact .gnil a'
 | isl es _ _ b o cap vals hs h1 h2 hc ho =>
  have : cap = 0 := ho
  subst this
  exact .gnil _
theorem VR.of_gnil {Ψ : Ty} {x : Value} (hv : VR Ψ .gnil x) : VR Ψ (.isl [] .ro) x := by
 cases hv with
 | gnil a => exact .islnil .ro a trivial
/-- A slice without room in a new variable's cell: to grow in place. -/
theorem Weak.gnilX {l : List (Option (List PV))} {rm : List Nat} {ys : List LState} {j off : Nat} {cs : List PV} (hid : l[j]? = some (some cs)) (hc : cs[off]? = some (.isl [] .exact)) :
 Weak N lo E (σ.ext l rm ys) E (σ.ext (l.set j (some (cs.set off .gnil))) rm ys) := by
 have h := Weak.cellV (N := N) (lo := lo) (E := E) (σ := σ.ext l rm ys) (id := σ.store.length + j) (off := off) (cs := cs) (q := .gnil) (by rw [Sg.get_ext]; exact hid) hc (by simp) (by simp) (fun _ _ => VR.to_gnil)
 rw [Sg.set_ext] at h
 exact h
/-- What a slice in a cell held is never written again. -/
theorem Weak.freezeV {cid off id len es : Nat} {ccs rest : List PV} {l : List PV} (hne : cid ≠ id) (hcid : σ.store[cid]? = some (some ccs)) (hc : ccs[off]? = some (.gsl id len es)) (hs : σ.store[id]? = some (some (rowC l ++ rest))) (hl : l.length = len) (hes : ∀ q ∈ l, q.cells.length = es) :
 Weak N lo E σ E ((σ.drop id).setVar cid (ccs.set off (.isl l .ro))) := by
 intro Ψ0 Ψ D a w hb le hr
 obtain ⟨b0, hβ0⟩ : ∃ b, Ψ.β[cid]? = some b := by
  have : cid < Ψ.β.length := by rw [hr.sg.blen]; exact (List.getElem?_eq_some_iff.1 hcid).1
  exact ⟨Ψ.β[cid], by simp [this]⟩
 obtain ⟨_, _, hkc⟩ := hr.sg.block cid ccs b0 hcid hβ0
 -- the slice
 have hv : ∃ x, VR Ψ (.gsl id len es) x := by
  rcases hkc with ⟨c, a3, a4, a5⟩ | ⟨arr, es', rfl, a3, a4, a5⟩ | ⟨mid, r, n, seen, rfl, _, _⟩
  ·have hlt : off < c.size := Nat.lt_of_lt_of_le (List.getElem?_eq_some_iff.1 hc).1 a4
   exact ⟨c[off], a5 off _ _ hc (by simp [hlt])⟩
  ·rcases off with _ | off
   ·simp at hc
   simp only [List.getElem?_cons_succ] at hc
   have hlt' : off < arr.size := by rw [a4]; exact (List.getElem?_eq_some_iff.1 hc).1
   obtain ⟨_, k, v, e2, _⟩ := a5 off _ arr[off] hc (by simp [hlt'])
   cases e2
  rcases off with _ | off
  ·simp at hc
  simp at hc
 obtain ⟨x0, hx0⟩ := hv
 cases hx0 with
 | gsl _ _ _ b cap hβ hz1 hz0 hcap =>
 obtain ⟨_, _, hkp⟩ := hr.sg.block id _ b hs hβ
 obtain ⟨c, hbk, _⟩ := hkp.blk (hr.sg.szok b _ hz0)
 obtain ⟨a4, a5⟩ := hkp.cells hbk
 obtain ⟨le2, hs2⟩ := hr.sg.freeze hs hβ hbk
 have hcid2 : (σ.drop id).store[cid]? = some (some ccs) := by
  show (σ.store.set id none)[cid]? = _
  rw [List.getElem?_set_ne (fun e => hne e.symm)]
  exact hcid
 have hat : ∀ (k : Nat) (q : PV) (j : Nat) (p : PV), l[k]? = some q → q.cells[j]? = some p → (rowC l ++ rest)[k * es + j]? = some p ∧ k * es + j < c.size := fun k q j p q1 q2 => by
  have h1 := rowC_at hes q1 q2
  have h2 : (rowC l ++ rest)[k * es + j]? = some p := by rw [List.getElem?_append_left (List.getElem?_eq_some_iff.1 h1).1]; exact h1
  exact ⟨h2, Nat.lt_of_lt_of_le (List.getElem?_eq_some_iff.1 h2).1 a4⟩
 have hs3 := hs2.reread (cs' := ccs.set off (.isl l .ro)) hcid2 (fun b2 hb2 h2 => h2.setOne hc (by simp) (by simp) (fun y hy => by
  cases hy with
  | gsl _ _ _ b' cap' hβ' _ _ hcap' =>
  have hbb : b' = b := by
   have := le2.β id b hβ
   rw [hβ'] at this
   injection this
  subst hbb
  rw [← hl]
  refine .isl es l .ro b' 0 cap' (fun k j => c.getD (k * es + j) undef) (fun k q hk => hes q (List.mem_of_getElem? hk)) (fun k q j p q1 q2 => ?_) (fun k q j p q1 q2 => ?_) (by omega) trivial
  ·obtain ⟨_, hlt⟩ := hat k q j p q1 q2
   simp only [Ty.addImm, Nat.zero_add]
   rw [if_pos ⟨trivial, Nat.zero_le _, hlt⟩]
   simp [Array.getD, hlt]
  obtain ⟨h1, hlt⟩ := hat k q j p q1 q2
  refine (a5 _ p _ h1 ?_).mono le2
  simp [Array.getD, hlt]))
 refine ⟨_, le.trans le2, hr.size, fun t' => (hr.env t').mono le2, hs3, fun d hd => le2.ds _ (hr.dsub d hd), ?_⟩
 obtain ⟨rs, r1, r2, r3⟩ := hr.defs
 exact ⟨rs, r1, r2, fun r hm => ⟨le2.ds _ (r3 r hm).1, (r3 r hm).2⟩⟩
theorem Weak.freezeX {l : List (Option (List PV))} {rm : List Nat} {ys : List LState} {j k off len es : Nat} {ccs rest m : List PV} (hne : j ≠ k) (hcid : l[j]? = some (some ccs)) (hc : ccs[off]? = some (.gsl (σ.store.length + k) len es)) (hs : l[k]? = some (some (rowC m ++ rest))) (hl : m.length = len) (hes : ∀ q ∈ m, q.cells.length = es) :
 Weak N lo E (σ.ext l rm ys) E (σ.ext ((l.set k none).set j (some (ccs.set off (.isl m .ro)))) rm ys) := by
 have h := Weak.freezeV (N := N) (lo := lo) (E := E) (σ := σ.ext l rm ys) (cid := σ.store.length + j) (id := σ.store.length + k) (by omega) (by rw [Sg.get_ext]; exact hcid) hc (by rw [Sg.get_ext]; exact hs) hl hes
 rw [Sg.drop_ext, Sg.set_ext] at h
 exact h
end
end Go.Proofs.YtpkkegbiddcodaaGreat
namespace Go.Proofs.YtpkkegbiddcodaaGreat.Mk
open Go
def has (l : List Int) (v : Int) : Bool := l.any fun x => decide (x = v)
theorem has_iff {l : List Int} {v : Int} : has l v = true ↔ v ∈ l := by simp [has]
def chkOrd (m : Int) : List Int → List Int → Int
 | _, [] => 0
 | p, n :: r => if !(inR n 0 (m - 1)) then 7 else if has p n then 8 else chkOrd m (p ++ [n]) r
def scRange (s : Scale) : Bool := inR s.schools 1 8 && (inR s.matters 1 6 && (inR s.judges 1 5 && (inR s.drop 0 (s.judges - 1) && (inR s.low 0 100 && inR s.high 0 100))))
def chkSc (s : Scale) : Int := if !scRange s then 2 else if s.low > s.high then 9 else if (s.order.length : Int) ≠ s.matters then 1 else chkOrd s.matters [] s.order
def ofSc (s : Scale) (j : Int × Int) : Bool := inR j.1 0 (s.matters - 1) && inR j.2 0 (s.judges - 1)
def outMarks (s : Scale) (l : List Int) : Bool := l.any fun n => !(inR n s.low s.high)
def marked (s : Scale) (j : Int × Int) (l : List Int) : Int := if !(ofSc s j) then 7 else if (l.length : Int) ≠ s.schools then 1 else if outMarks s l then 2 else 0
def sealSum : Nat → List Int → Int
 | _, [] => 0
 | i, m :: r => ((i : Int) + 1) * m + sealSum (i + 1) r
def sealOf (j : Int × Int) (l : List Int) : Int := ((j.1 + 1) * 101 + (j.2 + 1) * 1009 + sealSum 0 l).tmod 997
def sealAns (s : Scale) (j : Int × Int) (l : List Int) : Int × Int := if chkSc s ≠ 0 then (0, chkSc s) else if marked s j l ≠ 0 then (0, marked s j l) else (sealOf j l, 0)
def openK (s : Scale) : List Envl → Kn → Int × Kn
 | [], k => (0, k)
 | x :: r, k => if marked s (x.matter, x.judge) x.marks ≠ 0 then (marked s (x.matter, x.judge) x.marks, k)
  else if x.sl ≠ sealOf (x.matter, x.judge) x.marks then (14, k)
  else if (match aget (x.matter, x.judge) k with | some old => decide (old ≠ x.marks) | none => false) then (10, k)
  else openK s r (aput (x.matter, x.judge) x.marks k)
def missK (s : Scale) : List (Int × Int) → Kn → Int × Kn
 | [], k => (0, k)
 | j :: r, k => if !(ofSc s j) then (7, k) else if (aget j k).getD [] ≠ [] then (10, k) else missK s r (aput j [] k)
def absentK (k : Kn) (j : Int × Int) : Bool := match aget j k with | some l => l.isEmpty | none => false
def toI (n : Int) : List Int := (List.range n.toNat).map fun (i : Nat) => (i : Int)
def allJ (s : Scale) : List (Int × Int) := (toI s.matters).flatMap fun m => (toI s.judges).map fun j => (m, j)
def shortK (s : Scale) (k : Kn) : Bool := (toI s.matters).any fun m => (toI s.judges).all fun j => absentK k (m, j)
def finesR (s : Scale) : List (Int × Int) → Int
 | [] => 0
 | f :: r => if !(inR f.1 0 (s.schools - 1)) then 7 else if !(inR f.2 0 1000) then 2 else finesR s r
def finesE (s : Scale) (l : List (Int × Int)) : Int := if (l.length : Int) > 10 then 5 else finesR s l
def knownK (s : Scale) (n : Night) : Kn := (missK s n.absent (openK s n.opened []).2).2
def knownE (s : Scale) (n : Night) : Int :=
 if chkSc s ≠ 0 then chkSc s else if (n.opened.length : Int) > 60 then 5 else if (openK s n.opened []).1 ≠ 0 then (openK s n.opened []).1
 else if (n.absent.length : Int) > 60 then 5 else if (missK s n.absent (openK s n.opened []).2).1 ≠ 0 then (missK s n.absent (openK s n.opened []).2).1
 else if shortK s (knownK s n) then 4 else finesE s n.fines
def sealedK (s : Scale) (k : Kn) : List (Int × Int) := (allJ s).filter fun j => (aget j k).isNone
def mkAt (k : Kn) (sc m u n : Int) : Int := match aget (m, n) k with | some (x :: l) => ((x :: l)[sc.toNat]?).getD 0 | _ => u
def presJ (s : Scale) (k : Kn) (m : Int) : List Int := (toI s.judges).filter fun n => !(absentK k (m, n))
def sumI : List Int → Int
 | [] => 0
 | x :: l => x + sumI l
def meanM (s : Scale) (k : Kn) (sc m u : Int) : Int := (sumI ((presJ s k m).map (mkAt k sc m u))).tdiv (presJ s k m).length
def panelM (s : Scale) (k : Kn) (sc m u : Int) : List Int := (toI s.judges).map fun n => if absentK k (m, n) then meanM s k sc m u else mkAt k sc m u n
def pointsK (s : Scale) (k : Kn) (sc m u : Int) : Int := sumI ((sortI (panelM s k sc m u)).drop s.drop.toNat)
def pointsL (s : Scale) (k : Kn) (sc u : Int) : List Int := (toI s.matters).map fun m => pointsK s k sc m u
def finesOf (l : List (Int × Int)) (sc : Int) : Int := sumI (l.map fun f => if f.1 = sc then f.2 else 0)
def standK (s : Scale) (k : Kn) (n : Night) (sc u : Int) : Stand := ⟨sc, sumI (pointsL s k sc u) - finesOf n.fines sc, pointsL s k sc u⟩
def firstNZ : List Int → Int
 | [] => 0
 | x :: l => if x ≠ 0 then x else firstNZ l
def ptAt (x : Stand) (m : Int) : Int := (x.points[m.toNat]?).getD 0
def cmpRules (ord : List Int) (a b : Stand) : List Int := (b.total - a.total) :: (ord.map (fun m => ptAt b m - ptAt a m) ++ [a.school - b.school])
def cmpSt (ord : List Int) (a b : Stand) : Int := firstNZ (cmpRules ord a b)
end Go.Proofs.YtpkkegbiddcodaaGreat.Mk
namespace Go.Proofs.YtpkkegbiddcodaaGreat
open Go Go.RowKit
theorem appg22 {σ : Sg} {x : PV} {m : List PV} {own : Own} : appendG Tryz.prog σ 22 22 x (.isl m own) = appG 1 8 σ x m := appG_of Tryz.underlying22 Tryz.underlying3 cells3 bytes3 (by decide) (by decide) zero3 rfl
theorem iag22 {id len es : Nat} {k : IntKind} {i : Int} : indexAddrPV Tryz.prog 22 (.gsl id len es) (.int k i) = iaM 1 id 0 len i := iaG_of Tryz.underlying22 Tryz.underlying3 cells3 k len i
theorem appg47 {σ : Sg} {x : PV} {m : List PV} {own : Own} : appendG Tryz.prog σ 47 47 x (.isl m own) = appG 3 40 σ x m := appG_of Tryz.underlying47 Tryz.underlying57 cells57 bytes57 (by decide) (by decide) zero57 rfl
theorem iag47 {id len es : Nat} {k : IntKind} {i : Int} : indexAddrPV Tryz.prog 47 (.gsl id len es) (.int k i) = iaM 3 id 0 len i := iaG_of Tryz.underlying47 Tryz.underlying57 cells57 k len i
theorem leng47 {id n es : Nat} : lenPV Tryz.prog 47 (.gsl id n es) = some (.int .i64 n) := lenG_of Tryz.underlying47 n
theorem appg120 {σ : Sg} {x : PV} {m : List PV} {own : Own} : appendG Tryz.prog σ 120 120 x (.isl m own) = appG 4 32 σ x m := appG_of Tryz.underlying120 Tryz.underlying122 cells122 bytes122 (by decide) (by decide) zero122 rfl
theorem iag120 {id len es : Nat} {k : IntKind} {i : Int} : indexAddrPV Tryz.prog 120 (.gsl id len es) (.int k i) = iaM 4 id 0 len i := iaG_of Tryz.underlying120 Tryz.underlying122 cells122 k len i
theorem leng120 {id n es : Nat} : lenPV Tryz.prog 120 (.gsl id n es) = some (.int .i64 n) := lenG_of Tryz.underlying120 n
attribute [go_sem] appg22 iag22 appg47 iag47 leng47 appg120 iag120 leng120
set_option maxRecDepth 100000
theorem wrapU {n : Int} (h1 : 0 ≤ n) (h2 : n ≤ 18446744073709551615) : IntKind.u64.wrap n = n := IntWalk.u64_in n ⟨h1, h2⟩
theorem sv_ext_sv {σ : Sg} {d : Nat} {cs cs0 : List PV} {l : List (Option (List PV))} {rm : List Nat} {ys : List LState} (h : d < σ.store.length) : ((σ.setVar d cs0).ext l rm ys).setVar d cs = (σ.setVar d cs).ext l rm ys := by
 rw [sv_ext (by rw [sv_len]; exact h), sv_sv]
theorem sv_self {σ : Sg} {d : Nat} {cs : List PV} (h : σ.store[d]? = some (some cs)) : σ.setVar d cs = σ := by
 have : σ.store.set d (some cs) = σ.store := by
  refine List.ext_getElem? fun i => ?_
  rw [List.getElem?_set]
  by_cases e : d = i
  ·subst e; rw [if_pos rfl, if_pos (List.getElem?_eq_some_iff.1 h).1, h]
  rw [if_neg e]
 unfold Sg.setVar
 rw [this]
theorem get_svx {σ : Sg} {d : Nat} {cs : List PV} {l : List (Option (List PV))} {rm : List Nat} {ys : List LState} (h : d < σ.store.length) : ((σ.setVar d cs).ext l rm ys).store[d]? = some (some cs) := by
 rw [ext_get (by rw [sv_len]; exact h)]; exact sv_get h
theorem get_extx {σ : Sg} {d : Nat} {cs : List PV} {l : List (Option (List PV))} {rm : List Nat} {ys : List LState} (hd : σ.store[d]? = some (some cs)) : (σ.ext l rm ys).store[d]? = some (some cs) := by
 rw [ext_get (lt_of_get hd)]; exact hd
theorem shr1 {a : Int} : shiftPV .shr .u64 a 1 = some (.int .u64 (a.fdiv 2)) := rfl
theorem shr32 {a : Int} : shiftPV .shr .u64 a 32 = some (.int .u64 (a.fdiv 4294967296)) := rfl
theorem cv3_60 {k : IntKind} {n : Int} : convPV Tryz.prog 3 60 (.int k n) = some (.int .u64 (IntKind.u64.wrap n)) := by kernel_rfl
theorem cv3_94 {k : IntKind} {n : Int} : convPV Tryz.prog 3 94 (.int k n) = some (.int .u64 (IntKind.u64.wrap n)) := by kernel_rfl
theorem cv3_166 {k : IntKind} {n : Int} : convPV Tryz.prog 3 166 (.int k n) = some (.int .u64 (IntKind.u64.wrap n)) := by kernel_rfl
theorem cv5_3 {k : IntKind} {n : Int} : convPV Tryz.prog 5 3 (.int k n) = some (.int .i64 (IntKind.i64.wrap n)) := by kernel_rfl
theorem cv60_3 {k : IntKind} {n : Int} : convPV Tryz.prog 60 3 (.int k n) = some (.int .i64 (IntKind.i64.wrap n)) := by kernel_rfl
theorem cv60_5 {k : IntKind} {n : Int} : convPV Tryz.prog 60 5 (.int k n) = some (.int .u8 (IntKind.u8.wrap n)) := by kernel_rfl
theorem cv94_3 {k : IntKind} {n : Int} : convPV Tryz.prog 94 3 (.int k n) = some (.int .i64 (IntKind.i64.wrap n)) := by kernel_rfl
theorem cv94_152 {k : IntKind} {n : Int} : convPV Tryz.prog 94 152 (.int k n) = some (.int .u32 (IntKind.u32.wrap n)) := by kernel_rfl
theorem cv152_5 {k : IntKind} {n : Int} : convPV Tryz.prog 152 5 (.int k n) = some (.int .u8 (IntKind.u8.wrap n)) := by kernel_rfl
attribute [go_sem] cv3_60 cv3_94 cv3_166 cv5_3 cv60_3 cv60_5 cv94_3 cv94_152 cv152_5 nilCheckPV shr1 shr32 Sg.ext_nil
theorem slh22 {l : List PV} {own : Own} {k : IntKind} {n : Int} : slicePV Tryz.prog 22 (.isl l own) none (some (.int k n)) none = if 0 ≤ n then if n.toNat ≤ l.length then some (.isl (l.take n.toNat) (sliceOwn own 0 n.toNat l.length)) else none else none := slHi_of Tryz.underlying22 Tryz.underlying3 l own k n
theorem slh120 {l : List PV} {own : Own} {k : IntKind} {n : Int} : slicePV Tryz.prog 120 (.isl l own) none (some (.int k n)) none = if 0 ≤ n then if n.toNat ≤ l.length then some (.isl (l.take n.toNat) (sliceOwn own 0 n.toNat l.length)) else none else none := slHi_of Tryz.underlying120 Tryz.underlying122 l own k n
attribute [go_sem] slh22 slh120
end Go.Proofs.YtpkkegbiddcodaaGreat
namespace Go.Proofs.YtpkkegbiddcodaaGreat.Mk
open Go Go.RowKit
theorem mk101 {σ : Sg} {k : Nat} (hk : k < 2 ^ 44) : makePV Tryz.prog σ 101 (.int .i64 (k : Int)) (.int .i64 (k : Int)) = some (.msl σ.store.length 0 k, σ.push ((List.replicate k false).map PV.bool)) := by
 rw [mk_of Tryz.underlying101 zero4 bytes4 cells4 (by omega) (by omega), repB]
theorem keyInt : KeyOK Tryz.prog 3 I := fun a b => by
 simp only [I, keyEq, if_true]
 congr 1
theorem intsEq2 {a b c d : Int} : intsEq [.int .i64 a, .int .i64 b] [.int .i64 c, .int .i64 d] = some ((a == c) && ((b == d) && true)) := rfl
theorem eqF103 {a b c d : Int} : eqFieldsPV Tryz.prog [.int .i64 a, .int .i64 b] [.int .i64 c, .int .i64 d] (Tryz.prog.fieldsOf 103).toList = some ((a == c) && ((b == d) && true)) := by kernel_rfl
theorem keySt : KeyOK Tryz.prog 103 stPV := fun x y => by
 obtain ⟨a, b⟩ := x
 obtain ⟨c, d⟩ := y
 have hf : ∃ fs, Tryz.prog.underlying 103 = some (.struct fs) := ⟨_, Tryz.underlying103⟩
 obtain ⟨fs, hf⟩ := hf
 have e : Tryz.prog.fieldsOf 103 = fs := by simp [Program.fieldsOf, hf]
 have := eqF103 (a := a) (b := b) (c := c) (d := d)
 rw [e] at this
 simp only [stPV, I, keyEq, hf, intsEq2, this]
 rw [if_pos ⟨by kernel_rfl, trivial⟩]
 refine congrArg some ?_
 rw [Bool.and_true]
 by_cases h1 : a = c
 ·by_cases h2 : b = d
  ·subst h1 h2; simp only [beq_self_eq_true, Bool.and_true, decide_true]
  rw [beq_eq_false_iff_ne.2 h2, Bool.and_false, decide_eq_false (fun h => h2 (Prod.mk.inj h).2)]
 rw [beq_eq_false_iff_ne.2 h1, Bool.false_and, decide_eq_false (fun h => h1 (Prod.mk.inj h).1)]
theorem lk69 {σ : Sg} {id : Nat} {a b : Int} {ok : Bool} : lookupPV Tryz.prog σ 69 (.map id) (.agg [.int .i64 a, .int .i64 b]) ok = lkX Tryz.prog 103 .nilsl σ id (.agg [.int .i64 a, .int .i64 b]) ok := lk_of Tryz.underlying69 Tryz.underlying103 (by kernel_rfl) (by kernel_rfl) σ id ok
theorem up69 {σ : Sg} {id : Nat} {a b : Int} {v : PV} : updatePV Tryz.prog σ 69 (.map id) (.agg [.int .i64 a, .int .i64 b]) v = upX Tryz.prog 103 σ id (.agg [.int .i64 a, .int .i64 b]) v := up_of Tryz.underlying69 Tryz.underlying103 (by kernel_rfl) v σ id
theorem lkK {k : Kn} {a b : Int} {ok : Bool} : lkM Tryz.prog 103 .nilsl (some (some (.mark :: knE k))) (.agg [.int .i64 a, .int .i64 b]) ok = some (packPV ok (mkPV ((aget (a, b) k).getD [])) (aget (a, b) k).isSome) := by
 have := lkM_map (z := .nilsl) keySt mkPV k (a, b) ok
 simp only [stPV, knE] at this ⊢
 rw [this]
 cases aget (a, b) k <;> rfl
theorem upKn {k : Kn} {a b : Int} : upM Tryz.prog 103 (some (some (.mark :: knE k))) (.agg [.int .i64 a, .int .i64 b]) .nilsl = some (.mark :: knE (aput (a, b) [] k)) := upM_map keySt mkPV k (a, b) []
theorem upKs {k : Kn} {a b x : Int} {l : List Int} : upM Tryz.prog 103 (some (some (.mark :: knE k))) (.agg [.int .i64 a, .int .i64 b]) (.isl (.int .i64 x :: l.map I) .ro) = some (.mark :: knE (aput (a, b) (x :: l) k)) := upM_map keySt mkPV k (a, b) (x :: l)
theorem upKs0 {a b x : Int} {l : List Int} : upM Tryz.prog 103 (some (some [.mark])) (.agg [.int .i64 a, .int .i64 b]) (.isl (.int .i64 x :: l.map I) .ro) = some (.mark :: knE (aput (a, b) (x :: l) [])) := upM_map keySt mkPV [] (a, b) (x :: l)
theorem mkPV_ne {l : List Int} (h : l ≠ []) : mkPV l = ints l := by cases l with | nil => exact absurd rfl h | cons => rfl
theorem mkPV_nil : mkPV [] = .nilsl := rfl
theorem nilmk {l : List Int} : nilPV Tryz.prog 22 (mkPV l) = some l.isEmpty := by
 cases l with
 | nil => simp only [nilPV, Tryz.underlying22, mkPV, List.isEmpty_nil]
 | cons x l => simp only [nilPV, Tryz.underlying22, mkPV]; rfl
theorem lk116 {σ : Sg} {id : Nat} {k : Int} {ok : Bool} : lookupPV Tryz.prog σ 116 (.map id) (.int .i64 k) ok = lkX Tryz.prog 3 (.bool false) σ id (.int .i64 k) ok := lk_of Tryz.underlying116 Tryz.underlying3 (by kernel_rfl) rfl σ id ok
theorem up116 {σ : Sg} {id : Nat} {k : Int} {v : PV} : updatePV Tryz.prog σ 116 (.map id) (.int .i64 k) v = upX Tryz.prog 3 σ id (.int .i64 k) v := up_of Tryz.underlying116 Tryz.underlying3 rfl v σ id
theorem lkB {m : List (Int × Bool)} {k : Int} {ok : Bool} : lkM Tryz.prog 3 (.bool false) (some (some (.mark :: mapE I PV.bool m))) (.int .i64 k) ok = some (packPV ok (.bool ((aget k m).getD false)) (aget k m).isSome) := by
 have := lkM_map (z := .bool false) keyInt PV.bool m k ok
 simp only [I] at this ⊢
 rw [this]
 cases aget k m <;> rfl
theorem upB {m : List (Int × Bool)} {k : Int} {v : Bool} : upM Tryz.prog 3 (some (some (.mark :: mapE I PV.bool m))) (.int .i64 k) (.bool v) = some (.mark :: mapE I PV.bool (aput k v m)) := upM_map keyInt PV.bool m k v
theorem CleanAll_mapB {a b c : Nat} {l : List (Int × Bool)} : CleanAll a b c (mapE I PV.bool l) = True := CleanAll_mapE (fun _ => .int _ _) (fun _ => .bool _)
theorem packT {v : PV} {b : Bool} : packPV true v b = .tuple [v, .bool b] := rfl
theorem packF {v : PV} {b : Bool} : packPV false v b = v := rfl
theorem evN_tmp {E : Env} {t : Nat} : evN E (.tmp t) = E.get t := rfl
theorem evN_int {E : Env} {k : IntKind} {n : Int} : evN E (.const (.int k n)) = .int k n := rfl
theorem evN_bool {E : Env} {b : Bool} : evN E (.const (.bool b)) = .bool b := rfl
theorem evN_nil {E : Env} : evN E (.const (.slice none 0 0)) = .nilsl := rfl
theorem sll22 {xs : List Int} {own : Own} {k : IntKind} {n : Int} : slicePV Tryz.prog 22 (.isl (xs.map I) own) (some (.int k n)) none none = if 0 ≤ n then if n.toNat ≤ xs.length then some (.isl ((xs.drop n.toNat).map I) own) else none else none := slLo_of Tryz.underlying22 Tryz.underlying3 cells3 (fun _ => rfl) xs own k n
theorem slb22 {xs : List Int} {own : Own} {k k' : IntKind} {n m : Int} : slicePV Tryz.prog 22 (.isl (xs.map I) own) (some (.int k n)) (some (.int k' m)) none = if 0 ≤ n then if 0 ≤ m then if n.toNat ≤ m.toNat ∧ m.toNat ≤ xs.length then some (.isl (((xs.drop n.toNat).take (m.toNat - n.toNat)).map I) (sliceOwn own n.toNat m.toNat xs.length)) else none else none else none := slBoth_of Tryz.underlying22 Tryz.underlying3 cells3 (fun _ => rfl) xs own k k' n m
theorem sl138 {id : Nat} {k : IntKind} {n : Int} : slicePV Tryz.prog 138 (.ptr id 0) none (some (.int k n)) none = if 0 ≤ n then if n.toNat ≤ 5 then (if 0 = n.toNat then some (.isl [] .ro) else some (.msl id 0 n.toNat)) else none else none := by
 unfold slicePV
 rw [Tryz.underlying138]
 simp only [Tryz.underlying3, bnd]
 by_cases hn : 0 ≤ n
 ·simp [hn]
 simp [hn]
attribute [go_sem] sll22 slb22 lk69 up69 lkK upKn upKs upKs0 nilmk lk116 up116 lkB upB CleanAll_mapB packT packF evN_tmp evN_int evN_bool evN_nil lkX_ext lkX_ext0 upX_ext upX_ext0 lkX_svx Cl_map Cl_nilmap Cl_mark Cl_gsl Cl_gnil setI setB mkPV_nil
end Go.Proofs.YtpkkegbiddcodaaGreat.Mk
