/-
  Regions that draw their order: the rule.
  Regions that draw their order: the rule of the walk.
  Views: a state and what was added to it; owners forgotten; how functions usually end.
  What the operations do at a type, without the type.
  Loops that count down; ends that leave something new.
  Cleanness of what was added; folds over ranges of numbers.
  A slice without spare room gets a room; a value's owner is forgotten.
  Loops over a state of plain values; cleanness, loads of rows and variables that were there before, by simp.
  Regions whose ways meet again; sums that fit.
  The types of this seat's program, as the pure reading asks of them.
  What the operations do at this seat's types.
-/
import Derived.Test.YteklodljdndcoaaGreatDoorPb
import Derived.CallsIn
import Derived.RangeFuncLeaves
import Derived.RangeFuncRecord
import Derived.OrdersIn
import Derived.Below
import Derived.Laws.World
import Derived.Laws.StructEq
import Derived.Laws.BytesString
import Derived.Laws.Append
import Derived.MapKept
import Derived.ProofKit
import Derived.Carry
import Derived.Handed
import Derived.ChangeCalls
import Derived.Stop.Joined
import Derived.Lib.LaidTab
import Derived.Shelf.Strconv.Itoa3
import Derived.RangeFuncIn
import Derived.RangeFuncNested
import Derived.Test.YteklodljdndcoaaGreatDoorProg
import Derived.KernelRfl
import Derived.IntWalk
import Derived.Test.YteklodljdndcoaaGreatDoorRows
import Derived.Sort.OwnSortedInts
import Derived.Lib.SlicesCompact
import Derived.Shelf.Strings.Builder1
import Derived.Lib.SplitLaws
import Derived.Lib.AtoiAll
import Derived.Lib.ItoaNum
import Derived.Lib.IndexBytes
import Derived.Shelf.Strings.Split
import Derived.Shelf.Strconv.AtoiAll
import Derived.Lib.AtoiErrMem
import Derived.Lib.ItoaLen
import Derived.Lib.AtoiAllCases
import Derived.Test.YteklodljdndcoaaGreatDoorCards
import Derived.Test.YteklodljdndcoaaGreatDoorTie
import Derived.JoinedOf
import Derived.LaidMore
import Derived.LaidSub
import Derived.Lay
import Derived.SevenTiedAt
import Derived.Lib.LaidU8
import Derived.Shelf.Vars
set_option linter.unusedSimpArgs false
set_option linter.unusedVariables false
namespace Go.Proofs.YteklodljdndcoaaGreatDoor
open Go Go.RowKit
theorem getL {listed : Array Bool} {i j : Nat} (hi : i < listed.size) : (listed.setIfInBounds i true).getD j false = if j = i then true else listed.getD j false := by
  by_cases h : j = i
  · subst h; simp [hi]
  · rw [getD_set_ne false (fun e => h e.symm), if_neg h]
section
variable {P : Program} {Y : YEnv} {N : Nat} {rd : Option Nat} {D : List Nat} {Ψ0 : Ty} {w0 : World} {Q : Exit → Act → World → Prop} {ops : Array Oper} {is : List Nat} {plan : List (Nat × Nat)} {pre : List (List Nat)} {T : List St} {E0 Ef : Env} {σ0 σf : Sg}
theorem Inv.step (H : Shown P Y N ops is plan pre T E0 Ef σ0 σf) (hy : YOK P Y Ψ0) {listed : Array Bool} {p : Nat} {bl : Nat → Option (Nat × Array Value)} {Ψ : Ty} {a : Act} {w : World} (I : Inv P N D Ψ0 w0 ops is T E0 σf listed p bl Ψ a w)
    (hfar : p = ops.size ∨ (chainAt ops is p = true ∧ ∃ s, T[p]? = some s ∧ listed.getD s.i false = false)) {q : Nat} {s : St} (hs : T[q]? = some s) (hun : listed.getD s.i false = false) (hdir : ∀ j, j ∈ dir ops s.i → listed.getD j false = true)
    {K : Act → World → Prop} (hK : ∀ p' bl' Ψ' a' w', Inv P N D Ψ0 w0 ops is T E0 σf (listed.setIfInBounds s.i true) p' bl' Ψ' a' w' → K a' w') : wpOpIn (FnOf Ψ0 rd) 0 P ops Q s.i K a w := by
  obtain ⟨o, ho, hoa, hdok, hwt, hdone⟩ := H.opS hs
  have hq := H.lt hs
  have hsz : s.i < listed.size := by rw [I.size]; exact H.ilt hs
  have hL : ∀ j, (listed.setIfInBounds s.i true).getD j false = if j = s.i then true else listed.getD j false := fun j => getL hsz
  have hpre : ∀ (q' : Nat) (s' : St), T[q']? = some s' → preAt is pre q q' = true → listed.getD s'.i false = true := fun q' s' hs' hp =>
    H.preListed I.closed s.i (H.ilt hs) hdir s'.i ((H.preAt hs hs').1 hp)
  have hpost : ∀ (q' : Nat) (s' : St), T[q']? = some s' → preAt is pre q' q = true → listed.getD s'.i false = false := fun q' s' hs' hp => by
    cases hl : listed.getD s'.i false with
    | false => rfl
    | true => rw [I.preL H hs' hs hl hp] at hun; cases hun
  have hdstq : dstAt ops is q = o.dst := by unfold dstAt; rw [hoa]; rfl
  have hdsti : ∀ (q' : Nat) (s' : St), T[q']? = some s' → (ops[s'.i]?).bind (·.dst) = dstAt ops is q' := fun q' s' hs' => by unfold dstAt; rw [H.opEq hs']
  have hchain : ∀ q', q' < ops.size → writesAt ops is q' = false → allocsAt ops is q' = false → chainAt ops is q' = false := by
    intro q' _ h1 h2
    unfold chainAt writesAt allocsAt at *
    cases hh : opAt ops is q' with
    | none => rfl
    | some o' => rw [hh] at h1 h2; simp only [Option.any_some] at h1 h2 ⊢; rw [h1, h2]; rfl
  have hchain' : ∀ q', allocsAt ops is q' = true → chainAt ops is q' = true := by
    intro q' h
    unfold chainAt allocsAt at *
    cases hh : opAt ops is q' with
    | none => rw [hh] at h; cases h
    | some o' => rw [hh] at h; simp only [Option.any_some] at h ⊢; rw [h]; simp
  have hchainw : ∀ q', writesAt ops is q' = true → chainAt ops is q' = true := by
    intro q' h
    unfold chainAt writesAt at *
    cases hh : opAt ops is q' with
    | none => rw [hh] at h; cases h
    | some o' => rw [hh] at h; simp only [Option.any_some] at h ⊢; rw [h]; simp
  -- what it looks at is there
  have hlook : ∀ t, t ∈ looks ops o → s.E.get t = (goE ops (vis ops is listed p) T E0).get t := by
    intro t ht
    have htq : t ∈ looksAt ops is q := by unfold looksAt; rw [hoa]; exact ht
    refine (goE_before H.link hs (fun q' s' hlt hs' hd => ?_) (fun q' s' hle hs' hd => ?_)).symm
    · rw [hdsti q' s' hs'] at hd
      obtain ⟨⟨c1, c2⟩, _⟩ : (preAt is pre q q' = true ∧ (allocsAt ops is q' = true → ∀ r, r ≤ q' → chainAt ops is r = true → preAt is pre q r = true)) ∧ True :=
        ⟨(H.facts.c5 q q' t hq (H.lt hs') hd htq).1 hlt, trivial⟩
      unfold vis
      rw [hpre q' s' hs' c1, H.idx hs']
      cases hal : allocsAt ops is q' with
      | false =>
        have : (ops[s'.i]?).any allocs = false := by rw [← H.opEq hs']; exact hal
        rw [this]; rfl
      | true =>
        have hlt' : q' < p := by
          rcases Nat.lt_or_ge q' p with h | h
          · exact h
          · rcases hfar with e | ⟨e1, s2, e2, e3⟩
            · have := H.lt hs'; omega
            · have := hpre p s2 e2 (c2 hal p h e1)
              rw [e3] at this; cases this
        simp [hlt']
    · rw [hdsti q' s' hs'] at hd
      unfold vis
      rcases Nat.lt_or_ge q q' with hlt | hge
      · rw [hpost q' s' hs' ((H.facts.c5 q q' t hq (H.lt hs') hd htq).2 hlt)]; rfl
      · have : q = q' := by omega
        subst this
        rw [hs] at hs'
        injection hs' with hs'
        subst hs'
        rw [hun]; rfl
  have hwt' : wantedPV ops (goE ops (vis ops is listed p) T E0) o = some s.b := by rw [← wantedPV_congr hlook]; exact hwt
  have closed' : ∀ i, (listed.setIfInBounds s.i true).getD i false = true → ∀ j, j ∈ dir ops i → (listed.setIfInBounds s.i true).getD j false = true := by
    intro i hi j hj
    rw [hL] at hi ⊢
    split
    · rfl
    · split at hi
      · rename_i e; subst e; exact hdir j hj
      · exact I.closed i hi j hj
  have keepL : ∀ j, listed.getD j false = true → (listed.setIfInBounds s.i true).getD j false = true := fun j h => by rw [hL]; split <;> first | rfl | exact h
  have hple : ∀ r s', T[r]? = some s' → chainAt ops is r = true → listed.getD s'.i false = false → p ≤ r := by
    intro r s' hs' hc hl
    rcases Nat.lt_or_ge r p with h | h
    · rw [I.below r s' h hs' hc] at hl; cases hl
    · exact h
  cases hal : allocsAt ops is q with
  | true =>
    -- a new variable
    obtain ⟨o2, d, ho2, hguard, hd⟩ := H.facts.c7b q hq hal
    rw [hoa] at ho2
    injection ho2 with ho2
    subst ho2
    have hpq := hple q s hs (hchain' q hal) hun
    obtain ⟨t, hop⟩ : ∃ t, o.op = .alloc t := by
      unfold allocsAt at hal
      rw [hoa] at hal
      simp only [Option.any_some] at hal
      unfold allocs at hal
      split at hal
      · exact ⟨_, ‹_›⟩
      · cases hal
    have hb : s.b = true := by
      unfold wantedPV at hwt
      rw [hguard] at hwt
      injection hwt with hwt
      exact hwt.symm
    obtain ⟨zs, hz⟩ : ∃ zs, zeroPV P t = some zs := by
      unfold DoneAs at hdone
      rw [hb] at hdone
      simp only at hdone
      have : whom s.E o.op = .nobody := by rw [hop]; rfl
      rw [this, hop] at hdone
      simp only [effOp] at hdone
      cases hz : zeroPV P t with
      | none => rw [hz] at hdone; cases hdone
      | some zs => exact ⟨zs, rfl⟩
    refine exec_alloc ho hop hguard hz I.rel fun c hc0 hc2 => ?_
    have hc1 : zs.length ≤ c.size := Nat.le_of_eq hc0.symm
    obtain ⟨le', hs'⟩ := I.rel.sg.reserve c t
    refine hK p (fun x => if x = q then some (w.heap.size, c) else bl x) _ _ _ ⟨by simpa using I.size, closed', I.pn, fun q2 s2 h1 h2 h3 => keepL _ (I.below q2 s2 h1 h2 h3), ?_, I.le.trans le', ?_, ?_, ?_, ?_, ?_⟩
    · intro q2 s2 h1 h2 h3
      rw [hL, if_neg]
      · exact I.above q2 s2 h1 h2 h3
      · intro e
        have := H.inj h2 hs e
        subst this
        unfold writesAt at h3
        rw [hoa] at h3
        simp [writes, hop] at h3
    · have hput := I.rel.put le' hs' hdok (v := .undef) (x := .pointer (some ⟨w.heap.size, 0, none⟩)) (.undef _)
      refine hput.congr fun t' => ?_
      have vsame : ∀ i, vis ops is (listed.setIfInBounds s.i true) p i = vis ops is listed p i := by
        intro i
        unfold vis
        rw [hL]
        by_cases e : i = s.i
        · subst e
          rw [hun, ho]
          have : allocs o = true := by unfold allocs; rw [hop]
          rw [H.idx hs]
          simp [this]
          omega
        · rw [if_neg e]
      rw [get_put]
      have e1 : (goE ops (vis ops is (listed.setIfInBounds s.i true) p) T E0).get t' = (goE ops (vis ops is listed p) T E0).get t' := goE_congr _ _ _ (fun s' _ _ => vsame _) rfl
      rw [e1]
      split
      · rename_i hdt
        rw [goE_off]
        · exact H.fresh q t' hal (by rw [hdstq]; exact hdt)
        · intro s' hs' hd'
          obtain ⟨q', hq'⟩ := List.mem_iff_getElem?.1 hs'
          by_cases e : q' = q
          · subst e
            rw [hs] at hq'
            injection hq' with hq'
            subst hq'
            unfold vis
            rw [hun]; rfl
          · exfalso
            rw [hdsti q' s' hq'] at hd'
            exact H.facts.c7 q q' t' hq (H.lt hq') hal e (by rw [hdstq]; exact hdt) hd'
      · rfl
    · intro q2 s2 h1 h2 h3 h4
      by_cases e : q2 = q
      · subst e
        refine ⟨w.heap.size, c, by simp, d, o, t, zs, by rw [hdstq]; exact hd, hoa, hop, hz, hc1, hc2, ?_, List.mem_cons_self .., fun c' k => ?_⟩
        · have : d < a.tmps.size := by
            unfold dstOK at hdok
            rw [hd] at hdok
            rw [I.rel.size]
            simpa using hdok
          rw [hd]
          simp [Act.put, Array.getD, this]
        · have := I.rel.sg.fresh.rs c'
          exact this (I.le.rs _ k)
      · have hne : s2.i ≠ s.i := fun e' => e (H.inj h2 hs e')
        rw [hL, if_neg hne] at h4
        obtain ⟨b', c', x0, d', o', t', zs', x1, x2, x3, x4, x5, x6, x7, x8, x9⟩ := I.pend q2 s2 h1 h2 h3 h4
        refine ⟨b', c', by rw [if_neg e]; exact x0, d', o', t', zs', x1, x2, x3, x4, x5, x6, ?_, List.mem_cons_of_mem _ x8, x9⟩
        have hdd : d' ≠ d := by
          rintro rfl
          exact H.facts.c7 q q2 d' hq (H.lt h2) hal e (by rw [hdstq]; exact hd) x1
        rw [hd]
        simp only [Act.put, Array.getD_eq_getD_getElem?, Array.getElem?_setIfInBounds_ne (fun e => hdd e.symm)]
        simpa [Array.getD_eq_getD_getElem?] using x7
    · intro q1 q2 b c1 c2 h1 h2
      split at h1
      · split at h2
        · omega
        · injection h1 with h1
          injection h1 with h1 _
          have := I.blt q2 b c2 h2
          omega
      · split at h2
        · injection h2 with h2
          injection h2 with h2 _
          have := I.blt q1 b c1 h1
          omega
        · exact I.apart q1 q2 b c1 c2 h1 h2
    · intro q1 b c1 h1
      rw [World.size_alloc]
      split at h1
      · injection h1 with h1
        injection h1 with h1 _
        omega
      · have := I.blt q1 b c1 h1
        omega
    · exact I.bel.alloc (by rw [← I.le.base]; exact I.rel.sg.base) _
  | false =>
    have hna : allocs o = false := by
      unfold allocsAt at hal
      rw [hoa] at hal
      exact hal
    -- what follows when it is done
    have after : ∀ (p' : Nat), ((p' = p ∧ writesAt ops is q = false) ∨ (p = q ∧ p' = q + 1)) → ∀ Ψ' w' x, Ψ.le Ψ' → SR Ψ' (st T σf p') w' → VR Ψ' s.v x → Below Ψ.base w w' → K (a.put o.dst x) w' := by
      intro p' hp' Ψ' w' x le' hsr hv hb
      refine hK p' bl Ψ' _ _ ⟨by simpa using I.size, closed', ?_, ?_, ?_, I.le.trans le', ?_, ?_, I.apart, fun q1 b c1 h1 => Nat.lt_of_lt_of_le (I.blt q1 b c1 h1) hb.size, I.bel.trans (by rw [← I.le.base]; exact hb)⟩
      · rcases hp' with ⟨rfl, _⟩ | ⟨_, rfl⟩
        · exact I.pn
        · omega
      · intro q2 s2 h1 h2 h3
        rw [hL]
        split
        · rfl
        · rename_i hne
          rcases hp' with ⟨rfl, _⟩ | ⟨e, rfl⟩
          · exact I.below q2 s2 h1 h2 h3
          · have : q2 ≠ q := by rintro rfl; rw [hs] at h2; injection h2 with h2; exact hne (by rw [h2])
            exact I.below q2 s2 (by omega) h2 h3
      · intro q2 s2 h1 h2 h3
        have hne : s2.i ≠ s.i := by
          intro e
          have := H.inj h2 hs e
          subst this
          rcases hp' with ⟨_, e⟩ | ⟨_, e⟩
          · rw [h3] at e; cases e
          · omega
        rw [hL, if_neg hne]
        exact I.above q2 s2 (by rcases hp' with ⟨e, _⟩ | ⟨e, e'⟩ <;> omega) h2 h3
      · have hput := I.rel.put le' hsr hdok hv
        refine hput.congr fun t => ?_
        rw [get_put]
        split
        · rename_i hdt
          refine goE_just hs (by rw [ho]; exact hdt) ?_ ?_
          · unfold vis
            rw [hL, if_pos rfl, ho]
            simp [hna]
          · intro q' s' hq' hs' hd'
            have hne : s'.i ≠ s.i := fun e => by have := H.inj hs' hs e; omega
            unfold vis
            rw [hL, if_neg hne, hpost q' s' hs' (H.facts.c6 q' q t (H.lt hs') hq' (by rw [← hdsti q' s' hs']; exact hd') (by rw [hdstq]; exact hdt))]
            rfl
        · rename_i hdt
          refine goE_congr _ _ _ (fun s' hs' hd' => ?_) rfl
          obtain ⟨q', hq'⟩ := List.mem_iff_getElem?.1 hs'
          have hne : s'.i ≠ s.i := by
            intro e
            rw [e, ho] at hd'
            exact hdt hd'
          have hqne : q' ≠ q := by rintro rfl; rw [hs] at hq'; injection hq' with hq'; exact hne (by rw [hq'])
          unfold vis
          rw [hL, if_neg hne, H.idx hq']
          congr 2
          simp only [decide_eq_decide]
          rcases hp' with ⟨rfl, _⟩ | ⟨e, rfl⟩
          · exact Iff.rfl
          · omega
      · intro q2 s2 h1 h2 h3 h4
        have hne : s2.i ≠ s.i := by
          intro e
          have := H.inj h2 hs e
          subst this
          rw [h3] at hal; cases hal
        rw [hL, if_neg hne] at h4
        have hpq2 : p ≤ q2 := by rcases hp' with ⟨e, _⟩ | ⟨e, e'⟩ <;> omega
        obtain ⟨b', c', x0, d', o', t', zs', x1, x2, x3, x4, x5, x6, x7, x8, x9⟩ := I.pend q2 s2 hpq2 h2 h3 h4
        refine ⟨b', c', x0, d', o', t', zs', x1, x2, x3, x4, x5, x6, ?_, le'.rs _ x8, x9⟩
        have hqne : q ≠ q2 := by rintro rfl; rw [hs] at h2; injection h2 with h2; exact hne (by rw [h2])
        have hdd : o.dst ≠ some d' := by
          intro e
          exact H.facts.c7 q2 q d' (H.lt h2) hq h3 hqne x1 (by rw [hdstq]; exact e)
        cases hod : o.dst with
        | none => exact x7
        | some d2 =>
          have : d2 ≠ d' := fun e => hdd (by rw [hod, e])
          simp only [Act.put, Array.getD_eq_getD_getElem?, Array.getElem?_setIfInBounds_ne this]
          simpa [Array.getD_eq_getD_getElem?] using x7
    cases hwr : writesAt ops is q with
    | true =>
      have hpq : p = q := by
        have h1 := hple q s hs (hchainw q hwr) hun
        rcases hfar with e | ⟨e1, s2, e2, e3⟩
        · omega
        · rcases Nat.lt_or_ge p q with h | h
          · have := hpre p s2 e2 (H.facts.c4 q p hq h hwr e1)
            rw [e3] at this; cases this
          · omega
      have hst : st T σf p = s.σ := by rw [hpq]; simp [st, hs]
      have hd : DoneAs P Y o ⟨s.i, goE ops (vis ops is listed p) T E0, st T σf p, s.b, s.v⟩ (st T σf (q + 1)) := by
        rw [hst]
        exact DoneAs_congr hlook (i := s.i) (E := s.E) (σ := s.σ) (b := s.b) (v := s.v) hdone
      exact exec_ok ho I.rel I.le hy hwt' hd fun Ψ' w' x k1 k2 k3 k4 => after (q + 1) (.inr ⟨hpq, rfl⟩) Ψ' w' x k1 k2 k3 k4
    | false =>
      have hnw : writes o = false := by
        unfold writesAt at hwr
        rw [hoa] at hwr
        exact hwr
      have hcq := hchain q hq hwr hal
      have hd0 : DoneAs P Y o ⟨s.i, s.E, st T σf p, s.b, s.v⟩ (st T σf p) := by
        unfold DoneAs at hdone ⊢
        simp only
        cases hb : s.b with
        | false =>
          rw [hb] at hdone
          exact ⟨hdone.1, trivial⟩
        | true =>
          rw [hb] at hdone
          simp only at hdone ⊢
          rw [whom_quiet hnw] at hdone ⊢
          simp only at hdone ⊢
          have hqs := quiet hnw hna hdone
          rcases H.facts.c8 q p hq I.pn hcq (hfar.imp id fun h => h.1) (fun r hr hc => by
              obtain ⟨s2, h2⟩ := H.has (Nat.lt_of_lt_of_le hr I.pn)
              cases hp : preAt is pre r q with
              | false => rfl
              | true =>
                have := I.below r s2 hr h2 hc
                rw [hpost r s2 h2 hp] at this; cases this) (fun r hr hrn hc => by
              obtain ⟨s2, h2⟩ := H.has hrn
              cases hp : preAt is pre q r with
              | false => rfl
              | true =>
                have := I.above r s2 hr h2 hc
                rw [hpre r s2 h2 hp] at this; cases this) with h | h
          · have hst : st T σf p = s.σ := by
              have e0 : st T σf q = s.σ := by simp [st, hs]
              rw [← e0]
              have hpn := I.pn
              rcases Nat.le_total q p with hle | hle
              · have := H.same (q := q) (k := p - q) (by omega) (fun r h1 h2 => by
                  cases hc : chainAt ops is r with
                  | false => rfl
                  | true => have := h r (by omega) hc; omega)
                rw [show q + (p - q) = p by omega] at this
                exact this
              · have := H.same (q := p) (k := q - p) (by omega) (fun r h1 h2 => by
                  cases hc : chainAt ops is r with
                  | false => rfl
                  | true => have := h r (by omega) hc; omega)
                rw [show p + (q - p) = q by omega] at this
                exact this.symm
            rw [hst]
            rw [hqs] at hdone
            exact hdone
          · exact H.dem q p h hcq s o hs ho hb
      have hd := DoneAs_congr hlook (i := s.i) (σ := st T σf p) (b := s.b) (v := s.v) hd0
      exact exec_ok ho I.rel I.le hy hwt' hd fun Ψ' w' x k1 k2 k3 k4 => after p (.inl ⟨rfl, hwr⟩) Ψ' w' x k1 k2 k3 k4
end
end Go.Proofs.YteklodljdndcoaaGreatDoor
namespace Go.Proofs.YteklodljdndcoaaGreatDoor
open Go Go.RowKit
section
variable {P : Program} {Y : YEnv} {N : Nat} {rd : Option Nat} {D : List Nat} {Ψ0 : Ty} {w0 : World} {Q : Exit → Act → World → Prop} {ops : Array Oper} {is : List Nat} {plan : List (Nat × Nat)} {pre : List (List Nat)} {T : List St} {E0 Ef : Env} {σ0 σf : Sg}
/-- How many are not taken yet. -/
def left (listed : Array Bool) (n : Nat) : Nat := ((List.range n).filter fun i => !listed.getD i false).length
theorem filter_lt {α : Type} {f g : α → Bool} : ∀ (l : List α), (∀ x, x ∈ l → g x = true → f x = true) → (∃ x, x ∈ l ∧ f x = true ∧ g x = false) → (l.filter g).length < (l.filter f).length := by
  intro l
  have le : ∀ l : List α, (∀ x, x ∈ l → g x = true → f x = true) → (l.filter g).length ≤ (l.filter f).length := by
    intro l
    induction l with
    | nil => intro _; simp
    | cons a l ih =>
      intro h
      have := ih (fun x hx => h x (List.mem_cons_of_mem _ hx))
      simp only [List.filter_cons]
      cases hg : g a with
      | false => simp only [Bool.false_eq_true, if_false]; split <;> simp <;> omega
      | true => rw [h a (List.mem_cons_self ..) hg]; simp; exact this
  induction l with
  | nil => rintro _ ⟨x, hx, _⟩; cases hx
  | cons a l ih =>
    intro h ⟨x, hx, hf, hg⟩
    have h' : ∀ x, x ∈ l → g x = true → f x = true := fun x hx => h x (List.mem_cons_of_mem _ hx)
    simp only [List.filter_cons]
    rcases List.mem_cons.1 hx with rfl | hx
    · rw [hf, hg]
      have := le l h'
      simp
      omega
    · have := ih h' ⟨x, hx, hf, hg⟩
      cases hga : g a with
      | false => simp only [Bool.false_eq_true, if_false]; split <;> simp <;> omega
      | true => rw [h a (List.mem_cons_self ..) hga]; simp; exact this
theorem Inv.all (H : Shown P Y N ops is plan pre T E0 Ef σ0 σf) (hy : YOK P Y Ψ0) (hQ : ∀ Ψ' a' w', Ψ0.le Ψ' → Rel N D Ψ' Ef σf a' w' → Below Ψ0.base w0 w' → Q .normal a' w') :
    ∀ (fuel : Nat) (listed : Array Bool) (p : Nat) (bl : Nat → Option (Nat × Array Value)) (Ψ : Ty) (a : Act) (w : World), left listed ops.size ≤ fuel → Inv P N D Ψ0 w0 ops is T E0 σf listed p bl Ψ a w →
      wpAnyIn (FnOf Ψ0 rd) 0 P .any ops Q fuel listed a w := by
  -- when all is taken
  have fin : ∀ (listed : Array Bool) (p : Nat) (bl : Nat → Option (Nat × Array Value)) (Ψ : Ty) (a : Act) (w : World), Inv P N D Ψ0 w0 ops is T E0 σf listed p bl Ψ a w → (∀ i, i < ops.size → listed.getD i false = true) → Q .normal a w := by
    intro listed p bl Ψ a w I hall
    obtain ⟨p', Ψ', I', hfar⟩ := I.far H (ops.size - p) p Ψ (by have := I.pn; omega)
    have hp : p' = ops.size := by
      rcases hfar with e | ⟨_, s, hs, hl⟩
      · exact e
      · rw [hall s.i (H.ilt hs)] at hl; cases hl
    subst hp
    have h1 : goE ops (vis ops is listed ops.size) T E0 = Ef := goE_linked T E0 σ0 H.link fun s hs => by
      obtain ⟨q, hq⟩ := List.mem_iff_getElem?.1 hs
      unfold vis
      rw [hall s.i (H.ilt hq), H.idx hq]
      simp [H.lt hq]
    have h2 : st T σf ops.size = σf := by
      unfold st
      rw [List.getElem?_eq_none (by rw [H.len]; exact Nat.le_refl _)]
    have hr := I'.rel
    rw [h1, h2] at hr
    exact hQ Ψ' a w I'.le hr I'.bel
  -- one is ready, if any is left
  have some_ready : ∀ (listed : Array Bool), listed.size = ops.size → Region.ready .any ops listed = [] → ∀ i, i < ops.size → listed.getD i false = true := by
    intro listed hsz hr i
    induction hn : is.idxOf i using Nat.strongRecOn generalizing i with
    | _ n ih =>
      intro hi
      subst hn
      cases hl : listed.getD i false with
      | true => rfl
      | false =>
        exfalso
        have : i ∈ Region.ready .any ops listed := by
          rw [mem_ready]
          refine ⟨?_, ops[i], by simp [hi], fun e he hb => ?_⟩
          · have hi' : i < listed.size := by omega
            simp [hi'] at hl ⊢; exact hl
          · have hmem : e.on ∈ dir ops i := by
              unfold dir
              simp only [Array.getElem?_eq_getElem hi, List.mem_map, List.mem_filter]
              exact ⟨e, ⟨by simpa using he, hb⟩, rfl⟩
            obtain ⟨hk, hlt⟩ := H.facts.dlt i hi _ hmem
            exact ih _ hlt e.on rfl hk
        rw [hr] at this
        cases this
  intro fuel
  induction fuel with
  | zero =>
    intro listed p bl Ψ a w hleft I
    have hall : ∀ i, i < ops.size → listed.getD i false = true := by
      intro i hi
      cases hl : listed.getD i false with
      | true => rfl
      | false =>
        have : i ∈ (List.range ops.size).filter fun i => !listed.getD i false := List.mem_filter.2 ⟨List.mem_range.2 hi, by rw [hl]; rfl⟩
        have := List.length_pos_of_mem this
        unfold left at hleft
        omega
    refine ⟨?_, fin listed p bl Ψ a w I hall⟩
    cases hr : Region.ready .any ops listed with
    | nil => rfl
    | cons i is' =>
      exfalso
      have : i ∈ Region.ready .any ops listed := by rw [hr]; simp
      obtain ⟨h0, o, ho, _⟩ := mem_ready.1 this
      have hi : i < ops.size := (Array.getElem?_eq_some_iff.1 ho).1
      have := hall i hi
      have hi' : i < listed.size := by rw [I.size]; exact hi
      simp [hi'] at h0 this
      rw [h0] at this; cases this
  | succ fuel ih =>
    intro listed p bl Ψ a w hleft I
    refine ⟨fun hr => fin listed p bl Ψ a w I (some_ready listed I.size hr), fun i hi => ?_⟩
    obtain ⟨h0, o, ho, hall⟩ := mem_ready.1 hi
    have hin : i < ops.size := (Array.getElem?_eq_some_iff.1 ho).1
    have hi' : i < listed.size := by rw [I.size]; exact hin
    have hun : listed.getD i false = false := by simp [hi'] at h0 ⊢; exact h0
    obtain ⟨q, s, hs, rfl⟩ := H.pos hin
    obtain ⟨p', Ψ', I', hfar⟩ := I.far H (ops.size - p) p Ψ (by have := I.pn; omega)
    refine I'.step H hy hfar hs hun (fun j hj => ?_) fun p2 bl2 Ψ2 a2 w2 I2 => ih _ p2 bl2 Ψ2 a2 w2 ?_ I2
    · unfold dir at hj
      rw [ho] at hj
      simp only [List.mem_map, List.mem_filter] at hj
      obtain ⟨e, ⟨he, hb⟩, rfl⟩ := hj
      exact hall e (by simpa using he) hb
    · have : left (listed.setIfInBounds s.i true) ops.size < left listed ops.size := by
        refine filter_lt _ (fun j _ hg => ?_) ⟨s.i, List.mem_range.2 hin, by rw [hun]; rfl, by rw [getL hi']; simp⟩
        rw [getL hi'] at hg
        split at hg
        · cases hg
        · exact hg
      omega
end
/-- What the new variables' temporaries held is of no use. -/
def undefs : List Oper → Env → Env
  | [], E => E
  | o :: os, E => match o.op with
    | .alloc _ => undefs os (E.put o.dst .undef)
    | _ => undefs os E
theorem undefs_or (d : Nat) : ∀ (os : List Oper) (E : Env), (undefs os E).get d = E.get d ∨ (undefs os E).get d = .undef := by
  intro os
  induction os with
  | nil => intro E; exact .inl rfl
  | cons o os ih =>
    intro E
    unfold undefs
    split
    · rcases ih (E.put o.dst .undef) with h | h
      · rw [h, get_put]
        split
        · exact .inr rfl
        · exact .inl rfl
      · exact .inr h
    · exact ih E
theorem undefs_get (d : Nat) : ∀ (os : List Oper) (E : Env), (∃ o, o ∈ os ∧ allocs o = true ∧ o.dst = some d) ∨ E.get d = .undef → (undefs os E).get d = .undef := by
  intro os
  induction os with
  | nil =>
    rintro E (⟨o, ho, _⟩ | h)
    · cases ho
    · exact h
  | cons o os ih =>
    intro E h
    unfold undefs
    split
    · rename_i t ht
      refine ih _ ?_
      rcases h with ⟨o', ho', h1, h2⟩ | h
      · rcases List.mem_cons.1 ho' with rfl | ho'
        · exact .inr (by rw [get_put, if_pos h2])
        · exact .inl ⟨o', ho', h1, h2⟩
      · exact .inr (by rw [get_put]; split <;> first | rfl | exact h)
    · rename_i hne
      refine ih _ ?_
      rcases h with ⟨o', ho', h1, h2⟩ | h
      · rcases List.mem_cons.1 ho' with rfl | ho'
        · exfalso
          unfold allocs at h1
          split at h1
          · exact hne _ ‹_›
          · cases h1
        · exact .inl ⟨o', ho', h1, h2⟩
      · exact .inr h
theorem ER.undefs {Ψ : Ty} {E : Env} {tmps : Array Value} (h : ER Ψ E tmps) (os : List Oper) : ER Ψ (undefs os E) tmps := fun t => by
  rcases undefs_or t os E with e | e
  · rw [e]; exact h t
  · rw [e]; exact .undef _
def GOr (p : Prop) [K : KB0] : Prop := p ∨ K.run
theorem GOr_true (K : KB0) : @GOr True K = True := by simp [GOr]
theorem GOr_right {p : Prop} {K : KB0} (h : K.run) : @GOr p K := .inr h
/-- What is read where the order is open: it would be the same elsewhere. -/
def Dem (P : Program) (ops : Array Oper) (T : List St) (σf : Sg) : List (Nat × Nat) → Prop
  | [] => True
  | (q, p) :: r => (match T[q]? with
    | none => True
    | some s => match ops[s.i]? with
      | none => True
      | some o => @GOr (st T σf p = s.σ) ⟨s.b = true → effOp P (st T σf p) s.E o.op = some (s.v, st T σf p)⟩) ∧ Dem P ops T σf r
theorem Dem.get {P : Program} {ops : Array Oper} {T : List St} {σf : Sg} {q p : Nat} : ∀ (plan : List (Nat × Nat)), Dem P ops T σf plan → (q, p) ∈ plan → ∀ s o, T[q]? = some s → ops[s.i]? = some o →
    st T σf p = s.σ ∨ (s.b = true → effOp P (st T σf p) s.E o.op = some (s.v, st T σf p)) := by
  intro plan
  induction plan with
  | nil => intro _ h; cases h
  | cons a plan ih =>
    intro h hm s o hs ho
    obtain ⟨h1, h2⟩ := h
    rcases List.mem_cons.1 hm with e | hm
    · subst e
      simp only at h1
      rw [hs] at h1
      simp only at h1
      rw [ho] at h1
      exact h1
    · exact ih h2 hm s o hs ho
theorem draw_any {P : Program} {Y : YEnv} {N : Nat} {rd : Option Nat} {D : List Nat} {Ψ0 Ψ : Ty} {ops : Array Oper} {E : Env} {σ : Sg} {a : Act} {w : World} {Q : Exit → Act → World → Prop} {K : Env → Sg → Prop} (is : List Nat) (plan : List (Nat × Nat)) (pre : List (List Nat)) (hc : drawOK ops is plan pre = true)
    (h : GD P Y N ops is (undefs ops.toList E) σ [] (fun T E' σ' => Dem P ops T.reverse σ' plan ∧ K E' σ')) (hy : YOK P Y Ψ0) (le : Ψ0.le Ψ) (hr : Rel N D Ψ E σ a w)
    (hQ : ∀ Ψ' E' σ' a' w', Ψ0.le Ψ' → Rel N D Ψ' E' σ' a' w' → Below Ψ0.base w w' → K E' σ' → Q .normal a' w') : wpAnyIn (FnOf Ψ0 rd) 0 P .any ops Q ops.size (Array.replicate ops.size false) a { w with drawn := w.drawn + 1 } := by
  have hF := drawOK_facts ops is plan pre hc
  obtain ⟨T, Ef, σf, hl, hmap, hdem, hfin⟩ := GD_trace is (undefs ops.toList E) σ [] h
  rw [List.append_nil, List.reverse_reverse] at hdem
  have hfresh : ∀ q d, allocsAt ops is q = true → dstAt ops is q = some d → (undefs ops.toList E).get d = .undef := by
    intro q d hal hd
    refine undefs_get d _ _ (.inl ?_)
    unfold allocsAt at hal
    unfold dstAt at hd
    cases ho : opAt ops is q with
    | none => rw [ho] at hal; cases hal
    | some o =>
      rw [ho] at hal hd
      refine ⟨o, ?_, hal, hd⟩
      unfold opAt at ho
      cases hi : is[q]? with
      | none => rw [hi] at ho; cases ho
      | some i => rw [hi] at ho; exact List.mem_of_getElem? (by rw [Array.getElem?_toList]; exact ho)
  have H : Shown P Y N ops is plan pre T (undefs ops.toList E) Ef σ σf := by
    refine ⟨hF, hl, hmap, fun q p hqp hcq s o hs ho hsb => ?_, hfresh⟩
    rcases hdem.get plan hqp s o hs ho with e | e
    · obtain ⟨E', o', ho', _, _, _, hd⟩ := hl.at T _ _ q s hs
      rw [ho] at ho'
      injection ho' with ho'
      subst ho'
      have hoa : opAt ops is q = some o := by
        unfold opAt
        rw [← hmap]
        simp [hs, ho]
      unfold chainAt at hcq
      rw [hoa] at hcq
      simp only [Option.any_some, Bool.or_eq_false_iff] at hcq
      unfold DoneAs at hd
      rw [hsb] at hd
      simp only at hd
      rw [whom_quiet hcq.1] at hd
      simp only at hd
      have := quiet hcq.1 hcq.2 hd
      rw [this] at hd
      rw [e]
      exact hd
    · exact e hsb
  refine Inv.all (D := D) (w0 := w) (bl := fun _ => none) (p := 0) (Ψ := Ψ) H hy (fun Ψ' a' w' l1 l2 l3 => hQ Ψ' _ σf a' w' l1 l2 l3 hfin) ops.size _ _ _ ?_ ?_
  · unfold left
    refine Nat.le_trans (List.length_filter_le _ _) (by simp)
  · have hnone : ∀ i, (Array.replicate ops.size false).getD i false = false := fun i => by
      rw [Array.getD_eq_getD_getElem?, Array.getElem?_replicate]
      split <;> rfl
    have e1 : ∀ t, (goE ops (vis ops is (Array.replicate ops.size false) 0) T (undefs ops.toList E)).get t = (undefs ops.toList E).get t := fun t => goE_off _ _ fun s _ _ => by
      unfold vis; rw [hnone]; rfl
    have hst : st T σf 0 = σ := by
      unfold st
      cases T with
      | nil => exact hl.2.symm
      | cons s T => exact hl.2.1
    refine ⟨by simp, fun i hi => ?_, Nat.zero_le _, fun q s hq => by omega, fun q s _ _ _ => hnone _, le, ?_, fun q s _ _ _ hh => ?_, fun q q' b c c' hh => (by cases hh), fun q b c hh => (by cases hh), (Below.refl _ w).drew⟩
    · rw [hnone] at hi; cases hi
    · rw [hst]
      exact Rel.congr ⟨hr.size, hr.env.undefs _, hr.sg.drew, hr.dsub, hr.defs⟩ e1
    · rw [hnone] at hh; cases hh
theorem W_draw {P : Program} {Y : YEnv} {N : Nat} {rd : Option Nat} {lo : Nat × Nat} {id : Nat} {ops : Array Oper} {E : Env} {σ : Sg} {Q : Exit → Env → Sg → Prop} (ks : List Nat) (is : List Nat) (plan : List (Nat × Nat)) (pre : List (List Nat))
    (hm : P.follows .mixedOrders = true) (hc : drawOK ops is plan pre = true)
    (h : ∀ K : Env → Sg → Prop, (∀ E' σ', Q .normal (keep ks E') σ' → K E' σ') → GD P Y N ops is (undefs ops.toList E) σ [] (fun T E' σ' => Dem P ops T.reverse σ' plan ∧ K E' σ')) : W P Y N rd lo (.region id ops true) E σ Q := by
  intro Ψ0 D hb hy hrd Ψ a w le hr
  exact wpIn_region_any hm (draw_any is plan pre hc (h _ fun _ _ k => k) hy le hr fun Ψ' E' σ' a' w' l1 l2 l3 k => ⟨_, σ', Ψ', l1, l2.keep ks, l3, k⟩)
end Go.Proofs.YteklodljdndcoaaGreatDoor
namespace Go.Proofs.YteklodljdndcoaaGreatDoor
open Go Go.RowKit
def Sg.ext (σ : Sg) (l : List (Option (List PV))) (rm : List Nat) (ys : List LState := []) : Sg := ⟨σ.store ++ l, σ.rooms ++ rm, σ.ys ++ ys⟩
section
variable (σ : Sg) (l l' : List (Option (List PV))) (rm rm' : List Nat) (ys ys' : List LState)
theorem Sg.ext_nil : σ.ext [] [] = σ := by simp [Sg.ext]
theorem Sg.push_ext (zs : List PV) : (σ.ext l rm ys).push zs = σ.ext (l ++ [some zs]) rm ys := by simp [Sg.push, Sg.ext]
theorem Sg.push_new (zs : List PV) : σ.push zs = σ.ext [some zs] [] := by simp [Sg.push, Sg.ext]
theorem Sg.pushRoom_ext (n : Nat) : (σ.ext l rm ys).pushRoom n = σ.ext l (rm ++ [n]) ys := by simp [Sg.pushRoom, Sg.ext]
theorem Sg.pushRoom_new (n : Nat) : σ.pushRoom n = σ.ext [] [n] := by simp [Sg.pushRoom, Sg.ext]
theorem Sg.pushY_ext : (σ.ext l rm ys).pushY = σ.ext l rm (ys ++ [.ready]) := by simp [Sg.pushY, Sg.ext]
theorem Sg.pushY_new : σ.pushY = σ.ext [] [] [.ready] := by simp [Sg.pushY, Sg.ext]
theorem Sg.ext_ext : (σ.ext l rm ys).ext l' rm' ys' = σ.ext (l ++ l') (rm ++ rm') (ys ++ ys') := by simp [Sg.ext]
theorem Sg.len_ext : (σ.ext l rm ys).store.length = σ.store.length + l.length := by simp [Sg.ext]
theorem Sg.rooms_ext : (σ.ext l rm ys).rooms.length = σ.rooms.length + rm.length := by simp [Sg.ext]
theorem Sg.ys_ext : (σ.ext l rm ys).ys.length = σ.ys.length + ys.length := by simp [Sg.ext]
theorem Sg.ysget_ext (k : Nat) : (σ.ext l rm ys).ys[σ.ys.length + k]? = ys[k]? := by
  show (σ.ys ++ ys)[σ.ys.length + k]? = _
  rw [List.getElem?_append_right (by omega)]
  simp
theorem Sg.ysget_ext0 : (σ.ext l rm ys).ys[σ.ys.length]? = ys[0]? := Sg.ysget_ext σ l rm ys 0
theorem Sg.setY_ext (k : Nat) (s : LState) : (σ.ext l rm ys).setY (σ.ys.length + k) s = σ.ext l rm (ys.set k s) := by
  simp [Sg.setY, Sg.ext, List.set_append_right]
theorem Sg.setY_ext0 (s : LState) : (σ.ext l rm ys).setY σ.ys.length s = σ.ext l rm (ys.set 0 s) := Sg.setY_ext σ l rm ys 0 s
theorem Sg.popY_ext (k : Nat) : (σ.ext l rm ys).popY (σ.ys.length + k) = σ.ext l rm (ys.take k) := by
  simp [Sg.popY, Sg.ext, List.take_append, List.take_of_length_le]
theorem Sg.popY_ext0 : (σ.ext l rm ys).popY σ.ys.length = σ.ext l rm [] := by
  have := Sg.popY_ext σ l rm ys 0
  simpa using this
theorem Sg.get_ext (k : Nat) : (σ.ext l rm ys).store[σ.store.length + k]? = l[k]? := by
  show (σ.store ++ l)[σ.store.length + k]? = _
  rw [List.getElem?_append_right (by omega)]
  simp
theorem Sg.get_ext0 : (σ.ext l rm ys).store[σ.store.length]? = l[0]? := Sg.get_ext σ l rm ys 0
variable {σ l rm ys}
variable (σ l rm ys)
theorem Sg.room_ext (k : Nat) : (σ.ext l rm ys).rooms[σ.rooms.length + k]? = rm[k]? := by
  show (σ.rooms ++ rm)[σ.rooms.length + k]? = _
  rw [List.getElem?_append_right (by omega)]
  simp
theorem Sg.room_ext0 : (σ.ext l rm ys).rooms[σ.rooms.length]? = rm[0]? := Sg.room_ext σ l rm ys 0
theorem Sg.set_ext (k : Nat) (cs : List PV) : (σ.ext l rm ys).setVar (σ.store.length + k) cs = σ.ext (l.set k (some cs)) rm ys := by
  simp [Sg.setVar, Sg.ext, List.set_append_right]
theorem Sg.set_ext0 (cs : List PV) : (σ.ext l rm ys).setVar σ.store.length cs = σ.ext (l.set 0 (some cs)) rm ys := Sg.set_ext σ l rm ys 0 cs
theorem Sg.setRoom_ext (k n : Nat) : (σ.ext l rm ys).setRoom (σ.rooms.length + k) n = σ.ext l (rm.set k n) ys := by
  simp [Sg.setRoom, Sg.ext, List.set_append_right]
theorem Sg.setRoom_ext0 (n : Nat) : (σ.ext l rm ys).setRoom σ.rooms.length n = σ.ext l (rm.set 0 n) ys := Sg.setRoom_ext σ l rm ys 0 n
variable {σ l rm ys}
variable (σ l rm ys)
theorem Sg.cut_ext (k : Nat) (j : Nat) : (σ.ext l rm).cut (σ.store.length + k) (σ.rooms.length + j) σ.ys.length = σ.ext (l.take k) (rm.take j) := by
  simp [Sg.cut, Sg.ext, List.take_append, List.take_of_length_le]
theorem Sg.cut_ext0 : (σ.ext l rm).cut σ.store.length σ.rooms.length σ.ys.length = σ := by
  simp [Sg.cut, Sg.ext]
theorem Sg.cut_exty (k : Nat) (j m : Nat) : (σ.ext l rm ys).cut (σ.store.length + k) (σ.rooms.length + j) (σ.ys.length + m) = σ.ext (l.take k) (rm.take j) (ys.take m) := by
  simp [Sg.cut, Sg.ext, List.take_append, List.take_of_length_le]
end
theorem Clean.mono {a b c a' b' c' : Nat} (h1 : a ≤ a') (h2 : b ≤ b') (h3 : c ≤ c') {p : PV} (h : Clean a b c p) : Clean a' b' c' p := by
  induction h with
  | undef => exact .undef
  | bool b => exact .bool b
  | int k n => exact .int k n
  | str s => exact .str s
  | nilptr => exact .nilptr
  | ptr id off h => exact .ptr id off (by omega)
  | eptr es elems i off _ ih => exact .eptr es elems i off ih
  | nilsl => exact .nilsl
  | isl elems own _ ho ih => exact .isl elems own ih fun r n es e => by have := ho r n es e; omega
  | msl id off len h => exact .msl id off len (by omega)
  | agg cs _ ih => exact .agg cs ih
  | tuple cs _ ih => exact .tuple cs ih
  | func fn fs cs _ _ ih ih' => exact .func fn fs cs ih ih'
  | yield y h => exact .yield y (by omega)
  | nilfunc => exact .nilfunc
  | niliface => exact .niliface
  | iface t p _ ih => exact .iface t p ih
  | mapv id h => exact .mapv id (by omega)
  | nilmap => exact .nilmap
  | iter id h => exact .iter id (by omega)
  | itst mid n seen h => exact .itst mid n seen (by omega)
  | gsl id len es h => exact .gsl id len es (by omega)
  | gnil => exact .gnil
  | bself id t h => exact .bself id t (by omega)
  | bbuf l r t _ ih => exact .bbuf l r t ih
  | mark => exact .mark
mutual
def PV.ro : PV → PV
  | .eptr es elems i off => .eptr es (PV.roL elems) i off
  | .isl elems _ => .isl (PV.roL elems) .ro
  | .agg cs => .agg (PV.roL cs)
  | .tuple cs => .tuple (PV.roL cs)
  | .func fn a b => .func fn (PV.roL a) (PV.roL b)
  | .iface t p => .iface t (PV.ro p)
  | p => p
def PV.roL : List PV → List PV
  | [] => []
  | p :: ps => PV.ro p :: PV.roL ps
end
theorem PV.roL_map : ∀ l : List PV, PV.roL l = l.map PV.ro := by
  intro l
  induction l with
  | nil => rfl
  | cons p ps ih => simp only [PV.roL, List.map_cons, ih]
theorem PV.ro_cells (p : PV) : p.ro.cells = p.cells.map PV.ro := by
  cases p <;> simp only [PV.ro, PV.cells, PV.roL_map, List.map_cons, List.map_nil]
theorem VR.ro {Ψ : Ty} {p : PV} {x : Value} (h : VR Ψ p x) : VR Ψ p.ro x := by
  have row : ∀ {elems : List PV} {es : Nat}, (∀ (k : Nat) (e : PV), elems[k]? = some e → e.cells.length = es) → ∀ (k : Nat) (e : PV), (elems.map PV.ro)[k]? = some e → e.cells.length = es := by
    intro elems es h k e he
    simp only [List.getElem?_map, Option.map_eq_some_iff] at he
    obtain ⟨e', he', rfl⟩ := he
    rw [PV.ro_cells, List.length_map]
    exact h k e' he'
  have each : ∀ {elems : List PV} {Pr : Nat → Nat → PV → Prop} {Pr' : Nat → Nat → PV → Prop}, (∀ (k : Nat) (e : PV) (j : Nat) (p : PV), elems[k]? = some e → e.cells[j]? = some p → Pr k j p) →
      (∀ k j p, Pr k j p → Pr' k j p.ro) → ∀ (k : Nat) (e : PV) (j : Nat) (p : PV), (elems.map PV.ro)[k]? = some e → e.cells[j]? = some p → Pr' k j p := by
    intro elems Pr Pr' h hh k e j p he hp
    simp only [List.getElem?_map, Option.map_eq_some_iff] at he
    obtain ⟨e', he', rfl⟩ := he
    rw [PV.ro_cells] at hp
    simp only [List.getElem?_map, Option.map_eq_some_iff] at hp
    obtain ⟨p', hp', rfl⟩ := hp
    exact hh k j p' (h k e' j p' he' hp')
  have each1 : ∀ {cs : List PV} {xs : Array Value}, (∀ (j : Nat) (p : PV) (v : Value), cs[j]? = some p → xs[j]? = some v → VR Ψ p.ro v) → ∀ (j : Nat) (p : PV) (v : Value), (cs.map PV.ro)[j]? = some p → xs[j]? = some v → VR Ψ p v := by
    intro cs xs h j p v hp hv
    simp only [List.getElem?_map, Option.map_eq_some_iff] at hp
    obtain ⟨p', hp', rfl⟩ := hp
    exact h j p' v hp' hv
  induction h with
  | undef x => exact .undef x
  | bool b => exact .bool b
  | int k n => exact .int k n
  | str s => exact .str s
  | nilptr => exact .nilptr
  | ptr id off b hb hz => exact .ptr id off b hb hz
  | eptr es elems i off b o vals hs h1 h2 ih =>
    simp only [PV.ro, PV.roL_map]
    exact .eptr es _ i off b o vals (row hs) (each (Pr := fun k j _ => Ψ.imm b (o + k * es + j) = some (vals k j)) (Pr' := fun k j _ => Ψ.imm b (o + k * es + j) = some (vals k j)) h1 fun _ _ _ h => h)
      (each (Pr := fun k j p => VR Ψ p.ro (vals k j)) (Pr' := fun k j p => VR Ψ p (vals k j)) ih fun _ _ _ h => h)
  | nilsl => exact .nilsl
  | islnil own a h => exact .islnil .ro a trivial
  | isl es elems own b o cap vals hs h1 h2 hc ho ih =>
    simp only [PV.ro, PV.roL_map]
    have := VR.isl (Ψ := Ψ) es (elems.map PV.ro) .ro b o cap vals (row hs) (each (Pr := fun k j _ => Ψ.imm b (o + k * es + j) = some (vals k j)) (Pr' := fun k j _ => Ψ.imm b (o + k * es + j) = some (vals k j)) h1 fun _ _ _ h => h)
      (each (Pr := fun k j p => VR Ψ p.ro (vals k j)) (Pr' := fun k j p => VR Ψ p (vals k j)) ih fun _ _ _ h => h) (by simpa using hc) trivial
    rw [List.length_map] at this
    exact this
  | msl id off len b cap h hz hc => exact .msl id off len b cap h hz hc
  | agg cs vs hl h ih => simp only [PV.ro, PV.roL_map]; exact .agg _ _ (by simpa using hl) (each1 ih)
  | tuple cs vs hl h ih => simp only [PV.ro, PV.roL_map]; exact .tuple _ _ (by simpa using hl) (each1 ih)
  | func fn fs cs xs ys hl hl' h h' ih ih' => simp only [PV.ro, PV.roL_map]; exact .func fn _ _ _ _ (by simpa using hl) (by simpa using hl') (each1 ih) (each1 ih')
  | yield y l d h => exact .yield y l d h
  | nilfunc => exact .nilfunc
  | niliface => exact .niliface
  | iface t p x h ih => exact .iface t _ x ih
  | map id b h => exact .map id b h
  | nilmap => exact .nilmap
  | iter id b h => exact .iter id b h
  | gsl id len es b cap h hz h0 hc => exact .gsl id len es b cap h hz h0 hc
  | gnil a => exact .gnil a
  | bself id t b x h hz hx => exact .bself id t b x h hz hx
  | bbuf l r t x h ht _ => exact .bbuf l r t x h ht
theorem VRs.ro {Ψ : Ty} {ps : List PV} {xs : Array Value} (h : VRs Ψ ps xs) : VRs Ψ (ps.map PV.ro) xs := by
  refine ⟨by rw [h.1, List.length_map], fun j p v h1 h2 => ?_⟩
  simp only [List.getElem?_map, Option.map_eq_some_iff] at h1
  obtain ⟨p', hp', rfl⟩ := h1
  exact (h.2 j p' v hp' h2).ro
/-- Who is called asks nothing of the owners. -/
theorem PC.ofRo {P : Program} {Y : YEnv} {f : FuncId} {args args' : List PV} {σ σ' : Sg} {v : PV} (h : PC P Y f args' σ v σ') (e : args.map PV.ro = args') : PC P Y f args σ v σ' := by
  subst e
  exact ⟨h.1, fun Ψ vals w hs ha hy => h.2 Ψ vals w hs ha.ro hy⟩
theorem Fin_same {P : Program} {fn : Func} {σ : Sg} {l : List (Option (List PV))} {rm : List Nat} {E : Env} {rs : List PV} {v : PV} (hcl : CleanSg σ) (hr : resPV P (σ.ext l rm) E fn.results.toList = some rs)
    (hv : Wk σ.store.length σ.rooms.length σ.ys.length (oneOr rs) v) : Fin P fn σ v σ E (σ.ext l rm) := by
  refine ⟨rs, _, _, hr, Nat.le_refl _, Nat.le_refl _, hv, (Sg.cut_ext0 σ l rm).symm, fun id cs hid hc p hp => ?_, by simp [Sg.ext]⟩
  have hc' : (σ.store ++ l)[id]? = some (some cs) := hc
  rw [List.getElem?_append_left hid] at hc'
  exact hcl id cs hid hc' p hp
theorem Fin_self {P : Program} {fn : Func} {σ : Sg} {E : Env} {rs : List PV} {v : PV} (hcl : CleanSg σ) (hr : resPV P σ E fn.results.toList = some rs)
    (hv : Wk σ.store.length σ.rooms.length σ.ys.length (oneOr rs) v) : Fin P fn σ v σ E σ := by
  have := Fin_same (l := []) (rm := []) hcl (by rw [Sg.ext_nil]; exact hr) hv
  rw [Sg.ext_nil] at this
  exact this
theorem Wk.ro {nβ nr ny : Nat} {p q : PV} (h : Clean nβ nr ny q) (e : p.ro = q) : Wk nβ nr ny p q := fun Ψ x k => by
  subst e
  exact k.ro.trim h
end Go.Proofs.YteklodljdndcoaaGreatDoor
namespace Go.Proofs.YteklodljdndcoaaGreatDoor
open Go Go.RowKit
def ldS (σ : Sg) (id off : Nat) : Option PV :=
  match σ.store[id]? with
  | some (some cs) => cs[off]?
  | _ => none
def ldA (k : Nat) (σ : Sg) (id off : Nat) : Option PV :=
  match σ.store[id]? with
  | some (some cs) => if off + k ≤ cs.length then some (.agg ((cs.drop off).take k)) else none
  | _ => none
def elS (l : List PV) (i off : Nat) : Option PV :=
  match l[i]? with
  | some e => e.cells[off]?
  | none => none
def elA (k : Nat) (l : List PV) (i off : Nat) : Option PV :=
  match l[i]? with
  | some e => if off + k ≤ e.cells.length then some (.agg ((e.cells.drop off).take k)) else none
  | none => none
def stX (k : Nat) (σ : Sg) (id off : Nat) (p : PV) : Option Sg :=
  match σ.store[id]? with
  | some (some cs) => if defd p && p.cells.all PV.scalar && (p.cells.length == k) && decide (off + p.cells.length ≤ cs.length) then some (σ.setVar id (putCells cs off p.cells)) else none
  | _ => none
def iaX (c : Nat) (l : List PV) (i : Int) : Option PV :=
  if 0 ≤ i ∧ i < (l.length : Int) then
    (match l[i.toNat]? with
     | some el => if el.cells.length = c then some (.eptr c l i.toNat 0) else none
     | none => none) else none
def iaM (c id off len : Nat) (i : Int) : Option PV := if 0 ≤ i ∧ i < (len : Int) then some (.ptr id (off + i.toNat * c)) else none
def bsX (c len : Nat) (parts : List (Nat × PV)) : Option PV :=
  if (parts.map (·.1) == List.range len) && parts.all (fun p => defd p.2 && (p.2.cells.length == c)) && decide (len * c ≤ 2 ^ 24) then some (.isl (parts.map (·.2)) .exact) else none
def appX (c b : Nat) (σ : Sg) (l : List PV) (own : Own) (m : List PV) : Option (PV × Sg) :=
  if m.all (fun q => (q.cells.length == c) && q.cells.all PV.scalar) && decide ((l.length + m.length) * b ≤ 2 ^ 47) then
    (match own with
     | .ro => none
     | .exact => if l.all (fun q => q.cells.length == c) then some (.isl (l ++ m) (.tok σ.rooms.length (l.length + m.length) c), σ.pushRoom (l.length + m.length)) else none
     | .tok r n es => if es = c ∧ σ.rooms[r]? = some n then some (.isl (l ++ m) (.tok r (n + m.length) es), σ.setRoom r (n + m.length)) else none)
  else none
def bldX (zs : List PV) (ps : List (Nat × Nat)) (parts : List (Nat × PV)) : Option PV :=
  if parts.all (fun p => defd p.2) then (fillPV (fun i => ps[i]?) zs parts).map .agg else none
section
variable {P : Program} {t e : TypeId} {d : TypeDesc} {k c b : Nat} {σ : Sg} {id off : Nat} {l m : List PV} {own own' : Own} {es i : Nat}
theorem ldS_of (h : P.underlying t = some d) (ha : isAggD d = false) : loadPV P σ t (.ptr id off) = ldS σ id off := by simp [loadPV, h, partPV, ha, ldS]; rfl
theorem ldA_of (h : P.underlying t = some d) (ha : isAggD d = true) (hc : P.cellsOf t = k) : loadPV P σ t (.ptr id off) = ldA k σ id off := by simp [loadPV, h, partPV, ha, hc, ldA]; rfl
theorem elS_of (h : P.underlying t = some d) (ha : isAggD d = false) : loadPV P σ t (.eptr es l i off) = elS l i off := by simp [loadPV, h, partPV, ha, elS]; rfl
theorem elA_of (h : P.underlying t = some d) (ha : isAggD d = true) (hc : P.cellsOf t = k) : loadPV P σ t (.eptr es l i off) = elA k l i off := by simp [loadPV, h, partPV, ha, hc, elA]; rfl
theorem stX_of (h : P.underlying t = some d) (hc : P.cellsOf t = k) (p : PV) : storePV P σ t (.ptr id off) p = stX k σ id off p := by simp [storePV, h, hc, stX]; rfl
theorem iaX_of (h : P.underlying t = some (.slice e)) (he : P.underlying e = some d) (hc : P.cellsOf e = c) (kd : IntKind) (n : Int) : indexAddrPV P t (.isl l own) (.int kd n) = iaX c l n := by
  unfold indexAddrPV iaX
  rw [h]
  simp only [he, hc]
  split
  · cases l[n.toNat]? <;> rfl
  · rfl
theorem iaM_of (h : P.underlying t = some (.slice e)) (he : P.underlying e = some d) (hc : P.cellsOf e = c) (kd : IntKind) (len : Nat) (n : Int) : indexAddrPV P t (.msl id off len) (.int kd n) = iaM c id off len n := by
  simp [indexAddrPV, h, he, hc, iaM]
theorem iaA_of {len : Nat} (h : P.underlying t = some (.array len e)) (he : P.underlying e = some d) (hc : P.cellsOf e = c) (kd : IntKind) (n : Int) : indexAddrPV P t (.ptr id off) (.int kd n) = iaM c id off len n := by
  simp [indexAddrPV, h, he, hc, iaM]
theorem len_of (h : P.underlying t = some (.slice e)) : lenPV P t (.isl l own) = some (.int .i64 l.length) := by simp [lenPV, h]
theorem lenM_of (h : P.underlying t = some (.slice e)) (n : Nat) : lenPV P t (.msl id off n) = some (.int .i64 n) := by simp [lenPV, h]
theorem bsX_of {zs : List PV} (h : P.underlying t = some (.slice e)) (he : P.underlying e = some d) (hc : P.cellsOf e = c) (hz : zeroPV P e = some zs) (len : Nat) (parts : List (Nat × PV)) : buildSlicePV P t len parts = bsX c len parts := by
  unfold buildSlicePV bsX
  rw [h]
  simp only [he, hc, hz, Option.isSome_some, Bool.true_and, Bool.and_true]
theorem appX_of {zs : List PV} (h : P.underlying t = some (.slice e)) (he : P.underlying e = some d) (hc : P.cellsOf e = c) (hb : P.bytesOf e = b) (hb0 : b ≠ 0) (hc0 : 0 < c) (hz : zeroPV P e = some zs) (hzl : zs.length = c) :
    appendPV P σ t t (.isl l own) (.isl m own') = appX c b σ l own m := by
  unfold appendPV appX
  rw [h]
  simp only [he, hc, hb, hz, hzl, Option.isSome_some, Bool.true_and, Option.map_some, BEq.rfl, Bool.and_true, hb0, hc0, ne_eq, not_false_eq_true, and_self, decide_true]
  rfl
theorem bldX_of {zs : List PV} {fs : Array Field} {ps : List (Nat × Nat)} (hz : zeroPV P t = some zs) (h : P.underlying t = some (.struct fs)) (hf : fs.toList.all (fun f => (P.underlying f.type).isSome) = true) (hp : structPlaces P fs.toList = ps) (parts : List (Nat × PV)) :
    buildPV P t parts = bldX zs ps parts := by
  unfold buildPV
  rw [hz, h]
  simp only [hf, hp, bldX, Bool.true_and]
theorem fa_of {fs : Array Field} {f : Nat} {fl : Field} (h : P.underlying t = some (.struct fs)) (hf : fs[f]? = some fl) (hd : P.underlying fl.type = some d) (hc : P.cellsOf fl.type = c) (hc0 : c ≠ 0) (ho : fl.offset = k) :
    fieldAddrPV P t (.ptr id off) f = some (.ptr id (off + k)) ∧ fieldAddrPV P t (.eptr es l i off) f = some (.eptr es l i (off + k)) := by
  simp [fieldAddrPV, fieldOf, h, hf, hd, hc, hc0, ho]
theorem fa1_of {fs : Array Field} {f : Nat} {fl : Field} (h : P.underlying t = some (.struct fs)) (hf : fs[f]? = some fl) (hd : P.underlying fl.type = some d) (hc : P.cellsOf fl.type = c) (hc0 : (c == 0) = false) (ho : fl.offset = k) :
    fieldAddrPV P t (.ptr id off) f = some (.ptr id (off + k)) := (fa_of (es := 0) (l := []) (i := 0) h hf hd hc (by simpa using hc0) ho).1
theorem fa2_of {fs : Array Field} {f : Nat} {fl : Field} (h : P.underlying t = some (.struct fs)) (hf : fs[f]? = some fl) (hd : P.underlying fl.type = some d) (hc : P.cellsOf fl.type = c) (hc0 : (c == 0) = false) (ho : fl.offset = k) :
    fieldAddrPV P t (.eptr es l i off) f = some (.eptr es l i (off + k)) := (fa_of (id := 0) h hf hd hc (by simpa using hc0) ho).2
theorem fpS_of {fs : Array Field} {f : Nat} {fl : Field} (h : P.underlying t = some (.struct fs)) (hf : fs[f]? = some fl) (hd : P.underlying fl.type = some d) (ha : isAggD d = false) (ho : fl.offset = k) (cs : List PV) :
    fieldPV P t (.agg cs) f = cs[k]? := by
  simp [fieldPV, fieldOf, h, hf, hd, ho, partPV, ha]
theorem fpA_of {fs : Array Field} {f : Nat} {fl : Field} (h : P.underlying t = some (.struct fs)) (hf : fs[f]? = some fl) (hd : P.underlying fl.type = some d) (ha : isAggD d = true) (hc : P.cellsOf fl.type = c) (ho : fl.offset = k) (cs : List PV) :
    fieldPV P t (.agg cs) f = if k + c ≤ cs.length then some (.agg ((cs.drop k).take c)) else none := by
  simp [fieldPV, fieldOf, h, hf, hd, hc, ho, partPV, ha]
end
abbrev I (n : Int) : PV := .int .i64 n
abbrev ints (xs : List Int) : PV := .isl (xs.map I) .ro
theorem ldS_at {σ : Sg} {id off : Nat} {cs : List PV} (h : σ.store[id]? = some (some cs)) : ldS σ id off = cs[off]? := by simp [ldS, h]
theorem stX_at {k : Nat} {σ : Sg} {id off : Nat} {cs : List PV} (h : σ.store[id]? = some (some cs)) (p : PV) :
    stX k σ id off p = if defd p && p.cells.all PV.scalar && (p.cells.length == k) && decide (off + p.cells.length ≤ cs.length) then some (σ.setVar id (putCells cs off p.cells)) else none := by simp [stX, h]
section ext
variable (σ : Sg) (l : List (Option (List PV))) (rm : List Nat) (ys : List LState) (j : Nat)
theorem ldS_ext (off : Nat) : ldS (σ.ext l rm ys) (σ.store.length + j) off = match l[j]? with | some (some cs) => cs[off]? | _ => none := by simp only [ldS, Sg.get_ext]
theorem ldS_ext0 (off : Nat) : ldS (σ.ext l rm ys) σ.store.length off = match l[0]? with | some (some cs) => cs[off]? | _ => none := by simp only [ldS, Sg.get_ext0]
theorem ldA_ext (k off : Nat) : ldA k (σ.ext l rm ys) (σ.store.length + j) off = match l[j]? with | some (some cs) => if off + k ≤ cs.length then some (.agg ((cs.drop off).take k)) else none | _ => none := by simp only [ldA, Sg.get_ext]
theorem ldA_ext0 (k off : Nat) : ldA k (σ.ext l rm ys) σ.store.length off = match l[0]? with | some (some cs) => if off + k ≤ cs.length then some (.agg ((cs.drop off).take k)) else none | _ => none := by simp only [ldA, Sg.get_ext0]
theorem stX_ext (k off : Nat) (p : PV) : stX k (σ.ext l rm ys) (σ.store.length + j) off p = match l[j]? with
    | some (some cs) => if defd p && p.cells.all PV.scalar && (p.cells.length == k) && decide (off + p.cells.length ≤ cs.length) then some (σ.ext (l.set j (some (putCells cs off p.cells))) rm ys) else none
    | _ => none := by
  simp only [stX, Sg.get_ext, Sg.set_ext]
theorem stX_ext0 (k off : Nat) (p : PV) : stX k (σ.ext l rm ys) σ.store.length off p = match l[0]? with
    | some (some cs) => if defd p && p.cells.all PV.scalar && (p.cells.length == k) && decide (off + p.cells.length ≤ cs.length) then some (σ.ext (l.set 0 (some (putCells cs off p.cells))) rm ys) else none
    | _ => none := by
  simp only [stX, Sg.get_ext0, Sg.set_ext0]
  rfl
end ext
end Go.Proofs.YteklodljdndcoaaGreatDoor
namespace Go.Proofs.YteklodljdndcoaaGreatDoor
open Go Go.RowKit
theorem least (p : Nat → Prop) (h : ∃ n, p n) : ∃ n, p n ∧ ∀ m, p m → n ≤ m := by
  obtain ⟨n, hn⟩ := h
  induction n using Nat.strongRecOn with
  | _ n ih =>
    by_cases h : ∃ m, m < n ∧ p m
    · obtain ⟨m, hm, hp⟩ := h
      exact ih m hm hp
    · exact ⟨n, hn, fun m hm => Nat.le_of_not_lt fun hlt => h ⟨m, hlt, hm⟩⟩
section
variable {P : Program} {Y : YEnv} {N : Nat} {rd : Option Nat} {lo : Nat × Nat} {E : Env} {σ : Sg} {Q : Exit → Env → Sg → Prop}
open Classical in
theorem W_loopK {c : Code} (I : Nat → Env → Sg → Prop) (k : Nat) (h0 : I k E σ)
    (round : ∀ k E σ, I k E σ → W P Y N rd lo c E σ (Seq (fun E' σ' => ∃ k', k' < k ∧ I k' E' σ') Q)) : W P Y N rd lo (.loop c) E σ Q := by
  refine W_loop (fun E σ => ∃ k, I k E σ) (fun E σ => if h : ∃ k, I k E σ then Classical.choose (least (fun k => I k E σ) h) else 0) ⟨k, h0⟩ fun E σ h => ?_
  refine W_mono (round _ E σ (Classical.choose_spec (least (fun k => I k E σ) h)).1) fun ex E' σ' hq => ?_
  cases ex with
  | normal =>
    obtain ⟨k', hk, hI⟩ := hq
    have h' : ∃ k, I k E' σ' := ⟨k', hI⟩
    refine ⟨h', ?_⟩
    rw [dif_pos h', dif_pos h]
    exact Nat.lt_of_le_of_lt ((Classical.choose_spec (least (fun k => I k E' σ') h')).2 k' hI) hk
  | _ => exact hq
end
theorem Clean.all_nil {a b c : Nat} : ∀ p, p ∈ ([] : List PV) → Clean a b c p := fun p h => by cases h
theorem Clean.all_cons {a b c : Nat} {q : PV} {l : List PV} (h : Clean a b c q) (k : ∀ p, p ∈ l → Clean a b c p) : ∀ p, p ∈ q :: l → Clean a b c p := fun p hp => by
  rcases List.mem_cons.1 hp with rfl | hp
  · exact h
  · exact k p hp
theorem Clean.ints {a b c : Nat} (xs : List Int) (o : Own) (ho : ∀ r n es, o = .tok r n es → r < b) : Clean a b c (.isl (xs.map I) o) :=
  .isl _ _ (fun e he => by obtain ⟨n, _, rfl⟩ := List.mem_map.1 he; exact .int _ _) ho
/-- A function that leaves new variables behind. -/
theorem Fin_ext {P : Program} {fn : Func} {σ : Sg} {l : List (Option (List PV))} {rm : List Nat} {E : Env} {rs : List PV} {v : PV} (k j : Nat) (hcl : CleanSg σ)
    (hr : resPV P (σ.ext l rm) E fn.results.toList = some rs)
    (hv : Wk (σ.store.length + k) (σ.rooms.length + j) σ.ys.length (oneOr rs) v)
    (hc : ∀ cs, some cs ∈ l.take k → ∀ p, p ∈ cs → Clean (σ.store.length + k) (σ.rooms.length + j) σ.ys.length p) : Fin P fn σ v (σ.ext (l.take k) (rm.take j)) E (σ.ext l rm) := by
  refine ⟨rs, _, _, hr, Nat.le_add_right _ _, Nat.le_add_right _ _, hv, (Sg.cut_ext σ l rm k j).symm, fun id cs hid hcs p hp => ?_, by simp [Sg.ext]⟩
  have hcs' : (σ.store ++ l)[id]? = some (some cs) := hcs
  by_cases h : id < σ.store.length
  · rw [List.getElem?_append_left h] at hcs'
    exact (hcl id cs h hcs' p hp).mono (Nat.le_add_right _ _) (Nat.le_add_right _ _) (Nat.le_refl _)
  · rw [List.getElem?_append_right (by omega)] at hcs'
    refine hc cs ?_ p hp
    refine List.mem_of_getElem? (i := id - σ.store.length) ?_
    rw [List.getElem?_take_of_lt (by omega)]
    exact hcs'
/-- In a state of which nothing was added. -/
theorem Fin_end {P : Program} {fn : Func} {σ σ' : Sg} {E : Env} {rs : List PV} {v : PV} (hcl : CleanSg σ') (h1 : σ'.store.length = σ.store.length) (h2 : σ'.rooms.length = σ.rooms.length) (h3 : σ'.ys.length = σ.ys.length)
    (hr : resPV P σ' E fn.results.toList = some rs) (hv : Wk σ.store.length σ.rooms.length σ.ys.length (oneOr rs) v) : Fin P fn σ v σ' E σ' := by
  refine ⟨rs, _, _, hr, Nat.le_refl _, Nat.le_refl _, hv, ?_, ?_, h3⟩
  · rw [← h1, ← h2, ← h3]; simp [Sg.cut]
  · unfold CleanSg at hcl; rw [h1, h2, h3] at hcl; exact hcl
end Go.Proofs.YteklodljdndcoaaGreatDoor
namespace Go.Proofs.YteklodljdndcoaaGreatDoor
open Go Go.RowKit
theorem CleanCut_ext {σ : Sg} {l : List (Option (List PV))} {rm : List Nat} {ys : List LState} {nb nr ny : Nat} (hcl : CleanSg σ) (hb : σ.store.length ≤ nb) (hr : σ.rooms.length ≤ nr) (hy : σ.ys.length ≤ ny)
    (h : ∀ cs, some cs ∈ l → ∀ p, p ∈ cs → Clean nb nr ny p) : CleanCut (σ.ext l rm ys) nb nr ny := by
  intro id cs _ hcs p hp
  have hcs' : (σ.store ++ l)[id]? = some (some cs) := hcs
  by_cases hid : id < σ.store.length
  · rw [List.getElem?_append_left hid] at hcs'
    exact (hcl id cs hid hcs' p hp).mono hb hr hy
  · rw [List.getElem?_append_right (by omega)] at hcs'
    exact h cs (List.mem_of_getElem? hcs') p hp
theorem CleanSg_ext {σ : Sg} {l : List (Option (List PV))} {rm : List Nat} {ys : List LState} (hcl : CleanSg σ) (h : ∀ cs, some cs ∈ l → ∀ p, p ∈ cs → Clean (σ.store.length + l.length) (σ.rooms.length + rm.length) (σ.ys.length + ys.length) p) :
    CleanSg (σ.ext l rm ys) := by
  unfold CleanSg
  rw [Sg.len_ext, Sg.rooms_ext, Sg.ys_ext]
  exact CleanCut_ext hcl (Nat.le_add_right _ _) (Nat.le_add_right _ _) (Nat.le_add_right _ _) h
/-- All of it is old, or plain. -/
theorem CleanL_nil {a b c : Nat} : ∀ cs, some cs ∈ ([] : List (Option (List PV))) → ∀ p, p ∈ cs → Clean a b c p := fun cs h => by cases h
theorem CleanL_cons {a b c : Nat} {ds : List PV} {l : List (Option (List PV))} (h : ∀ p, p ∈ ds → Clean a b c p) (k : ∀ cs, some cs ∈ l → ∀ p, p ∈ cs → Clean a b c p) : ∀ cs, some cs ∈ some ds :: l → ∀ p, p ∈ cs → Clean a b c p := by
  intro cs hcs
  rcases List.mem_cons.1 hcs with e | e
  · injection e with e; subst e; exact h
  · exact k cs e
theorem Clean.cells_of {a b c a' b' c' : Nat} {cs : List PV} (h : Clean a b c (.agg cs)) (h1 : a ≤ a') (h2 : b ≤ b') (h3 : c ≤ c') : ∀ p, p ∈ cs → Clean a' b' c' p := fun p hp => by
  cases h with
  | agg _ hh => exact (hh p hp).mono h1 h2 h3
/-- Cut back to what was there before. -/
theorem Weak.cutExt {N : Nat} {lo : Nat × Nat} {E E' : Env} {σ : Sg} {l : List (Option (List PV))} {rm : List Nat} {ys : List LState} (k j : Nat) (h1 : lo.1 ≤ σ.store.length + k) (h2 : lo.2 ≤ σ.rooms.length + j) (hcl : CleanSg σ)
    (hc : ∀ cs, some cs ∈ l.take k → ∀ p, p ∈ cs → Clean (σ.store.length + k) (σ.rooms.length + j) (σ.ys.length + ys.length) p)
    (hE : ∀ t, Wk (σ.store.length + k) (σ.rooms.length + j) (σ.ys.length + ys.length) (E.get t) (E'.get t)) : Weak N lo E (σ.ext l rm ys) E' (σ.ext (l.take k) (rm.take j) ys) := by
  have := Weak.cut (N := N) (lo := lo) (E := E) (E' := E') (σ := σ.ext l rm ys) (σ.store.length + k) (σ.rooms.length + j) h1 h2 (by rw [Sg.ys_ext]; exact hE) (by
    rw [Sg.ys_ext]
    intro id cs hid hcs p hp
    have hcs' : (σ.store ++ l)[id]? = some (some cs) := hcs
    by_cases h : id < σ.store.length
    · rw [List.getElem?_append_left h] at hcs'
      exact (hcl id cs h hcs' p hp).mono (Nat.le_add_right _ _) (Nat.le_add_right _ _) (Nat.le_add_right _ _)
    · rw [List.getElem?_append_right (by omega)] at hcs'
      refine hc cs ?_ p hp
      refine List.mem_of_getElem? (i := id - σ.store.length) ?_
      rw [List.getElem?_take_of_lt (by omega)]
      exact hcs')
  rw [Sg.ys_ext, Sg.cut_exty, List.take_length] at this
  exact this
theorem Wk.nil_get {a b c : Nat} {E : Env} : ∀ t, Wk a b c (E.get t) (Env.get [] t) := fun _ _ _ _ => .undef _
/-- f over the n numbers from lo on, one after the other. -/
def foldUp {α : Type} (f : Int → α → α) (lo : Int) : Nat → α → α
  | 0, a => a
  | n + 1, a => f (lo + n) (foldUp f lo n a)
def upTo {α : Type} (f : Int → α → α) (lo s : Int) (a : α) : α := foldUp f lo (s - lo).toNat a
theorem upTo_start {α : Type} (f : Int → α → α) (lo : Int) (a : α) : upTo f lo lo a = a := by simp [upTo, foldUp]
theorem upTo_step {α : Type} (f : Int → α → α) {lo s : Int} (h : lo ≤ s) (a : α) : upTo f lo (s + 1) a = f s (upTo f lo s a) := by
  unfold upTo
  rw [show (s + 1 - lo).toNat = (s - lo).toNat + 1 by omega]
  simp only [foldUp]
  rw [show lo + ((s - lo).toNat : Int) = s by omega]
end Go.Proofs.YteklodljdndcoaaGreatDoor
namespace Go.Proofs.YteklodljdndcoaaGreatDoor
open Go Go.RowKit
theorem Weak.room {N : Nat} {lo : Nat × Nat} {E : Env} {σ : Sg} {t es : Nat} {l : List PV} (ht : E.get t = .isl l .exact) (hes : ∀ q, q ∈ l → q.cells.length = es) :
    Weak N lo E σ ((t, .isl l (.tok σ.rooms.length l.length es)) :: E) (σ.pushRoom l.length) := by
  intro Ψ0 Ψ D a w hb le hr
  have hv := hr.env t
  rw [ht] at hv
  have fin : ∀ x : Option (Nat × Nat × Nat × Nat), (∀ b e c s, x = some (b, e, c, s) → ¬ e < c) → (∀ Ψ', Ψ.le Ψ' → Ψ'.hist σ.rooms.length l.length = some x → VR Ψ' (.isl l (.tok σ.rooms.length l.length es)) (a.tmps.getD t undef)) →
      ∃ Ψ', Ψ0.le Ψ' ∧ Rel N D Ψ' ((t, .isl l (.tok σ.rooms.length l.length es)) :: E) (σ.pushRoom l.length) a w := by
    intro x hx hvr
    obtain ⟨le', hs'⟩ := hr.sg.newRoom l.length x (fun b e c s hh hlt => absurd hlt (hx b e c s hh))
    refine ⟨_, le.trans le', hr.size, fun t' => ?_, hs', fun d hd => le'.ds _ (hr.dsub d hd), ?_⟩
    · simp only [Env.get]
      split
      · rename_i e; subst e
        exact hvr _ le' (by simp [Ty.addHist])
      · exact (hr.env t').mono le'
    · obtain ⟨rs, r1, r2, r3⟩ := hr.defs
      exact ⟨rs, r1, r2, fun r hm => ⟨le'.ds _ (r3 r hm).1, (r3 r hm).2⟩⟩
  generalize hx : a.tmps.getD t undef = x at hv fin
  cases hv with
  | islnil _ a0 _ => exact fin none (fun b e c s h => by cases h) fun Ψ' _ hh => .islnil _ a0 ⟨_, hh⟩
  | isl es0 _ _ b o cap vals hs h1 h2 hc ho =>
    have hcap : cap = l.length := ho
    subst hcap
    refine fin (some (b, o + l.length * es, o + l.length * es, es)) (fun b e c s h => by injection h with h; injection h with _ h; injection h with h1 h; injection h with h2 _; omega) fun Ψ' le' hh => ?_
    by_cases hl : l = []
    · subst hl
      exact .isl es [] _ b o 0 vals (fun k e h => by simp at h) (fun k e j p h => by simp at h) (fun k e j p h => by simp at h) (Nat.le_refl _) ⟨rfl, hh⟩
    · have : es0 = es := by
        cases l with
        | nil => exact absurd rfl hl
        | cons q l => rw [← hs 0 q rfl]; exact hes q (by simp)
      subst this
      exact .isl es0 l _ b o _ vals hs (fun k e j p q1 q2 => le'.imm _ _ _ (h1 k e j p q1 q2)) (fun k e j p q1 q2 => (h2 k e j p q1 q2).mono le') (Nat.le_refl _) ⟨rfl, hh⟩
/-- Any part of what is known of the temporaries. -/
theorem Weak.env {N : Nat} {lo : Nat × Nat} {E E' : Env} {σ : Sg} (h : ∀ t Ψ x, VR Ψ (E.get t) x → VR Ψ (E'.get t) x) : Weak N lo E σ E' σ := fun _ Ψ _ _ _ _ le hr =>
  ⟨Ψ, le, hr.size, fun t => h t Ψ _ (hr.env t), hr.sg, hr.dsub, hr.defs⟩
theorem Weak.keep {N : Nat} {lo : Nat × Nat} {E : Env} {σ : Sg} (ks : List Nat) : Weak N lo E σ (keep ks E) σ := fun _ Ψ _ _ _ _ le hr => ⟨Ψ, le, hr.keep ks⟩
theorem Weak.ro {N : Nat} {lo : Nat × Nat} {E : Env} {σ : Sg} (t : Nat) : Weak N lo E σ ((t, (E.get t).ro) :: E) σ := Weak.env fun t' Ψ x h => by
  simp only [Env.get]
  split
  · rename_i e; subst e; exact h.ro
  · exact h
theorem cleanE_nil {a b c : Nat} : ∀ kv, kv ∈ ([] : Env) → Clean a b c kv.2 := fun kv h => by cases h
theorem cleanE_cons {a b c t : Nat} {v : PV} {E : Env} (h : Clean a b c v) (k : ∀ kv, kv ∈ E → Clean a b c kv.2) : ∀ kv, kv ∈ (t, v) :: E → Clean a b c kv.2 := fun kv hk => by
  rcases List.mem_cons.1 hk with rfl | hk
  · exact h
  · exact k kv hk
theorem Wk.env {a b c : Nat} : ∀ {E : Env}, (∀ kv, kv ∈ E → Clean a b c kv.2) → ∀ t, Wk a b c (E.get t) (E.get t) := by
  intro E
  induction E with
  | nil => intro _ t; exact Wk.of_clean .undef
  | cons kv E ih =>
    intro h t
    obtain ⟨k, v⟩ := kv
    simp only [Env.get]
    split
    · exact Wk.of_clean (h (k, v) (List.mem_cons_self ..))
    · exact ih (fun kv hk => h kv (List.mem_cons_of_mem _ hk)) t
end Go.Proofs.YteklodljdndcoaaGreatDoor
namespace Go.Proofs.YteklodljdndcoaaGreatDoor
open Go Go.RowKit
def setE1 (t : Nat) (v : PV) : Env → Env
  | [] => []
  | (k, x) :: E => if k = t then (k, v) :: E else (k, x) :: setE1 t v E
def setE : Env → Env → Env
  | E, [] => E
  | E, (t, v) :: u => setE (setE1 t v E) u
theorem setE_nil (E : Env) : setE E [] = E := rfl
theorem setE_cons (E : Env) (t : Nat) (v : PV) (u : Env) : setE E ((t, v) :: u) = setE (setE1 t v E) u := rfl
theorem setE1_nil (t : Nat) (v : PV) : setE1 t v [] = [] := rfl
theorem setE1_cons (t k : Nat) (v x : PV) (E : Env) : setE1 t v ((k, x) :: E) = if k = t then (k, v) :: E else (k, x) :: setE1 t v E := rfl
section
variable {P : Program} {Y : YEnv} {N : Nat} {rd : Option Nat} {lo : Nat × Nat} {E : Env} {σ : Sg} {Q : Exit → Env → Sg → Prop}
theorem W_loopT {α : Type} {c : Code} (upd : α → Env) (st : α → Sg) (Inv : α → Prop) (μ : α → Nat) (s0 : α) (hE : setE E (upd s0) = E) (hσ : st s0 = σ) (h0 : Inv s0)
    (round : ∀ s, Inv s → W P Y N rd lo c (setE E (upd s)) (st s) (Seq (fun E' σ' => ∃ s', Weak N lo E' σ' (setE E (upd s')) (st s') ∧ μ s' < μ s ∧ Inv s') Q)) : W P Y N rd lo (.loop c) E σ Q := by
  refine W_loopK (fun k E' σ' => ∃ s, k = μ s ∧ Inv s ∧ setE E (upd s) = E' ∧ st s = σ') (μ s0) ⟨s0, rfl, h0, hE, hσ⟩ ?_
  rintro k E' σ' ⟨s, rfl, hi, rfl, rfl⟩
  refine W_post_weak (W_mono (round s hi) ?_)
  intro ex E1 σ1 h
  cases ex with
  | normal =>
    obtain ⟨s', hw, hm, hi'⟩ := h
    exact ⟨_, _, hw, μ s', hm, s', rfl, hi', rfl, rfl⟩
  | _ => exact ⟨_, _, Weak.refl, h⟩
theorem W_loopS {α : Type} {c : Code} (upd : α → Env) (Inv : α → Prop) (μ : α → Nat) (s0 : α) (hE : setE E (upd s0) = E) (h0 : Inv s0)
    (round : ∀ s, Inv s → W P Y N rd lo c (setE E (upd s)) σ (Seq (fun E' σ' => ∃ s', Weak N lo E' σ' (setE E (upd s')) σ ∧ μ s' < μ s ∧ Inv s') Q)) : W P Y N rd lo (.loop c) E σ Q :=
  W_loopT upd (fun _ => σ) Inv μ s0 hE rfl h0 round
theorem Weak.eq {E E' : Env} {σ σ' : Sg} (h : E = E') (k : σ = σ') : Weak N lo E σ E' σ' := by subst h k; exact Weak.refl
end
def CleanAll (a b c : Nat) (l : List PV) : Prop := ∀ p, p ∈ l → Clean a b c p
def CleanLs (a b c : Nat) (l : List (Option (List PV))) : Prop := ∀ cs, some cs ∈ l → ∀ p, p ∈ cs → Clean a b c p
def CleanEs (a b c : Nat) (E : Env) : Prop := ∀ kv, kv ∈ E → Clean a b c kv.2
def OwnLt (b : Nat) (o : Own) : Prop := ∀ r n es, o = .tok r n es → r < b
section
variable {a b c : Nat}
theorem CleanAll_nil : CleanAll a b c [] = True := eq_true Clean.all_nil
theorem CleanAll_cons {p : PV} {l : List PV} : CleanAll a b c (p :: l) = (Clean a b c p ∧ CleanAll a b c l) := by simp [CleanAll]
theorem CleanAll_append {l m : List PV} : CleanAll a b c (l ++ m) = (CleanAll a b c l ∧ CleanAll a b c m) := by
  simp only [CleanAll, List.mem_append]
  exact propext ⟨fun h => ⟨fun p hp => h p (.inl hp), fun p hp => h p (.inr hp)⟩, fun h p hp => hp.elim (h.1 p) (h.2 p)⟩
theorem CleanLs_nil : CleanLs a b c [] = True := eq_true CleanL_nil
theorem CleanLs_cons {cs : List PV} {l : List (Option (List PV))} : CleanLs a b c (some cs :: l) = (CleanAll a b c cs ∧ CleanLs a b c l) := by
  refine propext ⟨fun h => ⟨h cs (List.mem_cons_self ..), fun ds hd => h ds (List.mem_cons_of_mem _ hd)⟩, fun h => CleanL_cons h.1 h.2⟩
theorem CleanEs_nil : CleanEs a b c [] = True := eq_true cleanE_nil
theorem CleanEs_cons {t : Nat} {v : PV} {E : Env} : CleanEs a b c ((t, v) :: E) = (Clean a b c v ∧ CleanEs a b c E) := by
  refine propext ⟨fun h => ⟨h (t, v) (List.mem_cons_self ..), fun ds hd => h ds (List.mem_cons_of_mem _ hd)⟩, fun h => cleanE_cons h.1 h.2⟩
theorem OwnLt_ro : OwnLt b .ro = True := eq_true fun r n es e => by cases e
theorem OwnLt_exact : OwnLt b .exact = True := eq_true fun r n es e => by cases e
theorem OwnLt_tok {r n es : Nat} : OwnLt b (.tok r n es) = (r < b) := propext ⟨fun h => h r n es rfl, fun h r' n' es' e => by cases e; exact h⟩
theorem Cl_undef : Clean a b c .undef = True := eq_true .undef
theorem Cl_bool {x : Bool} : Clean a b c (.bool x) = True := eq_true (.bool _)
theorem Cl_int {k : IntKind} {x : Int} : Clean a b c (.int k x) = True := eq_true (.int _ _)
theorem Cl_str {x : ByteArray} : Clean a b c (.str x) = True := eq_true (.str _)
theorem Cl_nilptr : Clean a b c .nilptr = True := eq_true .nilptr
theorem Cl_nilsl : Clean a b c .nilsl = True := eq_true .nilsl
theorem Cl_nilfunc : Clean a b c .nilfunc = True := eq_true .nilfunc
theorem Cl_niliface : Clean a b c .niliface = True := eq_true .niliface
theorem Cl_ptr {id off : Nat} : Clean a b c (.ptr id off) = (id < a) := propext ⟨fun h => by cases h; assumption, fun h => .ptr _ _ h⟩
theorem Cl_msl {id off len : Nat} : Clean a b c (.msl id off len) = (id < a) := propext ⟨fun h => by cases h; assumption, fun h => .msl _ _ _ h⟩
theorem Cl_yield {y : Nat} : Clean a b c (.yield y) = (y < c) := propext ⟨fun h => by cases h; assumption, fun h => .yield _ h⟩
theorem Cl_eptr {es : Nat} {l : List PV} {i off : Nat} : Clean a b c (.eptr es l i off) = CleanAll a b c l := propext ⟨fun h => by cases h; assumption, fun h => .eptr _ _ _ _ h⟩
theorem Cl_isl {l : List PV} {o : Own} : Clean a b c (.isl l o) = (CleanAll a b c l ∧ OwnLt b o) := propext ⟨fun h => by cases h; exact ⟨‹_›, ‹_›⟩, fun h => .isl _ _ h.1 h.2⟩
theorem Cl_agg {l : List PV} : Clean a b c (.agg l) = CleanAll a b c l := propext ⟨fun h => by cases h; assumption, fun h => .agg _ h⟩
theorem Cl_tuple {l : List PV} : Clean a b c (.tuple l) = CleanAll a b c l := propext ⟨fun h => by cases h; assumption, fun h => .tuple _ h⟩
theorem Cl_func {fn : Fn} {l m : List PV} : Clean a b c (.func fn l m) = (CleanAll a b c l ∧ CleanAll a b c m) := propext ⟨fun h => by cases h; exact ⟨‹_›, ‹_›⟩, fun h => .func _ _ _ h.1 h.2⟩
theorem CleanAll_ints {xs : List Int} : CleanAll a b c (xs.map I) = True := eq_true fun p hp => by obtain ⟨x, _, rfl⟩ := List.mem_map.1 hp; exact .int _ _
theorem CleanAll_map {α : Type} {f : α → PV} {xs : List α} (h : ∀ x, Clean a b c (f x)) : CleanAll a b c (xs.map f) = True := eq_true fun p hp => by obtain ⟨x, _, rfl⟩ := List.mem_map.1 hp; exact h x
end
attribute [go_sem] CleanAll_nil CleanAll_cons CleanAll_append CleanLs_nil CleanLs_cons CleanEs_nil CleanEs_cons OwnLt_ro OwnLt_exact OwnLt_tok Cl_undef Cl_bool Cl_int Cl_str Cl_nilptr Cl_nilsl Cl_nilfunc Cl_niliface Cl_ptr Cl_msl Cl_yield Cl_eptr Cl_isl Cl_agg Cl_tuple Cl_func CleanAll_ints
attribute [go_sem] setE_nil setE_cons setE1_nil setE1_cons
theorem Weak.cutX {N : Nat} {lo : Nat × Nat} {E : Env} {σ : Sg} {l : List (Option (List PV))} {rm : List Nat} {ys : List LState} (k j : Nat) (h1 : lo.1 ≤ σ.store.length + k) (h2 : lo.2 ≤ σ.rooms.length + j) (hcl : CleanSg σ)
    (hc : CleanLs (σ.store.length + k) (σ.rooms.length + j) (σ.ys.length + ys.length) (l.take k)) (hE : CleanEs (σ.store.length + k) (σ.rooms.length + j) (σ.ys.length + ys.length) E) :
    Weak N lo E (σ.ext l rm ys) E (σ.ext (l.take k) (rm.take j) ys) := Weak.cutExt k j h1 h2 hcl hc (Wk.env hE)
theorem Wk_eq {a b c : Nat} {p q : PV} (h : p = q) (hc : Clean a b c q) : Wk a b c p q := by subst h; exact Wk.of_clean hc
section
variable {α : Type} {f : α → PV} {xs : List α} {c k i off : Nat} {n : Int}
theorem iaX_m (f : α → PV) (xs : List α) : iaX c (xs.map f) n = if 0 ≤ n then (xs[n.toNat]?).bind fun x => if (f x).cells.length = c then some (.eptr c (xs.map f) n.toNat 0) else none else none := by
  unfold iaX
  by_cases h : 0 ≤ n
  · by_cases h2 : n.toNat < xs.length
    · rw [if_pos ⟨h, by simp; omega⟩, if_pos h]
      simp [h2]
    · rw [if_neg (fun h' => h2 (by have := h'.2; simp at this; omega)), if_pos h]
      rw [List.getElem?_eq_none (by omega)]
      rfl
  · rw [if_neg (fun h' => h h'.1), if_neg h]
theorem elS_m (f : α → PV) (xs : List α) : elS (xs.map f) i off = (xs[i]?).bind fun x => (f x).cells[off]? := by
  simp only [elS, List.getElem?_map]
  cases xs[i]? <;> rfl
theorem elA_m (f : α → PV) (xs : List α) : elA k (xs.map f) i off = (xs[i]?).bind fun x => if off + k ≤ (f x).cells.length then some (.agg (((f x).cells.drop off).take k)) else none := by
  simp only [elA, List.getElem?_map]
  cases xs[i]? <;> rfl
end
theorem bindSome {α β : Type} (x : α) (f : α → Option β) : (some x).bind f = f x := rfl
theorem bindNone {α β : Type} (f : α → Option β) : (none : Option α).bind f = none := rfl
attribute [go_sem] appendAny_isl appendAny_gsl appendAny_gnil
attribute [go_sem] iaX_m elS_m elA_m bindSome bindNone Int.natCast_nonneg Int.toNat_natCast
section
variable {σ : Sg} {d : Nat} {cs cs' : List PV} {l : List (Option (List PV))} {rm : List Nat} {ys : List LState} {k j off : Nat}
theorem sv_len : (σ.setVar d cs).store.length = σ.store.length := by simp [Sg.setVar]
theorem sv_rooms : (σ.setVar d cs).rooms = σ.rooms := rfl
theorem sv_ys : (σ.setVar d cs).ys = σ.ys := rfl
theorem sv_sv : (σ.setVar d cs).setVar d cs' = σ.setVar d cs' := by simp [Sg.setVar]
theorem sv_get (h : d < σ.store.length) : (σ.setVar d cs).store[d]? = some (some cs) := by simp [Sg.setVar, h]
theorem ext_get (h : d < σ.store.length) : (σ.ext l rm ys).store[d]? = σ.store[d]? := by
  show (σ.store ++ l)[d]? = _
  rw [List.getElem?_append_left h]
theorem sv_ext (h : d < σ.store.length) : (σ.ext l rm ys).setVar d cs = (σ.setVar d cs).ext l rm ys := by
  simp [Sg.setVar, Sg.ext, List.set_append_left _ _ h]
theorem ldS_sv (h : d < σ.store.length) : ldS (σ.setVar d cs) d off = cs[off]? := ldS_at (sv_get h)
theorem stX_sv (h : d < σ.store.length) (p : PV) : stX k (σ.setVar d cs) d off p = if defd p && p.cells.all PV.scalar && (p.cells.length == k) && decide (off + p.cells.length ≤ cs.length) then some (σ.setVar d (putCells cs off p.cells)) else none := by
  rw [stX_at (sv_get h), sv_sv]
theorem ldS_svx : ldS ((σ.setVar d cs).ext l rm ys) (σ.store.length + j) off = match l[j]? with | some (some cs) => cs[off]? | _ => none := by
  rw [← sv_len (d := d) (cs := cs)]; exact ldS_ext ..
theorem ldS_svx0 : ldS ((σ.setVar d cs).ext l rm ys) σ.store.length off = match l[0]? with | some (some cs) => cs[off]? | _ => none := by
  rw [← sv_len (d := d) (cs := cs)]; exact ldS_ext0 ..
theorem ldA_svx : ldA k ((σ.setVar d cs).ext l rm ys) (σ.store.length + j) off = match l[j]? with | some (some cs) => if off + k ≤ cs.length then some (.agg ((cs.drop off).take k)) else none | _ => none := by
  rw [← sv_len (d := d) (cs := cs)]; exact ldA_ext ..
theorem ldA_svx0 : ldA k ((σ.setVar d cs).ext l rm ys) σ.store.length off = match l[0]? with | some (some cs) => if off + k ≤ cs.length then some (.agg ((cs.drop off).take k)) else none | _ => none := by
  rw [← sv_len (d := d) (cs := cs)]; exact ldA_ext0 ..
theorem stX_svx (p : PV) : stX k ((σ.setVar d cs).ext l rm ys) (σ.store.length + j) off p = match l[j]? with
    | some (some ds) => if defd p && p.cells.all PV.scalar && (p.cells.length == k) && decide (off + p.cells.length ≤ ds.length) then some ((σ.setVar d cs).ext (l.set j (some (putCells ds off p.cells))) rm ys) else none
    | _ => none := by
  rw [← sv_len (d := d) (cs := cs)]; exact stX_ext ..
theorem stX_svx0 (p : PV) : stX k ((σ.setVar d cs).ext l rm ys) σ.store.length off p = match l[0]? with
    | some (some ds) => if defd p && p.cells.all PV.scalar && (p.cells.length == k) && decide (off + p.cells.length ≤ ds.length) then some ((σ.setVar d cs).ext (l.set 0 (some (putCells ds off p.cells))) rm ys) else none
    | _ => none := by
  rw [← sv_len (d := d) (cs := cs)]; exact stX_ext0 ..
theorem setVar_ext (cs : List PV) : (σ.ext l rm ys).setVar (σ.store.length + j) cs = σ.ext (l.set j (some cs)) rm ys := Sg.set_ext σ l rm ys j cs
theorem setVar_ext0 (cs : List PV) : (σ.ext l rm ys).setVar σ.store.length cs = σ.ext (l.set 0 (some cs)) rm ys := Sg.set_ext0 σ l rm ys cs
theorem setVar_svx (cs' : List PV) : ((σ.setVar d cs).ext l rm ys).setVar (σ.store.length + j) cs' = (σ.setVar d cs).ext (l.set j (some cs')) rm ys := by
  rw [← sv_len (d := d) (cs := cs)]; exact setVar_ext cs'
theorem setVar_svx0 (cs' : List PV) : ((σ.setVar d cs).ext l rm ys).setVar σ.store.length cs' = (σ.setVar d cs).ext (l.set 0 (some cs')) rm ys := by
  rw [← sv_len (d := d) (cs := cs)]; exact setVar_ext0 cs'
theorem lt_of_get {x : Option (List PV)} (h : σ.store[d]? = some x) : d < σ.store.length := (List.getElem?_eq_some_iff.1 h).1
end
attribute [go_sem] sv_len sv_rooms sv_ys sv_sv ldS_svx ldS_svx0 ldA_svx ldA_svx0 stX_svx stX_svx0 setVar_ext setVar_ext0 setVar_svx setVar_svx0
theorem CleanSg_set {σ : Sg} {d : Nat} {cs : List PV} (h : CleanSg σ) (hc : CleanAll σ.store.length σ.rooms.length σ.ys.length cs) : CleanSg (σ.setVar d cs) := by
  unfold CleanSg
  rw [sv_len, sv_rooms, sv_ys]
  intro id ds hid hds p hp
  by_cases hd : d = id
  · subst hd
    have hds' : (σ.store.set d (some cs))[d]? = some (some ds) := hds
    rw [List.getElem?_set_self hid] at hds'
    injection hds' with e
    injection e with e
    subst e
    exact hc p hp
  · have hds' : (σ.store.set d (some cs))[id]? = some (some ds) := hds
    rw [List.getElem?_set_ne hd] at hds'
    exact h id ds hid hds' p hp
/-- The end of a function that set a variable that was there before. -/
theorem Fin_set {P : Program} {fn : Func} {σ : Sg} {d : Nat} {cs : List PV} {l : List (Option (List PV))} {rm : List Nat} {E : Env} {rs : List PV} {v : PV} (hcl : CleanSg σ) (hc : CleanAll σ.store.length σ.rooms.length σ.ys.length cs)
    (hr : resPV P ((σ.setVar d cs).ext l rm) E fn.results.toList = some rs)
    (hv : Wk σ.store.length σ.rooms.length σ.ys.length (oneOr rs) v) : Fin P fn σ v (σ.setVar d cs) E ((σ.setVar d cs).ext l rm) := by
  have hcl' := CleanSg_set (d := d) hcl hc
  refine ⟨rs, _, _, hr, Nat.le_refl _, Nat.le_refl _, hv, ?_, fun id ds hid hds p hp => ?_, by simp [Sg.ext, Sg.setVar]⟩
  · have := Sg.cut_ext0 (σ.setVar d cs) l rm
    rw [sv_len, sv_rooms, sv_ys] at this
    exact this.symm
  · have hc' : ((σ.setVar d cs).store ++ l)[id]? = some (some ds) := hds
    rw [List.getElem?_append_left (by rw [sv_len]; exact hid)] at hc'
    have := hcl' id ds (by rw [sv_len]; exact hid) hc' p hp
    rw [sv_len, sv_rooms, sv_ys] at this
    exact this
theorem Fin_set0 {P : Program} {fn : Func} {σ : Sg} {d : Nat} {cs : List PV} {E : Env} {rs : List PV} {v : PV} (hcl : CleanSg σ) (hc : CleanAll σ.store.length σ.rooms.length σ.ys.length cs)
    (hr : resPV P (σ.setVar d cs) E fn.results.toList = some rs)
    (hv : Wk σ.store.length σ.rooms.length σ.ys.length (oneOr rs) v) : Fin P fn σ v (σ.setVar d cs) E (σ.setVar d cs) := by
  have := Fin_set (l := []) (rm := []) hcl hc (by rw [Sg.ext_nil]; exact hr) hv
  rw [Sg.ext_nil] at this
  exact this
end Go.Proofs.YteklodljdndcoaaGreatDoor
namespace Go.Proofs.YteklodljdndcoaaGreatDoor
open Go Go.RowKit
theorem W_regionJ {P : Program} {Y : YEnv} {N : Nat} {rd : Option Nat} {lo : Nat × Nat} {id : Nat} {ops : Array Oper} {E : Env} {σ : Sg} {Q : Exit → Env → Sg → Prop} (ks : List Nat) (upd : Env)
    (rest : Q .normal (keep ks (upd ++ E)) σ) (h : ∀ K : Env → Sg → Prop, (∀ E', keep ks E' = keep ks (upd ++ E) → K E' σ) → GL P Y N ops ops.toList E σ K) : W P Y N rd lo (.region id ops false) E σ Q :=
  W_region ks fun K hK => h K fun E' e => hK E' σ (by rw [e]; exact rest)
theorem wrapI {n : Int} (h1 : -9223372036854775808 ≤ n) (h2 : n ≤ 9223372036854775807) : IntKind.i64.wrap n = n := wrap_i64_id (by omega) (by omega)
/-- How a test is read. -/
theorem nrm : (∀ (p : Prop) [Decidable p], (decide p = true) = p) ∧ (∀ (p : Prop) [Decidable p], (decide p = false) = ¬p) ∧ (∀ b : Bool, ((!b) = true) = (b = false)) ∧ (∀ b : Bool, ((!b) = false) = (b = true)) ∧
    (∀ a b : Nat, ((a : Int) = (b : Int)) = (a = b)) ∧ (∀ a b : Nat, ((a : Int) < (b : Int)) = (a < b)) ∧ (∀ a b : Nat, ((a : Int) ≤ (b : Int)) = (a ≤ b)) ∧
    (∀ a b : Int, ((a != b) = true) = (¬ a = b)) ∧ (∀ a b : Int, ((a != b) = false) = (a = b)) ∧ (∀ a b : Int, ((a == b) = true) = (a = b)) ∧ (∀ a b : Int, ((a == b) = false) = (¬ a = b)) ∧
    (∀ b : Bool, (¬ b = true) = (b = false)) ∧ (∀ b : Bool, (¬ b = false) = (b = true)) := by
  refine ⟨fun p _ => by simp, fun p _ => by simp, fun b => by simp, fun b => by simp, fun a b => propext Int.natCast_inj, fun a b => propext Int.ofNat_lt, fun a b => propext Int.ofNat_le, fun a b => by simp, fun a b => by simp, fun a b => by simp, fun a b => by simp, fun b => by simp, fun b => by simp⟩
def okC (c : Nat) (m : List PV) : Prop := (m.all fun q => (q.cells.length == c) && q.cells.all PV.scalar) = true
theorem okC_nil {c : Nat} : okC c [] = True := eq_true rfl
theorem okC_cons {c : Nat} {q : PV} {m : List PV} : okC c (q :: m) = ((q.cells.length = c ∧ q.cells.all PV.scalar = true) ∧ okC c m) := by simp [okC]
theorem okC_append {c : Nat} {l m : List PV} : okC c (l ++ m) = (okC c l ∧ okC c m) := by simp [okC]
theorem okC_ints {xs : List Int} : okC 1 (xs.map I) = True := eq_true (by simp [okC, PV.cells, PV.scalar])
theorem okC_map {α : Type} {c : Nat} {f : α → PV} {xs : List α} (h : ∀ x, okC c [f x]) : okC c (xs.map f) = True := eq_true (by
  unfold okC at h ⊢
  rw [List.all_eq_true]
  intro q hq
  obtain ⟨x, _, rfl⟩ := List.mem_map.1 hq
  simpa using h x)
theorem okC_len {c : Nat} {m : List PV} (h : okC c m) : (m.all fun q => q.cells.length == c) = true := by
  unfold okC at h
  rw [List.all_eq_true] at h ⊢
  intro q hq
  have := h q hq
  simp only [Bool.and_eq_true] at this
  exact this.1
theorem appX_exact {c b : Nat} {σ : Sg} {l m : List PV} (hm : okC c m) (hl : okC c l) (hs : (l.length + m.length) * b ≤ 140737488355328) :
    appX c b σ l .exact m = some (.isl (l ++ m) (.tok σ.rooms.length (l.length + m.length) c), σ.pushRoom (l.length + m.length)) := by
  have hm' : (m.all fun q => (q.cells.length == c) && q.cells.all PV.scalar) = true := hm
  unfold appX
  rw [hm', okC_len hl]
  simp [hs]
theorem appX_tok {c b : Nat} {σ : Sg} {l m : List PV} {r n : Nat} (hm : okC c m) (hr : σ.rooms[r]? = some n) (hs : (l.length + m.length) * b ≤ 140737488355328) :
    appX c b σ l (.tok r n c) m = some (.isl (l ++ m) (.tok r (n + m.length) c), σ.setRoom r (n + m.length)) := by
  have hm' : (m.all fun q => (q.cells.length == c) && q.cells.all PV.scalar) = true := hm
  unfold appX
  rw [hm']
  simp [hs, hr]
section
variable {σ : Sg} {d : Nat} {cs : List PV} {l : List (Option (List PV))} {rm : List Nat} {ys : List LState} {j n : Nat}
theorem room_svx : ((σ.setVar d cs).ext l rm ys).rooms[σ.rooms.length + j]? = rm[j]? := Sg.room_ext (σ.setVar d cs) l rm ys j
theorem room_svx0 : ((σ.setVar d cs).ext l rm ys).rooms[σ.rooms.length]? = rm[0]? := Sg.room_ext0 (σ.setVar d cs) l rm ys
theorem setRoom_svx : ((σ.setVar d cs).ext l rm ys).setRoom (σ.rooms.length + j) n = (σ.setVar d cs).ext l (rm.set j n) ys := Sg.setRoom_ext (σ.setVar d cs) l rm ys j n
theorem setRoom_svx0 : ((σ.setVar d cs).ext l rm ys).setRoom σ.rooms.length n = (σ.setVar d cs).ext l (rm.set 0 n) ys := Sg.setRoom_ext0 (σ.setVar d cs) l rm ys n
end
attribute [go_sem] bsX okC_nil okC_cons okC_append okC_ints Sg.room_ext Sg.room_ext0 Sg.setRoom_ext Sg.setRoom_ext0 room_svx room_svx0 setRoom_svx setRoom_svx0
theorem ro_isl {l : List PV} {o : Own} : (PV.isl l o).ro = .isl (PV.roL l) .ro := by simp only [PV.ro]
theorem ro_agg {l : List PV} : (PV.agg l).ro = .agg (PV.roL l) := by simp only [PV.ro]
theorem ro_tuple {l : List PV} : (PV.tuple l).ro = .tuple (PV.roL l) := by simp only [PV.ro]
theorem ro_int {k : IntKind} {n : Int} : (PV.int k n).ro = .int k n := by simp only [PV.ro]
theorem ro_bool {b : Bool} : (PV.bool b).ro = .bool b := by simp only [PV.ro]
theorem ro_str {b : ByteArray} : (PV.str b).ro = .str b := by simp only [PV.ro]
theorem ro_ptr {i o : Nat} : (PV.ptr i o).ro = .ptr i o := by simp only [PV.ro]
theorem roL_nil : PV.roL [] = [] := by simp only [PV.roL]
theorem roL_cons {p : PV} {l : List PV} : PV.roL (p :: l) = p.ro :: PV.roL l := by simp only [PV.roL]
theorem roL_append {l m : List PV} : PV.roL (l ++ m) = PV.roL l ++ PV.roL m := by simp only [PV.roL_map, List.map_append]
theorem roL_ints {xs : List Int} : PV.roL (xs.map I) = xs.map I := by simp [PV.roL_map, PV.ro]
theorem roL_enc {α : Type} {f : α → PV} {xs : List α} (h : ∀ x, (f x).ro = f x) : PV.roL (xs.map f) = xs.map f := by simp [PV.roL_map, h]
attribute [go_sem] ro_isl ro_agg ro_tuple ro_int ro_bool ro_str ro_ptr roL_nil roL_cons roL_append roL_ints oneOr
theorem PC.val {P : Program} {Y : YEnv} {f : FuncId} {args : List PV} {σ σ' : Sg} {v v' : PV} (h : PC P Y f args σ v σ') (e : v = v') : PC P Y f args σ v' σ' := by subst e; exact h
/-- The same value n times. -/
def rep (n : Nat) (v : PV) : List PV := List.replicate n v
theorem rep_len (n : Nat) (v : PV) : (rep n v).length = n := by simp [rep]
theorem ixS_of {P : Program} {t e : TypeId} {d : TypeDesc} {len : Nat} (h : P.underlying t = some (.array len e)) (he : P.underlying e = some d) (ha : isAggD d = false) (hc : P.cellsOf e = 1) (kd : IntKind) (n : Int) {cs : List PV} :
    indexPV P t (.agg cs) (.int kd n) = if 0 ≤ n ∧ n < (len : Int) then cs[n.toNat]? else none := by
  simp [indexPV, h, he, hc, partPV, ha]
attribute [go_sem] st List.reverse_cons List.reverse_nil bldX bne_self_eq_false iaM rep_len Int.cast_ofNat_Int List.getElem?_nil List.map_append List.length_append
end Go.Proofs.YteklodljdndcoaaGreatDoor
namespace Go.Proofs.YteklodljdndcoaaGreatDoor
open Go
theorem cells2 : Tryz.prog.cellsOf 2 = 1 := by kernel_rfl
theorem zero2 : zeroPV Tryz.prog 2 = some [.int .i64 0] := by kernel_rfl
theorem cells3 : Tryz.prog.cellsOf 3 = 1 := by kernel_rfl
theorem bytes3 : Tryz.prog.bytesOf 3 = 8 := by kernel_rfl
theorem zero3 : zeroPV Tryz.prog 3 = some [.int .i64 0] := by kernel_rfl
theorem cells4 : Tryz.prog.cellsOf 4 = 1 := by kernel_rfl
theorem zero4 : zeroPV Tryz.prog 4 = some [.bool false] := by kernel_rfl
theorem cells5 : Tryz.prog.cellsOf 5 = 1 := by kernel_rfl
theorem bytes5 : Tryz.prog.bytesOf 5 = 1 := by kernel_rfl
theorem zero5 : zeroPV Tryz.prog 5 = some [.int .u8 0] := by kernel_rfl
theorem cells9 : Tryz.prog.cellsOf 9 = 1 := by kernel_rfl
theorem bytes9 : Tryz.prog.bytesOf 9 = 16 := by kernel_rfl
theorem zero9 : zeroPV Tryz.prog 9 = some [.str .empty] := by kernel_rfl
theorem cells22 : Tryz.prog.cellsOf 22 = 1 := by kernel_rfl
theorem zero22 : zeroPV Tryz.prog 22 = some [.isl [] .exact] := by kernel_rfl
theorem cells23 : Tryz.prog.cellsOf 23 = 1 := by kernel_rfl
theorem zero23 : zeroPV Tryz.prog 23 = some [.isl [] .exact] := by kernel_rfl
theorem cells24 : Tryz.prog.cellsOf 24 = 1 := by kernel_rfl
theorem zero24 : zeroPV Tryz.prog 24 = some [.isl [] .exact] := by kernel_rfl
theorem cells25 : Tryz.prog.cellsOf 25 = 4 := by kernel_rfl
theorem zero25 : zeroPV Tryz.prog 25 = some [.isl [] .exact, .isl [] .exact, .isl [] .exact, .int .i64 0] := by kernel_rfl
theorem cells26 : Tryz.prog.cellsOf 26 = 4 := by kernel_rfl
theorem zero26 : zeroPV Tryz.prog 26 = some [.isl [] .exact, .isl [] .exact, .isl [] .exact, .int .i64 0] := by kernel_rfl
theorem cells27 : Tryz.prog.cellsOf 27 = 6 := by kernel_rfl
theorem zero27 : zeroPV Tryz.prog 27 = some [.isl [] .exact, .isl [] .exact, .isl [] .exact, .int .i64 0, .int .i64 0, .isl [] .exact] := by kernel_rfl
theorem cells28 : Tryz.prog.cellsOf 28 = 6 := by kernel_rfl
theorem bytes28 : Tryz.prog.bytesOf 28 = 112 := by kernel_rfl
theorem zero28 : zeroPV Tryz.prog 28 = some [.isl [] .exact, .isl [] .exact, .isl [] .exact, .int .i64 0, .int .i64 0, .isl [] .exact] := by kernel_rfl
theorem cells29 : Tryz.prog.cellsOf 29 = 1 := by kernel_rfl
theorem bytes29 : Tryz.prog.bytesOf 29 = 24 := by kernel_rfl
theorem zero29 : zeroPV Tryz.prog 29 = some [.isl [] .exact] := by kernel_rfl
theorem cells32 : Tryz.prog.cellsOf 32 = 1 := by kernel_rfl
theorem zero32 : zeroPV Tryz.prog 32 = some [.nilptr] := by kernel_rfl
theorem cells35 : Tryz.prog.cellsOf 35 = 1 := by kernel_rfl
theorem zero35 : zeroPV Tryz.prog 35 = some [.isl [] .exact] := by kernel_rfl
theorem cells37 : Tryz.prog.cellsOf 37 = 1 := by kernel_rfl
theorem zero37 : zeroPV Tryz.prog 37 = some [.isl [] .exact] := by kernel_rfl
theorem cells38 : Tryz.prog.cellsOf 38 = 1 := by kernel_rfl
theorem bytes38 : Tryz.prog.bytesOf 38 = 8 := by kernel_rfl
theorem zero38 : zeroPV Tryz.prog 38 = some [.int .i64 0] := by kernel_rfl
theorem cells42 : Tryz.prog.cellsOf 42 = 1 := by kernel_rfl
theorem zero42 : zeroPV Tryz.prog 42 = some [.isl [] .exact] := by kernel_rfl
theorem cells48 : Tryz.prog.cellsOf 48 = 2 := by kernel_rfl
theorem zero48 : zeroPV Tryz.prog 48 = some [.int .i64 0, .int .i64 0] := by kernel_rfl
theorem cells49 : Tryz.prog.cellsOf 49 = 2 := by kernel_rfl
theorem zero49 : zeroPV Tryz.prog 49 = some [.int .i64 0, .int .i64 0] := by kernel_rfl
theorem cells50 : Tryz.prog.cellsOf 50 = 7 := by kernel_rfl
theorem zero50 : zeroPV Tryz.prog 50 = some [.int .i64 0, .int .i64 0, .int .i64 0, .int .i64 0, .int .i64 0, .int .i64 0, .isl [] .exact] := by kernel_rfl
theorem cells51 : Tryz.prog.cellsOf 51 = 7 := by kernel_rfl
theorem bytes51 : Tryz.prog.bytesOf 51 = 72 := by kernel_rfl
theorem zero51 : zeroPV Tryz.prog 51 = some [.int .i64 0, .int .i64 0, .int .i64 0, .int .i64 0, .int .i64 0, .int .i64 0, .isl [] .exact] := by kernel_rfl
theorem cells52 : Tryz.prog.cellsOf 52 = 6 := by kernel_rfl
theorem zero52 : zeroPV Tryz.prog 52 = some [.int .i64 0, .isl [] .exact, .int .i64 0, .int .i64 0, .int .i64 0, .int .i64 0] := by kernel_rfl
theorem cells53 : Tryz.prog.cellsOf 53 = 6 := by kernel_rfl
theorem bytes53 : Tryz.prog.bytesOf 53 = 64 := by kernel_rfl
theorem zero53 : zeroPV Tryz.prog 53 = some [.int .i64 0, .isl [] .exact, .int .i64 0, .int .i64 0, .int .i64 0, .int .i64 0] := by kernel_rfl
theorem cells54 : Tryz.prog.cellsOf 54 = 1 := by kernel_rfl
theorem zero54 : zeroPV Tryz.prog 54 = some [.isl [] .exact] := by kernel_rfl
theorem cells65 : Tryz.prog.cellsOf 65 = 1 := by kernel_rfl
theorem zero65 : zeroPV Tryz.prog 65 = some [.int .u64 0] := by kernel_rfl
theorem cells66 : Tryz.prog.cellsOf 66 = 1 := by kernel_rfl
theorem zero66 : zeroPV Tryz.prog 66 = some [.int .u64 0] := by kernel_rfl
theorem cells67 : Tryz.prog.cellsOf 67 = 1 := by kernel_rfl
theorem zero67 : zeroPV Tryz.prog 67 = some [.int .u64 0] := by kernel_rfl
theorem cells75 : Tryz.prog.cellsOf 75 = 1 := by kernel_rfl
theorem zero75 : zeroPV Tryz.prog 75 = some [.nilptr] := by kernel_rfl
theorem cells76 : Tryz.prog.cellsOf 76 = 1 := by kernel_rfl
theorem zero76 : zeroPV Tryz.prog 76 = some [.isl [] .exact] := by kernel_rfl
theorem cells77 : Tryz.prog.cellsOf 77 = 2 := by kernel_rfl
theorem zero77 : zeroPV Tryz.prog 77 = some [.nilptr, .isl [] .exact] := by kernel_rfl
theorem cells78 : Tryz.prog.cellsOf 78 = 2 := by kernel_rfl
theorem zero78 : zeroPV Tryz.prog 78 = some [.nilptr, .isl [] .exact] := by kernel_rfl
theorem cells80 : Tryz.prog.cellsOf 80 = 1 := by kernel_rfl
theorem zero80 : zeroPV Tryz.prog 80 = some [.niliface] := by kernel_rfl
theorem cells92 : Tryz.prog.cellsOf 92 = 13 := by kernel_rfl
theorem zero92 : zeroPV Tryz.prog 92 = some [.isl [] .exact, .isl [] .exact, .isl [] .exact, .int .i64 0, .int .i64 0, .isl [] .exact, .isl [] .exact, .int .i64 0, .isl [] .exact, .int .i64 0, .int .i64 0, .int .i64 0, .int .i64 0] := by kernel_rfl
theorem cells93 : Tryz.prog.cellsOf 93 = 13 := by kernel_rfl
theorem zero93 : zeroPV Tryz.prog 93 = some [.isl [] .exact, .isl [] .exact, .isl [] .exact, .int .i64 0, .int .i64 0, .isl [] .exact, .isl [] .exact, .int .i64 0, .isl [] .exact, .int .i64 0, .int .i64 0, .int .i64 0, .int .i64 0] := by kernel_rfl
theorem cells94 : Tryz.prog.cellsOf 94 = 1 := by kernel_rfl
theorem bytes94 : Tryz.prog.bytesOf 94 = 8 := by kernel_rfl
theorem zero94 : zeroPV Tryz.prog 94 = some [.nilfunc] := by kernel_rfl
theorem cells95 : Tryz.prog.cellsOf 95 = 2 := by kernel_rfl
theorem zero95 : zeroPV Tryz.prog 95 = some [.int .i64 0, .int .i64 0] := by kernel_rfl
theorem cells96 : Tryz.prog.cellsOf 96 = 2 := by kernel_rfl
theorem bytes96 : Tryz.prog.bytesOf 96 = 16 := by kernel_rfl
theorem zero96 : zeroPV Tryz.prog 96 = some [.int .i64 0, .int .i64 0] := by kernel_rfl
theorem cells103 : Tryz.prog.cellsOf 103 = 1 := by kernel_rfl
theorem zero103 : zeroPV Tryz.prog 103 = some [.int .u64 0] := by kernel_rfl
theorem cells106 : Tryz.prog.cellsOf 106 = 1 := by kernel_rfl
theorem zero106 : zeroPV Tryz.prog 106 = some [.nilptr] := by kernel_rfl
theorem cells116 : Tryz.prog.cellsOf 116 = 1 := by kernel_rfl
theorem zero116 : zeroPV Tryz.prog 116 = some [.nilfunc] := by kernel_rfl
theorem cells119 : Tryz.prog.cellsOf 119 = 720 := by kernel_rfl
theorem cells120 : Tryz.prog.cellsOf 120 = 720 := by kernel_rfl
theorem cells125 : Tryz.prog.cellsOf 125 = 1 := by kernel_rfl
theorem zero125 : zeroPV Tryz.prog 125 = some [.nilptr] := by kernel_rfl
theorem cells133 : Tryz.prog.cellsOf 133 = 1 := by kernel_rfl
theorem zero133 : zeroPV Tryz.prog 133 = some [.int .i64 0] := by kernel_rfl
theorem cells136 : Tryz.prog.cellsOf 136 = 1 := by kernel_rfl
theorem zero136 : zeroPV Tryz.prog 136 = some [.nilptr] := by kernel_rfl
theorem cells139 : Tryz.prog.cellsOf 139 = 1 := by kernel_rfl
theorem zero139 : zeroPV Tryz.prog 139 = some [.isl [] .exact] := by kernel_rfl
theorem cells141 : Tryz.prog.cellsOf 141 = 1 := by kernel_rfl
theorem zero141 : zeroPV Tryz.prog 141 = some [.isl [] .exact] := by kernel_rfl
theorem cells143 : Tryz.prog.cellsOf 143 = 3 := by kernel_rfl
theorem zero143 : zeroPV Tryz.prog 143 = some [.int .i64 0, .int .i64 0, .int .i64 0] := by kernel_rfl
theorem cells144 : Tryz.prog.cellsOf 144 = 3 := by kernel_rfl
theorem bytes144 : Tryz.prog.bytesOf 144 = 24 := by kernel_rfl
theorem zero144 : zeroPV Tryz.prog 144 = some [.int .i64 0, .int .i64 0, .int .i64 0] := by kernel_rfl
theorem cells146 : Tryz.prog.cellsOf 146 = 24 := by kernel_rfl
theorem zero146 : zeroPV Tryz.prog 146 = some [.int .u8 0, .int .u8 0, .int .u8 0, .int .u8 0, .int .u8 0, .int .u8 0, .int .u8 0, .int .u8 0, .int .u8 0, .int .u8 0, .int .u8 0, .int .u8 0, .int .u8 0, .int .u8 0, .int .u8 0, .int .u8 0, .int .u8 0, .int .u8 0, .int .u8 0, .int .u8 0, .int .u8 0, .int .u8 0, .int .u8 0, .int .u8 0] := by kernel_rfl
theorem cells159 : Tryz.prog.cellsOf 159 = 3 := by kernel_rfl
theorem zero159 : zeroPV Tryz.prog 159 = some [.str .empty, .str .empty, .niliface] := by kernel_rfl
theorem cells160 : Tryz.prog.cellsOf 160 = 3 := by kernel_rfl
theorem zero160 : zeroPV Tryz.prog 160 = some [.str .empty, .str .empty, .niliface] := by kernel_rfl
theorem cells163 : Tryz.prog.cellsOf 163 = 20 := by kernel_rfl
theorem zero163 : zeroPV Tryz.prog 163 = some [.int .u64 0, .int .u64 0, .int .u64 0, .int .u64 0, .int .u64 0, .int .u64 0, .int .u64 0, .int .u64 0, .int .u64 0, .int .u64 0, .int .u64 0, .int .u64 0, .int .u64 0, .int .u64 0, .int .u64 0, .int .u64 0, .int .u64 0, .int .u64 0, .int .u64 0, .int .u64 0] := by kernel_rfl
theorem cells164 : Tryz.prog.cellsOf 164 = 1 := by kernel_rfl
theorem zero164 : zeroPV Tryz.prog 164 = some [.int .u32 0] := by kernel_rfl
theorem cells165 : Tryz.prog.cellsOf 165 = 65 := by kernel_rfl
theorem cells169 : Tryz.prog.cellsOf 169 = 1 := by kernel_rfl
theorem zero169 : zeroPV Tryz.prog 169 = some [.nilptr] := by kernel_rfl
theorem cells170 : Tryz.prog.cellsOf 170 = 1 := by kernel_rfl
theorem zero170 : zeroPV Tryz.prog 170 = some [.str .empty] := by kernel_rfl
theorem cells171 : Tryz.prog.cellsOf 171 = 1 := by kernel_rfl
theorem zero171 : zeroPV Tryz.prog 171 = some [.str .empty] := by kernel_rfl
theorem cells173 : Tryz.prog.cellsOf 173 = 256 := by kernel_rfl
theorem cells174 : Tryz.prog.cellsOf 174 = 2 := by kernel_rfl
theorem zero174 : zeroPV Tryz.prog 174 = some [.int .u8 0, .int .u8 0] := by kernel_rfl
theorem cells175 : Tryz.prog.cellsOf 175 = 2 := by kernel_rfl
theorem zero175 : zeroPV Tryz.prog 175 = some [.int .u8 0, .int .u8 0] := by kernel_rfl
theorem cells176 : Tryz.prog.cellsOf 176 = 32 := by kernel_rfl
theorem zero176 : zeroPV Tryz.prog 176 = some [.int .u8 0, .int .u8 0, .int .u8 0, .int .u8 0, .int .u8 0, .int .u8 0, .int .u8 0, .int .u8 0, .int .u8 0, .int .u8 0, .int .u8 0, .int .u8 0, .int .u8 0, .int .u8 0, .int .u8 0, .int .u8 0, .int .u8 0, .int .u8 0, .int .u8 0, .int .u8 0, .int .u8 0, .int .u8 0, .int .u8 0, .int .u8 0, .int .u8 0, .int .u8 0, .int .u8 0, .int .u8 0, .int .u8 0, .int .u8 0, .int .u8 0, .int .u8 0] := by kernel_rfl
theorem cells179 : Tryz.prog.cellsOf 179 = 32 := by kernel_rfl
theorem zero179 : zeroPV Tryz.prog 179 = some [.int .u8 0, .int .u8 0, .int .u8 0, .int .u8 0, .int .u8 0, .int .u8 0, .int .u8 0, .int .u8 0, .int .u8 0, .int .u8 0, .int .u8 0, .int .u8 0, .int .u8 0, .int .u8 0, .int .u8 0, .int .u8 0, .int .u8 0, .int .u8 0, .int .u8 0, .int .u8 0, .int .u8 0, .int .u8 0, .int .u8 0, .int .u8 0, .int .u8 0, .int .u8 0, .int .u8 0, .int .u8 0, .int .u8 0, .int .u8 0, .int .u8 0, .int .u8 0] := by kernel_rfl
theorem cells180 : Tryz.prog.cellsOf 180 = 64 := by kernel_rfl
theorem zero180 : zeroPV Tryz.prog 180 = some (rep 64 (.int .u8 0)) := by kernel_rfl
theorem cells181 : Tryz.prog.cellsOf 181 = 4 := by kernel_rfl
theorem zero181 : zeroPV Tryz.prog 181 = some [.nilptr, .nilptr, .nilptr, .str .empty] := by kernel_rfl
theorem cells182 : Tryz.prog.cellsOf 182 = 4 := by kernel_rfl
theorem zero182 : zeroPV Tryz.prog 182 = some [.nilptr, .nilptr, .nilptr, .str .empty] := by kernel_rfl
theorem cells183 : Tryz.prog.cellsOf 183 = 0 := by kernel_rfl
theorem zero183 : zeroPV Tryz.prog 183 = some [] := by kernel_rfl
theorem cells184 : Tryz.prog.cellsOf 184 = 0 := by kernel_rfl
theorem zero184 : zeroPV Tryz.prog 184 = some [] := by kernel_rfl
theorem cells185 : Tryz.prog.cellsOf 185 = 0 := by kernel_rfl
theorem zero185 : zeroPV Tryz.prog 185 = some [] := by kernel_rfl
theorem cells187 : Tryz.prog.cellsOf 187 = 1 := by kernel_rfl
theorem cells188 : Tryz.prog.cellsOf 188 = 1 := by kernel_rfl
theorem cells190 : Tryz.prog.cellsOf 190 = 1 := by kernel_rfl
theorem zero190 : zeroPV Tryz.prog 190 = some [.int .i32 0] := by kernel_rfl
theorem cells191 : Tryz.prog.cellsOf 191 = 1 := by kernel_rfl
theorem zero191 : zeroPV Tryz.prog 191 = some [.int .i32 0] := by kernel_rfl
theorem cells192 : Tryz.prog.cellsOf 192 = 11 := by kernel_rfl
theorem zero192 : zeroPV Tryz.prog 192 = some [.int .u64 0, .int .u64 0, .int .u32 0, .int .u8 0, .int .u8 0, .int .u8 0, .int .u8 0, .nilfunc, .nilptr, .int .i32 0, .int .i32 0] := by kernel_rfl
theorem cells193 : Tryz.prog.cellsOf 193 = 11 := by kernel_rfl
theorem zero193 : zeroPV Tryz.prog 193 = some [.int .u64 0, .int .u64 0, .int .u32 0, .int .u8 0, .int .u8 0, .int .u8 0, .int .u8 0, .nilfunc, .nilptr, .int .i32 0, .int .i32 0] := by kernel_rfl
end Go.Proofs.YteklodljdndcoaaGreatDoor
namespace Go.Proofs.YteklodljdndcoaaGreatDoor
open Go
set_option maxRecDepth 100000
theorem lda2 {σ : Sg} {id off : Nat} : loadPV Tryz.prog σ 2 (.ptr id off) = ldS σ id off := ldS_of Tryz.underlying2 rfl
theorem ela2 {σ : Sg} {es i off : Nat} {l : List PV} : loadPV Tryz.prog σ 2 (.eptr es l i off) = elS l i off := elS_of Tryz.underlying2 rfl
theorem sto2 {σ : Sg} {id off : Nat} {p : PV} : storePV Tryz.prog σ 2 (.ptr id off) p = stX 1 σ id off p := stX_of Tryz.underlying2 cells2 p
theorem lda3 {σ : Sg} {id off : Nat} : loadPV Tryz.prog σ 3 (.ptr id off) = ldS σ id off := ldS_of Tryz.underlying3 rfl
theorem ela3 {σ : Sg} {es i off : Nat} {l : List PV} : loadPV Tryz.prog σ 3 (.eptr es l i off) = elS l i off := elS_of Tryz.underlying3 rfl
theorem sto3 {σ : Sg} {id off : Nat} {p : PV} : storePV Tryz.prog σ 3 (.ptr id off) p = stX 1 σ id off p := stX_of Tryz.underlying3 cells3 p
theorem lda4 {σ : Sg} {id off : Nat} : loadPV Tryz.prog σ 4 (.ptr id off) = ldS σ id off := ldS_of Tryz.underlying4 rfl
theorem ela4 {σ : Sg} {es i off : Nat} {l : List PV} : loadPV Tryz.prog σ 4 (.eptr es l i off) = elS l i off := elS_of Tryz.underlying4 rfl
theorem sto4 {σ : Sg} {id off : Nat} {p : PV} : storePV Tryz.prog σ 4 (.ptr id off) p = stX 1 σ id off p := stX_of Tryz.underlying4 cells4 p
theorem lda5 {σ : Sg} {id off : Nat} : loadPV Tryz.prog σ 5 (.ptr id off) = ldS σ id off := ldS_of Tryz.underlying5 rfl
theorem ela5 {σ : Sg} {es i off : Nat} {l : List PV} : loadPV Tryz.prog σ 5 (.eptr es l i off) = elS l i off := elS_of Tryz.underlying5 rfl
theorem sto5 {σ : Sg} {id off : Nat} {p : PV} : storePV Tryz.prog σ 5 (.ptr id off) p = stX 1 σ id off p := stX_of Tryz.underlying5 cells5 p
theorem lda9 {σ : Sg} {id off : Nat} : loadPV Tryz.prog σ 9 (.ptr id off) = ldS σ id off := ldS_of Tryz.underlying9 rfl
theorem ela9 {σ : Sg} {es i off : Nat} {l : List PV} : loadPV Tryz.prog σ 9 (.eptr es l i off) = elS l i off := elS_of Tryz.underlying9 rfl
theorem sto9 {σ : Sg} {id off : Nat} {p : PV} : storePV Tryz.prog σ 9 (.ptr id off) p = stX 1 σ id off p := stX_of Tryz.underlying9 cells9 p
theorem lda22 {σ : Sg} {id off : Nat} : loadPV Tryz.prog σ 22 (.ptr id off) = ldS σ id off := ldS_of Tryz.underlying22 rfl
theorem ela22 {σ : Sg} {es i off : Nat} {l : List PV} : loadPV Tryz.prog σ 22 (.eptr es l i off) = elS l i off := elS_of Tryz.underlying22 rfl
theorem sto22 {σ : Sg} {id off : Nat} {p : PV} : storePV Tryz.prog σ 22 (.ptr id off) p = stX 1 σ id off p := stX_of Tryz.underlying22 cells22 p
theorem ia22 {l : List PV} {own : Own} {k : IntKind} {i : Int} : indexAddrPV Tryz.prog 22 (.isl l own) (.int k i) = iaX 1 l i := iaX_of Tryz.underlying22 Tryz.underlying3 cells3 k i
theorem iam22 {id off len : Nat} {k : IntKind} {i : Int} : indexAddrPV Tryz.prog 22 (.msl id off len) (.int k i) = iaM 1 id off len i := iaM_of Tryz.underlying22 Tryz.underlying3 cells3 k len i
theorem len22 {l : List PV} {own : Own} : lenPV Tryz.prog 22 (.isl l own) = some (.int .i64 l.length) := len_of Tryz.underlying22
theorem lenm22 {id off n : Nat} : lenPV Tryz.prog 22 (.msl id off n) = some (.int .i64 n) := lenM_of Tryz.underlying22 n
theorem bs22 {len : Nat} {parts : List (Nat × PV)} : buildSlicePV Tryz.prog 22 len parts = bsX 1 len parts := bsX_of Tryz.underlying22 Tryz.underlying3 cells3 zero3 len parts
theorem app22 {σ : Sg} {l m : List PV} {own own' : Own} : appendPV Tryz.prog σ 22 22 (.isl l own) (.isl m own') = appX 1 8 σ l own m := appX_of Tryz.underlying22 Tryz.underlying3 cells3 bytes3 (by decide) (by decide) zero3 rfl
theorem lda23 {σ : Sg} {id off : Nat} : loadPV Tryz.prog σ 23 (.ptr id off) = ldS σ id off := ldS_of Tryz.underlying23 rfl
theorem ela23 {σ : Sg} {es i off : Nat} {l : List PV} : loadPV Tryz.prog σ 23 (.eptr es l i off) = elS l i off := elS_of Tryz.underlying23 rfl
theorem sto23 {σ : Sg} {id off : Nat} {p : PV} : storePV Tryz.prog σ 23 (.ptr id off) p = stX 1 σ id off p := stX_of Tryz.underlying23 cells23 p
theorem ia23 {l : List PV} {own : Own} {k : IntKind} {i : Int} : indexAddrPV Tryz.prog 23 (.isl l own) (.int k i) = iaX 2 l i := iaX_of Tryz.underlying23 Tryz.underlying96 cells96 k i
theorem iam23 {id off len : Nat} {k : IntKind} {i : Int} : indexAddrPV Tryz.prog 23 (.msl id off len) (.int k i) = iaM 2 id off len i := iaM_of Tryz.underlying23 Tryz.underlying96 cells96 k len i
theorem len23 {l : List PV} {own : Own} : lenPV Tryz.prog 23 (.isl l own) = some (.int .i64 l.length) := len_of Tryz.underlying23
theorem lenm23 {id off n : Nat} : lenPV Tryz.prog 23 (.msl id off n) = some (.int .i64 n) := lenM_of Tryz.underlying23 n
theorem bs23 {len : Nat} {parts : List (Nat × PV)} : buildSlicePV Tryz.prog 23 len parts = bsX 2 len parts := bsX_of Tryz.underlying23 Tryz.underlying96 cells96 zero96 len parts
theorem app23 {σ : Sg} {l m : List PV} {own own' : Own} : appendPV Tryz.prog σ 23 23 (.isl l own) (.isl m own') = appX 2 16 σ l own m := appX_of Tryz.underlying23 Tryz.underlying96 cells96 bytes96 (by decide) (by decide) zero96 rfl
theorem lda24 {σ : Sg} {id off : Nat} : loadPV Tryz.prog σ 24 (.ptr id off) = ldS σ id off := ldS_of Tryz.underlying24 rfl
theorem ela24 {σ : Sg} {es i off : Nat} {l : List PV} : loadPV Tryz.prog σ 24 (.eptr es l i off) = elS l i off := elS_of Tryz.underlying24 rfl
theorem sto24 {σ : Sg} {id off : Nat} {p : PV} : storePV Tryz.prog σ 24 (.ptr id off) p = stX 1 σ id off p := stX_of Tryz.underlying24 cells24 p
theorem ia24 {l : List PV} {own : Own} {k : IntKind} {i : Int} : indexAddrPV Tryz.prog 24 (.isl l own) (.int k i) = iaX 7 l i := iaX_of Tryz.underlying24 Tryz.underlying51 cells51 k i
theorem iam24 {id off len : Nat} {k : IntKind} {i : Int} : indexAddrPV Tryz.prog 24 (.msl id off len) (.int k i) = iaM 7 id off len i := iaM_of Tryz.underlying24 Tryz.underlying51 cells51 k len i
theorem len24 {l : List PV} {own : Own} : lenPV Tryz.prog 24 (.isl l own) = some (.int .i64 l.length) := len_of Tryz.underlying24
theorem lenm24 {id off n : Nat} : lenPV Tryz.prog 24 (.msl id off n) = some (.int .i64 n) := lenM_of Tryz.underlying24 n
theorem bs24 {len : Nat} {parts : List (Nat × PV)} : buildSlicePV Tryz.prog 24 len parts = bsX 7 len parts := bsX_of Tryz.underlying24 Tryz.underlying51 cells51 zero51 len parts
theorem app24 {σ : Sg} {l m : List PV} {own own' : Own} : appendPV Tryz.prog σ 24 24 (.isl l own) (.isl m own') = appX 7 72 σ l own m := appX_of Tryz.underlying24 Tryz.underlying51 cells51 bytes51 (by decide) (by decide) zero51 rfl
theorem lda25 {σ : Sg} {id off : Nat} : loadPV Tryz.prog σ 25 (.ptr id off) = ldA 4 σ id off := ldA_of Tryz.underlying25 rfl cells25
theorem ela25 {σ : Sg} {es i off : Nat} {l : List PV} : loadPV Tryz.prog σ 25 (.eptr es l i off) = elA 4 l i off := elA_of Tryz.underlying25 rfl cells25
theorem sto25 {σ : Sg} {id off : Nat} {p : PV} : storePV Tryz.prog σ 25 (.ptr id off) p = stX 4 σ id off p := stX_of Tryz.underlying25 cells25 p
theorem fa25_0 {id off : Nat} : fieldAddrPV Tryz.prog 25 (.ptr id off) 0 = some (.ptr id (off + 0)) := fa1_of Tryz.underlying25 (by rfl) (by exact Tryz.underlying22) (by exact cells22) (by rfl) (by rfl)
theorem fae25_0 {es i off : Nat} {l : List PV} : fieldAddrPV Tryz.prog 25 (.eptr es l i off) 0 = some (.eptr es l i (off + 0)) := fa2_of Tryz.underlying25 (by rfl) (by exact Tryz.underlying22) (by exact cells22) (by rfl) (by rfl)
theorem fp25_0 {cs : List PV} : fieldPV Tryz.prog 25 (.agg cs) 0 = cs[0]? := fpS_of Tryz.underlying25 (by rfl) (by exact Tryz.underlying22) (by rfl) (by rfl) cs
theorem fa25_1 {id off : Nat} : fieldAddrPV Tryz.prog 25 (.ptr id off) 1 = some (.ptr id (off + 1)) := fa1_of Tryz.underlying25 (by rfl) (by exact Tryz.underlying23) (by exact cells23) (by rfl) (by rfl)
theorem fae25_1 {es i off : Nat} {l : List PV} : fieldAddrPV Tryz.prog 25 (.eptr es l i off) 1 = some (.eptr es l i (off + 1)) := fa2_of Tryz.underlying25 (by rfl) (by exact Tryz.underlying23) (by exact cells23) (by rfl) (by rfl)
theorem fp25_1 {cs : List PV} : fieldPV Tryz.prog 25 (.agg cs) 1 = cs[1]? := fpS_of Tryz.underlying25 (by rfl) (by exact Tryz.underlying23) (by rfl) (by rfl) cs
theorem fa25_2 {id off : Nat} : fieldAddrPV Tryz.prog 25 (.ptr id off) 2 = some (.ptr id (off + 2)) := fa1_of Tryz.underlying25 (by rfl) (by exact Tryz.underlying24) (by exact cells24) (by rfl) (by rfl)
theorem fae25_2 {es i off : Nat} {l : List PV} : fieldAddrPV Tryz.prog 25 (.eptr es l i off) 2 = some (.eptr es l i (off + 2)) := fa2_of Tryz.underlying25 (by rfl) (by exact Tryz.underlying24) (by exact cells24) (by rfl) (by rfl)
theorem fp25_2 {cs : List PV} : fieldPV Tryz.prog 25 (.agg cs) 2 = cs[2]? := fpS_of Tryz.underlying25 (by rfl) (by exact Tryz.underlying24) (by rfl) (by rfl) cs
theorem fa25_3 {id off : Nat} : fieldAddrPV Tryz.prog 25 (.ptr id off) 3 = some (.ptr id (off + 3)) := fa1_of Tryz.underlying25 (by rfl) (by exact Tryz.underlying3) (by exact cells3) (by rfl) (by rfl)
theorem fae25_3 {es i off : Nat} {l : List PV} : fieldAddrPV Tryz.prog 25 (.eptr es l i off) 3 = some (.eptr es l i (off + 3)) := fa2_of Tryz.underlying25 (by rfl) (by exact Tryz.underlying3) (by exact cells3) (by rfl) (by rfl)
theorem fp25_3 {cs : List PV} : fieldPV Tryz.prog 25 (.agg cs) 3 = cs[3]? := fpS_of Tryz.underlying25 (by rfl) (by exact Tryz.underlying3) (by rfl) (by rfl) cs
theorem bld25 {parts : List (Nat × PV)} : buildPV Tryz.prog 25 parts = bldX [.isl [] .exact, .isl [] .exact, .isl [] .exact, .int .i64 0] [(0, 1), (1, 1), (2, 1), (3, 1)] parts := bldX_of zero25 Tryz.underlying25 (by kernel_rfl) (by kernel_rfl) parts
theorem lda26 {σ : Sg} {id off : Nat} : loadPV Tryz.prog σ 26 (.ptr id off) = ldA 4 σ id off := ldA_of Tryz.underlying26 rfl cells26
theorem ela26 {σ : Sg} {es i off : Nat} {l : List PV} : loadPV Tryz.prog σ 26 (.eptr es l i off) = elA 4 l i off := elA_of Tryz.underlying26 rfl cells26
theorem sto26 {σ : Sg} {id off : Nat} {p : PV} : storePV Tryz.prog σ 26 (.ptr id off) p = stX 4 σ id off p := stX_of Tryz.underlying26 cells26 p
theorem fa26_0 {id off : Nat} : fieldAddrPV Tryz.prog 26 (.ptr id off) 0 = some (.ptr id (off + 0)) := fa1_of Tryz.underlying26 (by rfl) (by exact Tryz.underlying22) (by exact cells22) (by rfl) (by rfl)
theorem fae26_0 {es i off : Nat} {l : List PV} : fieldAddrPV Tryz.prog 26 (.eptr es l i off) 0 = some (.eptr es l i (off + 0)) := fa2_of Tryz.underlying26 (by rfl) (by exact Tryz.underlying22) (by exact cells22) (by rfl) (by rfl)
theorem fp26_0 {cs : List PV} : fieldPV Tryz.prog 26 (.agg cs) 0 = cs[0]? := fpS_of Tryz.underlying26 (by rfl) (by exact Tryz.underlying22) (by rfl) (by rfl) cs
theorem fa26_1 {id off : Nat} : fieldAddrPV Tryz.prog 26 (.ptr id off) 1 = some (.ptr id (off + 1)) := fa1_of Tryz.underlying26 (by rfl) (by exact Tryz.underlying23) (by exact cells23) (by rfl) (by rfl)
theorem fae26_1 {es i off : Nat} {l : List PV} : fieldAddrPV Tryz.prog 26 (.eptr es l i off) 1 = some (.eptr es l i (off + 1)) := fa2_of Tryz.underlying26 (by rfl) (by exact Tryz.underlying23) (by exact cells23) (by rfl) (by rfl)
theorem fp26_1 {cs : List PV} : fieldPV Tryz.prog 26 (.agg cs) 1 = cs[1]? := fpS_of Tryz.underlying26 (by rfl) (by exact Tryz.underlying23) (by rfl) (by rfl) cs
theorem fa26_2 {id off : Nat} : fieldAddrPV Tryz.prog 26 (.ptr id off) 2 = some (.ptr id (off + 2)) := fa1_of Tryz.underlying26 (by rfl) (by exact Tryz.underlying24) (by exact cells24) (by rfl) (by rfl)
theorem fae26_2 {es i off : Nat} {l : List PV} : fieldAddrPV Tryz.prog 26 (.eptr es l i off) 2 = some (.eptr es l i (off + 2)) := fa2_of Tryz.underlying26 (by rfl) (by exact Tryz.underlying24) (by exact cells24) (by rfl) (by rfl)
theorem fp26_2 {cs : List PV} : fieldPV Tryz.prog 26 (.agg cs) 2 = cs[2]? := fpS_of Tryz.underlying26 (by rfl) (by exact Tryz.underlying24) (by rfl) (by rfl) cs
theorem fa26_3 {id off : Nat} : fieldAddrPV Tryz.prog 26 (.ptr id off) 3 = some (.ptr id (off + 3)) := fa1_of Tryz.underlying26 (by rfl) (by exact Tryz.underlying3) (by exact cells3) (by rfl) (by rfl)
theorem fae26_3 {es i off : Nat} {l : List PV} : fieldAddrPV Tryz.prog 26 (.eptr es l i off) 3 = some (.eptr es l i (off + 3)) := fa2_of Tryz.underlying26 (by rfl) (by exact Tryz.underlying3) (by exact cells3) (by rfl) (by rfl)
theorem fp26_3 {cs : List PV} : fieldPV Tryz.prog 26 (.agg cs) 3 = cs[3]? := fpS_of Tryz.underlying26 (by rfl) (by exact Tryz.underlying3) (by rfl) (by rfl) cs
theorem bld26 {parts : List (Nat × PV)} : buildPV Tryz.prog 26 parts = bldX [.isl [] .exact, .isl [] .exact, .isl [] .exact, .int .i64 0] [(0, 1), (1, 1), (2, 1), (3, 1)] parts := bldX_of zero26 Tryz.underlying26 (by kernel_rfl) (by kernel_rfl) parts
theorem lda27 {σ : Sg} {id off : Nat} : loadPV Tryz.prog σ 27 (.ptr id off) = ldA 6 σ id off := ldA_of Tryz.underlying27 rfl cells27
theorem ela27 {σ : Sg} {es i off : Nat} {l : List PV} : loadPV Tryz.prog σ 27 (.eptr es l i off) = elA 6 l i off := elA_of Tryz.underlying27 rfl cells27
theorem sto27 {σ : Sg} {id off : Nat} {p : PV} : storePV Tryz.prog σ 27 (.ptr id off) p = stX 6 σ id off p := stX_of Tryz.underlying27 cells27 p
theorem fa27_0 {id off : Nat} : fieldAddrPV Tryz.prog 27 (.ptr id off) 0 = some (.ptr id (off + 0)) := fa1_of Tryz.underlying27 (by rfl) (by exact Tryz.underlying26) (by exact cells26) (by rfl) (by rfl)
theorem fae27_0 {es i off : Nat} {l : List PV} : fieldAddrPV Tryz.prog 27 (.eptr es l i off) 0 = some (.eptr es l i (off + 0)) := fa2_of Tryz.underlying27 (by rfl) (by exact Tryz.underlying26) (by exact cells26) (by rfl) (by rfl)
theorem fp27_0 {cs : List PV} : fieldPV Tryz.prog 27 (.agg cs) 0 = if 0 + 4 ≤ cs.length then some (.agg ((cs.drop 0).take 4)) else none := fpA_of Tryz.underlying27 (by rfl) (by exact Tryz.underlying26) (by rfl) (by exact cells26) (by rfl) cs
theorem fa27_1 {id off : Nat} : fieldAddrPV Tryz.prog 27 (.ptr id off) 1 = some (.ptr id (off + 4)) := fa1_of Tryz.underlying27 (by rfl) (by exact Tryz.underlying3) (by exact cells3) (by rfl) (by rfl)
theorem fae27_1 {es i off : Nat} {l : List PV} : fieldAddrPV Tryz.prog 27 (.eptr es l i off) 1 = some (.eptr es l i (off + 4)) := fa2_of Tryz.underlying27 (by rfl) (by exact Tryz.underlying3) (by exact cells3) (by rfl) (by rfl)
theorem fp27_1 {cs : List PV} : fieldPV Tryz.prog 27 (.agg cs) 1 = cs[4]? := fpS_of Tryz.underlying27 (by rfl) (by exact Tryz.underlying3) (by rfl) (by rfl) cs
theorem fa27_2 {id off : Nat} : fieldAddrPV Tryz.prog 27 (.ptr id off) 2 = some (.ptr id (off + 5)) := fa1_of Tryz.underlying27 (by rfl) (by exact Tryz.underlying22) (by exact cells22) (by rfl) (by rfl)
theorem fae27_2 {es i off : Nat} {l : List PV} : fieldAddrPV Tryz.prog 27 (.eptr es l i off) 2 = some (.eptr es l i (off + 5)) := fa2_of Tryz.underlying27 (by rfl) (by exact Tryz.underlying22) (by exact cells22) (by rfl) (by rfl)
theorem fp27_2 {cs : List PV} : fieldPV Tryz.prog 27 (.agg cs) 2 = cs[5]? := fpS_of Tryz.underlying27 (by rfl) (by exact Tryz.underlying22) (by rfl) (by rfl) cs
theorem bld27 {parts : List (Nat × PV)} : buildPV Tryz.prog 27 parts = bldX [.isl [] .exact, .isl [] .exact, .isl [] .exact, .int .i64 0, .int .i64 0, .isl [] .exact] [(0, 4), (4, 1), (5, 1)] parts := bldX_of zero27 Tryz.underlying27 (by kernel_rfl) (by kernel_rfl) parts
theorem lda28 {σ : Sg} {id off : Nat} : loadPV Tryz.prog σ 28 (.ptr id off) = ldA 6 σ id off := ldA_of Tryz.underlying28 rfl cells28
theorem ela28 {σ : Sg} {es i off : Nat} {l : List PV} : loadPV Tryz.prog σ 28 (.eptr es l i off) = elA 6 l i off := elA_of Tryz.underlying28 rfl cells28
theorem sto28 {σ : Sg} {id off : Nat} {p : PV} : storePV Tryz.prog σ 28 (.ptr id off) p = stX 6 σ id off p := stX_of Tryz.underlying28 cells28 p
theorem fa28_0 {id off : Nat} : fieldAddrPV Tryz.prog 28 (.ptr id off) 0 = some (.ptr id (off + 0)) := fa1_of Tryz.underlying28 (by rfl) (by exact Tryz.underlying26) (by exact cells26) (by rfl) (by rfl)
theorem fae28_0 {es i off : Nat} {l : List PV} : fieldAddrPV Tryz.prog 28 (.eptr es l i off) 0 = some (.eptr es l i (off + 0)) := fa2_of Tryz.underlying28 (by rfl) (by exact Tryz.underlying26) (by exact cells26) (by rfl) (by rfl)
theorem fp28_0 {cs : List PV} : fieldPV Tryz.prog 28 (.agg cs) 0 = if 0 + 4 ≤ cs.length then some (.agg ((cs.drop 0).take 4)) else none := fpA_of Tryz.underlying28 (by rfl) (by exact Tryz.underlying26) (by rfl) (by exact cells26) (by rfl) cs
theorem fa28_1 {id off : Nat} : fieldAddrPV Tryz.prog 28 (.ptr id off) 1 = some (.ptr id (off + 4)) := fa1_of Tryz.underlying28 (by rfl) (by exact Tryz.underlying3) (by exact cells3) (by rfl) (by rfl)
theorem fae28_1 {es i off : Nat} {l : List PV} : fieldAddrPV Tryz.prog 28 (.eptr es l i off) 1 = some (.eptr es l i (off + 4)) := fa2_of Tryz.underlying28 (by rfl) (by exact Tryz.underlying3) (by exact cells3) (by rfl) (by rfl)
theorem fp28_1 {cs : List PV} : fieldPV Tryz.prog 28 (.agg cs) 1 = cs[4]? := fpS_of Tryz.underlying28 (by rfl) (by exact Tryz.underlying3) (by rfl) (by rfl) cs
theorem fa28_2 {id off : Nat} : fieldAddrPV Tryz.prog 28 (.ptr id off) 2 = some (.ptr id (off + 5)) := fa1_of Tryz.underlying28 (by rfl) (by exact Tryz.underlying22) (by exact cells22) (by rfl) (by rfl)
theorem fae28_2 {es i off : Nat} {l : List PV} : fieldAddrPV Tryz.prog 28 (.eptr es l i off) 2 = some (.eptr es l i (off + 5)) := fa2_of Tryz.underlying28 (by rfl) (by exact Tryz.underlying22) (by exact cells22) (by rfl) (by rfl)
theorem fp28_2 {cs : List PV} : fieldPV Tryz.prog 28 (.agg cs) 2 = cs[5]? := fpS_of Tryz.underlying28 (by rfl) (by exact Tryz.underlying22) (by rfl) (by rfl) cs
theorem bld28 {parts : List (Nat × PV)} : buildPV Tryz.prog 28 parts = bldX [.isl [] .exact, .isl [] .exact, .isl [] .exact, .int .i64 0, .int .i64 0, .isl [] .exact] [(0, 4), (4, 1), (5, 1)] parts := bldX_of zero28 Tryz.underlying28 (by kernel_rfl) (by kernel_rfl) parts
theorem lda29 {σ : Sg} {id off : Nat} : loadPV Tryz.prog σ 29 (.ptr id off) = ldS σ id off := ldS_of Tryz.underlying29 rfl
theorem ela29 {σ : Sg} {es i off : Nat} {l : List PV} : loadPV Tryz.prog σ 29 (.eptr es l i off) = elS l i off := elS_of Tryz.underlying29 rfl
theorem sto29 {σ : Sg} {id off : Nat} {p : PV} : storePV Tryz.prog σ 29 (.ptr id off) p = stX 1 σ id off p := stX_of Tryz.underlying29 cells29 p
theorem ia29 {l : List PV} {own : Own} {k : IntKind} {i : Int} : indexAddrPV Tryz.prog 29 (.isl l own) (.int k i) = iaX 6 l i := iaX_of Tryz.underlying29 Tryz.underlying53 cells53 k i
theorem iam29 {id off len : Nat} {k : IntKind} {i : Int} : indexAddrPV Tryz.prog 29 (.msl id off len) (.int k i) = iaM 6 id off len i := iaM_of Tryz.underlying29 Tryz.underlying53 cells53 k len i
theorem len29 {l : List PV} {own : Own} : lenPV Tryz.prog 29 (.isl l own) = some (.int .i64 l.length) := len_of Tryz.underlying29
theorem lenm29 {id off n : Nat} : lenPV Tryz.prog 29 (.msl id off n) = some (.int .i64 n) := lenM_of Tryz.underlying29 n
theorem bs29 {len : Nat} {parts : List (Nat × PV)} : buildSlicePV Tryz.prog 29 len parts = bsX 6 len parts := bsX_of Tryz.underlying29 Tryz.underlying53 cells53 zero53 len parts
theorem app29 {σ : Sg} {l m : List PV} {own own' : Own} : appendPV Tryz.prog σ 29 29 (.isl l own) (.isl m own') = appX 6 64 σ l own m := appX_of Tryz.underlying29 Tryz.underlying53 cells53 bytes53 (by decide) (by decide) zero53 rfl
theorem lda32 {σ : Sg} {id off : Nat} : loadPV Tryz.prog σ 32 (.ptr id off) = ldS σ id off := ldS_of Tryz.underlying32 rfl
theorem ela32 {σ : Sg} {es i off : Nat} {l : List PV} : loadPV Tryz.prog σ 32 (.eptr es l i off) = elS l i off := elS_of Tryz.underlying32 rfl
theorem sto32 {σ : Sg} {id off : Nat} {p : PV} : storePV Tryz.prog σ 32 (.ptr id off) p = stX 1 σ id off p := stX_of Tryz.underlying32 cells32 p
theorem lda35 {σ : Sg} {id off : Nat} : loadPV Tryz.prog σ 35 (.ptr id off) = ldS σ id off := ldS_of Tryz.underlying35 rfl
theorem ela35 {σ : Sg} {es i off : Nat} {l : List PV} : loadPV Tryz.prog σ 35 (.eptr es l i off) = elS l i off := elS_of Tryz.underlying35 rfl
theorem sto35 {σ : Sg} {id off : Nat} {p : PV} : storePV Tryz.prog σ 35 (.ptr id off) p = stX 1 σ id off p := stX_of Tryz.underlying35 cells35 p
theorem ia35 {l : List PV} {own : Own} {k : IntKind} {i : Int} : indexAddrPV Tryz.prog 35 (.isl l own) (.int k i) = iaX 6 l i := iaX_of Tryz.underlying35 Tryz.underlying28 cells28 k i
theorem iam35 {id off len : Nat} {k : IntKind} {i : Int} : indexAddrPV Tryz.prog 35 (.msl id off len) (.int k i) = iaM 6 id off len i := iaM_of Tryz.underlying35 Tryz.underlying28 cells28 k len i
theorem len35 {l : List PV} {own : Own} : lenPV Tryz.prog 35 (.isl l own) = some (.int .i64 l.length) := len_of Tryz.underlying35
theorem lenm35 {id off n : Nat} : lenPV Tryz.prog 35 (.msl id off n) = some (.int .i64 n) := lenM_of Tryz.underlying35 n
theorem bs35 {len : Nat} {parts : List (Nat × PV)} : buildSlicePV Tryz.prog 35 len parts = bsX 6 len parts := bsX_of Tryz.underlying35 Tryz.underlying28 cells28 zero28 len parts
theorem app35 {σ : Sg} {l m : List PV} {own own' : Own} : appendPV Tryz.prog σ 35 35 (.isl l own) (.isl m own') = appX 6 112 σ l own m := appX_of Tryz.underlying35 Tryz.underlying28 cells28 bytes28 (by decide) (by decide) zero28 rfl
theorem lda37 {σ : Sg} {id off : Nat} : loadPV Tryz.prog σ 37 (.ptr id off) = ldS σ id off := ldS_of Tryz.underlying37 rfl
theorem ela37 {σ : Sg} {es i off : Nat} {l : List PV} : loadPV Tryz.prog σ 37 (.eptr es l i off) = elS l i off := elS_of Tryz.underlying37 rfl
theorem sto37 {σ : Sg} {id off : Nat} {p : PV} : storePV Tryz.prog σ 37 (.ptr id off) p = stX 1 σ id off p := stX_of Tryz.underlying37 cells37 p
theorem ia37 {l : List PV} {own : Own} {k : IntKind} {i : Int} : indexAddrPV Tryz.prog 37 (.isl l own) (.int k i) = iaX 1 l i := iaX_of Tryz.underlying37 Tryz.underlying29 cells29 k i
theorem iam37 {id off len : Nat} {k : IntKind} {i : Int} : indexAddrPV Tryz.prog 37 (.msl id off len) (.int k i) = iaM 1 id off len i := iaM_of Tryz.underlying37 Tryz.underlying29 cells29 k len i
theorem len37 {l : List PV} {own : Own} : lenPV Tryz.prog 37 (.isl l own) = some (.int .i64 l.length) := len_of Tryz.underlying37
theorem lenm37 {id off n : Nat} : lenPV Tryz.prog 37 (.msl id off n) = some (.int .i64 n) := lenM_of Tryz.underlying37 n
theorem bs37 {len : Nat} {parts : List (Nat × PV)} : buildSlicePV Tryz.prog 37 len parts = bsX 1 len parts := bsX_of Tryz.underlying37 Tryz.underlying29 cells29 zero29 len parts
theorem app37 {σ : Sg} {l m : List PV} {own own' : Own} : appendPV Tryz.prog σ 37 37 (.isl l own) (.isl m own') = appX 1 24 σ l own m := appX_of Tryz.underlying37 Tryz.underlying29 cells29 bytes29 (by decide) (by decide) zero29 rfl
theorem lda38 {σ : Sg} {id off : Nat} : loadPV Tryz.prog σ 38 (.ptr id off) = ldS σ id off := ldS_of Tryz.underlying38 rfl
theorem ela38 {σ : Sg} {es i off : Nat} {l : List PV} : loadPV Tryz.prog σ 38 (.eptr es l i off) = elS l i off := elS_of Tryz.underlying38 rfl
theorem sto38 {σ : Sg} {id off : Nat} {p : PV} : storePV Tryz.prog σ 38 (.ptr id off) p = stX 1 σ id off p := stX_of Tryz.underlying38 cells38 p
theorem lda42 {σ : Sg} {id off : Nat} : loadPV Tryz.prog σ 42 (.ptr id off) = ldS σ id off := ldS_of Tryz.underlying42 rfl
theorem ela42 {σ : Sg} {es i off : Nat} {l : List PV} : loadPV Tryz.prog σ 42 (.eptr es l i off) = elS l i off := elS_of Tryz.underlying42 rfl
theorem sto42 {σ : Sg} {id off : Nat} {p : PV} : storePV Tryz.prog σ 42 (.ptr id off) p = stX 1 σ id off p := stX_of Tryz.underlying42 cells42 p
theorem ia42 {l : List PV} {own : Own} {k : IntKind} {i : Int} : indexAddrPV Tryz.prog 42 (.isl l own) (.int k i) = iaX 1 l i := iaX_of Tryz.underlying42 Tryz.underlying9 cells9 k i
theorem iam42 {id off len : Nat} {k : IntKind} {i : Int} : indexAddrPV Tryz.prog 42 (.msl id off len) (.int k i) = iaM 1 id off len i := iaM_of Tryz.underlying42 Tryz.underlying9 cells9 k len i
theorem len42 {l : List PV} {own : Own} : lenPV Tryz.prog 42 (.isl l own) = some (.int .i64 l.length) := len_of Tryz.underlying42
theorem lenm42 {id off n : Nat} : lenPV Tryz.prog 42 (.msl id off n) = some (.int .i64 n) := lenM_of Tryz.underlying42 n
theorem bs42 {len : Nat} {parts : List (Nat × PV)} : buildSlicePV Tryz.prog 42 len parts = bsX 1 len parts := bsX_of Tryz.underlying42 Tryz.underlying9 cells9 zero9 len parts
theorem app42 {σ : Sg} {l m : List PV} {own own' : Own} : appendPV Tryz.prog σ 42 42 (.isl l own) (.isl m own') = appX 1 16 σ l own m := appX_of Tryz.underlying42 Tryz.underlying9 cells9 bytes9 (by decide) (by decide) zero9 rfl
theorem lda48 {σ : Sg} {id off : Nat} : loadPV Tryz.prog σ 48 (.ptr id off) = ldA 2 σ id off := ldA_of Tryz.underlying48 rfl cells48
theorem ela48 {σ : Sg} {es i off : Nat} {l : List PV} : loadPV Tryz.prog σ 48 (.eptr es l i off) = elA 2 l i off := elA_of Tryz.underlying48 rfl cells48
theorem sto48 {σ : Sg} {id off : Nat} {p : PV} : storePV Tryz.prog σ 48 (.ptr id off) p = stX 2 σ id off p := stX_of Tryz.underlying48 cells48 p
theorem fa48_0 {id off : Nat} : fieldAddrPV Tryz.prog 48 (.ptr id off) 0 = some (.ptr id (off + 0)) := fa1_of Tryz.underlying48 (by rfl) (by exact Tryz.underlying3) (by exact cells3) (by rfl) (by rfl)
theorem fae48_0 {es i off : Nat} {l : List PV} : fieldAddrPV Tryz.prog 48 (.eptr es l i off) 0 = some (.eptr es l i (off + 0)) := fa2_of Tryz.underlying48 (by rfl) (by exact Tryz.underlying3) (by exact cells3) (by rfl) (by rfl)
theorem fp48_0 {cs : List PV} : fieldPV Tryz.prog 48 (.agg cs) 0 = cs[0]? := fpS_of Tryz.underlying48 (by rfl) (by exact Tryz.underlying3) (by rfl) (by rfl) cs
theorem fa48_1 {id off : Nat} : fieldAddrPV Tryz.prog 48 (.ptr id off) 1 = some (.ptr id (off + 1)) := fa1_of Tryz.underlying48 (by rfl) (by exact Tryz.underlying3) (by exact cells3) (by rfl) (by rfl)
theorem fae48_1 {es i off : Nat} {l : List PV} : fieldAddrPV Tryz.prog 48 (.eptr es l i off) 1 = some (.eptr es l i (off + 1)) := fa2_of Tryz.underlying48 (by rfl) (by exact Tryz.underlying3) (by exact cells3) (by rfl) (by rfl)
theorem fp48_1 {cs : List PV} : fieldPV Tryz.prog 48 (.agg cs) 1 = cs[1]? := fpS_of Tryz.underlying48 (by rfl) (by exact Tryz.underlying3) (by rfl) (by rfl) cs
theorem eqs48 {a0 a1 b0 b1 : Int} : eqPV Tryz.prog 48 (.agg [.int .i64 a0, .int .i64 a1]) (.agg [.int .i64 b0, .int .i64 b1]) = some ((a0 == b0) && ((a1 == b1) && true)) := by kernel_rfl
theorem bld48 {parts : List (Nat × PV)} : buildPV Tryz.prog 48 parts = bldX [.int .i64 0, .int .i64 0] [(0, 1), (1, 1)] parts := bldX_of zero48 Tryz.underlying48 (by kernel_rfl) (by kernel_rfl) parts
theorem lda49 {σ : Sg} {id off : Nat} : loadPV Tryz.prog σ 49 (.ptr id off) = ldA 2 σ id off := ldA_of Tryz.underlying49 rfl cells49
theorem ela49 {σ : Sg} {es i off : Nat} {l : List PV} : loadPV Tryz.prog σ 49 (.eptr es l i off) = elA 2 l i off := elA_of Tryz.underlying49 rfl cells49
theorem sto49 {σ : Sg} {id off : Nat} {p : PV} : storePV Tryz.prog σ 49 (.ptr id off) p = stX 2 σ id off p := stX_of Tryz.underlying49 cells49 p
theorem fa49_0 {id off : Nat} : fieldAddrPV Tryz.prog 49 (.ptr id off) 0 = some (.ptr id (off + 0)) := fa1_of Tryz.underlying49 (by rfl) (by exact Tryz.underlying3) (by exact cells3) (by rfl) (by rfl)
theorem fae49_0 {es i off : Nat} {l : List PV} : fieldAddrPV Tryz.prog 49 (.eptr es l i off) 0 = some (.eptr es l i (off + 0)) := fa2_of Tryz.underlying49 (by rfl) (by exact Tryz.underlying3) (by exact cells3) (by rfl) (by rfl)
theorem fp49_0 {cs : List PV} : fieldPV Tryz.prog 49 (.agg cs) 0 = cs[0]? := fpS_of Tryz.underlying49 (by rfl) (by exact Tryz.underlying3) (by rfl) (by rfl) cs
theorem fa49_1 {id off : Nat} : fieldAddrPV Tryz.prog 49 (.ptr id off) 1 = some (.ptr id (off + 1)) := fa1_of Tryz.underlying49 (by rfl) (by exact Tryz.underlying3) (by exact cells3) (by rfl) (by rfl)
theorem fae49_1 {es i off : Nat} {l : List PV} : fieldAddrPV Tryz.prog 49 (.eptr es l i off) 1 = some (.eptr es l i (off + 1)) := fa2_of Tryz.underlying49 (by rfl) (by exact Tryz.underlying3) (by exact cells3) (by rfl) (by rfl)
theorem fp49_1 {cs : List PV} : fieldPV Tryz.prog 49 (.agg cs) 1 = cs[1]? := fpS_of Tryz.underlying49 (by rfl) (by exact Tryz.underlying3) (by rfl) (by rfl) cs
theorem eqs49 {a0 a1 b0 b1 : Int} : eqPV Tryz.prog 49 (.agg [.int .i64 a0, .int .i64 a1]) (.agg [.int .i64 b0, .int .i64 b1]) = some ((a0 == b0) && ((a1 == b1) && true)) := by kernel_rfl
theorem bld49 {parts : List (Nat × PV)} : buildPV Tryz.prog 49 parts = bldX [.int .i64 0, .int .i64 0] [(0, 1), (1, 1)] parts := bldX_of zero49 Tryz.underlying49 (by kernel_rfl) (by kernel_rfl) parts
theorem lda50 {σ : Sg} {id off : Nat} : loadPV Tryz.prog σ 50 (.ptr id off) = ldA 7 σ id off := ldA_of Tryz.underlying50 rfl cells50
theorem ela50 {σ : Sg} {es i off : Nat} {l : List PV} : loadPV Tryz.prog σ 50 (.eptr es l i off) = elA 7 l i off := elA_of Tryz.underlying50 rfl cells50
theorem sto50 {σ : Sg} {id off : Nat} {p : PV} : storePV Tryz.prog σ 50 (.ptr id off) p = stX 7 σ id off p := stX_of Tryz.underlying50 cells50 p
theorem fa50_0 {id off : Nat} : fieldAddrPV Tryz.prog 50 (.ptr id off) 0 = some (.ptr id (off + 0)) := fa1_of Tryz.underlying50 (by rfl) (by exact Tryz.underlying49) (by exact cells49) (by rfl) (by rfl)
theorem fae50_0 {es i off : Nat} {l : List PV} : fieldAddrPV Tryz.prog 50 (.eptr es l i off) 0 = some (.eptr es l i (off + 0)) := fa2_of Tryz.underlying50 (by rfl) (by exact Tryz.underlying49) (by exact cells49) (by rfl) (by rfl)
theorem fp50_0 {cs : List PV} : fieldPV Tryz.prog 50 (.agg cs) 0 = if 0 + 2 ≤ cs.length then some (.agg ((cs.drop 0).take 2)) else none := fpA_of Tryz.underlying50 (by rfl) (by exact Tryz.underlying49) (by rfl) (by exact cells49) (by rfl) cs
theorem fa50_1 {id off : Nat} : fieldAddrPV Tryz.prog 50 (.ptr id off) 1 = some (.ptr id (off + 2)) := fa1_of Tryz.underlying50 (by rfl) (by exact Tryz.underlying49) (by exact cells49) (by rfl) (by rfl)
theorem fae50_1 {es i off : Nat} {l : List PV} : fieldAddrPV Tryz.prog 50 (.eptr es l i off) 1 = some (.eptr es l i (off + 2)) := fa2_of Tryz.underlying50 (by rfl) (by exact Tryz.underlying49) (by exact cells49) (by rfl) (by rfl)
theorem fp50_1 {cs : List PV} : fieldPV Tryz.prog 50 (.agg cs) 1 = if 2 + 2 ≤ cs.length then some (.agg ((cs.drop 2).take 2)) else none := fpA_of Tryz.underlying50 (by rfl) (by exact Tryz.underlying49) (by rfl) (by exact cells49) (by rfl) cs
theorem fa50_2 {id off : Nat} : fieldAddrPV Tryz.prog 50 (.ptr id off) 2 = some (.ptr id (off + 4)) := fa1_of Tryz.underlying50 (by rfl) (by exact Tryz.underlying3) (by exact cells3) (by rfl) (by rfl)
theorem fae50_2 {es i off : Nat} {l : List PV} : fieldAddrPV Tryz.prog 50 (.eptr es l i off) 2 = some (.eptr es l i (off + 4)) := fa2_of Tryz.underlying50 (by rfl) (by exact Tryz.underlying3) (by exact cells3) (by rfl) (by rfl)
theorem fp50_2 {cs : List PV} : fieldPV Tryz.prog 50 (.agg cs) 2 = cs[4]? := fpS_of Tryz.underlying50 (by rfl) (by exact Tryz.underlying3) (by rfl) (by rfl) cs
theorem fa50_3 {id off : Nat} : fieldAddrPV Tryz.prog 50 (.ptr id off) 3 = some (.ptr id (off + 5)) := fa1_of Tryz.underlying50 (by rfl) (by exact Tryz.underlying3) (by exact cells3) (by rfl) (by rfl)
theorem fae50_3 {es i off : Nat} {l : List PV} : fieldAddrPV Tryz.prog 50 (.eptr es l i off) 3 = some (.eptr es l i (off + 5)) := fa2_of Tryz.underlying50 (by rfl) (by exact Tryz.underlying3) (by exact cells3) (by rfl) (by rfl)
theorem fp50_3 {cs : List PV} : fieldPV Tryz.prog 50 (.agg cs) 3 = cs[5]? := fpS_of Tryz.underlying50 (by rfl) (by exact Tryz.underlying3) (by rfl) (by rfl) cs
theorem fa50_4 {id off : Nat} : fieldAddrPV Tryz.prog 50 (.ptr id off) 4 = some (.ptr id (off + 6)) := fa1_of Tryz.underlying50 (by rfl) (by exact Tryz.underlying22) (by exact cells22) (by rfl) (by rfl)
theorem fae50_4 {es i off : Nat} {l : List PV} : fieldAddrPV Tryz.prog 50 (.eptr es l i off) 4 = some (.eptr es l i (off + 6)) := fa2_of Tryz.underlying50 (by rfl) (by exact Tryz.underlying22) (by exact cells22) (by rfl) (by rfl)
theorem fp50_4 {cs : List PV} : fieldPV Tryz.prog 50 (.agg cs) 4 = cs[6]? := fpS_of Tryz.underlying50 (by rfl) (by exact Tryz.underlying22) (by rfl) (by rfl) cs
theorem bld50 {parts : List (Nat × PV)} : buildPV Tryz.prog 50 parts = bldX [.int .i64 0, .int .i64 0, .int .i64 0, .int .i64 0, .int .i64 0, .int .i64 0, .isl [] .exact] [(0, 2), (2, 2), (4, 1), (5, 1), (6, 1)] parts := bldX_of zero50 Tryz.underlying50 (by kernel_rfl) (by kernel_rfl) parts
theorem lda51 {σ : Sg} {id off : Nat} : loadPV Tryz.prog σ 51 (.ptr id off) = ldA 7 σ id off := ldA_of Tryz.underlying51 rfl cells51
theorem ela51 {σ : Sg} {es i off : Nat} {l : List PV} : loadPV Tryz.prog σ 51 (.eptr es l i off) = elA 7 l i off := elA_of Tryz.underlying51 rfl cells51
theorem sto51 {σ : Sg} {id off : Nat} {p : PV} : storePV Tryz.prog σ 51 (.ptr id off) p = stX 7 σ id off p := stX_of Tryz.underlying51 cells51 p
theorem fa51_0 {id off : Nat} : fieldAddrPV Tryz.prog 51 (.ptr id off) 0 = some (.ptr id (off + 0)) := fa1_of Tryz.underlying51 (by rfl) (by exact Tryz.underlying49) (by exact cells49) (by rfl) (by rfl)
theorem fae51_0 {es i off : Nat} {l : List PV} : fieldAddrPV Tryz.prog 51 (.eptr es l i off) 0 = some (.eptr es l i (off + 0)) := fa2_of Tryz.underlying51 (by rfl) (by exact Tryz.underlying49) (by exact cells49) (by rfl) (by rfl)
theorem fp51_0 {cs : List PV} : fieldPV Tryz.prog 51 (.agg cs) 0 = if 0 + 2 ≤ cs.length then some (.agg ((cs.drop 0).take 2)) else none := fpA_of Tryz.underlying51 (by rfl) (by exact Tryz.underlying49) (by rfl) (by exact cells49) (by rfl) cs
theorem fa51_1 {id off : Nat} : fieldAddrPV Tryz.prog 51 (.ptr id off) 1 = some (.ptr id (off + 2)) := fa1_of Tryz.underlying51 (by rfl) (by exact Tryz.underlying49) (by exact cells49) (by rfl) (by rfl)
theorem fae51_1 {es i off : Nat} {l : List PV} : fieldAddrPV Tryz.prog 51 (.eptr es l i off) 1 = some (.eptr es l i (off + 2)) := fa2_of Tryz.underlying51 (by rfl) (by exact Tryz.underlying49) (by exact cells49) (by rfl) (by rfl)
theorem fp51_1 {cs : List PV} : fieldPV Tryz.prog 51 (.agg cs) 1 = if 2 + 2 ≤ cs.length then some (.agg ((cs.drop 2).take 2)) else none := fpA_of Tryz.underlying51 (by rfl) (by exact Tryz.underlying49) (by rfl) (by exact cells49) (by rfl) cs
theorem fa51_2 {id off : Nat} : fieldAddrPV Tryz.prog 51 (.ptr id off) 2 = some (.ptr id (off + 4)) := fa1_of Tryz.underlying51 (by rfl) (by exact Tryz.underlying3) (by exact cells3) (by rfl) (by rfl)
theorem fae51_2 {es i off : Nat} {l : List PV} : fieldAddrPV Tryz.prog 51 (.eptr es l i off) 2 = some (.eptr es l i (off + 4)) := fa2_of Tryz.underlying51 (by rfl) (by exact Tryz.underlying3) (by exact cells3) (by rfl) (by rfl)
theorem fp51_2 {cs : List PV} : fieldPV Tryz.prog 51 (.agg cs) 2 = cs[4]? := fpS_of Tryz.underlying51 (by rfl) (by exact Tryz.underlying3) (by rfl) (by rfl) cs
theorem fa51_3 {id off : Nat} : fieldAddrPV Tryz.prog 51 (.ptr id off) 3 = some (.ptr id (off + 5)) := fa1_of Tryz.underlying51 (by rfl) (by exact Tryz.underlying3) (by exact cells3) (by rfl) (by rfl)
theorem fae51_3 {es i off : Nat} {l : List PV} : fieldAddrPV Tryz.prog 51 (.eptr es l i off) 3 = some (.eptr es l i (off + 5)) := fa2_of Tryz.underlying51 (by rfl) (by exact Tryz.underlying3) (by exact cells3) (by rfl) (by rfl)
theorem fp51_3 {cs : List PV} : fieldPV Tryz.prog 51 (.agg cs) 3 = cs[5]? := fpS_of Tryz.underlying51 (by rfl) (by exact Tryz.underlying3) (by rfl) (by rfl) cs
theorem fa51_4 {id off : Nat} : fieldAddrPV Tryz.prog 51 (.ptr id off) 4 = some (.ptr id (off + 6)) := fa1_of Tryz.underlying51 (by rfl) (by exact Tryz.underlying22) (by exact cells22) (by rfl) (by rfl)
theorem fae51_4 {es i off : Nat} {l : List PV} : fieldAddrPV Tryz.prog 51 (.eptr es l i off) 4 = some (.eptr es l i (off + 6)) := fa2_of Tryz.underlying51 (by rfl) (by exact Tryz.underlying22) (by exact cells22) (by rfl) (by rfl)
theorem fp51_4 {cs : List PV} : fieldPV Tryz.prog 51 (.agg cs) 4 = cs[6]? := fpS_of Tryz.underlying51 (by rfl) (by exact Tryz.underlying22) (by rfl) (by rfl) cs
theorem bld51 {parts : List (Nat × PV)} : buildPV Tryz.prog 51 parts = bldX [.int .i64 0, .int .i64 0, .int .i64 0, .int .i64 0, .int .i64 0, .int .i64 0, .isl [] .exact] [(0, 2), (2, 2), (4, 1), (5, 1), (6, 1)] parts := bldX_of zero51 Tryz.underlying51 (by kernel_rfl) (by kernel_rfl) parts
theorem lda52 {σ : Sg} {id off : Nat} : loadPV Tryz.prog σ 52 (.ptr id off) = ldA 6 σ id off := ldA_of Tryz.underlying52 rfl cells52
theorem ela52 {σ : Sg} {es i off : Nat} {l : List PV} : loadPV Tryz.prog σ 52 (.eptr es l i off) = elA 6 l i off := elA_of Tryz.underlying52 rfl cells52
theorem sto52 {σ : Sg} {id off : Nat} {p : PV} : storePV Tryz.prog σ 52 (.ptr id off) p = stX 6 σ id off p := stX_of Tryz.underlying52 cells52 p
theorem fa52_0 {id off : Nat} : fieldAddrPV Tryz.prog 52 (.ptr id off) 0 = some (.ptr id (off + 0)) := fa1_of Tryz.underlying52 (by rfl) (by exact Tryz.underlying3) (by exact cells3) (by rfl) (by rfl)
theorem fae52_0 {es i off : Nat} {l : List PV} : fieldAddrPV Tryz.prog 52 (.eptr es l i off) 0 = some (.eptr es l i (off + 0)) := fa2_of Tryz.underlying52 (by rfl) (by exact Tryz.underlying3) (by exact cells3) (by rfl) (by rfl)
theorem fp52_0 {cs : List PV} : fieldPV Tryz.prog 52 (.agg cs) 0 = cs[0]? := fpS_of Tryz.underlying52 (by rfl) (by exact Tryz.underlying3) (by rfl) (by rfl) cs
theorem fa52_1 {id off : Nat} : fieldAddrPV Tryz.prog 52 (.ptr id off) 1 = some (.ptr id (off + 1)) := fa1_of Tryz.underlying52 (by rfl) (by exact Tryz.underlying22) (by exact cells22) (by rfl) (by rfl)
theorem fae52_1 {es i off : Nat} {l : List PV} : fieldAddrPV Tryz.prog 52 (.eptr es l i off) 1 = some (.eptr es l i (off + 1)) := fa2_of Tryz.underlying52 (by rfl) (by exact Tryz.underlying22) (by exact cells22) (by rfl) (by rfl)
theorem fp52_1 {cs : List PV} : fieldPV Tryz.prog 52 (.agg cs) 1 = cs[1]? := fpS_of Tryz.underlying52 (by rfl) (by exact Tryz.underlying22) (by rfl) (by rfl) cs
theorem fa52_2 {id off : Nat} : fieldAddrPV Tryz.prog 52 (.ptr id off) 2 = some (.ptr id (off + 2)) := fa1_of Tryz.underlying52 (by rfl) (by exact Tryz.underlying49) (by exact cells49) (by rfl) (by rfl)
theorem fae52_2 {es i off : Nat} {l : List PV} : fieldAddrPV Tryz.prog 52 (.eptr es l i off) 2 = some (.eptr es l i (off + 2)) := fa2_of Tryz.underlying52 (by rfl) (by exact Tryz.underlying49) (by exact cells49) (by rfl) (by rfl)
theorem fp52_2 {cs : List PV} : fieldPV Tryz.prog 52 (.agg cs) 2 = if 2 + 2 ≤ cs.length then some (.agg ((cs.drop 2).take 2)) else none := fpA_of Tryz.underlying52 (by rfl) (by exact Tryz.underlying49) (by rfl) (by exact cells49) (by rfl) cs
theorem fa52_3 {id off : Nat} : fieldAddrPV Tryz.prog 52 (.ptr id off) 3 = some (.ptr id (off + 4)) := fa1_of Tryz.underlying52 (by rfl) (by exact Tryz.underlying3) (by exact cells3) (by rfl) (by rfl)
theorem fae52_3 {es i off : Nat} {l : List PV} : fieldAddrPV Tryz.prog 52 (.eptr es l i off) 3 = some (.eptr es l i (off + 4)) := fa2_of Tryz.underlying52 (by rfl) (by exact Tryz.underlying3) (by exact cells3) (by rfl) (by rfl)
theorem fp52_3 {cs : List PV} : fieldPV Tryz.prog 52 (.agg cs) 3 = cs[4]? := fpS_of Tryz.underlying52 (by rfl) (by exact Tryz.underlying3) (by rfl) (by rfl) cs
theorem fa52_4 {id off : Nat} : fieldAddrPV Tryz.prog 52 (.ptr id off) 4 = some (.ptr id (off + 5)) := fa1_of Tryz.underlying52 (by rfl) (by exact Tryz.underlying3) (by exact cells3) (by rfl) (by rfl)
theorem fae52_4 {es i off : Nat} {l : List PV} : fieldAddrPV Tryz.prog 52 (.eptr es l i off) 4 = some (.eptr es l i (off + 5)) := fa2_of Tryz.underlying52 (by rfl) (by exact Tryz.underlying3) (by exact cells3) (by rfl) (by rfl)
theorem fp52_4 {cs : List PV} : fieldPV Tryz.prog 52 (.agg cs) 4 = cs[5]? := fpS_of Tryz.underlying52 (by rfl) (by exact Tryz.underlying3) (by rfl) (by rfl) cs
theorem bld52 {parts : List (Nat × PV)} : buildPV Tryz.prog 52 parts = bldX [.int .i64 0, .isl [] .exact, .int .i64 0, .int .i64 0, .int .i64 0, .int .i64 0] [(0, 1), (1, 1), (2, 2), (4, 1), (5, 1)] parts := bldX_of zero52 Tryz.underlying52 (by kernel_rfl) (by kernel_rfl) parts
theorem lda53 {σ : Sg} {id off : Nat} : loadPV Tryz.prog σ 53 (.ptr id off) = ldA 6 σ id off := ldA_of Tryz.underlying53 rfl cells53
theorem ela53 {σ : Sg} {es i off : Nat} {l : List PV} : loadPV Tryz.prog σ 53 (.eptr es l i off) = elA 6 l i off := elA_of Tryz.underlying53 rfl cells53
theorem sto53 {σ : Sg} {id off : Nat} {p : PV} : storePV Tryz.prog σ 53 (.ptr id off) p = stX 6 σ id off p := stX_of Tryz.underlying53 cells53 p
theorem fa53_0 {id off : Nat} : fieldAddrPV Tryz.prog 53 (.ptr id off) 0 = some (.ptr id (off + 0)) := fa1_of Tryz.underlying53 (by rfl) (by exact Tryz.underlying3) (by exact cells3) (by rfl) (by rfl)
theorem fae53_0 {es i off : Nat} {l : List PV} : fieldAddrPV Tryz.prog 53 (.eptr es l i off) 0 = some (.eptr es l i (off + 0)) := fa2_of Tryz.underlying53 (by rfl) (by exact Tryz.underlying3) (by exact cells3) (by rfl) (by rfl)
theorem fp53_0 {cs : List PV} : fieldPV Tryz.prog 53 (.agg cs) 0 = cs[0]? := fpS_of Tryz.underlying53 (by rfl) (by exact Tryz.underlying3) (by rfl) (by rfl) cs
theorem fa53_1 {id off : Nat} : fieldAddrPV Tryz.prog 53 (.ptr id off) 1 = some (.ptr id (off + 1)) := fa1_of Tryz.underlying53 (by rfl) (by exact Tryz.underlying22) (by exact cells22) (by rfl) (by rfl)
theorem fae53_1 {es i off : Nat} {l : List PV} : fieldAddrPV Tryz.prog 53 (.eptr es l i off) 1 = some (.eptr es l i (off + 1)) := fa2_of Tryz.underlying53 (by rfl) (by exact Tryz.underlying22) (by exact cells22) (by rfl) (by rfl)
theorem fp53_1 {cs : List PV} : fieldPV Tryz.prog 53 (.agg cs) 1 = cs[1]? := fpS_of Tryz.underlying53 (by rfl) (by exact Tryz.underlying22) (by rfl) (by rfl) cs
theorem fa53_2 {id off : Nat} : fieldAddrPV Tryz.prog 53 (.ptr id off) 2 = some (.ptr id (off + 2)) := fa1_of Tryz.underlying53 (by rfl) (by exact Tryz.underlying49) (by exact cells49) (by rfl) (by rfl)
theorem fae53_2 {es i off : Nat} {l : List PV} : fieldAddrPV Tryz.prog 53 (.eptr es l i off) 2 = some (.eptr es l i (off + 2)) := fa2_of Tryz.underlying53 (by rfl) (by exact Tryz.underlying49) (by exact cells49) (by rfl) (by rfl)
theorem fp53_2 {cs : List PV} : fieldPV Tryz.prog 53 (.agg cs) 2 = if 2 + 2 ≤ cs.length then some (.agg ((cs.drop 2).take 2)) else none := fpA_of Tryz.underlying53 (by rfl) (by exact Tryz.underlying49) (by rfl) (by exact cells49) (by rfl) cs
theorem fa53_3 {id off : Nat} : fieldAddrPV Tryz.prog 53 (.ptr id off) 3 = some (.ptr id (off + 4)) := fa1_of Tryz.underlying53 (by rfl) (by exact Tryz.underlying3) (by exact cells3) (by rfl) (by rfl)
theorem fae53_3 {es i off : Nat} {l : List PV} : fieldAddrPV Tryz.prog 53 (.eptr es l i off) 3 = some (.eptr es l i (off + 4)) := fa2_of Tryz.underlying53 (by rfl) (by exact Tryz.underlying3) (by exact cells3) (by rfl) (by rfl)
theorem fp53_3 {cs : List PV} : fieldPV Tryz.prog 53 (.agg cs) 3 = cs[4]? := fpS_of Tryz.underlying53 (by rfl) (by exact Tryz.underlying3) (by rfl) (by rfl) cs
theorem fa53_4 {id off : Nat} : fieldAddrPV Tryz.prog 53 (.ptr id off) 4 = some (.ptr id (off + 5)) := fa1_of Tryz.underlying53 (by rfl) (by exact Tryz.underlying3) (by exact cells3) (by rfl) (by rfl)
theorem fae53_4 {es i off : Nat} {l : List PV} : fieldAddrPV Tryz.prog 53 (.eptr es l i off) 4 = some (.eptr es l i (off + 5)) := fa2_of Tryz.underlying53 (by rfl) (by exact Tryz.underlying3) (by exact cells3) (by rfl) (by rfl)
theorem fp53_4 {cs : List PV} : fieldPV Tryz.prog 53 (.agg cs) 4 = cs[5]? := fpS_of Tryz.underlying53 (by rfl) (by exact Tryz.underlying3) (by rfl) (by rfl) cs
theorem bld53 {parts : List (Nat × PV)} : buildPV Tryz.prog 53 parts = bldX [.int .i64 0, .isl [] .exact, .int .i64 0, .int .i64 0, .int .i64 0, .int .i64 0] [(0, 1), (1, 1), (2, 2), (4, 1), (5, 1)] parts := bldX_of zero53 Tryz.underlying53 (by kernel_rfl) (by kernel_rfl) parts
theorem lda54 {σ : Sg} {id off : Nat} : loadPV Tryz.prog σ 54 (.ptr id off) = ldS σ id off := ldS_of Tryz.underlying54 rfl
theorem ela54 {σ : Sg} {es i off : Nat} {l : List PV} : loadPV Tryz.prog σ 54 (.eptr es l i off) = elS l i off := elS_of Tryz.underlying54 rfl
theorem sto54 {σ : Sg} {id off : Nat} {p : PV} : storePV Tryz.prog σ 54 (.ptr id off) p = stX 1 σ id off p := stX_of Tryz.underlying54 cells54 p
theorem ia54 {l : List PV} {own : Own} {k : IntKind} {i : Int} : indexAddrPV Tryz.prog 54 (.isl l own) (.int k i) = iaX 1 l i := iaX_of Tryz.underlying54 Tryz.underlying38 cells38 k i
theorem iam54 {id off len : Nat} {k : IntKind} {i : Int} : indexAddrPV Tryz.prog 54 (.msl id off len) (.int k i) = iaM 1 id off len i := iaM_of Tryz.underlying54 Tryz.underlying38 cells38 k len i
theorem len54 {l : List PV} {own : Own} : lenPV Tryz.prog 54 (.isl l own) = some (.int .i64 l.length) := len_of Tryz.underlying54
theorem lenm54 {id off n : Nat} : lenPV Tryz.prog 54 (.msl id off n) = some (.int .i64 n) := lenM_of Tryz.underlying54 n
theorem bs54 {len : Nat} {parts : List (Nat × PV)} : buildSlicePV Tryz.prog 54 len parts = bsX 1 len parts := bsX_of Tryz.underlying54 Tryz.underlying38 cells38 zero38 len parts
theorem app54 {σ : Sg} {l m : List PV} {own own' : Own} : appendPV Tryz.prog σ 54 54 (.isl l own) (.isl m own') = appX 1 8 σ l own m := appX_of Tryz.underlying54 Tryz.underlying38 cells38 bytes38 (by decide) (by decide) zero38 rfl
theorem lda65 {σ : Sg} {id off : Nat} : loadPV Tryz.prog σ 65 (.ptr id off) = ldS σ id off := ldS_of Tryz.underlying65 rfl
theorem ela65 {σ : Sg} {es i off : Nat} {l : List PV} : loadPV Tryz.prog σ 65 (.eptr es l i off) = elS l i off := elS_of Tryz.underlying65 rfl
theorem sto65 {σ : Sg} {id off : Nat} {p : PV} : storePV Tryz.prog σ 65 (.ptr id off) p = stX 1 σ id off p := stX_of Tryz.underlying65 cells65 p
theorem lda66 {σ : Sg} {id off : Nat} : loadPV Tryz.prog σ 66 (.ptr id off) = ldA 1 σ id off := ldA_of Tryz.underlying66 rfl cells66
theorem ela66 {σ : Sg} {es i off : Nat} {l : List PV} : loadPV Tryz.prog σ 66 (.eptr es l i off) = elA 1 l i off := elA_of Tryz.underlying66 rfl cells66
theorem sto66 {σ : Sg} {id off : Nat} {p : PV} : storePV Tryz.prog σ 66 (.ptr id off) p = stX 1 σ id off p := stX_of Tryz.underlying66 cells66 p
theorem fa66_0 {id off : Nat} : fieldAddrPV Tryz.prog 66 (.ptr id off) 0 = some (.ptr id (off + 0)) := fa1_of Tryz.underlying66 (by rfl) (by exact Tryz.underlying65) (by exact cells65) (by rfl) (by rfl)
theorem fae66_0 {es i off : Nat} {l : List PV} : fieldAddrPV Tryz.prog 66 (.eptr es l i off) 0 = some (.eptr es l i (off + 0)) := fa2_of Tryz.underlying66 (by rfl) (by exact Tryz.underlying65) (by exact cells65) (by rfl) (by rfl)
theorem fp66_0 {cs : List PV} : fieldPV Tryz.prog 66 (.agg cs) 0 = cs[0]? := fpS_of Tryz.underlying66 (by rfl) (by exact Tryz.underlying65) (by rfl) (by rfl) cs
theorem eqs66 {a0 b0 : Int} : eqPV Tryz.prog 66 (.agg [.int .u64 a0]) (.agg [.int .u64 b0]) = some ((a0 == b0) && true) := by kernel_rfl
theorem bld66 {parts : List (Nat × PV)} : buildPV Tryz.prog 66 parts = bldX [.int .u64 0] [(0, 1)] parts := bldX_of zero66 Tryz.underlying66 (by kernel_rfl) (by kernel_rfl) parts
theorem lda67 {σ : Sg} {id off : Nat} : loadPV Tryz.prog σ 67 (.ptr id off) = ldA 1 σ id off := ldA_of Tryz.underlying67 rfl cells67
theorem ela67 {σ : Sg} {es i off : Nat} {l : List PV} : loadPV Tryz.prog σ 67 (.eptr es l i off) = elA 1 l i off := elA_of Tryz.underlying67 rfl cells67
theorem sto67 {σ : Sg} {id off : Nat} {p : PV} : storePV Tryz.prog σ 67 (.ptr id off) p = stX 1 σ id off p := stX_of Tryz.underlying67 cells67 p
theorem fa67_0 {id off : Nat} : fieldAddrPV Tryz.prog 67 (.ptr id off) 0 = some (.ptr id (off + 0)) := fa1_of Tryz.underlying67 (by rfl) (by exact Tryz.underlying65) (by exact cells65) (by rfl) (by rfl)
theorem fae67_0 {es i off : Nat} {l : List PV} : fieldAddrPV Tryz.prog 67 (.eptr es l i off) 0 = some (.eptr es l i (off + 0)) := fa2_of Tryz.underlying67 (by rfl) (by exact Tryz.underlying65) (by exact cells65) (by rfl) (by rfl)
theorem fp67_0 {cs : List PV} : fieldPV Tryz.prog 67 (.agg cs) 0 = cs[0]? := fpS_of Tryz.underlying67 (by rfl) (by exact Tryz.underlying65) (by rfl) (by rfl) cs
theorem eqs67 {a0 b0 : Int} : eqPV Tryz.prog 67 (.agg [.int .u64 a0]) (.agg [.int .u64 b0]) = some ((a0 == b0) && true) := by kernel_rfl
theorem bld67 {parts : List (Nat × PV)} : buildPV Tryz.prog 67 parts = bldX [.int .u64 0] [(0, 1)] parts := bldX_of zero67 Tryz.underlying67 (by kernel_rfl) (by kernel_rfl) parts
theorem lda75 {σ : Sg} {id off : Nat} : loadPV Tryz.prog σ 75 (.ptr id off) = ldS σ id off := ldS_of Tryz.underlying75 rfl
theorem ela75 {σ : Sg} {es i off : Nat} {l : List PV} : loadPV Tryz.prog σ 75 (.eptr es l i off) = elS l i off := elS_of Tryz.underlying75 rfl
theorem sto75 {σ : Sg} {id off : Nat} {p : PV} : storePV Tryz.prog σ 75 (.ptr id off) p = stX 1 σ id off p := stX_of Tryz.underlying75 cells75 p
theorem lda76 {σ : Sg} {id off : Nat} : loadPV Tryz.prog σ 76 (.ptr id off) = ldS σ id off := ldS_of Tryz.underlying76 rfl
theorem ela76 {σ : Sg} {es i off : Nat} {l : List PV} : loadPV Tryz.prog σ 76 (.eptr es l i off) = elS l i off := elS_of Tryz.underlying76 rfl
theorem sto76 {σ : Sg} {id off : Nat} {p : PV} : storePV Tryz.prog σ 76 (.ptr id off) p = stX 1 σ id off p := stX_of Tryz.underlying76 cells76 p
theorem ia76 {l : List PV} {own : Own} {k : IntKind} {i : Int} : indexAddrPV Tryz.prog 76 (.isl l own) (.int k i) = iaX 1 l i := iaX_of Tryz.underlying76 Tryz.underlying5 cells5 k i
theorem iam76 {id off len : Nat} {k : IntKind} {i : Int} : indexAddrPV Tryz.prog 76 (.msl id off len) (.int k i) = iaM 1 id off len i := iaM_of Tryz.underlying76 Tryz.underlying5 cells5 k len i
theorem len76 {l : List PV} {own : Own} : lenPV Tryz.prog 76 (.isl l own) = some (.int .i64 l.length) := len_of Tryz.underlying76
theorem lenm76 {id off n : Nat} : lenPV Tryz.prog 76 (.msl id off n) = some (.int .i64 n) := lenM_of Tryz.underlying76 n
theorem bs76 {len : Nat} {parts : List (Nat × PV)} : buildSlicePV Tryz.prog 76 len parts = bsX 1 len parts := bsX_of Tryz.underlying76 Tryz.underlying5 cells5 zero5 len parts
theorem app76 {σ : Sg} {l m : List PV} {own own' : Own} : appendPV Tryz.prog σ 76 76 (.isl l own) (.isl m own') = appX 1 1 σ l own m := appX_of Tryz.underlying76 Tryz.underlying5 cells5 bytes5 (by decide) (by decide) zero5 rfl
theorem lda77 {σ : Sg} {id off : Nat} : loadPV Tryz.prog σ 77 (.ptr id off) = ldA 2 σ id off := ldA_of Tryz.underlying77 rfl cells77
theorem ela77 {σ : Sg} {es i off : Nat} {l : List PV} : loadPV Tryz.prog σ 77 (.eptr es l i off) = elA 2 l i off := elA_of Tryz.underlying77 rfl cells77
theorem sto77 {σ : Sg} {id off : Nat} {p : PV} : storePV Tryz.prog σ 77 (.ptr id off) p = stX 2 σ id off p := stX_of Tryz.underlying77 cells77 p
theorem fa77_0 {id off : Nat} : fieldAddrPV Tryz.prog 77 (.ptr id off) 0 = some (.ptr id (off + 0)) := fa1_of Tryz.underlying77 (by rfl) (by exact Tryz.underlying75) (by exact cells75) (by rfl) (by rfl)
theorem fae77_0 {es i off : Nat} {l : List PV} : fieldAddrPV Tryz.prog 77 (.eptr es l i off) 0 = some (.eptr es l i (off + 0)) := fa2_of Tryz.underlying77 (by rfl) (by exact Tryz.underlying75) (by exact cells75) (by rfl) (by rfl)
theorem fp77_0 {cs : List PV} : fieldPV Tryz.prog 77 (.agg cs) 0 = cs[0]? := fpS_of Tryz.underlying77 (by rfl) (by exact Tryz.underlying75) (by rfl) (by rfl) cs
theorem fa77_1 {id off : Nat} : fieldAddrPV Tryz.prog 77 (.ptr id off) 1 = some (.ptr id (off + 1)) := fa1_of Tryz.underlying77 (by rfl) (by exact Tryz.underlying76) (by exact cells76) (by rfl) (by rfl)
theorem fae77_1 {es i off : Nat} {l : List PV} : fieldAddrPV Tryz.prog 77 (.eptr es l i off) 1 = some (.eptr es l i (off + 1)) := fa2_of Tryz.underlying77 (by rfl) (by exact Tryz.underlying76) (by exact cells76) (by rfl) (by rfl)
theorem fp77_1 {cs : List PV} : fieldPV Tryz.prog 77 (.agg cs) 1 = cs[1]? := fpS_of Tryz.underlying77 (by rfl) (by exact Tryz.underlying76) (by rfl) (by rfl) cs
theorem bld77 {parts : List (Nat × PV)} : buildPV Tryz.prog 77 parts = bldX [.nilptr, .isl [] .exact] [(0, 1), (1, 1)] parts := bldX_of zero77 Tryz.underlying77 (by kernel_rfl) (by kernel_rfl) parts
theorem lda78 {σ : Sg} {id off : Nat} : loadPV Tryz.prog σ 78 (.ptr id off) = ldA 2 σ id off := ldA_of Tryz.underlying78 rfl cells78
theorem ela78 {σ : Sg} {es i off : Nat} {l : List PV} : loadPV Tryz.prog σ 78 (.eptr es l i off) = elA 2 l i off := elA_of Tryz.underlying78 rfl cells78
theorem sto78 {σ : Sg} {id off : Nat} {p : PV} : storePV Tryz.prog σ 78 (.ptr id off) p = stX 2 σ id off p := stX_of Tryz.underlying78 cells78 p
theorem fa78_0 {id off : Nat} : fieldAddrPV Tryz.prog 78 (.ptr id off) 0 = some (.ptr id (off + 0)) := fa1_of Tryz.underlying78 (by rfl) (by exact Tryz.underlying75) (by exact cells75) (by rfl) (by rfl)
theorem fae78_0 {es i off : Nat} {l : List PV} : fieldAddrPV Tryz.prog 78 (.eptr es l i off) 0 = some (.eptr es l i (off + 0)) := fa2_of Tryz.underlying78 (by rfl) (by exact Tryz.underlying75) (by exact cells75) (by rfl) (by rfl)
theorem fp78_0 {cs : List PV} : fieldPV Tryz.prog 78 (.agg cs) 0 = cs[0]? := fpS_of Tryz.underlying78 (by rfl) (by exact Tryz.underlying75) (by rfl) (by rfl) cs
theorem fa78_1 {id off : Nat} : fieldAddrPV Tryz.prog 78 (.ptr id off) 1 = some (.ptr id (off + 1)) := fa1_of Tryz.underlying78 (by rfl) (by exact Tryz.underlying76) (by exact cells76) (by rfl) (by rfl)
theorem fae78_1 {es i off : Nat} {l : List PV} : fieldAddrPV Tryz.prog 78 (.eptr es l i off) 1 = some (.eptr es l i (off + 1)) := fa2_of Tryz.underlying78 (by rfl) (by exact Tryz.underlying76) (by exact cells76) (by rfl) (by rfl)
theorem fp78_1 {cs : List PV} : fieldPV Tryz.prog 78 (.agg cs) 1 = cs[1]? := fpS_of Tryz.underlying78 (by rfl) (by exact Tryz.underlying76) (by rfl) (by rfl) cs
theorem bld78 {parts : List (Nat × PV)} : buildPV Tryz.prog 78 parts = bldX [.nilptr, .isl [] .exact] [(0, 1), (1, 1)] parts := bldX_of zero78 Tryz.underlying78 (by kernel_rfl) (by kernel_rfl) parts
theorem lda80 {σ : Sg} {id off : Nat} : loadPV Tryz.prog σ 80 (.ptr id off) = ldS σ id off := ldS_of Tryz.underlying80 rfl
theorem ela80 {σ : Sg} {es i off : Nat} {l : List PV} : loadPV Tryz.prog σ 80 (.eptr es l i off) = elS l i off := elS_of Tryz.underlying80 rfl
theorem sto80 {σ : Sg} {id off : Nat} {p : PV} : storePV Tryz.prog σ 80 (.ptr id off) p = stX 1 σ id off p := stX_of Tryz.underlying80 cells80 p
theorem lda92 {σ : Sg} {id off : Nat} : loadPV Tryz.prog σ 92 (.ptr id off) = ldA 13 σ id off := ldA_of Tryz.underlying92 rfl cells92
theorem ela92 {σ : Sg} {es i off : Nat} {l : List PV} : loadPV Tryz.prog σ 92 (.eptr es l i off) = elA 13 l i off := elA_of Tryz.underlying92 rfl cells92
theorem sto92 {σ : Sg} {id off : Nat} {p : PV} : storePV Tryz.prog σ 92 (.ptr id off) p = stX 13 σ id off p := stX_of Tryz.underlying92 cells92 p
theorem fa92_0 {id off : Nat} : fieldAddrPV Tryz.prog 92 (.ptr id off) 0 = some (.ptr id (off + 0)) := fa1_of Tryz.underlying92 (by rfl) (by exact Tryz.underlying28) (by exact cells28) (by rfl) (by rfl)
theorem fae92_0 {es i off : Nat} {l : List PV} : fieldAddrPV Tryz.prog 92 (.eptr es l i off) 0 = some (.eptr es l i (off + 0)) := fa2_of Tryz.underlying92 (by rfl) (by exact Tryz.underlying28) (by exact cells28) (by rfl) (by rfl)
theorem fp92_0 {cs : List PV} : fieldPV Tryz.prog 92 (.agg cs) 0 = if 0 + 6 ≤ cs.length then some (.agg ((cs.drop 0).take 6)) else none := fpA_of Tryz.underlying92 (by rfl) (by exact Tryz.underlying28) (by rfl) (by exact cells28) (by rfl) cs
theorem fa92_1 {id off : Nat} : fieldAddrPV Tryz.prog 92 (.ptr id off) 1 = some (.ptr id (off + 6)) := fa1_of Tryz.underlying92 (by rfl) (by exact Tryz.underlying29) (by exact cells29) (by rfl) (by rfl)
theorem fae92_1 {es i off : Nat} {l : List PV} : fieldAddrPV Tryz.prog 92 (.eptr es l i off) 1 = some (.eptr es l i (off + 6)) := fa2_of Tryz.underlying92 (by rfl) (by exact Tryz.underlying29) (by exact cells29) (by rfl) (by rfl)
theorem fp92_1 {cs : List PV} : fieldPV Tryz.prog 92 (.agg cs) 1 = cs[6]? := fpS_of Tryz.underlying92 (by rfl) (by exact Tryz.underlying29) (by rfl) (by rfl) cs
theorem fa92_2 {id off : Nat} : fieldAddrPV Tryz.prog 92 (.ptr id off) 2 = some (.ptr id (off + 7)) := fa1_of Tryz.underlying92 (by rfl) (by exact Tryz.underlying53) (by exact cells53) (by rfl) (by rfl)
theorem fae92_2 {es i off : Nat} {l : List PV} : fieldAddrPV Tryz.prog 92 (.eptr es l i off) 2 = some (.eptr es l i (off + 7)) := fa2_of Tryz.underlying92 (by rfl) (by exact Tryz.underlying53) (by exact cells53) (by rfl) (by rfl)
theorem fp92_2 {cs : List PV} : fieldPV Tryz.prog 92 (.agg cs) 2 = if 7 + 6 ≤ cs.length then some (.agg ((cs.drop 7).take 6)) else none := fpA_of Tryz.underlying92 (by rfl) (by exact Tryz.underlying53) (by rfl) (by exact cells53) (by rfl) cs
theorem bld92 {parts : List (Nat × PV)} : buildPV Tryz.prog 92 parts = bldX [.isl [] .exact, .isl [] .exact, .isl [] .exact, .int .i64 0, .int .i64 0, .isl [] .exact, .isl [] .exact, .int .i64 0, .isl [] .exact, .int .i64 0, .int .i64 0, .int .i64 0, .int .i64 0] [(0, 6), (6, 1), (7, 6)] parts := bldX_of zero92 Tryz.underlying92 (by kernel_rfl) (by kernel_rfl) parts
theorem lda93 {σ : Sg} {id off : Nat} : loadPV Tryz.prog σ 93 (.ptr id off) = ldA 13 σ id off := ldA_of Tryz.underlying93 rfl cells93
theorem ela93 {σ : Sg} {es i off : Nat} {l : List PV} : loadPV Tryz.prog σ 93 (.eptr es l i off) = elA 13 l i off := elA_of Tryz.underlying93 rfl cells93
theorem sto93 {σ : Sg} {id off : Nat} {p : PV} : storePV Tryz.prog σ 93 (.ptr id off) p = stX 13 σ id off p := stX_of Tryz.underlying93 cells93 p
theorem fa93_0 {id off : Nat} : fieldAddrPV Tryz.prog 93 (.ptr id off) 0 = some (.ptr id (off + 0)) := fa1_of Tryz.underlying93 (by rfl) (by exact Tryz.underlying28) (by exact cells28) (by rfl) (by rfl)
theorem fae93_0 {es i off : Nat} {l : List PV} : fieldAddrPV Tryz.prog 93 (.eptr es l i off) 0 = some (.eptr es l i (off + 0)) := fa2_of Tryz.underlying93 (by rfl) (by exact Tryz.underlying28) (by exact cells28) (by rfl) (by rfl)
theorem fp93_0 {cs : List PV} : fieldPV Tryz.prog 93 (.agg cs) 0 = if 0 + 6 ≤ cs.length then some (.agg ((cs.drop 0).take 6)) else none := fpA_of Tryz.underlying93 (by rfl) (by exact Tryz.underlying28) (by rfl) (by exact cells28) (by rfl) cs
theorem fa93_1 {id off : Nat} : fieldAddrPV Tryz.prog 93 (.ptr id off) 1 = some (.ptr id (off + 6)) := fa1_of Tryz.underlying93 (by rfl) (by exact Tryz.underlying29) (by exact cells29) (by rfl) (by rfl)
theorem fae93_1 {es i off : Nat} {l : List PV} : fieldAddrPV Tryz.prog 93 (.eptr es l i off) 1 = some (.eptr es l i (off + 6)) := fa2_of Tryz.underlying93 (by rfl) (by exact Tryz.underlying29) (by exact cells29) (by rfl) (by rfl)
theorem fp93_1 {cs : List PV} : fieldPV Tryz.prog 93 (.agg cs) 1 = cs[6]? := fpS_of Tryz.underlying93 (by rfl) (by exact Tryz.underlying29) (by rfl) (by rfl) cs
theorem fa93_2 {id off : Nat} : fieldAddrPV Tryz.prog 93 (.ptr id off) 2 = some (.ptr id (off + 7)) := fa1_of Tryz.underlying93 (by rfl) (by exact Tryz.underlying53) (by exact cells53) (by rfl) (by rfl)
theorem fae93_2 {es i off : Nat} {l : List PV} : fieldAddrPV Tryz.prog 93 (.eptr es l i off) 2 = some (.eptr es l i (off + 7)) := fa2_of Tryz.underlying93 (by rfl) (by exact Tryz.underlying53) (by exact cells53) (by rfl) (by rfl)
theorem fp93_2 {cs : List PV} : fieldPV Tryz.prog 93 (.agg cs) 2 = if 7 + 6 ≤ cs.length then some (.agg ((cs.drop 7).take 6)) else none := fpA_of Tryz.underlying93 (by rfl) (by exact Tryz.underlying53) (by rfl) (by exact cells53) (by rfl) cs
theorem bld93 {parts : List (Nat × PV)} : buildPV Tryz.prog 93 parts = bldX [.isl [] .exact, .isl [] .exact, .isl [] .exact, .int .i64 0, .int .i64 0, .isl [] .exact, .isl [] .exact, .int .i64 0, .isl [] .exact, .int .i64 0, .int .i64 0, .int .i64 0, .int .i64 0] [(0, 6), (6, 1), (7, 6)] parts := bldX_of zero93 Tryz.underlying93 (by kernel_rfl) (by kernel_rfl) parts
theorem lda94 {σ : Sg} {id off : Nat} : loadPV Tryz.prog σ 94 (.ptr id off) = ldS σ id off := ldS_of Tryz.underlying94 rfl
theorem ela94 {σ : Sg} {es i off : Nat} {l : List PV} : loadPV Tryz.prog σ 94 (.eptr es l i off) = elS l i off := elS_of Tryz.underlying94 rfl
theorem sto94 {σ : Sg} {id off : Nat} {p : PV} : storePV Tryz.prog σ 94 (.ptr id off) p = stX 1 σ id off p := stX_of Tryz.underlying94 cells94 p
theorem lda95 {σ : Sg} {id off : Nat} : loadPV Tryz.prog σ 95 (.ptr id off) = ldA 2 σ id off := ldA_of Tryz.underlying95 rfl cells95
theorem ela95 {σ : Sg} {es i off : Nat} {l : List PV} : loadPV Tryz.prog σ 95 (.eptr es l i off) = elA 2 l i off := elA_of Tryz.underlying95 rfl cells95
theorem sto95 {σ : Sg} {id off : Nat} {p : PV} : storePV Tryz.prog σ 95 (.ptr id off) p = stX 2 σ id off p := stX_of Tryz.underlying95 cells95 p
theorem fa95_0 {id off : Nat} : fieldAddrPV Tryz.prog 95 (.ptr id off) 0 = some (.ptr id (off + 0)) := fa1_of Tryz.underlying95 (by rfl) (by exact Tryz.underlying3) (by exact cells3) (by rfl) (by rfl)
theorem fae95_0 {es i off : Nat} {l : List PV} : fieldAddrPV Tryz.prog 95 (.eptr es l i off) 0 = some (.eptr es l i (off + 0)) := fa2_of Tryz.underlying95 (by rfl) (by exact Tryz.underlying3) (by exact cells3) (by rfl) (by rfl)
theorem fp95_0 {cs : List PV} : fieldPV Tryz.prog 95 (.agg cs) 0 = cs[0]? := fpS_of Tryz.underlying95 (by rfl) (by exact Tryz.underlying3) (by rfl) (by rfl) cs
theorem fa95_1 {id off : Nat} : fieldAddrPV Tryz.prog 95 (.ptr id off) 1 = some (.ptr id (off + 1)) := fa1_of Tryz.underlying95 (by rfl) (by exact Tryz.underlying3) (by exact cells3) (by rfl) (by rfl)
theorem fae95_1 {es i off : Nat} {l : List PV} : fieldAddrPV Tryz.prog 95 (.eptr es l i off) 1 = some (.eptr es l i (off + 1)) := fa2_of Tryz.underlying95 (by rfl) (by exact Tryz.underlying3) (by exact cells3) (by rfl) (by rfl)
theorem fp95_1 {cs : List PV} : fieldPV Tryz.prog 95 (.agg cs) 1 = cs[1]? := fpS_of Tryz.underlying95 (by rfl) (by exact Tryz.underlying3) (by rfl) (by rfl) cs
theorem eqs95 {a0 a1 b0 b1 : Int} : eqPV Tryz.prog 95 (.agg [.int .i64 a0, .int .i64 a1]) (.agg [.int .i64 b0, .int .i64 b1]) = some ((a0 == b0) && ((a1 == b1) && true)) := by kernel_rfl
theorem bld95 {parts : List (Nat × PV)} : buildPV Tryz.prog 95 parts = bldX [.int .i64 0, .int .i64 0] [(0, 1), (1, 1)] parts := bldX_of zero95 Tryz.underlying95 (by kernel_rfl) (by kernel_rfl) parts
theorem lda96 {σ : Sg} {id off : Nat} : loadPV Tryz.prog σ 96 (.ptr id off) = ldA 2 σ id off := ldA_of Tryz.underlying96 rfl cells96
theorem ela96 {σ : Sg} {es i off : Nat} {l : List PV} : loadPV Tryz.prog σ 96 (.eptr es l i off) = elA 2 l i off := elA_of Tryz.underlying96 rfl cells96
theorem sto96 {σ : Sg} {id off : Nat} {p : PV} : storePV Tryz.prog σ 96 (.ptr id off) p = stX 2 σ id off p := stX_of Tryz.underlying96 cells96 p
theorem fa96_0 {id off : Nat} : fieldAddrPV Tryz.prog 96 (.ptr id off) 0 = some (.ptr id (off + 0)) := fa1_of Tryz.underlying96 (by rfl) (by exact Tryz.underlying3) (by exact cells3) (by rfl) (by rfl)
theorem fae96_0 {es i off : Nat} {l : List PV} : fieldAddrPV Tryz.prog 96 (.eptr es l i off) 0 = some (.eptr es l i (off + 0)) := fa2_of Tryz.underlying96 (by rfl) (by exact Tryz.underlying3) (by exact cells3) (by rfl) (by rfl)
theorem fp96_0 {cs : List PV} : fieldPV Tryz.prog 96 (.agg cs) 0 = cs[0]? := fpS_of Tryz.underlying96 (by rfl) (by exact Tryz.underlying3) (by rfl) (by rfl) cs
theorem fa96_1 {id off : Nat} : fieldAddrPV Tryz.prog 96 (.ptr id off) 1 = some (.ptr id (off + 1)) := fa1_of Tryz.underlying96 (by rfl) (by exact Tryz.underlying3) (by exact cells3) (by rfl) (by rfl)
theorem fae96_1 {es i off : Nat} {l : List PV} : fieldAddrPV Tryz.prog 96 (.eptr es l i off) 1 = some (.eptr es l i (off + 1)) := fa2_of Tryz.underlying96 (by rfl) (by exact Tryz.underlying3) (by exact cells3) (by rfl) (by rfl)
theorem fp96_1 {cs : List PV} : fieldPV Tryz.prog 96 (.agg cs) 1 = cs[1]? := fpS_of Tryz.underlying96 (by rfl) (by exact Tryz.underlying3) (by rfl) (by rfl) cs
theorem eqs96 {a0 a1 b0 b1 : Int} : eqPV Tryz.prog 96 (.agg [.int .i64 a0, .int .i64 a1]) (.agg [.int .i64 b0, .int .i64 b1]) = some ((a0 == b0) && ((a1 == b1) && true)) := by kernel_rfl
theorem bld96 {parts : List (Nat × PV)} : buildPV Tryz.prog 96 parts = bldX [.int .i64 0, .int .i64 0] [(0, 1), (1, 1)] parts := bldX_of zero96 Tryz.underlying96 (by kernel_rfl) (by kernel_rfl) parts
theorem lda103 {σ : Sg} {id off : Nat} : loadPV Tryz.prog σ 103 (.ptr id off) = ldS σ id off := ldS_of Tryz.underlying103 rfl
theorem ela103 {σ : Sg} {es i off : Nat} {l : List PV} : loadPV Tryz.prog σ 103 (.eptr es l i off) = elS l i off := elS_of Tryz.underlying103 rfl
theorem sto103 {σ : Sg} {id off : Nat} {p : PV} : storePV Tryz.prog σ 103 (.ptr id off) p = stX 1 σ id off p := stX_of Tryz.underlying103 cells103 p
theorem lda106 {σ : Sg} {id off : Nat} : loadPV Tryz.prog σ 106 (.ptr id off) = ldS σ id off := ldS_of Tryz.underlying106 rfl
theorem ela106 {σ : Sg} {es i off : Nat} {l : List PV} : loadPV Tryz.prog σ 106 (.eptr es l i off) = elS l i off := elS_of Tryz.underlying106 rfl
theorem sto106 {σ : Sg} {id off : Nat} {p : PV} : storePV Tryz.prog σ 106 (.ptr id off) p = stX 1 σ id off p := stX_of Tryz.underlying106 cells106 p
theorem lda116 {σ : Sg} {id off : Nat} : loadPV Tryz.prog σ 116 (.ptr id off) = ldS σ id off := ldS_of Tryz.underlying116 rfl
theorem ela116 {σ : Sg} {es i off : Nat} {l : List PV} : loadPV Tryz.prog σ 116 (.eptr es l i off) = elS l i off := elS_of Tryz.underlying116 rfl
theorem sto116 {σ : Sg} {id off : Nat} {p : PV} : storePV Tryz.prog σ 116 (.ptr id off) p = stX 1 σ id off p := stX_of Tryz.underlying116 cells116 p
theorem lda119 {σ : Sg} {id off : Nat} : loadPV Tryz.prog σ 119 (.ptr id off) = ldA 720 σ id off := ldA_of Tryz.underlying119 rfl cells119
theorem ela119 {σ : Sg} {es i off : Nat} {l : List PV} : loadPV Tryz.prog σ 119 (.eptr es l i off) = elA 720 l i off := elA_of Tryz.underlying119 rfl cells119
theorem sto119 {σ : Sg} {id off : Nat} {p : PV} : storePV Tryz.prog σ 119 (.ptr id off) p = stX 720 σ id off p := stX_of Tryz.underlying119 cells119 p
theorem iar119 {id off : Nat} {k : IntKind} {i : Int} : indexAddrPV Tryz.prog 119 (.ptr id off) (.int k i) = iaM 1 id off 720 i := iaA_of Tryz.underlying119 Tryz.underlying4 cells4 k i
theorem ix119 {cs : List PV} {k : IntKind} {i : Int} : indexPV Tryz.prog 119 (.agg cs) (.int k i) = if 0 ≤ i ∧ i < (720 : Int) then cs[i.toNat]? else none := ixS_of Tryz.underlying119 Tryz.underlying4 rfl cells4 k i
theorem lda120 {σ : Sg} {id off : Nat} : loadPV Tryz.prog σ 120 (.ptr id off) = ldA 720 σ id off := ldA_of Tryz.underlying120 rfl cells120
theorem ela120 {σ : Sg} {es i off : Nat} {l : List PV} : loadPV Tryz.prog σ 120 (.eptr es l i off) = elA 720 l i off := elA_of Tryz.underlying120 rfl cells120
theorem sto120 {σ : Sg} {id off : Nat} {p : PV} : storePV Tryz.prog σ 120 (.ptr id off) p = stX 720 σ id off p := stX_of Tryz.underlying120 cells120 p
theorem iar120 {id off : Nat} {k : IntKind} {i : Int} : indexAddrPV Tryz.prog 120 (.ptr id off) (.int k i) = iaM 1 id off 720 i := iaA_of Tryz.underlying120 Tryz.underlying4 cells4 k i
theorem ix120 {cs : List PV} {k : IntKind} {i : Int} : indexPV Tryz.prog 120 (.agg cs) (.int k i) = if 0 ≤ i ∧ i < (720 : Int) then cs[i.toNat]? else none := ixS_of Tryz.underlying120 Tryz.underlying4 rfl cells4 k i
theorem lda125 {σ : Sg} {id off : Nat} : loadPV Tryz.prog σ 125 (.ptr id off) = ldS σ id off := ldS_of Tryz.underlying125 rfl
theorem ela125 {σ : Sg} {es i off : Nat} {l : List PV} : loadPV Tryz.prog σ 125 (.eptr es l i off) = elS l i off := elS_of Tryz.underlying125 rfl
theorem sto125 {σ : Sg} {id off : Nat} {p : PV} : storePV Tryz.prog σ 125 (.ptr id off) p = stX 1 σ id off p := stX_of Tryz.underlying125 cells125 p
theorem lda133 {σ : Sg} {id off : Nat} : loadPV Tryz.prog σ 133 (.ptr id off) = ldS σ id off := ldS_of Tryz.underlying133 rfl
theorem ela133 {σ : Sg} {es i off : Nat} {l : List PV} : loadPV Tryz.prog σ 133 (.eptr es l i off) = elS l i off := elS_of Tryz.underlying133 rfl
theorem sto133 {σ : Sg} {id off : Nat} {p : PV} : storePV Tryz.prog σ 133 (.ptr id off) p = stX 1 σ id off p := stX_of Tryz.underlying133 cells133 p
theorem lda136 {σ : Sg} {id off : Nat} : loadPV Tryz.prog σ 136 (.ptr id off) = ldS σ id off := ldS_of Tryz.underlying136 rfl
theorem ela136 {σ : Sg} {es i off : Nat} {l : List PV} : loadPV Tryz.prog σ 136 (.eptr es l i off) = elS l i off := elS_of Tryz.underlying136 rfl
theorem sto136 {σ : Sg} {id off : Nat} {p : PV} : storePV Tryz.prog σ 136 (.ptr id off) p = stX 1 σ id off p := stX_of Tryz.underlying136 cells136 p
theorem lda139 {σ : Sg} {id off : Nat} : loadPV Tryz.prog σ 139 (.ptr id off) = ldS σ id off := ldS_of Tryz.underlying139 rfl
theorem ela139 {σ : Sg} {es i off : Nat} {l : List PV} : loadPV Tryz.prog σ 139 (.eptr es l i off) = elS l i off := elS_of Tryz.underlying139 rfl
theorem sto139 {σ : Sg} {id off : Nat} {p : PV} : storePV Tryz.prog σ 139 (.ptr id off) p = stX 1 σ id off p := stX_of Tryz.underlying139 cells139 p
theorem ia139 {l : List PV} {own : Own} {k : IntKind} {i : Int} : indexAddrPV Tryz.prog 139 (.isl l own) (.int k i) = iaX 1 l i := iaX_of Tryz.underlying139 Tryz.underlying94 cells94 k i
theorem iam139 {id off len : Nat} {k : IntKind} {i : Int} : indexAddrPV Tryz.prog 139 (.msl id off len) (.int k i) = iaM 1 id off len i := iaM_of Tryz.underlying139 Tryz.underlying94 cells94 k len i
theorem len139 {l : List PV} {own : Own} : lenPV Tryz.prog 139 (.isl l own) = some (.int .i64 l.length) := len_of Tryz.underlying139
theorem lenm139 {id off n : Nat} : lenPV Tryz.prog 139 (.msl id off n) = some (.int .i64 n) := lenM_of Tryz.underlying139 n
theorem bs139 {len : Nat} {parts : List (Nat × PV)} : buildSlicePV Tryz.prog 139 len parts = bsX 1 len parts := bsX_of Tryz.underlying139 Tryz.underlying94 cells94 zero94 len parts
theorem app139 {σ : Sg} {l m : List PV} {own own' : Own} : appendPV Tryz.prog σ 139 139 (.isl l own) (.isl m own') = appX 1 8 σ l own m := appX_of Tryz.underlying139 Tryz.underlying94 cells94 bytes94 (by decide) (by decide) zero94 rfl
theorem lda141 {σ : Sg} {id off : Nat} : loadPV Tryz.prog σ 141 (.ptr id off) = ldS σ id off := ldS_of Tryz.underlying141 rfl
theorem ela141 {σ : Sg} {es i off : Nat} {l : List PV} : loadPV Tryz.prog σ 141 (.eptr es l i off) = elS l i off := elS_of Tryz.underlying141 rfl
theorem sto141 {σ : Sg} {id off : Nat} {p : PV} : storePV Tryz.prog σ 141 (.ptr id off) p = stX 1 σ id off p := stX_of Tryz.underlying141 cells141 p
theorem ia141 {l : List PV} {own : Own} {k : IntKind} {i : Int} : indexAddrPV Tryz.prog 141 (.isl l own) (.int k i) = iaX 3 l i := iaX_of Tryz.underlying141 Tryz.underlying144 cells144 k i
theorem iam141 {id off len : Nat} {k : IntKind} {i : Int} : indexAddrPV Tryz.prog 141 (.msl id off len) (.int k i) = iaM 3 id off len i := iaM_of Tryz.underlying141 Tryz.underlying144 cells144 k len i
theorem len141 {l : List PV} {own : Own} : lenPV Tryz.prog 141 (.isl l own) = some (.int .i64 l.length) := len_of Tryz.underlying141
theorem lenm141 {id off n : Nat} : lenPV Tryz.prog 141 (.msl id off n) = some (.int .i64 n) := lenM_of Tryz.underlying141 n
theorem bs141 {len : Nat} {parts : List (Nat × PV)} : buildSlicePV Tryz.prog 141 len parts = bsX 3 len parts := bsX_of Tryz.underlying141 Tryz.underlying144 cells144 zero144 len parts
theorem app141 {σ : Sg} {l m : List PV} {own own' : Own} : appendPV Tryz.prog σ 141 141 (.isl l own) (.isl m own') = appX 3 24 σ l own m := appX_of Tryz.underlying141 Tryz.underlying144 cells144 bytes144 (by decide) (by decide) zero144 rfl
theorem lda143 {σ : Sg} {id off : Nat} : loadPV Tryz.prog σ 143 (.ptr id off) = ldA 3 σ id off := ldA_of Tryz.underlying143 rfl cells143
theorem ela143 {σ : Sg} {es i off : Nat} {l : List PV} : loadPV Tryz.prog σ 143 (.eptr es l i off) = elA 3 l i off := elA_of Tryz.underlying143 rfl cells143
theorem sto143 {σ : Sg} {id off : Nat} {p : PV} : storePV Tryz.prog σ 143 (.ptr id off) p = stX 3 σ id off p := stX_of Tryz.underlying143 cells143 p
theorem fa143_0 {id off : Nat} : fieldAddrPV Tryz.prog 143 (.ptr id off) 0 = some (.ptr id (off + 0)) := fa1_of Tryz.underlying143 (by rfl) (by exact Tryz.underlying49) (by exact cells49) (by rfl) (by rfl)
theorem fae143_0 {es i off : Nat} {l : List PV} : fieldAddrPV Tryz.prog 143 (.eptr es l i off) 0 = some (.eptr es l i (off + 0)) := fa2_of Tryz.underlying143 (by rfl) (by exact Tryz.underlying49) (by exact cells49) (by rfl) (by rfl)
theorem fp143_0 {cs : List PV} : fieldPV Tryz.prog 143 (.agg cs) 0 = if 0 + 2 ≤ cs.length then some (.agg ((cs.drop 0).take 2)) else none := fpA_of Tryz.underlying143 (by rfl) (by exact Tryz.underlying49) (by rfl) (by exact cells49) (by rfl) cs
theorem fa143_1 {id off : Nat} : fieldAddrPV Tryz.prog 143 (.ptr id off) 1 = some (.ptr id (off + 2)) := fa1_of Tryz.underlying143 (by rfl) (by exact Tryz.underlying3) (by exact cells3) (by rfl) (by rfl)
theorem fae143_1 {es i off : Nat} {l : List PV} : fieldAddrPV Tryz.prog 143 (.eptr es l i off) 1 = some (.eptr es l i (off + 2)) := fa2_of Tryz.underlying143 (by rfl) (by exact Tryz.underlying3) (by exact cells3) (by rfl) (by rfl)
theorem fp143_1 {cs : List PV} : fieldPV Tryz.prog 143 (.agg cs) 1 = cs[2]? := fpS_of Tryz.underlying143 (by rfl) (by exact Tryz.underlying3) (by rfl) (by rfl) cs
theorem bld143 {parts : List (Nat × PV)} : buildPV Tryz.prog 143 parts = bldX [.int .i64 0, .int .i64 0, .int .i64 0] [(0, 2), (2, 1)] parts := bldX_of zero143 Tryz.underlying143 (by kernel_rfl) (by kernel_rfl) parts
theorem lda144 {σ : Sg} {id off : Nat} : loadPV Tryz.prog σ 144 (.ptr id off) = ldA 3 σ id off := ldA_of Tryz.underlying144 rfl cells144
theorem ela144 {σ : Sg} {es i off : Nat} {l : List PV} : loadPV Tryz.prog σ 144 (.eptr es l i off) = elA 3 l i off := elA_of Tryz.underlying144 rfl cells144
theorem sto144 {σ : Sg} {id off : Nat} {p : PV} : storePV Tryz.prog σ 144 (.ptr id off) p = stX 3 σ id off p := stX_of Tryz.underlying144 cells144 p
theorem fa144_0 {id off : Nat} : fieldAddrPV Tryz.prog 144 (.ptr id off) 0 = some (.ptr id (off + 0)) := fa1_of Tryz.underlying144 (by rfl) (by exact Tryz.underlying49) (by exact cells49) (by rfl) (by rfl)
theorem fae144_0 {es i off : Nat} {l : List PV} : fieldAddrPV Tryz.prog 144 (.eptr es l i off) 0 = some (.eptr es l i (off + 0)) := fa2_of Tryz.underlying144 (by rfl) (by exact Tryz.underlying49) (by exact cells49) (by rfl) (by rfl)
theorem fp144_0 {cs : List PV} : fieldPV Tryz.prog 144 (.agg cs) 0 = if 0 + 2 ≤ cs.length then some (.agg ((cs.drop 0).take 2)) else none := fpA_of Tryz.underlying144 (by rfl) (by exact Tryz.underlying49) (by rfl) (by exact cells49) (by rfl) cs
theorem fa144_1 {id off : Nat} : fieldAddrPV Tryz.prog 144 (.ptr id off) 1 = some (.ptr id (off + 2)) := fa1_of Tryz.underlying144 (by rfl) (by exact Tryz.underlying3) (by exact cells3) (by rfl) (by rfl)
theorem fae144_1 {es i off : Nat} {l : List PV} : fieldAddrPV Tryz.prog 144 (.eptr es l i off) 1 = some (.eptr es l i (off + 2)) := fa2_of Tryz.underlying144 (by rfl) (by exact Tryz.underlying3) (by exact cells3) (by rfl) (by rfl)
theorem fp144_1 {cs : List PV} : fieldPV Tryz.prog 144 (.agg cs) 1 = cs[2]? := fpS_of Tryz.underlying144 (by rfl) (by exact Tryz.underlying3) (by rfl) (by rfl) cs
theorem bld144 {parts : List (Nat × PV)} : buildPV Tryz.prog 144 parts = bldX [.int .i64 0, .int .i64 0, .int .i64 0] [(0, 2), (2, 1)] parts := bldX_of zero144 Tryz.underlying144 (by kernel_rfl) (by kernel_rfl) parts
theorem lda146 {σ : Sg} {id off : Nat} : loadPV Tryz.prog σ 146 (.ptr id off) = ldA 24 σ id off := ldA_of Tryz.underlying146 rfl cells146
theorem ela146 {σ : Sg} {es i off : Nat} {l : List PV} : loadPV Tryz.prog σ 146 (.eptr es l i off) = elA 24 l i off := elA_of Tryz.underlying146 rfl cells146
theorem sto146 {σ : Sg} {id off : Nat} {p : PV} : storePV Tryz.prog σ 146 (.ptr id off) p = stX 24 σ id off p := stX_of Tryz.underlying146 cells146 p
theorem iar146 {id off : Nat} {k : IntKind} {i : Int} : indexAddrPV Tryz.prog 146 (.ptr id off) (.int k i) = iaM 1 id off 24 i := iaA_of Tryz.underlying146 Tryz.underlying5 cells5 k i
theorem ix146 {cs : List PV} {k : IntKind} {i : Int} : indexPV Tryz.prog 146 (.agg cs) (.int k i) = if 0 ≤ i ∧ i < (24 : Int) then cs[i.toNat]? else none := ixS_of Tryz.underlying146 Tryz.underlying5 rfl cells5 k i
theorem lda159 {σ : Sg} {id off : Nat} : loadPV Tryz.prog σ 159 (.ptr id off) = ldA 3 σ id off := ldA_of Tryz.underlying159 rfl cells159
theorem ela159 {σ : Sg} {es i off : Nat} {l : List PV} : loadPV Tryz.prog σ 159 (.eptr es l i off) = elA 3 l i off := elA_of Tryz.underlying159 rfl cells159
theorem sto159 {σ : Sg} {id off : Nat} {p : PV} : storePV Tryz.prog σ 159 (.ptr id off) p = stX 3 σ id off p := stX_of Tryz.underlying159 cells159 p
theorem fa159_0 {id off : Nat} : fieldAddrPV Tryz.prog 159 (.ptr id off) 0 = some (.ptr id (off + 0)) := fa1_of Tryz.underlying159 (by rfl) (by exact Tryz.underlying9) (by exact cells9) (by rfl) (by rfl)
theorem fae159_0 {es i off : Nat} {l : List PV} : fieldAddrPV Tryz.prog 159 (.eptr es l i off) 0 = some (.eptr es l i (off + 0)) := fa2_of Tryz.underlying159 (by rfl) (by exact Tryz.underlying9) (by exact cells9) (by rfl) (by rfl)
theorem fp159_0 {cs : List PV} : fieldPV Tryz.prog 159 (.agg cs) 0 = cs[0]? := fpS_of Tryz.underlying159 (by rfl) (by exact Tryz.underlying9) (by rfl) (by rfl) cs
theorem fa159_1 {id off : Nat} : fieldAddrPV Tryz.prog 159 (.ptr id off) 1 = some (.ptr id (off + 1)) := fa1_of Tryz.underlying159 (by rfl) (by exact Tryz.underlying9) (by exact cells9) (by rfl) (by rfl)
theorem fae159_1 {es i off : Nat} {l : List PV} : fieldAddrPV Tryz.prog 159 (.eptr es l i off) 1 = some (.eptr es l i (off + 1)) := fa2_of Tryz.underlying159 (by rfl) (by exact Tryz.underlying9) (by exact cells9) (by rfl) (by rfl)
theorem fp159_1 {cs : List PV} : fieldPV Tryz.prog 159 (.agg cs) 1 = cs[1]? := fpS_of Tryz.underlying159 (by rfl) (by exact Tryz.underlying9) (by rfl) (by rfl) cs
theorem fa159_2 {id off : Nat} : fieldAddrPV Tryz.prog 159 (.ptr id off) 2 = some (.ptr id (off + 2)) := fa1_of Tryz.underlying159 (by rfl) (by exact Tryz.underlying80) (by exact cells80) (by rfl) (by rfl)
theorem fae159_2 {es i off : Nat} {l : List PV} : fieldAddrPV Tryz.prog 159 (.eptr es l i off) 2 = some (.eptr es l i (off + 2)) := fa2_of Tryz.underlying159 (by rfl) (by exact Tryz.underlying80) (by exact cells80) (by rfl) (by rfl)
theorem fp159_2 {cs : List PV} : fieldPV Tryz.prog 159 (.agg cs) 2 = cs[2]? := fpS_of Tryz.underlying159 (by rfl) (by exact Tryz.underlying80) (by rfl) (by rfl) cs
theorem bld159 {parts : List (Nat × PV)} : buildPV Tryz.prog 159 parts = bldX [.str .empty, .str .empty, .niliface] [(0, 1), (1, 1), (2, 1)] parts := bldX_of zero159 Tryz.underlying159 (by kernel_rfl) (by kernel_rfl) parts
theorem lda160 {σ : Sg} {id off : Nat} : loadPV Tryz.prog σ 160 (.ptr id off) = ldA 3 σ id off := ldA_of Tryz.underlying160 rfl cells160
theorem ela160 {σ : Sg} {es i off : Nat} {l : List PV} : loadPV Tryz.prog σ 160 (.eptr es l i off) = elA 3 l i off := elA_of Tryz.underlying160 rfl cells160
theorem sto160 {σ : Sg} {id off : Nat} {p : PV} : storePV Tryz.prog σ 160 (.ptr id off) p = stX 3 σ id off p := stX_of Tryz.underlying160 cells160 p
theorem fa160_0 {id off : Nat} : fieldAddrPV Tryz.prog 160 (.ptr id off) 0 = some (.ptr id (off + 0)) := fa1_of Tryz.underlying160 (by rfl) (by exact Tryz.underlying9) (by exact cells9) (by rfl) (by rfl)
theorem fae160_0 {es i off : Nat} {l : List PV} : fieldAddrPV Tryz.prog 160 (.eptr es l i off) 0 = some (.eptr es l i (off + 0)) := fa2_of Tryz.underlying160 (by rfl) (by exact Tryz.underlying9) (by exact cells9) (by rfl) (by rfl)
theorem fp160_0 {cs : List PV} : fieldPV Tryz.prog 160 (.agg cs) 0 = cs[0]? := fpS_of Tryz.underlying160 (by rfl) (by exact Tryz.underlying9) (by rfl) (by rfl) cs
theorem fa160_1 {id off : Nat} : fieldAddrPV Tryz.prog 160 (.ptr id off) 1 = some (.ptr id (off + 1)) := fa1_of Tryz.underlying160 (by rfl) (by exact Tryz.underlying9) (by exact cells9) (by rfl) (by rfl)
theorem fae160_1 {es i off : Nat} {l : List PV} : fieldAddrPV Tryz.prog 160 (.eptr es l i off) 1 = some (.eptr es l i (off + 1)) := fa2_of Tryz.underlying160 (by rfl) (by exact Tryz.underlying9) (by exact cells9) (by rfl) (by rfl)
theorem fp160_1 {cs : List PV} : fieldPV Tryz.prog 160 (.agg cs) 1 = cs[1]? := fpS_of Tryz.underlying160 (by rfl) (by exact Tryz.underlying9) (by rfl) (by rfl) cs
theorem fa160_2 {id off : Nat} : fieldAddrPV Tryz.prog 160 (.ptr id off) 2 = some (.ptr id (off + 2)) := fa1_of Tryz.underlying160 (by rfl) (by exact Tryz.underlying80) (by exact cells80) (by rfl) (by rfl)
theorem fae160_2 {es i off : Nat} {l : List PV} : fieldAddrPV Tryz.prog 160 (.eptr es l i off) 2 = some (.eptr es l i (off + 2)) := fa2_of Tryz.underlying160 (by rfl) (by exact Tryz.underlying80) (by exact cells80) (by rfl) (by rfl)
theorem fp160_2 {cs : List PV} : fieldPV Tryz.prog 160 (.agg cs) 2 = cs[2]? := fpS_of Tryz.underlying160 (by rfl) (by exact Tryz.underlying80) (by rfl) (by rfl) cs
theorem bld160 {parts : List (Nat × PV)} : buildPV Tryz.prog 160 parts = bldX [.str .empty, .str .empty, .niliface] [(0, 1), (1, 1), (2, 1)] parts := bldX_of zero160 Tryz.underlying160 (by kernel_rfl) (by kernel_rfl) parts
theorem lda163 {σ : Sg} {id off : Nat} : loadPV Tryz.prog σ 163 (.ptr id off) = ldA 20 σ id off := ldA_of Tryz.underlying163 rfl cells163
theorem ela163 {σ : Sg} {es i off : Nat} {l : List PV} : loadPV Tryz.prog σ 163 (.eptr es l i off) = elA 20 l i off := elA_of Tryz.underlying163 rfl cells163
theorem sto163 {σ : Sg} {id off : Nat} {p : PV} : storePV Tryz.prog σ 163 (.ptr id off) p = stX 20 σ id off p := stX_of Tryz.underlying163 cells163 p
theorem iar163 {id off : Nat} {k : IntKind} {i : Int} : indexAddrPV Tryz.prog 163 (.ptr id off) (.int k i) = iaM 1 id off 20 i := iaA_of Tryz.underlying163 Tryz.underlying65 cells65 k i
theorem ix163 {cs : List PV} {k : IntKind} {i : Int} : indexPV Tryz.prog 163 (.agg cs) (.int k i) = if 0 ≤ i ∧ i < (20 : Int) then cs[i.toNat]? else none := ixS_of Tryz.underlying163 Tryz.underlying65 rfl cells65 k i
theorem lda164 {σ : Sg} {id off : Nat} : loadPV Tryz.prog σ 164 (.ptr id off) = ldS σ id off := ldS_of Tryz.underlying164 rfl
theorem ela164 {σ : Sg} {es i off : Nat} {l : List PV} : loadPV Tryz.prog σ 164 (.eptr es l i off) = elS l i off := elS_of Tryz.underlying164 rfl
theorem sto164 {σ : Sg} {id off : Nat} {p : PV} : storePV Tryz.prog σ 164 (.ptr id off) p = stX 1 σ id off p := stX_of Tryz.underlying164 cells164 p
theorem lda165 {σ : Sg} {id off : Nat} : loadPV Tryz.prog σ 165 (.ptr id off) = ldA 65 σ id off := ldA_of Tryz.underlying165 rfl cells165
theorem ela165 {σ : Sg} {es i off : Nat} {l : List PV} : loadPV Tryz.prog σ 165 (.eptr es l i off) = elA 65 l i off := elA_of Tryz.underlying165 rfl cells165
theorem sto165 {σ : Sg} {id off : Nat} {p : PV} : storePV Tryz.prog σ 165 (.ptr id off) p = stX 65 σ id off p := stX_of Tryz.underlying165 cells165 p
theorem iar165 {id off : Nat} {k : IntKind} {i : Int} : indexAddrPV Tryz.prog 165 (.ptr id off) (.int k i) = iaM 1 id off 65 i := iaA_of Tryz.underlying165 Tryz.underlying5 cells5 k i
theorem ix165 {cs : List PV} {k : IntKind} {i : Int} : indexPV Tryz.prog 165 (.agg cs) (.int k i) = if 0 ≤ i ∧ i < (65 : Int) then cs[i.toNat]? else none := ixS_of Tryz.underlying165 Tryz.underlying5 rfl cells5 k i
theorem lda169 {σ : Sg} {id off : Nat} : loadPV Tryz.prog σ 169 (.ptr id off) = ldS σ id off := ldS_of Tryz.underlying169 rfl
theorem ela169 {σ : Sg} {es i off : Nat} {l : List PV} : loadPV Tryz.prog σ 169 (.eptr es l i off) = elS l i off := elS_of Tryz.underlying169 rfl
theorem sto169 {σ : Sg} {id off : Nat} {p : PV} : storePV Tryz.prog σ 169 (.ptr id off) p = stX 1 σ id off p := stX_of Tryz.underlying169 cells169 p
theorem lda170 {σ : Sg} {id off : Nat} : loadPV Tryz.prog σ 170 (.ptr id off) = ldA 1 σ id off := ldA_of Tryz.underlying170 rfl cells170
theorem ela170 {σ : Sg} {es i off : Nat} {l : List PV} : loadPV Tryz.prog σ 170 (.eptr es l i off) = elA 1 l i off := elA_of Tryz.underlying170 rfl cells170
theorem sto170 {σ : Sg} {id off : Nat} {p : PV} : storePV Tryz.prog σ 170 (.ptr id off) p = stX 1 σ id off p := stX_of Tryz.underlying170 cells170 p
theorem fa170_0 {id off : Nat} : fieldAddrPV Tryz.prog 170 (.ptr id off) 0 = some (.ptr id (off + 0)) := fa1_of Tryz.underlying170 (by rfl) (by exact Tryz.underlying9) (by exact cells9) (by rfl) (by rfl)
theorem fae170_0 {es i off : Nat} {l : List PV} : fieldAddrPV Tryz.prog 170 (.eptr es l i off) 0 = some (.eptr es l i (off + 0)) := fa2_of Tryz.underlying170 (by rfl) (by exact Tryz.underlying9) (by exact cells9) (by rfl) (by rfl)
theorem fp170_0 {cs : List PV} : fieldPV Tryz.prog 170 (.agg cs) 0 = cs[0]? := fpS_of Tryz.underlying170 (by rfl) (by exact Tryz.underlying9) (by rfl) (by rfl) cs
theorem bld170 {parts : List (Nat × PV)} : buildPV Tryz.prog 170 parts = bldX [.str .empty] [(0, 1)] parts := bldX_of zero170 Tryz.underlying170 (by kernel_rfl) (by kernel_rfl) parts
theorem lda171 {σ : Sg} {id off : Nat} : loadPV Tryz.prog σ 171 (.ptr id off) = ldA 1 σ id off := ldA_of Tryz.underlying171 rfl cells171
theorem ela171 {σ : Sg} {es i off : Nat} {l : List PV} : loadPV Tryz.prog σ 171 (.eptr es l i off) = elA 1 l i off := elA_of Tryz.underlying171 rfl cells171
theorem sto171 {σ : Sg} {id off : Nat} {p : PV} : storePV Tryz.prog σ 171 (.ptr id off) p = stX 1 σ id off p := stX_of Tryz.underlying171 cells171 p
theorem fa171_0 {id off : Nat} : fieldAddrPV Tryz.prog 171 (.ptr id off) 0 = some (.ptr id (off + 0)) := fa1_of Tryz.underlying171 (by rfl) (by exact Tryz.underlying9) (by exact cells9) (by rfl) (by rfl)
theorem fae171_0 {es i off : Nat} {l : List PV} : fieldAddrPV Tryz.prog 171 (.eptr es l i off) 0 = some (.eptr es l i (off + 0)) := fa2_of Tryz.underlying171 (by rfl) (by exact Tryz.underlying9) (by exact cells9) (by rfl) (by rfl)
theorem fp171_0 {cs : List PV} : fieldPV Tryz.prog 171 (.agg cs) 0 = cs[0]? := fpS_of Tryz.underlying171 (by rfl) (by exact Tryz.underlying9) (by rfl) (by rfl) cs
theorem bld171 {parts : List (Nat × PV)} : buildPV Tryz.prog 171 parts = bldX [.str .empty] [(0, 1)] parts := bldX_of zero171 Tryz.underlying171 (by kernel_rfl) (by kernel_rfl) parts
theorem lda173 {σ : Sg} {id off : Nat} : loadPV Tryz.prog σ 173 (.ptr id off) = ldA 256 σ id off := ldA_of Tryz.underlying173 rfl cells173
theorem ela173 {σ : Sg} {es i off : Nat} {l : List PV} : loadPV Tryz.prog σ 173 (.eptr es l i off) = elA 256 l i off := elA_of Tryz.underlying173 rfl cells173
theorem sto173 {σ : Sg} {id off : Nat} {p : PV} : storePV Tryz.prog σ 173 (.ptr id off) p = stX 256 σ id off p := stX_of Tryz.underlying173 cells173 p
theorem iar173 {id off : Nat} {k : IntKind} {i : Int} : indexAddrPV Tryz.prog 173 (.ptr id off) (.int k i) = iaM 1 id off 256 i := iaA_of Tryz.underlying173 Tryz.underlying5 cells5 k i
theorem ix173 {cs : List PV} {k : IntKind} {i : Int} : indexPV Tryz.prog 173 (.agg cs) (.int k i) = if 0 ≤ i ∧ i < (256 : Int) then cs[i.toNat]? else none := ixS_of Tryz.underlying173 Tryz.underlying5 rfl cells5 k i
theorem lda174 {σ : Sg} {id off : Nat} : loadPV Tryz.prog σ 174 (.ptr id off) = ldA 2 σ id off := ldA_of Tryz.underlying174 rfl cells174
theorem ela174 {σ : Sg} {es i off : Nat} {l : List PV} : loadPV Tryz.prog σ 174 (.eptr es l i off) = elA 2 l i off := elA_of Tryz.underlying174 rfl cells174
theorem sto174 {σ : Sg} {id off : Nat} {p : PV} : storePV Tryz.prog σ 174 (.ptr id off) p = stX 2 σ id off p := stX_of Tryz.underlying174 cells174 p
theorem fa174_0 {id off : Nat} : fieldAddrPV Tryz.prog 174 (.ptr id off) 0 = some (.ptr id (off + 0)) := fa1_of Tryz.underlying174 (by rfl) (by exact Tryz.underlying5) (by exact cells5) (by rfl) (by rfl)
theorem fae174_0 {es i off : Nat} {l : List PV} : fieldAddrPV Tryz.prog 174 (.eptr es l i off) 0 = some (.eptr es l i (off + 0)) := fa2_of Tryz.underlying174 (by rfl) (by exact Tryz.underlying5) (by exact cells5) (by rfl) (by rfl)
theorem fp174_0 {cs : List PV} : fieldPV Tryz.prog 174 (.agg cs) 0 = cs[0]? := fpS_of Tryz.underlying174 (by rfl) (by exact Tryz.underlying5) (by rfl) (by rfl) cs
theorem fa174_1 {id off : Nat} : fieldAddrPV Tryz.prog 174 (.ptr id off) 1 = some (.ptr id (off + 1)) := fa1_of Tryz.underlying174 (by rfl) (by exact Tryz.underlying5) (by exact cells5) (by rfl) (by rfl)
theorem fae174_1 {es i off : Nat} {l : List PV} : fieldAddrPV Tryz.prog 174 (.eptr es l i off) 1 = some (.eptr es l i (off + 1)) := fa2_of Tryz.underlying174 (by rfl) (by exact Tryz.underlying5) (by exact cells5) (by rfl) (by rfl)
theorem fp174_1 {cs : List PV} : fieldPV Tryz.prog 174 (.agg cs) 1 = cs[1]? := fpS_of Tryz.underlying174 (by rfl) (by exact Tryz.underlying5) (by rfl) (by rfl) cs
theorem eqs174 {a0 a1 b0 b1 : Int} : eqPV Tryz.prog 174 (.agg [.int .u8 a0, .int .u8 a1]) (.agg [.int .u8 b0, .int .u8 b1]) = some ((a0 == b0) && ((a1 == b1) && true)) := by kernel_rfl
theorem bld174 {parts : List (Nat × PV)} : buildPV Tryz.prog 174 parts = bldX [.int .u8 0, .int .u8 0] [(0, 1), (1, 1)] parts := bldX_of zero174 Tryz.underlying174 (by kernel_rfl) (by kernel_rfl) parts
theorem lda175 {σ : Sg} {id off : Nat} : loadPV Tryz.prog σ 175 (.ptr id off) = ldA 2 σ id off := ldA_of Tryz.underlying175 rfl cells175
theorem ela175 {σ : Sg} {es i off : Nat} {l : List PV} : loadPV Tryz.prog σ 175 (.eptr es l i off) = elA 2 l i off := elA_of Tryz.underlying175 rfl cells175
theorem sto175 {σ : Sg} {id off : Nat} {p : PV} : storePV Tryz.prog σ 175 (.ptr id off) p = stX 2 σ id off p := stX_of Tryz.underlying175 cells175 p
theorem fa175_0 {id off : Nat} : fieldAddrPV Tryz.prog 175 (.ptr id off) 0 = some (.ptr id (off + 0)) := fa1_of Tryz.underlying175 (by rfl) (by exact Tryz.underlying5) (by exact cells5) (by rfl) (by rfl)
theorem fae175_0 {es i off : Nat} {l : List PV} : fieldAddrPV Tryz.prog 175 (.eptr es l i off) 0 = some (.eptr es l i (off + 0)) := fa2_of Tryz.underlying175 (by rfl) (by exact Tryz.underlying5) (by exact cells5) (by rfl) (by rfl)
theorem fp175_0 {cs : List PV} : fieldPV Tryz.prog 175 (.agg cs) 0 = cs[0]? := fpS_of Tryz.underlying175 (by rfl) (by exact Tryz.underlying5) (by rfl) (by rfl) cs
theorem fa175_1 {id off : Nat} : fieldAddrPV Tryz.prog 175 (.ptr id off) 1 = some (.ptr id (off + 1)) := fa1_of Tryz.underlying175 (by rfl) (by exact Tryz.underlying5) (by exact cells5) (by rfl) (by rfl)
theorem fae175_1 {es i off : Nat} {l : List PV} : fieldAddrPV Tryz.prog 175 (.eptr es l i off) 1 = some (.eptr es l i (off + 1)) := fa2_of Tryz.underlying175 (by rfl) (by exact Tryz.underlying5) (by exact cells5) (by rfl) (by rfl)
theorem fp175_1 {cs : List PV} : fieldPV Tryz.prog 175 (.agg cs) 1 = cs[1]? := fpS_of Tryz.underlying175 (by rfl) (by exact Tryz.underlying5) (by rfl) (by rfl) cs
theorem eqs175 {a0 a1 b0 b1 : Int} : eqPV Tryz.prog 175 (.agg [.int .u8 a0, .int .u8 a1]) (.agg [.int .u8 b0, .int .u8 b1]) = some ((a0 == b0) && ((a1 == b1) && true)) := by kernel_rfl
theorem bld175 {parts : List (Nat × PV)} : buildPV Tryz.prog 175 parts = bldX [.int .u8 0, .int .u8 0] [(0, 1), (1, 1)] parts := bldX_of zero175 Tryz.underlying175 (by kernel_rfl) (by kernel_rfl) parts
theorem lda176 {σ : Sg} {id off : Nat} : loadPV Tryz.prog σ 176 (.ptr id off) = ldA 32 σ id off := ldA_of Tryz.underlying176 rfl cells176
theorem ela176 {σ : Sg} {es i off : Nat} {l : List PV} : loadPV Tryz.prog σ 176 (.eptr es l i off) = elA 32 l i off := elA_of Tryz.underlying176 rfl cells176
theorem sto176 {σ : Sg} {id off : Nat} {p : PV} : storePV Tryz.prog σ 176 (.ptr id off) p = stX 32 σ id off p := stX_of Tryz.underlying176 cells176 p
theorem iar176 {id off : Nat} {k : IntKind} {i : Int} : indexAddrPV Tryz.prog 176 (.ptr id off) (.int k i) = iaM 2 id off 16 i := iaA_of Tryz.underlying176 Tryz.underlying175 cells175 k i
theorem lda179 {σ : Sg} {id off : Nat} : loadPV Tryz.prog σ 179 (.ptr id off) = ldA 32 σ id off := ldA_of Tryz.underlying179 rfl cells179
theorem ela179 {σ : Sg} {es i off : Nat} {l : List PV} : loadPV Tryz.prog σ 179 (.eptr es l i off) = elA 32 l i off := elA_of Tryz.underlying179 rfl cells179
theorem sto179 {σ : Sg} {id off : Nat} {p : PV} : storePV Tryz.prog σ 179 (.ptr id off) p = stX 32 σ id off p := stX_of Tryz.underlying179 cells179 p
theorem iar179 {id off : Nat} {k : IntKind} {i : Int} : indexAddrPV Tryz.prog 179 (.ptr id off) (.int k i) = iaM 1 id off 32 i := iaA_of Tryz.underlying179 Tryz.underlying5 cells5 k i
theorem ix179 {cs : List PV} {k : IntKind} {i : Int} : indexPV Tryz.prog 179 (.agg cs) (.int k i) = if 0 ≤ i ∧ i < (32 : Int) then cs[i.toNat]? else none := ixS_of Tryz.underlying179 Tryz.underlying5 rfl cells5 k i
theorem lda180 {σ : Sg} {id off : Nat} : loadPV Tryz.prog σ 180 (.ptr id off) = ldA 64 σ id off := ldA_of Tryz.underlying180 rfl cells180
theorem ela180 {σ : Sg} {es i off : Nat} {l : List PV} : loadPV Tryz.prog σ 180 (.eptr es l i off) = elA 64 l i off := elA_of Tryz.underlying180 rfl cells180
theorem sto180 {σ : Sg} {id off : Nat} {p : PV} : storePV Tryz.prog σ 180 (.ptr id off) p = stX 64 σ id off p := stX_of Tryz.underlying180 cells180 p
theorem iar180 {id off : Nat} {k : IntKind} {i : Int} : indexAddrPV Tryz.prog 180 (.ptr id off) (.int k i) = iaM 1 id off 64 i := iaA_of Tryz.underlying180 Tryz.underlying5 cells5 k i
theorem ix180 {cs : List PV} {k : IntKind} {i : Int} : indexPV Tryz.prog 180 (.agg cs) (.int k i) = if 0 ≤ i ∧ i < (64 : Int) then cs[i.toNat]? else none := ixS_of Tryz.underlying180 Tryz.underlying5 rfl cells5 k i
theorem lda181 {σ : Sg} {id off : Nat} : loadPV Tryz.prog σ 181 (.ptr id off) = ldA 4 σ id off := ldA_of Tryz.underlying181 rfl cells181
theorem ela181 {σ : Sg} {es i off : Nat} {l : List PV} : loadPV Tryz.prog σ 181 (.eptr es l i off) = elA 4 l i off := elA_of Tryz.underlying181 rfl cells181
theorem sto181 {σ : Sg} {id off : Nat} {p : PV} : storePV Tryz.prog σ 181 (.ptr id off) p = stX 4 σ id off p := stX_of Tryz.underlying181 cells181 p
theorem fa181_3 {id off : Nat} : fieldAddrPV Tryz.prog 181 (.ptr id off) 3 = some (.ptr id (off + 3)) := fa1_of Tryz.underlying181 (by rfl) (by exact Tryz.underlying9) (by exact cells9) (by rfl) (by rfl)
theorem fae181_3 {es i off : Nat} {l : List PV} : fieldAddrPV Tryz.prog 181 (.eptr es l i off) 3 = some (.eptr es l i (off + 3)) := fa2_of Tryz.underlying181 (by rfl) (by exact Tryz.underlying9) (by exact cells9) (by rfl) (by rfl)
theorem fp181_3 {cs : List PV} : fieldPV Tryz.prog 181 (.agg cs) 3 = cs[3]? := fpS_of Tryz.underlying181 (by rfl) (by exact Tryz.underlying9) (by rfl) (by rfl) cs
theorem lda182 {σ : Sg} {id off : Nat} : loadPV Tryz.prog σ 182 (.ptr id off) = ldA 4 σ id off := ldA_of Tryz.underlying182 rfl cells182
theorem ela182 {σ : Sg} {es i off : Nat} {l : List PV} : loadPV Tryz.prog σ 182 (.eptr es l i off) = elA 4 l i off := elA_of Tryz.underlying182 rfl cells182
theorem sto182 {σ : Sg} {id off : Nat} {p : PV} : storePV Tryz.prog σ 182 (.ptr id off) p = stX 4 σ id off p := stX_of Tryz.underlying182 cells182 p
theorem fa182_3 {id off : Nat} : fieldAddrPV Tryz.prog 182 (.ptr id off) 3 = some (.ptr id (off + 3)) := fa1_of Tryz.underlying182 (by rfl) (by exact Tryz.underlying9) (by exact cells9) (by rfl) (by rfl)
theorem fae182_3 {es i off : Nat} {l : List PV} : fieldAddrPV Tryz.prog 182 (.eptr es l i off) 3 = some (.eptr es l i (off + 3)) := fa2_of Tryz.underlying182 (by rfl) (by exact Tryz.underlying9) (by exact cells9) (by rfl) (by rfl)
theorem fp182_3 {cs : List PV} : fieldPV Tryz.prog 182 (.agg cs) 3 = cs[3]? := fpS_of Tryz.underlying182 (by rfl) (by exact Tryz.underlying9) (by rfl) (by rfl) cs
theorem lda183 {σ : Sg} {id off : Nat} : loadPV Tryz.prog σ 183 (.ptr id off) = ldA 0 σ id off := ldA_of Tryz.underlying183 rfl cells183
theorem ela183 {σ : Sg} {es i off : Nat} {l : List PV} : loadPV Tryz.prog σ 183 (.eptr es l i off) = elA 0 l i off := elA_of Tryz.underlying183 rfl cells183
theorem sto183 {σ : Sg} {id off : Nat} {p : PV} : storePV Tryz.prog σ 183 (.ptr id off) p = stX 0 σ id off p := stX_of Tryz.underlying183 cells183 p
theorem lda184 {σ : Sg} {id off : Nat} : loadPV Tryz.prog σ 184 (.ptr id off) = ldA 0 σ id off := ldA_of Tryz.underlying184 rfl cells184
theorem ela184 {σ : Sg} {es i off : Nat} {l : List PV} : loadPV Tryz.prog σ 184 (.eptr es l i off) = elA 0 l i off := elA_of Tryz.underlying184 rfl cells184
theorem sto184 {σ : Sg} {id off : Nat} {p : PV} : storePV Tryz.prog σ 184 (.ptr id off) p = stX 0 σ id off p := stX_of Tryz.underlying184 cells184 p
theorem lda185 {σ : Sg} {id off : Nat} : loadPV Tryz.prog σ 185 (.ptr id off) = ldA 0 σ id off := ldA_of Tryz.underlying185 rfl cells185
theorem ela185 {σ : Sg} {es i off : Nat} {l : List PV} : loadPV Tryz.prog σ 185 (.eptr es l i off) = elA 0 l i off := elA_of Tryz.underlying185 rfl cells185
theorem sto185 {σ : Sg} {id off : Nat} {p : PV} : storePV Tryz.prog σ 185 (.ptr id off) p = stX 0 σ id off p := stX_of Tryz.underlying185 cells185 p
theorem lda190 {σ : Sg} {id off : Nat} : loadPV Tryz.prog σ 190 (.ptr id off) = ldS σ id off := ldS_of Tryz.underlying190 rfl
theorem ela190 {σ : Sg} {es i off : Nat} {l : List PV} : loadPV Tryz.prog σ 190 (.eptr es l i off) = elS l i off := elS_of Tryz.underlying190 rfl
theorem sto190 {σ : Sg} {id off : Nat} {p : PV} : storePV Tryz.prog σ 190 (.ptr id off) p = stX 1 σ id off p := stX_of Tryz.underlying190 cells190 p
theorem lda191 {σ : Sg} {id off : Nat} : loadPV Tryz.prog σ 191 (.ptr id off) = ldS σ id off := ldS_of Tryz.underlying191 rfl
theorem ela191 {σ : Sg} {es i off : Nat} {l : List PV} : loadPV Tryz.prog σ 191 (.eptr es l i off) = elS l i off := elS_of Tryz.underlying191 rfl
theorem sto191 {σ : Sg} {id off : Nat} {p : PV} : storePV Tryz.prog σ 191 (.ptr id off) p = stX 1 σ id off p := stX_of Tryz.underlying191 cells191 p
theorem lda192 {σ : Sg} {id off : Nat} : loadPV Tryz.prog σ 192 (.ptr id off) = ldA 11 σ id off := ldA_of Tryz.underlying192 rfl cells192
theorem ela192 {σ : Sg} {es i off : Nat} {l : List PV} : loadPV Tryz.prog σ 192 (.eptr es l i off) = elA 11 l i off := elA_of Tryz.underlying192 rfl cells192
theorem sto192 {σ : Sg} {id off : Nat} {p : PV} : storePV Tryz.prog σ 192 (.ptr id off) p = stX 11 σ id off p := stX_of Tryz.underlying192 cells192 p
theorem fa192_2 {id off : Nat} : fieldAddrPV Tryz.prog 192 (.ptr id off) 2 = some (.ptr id (off + 2)) := fa1_of Tryz.underlying192 (by rfl) (by exact Tryz.underlying164) (by exact cells164) (by rfl) (by rfl)
theorem fae192_2 {es i off : Nat} {l : List PV} : fieldAddrPV Tryz.prog 192 (.eptr es l i off) 2 = some (.eptr es l i (off + 2)) := fa2_of Tryz.underlying192 (by rfl) (by exact Tryz.underlying164) (by exact cells164) (by rfl) (by rfl)
theorem fp192_2 {cs : List PV} : fieldPV Tryz.prog 192 (.agg cs) 2 = cs[2]? := fpS_of Tryz.underlying192 (by rfl) (by exact Tryz.underlying164) (by rfl) (by rfl) cs
theorem fa192_3 {id off : Nat} : fieldAddrPV Tryz.prog 192 (.ptr id off) 3 = some (.ptr id (off + 3)) := fa1_of Tryz.underlying192 (by rfl) (by exact Tryz.underlying187) (by exact cells187) (by rfl) (by rfl)
theorem fae192_3 {es i off : Nat} {l : List PV} : fieldAddrPV Tryz.prog 192 (.eptr es l i off) 3 = some (.eptr es l i (off + 3)) := fa2_of Tryz.underlying192 (by rfl) (by exact Tryz.underlying187) (by exact cells187) (by rfl) (by rfl)
theorem fp192_3 {cs : List PV} : fieldPV Tryz.prog 192 (.agg cs) 3 = cs[3]? := fpS_of Tryz.underlying192 (by rfl) (by exact Tryz.underlying187) (by rfl) (by rfl) cs
theorem fa192_4 {id off : Nat} : fieldAddrPV Tryz.prog 192 (.ptr id off) 4 = some (.ptr id (off + 4)) := fa1_of Tryz.underlying192 (by rfl) (by exact Tryz.underlying5) (by exact cells5) (by rfl) (by rfl)
theorem fae192_4 {es i off : Nat} {l : List PV} : fieldAddrPV Tryz.prog 192 (.eptr es l i off) 4 = some (.eptr es l i (off + 4)) := fa2_of Tryz.underlying192 (by rfl) (by exact Tryz.underlying5) (by exact cells5) (by rfl) (by rfl)
theorem fp192_4 {cs : List PV} : fieldPV Tryz.prog 192 (.agg cs) 4 = cs[4]? := fpS_of Tryz.underlying192 (by rfl) (by exact Tryz.underlying5) (by rfl) (by rfl) cs
theorem fa192_5 {id off : Nat} : fieldAddrPV Tryz.prog 192 (.ptr id off) 5 = some (.ptr id (off + 5)) := fa1_of Tryz.underlying192 (by rfl) (by exact Tryz.underlying5) (by exact cells5) (by rfl) (by rfl)
theorem fae192_5 {es i off : Nat} {l : List PV} : fieldAddrPV Tryz.prog 192 (.eptr es l i off) 5 = some (.eptr es l i (off + 5)) := fa2_of Tryz.underlying192 (by rfl) (by exact Tryz.underlying5) (by exact cells5) (by rfl) (by rfl)
theorem fp192_5 {cs : List PV} : fieldPV Tryz.prog 192 (.agg cs) 5 = cs[5]? := fpS_of Tryz.underlying192 (by rfl) (by exact Tryz.underlying5) (by rfl) (by rfl) cs
theorem fa192_6 {id off : Nat} : fieldAddrPV Tryz.prog 192 (.ptr id off) 6 = some (.ptr id (off + 6)) := fa1_of Tryz.underlying192 (by rfl) (by exact Tryz.underlying188) (by exact cells188) (by rfl) (by rfl)
theorem fae192_6 {es i off : Nat} {l : List PV} : fieldAddrPV Tryz.prog 192 (.eptr es l i off) 6 = some (.eptr es l i (off + 6)) := fa2_of Tryz.underlying192 (by rfl) (by exact Tryz.underlying188) (by exact cells188) (by rfl) (by rfl)
theorem fp192_6 {cs : List PV} : fieldPV Tryz.prog 192 (.agg cs) 6 = cs[6]? := fpS_of Tryz.underlying192 (by rfl) (by exact Tryz.underlying188) (by rfl) (by rfl) cs
theorem fa192_8 {id off : Nat} : fieldAddrPV Tryz.prog 192 (.ptr id off) 8 = some (.ptr id (off + 8)) := fa1_of Tryz.underlying192 (by rfl) (by exact Tryz.underlying106) (by exact cells106) (by rfl) (by rfl)
theorem fae192_8 {es i off : Nat} {l : List PV} : fieldAddrPV Tryz.prog 192 (.eptr es l i off) 8 = some (.eptr es l i (off + 8)) := fa2_of Tryz.underlying192 (by rfl) (by exact Tryz.underlying106) (by exact cells106) (by rfl) (by rfl)
theorem fp192_8 {cs : List PV} : fieldPV Tryz.prog 192 (.agg cs) 8 = cs[8]? := fpS_of Tryz.underlying192 (by rfl) (by exact Tryz.underlying106) (by rfl) (by rfl) cs
theorem fa192_9 {id off : Nat} : fieldAddrPV Tryz.prog 192 (.ptr id off) 9 = some (.ptr id (off + 9)) := fa1_of Tryz.underlying192 (by rfl) (by exact Tryz.underlying190) (by exact cells190) (by rfl) (by rfl)
theorem fae192_9 {es i off : Nat} {l : List PV} : fieldAddrPV Tryz.prog 192 (.eptr es l i off) 9 = some (.eptr es l i (off + 9)) := fa2_of Tryz.underlying192 (by rfl) (by exact Tryz.underlying190) (by exact cells190) (by rfl) (by rfl)
theorem fp192_9 {cs : List PV} : fieldPV Tryz.prog 192 (.agg cs) 9 = cs[9]? := fpS_of Tryz.underlying192 (by rfl) (by exact Tryz.underlying190) (by rfl) (by rfl) cs
theorem fa192_10 {id off : Nat} : fieldAddrPV Tryz.prog 192 (.ptr id off) 10 = some (.ptr id (off + 10)) := fa1_of Tryz.underlying192 (by rfl) (by exact Tryz.underlying191) (by exact cells191) (by rfl) (by rfl)
theorem fae192_10 {es i off : Nat} {l : List PV} : fieldAddrPV Tryz.prog 192 (.eptr es l i off) 10 = some (.eptr es l i (off + 10)) := fa2_of Tryz.underlying192 (by rfl) (by exact Tryz.underlying191) (by exact cells191) (by rfl) (by rfl)
theorem fp192_10 {cs : List PV} : fieldPV Tryz.prog 192 (.agg cs) 10 = cs[10]? := fpS_of Tryz.underlying192 (by rfl) (by exact Tryz.underlying191) (by rfl) (by rfl) cs
theorem lda193 {σ : Sg} {id off : Nat} : loadPV Tryz.prog σ 193 (.ptr id off) = ldA 11 σ id off := ldA_of Tryz.underlying193 rfl cells193
theorem ela193 {σ : Sg} {es i off : Nat} {l : List PV} : loadPV Tryz.prog σ 193 (.eptr es l i off) = elA 11 l i off := elA_of Tryz.underlying193 rfl cells193
theorem sto193 {σ : Sg} {id off : Nat} {p : PV} : storePV Tryz.prog σ 193 (.ptr id off) p = stX 11 σ id off p := stX_of Tryz.underlying193 cells193 p
theorem fa193_2 {id off : Nat} : fieldAddrPV Tryz.prog 193 (.ptr id off) 2 = some (.ptr id (off + 2)) := fa1_of Tryz.underlying193 (by rfl) (by exact Tryz.underlying164) (by exact cells164) (by rfl) (by rfl)
theorem fae193_2 {es i off : Nat} {l : List PV} : fieldAddrPV Tryz.prog 193 (.eptr es l i off) 2 = some (.eptr es l i (off + 2)) := fa2_of Tryz.underlying193 (by rfl) (by exact Tryz.underlying164) (by exact cells164) (by rfl) (by rfl)
theorem fp193_2 {cs : List PV} : fieldPV Tryz.prog 193 (.agg cs) 2 = cs[2]? := fpS_of Tryz.underlying193 (by rfl) (by exact Tryz.underlying164) (by rfl) (by rfl) cs
theorem fa193_3 {id off : Nat} : fieldAddrPV Tryz.prog 193 (.ptr id off) 3 = some (.ptr id (off + 3)) := fa1_of Tryz.underlying193 (by rfl) (by exact Tryz.underlying187) (by exact cells187) (by rfl) (by rfl)
theorem fae193_3 {es i off : Nat} {l : List PV} : fieldAddrPV Tryz.prog 193 (.eptr es l i off) 3 = some (.eptr es l i (off + 3)) := fa2_of Tryz.underlying193 (by rfl) (by exact Tryz.underlying187) (by exact cells187) (by rfl) (by rfl)
theorem fp193_3 {cs : List PV} : fieldPV Tryz.prog 193 (.agg cs) 3 = cs[3]? := fpS_of Tryz.underlying193 (by rfl) (by exact Tryz.underlying187) (by rfl) (by rfl) cs
theorem fa193_4 {id off : Nat} : fieldAddrPV Tryz.prog 193 (.ptr id off) 4 = some (.ptr id (off + 4)) := fa1_of Tryz.underlying193 (by rfl) (by exact Tryz.underlying5) (by exact cells5) (by rfl) (by rfl)
theorem fae193_4 {es i off : Nat} {l : List PV} : fieldAddrPV Tryz.prog 193 (.eptr es l i off) 4 = some (.eptr es l i (off + 4)) := fa2_of Tryz.underlying193 (by rfl) (by exact Tryz.underlying5) (by exact cells5) (by rfl) (by rfl)
theorem fp193_4 {cs : List PV} : fieldPV Tryz.prog 193 (.agg cs) 4 = cs[4]? := fpS_of Tryz.underlying193 (by rfl) (by exact Tryz.underlying5) (by rfl) (by rfl) cs
theorem fa193_5 {id off : Nat} : fieldAddrPV Tryz.prog 193 (.ptr id off) 5 = some (.ptr id (off + 5)) := fa1_of Tryz.underlying193 (by rfl) (by exact Tryz.underlying5) (by exact cells5) (by rfl) (by rfl)
theorem fae193_5 {es i off : Nat} {l : List PV} : fieldAddrPV Tryz.prog 193 (.eptr es l i off) 5 = some (.eptr es l i (off + 5)) := fa2_of Tryz.underlying193 (by rfl) (by exact Tryz.underlying5) (by exact cells5) (by rfl) (by rfl)
theorem fp193_5 {cs : List PV} : fieldPV Tryz.prog 193 (.agg cs) 5 = cs[5]? := fpS_of Tryz.underlying193 (by rfl) (by exact Tryz.underlying5) (by rfl) (by rfl) cs
theorem fa193_6 {id off : Nat} : fieldAddrPV Tryz.prog 193 (.ptr id off) 6 = some (.ptr id (off + 6)) := fa1_of Tryz.underlying193 (by rfl) (by exact Tryz.underlying188) (by exact cells188) (by rfl) (by rfl)
theorem fae193_6 {es i off : Nat} {l : List PV} : fieldAddrPV Tryz.prog 193 (.eptr es l i off) 6 = some (.eptr es l i (off + 6)) := fa2_of Tryz.underlying193 (by rfl) (by exact Tryz.underlying188) (by exact cells188) (by rfl) (by rfl)
theorem fp193_6 {cs : List PV} : fieldPV Tryz.prog 193 (.agg cs) 6 = cs[6]? := fpS_of Tryz.underlying193 (by rfl) (by exact Tryz.underlying188) (by rfl) (by rfl) cs
theorem fa193_8 {id off : Nat} : fieldAddrPV Tryz.prog 193 (.ptr id off) 8 = some (.ptr id (off + 8)) := fa1_of Tryz.underlying193 (by rfl) (by exact Tryz.underlying106) (by exact cells106) (by rfl) (by rfl)
theorem fae193_8 {es i off : Nat} {l : List PV} : fieldAddrPV Tryz.prog 193 (.eptr es l i off) 8 = some (.eptr es l i (off + 8)) := fa2_of Tryz.underlying193 (by rfl) (by exact Tryz.underlying106) (by exact cells106) (by rfl) (by rfl)
theorem fp193_8 {cs : List PV} : fieldPV Tryz.prog 193 (.agg cs) 8 = cs[8]? := fpS_of Tryz.underlying193 (by rfl) (by exact Tryz.underlying106) (by rfl) (by rfl) cs
theorem fa193_9 {id off : Nat} : fieldAddrPV Tryz.prog 193 (.ptr id off) 9 = some (.ptr id (off + 9)) := fa1_of Tryz.underlying193 (by rfl) (by exact Tryz.underlying190) (by exact cells190) (by rfl) (by rfl)
theorem fae193_9 {es i off : Nat} {l : List PV} : fieldAddrPV Tryz.prog 193 (.eptr es l i off) 9 = some (.eptr es l i (off + 9)) := fa2_of Tryz.underlying193 (by rfl) (by exact Tryz.underlying190) (by exact cells190) (by rfl) (by rfl)
theorem fp193_9 {cs : List PV} : fieldPV Tryz.prog 193 (.agg cs) 9 = cs[9]? := fpS_of Tryz.underlying193 (by rfl) (by exact Tryz.underlying190) (by rfl) (by rfl) cs
theorem fa193_10 {id off : Nat} : fieldAddrPV Tryz.prog 193 (.ptr id off) 10 = some (.ptr id (off + 10)) := fa1_of Tryz.underlying193 (by rfl) (by exact Tryz.underlying191) (by exact cells191) (by rfl) (by rfl)
theorem fae193_10 {es i off : Nat} {l : List PV} : fieldAddrPV Tryz.prog 193 (.eptr es l i off) 10 = some (.eptr es l i (off + 10)) := fa2_of Tryz.underlying193 (by rfl) (by exact Tryz.underlying191) (by exact cells191) (by rfl) (by rfl)
theorem fp193_10 {cs : List PV} : fieldPV Tryz.prog 193 (.agg cs) 10 = cs[10]? := fpS_of Tryz.underlying193 (by rfl) (by exact Tryz.underlying191) (by rfl) (by rfl) cs
attribute [go_sem] lda2 ela2 sto2 lda3 ela3 sto3 lda4 ela4 sto4 lda5 ela5 sto5 lda9 ela9 sto9 lda22 ela22 sto22 ia22 iam22 len22 lenm22 bs22 app22 lda23 ela23 sto23 ia23 iam23 len23 lenm23 bs23 app23 lda24 ela24 sto24 ia24 iam24 len24 lenm24 bs24 app24 lda25 ela25 sto25 fa25_0 fae25_0 fp25_0 fa25_1 fae25_1 fp25_1 fa25_2 fae25_2 fp25_2 fa25_3 fae25_3 fp25_3 bld25 lda26 ela26 sto26 fa26_0 fae26_0 fp26_0 fa26_1 fae26_1 fp26_1 fa26_2 fae26_2 fp26_2 fa26_3 fae26_3 fp26_3 bld26 lda27 ela27 sto27 fa27_0 fae27_0 fp27_0 fa27_1 fae27_1 fp27_1 fa27_2 fae27_2 fp27_2 bld27 lda28 ela28 sto28 fa28_0 fae28_0 fp28_0 fa28_1 fae28_1 fp28_1 fa28_2 fae28_2 fp28_2 bld28 lda29 ela29 sto29 ia29 iam29 len29 lenm29 bs29 app29 lda32 ela32 sto32 lda35 ela35 sto35 ia35 iam35 len35 lenm35 bs35 app35 lda37 ela37 sto37 ia37 iam37 len37 lenm37 bs37 app37 lda38 ela38 sto38 lda42 ela42 sto42 ia42 iam42 len42 lenm42 bs42 app42 lda48 ela48 sto48 fa48_0 fae48_0 fp48_0 fa48_1 fae48_1 fp48_1 eqs48 bld48 lda49 ela49 sto49 fa49_0 fae49_0 fp49_0 fa49_1 fae49_1 fp49_1 eqs49 bld49 lda50 ela50 sto50 fa50_0 fae50_0 fp50_0 fa50_1 fae50_1 fp50_1 fa50_2 fae50_2 fp50_2 fa50_3 fae50_3 fp50_3 fa50_4 fae50_4 fp50_4 bld50 lda51 ela51 sto51 fa51_0 fae51_0 fp51_0 fa51_1 fae51_1 fp51_1 fa51_2 fae51_2 fp51_2 fa51_3 fae51_3 fp51_3 fa51_4 fae51_4 fp51_4 bld51 lda52 ela52 sto52 fa52_0 fae52_0 fp52_0 fa52_1 fae52_1 fp52_1 fa52_2 fae52_2 fp52_2 fa52_3 fae52_3 fp52_3 fa52_4 fae52_4 fp52_4 bld52 lda53 ela53 sto53 fa53_0 fae53_0 fp53_0 fa53_1 fae53_1 fp53_1 fa53_2 fae53_2 fp53_2 fa53_3 fae53_3 fp53_3 fa53_4 fae53_4 fp53_4 bld53 lda54 ela54 sto54 ia54 iam54 len54 lenm54 bs54 app54 lda65 ela65 sto65 lda66 ela66 sto66 fa66_0 fae66_0 fp66_0 eqs66 bld66 lda67 ela67 sto67 fa67_0 fae67_0 fp67_0 eqs67 bld67 lda75 ela75 sto75 lda76 ela76 sto76 ia76 iam76 len76 lenm76 bs76 app76 lda77 ela77 sto77 fa77_0 fae77_0 fp77_0 fa77_1 fae77_1 fp77_1 bld77 lda78 ela78 sto78 fa78_0 fae78_0 fp78_0 fa78_1 fae78_1 fp78_1 bld78 lda80 ela80 sto80 lda92 ela92 sto92 fa92_0 fae92_0 fp92_0 fa92_1 fae92_1 fp92_1 fa92_2 fae92_2 fp92_2 bld92 lda93 ela93 sto93 fa93_0 fae93_0 fp93_0 fa93_1 fae93_1 fp93_1 fa93_2 fae93_2 fp93_2 bld93 lda94 ela94 sto94 lda95 ela95 sto95 fa95_0 fae95_0 fp95_0 fa95_1 fae95_1 fp95_1 eqs95 bld95 lda96 ela96 sto96 fa96_0 fae96_0 fp96_0 fa96_1 fae96_1 fp96_1 eqs96 bld96 lda103 ela103 sto103 lda106 ela106 sto106 lda116 ela116 sto116 lda119 ela119 sto119 iar119 ix119 lda120 ela120 sto120 iar120 ix120 lda125 ela125 sto125 lda133 ela133 sto133 lda136 ela136 sto136 lda139 ela139 sto139 ia139 iam139 len139 lenm139 bs139 app139 lda141 ela141 sto141 ia141 iam141 len141 lenm141 bs141 app141 lda143 ela143 sto143 fa143_0 fae143_0 fp143_0 fa143_1 fae143_1 fp143_1 bld143 lda144 ela144 sto144 fa144_0 fae144_0 fp144_0 fa144_1 fae144_1 fp144_1 bld144 lda146 ela146 sto146 iar146 ix146 lda159 ela159 sto159 fa159_0 fae159_0 fp159_0 fa159_1 fae159_1 fp159_1 fa159_2 fae159_2 fp159_2 bld159 lda160 ela160 sto160 fa160_0 fae160_0 fp160_0 fa160_1 fae160_1 fp160_1 fa160_2 fae160_2 fp160_2 bld160 lda163 ela163 sto163 iar163 ix163 lda164 ela164 sto164 lda165 ela165 sto165 iar165 ix165 lda169 ela169 sto169 lda170 ela170 sto170 fa170_0 fae170_0 fp170_0 bld170 lda171 ela171 sto171 fa171_0 fae171_0 fp171_0 bld171 lda173 ela173 sto173 iar173 ix173 lda174 ela174 sto174 fa174_0 fae174_0 fp174_0 fa174_1 fae174_1 fp174_1 eqs174 bld174 lda175 ela175 sto175 fa175_0 fae175_0 fp175_0 fa175_1 fae175_1 fp175_1 eqs175 bld175 lda176 ela176 sto176 iar176 lda179 ela179 sto179 iar179 ix179 lda180 ela180 sto180 iar180 ix180 lda181 ela181 sto181 fa181_3 fae181_3 fp181_3 lda182 ela182 sto182 fa182_3 fae182_3 fp182_3 lda183 ela183 sto183 lda184 ela184 sto184 lda185 ela185 sto185 lda190 ela190 sto190 lda191 ela191 sto191 lda192 ela192 sto192 fa192_2 fae192_2 fp192_2 fa192_3 fae192_3 fp192_3 fa192_4 fae192_4 fp192_4 fa192_5 fae192_5 fp192_5 fa192_6 fae192_6 fp192_6 fa192_8 fae192_8 fp192_8 fa192_9 fae192_9 fp192_9 fa192_10 fae192_10 fp192_10 lda193 ela193 sto193 fa193_2 fae193_2 fp193_2 fa193_3 fae193_3 fp193_3 fa193_4 fae193_4 fp193_4 fa193_5 fae193_5 fp193_5 fa193_6 fae193_6 fp193_6 fa193_8 fae193_8 fp193_8 fa193_9 fae193_9 fp193_9 fa193_10 fae193_10 fp193_10 zero2 zero3 zero4 zero5 zero9 zero22 zero23 zero24 zero25 zero26 zero27 zero28 zero29 zero32 zero35 zero37 zero38 zero42 zero48 zero49 zero50 zero51 zero52 zero53 zero54 zero65 zero66 zero67 zero75 zero76 zero77 zero78 zero80 zero92 zero93 zero94 zero95 zero96 zero103 zero106 zero116 zero125 zero133 zero136 zero139 zero141 zero143 zero144 zero146 zero159 zero160 zero163 zero164 zero169 zero170 zero171 zero174 zero175 zero176 zero179 zero180 zero181 zero182 zero183 zero184 zero185 zero190 zero191 zero192 zero193
end Go.Proofs.YteklodljdndcoaaGreatDoor
