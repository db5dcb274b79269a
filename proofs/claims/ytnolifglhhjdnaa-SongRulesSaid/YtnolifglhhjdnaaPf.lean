/-
  Walks: preferences made of numbers (bateriakit).
  Contests and ballots made of numbers may be (song, plain).
  What the results of a contest hang on: the ballots that count, in any order (song, plain).
  Ballots that do not count, left out; one more of somebody who has voted (song, plain).
  Standings sorted, and those that are kept: the plain law (song).
  Who can be kept, and who must be: the smallest sums (song, plain).
  A vote more: what it does to a round (song, plain).
  A contest with a vote more (song, plain).
  Ballots sorted by their serial numbers; rows of ballots and of flags (song, plain).
  Songs that are left out one after the other, in plain Lean.
  Walks: songs left out one after the other (song).
  Walks: songs left out, by the document (song, bateriaref04).
  Songs that are over each other one, in plain Lean.
  Ballots opened one after the other: which count, what songs get (song, plain).
  Walks: contests and ballots made of numbers (bateriakit).
  Walks: results compared, ballots copied, numbers taken into bounds (bateriakit).
  Walks: the chapter's examples checked (song).
  The law SongOrder, walked: ballots in any order.
  The rounds by number: what stands in each result (song, plain).
  Walks: ballots sorted, who is led (baterialaw04).
  Walks: who is led (baterialaw04).
  Regions that draw their order, two operations of which may come in either order: both are walked.
-/
import Derived.Test.YtnolifglhhjdnaaPe
import Derived.CallsIn
import Derived.RangeFuncLeaves
import Derived.RangeFuncRecord
import Derived.OrdersIn
import Derived.Below
import Derived.Laws.World
import Derived.Laws.StructEq
import Derived.Laws.Append
import Derived.MapKept
import Derived.ProofKit
import Derived.Carry
import Derived.Handed
import Derived.ChangeCalls
import Derived.RangeFuncIn
import Derived.RangeFuncNested
import Derived.Test.YtnolifglhhjdnaaProg
import Derived.KernelRfl
import Derived.IntWalk
import Derived.Sort.OwnSortedInts
import Derived.Lib.SlicesCompact
import Derived.Test.YtnolifglhhjdnaaRows
import Derived.Shelf.Sort.Plain
import Derived.Shelf.Slices.In.SortNone
import Derived.Shelf.Small.Bits
import Derived.JoinedOf
set_option linter.unusedSimpArgs false
set_option linter.unusedVariables false
namespace Go.Proofs.Ytnolifglhhjdnaa
open Go Go.RowKit
set_option maxRecDepth 100000
theorem mem2 {a b r : Int} (h : r ∈ [a, b]) : r = a ∨ r = b := by simpa using h
theorem mem3 {a b c r : Int} (h : r ∈ [a, b, c]) : r = a ∨ r = b ∨ r = c := by simpa using h
theorem nodup_range (n : Nat) : ((List.range n).map fun (i : Nat) => (i : Int)).Nodup := by
 rw [List.nodup_iff_pairwise_ne, List.pairwise_map]
 refine List.Pairwise.imp ?_ (List.nodup_range (n := n))
 intro a b h e
 exact h (by omega)
theorem unl_true {b : Bool} {e : Int} (h : b = true) : unl b e = 0 := by unfold unl; rw [h]; rfl
theorem chkBl_of {c : Contest} {b : Ballot} (h : BlV c b) : chkBl c b = 0 := by
 have h1 : bl1 c b = 0 := unl_true (inR_true.2 (by have := h.rd; omega))
 have h2 : bl2 b = 0 := unl_true (inR_true.2 (by have := h.kd; omega))
 have h3 : bl3 c b = 0 := unl_true (inR_true.2 (by have := h.vt; omega))
 have h4 : bl4 c b = 0 := unl_true (inR_true.2 (by have := h.sg; omega))
 have h5 : bl5 c b = 0 := by
  have := h.pt
  unfold bl5
  split
  ·rename_i hk
   rw [if_pos hk] at this
   exact unl_true (by simp; omega)
  ·rename_i hk
   rw [if_neg hk] at this
   exact unl_true (inR_true.2 this)
 simp [chkBl, blEs, firstE, h1, h2, h3, h4, h5]
theorem blsF_ok {c : Contest} : ∀ {l : List Ballot} {p : List Int}, (∀ b, b ∈ l → BlV c b) → (p ++ l.map (·.serial)).Nodup → chkBlsF c p l = 0 := by
 intro l
 induction l with
 | nil => intro p _ _; rfl
 | cons b l ih =>
  intro p hb hn
  have h1 := hb b (by simp)
  have hin : inR b.serial 1 1000000000 = true := inR_true.2 h1.sr
  have hno : has p b.serial = false := by
   cases h : has p b.serial with
   | false => rfl
   | true =>
    have := has_iff.1 h
    rw [List.nodup_append] at hn
    exact absurd rfl (hn.2.2 _ this b.serial (by simp))
  simp only [chkBlsF, hin, hno, chkBl_of h1]
  simp only [Bool.not_true, Bool.false_eq_true, if_false, ne_eq, not_true]
  exact ih (fun x hx => hb x (by simp [hx])) (by simpa using hn)
theorem chkBls_of {c : Contest} {l : List Ballot} (hc : chkCn c = 0) (hl : l.length ≤ 300) (hb : ∀ b, b ∈ l → BlV c b) (hn : (l.map (·.serial)).Nodup) : chkBls c l = 0 := by
 unfold chkBls
 rw [if_neg (by simp [hc]), if_neg (by omega)]
 exact blsF_ok hb (by simpa using hn)
noncomputable def roundsC : Nat → Int → List Rnd → D (List Rnd)
 | 0, _, acc => dret acc
 | k + 1, keep, acc => if k = 0 then dbind (roll 4) fun a => dbind (roll 5) fun b => roundsC k 1 (acc ++ [⟨1, a, b⟩]) else dbind (mid 1 keep) fun kp => dbind (roll 4) fun a => dbind (roll 5) fun b => roundsC k kp (acc ++ [⟨kp, a, b⟩])
noncomputable def contestD (songs juries members : Int) : D Contest := dbind (mid 1 songs) fun s => dbind (roll (juries + 1)) fun j => dbind (roll (members + 1)) fun m => dbind (anyOf [0, 2, 10]) fun mo => dbind (mid 1 3) fun k =>
 dbind (roundsC k.toNat s []) fun rs => dret ⟨s, j, m, mo, rs⟩
theorem roundsC_ok : ∀ (k : Nat) (keep : Int) (acc : List Rnd), 1 ≤ keep → (k = 0 → keep = 1) → Holds (roundsC k keep acc) fun l => ∃ r, l = acc ++ r ∧ r.length = k ∧ chkRds keep r = 0 := by
 intro k
 induction k with
 | zero => intro keep acc _ h0; exact .ret ⟨[], by simp, rfl, by simp [chkRds, h0 rfl]⟩
 | succ k ih =>
  intro keep acc hk _
  have step : ∀ {kp a b : Int}, 1 ≤ kp ∧ kp ≤ keep → 0 ≤ a ∧ a < 4 → 0 ≤ b ∧ b < 5 → ∀ l, (∃ r, l = (acc ++ [(⟨kp, a, b⟩ : Rnd)]) ++ r ∧ r.length = k ∧ chkRds kp r = 0) → ∃ r, l = acc ++ r ∧ r.length = k + 1 ∧ chkRds keep r = 0 := by
   rintro kp a b hkp ha hb l ⟨r, h1, h2, h3⟩
   refine ⟨⟨kp, a, b⟩ :: r, by rw [h1]; simp, by simp [h2], ?_⟩
   have : chkRd keep ⟨kp, a, b⟩ = true := by
    simp only [chkRd, allIn, List.all_cons, List.all_nil, Bool.and_true, Bool.and_eq_true, inR_true]
    omega
   simp only [chkRds, this, Bool.not_true, Bool.false_eq_true, if_false]
   exact h3
  simp only [roundsC]
  split
  ·rename_i h0
   subst h0
   exact (roll_bd 4).bind fun a ha => (roll_bd 5).bind fun b hb => (ih 1 _ (by omega) (fun _ => rfl)).mono (step (by omega) (by omega) (by omega))
  ·rename_i h0
   exact (mid_bd 1 keep hk).bind fun kp hkp => (roll_bd 4).bind fun a ha => (roll_bd 5).bind fun b hb => (ih kp _ hkp.1 (fun e => absurd e h0)).mono (step hkp (by omega) (by omega))
structure CnMade (c : Contest) (songs juries members : Int) : Prop where
 ok : chkCn c = 0
 sg : 1 ≤ c.songs ∧ c.songs ≤ songs
 jr : 0 ≤ c.juries ∧ c.juries ≤ juries
 mb : 0 ≤ c.members ∧ c.members ≤ members
 ms : 0 ≤ c.most ∧ c.most ≤ 10
 rl : 1 ≤ c.rounds.length ∧ c.rounds.length ≤ 3
theorem contestD_ok {songs juries members : Int} (h1 : 1 ≤ songs ∧ songs ≤ 8) (h2 : 0 ≤ juries ∧ juries ≤ 8) (h3 : 0 ≤ members ∧ members ≤ 1000) : Holds (contestD songs juries members) fun c => CnMade c songs juries members := by
 unfold contestD
 refine (mid_bd 1 songs h1.1).bind fun s hs => (roll_bd (juries + 1)).bind fun j hj => (roll_bd (members + 1)).bind fun m hm => (anyOf_mem [0, 2, 10] (by simp)).bind fun mo hmo => (mid_bd 1 3 (by omega)).bind fun k hk => (roundsC_ok k.toNat s [] hs.1 (fun e => by omega)).bind fun rs hrs => .ret ?_
 obtain ⟨r, e1, e2, e3⟩ := hrs
 simp only [List.nil_append] at e1
 subst e1
 have hmo2 : 0 ≤ mo ∧ mo ≤ 10 := by rcases mem3 hmo with h | h | h <;> omega
 refine ⟨?_, hs, by simp only; omega, by simp only; omega, hmo2, by simp only; omega⟩
 unfold chkCn
 have e : chkCn0 ⟨s, j, m, mo, rs⟩ = true := by
  simp only [chkCn0, allIn1, Bool.and_eq_true, inR_true]
  omega
 simp only [e, Bool.not_true, Bool.false_eq_true, if_false]
 rw [if_neg (by omega), if_neg (by omega)]
 exact e3
def serAt (ser : List Int) (i : Nat) : Int := (ser[i]?).getD 0 + 1
noncomputable def ballotsC (c : Contest) (ser : List Int) : Nat → Nat → List Ballot → D (List Ballot)
 | 0, _, acc => dret acc
 | k + 1, i, acc => dbind (roll c.rounds.length) fun rd => dbind (anyOf [1, 2]) fun kd => dbind (roll c.songs) fun sg =>
  if (if c.members = 0 then 1 else if c.juries = 0 then 2 else kd) = 1 then dbind (roll c.juries) fun v => dbind (mid 0 c.most) fun p => ballotsC c ser k (i + 1) (acc ++ [⟨serAt ser i, rd, 1, v, sg, p⟩])
  else dbind (roll c.members) fun v => ballotsC c ser k (i + 1) (acc ++ [⟨serAt ser i, rd, 2, v, sg, 0⟩])
noncomputable def ballotsD (c : Contest) (most : Int) : D (List Ballot) := if c.juries + c.members = 0 then dret [] else dbind (roll (most + 1)) fun k => dbind (orderD (3 * (k.toNat + 1))) fun ser => ballotsC c ser k.toNat 0 []
theorem ballotsC_ok {c : Contest} {songs juries members : Int} (hc : CnMade c songs juries members) (h0 : c.juries + c.members ≠ 0) {ser : List Int} (hs : ∀ x, x ∈ ser → 0 ≤ x ∧ x < 100000) : ∀ (k i : Nat) (acc : List Ballot), i + k ≤ ser.length → (∀ b, b ∈ acc → BlV c b) → acc.map (·.serial) = (List.range i).map (serAt ser) →
  Holds (ballotsC c ser k i acc) fun l => l.length = acc.length + k ∧ (∀ b, b ∈ l → BlV c b) ∧ l.map (·.serial) = (List.range (i + k)).map (serAt ser) := by
 intro k
 induction k with
 | zero => intro i acc _ h2 h3; exact .ret ⟨rfl, h2, h3⟩
 | succ k ih =>
  intro i acc h1 h2 h3
  have hsg := hc.sg
  have hjr := hc.jr
  have hmb := hc.mb
  have hms := hc.ms
  have hrl := hc.rl
  have hser : 1 ≤ serAt ser i ∧ serAt ser i ≤ 1000000000 := by
   have hi : i < ser.length := by omega
   have := hs ser[i] (by simp)
   unfold serAt
   simp [hi]; omega
  have step : ∀ b : Ballot, BlV c b → b.serial = serAt ser i → Holds (ballotsC c ser k (i + 1) (acc ++ [b])) fun l => l.length = acc.length + (k + 1) ∧ (∀ b, b ∈ l → BlV c b) ∧ l.map (·.serial) = (List.range (i + (k + 1))).map (serAt ser) := by
   intro b hb e
   refine (ih (i + 1) (acc ++ [b]) (by omega) (fun x hx => ?_) ?_).mono fun l hl => ⟨by rw [hl.1]; simp; omega, hl.2.1, by rw [hl.2.2]; congr 2; omega⟩
   ·rcases List.mem_append.1 hx with hx | hx
    ·exact h2 x hx
    ·simp only [List.mem_singleton] at hx
     subst hx
     exact hb
   ·rw [List.map_append, h3, List.range_succ, List.map_append]
    simp [e]
  simp only [ballotsC]
  refine (roll_bd c.rounds.length).bind fun rd hrd => (anyOf_mem [1, 2] (by simp)).bind fun kd hkd => (roll_bd c.songs).bind fun sg hsg2 => ?_
  by_cases hk : (if c.members = 0 then (1 : Int) else if c.juries = 0 then 2 else kd) = 1
  ·rw [if_pos hk]
   refine (roll_bd c.juries).bind fun v hv => (mid_bd 0 c.most hms.1).bind fun p hp => step _ ⟨hser, by simp only; omega, .inl rfl, ?_, by simp only; omega, ?_⟩ rfl
   ·simp only
    rw [if_neg (by omega)]
    split at hk
    ·omega
    ·split at hk
     ·omega
     ·omega
   ·simp only
    rw [if_neg (by omega)]
    exact hp
  ·rw [if_neg hk]
   refine (roll_bd c.members).bind fun v hv => step _ ⟨hser, by simp only; omega, .inr rfl, ?_, by simp only; omega, ?_⟩ rfl
   ·simp only [if_true]
    split at hk
    ·omega
    ·omega
   ·simp only [if_true]
    omega
theorem ballotsD_ok {c : Contest} {songs juries members : Int} (hc : CnMade c songs juries members) {most : Int} (hm : 0 ≤ most ∧ most ≤ 300) : Holds (ballotsD c most) fun l => (l.length : Int) ≤ most ∧ (∀ b, b ∈ l → BlV c b) ∧ (l.map (·.serial)).Nodup ∧ ∀ b, b ∈ l → b.serial < 1000 * 1000 := by
 unfold ballotsD
 split
 ·exact .ret ⟨by simp; omega, by simp, by simp, by simp⟩
 ·rename_i h0
  refine (roll_bd (most + 1)).bind fun k hk => (orderD_perm (3 * (k.toNat + 1))).bind fun ser hser => ?_
  have hsl : ser.length = 3 * (k.toNat + 1) := by rw [hser.length_eq]; simp
  have hsb : ∀ x, x ∈ ser → 0 ≤ x ∧ x < 100000 := fun x hx => by
   obtain ⟨i, h1, rfl⟩ := List.mem_map.1 (hser.mem_iff.1 hx)
   have := List.mem_range.1 h1
   omega
  refine (ballotsC_ok hc h0 hsb k.toNat 0 [] (by omega) (by simp) rfl).mono fun l hl => ?_
  obtain ⟨h1, h2, h3⟩ := hl
  have hat : ∀ i (hi : i < ser.length), serAt ser i = ser[i] + 1 := fun i hi => by simp [serAt, hi]
  refine ⟨by rw [h1]; simp; omega, h2, ?_, fun b hb => ?_⟩
  ·rw [h3, Nat.zero_add, List.nodup_iff_pairwise_ne, List.pairwise_map]
   refine List.Pairwise.imp_of_mem ?_ (List.nodup_range (n := k.toNat))
   intro a b ha hb hne e
   have ha2 := List.mem_range.1 ha
   have hb2 := List.mem_range.1 hb
   rw [hat a (by omega), hat b (by omega)] at e
   have hnd := hser.nodup_iff.2 (nodup_range _)
   exact hne ((List.getElem_inj hnd).1 (by omega))
  ·have hmem : b.serial ∈ l.map (·.serial) := List.mem_map.2 ⟨b, hb, rfl⟩
   rw [h3] at hmem
   obtain ⟨i, hi, e⟩ := List.mem_map.1 hmem
   have hi2 := List.mem_range.1 hi
   rw [hat i (by omega)] at e
   have := hsb ser[i] (by simp)
   omega
theorem chk_perm {c : Contest} {l l' : List Ballot} (h : l.Perm l') (hc : chkCn c = 0) (hl : l.length ≤ 300) (hb : ∀ b, b ∈ l → BlV c b) (hs : (l.map (·.serial)).Nodup) : chkBls c l' = 0 := chkBls_of hc (by rw [← h.length_eq]; exact hl) (fun b hb' => hb b (h.mem_iff.2 hb')) ((h.map _).nodup_iff.1 hs)
def Ahd (a b : Std) : Prop := aheadS a b < 0
instance {a b : Std} : Decidable (Ahd a b) := by unfold Ahd; exact inferInstance
theorem cmpI_lt {a b : Int} (h : a < b) : cmpI a b = -1 := by unfold cmpI; rw [if_pos h]
theorem cmpI_gt {a b : Int} (h : b < a) : cmpI a b = 1 := by unfold cmpI; rw [if_neg (by omega), if_pos h]
theorem cmpI_self {a : Int} : cmpI a a = 0 := by unfold cmpI; rw [if_neg (by omega), if_neg (by omega)]
theorem ahd_iff {a b : Std} : Ahd a b ↔ b.score < a.score ∨ (a.score = b.score ∧ (b.points < a.points ∨ (a.points = b.points ∧ a.song < b.song))) := by
 unfold Ahd aheadS
 rcases Int.lt_trichotomy a.score b.score with h1 | h1 | h1
 ·rw [cmpI_gt h1]; simp [orI]; omega
 ·rw [h1, cmpI_self]
  rcases Int.lt_trichotomy a.points b.points with h2 | h2 | h2
  ·rw [cmpI_gt h2]; simp [orI]; omega
  ·rw [h2, cmpI_self]
   rcases Int.lt_trichotomy a.song b.song with h3 | h3 | h3
   ·rw [cmpI_lt h3]; simp [orI]; omega
   ·rw [h3, cmpI_self]; simp [orI]
   ·rw [cmpI_gt h3]; simp [orI]; omega
  ·rw [cmpI_lt h2]; simp [orI]; omega
 ·rw [cmpI_lt h1]; simp [orI]; omega
theorem Ahd.trans {a b c : Std} (h : Ahd a b) (k : Ahd b c) : Ahd a c := by rw [ahd_iff] at *; omega
theorem Ahd.irrefl {a : Std} : ¬ Ahd a a := by rw [ahd_iff]; omega
theorem Ahd.asymm {a b : Std} (h : Ahd a b) : ¬ Ahd b a := fun k => Ahd.irrefl (h.trans k)
theorem not_ahd {a b : Std} (h : a.song ≠ b.song) (k : ¬ Ahd a b) : Ahd b a := by rw [ahd_iff] at *; omega
theorem notAhd_trans {a b c : Std} (h : ¬ Ahd b a) (k : ¬ Ahd c b) : ¬ Ahd c a := by rw [ahd_iff] at *; omega
theorem sink_len (j : Nat) (l : List Std) : (sink j l).length = l.length := (sink_perm j l).length_eq
def SrtX (l : List Std) (i j : Nat) : Prop := ∀ p q a b, p < q → q ≤ i → q ≠ j → l[p]? = some a → l[q]? = some b → ¬ Ahd b a
def Srt (l : List Std) (i : Nat) : Prop := ∀ p q a b, p < q → q ≤ i → l[p]? = some a → l[q]? = some b → ¬ Ahd b a
theorem sink_srt (i : Nat) : ∀ (j : Nat) (l : List Std), j ≤ i → i < l.length → SrtX l i j → Srt (sink j l) i := by
 intro j
 induction j with
 | zero => intro l _ _ h p q a b hpq hq; exact h p q a b hpq hq (by omega)
 | succ j ih =>
  intro l hj hl h
  obtain ⟨x, hx⟩ : ∃ x, l[j + 1]? = some x := ⟨l[j + 1]'(by omega), by simp⟩
  obtain ⟨y, hy⟩ : ∃ y, l[j]? = some y := ⟨l[j]'(by omega), by simp⟩
  simp only [sink, hx, hy]
  split
  ·rename_i hlt
   refine ih _ (by omega) (by simpa using hl) ?_
   have g : ∀ r, ((l.set (j + 1) y).set j x)[r]? = if r = j then some x else if r = j + 1 then some y else l[r]? := by
    intro r
    by_cases e : r = j
    ·subst e; rw [if_pos rfl, List.getElem?_set_self (by simp; omega)]
    ·rw [if_neg e, List.getElem?_set_ne (fun h => e h.symm)]
     by_cases e2 : r = j + 1
     ·subst e2; rw [if_pos rfl, List.getElem?_set_self (by omega)]
     ·rw [if_neg e2, List.getElem?_set_ne (fun h => e2 h.symm)]
   intro p q a b hpq hq hne ha hb
   rw [g] at ha hb
   rw [if_neg hne] at hb
   by_cases e1 : q = j + 1
   ·rw [if_pos e1] at hb
    cases hb
    by_cases e2 : p = j
    ·rw [if_pos e2] at ha
     cases ha
     exact Ahd.asymm hlt
    ·rw [if_neg e2, if_neg (by omega)] at ha
     exact h p j _ _ (by omega) (by omega) (by omega) ha hy
   ·rw [if_neg e1] at hb
    by_cases e2 : p = j
    ·rw [if_pos e2] at ha
     cases ha
     exact h (j + 1) q _ _ (by omega) hq (by omega) hx hb
    ·rw [if_neg e2] at ha
     by_cases e3 : p = j + 1
     ·rw [if_pos e3] at ha
      cases ha
      exact h j q _ _ (by omega) hq (by omega) hy hb
     ·rw [if_neg e3] at ha
      exact h p q a b hpq hq (by omega) ha hb
  ·rename_i hnlt
   intro p q a b hpq hq ha hb
   by_cases e : q = j + 1
   ·subst e
    rw [hx] at hb
    cases hb
    by_cases e2 : p = j
    ·subst e2
     rw [hy] at ha
     cases ha
     exact hnlt
    ·exact notAhd_trans (h p j a y (by omega) (by omega) (by omega) ha hy) hnlt
   ·exact h p q a b hpq hq e ha hb
theorem sinkAll_srt : ∀ (k i : Nat) (l : List Std), 0 < i → i + k ≤ l.length → Srt l (i - 1) → Srt (sinkAll k i l) (i + k - 1) := by
 intro k
 induction k with
 | zero => intro i l _ _ h; exact h
 | succ k ih =>
  intro i l hi hl h
  simp only [sinkAll]
  have h1 := sink_srt i i l (Nat.le_refl _) (by omega) (fun p q a b hpq hq hne ha hb => h p q a b hpq (by omega) ha hb)
  have h2 := ih (i + 1) (sink i l) (by omega) (by rw [sink_len]; omega) (by rw [Nat.add_sub_cancel]; exact h1)
  rw [show i + (k + 1) - 1 = i + 1 + k - 1 by omega]
  exact h2
theorem sortSd_srt (l : List Std) {p q : Nat} {a b : Std} (hpq : p < q) (ha : (sortSd l)[p]? = some a) (hb : (sortSd l)[q]? = some b) : ¬ Ahd b a := by
 have hq := (List.getElem?_eq_some_iff.1 hb).1
 rw [sortSd_len] at hq
 have := sinkAll_srt (l.length - 1) 1 l (by omega) (by omega) (fun p q a b hpq hq => by omega)
 exact this p q a b hpq (by omega) ha hb
def insZ (x : Int) : List Int → List Int
 | [] => [x]
 | y :: l => if x ≤ y then x :: y :: l else y :: insZ x l
def isortZ : List Int → List Int
 | [] => []
 | x :: l => insZ x (isortZ l)
def Asc (l : List Int) : Prop := l.Pairwise (· ≤ ·)
theorem insZ_perm (x : Int) : ∀ l, (insZ x l).Perm (x :: l) := by
 intro l
 induction l with
 | nil => exact .refl _
 | cons y l ih =>
  simp only [insZ]
  split
  ·exact .refl _
  ·exact (List.Perm.cons y ih).trans (.swap x y l)
theorem isortZ_perm : ∀ l, (isortZ l).Perm l := by
 intro l
 induction l with
 | nil => exact .refl _
 | cons x l ih => exact (insZ_perm x _).trans (.cons x ih)
theorem insZ_asc (x : Int) : ∀ {l : List Int}, Asc l → Asc (insZ x l) := by
 intro l
 induction l with
 | nil => intro _; simp [insZ, Asc]
 | cons y l ih =>
  intro h
  obtain ⟨h1, h2⟩ := List.pairwise_cons.1 h
  simp only [insZ]
  split
  ·exact List.pairwise_cons.2 ⟨fun z hz => by
    rcases List.mem_cons.1 hz with rfl | hz
    ·assumption
    ·have := h1 z hz; omega, h⟩
  ·refine List.pairwise_cons.2 ⟨fun z hz => ?_, ih h2⟩
   rcases List.mem_cons.1 ((insZ_perm x l).mem_iff.1 hz) with rfl | hz
   ·omega
   ·exact h1 z hz
theorem isortZ_asc : ∀ l, Asc (isortZ l) := by
 intro l
 induction l with
 | nil => exact .nil
 | cons x l ih => exact insZ_asc x ih
theorem asc_perm : ∀ {a b : List Int}, a.Perm b → Asc a → Asc b → a = b := by
 intro a
 induction a with
 | nil => intro b h _ _; exact (List.nil_perm.1 h).symm
 | cons x a ih =>
  intro b h ha hb
  cases b with
  | nil => exact absurd h.length_eq (by simp)
  | cons y b =>
   obtain ⟨a1, a2⟩ := List.pairwise_cons.1 ha
   obtain ⟨b1, b2⟩ := List.pairwise_cons.1 hb
   have e : x = y := by
    have hx : x ∈ y :: b := h.mem_iff.1 (by simp)
    have hy : y ∈ x :: a := h.mem_iff.2 (by simp)
    rcases List.mem_cons.1 hx with rfl | hx
    ·rfl
    ·rcases List.mem_cons.1 hy with rfl | hy
     ·rfl
     ·have := a1 y hy; have := b1 x hx; omega
   subst e
   rw [ih (List.Perm.cons_inv h) a2 b2]
theorem sortI_isort (l : List Int) : sortI l = isortZ l := by
 refine asc_perm ((List.mergeSort_perm l _).trans (isortZ_perm l).symm) ?_ (isortZ_asc l)
 have := List.pairwise_mergeSort (le := fun x y : Int => decide (x ≤ y)) (by simp; omega) (by simp; omega) l
 exact this.imp (by simp)
def rank (l : List Std) (x : Std) : Nat := l.countP fun y => decide (Ahd y x)
theorem rank_perm {a b : List Std} (h : a.Perm b) (x : Std) : rank a x = rank b x := h.countP_eq _
theorem rank_at : ∀ {l : List Std} {i : Nat} {x : Std}, l.Pairwise Ahd → l[i]? = some x → rank l x = i := by
 intro l
 induction l with
 | nil => intro i x _ h; simp at h
 | cons y l ih =>
  intro i x hp h
  obtain ⟨h1, h2⟩ := List.pairwise_cons.1 hp
  cases i with
  | zero =>
   simp only [List.getElem?_cons_zero, Option.some.injEq] at h
   subst h
   unfold rank
   rw [List.countP_eq_zero]
   intro z hz
   rcases List.mem_cons.1 hz with rfl | hz
   ·simp [Ahd.irrefl]
   ·simp [(h1 z hz).asymm]
  | succ i =>
   simp only [List.getElem?_cons_succ] at h
   have := ih h2 h
   unfold rank at this ⊢
   rw [List.countP_cons, this]
   simp [h1 x (List.mem_of_getElem? h)]
theorem sortSd_pw {l : List Std} (h : (l.map (·.song)).Nodup) : (sortSd l).Pairwise Ahd := by
 rw [List.pairwise_iff_getElem]
 intro i j hi hj hij
 have hnd : ((sortSd l).map (·.song)).Nodup := ((sortSd_perm l).map _).nodup_iff.2 h
 refine not_ahd (fun e => ?_) (sortSd_srt (l := l) hij (by simp [hi]) (by simp [hj]))
 have := (List.pairwise_iff_getElem.1 (List.nodup_iff_pairwise_ne.1 hnd)) i j (by simpa using hi) (by simpa using hj) hij
 simp only [List.getElem_map] at this
 exact this e.symm
theorem mem_take_iff {α : Type} {l : List α} {n : Nat} {x : α} : x ∈ l.take n ↔ ∃ i, i < n ∧ l[i]? = some x := by
 rw [List.mem_iff_getElem?]
 constructor
 ·rintro ⟨i, hi⟩
  rw [List.getElem?_take] at hi
  split at hi
  ·rename_i h; exact ⟨i, h, hi⟩
  ·cases hi
 ·rintro ⟨i, h1, h2⟩
  exact ⟨i, by rw [List.getElem?_take_of_lt h1]; exact h2⟩
theorem take_rank {l : List Std} (h : (l.map (·.song)).Nodup) (n : Nat) : ((sortSd l).take n).Perm (l.filter fun x => decide (rank l x < n)) := by
 have hp := sortSd_perm l
 have hpw := sortSd_pw h
 have hnl : l.Nodup := by
  rw [List.nodup_iff_pairwise_ne, List.pairwise_map] at h
  rw [List.nodup_iff_pairwise_ne]
  exact h.imp fun hn e => hn (by rw [e])
 refine (List.perm_ext_iff_of_nodup ((List.take_sublist _ _).nodup (hp.nodup_iff.2 hnl)) (hnl.sublist List.filter_sublist)).2 fun x => ?_
 rw [mem_take_iff, List.mem_filter, decide_eq_true_eq]
 constructor
 ·rintro ⟨i, h1, h2⟩
  refine ⟨hp.mem_iff.1 (List.mem_of_getElem? h2), ?_⟩
  rw [← rank_perm hp, rank_at hpw h2]; exact h1
 ·rintro ⟨h1, h2⟩
  obtain ⟨i, hi⟩ := List.mem_iff_getElem?.1 (hp.mem_iff.2 h1)
  rw [← rank_perm hp, rank_at hpw hi] at h2
  exact ⟨i, h2, hi⟩
theorem sortI_perm {a b : List Int} (h : a.Perm b) : sortI a = sortI b := by
 rw [sortI_isort, sortI_isort]
 exact asc_perm ((isortZ_perm a).trans (h.trans (isortZ_perm b).symm)) (isortZ_asc a) (isortZ_asc b)
theorem sortI_asc {a : List Int} (h : Asc a) : sortI a = a := by
 rw [sortI_isort]
 exact asc_perm (isortZ_perm a) (isortZ_asc a) h
def Up (l : List Int) : Prop := l.Pairwise (· < ·)
theorem Up.nodup {l : List Int} (h : Up l) : l.Nodup := by
 rw [List.nodup_iff_pairwise_ne]
 exact h.imp fun q => by omega
theorem kept_rank {l : List Std} (h : Up (l.map (·.song))) (n : Nat) : keptS n l = (l.filter fun x => decide (rank l x < n)).map (·.song) := by
 unfold keptS
 rw [sortI_perm ((take_rank h.nodup n).map _)]
 refine sortI_asc ?_
 have : Up ((l.filter fun x => decide (rank l x < n)).map (·.song)) := h.sublist (List.filter_sublist.map _)
 exact this.imp fun q => by omega
theorem kept_up {l : List Std} (h : Up (l.map (·.song))) (n : Nat) : Up (keptS n l) := by
 rw [kept_rank h]
 exact h.sublist (List.filter_sublist.map _)
def prs (t : Tally) (c : Contest) (own : Std) (s fr : Int) (l : List Int) : List (Int × Int) := l.flatMap fun x => (needOne t c own s fr x).map fun v => (x, v)
section
variable {c : Contest} {b : Ballot} {t t' : Tally}
end
theorem toN_up (n : Nat) : Up (toN n) := by
 unfold Up toN
 rw [List.pairwise_map]
 exact List.pairwise_lt_range.imp fun h => by omega
theorem rdsT_up {l : List Ballot} : ∀ {rs : List Rnd} {i : Nat} {ss : List Int}, Up ss → ∀ t, t ∈ rdsT l rs i ss → Up t.songs := by
 intro rs
 induction rs with
 | nil => intro i ss _ t h; cases h
 | cons r rs ih =>
  intro i ss hu t h
  simp only [rdsT, List.mem_cons] at h
  rcases h with rfl | h
  ·exact hu
  ·refine ih ?_ t h
   exact kept_up (by rw [allT_song]; exact hu) _
theorem roundsT_up {c : Contest} {l : List Ballot} {t : Tally} (h : t ∈ roundsT c l) : Up t.songs := by
 refine rdsT_up ?_ t h
 exact toN_up _
def AscB (l : List Ballot) : Prop := Asc (l.map (·.serial))
def insB (x : Ballot) : List Ballot → List Ballot
 | [] => [x]
 | y :: l => if x.serial ≤ y.serial then x :: y :: l else y :: insB x l
def sortB : List Ballot → List Ballot
 | [] => []
 | x :: l => insB x (sortB l)
theorem insB_perm (x : Ballot) : ∀ l, (insB x l).Perm (x :: l) := by
 intro l
 induction l with
 | nil => exact .refl _
 | cons y l ih =>
  simp only [insB]
  split
  ·exact .refl _
  ·exact (List.Perm.cons y ih).trans (.swap ..)
theorem sortB_perm : ∀ l, (sortB l).Perm l := by
 intro l
 induction l with
 | nil => exact .refl _
 | cons x l ih => exact (insB_perm x _).trans (.cons x ih)
theorem insB_asc (x : Ballot) : ∀ {l : List Ballot}, AscB l → AscB (insB x l) := by
 intro l
 induction l with
 | nil => intro _; simp [insB, AscB, Asc]
 | cons y l ih =>
  intro h
  unfold AscB Asc at *
  rw [List.map_cons, List.pairwise_cons] at h
  simp only [insB]
  split
  ·rename_i hxy
   rw [List.map_cons, List.pairwise_cons, List.map_cons]
   refine ⟨fun z hz => ?_, List.pairwise_cons.2 h⟩
   rcases List.mem_cons.1 hz with rfl | hz
   ·exact hxy
   ·have := h.1 z hz; omega
  ·rename_i hxy
   rw [List.map_cons, List.pairwise_cons]
   refine ⟨fun z hz => ?_, ih h.2⟩
   rcases List.mem_cons.1 (((insB_perm x l).map _).mem_iff.1 hz) with rfl | hz
   ·omega
   ·exact h.1 z hz
theorem sortB_asc : ∀ l, AscB (sortB l) := by
 intro l
 induction l with
 | nil => exact List.Pairwise.nil
 | cons x l ih => exact insB_asc x ih
theorem ascB_uniq {a b : List Ballot} (h : a.Perm b) (hn : (b.map (·.serial)).Nodup) (ha : AscB a) (hb : AscB b) : a = b := by
 have hm : a.map (·.serial) = b.map (·.serial) := asc_perm (h.map _) ha hb
 apply List.ext_getElem?
 intro i
 have hi := congrArg (·[i]?) hm
 simp only [List.getElem?_map] at hi
 cases hx : a[i]? with
 | none =>
  cases hy : b[i]? with
  | none => rfl
  | some y => rw [hx, hy] at hi; cases hi
 | some x =>
  cases hy : b[i]? with
  | none => rw [hx, hy] at hi; cases hi
  | some y =>
   rw [hx, hy] at hi
   simp only [Option.map_some, Option.some.injEq] at hi
   rw [serial_inj hn (h.mem_iff.1 (List.mem_of_getElem? hx)) (List.mem_of_getElem? hy) hi]
theorem sortB_uniq {a l : List Ballot} (h : a.Perm l) (hn : (l.map (·.serial)).Nodup) (ha : AscB a) : a = sortB l := ascB_uniq (h.trans (sortB_perm l).symm) ((((sortB_perm l).map _).nodup_iff).2 hn) ha (sortB_asc l)
theorem bmid_swap {α : Type} {l : List α} {q : Nat} {y w : α} (h : l[q]? = some y) : (l.take (q + 1) ++ w :: l.drop (q + 1)) = (l.take q ++ y :: w :: l.drop (q + 1)) ∧ (l.take q ++ w :: l.drop q) = (l.take q ++ w :: y :: l.drop (q + 1)) := by
 obtain ⟨b, e⟩ := List.getElem?_eq_some_iff.1 h
 constructor
 ·rw [List.take_add_one, h]; simp
 ·rw [List.drop_eq_getElem_cons b, e]
theorem bmid_set {α : Type} {L R : List α} {q : Nat} {y w : α} (h : L.length = q) : ((L ++ y :: w :: R).set q w).set (q + 1) y = L ++ w :: y :: R := by
 subst h
 simp [List.set_append_right]
theorem bmid_perm {α : Type} {l : List α} {a : Nat} {w : α} : (l.take a ++ w :: l.drop a).Perm (l ++ [w]) := by
 refine List.perm_middle.trans ?_
 rw [List.take_append_drop]
 exact (List.perm_append_comm (l₁ := [w]) (l₂ := l))
theorem basc_mid {l : List Ballot} {a : Nat} {w : Ballot} (ha : AscB l) (h1 : ∀ x, x ∈ l.drop a → w.serial ≤ x.serial) (h2 : ∀ x, x ∈ l.take a → x.serial ≤ w.serial) : AscB (l.take a ++ w :: l.drop a) := by
 unfold AscB Asc at *
 have h := ha
 rw [← List.take_append_drop a l, List.map_append, List.pairwise_append] at h
 rw [List.map_append, List.map_cons, List.pairwise_append]
 refine ⟨h.1, List.pairwise_cons.2 ⟨fun z hz => ?_, h.2.1⟩, fun x hx y hy => ?_⟩
 ·obtain ⟨b, hb, rfl⟩ := List.mem_map.1 hz
  exact h1 b hb
 ·rcases List.mem_cons.1 hy with rfl | hy
  ·obtain ⟨b, hb, rfl⟩ := List.mem_map.1 hx
   exact h2 b hb
  ·exact h.2.2 x hx y hy
theorem basc_take {l : List Ballot} {q : Nat} {y w : Ballot} (ha : AscB l) (h : l[q]? = some y) (hw : y.serial ≤ w.serial) : ∀ x, x ∈ l.take (q + 1) → x.serial ≤ w.serial := fun x hx => by
 obtain ⟨i, hi, hg⟩ := mem_take_iff.1 hx
 by_cases e : i = q
 ·subst e; rw [hg] at h; injection h with h; subst h; exact hw
 ·obtain ⟨b1, e1⟩ := List.getElem?_eq_some_iff.1 hg
  obtain ⟨b2, e2⟩ := List.getElem?_eq_some_iff.1 h
  have := List.pairwise_iff_getElem.1 ha i q (by simpa using b1) (by simpa using b2) (by omega)
  simp only [List.getElem_map] at this
  rw [e1, e2] at this
  omega
theorem row6_cons (x : Ballot) (l : List Ballot) : rowC ((x :: l).map blPV) = I x.serial :: I x.round :: I x.kind :: I x.voter :: I x.song :: I x.points :: rowC (l.map blPV) := by simp [rowC, blPV, blCells]
theorem row6_len : ∀ l : List Ballot, (rowC (l.map blPV)).length = l.length * 6 := by
 intro l
 induction l with
 | nil => rfl
 | cons x l ih => rw [row6_cons]; simp only [List.length_cons, ih]; omega
theorem row6_ld : ∀ {l : List Ballot} {j : Nat} {x : Ballot}, l[j]? = some x → ((rowC (l.map blPV)).drop (j * 6)).take 6 = [I x.serial, I x.round, I x.kind, I x.voter, I x.song, I x.points] := by
 intro l
 induction l with
 | nil => intro j x h; simp at h
 | cons y l ih =>
  intro j x h
  rw [row6_cons]
  cases j with
  | zero =>
   simp only [List.getElem?_cons_zero, Option.some.injEq] at h
   subst h
   simp
  | succ j =>
   simp only [List.getElem?_cons_succ] at h
   rw [show (j + 1) * 6 = j * 6 + 1 + 1 + 1 + 1 + 1 + 1 by omega]
   simp only [List.drop_succ_cons]
   exact ih h
theorem row6_f0 : ∀ {l : List Ballot} {j : Nat} {x : Ballot}, l[j]? = some x → (rowC (l.map blPV))[j * 6]? = some (I x.serial) := by
 intro l
 induction l with
 | nil => intro j x h; simp at h
 | cons y l ih =>
  intro j x h
  rw [row6_cons]
  cases j with
  | zero =>
   simp only [List.getElem?_cons_zero, Option.some.injEq] at h
   subst h
   simp
  | succ j =>
   simp only [List.getElem?_cons_succ] at h
   rw [show (j + 1) * 6 = j * 6 + 1 + 1 + 1 + 1 + 1 + 1 by omega]
   simp only [List.getElem?_cons_succ]
   exact ih h
theorem row6_put (x : Ballot) : ∀ {l : List Ballot} {j : Nat}, j < l.length → ((((((rowC (l.map blPV)).set (j * 6) (I x.serial)).set (j * 6 + 1) (I x.round)).set (j * 6 + 1 + 1) (I x.kind)).set (j * 6 + 1 + 1 + 1) (I x.voter)).set (j * 6 + 1 + 1 + 1 + 1) (I x.song)).set (j * 6 + 1 + 1 + 1 + 1 + 1) (I x.points) = rowC ((l.set j x).map blPV) := by
 intro l
 induction l with
 | nil => intro j h; simp at h
 | cons y l ih =>
  intro j h
  rw [row6_cons]
  cases j with
  | zero =>
   have e : (y :: l).set 0 x = x :: l := rfl
   rw [e, row6_cons]; simp
  | succ j =>
   rw [List.set_cons_succ, row6_cons, show (j + 1) * 6 = j * 6 + 1 + 1 + 1 + 1 + 1 + 1 by omega]
   simp only [List.set_cons_succ]
   rw [ih (by simpa using h)]
theorem cA_row6 {a b c : Nat} {l : List Ballot} : CleanAll a b c (rowC (l.map blPV)) = True := eq_true fun p hp => by
 simp only [rowC, List.mem_flatMap, List.mem_map] at hp
 obtain ⟨q, ⟨x, _, rfl⟩, hp⟩ := hp
 exact cleans_bl x p hp
attribute [go_sem] cA_row6
def rowF (f : Nat → Bool) (N : Nat) : List Bool := (List.range N).map f
theorem rowF_len (f : Nat → Bool) (N : Nat) : (rowF f N).length = N := by simp [rowF]
theorem rowF_get {f : Nat → Bool} {N s : Nat} (h : s < N) : (rowF f N)[s]? = some (f s) := by simp [rowF, h]
theorem rowF_congr {f g : Nat → Bool} {N : Nat} (h : ∀ x, x < N → f x = g x) : rowF f N = rowF g N := by
 unfold rowF
 exact List.map_congr_left fun x hx => h x (List.mem_range.1 hx)
theorem rowF_set {f : Nat → Bool} {N s : Nat} {v : Bool} : (rowF f N).set s v = rowF (fun x => if x = s then v else f x) N := by
 apply List.ext_getElem?
 intro i
 by_cases hi : i < N
 ·rw [rowF_get hi]
  by_cases e : s = i
  ·subst e; rw [List.getElem?_set_self (by rw [rowF_len]; exact hi)]; simp
  ·rw [List.getElem?_set_ne e, rowF_get hi, if_neg (fun h => e h.symm)]
 ·rw [List.getElem?_eq_none (by simp [rowF_len]; omega), List.getElem?_eq_none (by simp [rowF_len]; omega)]
theorem rowF_zero (N : Nat) : rowF (fun _ => false) N = List.replicate N false := by unfold rowF; rw [List.map_const', List.length_range]
def firstLeft (out l : List Int) : Option Int := l.find? fun s => !has out s
def manyFor (out : List Int) (ls : List (List Int)) (s : Int) : Nat := ls.countP fun l => decide (firstLeft out l = some s)
theorem manyFor_snoc (out : List Int) (ls : List (List Int)) (l : List Int) (s : Int) : manyFor out (ls ++ [l]) s = manyFor out ls s + (if firstLeft out l = some s then 1 else 0) := by
 simp [manyFor, List.countP_append, List.countP_cons]
theorem manyFor_le (out : List Int) (ls : List (List Int)) (s : Int) : manyFor out ls s ≤ ls.length := List.countP_le_length
def worstF (out : List Int) (ls : List (List Int)) : Nat → Int
 | 0 => -1
 | i + 1 => if !has out i && (decide (worstF out ls i < 0) || decide (manyFor out ls i ≤ manyFor out ls (worstF out ls i))) then (i : Int) else worstF out ls i
theorem worstF_bd (out : List Int) (ls : List (List Int)) : ∀ i, (worstF out ls i = -1 ∧ ∀ s : Nat, s < i → has out s = true) ∨ (0 ≤ worstF out ls i ∧ worstF out ls i < i ∧ has out (worstF out ls i) = false) := by
 intro i
 induction i with
 | zero => exact .inl ⟨rfl, fun s h => by omega⟩
 | succ i ih =>
  simp only [worstF]
  split
  ·rename_i h
   right
   simp only [Bool.and_eq_true, Bool.not_eq_true'] at h
   exact ⟨by omega, by omega, h.1⟩
  ·rename_i h
   rcases ih with ⟨h1, h2⟩ | ⟨h1, h2, h3⟩
   ·left
    refine ⟨h1, fun s hs => ?_⟩
    by_cases e : s = i
    ·subst e
     rw [h1] at h
     simpa using h
    ·exact h2 s (by omega)
   ·right; exact ⟨h1, by omega, h3⟩
def runU (n : Nat) (ls : List (List Int)) : Nat → List Int
 | 0 => []
 | i + 1 => runU n ls i ++ [worstF (runU n ls i) ls n]
theorem runU_len (n : Nat) (ls : List (List Int)) : ∀ i, (runU n ls i).length = i := by
 intro i
 induction i with
 | zero => rfl
 | succ i ih => simp [runU, ih]
theorem sub_len : ∀ {l l' : List Int}, l.Nodup → (∀ x, x ∈ l → x ∈ l') → l.length ≤ l'.length := by
 intro l
 induction l with
 | nil => intro l' _ _; simp
 | cons a l ih =>
  intro l' hn hs
  obtain ⟨h1, h2⟩ := List.nodup_cons.1 hn
  have ha := hs a (by simp)
  have := ih (l' := l'.erase a) h2 fun x hx => (List.mem_erase_of_ne (show x ≠ a from fun e => h1 (by rw [← e]; exact hx))).2 (hs x (by simp [hx]))
  rw [List.length_erase_of_mem ha] at this
  have hp := List.length_pos_of_mem ha
  simp only [List.length_cons]
  omega
theorem some_left {n : Nat} {out : List Int} (h : out.length < n) : ∃ s : Nat, s < n ∧ has out s = false := by
 refine Classical.byContradiction fun hh => ?_
 have hall : ∀ s : Nat, s < n → has out s = true := fun s hs => by
  cases e : has out s with
  | true => rfl
  | false => exact absurd ⟨s, hs, e⟩ hh
 have hnd : ((List.range n).map fun s : Nat => (s : Int)).Nodup := by
  rw [List.nodup_iff_pairwise_ne, List.pairwise_map]
  exact (List.nodup_iff_pairwise_ne.1 List.nodup_range).imp fun h e => h (by omega)
 have := sub_len hnd (l' := out) fun x hx => by
  obtain ⟨s, hs, rfl⟩ := List.mem_map.1 hx
  exact has_iff.1 (hall s (List.mem_range.1 hs))
 simp at this
 omega
theorem worst_ok {n : Nat} {out : List Int} (ls : List (List Int)) (h : out.length < n) : 0 ≤ worstF out ls n ∧ worstF out ls n < n ∧ has out (worstF out ls n) = false := by
 rcases worstF_bd out ls n with ⟨_, h2⟩ | h2
 ·obtain ⟨s, hs, e⟩ := some_left h
  rw [h2 s hs] at e; cases e
 ·exact h2
theorem runU_ok (n : Nat) (ls : List (List Int)) : ∀ i, i ≤ n → (∀ x, x ∈ runU n ls i → 0 ≤ x ∧ x < n) ∧ (runU n ls i).Nodup := by
 intro i
 induction i with
 | zero => intro _; exact ⟨fun x hx => absurd hx (by simp [runU]), by simp [runU]⟩
 | succ i ih =>
  intro hi
  obtain ⟨h1, h2⟩ := ih (by omega)
  obtain ⟨w1, w2, w3⟩ := worst_ok (n := n) (out := runU n ls i) ls (by rw [runU_len]; omega)
  refine ⟨fun x hx => ?_, ?_⟩
  ·simp only [runU, List.mem_append, List.mem_singleton] at hx
   rcases hx with hx | rfl
   ·exact h1 x hx
   ·exact ⟨w1, w2⟩
  ·simp only [runU]
   rw [List.nodup_append]
   refine ⟨h2, by simp, fun a ha b hb e => ?_⟩
   simp at hb
   subst hb e
   rw [has_iff.2 ha] at w3; cases w3
def winF (out : List Int) : Nat → Nat → Int
 | 0, i => i
 | k + 1, i => if has out i then winF out k (i + 1) else i
def runoffA (n : Int) (ls : List (List Int)) : List Int × Int × Int :=
 if chkPf n ls ≠ 0 then ([], 0, chkPf n ls) else (runU n.toNat ls (n.toNat - 1), winF (runU n.toNat ls (n.toNat - 1)) n.toNat 0, 0)
def goneC (out : List Int) : List PV := (List.range 8).map fun s : Nat => PV.bool (has out s)
def manyC (out : List Int) (ls : List (List Int)) : List PV := (List.range 8).map fun s : Nat => I (manyFor out ls s : Nat)
theorem goneC_get {out : List Int} {s : Nat} (h : s < 8) : (goneC out)[s]? = some (.bool (has out s)) := by simp [goneC, h]
theorem manyC_get {out : List Int} {ls : List (List Int)} {s : Nat} (h : s < 8) : (manyC out ls)[s]? = some (I (manyFor out ls s : Nat)) := by simp [manyC, h]
theorem has_snoc {out : List Int} {w v : Int} : has (out ++ [w]) v = (has out v || decide (w = v)) := by simp [has, List.any_append]
theorem goneC_set {out : List Int} {s : Nat} (h : s < 8) : (goneC out).set s (.bool true) = goneC (out ++ [(s : Int)]) := by
 apply List.ext_getElem?
 intro i
 by_cases e : s = i
 ·subst e
  rw [List.getElem?_set_self (by simpa [goneC] using h), goneC_get h, has_snoc]
  simp
 ·rw [List.getElem?_set_ne e]
  by_cases hi : i < 8
  ·rw [goneC_get hi, goneC_get hi, has_snoc]
   simp; omega
  ·simp [goneC, hi]
theorem manyC_none {out : List Int} {ls : List (List Int)} {l : List Int} (h : firstLeft out l = none) : manyC out (ls ++ [l]) = manyC out ls := by
 unfold manyC
 refine List.map_congr_left fun s _ => ?_
 rw [manyFor_snoc, if_neg (by rw [h]; simp)]
 rfl
theorem manyC_some {out : List Int} {ls : List (List Int)} {l : List Int} {s : Nat} (h : s < 8) (hf : firstLeft out l = some (s : Int)) : (manyC out ls).set s (I ((manyFor out ls s : Nat) + 1)) = manyC out (ls ++ [l]) := by
 apply List.ext_getElem?
 intro i
 by_cases e : s = i
 ·subst e
  rw [List.getElem?_set_self (by simpa [manyC] using h), manyC_get h, manyFor_snoc, if_pos hf]
  rfl
 ·rw [List.getElem?_set_ne e]
  by_cases hi : i < 8
  ·rw [manyC_get hi, manyC_get hi, manyFor_snoc, if_neg (by rw [hf]; intro h; injection h with h; omega)]
   rfl
  ·simp [manyC, hi]
theorem firstLeft_at {out l : List Int} {k : Nat} {v : Int} (hk : ∀ x, x ∈ l.take k → has out x = true) (hv : l[k]? = some v) (h : has out v = false) : firstLeft out l = some v := by
 have hlt := (List.getElem?_eq_some_iff.1 hv).1
 unfold firstLeft
 rw [List.find?_eq_some_iff_append]
 refine ⟨by simp [h], l.take k, l.drop (k + 1), ?_, fun x hx => by simp [hk x hx]⟩
 conv => lhs; rw [← List.take_append_drop k l]
 rw [List.drop_eq_getElem_cons hlt, (List.getElem?_eq_some_iff.1 hv).2]
theorem firstLeft_none {out l : List Int} (h : ∀ x, x ∈ l → has out x = true) : firstLeft out l = none := by
 unfold firstLeft
 rw [List.find?_eq_none]
 intro x hx
 simp [h x hx]
theorem goneC_len (out : List Int) : (goneC out).length = 8 := by simp [goneC]
theorem manyC_len (out : List Int) (ls : List (List Int)) : (manyC out ls).length = 8 := by simp [manyC]
theorem goneC_clean {a b c : Nat} (out : List Int) : CleanAll a b c (goneC out) := by
 intro p hp
 obtain ⟨s, _, rfl⟩ := List.mem_map.1 hp
 simp only [go_sem]
theorem beqB2 {a b : Bool} : eqPV Try.prog 4 (.bool a) (.bool b) = some (decide (a = b)) := by cases a <;> cases b <;> kernel_rfl
theorem sl86 {id : Nat} {k : IntKind} {n : Nat} (h0 : 0 < n) (h8 : n ≤ 8) : slicePV Try.prog 86 (.ptr id 0) none (some (.int k n)) none = some (.msl id 0 n) := by
 unfold slicePV
 rw [Try.underlying86]
 simp only [Try.underlying4, bnd]
 simp [h8]
 omega
def idxF (out : List Int) : Nat → Nat → Int
 | 0, _ => -1
 | k + 1, i => if has out i = false then i else idxF out k (i + 1)
theorem idxF_eq {n : Nat} {out : List Int} : ∀ (k i : Nat), i + k = n → (∃ s : Nat, i ≤ s ∧ s < n ∧ has out s = false) → idxF out k i = winF out k i := by
 intro k
 induction k with
 | zero => rintro i h ⟨s, h1, h2, _⟩; omega
 | succ k ih =>
  rintro i h ⟨s, h1, h2, h3⟩
  simp only [idxF, winF]
  cases e : has out i with
  | false => simp
  | true =>
   simp only [Bool.true_eq_false, if_false, if_true]
   exact ih (i + 1) (by omega) ⟨s, by
    by_cases q : s = i
    ·subst q; rw [e] at h3; cases h3
    ·omega, h2, h3⟩
set_option maxHeartbeats 2000000 in
theorem gIndex_pc (Y : YEnv) (σ : Sg) (out : List Int) (id n : Nat) (hn8 : n ≤ 8) (hd : σ.store[id]? = some (some (goneC out))) :
  PC Try.prog Y 46 [.msl id 0 n, .bool false] σ (I (idxF out n 0)) (σ) := by
 refine PC_of_W Try.func46 rfl (by kernel_rfl) Try.ntmps46 (by simp) fun hcl hca => ?_
 obtain ⟨res, hres⟩ : ∃ r, idxF out n 0 = r := ⟨_, rfl⟩
 rw [hres]
 refine W_seq fun kz1 kq1 => ?_
 refine W_region [0, 1] fun R hR => ?_
 simp only [go_sem, beqB2, ldS_at hd]
 refine hR _ _ (kq1 _ _ ?_); clear hR R; try clear kq1 kz1
 try simp only [go_sem, beqB2, ldS_at hd]
 refine W_seq fun kz2 kq2 => ?_
 refine W_seq fun kz3 kq3 => ?_
 refine W_region [0, 1, 7, 8] fun R hR => ?_
 simp only [go_sem, beqB2, ldS_at hd]
 refine hR _ _ (kq3 _ _ ?_); clear hR R; try clear kq3 kz3
 try simp only [go_sem, beqB2, ldS_at hd]
 refine W_block ?_
 refine W_loopS (α := Nat) (fun (i : Nat) => [(8, I i)]) (fun (i : Nat) => i ≤ n ∧ res = idxF out (n - i) i) (fun (i : Nat) => n - i) (0) rfl (⟨Nat.zero_le _, hres.symm⟩) ?_
 rintro i ⟨hi, hinv⟩
 refine W_seq fun kz4 kq4 => ?_
 refine W_region [0, 1, 7, 8, 9] fun R hR => ?_
 simp only [go_sem, beqB2, ldS_at hd]
 refine hR _ _ (kq4 _ _ ?_); clear hR R; try clear kq4 kz4
 try simp only [go_sem, beqB2, ldS_at hd]
 refine W_seq fun kz5 kq5 => ?_
 refine W_cond rfl (fun c1 => ?_) (fun c1 => ?_)
 ·try simp only [nrm] at c1
  have hin : i < n := by first | assumption | omega
  have hin2 : (i : Int) < (n : Int) := by omega
  obtain ⟨k, hk⟩ : ∃ k, n - i = k + 1 := ⟨n - i - 1, by omega⟩
  rw [hk] at hinv
  simp only [idxF] at hinv
  have hg := goneC_get (out := out) (s := i) (by omega)
  refine W_skip (kq5 _ _ ?_)
  refine W_seq fun kz6 kq6 => ?_
  refine W_block ?_
  refine W_seq fun kz7 kq7 => ?_
  refine W_region [0, 1, 5, 7, 8] fun R hR => ?_
  simp only [go_sem, beqB2, ldS_at hd, hg]
  refine hR _ _ (kq7 _ _ ?_); clear hR R; try clear kq7 kz7
  try simp only [go_sem, beqB2, ldS_at hd, hg]
  refine W_seq fun kz8 kq8 => ?_
  refine W_region [0, 1, 5, 7, 8, 16] fun R hR => ?_
  simp only [go_sem, beqB2, ldS_at hd, hg, hin2, iaM_nat (Int.ofNat_lt.1 hin2), Nat.mul_one, Nat.zero_add, bindSome]
  refine hR _ _ (kq8 _ _ ?_); clear hR R; try clear kq8 kz8
  try simp only [go_sem, beqB2, ldS_at hd, hg]
  refine W_cond rfl (fun c2 => ?_) (fun c2 => ?_)
  ·try simp only [nrm] at c2
   refine W_seq fun kz9 kq9 => ?_
   refine W_region [4] fun R hR => ?_
   simp only [go_sem, beqB2, ldS_at hd, hg]
   refine hR _ _ (kq9 _ _ ?_); clear hR R; try clear kq9 kz9
   try simp only [go_sem, beqB2, ldS_at hd, hg]
   refine W_ret ?_
   simp only [go_sem, beqB2, ldS_at hd, hg]
   refine ⟨.inr (by trivial), ?_⟩
   first | refine Fin_same hcl rfl (Wk_eq ?_ (by simp only [go_sem])) | refine Fin_self hcl rfl (Wk_eq ?_ (by simp only [go_sem]))
   try simp only [go_sem]
   all_goals
    first | (rw [hinv]; done) | (rw [hinv]; simp_all; done) | rfl
  ·try simp only [nrm] at c2
   refine W_skip (kq6 _ _ ?_)
   refine W_region [0, 1, 7, 8] fun R hR => ?_
   simp only [go_sem, beqB2, ldS_at hd, hg]
   try simp (disch := omega) only [wrapI, wrapU]
   refine hR _ _ ?_; clear hR R
   try simp only [go_sem, beqB2, ldS_at hd, hg]
   refine ⟨i + 1, ?_, by (try simp only []); omega, ?_⟩
   ·first | exact Weak.refl | exact Weak.eq (by first | rfl | (simp only [go_sem]; done) | (simp only [go_sem]; rfl) | (simp [go_sem]; done) | (simp [go_sem]; omega)) (by first | rfl | (simp only [go_sem]; done) | (simp [go_sem]; done))
   ·try dsimp only
    refine ⟨hin, ?_⟩
    rw [hinv, show n - (i + 1) = k by omega]
    simp_all
 ·try simp only [nrm] at c1
  have hie : n - i = 0 := by omega
  rw [hie] at hinv
  simp only [idxF] at hinv
  refine W_exit ?_
  simp only [go_sem, beqB2, ldS_at hd]
  refine kq2 _ _ ?_
  refine W_seq fun kz10 kq10 => ?_
  refine W_region [4] fun R hR => ?_
  simp only [go_sem, beqB2, ldS_at hd]
  refine hR _ _ (kq10 _ _ ?_); clear hR R; try clear kq10 kz10
  try simp only [go_sem, beqB2, ldS_at hd]
  refine W_ret ?_
  simp only [go_sem, beqB2, ldS_at hd]
  refine ⟨.inr (by trivial), ?_⟩
  first | refine Fin_same hcl rfl (Wk_eq ?_ (by simp only [go_sem])) | refine Fin_self hcl rfl (Wk_eq ?_ (by simp only [go_sem]))
  try simp only [go_sem]
  all_goals
   first | (rw [hinv]; done) | (rw [hinv]; simp_all; done) | rfl
set_option maxHeartbeats 8000000 in
theorem Runoff_pc (Y : YEnv) (σ : Sg) (n : Int) (ls : List (List Int)) (hl : ls.length < 2 ^ 40) (hl2 : ∀ l, l ∈ ls → l.length < 2 ^ 40) :
  PC Try.prog Y 21 [I n, lls ls] σ (.tuple [ints (runoffA n ls).1, I (runoffA n ls).2.1, I (runoffA n ls).2.2]) (σ) := by
 refine PC_of_W Try.func21 rfl (by kernel_rfl) Try.ntmps21 (by simp) fun hcl hca => ?_
 refine W_seq fun kz1 kq1 => ?_
 refine W_region [0, 1, 4] fun R hR => ?_
 simp only [go_sem]
 refine hR _ _ (kq1 _ _ ?_); clear hR R; try clear kq1 kz1
 try simp only [go_sem]
 refine W_seq fun kz2 kq2 => ?_
 refine W_seq fun kz3 kq3 => ?_
 refine W_region [0, 1, 4, 7] fun R hR => ?_
 simp only [go_sem]
 refine GCall_of (chkPf_pc Y _ n ls hl hl2) ?_
 simp only [go_sem]
 refine hR _ _ (kq3 _ _ ?_); clear hR R; try clear kq3 kz3
 try simp only [go_sem]
 refine W_seq fun kz4 kq4 => ?_
 refine W_region [0, 1, 4, 7, 20] fun R hR => ?_
 simp only [go_sem]
 refine hR _ _ (kq4 _ _ ?_); clear hR R; try clear kq4 kz4
 try simp only [go_sem]
 refine W_cond rfl (fun c1 => ?_) (fun c1 => ?_)
 ·try simp only [nrm] at c1
  refine W_seq fun kz5 kq5 => ?_
  refine W_region [4, 5, 6] fun R hR => ?_
  simp only [go_sem]
  refine hR _ _ (kq5 _ _ ?_); clear hR R; try clear kq5 kz5
  try simp only [go_sem]
  refine W_ret ?_
  simp only [go_sem]
  refine ⟨.inr (by trivial), ?_⟩
  first | (rw [hall]; refine Fin_same hcl rfl (Wk.ro (by simp only [go_sem]) ?_)) | refine Fin_same hcl rfl (Wk.ro (by simp only [go_sem]) ?_) | refine Fin_self hcl rfl (Wk.ro (by simp only [go_sem]) ?_)
  try simp only [go_sem]
  all_goals
   simp only [runoffA]; rw [if_pos c1]; first | rfl | simp only [go_sem]
 ·try simp only [nrm] at c1
  have hV := pfV_iff.1 c1
  have hn1 := hV.nb
  obtain ⟨N, hN⟩ : ∃ z : Nat, n = z := ⟨n.toNat, by omega⟩
  have hall : runoffA n ls = (runU N ls (N - 1), winF (runU N ls (N - 1)) N 0, 0) := by
   unfold runoffA
   rw [if_neg (by simp [c1]), hN, Int.toNat_natCast]
  have hmem := fun l (h : l ∈ ls) => (chkRow_mem (hV.ck l h)).1
  subst hN
  refine W_skip (kq2 _ _ ?_)
  refine W_seq fun kz6 kq6 => ?_
  refine W_region [0, 1, 4, 8] fun R hR => ?_
  simp only [go_sem]
  refine hR _ _ (kq6 _ _ ?_); clear hR R; try clear kq6 kz6
  try simp only [go_sem]
  refine W_seq fun kz7 kq7 => ?_
  refine W_block ?_
  refine W_weak (Weak.room (t := 4) (es := 1) rfl (by simp)) ?_
  refine W_weak (Weak.keep [0, 1, 4, 8]) ?_
  simp only [go_sem]
  refine W_loopT (α := Nat) (fun (i : Nat) => [(4, .isl ((runU N ls i).map I) (.tok σ.rooms.length i 1))]) (fun (i : Nat) => σ.ext [some (goneC (runU N ls i))] [i]) (fun (i : Nat) => i ≤ N - 1) (fun (i : Nat) => N - 1 - i) (0) rfl (by first | rfl | (simp only [go_sem]; done) | (simp only [go_sem]; rfl)) (Nat.zero_le _) ?_
  rintro i hi
  have hrl := runU_len N ls i
  obtain ⟨out, hout⟩ : ∃ z, runU N ls i = z := ⟨_, rfl⟩
  rw [hout] at hrl
  rw [hout]
  refine W_seq fun kz8 kq8 => ?_
  refine W_seq fun kz9 kq9 => ?_
  refine W_region [0, 1, 4, 8, 26] fun R hR => ?_
  simp only [go_sem, hrl]
  try simp (disch := omega) only [wrapI, wrapU]
  refine hR _ _ (kq9 _ _ ?_); clear hR R; try clear kq9 kz9
  try simp only [go_sem, hrl]
  refine W_cond rfl (fun c2 => ?_) (fun c2 => ?_)
  ·try simp only [nrm] at c2
   have hiN : i < N - 1 := by first | omega | (simp at c2; omega)
   have hok := runU_ok N ls i (by omega)
   have hw := worst_ok (n := N) ls (out := out) (by omega)
   refine W_skip (kq8 _ _ ?_)
   refine W_block ?_
   refine W_scope ?_
   refine W_seq fun kz10 kq10 => ?_
   refine W_region [0, 1, 4, 8, 9] fun R hR => ?_
   simp only [go_sem, hrl]
   refine hR _ _ (kq10 _ _ ?_); clear hR R; try clear kq10 kz10
   try simp only [go_sem, hrl]
   refine W_seq fun kz11 kq11 => ?_
   refine W_label (kq11 _ _ ?_)
   refine W_seq fun kz12 kq12 => ?_
   refine W_seq fun kz13 kq13 => ?_
   refine W_region [0, 1, 4, 8, 9, 27, 28, 29] fun R hR => ?_
   simp only [go_sem, hrl]
   refine hR _ _ (kq13 _ _ ?_); clear hR R; try clear kq13 kz13
   try simp only [go_sem, hrl]
   refine W_block ?_
   refine W_loopT (α := Nat) (fun (j : Nat) => [(29, I j)]) (fun (j : Nat) => σ.ext [some (goneC out), some (manyC out (ls.take j))] [i]) (fun (j : Nat) => j ≤ ls.length) (fun (j : Nat) => ls.length - j) (0) rfl (by first | rfl | (simp only [go_sem]; done) | (simp only [go_sem]; rfl)) (Nat.zero_le _) ?_
   rintro j hj
   refine W_seq fun kz14 kq14 => ?_
   refine W_region [0, 1, 4, 8, 9, 27, 28, 29, 30] fun R hR => ?_
   simp only [go_sem, hrl]
   refine hR _ _ (kq14 _ _ ?_); clear hR R; try clear kq14 kz14
   try simp only [go_sem, hrl]
   refine W_seq fun kz15 kq15 => ?_
   refine W_cond rfl (fun c3 => ?_) (fun c3 => ?_)
   ·try simp only [nrm] at c3
    have hj' : j < ls.length := by first | assumption | omega
    obtain ⟨l, hlj⟩ : ∃ l, ls[j]? = some l := ⟨ls[j], by simp [hj']⟩
    have hdrop : ls.drop j = l :: ls.drop (j + 1) := by
     rw [List.drop_eq_getElem_cons hj']; congr 1; exact (List.getElem?_eq_some_iff.1 hlj).2
    have hsn : ls.take (j + 1) = ls.take j ++ [l] := by rw [List.take_add_one, hlj]; rfl
    have hlm := hmem l (List.mem_of_getElem? hlj)
    have hll := hl2 l (List.mem_of_getElem? hlj)
    have hj2 : j + 1 ≤ ls.length := hj'
    refine W_skip (kq15 _ _ ?_)
    refine W_seq fun kz16 kq16 => ?_
    refine W_block ?_
    refine W_seq fun kz17 kq17 => ?_
    refine W_region [0, 1, 4, 8, 9, 11, 27, 28, 29] fun R hR => ?_
    simp only [go_sem, hrl, hlj, llPV]
    refine hR _ _ (kq17 _ _ ?_); clear hR R; try clear kq17 kz17
    try simp only [go_sem, hrl, hlj, llPV]
    refine W_seq fun kz18 kq18 => ?_
    refine W_region [0, 1, 4, 8, 9, 27, 28, 29, 33, 34, 35] fun R hR => ?_
    simp only [go_sem, hrl, hlj, llPV]
    refine hR _ _ (kq18 _ _ ?_); clear hR R; try clear kq18 kz18
    try simp only [go_sem, hrl, hlj, llPV]
    refine W_block ?_
    refine W_loopT (α := Nat) (fun (k : Nat) => [(35, I k)]) (fun (k : Nat) => σ.ext [some (goneC out), some (manyC out (ls.take j))] [i]) (fun (k : Nat) => k ≤ l.length ∧ ∀ x, x ∈ l.take k → has out x = true) (fun (k : Nat) => l.length - k) (0) rfl (by first | rfl | (simp only [go_sem]; done) | (simp only [go_sem]; rfl)) (⟨Nat.zero_le _, fun x hx => by simp at hx⟩) ?_
    rintro k ⟨hk, hta⟩
    refine W_seq fun kz19 kq19 => ?_
    refine W_region [0, 1, 4, 8, 9, 27, 28, 29, 33, 34, 35, 36] fun R hR => ?_
    simp only [go_sem, hrl, hlj, llPV]
    refine hR _ _ (kq19 _ _ ?_); clear hR R; try clear kq19 kz19
    try simp only [go_sem, hrl, hlj, llPV]
    refine W_seq fun kz20 kq20 => ?_
    refine W_cond rfl (fun c4 => ?_) (fun c4 => ?_)
    ·try simp only [nrm] at c4
     have hk' : k < l.length := by first | assumption | omega
     obtain ⟨v, hv⟩ : ∃ v, l[k]? = some v := ⟨l[k], by simp [hk']⟩
     have hdrop : l.drop k = v :: l.drop (k + 1) := by
      rw [List.drop_eq_getElem_cons hk']; congr 1; exact (List.getElem?_eq_some_iff.1 hv).2
     have hvb := hlm v (List.mem_of_getElem? hv)
     obtain ⟨vn, hvn⟩ : ∃ z : Nat, v = z := ⟨v.toNat, by omega⟩
     subst hvn
     have hgv := goneC_get (out := out) (s := vn) (by omega)
     have hmv := manyC_get (out := out) (ls := ls.take j) (s := vn) (by omega)
     have hml := manyFor_le out (ls.take j) vn
     have hvn8 : (vn : Int) < 8 := by omega
     have hml8 : decide (vn + 1 ≤ (manyC out (ls.take j)).length) = true := decide_eq_true (by rw [manyC_len]; omega)
     rw [List.length_take] at hml
     refine W_skip (kq20 _ _ ?_)
     refine W_seq fun kz21 kq21 => ?_
     refine W_block ?_
     refine W_seq fun kz22 kq22 => ?_
     refine W_region [0, 1, 4, 8, 9, 13, 27, 28, 29, 33, 34, 35] fun R hR => ?_
     simp only [go_sem, hrl, hlj, llPV, hv, hgv, hmv, hvn8, hml8, Nat.mul_one]
     refine hR _ _ (kq22 _ _ ?_); clear hR R; try clear kq22 kz22
     try simp only [go_sem, hrl, hlj, llPV, hv, hgv, hmv, hvn8, hml8, Nat.mul_one]
     refine W_seq fun kz23 kq23 => ?_
     refine W_region [0, 1, 4, 8, 9, 13, 27, 28, 29, 33, 34, 35, 42] fun R hR => ?_
     simp only [go_sem, hrl, hlj, llPV, hv, hgv, hmv, hvn8, hml8, Nat.mul_one]
     refine hR _ _ (kq23 _ _ ?_); clear hR R; try clear kq23 kz23
     try simp only [go_sem, hrl, hlj, llPV, hv, hgv, hmv, hvn8, hml8, Nat.mul_one]
     refine W_cond rfl (fun c5 => ?_) (fun c5 => ?_)
     ·try simp only [nrm] at c5
      have hf := firstLeft_at hta hv (by simpa using c5)
      have hset := manyC_some (out := out) (ls := ls.take j) (s := vn) (by omega) hf
      rw [← hsn] at hset
      refine W_seq fun kz24 kq24 => ?_
      refine W_region [0, 1, 4, 8, 9, 27, 28, 29] fun R hR => ?_
      simp only [go_sem, hrl, hlj, llPV, hv, hgv, hmv, hvn8, hml8, Nat.mul_one, hset]
      try simp (disch := omega) only [wrapI, wrapU]
      refine hR _ _ (kq24 _ _ ?_); clear hR R; try clear kq24 kz24
      try simp only [go_sem, hrl, hlj, llPV, hv, hgv, hmv, hvn8, hml8, Nat.mul_one]
      refine W_exit ?_
      simp only [go_sem, hrl, hlj, llPV, hv, hgv, hmv, hvn8, hml8, Nat.mul_one]
      refine kq16 _ _ ?_
      refine W_region [0, 1, 4, 8, 9, 27, 28, 29] fun R hR => ?_
      simp only [go_sem, hrl, hlj, llPV, hv, hgv, hmv, hvn8, hml8, Nat.mul_one]
      try simp (disch := omega) only [wrapI, wrapU]
      refine hR _ _ ?_; clear hR R
      try simp only [go_sem, hrl, hlj, llPV, hv, hgv, hmv, hvn8, hml8, Nat.mul_one]
      refine ⟨j + 1, ?_, by (try simp only []); omega, ?_⟩
      ·first | exact Weak.refl | exact Weak.eq rfl (by rw [hmn]) | exact Weak.eq rfl (congrArg (fun z => σ.ext [some (goneC out), some z] [i]) hset)
      ·try dsimp only
       exact hj2
     ·try simp only [nrm] at c5
      have hhv : has out (vn : Int) = true := by simpa using c5
      refine W_skip (kq21 _ _ ?_)
      refine W_region [0, 1, 4, 8, 9, 27, 28, 29, 33, 34, 35] fun R hR => ?_
      simp only [go_sem, hrl, hlj, llPV, hv, hgv, hmv, hvn8, hml8, Nat.mul_one]
      try simp (disch := omega) only [wrapI, wrapU]
      refine hR _ _ ?_; clear hR R
      try simp only [go_sem, hrl, hlj, llPV, hv, hgv, hmv, hvn8, hml8, Nat.mul_one]
      refine ⟨k + 1, ?_, by (try simp only []); omega, ?_⟩
      ·first | exact Weak.refl | exact Weak.eq (by first | rfl | (simp only [go_sem]; done) | (simp only [go_sem]; rfl) | (simp [go_sem]; done) | (simp [go_sem]; omega)) (by first | rfl | (simp only [go_sem]; done) | (simp [go_sem]; done))
      ·try dsimp only
       refine ⟨by omega, fun x hx => ?_⟩
       rw [List.take_add_one, hv] at hx
       rcases List.mem_append.1 hx with h | h
       ·exact hta x h
       ·simp at h; subst h; exact hhv
    ·try simp only [nrm] at c4
     have hke : k = l.length := by omega
     rw [hke, List.take_length] at hta
     have hmn : manyC out (ls.take j) = manyC out (ls.take (j + 1)) := by rw [hsn, manyC_none (firstLeft_none hta)]
     refine W_exit ?_
     simp only [go_sem, hrl, hlj, llPV]
     refine kq16 _ _ ?_
     refine W_region [0, 1, 4, 8, 9, 27, 28, 29] fun R hR => ?_
     simp only [go_sem, hrl, hlj, llPV]
     try simp (disch := omega) only [wrapI, wrapU]
     refine hR _ _ ?_; clear hR R
     try simp only [go_sem, hrl, hlj, llPV]
     refine ⟨j + 1, ?_, by (try simp only []); omega, ?_⟩
     ·first | exact Weak.refl | exact Weak.eq rfl (by rw [hmn]) | exact Weak.eq rfl (congrArg (fun z => σ.ext [some (goneC out), some z] [i]) hset)
     ·try dsimp only
      exact hj2
   ·try simp only [nrm] at c3
    have hje : j = ls.length := by omega
    subst hje
    rw [List.take_length]
    refine W_exit ?_
    simp only [go_sem, hrl]
    refine kq12 _ _ ?_
    refine W_seq fun kz25 kq25 => ?_
    refine W_region [0, 1, 4, 8, 9, 14] fun R hR => ?_
    simp only [go_sem, hrl]
    refine hR _ _ (kq25 _ _ ?_); clear hR R; try clear kq25 kz25
    try simp only [go_sem, hrl]
    refine W_seq fun kz26 kq26 => ?_
    refine W_seq fun kz27 kq27 => ?_
    refine W_region [0, 1, 4, 8, 9, 14, 50, 51] fun R hR => ?_
    simp only [go_sem, hrl]
    refine hR _ _ (kq27 _ _ ?_); clear hR R; try clear kq27 kz27
    try simp only [go_sem, hrl]
    refine W_block ?_
    refine W_loopS (α := Nat) (fun (s : Nat) => [(14, I (worstF out ls s)), (51, I s)]) (fun (s : Nat) => s ≤ N) (fun (s : Nat) => N - s) (0) rfl (Nat.zero_le _) ?_
    rintro s hs
    refine W_seq fun kz28 kq28 => ?_
    refine W_region [0, 1, 4, 8, 9, 14, 50, 51, 52] fun R hR => ?_
    simp only [go_sem, hrl]
    refine hR _ _ (kq28 _ _ ?_); clear hR R; try clear kq28 kz28
    try simp only [go_sem, hrl]
    refine W_seq fun kz29 kq29 => ?_
    refine W_cond rfl (fun c6 => ?_) (fun c6 => ?_)
    ·try simp only [nrm] at c6
     have hsN : s < N := by first | omega | (simp at c6; omega)
     have hgs := goneC_get (out := out) (s := s) (by omega)
     have hms := manyC_get (out := out) (ls := ls) (s := s) (by omega)
     have hwb := worstF_bd out ls s
     have hs8 : (s : Int) < 8 := by omega
     refine W_skip (kq29 _ _ ?_)
     refine W_seq fun kz30 kq30 => ?_
     refine W_block ?_
     refine W_seq fun kz31 kq31 => ?_
     refine W_region [0, 1, 4, 8, 9, 14, 15, 50, 51] fun R hR => ?_
     simp only [go_sem, hrl, hgs, hms, hs8, Nat.mul_one]
     refine hR _ _ (kq31 _ _ ?_); clear hR R; try clear kq31 kz31
     try simp only [go_sem, hrl, hgs, hms, hs8, Nat.mul_one]
     refine W_seq fun kz32 kq32 => ?_
     refine W_drawJ [0, 1, 4, 8, 9, 14, 15, 50, 51, 70] [(70, .bool (!has out s && (decide (worstF out ls s < 0) || decide (manyFor out ls s ≤ manyFor out ls (worstF out ls s)))))] [0, 1, 2, 3, 4, 5, 6, 7, 8, 9, 10, 11, 12, 13, 14, 15, 16] [] [[], [0], [0, 1], [0, 1, 2], [0, 1, 2, 3], [0, 1, 2, 3, 4], [0, 1, 2, 3, 4, 5], [0, 1, 2, 3, 4, 5, 6], [0, 1, 2, 3, 4, 5, 6, 7], [0, 1, 2, 3, 4, 5, 6, 7, 8], [0, 1, 2, 3, 4, 5, 6, 7, 8, 9], [0, 1, 2, 3, 4, 5, 6, 7], [0, 1, 2, 3, 4, 5, 6, 7, 11], [0, 1, 2, 3, 4, 5, 6, 7, 11, 12], [0, 1, 2, 3, 4, 5, 6, 7, 8, 9, 10, 11, 12, 13], [0, 1, 2, 3, 4, 5, 6, 7, 8, 9, 10, 11, 12, 13, 14], [0, 1, 2, 3, 4, 5, 6, 7, 8, 9, 10, 11, 12, 13, 14, 15]] mixed (by kernel_rfl) ?_ fun R hR => ?_
     ·refine kq32 _ _ ?_
      simp only [go_sem, hrl, hgs, hms, hs8, Nat.mul_one]
      refine W_cond rfl (fun c7 => ?_) (fun c7 => ?_)
      ·try simp only [nrm] at c7
       have hws1 : worstF out ls (s + 1) = (s : Int) := by simp only [worstF]; rw [if_pos c7]
       refine W_region [0, 1, 4, 8, 9, 14, 50, 51] fun R hR => ?_
       simp only [go_sem, hrl, hgs, hms, hs8, Nat.mul_one]
       refine hR _ _ (kq30 _ _ ?_); clear hR R; try clear kq30 kz30
       try simp only [go_sem, hrl, hgs, hms, hs8, Nat.mul_one]
       refine W_region [0, 1, 4, 8, 9, 14, 50, 51] fun R hR => ?_
       simp only [go_sem, hrl, hgs, hms, hs8, Nat.mul_one]
       try simp (disch := omega) only [wrapI, wrapU]
       refine hR _ _ ?_; clear hR R
       try simp only [go_sem, hrl, hgs, hms, hs8, Nat.mul_one]
       refine ⟨s + 1, ?_, by (try simp only []); omega, ?_⟩
       ·refine Weak.eq (by simp only [hws1]; first | done | rfl | (simp only [go_sem]; done)) rfl
       ·try dsimp only
        omega
      ·try simp only [nrm] at c7
       have hws1 : worstF out ls (s + 1) = worstF out ls s := by simp only [worstF]; rw [if_neg (by rw [c7]; simp)]
       refine W_skip (kq30 _ _ ?_)
       refine W_region [0, 1, 4, 8, 9, 14, 50, 51] fun R hR => ?_
       simp only [go_sem, hrl, hgs, hms, hs8, Nat.mul_one]
       try simp (disch := omega) only [wrapI, wrapU]
       refine hR _ _ ?_; clear hR R
       try simp only [go_sem, hrl, hgs, hms, hs8, Nat.mul_one]
       refine ⟨s + 1, ?_, by (try simp only []); omega, ?_⟩
       ·refine Weak.eq (by simp only [hws1]; first | done | rfl | (simp only [go_sem]; done)) rfl
       ·try dsimp only
        omega
     ·simp only [go_sem, hrl, hgs, hms, hs8, Nat.mul_one]
      refine GWant_split (fun g1 => ?_) (fun g1 => ?_)
      ·try simp only [Bool.not_eq_true', Bool.not_eq_false'] at g1
       have n1 := g1; try simp only [nrm] at n1
       simp only [go_sem, hrl, hgs, hms, hs8, Nat.mul_one, g1]
       refine GWant_split (fun g2 => ?_) (fun g2 => ?_)
       ·try simp only [Bool.not_eq_true', Bool.not_eq_false'] at g2
        have n2 := g2; try simp only [nrm] at n2
        obtain ⟨wn, hwn⟩ : ∃ z : Nat, worstF out ls s = z := ⟨(worstF out ls s).toNat, by simp at g2; omega⟩
        rw [hwn] at g2
        have hmw := manyC_get (out := out) (ls := ls) (s := wn) (by omega)
        have hwn8 : (wn : Int) < 8 := by omega
        simp only [go_sem, hrl, hgs, hms, hs8, Nat.mul_one, hwn, hmw, hwn8, Nat.mul_one, g1, g2]
        try refine And.intro (by repeat' (first | refine And.intro ?_ ?_ | exact GOr_right (fun _ => by simp only [go_sem, hrl, hgs, hms, hs8, Nat.mul_one, hwn, hmw, hwn8, Nat.mul_one]))) ?_
        refine hR _ ?_
        all_goals try simp only [go_sem, hrl, hgs, hms, hs8, Nat.mul_one, hwn, hmw, hwn8, Nat.mul_one]
        all_goals
         first | rfl | (simp [*]; done) | (simp_all; done) | (simp_all; omega)
       ·try simp only [Bool.not_eq_true', Bool.not_eq_false'] at g2
        have n2 := g2; try simp only [nrm] at n2
        simp only [go_sem, hrl, hgs, hms, hs8, Nat.mul_one, g1, g2]
        try refine And.intro (by repeat' (first | refine And.intro ?_ ?_ | exact GOr_right (fun _ => by simp only [go_sem, hrl, hgs, hms, hs8, Nat.mul_one]))) ?_
        refine hR _ ?_
        all_goals try simp only [go_sem, hrl, hgs, hms, hs8, Nat.mul_one]
        all_goals
         first | rfl | (simp [*]; done) | (simp_all; done) | (simp_all; omega)
      ·try simp only [Bool.not_eq_true', Bool.not_eq_false'] at g1
       have n1 := g1; try simp only [nrm] at n1
       simp only [go_sem, hrl, hgs, hms, hs8, Nat.mul_one, g1]
       try refine And.intro (by repeat' (first | refine And.intro ?_ ?_ | exact GOr_right (fun _ => by simp only [go_sem, hrl, hgs, hms, hs8, Nat.mul_one]))) ?_
       refine hR _ ?_
       all_goals try simp only [go_sem, hrl, hgs, hms, hs8, Nat.mul_one]
       all_goals
        first | rfl | (simp [*]; done) | (simp_all; done) | (simp_all; omega)
    ·try simp only [nrm] at c6
     have hse : N = s := by first | omega | (simp at c6; omega)
     subst hse
     obtain ⟨wl, hwl⟩ : ∃ z : Nat, worstF out ls N = z := ⟨(worstF out ls N).toNat, by omega⟩
     have hgset := goneC_set (out := out) (s := wl) (by omega)
     have hwl8 : (wl : Int) < 8 := by omega
     have hgl8 : decide (wl + 1 ≤ (goneC out).length) = true := decide_eq_true (by rw [goneC_len]; omega)
     refine W_exit ?_
     simp only [go_sem, hrl, hwl, hgset, hwl8, hgl8, Nat.mul_one]
     refine kq26 _ _ ?_
     refine W_seq fun kz33 kq33 => ?_
     refine W_region [0, 1, 4, 8, 14] fun R hR => ?_
     simp only [go_sem, hrl, hwl, hgset, hwl8, hgl8, Nat.mul_one]
     refine hR _ _ (kq33 _ _ ?_); clear hR R; try clear kq33 kz33
     try simp only [go_sem, hrl, hwl, hgset, hwl8, hgl8, Nat.mul_one]
     refine W_region [0, 1, 4, 8] fun R hR => ?_
     simp only [go_sem, hrl, hwl, hgset, hwl8, hgl8, Nat.mul_one]
     try simp (disch := first | omega | (simp only [go_sem] <;> omega)) only [wrapI, wrapU, appX_exact, appX_tok]
     try simp only [go_sem, hrl, hwl, hgset, hwl8, hgl8, Nat.mul_one]
     refine hR _ _ ?_; clear hR R
     try simp only [go_sem, hrl, hwl, hgset, hwl8, hgl8, Nat.mul_one]
     refine ⟨i + 1, ?_, by (try simp only []); omega, ?_⟩
     ·have hru : runU N ls (i + 1) = out ++ [(wl : Int)] := by simp only [runU, hout, hwl]
      refine Weak.trans (Weak.cutX 1 1 (by omega) (by omega) hcl ?_ ?_) ?_
      ·simp only [go_sem, eq_true (goneC_clean _)]
      ·simp only [go_sem]
       all_goals first | omega | exact fail1
      simp only [go_sem]
      refine Weak.eq ?_ ?_
      ·simp only [hru, List.map_append, List.map_cons, List.map_nil]; first | done | rfl
      ·simp only [hru]; first | done | rfl
     ·try dsimp only
      omega
  ·try simp only [nrm] at c2
   have hie : i = N - 1 := by first | omega | (simp at c2; omega)
   subst hie
   have hlo := some_left (n := N) (out := out) (by omega)
   have hsl : ∀ id, slicePV Try.prog 86 (.ptr id 0) none (some (I N)) none = some (.msl id 0 N) := fun id => sl86 (by omega) (by omega)
   refine W_exit ?_
   simp only [go_sem, hrl, hsl]
   refine kq7 _ _ ?_
   refine W_seq fun kz34 kq34 => ?_
   refine W_region [4, 5, 6] fun R hR => ?_
   simp only [go_sem, hrl, hsl]
   refine GCall_of (gIndex_pc Y (σ.ext [some (goneC out)] [N - 1]) out σ.store.length N (by omega) (Sg.get_ext0 ..)) ?_
   simp only [go_sem, hrl, hsl]
   refine hR _ _ (kq34 _ _ ?_); clear hR R; try clear kq34 kz34
   try simp only [go_sem, hrl, hsl]
   refine W_ret ?_
   simp only [go_sem, hrl, hsl]
   refine ⟨.inr (by trivial), ?_⟩
   first | (rw [hall]; refine Fin_same hcl rfl (Wk.ro (by simp only [go_sem]) ?_)) | refine Fin_same hcl rfl (Wk.ro (by simp only [go_sem]) ?_) | refine Fin_self hcl rfl (Wk.ro (by simp only [go_sem]) ?_)
   try simp only [go_sem]
   all_goals
    first | done | rfl | (simp only [go_sem]; done) | (rw [idxF_eq (n := N) (out := out) N 0 (by omega) (by obtain ⟨s, h1, h2⟩ := hlo; exact ⟨s, Nat.zero_le _, h1, h2⟩), hout]; first | done | rfl)
def rowG (f : Nat → Int) (N : Nat) : List Int := (List.range N).map f
theorem rowG_len (f : Nat → Int) (N : Nat) : (rowG f N).length = N := by simp [rowG]
theorem rowG_get {f : Nat → Int} {N s : Nat} (h : s < N) : (rowG f N)[s]? = some (f s) := by simp [rowG, h]
theorem rowG_congr {f g : Nat → Int} {N : Nat} (h : ∀ x, x < N → f x = g x) : rowG f N = rowG g N := by
 unfold rowG
 exact List.map_congr_left fun x hx => h x (List.mem_range.1 hx)
theorem rowG_set {f : Nat → Int} {N s : Nat} {v : Int} : (rowG f N).set s v = rowG (fun x => if x = s then v else f x) N := by
 apply List.ext_getElem?
 intro i
 by_cases hi : i < N
 ·rw [rowG_get hi]
  by_cases e : s = i
  ·subst e; rw [List.getElem?_set_self (by rw [rowG_len]; exact hi)]; simp
  ·rw [List.getElem?_set_ne e, rowG_get hi, if_neg (fun h => e h.symm)]
 ·rw [List.getElem?_eq_none (by simp [rowG_len]; omega), List.getElem?_eq_none (by simp [rowG_len]; omega)]
theorem rowG_zero (N : Nat) : rowG (fun _ => 0) N = List.replicate N 0 := by unfold rowG; rw [List.map_const', List.length_range]
theorem key_iff {x b : Ballot} : keyOf x = keyOf b ↔ x.kind = b.kind ∧ x.voter = b.voter ∧ (x.kind = 2 ∨ x.song = b.song) := by
 unfold keyOf
 rw [Prod.mk.injEq, Prod.mk.injEq]
 constructor
 ·rintro ⟨h1, h2, h3⟩
  refine ⟨h1, h2, ?_⟩
  by_cases h : x.kind = 2
  ·exact .inl h
  ·rw [if_neg h, if_neg (by omega)] at h3
   exact .inr h3
 ·rintro ⟨h1, h2, h3⟩
  refine ⟨h1, h2, ?_⟩
  by_cases h : x.kind = 2
  ·rw [if_pos h, if_pos (by omega)]
  ·rw [if_neg h, if_neg (by omega)]
   rcases h3 with h3 | h3
   ·exact absurd h3 h
   ·exact h3
theorem sum_filter {q : Ballot → Bool} {f : Ballot → Int} : ∀ l : List Ballot, ((l.filter q).map f).sum = (l.map fun b => if q b then f b else 0).sum := by
 intro l
 induction l with
 | nil => rfl
 | cons b l ih =>
  simp only [List.filter_cons, List.map_cons, List.sum_cons]
  by_cases h : q b = true
  ·rw [if_pos h, if_pos h, List.map_cons, List.sum_cons, ih]
  ·rw [if_neg h, if_neg h, ih]; omega
def gpB (l : List Ballot) (rd : Int) (ss : List Int) (s : Nat) (b : Ballot) : Int := if cntB l rd ss b then cpB s b else 0
def gvB (l : List Ballot) (rd : Int) (ss : List Int) (s : Nat) (b : Ballot) : Int := if cntB l rd ss b then cvB s b else 0
theorem pts_sum {r : Rnd} {rd : Int} {ss : List Int} {l : List Ballot} (hn : (l.map (·.serial)).Nodup) (s : Nat) : (countT r rd ss l).pts s = (l.map (gpB l rd ss s)).sum := by
 show sumB (cpB s) l _ _ = _
 rw [sumB_cnt hn, sum_filter]
 rfl
theorem vts_sum {r : Rnd} {rd : Int} {ss : List Int} {l : List Ballot} (hn : (l.map (·.serial)).Nodup) (s : Nat) : (countT r rd ss l).vts s = (l.map (gvB l rd ss s)).sum := by
 show sumB (cvB s) l _ _ = _
 rw [sumB_cnt hn, sum_filter]
 rfl
theorem rdsT_next {l : List Ballot} : ∀ {rs : List Rnd} {i : Nat} {ss : List Int} {k : Nat} {t t' : Tally}, (rdsT l rs i ss)[k]? = some t' → (rdsT l rs i ss)[k + 1]? = some t → t.songs = (resT t').kept := by
 intro rs
 induction rs with
 | nil => intro i ss k t t' h; simp [rdsT] at h
 | cons r rs ih =>
  intro i ss k t t' h h2
  cases k with
  | zero =>
   simp only [rdsT, List.getElem?_cons_zero, Option.some.injEq, List.getElem?_cons_succ] at h h2
   subst h
   cases rs with
   | nil => simp [rdsT] at h2
   | cons r' rs =>
    simp only [rdsT, List.getElem?_cons_zero, Option.some.injEq] at h2
    subst h2
    rfl
  | succ k =>
   simp only [rdsT, List.getElem?_cons_succ] at h h2
   exact ih h h2
theorem rdsT_first {c : Contest} {l : List Ballot} {t : Tally} (h : (roundsT c l)[0]? = some t) : t.songs = toI c.songs := by
 unfold roundsT at h
 cases hr : c.rounds with
 | nil => rw [hr] at h; simp [rdsT] at h
 | cons r rs =>
  rw [hr] at h
  simp only [rdsT, List.getElem?_cons_zero, Option.some.injEq] at h
  subst h
  rfl
section
variable {L : List Ballot} {rd : Int} {ss : List Int} {i : Nat} {b : Ballot}
theorem cnt_first (hn : (L.map (·.serial)).Nodup) (ha : AscB L) (hb : L[i]? = some b) : cntB L rd ss b = (isIn rd ss b && !((L.take i).any fun x => decide (keyOf x = keyOf b) && isIn rd ss x)) := by
 obtain ⟨hi, hbe⟩ := List.getElem?_eq_some_iff.1 hb
 unfold cntB
 congr 1
 rw [Bool.eq_iff_iff]
 simp only [List.all_eq_true, Bool.not_eq_true', List.any_eq_false, Bool.and_eq_false_iff, decide_eq_false_iff_not, Bool.and_eq_true, decide_eq_true_eq, not_and, Bool.not_eq_true]
 constructor
 ·intro h x hx hk
  obtain ⟨p, hp, hg⟩ := mem_take_iff.1 hx
  obtain ⟨hp2, hpe⟩ := List.getElem?_eq_some_iff.1 hg
  have hle := List.pairwise_iff_getElem.1 ha p i (by simpa using hp2) (by simpa using hi) hp
  simp only [List.getElem_map, hpe, hbe] at hle
  have hne : x.serial ≠ b.serial := fun e => by
   have := (List.getElem_inj hn (h₀ := by simpa using hp2) (h₁ := by simpa using hi)).1 (by simp [hpe, hbe, e])
   omega
  rcases h x (List.mem_of_getElem? hg) with (h | h) | h
  ·exact absurd hk h
  ·exact h
  ·omega
 ·intro h x hx
  obtain ⟨p, hg⟩ := List.mem_iff_getElem?.1 hx
  obtain ⟨hp2, hpe⟩ := List.getElem?_eq_some_iff.1 hg
  by_cases hpi : p < i
  ·by_cases hk : keyOf x = keyOf b
   ·exact .inl (.inr (h x (mem_take_iff.2 ⟨p, hpi, hg⟩) hk))
   ·exact .inl (.inl hk)
  ·refine .inr ?_
   by_cases e : p = i
   ·subst e; rw [hg] at hb; injection hb with hb; subst hb; omega
   ·have hle := List.pairwise_iff_getElem.1 ha i p (by simpa using hi) (by simpa using hp2) (by omega)
    simp only [List.getElem_map, hpe, hbe] at hle
    omega
def votF (L : List Ballot) (rd : Int) (ss : List Int) (i v : Nat) : Bool := (L.take i).any fun x => isIn rd ss x && decide (x.kind = 2) && decide (x.voter = (v : Int))
def givF (L : List Ballot) (rd : Int) (ss : List Int) (N i p : Nat) : Bool := (L.take i).any fun x => isIn rd ss x && decide (x.kind = 1) && decide (x.voter * N + x.song = (p : Int))
theorem mix_inj {N a b x y : Int} (h1 : 0 ≤ x ∧ x < N) (h2 : 0 ≤ y ∧ y < N) : a * N + x = b * N + y ↔ a = b ∧ x = y := by
 constructor
 ·intro h
  have hab : a = b := by
   rcases Int.lt_trichotomy a b with q | q | q
   ·have := Int.mul_le_mul_of_nonneg_right (show a + 1 ≤ b by omega) (show 0 ≤ N by omega)
    rw [Int.add_mul] at this
    omega
   ·exact q
   ·have := Int.mul_le_mul_of_nonneg_right (show b + 1 ≤ a by omega) (show 0 ≤ N by omega)
    rw [Int.add_mul] at this
    omega
  subst hab
  exact ⟨rfl, by omega⟩
 ·rintro ⟨rfl, rfl⟩; rfl
theorem cnt_mem (hn : (L.map (·.serial)).Nodup) (ha : AscB L) (hb : L[i]? = some b) (hi : isIn rd ss b = true) (hk : b.kind = 2) {v : Nat} (hv : b.voter = v) : cntB L rd ss b = !(votF L rd ss i v) := by
 rw [cnt_first hn ha hb, hi, Bool.true_and]
 congr 1
 unfold votF
 congr 1
 funext x
 rw [Bool.eq_iff_iff]
 simp only [Bool.and_eq_true, decide_eq_true_eq, key_iff, hk, hv]
 constructor
 ·rintro ⟨⟨h1, h2, _⟩, h3⟩; exact ⟨⟨h3, h1⟩, h2⟩
 ·rintro ⟨⟨h3, h1⟩, h2⟩; exact ⟨⟨h1, h2, .inl h1⟩, h3⟩
theorem cnt_jur (hn : (L.map (·.serial)).Nodup) (ha : AscB L) (hb : L[i]? = some b) (hi : isIn rd ss b = true) (hk : b.kind = 1) {N p : Nat} (hs : ∀ x, x ∈ L → 0 ≤ x.song ∧ x.song < N) (hp : b.voter * N + b.song = p) : cntB L rd ss b = !(givF L rd ss N i p) := by
 rw [cnt_first hn ha hb, hi, Bool.true_and]
 congr 1
 unfold givF
 rw [Bool.eq_iff_iff, List.any_eq_true, List.any_eq_true]
 have hb2 := hs b (List.mem_of_getElem? hb)
 constructor
 ·rintro ⟨x, hx, h⟩
  simp only [Bool.and_eq_true, decide_eq_true_eq, key_iff] at h
  obtain ⟨⟨h1, h2, h4⟩, h3⟩ := h
  refine ⟨x, hx, ?_⟩
  simp only [Bool.and_eq_true, decide_eq_true_eq]
  refine ⟨⟨h3, h1.trans hk⟩, ?_⟩
  rw [← hp, h2]
  rcases h4 with h4 | h4
  ·omega
  ·rw [h4]
 ·rintro ⟨x, hx, h⟩
  simp only [Bool.and_eq_true, decide_eq_true_eq] at h
  obtain ⟨⟨h3, h1⟩, h2⟩ := h
  rw [← hp] at h2
  have := (mix_inj (hs x (List.mem_of_mem_take hx)) hb2).1 h2
  refine ⟨x, hx, ?_⟩
  simp only [Bool.and_eq_true, decide_eq_true_eq, key_iff]
  exact ⟨⟨h1.trans hk.symm, this.1, .inr this.2⟩, h3⟩
theorem votF_step (hb : L[i]? = some b) (v : Nat) : votF L rd ss (i + 1) v = (votF L rd ss i v || (isIn rd ss b && decide (b.kind = 2) && decide (b.voter = (v : Int)))) := by
 unfold votF
 rw [List.take_add_one, hb, List.any_append]
 simp
theorem givF_step (hb : L[i]? = some b) (N p : Nat) : givF L rd ss N (i + 1) p = (givF L rd ss N i p || (isIn rd ss b && decide (b.kind = 1) && decide (b.voter * N + b.song = (p : Int)))) := by
 unfold givF
 rw [List.take_add_one, hb, List.any_append]
 simp
def pS (L : List Ballot) (rd : Int) (ss : List Int) (i s : Nat) : Int := ((L.take i).map (gpB L rd ss s)).sum
def vS (L : List Ballot) (rd : Int) (ss : List Int) (i s : Nat) : Int := ((L.take i).map (gvB L rd ss s)).sum
theorem pS_step (hb : L[i]? = some b) (s : Nat) : pS L rd ss (i + 1) s = pS L rd ss i s + gpB L rd ss s b := by
 unfold pS
 rw [List.take_add_one, hb, List.map_append, List.sum_append]
 simp
theorem vS_step (hb : L[i]? = some b) (s : Nat) : vS L rd ss (i + 1) s = vS L rd ss i s + gvB L rd ss s b := by
 unfold vS
 rw [List.take_add_one, hb, List.map_append, List.sum_append]
 simp
theorem pS_bd (hp : ∀ x, x ∈ L → 0 ≤ x.points ∧ x.points ≤ 100) (h : i ≤ L.length) (s : Nat) : 0 ≤ pS L rd ss i s ∧ pS L rd ss i s ≤ 100 * i := by
 induction i with
 | zero => simp [pS]
 | succ i ih =>
  obtain ⟨b, hb⟩ : ∃ z, L[i]? = some z := ⟨L[i]'(by omega), by simp⟩
  have h1 := ih (by omega)
  have h2 := hp b (List.mem_of_getElem? hb)
  rw [pS_step hb]
  have : 0 ≤ gpB L rd ss s b ∧ gpB L rd ss s b ≤ 100 := by
   unfold gpB cpB
   split
   ·split <;> omega
   ·omega
  omega
theorem vS_bd (h : i ≤ L.length) (s : Nat) : 0 ≤ vS L rd ss i s ∧ vS L rd ss i s ≤ i := by
 induction i with
 | zero => simp [vS]
 | succ i ih =>
  obtain ⟨b, hb⟩ : ∃ z, L[i]? = some z := ⟨L[i]'(by omega), by simp⟩
  have h1 := ih (by omega)
  rw [vS_step hb]
  have : 0 ≤ gvB L rd ss s b ∧ gvB L rd ss s b ≤ 1 := by
   unfold gvB cvB
   split
   ·split <;> omega
   ·omega
  omega
structure Idle (L : List Ballot) (rd : Int) (ss : List Int) (i M J N : Nat) : Prop where
 p : rowG (pS L rd ss i) N = rowG (pS L rd ss (i + 1)) N
 v : rowG (vS L rd ss i) N = rowG (vS L rd ss (i + 1)) N
 m : rowF (votF L rd ss i) M = rowF (votF L rd ss (i + 1)) M
 g : rowF (givF L rd ss N i) J = rowF (givF L rd ss N (i + 1)) J
theorem idle_cnt (hb : L[i]? = some b) (hc : cntB L rd ss b = false) (N : Nat) : rowG (pS L rd ss i) N = rowG (pS L rd ss (i + 1)) N ∧ rowG (vS L rd ss i) N = rowG (vS L rd ss (i + 1)) N :=
 ⟨rowG_congr fun s _ => by rw [pS_step hb]; unfold gpB; rw [if_neg (by simp [hc]), Int.add_zero], rowG_congr fun s _ => by rw [vS_step hb]; unfold gvB; rw [if_neg (by simp [hc]), Int.add_zero]⟩
theorem idle_out (hb : L[i]? = some b) (hi : isIn rd ss b = false) (M J N : Nat) : Idle L rd ss i M J N := by
 have hc : cntB L rd ss b = false := by unfold cntB; rw [hi, Bool.false_and]
 obtain ⟨h1, h2⟩ := idle_cnt hb hc N
 exact ⟨h1, h2, rowF_congr fun v _ => by rw [votF_step hb, hi]; simp, rowF_congr fun v _ => by rw [givF_step hb, hi]; simp⟩
theorem idle_mem (hn : (L.map (·.serial)).Nodup) (ha : AscB L) (hb : L[i]? = some b) (hi : isIn rd ss b = true) (hk : b.kind = 2) {v : Nat} (hv : b.voter = v) (hw : votF L rd ss i v = true) (M J N : Nat) : Idle L rd ss i M J N := by
 have hc : cntB L rd ss b = false := by rw [cnt_mem hn ha hb hi hk hv, hw]; rfl
 obtain ⟨h1, h2⟩ := idle_cnt hb hc N
 refine ⟨h1, h2, rowF_congr fun w _ => ?_, rowF_congr fun w _ => by rw [givF_step hb, hk]; simp⟩
 rw [votF_step hb, hv]
 by_cases e : w = v
 ·subst e; rw [hw]; simp
 ·have : ¬ (v : Int) = (w : Int) := by omega
  simp [this]
theorem idle_jur (hn : (L.map (·.serial)).Nodup) (ha : AscB L) (hb : L[i]? = some b) (hi : isIn rd ss b = true) (hk : b.kind = 1) {N p : Nat} (hs : ∀ x, x ∈ L → 0 ≤ x.song ∧ x.song < N) (hp : b.voter * N + b.song = p) (hw : givF L rd ss N i p = true) (M J : Nat) : Idle L rd ss i M J N := by
 have hc : cntB L rd ss b = false := by rw [cnt_jur hn ha hb hi hk hs hp, hw]; rfl
 obtain ⟨h1, h2⟩ := idle_cnt hb hc N
 refine ⟨h1, h2, rowF_congr fun w _ => by rw [votF_step hb, hk]; simp, rowF_congr fun w _ => ?_⟩
 rw [givF_step hb, hp]
 by_cases e : w = p
 ·subst e; rw [hw]; simp
 ·have : ¬ (p : Int) = (w : Int) := by omega
  simp [this]
theorem vote_mem (hn : (L.map (·.serial)).Nodup) (ha : AscB L) (hb : L[i]? = some b) (hi : isIn rd ss b = true) (hk : b.kind = 2) {v s : Nat} (hv : b.voter = v) (hsn : b.song = s) (hw : votF L rd ss i v = false) (M J N : Nat) :
  rowG (pS L rd ss i) N = rowG (pS L rd ss (i + 1)) N ∧ (rowG (vS L rd ss i) N).set s (vS L rd ss i s + 1) = rowG (vS L rd ss (i + 1)) N ∧ (rowF (votF L rd ss i) M).set v true = rowF (votF L rd ss (i + 1)) M ∧ rowF (givF L rd ss N i) J = rowF (givF L rd ss N (i + 1)) J := by
 have hc : cntB L rd ss b = true := by rw [cnt_mem hn ha hb hi hk hv, hw]; rfl
 refine ⟨rowG_congr fun x _ => ?_, ?_, ?_, rowF_congr fun w _ => by rw [givF_step hb, hk]; simp⟩
 ·rw [pS_step hb]
  unfold gpB cpB
  rw [if_pos hc, if_neg (by omega), Int.add_zero]
 ·rw [rowG_set]
  refine rowG_congr fun x _ => ?_
  rw [vS_step hb]
  unfold gvB cvB
  rw [if_pos hc]
  by_cases e : x = s
  ·subst e; rw [if_pos rfl, if_pos ⟨hk, hsn⟩]
  ·rw [if_neg e, if_neg (by omega), Int.add_zero]
 ·rw [rowF_set]
  refine rowF_congr fun w _ => ?_
  rw [votF_step hb, hi, hk, hv]
  by_cases e : w = v
  ·subst e; simp
  ·have : ¬ (v : Int) = (w : Int) := by omega
   simp [e, this]
theorem vote_jur (hn : (L.map (·.serial)).Nodup) (ha : AscB L) (hb : L[i]? = some b) (hi : isIn rd ss b = true) (hk : b.kind = 1) {N p s : Nat} (hs : ∀ x, x ∈ L → 0 ≤ x.song ∧ x.song < N) (hp : b.voter * N + b.song = p) (hsn : b.song = s) (hw : givF L rd ss N i p = false) (M J : Nat) :
  (rowG (pS L rd ss i) N).set s (pS L rd ss i s + b.points) = rowG (pS L rd ss (i + 1)) N ∧ rowG (vS L rd ss i) N = rowG (vS L rd ss (i + 1)) N ∧ rowF (votF L rd ss i) M = rowF (votF L rd ss (i + 1)) M ∧ (rowF (givF L rd ss N i) J).set p true = rowF (givF L rd ss N (i + 1)) J := by
 have hc : cntB L rd ss b = true := by rw [cnt_jur hn ha hb hi hk hs hp, hw]; rfl
 refine ⟨?_, rowG_congr fun x _ => ?_, rowF_congr fun w _ => by rw [votF_step hb, hk]; simp, ?_⟩
 ·rw [rowG_set]
  refine rowG_congr fun x _ => ?_
  rw [pS_step hb]
  unfold gpB cpB
  rw [if_pos hc]
  by_cases e : x = s
  ·subst e; rw [if_pos rfl, if_pos ⟨by omega, hsn⟩]
  ·rw [if_neg e, if_neg (by omega), Int.add_zero]
 ·rw [vS_step hb]
  unfold gvB cvB
  rw [if_pos hc, if_neg (by omega), Int.add_zero]
 ·rw [rowF_set]
  refine rowF_congr fun w _ => ?_
  rw [givF_step hb, hi, hk, hp]
  by_cases e : w = p
  ·subst e; simp
  ·have : ¬ (p : Int) = (w : Int) := by omega
   simp [e, this]
end
def cntTo (ss : List Int) (s : Nat) : Nat := ((toN s).filter fun x => has ss x).length
theorem cntTo_succ {ss : List Int} {s : Nat} : cntTo ss (s + 1) = cntTo ss s + (if has ss s = true then 1 else 0) := by
 unfold cntTo
 rw [toN_succ, List.filter_append, List.length_append]
 by_cases h : has ss s = true
 ·simp [h]
 ·simp [h]
theorem up_filter {ss : List Int} {N : Nat} (hu : Up ss) (hb : ∀ x, x ∈ ss → 0 ≤ x ∧ x < N) : (toN N).filter (fun x => has ss x) = ss := by
 refine asc_perm ((List.perm_ext_iff_of_nodup ((toN_up N).nodup.sublist List.filter_sublist) hu.nodup).2 fun x => ?_) ?_ ?_
 ·rw [List.mem_filter, has_iff, mem_toN]
  exact ⟨fun h => h.2, fun h => ⟨hb x h, h⟩⟩
 ·exact ((toN_up N).sublist List.filter_sublist).imp fun h => by omega
 ·exact hu.imp fun h => by omega
theorem cntTo_at {ss : List Int} {N s : Nat} (hu : Up ss) (hb : ∀ x, x ∈ ss → 0 ≤ x ∧ x < N) (hs : s < N) (h : has ss s = true) : ss[cntTo ss s]? = some (s : Int) := by
 have hf := up_filter hu hb
 obtain ⟨d, rfl⟩ : ∃ d, N = s + 1 + d := ⟨N - (s + 1), by omega⟩
 have e : ∃ R, toN (s + 1 + d) = toN s ++ (s : Int) :: R := by
  clear hf hb hs
  induction d with
  | zero => exact ⟨[], by rw [Nat.add_zero, toN_succ]⟩
  | succ d ih =>
   obtain ⟨R, hR⟩ := ih
   exact ⟨R ++ [((s + 1 + d : Nat) : Int)], by rw [← Nat.add_assoc, toN_succ, hR]; simp⟩
 obtain ⟨R, hR⟩ := e
 rw [hR, List.filter_append, List.filter_cons, if_pos h] at hf
 rw [← hf, List.getElem?_append_right (by unfold cntTo; rw [hf]; exact Nat.le_refl _)]
 unfold cntTo
 rw [hf]
 simp
theorem cntTo_all {ss : List Int} {N : Nat} (hu : Up ss) (hb : ∀ x, x ∈ ss → 0 ≤ x ∧ x < N) : cntTo ss N = ss.length := by
 unfold cntTo
 rw [up_filter hu hb]
def inS (c : Contest) (l : List Ballot) : Nat → List Int
 | 0 => toI c.songs
 | k + 1 => match (roundsT c l)[k]? with
  | some t => (resT t).kept
  | none => []
theorem inS_at {c : Contest} {l : List Ballot} {k : Nat} {t : Tally} (h : (roundsT c l)[k]? = some t) : t.songs = inS c l k := by
 cases k with
 | zero => exact rdsT_first h
 | succ k =>
  obtain ⟨t', h'⟩ : ∃ z, (roundsT c l)[k]? = some z := ⟨(roundsT c l)[k]'(by have := (List.getElem?_eq_some_iff.1 h).1; omega), by simp⟩
  simp only [inS, h']
  exact rdsT_next h' h
theorem inS_succ {c : Contest} {l : List Ballot} {k : Nat} {t : Tally} (h : (roundsT c l)[k]? = some t) : inS c l (k + 1) = (resT t).kept := by simp only [inS, h]
set_option maxHeartbeats 8000000 in
theorem ContestOf_pc (Y : YEnv) (σ : Sg) (d : Nat) (b : Int) (hd : σ.store[d]? = some (some [.int .u64 b])) (songs juries members : Int) (h1 : 1 ≤ songs ∧ songs ≤ 1000) (h2 : 0 ≤ juries ∧ juries ≤ 1000) (h3 : 0 ≤ members ∧ members ≤ 1000) :
  PC Try.prog Y 11 [.ptr d 0, I songs, I juries, I members] σ (cnPV (contestD songs juries members b).1) (σ.setVar d [.int .u64 (contestD songs juries members b).2]) := by
 refine PC_of_W Try.func11 rfl (by kernel_rfl) Try.ntmps11 (by simp) fun hcl hca => ?_
 have hlt := lt_of_get hd
 obtain ⟨s, hs⟩ : ∃ zz, (mid 1 songs b).1 = zz := ⟨_, rfl⟩
 obtain ⟨b1, hb1⟩ : ∃ zz, (mid 1 songs b).2 = zz := ⟨_, rfl⟩
 have ds := mid_bd 1 songs h1.1 b
 simp only [hs] at ds
 obtain ⟨j, hj⟩ : ∃ zz, (roll (juries + 1) b1).1 = zz := ⟨_, rfl⟩
 obtain ⟨b2, hb2⟩ : ∃ zz, (roll (juries + 1) b1).2 = zz := ⟨_, rfl⟩
 have dj := roll_bd (juries + 1) b1
 simp only [hj] at dj
 obtain ⟨m, hm⟩ : ∃ zz, (roll (members + 1) b2).1 = zz := ⟨_, rfl⟩
 obtain ⟨b3, hb3⟩ : ∃ zz, (roll (members + 1) b2).2 = zz := ⟨_, rfl⟩
 have dm := roll_bd (members + 1) b2
 simp only [hm] at dm
 obtain ⟨mo, hmo⟩ : ∃ zz, (anyOf [0, 2, 10] b3).1 = zz := ⟨_, rfl⟩
 obtain ⟨b4, hb4⟩ : ∃ zz, (anyOf [0, 2, 10] b3).2 = zz := ⟨_, rfl⟩
 have dmo := anyOf_mem [0, 2, 10] (by simp) b3
 simp only [hmo] at dmo
 obtain ⟨kz, hkz⟩ : ∃ zz, (mid 1 3 b4).1 = zz := ⟨_, rfl⟩
 obtain ⟨b5, hb5⟩ : ∃ zz, (mid 1 3 b4).2 = zz := ⟨_, rfl⟩
 have dkz := mid_bd 1 3 (by omega) b4
 simp only [hkz] at dkz
 obtain ⟨kn, hkn⟩ : ∃ z : Nat, kz = z := ⟨kz.toNat, by omega⟩
 subst hkn
 obtain ⟨rs, hrs⟩ : ∃ z, roundsC kn s [] b5 = z := ⟨_, rfl⟩
 have hdef : contestD songs juries members b = (⟨s, j, m, mo, rs.1⟩, rs.2) := by simp only [contestD, dbind, dret, hs, hb1, hj, hb2, hm, hb3, hmo, hb4, hkz, hb5, Int.toNat_natCast, hrs]
 rw [hdef]
 refine W_seq fun kz1 kq1 => ?_
 refine W_region [0, 1, 2, 3, 8] fun R hR => ?_
 simp only [go_sem, ldS_at hd, stX_at hd, ldS_sv hlt, stX_sv hlt, sv_ext hlt, sv_ext_sv hlt, hs, hb1, hj, hb2, hm, hb3, hmo, hb4, hkz, hb5]
 refine hR _ _ (kq1 _ _ ?_); clear hR R; try clear kq1 kz1
 try simp only [go_sem, ldS_at hd, stX_at hd, ldS_sv hlt, stX_sv hlt, sv_ext hlt, sv_ext_sv hlt, hs, hb1, hj, hb2, hm, hb3, hmo, hb4, hkz, hb5]
 refine W_seq fun kz2 kq2 => ?_
 refine W_region [0, 8, 9] fun R hR => ?_
 simp only [go_sem, ldS_at hd, stX_at hd, ldS_sv hlt, stX_sv hlt, sv_ext hlt, sv_ext_sv hlt, hs, hb1, hj, hb2, hm, hb3, hmo, hb4, hkz, hb5]
 refine GCall_of (Mid_pc Y _ d b (by first | exact hd | exact sv_get hlt | exact get_svx hlt | exact get_extx hd) 1 songs (by omega) (by omega) (by omega) (by omega)) ?_
 simp only [go_sem, ldS_at hd, stX_at hd, ldS_sv hlt, stX_sv hlt, sv_ext hlt, sv_ext_sv hlt, hs, hb1, hj, hb2, hm, hb3, hmo, hb4, hkz, hb5]
 try simp (disch := omega) only [wrapI]
 try simp (disch := omega) only [wrapI, wrapU]
 refine GCall_of (Roll_pc Y _ d b1 (by first | exact hd | exact sv_get hlt | exact get_svx hlt | exact get_extx hd) (juries + 1) (by omega)) ?_
 simp only [go_sem, ldS_at hd, stX_at hd, ldS_sv hlt, stX_sv hlt, sv_ext hlt, sv_ext_sv hlt, hs, hb1, hj, hb2, hm, hb3, hmo, hb4, hkz, hb5]
 try simp (disch := omega) only [wrapI]
 try simp (disch := omega) only [wrapI, wrapU]
 refine GCall_of (Roll_pc Y _ d b2 (by first | exact hd | exact sv_get hlt | exact get_svx hlt | exact get_extx hd) (members + 1) (by omega)) ?_
 simp only [go_sem, ldS_at hd, stX_at hd, ldS_sv hlt, stX_sv hlt, sv_ext hlt, sv_ext_sv hlt, hs, hb1, hj, hb2, hm, hb3, hmo, hb4, hkz, hb5]
 try simp (disch := omega) only [wrapI, wrapU]
 refine GCall_of (Any_pc Y _ d b3 (by first | exact hd | exact sv_get hlt | exact get_svx hlt | exact get_extx hd) [0, 2, 10] (by simp) (by simp)) ?_
 simp only [go_sem, ldS_at hd, stX_at hd, ldS_sv hlt, stX_sv hlt, sv_ext hlt, sv_ext_sv hlt, hs, hb1, hj, hb2, hm, hb3, hmo, hb4, hkz, hb5]
 try simp (disch := omega) only [wrapI, wrapU]
 refine hR _ _ (kq2 _ _ ?_); clear hR R; try clear kq2 kz2
 try simp only [go_sem, ldS_at hd, stX_at hd, ldS_sv hlt, stX_sv hlt, sv_ext hlt, sv_ext_sv hlt, hs, hb1, hj, hb2, hm, hb3, hmo, hb4, hkz, hb5]
 refine W_seq fun kz3 kq3 => ?_
 refine W_region [0, 8, 9, 10] fun R hR => ?_
 simp only [go_sem, ldS_at hd, stX_at hd, ldS_sv hlt, stX_sv hlt, sv_ext hlt, sv_ext_sv hlt, hs, hb1, hj, hb2, hm, hb3, hmo, hb4, hkz, hb5]
 refine hR _ _ (kq3 _ _ ?_); clear hR R; try clear kq3 kz3
 try simp only [go_sem, ldS_at hd, stX_at hd, ldS_sv hlt, stX_sv hlt, sv_ext hlt, sv_ext_sv hlt, hs, hb1, hj, hb2, hm, hb3, hmo, hb4, hkz, hb5]
 refine W_seq fun kz4 kq4 => ?_
 refine W_seq fun kz5 kq5 => ?_
 refine W_region [0, 8, 9, 10, 11] fun R hR => ?_
 simp only [go_sem, ldS_at hd, stX_at hd, ldS_sv hlt, stX_sv hlt, sv_ext hlt, sv_ext_sv hlt, hs, hb1, hj, hb2, hm, hb3, hmo, hb4, hkz, hb5]
 refine GCall_of (Mid_pc Y _ d b4 (by first | exact hd | exact sv_get hlt | exact get_svx hlt | exact get_extx hd) 1 3 (by omega) (by omega) (by omega) (by omega)) ?_
 simp only [go_sem, ldS_at hd, stX_at hd, ldS_sv hlt, stX_sv hlt, sv_ext hlt, sv_ext_sv hlt, hs, hb1, hj, hb2, hm, hb3, hmo, hb4, hkz, hb5]
 refine hR _ _ (kq5 _ _ ?_); clear hR R; try clear kq5 kz5
 try simp only [go_sem, ldS_at hd, stX_at hd, ldS_sv hlt, stX_sv hlt, sv_ext hlt, sv_ext_sv hlt, hs, hb1, hj, hb2, hm, hb3, hmo, hb4, hkz, hb5]
 refine W_block ?_
 refine W_weak (Weak.roomSV (j := 1) (off := 4) (es := 3) rfl rfl (by simp)) ?_
 simp only [go_sem, ldS_at hd, stX_at hd, ldS_sv hlt, stX_sv hlt, sv_ext hlt, sv_ext_sv hlt, hs, hb1, hj, hb2, hm, hb3, hmo, hb4, hkz, hb5]
 refine W_loopT (α := Nat × Int × (List Rnd) × Int) (fun ⟨k, kp, acc, bb⟩ => [(10, I kp), (11, I k)]) (fun ⟨k, kp, acc, bb⟩ => (σ.setVar d [.int .u64 bb]).ext [some [I 0, I 0, I 0, I 0, .isl [] .exact], some [I s, I j, I m, I mo, .isl (acc.map rdPV) (.tok σ.rooms.length acc.length 3)]] [acc.length]) (fun ⟨k, kp, acc, bb⟩ => (1 ≤ kp ∧ kp ≤ 1000) ∧ acc.length + k = kn ∧ roundsC k kp acc bb = rs) (fun ⟨k, kp, acc, bb⟩ => k) ((kn, s, [], b5)) rfl (by first | rfl | (simp only [go_sem]; done) | (simp only [go_sem]; rfl)) (⟨by omega, by simp, hrs⟩) ?_
 rintro ⟨k, kp, acc, bb⟩ ⟨hkp, hal, hinv⟩
 refine W_seq fun kz6 kq6 => ?_
 refine W_seq fun kz7 kq7 => ?_
 refine W_region [0, 8, 9, 10, 11, 32] fun R hR => ?_
 simp only [go_sem, ldS_at hd, stX_at hd, ldS_sv hlt, stX_sv hlt, sv_ext hlt, sv_ext_sv hlt, hs, hb1, hj, hb2, hm, hb3, hmo, hb4, hkz, hb5]
 refine hR _ _ (kq7 _ _ ?_); clear hR R; try clear kq7 kz7
 try simp only [go_sem, ldS_at hd, stX_at hd, ldS_sv hlt, stX_sv hlt, sv_ext hlt, sv_ext_sv hlt, hs, hb1, hj, hb2, hm, hb3, hmo, hb4, hkz, hb5]
 refine W_cond rfl (fun c1 => ?_) (fun c1 => ?_)
 ·try simp only [nrm] at c1
  obtain ⟨k, rfl⟩ : ∃ z, k = z + 1 := ⟨k - 1, by first | omega | (simp at c1; omega)⟩
  simp only [roundsC] at hinv
  have hk1 : ((k + 1 : Nat) : Int) - 1 = (k : Int) := by omega
  refine W_skip (kq6 _ _ ?_)
  refine W_seq fun kz8 kq8 => ?_
  refine W_block ?_
  refine W_seq fun kz9 kq9 => ?_
  refine W_seq fun kz10 kq10 => ?_
  refine W_region [0, 8, 9, 10, 11, 36] fun R hR => ?_
  simp only [go_sem, ldS_at hd, stX_at hd, ldS_sv hlt, stX_sv hlt, sv_ext hlt, sv_ext_sv hlt, hs, hb1, hj, hb2, hm, hb3, hmo, hb4, hkz, hb5]
  refine hR _ _ (kq10 _ _ ?_); clear hR R; try clear kq10 kz10
  try simp only [go_sem, ldS_at hd, stX_at hd, ldS_sv hlt, stX_sv hlt, sv_ext hlt, sv_ext_sv hlt, hs, hb1, hj, hb2, hm, hb3, hmo, hb4, hkz, hb5]
  refine W_cond rfl (fun c2 => ?_) (fun c2 => ?_)
  ·try simp only [nrm] at c2
   have hk0 : k = 0 := by omega
   subst hk0
   rw [if_pos rfl] at hinv
   obtain ⟨bq, rfl⟩ : ∃ z, z = bb := ⟨bb, rfl⟩
   obtain ⟨ra, hra⟩ : ∃ zz, (roll 4 bq).1 = zz := ⟨_, rfl⟩
   obtain ⟨b8, hb8⟩ : ∃ zz, (roll 4 bq).2 = zz := ⟨_, rfl⟩
   have dra := roll_bd 4 bq
   simp only [hra] at dra
   obtain ⟨rb, hrb⟩ : ∃ zz, (roll 5 b8).1 = zz := ⟨_, rfl⟩
   obtain ⟨b9, hb9⟩ : ∃ zz, (roll 5 b8).2 = zz := ⟨_, rfl⟩
   have drb := roll_bd 5 b8
   simp only [hrb] at drb
   simp only [dbind, hra, hb8, hrb, hb9] at hinv
   refine W_region [0, 8, 9, 10, 11] fun R hR => ?_
   simp only [go_sem, ldS_at hd, stX_at hd, ldS_sv hlt, stX_sv hlt, sv_ext hlt, sv_ext_sv hlt, hs, hb1, hj, hb2, hm, hb3, hmo, hb4, hkz, hb5, hra, hb8, hrb, hb9]
   refine hR _ _ (kq9 _ _ ?_); clear hR R; try clear kq9 kz9
   try simp only [go_sem, ldS_at hd, stX_at hd, ldS_sv hlt, stX_sv hlt, sv_ext hlt, sv_ext_sv hlt, hs, hb1, hj, hb2, hm, hb3, hmo, hb4, hkz, hb5, hra, hb8, hrb, hb9]
   refine W_draw [0, 8, 9, 10, 11] [0, 1, 2, 3, 4, 5, 6, 7, 8, 9, 10, 11] [(0, 6), (0, 9), (1, 6), (1, 9), (2, 6), (2, 9), (5, 4)] [[], [0], [], [], [3], [], [3, 4, 5], [2, 3, 4, 5, 6], [2, 3, 4, 5, 6, 7], [0, 1, 2, 3, 4, 5, 6, 7, 8], [0, 1, 2, 3, 4, 5, 6, 7, 8, 9], [0, 1, 2, 3, 4, 5, 6, 7, 8, 9, 10]] mixed (by kernel_rfl) fun R hR => ?_
   simp only [go_sem, ldS_at hd, stX_at hd, ldS_sv hlt, stX_sv hlt, sv_ext hlt, sv_ext_sv hlt, hs, hb1, hj, hb2, hm, hb3, hmo, hb4, hkz, hb5, hra, hb8, hrb, hb9]
   refine GCall_of (Roll_pc Y _ d bq (by first | exact hd | exact sv_get hlt | exact get_svx hlt | exact get_extx hd) 4 (by omega)) ?_
   simp only [go_sem, ldS_at hd, stX_at hd, ldS_sv hlt, stX_sv hlt, sv_ext hlt, sv_ext_sv hlt, hs, hb1, hj, hb2, hm, hb3, hmo, hb4, hkz, hb5, hra, hb8, hrb, hb9]
   refine GCall_of (Roll_pc Y _ d b8 (by first | exact hd | exact sv_get hlt | exact get_svx hlt | exact get_extx hd) 5 (by omega)) ?_
   simp only [go_sem, ldS_at hd, stX_at hd, ldS_sv hlt, stX_sv hlt, sv_ext hlt, sv_ext_sv hlt, hs, hb1, hj, hb2, hm, hb3, hmo, hb4, hkz, hb5, hra, hb8, hrb, hb9]
   try simp (disch := first | omega | (simp only [go_sem] <;> omega)) only [wrapI, wrapU, appX_exact, appX_tok]
   try simp only [go_sem, ldS_at hd, stX_at hd, ldS_sv hlt, stX_sv hlt, sv_ext hlt, sv_ext_sv hlt, hs, hb1, hj, hb2, hm, hb3, hmo, hb4, hkz, hb5, hra, hb8, hrb, hb9]
   try refine And.intro (by repeat' (first | refine And.intro ?_ ?_ | exact GOr_right (fun _ => by simp only [go_sem, ldS_at hd, stX_at hd, ldS_sv hlt, stX_sv hlt, sv_ext hlt, sv_ext_sv hlt, hs, hb1, hj, hb2, hm, hb3, hmo, hb4, hkz, hb5, hra, hb8, hrb, hb9]))) ?_
   refine hR _ _ (kq8 _ _ ?_); clear hR R; try clear kq8 kz8
   try simp only [go_sem, ldS_at hd, stX_at hd, ldS_sv hlt, stX_sv hlt, sv_ext hlt, sv_ext_sv hlt, hs, hb1, hj, hb2, hm, hb3, hmo, hb4, hkz, hb5, hra, hb8, hrb, hb9]
   refine W_region [0, 8, 9, 10, 11] fun R hR => ?_
   simp only [go_sem, ldS_at hd, stX_at hd, ldS_sv hlt, stX_sv hlt, sv_ext hlt, sv_ext_sv hlt, hs, hb1, hj, hb2, hm, hb3, hmo, hb4, hkz, hb5, hra, hb8, hrb, hb9]
   try simp (disch := omega) only [wrapI, wrapU]
   refine hR _ _ ?_; clear hR R
   try simp only [go_sem, ldS_at hd, stX_at hd, ldS_sv hlt, stX_sv hlt, sv_ext hlt, sv_ext_sv hlt, hs, hb1, hj, hb2, hm, hb3, hmo, hb4, hkz, hb5, hra, hb8, hrb, hb9]
   refine ⟨(0, 1, acc ++ [⟨1, ra, rb⟩], b9), ?_, by (try simp only []); omega, ?_⟩
   ·refine Weak.eq ?_ ?_
    ·first | (simp only [hk1, List.map_append, List.map_cons, List.map_nil, List.length_append, List.length_cons, List.length_nil]; first | done | rfl) | (simp only [List.map_append, List.map_cons, List.map_nil, List.length_append, List.length_cons, List.length_nil]; first | done | rfl)
    ·simp only [List.map_append, List.map_cons, List.map_nil, List.length_append, List.length_cons, List.length_nil]; first | done | rfl
   ·try dsimp only
    exact ⟨by omega, by simp; omega, hinv⟩
  ·try simp only [nrm] at c2
   rw [if_neg (by omega)] at hinv
   obtain ⟨kq, hkq⟩ : ∃ zz, (mid 1 kp bb).1 = zz := ⟨_, rfl⟩
   obtain ⟨bq, hbq⟩ : ∃ zz, (mid 1 kp bb).2 = zz := ⟨_, rfl⟩
   have dkq := mid_bd 1 kp hkp.1 bb
   simp only [hkq] at dkq
   obtain ⟨ra, hra⟩ : ∃ zz, (roll 4 bq).1 = zz := ⟨_, rfl⟩
   obtain ⟨b8, hb8⟩ : ∃ zz, (roll 4 bq).2 = zz := ⟨_, rfl⟩
   have dra := roll_bd 4 bq
   simp only [hra] at dra
   obtain ⟨rb, hrb⟩ : ∃ zz, (roll 5 b8).1 = zz := ⟨_, rfl⟩
   obtain ⟨b9, hb9⟩ : ∃ zz, (roll 5 b8).2 = zz := ⟨_, rfl⟩
   have drb := roll_bd 5 b8
   simp only [hrb] at drb
   simp only [dbind, hkq, hbq, hra, hb8, hrb, hb9] at hinv
   refine W_region [0, 8, 9, 10, 11] fun R hR => ?_
   simp only [go_sem, ldS_at hd, stX_at hd, ldS_sv hlt, stX_sv hlt, sv_ext hlt, sv_ext_sv hlt, hs, hb1, hj, hb2, hm, hb3, hmo, hb4, hkz, hb5, hkq, hbq, hra, hb8, hrb, hb9]
   refine GCall_of (Mid_pc Y _ d bb (by first | exact hd | exact sv_get hlt | exact get_svx hlt | exact get_extx hd) 1 kp (by omega) (by omega) (by omega) (by omega)) ?_
   simp only [go_sem, ldS_at hd, stX_at hd, ldS_sv hlt, stX_sv hlt, sv_ext hlt, sv_ext_sv hlt, hs, hb1, hj, hb2, hm, hb3, hmo, hb4, hkz, hb5, hkq, hbq, hra, hb8, hrb, hb9]
   refine hR _ _ (kq9 _ _ ?_); clear hR R; try clear kq9 kz9
   try simp only [go_sem, ldS_at hd, stX_at hd, ldS_sv hlt, stX_sv hlt, sv_ext hlt, sv_ext_sv hlt, hs, hb1, hj, hb2, hm, hb3, hmo, hb4, hkz, hb5, hkq, hbq, hra, hb8, hrb, hb9]
   refine W_draw [0, 8, 9, 10, 11] [0, 1, 2, 3, 4, 5, 6, 7, 8, 9, 10, 11] [(0, 6), (0, 9), (1, 6), (1, 9), (2, 6), (2, 9), (5, 4)] [[], [0], [], [], [3], [], [3, 4, 5], [2, 3, 4, 5, 6], [2, 3, 4, 5, 6, 7], [0, 1, 2, 3, 4, 5, 6, 7, 8], [0, 1, 2, 3, 4, 5, 6, 7, 8, 9], [0, 1, 2, 3, 4, 5, 6, 7, 8, 9, 10]] mixed (by kernel_rfl) fun R hR => ?_
   simp only [go_sem, ldS_at hd, stX_at hd, ldS_sv hlt, stX_sv hlt, sv_ext hlt, sv_ext_sv hlt, hs, hb1, hj, hb2, hm, hb3, hmo, hb4, hkz, hb5, hkq, hbq, hra, hb8, hrb, hb9]
   refine GCall_of (Roll_pc Y _ d bq (by first | exact hd | exact sv_get hlt | exact get_svx hlt | exact get_extx hd) 4 (by omega)) ?_
   simp only [go_sem, ldS_at hd, stX_at hd, ldS_sv hlt, stX_sv hlt, sv_ext hlt, sv_ext_sv hlt, hs, hb1, hj, hb2, hm, hb3, hmo, hb4, hkz, hb5, hkq, hbq, hra, hb8, hrb, hb9]
   refine GCall_of (Roll_pc Y _ d b8 (by first | exact hd | exact sv_get hlt | exact get_svx hlt | exact get_extx hd) 5 (by omega)) ?_
   simp only [go_sem, ldS_at hd, stX_at hd, ldS_sv hlt, stX_sv hlt, sv_ext hlt, sv_ext_sv hlt, hs, hb1, hj, hb2, hm, hb3, hmo, hb4, hkz, hb5, hkq, hbq, hra, hb8, hrb, hb9]
   try simp (disch := first | omega | (simp only [go_sem] <;> omega)) only [wrapI, wrapU, appX_exact, appX_tok]
   try simp only [go_sem, ldS_at hd, stX_at hd, ldS_sv hlt, stX_sv hlt, sv_ext hlt, sv_ext_sv hlt, hs, hb1, hj, hb2, hm, hb3, hmo, hb4, hkz, hb5, hkq, hbq, hra, hb8, hrb, hb9]
   try refine And.intro (by repeat' (first | refine And.intro ?_ ?_ | exact GOr_right (fun _ => by simp only [go_sem, ldS_at hd, stX_at hd, ldS_sv hlt, stX_sv hlt, sv_ext hlt, sv_ext_sv hlt, hs, hb1, hj, hb2, hm, hb3, hmo, hb4, hkz, hb5, hkq, hbq, hra, hb8, hrb, hb9]))) ?_
   refine hR _ _ (kq8 _ _ ?_); clear hR R; try clear kq8 kz8
   try simp only [go_sem, ldS_at hd, stX_at hd, ldS_sv hlt, stX_sv hlt, sv_ext hlt, sv_ext_sv hlt, hs, hb1, hj, hb2, hm, hb3, hmo, hb4, hkz, hb5, hkq, hbq, hra, hb8, hrb, hb9]
   refine W_region [0, 8, 9, 10, 11] fun R hR => ?_
   simp only [go_sem, ldS_at hd, stX_at hd, ldS_sv hlt, stX_sv hlt, sv_ext hlt, sv_ext_sv hlt, hs, hb1, hj, hb2, hm, hb3, hmo, hb4, hkz, hb5, hkq, hbq, hra, hb8, hrb, hb9]
   try simp (disch := omega) only [wrapI, wrapU]
   refine hR _ _ ?_; clear hR R
   try simp only [go_sem, ldS_at hd, stX_at hd, ldS_sv hlt, stX_sv hlt, sv_ext hlt, sv_ext_sv hlt, hs, hb1, hj, hb2, hm, hb3, hmo, hb4, hkz, hb5, hkq, hbq, hra, hb8, hrb, hb9]
   refine ⟨(k, kq, acc ++ [⟨kq, ra, rb⟩], b9), ?_, by (try simp only []); omega, ?_⟩
   ·refine Weak.eq ?_ ?_
    ·first | (simp only [hk1, List.map_append, List.map_cons, List.map_nil, List.length_append, List.length_cons, List.length_nil]; first | done | rfl) | (simp only [List.map_append, List.map_cons, List.map_nil, List.length_append, List.length_cons, List.length_nil]; first | done | rfl)
    ·simp only [List.map_append, List.map_cons, List.map_nil, List.length_append, List.length_cons, List.length_nil]; first | done | rfl
   ·try dsimp only
    exact ⟨by omega, by simp; omega, hinv⟩
 ·try simp only [nrm] at c1
  have hke : k = 0 := by first | omega | (simp at c1; omega)
  subst hke
  simp only [roundsC, dret] at hinv
  refine W_exit ?_
  simp only [go_sem, ldS_at hd, stX_at hd, ldS_sv hlt, stX_sv hlt, sv_ext hlt, sv_ext_sv hlt, hs, hb1, hj, hb2, hm, hb3, hmo, hb4, hkz, hb5]
  refine kq4 _ _ ?_
  refine W_seq fun kz11 kq11 => ?_
  refine W_region [8] fun R hR => ?_
  simp only [go_sem, ldS_at hd, stX_at hd, ldS_sv hlt, stX_sv hlt, sv_ext hlt, sv_ext_sv hlt, hs, hb1, hj, hb2, hm, hb3, hmo, hb4, hkz, hb5]
  refine hR _ _ (kq11 _ _ ?_); clear hR R; try clear kq11 kz11
  try simp only [go_sem, ldS_at hd, stX_at hd, ldS_sv hlt, stX_sv hlt, sv_ext hlt, sv_ext_sv hlt, hs, hb1, hj, hb2, hm, hb3, hmo, hb4, hkz, hb5]
  refine W_ret ?_
  simp only [go_sem, ldS_at hd, stX_at hd, ldS_sv hlt, stX_sv hlt, sv_ext hlt, sv_ext_sv hlt, hs, hb1, hj, hb2, hm, hb3, hmo, hb4, hkz, hb5]
  refine ⟨.inr (by trivial), ?_⟩
  rw [← hinv]; refine Fin_set hcl (by simp only [go_sem]) (by show resPV Try.prog _ _ [.cell 8 27] = some _; simp only [resPV, go_sem]; rfl) (Wk.ro (by simp only [go_sem]) ?_)
  try simp only [go_sem]
  all_goals
   first | done | rfl | simp only [go_sem]
set_option maxHeartbeats 16000000 in
theorem BallotsOf_pc (Y : YEnv) (σ : Sg) (d : Nat) (b : Int) (hd : σ.store[d]? = some (some [.int .u64 b])) (c : Contest) (songs juries members most : Int) (hc : CnMade c songs juries members) (h1 : songs ≤ 1000 ∧ juries ≤ 1000 ∧ members ≤ 1000) (hm : 0 ≤ most ∧ most ≤ 1000) :
  PC Try.prog Y 13 [.ptr d 0, cnPV c, I most] σ (bls (ballotsD c most b).1) (σ.setVar d [.int .u64 (ballotsD c most b).2]) := by
 refine PC_of_W Try.func13 rfl (by kernel_rfl) Try.ntmps13 (by simp) fun hcl hca => ?_
 have hlt := lt_of_get hd
 have hsg := hc.sg
 have hjr := hc.jr
 have hmb := hc.mb
 have hms := hc.ms
 have hrl := hc.rl
 have hwjm : IntKind.i64.wrap (c.juries + c.members) = c.juries + c.members := wrapI (by omega) (by omega)
 obtain ⟨res, hres⟩ : ∃ r, ballotsD c most b = r := ⟨_, rfl⟩
 rw [hres]
 refine W_seq fun kz1 kq1 => ?_
 refine W_region [0, 2, 4] fun R hR => ?_
 simp only [go_sem, ldS_at hd, stX_at hd, ldS_sv hlt, stX_sv hlt, sv_ext hlt, sv_ext_sv hlt]
 refine hR _ _ (kq1 _ _ ?_); clear hR R; try clear kq1 kz1
 try simp only [go_sem, ldS_at hd, stX_at hd, ldS_sv hlt, stX_sv hlt, sv_ext hlt, sv_ext_sv hlt]
 refine W_seq fun kz2 kq2 => ?_
 refine W_region [0, 2, 4, 7] fun R hR => ?_
 simp only [go_sem, ldS_at hd, stX_at hd, ldS_sv hlt, stX_sv hlt, sv_ext hlt, sv_ext_sv hlt]
 refine hR _ _ (kq2 _ _ ?_); clear hR R; try clear kq2 kz2
 try simp only [go_sem, ldS_at hd, stX_at hd, ldS_sv hlt, stX_sv hlt, sv_ext hlt, sv_ext_sv hlt]
 refine W_seq fun kz3 kq3 => ?_
 refine W_seq fun kz4 kq4 => ?_
 refine W_region [0, 2, 4, 7, 17] fun R hR => ?_
 simp only [go_sem, ldS_at hd, stX_at hd, ldS_sv hlt, stX_sv hlt, sv_ext hlt, sv_ext_sv hlt, hwjm]
 try simp (disch := omega) only [wrapI, wrapU]
 refine hR _ _ (kq4 _ _ ?_); clear hR R; try clear kq4 kz4
 try simp only [go_sem, ldS_at hd, stX_at hd, ldS_sv hlt, stX_sv hlt, sv_ext hlt, sv_ext_sv hlt]
 refine W_cond rfl (fun c1 => ?_) (fun c1 => ?_)
 ·try simp only [nrm] at c1
  have hr0 : res = ([], b) := by rw [← hres]; unfold ballotsD; rw [if_pos c1]; rfl
  refine W_seq fun kz5 kq5 => ?_
  refine W_region [6] fun R hR => ?_
  simp only [go_sem, ldS_at hd, stX_at hd, ldS_sv hlt, stX_sv hlt, sv_ext hlt, sv_ext_sv hlt]
  refine hR _ _ (kq5 _ _ ?_); clear hR R; try clear kq5 kz5
  try simp only [go_sem, ldS_at hd, stX_at hd, ldS_sv hlt, stX_sv hlt, sv_ext hlt, sv_ext_sv hlt]
  refine W_ret ?_
  simp only [go_sem, ldS_at hd, stX_at hd, ldS_sv hlt, stX_sv hlt, sv_ext hlt, sv_ext_sv hlt]
  refine ⟨.inr (by trivial), ?_⟩
  rw [hr0]; simp only [sv_self hd]; refine Fin_same hcl rfl (Wk.ro (by simp only [go_sem]) ?_)
  try simp only [go_sem]
  all_goals
   first | done | rfl | simp only [go_sem]
 ·try simp only [nrm] at c1
  obtain ⟨k0, hk0⟩ : ∃ zz, (roll (most + 1) b).1 = zz := ⟨_, rfl⟩
  obtain ⟨b1, hb1⟩ : ∃ zz, (roll (most + 1) b).2 = zz := ⟨_, rfl⟩
  have dk0 := roll_bd (most + 1) b
  simp only [hk0] at dk0
  obtain ⟨kn, hkn⟩ : ∃ z : Nat, k0 = z := ⟨k0.toNat, by omega⟩
  subst hkn
  obtain ⟨n3, hn3⟩ : ∃ z : Nat, 3 * (kn + 1) = z := ⟨_, rfl⟩
  have hn3i : 3 * ((kn : Int) + 1) = (n3 : Int) := by omega
  obtain ⟨ser, hser⟩ : ∃ zz, (orderD n3 b1).1 = zz := ⟨_, rfl⟩
  obtain ⟨b2, hb2⟩ : ∃ zz, (orderD n3 b1).2 = zz := ⟨_, rfl⟩
  have dser := orderD_perm n3 b1
  simp only [hser] at dser
  have hsl : ser.length = n3 := by rw [dser.length_eq]; simp
  have hsb : ∀ x, x ∈ ser → 0 ≤ x ∧ x < 100000 := fun x hx => by
   obtain ⟨i, h1, rfl⟩ := List.mem_map.1 (dser.mem_iff.1 hx)
   have := List.mem_range.1 h1
   omega
  have hres2 : ballotsC c ser kn 0 [] b2 = res := by
   rw [← hres]; unfold ballotsD; rw [if_neg c1]; simp only [dbind, hk0, hb1, hser, hb2, Int.toNat_natCast, hn3]
  refine W_skip (kq3 _ _ ?_)
  refine W_seq fun kz6 kq6 => ?_
  refine W_region [0, 4, 7, 8] fun R hR => ?_
  simp only [go_sem, ldS_at hd, stX_at hd, ldS_sv hlt, stX_sv hlt, sv_ext hlt, sv_ext_sv hlt, hk0, hb1, hser, hb2]
  try simp (disch := omega) only [wrapI]
  try simp (disch := omega) only [wrapI, wrapU]
  refine GCall_of (Roll_pc Y _ d b (by first | exact hd | exact sv_get hlt | exact get_svx hlt | exact get_extx hd) (most + 1) (by omega)) ?_
  simp only [go_sem, ldS_at hd, stX_at hd, ldS_sv hlt, stX_sv hlt, sv_ext hlt, sv_ext_sv hlt, hk0, hb1, hser, hb2]
  try simp (disch := omega) only [wrapI, wrapU]
  refine hR _ _ (kq6 _ _ ?_); clear hR R; try clear kq6 kz6
  try simp only [go_sem, ldS_at hd, stX_at hd, ldS_sv hlt, stX_sv hlt, sv_ext hlt, sv_ext_sv hlt, hk0, hb1, hser, hb2]
  refine W_seq fun kz7 kq7 => ?_
  refine W_region [0, 4, 7, 8, 9] fun R hR => ?_
  simp only [go_sem, ldS_at hd, stX_at hd, ldS_sv hlt, stX_sv hlt, sv_ext hlt, sv_ext_sv hlt, hk0, hb1, hser, hb2]
  try simp (disch := omega) only [wrapI]
  try simp only [hn3i]
  try simp (disch := omega) only [wrapI, wrapU]
  refine GCall_of (Order_pc Y _ d b1 (by first | exact hd | exact sv_get hlt | exact get_svx hlt | exact get_extx hd) n3 (by omega)) ?_
  simp only [go_sem, ldS_at hd, stX_at hd, ldS_sv hlt, stX_sv hlt, sv_ext hlt, sv_ext_sv hlt, hk0, hb1, hser, hb2]
  try simp (disch := omega) only [wrapI, wrapU]
  refine hR _ _ (kq7 _ _ ?_); clear hR R; try clear kq7 kz7
  try simp only [go_sem, ldS_at hd, stX_at hd, ldS_sv hlt, stX_sv hlt, sv_ext hlt, sv_ext_sv hlt, hk0, hb1, hser, hb2]
  refine W_seq fun kz8 kq8 => ?_
  refine W_seq fun kz9 kq9 => ?_
  refine W_region [0, 4, 7, 8, 9, 10] fun R hR => ?_
  simp only [go_sem, ldS_at hd, stX_at hd, ldS_sv hlt, stX_sv hlt, sv_ext hlt, sv_ext_sv hlt, hk0, hb1, hser, hb2]
  refine hR _ _ (kq9 _ _ ?_); clear hR R; try clear kq9 kz9
  try simp only [go_sem, ldS_at hd, stX_at hd, ldS_sv hlt, stX_sv hlt, sv_ext hlt, sv_ext_sv hlt, hk0, hb1, hser, hb2]
  refine W_block ?_
  refine W_weak (Weak.room (t := 7) (es := 6) rfl (by simp)) ?_
  refine W_weak (Weak.keep [0, 4, 7, 8, 9, 10]) ?_
  simp only [go_sem, ldS_at hd, stX_at hd, ldS_sv hlt, stX_sv hlt, sv_ext hlt, sv_ext_sv hlt, hk0, hb1, hser, hb2]
  refine W_loopT (α := Nat × (List Ballot) × Int) (fun ⟨i, acc, bb⟩ => [(7, .isl (acc.map blPV) (.tok σ.rooms.length acc.length 6)), (10, I i)]) (fun ⟨i, acc, bb⟩ => (σ.setVar d [.int .u64 bb]).ext [some (cnCells c)] [acc.length]) (fun ⟨i, acc, bb⟩ => i ≤ kn ∧ acc.length = i ∧ ballotsC c ser (kn - i) i acc bb = res) (fun ⟨i, acc, bb⟩ => kn - i) ((0, [], b2)) rfl (by first | rfl | (simp only [go_sem]; done) | (simp only [go_sem]; rfl)) (⟨Nat.zero_le _, rfl, hres2⟩) ?_
  rintro ⟨i, acc, bb⟩ ⟨hi, hal, hinv⟩
  refine W_seq fun kz10 kq10 => ?_
  refine W_seq fun kz11 kq11 => ?_
  refine W_region [0, 4, 7, 8, 9, 10, 30] fun R hR => ?_
  simp only [go_sem, ldS_at hd, stX_at hd, ldS_sv hlt, stX_sv hlt, sv_ext hlt, sv_ext_sv hlt, hk0, hb1, hser, hb2]
  refine hR _ _ (kq11 _ _ ?_); clear hR R; try clear kq11 kz11
  try simp only [go_sem, ldS_at hd, stX_at hd, ldS_sv hlt, stX_sv hlt, sv_ext hlt, sv_ext_sv hlt, hk0, hb1, hser, hb2]
  refine W_cond rfl (fun c2 => ?_) (fun c2 => ?_)
  ·try simp only [nrm] at c2
   have hi1 : i < kn := by first | omega | (simp at c2; omega)
   rw [show kn - i = (kn - (i + 1)) + 1 by omega] at hinv
   simp only [ballotsC, dbind] at hinv
   obtain ⟨sx, hsx⟩ : ∃ z, ser[i]? = some z := ⟨ser[i]'(by omega), by simp⟩
   have hil : (i : Int) < (ser.length : Int) := by omega
   have hsxb := hsb sx (List.mem_of_getElem? hsx)
   have hsa : serAt ser i = sx + 1 := by unfold serAt; rw [hsx]; rfl
   have hwx : IntKind.i64.wrap (sx + 1) = sx + 1 := wrapI (by omega) (by omega)
   obtain ⟨rd0, hrd0⟩ : ∃ zz, (roll c.rounds.length bb).1 = zz := ⟨_, rfl⟩
   obtain ⟨b3, hb3⟩ : ∃ zz, (roll c.rounds.length bb).2 = zz := ⟨_, rfl⟩
   have drd0 := roll_bd c.rounds.length bb
   simp only [hrd0] at drd0
   obtain ⟨kd, hkd⟩ : ∃ zz, (anyOf [1, 2] b3).1 = zz := ⟨_, rfl⟩
   obtain ⟨b4, hb4⟩ : ∃ zz, (anyOf [1, 2] b3).2 = zz := ⟨_, rfl⟩
   have dkd := anyOf_mem [1, 2] (by simp) b3
   simp only [hkd] at dkd
   obtain ⟨sg, hsg⟩ : ∃ zz, (roll c.songs b4).1 = zz := ⟨_, rfl⟩
   obtain ⟨b5, hb5⟩ : ∃ zz, (roll c.songs b4).2 = zz := ⟨_, rfl⟩
   have dsg := roll_bd c.songs b4
   simp only [hsg] at dsg
   simp only [hrd0, hb3, hkd, hb4, hsg, hb5, hsa] at hinv
   refine W_skip (kq10 _ _ ?_)
   refine W_seq fun kz12 kq12 => ?_
   refine W_block ?_
   refine W_seq fun kz13 kq13 => ?_
   refine W_draw [0, 4, 7, 8, 9, 10, 11] [0, 1, 2, 3, 4, 5, 6, 7, 8, 9, 10, 11, 12, 13, 14, 15, 16, 17, 18, 19] [(0, 12), (0, 16), (0, 18), (0, 19), (1, 12), (1, 16), (1, 18), (1, 19), (2, 12), (2, 16), (2, 18), (2, 19), (3, 12), (3, 16), (3, 18), (3, 19), (4, 12), (4, 16), (4, 18), (4, 19), (10, 9), (11, 9), (13, 9), (13, 12), (14, 9), (14, 12), (15, 9), (15, 12), (17, 19)] [[], [], [0, 1], [0, 1, 2], [0, 1, 2, 3], [], [], [6], [6, 7], [5, 6, 7, 8], [], [], [5, 6, 7, 8, 9, 10, 11], [], [], [14], [5, 6, 7, 8, 9, 10, 11, 12, 13, 14, 15], [0, 1, 2, 3, 4, 5, 6, 7, 8, 9, 10, 11, 12, 13, 14, 15, 16], [], [0, 1, 2, 3, 4, 5, 6, 7, 8, 9, 10, 11, 12, 13, 14, 15, 16, 17, 18]] mixed (by kernel_rfl) fun R hR => ?_
   simp only [go_sem, ldS_at hd, stX_at hd, ldS_sv hlt, stX_sv hlt, sv_ext hlt, sv_ext_sv hlt, hk0, hb1, hser, hb2, hrd0, hb3, hkd, hb4, hsg, hb5, hsx, hwx, hil]
   try simp (disch := omega) only [wrapI, wrapU]
   refine GCall_of (Roll_pc Y _ d bb (by first | exact hd | exact sv_get hlt | exact get_svx hlt | exact get_extx hd) c.rounds.length (by omega)) ?_
   simp only [go_sem, ldS_at hd, stX_at hd, ldS_sv hlt, stX_sv hlt, sv_ext hlt, sv_ext_sv hlt, hk0, hb1, hser, hb2, hrd0, hb3, hkd, hb4, hsg, hb5, hsx, hwx, hil]
   try simp (disch := omega) only [wrapI, wrapU]
   refine GCall_of (Any_pc Y _ d b3 (by first | exact hd | exact sv_get hlt | exact get_svx hlt | exact get_extx hd) [1, 2] (by simp) (by simp)) ?_
   simp only [go_sem, ldS_at hd, stX_at hd, ldS_sv hlt, stX_sv hlt, sv_ext hlt, sv_ext_sv hlt, hk0, hb1, hser, hb2, hrd0, hb3, hkd, hb4, hsg, hb5, hsx, hwx, hil]
   try simp (disch := omega) only [wrapI, wrapU]
   refine GCall_of (Roll_pc Y _ d b4 (by first | exact hd | exact sv_get hlt | exact get_svx hlt | exact get_extx hd) c.songs (by omega)) ?_
   simp only [go_sem, ldS_at hd, stX_at hd, ldS_sv hlt, stX_sv hlt, sv_ext hlt, sv_ext_sv hlt, hk0, hb1, hser, hb2, hrd0, hb3, hkd, hb4, hsg, hb5, hsx, hwx, hil]
   try simp (disch := omega) only [wrapI, wrapU]
   try refine And.intro (by repeat' (first | refine And.intro ?_ ?_ | exact GOr_right (fun _ => by simp only [go_sem, ldS_at hd, stX_at hd, ldS_sv hlt, stX_sv hlt, sv_ext hlt, sv_ext_sv hlt, hk0, hb1, hser, hb2, hrd0, hb3, hkd, hb4, hsg, hb5, hsx, hwx, hil]))) ?_
   refine hR _ _ (kq13 _ _ ?_); clear hR R; try clear kq13 kz13
   try simp only [go_sem, ldS_at hd, stX_at hd, ldS_sv hlt, stX_sv hlt, sv_ext hlt, sv_ext_sv hlt, hk0, hb1, hser, hb2, hrd0, hb3, hkd, hb4, hsg, hb5]
   refine W_seq fun kz14 kq14 => ?_
   refine W_seq fun kz15 kq15 => ?_
   refine W_region [0, 4, 7, 8, 9, 10, 11, 53] fun R hR => ?_
   simp only [go_sem, ldS_at hd, stX_at hd, ldS_sv hlt, stX_sv hlt, sv_ext hlt, sv_ext_sv hlt, hk0, hb1, hser, hb2, hrd0, hb3, hkd, hb4, hsg, hb5]
   refine hR _ _ (kq15 _ _ ?_); clear hR R; try clear kq15 kz15
   try simp only [go_sem, ldS_at hd, stX_at hd, ldS_sv hlt, stX_sv hlt, sv_ext hlt, sv_ext_sv hlt, hk0, hb1, hser, hb2, hrd0, hb3, hkd, hb4, hsg, hb5]
   refine W_cond rfl (fun c3 => ?_) (fun c3 => ?_)
   ·try simp only [nrm] at c3
    refine W_region [0, 4, 7, 8, 9, 10, 11] fun R hR => ?_
    simp only [go_sem, ldS_at hd, stX_at hd, ldS_sv hlt, stX_sv hlt, sv_ext hlt, sv_ext_sv hlt, hk0, hb1, hser, hb2, hrd0, hb3, hkd, hb4, hsg, hb5]
    refine hR _ _ (kq14 _ _ ?_); clear hR R; try clear kq14 kz14
    try simp only [go_sem, ldS_at hd, stX_at hd, ldS_sv hlt, stX_sv hlt, sv_ext hlt, sv_ext_sv hlt, hk0, hb1, hser, hb2, hrd0, hb3, hkd, hb4, hsg, hb5]
    refine W_seq fun kz16 kq16 => ?_
    refine W_seq fun kz17 kq17 => ?_
    refine W_region [0, 4, 7, 8, 9, 10, 11, 57] fun R hR => ?_
    simp only [go_sem, ldS_at hd, stX_at hd, ldS_sv hlt, stX_sv hlt, sv_ext hlt, sv_ext_sv hlt, hk0, hb1, hser, hb2, hrd0, hb3, hkd, hb4, hsg, hb5]
    refine hR _ _ (kq17 _ _ ?_); clear hR R; try clear kq17 kz17
    try simp only [go_sem, ldS_at hd, stX_at hd, ldS_sv hlt, stX_sv hlt, sv_ext hlt, sv_ext_sv hlt, hk0, hb1, hser, hb2, hrd0, hb3, hkd, hb4, hsg, hb5]
    refine W_cond rfl (fun c4 => ?_) (fun c4 => ?_)
    ·try simp only [nrm] at c4
     exfalso
     omega
    ·try simp only [nrm] at c4
     refine W_skip (kq16 _ _ ?_)
     refine W_seq fun kz18 kq18 => ?_
     refine W_seq fun kz19 kq19 => ?_
     refine W_region [0, 4, 7, 8, 9, 10, 11, 61] fun R hR => ?_
     simp only [go_sem, ldS_at hd, stX_at hd, ldS_sv hlt, stX_sv hlt, sv_ext hlt, sv_ext_sv hlt, hk0, hb1, hser, hb2, hrd0, hb3, hkd, hb4, hsg, hb5]
     refine hR _ _ (kq19 _ _ ?_); clear hR R; try clear kq19 kz19
     try simp only [go_sem, ldS_at hd, stX_at hd, ldS_sv hlt, stX_sv hlt, sv_ext hlt, sv_ext_sv hlt, hk0, hb1, hser, hb2, hrd0, hb3, hkd, hb4, hsg, hb5]
     refine W_cond rfl (fun c5 => ?_) (fun c5 => ?_)
     ·try simp only [nrm] at c5
      exfalso
      simp at c5
     ·try simp only [nrm] at c5
      rw [if_neg (by simp [c3, c4])] at hinv
      obtain ⟨v, hv⟩ : ∃ zz, (roll c.members b5).1 = zz := ⟨_, rfl⟩
      obtain ⟨b6, hb6⟩ : ∃ zz, (roll c.members b5).2 = zz := ⟨_, rfl⟩
      have dv := roll_bd c.members b5
      simp only [hv] at dv
      simp only [dbind, hv, hb6] at hinv
      refine W_region [0, 4, 7, 8, 9, 10, 11] fun R hR => ?_
      simp only [go_sem, ldS_at hd, stX_at hd, ldS_sv hlt, stX_sv hlt, sv_ext hlt, sv_ext_sv hlt, hk0, hb1, hser, hb2, hrd0, hb3, hkd, hb4, hsg, hb5, hv, hb6]
      refine GCall_of (Roll_pc Y _ d b5 (by first | exact hd | exact sv_get hlt | exact get_svx hlt | exact get_extx hd) c.members (by omega)) ?_
      simp only [go_sem, ldS_at hd, stX_at hd, ldS_sv hlt, stX_sv hlt, sv_ext hlt, sv_ext_sv hlt, hk0, hb1, hser, hb2, hrd0, hb3, hkd, hb4, hsg, hb5, hv, hb6]
      refine hR _ _ (kq18 _ _ ?_); clear hR R; try clear kq18 kz18
      try simp only [go_sem, ldS_at hd, stX_at hd, ldS_sv hlt, stX_sv hlt, sv_ext hlt, sv_ext_sv hlt, hk0, hb1, hser, hb2, hrd0, hb3, hkd, hb4, hsg, hb5, hv, hb6]
      refine W_region [0, 4, 7, 8, 9, 10] fun R hR => ?_
      simp only [go_sem, ldS_at hd, stX_at hd, ldS_sv hlt, stX_sv hlt, sv_ext hlt, sv_ext_sv hlt, hk0, hb1, hser, hb2, hrd0, hb3, hkd, hb4, hsg, hb5, hv, hb6]
      try simp (disch := first | omega | (simp only [go_sem] <;> omega)) only [wrapI, wrapU, appX_exact, appX_tok]
      try simp only [go_sem, ldS_at hd, stX_at hd, ldS_sv hlt, stX_sv hlt, sv_ext hlt, sv_ext_sv hlt, hk0, hb1, hser, hb2, hrd0, hb3, hkd, hb4, hsg, hb5, hv, hb6]
      refine hR _ _ (kq12 _ _ ?_); clear hR R; try clear kq12 kz12
      try simp only [go_sem, ldS_at hd, stX_at hd, ldS_sv hlt, stX_sv hlt, sv_ext hlt, sv_ext_sv hlt, hk0, hb1, hser, hb2, hrd0, hb3, hkd, hb4, hsg, hb5, hv, hb6]
      refine W_region [0, 4, 7, 8, 9, 10] fun R hR => ?_
      simp only [go_sem, ldS_at hd, stX_at hd, ldS_sv hlt, stX_sv hlt, sv_ext hlt, sv_ext_sv hlt, hk0, hb1, hser, hb2, hrd0, hb3, hkd, hb4, hsg, hb5, hv, hb6]
      try simp (disch := omega) only [wrapI, wrapU]
      refine hR _ _ ?_; clear hR R
      try simp only [go_sem, ldS_at hd, stX_at hd, ldS_sv hlt, stX_sv hlt, sv_ext hlt, sv_ext_sv hlt, hk0, hb1, hser, hb2, hrd0, hb3, hkd, hb4, hsg, hb5, hv, hb6]
      refine ⟨(i + 1, acc ++ [⟨sx + 1, rd0, 2, v, sg, 0⟩], b6), ?_, by (try simp only []); omega, ?_⟩
      ·refine Weak.trans (Weak.cutSV 1 1 (by omega) (by omega) hcl (by simp only [go_sem]) (by simp only [go_sem] <;> omega) (by simp only [go_sem] <;> omega)) ?_
       simp only [go_sem]
       exact Weak.eq rfl rfl
      ·try dsimp only
       exact ⟨by omega, by simp; omega, hinv⟩
   ·try simp only [nrm] at c3
    refine W_skip (kq14 _ _ ?_)
    refine W_seq fun kz20 kq20 => ?_
    refine W_seq fun kz21 kq21 => ?_
    refine W_region [0, 4, 7, 8, 9, 10, 11, 57] fun R hR => ?_
    simp only [go_sem, ldS_at hd, stX_at hd, ldS_sv hlt, stX_sv hlt, sv_ext hlt, sv_ext_sv hlt, hk0, hb1, hser, hb2, hrd0, hb3, hkd, hb4, hsg, hb5]
    refine hR _ _ (kq21 _ _ ?_); clear hR R; try clear kq21 kz21
    try simp only [go_sem, ldS_at hd, stX_at hd, ldS_sv hlt, stX_sv hlt, sv_ext hlt, sv_ext_sv hlt, hk0, hb1, hser, hb2, hrd0, hb3, hkd, hb4, hsg, hb5]
    refine W_cond rfl (fun c6 => ?_) (fun c6 => ?_)
    ·try simp only [nrm] at c6
     refine W_region [0, 4, 7, 8, 9, 10, 11] fun R hR => ?_
     simp only [go_sem, ldS_at hd, stX_at hd, ldS_sv hlt, stX_sv hlt, sv_ext hlt, sv_ext_sv hlt, hk0, hb1, hser, hb2, hrd0, hb3, hkd, hb4, hsg, hb5]
     refine hR _ _ (kq20 _ _ ?_); clear hR R; try clear kq20 kz20
     try simp only [go_sem, ldS_at hd, stX_at hd, ldS_sv hlt, stX_sv hlt, sv_ext hlt, sv_ext_sv hlt, hk0, hb1, hser, hb2, hrd0, hb3, hkd, hb4, hsg, hb5]
     refine W_seq fun kz22 kq22 => ?_
     refine W_seq fun kz23 kq23 => ?_
     refine W_region [0, 4, 7, 8, 9, 10, 11, 61] fun R hR => ?_
     simp only [go_sem, ldS_at hd, stX_at hd, ldS_sv hlt, stX_sv hlt, sv_ext hlt, sv_ext_sv hlt, hk0, hb1, hser, hb2, hrd0, hb3, hkd, hb4, hsg, hb5]
     refine hR _ _ (kq23 _ _ ?_); clear hR R; try clear kq23 kz23
     try simp only [go_sem, ldS_at hd, stX_at hd, ldS_sv hlt, stX_sv hlt, sv_ext hlt, sv_ext_sv hlt, hk0, hb1, hser, hb2, hrd0, hb3, hkd, hb4, hsg, hb5]
     refine W_cond rfl (fun c7 => ?_) (fun c7 => ?_)
     ·try simp only [nrm] at c7
      rw [if_pos (by simp [c6])] at hinv
      obtain ⟨v, hv⟩ : ∃ zz, (roll c.juries b5).1 = zz := ⟨_, rfl⟩
      obtain ⟨b6, hb6⟩ : ∃ zz, (roll c.juries b5).2 = zz := ⟨_, rfl⟩
      have dv := roll_bd c.juries b5
      simp only [hv] at dv
      obtain ⟨p, hp⟩ : ∃ zz, (mid 0 c.most b6).1 = zz := ⟨_, rfl⟩
      obtain ⟨b7, hb7⟩ : ∃ zz, (mid 0 c.most b6).2 = zz := ⟨_, rfl⟩
      have dp := mid_bd 0 c.most hms.1 b6
      simp only [hp] at dp
      simp only [dbind, hv, hb6, hp, hb7] at hinv
      refine W_draw [0, 4, 7, 8, 9, 10, 11] [0, 1, 2, 3, 4, 5, 6, 7, 8, 9, 10, 11] [(4, 3), (5, 3), (6, 3), (8, 7)] [[], [], [1], [0, 1, 2], [], [], [5], [0, 1, 2, 3, 4, 5, 6], [0, 1, 2, 3], [0, 1, 2, 3, 4, 5, 6, 7, 8], [0, 1, 2, 3, 4, 5, 6, 7, 8, 9], [0, 1, 2, 3, 4, 5, 6, 7, 8, 9, 10]] mixed (by kernel_rfl) fun R hR => ?_
      simp only [go_sem, ldS_at hd, stX_at hd, ldS_sv hlt, stX_sv hlt, sv_ext hlt, sv_ext_sv hlt, hk0, hb1, hser, hb2, hrd0, hb3, hkd, hb4, hsg, hb5, hv, hb6, hp, hb7]
      refine GCall_of (Roll_pc Y _ d b5 (by first | exact hd | exact sv_get hlt | exact get_svx hlt | exact get_extx hd) c.juries (by omega)) ?_
      simp only [go_sem, ldS_at hd, stX_at hd, ldS_sv hlt, stX_sv hlt, sv_ext hlt, sv_ext_sv hlt, hk0, hb1, hser, hb2, hrd0, hb3, hkd, hb4, hsg, hb5, hv, hb6, hp, hb7]
      refine GCall_of (Mid_pc Y _ d b6 (by first | exact hd | exact sv_get hlt | exact get_svx hlt | exact get_extx hd) 0 c.most (by omega) (by omega) (by omega) (by omega)) ?_
      simp only [go_sem, ldS_at hd, stX_at hd, ldS_sv hlt, stX_sv hlt, sv_ext hlt, sv_ext_sv hlt, hk0, hb1, hser, hb2, hrd0, hb3, hkd, hb4, hsg, hb5, hv, hb6, hp, hb7]
      try refine And.intro (by repeat' (first | refine And.intro ?_ ?_ | exact GOr_right (fun _ => by simp only [go_sem, ldS_at hd, stX_at hd, ldS_sv hlt, stX_sv hlt, sv_ext hlt, sv_ext_sv hlt, hk0, hb1, hser, hb2, hrd0, hb3, hkd, hb4, hsg, hb5, hv, hb6, hp, hb7]))) ?_
      refine hR _ _ (kq22 _ _ ?_); clear hR R; try clear kq22 kz22
      try simp only [go_sem, ldS_at hd, stX_at hd, ldS_sv hlt, stX_sv hlt, sv_ext hlt, sv_ext_sv hlt, hk0, hb1, hser, hb2, hrd0, hb3, hkd, hb4, hsg, hb5, hv, hb6, hp, hb7]
      refine W_region [0, 4, 7, 8, 9, 10] fun R hR => ?_
      simp only [go_sem, ldS_at hd, stX_at hd, ldS_sv hlt, stX_sv hlt, sv_ext hlt, sv_ext_sv hlt, hk0, hb1, hser, hb2, hrd0, hb3, hkd, hb4, hsg, hb5, hv, hb6, hp, hb7]
      try simp (disch := first | omega | (simp only [go_sem] <;> omega)) only [wrapI, wrapU, appX_exact, appX_tok]
      try simp only [go_sem, ldS_at hd, stX_at hd, ldS_sv hlt, stX_sv hlt, sv_ext hlt, sv_ext_sv hlt, hk0, hb1, hser, hb2, hrd0, hb3, hkd, hb4, hsg, hb5, hv, hb6, hp, hb7]
      refine hR _ _ (kq12 _ _ ?_); clear hR R; try clear kq12 kz12
      try simp only [go_sem, ldS_at hd, stX_at hd, ldS_sv hlt, stX_sv hlt, sv_ext hlt, sv_ext_sv hlt, hk0, hb1, hser, hb2, hrd0, hb3, hkd, hb4, hsg, hb5, hv, hb6, hp, hb7]
      refine W_region [0, 4, 7, 8, 9, 10] fun R hR => ?_
      simp only [go_sem, ldS_at hd, stX_at hd, ldS_sv hlt, stX_sv hlt, sv_ext hlt, sv_ext_sv hlt, hk0, hb1, hser, hb2, hrd0, hb3, hkd, hb4, hsg, hb5, hv, hb6, hp, hb7]
      try simp (disch := omega) only [wrapI, wrapU]
      refine hR _ _ ?_; clear hR R
      try simp only [go_sem, ldS_at hd, stX_at hd, ldS_sv hlt, stX_sv hlt, sv_ext hlt, sv_ext_sv hlt, hk0, hb1, hser, hb2, hrd0, hb3, hkd, hb4, hsg, hb5, hv, hb6, hp, hb7]
      refine ⟨(i + 1, acc ++ [⟨sx + 1, rd0, 1, v, sg, p⟩], b7), ?_, by (try simp only []); omega, ?_⟩
      ·refine Weak.trans (Weak.cutSV 1 1 (by omega) (by omega) hcl (by simp only [go_sem]) (by simp only [go_sem] <;> omega) (by simp only [go_sem] <;> omega)) ?_
       simp only [go_sem]
       exact Weak.eq rfl rfl
      ·try dsimp only
       exact ⟨by omega, by simp; omega, hinv⟩
     ·try simp only [nrm] at c7
      exfalso
      simp at c7
    ·try simp only [nrm] at c6
     refine W_skip (kq20 _ _ ?_)
     refine W_seq fun kz24 kq24 => ?_
     refine W_seq fun kz25 kq25 => ?_
     refine W_region [0, 4, 7, 8, 9, 10, 11, 61] fun R hR => ?_
     simp only [go_sem, ldS_at hd, stX_at hd, ldS_sv hlt, stX_sv hlt, sv_ext hlt, sv_ext_sv hlt, hk0, hb1, hser, hb2, hrd0, hb3, hkd, hb4, hsg, hb5]
     refine hR _ _ (kq25 _ _ ?_); clear hR R; try clear kq25 kz25
     try simp only [go_sem, ldS_at hd, stX_at hd, ldS_sv hlt, stX_sv hlt, sv_ext hlt, sv_ext_sv hlt, hk0, hb1, hser, hb2, hrd0, hb3, hkd, hb4, hsg, hb5]
     refine W_cond rfl (fun c8 => ?_) (fun c8 => ?_)
     ·try simp only [nrm] at c8
      rw [if_pos (by simp [c3, c6, c8])] at hinv
      obtain ⟨v, hv⟩ : ∃ zz, (roll c.juries b5).1 = zz := ⟨_, rfl⟩
      obtain ⟨b6, hb6⟩ : ∃ zz, (roll c.juries b5).2 = zz := ⟨_, rfl⟩
      have dv := roll_bd c.juries b5
      simp only [hv] at dv
      obtain ⟨p, hp⟩ : ∃ zz, (mid 0 c.most b6).1 = zz := ⟨_, rfl⟩
      obtain ⟨b7, hb7⟩ : ∃ zz, (mid 0 c.most b6).2 = zz := ⟨_, rfl⟩
      have dp := mid_bd 0 c.most hms.1 b6
      simp only [hp] at dp
      simp only [dbind, hv, hb6, hp, hb7] at hinv
      subst c8
      refine W_draw [0, 4, 7, 8, 9, 10, 11] [0, 1, 2, 3, 4, 5, 6, 7, 8, 9, 10, 11] [(4, 3), (5, 3), (6, 3), (8, 7)] [[], [], [1], [0, 1, 2], [], [], [5], [0, 1, 2, 3, 4, 5, 6], [0, 1, 2, 3], [0, 1, 2, 3, 4, 5, 6, 7, 8], [0, 1, 2, 3, 4, 5, 6, 7, 8, 9], [0, 1, 2, 3, 4, 5, 6, 7, 8, 9, 10]] mixed (by kernel_rfl) fun R hR => ?_
      simp only [go_sem, ldS_at hd, stX_at hd, ldS_sv hlt, stX_sv hlt, sv_ext hlt, sv_ext_sv hlt, hk0, hb1, hser, hb2, hrd0, hb3, hkd, hb4, hsg, hb5, hv, hb6, hp, hb7]
      refine GCall_of (Roll_pc Y _ d b5 (by first | exact hd | exact sv_get hlt | exact get_svx hlt | exact get_extx hd) c.juries (by omega)) ?_
      simp only [go_sem, ldS_at hd, stX_at hd, ldS_sv hlt, stX_sv hlt, sv_ext hlt, sv_ext_sv hlt, hk0, hb1, hser, hb2, hrd0, hb3, hkd, hb4, hsg, hb5, hv, hb6, hp, hb7]
      refine GCall_of (Mid_pc Y _ d b6 (by first | exact hd | exact sv_get hlt | exact get_svx hlt | exact get_extx hd) 0 c.most (by omega) (by omega) (by omega) (by omega)) ?_
      simp only [go_sem, ldS_at hd, stX_at hd, ldS_sv hlt, stX_sv hlt, sv_ext hlt, sv_ext_sv hlt, hk0, hb1, hser, hb2, hrd0, hb3, hkd, hb4, hsg, hb5, hv, hb6, hp, hb7]
      try refine And.intro (by repeat' (first | refine And.intro ?_ ?_ | exact GOr_right (fun _ => by simp only [go_sem, ldS_at hd, stX_at hd, ldS_sv hlt, stX_sv hlt, sv_ext hlt, sv_ext_sv hlt, hk0, hb1, hser, hb2, hrd0, hb3, hkd, hb4, hsg, hb5, hv, hb6, hp, hb7]))) ?_
      refine hR _ _ (kq24 _ _ ?_); clear hR R; try clear kq24 kz24
      try simp only [go_sem, ldS_at hd, stX_at hd, ldS_sv hlt, stX_sv hlt, sv_ext hlt, sv_ext_sv hlt, hk0, hb1, hser, hb2, hrd0, hb3, hkd, hb4, hsg, hb5, hv, hb6, hp, hb7]
      refine W_region [0, 4, 7, 8, 9, 10] fun R hR => ?_
      simp only [go_sem, ldS_at hd, stX_at hd, ldS_sv hlt, stX_sv hlt, sv_ext hlt, sv_ext_sv hlt, hk0, hb1, hser, hb2, hrd0, hb3, hkd, hb4, hsg, hb5, hv, hb6, hp, hb7]
      try simp (disch := first | omega | (simp only [go_sem] <;> omega)) only [wrapI, wrapU, appX_exact, appX_tok]
      try simp only [go_sem, ldS_at hd, stX_at hd, ldS_sv hlt, stX_sv hlt, sv_ext hlt, sv_ext_sv hlt, hk0, hb1, hser, hb2, hrd0, hb3, hkd, hb4, hsg, hb5, hv, hb6, hp, hb7]
      refine hR _ _ (kq12 _ _ ?_); clear hR R; try clear kq12 kz12
      try simp only [go_sem, ldS_at hd, stX_at hd, ldS_sv hlt, stX_sv hlt, sv_ext hlt, sv_ext_sv hlt, hk0, hb1, hser, hb2, hrd0, hb3, hkd, hb4, hsg, hb5, hv, hb6, hp, hb7]
      refine W_region [0, 4, 7, 8, 9, 10] fun R hR => ?_
      simp only [go_sem, ldS_at hd, stX_at hd, ldS_sv hlt, stX_sv hlt, sv_ext hlt, sv_ext_sv hlt, hk0, hb1, hser, hb2, hrd0, hb3, hkd, hb4, hsg, hb5, hv, hb6, hp, hb7]
      try simp (disch := omega) only [wrapI, wrapU]
      refine hR _ _ ?_; clear hR R
      try simp only [go_sem, ldS_at hd, stX_at hd, ldS_sv hlt, stX_sv hlt, sv_ext hlt, sv_ext_sv hlt, hk0, hb1, hser, hb2, hrd0, hb3, hkd, hb4, hsg, hb5, hv, hb6, hp, hb7]
      refine ⟨(i + 1, acc ++ [⟨sx + 1, rd0, 1, v, sg, p⟩], b7), ?_, by (try simp only []); omega, ?_⟩
      ·refine Weak.trans (Weak.cutSV 1 1 (by omega) (by omega) hcl (by simp only [go_sem]) (by simp only [go_sem] <;> omega) (by simp only [go_sem] <;> omega)) ?_
       simp only [go_sem]
       exact Weak.eq rfl rfl
      ·try dsimp only
       exact ⟨by omega, by simp; omega, hinv⟩
     ·try simp only [nrm] at c8
      rw [if_neg (by simp [c3, c6, c8])] at hinv
      obtain ⟨v, hv⟩ : ∃ zz, (roll c.members b5).1 = zz := ⟨_, rfl⟩
      obtain ⟨b6, hb6⟩ : ∃ zz, (roll c.members b5).2 = zz := ⟨_, rfl⟩
      have dv := roll_bd c.members b5
      simp only [hv] at dv
      simp only [dbind, hv, hb6] at hinv
      have hk2 : kd = 2 := by
       rcases mem2 dkd with h | h
       ·exact absurd h c8
       ·exact h
      subst hk2
      refine W_region [0, 4, 7, 8, 9, 10, 11] fun R hR => ?_
      simp only [go_sem, ldS_at hd, stX_at hd, ldS_sv hlt, stX_sv hlt, sv_ext hlt, sv_ext_sv hlt, hk0, hb1, hser, hb2, hrd0, hb3, hkd, hb4, hsg, hb5, hv, hb6]
      refine GCall_of (Roll_pc Y _ d b5 (by first | exact hd | exact sv_get hlt | exact get_svx hlt | exact get_extx hd) c.members (by omega)) ?_
      simp only [go_sem, ldS_at hd, stX_at hd, ldS_sv hlt, stX_sv hlt, sv_ext hlt, sv_ext_sv hlt, hk0, hb1, hser, hb2, hrd0, hb3, hkd, hb4, hsg, hb5, hv, hb6]
      refine hR _ _ (kq24 _ _ ?_); clear hR R; try clear kq24 kz24
      try simp only [go_sem, ldS_at hd, stX_at hd, ldS_sv hlt, stX_sv hlt, sv_ext hlt, sv_ext_sv hlt, hk0, hb1, hser, hb2, hrd0, hb3, hkd, hb4, hsg, hb5, hv, hb6]
      refine W_region [0, 4, 7, 8, 9, 10] fun R hR => ?_
      simp only [go_sem, ldS_at hd, stX_at hd, ldS_sv hlt, stX_sv hlt, sv_ext hlt, sv_ext_sv hlt, hk0, hb1, hser, hb2, hrd0, hb3, hkd, hb4, hsg, hb5, hv, hb6]
      try simp (disch := first | omega | (simp only [go_sem] <;> omega)) only [wrapI, wrapU, appX_exact, appX_tok]
      try simp only [go_sem, ldS_at hd, stX_at hd, ldS_sv hlt, stX_sv hlt, sv_ext hlt, sv_ext_sv hlt, hk0, hb1, hser, hb2, hrd0, hb3, hkd, hb4, hsg, hb5, hv, hb6]
      refine hR _ _ (kq12 _ _ ?_); clear hR R; try clear kq12 kz12
      try simp only [go_sem, ldS_at hd, stX_at hd, ldS_sv hlt, stX_sv hlt, sv_ext hlt, sv_ext_sv hlt, hk0, hb1, hser, hb2, hrd0, hb3, hkd, hb4, hsg, hb5, hv, hb6]
      refine W_region [0, 4, 7, 8, 9, 10] fun R hR => ?_
      simp only [go_sem, ldS_at hd, stX_at hd, ldS_sv hlt, stX_sv hlt, sv_ext hlt, sv_ext_sv hlt, hk0, hb1, hser, hb2, hrd0, hb3, hkd, hb4, hsg, hb5, hv, hb6]
      try simp (disch := omega) only [wrapI, wrapU]
      refine hR _ _ ?_; clear hR R
      try simp only [go_sem, ldS_at hd, stX_at hd, ldS_sv hlt, stX_sv hlt, sv_ext hlt, sv_ext_sv hlt, hk0, hb1, hser, hb2, hrd0, hb3, hkd, hb4, hsg, hb5, hv, hb6]
      refine ⟨(i + 1, acc ++ [⟨sx + 1, rd0, 2, v, sg, 0⟩], b6), ?_, by (try simp only []); omega, ?_⟩
      ·refine Weak.trans (Weak.cutSV 1 1 (by omega) (by omega) hcl (by simp only [go_sem]) (by simp only [go_sem] <;> omega) (by simp only [go_sem] <;> omega)) ?_
       simp only [go_sem]
       exact Weak.eq rfl rfl
      ·try dsimp only
       exact ⟨by omega, by simp; omega, hinv⟩
  ·try simp only [nrm] at c2
   have hie : kn = i := by first | omega | (simp at c2; omega)
   subst hie
   rw [Nat.sub_self] at hinv
   simp only [ballotsC, dret] at hinv
   refine W_exit ?_
   simp only [go_sem, ldS_at hd, stX_at hd, ldS_sv hlt, stX_sv hlt, sv_ext hlt, sv_ext_sv hlt, hk0, hb1, hser, hb2]
   refine kq8 _ _ ?_
   refine W_seq fun kz26 kq26 => ?_
   refine W_region [6] fun R hR => ?_
   simp only [go_sem, ldS_at hd, stX_at hd, ldS_sv hlt, stX_sv hlt, sv_ext hlt, sv_ext_sv hlt, hk0, hb1, hser, hb2]
   refine hR _ _ (kq26 _ _ ?_); clear hR R; try clear kq26 kz26
   try simp only [go_sem, ldS_at hd, stX_at hd, ldS_sv hlt, stX_sv hlt, sv_ext hlt, sv_ext_sv hlt, hk0, hb1, hser, hb2]
   refine W_ret ?_
   simp only [go_sem, ldS_at hd, stX_at hd, ldS_sv hlt, stX_sv hlt, sv_ext hlt, sv_ext_sv hlt, hk0, hb1, hser, hb2]
   refine ⟨.inr (by trivial), ?_⟩
   rw [← hinv]; refine Fin_set hcl (by simp only [go_sem]) rfl (Wk.ro (by simp only [go_sem]) ?_)
   try simp only [go_sem]
   all_goals
    first | done | rfl | simp only [go_sem]
def rsSmall (r : Res) : Prop := r.songs.length < 2 ^ 40 ∧ r.points.length < 2 ^ 40 ∧ r.votes.length < 2 ^ 40 ∧ r.scores.length < 2 ^ 40 ∧ r.kept.length < 2 ^ 40
def exC : Contest := ⟨3, 2, 3, 10, [⟨2, 1, 2⟩, ⟨1, 1, 3⟩]⟩
def exL : List Ballot := [⟨1, 0, 1, 0, 0, 7⟩, ⟨2, 0, 1, 0, 1, 9⟩, ⟨3, 0, 1, 1, 2, 8⟩, ⟨4, 0, 2, 0, 0, 0⟩, ⟨5, 0, 2, 0, 1, 0⟩, ⟨6, 0, 2, 1, 0, 0⟩, ⟨7, 1, 2, 0, 2, 0⟩, ⟨8, 1, 2, 0, 1, 0⟩, ⟨9, 1, 1, 1, 1, 4⟩, ⟨10, 1, 2, 1, 0, 0⟩]
def exD : Contest := ⟨2, 0, 3, 0, [⟨1, 0, 1⟩]⟩
def exK : List Ballot := [⟨1, 0, 2, 0, 0, 0⟩, ⟨2, 0, 2, 1, 0, 0⟩]
def exP : List (List Int) := [[0, 1, 2], [1, 0, 2], [1, 2, 0], [2, 0, 1], [2, 0, 1]]
def exT0 : Tally := countT ⟨2, 1, 2⟩ 0 [0, 1, 2] exL
def exT1 : Tally := countT ⟨1, 1, 3⟩ 1 [0, 1] exL
def exT2 : Tally := countT ⟨1, 0, 1⟩ 0 [0, 1] exK
theorem ex0 : resT exT0 = ⟨[0, 1, 2], [7, 9, 8], [2, 0, 0], [11, 9, 8], [0, 1]⟩ := by
 unfold resT keptS
 rw [sortI_isort]
 decide
theorem ex1 : resT exT1 = ⟨[0, 1], [0, 4], [1, 1], [3, 7], [1]⟩ := by
 unfold resT keptS
 rw [sortI_isort]
 decide
theorem exTs : roundsT exC exL = [exT0, exT1] := by
 have e : (resT (countT ⟨2, 1, 2⟩ ((0 : Nat) : Int) (toI 3) exL)).kept = [0, 1] := by
  have := congrArg Res.kept ex0
  exact this
 unfold roundsT
 simp only [exC, rdsT]
 rw [e]
 rfl
theorem exRun : runD exC exL = ([⟨[0, 1, 2], [7, 9, 8], [2, 0, 0], [11, 9, 8], [0, 1]⟩, ⟨[0, 1], [0, 4], [1, 1], [3, 7], [1]⟩], 1, 0) := by
 have h0 : chkBls exC exL = 0 := by decide
 unfold runD
 rw [if_neg (by rw [h0]; simp)]
 have h1 : resultsT exC exL = [⟨[0, 1, 2], [7, 9, 8], [2, 0, 0], [11, 9, 8], [0, 1]⟩, ⟨[0, 1], [0, 4], [1, 1], [3, 7], [1]⟩] := by
  unfold resultsT
  rw [exTs, List.map_cons, List.map_cons, List.map_nil, ex0, ex1]
 rw [h1]
 unfold winnerT
 rw [h1]
 rfl
theorem exMust0 : mustT exT2 exD 0 = true := by
 unfold mustT
 simp only [sortI_isort]
 decide
theorem exMust1 : mustT exT2 exD 1 = false := by
 unfold mustT
 simp only [sortI_isort]
 decide
theorem exMay1 : mayT exT2 exD 1 (freeT exT2 exD) = false := by decide
theorem exStays : staysD exD exK 0 = ([1, 2], 0) := by
 have h0 : chkBls exD exK = 0 := by decide
 have h1 : roundsT exD exK = [exT2] := rfl
 have h2 : inR 0 0 ((exD.rounds.length : Int) - 1) = true := by decide
 unfold staysD
 rw [if_neg (by rw [h0]; simp), if_neg (by rw [h2]; simp), h1]
 have e0 : staysV exT2 exD 0 = 1 := by unfold staysV; rw [if_neg (by decide), if_pos exMust0]
 have e1 : staysV exT2 exD 1 = 2 := by unfold staysV; rw [if_neg (by decide), if_neg (by rw [exMust1]; simp), if_neg (by rw [exMay1]; simp)]
 show ([staysV exT2 exD 0, staysV exT2 exD 1], (0 : Int)) = _
 rw [e0, e1]
theorem exRunoff : runoffA 3 exP = ([0, 2], 1, 0) := by decide
set_option maxHeartbeats 2000000 in
theorem contest_pc (Y : YEnv) (σ : Sg)  :
  PC Try.prog Y 40 [] σ (cnPV exC) (σ) := by
 refine PC_of_W Try.func40 rfl (by kernel_rfl) Try.ntmps40 (by simp) fun hcl hca => ?_
 refine W_seq fun kz1 kq1 => ?_
 refine W_region [0] fun R hR => ?_
 simp only [go_sem]
 refine hR _ _ (kq1 _ _ ?_); clear hR R; try clear kq1 kz1
 try simp only [go_sem]
 refine W_seq fun kz2 kq2 => ?_
 refine W_region [0] fun R hR => ?_
 simp only [go_sem]
 refine hR _ _ (kq2 _ _ ?_); clear hR R; try clear kq2 kz2
 try simp only [go_sem]
 refine W_ret ?_
 simp only [go_sem]
 refine ⟨.inr (by trivial), ?_⟩
 refine Fin_same hcl (by show resPV Try.prog _ _ [.cell 0 27] = some _; simp only [resPV, go_sem]; rfl) (Wk.ro (by simp only [go_sem, exC, List.map_cons, List.map_nil]) ?_)
 try simp only [go_sem]
 all_goals
  simp only [go_sem, exC, List.map_cons, List.map_nil]; first | done | rfl
set_option maxHeartbeats 2000000 in
theorem ballots_pc (Y : YEnv) (σ : Sg)  :
  PC Try.prog Y 41 [] σ (bls exL) (σ) := by
 refine PC_of_W Try.func41 rfl (by kernel_rfl) Try.ntmps41 (by simp) fun hcl hca => ?_
 refine W_seq fun kz1 kq1 => ?_
 refine W_region [] fun R hR => ?_
 simp only [go_sem]
 refine hR _ _ (kq1 _ _ ?_); clear hR R; try clear kq1 kz1
 try simp only [go_sem]
 refine W_seq fun kz2 kq2 => ?_
 refine W_region [0] fun R hR => ?_
 simp only [go_sem]
 refine hR _ _ (kq2 _ _ ?_); clear hR R; try clear kq2 kz2
 try simp only [go_sem]
 refine W_ret ?_
 simp only [go_sem]
 refine ⟨.inr (by trivial), ?_⟩
 refine Fin_self hcl rfl (Wk.ro (by simp only [go_sem, exL, List.map_cons, List.map_nil]) ?_)
 try simp only [go_sem]
 all_goals
  simp only [go_sem, exL, List.map_cons, List.map_nil]; first | done | rfl
set_option maxHeartbeats 2000000 in
theorem duel_pc (Y : YEnv) (σ : Sg)  :
  PC Try.prog Y 42 [] σ (cnPV exD) (σ) := by
 refine PC_of_W Try.func42 rfl (by kernel_rfl) Try.ntmps42 (by simp) fun hcl hca => ?_
 refine W_seq fun kz1 kq1 => ?_
 refine W_region [0] fun R hR => ?_
 simp only [go_sem]
 refine hR _ _ (kq1 _ _ ?_); clear hR R; try clear kq1 kz1
 try simp only [go_sem]
 refine W_seq fun kz2 kq2 => ?_
 refine W_region [0] fun R hR => ?_
 simp only [go_sem]
 refine hR _ _ (kq2 _ _ ?_); clear hR R; try clear kq2 kz2
 try simp only [go_sem]
 refine W_ret ?_
 simp only [go_sem]
 refine ⟨.inr (by trivial), ?_⟩
 refine Fin_same hcl (by show resPV Try.prog _ _ [.cell 0 27] = some _; simp only [resPV, go_sem]; rfl) (Wk.ro (by simp only [go_sem, exD, List.map_cons, List.map_nil]) ?_)
 try simp only [go_sem]
 all_goals
  simp only [go_sem, exD, List.map_cons, List.map_nil]; first | done | rfl
set_option maxHeartbeats 2000000 in
theorem votes_pc (Y : YEnv) (σ : Sg)  :
  PC Try.prog Y 43 [] σ (bls exK) (σ) := by
 refine PC_of_W Try.func43 rfl (by kernel_rfl) Try.ntmps43 (by simp) fun hcl hca => ?_
 refine W_seq fun kz1 kq1 => ?_
 refine W_region [] fun R hR => ?_
 simp only [go_sem]
 refine hR _ _ (kq1 _ _ ?_); clear hR R; try clear kq1 kz1
 try simp only [go_sem]
 refine W_seq fun kz2 kq2 => ?_
 refine W_region [0] fun R hR => ?_
 simp only [go_sem]
 refine hR _ _ (kq2 _ _ ?_); clear hR R; try clear kq2 kz2
 try simp only [go_sem]
 refine W_ret ?_
 simp only [go_sem]
 refine ⟨.inr (by trivial), ?_⟩
 refine Fin_self hcl rfl (Wk.ro (by simp only [go_sem, exK, List.map_cons, List.map_nil]) ?_)
 try simp only [go_sem]
 all_goals
  simp only [go_sem, exK, List.map_cons, List.map_nil]; first | done | rfl
set_option maxHeartbeats 2000000 in
theorem prefs_pc (Y : YEnv) (σ : Sg)  :
  PC Try.prog Y 44 [] σ (lls exP) (σ) := by
 refine PC_of_W Try.func44 rfl (by kernel_rfl) Try.ntmps44 (by simp) fun hcl hca => ?_
 refine W_seq fun kz1 kq1 => ?_
 refine W_region [] fun R hR => ?_
 simp only [go_sem]
 refine hR _ _ (kq1 _ _ ?_); clear hR R; try clear kq1 kz1
 try simp only [go_sem]
 refine W_seq fun kz2 kq2 => ?_
 refine W_region [0] fun R hR => ?_
 simp only [go_sem]
 refine hR _ _ (kq2 _ _ ?_); clear hR R; try clear kq2 kz2
 try simp only [go_sem]
 refine W_ret ?_
 simp only [go_sem]
 refine ⟨.inr (by trivial), ?_⟩
 refine Fin_self hcl rfl (Wk.ro (by simp only [go_sem, exP, llPV, List.map_cons, List.map_nil]) ?_)
 try simp only [go_sem]
 all_goals
  simp only [go_sem, exP, llPV, List.map_cons, List.map_nil]; first | done | rfl
set_option maxHeartbeats 4000000 in
theorem awake_pc (Y : YEnv) (σ : Sg)  :
  PC Try.prog Y 18 [] σ (.bool true) (σ) := by
 refine PC_of_W Try.func18 rfl (by kernel_rfl) Try.ntmps18 (by simp) fun hcl hca => ?_
 refine W_seq fun kz1 kq1 => ?_
 refine W_region [] fun R hR => ?_
 simp only [go_sem, List.map_cons, List.map_nil]
 refine hR _ _ (kq1 _ _ ?_); clear hR R; try clear kq1 kz1
 try simp only [go_sem, List.map_cons, List.map_nil]
 refine W_seq fun kz2 kq2 => ?_
 refine W_region [1, 2, 3] fun R hR => ?_
 simp only [go_sem, List.map_cons, List.map_nil]
 refine GCall_of (contest_pc Y _) ?_
 simp only [go_sem, List.map_cons, List.map_nil]
 refine GCall_of (ballots_pc Y _) ?_
 simp only [go_sem, List.map_cons, List.map_nil]
 refine GCall_of (PC.val (v' := .tuple [rss [⟨[0, 1, 2], [7, 9, 8], [2, 0, 0], [11, 9, 8], [0, 1]⟩, ⟨[0, 1], [0, 4], [1, 1], [3, 7], [1]⟩], I 1, I 0]) (Run_pc Y _ exC exL (by decide) (by decide)) (by rw [exRun])) ?_
 simp only [go_sem, List.map_cons, List.map_nil]
 refine hR _ _ (kq2 _ _ ?_); clear hR R; try clear kq2 kz2
 try simp only [go_sem, List.map_cons, List.map_nil]
 refine W_seq fun kz3 kq3 => ?_
 refine W_region [1, 2, 3, 4, 5] fun R hR => ?_
 simp only [go_sem, List.map_cons, List.map_nil]
 refine GCall_of (duel_pc Y _) ?_
 simp only [go_sem, List.map_cons, List.map_nil]
 refine GCall_of (votes_pc Y _) ?_
 simp only [go_sem, List.map_cons, List.map_nil]
 refine GCall_of (PC.val (v' := .tuple [ints [1, 2], I 0]) (Stays_pc Y _ exD exK 0 (by decide) (by decide)) (by rw [exStays])) ?_
 simp only [go_sem, List.map_cons, List.map_nil]
 refine hR _ _ (kq3 _ _ ?_); clear hR R; try clear kq3 kz3
 try simp only [go_sem, List.map_cons, List.map_nil]
 refine W_seq fun kz4 kq4 => ?_
 refine W_region [1, 2, 3, 4, 5, 6, 7, 8] fun R hR => ?_
 simp only [go_sem, List.map_cons, List.map_nil]
 refine GCall_of (prefs_pc Y _) ?_
 simp only [go_sem, List.map_cons, List.map_nil]
 refine GCall_of (PC.val (v' := .tuple [ints [0, 2], I 1, I 0]) (Runoff_pc Y _ 3 exP (by decide) (by decide)) (by rw [exRunoff])) ?_
 simp only [go_sem, List.map_cons, List.map_nil]
 refine hR _ _ (kq4 _ _ ?_); clear hR R; try clear kq4 kz4
 try simp only [go_sem, List.map_cons, List.map_nil]
 refine W_seq fun kz5 kq5 => ?_
 refine W_region [0] fun R hR => ?_
 simp only [go_sem, List.map_cons, List.map_nil, iaX0 (c := 5) (p := .agg [ints [0, 1, 2], ints [7, 9, 8], ints [2, 0, 0], ints [11, 9, 8], ints [0, 1]]) rfl, elS0]
 refine GCall_of (PC.val (v' := .bool true) (EqInts_pc Y _ [11, 9, 8] [11, 9, 8] .ro .exact (by decide)) (by rfl)) ?_
 simp only [go_sem, List.map_cons, List.map_nil, iaX0 (c := 5) (p := .agg [ints [0, 1, 2], ints [7, 9, 8], ints [2, 0, 0], ints [11, 9, 8], ints [0, 1]]) rfl, elS0]
 refine GCall_of (PC.val (v' := .bool true) (EqInts_pc Y _ [1, 2] [1, 2] .ro .exact (by decide)) (by rfl)) ?_
 simp only [go_sem, List.map_cons, List.map_nil, iaX0 (c := 5) (p := .agg [ints [0, 1, 2], ints [7, 9, 8], ints [2, 0, 0], ints [11, 9, 8], ints [0, 1]]) rfl, elS0]
 refine GCall_of (PC.val (v' := .bool true) (EqInts_pc Y _ [0, 2] [0, 2] .ro .exact (by decide)) (by rfl)) ?_
 simp only [go_sem, List.map_cons, List.map_nil, iaX0 (c := 5) (p := .agg [ints [0, 1, 2], ints [7, 9, 8], ints [2, 0, 0], ints [11, 9, 8], ints [0, 1]]) rfl, elS0]
 refine hR _ _ (kq5 _ _ ?_); clear hR R; try clear kq5 kz5
 try simp only [go_sem, List.map_cons, List.map_nil]
 refine W_ret ?_
 simp only [go_sem, List.map_cons, List.map_nil]
 refine ⟨.inr (by trivial), ?_⟩
 first | refine Fin_same hcl rfl (Wk_eq ?_ (by simp only [go_sem])) | refine Fin_self hcl rfl (Wk_eq ?_ (by simp only [go_sem]))
 try simp only [go_sem]
 all_goals
  first | rfl | (simp_all; done) | (simp_all; omega)
def pick (l : List Ballot) (k : Int) : Ballot := (l[k.toNat]?).getD ⟨0, 0, 0, 0, 0, 0⟩
theorem res_small {t : Tally} (h : TlB t) : rsSmall (resT t) := by
 have h1 := h.sl
 have h2 := resT_klen h.kp.2
 have h3 := h.kp
 refine ⟨?_, ?_, ?_, ?_, ?_⟩
 ·show t.songs.length < _; omega
 ·show ((allT t).map _).length < _; rw [List.length_map, allT_len]; omega
 ·show ((allT t).map _).length < _; rw [List.length_map, allT_len]; omega
 ·show ((allT t).map _).length < _; rw [List.length_map, allT_len]; omega
 ·rw [h2]; omega
theorem run_ok {c : Contest} {l : List Ballot} (h : chkBls c l = 0) : runD c l = (resultsT c l, winnerT c l, 0) ∧ (∀ x, x ∈ resultsT c l → rsSmall x) ∧ (resultsT c l).length = c.rounds.length := by
 obtain ⟨hV, hl, hb, hn⟩ := blsV_of h
 refine ⟨by unfold runD; rw [if_neg (by simp [h])], fun x hx => ?_, by unfold resultsT; rw [List.length_map]; exact rdsT_len⟩
 obtain ⟨t, ht, rfl⟩ := List.mem_map.1 hx
 exact res_small (roundsT_b hV hl hb t ht)
theorem rdsT_shape {l : List Ballot} : ∀ {rs : List Rnd} {i : Nat} {ss : List Int} {k : Nat} {t : Tally}, (rdsT l rs i ss)[k]? = some t → ∃ r, rs[k]? = some r ∧ t = countT r ((i + k : Nat) : Int) t.songs l := by
 intro rs
 induction rs with
 | nil => intro i ss k t h; simp [rdsT] at h
 | cons r rs ih =>
  intro i ss k t h
  cases k with
  | zero =>
   simp only [rdsT, List.getElem?_cons_zero, Option.some.injEq] at h
   subst h
   exact ⟨r, rfl, rfl⟩
  | succ k =>
   simp only [rdsT, List.getElem?_cons_succ] at h
   obtain ⟨q, h1, h2⟩ := ih h
   refine ⟨q, by simpa using h1, ?_⟩
   rw [h2, show (i + 1 + k : Nat) = i + (k + 1) by omega]
   rfl
theorem roundsT_shape {c : Contest} {l : List Ballot} {k : Nat} {t : Tally} (h : (roundsT c l)[k]? = some t) : ∃ r, c.rounds[k]? = some r ∧ t = countT r (k : Int) (inS c l k) l := by
 obtain ⟨r, h1, h2⟩ := rdsT_shape h
 refine ⟨r, h1, ?_⟩
 rw [inS_at h, Nat.zero_add] at h2
 exact h2
structure RdF (c : Contest) (l : List Ballot) (N k : Nat) (r : Rnd) (t : Tally) : Prop where
 tb : TlB t
 up : Up t.songs
 rd : t.rd = r
 ss : t.songs = inS c l k
 bd : ∀ x, x ∈ t.songs → 0 ≤ x ∧ x < N
 at' : ∀ s, s < N → has t.songs s = true → (allT t)[cntTo t.songs s]? = some ⟨s, pS l k t.songs l.length s, vS l k t.songs l.length s, r.jury * pS l k t.songs l.length s + r.member * vS l k t.songs l.length s⟩
theorem rdF_of {c : Contest} {l : List Ballot} {N k : Nat} {t : Tally} (hN : c.songs = N) (hck : chkBls c l = 0) (h : (roundsT c l)[k]? = some t) : ∃ r, c.rounds[k]? = some r ∧ RdF c l N k r t := by
 obtain ⟨hV, hl, hb, hn⟩ := blsV_of hck
 obtain ⟨r, h1, h2⟩ := roundsT_shape h
 have hm := List.mem_of_getElem? h
 have hss : t.songs = inS c l k := inS_at h
 have hup := roundsT_up hm
 have hbd : ∀ x, x ∈ t.songs → 0 ≤ x ∧ x < N := by
  have key : ∀ k : Nat, ∀ x, x ∈ inS c l k → 0 ≤ x ∧ x < N := by
   intro k
   induction k with
   | zero => intro x hx; simp only [inS, hN, toI_N] at hx; exact mem_toN.1 hx
   | succ k ih =>
    intro x hx
    simp only [inS] at hx
    split at hx
    ·rename_i t' ht'
     have := mem_kept hx
     rw [inS_at ht'] at this
     exact ih x this
    ·cases hx
  rw [hss]; exact key k
 refine ⟨r, h1, roundsT_b hV hl hb t hm, hup, by rw [h2]; rfl, hss, hbd, fun s hs hh => ?_⟩
 have ha := cntTo_at hup hbd hs hh
 unfold allT
 rw [List.getElem?_map, ha]
 simp only [Option.map_some, Option.some.injEq, stdT, weighS, Int.toNat_natCast, Int.add_zero]
 have e1 : t.pts s = pS l k t.songs l.length s := by
  rw [hss, h2, pts_sum hn s]; unfold pS; rw [List.take_length]
 have e2 : t.vts s = vS l k t.songs l.length s := by
  rw [hss, h2, vts_sum hn s]; unfold vS; rw [List.take_length]
 rw [e1, e2, show t.rd = r by rw [h2]; rfl]
theorem winner_in {c : Contest} {l : List Ballot} (hck : chkBls c l = 0) (hr : 1 ≤ c.rounds.length) : winnerT c l ∈ inS c l c.rounds.length := by
 obtain ⟨hV, hl, hb, hn⟩ := blsV_of hck
 have hlen : (roundsT c l).length = c.rounds.length := rdsT_len
 obtain ⟨k, hk⟩ : ∃ k, c.rounds.length = k + 1 := ⟨c.rounds.length - 1, by omega⟩
 obtain ⟨t, ht⟩ : ∃ t, (roundsT c l)[k]? = some t := ⟨(roundsT c l)[k]'(by omega), by simp⟩
 rw [hk, inS_succ ht]
 unfold winnerT resultsT
 rw [List.getLast?_map, List.getLast?_eq_getElem?, hlen, hk, Nat.add_sub_cancel, ht]
 simp only [Option.map_some]
 have hT := roundsT_b hV hl hb t (List.mem_of_getElem? ht)
 have hkl := resT_klen hT.kp.2
 have := hT.kp.1
 cases hkp : (resT t).kept with
 | nil => rw [hkp] at hkl; simp at hkl; omega
 | cons a q => simp
theorem take_mid {α : Type} {A R : List α} {k : Nat} {b : α} : (A.take k ++ b :: (A.drop k ++ R)).take (A.length + 1) = A.take k ++ b :: A.drop k := by
 have e : A.take k ++ b :: (A.drop k ++ R) = (A.take k ++ b :: A.drop k) ++ R := by simp
 have hl := (bmid_perm (l := A) (a := k) (w := b)).length_eq
 simp only [List.length_append, List.length_singleton] at hl
 rw [e, List.take_append_of_le_length (by simp only [List.length_append] at hl ⊢; omega), List.take_of_length_le (by simp only [List.length_append] at hl ⊢; omega)]
theorem perm_mid {α : Type} {A R : List α} {k : Nat} {b : α} : (A.take k ++ b :: (A.drop k ++ R)).Perm (A ++ b :: R) := by
 have e : A.take k ++ b :: (A.drop k ++ R) = (A.take k ++ b :: A.drop k) ++ R := by simp
 rw [e]
 refine (bmid_perm.append_right R).trans ?_
 simp
theorem fit_in {x n : Int} (h : 0 ≤ x ∧ x < n) : fit x n = x := by
 unfold fit
 by_cases h2 : n < 2
 ·rw [if_pos h2]; omega
 ·rw [if_neg h2, Int.tmod_eq_of_lt h.1 h.2, if_neg (by omega)]
theorem rank_lt {l : List Std} {a b : Std} (hb : b ∈ l) (h : Ahd b a) : rank l b < rank l a := by
 unfold rank
 obtain ⟨l1, l2, rfl⟩ := List.append_of_mem hb
 have h1 : ∀ l : List Std, (l.countP fun y => decide (Ahd y b)) ≤ l.countP fun y => decide (Ahd y a) := fun l => List.countP_mono_left fun y _ hy => decide_eq_true ((of_decide_eq_true hy).trans h)
 simp only [List.countP_append, List.countP_cons]
 rw [if_neg (by simpa using Ahd.irrefl (a := b)), if_pos (decide_eq_true h)]
 have := h1 l1
 have := h1 l2
 omega
theorem led_ok {t : Tally} (hu : Up t.songs) (hk : 1 ≤ t.rd.keep) {i j : Nat} {a b : Std} (ha : (allT t)[i]? = some a) (hb : (allT t)[j]? = some b) (h1 : has (resT t).kept a.song = true) (h2 : has (resT t).kept b.song = false) : ¬ Ahd b a := by
 intro h
 have hAs : Up ((allT t).map (·.song)) := by rw [allT_song]; exact hu
 have hke : (resT t).kept = ((allT t).filter fun x => decide (rank (allT t) x < t.rd.keep.toNat)).map (·.song) := kept_rank hAs _
 have hmem : ∀ x, x ∈ allT t → (has (resT t).kept x.song = true ↔ rank (allT t) x < t.rd.keep.toNat) := fun x hx => by
  rw [has_iff, hke, List.mem_map]
  constructor
  ·rintro ⟨y, hy, e⟩
   obtain ⟨h3, h4⟩ := List.mem_filter.1 hy
   obtain ⟨p, hp⟩ := List.mem_iff_getElem?.1 h3
   obtain ⟨q, hq⟩ := List.mem_iff_getElem?.1 hx
   have hpq : p = q := by
    obtain ⟨b1, e1⟩ := List.getElem?_eq_some_iff.1 hp
    obtain ⟨b2, e2⟩ := List.getElem?_eq_some_iff.1 hq
    exact (List.getElem_inj hAs.nodup (h₀ := by simpa using b1) (h₁ := by simpa using b2)).1 (by simp [e1, e2, e])
   subst hpq
   rw [hp] at hq
   injection hq with hq
   subst hq
   exact of_decide_eq_true h4
  ·intro h3
   exact ⟨x, List.mem_filter.2 ⟨hx, decide_eq_true h3⟩, rfl⟩
 have ma := (hmem a (List.mem_of_getElem? ha)).1 h1
 have mb : ¬ rank (allT t) b < t.rd.keep.toNat := fun h3 => by
  rw [(hmem b (List.mem_of_getElem? hb)).2 h3] at h2
  cases h2
 have := rank_lt (List.mem_of_getElem? hb) h
 omega
set_option maxHeartbeats 2000000 in
theorem OwnBW_pc (Y : YEnv) (σ : Sg) (xs : List Ballot) (o : Own) (hne : xs ≠ []) (h : xs.length < 2 ^ 30) :
  PC Try.prog Y 26 [.isl (xs.map blPV) o] σ (.gsl σ.store.length xs.length 6) (σ.ext [some (rowC (xs.map blPV))] []) := by
 refine PC_of_W Try.func26 rfl (by kernel_rfl) Try.ntmps26 (by simp) fun hcl hca => ?_
 refine W_seq fun kz1 kq1 => ?_
 refine W_region [0] fun R hR => ?_
 simp only [go_sem]
 refine hR _ _ (kq1 _ _ ?_); clear hR R; try clear kq1 kz1
 try simp only [go_sem]
 refine W_seq fun kz2 kq2 => ?_
 refine W_regionN [2] 2 fun R hR => ?_
 simp only [GLw, go_sem]
 refine ⟨_, _, Weak.gnil (t := 3) (by simp only [go_sem]), ?_⟩
 simp only [go_sem]
 have hpos : 0 < xs.length := List.length_pos_iff.2 hne
 rw [appG_nil (by simp [PV.cells, PV.scalar, blPV, blCells]) (by simpa using hpos) (by simp; omega)]
 simp only [go_sem]
 refine hR _ _ (kq2 _ _ ?_); clear hR R; try clear kq2 kz2
 try simp only [go_sem]
 refine W_ret ?_
 simp only [go_sem]
 refine ⟨.inr (by trivial), ?_⟩
 refine Fin_ext (σ := σ) (l := [some (rowC (xs.map blPV))]) (rm := []) 1 0 hcl rfl (Wk_eq rfl (by simp only [go_sem] <;> omega)) (by show CleanLs _ _ _ _; simp only [go_sem])
set_option maxHeartbeats 2000000 in
theorem OwnB0_pc (Y : YEnv) (σ : Sg)  :
  PC Try.prog Y 26 [bls []] σ (bls []) (σ) := by
 refine PC_of_W Try.func26 rfl (by kernel_rfl) Try.ntmps26 (by simp) fun hcl hca => ?_
 refine W_seq fun kz1 kq1 => ?_
 refine W_region [0] fun R hR => ?_
 simp only [go_sem]
 refine hR _ _ (kq1 _ _ ?_); clear hR R; try clear kq1 kz1
 try simp only [go_sem]
 refine W_seq fun kz2 kq2 => ?_
 refine W_region [2] fun R hR => ?_
 simp only [go_sem]
 try simp (disch := first | omega | (simp only [go_sem] <;> omega)) only [wrapI, wrapU, appX_exact, appX_tok]
 try simp only [go_sem]
 refine hR _ _ (kq2 _ _ ?_); clear hR R; try clear kq2 kz2
 try simp only [go_sem]
 refine W_ret ?_
 simp only [go_sem]
 refine ⟨.inr (by trivial), ?_⟩
 first | refine Fin_same hcl rfl (Wk.ro (by simp only [go_sem]) ?_) | refine Fin_self hcl rfl (Wk.ro (by simp only [go_sem]) ?_)
 try simp only [go_sem]
 all_goals
  first | rfl | (simp only [go_sem]; done)
set_option maxHeartbeats 2000000 in
theorem sort0_pc (Y : YEnv) (σ : Sg)  :
  PC Try.prog Y 12 [bls []] σ (bls []) (σ) := by
 refine PC_of_W Try.func12 rfl (by kernel_rfl) Try.ntmps12 (by simp) fun hcl hca => ?_
 refine W_seq fun kz1 kq1 => ?_
 refine W_region [0] fun R hR => ?_
 simp only [go_sem]
 refine hR _ _ (kq1 _ _ ?_); clear hR R; try clear kq1 kz1
 try simp only [go_sem]
 refine W_seq fun kz2 kq2 => ?_
 refine W_region [3] fun R hR => ?_
 simp only [go_sem]
 refine GCall_of (OwnB0_pc Y _) ?_
 simp only [go_sem]
 refine hR _ _ (kq2 _ _ ?_); clear hR R; try clear kq2 kz2
 try simp only [go_sem]
 refine W_seq fun kz3 kq3 => ?_
 refine W_seq fun kz4 kq4 => ?_
 refine W_region [3, 4] fun R hR => ?_
 simp only [go_sem]
 refine hR _ _ (kq4 _ _ ?_); clear hR R; try clear kq4 kz4
 try simp only [go_sem]
 refine W_block ?_
 refine W_loopS (α := Nat) (fun (i : Nat) => [(4, I i)]) (fun (i : Nat) => i = 0) (fun (i : Nat) => 0) (0) rfl (rfl) ?_
 rintro i hi
 refine W_seq fun kz5 kq5 => ?_
 refine W_seq fun kz6 kq6 => ?_
 refine W_region [3, 4, 11] fun R hR => ?_
 simp only [go_sem]
 refine hR _ _ (kq6 _ _ ?_); clear hR R; try clear kq6 kz6
 try simp only [go_sem]
 refine W_cond rfl (fun c1 => ?_) (fun c1 => ?_)
 ·try simp only [nrm] at c1
  skip
  exfalso
  first | omega | (simp at c1; done) | (simp at c1; omega) | exact absurd c1 (by simp [hi])
 ·try simp only [nrm] at c1
  refine W_exit ?_
  simp only [go_sem]
  refine kq3 _ _ ?_
  refine W_seq fun kz7 kq7 => ?_
  refine W_region [2] fun R hR => ?_
  simp only [go_sem]
  refine hR _ _ (kq7 _ _ ?_); clear hR R; try clear kq7 kz7
  try simp only [go_sem]
  refine W_ret ?_
  simp only [go_sem]
  refine ⟨.inr (by trivial), ?_⟩
  first | refine Fin_same hcl rfl (Wk.ro (by simp only [go_sem]) ?_) | refine Fin_self hcl rfl (Wk.ro (by simp only [go_sem]) ?_)
  try simp only [go_sem]
  all_goals
   first | rfl | (simp only [go_sem]; done)
set_option maxHeartbeats 8000000 in
theorem sortN_pc (Y : YEnv) (σ : Sg) (l : List Ballot) (hne : l ≠ []) (hl : l.length < 2 ^ 20) (hn : (l.map (·.serial)).Nodup) :
  PC Try.prog Y 12 [bls l] σ (bls (sortB l)) (σ) := by
 refine PC_of_W Try.func12 rfl (by kernel_rfl) Try.ntmps12 (by simp) fun hcl hca => ?_
 have hpos : 0 < l.length := List.length_pos_iff.2 hne
 obtain ⟨n, hnl⟩ : ∃ z, l.length = z := ⟨_, rfl⟩
 refine W_seq fun kz1 kq1 => ?_
 refine W_region [0] fun R hR => ?_
 simp only [go_sem]
 refine hR _ _ (kq1 _ _ ?_); clear hR R; try clear kq1 kz1
 try simp only [go_sem]
 refine W_seq fun kz2 kq2 => ?_
 refine W_region [3] fun R hR => ?_
 simp only [go_sem]
 refine GCall_of (PC.val (v' := .gsl σ.store.length n 6) (OwnBW_pc Y _ l .ro hne (by omega)) (by rw [hnl])) ?_
 simp only [go_sem]
 refine hR _ _ (kq2 _ _ ?_); clear hR R; try clear kq2 kz2
 try simp only [go_sem]
 refine W_seq fun kz3 kq3 => ?_
 refine W_seq fun kz4 kq4 => ?_
 refine W_region [3, 4] fun R hR => ?_
 simp only [go_sem]
 refine hR _ _ (kq4 _ _ ?_); clear hR R; try clear kq4 kz4
 try simp only [go_sem]
 refine W_block ?_
 refine W_loopT (α := Nat × (List Ballot)) (fun ⟨i, m⟩ => [(4, I i)]) (fun ⟨i, m⟩ => σ.ext [some (rowC (m.map blPV))] []) (fun ⟨i, m⟩ => i ≤ n ∧ m.length = n ∧ m.Perm l ∧ AscB (m.take i)) (fun ⟨i, m⟩ => n - i) ((0, l)) rfl (by first | rfl | (simp only [go_sem]; done) | (simp only [go_sem]; rfl)) (⟨Nat.zero_le _, hnl, .refl _, List.Pairwise.nil⟩) ?_
 rintro ⟨i, m⟩ ⟨hi, hml, hmp, hma⟩
 refine W_seq fun kz5 kq5 => ?_
 refine W_seq fun kz6 kq6 => ?_
 refine W_region [3, 4, 11] fun R hR => ?_
 simp only [go_sem]
 refine hR _ _ (kq6 _ _ ?_); clear hR R; try clear kq6 kz6
 try simp only [go_sem]
 refine W_cond rfl (fun c1 => ?_) (fun c1 => ?_)
 ·try simp only [nrm] at c1
  have hin : i < n := by first | omega | (simp at c1; omega)
  obtain ⟨b, hbi⟩ : ∃ z, m[i]? = some z := ⟨m[i]'(by omega), by simp⟩
  obtain ⟨A, hAe⟩ : ∃ z, m.take i = z := ⟨_, rfl⟩
  obtain ⟨R0, hRe⟩ : ∃ z, m.drop (i + 1) = z := ⟨_, rfl⟩
  rw [hAe] at hma
  have hA := hma
  have hAl : A.length = i := by rw [← hAe, List.length_take]; omega
  have hRl : R0.length = n - (i + 1) := by rw [← hRe, List.length_drop, hml]
  have hme : m = A ++ b :: R0 := by rw [← hAe, ← hRe, ← (List.getElem?_eq_some_iff.1 hbi).2, ← List.drop_eq_getElem_cons, List.take_append_drop]
  refine W_skip (kq5 _ _ ?_)
  refine W_seq fun kz7 kq7 => ?_
  refine W_block ?_
  refine W_seq fun kz8 kq8 => ?_
  refine W_region [3, 4, 5] fun R hR => ?_
  simp only [go_sem]
  refine hR _ _ (kq8 _ _ ?_); clear hR R; try clear kq8 kz8
  try simp only [go_sem]
  refine W_block ?_
  refine W_loopT (α := Nat × (List Ballot)) (fun ⟨k, cur⟩ => [(5, I k)]) (fun ⟨k, cur⟩ => σ.ext [some (rowC (cur.map blPV))] []) (fun ⟨k, cur⟩ => k ≤ i ∧ cur = A.take k ++ b :: (A.drop k ++ R0) ∧ (∀ z, z ∈ A.drop k → b.serial ≤ z.serial) ∧ cur.length = n) (fun ⟨k, cur⟩ => k) ((i, m)) rfl (by first | rfl | (simp only [go_sem]; done) | (simp only [go_sem]; rfl)) (⟨Nat.le_refl _, by rw [hme, ← hAl, List.take_length, List.drop_length]; rfl, fun z h => absurd h (by rw [← hAl, List.drop_length]; simp), hml⟩) ?_
  rintro ⟨k, cur⟩ ⟨hk, hcu, hdr, hcl2⟩
  refine W_seq fun kz9 kq9 => ?_
  refine W_seq fun kz10 kq10 => ?_
  refine W_draw [3, 4, 5, 30] [0, 1, 2, 3, 4, 5, 6, 7, 8, 9, 10, 11, 12, 13, 14, 15] [] [[], [0], [0, 1], [0, 1, 2], [0, 1, 2], [0, 1, 2, 4], [0, 1, 2, 3, 4, 5], [0, 1, 2, 3, 4, 5, 6], [0, 1, 2, 3, 4, 5, 6, 7], [0, 1, 2], [0, 1, 2], [0, 1, 2, 9, 10], [0, 1, 2, 9, 10, 11], [0, 1, 2, 9, 10, 11, 12], [0, 1, 2, 3, 4, 5, 6, 7, 8, 9, 10, 11, 12, 13], [0, 1, 2, 3, 4, 5, 6, 7, 8, 9, 10, 11, 12, 13, 14]] mixed (by kernel_rfl) fun R hR => ?_
  simp only [go_sem]
  refine GWant_split (fun g1 => ?_) (fun g1 => ?_)
  ·try simp only [Bool.not_eq_true', Bool.not_eq_false'] at g1
   have n1 := g1; try simp only [nrm] at n1
   obtain ⟨q, rfl⟩ : ∃ q, k = q + 1 := ⟨k - 1, by first | omega | (simp at g1; omega)⟩
   obtain ⟨y, hyq⟩ : ∃ z, A[q]? = some z := ⟨A[q]'(by omega), by simp⟩
   obtain ⟨e1, e2⟩ := bmid_swap (w := b) hyq
   have htl : (A.take q).length = q := by rw [List.length_take]; omega
   have hcu3 : cur = A.take q ++ y :: b :: (A.drop (q + 1) ++ R0) := by
    rw [hcu, ← List.cons_append, ← List.append_assoc, e1]; simp
   have hy : cur[q]? = some y := by rw [hcu3, List.getElem?_append_right (by omega), htl]; simp
   have hyw : cur[q + 1]? = some b := by rw [hcu3, List.getElem?_append_right (by omega), htl, show q + 1 - q = 1 by omega]; rfl
   have hq0n : q < n := by omega
   have hq1n : q + 1 < n := by omega
   have hq0 : (q : Int) < (n : Int) := by omega
   have hq1 : ((q + 1 : Nat) : Int) < (n : Int) := by omega
   have hqw : IntKind.i64.wrap (((q + 1 : Nat) : Int) - 1) = (q : Int) := by rw [wrapI (by omega) (by omega)]; omega
   have l0 := row6_ld hy
   have l1 := row6_ld hyw
   have f0 := row6_f0 hy
   have f1 := row6_f0 hyw
   have s1 : q * 6 + 6 ≤ (rowC (cur.map blPV)).length := by rw [row6_len]; omega
   have s2 : (q + 1) * 6 + 6 ≤ (rowC (cur.map blPV)).length := by rw [row6_len]; omega
   have s3 : (q + 1) * 6 + 6 ≤ (rowC ((cur.set q b).map blPV)).length := by rw [row6_len]; simp; omega
   have p0 := row6_put b (l := cur) (j := q) (by omega)
   have p1 := row6_put y (l := cur.set q b) (j := q + 1) (by simp; omega)
   have hsw : (cur.set q b).set (q + 1) y = A.take q ++ b :: (A.drop q ++ R0) := by
    rw [hcu3, bmid_set htl, List.drop_eq_getElem_cons (show q < A.length by omega), (List.getElem?_eq_some_iff.1 hyq).2]; simp
   simp only [go_sem, hqw, hq0, hq1, iaM_nat hq0n, iaM_nat hq1n, Nat.zero_add, Nat.add_zero, l0, l1, f0, f1, s1, s2, s3, p0, p1, g1]
   try simp (disch := omega) only [wrapI, wrapU]
   try refine And.intro (by repeat' (first | refine And.intro ?_ ?_ | exact trivial | exact GOr_right (fun _ => by simp only [go_sem, hqw, hq0, hq1, iaM_nat hq0n, iaM_nat hq1n, Nat.zero_add, Nat.add_zero, l0, l1, f0, f1, s1, s2, s3, p0, p1]))) ?_
   refine hR _ _ (kq10 _ _ ?_); clear hR R; try clear kq10 kz10
   try simp only [go_sem, hqw, hq0, hq1, iaM_nat hq0n, iaM_nat hq1n, Nat.zero_add, Nat.add_zero, l0, l1, f0, f1, s1, s2, s3, p0, p1]
   refine W_cond rfl (fun c2 => ?_) (fun c2 => ?_)
   ·try simp only [nrm] at c2
    skip
    refine W_skip (kq9 _ _ ?_)
    refine W_seq fun kz11 kq11 => ?_
    refine W_block ?_
    refine W_draw [3, 4, 5] [0, 1, 2, 3, 4, 5, 6, 7, 8, 9, 10, 11, 12, 13, 14, 15, 16, 17] [(3, 17), (4, 17)] [[], [], [1], [], [], [], [], [5, 6], [5, 6, 7], [], [], [10], [9, 10, 11], [9, 10, 11, 12], [0, 1, 2, 5, 6, 7, 8, 9, 10, 11, 12, 13], [0, 1, 2, 5, 6, 7, 8, 9, 10, 11, 12, 13, 14], [0, 1, 2, 3, 4, 5, 6, 7, 8, 9, 10, 11, 12, 13, 14, 15], [0, 1, 2, 3, 4, 5, 6, 7, 8, 9, 10, 11, 12, 13, 14, 15, 16]] mixed (by kernel_rfl) fun R hR => ?_
    simp only [go_sem, hqw, hq0, hq1, iaM_nat hq0n, iaM_nat hq1n, Nat.zero_add, Nat.add_zero, l0, l1, f0, f1, s1, s2, s3, p0, p1]
    try simp (disch := omega) only [wrapI, wrapU]
    try refine And.intro (by repeat' (first | refine And.intro ?_ ?_ | exact trivial | exact GOr_right (fun _ => by simp only [go_sem, hqw, hq0, hq1, iaM_nat hq0n, iaM_nat hq1n, Nat.zero_add, Nat.add_zero, l0, l1, f0, f1, s1, s2, s3, p0, p1]))) ?_
    refine hR _ _ (kq11 _ _ ?_); clear hR R; try clear kq11 kz11
    try simp only [go_sem, hqw, hq0, hq1, iaM_nat hq0n, iaM_nat hq1n, Nat.zero_add, Nat.add_zero, l0, l1, f0, f1, s1, s2, s3, p0, p1]
    refine W_region [3, 4, 5] fun R hR => ?_
    simp only [go_sem, hqw, hq0, hq1, iaM_nat hq0n, iaM_nat hq1n, Nat.zero_add, Nat.add_zero, l0, l1, f0, f1, s1, s2, s3, p0, p1]
    try simp (disch := omega) only [wrapI, wrapU]
    refine hR _ _ ?_; clear hR R
    try simp only [go_sem, hqw, hq0, hq1, iaM_nat hq0n, iaM_nat hq1n, Nat.zero_add, Nat.add_zero, l0, l1, f0, f1, s1, s2, s3, p0, p1]
    refine ⟨(q, A.take q ++ b :: (A.drop q ++ R0)), ?_, by (try simp only []); omega, ?_⟩
    ·exact Weak.eq rfl (by rw [hsw])
    ·try dsimp only
     refine ⟨by omega, rfl, fun z h => ?_, by simp; omega⟩
     rw [List.drop_eq_getElem_cons (by omega), (List.getElem?_eq_some_iff.1 hyq).2] at h
     rcases List.mem_cons.1 h with rfl | h
     ·first | omega | (simp at c2; omega)
     ·exact hdr z h
   ·try simp only [nrm] at c2
    skip
    have hA2 : AscB (A.take (q + 1) ++ b :: A.drop (q + 1)) := basc_mid hA hdr (basc_take hA hyq (by first | omega | (simp at c2; omega)))
    refine W_exit ?_
    simp only [go_sem, hqw, hq0, hq1, iaM_nat hq0n, iaM_nat hq1n, Nat.zero_add, Nat.add_zero, l0, l1, f0, f1, s1, s2, s3, p0, p1]
    refine kq7 _ _ ?_
    refine W_region [3, 4] fun R hR => ?_
    simp only [go_sem, hqw, hq0, hq1, iaM_nat hq0n, iaM_nat hq1n, Nat.zero_add, Nat.add_zero, l0, l1, f0, f1, s1, s2, s3, p0, p1]
    try simp (disch := omega) only [wrapI, wrapU]
    refine hR _ _ ?_; clear hR R
    try simp only [go_sem, hqw, hq0, hq1, iaM_nat hq0n, iaM_nat hq1n, Nat.zero_add, Nat.add_zero, l0, l1, f0, f1, s1, s2, s3, p0, p1]
    refine ⟨(i + 1, cur), ?_, by (try simp only []); omega, ?_⟩
    ·first | exact Weak.refl | exact Weak.eq (by first | rfl | (simp only [go_sem]; done) | (simp only [go_sem]; rfl) | (simp [go_sem]; done) | (simp [go_sem]; omega)) (by first | rfl | (simp only [go_sem]; done) | (simp [go_sem]; done))
    ·try dsimp only
     refine ⟨by omega, hcl2, ?_, ?_⟩
     ·rw [hcu]
      refine perm_mid.trans ?_
      rw [← hme]
      exact hmp
     ·rw [hcu, ← hAl, take_mid]
      exact hA2
  ·try simp only [Bool.not_eq_true', Bool.not_eq_false'] at g1
   have n1 := g1; try simp only [nrm] at n1
   have hk0 : k = 0 := by first | omega | (simp at g1; omega)
   have hA2 : AscB (A.take k ++ b :: A.drop k) := basc_mid hA hdr (fun x h => absurd h (by rw [hk0]; simp))
   simp only [go_sem, g1]
   try simp (disch := omega) only [wrapI, wrapU]
   try refine And.intro (by repeat' (first | refine And.intro ?_ ?_ | exact trivial | exact GOr_right (fun _ => by simp only [go_sem]))) ?_
   refine hR _ _ (kq10 _ _ ?_); clear hR R; try clear kq10 kz10
   try simp only [go_sem]
   refine W_cond_false rfl ?_
   refine W_exit ?_
   simp only [go_sem]
   refine kq7 _ _ ?_
   refine W_region [3, 4] fun R hR => ?_
   simp only [go_sem]
   try simp (disch := omega) only [wrapI, wrapU]
   refine hR _ _ ?_; clear hR R
   try simp only [go_sem]
   refine ⟨(i + 1, cur), ?_, by (try simp only []); omega, ?_⟩
   ·first | exact Weak.refl | exact Weak.eq (by first | rfl | (simp only [go_sem]; done) | (simp only [go_sem]; rfl) | (simp [go_sem]; done) | (simp [go_sem]; omega)) (by first | rfl | (simp only [go_sem]; done) | (simp [go_sem]; done))
   ·try dsimp only
    refine ⟨by omega, hcl2, ?_, ?_⟩
    ·rw [hcu]
     refine perm_mid.trans ?_
     rw [← hme]
     exact hmp
    ·rw [hcu, ← hAl, take_mid]
     exact hA2
 ·try simp only [nrm] at c1
  have hie : n = i := by first | omega | (simp at c1; omega)
  rw [← hie, ← hml, List.take_length] at hma
  have hfin := sortB_uniq hmp hn hma
  refine W_exit ?_
  simp only [go_sem]
  refine kq3 _ _ ?_
  refine W_seq fun kz12 kq12 => ?_
  refine W_weak (Weak.freeze (t := 3) (id := σ.store.length) (len := n) (es := 6) (l := m.map blPV) rfl (by rw [Sg.get_ext0]; rfl) (by simp [hml]) (fun q hq => by obtain ⟨x, _, rfl⟩ := List.mem_map.1 hq; rfl)) ?_
  simp only [go_sem]
  refine W_region [2] fun R hR => ?_
  simp only [go_sem]
  refine hR _ _ (kq12 _ _ ?_); clear hR R; try clear kq12 kz12
  try simp only [go_sem]
  refine W_ret ?_
  simp only [go_sem]
  refine ⟨.inr (by trivial), ?_⟩
  rw [← hfin]
  refine Fin_same hcl rfl (Wk.ro (by simp only [go_sem]) ?_)
  try simp only [go_sem]
  all_goals
   first | rfl | (simp only [go_sem]; done)
theorem sorted_pc2 (Y : YEnv) (σ : Sg) (l : List Ballot) (hl : l.length < 2 ^ 20) (hn : (l.map (·.serial)).Nodup) : PC Try.prog Y 12 [bls l] σ (bls (sortB l)) σ := by
 by_cases h : l = []
 ·subst h; exact sort0_pc Y σ
 ·exact sortN_pc Y σ l h hl hn
set_option maxHeartbeats 8000000 in
theorem led_pc (Y : YEnv) (σ : Sg) (t : Tally) (hT : TlB t) (hu : Up t.songs) :
  PC Try.prog Y 15 [rsPV (resT t)] σ (.bool true) (σ) := by
 refine PC_of_W Try.func15 rfl (by kernel_rfl) Try.ntmps15 (by simp) fun hcl hca => ?_
 obtain ⟨A, hA⟩ : ∃ z, allT t = z := ⟨_, rfl⟩
 obtain ⟨K, hK⟩ : ∃ z, (resT t).kept = z := ⟨_, rfl⟩
 have hRs : resT t = ⟨t.songs, A.map (·.points), A.map (·.votes), A.map (·.score), K⟩ := by rw [← hA, ← hK]; rfl
 have hAs : A.map (·.song) = t.songs := by rw [← hA, allT_song]
 have hAl : A.length = t.songs.length := by rw [← hA, allT_len]
 have hKu : Up K := by rw [← hK]; exact kept_up (by rw [allT_song]; exact hu) _
 have hKm : ∀ x, x ∈ K → has t.songs x = true := fun x hx => by rw [← hK] at hx; rw [has_iff]; exact mem_kept hx
 have hKl : K.length ≤ 8 := by rw [← hK, resT_klen hT.kp.2]; have := hT.kp; have := hT.sl; omega
 have hled := fun (i j : Nat) (a b : Std) => led_ok (i := i) (j := j) (a := a) (b := b) hu hT.kp.1
 rw [hA, hK] at hled
 obtain ⟨P1, hP1⟩ : ∃ z, A.map (·.points) = z := ⟨_, rfl⟩
 obtain ⟨P2, hP2⟩ : ∃ z, A.map (·.votes) = z := ⟨_, rfl⟩
 obtain ⟨P3, hP3⟩ : ∃ z, A.map (·.score) = z := ⟨_, rfl⟩
 have hl1 : P1.length = A.length := by rw [← hP1]; simp
 have hl3 : P3.length = A.length := by rw [← hP3]; simp
 rw [hRs, hP1, hP2, hP3]
 have hsl := hT.sl
 refine W_seq fun kz1 kq1 => ?_
 refine W_region [1] fun R hR => ?_
 simp only [go_sem]
 refine hR _ _ (kq1 _ _ ?_); clear hR R; try clear kq1 kz1
 try simp only [go_sem]
 refine W_seq fun kz2 kq2 => ?_
 refine W_seq fun kz3 kq3 => ?_
 refine W_region [1, 3] fun R hR => ?_
 simp only [go_sem]
 refine hR _ _ (kq3 _ _ ?_); clear hR R; try clear kq3 kz3
 try simp only [go_sem]
 refine W_block ?_
 refine W_loopS (α := Nat) (fun (i : Nat) => [(3, I i)]) (fun (i : Nat) => i ≤ K.length) (fun (i : Nat) => K.length - i) (0) rfl (Nat.zero_le _) ?_
 rintro i hi
 refine W_seq fun kz4 kq4 => ?_
 refine W_seq fun kz5 kq5 => ?_
 refine W_region [1, 3, 11] fun R hR => ?_
 simp only [go_sem]
 refine hR _ _ (kq5 _ _ ?_); clear hR R; try clear kq5 kz5
 try simp only [go_sem]
 refine W_cond rfl (fun c1 => ?_) (fun c1 => ?_)
 ·try simp only [nrm] at c1
  have hi' : i < K.length := by first | omega | (simp at c1; omega)
  obtain ⟨z, hz⟩ : ∃ z, K[i]? = some z := ⟨K[i], by simp [hi']⟩
  have hil : (i : Int) < (K.length : Int) := by omega
  refine W_skip (kq4 _ _ ?_)
  refine W_seq fun kz6 kq6 => ?_
  refine W_block ?_
  refine W_seq fun kz7 kq7 => ?_
  refine W_drawJ [1, 3, 40] [(40, .bool false)] [0, 1, 2, 3, 4, 5, 6, 7, 8, 9, 10, 11, 12, 13, 14, 15, 16, 17, 18, 19, 20, 21, 22, 23, 24, 25, 26] [] [[], [0], [], [2], [], [2, 3, 4], [2, 3, 4, 5], [0, 1, 2, 3, 4, 5, 6], [0, 1, 2, 3, 4, 5, 6, 7], [0, 1, 2, 3, 4, 5, 6, 7, 8], [0, 1, 2, 3, 4, 5, 6, 7, 8, 9], [0, 1, 2, 3, 4, 5, 6, 7, 8, 9, 10], [0, 1, 2, 3, 4, 5, 6, 7, 8, 9, 10, 11], [0, 1, 2, 3, 4, 5, 6, 7, 8, 9, 10, 11, 12], [0, 1, 2, 3, 4, 5, 6, 7, 8, 9, 10, 11, 12, 13], [0, 1, 2, 3, 4, 5, 6, 7, 8, 9, 10, 11, 12], [0, 1, 2, 3, 4, 5, 6, 7, 8, 9, 10, 11, 12, 13, 14, 15], [0, 1, 2, 3, 4, 5, 6, 7, 8, 9, 10, 11, 12, 13, 14, 15, 16], [0, 1, 2, 3, 4, 5, 6, 7, 8, 9, 10, 11, 12], [0, 1, 2, 3, 4, 5, 6, 7, 8, 9, 10, 11, 12, 18], [0, 1, 2, 3, 4, 5, 6, 7, 8, 9, 10, 11, 12], [0, 1, 2, 3, 4, 5, 6, 7, 8, 9, 10, 11, 12, 20], [0, 1, 2, 3, 4, 5, 6, 7, 8, 9, 10, 11, 12, 18, 19, 20, 21], [0, 1, 2, 3, 4, 5, 6, 7, 8, 9, 10, 11, 12, 18, 19, 20, 21, 22], [0, 1, 2, 3, 4, 5, 6, 7, 8, 9, 10, 11, 12, 13, 14, 15, 16, 17, 18, 19, 20, 21, 22, 23], [0, 1, 2, 3, 4, 5, 6, 7, 8, 9, 10, 11, 12, 13, 14, 15, 16, 17, 18, 19, 20, 21, 22, 23, 24], [0, 1, 2, 3, 4, 5, 6, 7, 8, 9, 10, 11, 12, 13, 14, 15, 16, 17, 18, 19, 20, 21, 22, 23, 24, 25]] mixed (by kernel_rfl) ?_ fun R hR => ?_
  ·refine kq7 _ _ ?_
   simp only [go_sem]
   refine W_cond rfl (fun c2 => ?_) (fun c2 => ?_)
   ·try simp only [nrm] at c2
    exfalso
    first | contradiction | (simp at c2)
   ·try simp only [nrm] at c2
    refine W_skip (kq6 _ _ ?_)
    refine W_region [1, 3] fun R hR => ?_
    simp only [go_sem]
    try simp (disch := omega) only [wrapI, wrapU]
    refine hR _ _ ?_; clear hR R
    try simp only [go_sem]
    refine ⟨i + 1, ?_, by (try simp only []); omega, ?_⟩
    ·first | exact Weak.refl | exact Weak.eq (by first | rfl | (simp only [go_sem]; done) | (simp only [go_sem]; rfl) | (simp [go_sem]; done) | (simp [go_sem]; omega)) (by first | rfl | (simp only [go_sem]; done) | (simp [go_sem]; done))
    ·try dsimp only
     exact hi'
  ·simp only [go_sem, hil, hz]
   refine GCall_of (PC.val (v' := .bool true) (Has_pc Y _ t.songs z .ro (by omega)) (by rw [hKm z (List.mem_of_getElem? hz)])) ?_
   simp only [go_sem, hil, hz]
   refine GWant_split (fun g1 => ?_) (fun g1 => ?_)
   ·try simp only [Bool.not_eq_true', Bool.not_eq_false'] at g1
    have n1 := g1; try simp only [nrm] at n1
    obtain ⟨q, rfl⟩ : ∃ q, i = q + 1 := ⟨i - 1, by first | omega | (simp at g1; omega)⟩
    obtain ⟨z0, hz0⟩ : ∃ z, K[q]? = some z := ⟨K[q]'(by omega), by simp⟩
    have hqw : IntKind.i64.wrap (((q + 1 : Nat) : Int) - 1) = (q : Int) := by rw [wrapI (by omega) (by omega)]; omega
    have hql : (q : Int) < (K.length : Int) := by omega
    have hzz : z0 < z := by
     obtain ⟨b1, e1⟩ := List.getElem?_eq_some_iff.1 hz0
     obtain ⟨b2, e2⟩ := List.getElem?_eq_some_iff.1 hz
     have := List.pairwise_iff_getElem.1 hKu q (q + 1) b1 b2 (by omega)
     rw [e1, e2] at this
     exact this
    have hzd : decide (z ≤ z0) = false := decide_eq_false (by omega)
    simp only [go_sem, hqw, hql, hz0, hzd, hil, hz, g1]
    try simp (disch := omega) only [wrapI, wrapU]
    try refine And.intro (by repeat' (first | refine And.intro ?_ ?_ | exact trivial | exact GOr_right (fun _ => by simp only [go_sem, hqw, hql, hz0, hzd, hil, hz]))) ?_
    refine hR _ ?_
    all_goals try simp only [go_sem, hqw, hql, hz0, hzd, hil, hz]
    all_goals
     first | rfl | (simp [*]; done) | (simp_all; done)
   ·try simp only [Bool.not_eq_true', Bool.not_eq_false'] at g1
    have n1 := g1; try simp only [nrm] at n1
    simp only [go_sem, hil, hz, g1]
    try simp (disch := omega) only [wrapI, wrapU]
    try refine And.intro (by repeat' (first | refine And.intro ?_ ?_ | exact trivial | exact GOr_right (fun _ => by simp only [go_sem, hil, hz]))) ?_
    refine hR _ ?_
    all_goals try simp only [go_sem, hil, hz]
    all_goals
     first | rfl | (simp [*]; done) | (simp_all; done)
 ·try simp only [nrm] at c1
  skip
  refine W_exit ?_
  simp only [go_sem]
  refine kq2 _ _ ?_
  refine W_seq fun kz8 kq8 => ?_
  refine W_seq fun kz9 kq9 => ?_
  refine W_region [1, 4] fun R hR => ?_
  simp only [go_sem]
  refine hR _ _ (kq9 _ _ ?_); clear hR R; try clear kq9 kz9
  try simp only [go_sem]
  refine W_block ?_
  refine W_loopS (α := Nat) (fun (a : Nat) => [(4, I a)]) (fun (a : Nat) => a ≤ t.songs.length) (fun (a : Nat) => t.songs.length - a) (0) rfl (Nat.zero_le _) ?_
  rintro a ha
  refine W_seq fun kz10 kq10 => ?_
  refine W_seq fun kz11 kq11 => ?_
  refine W_region [1, 4, 45] fun R hR => ?_
  simp only [go_sem]
  refine hR _ _ (kq11 _ _ ?_); clear hR R; try clear kq11 kz11
  try simp only [go_sem]
  refine W_cond rfl (fun c3 => ?_) (fun c3 => ?_)
  ·try simp only [nrm] at c3
   have hia' : a < t.songs.length := by first | omega | (simp at c3; omega)
   obtain ⟨x, hxx⟩ : ∃ z, A[a]? = some z := ⟨A[a]'(by omega), by simp⟩
   have hlx : (a : Int) < (A.length : Int) := by omega
   have hmx : (a : Int) < (t.songs.length : Int) := by omega
   have h0x : t.songs[a]? = some x.song := by rw [← hAs, List.getElem?_map, hxx]; rfl
   have h1x : P1[a]? = some x.points := by rw [← hP1, List.getElem?_map, hxx]; rfl
   have h3x : P3[a]? = some x.score := by rw [← hP3, List.getElem?_map, hxx]; rfl
   refine W_skip (kq10 _ _ ?_)
   refine W_seq fun kz12 kq12 => ?_
   refine W_block ?_
   refine W_seq fun kz13 kq13 => ?_
   refine W_region [1, 4, 5] fun R hR => ?_
   simp only [go_sem]
   refine hR _ _ (kq13 _ _ ?_); clear hR R; try clear kq13 kz13
   try simp only [go_sem]
   refine W_block ?_
   refine W_loopS (α := Nat) (fun (b : Nat) => [(5, I b)]) (fun (b : Nat) => b ≤ t.songs.length) (fun (b : Nat) => t.songs.length - b) (0) rfl (Nat.zero_le _) ?_
   rintro b hb
   refine W_seq fun kz14 kq14 => ?_
   refine W_seq fun kz15 kq15 => ?_
   refine W_region [1, 4, 5, 52] fun R hR => ?_
   simp only [go_sem]
   refine hR _ _ (kq15 _ _ ?_); clear hR R; try clear kq15 kz15
   try simp only [go_sem]
   refine W_cond rfl (fun c4 => ?_) (fun c4 => ?_)
   ·try simp only [nrm] at c4
    have hib' : b < t.songs.length := by first | omega | (simp at c4; omega)
    obtain ⟨y, hxy⟩ : ∃ z, A[b]? = some z := ⟨A[b]'(by omega), by simp⟩
    have hly : (b : Int) < (A.length : Int) := by omega
    have hmy : (b : Int) < (t.songs.length : Int) := by omega
    have h0y : t.songs[b]? = some y.song := by rw [← hAs, List.getElem?_map, hxy]; rfl
    have h1y : P1[b]? = some y.points := by rw [← hP1, List.getElem?_map, hxy]; rfl
    have h3y : P3[b]? = some y.score := by rw [← hP3, List.getElem?_map, hxy]; rfl
    refine W_skip (kq14 _ _ ?_)
    refine W_seq fun kz16 kq16 => ?_
    refine W_block ?_
    refine W_seq fun kz17 kq17 => ?_
    refine W_seq fun kz18 kq18 => ?_
    refine W_drawJ [1, 4, 5, 73] [(73, .bool (!(has K x.song) || has K y.song))] [0, 1, 2, 3, 4, 5, 6, 7, 8, 9, 10, 11, 12, 13, 14, 15, 16, 17, 18] [] [[], [0], [], [2], [], [2, 3, 4], [2, 3, 4, 5], [0, 1, 2, 3, 4, 5, 6], [0, 1, 2, 3, 4, 5, 6, 7], [0, 1, 2, 3, 4, 5, 6, 7, 8], [0, 1, 2, 3, 4, 5, 6, 7, 8, 9], [0, 1, 2, 3, 4, 5, 6, 7, 8, 9, 10], [0, 1, 2, 3, 4, 5, 6, 7, 8, 9], [0, 1, 2, 3, 4, 5, 6, 7, 8, 9, 12], [0, 1, 2, 3, 4, 5, 6, 7, 8, 9], [0, 1, 2, 3, 4, 5, 6, 7, 8, 9, 12, 13, 14], [0, 1, 2, 3, 4, 5, 6, 7, 8, 9, 12, 13, 14, 15], [0, 1, 2, 3, 4, 5, 6, 7, 8, 9, 10, 11, 12, 13, 14, 15, 16], [0, 1, 2, 3, 4, 5, 6, 7, 8, 9, 10, 11, 12, 13, 14, 15, 16, 17]] mixed (by kernel_rfl) ?_ fun R hR => ?_
    ·refine kq18 _ _ ?_
     simp only [go_sem]
     refine W_cond rfl (fun c5 => ?_) (fun c5 => ?_)
     ·try simp only [nrm] at c5
      refine W_exit ?_
      simp only [go_sem]
      refine kq16 _ _ ?_
      refine W_region [1, 4, 5] fun R hR => ?_
      simp only [go_sem]
      try simp (disch := omega) only [wrapI, wrapU]
      refine hR _ _ ?_; clear hR R
      try simp only [go_sem]
      refine ⟨b + 1, ?_, by (try simp only []); omega, ?_⟩
      ·first | exact Weak.refl | exact Weak.eq (by first | rfl | (simp only [go_sem]; done) | (simp only [go_sem]; rfl) | (simp [go_sem]; done) | (simp [go_sem]; omega)) (by first | rfl | (simp only [go_sem]; done) | (simp [go_sem]; done))
      ·try dsimp only
       exact hib'
     ·try simp only [nrm] at c5
      have hkk : has K x.song = true ∧ has K y.song = false := by simpa using c5
      have hna := hled a b x y hxx hxy hkk.1 hkk.2
      rw [ahd_iff] at hna
      have hn1 : ¬ x.score < y.score := by omega
      refine W_skip (kq17 _ _ ?_)
      refine W_seq fun kz19 kq19 => ?_
      refine W_drawJ [1, 4, 5, 6] [(6, .bool false)] [0, 1, 2, 3, 4, 5, 6, 7, 8, 9, 10, 11, 12, 13, 14, 15, 16, 17, 18, 19, 20, 21, 22, 23, 24, 25, 26, 27, 28, 29, 30, 31, 32, 33, 34, 35, 36, 37, 38, 39, 40, 41, 42, 43, 44, 45, 46, 47, 48, 49, 50, 51, 52, 53, 54, 55, 56, 57, 58, 59, 60, 61, 62, 63] [] [[], [0], [], [0, 1, 2], [0, 1, 2, 3], [], [5], [], [5, 6, 7], [5, 6, 7, 8], [0, 1, 2, 3, 4, 5, 6, 7, 8, 9], [0, 1, 2, 3, 4, 5, 6, 7, 8, 9, 10], [0, 1, 2, 3, 4, 5, 6, 7, 8, 9, 10, 11], [0, 1, 2, 3, 4, 5, 6, 7, 8, 9, 10, 11, 12], [0, 1, 2, 3, 4, 5, 6, 7, 8, 9, 10, 11], [0, 1, 2, 3, 4, 5, 6, 7, 8, 9, 10, 11, 12, 13, 14], [0, 1, 2, 3, 4, 5, 6, 7, 8, 9, 10, 11, 12, 13, 14, 15], [0, 1, 2, 3, 4, 5, 6, 7, 8, 9, 10, 11], [0, 1, 2, 3, 4, 5, 6, 7, 8, 9, 10, 11, 17], [0, 1, 2, 3, 4, 5, 6, 7, 8, 9, 10, 11], [0, 1, 2, 3, 4, 5, 6, 7, 8, 9, 10, 11, 17, 18, 19], [0, 1, 2, 3, 4, 5, 6, 7, 8, 9, 10, 11, 17, 18, 19, 20], [0, 1, 2, 3, 4, 5, 6, 7, 8, 9, 10, 11, 12, 13, 14, 15, 16, 17, 18, 19, 20, 21], [0, 1, 2, 3, 4, 5, 6, 7, 8, 9, 10, 11, 12, 13, 14, 15, 16, 17, 18, 19, 20, 21, 22], [0, 1, 2, 3, 4, 5, 6, 7, 8, 9, 10, 11, 12, 13, 14, 15, 16, 17, 18, 19, 20, 21, 22, 23], [0, 1, 2, 3, 4, 5, 6, 7, 8, 9, 10, 11, 12, 13, 14, 15, 16, 17, 18, 19, 20, 21, 22, 23, 24], [0, 1, 2, 3, 4, 5, 6, 7, 8, 9, 10, 11, 12, 13, 14, 15, 16, 17, 18, 19, 20, 21, 22, 23], [0, 1, 2, 3, 4, 5, 6, 7, 8, 9, 10, 11, 12, 13, 14, 15, 16, 17, 18, 19, 20, 21, 22, 23, 24, 25, 26], [0, 1, 2, 3, 4, 5, 6, 7, 8, 9, 10, 11, 12, 13, 14, 15, 16, 17, 18, 19, 20, 21, 22, 23, 24, 25, 26, 27], [0, 1, 2, 3, 4, 5, 6, 7, 8, 9, 10, 11, 12, 13, 14, 15, 16, 17, 18, 19, 20, 21, 22, 23], [0, 1, 2, 3, 4, 5, 6, 7, 8, 9, 10, 11, 12, 13, 14, 15, 16, 17, 18, 19, 20, 21, 22, 23, 29], [0, 1, 2, 3, 4, 5, 6, 7, 8, 9, 10, 11, 12, 13, 14, 15, 16, 17, 18, 19, 20, 21, 22, 23], [0, 1, 2, 3, 4, 5, 6, 7, 8, 9, 10, 11, 12, 13, 14, 15, 16, 17, 18, 19, 20, 21, 22, 23, 29, 30, 31], [0, 1, 2, 3, 4, 5, 6, 7, 8, 9, 10, 11, 12, 13, 14, 15, 16, 17, 18, 19, 20, 21, 22, 23, 29, 30, 31, 32], [0, 1, 2, 3, 4, 5, 6, 7, 8, 9, 10, 11, 12, 13, 14, 15, 16, 17, 18, 19, 20, 21, 22, 23, 24, 25, 26, 27, 28, 29, 30, 31, 32, 33], [0, 1, 2, 3, 4, 5, 6, 7, 8, 9, 10, 11, 12, 13, 14, 15, 16, 17, 18, 19, 20, 21, 22, 23, 24, 25, 26, 27, 28, 29, 30, 31, 32, 33, 34], [0, 1, 2, 3, 4, 5, 6, 7, 8, 9, 10, 11, 12, 13, 14, 15, 16, 17, 18, 19, 20, 21, 22, 23, 24, 25, 26, 27, 28, 29, 30, 31, 32, 33, 34, 35], [0, 1, 2, 3, 4, 5, 6, 7, 8, 9, 10, 11, 12, 13, 14, 15, 16, 17, 18, 19, 20, 21, 22, 23, 24, 25, 26, 27, 28, 29, 30, 31, 32, 33, 34, 35, 36], [0, 1, 2, 3, 4, 5, 6, 7, 8, 9, 10, 11, 12, 13, 14, 15, 16, 17, 18, 19, 20, 21, 22, 23, 24, 25, 26, 27, 28, 29, 30, 31, 32, 33, 34, 35], [0, 1, 2, 3, 4, 5, 6, 7, 8, 9, 10, 11, 12, 13, 14, 15, 16, 17, 18, 19, 20, 21, 22, 23, 24, 25, 26, 27, 28, 29, 30, 31, 32, 33, 34, 35, 36, 37, 38], [0, 1, 2, 3, 4, 5, 6, 7, 8, 9, 10, 11, 12, 13, 14, 15, 16, 17, 18, 19, 20, 21, 22, 23, 24, 25, 26, 27, 28, 29, 30, 31, 32, 33, 34, 35, 36, 37, 38, 39], [0, 1, 2, 3, 4, 5, 6, 7, 8, 9, 10, 11, 12, 13, 14, 15, 16, 17, 18, 19, 20, 21, 22, 23, 24, 25, 26, 27, 28, 29, 30, 31, 32, 33, 34, 35], [0, 1, 2, 3, 4, 5, 6, 7, 8, 9, 10, 11, 12, 13, 14, 15, 16, 17, 18, 19, 20, 21, 22, 23, 24, 25, 26, 27, 28, 29, 30, 31, 32, 33, 34, 35, 41], [0, 1, 2, 3, 4, 5, 6, 7, 8, 9, 10, 11, 12, 13, 14, 15, 16, 17, 18, 19, 20, 21, 22, 23, 24, 25, 26, 27, 28, 29, 30, 31, 32, 33, 34, 35], [0, 1, 2, 3, 4, 5, 6, 7, 8, 9, 10, 11, 12, 13, 14, 15, 16, 17, 18, 19, 20, 21, 22, 23, 24, 25, 26, 27, 28, 29, 30, 31, 32, 33, 34, 35, 41, 42, 43], [0, 1, 2, 3, 4, 5, 6, 7, 8, 9, 10, 11, 12, 13, 14, 15, 16, 17, 18, 19, 20, 21, 22, 23, 24, 25, 26, 27, 28, 29, 30, 31, 32, 33, 34, 35, 41, 42, 43, 44], [0, 1, 2, 3, 4, 5, 6, 7, 8, 9, 10, 11, 12, 13, 14, 15, 16, 17, 18, 19, 20, 21, 22, 23, 24, 25, 26, 27, 28, 29, 30, 31, 32, 33, 34, 35, 36, 37, 38, 39, 40, 41, 42, 43, 44, 45], [0, 1, 2, 3, 4, 5, 6, 7, 8, 9, 10, 11, 12, 13, 14, 15, 16, 17, 18, 19, 20, 21, 22, 23, 24, 25, 26, 27, 28, 29, 30, 31, 32, 33, 34, 35, 36, 37, 38, 39, 40, 41, 42, 43, 44, 45, 46], [0, 1, 2, 3, 4, 5, 6, 7, 8, 9, 10, 11, 12, 13, 14, 15, 16, 17, 18, 19, 20, 21, 22, 23, 24, 25, 26, 27, 28, 29, 30, 31, 32, 33, 34, 35, 36, 37, 38, 39, 40, 41, 42, 43, 44, 45, 46, 47], [0, 1, 2, 3, 4, 5, 6, 7, 8, 9, 10, 11, 12, 13, 14, 15, 16, 17, 18, 19, 20, 21, 22, 23, 24, 25, 26, 27, 28, 29, 30, 31, 32, 33, 34, 35, 36, 37, 38, 39, 40, 41, 42, 43, 44, 45, 46, 47, 48], [0, 1, 2, 3, 4, 5, 6, 7, 8, 9, 10, 11, 12, 13, 14, 15, 16, 17, 18, 19, 20, 21, 22, 23, 24, 25, 26, 27, 28, 29, 30, 31, 32, 33, 34, 35, 36, 37, 38, 39, 40, 41, 42, 43, 44, 45, 46, 47], [0, 1, 2, 3, 4, 5, 6, 7, 8, 9, 10, 11, 12, 13, 14, 15, 16, 17, 18, 19, 20, 21, 22, 23, 24, 25, 26, 27, 28, 29, 30, 31, 32, 33, 34, 35, 36, 37, 38, 39, 40, 41, 42, 43, 44, 45, 46, 47, 48, 49, 50], [0, 1, 2, 3, 4, 5, 6, 7, 8, 9, 10, 11, 12, 13, 14, 15, 16, 17, 18, 19, 20, 21, 22, 23, 24, 25, 26, 27, 28, 29, 30, 31, 32, 33, 34, 35, 36, 37, 38, 39, 40, 41, 42, 43, 44, 45, 46, 47, 48, 49, 50, 51], [0, 1, 2, 3, 4, 5, 6, 7, 8, 9, 10, 11, 12, 13, 14, 15, 16, 17, 18, 19, 20, 21, 22, 23, 24, 25, 26, 27, 28, 29, 30, 31, 32, 33, 34, 35, 36, 37, 38, 39, 40, 41, 42, 43, 44, 45, 46, 47], [0, 1, 2, 3, 4, 5, 6, 7, 8, 9, 10, 11, 12, 13, 14, 15, 16, 17, 18, 19, 20, 21, 22, 23, 24, 25, 26, 27, 28, 29, 30, 31, 32, 33, 34, 35, 36, 37, 38, 39, 40, 41, 42, 43, 44, 45, 46, 47, 53], [0, 1, 2, 3, 4, 5, 6, 7, 8, 9, 10, 11, 12, 13, 14, 15, 16, 17, 18, 19, 20, 21, 22, 23, 24, 25, 26, 27, 28, 29, 30, 31, 32, 33, 34, 35, 36, 37, 38, 39, 40, 41, 42, 43, 44, 45, 46, 47], [0, 1, 2, 3, 4, 5, 6, 7, 8, 9, 10, 11, 12, 13, 14, 15, 16, 17, 18, 19, 20, 21, 22, 23, 24, 25, 26, 27, 28, 29, 30, 31, 32, 33, 34, 35, 36, 37, 38, 39, 40, 41, 42, 43, 44, 45, 46, 47, 53, 54, 55], [0, 1, 2, 3, 4, 5, 6, 7, 8, 9, 10, 11, 12, 13, 14, 15, 16, 17, 18, 19, 20, 21, 22, 23, 24, 25, 26, 27, 28, 29, 30, 31, 32, 33, 34, 35, 36, 37, 38, 39, 40, 41, 42, 43, 44, 45, 46, 47, 53, 54, 55, 56], [0, 1, 2, 3, 4, 5, 6, 7, 8, 9, 10, 11, 12, 13, 14, 15, 16, 17, 18, 19, 20, 21, 22, 23, 24, 25, 26, 27, 28, 29, 30, 31, 32, 33, 34, 35, 36, 37, 38, 39, 40, 41, 42, 43, 44, 45, 46, 47, 48, 49, 50, 51, 52, 53, 54, 55, 56, 57], [0, 1, 2, 3, 4, 5, 6, 7, 8, 9, 10, 11, 12, 13, 14, 15, 16, 17, 18, 19, 20, 21, 22, 23, 24, 25, 26, 27, 28, 29, 30, 31, 32, 33, 34, 35, 36, 37, 38, 39, 40, 41, 42, 43, 44, 45, 46, 47, 48, 49, 50, 51, 52, 53, 54, 55, 56, 57, 58], [0, 1, 2, 3, 4, 5, 6, 7, 8, 9, 10, 11, 12, 13, 14, 15, 16, 17, 18, 19, 20, 21, 22, 23, 24, 25, 26, 27, 28, 29, 30, 31, 32, 33, 34, 35, 36, 37, 38, 39, 40, 41, 42, 43, 44, 45, 46, 47, 48, 49, 50, 51, 52, 53, 54, 55, 56, 57, 58, 59], [0, 1, 2, 3, 4, 5, 6, 7, 8, 9, 10, 11, 12, 13, 14, 15, 16, 17, 18, 19, 20, 21, 22, 23, 24, 25, 26, 27, 28, 29, 30, 31, 32, 33, 34, 35, 36, 37, 38, 39, 40, 41, 42, 43, 44, 45, 46, 47, 48, 49, 50, 51, 52, 53, 54, 55, 56, 57, 58, 59, 60], [0, 1, 2, 3, 4, 5, 6, 7, 8, 9, 10, 11, 12, 13, 14, 15, 16, 17, 18, 19, 20, 21, 22, 23, 24, 25, 26, 27, 28, 29, 30, 31, 32, 33, 34, 35, 36, 37, 38, 39, 40, 41, 42, 43, 44, 45, 46, 47, 48, 49, 50, 51, 52, 53, 54, 55, 56, 57, 58, 59, 60, 61], [0, 1, 2, 3, 4, 5, 6, 7, 8, 9, 10, 11, 12, 13, 14, 15, 16, 17, 18, 19, 20, 21, 22, 23, 24, 25, 26, 27, 28, 29, 30, 31, 32, 33, 34, 35, 36, 37, 38, 39, 40, 41, 42, 43, 44, 45, 46, 47, 48, 49, 50, 51, 52, 53, 54, 55, 56, 57, 58, 59, 60, 61, 62]] mixed (by kernel_rfl) ?_ fun R hR => ?_
      ·refine kq19 _ _ ?_
       simp only [go_sem]
       refine W_seq fun kz20 kq20 => ?_
       refine W_region [1, 4, 5, 137] fun R hR => ?_
       simp only [go_sem]
       refine hR _ _ (kq20 _ _ ?_); clear hR R; try clear kq20 kz20
       try simp only [go_sem]
       refine W_cond rfl (fun c6 => ?_) (fun c6 => ?_)
       ·try simp only [nrm] at c6
        exfalso
        first | contradiction | (simp at c6)
       ·try simp only [nrm] at c6
        refine W_skip (kq16 _ _ ?_)
        refine W_region [1, 4, 5] fun R hR => ?_
        simp only [go_sem]
        try simp (disch := omega) only [wrapI, wrapU]
        refine hR _ _ ?_; clear hR R
        try simp only [go_sem]
        refine ⟨b + 1, ?_, by (try simp only []); omega, ?_⟩
        ·first | exact Weak.refl | exact Weak.eq (by first | rfl | (simp only [go_sem]; done) | (simp only [go_sem]; rfl) | (simp [go_sem]; done) | (simp [go_sem]; omega)) (by first | rfl | (simp only [go_sem]; done) | (simp [go_sem]; done))
        ·try dsimp only
         exact hib'
      ·simp only [go_sem, hl1, hl3, hlx, hmx, h0x, h1x, h3x, hly, hmy, h0y, h1y, h3y, hn1]
       refine GWant_split (fun g2 => ?_) (fun g2 => ?_)
       ·try simp only [Bool.not_eq_true', Bool.not_eq_false'] at g2
        have n2 := g2; try simp only [nrm] at n2
        have hse : x.score = y.score := by first | omega | simpa using g2
        have hn2 : ¬ x.points < y.points := by omega
        simp only [go_sem, hn2, hl1, hl3, hlx, hmx, h0x, h1x, h3x, hly, hmy, h0y, h1y, h3y, hn1, g2]
        refine GWant_split (fun g3 => ?_) (fun g3 => ?_)
        ·try simp only [Bool.not_eq_true', Bool.not_eq_false'] at g3
         have n3 := g3; try simp only [nrm] at n3
         have hpe : x.points = y.points := by first | omega | simpa using g3
         have hn3 : decide (y.song < x.song) = false := decide_eq_false (by omega)
         simp only [go_sem, hn2, hn3, hl1, hl3, hlx, hmx, h0x, h1x, h3x, hly, hmy, h0y, h1y, h3y, hn1, g2, g3]
         try refine And.intro (by repeat' (first | refine And.intro ?_ ?_ | exact trivial | exact GOr_right (fun _ => by simp only [go_sem, hn2, hn3, hl1, hl3, hlx, hmx, h0x, h1x, h3x, hly, hmy, h0y, h1y, h3y, hn1]))) ?_
         refine hR _ ?_
         all_goals try simp only [go_sem, hn2, hn3, hl1, hl3, hlx, hmx, h0x, h1x, h3x, hly, hmy, h0y, h1y, h3y, hn1]
         all_goals
          first | rfl | (rw [hn3]; done) | (simp [*]; done)
        ·try simp only [Bool.not_eq_true', Bool.not_eq_false'] at g3
         have n3 := g3; try simp only [nrm] at n3
         simp only [go_sem, hn2, hl1, hl3, hlx, hmx, h0x, h1x, h3x, hly, hmy, h0y, h1y, h3y, hn1, g2, g3]
         try refine And.intro (by repeat' (first | refine And.intro ?_ ?_ | exact trivial | exact GOr_right (fun _ => by simp only [go_sem, hn2, hl1, hl3, hlx, hmx, h0x, h1x, h3x, hly, hmy, h0y, h1y, h3y, hn1]))) ?_
         refine hR _ ?_
         all_goals try simp only [go_sem, hn2, hl1, hl3, hlx, hmx, h0x, h1x, h3x, hly, hmy, h0y, h1y, h3y, hn1]
         all_goals
          first | rfl | (rw [hn3]; done) | (simp [*]; done)
       ·try simp only [Bool.not_eq_true', Bool.not_eq_false'] at g2
        have n2 := g2; try simp only [nrm] at n2
        simp only [go_sem, hl1, hl3, hlx, hmx, h0x, h1x, h3x, hly, hmy, h0y, h1y, h3y, hn1, g2]
        try refine And.intro (by repeat' (first | refine And.intro ?_ ?_ | exact trivial | exact GOr_right (fun _ => by simp only [go_sem, hl1, hl3, hlx, hmx, h0x, h1x, h3x, hly, hmy, h0y, h1y, h3y, hn1]))) ?_
        refine hR _ ?_
        all_goals try simp only [go_sem, hl1, hl3, hlx, hmx, h0x, h1x, h3x, hly, hmy, h0y, h1y, h3y, hn1]
        all_goals
         first | rfl | (rw [hn3]; done) | (simp [*]; done)
    ·simp only [go_sem, hlx, hmx, h0x, hly, hmy, h0y]
     refine GCall_of (Has_pc Y _ K x.song .ro (by omega)) ?_
     simp only [go_sem, hlx, hmx, h0x, hly, hmy, h0y]
     refine GWant_split (fun g4 => ?_) (fun g4 => ?_)
     ·try simp only [Bool.not_eq_true', Bool.not_eq_false'] at g4
      have n4 := g4; try simp only [nrm] at n4
      simp only [go_sem, hlx, hmx, h0x, hly, hmy, h0y, g4]
      refine GCall_of (Has_pc Y _ K y.song .ro (by omega)) ?_
      simp only [go_sem, hlx, hmx, h0x, hly, hmy, h0y, g4]
      try refine And.intro (by repeat' (first | refine And.intro ?_ ?_ | exact trivial | exact GOr_right (fun _ => by simp only [go_sem, hlx, hmx, h0x, hly, hmy, h0y]))) ?_
      refine hR _ ?_
      all_goals try simp only [go_sem, hlx, hmx, h0x, hly, hmy, h0y]
      all_goals
       first | rfl | (simp [*]; done) | (simp_all; done)
     ·try simp only [Bool.not_eq_true', Bool.not_eq_false'] at g4
      have n4 := g4; try simp only [nrm] at n4
      simp only [go_sem, hlx, hmx, h0x, hly, hmy, h0y, g4]
      try refine And.intro (by repeat' (first | refine And.intro ?_ ?_ | exact trivial | exact GOr_right (fun _ => by simp only [go_sem, hlx, hmx, h0x, hly, hmy, h0y]))) ?_
      refine hR _ ?_
      all_goals try simp only [go_sem, hlx, hmx, h0x, hly, hmy, h0y]
      all_goals
       first | rfl | (simp [*]; done) | (simp_all; done)
   ·try simp only [nrm] at c4
    skip
    refine W_exit ?_
    simp only [go_sem]
    refine kq12 _ _ ?_
    refine W_region [1, 4] fun R hR => ?_
    simp only [go_sem]
    try simp (disch := omega) only [wrapI, wrapU]
    refine hR _ _ ?_; clear hR R
    try simp only [go_sem]
    refine ⟨a + 1, ?_, by (try simp only []); omega, ?_⟩
    ·first | exact Weak.refl | exact Weak.eq (by first | rfl | (simp only [go_sem]; done) | (simp only [go_sem]; rfl) | (simp [go_sem]; done) | (simp [go_sem]; omega)) (by first | rfl | (simp only [go_sem]; done) | (simp [go_sem]; done))
    ·try dsimp only
     exact hia'
  ·try simp only [nrm] at c3
   skip
   refine W_exit ?_
   simp only [go_sem]
   refine kq8 _ _ ?_
   refine W_seq fun kz21 kq21 => ?_
   refine W_region [2] fun R hR => ?_
   simp only [go_sem]
   refine hR _ _ (kq21 _ _ ?_); clear hR R; try clear kq21 kz21
   try simp only [go_sem]
   refine W_ret ?_
   simp only [go_sem]
   refine ⟨.inr (by trivial), ?_⟩
   refine Fin_same hcl rfl (Wk_eq ?_ (by simp only [go_sem]))
   try simp only [go_sem]
   all_goals
    first | rfl | skip
def addE (ops : Array Oper) (b a : Nat) : Array Oper := (ops.toList.mapIdx fun i o => if i = b then { o with after := o.after.push ⟨a, .data⟩ } else o).toArray
section
variable {P : Program} {Y : YEnv} {N : Nat} {ops : Array Oper} {a b : Nat}
theorem addE_get (i : Nat) : (addE ops b a)[i]? = (ops[i]?).map fun o => if i = b then { o with after := o.after.push ⟨a, .data⟩ } else o := by
 simp [addE]
theorem addE_size : (addE ops b a).size = ops.size := by simp [addE]
theorem addE_dst (i : Nat) : ((addE ops b a)[i]?).bind (·.dst) = (ops[i]?).bind (·.dst) := by
 rw [addE_get]
 cases ops[i]? with
 | none => rfl
 | some o => simp only [Option.map_some, Option.bind_some]; split <;> rfl
theorem yielded_addE (tmps : Array Value) : yielded (addE ops b a) tmps = yielded ops tmps := by
 funext j
 unfold yielded
 rw [addE_dst]
theorem wantedPV_addE (E : Env) (o : Oper) : wantedPV (addE ops b a) E o = wantedPV ops E o := by
 unfold wantedPV
 split
 ·rfl
 ·rw [addE_dst]
theorem undefs_addE : ∀ (l : List Oper) (f : Nat → Oper → Oper) (E : Env), (∀ i o, (f i o).op = o.op ∧ (f i o).dst = o.dst) → undefs (l.mapIdx f) E = undefs l E := by
 intro l
 induction l with
 | nil => intro f E _; rfl
 | cons o l ih =>
  intro f E h
  rw [List.mapIdx_cons]
  simp only [undefs, (h 0 o).1, (h 0 o).2]
  split
  ·exact ih _ _ fun i o => h (i + 1) o
  ·exact ih _ _ fun i o => h (i + 1) o
theorem GD_addE {K : List St → Env → Sg → Prop} : ∀ (is : List Nat) (E : Env) (σ : Sg) (T : List St), GD P Y N ops is E σ T K → GD P Y N (addE ops b a) is E σ T K := by
 intro is
 induction is with
 | nil => intro E σ T h; exact h
 | cons i is ih =>
  intro E σ T h
  simp only [GD] at h ⊢
  rw [addE_get]
  cases ho : ops[i]? with
  | none => rw [ho] at h; exact h
  | some o =>
   rw [ho] at h
   simp only [Option.map_some] at h ⊢
   obtain ⟨h1, h2⟩ := h
   obtain ⟨o', ho', e1, e2, e3⟩ : ∃ o' : Oper, (if i = b then { o with after := o.after.push ⟨a, .data⟩ } else o) = o' ∧ o'.dst = o.dst ∧ o'.op = o.op ∧ o'.guard = o.guard := ⟨_, rfl, by split <;> rfl, by split <;> rfl, by split <;> rfl⟩
   rw [ho']
   have e4 : dstOK N o' = dstOK N o := by unfold dstOK; rw [e1]
   have e5 : wantedPV (addE ops b a) E o' = wantedPV ops E o := by rw [wantedPV_addE]; unfold wantedPV; rw [e3]
   refine ⟨by rw [e4]; exact h1, ?_⟩
   rw [e5, e1, e2]
   cases hw : wantedPV ops E o with
   | none => rw [hw] at h2; exact h2
   | some c =>
    rw [hw] at h2
    cases c with
    | false => exact ih _ _ _ h2
    | true =>
     cases hh : whom E o.op with
     | nobody =>
      rw [hh] at h2
      cases he : effOp P σ E o.op with
      | none => rw [he] at h2; exact h2
      | some r => rw [he] at h2; exact ih _ _ _ h2
     | fn f args =>
      rw [hh] at h2
      obtain ⟨v, σ', k1, k2⟩ := h2
      exact ⟨v, σ', k1, ih _ _ _ k2⟩
     | yield y args =>
      rw [hh] at h2
      obtain ⟨v, σ', k1, k2⟩ := h2
      exact ⟨v, σ', k1, ih _ _ _ k2⟩
theorem GD_mono {K K' : List St → Env → Sg → Prop} (k : ∀ T E σ, K T E σ → K' T E σ) : ∀ (is : List Nat) (E : Env) (σ : Sg) (T : List St), GD P Y N ops is E σ T K → GD P Y N ops is E σ T K' := by
 intro is
 induction is with
 | nil => intro E σ T h; exact k _ _ _ h
 | cons i is ih =>
  intro E σ T h
  simp only [GD] at h ⊢
  cases ho : ops[i]? with
  | none => rw [ho] at h; exact h
  | some o =>
   rw [ho] at h
   simp only at h ⊢
   obtain ⟨h1, h2⟩ := h
   refine ⟨h1, ?_⟩
   cases hw : wantedPV ops E o with
   | none => rw [hw] at h2; exact h2
   | some c =>
    rw [hw] at h2
    cases c with
    | false => exact ih _ _ _ h2
    | true =>
     cases hh : whom E o.op with
     | nobody =>
      rw [hh] at h2
      cases he : effOp P σ E o.op with
      | none => rw [he] at h2; exact h2
      | some r => rw [he] at h2; exact ih _ _ _ h2
     | fn f args =>
      rw [hh] at h2
      obtain ⟨v, σ', k1, k2⟩ := h2
      exact ⟨v, σ', k1, ih _ _ _ k2⟩
     | yield y args =>
      rw [hh] at h2
      obtain ⟨v, σ', k1, k2⟩ := h2
      exact ⟨v, σ', k1, ih _ _ _ k2⟩
theorem Dem_addE {T : List St} {σf : Sg} : ∀ plan : List (Nat × Nat), Dem P ops T σf plan → Dem P (addE ops b a) T σf plan := by
 intro plan
 induction plan with
 | nil => intro h; exact h
 | cons x plan ih =>
  rintro ⟨h1, h2⟩
  obtain ⟨q, p⟩ := x
  refine ⟨?_, ih h2⟩
  simp only at h1 ⊢
  cases hs : T[q]? with
  | none => trivial
  | some s =>
   rw [hs] at h1
   simp only at h1 ⊢
   rw [addE_get]
   cases ho : ops[s.i]? with
   | none => trivial
   | some o =>
    rw [ho] at h1
    simp only [Option.map_some] at h1 ⊢
    rcases h1 with h | h
    ·exact .inl h
    ·refine .inr fun hb => ?_
     have := h hb
     split <;> exact this
variable {F : Fence} {n : Nat} {Q : Exit → Act → World → Prop}
theorem wpOpIn_addE {i : Nat} {K : Act → World → Prop} {x : Act} {w : World} (h : wpOpIn F n P (addE ops b a) Q i K x w) : wpOpIn F n P ops Q i K x w := by
 unfold wpOpIn at h ⊢
 rw [addE_get, yielded_addE] at h
 cases ho : ops[i]? with
 | none => rw [ho] at h; exact h
 | some o =>
  rw [ho] at h
  simp only [Option.map_some] at h ⊢
  split at h <;> exact h
def Behind (b a : Nat) (listed : Array Bool) (l : List Nat) : Prop := ∀ l1 l2, l = l1 ++ b :: l2 → listed.getD a false = true ∨ a ∈ l1
theorem behind_or (hne : a ≠ b) (listed : Array Bool) (ha : listed.getD a false = false) (l : List Nat) : Behind b a listed l ∨ Behind a b listed l := by
 by_cases h : Behind b a listed l
 ·exact .inl h
 ·refine .inr fun m1 m2 e => .inr ?_
  simp only [Behind, Classical.not_forall, not_or] at h
  obtain ⟨l1, l2, e1, _, hn⟩ := h
  rw [e1] at e
  rcases List.append_eq_append_iff.1 e with ⟨x, h1, h2⟩ | ⟨x, h1, h2⟩
  ·cases x with
   | nil => injection h2 with h2 _; exact absurd h2.symm hne
   | cons y x => injection h2 with h2 _; rw [h1, h2]; simp
  ·cases x with
   | nil => injection h2 with h2 _; exact absurd h2 hne
   | cons y x => injection h2 with h2 _; exact absurd (by rw [h1, h2]; simp) hn
theorem Behind.tail {listed : Array Bool} {i : Nat} {l : List Nat} (hi : i < listed.size) (h : Behind b a listed (i :: l)) : Behind b a (listed.setIfInBounds i true) l := by
 intro l1 l2 e
 have hg : ∀ j, (listed.setIfInBounds i true).getD j false = if j = i then true else listed.getD j false := fun j => getL hi
 rcases h (i :: l1) l2 (by rw [e]; rfl) with h | h
 ·left; rw [hg]; split <;> first | rfl | exact h
 ·rcases List.mem_cons.1 h with h | h
  ·left; rw [hg, if_pos h]
  ·exact .inr h
theorem ready_addE {listed : Array Bool} {i : Nat} (h : i ∈ Region.ready .any ops listed) (hb : i = b → listed.getD a false = true) : i ∈ Region.ready .any (addE ops b a) listed := by
 rw [mem_ready] at h ⊢
 obtain ⟨h0, o, ho, h1⟩ := h
 refine ⟨h0, _, by rw [addE_get, ho]; rfl, fun e he hbd => ?_⟩
 simp only at he
 by_cases hib : i = b
 ·rw [if_pos hib] at he
  simp only [Array.mem_push] at he
  rcases he with he | he
  ·exact h1 e he hbd
  ·subst he; exact hb hib
 ·rw [if_neg hib] at he
  exact h1 e he hbd
theorem ready_addE_nil {listed : Array Bool} (h : Region.ready .any ops listed = []) : Region.ready .any (addE ops b a) listed = [] := by
 rw [List.eq_nil_iff_forall_not_mem] at h ⊢
 intro i hi
 apply h i
 rw [mem_ready] at hi ⊢
 obtain ⟨h0, o, ho, h1⟩ := hi
 rw [addE_get] at ho
 cases ho' : ops[i]? with
 | none => rw [ho'] at ho; cases ho
 | some o' =>
  rw [ho'] at ho
  simp only [Option.map_some, Option.some.injEq] at ho
  refine ⟨h0, o', rfl, fun e he hbd => h1 e ?_ hbd⟩
  rw [← ho]
  split
  ·simp [he]
  ·exact he
theorem one_order : ∀ (fuel t : Nat) (listed : Array Bool) (x : Act) (w : World), wpAnyIn F n P .any (addE ops b a) Q fuel listed x w → Behind b a listed (Region.linearise.go .any ops fuel t listed []) →
  listed.size = ops.size → wpOpsIn F n P ops Q (Region.linearise.go .any ops fuel t listed []) x w := by
 intro fuel
 induction fuel with
 | zero => intro t listed x w h _ _; simpa [Region.linearise.go, wpOpsIn] using h.2
 | succ fuel ih =>
  intro t listed x w h hB hsz
  obtain ⟨h₀, h₁⟩ := h
  simp only [Region.linearise.go] at hB ⊢
  change wpOpsIn F n P ops Q (match (Region.ready .any ops listed)[t % (Region.ready .any ops listed).length]? with
   | some i => Region.linearise.go .any ops fuel (t / (Region.ready .any ops listed).length) (listed.setIfInBounds i true) [i]
   | none => [].reverse) x w
  change Behind b a listed (match (Region.ready .any ops listed)[t % (Region.ready .any ops listed).length]? with
   | some i => Region.linearise.go .any ops fuel (t / (Region.ready .any ops listed).length) (listed.setIfInBounds i true) [i]
   | none => [].reverse) at hB
  cases hi : (Region.ready .any ops listed)[t % (Region.ready .any ops listed).length]? with
  | none =>
   have hnil : Region.ready .any ops listed = [] := by
    cases hr : Region.ready .any ops listed with
    | nil => rfl
    | cons i r =>
     exfalso
     rw [hr] at hi
     have := List.getElem?_eq_none_iff.1 hi
     have h2 : t % (i :: r).length < (i :: r).length := Nat.mod_lt _ (by simp)
     omega
   simpa [wpOpsIn] using h₀ (ready_addE_nil hnil)
  | some i =>
   rw [hi] at hB
   simp only at hB ⊢
   rw [linearise_go_acc, List.reverse_singleton, List.singleton_append] at hB ⊢
   rw [wpOpsIn_cons]
   have hm := List.mem_of_getElem? hi
   have hlt : i < listed.size := by
    obtain ⟨_, o, ho, _⟩ := mem_ready.1 hm
    rw [hsz]; exact (Array.getElem?_eq_some_iff.1 ho).1
   refine wpOpIn_addE (b := b) (a := a) ?_
   refine wpOpIn_mono (fun x w hx => ih _ _ x w hx (hB.tail hlt) (by simpa using hsz)) (h₁ i (ready_addE hm fun e => ?_))
   rcases hB [] _ (by rw [e]; rfl) with h | h
   ·exact h
   ·cases h
end
theorem W_draw2J {P : Program} {Y : YEnv} {N : Nat} {rd : Option Nat} {lo : Nat × Nat} {id : Nat} {ops : Array Oper} {E : Env} {σ : Sg} {Q : Exit → Env → Sg → Prop} (a b : Nat) (ks : List Nat) (upd : Env) (σ1 : Sg) (is1 : List Nat) (plan1 : List (Nat × Nat)) (pre1 : List (List Nat)) (is2 : List Nat) (plan2 : List (Nat × Nat)) (pre2 : List (List Nat))
  (hm : P.follows .mixedOrders = true) (hne : a ≠ b) (hc1 : drawOK (addE ops b a) is1 plan1 pre1 = true) (hc2 : drawOK (addE ops a b) is2 plan2 pre2 = true) (rest : Q .normal (keep ks (upd ++ E)) σ1)
  (h1 : ∀ K : Env → Sg → Prop, (∀ E' σ', Weak N lo (keep ks E') σ' (keep ks (upd ++ E)) σ1 → K E' σ') → GD P Y N ops is1 (undefs ops.toList E) σ [] (fun T E' σ' => Dem P ops T.reverse σ' plan1 ∧ K E' σ'))
  (h2 : ∀ K : Env → Sg → Prop, (∀ E' σ', Weak N lo (keep ks E') σ' (keep ks (upd ++ E)) σ1 → K E' σ') → GD P Y N ops is2 (undefs ops.toList E) σ [] (fun T E' σ' => Dem P ops T.reverse σ' plan2 ∧ K E' σ')) : W P Y N rd lo (.region id ops true) E σ Q := by
 intro Ψ0 D hb hy hrd Ψ x w le hr
 have key : ∀ (b a : Nat) (is : List Nat) (plan : List (Nat × Nat)) (pre : List (List Nat)), drawOK (addE ops b a) is plan pre = true →
   (∀ K : Env → Sg → Prop, (∀ E' σ', Weak N lo (keep ks E') σ' (keep ks (upd ++ E)) σ1 → K E' σ') → GD P Y N ops is (undefs ops.toList E) σ [] (fun T E' σ' => Dem P ops T.reverse σ' plan ∧ K E' σ')) →
   wpAnyIn (FnOf Ψ0 rd) 0 P .any (addE ops b a) (Post N D Ψ0 w Q) ops.size (Array.replicate ops.size false) x { w with drawn := w.drawn + 1 } := by
  intro b a is plan pre hc h
  have hu : undefs (addE ops b a).toList E = undefs ops.toList E := by
   have : (addE ops b a).toList = ops.toList.mapIdx fun i o => if i = b then { o with after := o.after.push ⟨a, .data⟩ } else o := by simp [addE]
   rw [this]
   exact undefs_addE _ _ _ fun i o => by split <;> exact ⟨rfl, rfl⟩
  have hg := h (fun E' σ' => Weak N lo (keep ks E') σ' (keep ks (upd ++ E)) σ1) fun _ _ k => k
  have hg2 := GD_addE (b := b) (a := a) _ _ _ _ hg
  rw [← hu] at hg2
  have hd := draw_any (rd := rd) (Q := Post N D Ψ0 w Q) (K := fun E' σ' => Weak N lo (keep ks E') σ' (keep ks (upd ++ E)) σ1) is plan pre hc (GD_mono (K' := fun T E' σ' => Dem P (addE ops b a) T.reverse σ' plan ∧ Weak N lo (keep ks E') σ' (keep ks (upd ++ E)) σ1) (fun T E' σ' k => ⟨Dem_addE _ k.1, k.2⟩) _ _ _ _ hg2) hy le hr fun Ψ' E' σ' a' w' l1 l2 l3 k => by
   obtain ⟨Ψ2, m1, m2⟩ := k Ψ0 Ψ' D a' w' hb l1 (l2.keep ks)
   exact ⟨_, σ1, Ψ2, m1, m2, l3, rest⟩
  rw [addE_size] at hd
  exact hd
 refine wpIn_region_draw fun t => ?_
 simp only [Region.schedule, hm, Bool.true_or, if_true, Region.linearise]
 have hsz : (Array.replicate ops.size false).size = ops.size := by simp
 have hnone : ∀ i, (Array.replicate ops.size false).getD i false = false := fun i => by
  rw [Array.getD_eq_getD_getElem?, Array.getElem?_replicate]
  split <;> rfl
 rcases behind_or hne (Array.replicate ops.size false) (hnone a) (Region.linearise.go .any ops ops.size t (Array.replicate ops.size false) []) with hB | hB
 ·exact one_order _ _ _ _ _ (key b a is1 plan1 pre1 hc1 h1) hB hsz
 ·exact one_order _ _ _ _ _ (key a b is2 plan2 pre2 hc2 h2) hB hsz
end Go.Proofs.Ytnolifglhhjdnaa
