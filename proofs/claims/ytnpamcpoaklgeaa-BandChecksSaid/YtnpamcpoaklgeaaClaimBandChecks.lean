/-
  The law BandChecks: whatever comes in, it answers true and leaves what came in as it was.
  The law BandChecks, walked: cities and bands that may be, and where one may be.
  Walks: where a band may be, its squares (bateriaref07).
  Walk: where a band is (bateriaref07.At).
  Where a band may be, as the reference says: the plain law.
  Where a band may be, and how long a square sleeps: the plain law.
  Walks: a number in a list; streets that are closed.
  Plain law: two bands cross, minute by minute.
  Plain law: two searches for the best choice of bands find the same.
  Plain law: choices of bands: lists of numbers in order, sets as numbers, what is better.
  Walks: the reference's requests, permits, choices (bateriaref07).
  Plain law: what is said to requests.
  Walks: who is granted; true starts; squares; the laws' data.
  Plain law: verdicts on crossings: sure, never, both ways round, with narrower starts.
  Walk: where a band may be (band.Where).
  A slice of numbers that grows in place in a variable's cell, is sorted, compacted, and read at last.
  Facts of this seat's types for maps and made slices.
  Walks: where a band may be (band.Where): its parts.
  Facts of this seat's types for slices that grow in place.
  Sorting and compacting, as the library does it.
  Slices that grow in place, in a variable's cell; a row sorted or written anew by the library.
  Variables renumbered: the live ones, in a new order; whatever speaks of them follows.
  Slices made at once, written and then frozen; rows of numbers written at a place.
  Maps as lists of keys with their values, without the program's types.
  Slices that grow in place: operations without types; a variable moved to another number; a variable that is never written again.
  What may come in: cities and bands; few enough of them.
  Cities and bands made of numbers are valid.
-/
import Derived.Test.YtnpamcpoaklgeaaPe
import Derived.CallsIn
import Derived.RangeFuncLeaves
import Derived.RangeFuncRecord
import Derived.OrdersIn
import Derived.Below
import Derived.Laws.World
import Derived.Laws.StructEq
import Derived.Laws.Append
import Derived.MapKept
import Derived.ProofKit
import Derived.Carry
import Derived.Handed
import Derived.ChangeCalls
import Derived.RangeFuncIn
import Derived.RangeFuncNested
import Derived.Test.YtnpamcpoaklgeaaProg
import Derived.KernelRfl
import Derived.IntWalk
import Derived.Test.YtnpamcpoaklgeaaRows
import Derived.Sort.OwnSortedInts
import Derived.Lib.SlicesCompact
import Derived.Shelf.Sort.Plain
import Derived.Shelf.Slices.In.SortNone
import Derived.Shelf.Slices.CompactI
import Derived.JoinedOf
set_option linter.unusedSimpArgs false
set_option linter.unusedVariables false
namespace Go.Proofs.Ytnpamcpoaklgeaa
open Go Go.RowKit
structure CityV (c : City) : Prop where
  tv : TownV 4 5 1 c.town
  b0 : 0 ≤ c.brk
  b1 : c.brk ≤ 60
  sl : c.sleep.length = c.town.rooms.length
  sv : ∀ n, n ∈ c.sleep → 0 ≤ n ∧ n ≤ 720
theorem cityA_ok {t : Town} {brk : Int} (ht : TownV 4 5 1 t) (h0 : 0 ≤ brk) (h1 : brk ≤ 60) : ∀ (k : Nat) (acc : List Int), acc.length + k = t.rooms.length → (∀ n, n ∈ acc → 0 ≤ n ∧ n ≤ 720) → Holds (cityA t brk k acc) CityV := by
  intro k
  induction k with
  | zero => intro acc hl ha; exact .ret ⟨ht, h0, h1, by simpa using hl, ha⟩
  | succ k ih =>
    intro acc hl ha
    refine (roll_bd 721).bind fun x hx => (mid_bd 300 600 (by omega)).bind fun y hy => (anyOf_mem [0, x, y] (by simp)).bind fun z hz => ih _ (by simp; omega) fun n hn => ?_
    have hz := mem3 hz
    rcases List.mem_append.1 hn with hn | hn
    · exact ha n hn
    · simp only [List.mem_singleton] at hn; subst hn; omega
theorem cityD_ok : Holds cityD CityV := by
  unfold cityD
  refine Holds.bind (R := TownV 4 5 1) townD451 fun t ht => (roll_bd 10).bind fun x hx => (roll_bd 60).bind fun y hy => (anyOf_mem [0, 1, x, y] (by simp)).bind fun brk hb => ?_
  have hb := mem4 hb
  exact cityA_ok ht (by omega) (by omega) _ [] (by simp) (fun n hn => by cases hn)
theorem CityV.chk {c : City} (h : CityV c) : chkCity c = 0 := by
  have := h.b0; have := h.b1
  unfold chkCity
  rw [if_neg (by rw [h.tv.ok (by omega) (by omega) (by omega)]; simp), if_neg (by simp [inR]; omega), if_neg (by simp [h.sl]), if_neg]
  intro hh
  rw [List.any_eq_true] at hh
  obtain ⟨n, hn, hh⟩ := hh
  have := h.sv n hn
  simp [inR] at hh; omega
theorem CityV.small {c : City} (h : CityV c) : c.Small := by
  have := h.tv.r1; have := h.tv.s1; have := h.tv.g1; have := h.sl
  exact ⟨by omega, by omega, by omega, fun g hg => by have := (h.tv.g2 g hg).p1; omega, by omega⟩
structure BandV (c : City) (b : Band) : Prop where
  f0 : 0 ≤ b.first
  f1 : b.first < c.town.rooms.length
  p1 : b.path.length ≤ 4
  p2 : chkPath c.town.streets b.path b.first = 0
  l0 : 0 ≤ b.lo
  l1 : b.lo ≤ b.hi
  l2 : b.hi ≤ b.lo + 4
  s0 : 1 ≤ b.stay
  s1 : b.stay ≤ 20
  q0 : 0 ≤ b.people
  q1 : b.people ≤ 600
  e1 : b.hi + b.stay * ((b.path.length : Int) + 1) ≤ 720
theorem bandP_ok {c : City} {first stay people : Int} (hf0 : 0 ≤ first) (hf1 : first < c.town.rooms.length) (hs0 : 1 ≤ stay) (hs1 : stay ≤ 20) (hp0 : 0 ≤ people) (hp1 : people ≤ 600) : ∀ (k : Nat) (a : Int) (acc : List Int), (k ≠ 0 → 0 < c.town.streets.length) → acc.length + k ≤ 4 →
    chkPath c.town.streets acc first = 0 → pathEnd c.town.streets acc first = a → Holds (bandP c.town.streets first stay people k a acc) (BandV c) := by
  intro k
  induction k with
  | zero =>
    intro a acc _ hl hc _
    have hm := mul_bd (a := stay) (b := (acc.length : Int) + 1) (A := 20) (B := 5) (by omega) hs1 (by omega) (by omega)
    refine (anyOf_mem [60, 200, 720 - stay * ((acc.length : Int) + 1) - 4] (by simp)).bind fun m hm' => (roll_bd m).bind fun st hst => (roll_bd 5).bind fun z hz => (anyOf_mem [0, 0, z] (by simp)).bind fun more hmo => ?_
    have hm' := mem3 hm'
    have hmo := mem3 hmo
    exact .ret ⟨hf0, hf1, by simpa using hl, hc, by (try dsimp only); omega, by (try dsimp only); omega, by (try dsimp only); omega, hs0, hs1, hp0, hp1, by (try dsimp only); omega⟩
  | succ k ih =>
    intro a acc h0 hl hc he
    have hs := h0 (by omega)
    refine (roll_bd c.town.streets.length).bind fun s hsb => ?_
    split
    · rename_i ho
      obtain ⟨q1, q2⟩ := chkPath_snoc (s := s) (by omega) (by omega) acc first hc (by rw [he]; exact ho)
      exact ih _ _ (fun _ => hs) (by simp; omega) q1 (by rw [q2, he])
    · exact ih _ _ (fun _ => hs) (by omega) hc he
theorem bandD_ok {c : City} (hc : CityV c) : Holds (bandD c) (BandV c) := by
  have := hc.tv.r0
  unfold bandD
  refine (roll_bd c.town.rooms.length).bind fun f hf => (anyOf_mem [6, 20] (by simp)).bind fun q hq => ?_
  have hq := mem2 hq
  refine (mid_bd 1 q (by omega)).bind fun st hst => (roll_bd 60).bind fun x hx => (roll_bd 600).bind fun y hy => (anyOf_mem [0, x, y] (by simp)).bind fun p hp => (roll_bd 5).bind fun k hk => ?_
  have hp := mem3 hp
  refine bandP_ok (by omega) (by omega) (by omega) (by omega) (by omega) (by omega) _ _ [] (fun h => ?_) ?_ rfl rfl
  · split at h
    · assumption
    · exact absurd rfl h
  · split <;> simp <;> omega
theorem bandsA_ok {c : City} (hc : CityV c) : ∀ (k : Nat) (acc : List Band) (n : Nat), acc.length + k ≤ n → (∀ b, b ∈ acc → BandV c b) → Holds (bandsA c k acc) fun l => l.length ≤ n ∧ ∀ b, b ∈ l → BandV c b := by
  intro k
  induction k with
  | zero => intro acc n hl ha; exact .ret ⟨by simpa using hl, ha⟩
  | succ k ih =>
    intro acc n hl ha
    refine (bandD_ok hc).bind fun x hx => ih _ n (by simp; omega) fun b hb => ?_
    rcases List.mem_append.1 hb with hb | hb
    · exact ha b hb
    · simp only [List.mem_singleton] at hb; subst hb; exact hx
theorem bandsD_ok {c : City} (hc : CityV c) (most : Nat) : Holds (bandsD c most) fun l => l.length ≤ most ∧ ∀ b, b ∈ l → BandV c b := by
  unfold bandsD
  refine (roll_bd (most + 1)).bind fun k hk => bandsA_ok hc _ [] most (by simp; omega) (fun b hb => by cases hb)
theorem other_of {x : Int × Int} {n a : Int} (h : 0 ≤ x.1 ∧ x.1 < n ∧ 0 ≤ x.2 ∧ x.2 < n ∧ x.1 ≠ x.2) (ho : ¬ other x a < 0) : (a = x.1 ∧ other x a = x.2) ∨ (a ≠ x.1 ∧ a = x.2 ∧ other x a = x.1) := by
  unfold other at ho ⊢
  split at ho
  · rename_i e; exact .inl ⟨e, by rw [if_pos e]⟩
  · rename_i e
    split at ho
    · rename_i e2; exact .inr ⟨e, e2, by rw [if_neg e, if_pos e2]⟩
    · omega
theorem walkSq_of_path {st : List (Int × Int)} {n : Int} (hs : ∀ s, s ∈ st → 0 ≤ s.1 ∧ s.1 < n ∧ 0 ≤ s.2 ∧ s.2 < n ∧ s.1 ≠ s.2) : ∀ (p : List Int) (a : Int) (out : List Int), chkPath st p a = 0 → (walkSq st p a out).2 = 0 := by
  intro p
  induction p with
  | nil => intro a out _; rfl
  | cons k r ih =>
    intro a out h
    simp only [chkPath] at h
    simp only [walkSq]
    split at h
    · cases h
    · rename_i h1
      rw [if_neg h1]
      split at h
      · cases h
      · rename_i x hx
        split at h
        · cases h
        · rename_i ho
          rcases other_of (hs x (List.mem_of_getElem? hx)) ho with ⟨e, e2⟩ | ⟨e, e2, e3⟩
          · (try rw [hx]); (try dsimp only); rw [if_pos e]; rw [e2] at h; exact ih _ _ h
          · (try rw [hx]); (try dsimp only); rw [if_neg e, if_pos e2]; rw [e3] at h; exact ih _ _ h
theorem BandV.chk {c : City} (hc : CityV c) {b : Band} (h : BandV c b) : chkBand c b = 0 := by
  have e : (sqs c b).2 = 0 := by
    have := h.f0; have := h.f1; have := h.p1
    unfold sqs
    rw [if_neg (by simp [inR]; omega), if_neg (by omega)]
    exact walkSq_of_path (chkStreets_inv (chkTown_streets (chkCity_town hc.chk))) _ _ _ h.p2
  have := h.l0; have := h.l1; have := h.l2; have := h.s0; have := h.s1; have := h.q0; have := h.q1; have := h.e1
  have hm := mul_bd (a := b.stay) (b := (b.path.length : Int) + 1) (A := 20) (B := 5) (by omega) (by omega) (by omega) (by have := h.p1; omega)
  have hm2 : b.stay ≤ b.stay * ((b.path.length : Int) + 1) := by
    have := Int.mul_le_mul_of_nonneg_left (show (1 : Int) ≤ (b.path.length : Int) + 1 by omega) (show 0 ≤ b.stay by omega)
    simpa using this
  unfold chkBand
  rw [if_neg (by rw [e]; simp)]
  unfold timesOf
  rw [if_neg (by simp [inR]; omega), if_neg (by simp [inR]; omega), if_neg (by omega), if_neg (by omega), if_neg (by simp [inR]; omega), if_neg (by simp [inR]; omega), if_neg (by omega)]
end Go.Proofs.Ytnpamcpoaklgeaa
namespace Go.Proofs.Ytnpamcpoaklgeaa
open Go Go.RowKit
set_option maxRecDepth 100000
/-- A row of bands, in a row. -/
def bsPV (l : List Band) : PV := .isl (l.map bdPV) .ro
theorem cA_ct {a b c : Nat} {xs : List City} : CleanAll a b c (xs.map ctPV) = True := CleanAll_map clean_ct
theorem cA_bs {a b c : Nat} {xs : List (List Band)} : CleanAll a b c (xs.map bsPV) = True := CleanAll_map fun x => by simp only [bsPV, go_sem]
attribute [go_sem] bsPV cA_ct cA_bs
/-- What may come in. -/
structure City.In (c : City) : Prop where
  hr : c.town.rooms.length * 8 ≤ 140737488351232
  hs : c.town.streets.length * 16 ≤ 140737488351232
  hg : c.town.groups.length * 72 ≤ 140737488351232
  hp : ∀ g, g ∈ c.town.groups → g.path.length * 8 ≤ 140737488351232
  hsl : c.sleep.length * 8 ≤ 140737488351232
def BandsIn (l : List Band) : Prop := l.length * 64 ≤ 140737488351232 ∧ ∀ b, b ∈ l → b.path.length * 8 ≤ 140737488351232
theorem City.In.okc {c : City} (h : c.In) : c.Ok := by
  have := h.hr; have := h.hs; have := h.hg; have := h.hsl
  exact ⟨by omega, by omega, by omega, fun g hg => by have := h.hp g hg; omega, by omega⟩
/-- Few enough of all. -/
structure City.Few (c : City) : Prop where
  hr : c.town.rooms.length ≤ 20
  hs : c.town.streets.length ≤ 20
  hg : c.town.groups.length ≤ 20
  hp : ∀ g, g ∈ c.town.groups → g.path.length ≤ 20
  hsl : c.sleep.length ≤ 20
theorem City.Few.okc {c : City} (h : c.Few) : c.Ok := by
  have := h.hr; have := h.hs; have := h.hg; have := h.hsl
  exact ⟨by omega, by omega, by omega, fun g hg => by have := h.hp g hg; omega, by omega⟩
theorem City.Few.small {c : City} (h : c.Few) : c.Small := by
  have := h.hr; have := h.hs; have := h.hg; have := h.hsl
  exact ⟨by omega, by omega, by omega, fun g hg => by have := h.hp g hg; omega, by omega⟩
theorem CityV.few {c : City} (h : CityV c) : c.Few := by
  have := h.tv.r1; have := h.tv.s1; have := h.tv.g1; have := h.sl
  exact ⟨by omega, by omega, by omega, fun g hg => by have := (h.tv.g2 g hg).p1; omega, by omega⟩
def BandsFew (l : List Band) : Prop := l.length ≤ 12 ∧ ∀ b, b ∈ l → b.path.length ≤ 15
theorem BandsFew.okb {l : List Band} (h : BandsFew l) : BandsOk l := ⟨by have := h.1; omega, fun b hb => by have := h.2 b hb; omega⟩
end Go.Proofs.Ytnpamcpoaklgeaa
namespace Go.Proofs.Ytnpamcpoaklgeaa
open Go Go.RowKit
section
variable {P : Program} {t e : TypeId} {d : TypeDesc} {c b : Nat} {σ : Sg} {id len es : Nat}
theorem iaG_of (h : P.underlying t = some (.slice e)) (he : P.underlying e = some d) (hc : P.cellsOf e = c) (kd : IntKind) (len : Nat) (n : Int) : indexAddrPV P t (.gsl id len es) (.int kd n) = iaM c id 0 len n := by
  simp [indexAddrPV, h, he, hc, iaM]
theorem lenG_of (h : P.underlying t = some (.slice e)) (n : Nat) : lenPV P t (.gsl id n es) = some (.int .i64 n) := by simp [lenPV, h]
theorem lenN_of (h : P.underlying t = some (.slice e)) : lenPV P t .gnil = some (.int .i64 0) := by simp [lenPV, h]
def appG (c b : Nat) (σ : Sg) (x : PV) (m : List PV) : Option (PV × Sg) :=
  if m.all (fun q => (q.cells.length == c) && q.cells.all PV.scalar) && decide (0 < m.length) then
    (match x with
     | .gnil => if m.length * b ≤ 2 ^ 47 then some (.gsl σ.store.length m.length c, σ.push (rowC m)) else none
     | .gsl id len es => match σ.store[id]? with
       | some (some cs) => if es = c ∧ cs.length = len * es ∧ (len + m.length) * b ≤ 2 ^ 47 then some (.gsl σ.store.length (len + m.length) es, (σ.drop id).push (cs ++ rowC m)) else none
       | _ => none
     | _ => none)
  else none
theorem appG_of {zs : List PV} {x : PV} {m : List PV} {own : Own} (h : P.underlying t = some (.slice e)) (he : P.underlying e = some d) (hc : P.cellsOf e = c) (hb : P.bytesOf e = b) (hb0 : b ≠ 0) (hc0 : 0 < c) (hz : zeroPV P e = some zs) (hzl : zs.length = c) :
    appendG P σ t t x (.isl m own) = appG c b σ x m := by
  unfold appendG appG
  rw [h]
  simp only [he, hc, hb, hz, hzl, Option.isSome_some, Bool.true_and, Option.map_some, BEq.rfl, Bool.and_true, hb0, hc0, ne_eq, not_false_eq_true, and_self, decide_true]
  rfl
theorem appG_nil {m : List PV} (h1 : m.all (fun q => (q.cells.length == c) && q.cells.all PV.scalar) = true) (h2 : 0 < m.length) (h3 : m.length * b ≤ 2 ^ 47) : appG c b σ .gnil m = some (.gsl σ.store.length m.length c, σ.push (rowC m)) := by
  simp only [appG, h1, h2, h3, decide_true, Bool.and_true, if_true]
theorem appG_more {m cs : List PV} (hs : σ.store[id]? = some (some cs)) (hl : cs.length = len * c) (h1 : m.all (fun q => (q.cells.length == c) && q.cells.all PV.scalar) = true) (h2 : 0 < m.length) (h3 : (len + m.length) * b ≤ 2 ^ 47) :
    appG c b σ (.gsl id len c) m = some (.gsl σ.store.length (len + m.length) c, (σ.drop id).push (cs ++ rowC m)) := by
  simp only [appG, h1, h2, decide_true, Bool.and_true, if_true, hs]
  rw [if_pos ⟨trivial, hl, h3⟩]
end
theorem get_put1 (E : Env) (t : Nat) (v : PV) (t' : Nat) : (E.put (some t) v).get t' = if t' = t then v else E.get t' := by
  simp only [Env.put_some, Env.get]
  by_cases h : t' = t
  · subst h; simp
  · simp [h, Ne.symm h]
theorem rowC_at {es : Nat} : ∀ {l : List PV} (_ : ∀ q ∈ l, q.cells.length = es) {k j : Nat} {q p : PV}, l[k]? = some q → q.cells[j]? = some p → (rowC l)[k * es + j]? = some p := by
  intro l
  induction l with
  | nil => intro _ k j q p h; simp at h
  | cons a l ih =>
    intro hl k j q p h1 h2
    have ha := hl a (by simp)
    have e : rowC (a :: l) = a.cells ++ rowC l := by simp [rowC]
    rw [e]
    cases k with
    | zero =>
      simp at h1
      subst h1
      rw [Nat.zero_mul, Nat.zero_add, List.getElem?_append_left (List.getElem?_eq_some_iff.1 h2).1]
      exact h2
    | succ k =>
      have := ih (fun q hq => hl q (by simp [hq])) (by simpa using h1) h2
      rw [List.getElem?_append_right (by rw [ha, Nat.add_mul]; omega), ha, show (k + 1) * es + j - es = k * es + j by rw [Nat.add_mul]; omega]
      exact this
theorem Sg.drop_ext {σ : Sg} {l : List (Option (List PV))} {rm : List Nat} {ys : List LState} (j : Nat) : (σ.ext l rm ys).drop (σ.store.length + j) = σ.ext (l.set j none) rm ys := by
  simp [Sg.drop, Sg.ext, List.set_append]
theorem Sg.drop_ext0 {σ : Sg} {l : List (Option (List PV))} {rm : List Nat} {ys : List LState} : (σ.ext l rm ys).drop σ.store.length = σ.ext (l.set 0 none) rm ys := Sg.drop_ext 0
attribute [go_sem] Sg.drop_ext Sg.drop_ext0
end Go.Proofs.Ytnpamcpoaklgeaa
namespace Go.Proofs.Ytnpamcpoaklgeaa
open Go Go.RowKit
/-- A map's entries. -/
def mapE {κ ν : Type} (ek : κ → PV) (ev : ν → PV) (l : List (κ × ν)) : List PV := l.map fun e => .tuple [ek e.1, ev e.2]
theorem mapE_cons {κ ν : Type} (ek : κ → PV) (ev : ν → PV) (e : κ × ν) (l : List (κ × ν)) : mapE ek ev (e :: l) = .tuple [ek e.1, ev e.2] :: mapE ek ev l := rfl
theorem mapE_append {κ ν : Type} (ek : κ → PV) (ev : ν → PV) (l m : List (κ × ν)) : mapE ek ev (l ++ m) = mapE ek ev l ++ mapE ek ev m := by simp [mapE]
section
variable {κ ν : Type} [DecidableEq κ]
def aget (k : κ) : List (κ × ν) → Option ν
  | [] => none
  | e :: l => if k = e.1 then some e.2 else aget k l
def aput (k : κ) (v : ν) : List (κ × ν) → List (κ × ν)
  | [] => [(k, v)]
  | e :: l => if k = e.1 then (k, v) :: l else e :: aput k v l
theorem aget_append (k : κ) : ∀ l m : List (κ × ν), aget k (l ++ m) = match aget k l with | some v => some v | none => aget k m := by
  intro l m
  induction l with
  | nil => rfl
  | cons e l ih =>
    simp only [List.cons_append, aget]
    split
    · rfl
    · exact ih
/-- The keys of a type are told apart as their readings are. -/
def KeyOK (P : Program) (kt : TypeId) (ek : κ → PV) : Prop := ∀ a b, keyEq P kt (ek a) (ek b) = some (decide (a = b))
def afind (k : κ) : List (κ × ν) → Nat → Option (Nat × ν)
  | [], _ => none
  | e :: l, i => if k = e.1 then some (i, e.2) else afind k l (i + 1)
theorem findPV_map {P : Program} {kt : TypeId} {ek : κ → PV} (h : KeyOK P kt ek) (ev : ν → PV) (k : κ) : ∀ (l : List (κ × ν)) (i : Nat), findPV P kt (ek k) (mapE ek ev l) i = some ((afind k l i).map fun r => (r.1, ev r.2)) := by
  intro l
  induction l with
  | nil => intro i; rfl
  | cons e l ih =>
    intro i
    simp only [mapE_cons, findPV, afind]
    rw [h k e.1]
    by_cases he : k = e.1
    · simp [he]
    · simp only [he, decide_false, if_neg, not_false_eq_true]
      exact ih (i + 1)
theorem afind_get (k : κ) : ∀ (l : List (κ × ν)) (i : Nat), (afind k l i).map (·.2) = aget k l := by
  intro l
  induction l with
  | nil => intro i; rfl
  | cons e l ih =>
    intro i
    simp only [afind, aget]
    split
    · rfl
    · exact ih (i + 1)
theorem afind_put (ek : κ → PV) (ev : ν → PV) (k : κ) (v : ν) : ∀ (l : List (κ × ν)) (i : Nat), match afind k l i with
    | none => aput k v l = l ++ [(k, v)]
    | some (j, _) => i ≤ j ∧ (mapE ek ev l).set (j - i) (.tuple [ek k, ev v]) = mapE ek ev (aput k v l) := by
  intro l
  induction l with
  | nil => intro i; rfl
  | cons e l ih =>
    intro i
    simp only [afind, aput]
    by_cases he : k = e.1
    · rw [if_pos he, if_pos he]
      simp [mapE_cons]
    · rw [if_neg he, if_neg he]
      have := ih (i + 1)
      cases hf : afind k l (i + 1) with
      | none => rw [hf] at this; simp only at this ⊢; rw [this]; rfl
      | some r =>
        rw [hf] at this
        obtain ⟨j, x⟩ := r
        simp only at this ⊢
        refine ⟨by omega, ?_⟩
        rw [show j - i = j - (i + 1) + 1 by omega, mapE_cons, List.set_cons_succ, this.2, mapE_cons]
def lkM (P : Program) (kt : TypeId) (z : PV) (b : Option (Option (List PV))) (k : PV) (ok : Bool) : Option PV :=
  match b with
  | some (some (.mark :: es)) => match findPV P kt k es 0 with
    | some (some (_, v)) => some (packPV ok v true)
    | some none => some (packPV ok z false)
    | none => none
  | _ => none
def lkX (P : Program) (kt : TypeId) (z : PV) (σ : Sg) (id : Nat) (k : PV) (ok : Bool) : Option PV := lkM P kt z σ.store[id]? k ok
def upM (P : Program) (kt : TypeId) (b : Option (Option (List PV))) (k v : PV) : Option (List PV) :=
  match b with
  | some (some (.mark :: es)) => match findPV P kt k es 0 with
    | some (some (j, _)) => some (.mark :: es.set j (.tuple [k, v]))
    | some none => some (.mark :: (es ++ [.tuple [k, v]]))
    | none => none
  | _ => none
def upX (P : Program) (kt : TypeId) (σ : Sg) (id : Nat) (k v : PV) : Option Sg := (upM P kt σ.store[id]? k v).map fun cs => σ.setVar id cs
theorem lk_of {P : Program} {t kt et : TypeId} {kd : TypeDesc} {z : PV} (h : P.underlying t = some (.map kt et)) (hk : P.underlying kt = some kd) (hz : zeroOne P et = some z) {k : PV} (hf : keyFor P kd k = true) (σ : Sg) (id : Nat) (ok : Bool) :
    lookupPV P σ t (.map id) k ok = lkX P kt z σ id k ok := by
  simp only [lookupPV, h, hk, hz, hf, if_true, lkX, lkM]
  rfl
theorem up_of {P : Program} {t kt et : TypeId} {kd : TypeDesc} (h : P.underlying t = some (.map kt et)) (hk : P.underlying kt = some kd) {k : PV} (hf : keyFor P kd k = true) (v : PV) (σ : Sg) (id : Nat) :
    updatePV P σ t (.map id) k v = upX P kt σ id k v := by
  simp only [updatePV, h, hk, hf, if_true, upX, upM]
  generalize σ.store[id]? = b
  rcases b with _ | _ | cs
  · rfl
  · rfl
  · rcases cs with _ | ⟨c, cs⟩
    · rfl
    · cases c <;> try rfl
      simp only
      rcases findPV P kt k cs 0 with _ | _ | ⟨j, x⟩ <;> rfl
theorem lkM_map {P : Program} {kt : TypeId} {z : PV} {ek : κ → PV} (h : KeyOK P kt ek) (ev : ν → PV) (l : List (κ × ν)) (k : κ) (ok : Bool) :
    lkM P kt z (some (some (.mark :: mapE ek ev l))) (ek k) ok = some (packPV ok (match aget k l with | some v => ev v | none => z) (aget k l).isSome) := by
  simp only [lkM, findPV_map h]
  rw [← afind_get k l 0]
  cases afind k l 0 with
  | none => rfl
  | some r => rfl
theorem upM_map {P : Program} {kt : TypeId} {ek : κ → PV} (h : KeyOK P kt ek) (ev : ν → PV) (l : List (κ × ν)) (k : κ) (v : ν) :
    upM P kt (some (some (.mark :: mapE ek ev l))) (ek k) (ev v) = some (.mark :: mapE ek ev (aput k v l)) := by
  simp only [upM, findPV_map h]
  have := afind_put ek ev k v l 0
  cases hf : afind k l 0 with
  | none =>
    rw [hf] at this
    simp only at this
    simp only [Option.map_none, this, mapE_append]
    rfl
  | some r =>
    rw [hf] at this
    obtain ⟨j, x⟩ := r
    simp only [Option.map_some]
    have h2 := this.2
    simp only [Nat.sub_zero] at h2
    rw [h2]
end
section
variable {P : Program} {kt : TypeId} {z : PV} {σ : Sg} {l : List (Option (List PV))} {rm : List Nat} {ys : List LState} {j d : Nat} {cs : List PV} {k v : PV} {ok : Bool}
theorem lkX_ext : lkX P kt z (σ.ext l rm ys) (σ.store.length + j) k ok = lkM P kt z l[j]? k ok := by simp only [lkX, Sg.get_ext]
theorem lkX_ext0 : lkX P kt z (σ.ext l rm ys) σ.store.length k ok = lkM P kt z l[0]? k ok := by simp only [lkX, Sg.get_ext0]
theorem upX_ext : upX P kt (σ.ext l rm ys) (σ.store.length + j) k v = (upM P kt l[j]? k v).map fun cs => σ.ext (l.set j (some cs)) rm ys := by simp only [upX, Sg.get_ext, Sg.set_ext]
theorem upX_ext0 : upX P kt (σ.ext l rm ys) σ.store.length k v = (upM P kt l[0]? k v).map fun cs => σ.ext (l.set 0 (some cs)) rm ys := by simp only [upX, Sg.get_ext0, Sg.set_ext0]
theorem lkX_svx : lkX P kt z ((σ.setVar d cs).ext l rm ys) (σ.store.length + j) k ok = lkM P kt z l[j]? k ok := by
  have := lkX_ext (P := P) (kt := kt) (z := z) (σ := σ.setVar d cs) (l := l) (rm := rm) (ys := ys) (j := j) (k := k) (ok := ok)
  rw [sv_len] at this
  exact this
theorem Cl_map {a b c id : Nat} : Clean a b c (.map id) = (id < a) := propext ⟨fun h => by cases h; assumption, fun h => .mapv _ h⟩
theorem Cl_nilmap {a b c : Nat} : Clean a b c .nilmap = True := eq_true .nilmap
theorem Cl_mark {a b c : Nat} : Clean a b c .mark = True := eq_true .mark
theorem Cl_gsl {a b c id len es : Nat} : Clean a b c (.gsl id len es) = (id < a) := propext ⟨fun h => by cases h; assumption, fun h => .gsl _ _ _ h⟩
theorem Cl_gnil {a b c : Nat} : Clean a b c .gnil = True := eq_true .gnil
theorem CleanAll_mapE {κ ν : Type} {a b c : Nat} {ek : κ → PV} {ev : ν → PV} {l : List (κ × ν)} (h1 : ∀ x, Clean a b c (ek x)) (h2 : ∀ x, Clean a b c (ev x)) : CleanAll a b c (mapE ek ev l) = True := eq_true fun p hp => by
  obtain ⟨e, _, rfl⟩ := List.mem_map.1 hp
  refine .tuple _ fun q hq => ?_
  simp only [List.mem_cons, List.not_mem_nil, or_false] at hq
  rcases hq with rfl | rfl
  · exact h1 _
  · exact h2 _
theorem CleanAll_mapI {a b c : Nat} {l : List (Int × Int)} : CleanAll a b c (mapE I I l) = True := CleanAll_mapE (fun _ => .int _ _) (fun _ => .int _ _)
end
end Go.Proofs.Ytnpamcpoaklgeaa
namespace Go.Proofs.Ytnpamcpoaklgeaa
open Go Go.RowKit
/-- What a made slice holds is read of a temporary, and is never written again. -/
theorem Weak.freezeM {N : Nat} {lo : Nat × Nat} {E : Env} {σ : Sg} {t id len es : Nat} {l : List PV} (ht : E.get t = .msl id 0 len) (hs : σ.store[id]? = some (some (rowC l))) (hl : l.length = len) (hes : ∀ q ∈ l, q.cells.length = es) :
    Weak N lo E σ (E.put (some t) (.isl l .ro)) (σ.drop id) := by
  intro Ψ0 Ψ D a w hb le hr
  have hv := hr.env t
  rw [ht] at hv
  generalize hx : a.tmps.getD t undef = x at hv
  cases hv with
  | msl _ _ _ b cap hβ hz0 hc =>
  obtain ⟨_, c, hbk, _⟩ := hr.sg.szok b 0 hz0
  obtain ⟨_, _, hkp⟩ := hr.sg.block id _ b hs hβ
  obtain ⟨a4, a5⟩ := hkp.cells hbk
  obtain ⟨le2, hs2⟩ := hr.sg.freeze hs hβ hbk
  refine ⟨_, le.trans le2, hr.size, fun t' => ?_, hs2, fun d hd => le2.ds _ (hr.dsub d hd), ?_⟩
  · rw [get_put1]
    split
    · rename_i e
      subst e
      rw [hx, ← hl]
      have hat : ∀ (k : Nat) (q : PV) (j : Nat) (p : PV), l[k]? = some q → q.cells[j]? = some p → (rowC l)[k * es + j]? = some p ∧ k * es + j < c.size := fun k q j p q1 q2 => by
        have := rowC_at hes q1 q2
        exact ⟨this, Nat.lt_of_lt_of_le (List.getElem?_eq_some_iff.1 this).1 a4⟩
      refine .isl es l .ro b 0 cap (fun k j => c.getD (k * es + j) undef) (fun k q hk => hes q (List.mem_of_getElem? hk)) (fun k q j p q1 q2 => ?_) (fun k q j p q1 q2 => ?_) (by omega) trivial
      · obtain ⟨_, hlt⟩ := hat k q j p q1 q2
        simp only [Ty.addImm, Nat.zero_add]
        rw [if_pos ⟨trivial, Nat.zero_le _, hlt⟩]
        simp [Array.getD, hlt]
      · obtain ⟨h1, hlt⟩ := hat k q j p q1 q2
        refine (a5 _ p _ h1 ?_).mono le2
        simp [Array.getD, hlt]
    · exact (hr.env t').mono le2
  · obtain ⟨rs, r1, r2, r3⟩ := hr.defs
    exact ⟨rs, r1, r2, fun r hm => ⟨le2.ds _ (r3 r hm).1, (r3 r hm).2⟩⟩
theorem rowC_single {l : List PV} (h : ∀ q, q ∈ l → q.cells = [q]) : rowC l = l := by
  induction l with
  | nil => rfl
  | cons q l ih =>
    have := ih fun q hq => h q (by simp [hq])
    simp only [rowC, List.flatMap_cons] at this ⊢
    rw [h q (by simp), this]
    rfl
theorem rowC_ints (xs : List Int) : rowC (xs.map I) = xs.map I := rowC_single fun q hq => by obtain ⟨x, _, rfl⟩ := List.mem_map.1 hq; rfl
theorem rowC_bools (xs : List Bool) : rowC (xs.map PV.bool) = xs.map PV.bool := rowC_single fun q hq => by obtain ⟨x, _, rfl⟩ := List.mem_map.1 hq; rfl
theorem Weak.freezeB {N : Nat} {lo : Nat × Nat} {E : Env} {σ : Sg} {l : List (Option (List PV))} {rm : List Nat} {ys : List LState} {t j : Nat} {xs : List Bool} (ht : E.get t = .msl (σ.store.length + j) 0 xs.length) (hs : l[j]? = some (some (xs.map PV.bool))) :
    Weak N lo E (σ.ext l rm ys) (E.put (some t) (.isl (xs.map PV.bool) .ro)) (σ.ext (l.set j none) rm ys) := by
  have h := Weak.freezeM (N := N) (lo := lo) (E := E) (σ := σ.ext l rm ys) (t := t) (id := σ.store.length + j) (len := xs.length) (es := 1) (l := xs.map PV.bool) ht (by rw [Sg.get_ext, hs, rowC_bools]) (by simp) (fun q hq => by obtain ⟨x, _, rfl⟩ := List.mem_map.1 hq; rfl)
  rw [Sg.drop_ext] at h
  exact h
theorem mk_of {P : Program} {t e : TypeId} {z : PV} {b : Nat} (h : P.underlying t = some (.slice e)) (hz : zeroPV P e = some [z]) (hb : P.bytesOf e = b) (hc : P.cellsOf e = 1) {σ : Sg} {k : Nat} (hk : k * b ≤ 2 ^ 47) (hk2 : k < 2 ^ 63) :
    makePV P σ t (.int .i64 (k : Int)) (.int .i64 (k : Int)) = some (.msl σ.store.length 0 k, σ.push (List.replicate k z)) := by
  simp only [makePV, h, hz, hb, hc]
  rw [if_pos ⟨trivial, Int.natCast_nonneg k, by rw [← Int.natCast_mul]; omega, by omega, trivial⟩]
  simp
theorem setI {xs : List Int} {i : Nat} {v : Int} : (xs.map I).set i (I v) = (xs.set i v).map I := by rw [List.map_set]
theorem setB {xs : List Bool} {i : Nat} {v : Bool} : (xs.map PV.bool).set i (.bool v) = (xs.set i v).map PV.bool := by rw [List.map_set]
theorem repI (n : Nat) (v : Int) : List.replicate n (I v) = (List.replicate n v).map I := by simp
theorem repB (n : Nat) (v : Bool) : List.replicate n (PV.bool v) = (List.replicate n v).map PV.bool := by simp
end Go.Proofs.Ytnpamcpoaklgeaa
namespace Go.Proofs.Ytnpamcpoaklgeaa
open Go Go.RowKit
def NoGoto (Q : Exit → Env → Sg → Prop) : Exit → Env → Sg → Prop
  | .goto _, _, _ => False
  | e, E, σ => Q e E σ
section
variable {P : Program} {a : Act} {k : List Item} {cs : List Frame} {w : World} {Q : Exit → Env → Sg → Prop}
theorem ngN {E : Env} {σ : Sg} : NoGoto Q .normal E σ = Q .normal E σ := rfl
theorem ngR {E : Env} {σ : Sg} : NoGoto Q .ret E σ = Q .ret E σ := rfl
theorem ngX {E : Env} {σ : Sg} {i : Nat} : NoGoto Q (.exit i) E σ = Q (.exit i) E σ := rfl
attribute [go_sem] ngN ngR ngX
end
end Go.Proofs.Ytnpamcpoaklgeaa
namespace Go.Proofs.Ytnpamcpoaklgeaa
open Go Go.RowKit
/-- A contract of the library's, as a contract. -/
theorem PC_of_calls {P : Program} {Y : YEnv} {f : FuncId} {args : List PV} {σ σ' : Sg} {v : PV} (hg : goFn P f = true)
    (h : ∀ Ψ vals w, SR Ψ σ w → VRs Ψ args vals → Calls P f vals w (fun e w' => ∃ x Ψ', e = .returned x ∧ Ψ.le Ψ' ∧ SR Ψ' σ' w' ∧ VR Ψ' v x ∧ Below Ψ.base w w')) : PC P Y f args σ v σ' :=
  ⟨hg, fun Ψ vals w hs ha _ => callsIn_wide.2 (h Ψ vals w hs ha)⟩
/-- A variable's block is written anew. -/
theorem SR.rewrite {Ψ : Ty} {σ : Sg} {w w' : World} (h : SR Ψ σ w) {id b : Nat} {cs cs' : List PV} {c c' : Array Value} {e : TypeId} (hid : σ.store[id]? = some (some cs)) (hβ : Ψ.β[id]? = some b)
    (hb : w.heap[b]? = some (.cells c e (0, 0))) (hb' : w'.heap[b]? = some (.cells c' e (0, 0))) (hsz : c'.size = c.size) (hz : w.heap.size ≤ w'.heap.size) (ho : ∀ k, k < w.heap.size → k ≠ b → w'.heap[k]? = w.heap[k]?)
    (hl : cs'.length ≤ c'.size) (hv : ∀ (j : Nat) (p : PV) (v : Value), cs'[j]? = some p → c'[j]? = some v → VR Ψ p v) : SR Ψ (σ.setVar id cs') w' := by
  obtain ⟨p1, p2, p3⟩ := h.block id cs b hid hβ
  have old : ∀ (i : Nat) (x : List PV), (σ.setVar id cs').store[i]? = some (some x) → ∃ y, σ.store[i]? = some (some y) := fun i x hx => by
    rcases setVar_some hid hx with ⟨rfl, _⟩ | ⟨_, h'⟩
    · exact ⟨_, hid⟩
    · exact ⟨_, h'⟩
  have hbi : blockIs w b c := ⟨e, hb⟩
  have cel : ∀ b2 o v, b2 ≠ b → w.cell? ⟨b2, o, none⟩ = some v → w'.cell? ⟨b2, o, none⟩ = some v := fun b2 o v hne hv => by
    rw [cell_eq, ho b2 (cell_lt hv) hne, ← cell_eq]; exact hv
  have blk : ∀ b2 c2, b2 ≠ b → blockIs w b2 c2 → blockIs w' b2 c2 := fun b2 c2 hne hk => hk.of_heap (ho b2 hk.lt hne)
  refine ⟨Nat.le_trans h.base hz, fun b2 o v hk => cel b2 o v (fun e2 => by subst e2; rw [p2] at hk; cases hk) (h.imm b2 o v hk), by rw [sv_len]; exact h.blen, ?_, ?_, ?_, h.roomsApart, h.histlt, h.histle, fun i b2 hk => Nat.lt_of_lt_of_le (h.βlt i b2 hk) hz, ?_, h.ylen', ?_, ?_, ?_⟩
  · intro i x b2 hx hb2
    rcases setVar_some hid hx with ⟨rfl, rfl⟩ | ⟨hne, h'⟩
    · have : b2 = b := by rw [hβ] at hb2; injection hb2 with hb2; exact hb2.symm
      subst this
      exact ⟨p1, p2, .inl ⟨c', ⟨e, hb'⟩, hl, hv⟩⟩
    · have hbn : b2 ≠ b := fun e2 => hne (h.apart i id x cs b2 h' hid hb2 (e2 ▸ hβ))
      obtain ⟨a1, a2, a3⟩ := h.block i x b2 h' hb2
      exact ⟨a1, a2, a3.of_heap (ho b2 (h.βlt i b2 hb2) hbn)⟩
  · intro i i' x x' b2 hx hx' hb2 hb2'
    obtain ⟨y, hy⟩ := old i x hx
    obtain ⟨y', hy'⟩ := old i' x' hx'
    exact h.apart i i' y y' b2 hy hy' hb2 hb2'
  · intro r n b2 e2 c2 es hr hh hlt
    obtain ⟨a1, a2, a3, cc, a4, a5⟩ := h.room r n b2 e2 c2 es hr hh hlt
    have hbn : b2 ≠ b := fun e3 => a3 id (e3 ▸ hβ) cs hid
    refine ⟨a1, a2, fun i hi x hx => ?_, cc, blk _ _ hbn a4, a5⟩
    obtain ⟨y, hy⟩ := old i x hx
    exact a3 i hi y hy
  · intro y l d s k1 k2
    obtain ⟨a1, a0, a2⟩ := h.yok y l d s k1 k2
    have hne : l ≠ b := by rintro rfl; rw [hb] at a2; cases a2
    exact ⟨a1, a0, by rw [ho l (heap_lt a2) hne]; exact a2⟩
  · intro d k
    obtain ⟨a1, a2⟩ := h.dok d k
    have hne : d ≠ b := by rintro rfl; rw [hb] at a2; cases a2
    exact ⟨a1, by rw [ho d (heap_lt a2) hne]; exact a2⟩
  · intro b2 c2 hm
    obtain ⟨a1, a2, a3, a4, a5⟩ := h.rok b2 c2 hm
    have hbn : b2 ≠ b := fun e3 => a3 id (e3 ▸ hβ) cs hid
    refine ⟨a1, a2, fun i hi x hx => ?_, a4, blk _ _ hbn a5⟩
    obtain ⟨y, hy⟩ := old i x hx
    exact a3 i hi y hy
  · intro b2 n hm
    obtain ⟨a1, c2, a2, a3⟩ := h.szok b2 n hm
    by_cases hbn : b2 = b
    · subst hbn
      have := a2.eq hbi
      subst this
      exact ⟨a1, c', ⟨e, hb'⟩, by omega⟩
    · exact ⟨a1, c2, blk _ _ hbn a2, a3⟩
section
variable {P : Program} {Y : YEnv} {f : FuncId} {σ : Sg} {id : Nat} {xs ys : List Int}
theorem gsl_row {Ψ : Ty} {w : World} (hs : SR Ψ σ w) {n : Nat} {x : Value} (hid : σ.store[id]? = some (some (xs.map I))) (hn : n = xs.length) (hx : VR Ψ (.gsl id n 1) x) :
    ∃ b c e cap, x = .slice (some ⟨b, 0, none⟩) xs.length cap ∧ Ψ.β[id]? = some b ∧ w.heap[b]? = some (.cells c e (0, 0)) ∧ Sort.Holds (Value.int .i64) w b 0 xs.toArray ∧ xs.length ≤ c.size ∧ xs.length ≤ cap ∧ (b, cap * 1) ∈ Ψ.sz ∧ (b, 0) ∈ Ψ.sz ∧ Ψ.base ≤ b := by
  subst hn
  cases hx with
  | gsl _ _ _ b cap hβ hz hz0 hc =>
    obtain ⟨_, c, ⟨e, hb⟩, _⟩ := hs.szok b 0 hz0
    obtain ⟨p1, _, hk⟩ := hs.block id _ b hid hβ
    obtain ⟨k1, k2⟩ := hk.cells ⟨e, hb⟩
    rw [List.length_map] at k1
    have hbi : blockIs w b c := ⟨e, hb⟩
    refine ⟨b, c, e, cap, rfl, hβ, hb, fun j hj => ?_, k1, hc, hz, hz0, p1⟩
    have hj' : j < xs.length := by simpa using hj
    have hjc : j < c.size := by omega
    refine ⟨?_, hbi.free _⟩
    rw [Nat.zero_add, hbi.cell]
    have := k2 j (I xs[j]) c[j] (by simp [hj']) (by simp [hjc])
    cases hcj : c[j] with
    | _ => (rw [hcj] at this; cases this) <;> simp [hjc, hcj, hj']
theorem SR.row {Ψ : Ty} {w : World} (hs : SR Ψ σ w) {b : Nat} {c : Array Value} {e : TypeId} {n : Nat} {os : Array Obj} (hid : σ.store[id]? = some (some (xs.map I))) (hβ : Ψ.β[id]? = some b) (hb : w.heap[b]? = some (.cells c e (0, 0))) (hl : ys.length = xs.length) (hc : xs.length ≤ c.size) :
    SR Ψ (σ.setVar id (ys.map I)) (Sort.grow (Sort.putRow (Value.int .i64) (Sort.ahead w n) b 0 ys.toArray) os) := by
  have hg := grownBy_sortedI (w := w) (g := b) (n := n) (os := os) ys.toArray
  have ht := take_putCellsI c ys (by omega)
  refine hs.rewrite (c' := Sort.putCells (Value.int .i64) 0 ys.toArray c) hid hβ hb (heap_sortedI (w := w) (n := n) (os := os) ys.toArray hb) (by simp [Sort.putCells]) hg.size (fun k hk hne => hg.block k hk (fun e2 => hne (Option.some.inj e2))) (by simp [Sort.putCells]; omega) ?_
  intro j p v h1 h2
  simp only [List.getElem?_map, Option.map_eq_some_iff] at h1
  obtain ⟨y, hy, rfl⟩ := h1
  have hj := (List.getElem?_eq_some_iff.1 hy).1
  have h3 : ((Sort.putCells (Value.int .i64) 0 ys.toArray c).toList.take ys.length)[j]? = some v := by
    rw [List.getElem?_take_of_lt hj, Array.getElem?_toList]; exact h2
  rw [ht, List.getElem?_map, hy] at h3
  injection h3 with h3
  subst h3
  exact .int _ _
theorem Below.row {Ψ : Ty} {w : World} {b n : Nat} {os : Array Obj} {d : Array Int} (hB : Ψ.base ≤ w.heap.size) (h0 : Ψ.base ≤ b) : Below Ψ.base w (Sort.grow (Sort.putRow (Value.int .i64) (Sort.ahead w n) b 0 d) os) := by
  have hg := grownBy_sortedI (w := w) (g := b) (n := n) (os := os) d
  exact ⟨hg.os, hg.tape, hg.output, hg.size, fun k hk => hg.block k (by omega) (fun e2 => by injection e2 with e2; omega)⟩
/-- What a contract of the library's must say of sorting. -/
def SortsI (P : Program) (f : FuncId) : Prop := goFn P f = true ∧ (∀ (p : Option Addr) (cap : Nat) (w : World), Calls P f #[.slice p 0 cap] w fun e w' => e = .returned (.tuple #[]) ∧ w' = w) ∧
  ∀ (blk off cap : Nat) (zs : List Int) (w : World), Sort.Holds (Value.int .i64) w blk off zs.toArray → blk < w.heap.size → zs.length < 4611686018427387904 → Calls P f #[.slice (some ⟨blk, off, none⟩) zs.length cap] w fun e w' =>
    e = .returned (.tuple #[]) ∧ ∃ n os, w' = Sort.grow (Sort.putRow (Value.int .i64) (Sort.ahead w n) blk off (zs.mergeSort fun x y => decide (x ≤ y)).toArray) os
def sortI (xs : List Int) : List Int := xs.mergeSort fun x y => decide (x ≤ y)
theorem sortI_len (xs : List Int) : (sortI xs).length = xs.length := by simp [sortI, List.length_mergeSort]
theorem PC_sortI (h : SortsI P f) (hid : σ.store[id]? = some (some (xs.map I))) (hl : xs.length < 2 ^ 60) : PC P Y f [.gsl id xs.length 1] σ (.tuple []) (σ.setVar id ((sortI xs).map I)) := by
  refine PC_of_calls h.1 fun Ψ vals w hs ha => ?_
  obtain ⟨x, rfl⟩ : ∃ x, vals = #[x] := by
    have := ha.1
    match vals, this with
    | ⟨[x]⟩, _ => exact ⟨x, rfl⟩
  obtain ⟨b, c, e, cap, rfl, hβ, hb, hH, h1, _, _, _, h0⟩ := gsl_row hs hid rfl (ha.2 0 _ _ rfl rfl)
  have hbl : b < w.heap.size := (Array.getElem?_eq_some_iff.1 hb).1
  refine (h.2.2 b 0 cap xs w hH hbl (by omega)).mono ?_
  rintro e2 w2 ⟨rfl, n, os, rfl⟩
  exact ⟨_, Ψ, rfl, Ty.le.refl _, hs.row hid hβ hb (sortI_len xs) h1, skipped_ok _, Below.row hs.base h0⟩
theorem PC_sort0 (h : SortsI P f) : PC P Y f [.gnil] σ (.tuple []) σ := by
  refine PC_of_calls h.1 fun Ψ vals w hs ha => ?_
  obtain ⟨x, rfl⟩ : ∃ x, vals = #[x] := by
    have := ha.1
    match vals, this with
    | ⟨[x]⟩, _ => exact ⟨x, rfl⟩
  have hx := ha.2 0 _ _ rfl rfl
  cases hx with
  | gnil a =>
    refine (h.2.1 a 0 w).mono ?_
    rintro e2 w2 ⟨rfl, rfl⟩
    exact ⟨_, Ψ, rfl, Ty.le.refl _, hs, skipped_ok _, Below.refl _ _⟩
def CompactsI (P : Program) (f : FuncId) : Prop := goFn P f = true ∧ (∀ (a : Option Addr) (cap : Nat) (w : World), Calls P f #[.slice a 0 cap] w fun e w' => e = .returned (.slice a 0 cap) ∧ w' = w) ∧
  ∀ (blk off cap : Nat) (zs : List Int) (w : World), Sort.Holds (Value.int .i64) w blk off zs.toArray → zs.length ≤ 9223372036854775807 → zs.length ≤ cap → Calls P f #[.slice (some ⟨blk, off, none⟩) zs.length cap] w fun e w' =>
    e = .returned (.slice (some ⟨blk, off, none⟩) (Lib.compact zs).length cap) ∧ ∃ q, w' = Sort.putRow (Value.int .i64) (Sort.ahead w q) blk off (Lib.compact zs ++ List.replicate (zs.length - (Lib.compact zs).length) 0).toArray
theorem compact_len (xs : List Int) : (Lib.compact xs).length ≤ xs.length := by
  unfold Lib.compact Lib.compactUpTo
  rw [List.length_map]
  exact Nat.le_trans (List.length_filter_le _ _) (by simp)
theorem PC_compactI (h : CompactsI P f) (hid : σ.store[id]? = some (some (xs.map I))) (hl : xs.length < 2 ^ 60) :
    PC P Y f [.gsl id xs.length 1] σ (.gsl id (Lib.compact xs).length 1) (σ.setVar id ((Lib.compact xs ++ List.replicate (xs.length - (Lib.compact xs).length) 0).map I)) := by
  refine PC_of_calls h.1 fun Ψ vals w hs ha => ?_
  obtain ⟨x, rfl⟩ : ∃ x, vals = #[x] := by
    have := ha.1
    match vals, this with
    | ⟨[x]⟩, _ => exact ⟨x, rfl⟩
  obtain ⟨b, c, e, cap, rfl, hβ, hb, hH, h1, h2, h3, h4, h0⟩ := gsl_row hs hid rfl (ha.2 0 _ _ rfl rfl)
  refine (h.2.2 b 0 cap xs w hH (by omega) h2).mono ?_
  rintro e2 w2 ⟨rfl, n, rfl⟩
  have hcl := compact_len xs
  have hrow := hs.row (ys := Lib.compact xs ++ List.replicate (xs.length - (Lib.compact xs).length) 0) (n := n) (os := #[]) hid hβ hb (by simp; omega) h1
  have hbel := Below.row (n := n) (os := #[]) (d := (Lib.compact xs ++ List.replicate (xs.length - (Lib.compact xs).length) 0).toArray) hs.base h0
  rw [Sort.grow_empty] at hrow hbel
  exact ⟨_, Ψ, rfl, Ty.le.refl _, hrow, .gsl _ _ _ b cap hβ h3 h4 (by omega), hbel⟩
theorem PC_compact0 (h : CompactsI P f) : PC P Y f [.gnil] σ .gnil σ := by
  refine PC_of_calls h.1 fun Ψ vals w hs ha => ?_
  obtain ⟨x, rfl⟩ : ∃ x, vals = #[x] := by
    have := ha.1
    match vals, this with
    | ⟨[x]⟩, _ => exact ⟨x, rfl⟩
  have hx := ha.2 0 _ _ rfl rfl
  cases hx with
  | gnil a =>
    refine (h.2.1 a 0 w).mono ?_
    rintro e2 w2 ⟨rfl, rfl⟩
    exact ⟨_, Ψ, rfl, Ty.le.refl _, hs, .gnil a, Below.refl _ _⟩
end
section
variable {N : Nat} {lo : Nat × Nat} {E : Env} {σ : Sg}
theorem Keeps.setOne {Ψ : Ty} {w : World} {b off : Nat} {cs : List PV} {p q : PV} (h : Keeps Ψ w b cs) (hp : cs[off]? = some p) (h0 : p ≠ .mark) (h1 : ∀ k v, p ≠ .tuple [k, v]) (hq : ∀ x, VR Ψ p x → VR Ψ q x) : Keeps Ψ w b (cs.set off q) := by
  have hlt : off < cs.length := (List.getElem?_eq_some_iff.1 hp).1
  rcases h with ⟨c, a3, a4, a5⟩ | ⟨arr, es, rfl, a3, a4, a5⟩
  · refine .inl ⟨c, a3, by simpa using a4, fun j r v e1 e2 => ?_⟩
    rw [List.getElem?_set] at e1
    by_cases e : off = j
    · subst e
      rw [if_pos rfl, if_pos hlt] at e1
      injection e1 with e1
      subst e1
      exact hq _ (a5 off p v hp e2)
    · rw [if_neg e] at e1
      exact a5 j r v e1 e2
  · exfalso
    rcases off with _ | off
    · simp at hp; exact h0 hp.symm
    · simp only [List.getElem?_cons_succ] at hp
      have hlt' : off < arr.size := by rw [a4]; exact (List.getElem?_eq_some_iff.1 hp).1
      obtain ⟨_, k, v, e2, _⟩ := a5 off p arr[off] hp (by simp [hlt'])
      exact h1 k v e2
/-- A cell is told otherwise. -/
theorem Weak.cellV {id off : Nat} {cs : List PV} {p q : PV} (hid : σ.store[id]? = some (some cs)) (hc : cs[off]? = some p) (h0 : p ≠ .mark) (h1 : ∀ k v, p ≠ .tuple [k, v]) (hq : ∀ Ψ x, VR Ψ p x → VR Ψ q x) : Weak N lo E σ E (σ.setVar id (cs.set off q)) := by
  intro Ψ0 Ψ D a w hb le hr
  have hs2 := hr.sg.reread (cs' := cs.set off q) hid (fun b hb2 h2 => h2.setOne hc h0 h1 (hq Ψ))
  exact ⟨Ψ, le, hr.size, hr.env, hs2, hr.dsub, hr.defs⟩
theorem VR.to_gnil {Ψ : Ty} {x : Value} (hv : VR Ψ (.isl [] .exact) x) : VR Ψ .gnil x := by
  cases hv with
  | islnil _ a' _ => exact .gnil a'
  | isl es _ _ b o cap vals hs h1 h2 hc ho =>
    have : cap = 0 := ho
    subst this
    exact .gnil _
theorem VR.of_gnil {Ψ : Ty} {x : Value} (hv : VR Ψ .gnil x) : VR Ψ (.isl [] .ro) x := by
  cases hv with
  | gnil a => exact .islnil .ro a trivial
/-- A slice without room in a new variable's cell: to grow in place. -/
theorem Weak.gnilX {l : List (Option (List PV))} {rm : List Nat} {ys : List LState} {j off : Nat} {cs : List PV} (hid : l[j]? = some (some cs)) (hc : cs[off]? = some (.isl [] .exact)) :
    Weak N lo E (σ.ext l rm ys) E (σ.ext (l.set j (some (cs.set off .gnil))) rm ys) := by
  have h := Weak.cellV (N := N) (lo := lo) (E := E) (σ := σ.ext l rm ys) (id := σ.store.length + j) (off := off) (cs := cs) (q := .gnil) (by rw [Sg.get_ext]; exact hid) hc (by simp) (by simp) (fun _ _ => VR.to_gnil)
  rw [Sg.set_ext] at h
  exact h
theorem Weak.ungnilX {l : List (Option (List PV))} {rm : List Nat} {ys : List LState} {j off : Nat} {cs : List PV} (hid : l[j]? = some (some cs)) (hc : cs[off]? = some .gnil) :
    Weak N lo E (σ.ext l rm ys) E (σ.ext (l.set j (some (cs.set off (.isl [] .ro)))) rm ys) := by
  have h := Weak.cellV (N := N) (lo := lo) (E := E) (σ := σ.ext l rm ys) (id := σ.store.length + j) (off := off) (cs := cs) (q := .isl [] .ro) (by rw [Sg.get_ext]; exact hid) hc (by simp) (by simp) (fun _ _ => VR.of_gnil)
  rw [Sg.set_ext] at h
  exact h
/-- What a slice in a cell held is never written again. -/
theorem Weak.freezeV {cid off id len es : Nat} {ccs rest : List PV} {l : List PV} (hne : cid ≠ id) (hcid : σ.store[cid]? = some (some ccs)) (hc : ccs[off]? = some (.gsl id len es)) (hs : σ.store[id]? = some (some (rowC l ++ rest))) (hl : l.length = len) (hes : ∀ q ∈ l, q.cells.length = es) :
    Weak N lo E σ E ((σ.drop id).setVar cid (ccs.set off (.isl l .ro))) := by
  intro Ψ0 Ψ D a w hb le hr
  obtain ⟨b0, hβ0⟩ : ∃ b, Ψ.β[cid]? = some b := by
    have : cid < Ψ.β.length := by rw [hr.sg.blen]; exact (List.getElem?_eq_some_iff.1 hcid).1
    exact ⟨Ψ.β[cid], by simp [this]⟩
  obtain ⟨_, _, hkc⟩ := hr.sg.block cid ccs b0 hcid hβ0
  -- the slice
  have hv : ∃ x, VR Ψ (.gsl id len es) x := by
    rcases hkc with ⟨c, a3, a4, a5⟩ | ⟨arr, es', rfl, a3, a4, a5⟩
    · have hlt : off < c.size := Nat.lt_of_lt_of_le (List.getElem?_eq_some_iff.1 hc).1 a4
      exact ⟨c[off], a5 off _ _ hc (by simp [hlt])⟩
    · rcases off with _ | off
      · simp at hc
      · simp only [List.getElem?_cons_succ] at hc
        have hlt' : off < arr.size := by rw [a4]; exact (List.getElem?_eq_some_iff.1 hc).1
        obtain ⟨_, k, v, e2, _⟩ := a5 off _ arr[off] hc (by simp [hlt'])
        cases e2
  obtain ⟨x0, hx0⟩ := hv
  cases hx0 with
  | gsl _ _ _ b cap hβ hz1 hz0 hcap =>
  obtain ⟨_, c, hbk, _⟩ := hr.sg.szok b 0 hz0
  obtain ⟨_, _, hkp⟩ := hr.sg.block id _ b hs hβ
  obtain ⟨a4, a5⟩ := hkp.cells hbk
  obtain ⟨le2, hs2⟩ := hr.sg.freeze hs hβ hbk
  have hcid2 : (σ.drop id).store[cid]? = some (some ccs) := by
    show (σ.store.set id none)[cid]? = _
    rw [List.getElem?_set_ne (fun e => hne e.symm)]
    exact hcid
  have hat : ∀ (k : Nat) (q : PV) (j : Nat) (p : PV), l[k]? = some q → q.cells[j]? = some p → (rowC l ++ rest)[k * es + j]? = some p ∧ k * es + j < c.size := fun k q j p q1 q2 => by
    have h1 := rowC_at hes q1 q2
    have h2 : (rowC l ++ rest)[k * es + j]? = some p := by rw [List.getElem?_append_left (List.getElem?_eq_some_iff.1 h1).1]; exact h1
    exact ⟨h2, Nat.lt_of_lt_of_le (List.getElem?_eq_some_iff.1 h2).1 a4⟩
  have hs3 := hs2.reread (cs' := ccs.set off (.isl l .ro)) hcid2 (fun b2 hb2 h2 => h2.setOne hc (by simp) (by simp) (fun y hy => by
    cases hy with
    | gsl _ _ _ b' cap' hβ' _ _ hcap' =>
    have hbb : b' = b := by
      have := le2.β id b hβ
      rw [hβ'] at this
      injection this
    subst hbb
    rw [← hl]
    refine .isl es l .ro b' 0 cap' (fun k j => c.getD (k * es + j) undef) (fun k q hk => hes q (List.mem_of_getElem? hk)) (fun k q j p q1 q2 => ?_) (fun k q j p q1 q2 => ?_) (by omega) trivial
    · obtain ⟨_, hlt⟩ := hat k q j p q1 q2
      simp only [Ty.addImm, Nat.zero_add]
      rw [if_pos ⟨trivial, Nat.zero_le _, hlt⟩]
      simp [Array.getD, hlt]
    · obtain ⟨h1, hlt⟩ := hat k q j p q1 q2
      refine (a5 _ p _ h1 ?_).mono le2
      simp [Array.getD, hlt]))
  refine ⟨_, le.trans le2, hr.size, fun t' => (hr.env t').mono le2, hs3, fun d hd => le2.ds _ (hr.dsub d hd), ?_⟩
  obtain ⟨rs, r1, r2, r3⟩ := hr.defs
  exact ⟨rs, r1, r2, fun r hm => ⟨le2.ds _ (r3 r hm).1, (r3 r hm).2⟩⟩
theorem Weak.freezeX {l : List (Option (List PV))} {rm : List Nat} {ys : List LState} {j k off len es : Nat} {ccs rest m : List PV} (hne : j ≠ k) (hcid : l[j]? = some (some ccs)) (hc : ccs[off]? = some (.gsl (σ.store.length + k) len es)) (hs : l[k]? = some (some (rowC m ++ rest))) (hl : m.length = len) (hes : ∀ q ∈ m, q.cells.length = es) :
    Weak N lo E (σ.ext l rm ys) E (σ.ext ((l.set k none).set j (some (ccs.set off (.isl m .ro)))) rm ys) := by
  have h := Weak.freezeV (N := N) (lo := lo) (E := E) (σ := σ.ext l rm ys) (cid := σ.store.length + j) (id := σ.store.length + k) (by omega) (by rw [Sg.get_ext]; exact hcid) hc (by rw [Sg.get_ext]; exact hs) hl hes
  rw [Sg.drop_ext, Sg.set_ext] at h
  exact h
end
end Go.Proofs.Ytnpamcpoaklgeaa
namespace Go.Proofs.Ytnpamcpoaklgeaa
open Go Go.RowKit
set_option maxRecDepth 100000
def lays189_ren : Go.Shelf.Ren := ⟨fun | 189 => 92 | 125 => 127 | 257 => 126 | 128 => 144 | 129 => 145 | 294 => 135 | 295 => 136 | 296 => 137 | 297 => 138 | 298 => 139 | 299 => 140 | 216 => 141 | 300 => 142 | 301 => 143 | 328 => 148 | 329 => 149 | 330 => 150 | 331 => 151 | 332 => 152 | 215 => 133 | 343 => 153 | n => n, fun | 28 => 22 | 3 => 3 | 46 => 97 | 0 => 0 | 51 => 160 | 53 => 90 | 4 => 4 | 183 => 153 | 182 => 152 | 131 => 140 | 5 => 5 | 9 => 9 | 218 => 163 | 222 => 166 | 228 => 168 | 229 => 102 | n => n, fun n => n⟩
theorem lays189 : Lays.n189 Try.prog lays189_ren where
  mixed := by kernel_rfl
  f125 := Try.func127.trans (congrArg some (by kernel_rfl))
  f128 := Try.func144.trans (congrArg some (by kernel_rfl))
  f129 := Try.func145.trans (congrArg some (by kernel_rfl))
  f189 := Try.func92.trans (congrArg some (by kernel_rfl))
  f215 := Try.func133.trans (congrArg some (by kernel_rfl))
  f216 := Try.func141.trans (congrArg some (by kernel_rfl))
  f257 := Try.func126.trans (congrArg some (by kernel_rfl))
  f294 := Try.func135.trans (congrArg some (by kernel_rfl))
  f295 := Try.func136.trans (congrArg some (by kernel_rfl))
  f296 := Try.func137.trans (congrArg some (by kernel_rfl))
  f297 := Try.func138.trans (congrArg some (by kernel_rfl))
  f298 := Try.func139.trans (congrArg some (by kernel_rfl))
  f299 := Try.func140.trans (congrArg some (by kernel_rfl))
  f300 := Try.func142.trans (congrArg some (by kernel_rfl))
  f301 := Try.func143.trans (congrArg some (by kernel_rfl))
  f328 := Try.func148.trans (congrArg some (by kernel_rfl))
  f329 := Try.func149.trans (congrArg some (by kernel_rfl))
  f330 := Try.func150.trans (congrArg some (by kernel_rfl))
  f331 := Try.func151.trans (congrArg some (by kernel_rfl))
  f332 := Try.func152.trans (congrArg some (by kernel_rfl))
  f343 := Try.func153.trans (congrArg some (by kernel_rfl))
  t0 := Try.underlying0
  a0 := Try.isAgg0
  z0 := Try.sizeOf0
  v0 := Try.zeroValue0
  t3 := Try.underlying3
  a3 := Try.isAgg3
  z3 := Try.sizeOf3
  v3 := Try.zeroValue3
  t4 := Try.underlying4
  a4 := Try.isAgg4
  z4 := Try.sizeOf4
  v4 := Try.zeroValue4
  t5 := Try.underlying5
  a5 := Try.isAgg5
  z5 := Try.sizeOf5
  v5 := Try.zeroValue5
  t9 := Try.underlying9
  a9 := Try.isAgg9
  z9 := Try.sizeOf9
  v9 := Try.zeroValue9
  t28 := Try.underlying22
  a28 := Try.isAgg22
  z28 := Try.sizeOf22
  v28 := Try.zeroValue22
  t46 := Try.underlying97
  a46 := Try.isAgg97
  z46 := Try.sizeOf97
  v46 := Try.zeroValue97
  t51 := Try.underlying160
  a51 := Try.isAgg160
  z51 := Try.sizeOf160
  v51 := Try.zeroValue160
  t53 := Try.underlying90
  a53 := Try.isAgg90
  z53 := Try.sizeOf90
  v53 := Try.zeroValue90
  t131 := Try.underlying140
  a131 := Try.isAgg140
  z131 := Try.sizeOf140
  v131 := Try.zeroValue140
  t182 := Try.underlying152
  a182 := Try.isAgg152
  z182 := Try.sizeOf152
  v182 := Try.zeroValue152
  t183 := Try.underlying153
  a183 := Try.isAgg153
  z183 := Try.sizeOf153
  v183 := Try.zeroValue153
  t218 := Try.underlying163
  a218 := Try.isAgg163
  z218 := Try.sizeOf163
  v218 := Try.zeroValue163
  t222 := Try.underlying166
  a222 := Try.isAgg166
  z222 := Try.sizeOf166
  v222 := Try.zeroValue166
  t228 := Try.underlying168
  a228 := Try.isAgg168
  z228 := Try.sizeOf168
  v228 := Try.zeroValue168
  t229 := Try.underlying102
  a229 := Try.isAgg102
  z229 := Try.sizeOf102
  v229 := Try.zeroValue102
def lays2_20_ren : Go.Shelf.Ren := ⟨fun | 20 => 93 | n => n, fun | 22 => 22 | 3 => 3 | 4 => 4 | 0 => 0 | n => n, fun n => n⟩
theorem lays2_20 : Lays2.n20 Try.prog lays2_20_ren where
  mixed := by kernel_rfl
  f20 := Try.func93.trans (congrArg some (by kernel_rfl))
  t0 := Try.underlying0
  a0 := Try.isAgg0
  z0 := Try.sizeOf0
  v0 := Try.zeroValue0
  t3 := Try.underlying3
  a3 := Try.isAgg3
  z3 := Try.sizeOf3
  v3 := Try.zeroValue3
  t4 := Try.underlying4
  a4 := Try.isAgg4
  z4 := Try.sizeOf4
  v4 := Try.zeroValue4
  t22 := Try.underlying22
  a22 := Try.isAgg22
  z22 := Try.sizeOf22
  v22 := Try.zeroValue22
  i3 := by kernel_rfl
theorem sortsI : SortsI Try.prog 92 := ⟨by kernel_rfl, Any.slices_Sort_int_none lays189, Any.slices_Sort_int lays189⟩
theorem compactsI : CompactsI Try.prog 93 := ⟨by kernel_rfl, Any.slices_Compact_int_empty lays2_20, Any.slices_Compact_int lays2_20⟩
end Go.Proofs.Ytnpamcpoaklgeaa
namespace Go.Proofs.Ytnpamcpoaklgeaa
open Go Go.RowKit
theorem appg22 {σ : Sg} {x : PV} {m : List PV} {own : Own} : appendG Try.prog σ 22 22 x (.isl m own) = appG 1 8 σ x m := appG_of Try.underlying22 Try.underlying3 cells3 bytes3 (by decide) (by decide) zero3 rfl
theorem iag22 {id len es : Nat} {k : IntKind} {i : Int} : indexAddrPV Try.prog 22 (.gsl id len es) (.int k i) = iaM 1 id 0 len i := iaG_of Try.underlying22 Try.underlying3 cells3 k len i
theorem leng22 {id n es : Nat} : lenPV Try.prog 22 (.gsl id n es) = some (.int .i64 n) := lenG_of Try.underlying22 n
theorem lenn22 : lenPV Try.prog 22 .gnil = some (.int .i64 0) := lenN_of Try.underlying22
theorem appg23 {σ : Sg} {x : PV} {m : List PV} {own : Own} : appendG Try.prog σ 23 23 x (.isl m own) = appG 2 16 σ x m := appG_of Try.underlying23 Try.underlying76 cells76 bytes76 (by decide) (by decide) zero76 rfl
theorem iag23 {id len es : Nat} {k : IntKind} {i : Int} : indexAddrPV Try.prog 23 (.gsl id len es) (.int k i) = iaM 2 id 0 len i := iaG_of Try.underlying23 Try.underlying76 cells76 k len i
theorem leng23 {id n es : Nat} : lenPV Try.prog 23 (.gsl id n es) = some (.int .i64 n) := lenG_of Try.underlying23 n
theorem lenn23 : lenPV Try.prog 23 .gnil = some (.int .i64 0) := lenN_of Try.underlying23
theorem appg24 {σ : Sg} {x : PV} {m : List PV} {own : Own} : appendG Try.prog σ 24 24 x (.isl m own) = appG 7 72 σ x m := appG_of Try.underlying24 Try.underlying86 cells86 bytes86 (by decide) (by decide) zero86 rfl
theorem iag24 {id len es : Nat} {k : IntKind} {i : Int} : indexAddrPV Try.prog 24 (.gsl id len es) (.int k i) = iaM 7 id 0 len i := iaG_of Try.underlying24 Try.underlying86 cells86 k len i
theorem leng24 {id n es : Nat} : lenPV Try.prog 24 (.gsl id n es) = some (.int .i64 n) := lenG_of Try.underlying24 n
theorem lenn24 : lenPV Try.prog 24 .gnil = some (.int .i64 0) := lenN_of Try.underlying24
theorem appg29 {σ : Sg} {x : PV} {m : List PV} {own : Own} : appendG Try.prog σ 29 29 x (.isl m own) = appG 6 64 σ x m := appG_of Try.underlying29 Try.underlying33 cells33 bytes33 (by decide) (by decide) zero33 rfl
theorem iag29 {id len es : Nat} {k : IntKind} {i : Int} : indexAddrPV Try.prog 29 (.gsl id len es) (.int k i) = iaM 6 id 0 len i := iaG_of Try.underlying29 Try.underlying33 cells33 k len i
theorem leng29 {id n es : Nat} : lenPV Try.prog 29 (.gsl id n es) = some (.int .i64 n) := lenG_of Try.underlying29 n
theorem lenn29 : lenPV Try.prog 29 .gnil = some (.int .i64 0) := lenN_of Try.underlying29
theorem appg41 {σ : Sg} {x : PV} {m : List PV} {own : Own} : appendG Try.prog σ 41 41 x (.isl m own) = appG 6 112 σ x m := appG_of Try.underlying41 Try.underlying28 cells28 bytes28 (by decide) (by decide) zero28 rfl
theorem iag41 {id len es : Nat} {k : IntKind} {i : Int} : indexAddrPV Try.prog 41 (.gsl id len es) (.int k i) = iaM 6 id 0 len i := iaG_of Try.underlying41 Try.underlying28 cells28 k len i
theorem leng41 {id n es : Nat} : lenPV Try.prog 41 (.gsl id n es) = some (.int .i64 n) := lenG_of Try.underlying41 n
theorem lenn41 : lenPV Try.prog 41 .gnil = some (.int .i64 0) := lenN_of Try.underlying41
theorem appg43 {σ : Sg} {x : PV} {m : List PV} {own : Own} : appendG Try.prog σ 43 43 x (.isl m own) = appG 1 24 σ x m := appG_of Try.underlying43 Try.underlying29 cells29 bytes29 (by decide) (by decide) zero29 rfl
theorem iag43 {id len es : Nat} {k : IntKind} {i : Int} : indexAddrPV Try.prog 43 (.gsl id len es) (.int k i) = iaM 1 id 0 len i := iaG_of Try.underlying43 Try.underlying29 cells29 k len i
theorem leng43 {id n es : Nat} : lenPV Try.prog 43 (.gsl id n es) = some (.int .i64 n) := lenG_of Try.underlying43 n
theorem lenn43 : lenPV Try.prog 43 .gnil = some (.int .i64 0) := lenN_of Try.underlying43
theorem appg54 {σ : Sg} {x : PV} {m : List PV} {own : Own} : appendG Try.prog σ 54 54 x (.isl m own) = appG 1 8 σ x m := appG_of Try.underlying54 Try.underlying46 cells46 bytes46 (by decide) (by decide) zero46 rfl
theorem iag54 {id len es : Nat} {k : IntKind} {i : Int} : indexAddrPV Try.prog 54 (.gsl id len es) (.int k i) = iaM 1 id 0 len i := iaG_of Try.underlying54 Try.underlying46 cells46 k len i
theorem leng54 {id n es : Nat} : lenPV Try.prog 54 (.gsl id n es) = some (.int .i64 n) := lenG_of Try.underlying54 n
theorem lenn54 : lenPV Try.prog 54 .gnil = some (.int .i64 0) := lenN_of Try.underlying54
theorem appg71 {σ : Sg} {x : PV} {m : List PV} {own : Own} : appendG Try.prog σ 71 71 x (.isl m own) = appG 1 24 σ x m := appG_of Try.underlying71 Try.underlying22 cells22 bytes22 (by decide) (by decide) zero22 rfl
theorem iag71 {id len es : Nat} {k : IntKind} {i : Int} : indexAddrPV Try.prog 71 (.gsl id len es) (.int k i) = iaM 1 id 0 len i := iaG_of Try.underlying71 Try.underlying22 cells22 k len i
theorem leng71 {id n es : Nat} : lenPV Try.prog 71 (.gsl id n es) = some (.int .i64 n) := lenG_of Try.underlying71 n
theorem lenn71 : lenPV Try.prog 71 .gnil = some (.int .i64 0) := lenN_of Try.underlying71
theorem appg117 {σ : Sg} {x : PV} {m : List PV} {own : Own} : appendG Try.prog σ 117 117 x (.isl m own) = appG 3 24 σ x m := appG_of Try.underlying117 Try.underlying119 cells119 bytes119 (by decide) (by decide) zero119 rfl
theorem iag117 {id len es : Nat} {k : IntKind} {i : Int} : indexAddrPV Try.prog 117 (.gsl id len es) (.int k i) = iaM 3 id 0 len i := iaG_of Try.underlying117 Try.underlying119 cells119 k len i
theorem leng117 {id n es : Nat} : lenPV Try.prog 117 (.gsl id n es) = some (.int .i64 n) := lenG_of Try.underlying117 n
theorem lenn117 : lenPV Try.prog 117 .gnil = some (.int .i64 0) := lenN_of Try.underlying117
theorem appg123 {σ : Sg} {x : PV} {m : List PV} {own : Own} : appendG Try.prog σ 123 123 x (.isl m own) = appG 1 1 σ x m := appG_of Try.underlying123 Try.underlying4 cells4 bytes4 (by decide) (by decide) zero4 rfl
theorem iag123 {id len es : Nat} {k : IntKind} {i : Int} : indexAddrPV Try.prog 123 (.gsl id len es) (.int k i) = iaM 1 id 0 len i := iaG_of Try.underlying123 Try.underlying4 cells4 k len i
theorem leng123 {id n es : Nat} : lenPV Try.prog 123 (.gsl id n es) = some (.int .i64 n) := lenG_of Try.underlying123 n
theorem lenn123 : lenPV Try.prog 123 .gnil = some (.int .i64 0) := lenN_of Try.underlying123
theorem appg150 {σ : Sg} {x : PV} {m : List PV} {own : Own} : appendG Try.prog σ 150 150 x (.isl m own) = appG 1 8 σ x m := appG_of Try.underlying150 Try.underlying107 cells107 bytes107 (by decide) (by decide) zero107 rfl
theorem iag150 {id len es : Nat} {k : IntKind} {i : Int} : indexAddrPV Try.prog 150 (.gsl id len es) (.int k i) = iaM 1 id 0 len i := iaG_of Try.underlying150 Try.underlying107 cells107 k len i
theorem leng150 {id n es : Nat} : lenPV Try.prog 150 (.gsl id n es) = some (.int .i64 n) := lenG_of Try.underlying150 n
theorem lenn150 : lenPV Try.prog 150 .gnil = some (.int .i64 0) := lenN_of Try.underlying150
attribute [go_sem] appg22 iag22 leng22 lenn22 appg23 iag23 leng23 lenn23 appg24 iag24 leng24 lenn24 appg29 iag29 leng29 lenn29 appg41 iag41 leng41 lenn41 appg43 iag43 leng43 lenn43 appg54 iag54 leng54 lenn54 appg71 iag71 leng71 lenn71 appg117 iag117 leng117 lenn117 appg123 iag123 leng123 lenn123 appg150 iag150 leng150 lenn150
end Go.Proofs.Ytnpamcpoaklgeaa
namespace Go.Proofs.Ytnpamcpoaklgeaa
open Go Go.RowKit
set_option maxRecDepth 100000
def vIdx (q : Vis → Bool) : Nat → List Vis → Int
  | _, [] => -1
  | i, x :: r => if q x then i else vIdx q (i + 1) r
set_option maxHeartbeats 2000000 in
theorem where1_pc (Y : YEnv) (σ : Sg) (v : Vis) (minute : Int) (d : Nat) (hd : σ.store[d]? = some (some [I minute])) :
    PC Try.prog Y 91 [vsPV v, .ptr d 0] σ (.bool (inR minute v.lo v.hi)) (σ) := by
  refine PC_of_W Try.func91 rfl (by kernel_rfl) Try.ntmps91 (by simp) fun hcl hca => ?_
  have hlt := lt_of_get hd
  refine W_seq fun kz1 kq1 => ?_
  refine W_region [1, 2] fun R hR => ?_   -- r0
  simp only [go_sem, ldS_at hd, ldS_old hlt]
  refine hR _ _ (kq1 _ _ ?_); clear hR R; try clear kq1 kz1
  try simp only [go_sem, ldS_at hd, ldS_old hlt]
  refine W_seq fun kz2 kq2 => ?_
  refine W_region [3] fun R hR => ?_   -- r1
  simp only [go_sem, ldS_at hd, ldS_old hlt]
  refine GCall_of (in_pc Y _ minute v.lo v.hi) ?_   -- t11
  simp only [go_sem, ldS_at hd, ldS_old hlt]
  refine hR _ _ (kq2 _ _ ?_); clear hR R; try clear kq2 kz2
  try simp only [go_sem, ldS_at hd, ldS_old hlt]
  refine W_ret ?_
  simp only [go_sem, ldS_at hd, ldS_old hlt]
  refine ⟨.inr (by trivial), ?_⟩
  first | refine Fin_same hcl rfl (Wk_eq ?_ (by simp only [go_sem])) | refine Fin_self hcl rfl (Wk_eq ?_ (by simp only [go_sem]))
  try simp only [go_sem]
  all_goals
    first | rfl | (simp_all; done) | (simp_all; omega)
set_option maxHeartbeats 2000000 in
theorem vindex_pc (Y : YEnv) (σ : Sg) (l : List Vis) (o : Own) (hl : l.length < 2 ^ 62) (g : FuncId) (cap : PV) (q : Vis → Bool) (hq : ∀ (x : Vis), PC Try.prog Y g [vsPV x, cap] σ (.bool (q x)) σ) :
    PC Try.prog Y 89 [.isl (l.map vsPV) o, .func (.func g) [] [cap]] σ (I (vIdx q 0 l)) (σ) := by
  refine PC_of_W Try.func89 rfl (by kernel_rfl) Try.ntmps89 (by simp) fun hcl hca => ?_
  refine W_seq fun kz1 kq1 => ?_
  refine W_region [0, 1] fun R hR => ?_   -- r0
  simp only [go_sem]
  refine hR _ _ (kq1 _ _ ?_); clear hR R; try clear kq1 kz1
  try simp only [go_sem]
  refine W_seq fun kz2 kq2 => ?_
  refine W_seq fun kz3 kq3 => ?_
  refine W_region [0, 1, 7, 8] fun R hR => ?_   -- r1
  simp only [go_sem]
  refine hR _ _ (kq3 _ _ ?_); clear hR R; try clear kq3 kz3
  try simp only [go_sem]
  refine W_block ?_
  refine W_loopS (α := Nat) (fun (i : Nat) => [(8, I i)]) (fun (i : Nat) => i ≤ l.length ∧ vIdx q i (l.drop i) = vIdx q 0 l) (fun (i : Nat) => l.length - i) (0) rfl (by simp) ?_
  rintro i ⟨hi, hinv⟩
  refine W_seq fun kz4 kq4 => ?_
  refine W_region [0, 1, 7, 8, 9] fun R hR => ?_   -- r2
  simp only [go_sem]
  refine hR _ _ (kq4 _ _ ?_); clear hR R; try clear kq4 kz4
  try simp only [go_sem]
  refine W_seq fun kz5 kq5 => ?_
  refine W_cond rfl (fun c1 => ?_) (fun c1 => ?_)
  · -- c1 true
    try simp only [nrm] at c1
    have hi' : i < l.length := by first | assumption | omega
    obtain ⟨x, hx⟩ : ∃ x, l[i]? = some x := ⟨l[i], by simp [hi']⟩
    have hdrop : l.drop i = x :: l.drop (i + 1) := by
      rw [List.drop_eq_getElem_cons hi']; congr 1; exact (List.getElem?_eq_some_iff.1 hx).2
    rw [hdrop] at hinv
    simp only [vIdx] at hinv
    refine W_skip (kq5 _ _ ?_)
    refine W_seq fun kz6 kq6 => ?_
    refine W_block ?_
    refine W_seq fun kz7 kq7 => ?_
    refine W_region [0, 1, 5, 7, 8] fun R hR => ?_   -- r3
    simp only [go_sem, hx]
    refine hR _ _ (kq7 _ _ ?_); clear hR R; try clear kq7 kz7
    try simp only [go_sem, hx]
    refine W_seq fun kz8 kq8 => ?_
    refine W_region [0, 1, 5, 7, 8, 16] fun R hR => ?_   -- r4
    simp only [go_sem, hx]
    refine GCall_of (hq x) ?_   -- t16
    simp only [go_sem, hx]
    refine hR _ _ (kq8 _ _ ?_); clear hR R; try clear kq8 kz8
    try simp only [go_sem, hx]
    refine W_cond rfl (fun c2 => ?_) (fun c2 => ?_)
    · -- c2 true
      try simp only [nrm] at c2
      refine W_seq fun kz9 kq9 => ?_
      refine W_region [4] fun R hR => ?_   -- r5
      simp only [go_sem, hx]
      refine hR _ _ (kq9 _ _ ?_); clear hR R; try clear kq9 kz9
      try simp only [go_sem, hx]
      refine W_ret ?_
      simp only [go_sem, hx]
      refine ⟨.inr (by trivial), ?_⟩
      first | refine Fin_same hcl rfl (Wk_eq ?_ (by simp only [go_sem])) | refine Fin_self hcl rfl (Wk_eq ?_ (by simp only [go_sem]))
      try simp only [go_sem]
      all_goals
        first | rfl | (simp_all; done) | (simp_all; omega)
    · -- c2 false
      try simp only [nrm] at c2
      refine W_skip (kq6 _ _ ?_)
      refine W_region [0, 1, 7, 8] fun R hR => ?_   -- r6
      simp only [go_sem, hx]
      try simp (disch := omega) only [wrapI, wrapU]
      try rw [wrapI (by omega) (by omega)]
      refine hR _ _ ?_; clear hR R
      try simp only [go_sem, hx]
      refine ⟨i + 1, ?_, by (try simp only []); omega, ?_⟩
      · first | exact Weak.refl | exact Weak.eq (by first | rfl | (simp only [go_sem]; done) | (simp only [go_sem]; rfl) | (simp [go_sem]; done) | (simp [go_sem]; omega)) (by first | rfl | (simp only [go_sem]; done) | (simp [go_sem]; done))
      · try dsimp only
        exact ⟨hi', by simp_all⟩
  · -- c1 false
    try simp only [nrm] at c1
    have hdrop : l.drop i = [] := List.drop_eq_nil_of_le (by omega)
    rw [hdrop] at hinv
    simp only [vIdx] at hinv
    refine W_exit ?_
    simp only [go_sem]
    refine kq2 _ _ ?_
    refine W_seq fun kz10 kq10 => ?_
    refine W_region [4] fun R hR => ?_   -- r7
    simp only [go_sem]
    refine hR _ _ (kq10 _ _ ?_); clear hR R; try clear kq10 kz10
    try simp only [go_sem]
    refine W_ret ?_
    simp only [go_sem]
    refine ⟨.inr (by trivial), ?_⟩
    first | refine Fin_same hcl rfl (Wk_eq ?_ (by simp only [go_sem])) | refine Fin_self hcl rfl (Wk_eq ?_ (by simp only [go_sem]))
    try simp only [go_sem]
    all_goals
      first | rfl | (simp_all; done) | (simp_all; omega)
end Go.Proofs.Ytnpamcpoaklgeaa
namespace Go.Proofs.Ytnpamcpoaklgeaa
open Go Go.RowKit
theorem mk22 {σ : Sg} {k : Nat} (hk : k < 2 ^ 44) : makePV Try.prog σ 22 (.int .i64 (k : Int)) (.int .i64 (k : Int)) = some (.msl σ.store.length 0 k, σ.push ((List.replicate k (0 : Int)).map I)) := by
  rw [mk_of Try.underlying22 zero3 bytes3 cells3 (by omega) (by omega), repI]
theorem mk123 {σ : Sg} {k : Nat} (hk : k < 2 ^ 44) : makePV Try.prog σ 123 (.int .i64 (k : Int)) (.int .i64 (k : Int)) = some (.msl σ.store.length 0 k, σ.push ((List.replicate k false).map PV.bool)) := by
  rw [mk_of Try.underlying123 zero4 bytes4 cells4 (by omega) (by omega), repB]
theorem keyInt : KeyOK Try.prog 3 I := fun a b => by
  simp only [I, keyEq, if_true]
  congr 1
theorem lk137 {σ : Sg} {id : Nat} {k : Int} {ok : Bool} : lookupPV Try.prog σ 137 (.map id) (.int .i64 k) ok = lkX Try.prog 3 (I 0) σ id (.int .i64 k) ok := lk_of Try.underlying137 Try.underlying3 (by kernel_rfl) rfl σ id ok
theorem up137 {σ : Sg} {id : Nat} {k : Int} {v : PV} : updatePV Try.prog σ 137 (.map id) (.int .i64 k) v = upX Try.prog 3 σ id (.int .i64 k) v := up_of Try.underlying137 Try.underlying3 rfl v σ id
theorem lkI {m : List (Int × Int)} {k : Int} {ok : Bool} : lkM Try.prog 3 (I 0) (some (some (.mark :: mapE I I m))) (.int .i64 k) ok = some (packPV ok (I ((aget k m).getD 0)) (aget k m).isSome) := by
  have := lkM_map (z := I 0) keyInt I m k ok
  simp only [I] at this ⊢
  rw [this]
  cases aget k m <;> rfl
theorem upI {m : List (Int × Int)} {k v : Int} : upM Try.prog 3 (some (some (.mark :: mapE I I m))) (.int .i64 k) (.int .i64 v) = some (.mark :: mapE I I (aput k v m)) := upM_map keyInt I m k v
theorem upI0 {k v : Int} : upM Try.prog 3 (some (some [.mark])) (.int .i64 k) (.int .i64 v) = some (.mark :: mapE I I [(k, v)]) := upM_map keyInt I [] k v
theorem packT {v : PV} {b : Bool} : packPV true v b = .tuple [v, .bool b] := rfl
theorem packF {v : PV} {b : Bool} : packPV false v b = v := rfl
theorem evN_tmp {E : Env} {t : Nat} : evN E (.tmp t) = E.get t := rfl
theorem evN_int {E : Env} {k : IntKind} {n : Int} : evN E (.const (.int k n)) = .int k n := rfl
theorem evN_bool {E : Env} {b : Bool} : evN E (.const (.bool b)) = .bool b := rfl
theorem evN_nil {E : Env} : evN E (.const (.slice none 0 0)) = .nilsl := rfl
theorem sll22 {xs : List Int} {own : Own} {k : IntKind} {n : Int} : slicePV Try.prog 22 (.isl (xs.map I) own) (some (.int k n)) none none = if 0 ≤ n then if n.toNat ≤ xs.length then some (.isl ((xs.drop n.toNat).map I) own) else none else none := slLo_of Try.underlying22 Try.underlying3 cells3 (fun _ => rfl) xs own k n
attribute [go_sem] sll22 lk137 up137 lkI upI upI0 packT packF evN_tmp evN_int evN_bool evN_nil lkX_ext lkX_ext0 upX_ext upX_ext0 lkX_svx Cl_map Cl_nilmap Cl_mark Cl_gsl Cl_gnil CleanAll_mapI setI setB
end Go.Proofs.Ytnpamcpoaklgeaa
namespace Go.Proofs.Ytnpamcpoaklgeaa
open Go Go.RowKit
/-- A slice of numbers that grows in place: nothing yet, or the last of a row of variables (those before it are gone). -/
def glI (n : Nat) (out : List Int) : PV := match out with
  | [] => .gnil
  | _ :: t => .gsl (n + t.length) (t.length + 1) 1
def gsI (out : List Int) : List (Option (List PV)) := match out with
  | [] => []
  | _ :: t => List.replicate t.length none ++ [some (out.map I)]
theorem gsI_len (out : List Int) : (gsI out).length = out.length := by cases out <;> simp [gsI]
theorem glI_cells (n : Nat) (out : List Int) : (glI n out).cells = [glI n out] := by cases out <;> rfl
theorem glI_scalar (n : Nat) (out : List Int) : (glI n out).scalar = true := by cases out <;> rfl
theorem glI_defd (n : Nat) (out : List Int) : defd (glI n out) = true := by cases out <;> rfl
theorem appendAny_gl {P : Program} {σ : Sg} {t t' : TypeId} {n : Nat} {out : List Int} {y : PV} : appendAny P σ t t' (glI n out) y = appendG P σ t t' (glI n out) y := by cases out <;> rfl
theorem cells_gsl (a b c : Nat) : (PV.gsl a b c).cells = [PV.gsl a b c] := rfl
theorem cells_gnil : PV.gnil.cells = [PV.gnil] := rfl
attribute [go_sem] appendAny_gl cells_gsl cells_gnil
attribute [go_sem high] glI_cells glI_scalar glI_defd
theorem stX_glI {σ : Sg} {l : List (Option (List PV))} {rm : List Nat} {ys : List LState} {j off n : Nat} {out : List Int} : stX 1 (σ.ext l rm ys) (σ.store.length + j) off (glI n out) = match l[j]? with
    | some (some cs) => if off + 1 ≤ cs.length then some (σ.ext (l.set j (some (putCells cs off [glI n out]))) rm ys) else none
    | _ => none := by
  simp only [stX_ext, glI_defd, glI_cells, List.all_cons, List.all_nil, glI_scalar]
  rcases l[j]? with _ | _ | cs <;> simp
attribute [go_sem high] stX_glI
theorem glI_clean {a b c n : Nat} {out : List Int} (h : n + out.length ≤ a) : Clean a b c (glI n out) := by
  cases out with
  | nil => exact .gnil
  | cons x out => exact .gsl _ _ _ (by simp at h; omega)
theorem CleanLs_append {a b c : Nat} {l m : List (Option (List PV))} (h : CleanLs a b c l) (k : CleanLs a b c m) : CleanLs a b c (l ++ m) := fun cs hcs => by
  rcases List.mem_append.1 hcs with h' | h'
  · exact h cs h'
  · exact k cs h'
theorem CleanLs_rep {a b c : Nat} (n : Nat) : CleanLs a b c (List.replicate n none) := fun cs hcs => by
  have := List.eq_of_mem_replicate hcs
  cases this
theorem gsI_clean {a b c : Nat} (out : List Int) : CleanLs a b c (gsI out) := by
  cases out with
  | nil => simp only [gsI, CleanLs_nil]
  | cons x out =>
    refine CleanLs_append (CleanLs_rep _) ?_
    simp only [CleanLs_cons, CleanLs_nil, and_true]
    intro p hp
    obtain ⟨y, _, rfl⟩ := List.mem_map.1 hp
    exact .int _ _
section
variable {σ : Sg} {A : List (Option (List PV))} {rm : List Nat} {ys : List LState} {N : Nat} {lo : Nat × Nat} {E : Env} {out : List Int}
theorem get_mid {α : Type} {A B : List α} {x : α} : (A ++ x :: B)[A.length]? = some x := by simp
theorem set_mid {α : Type} {A B : List α} {x y : α} : (A ++ x :: B).set A.length y = A ++ y :: B := by simp
theorem gsI_get {x : Int} : (A ++ gsI (x :: out))[A.length + out.length]? = some (some ((x :: out).map I)) := by
  have : A.length + out.length = (A ++ List.replicate out.length (none : Option (List PV))).length := by simp
  rw [this, gsI, ← List.append_assoc]
  exact get_mid
theorem gsI_set {x : Int} {y : Option (List PV)} : (A ++ gsI (x :: out)).set (A.length + out.length) y = A ++ (List.replicate out.length none ++ [y]) := by
  have : A.length + out.length = (A ++ List.replicate out.length (none : Option (List PV))).length := by simp
  rw [this, gsI, ← List.append_assoc, ← List.append_assoc]
  exact set_mid
theorem appG_gl (x : Int) (h : (out.length + 1) * 8 ≤ 2 ^ 47) : appG 1 8 (σ.ext (A ++ gsI out) rm ys) (glI (σ.store.length + A.length) out) [I x] = some (glI (σ.store.length + A.length) (out ++ [x]), σ.ext (A ++ gsI (out ++ [x])) rm ys) := by
  cases out with
  | nil =>
    rw [glI, appG_nil (by rfl) (by simp) (by simp)]
    simp [gsI, glI, rowC, Sg.push_ext, Sg.len_ext]
  | cons y out =>
    simp only [glI]
    rw [appG_more (cs := (y :: out).map I) (by rw [Nat.add_assoc, Sg.get_ext]; exact gsI_get) (by simp) (by rfl) (by simp) (by simpa using h)]
    rw [Nat.add_assoc (Sg.store σ).length, Sg.drop_ext, gsI_set]
    simp only [Sg.push_ext, Sg.len_ext, rowC]
    have e : List.replicate (out ++ [x]).length (none : Option (List PV)) = List.replicate out.length none ++ [none] := by simp [List.replicate_succ']
    simp only [List.cons_append, gsI, e]
    simp [Nat.add_assoc]
theorem sortI_nil : sortI [] = [] := by simp [sortI]
theorem compact_nil : Lib.compact ([] : List Int) = [] := by simp [Lib.compact, Lib.compactUpTo]
theorem glI_sort (n : Nat) : glI n (sortI out) = glI n out := by
  have hl := sortI_len out
  cases h : sortI out with
  | nil =>
    rw [h] at hl
    cases out with
    | nil => rfl
    | cons x out => simp at hl
  | cons y s =>
    rw [h] at hl
    cases out with
    | nil => simp at hl
    | cons x out => simp only [List.length_cons] at hl; simp only [glI]; rw [show s.length = out.length by omega]
theorem sort_gl {P : Program} {Y : YEnv} {f : FuncId} (h : SortsI P f) (hl : out.length < 2 ^ 60) : PC P Y f [glI (σ.store.length + A.length) out] (σ.ext (A ++ gsI out) rm ys) (.tuple []) (σ.ext (A ++ gsI (sortI out)) rm ys) := by
  cases out with
  | nil => rw [sortI_nil]; exact PC_sort0 h
  | cons x out =>
    have h1 := PC_sortI (Y := Y) (σ := σ.ext (A ++ gsI (x :: out)) rm ys) (id := σ.store.length + A.length + out.length) (xs := x :: out) h (by rw [Nat.add_assoc, Sg.get_ext]; exact gsI_get) hl
    rw [Nat.add_assoc, Sg.set_ext, gsI_set] at h1
    have e : A ++ (List.replicate out.length none ++ [some ((sortI (x :: out)).map I)]) = A ++ gsI (sortI (x :: out)) := by
      have hs := sortI_len (x :: out)
      cases hc : sortI (x :: out) with
      | nil => rw [hc] at hs; simp at hs
      | cons y s =>
        rw [hc] at hs
        simp only [List.length_cons] at hs
        simp only [gsI]
        rw [show out.length = s.length by omega]
    rw [e] at h1
    simp only [glI]
    rw [Nat.add_assoc]
    exact h1
/-- Compacted. -/
def glC (n : Nat) (s : List Int) : PV := match s with
  | [] => .gnil
  | _ :: t => .gsl (n + t.length) (Lib.compact s).length 1
def gsC (s : List Int) : List (Option (List PV)) := match s with
  | [] => []
  | _ :: t => List.replicate t.length none ++ [some ((Lib.compact s).map I ++ (List.replicate (s.length - (Lib.compact s).length) 0).map I)]
theorem glC_cells (n : Nat) (out : List Int) : (glC n out).cells = [glC n out] := by cases out <;> rfl
theorem glC_scalar (n : Nat) (out : List Int) : (glC n out).scalar = true := by cases out <;> rfl
theorem glC_defd (n : Nat) (out : List Int) : defd (glC n out) = true := by cases out <;> rfl
attribute [go_sem high] glC_cells glC_scalar glC_defd
theorem stX_glC {σ : Sg} {l : List (Option (List PV))} {rm : List Nat} {ys : List LState} {j off n : Nat} {out : List Int} : stX 1 (σ.ext l rm ys) (σ.store.length + j) off (glC n out) = match l[j]? with
    | some (some cs) => if off + 1 ≤ cs.length then some (σ.ext (l.set j (some (putCells cs off [glC n out]))) rm ys) else none
    | _ => none := by
  simp only [stX_ext, glC_defd, glC_cells, List.all_cons, List.all_nil, glC_scalar]
  rcases l[j]? with _ | _ | cs <;> simp
attribute [go_sem high] stX_glC
theorem compact_gl {P : Program} {Y : YEnv} {f : FuncId} (h : CompactsI P f) (hl : out.length < 2 ^ 60) : PC P Y f [glI (σ.store.length + A.length) out] (σ.ext (A ++ gsI out) rm ys) (glC (σ.store.length + A.length) out) (σ.ext (A ++ gsC out) rm ys) := by
  cases out with
  | nil => exact PC_compact0 h
  | cons x out =>
    have h1 := PC_compactI (Y := Y) (σ := σ.ext (A ++ gsI (x :: out)) rm ys) (id := σ.store.length + A.length + out.length) (xs := x :: out) h (by rw [Nat.add_assoc, Sg.get_ext]; exact gsI_get) hl
    rw [Nat.add_assoc, Sg.set_ext, gsI_set, List.map_append] at h1
    simp only [glI, glC, gsC]
    rw [Nat.add_assoc]
    exact h1
/-- Read at last. -/
theorem Weak.readC {j : Nat} (hj : A[j]? = some (some [glC (σ.store.length + A.length) out])) :
    Weak N lo E (σ.ext (A ++ gsC out) rm ys) E (σ.ext (A.set j (some [.isl ((Lib.compact out).map I) .ro]) ++ List.replicate out.length none) rm ys) := by
  have hlt := (List.getElem?_eq_some_iff.1 hj).1
  cases out with
  | nil =>
    have h := Weak.ungnilX (N := N) (lo := lo) (E := E) (σ := σ) (l := A) (rm := rm) (ys := ys) (j := j) (off := 0) hj rfl
    rw [compact_nil]; simpa [gsC] using h
  | cons x out =>
    have hlen : A.length + out.length = (A ++ List.replicate out.length (none : Option (List PV))).length := by simp
    have h := Weak.freezeX (N := N) (lo := lo) (E := E) (σ := σ) (l := A ++ gsC (x :: out)) (rm := rm) (ys := ys) (j := j) (k := A.length + out.length) (off := 0) (ccs := [glC (σ.store.length + A.length) (x :: out)]) (len := (Lib.compact (x :: out)).length) (es := 1) (m := (Lib.compact (x :: out)).map I) (by omega) (by rw [List.getElem?_append_left hlt]; exact hj) (by simp only [glC, Nat.add_assoc]; rfl)
      (by rw [rowC_ints, gsC, ← List.append_assoc, hlen]; exact get_mid) (by simp) (fun q hq => by obtain ⟨y, _, rfl⟩ := List.mem_map.1 hq; rfl)
    have e : ((A ++ gsC (x :: out)).set (A.length + out.length) none).set j (some ([glC (σ.store.length + A.length) (x :: out)].set 0 (.isl ((Lib.compact (x :: out)).map I) .ro))) = A.set j (some [.isl ((Lib.compact (x :: out)).map I) .ro]) ++ List.replicate (x :: out).length none := by
      have e1 : (A ++ gsC (x :: out)).set (A.length + out.length) none = A ++ (List.replicate out.length none ++ [none]) := by
        rw [gsC, ← List.append_assoc, hlen, set_mid, List.append_assoc]
      rw [e1, List.set_append_left _ _ hlt]
      simp [List.replicate_succ']
    rw [e] at h
    exact h
end
end Go.Proofs.Ytnpamcpoaklgeaa
namespace Go.Proofs.Ytnpamcpoaklgeaa
open Go Go.RowKit
set_option maxRecDepth 100000
theorem Fin_more {P : Program} {fn : Func} {σ σ' : Sg} {E : Env} {rs : List PV} {v : PV} (hcl : CleanSg σ') (h1 : σ.store.length ≤ σ'.store.length) (h2 : σ.rooms.length ≤ σ'.rooms.length) (h3 : σ'.ys.length = σ.ys.length)
    (hr : resPV P σ' E fn.results.toList = some rs) (hv : Wk σ'.store.length σ'.rooms.length σ.ys.length (oneOr rs) v) : Fin P fn σ v σ' E σ' := by
  refine ⟨rs, _, _, hr, h1, h2, hv, ?_, ?_, h3⟩
  · rw [← h3]; simp [Sg.cut]
  · unfold CleanSg at hcl; rw [h3] at hcl; exact hcl
theorem startsM_pc (Y : YEnv) (y id : Nat) (a b e f : PV) (lo hi : Int) (τ : Int → Sg) (hlo : -2 ^ 63 ≤ lo) (hhi : hi < 2 ^ 63 - 1) (hm : lo ≤ hi + 1)
    (hst : ∀ s, lo ≤ s → s ≤ hi + 1 → (τ s).store[id]? = some (some [a, b, .int .i64 lo, .int .i64 hi, e, f]))
    (hY : ∀ s, lo ≤ s → s ≤ hi → Y y [.int .i64 s] (τ s) true (τ (s + 1))) (hlen : (τ lo).store.length ≤ (τ (hi + 1)).store.length) (hr : (τ lo).rooms.length ≤ (τ (hi + 1)).rooms.length) (hy : (τ (hi + 1)).ys.length = (τ lo).ys.length)
    (hcl' : CleanSg (τ lo) → CleanSg (τ (hi + 1))) : PC Try.prog Y 125 [.yield y, .ptr id 0] (τ lo) (.tuple []) (τ (hi + 1)) := by
  refine PC_of_W Try.func125 rfl (by kernel_rfl) Try.ntmps125 (by simp) fun hcl hca => ?_
  refine W_seq fun K1 h1 => ?_
  refine W_region [0, 1, 3] fun K2 h2 => ?_
  have hs0 := hst lo (by omega) (by omega)
  simp only [go_sem, ldS_at hs0]
  refine h2 _ _ (h1 _ _ ?_); clear h1 h2 K1 K2
  refine W_block ?_
  simp only [go_sem]
  refine W_loopK (fun k E σ' => ∃ s, (k : Int) = hi + 1 - s ∧ lo ≤ s ∧ s ≤ hi + 1 ∧ E = [(0, .yield y), (1, .ptr id 0), (3, .int .i64 s)] ∧ σ' = τ s) (hi + 1 - lo).toNat ⟨lo, by omega, by omega, by omega, rfl, rfl⟩ ?_
  rintro k E σ' ⟨s, hk, hs1, hs2, rfl, rfl⟩
  have hs := hst s hs1 hs2
  refine W_seq fun K1 h1 => ?_
  refine W_seq fun K3 h3 => ?_
  refine W_region [0, 1, 3, 16] fun K2 h2 => ?_
  simp only [go_sem, ldS_at hs]
  refine GWant_split (fun c => ?_) (fun c => ?_)
  · simp only [go_sem, c]
    refine GYield_of (hY s hs1 (by simpa using c)) ?_
    simp only [go_sem, c]
    refine h2 _ _ (h3 _ _ ?_); clear h2 h3 K2 K3
    simp only [go_sem]
    refine W_cond_true rfl (W_skip ?_)
    refine h1 _ _ ?_; clear h1 K1
    refine W_seq fun K1 h1 => ?_
    refine W_block (W_skip (h1 _ _ ?_)); clear h1 K1
    refine W_region [0, 1, 3] fun K2 h2 => ?_
    have hsh : s ≤ hi := by simpa using c
    simp only [go_sem]
    refine h2 _ _ ?_
    simp only [go_sem]
    rw [wrap_i64_id (by omega) (by omega)]
    exact ⟨k - 1, by omega, s + 1, by omega, by omega, by omega, rfl, rfl⟩
  · simp only [go_sem, c]
    refine h2 _ _ (h3 _ _ ?_); clear h2 h3 K2 K3
    simp only [go_sem]
    refine W_cond_false rfl (W_exit ?_)
    simp only [go_sem]
    have : s = hi + 1 := by simp at c; omega
    subst this
    refine ⟨.inl (by trivial), Fin_more (hcl' hcl) hlen hr hy rfl (Wk.of_clean (.tuple _ Clean.all_nil))⟩
/-- Where in its visits a band is in a minute. -/
def whAt (c : City) (b : Band) (minute s : Int) : Int := vIdx (fun v => inR minute v.lo v.hi) 0 (visOf c b s)
def whStep (c : City) (b : Band) (minute s : Int) (p : List Int × Bool) : List Int × Bool :=
  if whAt c b minute s < 0 then (p.1, true) else match (visOf c b s)[(whAt c b minute s).toNat]? with
    | some v => (p.1 ++ [v.sq], p.2)
    | none => p
def whAll (c : City) (b : Band) (minute : Int) : List Int × Bool := upTo (whStep c b minute) b.lo (b.hi + 1) ([], false)
def whereAns (c : City) (b : Band) (minute : Int) : (List Int × Bool) × Int :=
  if askedOf c [b] ≠ 0 then (([], false), askedOf c [b]) else if !(inR minute 0 719) then (([], false), 2) else ((Lib.compact (sortI (whAll c b minute).1), (whAll c b minute).2), 0)
theorem vIdx_at (q : Vis → Bool) : ∀ (l : List Vis) (i : Nat), vIdx q i l = -1 ∨ ∃ k v, vIdx q i l = ((i + k : Nat) : Int) ∧ l[k]? = some v ∧ q v = true := by
  intro l
  induction l with
  | nil => intro i; exact .inl rfl
  | cons x l ih =>
    intro i
    simp only [vIdx]
    by_cases h : q x = true
    · rw [if_pos h]; exact .inr ⟨0, x, rfl, rfl, h⟩
    · rw [if_neg h]
      rcases ih (i + 1) with h2 | ⟨k, v, h2, h3, h4⟩
      · exact .inl h2
      · exact .inr ⟨k + 1, v, by rw [h2]; congr 1; omega, h3, h4⟩
theorem whAt_get {c : City} {b : Band} {minute s : Int} (h : ¬ whAt c b minute s < 0) : ∃ v, (visOf c b s)[(whAt c b minute s).toNat]? = some v ∧ 0 ≤ whAt c b minute s ∧ inR minute v.lo v.hi = true := by
  unfold whAt at h ⊢
  rcases vIdx_at (fun v => inR minute v.lo v.hi) (visOf c b s) 0 with h2 | ⟨k, v, h2, h3, h4⟩
  · omega
  · rw [h2] at h ⊢
    exact ⟨v, by simpa using h3, by omega, h4⟩
theorem whStep_len (c : City) (b : Band) (minute s : Int) (p : List Int × Bool) : (whStep c b minute s p).1.length ≤ p.1.length + 1 := by
  unfold whStep
  split
  · simp
  · split <;> simp
theorem foldUp_len (c : City) (b : Band) (minute lo : Int) : ∀ (n : Nat) (p : List Int × Bool), (foldUp (whStep c b minute) lo n p).1.length ≤ p.1.length + n := by
  intro n
  induction n with
  | zero => intro p; simp [foldUp]
  | succ n ih =>
    intro p
    simp only [foldUp]
    have := whStep_len c b minute (lo + n) (foldUp (whStep c b minute) lo n p)
    have := ih p
    omega
set_option maxHeartbeats 4000000 in
theorem Where_pc (Y : YEnv) (σ : Sg) (ct : City) (b : Band) (minute : Int) (hc : ct.Ok) (hb : b.path.length < 2 ^ 50) :
    PC Try.prog Y 49 [ctPV ct, bdPV b, I minute] σ (.tuple [ints (whereAns ct b minute).1.1, .bool (whereAns ct b minute).1.2, I (whereAns ct b minute).2]) (σ) := by
  refine PC_of_W Try.func49 rfl (by kernel_rfl) Try.ntmps49 (by simp) fun hcl hca => ?_
  refine W_seq fun kz1 kq1 => ?_
  refine W_region [3, 4, 5, 6, 7] fun R hR => ?_   -- r0
  simp only [go_sem]
  refine hR _ _ (kq1 _ _ ?_); clear hR R; try clear kq1 kz1
  try simp only [go_sem]
  refine W_seq fun kz2 kq2 => ?_
  refine W_seq fun kz3 kq3 => ?_
  refine W_region [3, 4, 5, 6, 7, 9] fun R hR => ?_   -- r1
  simp only [go_sem]
  refine GCall_of (PC.ofRo (asked_pc Y _ ct [b] hc ⟨by simp, fun x hx => by simp at hx; subst hx; assumption⟩) (by simp only [go_sem, bands] <;> rfl)) ?_   -- t15
  simp only [go_sem]
  refine hR _ _ (kq3 _ _ ?_); clear hR R; try clear kq3 kz3
  try simp only [go_sem]
  refine W_seq fun kz4 kq4 => ?_
  refine W_region [3, 4, 5, 6, 7, 9, 17] fun R hR => ?_   -- r2
  simp only [go_sem]
  refine hR _ _ (kq4 _ _ ?_); clear hR R; try clear kq4 kz4
  try simp only [go_sem]
  refine W_cond rfl (fun c1 => ?_) (fun c1 => ?_)
  · -- c1 true
    try simp only [nrm] at c1
    refine W_seq fun kz5 kq5 => ?_
    refine W_region [6, 7, 8] fun R hR => ?_   -- r3
    simp only [go_sem]
    refine hR _ _ (kq5 _ _ ?_); clear hR R; try clear kq5 kz5
    try simp only [go_sem]
    refine W_ret ?_
    simp only [go_sem]
    refine ⟨.inr (by trivial), ?_⟩
    refine Fin_same hcl (by show resPV Try.prog _ _ [.cell 6 22, .cell 7 4, .tmp 8] = some _; simp only [resPV, go_sem]; rfl) (Wk.ro (by simp only [go_sem]) ?_)
    try simp only [go_sem]
    all_goals
      unfold whereAns
      rw [if_pos (by simpa using c1)]
      rfl
  · -- c1 false
    try simp only [nrm] at c1
    have hask : askedOf ct [b] = 0 := by simpa using c1
    have hcb : chkBand ct b = 0 := by
      have := hask
      unfold askedOf at this
      split at this
      · omega
      · simp only [chkBands] at this
        split at this <;> omega
    have htm := timesOf_ok (chkBand_ok hcb).2
    refine W_skip (kq2 _ _ ?_)
    refine W_seq fun kz6 kq6 => ?_
    refine W_seq fun kz7 kq7 => ?_
    refine W_region [3, 4, 5, 6, 7, 21] fun R hR => ?_   -- r4
    simp only [go_sem]
    refine GCall_of (in_pc Y _ minute 0 719) ?_   -- t20
    simp only [go_sem]
    refine hR _ _ (kq7 _ _ ?_); clear hR R; try clear kq7 kz7
    try simp only [go_sem]
    refine W_cond rfl (fun c2 => ?_) (fun c2 => ?_)
    · -- c2 true
      try simp only [nrm] at c2
      refine W_seq fun kz8 kq8 => ?_
      refine W_region [6, 7, 8] fun R hR => ?_   -- r5
      simp only [go_sem]
      refine hR _ _ (kq8 _ _ ?_); clear hR R; try clear kq8 kz8
      try simp only [go_sem]
      refine W_ret ?_
      simp only [go_sem]
      refine ⟨.inr (by trivial), ?_⟩
      refine Fin_same hcl (by show resPV Try.prog _ _ [.cell 6 22, .cell 7 4, .tmp 8] = some _; simp only [resPV, go_sem]; rfl) (Wk.ro (by simp only [go_sem]) ?_)
      try simp only [go_sem]
      all_goals
        unfold whereAns
        rw [if_neg (by simpa using c1), if_pos (by simpa using c2)]
        rfl
    · -- c2 false
      try simp only [nrm] at c2
      refine W_skip (kq6 _ _ ?_)
      refine W_seq fun kz9 kq9 => ?_
      refine W_seq fun kz10 kq10 => ?_
      refine W_region [3, 4, 5, 6, 7, 23] fun R hR => ?_   -- r6
      simp only [go_sem]
      refine GCall_of (starts_pc Y _ _ _ _ _ _ _) ?_   -- t23
      simp only [go_sem]
      refine hR _ _ (kq10 _ _ ?_); clear hR R; try clear kq10 kz10
      try simp only [go_sem]
      refine W_block ?_
      let L : List Int × Bool → List (Option (List PV)) := fun p => [some (ctCells ct), some (bdCells b), some [I minute], some [glI (σ.store.length + 6) p.1], some [.bool p.2], some (bdCells b)] ++ gsI p.1
      let so : Int → Sg := fun i => σ.ext (L (upTo (whStep ct b minute) b.lo i ([], false))) [] [.ready]
      have hLc : ∀ p (n r y : Nat), σ.store.length + 6 + p.1.length ≤ n → CleanLs n r y (L p) := fun p n r y h1 => by
        refine CleanLs_append ?_ (gsI_clean _)
        have := glI_clean (a := n) (b := r) (c := y) h1
        simp only [go_sem, this]
      refine W_weak (Weak.gnilX (j := 3) (off := 0) rfl rfl) ?_
      simp only [go_sem]
      refine W_rangeFunc (gf := 125) (v := .tuple []) (s := .ready) (σ5 := so (b.hi + 1)) rfl (by simp) (fun args τ b' τ' => ∃ i, b.lo ≤ i ∧ i ≤ b.hi ∧ args = [I i] ∧ b' = true ∧ τ = so i ∧ τ' = so (i + 1)) ?_ ?_ ?_ ?_ ?_
      · rintro args τ b τ' ⟨i, hi1, hi2, rfl, rfl, rfl, rfl⟩
        refine ⟨rfl, ?_, ?_⟩
        · simp only [so, go_sem]
        · simp only [so, L, go_sem]
          refine W_region [3, 4, 5, 6, 7, 10] fun R hR => ?_   -- r7
          simp only [go_sem, putAll]
          refine hR _ _ ?_; clear hR R
          try simp only [go_sem, putAll]
          obtain ⟨p, hp⟩ : ∃ p, p = upTo (whStep ct b minute) b.lo i ([], false) := ⟨_, rfl⟩
          have hpl : p.1.length ≤ 720 := by
            rw [hp]
            unfold upTo
            have := foldUp_len ct b minute b.lo (i - b.lo).toNat ([], false)
            simp at this
            omega
          obtain ⟨out, aw⟩ := p
          rw [upTo_step _ hi1, ← hp]
          simp only [← hp]
          obtain ⟨vs, hvs⟩ : ∃ z, visOf ct b i = z := ⟨_, rfl⟩
          obtain ⟨k, hk⟩ : ∃ z, whAt ct b minute i = z := ⟨_, rfl⟩
          have hk' : vIdx (fun v => inR minute v.lo v.hi) 0 vs = k := by rw [← hvs]; exact hk
          have hvl : vs.length ≤ 13 := by rw [← hvs]; unfold visOf; rw [visFrom_len]; exact (sqs_len ct b).1
          refine W_post_weak ?_
          refine W_block ?_
          refine W_seq fun kz11 kq11 => ?_
          refine W_region [3, 4, 6, 7, 10, 11] fun R hR => ?_   -- r8
          simp only [go_sem, putAll]
          refine GCall_of (PC.val (v' := .isl (vs.map vsPV) .ro) (visits_pc Y _ ct b i hc hb (by omega) (by omega) (by omega) (by omega)) (by rw [hvs])) ?_   -- t28
          simp only [go_sem, putAll]
          refine GCall_of (PC.val (v' := I k) (vindex_pc Y _ vs .ro (by omega) 91 (.ptr (σ.store.length + 2) 0) _ (fun x => where1_pc Y _ x minute _ (Sg.get_ext ..))) (by rw [hk'])) ?_   -- t30
          simp only [go_sem, putAll]
          refine hR _ _ (kq11 _ _ ?_); clear hR R; try clear kq11 kz11
          try simp only [go_sem, putAll]
          refine W_seq fun kz12 kq12 => ?_
          refine W_seq fun kz13 kq13 => ?_
          refine W_region [3, 4, 6, 7, 10, 11, 32] fun R hR => ?_   -- r9
          simp only [go_sem, putAll]
          refine hR _ _ (kq13 _ _ ?_); clear hR R; try clear kq13 kz13
          try simp only [go_sem, putAll]
          refine W_cond rfl (fun c3 => ?_) (fun c3 => ?_)
          · -- c3 true
            try simp only [nrm] at c3
            refine W_seq fun kz14 kq14 => ?_
            refine W_region [] fun R hR => ?_   -- r10
            simp only [go_sem, putAll]
            refine hR _ _ (kq14 _ _ ?_); clear hR R; try clear kq14 kz14
            try simp only [go_sem, putAll]
            refine W_exit ?_
            simp only [go_sem, putAll]
            have hst : whStep ct b minute i (out, aw) = (out, true) := by unfold whStep; rw [hk, if_pos (by simpa using c3)]
            refine ⟨[], _, Weak.keep [], ?_⟩
            simp only [hst, RoundEnd, go_sem]
          · -- c3 false
            try simp only [nrm] at c3
            obtain ⟨v, hv, hk0, _⟩ := whAt_get (c := ct) (b := b) (minute := minute) (s := i) (by rw [hk]; simpa using c3)
            rw [hvs, hk] at hv
            rw [hk] at hk0
            have happ := appG_gl (σ := σ) (A := [some (ctCells ct), some (bdCells b), some [I minute], some [glI (σ.store.length + 6) out], some [.bool aw], some (bdCells b)]) (rm := []) (ys := [.busy]) (out := out) v.sq (by simp at hpl; omega)
            simp only [go_sem, List.length_cons, List.length_nil] at happ
            refine W_skip (kq12 _ _ ?_)
            refine W_draw [] [0, 1, 2, 3, 4, 5, 6, 7, 8, 9, 10, 11] [(0, 10), (5, 4)] [[], [], [], [], [1, 2, 3], [], [1, 2, 3, 4, 5], [1, 2, 3, 4, 5, 6], [1, 2, 3, 4, 5, 6, 7], [1, 2, 3, 4, 5, 6, 7, 8], [0, 1, 2, 3, 4, 5, 6, 7, 8, 9], [0, 1, 2, 3, 4, 5, 6, 7, 8, 9, 10]] mixed (by kernel_rfl) fun R hR => ?_   -- r11
            simp only [go_sem, putAll, hv, hk0, happ]
            refine GCall_of (PC.val (v' := .isl (vs.map vsPV) .ro) (visits_pc Y _ ct b i hc hb (by omega) (by omega) (by omega) (by omega)) (by rw [hvs])) ?_   -- t37
            simp only [go_sem, putAll, hv, hk0, happ]
            try simp (disch := first | omega | (simp only [go_sem] <;> omega)) only [wrapI, wrapU, appX_exact, appX_tok]
            try simp only [go_sem, putAll, hv, hk0, happ]
            try refine And.intro (by repeat' (first | refine And.intro ?_ ?_ | exact GOr_right (fun _ => by simp only [go_sem, putAll, hv, hk0, happ]))) ?_
            refine hR _ _ ?_; clear hR R
            try simp only [go_sem, putAll, hv, hk0, happ]
            have hst : whStep ct b minute i (out, aw) = (out ++ [v.sq], aw) := by unfold whStep; rw [hk, if_neg (by simpa using c3), hvs]; simp only [hv]
            refine ⟨[], _, Weak.keep [], ?_⟩
            simp only [hst, RoundEnd, go_sem]
      · have hst := startsM_pc (Y.at σ.ys.length (fun args τ b' τ' => ∃ i, b.lo ≤ i ∧ i ≤ b.hi ∧ args = [I i] ∧ b' = true ∧ τ = so i ∧ τ' = so (i + 1))) σ.ys.length (σ.store.length + 5) (I b.first) (ints b.path) (I b.stay) (I b.people) b.lo b.hi so (by omega) (by omega) (by omega)
          (fun s _ _ => by simp only [so, L]; exact Sg.get_ext ..) (fun s h1 h2 => by rw [YEnv.at_self]; exact ⟨s, h1, h2, rfl, rfl, rfl, rfl⟩) (by simp only [so, upTo_start]; simp only [L, gsI, go_sem] <;> omega) (by simp only [so, L, go_sem] <;> omega) (by simp only [so, L, go_sem])
          (fun _ => CleanSg_ext hcl (by refine hLc _ _ _ _ ?_; simp only [L, gsI_len, go_sem] <;> omega))
        have e0 : so b.lo = σ.ext (L ([], false)) [] [.ready] := by simp only [so]; rw [upTo_start]
        rw [e0] at hst
        simp only [L, glI, gsI, go_sem] at hst ⊢
        exact hst
      · simp only [so, L, go_sem]
      · simp only [go_sem]
        exact CleanCut_ext hcl (by simp only [so, L, go_sem]; omega) (by simp only [so, L, go_sem, Nat.le_add_right]) (by omega) (by refine hLc _ _ _ _ ?_; simp only [so, L, gsI_len, go_sem] <;> omega)
      · simp only [AfterLoop, so, L, go_sem]
        have hres : whereAns ct b minute = ((Lib.compact (sortI (whAll ct b minute).1), (whAll ct b minute).2), 0) := by
          unfold whereAns
          rw [if_neg (by simpa using c1), if_neg (by simpa using c2)]
        unfold whAll at hres
        have hpl : (upTo (whStep ct b minute) b.lo (b.hi + 1) ([], false)).1.length ≤ 720 := by
          unfold upTo
          have := foldUp_len ct b minute b.lo (b.hi + 1 - b.lo).toNat ([], false)
          simp at this
          omega
        generalize upTo (whStep ct b minute) b.lo (b.hi + 1) ([], false) = p at hres hpl ⊢
        obtain ⟨out, aw⟩ := p
        simp only at hres hpl ⊢
        refine kq9 _ _ ?_
        refine W_seq fun kz15 kq15 => ?_
        refine W_region [6, 7] fun R hR => ?_   -- r12
        simp only [go_sem]
        refine GCall_of (sort_gl (A := [_, _, _, _, _, _]) sortsI (by omega)) ?_   -- t45
        simp only [go_sem]
        refine hR _ _ (kq15 _ _ ?_); clear hR R; try clear kq15 kz15
        try simp only [go_sem]
        refine W_seq fun kz16 kq16 => ?_
        rw [← glI_sort]
        refine W_draw [6, 7, 8] [0, 1, 2, 3, 4, 5] [(2, 1), (2, 4)] [[], [0], [], [0, 1], [0, 1, 2, 3], [0, 1, 2, 3, 4]] mixed (by kernel_rfl) fun R hR => ?_   -- r13
        simp only [go_sem]
        refine GCall_of (compact_gl (A := [_, _, _, _, _, _]) (out := sortI out) compactsI (by rw [sortI_len]; omega)) ?_   -- t47
        simp only [go_sem]
        try refine And.intro (by repeat' (first | refine And.intro ?_ ?_ | exact GOr_right (fun _ => by simp only [go_sem]))) ?_
        refine hR _ _ (kq16 _ _ ?_); clear hR R; try clear kq16 kz16
        try simp only [go_sem]
        refine W_weak (Weak.readC (A := [_, _, _, _, _, _]) (j := 3) rfl) ?_
        simp only [go_sem]
        refine W_ret ?_
        simp only [go_sem]
        refine ⟨.inr (by trivial), ?_⟩
        refine Fin_same hcl (by show resPV Try.prog _ _ [.cell 6 22, .cell 7 4, .tmp 8] = some _; simp only [resPV, go_sem]; rfl) (Wk.ro (by simp only [go_sem]) ?_)
        try simp only [go_sem]
        all_goals
          rw [hres]
end Go.Proofs.Ytnpamcpoaklgeaa
namespace Go.Proofs.Ytnpamcpoaklgeaa
open Go Go.RowKit
theorem upTo_ind {α : Type} {f : Int → α → α} {lo : Int} (Pr : Int → α → Prop) {a : α} (h0 : Pr lo a) (hs : ∀ i x, lo ≤ i → Pr i x → Pr (i + 1) (f i x)) : ∀ {s : Int}, lo ≤ s → Pr s (upTo f lo s a) := by
  intro s hls
  obtain ⟨n, rfl⟩ : ∃ n : Nat, s = lo + n := ⟨(s - lo).toNat, by omega⟩
  induction n with
  | zero => simpa [upTo_start] using h0
  | succ n ih =>
    have := hs (lo + n) _ (by omega) (ih (by omega))
    rw [← upTo_step f (by omega)] at this
    have e : lo + ((n + 1 : Nat) : Int) = lo + n + 1 := by omega
    rw [e]
    exact this
end Go.Proofs.Ytnpamcpoaklgeaa
namespace Go.Proofs.Ytnpamcpoaklgeaa
open Go Go.RowKit
set_option maxRecDepth 100000
def grantedOf : List Band → List Int → List Band
  | b :: l, e :: es => if e = 0 then b :: grantedOf l es else grantedOf l es
  | _, _ => []
def squaresAns (c : City) (b : Band) : List Int × Int := if askedOf c [b] ≠ 0 then ([], askedOf c [b]) else sqs c b
set_option maxHeartbeats 2000000 in
theorem lgranted_pc (Y : YEnv) (σ : Sg) (l : List Band) (es : List Int) (hl : l.length ≤ 2 ^ 30) (he : l.length ≤ es.length) :
    PC Try.prog Y 32 [bands l, ints es] σ (bands (grantedOf l es)) (σ) := by
  refine PC_of_W Try.func32 rfl (by kernel_rfl) Try.ntmps32 (by simp) fun hcl hca => ?_
  refine W_seq fun kz1 kq1 => ?_
  refine W_region [0, 1] fun R hR => ?_   -- r0
  simp only [go_sem]
  refine hR _ _ (kq1 _ _ ?_); clear hR R; try clear kq1 kz1
  try simp only [go_sem]
  refine W_seq fun kz2 kq2 => ?_
  refine W_region [0, 1, 5] fun R hR => ?_   -- r1
  simp only [go_sem]
  refine hR _ _ (kq2 _ _ ?_); clear hR R; try clear kq2 kz2
  try simp only [go_sem]
  refine W_seq fun kz3 kq3 => ?_
  refine W_seq fun kz4 kq4 => ?_
  refine W_region [0, 1, 5, 6] fun R hR => ?_   -- r2
  simp only [go_sem]
  refine hR _ _ (kq4 _ _ ?_); clear hR R; try clear kq4 kz4
  try simp only [go_sem]
  refine W_block ?_
  refine W_weak (Weak.room (t := 5) (es := 6) rfl (by simp)) ?_
  refine W_weak (Weak.keep [0, 1, 5, 6]) ?_
  simp only [go_sem]
  refine W_loopT (α := Nat × (List Band)) (fun ⟨i, out⟩ => [(5, .isl (out.map bdPV) (.tok σ.rooms.length out.length 6)), (6, I i)]) (fun ⟨i, out⟩ => σ.ext [] [out.length]) (fun ⟨i, out⟩ => i ≤ l.length ∧ out.length ≤ i ∧ grantedOf l es = out ++ grantedOf (l.drop i) (es.drop i)) (fun ⟨i, out⟩ => l.length - i) ((0, [])) rfl (by first | rfl | (simp only [go_sem]; done) | (simp only [go_sem]; rfl)) (⟨Nat.zero_le _, Nat.le_refl _, rfl⟩) ?_
  rintro ⟨i, out⟩ ⟨hi, ho, hinv⟩
  refine W_seq fun kz5 kq5 => ?_
  refine W_seq fun kz6 kq6 => ?_
  refine W_regionJ [0, 1, 5, 6, 16] [(16, .bool (decide (i < l.length)))] ?_ fun R hR => ?_   -- r3
  · refine kq6 _ _ ?_
    simp only [go_sem]
    refine W_cond rfl (fun c1 => ?_) (fun c1 => ?_)
    · -- c1 true
      try simp only [nrm] at c1
      have hi' : i < l.length := by first | assumption | omega
      obtain ⟨b, hx⟩ : ∃ b, l[i]? = some b := ⟨l[i], by simp [hi']⟩
      have hdrop : l.drop i = b :: l.drop (i + 1) := by
        rw [List.drop_eq_getElem_cons hi']; congr 1; exact (List.getElem?_eq_some_iff.1 hx).2
      obtain ⟨e, hy⟩ : ∃ e, es[i]? = some e := ⟨es[i]'(by omega), by simp⟩
      have hdrop2 : es.drop i = e :: es.drop (i + 1) := by
        rw [List.drop_eq_getElem_cons (by omega)]; congr 1; exact (List.getElem?_eq_some_iff.1 hy).2
      rw [hdrop, hdrop2] at hinv
      simp only [grantedOf] at hinv
      refine W_skip (kq5 _ _ ?_)
      refine W_seq fun kz7 kq7 => ?_
      refine W_block ?_
      refine W_seq fun kz8 kq8 => ?_
      refine W_region [0, 1, 5, 6, 23] fun R hR => ?_   -- r5
      simp only [go_sem, hx, hy]
      refine hR _ _ (kq8 _ _ ?_); clear hR R; try clear kq8 kz8
      try simp only [go_sem, hx, hy]
      refine W_cond rfl (fun c2 => ?_) (fun c2 => ?_)
      · -- c2 true
        try simp only [nrm] at c2
        refine W_region [0, 1, 5, 6] fun R hR => ?_   -- r6
        simp only [go_sem, hx, hy]
        simp (disch := first | omega | (simp only [go_sem] <;> omega)) only [wrapI, wrapU, appX_exact, appX_tok]
        try simp only [go_sem, hx, hy]
        refine hR _ _ (kq7 _ _ ?_); clear hR R; try clear kq7 kz7
        try simp only [go_sem, hx, hy]
        refine W_region [0, 1, 5, 6] fun R hR => ?_   -- r4
        simp only [go_sem, hx, hy]
        try simp (disch := omega) only [wrapI, wrapU]
        refine hR _ _ ?_; clear hR R
        try simp only [go_sem, hx, hy]
        refine ⟨(i + 1, out ++ [b]), ?_, by (try simp only []); omega, ?_⟩
        · first | exact Weak.refl | exact Weak.eq (by first | rfl | (simp only [go_sem]; done) | (simp only [go_sem]; rfl) | (simp [go_sem]; done) | (simp [go_sem]; omega)) (by first | rfl | (simp only [go_sem]; done) | (simp [go_sem]; done))
        · try dsimp only
          exact ⟨hi', by (try simp); omega, by rw [hinv]; simp [c2]⟩
      · -- c2 false
        try simp only [nrm] at c2
        refine W_skip (kq7 _ _ ?_)
        refine W_region [0, 1, 5, 6] fun R hR => ?_   -- r4
        simp only [go_sem, hx, hy]
        try simp (disch := omega) only [wrapI, wrapU]
        refine hR _ _ ?_; clear hR R
        try simp only [go_sem, hx, hy]
        refine ⟨(i + 1, out), ?_, by (try simp only []); omega, ?_⟩
        · first | exact Weak.refl | exact Weak.eq (by first | rfl | (simp only [go_sem]; done) | (simp only [go_sem]; rfl) | (simp [go_sem]; done) | (simp [go_sem]; omega)) (by first | rfl | (simp only [go_sem]; done) | (simp [go_sem]; done))
        · try dsimp only
          exact ⟨hi', by (try simp); omega, by rw [hinv]; simp [c2]⟩
    · -- c1 false
      try simp only [nrm] at c1
      have hdrop : l.drop i = [] := List.drop_eq_nil_of_le (by omega)
      rw [hdrop] at hinv
      simp only [grantedOf, List.append_nil] at hinv
      refine W_exit ?_
      simp only [go_sem]
      refine kq3 _ _ ?_
      refine W_seq fun kz9 kq9 => ?_
      refine W_region [4] fun R hR => ?_   -- r7
      simp only [go_sem]
      refine hR _ _ (kq9 _ _ ?_); clear hR R; try clear kq9 kz9
      try simp only [go_sem]
      refine W_ret ?_
      simp only [go_sem]
      refine ⟨.inr (by trivial), ?_⟩
      refine Fin_same hcl rfl (Wk.ro (by simp only [go_sem]) ?_)
      try simp only [go_sem]
      all_goals
        rw [hinv]
  · simp only [go_sem]
    refine GWant_split (fun g1 => ?_) (fun g1 => ?_)
    · try simp only [Bool.not_eq_true', Bool.not_eq_false'] at g1
      have n1 := g1; try simp only [nrm] at n1
      simp only [go_sem, g1]
      refine hR _ ?_
      try simp only [go_sem]
      all_goals
        first | rfl | (simp [*]; done) | (simp [*]; omega)
    · try simp only [Bool.not_eq_true', Bool.not_eq_false'] at g1
      have n1 := g1; try simp only [nrm] at n1
      simp only [go_sem, g1]
      refine hR _ ?_
      try simp only [go_sem]
      all_goals
        first | rfl | (simp [*]; done) | (simp [*]; omega)
set_option maxHeartbeats 2000000 in
theorem bSquares_pc (Y : YEnv) (σ : Sg) (ct : City) (b : Band) (hc : ct.Ok) (hb : b.path.length < 2 ^ 50) :
    PC Try.prog Y 37 [ctPV ct, bdPV b] σ (sqPV (squaresAns ct b)) (σ) := by
  refine PC_of_W Try.func37 rfl (by kernel_rfl) Try.ntmps37 (by simp) fun hcl hca => ?_
  refine W_seq fun kz1 kq1 => ?_
  refine W_region [2, 3] fun R hR => ?_   -- r0
  simp only [go_sem]
  refine hR _ _ (kq1 _ _ ?_); clear hR R; try clear kq1 kz1
  try simp only [go_sem]
  refine W_seq fun kz2 kq2 => ?_
  refine W_seq fun kz3 kq3 => ?_
  refine W_region [2, 3, 6] fun R hR => ?_   -- r1
  simp only [go_sem]
  refine GCall_of (PC.ofRo (asked_pc Y _ ct [b] hc ⟨by simp, fun x hx => by simp at hx; subst hx; assumption⟩) (by simp only [go_sem] <;> rfl)) ?_   -- t10
  simp only [go_sem]
  refine hR _ _ (kq3 _ _ ?_); clear hR R; try clear kq3 kz3
  try simp only [go_sem]
  refine W_seq fun kz4 kq4 => ?_
  refine W_region [2, 3, 6, 12] fun R hR => ?_   -- r2
  simp only [go_sem]
  refine hR _ _ (kq4 _ _ ?_); clear hR R; try clear kq4 kz4
  try simp only [go_sem]
  refine W_cond rfl (fun c1 => ?_) (fun c1 => ?_)
  · -- c1 true
    try simp only [nrm] at c1
    refine W_seq fun kz5 kq5 => ?_
    refine W_region [4, 5] fun R hR => ?_   -- r3
    simp only [go_sem]
    refine hR _ _ (kq5 _ _ ?_); clear hR R; try clear kq5 kz5
    try simp only [go_sem]
    refine W_ret ?_
    simp only [go_sem]
    refine ⟨.inr (by trivial), ?_⟩
    refine Fin_same hcl rfl (Wk.ro (by simp only [go_sem]) ?_)
    try simp only [go_sem]
    all_goals
      simp [squaresAns, sqPV, c1, PV.ro, PV.roL]
  · -- c1 false
    try simp only [nrm] at c1
    refine W_skip (kq2 _ _ ?_)
    refine W_seq fun kz6 kq6 => ?_
    refine W_region [4, 5] fun R hR => ?_   -- r4
    simp only [go_sem]
    refine GCall_of (squares_pc Y _ ct b hc hb) ?_   -- t16
    simp only [go_sem]
    refine hR _ _ (kq6 _ _ ?_); clear hR R; try clear kq6 kz6
    try simp only [go_sem]
    refine W_ret ?_
    simp only [go_sem]
    refine ⟨.inr (by trivial), ?_⟩
    first | refine Fin_same hcl rfl (Wk_eq ?_ (by simp only [go_sem])) | refine Fin_self hcl rfl (Wk_eq ?_ (by simp only [go_sem]))
    try simp only [go_sem]
    all_goals
      simp [squaresAns, sqPV, c1, PV.ro, PV.roL]
end Go.Proofs.Ytnpamcpoaklgeaa
namespace Go.Proofs.Ytnpamcpoaklgeaa
open Go Go.RowKit
end Go.Proofs.Ytnpamcpoaklgeaa
namespace Go.Proofs.Ytnpamcpoaklgeaa
open Go Go.RowKit
set_option maxRecDepth 100000
end Go.Proofs.Ytnpamcpoaklgeaa
namespace Go.Proofs.Ytnpamcpoaklgeaa
open Go Go.RowKit
def bandsAt (l : List Band) (ms : List Nat) : List Band := ms.filterMap fun i => l[i]?
end Go.Proofs.Ytnpamcpoaklgeaa
namespace Go.Proofs.Ytnpamcpoaklgeaa
open Go Go.RowKit
/-- The choice E goes on from the choice C, with members from n on, each granted in turn. -/
inductive Reach (c : City) (l : List Band) : Nat → List Nat → List Nat → Prop where
  | here (n : Nat) (C : List Nat) : Reach c l n C C
  | more (n : Nat) (C E : List Nat) (k : Nat) (b : Band) (h1 : n ≤ k) (h2 : l[k]? = some b) (h3 : reqOf c (bandsAt l C) b = 0) (h4 : Reach c l (k + 1) (C ++ [k]) E) : Reach c l n C E
section
variable {c : City} {l : List Band}
end
end Go.Proofs.Ytnpamcpoaklgeaa
namespace Go.Proofs.Ytnpamcpoaklgeaa
open Go Go.RowKit
theorem idx_uniq {d s : Int} {i j : Nat} (hs : 1 ≤ s) (h1 : (i : Int) * s ≤ d) (h2 : d < (i : Int) * s + s) (h3 : (j : Int) * s ≤ d) (h4 : d < (j : Int) * s + s) : i = j := by
  rcases Nat.lt_trichotomy i j with h | h | h
  · have := Int.mul_le_mul_of_nonneg_right (show (i : Int) + 1 ≤ (j : Int) by omega) (show 0 ≤ s by omega)
    rw [Int.add_mul, Int.one_mul] at this
    omega
  · exact h
  · have := Int.mul_le_mul_of_nonneg_right (show (j : Int) + 1 ≤ (i : Int) by omega) (show 0 ≤ s by omega)
    rw [Int.add_mul, Int.one_mul] at this
    omega
end Go.Proofs.Ytnpamcpoaklgeaa
namespace Go.Proofs.Ytnpamcpoaklgeaa
open Go Go.RowKit
set_option maxRecDepth 100000
def has (l : List Int) (v : Int) : Bool := l.any fun x => decide (x = v)
end Go.Proofs.Ytnpamcpoaklgeaa
namespace Go.Proofs.Ytnpamcpoaklgeaa
set_option maxRecDepth 100000
theorem mem_sortI {x : Int} {l : List Int} : x ∈ sortI l ↔ x ∈ l := (List.mergeSort_perm l _).mem_iff
theorem sorted_sortI (l : List Int) : (sortI l).Pairwise (· ≤ ·) := by
  have := List.pairwise_mergeSort (le := fun x y : Int => decide (x ≤ y)) (fun a b c h1 h2 => by simp only [decide_eq_true_eq] at *; omega) (fun a b => by simp only [Bool.or_eq_true, decide_eq_true_eq]; omega) l
  exact this.imp (fun h => by simpa using h)
theorem get_bang {l : List Int} {j : Nat} (h : j < l.length) : l.toArray[j]! = l[j] := by simp [h]
theorem mem_compact {x : Int} {l : List Int} : x ∈ Lib.compact l ↔ x ∈ l := by
  unfold Lib.compact Lib.compactUpTo
  simp only [List.mem_map, List.mem_filter, List.mem_range]
  constructor
  · rintro ⟨j, ⟨hj, _⟩, rfl⟩
    rw [get_bang hj]
    exact List.getElem_mem hj
  · intro h
    obtain ⟨n, hn⟩ := List.mem_iff_getElem?.1 h
    induction n using Nat.strongRecOn with
    | _ n ih =>
      have hlt := (List.getElem?_eq_some_iff.1 hn).1
      have hx := (List.getElem?_eq_some_iff.1 hn).2
      by_cases hk : Lib.keeps l.toArray n = true
      · exact ⟨n, ⟨hlt, hk⟩, by rw [get_bang hlt]; exact hx⟩
      · simp only [Lib.keeps, decide_eq_true_eq, not_or, Decidable.not_not] at hk
        obtain ⟨h0, h1⟩ := hk
        have hlt' : n - 1 < l.length := by omega
        rw [get_bang hlt, get_bang hlt', hx] at h1
        exact ih (n - 1) (by omega) (by rw [List.getElem?_eq_getElem hlt']; congr 1; exact h1.symm)
theorem asc_compact {l : List Int} (hs : l.Pairwise (· ≤ ·)) : (Lib.compact l).Pairwise (· < ·) := by
  unfold Lib.compact Lib.compactUpTo
  rw [List.pairwise_map]
  have hr : ((List.range l.length).filter (Lib.keeps l.toArray)).Pairwise (fun a b => a < b ∧ b < l.length ∧ Lib.keeps l.toArray b = true) := by
    rw [List.pairwise_filter]
    have := @List.pairwise_lt_range l.length
    refine List.Pairwise.imp_of_mem (fun {a b} ha hb hab h1 h2 => ⟨hab, List.mem_range.1 hb, h2⟩) this
  refine hr.imp fun {a b} ⟨h1, h2, h3⟩ => ?_
  have ha : a < l.length := by omega
  rw [get_bang ha, get_bang h2]
  simp only [Lib.keeps, decide_eq_true_eq] at h3
  have hle : ∀ i j (hi : i < l.length) (hj : j < l.length), i ≤ j → l[i] ≤ l[j] := fun i j hi hj hij => by
    by_cases e : i = j
    · subst e; exact Int.le_refl _
    · exact List.pairwise_iff_getElem.1 hs i j hi hj (by omega)
  rcases h3 with h3 | h3
  · omega
  · have hb' : b - 1 < l.length := by omega
    rw [get_bang h2, get_bang hb'] at h3
    have g1 := hle a (b - 1) ha hb' (by omega)
    have g2 := hle (b - 1) b hb' h2 (by omega)
    omega
/-- The band, begun at s, is in the square sq in the minute t. -/
def isAt (c : City) (b : Band) (s t sq : Int) : Prop := ∃ k : Nat, (sqs c b).1[k]? = some sq ∧ s + (k : Int) * b.stay ≤ t ∧ t ≤ s + (k : Int) * b.stay + b.stay - 1
theorem vIdx_none {q : Vis → Bool} : ∀ {l : List Vis} {i : Nat}, vIdx q i l < 0 → ∀ v, v ∈ l → q v = false := by
  intro l
  induction l with
  | nil => intro i _ v hv; cases hv
  | cons x l ih =>
    intro i h v hv
    simp only [vIdx] at h
    by_cases hx : q x = true
    · rw [if_pos hx] at h; omega
    · rw [if_neg hx] at h
      rcases List.mem_cons.1 hv with rfl | hv
      · simpa using hx
      · exact ih h v hv
theorem whAt_neg {c : City} {b : Band} {t s : Int} (h : whAt c b t s < 0) : ¬ ∃ sq, isAt c b s t sq := by
  rintro ⟨sq, k, h1, h2, h3⟩
  have hv := (visOf_get c b s k ⟨s + (k : Int) * b.stay, s + (k : Int) * b.stay + b.stay - 1, sq⟩).2 ⟨sq, h1, rfl⟩
  have := vIdx_none h _ (List.mem_of_getElem? hv)
  simp only [inR] at this
  simp at this
  omega
theorem whAt_pos {c : City} {b : Band} {t s : Int} (hs : 1 ≤ b.stay) (h : ¬ whAt c b t s < 0) : ∃ v, (visOf c b s)[(whAt c b t s).toNat]? = some v ∧ ∀ sq, isAt c b s t sq ↔ sq = v.sq := by
  obtain ⟨v, h1, _, h2⟩ := whAt_get h
  refine ⟨v, h1, fun sq => ?_⟩
  obtain ⟨x, hx, rfl⟩ := (visOf_get c b s _ v).1 h1
  simp only [inR_true] at h2
  constructor
  · rintro ⟨k, g1, g2, g3⟩
    have e := idx_uniq (d := t - s) (i := k) (j := (whAt c b t s).toNat) hs (by omega) (by omega) (by omega) (by omega)
    rw [← e] at hx
    rw [hx] at g1
    injection g1 with g1
    exact g1.symm
  · rintro rfl
    exact ⟨_, hx, h2.1, h2.2⟩
theorem whAll_mem {c : City} {b : Band} {t : Int} (hs : 1 ≤ b.stay) (hb : b.lo ≤ b.hi + 1) (sq : Int) : sq ∈ (whAll c b t).1 ↔ ∃ s, b.lo ≤ s ∧ s ≤ b.hi ∧ isAt c b s t sq := by
  have h := upTo_ind (f := whStep c b t) (lo := b.lo) (fun i p => sq ∈ p.1 ↔ ∃ s, b.lo ≤ s ∧ s < i ∧ isAt c b s t sq) (a := ([], false)) ⟨fun h => (by cases h), fun ⟨s, h1, h2, _⟩ => (by omega)⟩ (fun i p hi hp => by
    have split : (∃ s, b.lo ≤ s ∧ s < i + 1 ∧ isAt c b s t sq) ↔ (∃ s, b.lo ≤ s ∧ s < i ∧ isAt c b s t sq) ∨ isAt c b i t sq := by
      constructor
      · rintro ⟨s, h1, h2, h3⟩
        by_cases e : s = i
        · subst e; exact .inr h3
        · exact .inl ⟨s, h1, by omega, h3⟩
      · rintro (⟨s, h1, h2, h3⟩ | h)
        · exact ⟨s, h1, by omega, h3⟩
        · exact ⟨i, hi, by omega, h⟩
    rw [split, ← hp]
    unfold whStep
    by_cases hw : whAt c b t i < 0
    · rw [if_pos hw]
      exact ⟨.inl, fun h => h.resolve_right fun q => whAt_neg hw ⟨_, q⟩⟩
    · rw [if_neg hw]
      obtain ⟨v, h1, h2⟩ := whAt_pos hs hw
      rw [h1, h2]
      simp) (s := b.hi + 1) hb
  unfold whAll
  rw [h]
  exact ⟨fun ⟨s, h1, h2, h3⟩ => ⟨s, h1, by omega, h3⟩, fun ⟨s, h1, h2, h3⟩ => ⟨s, h1, by omega, h3⟩⟩
theorem whAll_away {c : City} {b : Band} {t : Int} (hb : b.lo ≤ b.hi + 1) : (whAll c b t).2 = true ↔ ∃ s, b.lo ≤ s ∧ s ≤ b.hi ∧ whAt c b t s < 0 := by
  have h := upTo_ind (f := whStep c b t) (lo := b.lo) (fun i p => p.2 = true ↔ ∃ s, b.lo ≤ s ∧ s < i ∧ whAt c b t s < 0) (a := ([], false)) ⟨fun h => (by cases h), fun ⟨s, h1, h2, _⟩ => (by omega)⟩ (fun i p hi hp => by
    have split : (∃ s, b.lo ≤ s ∧ s < i + 1 ∧ whAt c b t s < 0) ↔ (∃ s, b.lo ≤ s ∧ s < i ∧ whAt c b t s < 0) ∨ whAt c b t i < 0 := by
      constructor
      · rintro ⟨s, h1, h2, h3⟩
        by_cases e : s = i
        · subst e; exact .inr h3
        · exact .inl ⟨s, h1, by omega, h3⟩
      · rintro (⟨s, h1, h2, h3⟩ | h)
        · exact ⟨s, h1, by omega, h3⟩
        · exact ⟨i, hi, by omega, h⟩
    rw [split, ← hp]
    unfold whStep
    by_cases hw : whAt c b t i < 0
    · rw [if_pos hw]
      exact ⟨fun _ => .inr hw, fun _ => rfl⟩
    · rw [if_neg hw]
      obtain ⟨v, h1, _, _⟩ := whAt_get hw
      simp only [h1]
      exact ⟨.inl, fun h => h.resolve_right hw⟩) (s := b.hi + 1) hb
  unfold whAll
  rw [h]
  exact ⟨fun ⟨s, h1, h2, h3⟩ => ⟨s, h1, by omega, h3⟩, fun ⟨s, h1, h2, h3⟩ => ⟨s, h1, by omega, h3⟩⟩
/-- The reference's answer. -/
def atFrom (start stay t : Int) : Nat → List Int → Int
  | _, [] => -1
  | k, s :: r => if inR t (start + (k : Int) * stay) (start + ((k : Int) + 1) * stay - 1) then s else atFrom start stay t (k + 1) r
def atB (c : City) (b : Band) (start t : Int) : Int := atFrom start b.stay t 0 (sqs c b).1
theorem atFrom_at (start stay t : Int) : ∀ (l : List Int) (k : Nat), atFrom start stay t k l = -1 ∨ ∃ i : Nat, l[i]? = some (atFrom start stay t k l) ∧ start + ((k + i : Nat) : Int) * stay ≤ t ∧ t ≤ start + ((k + i : Nat) : Int) * stay + stay - 1 := by
  intro l
  induction l with
  | nil => intro k; exact .inl rfl
  | cons s r ih =>
    intro k
    simp only [atFrom]
    by_cases h : inR t (start + (k : Int) * stay) (start + ((k : Int) + 1) * stay - 1) = true
    · rw [if_pos h]
      simp only [inR_true, Int.add_mul, Int.one_mul] at h
      exact .inr ⟨0, rfl, h.1, by have := h.2; simp only [Nat.add_zero]; omega⟩
    · rw [if_neg h]
      rcases ih (k + 1) with g | ⟨i, g1, g2, g3⟩
      · exact .inl g
      · exact .inr ⟨i + 1, by simpa using g1, by rw [show k + (i + 1) = k + 1 + i by omega]; exact g2, by rw [show k + (i + 1) = k + 1 + i by omega]; exact g3⟩
end Go.Proofs.Ytnpamcpoaklgeaa
namespace Go.Proofs.Ytnpamcpoaklgeaa
set_option maxRecDepth 100000
def mayIdx (c : City) (b : Band) (t s : Int) : Nat := if atB c b s t < 0 then c.town.rooms.length else (atB c b s t).toNat
def mayStep (c : City) (b : Band) (t s : Int) (l : List Bool) : List Bool := l.set (mayIdx c b t s) true
def mayOf (c : City) (b : Band) (t : Int) : List Bool := upTo (mayStep c b t) b.lo (b.hi + 1) (List.replicate (c.town.rooms.length + 1) false)
/-- The places of true among the first k. -/
def tI (l : List Bool) : Nat → List Int
  | 0 => []
  | k + 1 => tI l k ++ (if l[k]? = some true then [(k : Int)] else [])
def rWhereAns (c : City) (b : Band) (t : Int) : (List Int × Bool) × Int :=
  if askedOf c [b] ≠ 0 then (([], false), askedOf c [b]) else if !(inR t 0 719) then (([], false), 2) else ((tI (mayOf c b t) c.town.rooms.length, decide ((mayOf c b t)[c.town.rooms.length]? = some true)), 0)
theorem chkAll_one (c : City) (b : Band) : chkAll c [b] = askedOf c [b] := by simp [chkAll, askedOf]
theorem mayStep_len (c : City) (b : Band) (t s : Int) (l : List Bool) : (mayStep c b t s l).length = l.length := by simp [mayStep]
theorem tI_len (l : List Bool) : ∀ k, (tI l k).length ≤ k := by
  intro k
  induction k with
  | zero => simp [tI]
  | succ k ih => simp only [tI, List.length_append]; split <;> simp <;> omega
theorem tI_mem (l : List Bool) (x : Int) : ∀ k, x ∈ tI l k ↔ ∃ i : Nat, i < k ∧ x = (i : Int) ∧ l[i]? = some true := by
  intro k
  induction k with
  | zero => simp [tI]
  | succ k ih =>
    simp only [tI, List.mem_append, ih]
    constructor
    · rintro (⟨i, h1, h2, h3⟩ | h)
      · exact ⟨i, by omega, h2, h3⟩
      · split at h
        · rename_i hk
          simp at h
          exact ⟨k, by omega, h, hk⟩
        · cases h
    · rintro ⟨i, h1, h2, h3⟩
      by_cases e : i = k
      · subst e; right; rw [if_pos h3]; simp [h2]
      · exact .inl ⟨i, by omega, h2, h3⟩
theorem tI_asc (l : List Bool) : ∀ k, (tI l k).Pairwise (· < ·) := by
  intro k
  induction k with
  | zero => simp [tI]
  | succ k ih =>
    simp only [tI]
    rw [List.pairwise_append]
    refine ⟨ih, by split <;> simp, fun a ha b hb => ?_⟩
    obtain ⟨i, h1, rfl, _⟩ := (tI_mem l a k).1 ha
    split at hb
    · simp at hb; subst hb; omega
    · cases hb
theorem asc_ext : ∀ {l m : List Int}, l.Pairwise (· < ·) → m.Pairwise (· < ·) → (∀ x, x ∈ l ↔ x ∈ m) → l = m := by
  intro l
  induction l with
  | nil =>
    intro m _ _ h
    cases m with
    | nil => rfl
    | cons b m => exact absurd ((h b).2 (by simp)) (by simp)
  | cons a l ih =>
    intro m hl hm h
    cases m with
    | nil => exact absurd ((h a).1 (by simp)) (by simp)
    | cons b m =>
      rw [List.pairwise_cons] at hl hm
      have e : a = b := by
        have h1 := (h a).1 (by simp)
        have h2 := (h b).2 (by simp)
        rcases List.mem_cons.1 h1 with h1 | h1
        · exact h1
        · rcases List.mem_cons.1 h2 with h2 | h2
          · exact h2.symm
          · have := hl.1 b h2
            have := hm.1 a h1
            omega
      subst e
      congr 1
      refine ih hl.2 hm.2 fun x => ?_
      constructor
      · intro hx
        rcases List.mem_cons.1 ((h x).1 (List.mem_cons_of_mem _ hx)) with e | e
        · subst e; have := hl.1 x hx; omega
        · exact e
      · intro hx
        rcases List.mem_cons.1 ((h x).2 (List.mem_cons_of_mem _ hx)) with e | e
        · subst e; have := hm.1 x hx; omega
        · exact e
theorem atFrom_none (start stay t : Int) : ∀ (l : List Int) (k : Nat), (∀ s, s ∈ l → 0 ≤ s) → atFrom start stay t k l < 0 → ∀ (i : Nat) s, l[i]? = some s → ¬ (start + ((k + i : Nat) : Int) * stay ≤ t ∧ t ≤ start + ((k + i : Nat) : Int) * stay + stay - 1) := by
  intro l
  induction l with
  | nil => intro k _ _ i s h; simp at h
  | cons x r ih =>
    intro k hl h i s hi
    simp only [atFrom] at h
    by_cases hx : inR t (start + (k : Int) * stay) (start + ((k : Int) + 1) * stay - 1) = true
    · rw [if_pos hx] at h
      have := hl x (by simp)
      omega
    · rw [if_neg hx] at h
      simp only [inR_true, Int.add_mul, Int.one_mul] at hx
      cases i with
      | zero => simp only [Nat.add_zero]; intro hh; exact hx ⟨hh.1, by omega⟩
      | succ i =>
        have := ih (k + 1) (fun s hs => hl s (List.mem_cons_of_mem _ hs)) h i s (by simpa using hi)
        rw [show k + (i + 1) = k + 1 + i by omega]
        exact this
section
variable {c : City} {b : Band} {t s : Int}
theorem atB_neg (hr : ∀ x, x ∈ (sqs c b).1 → 0 ≤ x ∧ x < c.town.rooms.length) (h : atB c b s t < 0) : ¬ ∃ sq, isAt c b s t sq := by
  rintro ⟨sq, k, h1, h2, h3⟩
  have := atFrom_none s b.stay t (sqs c b).1 0 (fun x hx => (hr x hx).1) h k sq h1
  rw [Nat.zero_add] at this
  exact this ⟨h2, h3⟩
theorem atB_pos (hs : 1 ≤ b.stay) (hr : ∀ x, x ∈ (sqs c b).1 → 0 ≤ x ∧ x < c.town.rooms.length) (h : ¬ atB c b s t < 0) : (atB c b s t < c.town.rooms.length) ∧ ∀ sq, isAt c b s t sq ↔ sq = atB c b s t := by
  rcases atFrom_at s b.stay t (sqs c b).1 0 with g | ⟨i, g1, g2, g3⟩
  · have : atB c b s t = -1 := g
    omega
  · have g1' : (sqs c b).1[i]? = some (atB c b s t) := g1
    rw [Nat.zero_add] at g2 g3
    refine ⟨(hr _ (List.mem_of_getElem? g1')).2, fun sq => ⟨?_, ?_⟩⟩
    · rintro ⟨k, h1, h2, h3⟩
      have e := idx_uniq (d := t - s) (i := k) (j := i) hs (by omega) (by omega) (by omega) (by omega)
      subst e
      rw [g1'] at h1
      injection h1 with h1
      exact h1.symm
    · rintro rfl
      exact ⟨i, g1', g2, g3⟩
theorem whAt_atB (hs : 1 ≤ b.stay) (hr : ∀ x, x ∈ (sqs c b).1 → 0 ≤ x ∧ x < c.town.rooms.length) : whAt c b t s < 0 ↔ atB c b s t < 0 := by
  constructor
  · intro h
    rcases Classical.em (atB c b s t < 0) with h2 | h2
    · exact h2
    · exact absurd ⟨_, ((atB_pos hs hr h2).2 _).2 rfl⟩ (whAt_neg h)
  · intro h
    rcases Classical.em (whAt c b t s < 0) with h2 | h2
    · exact h2
    · obtain ⟨v, _, h3⟩ := whAt_pos hs h2
      exact absurd ⟨_, (h3 _).2 rfl⟩ (atB_neg hr h)
theorem mayOf_get (hb : b.lo ≤ b.hi + 1) {i : Nat} (hi : i < c.town.rooms.length + 1) : (mayOf c b t).length = c.town.rooms.length + 1 ∧ ((mayOf c b t)[i]? = some true ↔ ∃ s, b.lo ≤ s ∧ s ≤ b.hi ∧ mayIdx c b t s = i) := by
  have h := upTo_ind (f := mayStep c b t) (lo := b.lo) (fun j l => l.length = c.town.rooms.length + 1 ∧ (l[i]? = some true ↔ ∃ s, b.lo ≤ s ∧ s < j ∧ mayIdx c b t s = i)) (a := List.replicate (c.town.rooms.length + 1) false)
    ⟨by simp, fun h => by simp [List.getElem?_replicate, hi] at h, fun ⟨s, h1, h2, _⟩ => by omega⟩ (fun j l hj ⟨hl, hp⟩ => by
    refine ⟨by rw [mayStep_len]; exact hl, ?_⟩
    have split : (∃ s, b.lo ≤ s ∧ s < j + 1 ∧ mayIdx c b t s = i) ↔ (∃ s, b.lo ≤ s ∧ s < j ∧ mayIdx c b t s = i) ∨ mayIdx c b t j = i := by
      constructor
      · rintro ⟨s, h1, h2, h3⟩
        by_cases e : s = j
        · subst e; exact .inr h3
        · exact .inl ⟨s, h1, by omega, h3⟩
      · rintro (⟨s, h1, h2, h3⟩ | h)
        · exact ⟨s, h1, by omega, h3⟩
        · exact ⟨j, hj, by omega, h⟩
    rw [split, ← hp]
    unfold mayStep
    rw [List.getElem?_set]
    by_cases e : mayIdx c b t j = i
    · rw [if_pos e, if_pos (by omega)]; simp [e]
    · rw [if_neg e]; simp [e]) (s := b.hi + 1) hb
  unfold mayOf
  refine ⟨h.1, ?_⟩
  rw [h.2]
  exact ⟨fun ⟨s, h1, h2, h3⟩ => ⟨s, h1, by omega, h3⟩, fun ⟨s, h1, h2, h3⟩ => ⟨s, h1, by omega, h3⟩⟩
end
/-- The program's answer is the reference's. -/
theorem where_eq (c : City) (b : Band) (t : Int) : whereAns c b t = rWhereAns c b t := by
  unfold whereAns rWhereAns
  by_cases ha : askedOf c [b] ≠ 0
  · rw [if_pos ha, if_pos ha]
  · rw [if_neg ha, if_neg ha]
    by_cases ht : (!(inR t 0 719)) = true
    · rw [if_pos ht, if_pos ht]
    · rw [if_neg ht, if_neg ht]
      have ha' : askedOf c [b] = 0 := by omega
      have hc : chkCity c = 0 := by
        unfold askedOf at ha'
        split at ha' <;> omega
      have hcb : chkBand c b = 0 := by
        unfold askedOf at ha'
        split at ha'
        · omega
        · simp only [chkBands] at ha'
          split at ha' <;> omega
      have htm := timesOf_ok (chkBand_ok hcb).2
      have hr := sqs_range (b := b) hc
      have hs : 1 ≤ b.stay := by omega
      have hlo : b.lo ≤ b.hi + 1 := by omega
      congr 1
      refine Prod.ext ?_ ?_
      · refine asc_ext (asc_compact (sorted_sortI _)) (tI_asc _ _) fun x => ?_
        rw [mem_compact, mem_sortI, whAll_mem hs hlo, tI_mem]
        constructor
        · rintro ⟨s, h1, h2, h3⟩
          have hn : ¬ atB c b s t < 0 := fun h => atB_neg hr h ⟨x, h3⟩
          obtain ⟨g1, g2⟩ := atB_pos hs hr hn
          have e := (g2 x).1 h3
          subst e
          have hi : (atB c b s t).toNat < c.town.rooms.length + 1 := by omega
          refine ⟨(atB c b s t).toNat, by omega, by omega, (mayOf_get hlo hi).2.2 ⟨s, h1, h2, ?_⟩⟩
          unfold mayIdx
          rw [if_neg hn]
        · rintro ⟨i, h1, rfl, h3⟩
          obtain ⟨s, g1, g2, g3⟩ := (mayOf_get hlo (i := i) (by omega)).2.1 h3
          unfold mayIdx at g3
          split at g3
          · omega
          · rename_i hn
            refine ⟨s, g1, g2, ((atB_pos hs hr hn).2 _).2 ?_⟩
            omega
      · show (whAll c b t).2 = decide _
        rw [Bool.eq_iff_iff, whAll_away hlo, decide_eq_true_eq, (mayOf_get hlo (i := c.town.rooms.length) (by omega)).2]
        constructor
        · rintro ⟨s, h1, h2, h3⟩
          exact ⟨s, h1, h2, by unfold mayIdx; rw [if_pos ((whAt_atB hs hr).1 h3)]⟩
        · rintro ⟨s, h1, h2, h3⟩
          refine ⟨s, h1, h2, (whAt_atB hs hr).2 ?_⟩
          rcases Classical.em (atB c b s t < 0) with h | h
          · exact h
          · unfold mayIdx at h3
            rw [if_neg h] at h3
            have := (atB_pos hs hr h).1
            omega
end Go.Proofs.Ytnpamcpoaklgeaa
namespace Go.Proofs.Ytnpamcpoaklgeaa
open Go Go.RowKit
set_option maxRecDepth 100000
theorem atFrom_cons (start stay t s : Int) (k : Nat) (r : List Int) : atFrom start stay t k (s :: r) = if inR t (start + (k : Int) * stay) (start + ((k : Int) * stay + stay) - 1) then s else atFrom start stay t (k + 1) r := by
  simp only [atFrom, Int.add_mul, Int.one_mul]
set_option maxHeartbeats 2000000 in
theorem rAt_pc (Y : YEnv) (σ : Sg) (ct : City) (b : Band) (start t : Int) (hc : ct.Ok) (hb : b.path.length < 2 ^ 50) (h1 : -2 ^ 40 ≤ start) (h2 : start ≤ 2 ^ 40) (h3 : 0 ≤ b.stay) (h4 : b.stay ≤ 1000) :
    PC Try.prog Y 50 [ctPV ct, bdPV b, I start, I t] σ (I (atB ct b start t)) (σ) := by
  refine PC_of_W Try.func50 rfl (by kernel_rfl) Try.ntmps50 (by simp) fun hcl hca => ?_
  obtain ⟨l, hl⟩ : ∃ z, (sqs ct b).1 = z := ⟨_, rfl⟩
  obtain ⟨e, he⟩ : ∃ z, (sqs ct b).2 = z := ⟨_, rfl⟩
  have hln := (sqs_len ct b).1
  rw [hl] at hln
  obtain ⟨res, hres⟩ : ∃ r, atB ct b start t = r := ⟨_, rfl⟩
  rw [hres]
  refine W_seq fun kz1 kq1 => ?_
  refine W_region [2, 3, 4, 5] fun R hR => ?_   -- r0
  simp only [go_sem]
  refine hR _ _ (kq1 _ _ ?_); clear hR R; try clear kq1 kz1
  try simp only [go_sem]
  refine W_seq fun kz2 kq2 => ?_
  refine W_region [2, 3, 5, 9] fun R hR => ?_   -- r1
  simp only [go_sem]
  refine GCall_of (PC.val (v' := .tuple [ints l, I e]) (rsquares_pc Y _ ct b hc hb) (by simp only [sqPV, hl, he])) ?_   -- t15
  simp only [go_sem]
  refine hR _ _ (kq2 _ _ ?_); clear hR R; try clear kq2 kz2
  try simp only [go_sem]
  refine W_seq fun kz3 kq3 => ?_
  refine W_seq fun kz4 kq4 => ?_
  refine W_region [2, 3, 5, 9, 11] fun R hR => ?_   -- r2
  simp only [go_sem]
  refine hR _ _ (kq4 _ _ ?_); clear hR R; try clear kq4 kz4
  try simp only [go_sem]
  refine W_block ?_
  refine W_loopS (α := Nat) (fun (k : Nat) => [(11, I k)]) (fun (k : Nat) => k ≤ l.length ∧ atB ct b start t = atFrom start b.stay t k (l.drop k)) (fun (k : Nat) => l.length - k) (0) rfl (⟨Nat.zero_le _, by unfold atB; rw [hl]; rfl⟩) ?_
  rintro k ⟨hk, hinv⟩
  refine W_seq fun kz5 kq5 => ?_
  refine W_seq fun kz6 kq6 => ?_
  refine W_region [2, 3, 5, 9, 11, 21] fun R hR => ?_   -- r3
  simp only [go_sem]
  refine hR _ _ (kq6 _ _ ?_); clear hR R; try clear kq6 kz6
  try simp only [go_sem]
  refine W_cond rfl (fun c1 => ?_) (fun c1 => ?_)
  · -- c1 true
    try simp only [nrm] at c1
    have hi' : k < l.length := by first | assumption | omega
    obtain ⟨s, hx⟩ : ∃ s, l[k]? = some s := ⟨l[k], by simp [hi']⟩
    have hdrop : l.drop k = s :: l.drop (k + 1) := by
      rw [List.drop_eq_getElem_cons hi']; congr 1; exact (List.getElem?_eq_some_iff.1 hx).2
    rw [hdrop, atFrom_cons] at hinv
    have m1 := mul_bd (a := (k : Int)) (b := b.stay) (A := 1000) (B := 1000) (by omega) (by omega) h3 h4
    have m2 : ((k : Int) + 1) * b.stay = (k : Int) * b.stay + b.stay := by rw [Int.add_mul, Int.one_mul]
    have w1 : IntKind.i64.wrap ((k : Int) + 1) = (k : Int) + 1 := wrapI (by omega) (by omega)
    refine W_skip (kq5 _ _ ?_)
    refine W_seq fun kz7 kq7 => ?_
    refine W_block ?_
    refine W_seq fun kz8 kq8 => ?_
    refine W_region [2, 3, 5, 9, 11, 39] fun R hR => ?_   -- r5
    simp only [go_sem, hx, w1, m2]
    try simp (disch := omega) only [wrapI, wrapU]
    refine GCall_of (rin_pc Y _ t _ _) ?_   -- t39
    simp only [go_sem, hx, w1, m2]
    try simp (disch := omega) only [wrapI, wrapU]
    refine hR _ _ (kq8 _ _ ?_); clear hR R; try clear kq8 kz8
    try simp only [go_sem, hx, w1, m2]
    refine W_cond rfl (fun c2 => ?_) (fun c2 => ?_)
    · -- c2 true
      try simp only [nrm] at c2
      refine W_seq fun kz9 kq9 => ?_
      refine W_region [8] fun R hR => ?_   -- r6
      simp only [go_sem, hx, w1, m2]
      refine hR _ _ (kq9 _ _ ?_); clear hR R; try clear kq9 kz9
      try simp only [go_sem, hx, w1, m2]
      refine W_ret ?_
      simp only [go_sem, hx, w1, m2]
      refine ⟨.inr (by trivial), ?_⟩
      first | refine Fin_same hcl rfl (Wk_eq ?_ (by simp only [go_sem])) | refine Fin_self hcl rfl (Wk_eq ?_ (by simp only [go_sem]))
      try simp only [go_sem]
      all_goals
        rw [← hres, hinv, if_pos (by simpa using c2)]
    · -- c2 false
      try simp only [nrm] at c2
      refine W_skip (kq7 _ _ ?_)
      refine W_region [2, 3, 5, 9, 11] fun R hR => ?_   -- r4
      simp only [go_sem, hx, w1, m2]
      try simp (disch := omega) only [wrapI, wrapU]
      refine hR _ _ ?_; clear hR R
      try simp only [go_sem, hx, w1, m2]
      refine ⟨k + 1, ?_, by (try simp only []); omega, ?_⟩
      · first | exact Weak.refl | exact Weak.eq (by first | rfl | (simp only [go_sem]; done) | (simp only [go_sem]; rfl) | (simp [go_sem]; done) | (simp [go_sem]; omega)) (by first | rfl | (simp only [go_sem]; done) | (simp [go_sem]; done))
      · try dsimp only
        exact ⟨hi', by rw [hinv, if_neg (by simpa using c2)]⟩
  · -- c1 false
    try simp only [nrm] at c1
    have hdrop : l.drop k = [] := List.drop_eq_nil_of_le (by omega)
    rw [hdrop] at hinv
    refine W_exit ?_
    simp only [go_sem]
    refine kq3 _ _ ?_
    refine W_seq fun kz10 kq10 => ?_
    refine W_region [8] fun R hR => ?_   -- r7
    simp only [go_sem]
    refine hR _ _ (kq10 _ _ ?_); clear hR R; try clear kq10 kz10
    try simp only [go_sem]
    refine W_ret ?_
    simp only [go_sem]
    refine ⟨.inr (by trivial), ?_⟩
    first | refine Fin_same hcl rfl (Wk_eq ?_ (by simp only [go_sem])) | refine Fin_self hcl rfl (Wk_eq ?_ (by simp only [go_sem]))
    try simp only [go_sem]
    all_goals
      rw [← hres, hinv]; rfl
end Go.Proofs.Ytnpamcpoaklgeaa
namespace Go.Proofs.Ytnpamcpoaklgeaa
open Go Go.RowKit
set_option maxRecDepth 100000
theorem chkTown_len {t : Town} (h : chkTown t = 0) : t.rooms.length ≤ 12 ∧ t.streets.length ≤ 12 := by
  unfold chkTown at h
  repeat' (split at h <;> try (first | omega | (cases h; done)))
theorem cA_bo {a b c : Nat} {xs : List Bool} : CleanAll a b c (xs.map PV.bool) = True := CleanAll_map fun x => by simp only [go_sem]
attribute [go_sem] cA_bo
set_option maxHeartbeats 4000000 in
theorem rmay_pc (Y : YEnv) (σ : Sg) (ct : City) (b : Band) (t : Int) (hc : ct.Ok) (hb : b.path.length < 2 ^ 50) (hk : chkCity ct = 0) (hv : chkBand ct b = 0) :
    PC Try.prog Y 94 [ctPV ct, bdPV b, I t] σ (.isl ((mayOf ct b t).map PV.bool) .ro) (σ) := by
  refine PC_of_W Try.func94 rfl (by kernel_rfl) Try.ntmps94 (by simp) fun hcl hca => ?_
  have hr := hc.hr
  have htm := timesOf_ok (chkBand_ok hv).2
  have hrg := sqs_range (b := b) hk
  obtain ⟨n, hn⟩ : ∃ n, ct.town.rooms.length = n := ⟨_, rfl⟩
  have hr12 := (chkTown_len (chkCity_town hk)).1
  have hmk : ∀ τ, makePV Try.prog τ 123 (.int .i64 ((ct.town.rooms.length : Int) + 1)) (.int .i64 ((ct.town.rooms.length : Int) + 1)) = some (.msl τ.store.length 0 (ct.town.rooms.length + 1), τ.push ((List.replicate (ct.town.rooms.length + 1) false).map PV.bool)) := fun τ => by
    have := mk123 (σ := τ) (k := ct.town.rooms.length + 1) (by omega)
    rw [← this]; congr 2
  have hwn : IntKind.i64.wrap ((ct.town.rooms.length : Int) + 1) = (ct.town.rooms.length : Int) + 1 := wrapI (by omega) (by omega)
  refine W_seq fun kz1 kq1 => ?_
  refine W_region [2, 3, 4] fun R hR => ?_   -- r0
  simp only [go_sem]
  refine hR _ _ (kq1 _ _ ?_); clear hR R; try clear kq1 kz1
  try simp only [go_sem]
  refine W_seq fun kz2 kq2 => ?_
  refine W_region [2, 3, 4, 7] fun R hR => ?_   -- r1
  simp only [go_sem, hwn, hmk]
  try simp (disch := omega) only [wrapI, wrapU]
  refine hR _ _ (kq2 _ _ ?_); clear hR R; try clear kq2 kz2
  try simp only [go_sem]
  refine W_seq fun kz3 kq3 => ?_
  refine W_seq fun kz4 kq4 => ?_
  refine W_region [2, 3, 4, 7, 8] fun R hR => ?_   -- r2
  simp only [go_sem]
  refine hR _ _ (kq4 _ _ ?_); clear hR R; try clear kq4 kz4
  try simp only [go_sem]
  refine W_block ?_
  refine W_loopT (α := Int × (List Bool)) (fun ⟨s, l⟩ => [(8, I s)]) (fun ⟨s, l⟩ => σ.ext [some (ctCells ct), some (bdCells b), some (l.map PV.bool)] []) (fun ⟨s, l⟩ => b.lo ≤ s ∧ s ≤ b.hi + 1 ∧ l.length = ct.town.rooms.length + 1 ∧ l = upTo (mayStep ct b t) b.lo s (List.replicate (ct.town.rooms.length + 1) false)) (fun ⟨s, l⟩ => (b.hi + 1 - s).toNat) ((b.lo, List.replicate (ct.town.rooms.length + 1) false)) rfl (by first | rfl | (simp only [go_sem]; done) | (simp only [go_sem]; rfl)) (⟨Int.le_refl _, by omega, by simp, by rw [upTo_start]⟩) ?_
  rintro ⟨s, l⟩ ⟨hs1, hs2, hll, hinv⟩
  refine W_seq fun kz5 kq5 => ?_
  refine W_seq fun kz6 kq6 => ?_
  refine W_region [2, 3, 4, 7, 8, 23] fun R hR => ?_   -- r3
  simp only [go_sem]
  refine hR _ _ (kq6 _ _ ?_); clear hR R; try clear kq6 kz6
  try simp only [go_sem]
  refine W_cond rfl (fun c1 => ?_) (fun c1 => ?_)
  · -- c1 true
    try simp only [nrm] at c1
    have hsh : s ≤ b.hi := by omega
    obtain ⟨at', hat⟩ : ∃ z, atB ct b s t = z := ⟨_, rfl⟩
    have hnx := upTo_step (mayStep ct b t) hs1 (List.replicate (ct.town.rooms.length + 1) false)
    rw [← hinv] at hnx
    have hidx : mayIdx ct b t s = if at' < 0 then ct.town.rooms.length else at'.toNat := by unfold mayIdx; rw [hat]
    have hatl : ¬ at' < 0 → at' < ct.town.rooms.length := fun h => by rw [← hat] at h ⊢; exact (atB_pos (by omega) hrg h).1
    refine W_skip (kq5 _ _ ?_)
    refine W_seq fun kz7 kq7 => ?_
    refine W_block ?_
    refine W_seq fun kz8 kq8 => ?_
    refine W_region [2, 3, 4, 7, 8, 9] fun R hR => ?_   -- r5
    simp only [go_sem]
    refine GCall_of (PC.val (v' := I at') (rAt_pc Y _ ct b s t hc hb (by omega) (by omega) (by omega) (by omega)) (by rw [hat])) ?_   -- t30
    simp only [go_sem]
    refine hR _ _ (kq8 _ _ ?_); clear hR R; try clear kq8 kz8
    try simp only [go_sem]
    refine W_seq fun kz9 kq9 => ?_
    refine W_seq fun kz10 kq10 => ?_
    refine W_region [2, 3, 4, 7, 8, 9, 32] fun R hR => ?_   -- r6
    simp only [go_sem]
    refine hR _ _ (kq10 _ _ ?_); clear hR R; try clear kq10 kz10
    try simp only [go_sem]
    refine W_cond rfl (fun c2 => ?_) (fun c2 => ?_)
    · -- c2 true
      try simp only [nrm] at c2
      have hx0 : 0 ≤ (ct.town.rooms.length : Int) := by omega
      have hx1 : (ct.town.rooms.length : Int) < ((ct.town.rooms.length + 1 : Nat) : Int) := by omega
      have hx2 : ct.town.rooms.length + 1 ≤ l.length := by omega
      have hx3 : ct.town.rooms.length + 1 ≤ ct.town.rooms.length + 1 := by omega
      have hx4 := hx0; have hy1 := hx0; have hy2 := hx0
      refine W_region [2, 3, 4, 7, 8, 9] fun R hR => ?_   -- r7
      simp only [go_sem]
      refine hR _ _ (kq9 _ _ ?_); clear hR R; try clear kq9 kz9
      try simp only [go_sem]
      refine W_region [2, 3, 4, 7, 8] fun R hR => ?_   -- r8
      simp only [go_sem, Nat.mul_one, hx0, hx1, hx2, hx3, hx4, hll, hy1, hy2]
      refine hR _ _ (kq7 _ _ ?_); clear hR R; try clear kq7 kz7
      try simp only [go_sem]
      refine W_region [2, 3, 4, 7, 8] fun R hR => ?_   -- r4
      simp only [go_sem]
      try simp (disch := omega) only [wrapI, wrapU]
      refine hR _ _ ?_; clear hR R
      try simp only [go_sem]
      refine ⟨(s + 1, l.set ct.town.rooms.length true), ?_, by (try simp only []); omega, ?_⟩
      · first | exact Weak.refl | exact Weak.eq (by first | rfl | (simp only [go_sem]; done) | (simp only [go_sem]; rfl) | (simp [go_sem]; done) | (simp [go_sem]; omega)) (by first | rfl | (simp only [go_sem]; done) | (simp [go_sem]; done))
      · try dsimp only
        exact ⟨by omega, by omega, by simp [hll], by rw [hnx]; unfold mayStep; rw [hidx]; first | rw [if_pos c2] | rw [if_neg c2]⟩
    · -- c2 false
      try simp only [nrm] at c2
      have hx0 : 0 ≤ at' := by omega
      have hx5 := hatl c2
      have hx1 : at' < ((ct.town.rooms.length + 1 : Nat) : Int) := by omega
      have hx2 : at'.toNat + 1 ≤ l.length := by omega
      have hx3 : at'.toNat + 1 ≤ ct.town.rooms.length + 1 := by omega
      have hx4 := hx0; have hy1 := hx0; have hy2 := hx0
      refine W_skip (kq9 _ _ ?_)
      refine W_region [2, 3, 4, 7, 8] fun R hR => ?_   -- r8
      simp only [go_sem, Nat.mul_one, hx0, hx1, hx2, hx3, hx4, hll, hy1, hy2]
      refine hR _ _ (kq7 _ _ ?_); clear hR R; try clear kq7 kz7
      try simp only [go_sem]
      refine W_region [2, 3, 4, 7, 8] fun R hR => ?_   -- r4
      simp only [go_sem]
      try simp (disch := omega) only [wrapI, wrapU]
      refine hR _ _ ?_; clear hR R
      try simp only [go_sem]
      refine ⟨(s + 1, l.set at'.toNat true), ?_, by (try simp only []); omega, ?_⟩
      · first | exact Weak.refl | exact Weak.eq (by first | rfl | (simp only [go_sem]; done) | (simp only [go_sem]; rfl) | (simp [go_sem]; done) | (simp [go_sem]; omega)) (by first | rfl | (simp only [go_sem]; done) | (simp [go_sem]; done))
      · try dsimp only
        exact ⟨by omega, by omega, by simp [hll], by rw [hnx]; unfold mayStep; rw [hidx]; first | rw [if_pos c2] | rw [if_neg c2]⟩
  · -- c1 false
    try simp only [nrm] at c1
    obtain rfl : s = b.hi + 1 := by omega
    refine W_exit ?_
    simp only [go_sem]
    refine kq3 _ _ ?_
    refine W_seq fun kz11 kq11 => ?_
    refine W_weak (Weak.freezeB (t := 7) (j := 2) (xs := l) (by rw [hll]; rfl) rfl) ?_
    refine W_weak (Weak.keep [7]) ?_
    simp only [go_sem]
    refine W_region [6] fun R hR => ?_   -- r9
    simp only [go_sem]
    refine hR _ _ (kq11 _ _ ?_); clear hR R; try clear kq11 kz11
    try simp only [go_sem]
    refine W_ret ?_
    simp only [go_sem]
    refine ⟨.inr (by trivial), ?_⟩
    first | refine Fin_same hcl rfl (Wk_eq ?_ (by simp only [go_sem])) | refine Fin_self hcl rfl (Wk_eq ?_ (by simp only [go_sem]))
    try simp only [go_sem]
    all_goals
      rw [hinv]; rfl
set_option maxHeartbeats 4000000 in
theorem rWhere_pc (Y : YEnv) (σ : Sg) (ct : City) (b : Band) (t : Int) (hc : ct.Ok) (hb : b.path.length < 2 ^ 50) :
    PC Try.prog Y 52 [ctPV ct, bdPV b, I t] σ (.tuple [ints (rWhereAns ct b t).1.1, .bool (rWhereAns ct b t).1.2, I (rWhereAns ct b t).2]) (σ) := by
  refine PC_of_W Try.func52 rfl (by kernel_rfl) Try.ntmps52 (by simp) fun hcl hca => ?_
  have hr := hc.hr
  refine W_seq fun kz1 kq1 => ?_
  refine W_region [2, 3, 4] fun R hR => ?_   -- r0
  simp only [go_sem]
  refine hR _ _ (kq1 _ _ ?_); clear hR R; try clear kq1 kz1
  try simp only [go_sem]
  refine W_seq fun kz2 kq2 => ?_
  refine W_seq fun kz3 kq3 => ?_
  refine W_region [2, 3, 4, 9] fun R hR => ?_   -- r1
  simp only [go_sem]
  refine GCall_of (PC.ofRo (rcheckBands_pc Y _ ct [b] hc ⟨by simp, fun x hx => by simp at hx; subst hx; assumption⟩) (by simp only [go_sem, bands] <;> rfl)) ?_   -- t17
  simp only [go_sem]
  refine hR _ _ (kq3 _ _ ?_); clear hR R; try clear kq3 kz3
  try simp only [go_sem]
  refine W_seq fun kz4 kq4 => ?_
  refine W_region [2, 3, 4, 9, 19] fun R hR => ?_   -- r2
  simp only [go_sem]
  refine hR _ _ (kq4 _ _ ?_); clear hR R; try clear kq4 kz4
  try simp only [go_sem]
  refine W_cond rfl (fun c1 => ?_) (fun c1 => ?_)
  · -- c1 true
    try simp only [nrm] at c1
    refine W_seq fun kz5 kq5 => ?_
    refine W_region [6, 7, 8] fun R hR => ?_   -- r3
    simp only [go_sem]
    refine hR _ _ (kq5 _ _ ?_); clear hR R; try clear kq5 kz5
    try simp only [go_sem]
    refine W_ret ?_
    simp only [go_sem]
    refine ⟨.inr (by trivial), ?_⟩
    refine Fin_same hcl rfl (Wk.ro (by simp only [go_sem]) ?_)
    try simp only [go_sem]
    all_goals
      unfold rWhereAns
      rw [← chkAll_one, if_pos (by simpa using c1)]
      rfl
  · -- c1 false
    try simp only [nrm] at c1
    have hask : askedOf ct [b] = 0 := by rw [← chkAll_one]; simpa using c1
    have hk : chkCity ct = 0 := by
      have := hask
      unfold askedOf at this
      split at this <;> omega
    have hv : chkBand ct b = 0 := by
      have := hask
      unfold askedOf at this
      split at this
      · omega
      · simp only [chkBands] at this
        split at this <;> omega
    have htm := timesOf_ok (chkBand_ok hv).2
    have hr12 := (chkTown_len (chkCity_town hk)).1
    obtain ⟨l, hl⟩ : ∃ z, mayOf ct b t = z := ⟨_, rfl⟩
    have hll : l.length = ct.town.rooms.length + 1 := by rw [← hl]; exact (mayOf_get (i := 0) (by omega) (by omega)).1
    refine W_skip (kq2 _ _ ?_)
    refine W_seq fun kz6 kq6 => ?_
    refine W_seq fun kz7 kq7 => ?_
    refine W_region [2, 3, 4, 23] fun R hR => ?_   -- r4
    simp only [go_sem]
    refine GCall_of (rin_pc Y _ t 0 719) ?_   -- t22
    simp only [go_sem]
    refine hR _ _ (kq7 _ _ ?_); clear hR R; try clear kq7 kz7
    try simp only [go_sem]
    refine W_cond rfl (fun c2 => ?_) (fun c2 => ?_)
    · -- c2 true
      try simp only [nrm] at c2
      refine W_seq fun kz8 kq8 => ?_
      refine W_region [6, 7, 8] fun R hR => ?_   -- r5
      simp only [go_sem]
      refine hR _ _ (kq8 _ _ ?_); clear hR R; try clear kq8 kz8
      try simp only [go_sem]
      refine W_ret ?_
      simp only [go_sem]
      refine ⟨.inr (by trivial), ?_⟩
      refine Fin_same hcl rfl (Wk.ro (by simp only [go_sem]) ?_)
      try simp only [go_sem]
      all_goals
        unfold rWhereAns
        rw [if_neg (by omega), if_pos (by simpa using c2)]
        rfl
    · -- c2 false
      try simp only [nrm] at c2
      have hres : rWhereAns ct b t = ((tI l ct.town.rooms.length, decide (l[ct.town.rooms.length]? = some true)), 0) := by
        unfold rWhereAns
        rw [if_neg (by omega), if_neg (by simpa using c2), hl]
      refine W_skip (kq6 _ _ ?_)
      refine W_seq fun kz9 kq9 => ?_
      refine W_region [3, 10] fun R hR => ?_   -- r6
      simp only [go_sem]
      refine GCall_of (PC.val (v' := .isl (l.map PV.bool) .ro) (rmay_pc Y _ ct b t hc hb hk hv) (by rw [hl])) ?_   -- t27
      simp only [go_sem]
      refine hR _ _ (kq9 _ _ ?_); clear hR R; try clear kq9 kz9
      try simp only [go_sem]
      refine W_seq fun kz10 kq10 => ?_
      refine W_region [10, 11] fun R hR => ?_   -- r7
      simp only [go_sem]
      refine hR _ _ (kq10 _ _ ?_); clear hR R; try clear kq10 kz10
      try simp only [go_sem]
      refine W_seq fun kz11 kq11 => ?_
      refine W_region [10, 11, 12] fun R hR => ?_   -- r8
      simp only [go_sem]
      refine hR _ _ (kq11 _ _ ?_); clear hR R; try clear kq11 kz11
      try simp only [go_sem]
      refine W_seq fun kz12 kq12 => ?_
      refine W_seq fun kz13 kq13 => ?_
      refine W_region [10, 11, 12, 13] fun R hR => ?_   -- r9
      simp only [go_sem]
      refine hR _ _ (kq13 _ _ ?_); clear hR R; try clear kq13 kz13
      try simp only [go_sem]
      refine W_block ?_
      refine W_weak (Weak.room (t := 12) (es := 1) rfl (by simp)) ?_
      refine W_weak (Weak.keep [10, 11, 12, 13]) ?_
      simp only [go_sem]
      refine W_loopT (α := Nat × (List Int)) (fun ⟨i, out⟩ => [(12, .isl (out.map I) (.tok σ.rooms.length out.length 1)), (13, I i)]) (fun ⟨i, out⟩ => σ.ext [some (ctCells ct), some (bdCells b)] [out.length]) (fun ⟨i, out⟩ => i ≤ ct.town.rooms.length ∧ out.length ≤ i ∧ out = tI l i) (fun ⟨i, out⟩ => ct.town.rooms.length - i) ((0, [])) rfl (by first | rfl | (simp only [go_sem]; done) | (simp only [go_sem]; rfl)) (⟨Nat.zero_le _, Nat.le_refl _, rfl⟩) ?_
      rintro ⟨i, out⟩ ⟨hi, hol, hinv⟩
      refine W_seq fun kz14 kq14 => ?_
      refine W_seq fun kz15 kq15 => ?_
      refine W_region [10, 11, 12, 13, 34] fun R hR => ?_   -- r10
      simp only [go_sem]
      refine hR _ _ (kq15 _ _ ?_); clear hR R; try clear kq15 kz15
      try simp only [go_sem]
      refine W_cond rfl (fun c3 => ?_) (fun c3 => ?_)
      · -- c3 true
        try simp only [nrm] at c3
        have hi' : i < ct.town.rooms.length := by omega
        obtain ⟨q, hx⟩ : ∃ q, l[i]? = some q := ⟨l[i]'(by omega), by simp⟩
        have hnx : tI l (i + 1) = tI l i ++ (if l[i]? = some true then [(i : Int)] else []) := rfl
        rw [← hinv, hx] at hnx
        refine W_skip (kq14 _ _ ?_)
        refine W_seq fun kz16 kq16 => ?_
        refine W_block ?_
        refine W_seq fun kz17 kq17 => ?_
        refine W_region [10, 11, 12, 13, 40] fun R hR => ?_   -- r12
        simp only [go_sem, hx]
        refine hR _ _ (kq17 _ _ ?_); clear hR R; try clear kq17 kz17
        try simp only [go_sem, hx]
        refine W_cond rfl (fun c4 => ?_) (fun c4 => ?_)
        · -- c4 true
          try simp only [nrm] at c4
          refine W_region [10, 11, 12, 13] fun R hR => ?_   -- r13
          simp only [go_sem, hx]
          try simp (disch := first | omega | (simp only [go_sem] <;> omega)) only [wrapI, wrapU, appX_exact, appX_tok]
          try simp only [go_sem, hx]
          refine hR _ _ (kq16 _ _ ?_); clear hR R; try clear kq16 kz16
          try simp only [go_sem, hx]
          refine W_region [10, 11, 12, 13] fun R hR => ?_   -- r11
          simp only [go_sem, hx]
          try simp (disch := omega) only [wrapI, wrapU]
          refine hR _ _ ?_; clear hR R
          try simp only [go_sem, hx]
          refine ⟨(i + 1, out ++ [(i : Int)]), ?_, by (try simp only []); omega, ?_⟩
          · refine Weak.trans (Weak.cutX 2 1 (by omega) (by omega) hcl (by simp only [go_sem] <;> omega) (by simp only [go_sem] <;> omega)) ?_
            simp only [go_sem]
            exact Weak.eq (by first | rfl | (simp only [go_sem]; done) | (simp only [go_sem]; rfl) | (simp [go_sem]; done) | (simp [go_sem]; omega)) (by first | rfl | (simp only [go_sem]; done) | (simp [go_sem]; done))
          · try dsimp only
            exact ⟨hi', by (try simp); omega, by rw [hnx]; simp [c4]⟩
        · -- c4 false
          try simp only [nrm] at c4
          refine W_skip (kq16 _ _ ?_)
          refine W_region [10, 11, 12, 13] fun R hR => ?_   -- r11
          simp only [go_sem, hx]
          try simp (disch := omega) only [wrapI, wrapU]
          refine hR _ _ ?_; clear hR R
          try simp only [go_sem, hx]
          refine ⟨(i + 1, out), ?_, by (try simp only []); omega, ?_⟩
          · refine Weak.trans (Weak.cutX 2 1 (by omega) (by omega) hcl (by simp only [go_sem] <;> omega) (by simp only [go_sem] <;> omega)) ?_
            simp only [go_sem]
            exact Weak.eq (by first | rfl | (simp only [go_sem]; done) | (simp only [go_sem]; rfl) | (simp [go_sem]; done) | (simp [go_sem]; omega)) (by first | rfl | (simp only [go_sem]; done) | (simp [go_sem]; done))
          · try dsimp only
            exact ⟨hi', by (try simp); omega, by rw [hnx]; simp [c4]⟩
      · -- c3 false
        try simp only [nrm] at c3
        obtain rfl : i = ct.town.rooms.length := by omega
        obtain ⟨q, hx⟩ : ∃ q, l[ct.town.rooms.length]? = some q := ⟨l[ct.town.rooms.length]'(by omega), by simp⟩
        rw [hx] at hres
        refine W_exit ?_
        simp only [go_sem, hx]
        refine kq12 _ _ ?_
        refine W_seq fun kz18 kq18 => ?_
        refine W_draw [6, 7, 8] [0, 1, 2, 3, 4, 5, 6, 7] [] [[], [], [], [1, 2], [1, 2, 3], [0], [0, 1, 2, 3, 4, 5], [0, 1, 2, 3, 4, 5, 6]] mixed (by kernel_rfl) fun R hR => ?_   -- r14
        simp only [go_sem, hx]
        try refine And.intro (by repeat' (first | refine And.intro ?_ ?_ | exact GOr_right (fun _ => by simp only [go_sem, hx]))) ?_
        refine hR _ _ (kq18 _ _ ?_); clear hR R; try clear kq18 kz18
        try simp only [go_sem, hx]
        refine W_ret ?_
        simp only [go_sem, hx]
        refine ⟨.inr (by trivial), ?_⟩
        refine Fin_same hcl rfl (Wk.ro (by simp only [go_sem]) ?_)
        try simp only [go_sem]
        all_goals
          rw [hres, ← hinv]
          simp
set_option maxHeartbeats 2000000 in
theorem rSquares_pc (Y : YEnv) (σ : Sg) (ct : City) (b : Band) (hc : ct.Ok) (hb : b.path.length < 2 ^ 50) :
    PC Try.prog Y 51 [ctPV ct, bdPV b] σ (sqPV (squaresAns ct b)) (σ) := by
  refine PC_of_W Try.func51 rfl (by kernel_rfl) Try.ntmps51 (by simp) fun hcl hca => ?_
  refine W_seq fun kz1 kq1 => ?_
  refine W_region [2, 3] fun R hR => ?_   -- r0
  simp only [go_sem]
  refine hR _ _ (kq1 _ _ ?_); clear hR R; try clear kq1 kz1
  try simp only [go_sem]
  refine W_seq fun kz2 kq2 => ?_
  refine W_seq fun kz3 kq3 => ?_
  refine W_region [2, 3, 6] fun R hR => ?_   -- r1
  simp only [go_sem]
  refine GCall_of (PC.ofRo (rcheckBands_pc Y _ ct [b] hc ⟨by simp, fun x hx => by simp at hx; subst hx; assumption⟩) (by simp only [go_sem, bands] <;> rfl)) ?_   -- t10
  simp only [go_sem]
  refine hR _ _ (kq3 _ _ ?_); clear hR R; try clear kq3 kz3
  try simp only [go_sem]
  refine W_seq fun kz4 kq4 => ?_
  refine W_region [2, 3, 6, 12] fun R hR => ?_   -- r2
  simp only [go_sem]
  refine hR _ _ (kq4 _ _ ?_); clear hR R; try clear kq4 kz4
  try simp only [go_sem]
  refine W_cond rfl (fun c1 => ?_) (fun c1 => ?_)
  · -- c1 true
    try simp only [nrm] at c1
    refine W_seq fun kz5 kq5 => ?_
    refine W_region [4, 5] fun R hR => ?_   -- r3
    simp only [go_sem]
    refine hR _ _ (kq5 _ _ ?_); clear hR R; try clear kq5 kz5
    try simp only [go_sem]
    refine W_ret ?_
    simp only [go_sem]
    refine ⟨.inr (by trivial), ?_⟩
    refine Fin_same hcl rfl (Wk.ro (by simp only [go_sem]) ?_)
    try simp only [go_sem]
    all_goals
      rw [chkAll_one] at c1
      simp [squaresAns, sqPV, c1, chkAll_one, PV.ro, PV.roL]
  · -- c1 false
    try simp only [nrm] at c1
    refine W_skip (kq2 _ _ ?_)
    refine W_seq fun kz6 kq6 => ?_
    refine W_region [4, 5] fun R hR => ?_   -- r4
    simp only [go_sem]
    refine GCall_of (rsquares_pc Y _ ct b hc hb) ?_   -- t16
    simp only [go_sem]
    refine hR _ _ (kq6 _ _ ?_); clear hR R; try clear kq6 kz6
    try simp only [go_sem]
    refine W_ret ?_
    simp only [go_sem]
    refine ⟨.inr (by trivial), ?_⟩
    first | refine Fin_same hcl rfl (Wk_eq ?_ (by simp only [go_sem])) | refine Fin_self hcl rfl (Wk_eq ?_ (by simp only [go_sem]))
    try simp only [go_sem]
    all_goals
      rw [chkAll_one] at c1
      simp [squaresAns, sqPV, c1, chkAll_one, PV.ro, PV.roL]
end Go.Proofs.Ytnpamcpoaklgeaa
namespace Go.Proofs.Ytnpamcpoaklgeaa
open Go Go.RowKit
set_option maxRecDepth 100000
theorem slb29 {xs : List Band} {own : Own} {k k' : IntKind} {n m : Int} : slicePV Try.prog 29 (.isl (xs.map bdPV) own) (some (.int k n)) (some (.int k' m)) none = if 0 ≤ n then if 0 ≤ m then if n.toNat ≤ m.toNat ∧ m.toNat ≤ xs.length then some (.isl (((xs.drop n.toNat).take (m.toNat - n.toNat)).map bdPV) (sliceOwn own n.toNat m.toNat xs.length)) else none else none else none :=
  slBoth_of Try.underlying29 Try.underlying33 cells33 (fun x => by simp [bdPV, bdCells, PV.cells, PV.scalar]) xs own k k' n m
theorem eqboolS {a : Bool} : eqPV Try.prog 4 (.bool a) (.bool a) = some true := by cases a <;> kernel_rfl
attribute [go_sem] slb29 eqboolS
theorem whereAns_len (c : City) (b : Band) (t : Int) : (whereAns c b t).1.1.length ≤ c.town.rooms.length := by
  rw [where_eq]
  unfold rWhereAns
  split
  · simp
  · split
    · simp
    · exact tI_len _ _
theorem squares_len (c : City) (b : Band) : (squaresAns c b).1.length ≤ 13 := by
  unfold squaresAns
  split
  · simp
  · exact (sqs_len c b).1
set_option maxHeartbeats 8000000 in
theorem BandChecks_pc (Y : YEnv) (σ : Sg) (c : City) (l : List Band) (b : Band) (minute : Int) (nums : List Int) (hc : c.In) (hl : BandsIn l) (hb : b.path.length * 8 ≤ 140737488351232) (hn : nums.length < 2 ^ 60) :
    PC Try.prog Y 13 [ctPV c, bands l, bdPV b, I minute, ints nums] σ (.bool true) (σ) := by
  refine PC_of_W Try.func13 rfl (by kernel_rfl) Try.ntmps13 (by simp) fun hcl hca => ?_
  obtain ⟨b0, hb0⟩ : ∃ z, drumB nums 2685821657736338717 = z := ⟨_, rfl⟩
  have hl1 := hl.1
  have hab : ∀ z, z ∈ l ++ [b] → z.path.length * 8 ≤ 140737488351232 := fun z hz => by
    rcases List.mem_append.1 hz with h | h
    · exact hl.2 z h
    · simp only [List.mem_cons, List.not_mem_nil, or_false] at h
      rcases h with rfl; assumption
  obtain ⟨made, hmade⟩ : ∃ zz, (cityD b0).1 = zz := ⟨_, rfl⟩
  obtain ⟨b1, hb1⟩ : ∃ zz, (cityD b0).2 = zz := ⟨_, rfl⟩
  obtain ⟨sm, hsm⟩ : ∃ zz, (bandsD made 4 b1).1 = zz := ⟨_, rfl⟩
  obtain ⟨b2, hb2⟩ : ∃ zz, (bandsD made 4 b1).2 = zz := ⟨_, rfl⟩
  obtain ⟨one, hone⟩ : ∃ zz, (bandD made b2).1 = zz := ⟨_, rfl⟩
  obtain ⟨b3, hb3⟩ : ∃ zz, (bandD made b2).2 = zz := ⟨_, rfl⟩
  obtain ⟨r60, hr60⟩ : ∃ zz, (roll 60 b3).1 = zz := ⟨_, rfl⟩
  obtain ⟨b4, hb4⟩ : ∃ zz, (roll 60 b3).2 = zz := ⟨_, rfl⟩
  have vmade : CityV made := by rw [← hmade]; exact cityD_ok b0
  have vone : BandV made one := by rw [← hone]; exact bandD_ok vmade b2
  have vsm : sm.length ≤ 4 ∧ ∀ b, b ∈ sm → BandV made b := by rw [← hsm]; exact bandsD_ok vmade 4 b1
  have vr : 0 ≤ r60 ∧ r60 < 60 := by rw [← hr60]; exact roll_bd 60 b3
  have vo1 := vone.chk vmade
  have vo2 := (chkBand_ok vo1).2
  have hol := timesOf_ok vo2
  refine W_seq fun kz1 kq1 => ?_
  refine W_region [1, 3, 4, 5, 7] fun R hR => ?_   -- r0
  simp only [go_sem, hb0, hmade, hb1, hsm, hb2, hone, hb3, hr60, hb4]
  refine hR _ _ (kq1 _ _ ?_); clear hR R; try clear kq1 kz1
  try simp only [go_sem, hb0, hmade, hb1, hsm, hb2, hone, hb3, hr60, hb4]
  refine W_seq fun kz2 kq2 => ?_
  refine W_seq fun kz3 kq3 => ?_
  refine W_draw [1, 3, 4, 5, 7, 39] [0, 1, 2, 3, 4, 5, 6] [(0, 5), (0, 6), (3, 2), (4, 2)] [[], [], [1], [], [3], [1, 2, 3, 4], [0, 1, 2, 3, 4, 5]] mixed (by kernel_rfl) fun R hR => ?_   -- r1
  simp only [go_sem, hb0, hmade, hb1, hsm, hb2, hone, hb3, hr60, hb4]
  refine GCall_of (OwnBands_pc Y _ l (by omega) (fun z hz => by have := hl.2 z hz; omega)) ?_   -- t35
  simp only [go_sem, hb0, hmade, hb1, hsm, hb2, hone, hb3, hr60, hb4]
  try simp (disch := first | omega | (simp only [go_sem] <;> omega)) only [wrapI, wrapU, appX_exact, appX_tok]
  try simp only [go_sem, hb0, hmade, hb1, hsm, hb2, hone, hb3, hr60, hb4]
  refine GCall_of (PC.ofRo (wide_pc Y _ c (l ++ [b]) hc.okc (by simp; omega)) (by simp only [go_sem, bands] <;> rfl)) ?_   -- t39
  simp only [go_sem, hb0, hmade, hb1, hsm, hb2, hone, hb3, hr60, hb4]
  try refine And.intro (by repeat' (first | refine And.intro ?_ ?_ | exact GOr_right (fun _ => by simp only [go_sem, hb0, hmade, hb1, hsm, hb2, hone, hb3, hr60, hb4]))) ?_
  refine hR _ _ (kq3 _ _ ?_); clear hR R; try clear kq3 kz3
  try simp only [go_sem, hb0, hmade, hb1, hsm, hb2, hone, hb3, hr60, hb4]
  refine W_cond rfl (fun c1 => ?_) (fun c1 => ?_)
  · -- c1 true
    try simp only [nrm] at c1
    refine W_seq fun kz4 kq4 => ?_
    refine W_region [10] fun R hR => ?_   -- r2
    simp only [go_sem, hb0, hmade, hb1, hsm, hb2, hone, hb3, hr60, hb4]
    refine GCall_of (lawake_pc Y _) ?_   -- t40
    simp only [go_sem, hb0, hmade, hb1, hsm, hb2, hone, hb3, hr60, hb4]
    refine hR _ _ (kq4 _ _ ?_); clear hR R; try clear kq4 kz4
    try simp only [go_sem, hb0, hmade, hb1, hsm, hb2, hone, hb3, hr60, hb4]
    refine W_ret ?_
    simp only [go_sem, hb0, hmade, hb1, hsm, hb2, hone, hb3, hr60, hb4]
    refine ⟨.inr (by trivial), ?_⟩
    first | refine Fin_same hcl rfl (Wk_eq ?_ (by simp only [go_sem])) | refine Fin_self hcl rfl (Wk_eq ?_ (by simp only [go_sem]))
    try simp only [go_sem]
    all_goals
      first | rfl | (simp_all; done) | (simp_all; omega)
  · -- c1 false
    try simp only [nrm] at c1
    obtain ⟨w1, w2, w3, w4, w5, w6, w7⟩ := wide_not c1
    simp only [List.length_append, List.length_cons, List.length_nil] at w5
    have fewc : c.Few := ⟨w1, w2, w3, w6, w4⟩
    refine W_skip (kq2 _ _ ?_)
    refine W_seq fun kz5 kq5 => ?_
    refine W_region [1, 3, 5, 7, 11] fun R hR => ?_   -- r3
    simp only [go_sem, hb0, hmade, hb1, hsm, hb2, hone, hb3, hr60, hb4]
    refine GCall_of (DrumOf_pc Y _ nums hn) ?_   -- t42
    simp only [go_sem, hb0, hmade, hb1, hsm, hb2, hone, hb3, hr60, hb4]
    refine hR _ _ (kq5 _ _ ?_); clear hR R; try clear kq5 kz5
    try simp only [go_sem, hb0, hmade, hb1, hsm, hb2, hone, hb3, hr60, hb4]
    refine W_seq fun kz6 kq6 => ?_
    refine W_region [1, 3, 5, 7, 11, 12] fun R hR => ?_   -- r4
    simp only [go_sem, hb0, hmade, hb1, hsm, hb2, hone, hb3, hr60, hb4]
    refine GCall_of (CityOf_pc Y _ _ _ (Sg.get_ext _ _ _ _ 2)) ?_   -- t44
    simp only [go_sem, hb0, hmade, hb1, hsm, hb2, hone, hb3, hr60, hb4]
    refine hR _ _ (kq6 _ _ ?_); clear hR R; try clear kq6 kz6
    try simp only [go_sem, hb0, hmade, hb1, hsm, hb2, hone, hb3, hr60, hb4]
    refine W_seq fun kz7 kq7 => ?_
    refine W_region [1, 3, 5, 7, 11, 12, 13] fun R hR => ?_   -- r5
    simp only [go_sem, hb0, hmade, hb1, hsm, hb2, hone, hb3, hr60, hb4]
    refine GCall_of (BandsOf_pc Y _ _ _ (Sg.get_ext _ _ _ _ 2) made 4 vmade.small.hr vmade.small.hs (by omega) (by omega)) ?_   -- t47
    simp only [go_sem, hb0, hmade, hb1, hsm, hb2, hone, hb3, hr60, hb4]
    refine hR _ _ (kq7 _ _ ?_); clear hR R; try clear kq7 kz7
    try simp only [go_sem, hb0, hmade, hb1, hsm, hb2, hone, hb3, hr60, hb4]
    refine W_seq fun kz8 kq8 => ?_
    refine W_region [1, 3, 5, 7, 11, 12, 13, 14] fun R hR => ?_   -- r6
    simp only [go_sem, hb0, hmade, hb1, hsm, hb2, hone, hb3, hr60, hb4]
    refine GCall_of (BandOf_pc Y _ _ _ (Sg.get_ext _ _ _ _ 2) made vmade.small.hr vmade.small.hs) ?_   -- t50
    simp only [go_sem, hb0, hmade, hb1, hsm, hb2, hone, hb3, hr60, hb4]
    refine hR _ _ (kq8 _ _ ?_); clear hR R; try clear kq8 kz8
    try simp only [go_sem, hb0, hmade, hb1, hsm, hb2, hone, hb3, hr60, hb4]
    refine W_seq fun kz9 kq9 => ?_
    refine W_draw [15, 16, 17, 18] [0, 1, 2, 3, 4, 5, 6, 7, 8, 9, 10, 11, 12, 13, 14, 15, 16, 17, 18, 19, 20, 21, 22, 23, 24, 25, 26, 27, 28, 29, 30, 31, 32] [(0, 11), (0, 24), (0, 33), (1, 11), (1, 24), (1, 33), (2, 11), (2, 24), (2, 33), (3, 11), (3, 24), (3, 33), (4, 11), (4, 24), (4, 33), (5, 11), (5, 24), (5, 33), (6, 11), (6, 24), (6, 33), (9, 8), (10, 8), (12, 8), (12, 11), (12, 33), (13, 33), (14, 8), (14, 11), (14, 33), (15, 8), (15, 11), (15, 33), (16, 8), (16, 11), (16, 33), (17, 8), (17, 11), (17, 33), (18, 8), (18, 11), (18, 33), (19, 8), (19, 11), (19, 33), (20, 8), (20, 11), (20, 33), (21, 8), (21, 11), (21, 33), (22, 8), (22, 11), (22, 33), (23, 8), (23, 11), (26, 8), (26, 11), (26, 24), (27, 8), (27, 11), (27, 24)] [[], [], [], [], [0, 1, 2, 3], [], [], [], [7], [], [9], [7, 8, 9, 10], [], [5, 6, 7, 8, 9, 10, 11, 12], [], [], [], [], [14, 15, 16, 17], [], [], [20], [20, 21], [], [7, 8, 9, 10, 11, 23], [7, 8, 9, 10, 11, 20, 21, 22, 23, 24], [], [], [7, 8, 9, 10, 11, 19, 20, 21, 22, 23, 24, 25, 26, 27], [0, 1, 2, 3, 4, 7, 8, 9, 10, 11, 23, 24], [0, 1, 2, 3, 4, 5, 6, 7, 8, 9, 10, 11, 12, 13, 23, 24, 29], [0, 1, 2, 3, 4, 5, 6, 7, 8, 9, 10, 11, 12, 13, 14, 15, 16, 17, 18, 23, 24, 29, 30], [0, 1, 2, 3, 4, 5, 6, 7, 8, 9, 10, 11, 12, 13, 14, 15, 16, 17, 18, 19, 20, 21, 22, 23, 24, 25, 26, 27, 28, 29, 30, 31]] mixed (by kernel_rfl) fun R hR => ?_   -- r7
    simp only [go_sem, hb0, hmade, hb1, hsm, hb2, hone, hb3, hr60, hb4]
    refine GCall_of (OwnBands_pc Y _ sm (by omega) (fun z hz => by have := (vsm.2 z hz).p1; omega)) ?_   -- t59
    simp only [go_sem, hb0, hmade, hb1, hsm, hb2, hone, hb3, hr60, hb4]
    try simp (disch := first | omega | (simp only [go_sem] <;> omega)) only [wrapI, wrapU, appX_exact, appX_tok]
    try simp only [go_sem, hb0, hmade, hb1, hsm, hb2, hone, hb3, hr60, hb4]
    refine GCall_of (Roll_pc Y _ _ _ (Sg.get_ext _ _ _ _ 2) 60 (by omega)) ?_   -- t75
    simp only [go_sem, hb0, hmade, hb1, hsm, hb2, hone, hb3, hr60, hb4]
    try simp (disch := omega) only [wrapI, wrapU]
    try refine And.intro (by repeat' (first | refine And.intro ?_ ?_ | exact GOr_right (fun _ => by simp only [go_sem, hb0, hmade, hb1, hsm, hb2, hone, hb3, hr60, hb4]))) ?_
    refine hR _ _ (kq9 _ _ ?_); clear hR R; try clear kq9 kz9
    try simp only [go_sem, hb0, hmade, hb1, hsm, hb2, hone, hb3, hr60, hb4]
    refine W_seq fun kz10 kq10 => ?_
    refine W_seq fun kz11 kq11 => ?_
    refine W_region [15, 16, 17, 18, 19] fun R hR => ?_   -- r8
    simp only [go_sem, hb0, hmade, hb1, hsm, hb2, hone, hb3, hr60, hb4]
    refine hR _ _ (kq11 _ _ ?_); clear hR R; try clear kq11 kz11
    try simp only [go_sem, hb0, hmade, hb1, hsm, hb2, hone, hb3, hr60, hb4]
    refine W_block ?_
    obtain ⟨cs, hcs⟩ : ∃ z, z = [c, made, made, made] := ⟨_, rfl⟩
    obtain ⟨lss, hls⟩ : ∃ z, z = [l, sm, sm ++ [b], l] := ⟨_, rfl⟩
    obtain ⟨bs1, hbs⟩ : ∃ z, z = [b, one, b, one] := ⟨_, rfl⟩
    obtain ⟨ms1, hms⟩ : ∃ z, z = [minute, one.lo + r60, minute, minute] := ⟨_, rfl⟩
    refine W_weak (Weak.ro 16) ?_
    refine W_weak (Weak.keep [15, 16, 17, 18, 19]) ?_
    simp only [go_sem]
    refine W_weak (Weak.eq (E' := [(15, .isl (cs.map ctPV) .exact), (16, .isl (lss.map bsPV) .ro), (17, .isl (bs1.map bdPV) .exact), (18, .isl (ms1.map I) .exact), (19, I 0)]) (by rw [hcs, hls, hbs, hms]; simp only [List.map_cons, List.map_nil, bsPV, List.map_append]; rfl) rfl) ?_
    have lc : cs.length = 4 := by rw [hcs]; rfl
    have ll : lss.length = 4 := by rw [hls]; rfl
    have lb : bs1.length = 4 := by rw [hbs]; rfl
    have lm : ms1.length = 4 := by rw [hms]; rfl
    have hfc : ∀ z, z ∈ cs → z.Few := fun z hz => by
      rw [hcs] at hz; simp only [List.mem_cons, List.not_mem_nil, or_false] at hz
      rcases hz with rfl | rfl | rfl | rfl
      · exact fewc
      · exact vmade.few
      · exact vmade.few
      · exact vmade.few
    have hfb : ∀ z, z ∈ bs1 → z.path.length ≤ 15 := fun z hz => by
      rw [hbs] at hz; simp only [List.mem_cons, List.not_mem_nil, or_false] at hz
      have := vone.p1
      have := w7 b (by simp)
      rcases hz with rfl | rfl | rfl | rfl <;> omega
    have hfl : ∀ z, z ∈ lss → BandsFew z := fun z hz => by
      rw [hls] at hz; simp only [List.mem_cons, List.not_mem_nil, or_false] at hz
      rcases hz with rfl | rfl | rfl | rfl
      · exact ⟨by omega, fun q hq => w7 _ (by simp [hq])⟩
      · exact ⟨by have := vsm.1; omega, fun q hq => by have := (vsm.2 q hq).p1; omega⟩
      · refine ⟨by have := vsm.1; simp; omega, fun q hq => ?_⟩
        rcases List.mem_append.1 hq with h | h
        · have := (vsm.2 q h).p1; omega
        · simp at h; subst h; exact w7 _ (by simp)
      · exact ⟨by omega, fun q hq => w7 _ (by simp [hq])⟩
    clear hcs hls hbs hms
    refine W_loopS (α := Nat) (fun (i : Nat) => [(19, I i)]) (fun (i : Nat) => i ≤ 4) (fun (i : Nat) => 4 - i) (0) rfl (Nat.zero_le _) ?_
    rintro i hi
    refine W_seq fun kz12 kq12 => ?_
    refine W_seq fun kz13 kq13 => ?_
    refine W_region [15, 16, 17, 18, 19, 83] fun R hR => ?_   -- r9
    simp only [go_sem, hb0, hmade, hb1, hsm, hb2, hone, hb3, hr60, hb4, lc]
    refine hR _ _ (kq13 _ _ ?_); clear hR R; try clear kq13 kz13
    try simp only [go_sem, hb0, hmade, hb1, hsm, hb2, hone, hb3, hr60, hb4, lc]
    refine W_cond rfl (fun c2 => ?_) (fun c2 => ?_)
    · -- c2 true
      try simp only [nrm] at c2
      have hi' : i < 4 := by first | assumption | omega
      obtain ⟨c1', hx1⟩ : ∃ z, cs[i]? = some z := ⟨cs[i]'(by rw [lc]; exact hi'), by simp⟩
      obtain ⟨l1', hx2⟩ : ∃ z, lss[i]? = some z := ⟨lss[i]'(by rw [ll]; exact hi'), by simp⟩
      obtain ⟨b1', hx3⟩ : ∃ z, bs1[i]? = some z := ⟨bs1[i]'(by rw [lb]; exact hi'), by simp⟩
      obtain ⟨m1', hx4⟩ : ∃ z, ms1[i]? = some z := ⟨ms1[i]'(by rw [lm]; exact hi'), by simp⟩
      have fc := hfc _ (List.mem_of_getElem? hx1)
      have fl := hfl _ (List.mem_of_getElem? hx2)
      have fb := hfb _ (List.mem_of_getElem? hx3)
      obtain ⟨o1, ho1⟩ : ∃ z, [b1'] = z := ⟨_, rfl⟩
      have hone : (bs1.drop i).take 1 = o1 := by rw [List.take_one, ← ho1]; rw [List.head?_drop, hx3]; rfl
      have ho0 : o1[0]? = some b1' := by rw [← ho1]; rfl
      have hol1 : o1.length = 1 := by rw [← ho1]; rfl
      have hsl0 : (0 : Int) ≤ (i : Int) + 1 := by omega
      have hsl1 : ((i : Int) + 1).toNat - i = 1 := by omega
      have hsl2 : i ≤ ((i : Int) + 1).toNat ∧ ((i : Int) + 1).toNat ≤ bs1.length := by omega
      have hwi : IntKind.i64.wrap ((i : Int) + 1) = (i : Int) + 1 := wrapI (by omega) (by omega)
      obtain ⟨ps, hps⟩ : ∃ z, (squaresAns c1' b1').1 = z := ⟨_, rfl⟩
      obtain ⟨pe, hpe⟩ : ∃ z, (squaresAns c1' b1').2 = z := ⟨_, rfl⟩
      obtain ⟨ws, hws⟩ : ∃ z, (whereAns c1' b1' m1').1.1 = z := ⟨_, rfl⟩
      obtain ⟨wa, hwa⟩ : ∃ z, (whereAns c1' b1' m1').1.2 = z := ⟨_, rfl⟩
      obtain ⟨we, hwe⟩ : ∃ z, (whereAns c1' b1' m1').2 = z := ⟨_, rfl⟩
      obtain ⟨ck, hck⟩ : ∃ z, chkCity c1' = z := ⟨_, rfl⟩
      obtain ⟨cb, hcb⟩ : ∃ z, chkAll c1' l1' = z := ⟨_, rfl⟩
      have hpl : ps.length < 2 ^ 50 := by have := squares_len c1' b1'; rw [hps] at this; omega
      have hwl : ws.length < 2 ^ 50 := by have := whereAns_len c1' b1' m1'; have := fc.hr; rw [hws] at *; omega
      have hsqv : sqPV (squaresAns c1' b1') = .tuple [ints ps, I pe] := by rw [← hps, ← hpe]; rfl
      refine W_skip (kq12 _ _ ?_)
      refine W_seq fun kz14 kq14 => ?_
      refine W_block ?_
      refine W_seq fun kz15 kq15 => ?_
      refine W_draw [15, 16, 17, 18, 19, 20, 21] [0, 1, 2, 3, 4, 5, 6, 7, 8, 9, 10, 11, 12] [(5, 4), (6, 4), (7, 4), (8, 4)] [[], [], [0, 1], [0, 1, 2], [0, 1, 2, 3], [], [], [5, 6], [5, 6, 7], [0, 1, 2, 3, 4, 5, 6, 7, 8], [], [0, 1, 2, 3, 4, 5, 6, 7, 8, 9, 10], [0, 1, 2, 3, 4, 5, 6, 7, 8, 9, 10, 11]] mixed (by kernel_rfl) fun R hR => ?_   -- r11
      simp only [go_sem, hb0, hmade, hb1, hsm, hb2, hone, hb3, hr60, hb4, lc, hx1, hx2, hx3, hx4]
      refine GCall_of (OwnCity_pc Y _ c1' fc.small) ?_   -- t90
      simp only [go_sem, hb0, hmade, hb1, hsm, hb2, hone, hb3, hr60, hb4, lc, hx1, hx2, hx3, hx4]
      refine GCall_of (OwnBands_pc Y _ l1' (by have := fl.1; omega) (fun z hz => by have := fl.2 z hz; omega)) ?_   -- t95
      simp only [go_sem, hb0, hmade, hb1, hsm, hb2, hone, hb3, hr60, hb4, lc, hx1, hx2, hx3, hx4]
      try refine And.intro (by repeat' (first | refine And.intro ?_ ?_ | exact GOr_right (fun _ => by simp only [go_sem, hb0, hmade, hb1, hsm, hb2, hone, hb3, hr60, hb4, lc, hx1, hx2, hx3, hx4]))) ?_
      refine hR _ _ (kq15 _ _ ?_); clear hR R; try clear kq15 kz15
      try simp only [go_sem, hb0, hmade, hb1, hsm, hb2, hone, hb3, hr60, hb4, lc, hx1, hx2, hx3, hx4]
      refine W_seq fun kz16 kq16 => ?_
      refine W_region [15, 16, 17, 18, 19, 20, 21, 22] fun R hR => ?_   -- r12
      simp only [go_sem, hb0, hmade, hb1, hsm, hb2, hone, hb3, hr60, hb4, lc, hx1, hx2, hx3, hx4, hwi, hsl0, hsl1, hsl2, hone, Int.toNat_natCast, Int.toNat_zero, Int.le_refl, ho0, hol1]
      try simp (disch := omega) only [wrapI, wrapU]
      refine GCall_of (PC.ofRo (OwnBands_pc Y _ o1 (by omega) (fun z hz => by rw [← ho1] at hz; simp at hz; rw [hz]; omega)) (by simp only [go_sem, bands] <;> rfl)) ?_   -- t101
      simp only [go_sem, hb0, hmade, hb1, hsm, hb2, hone, hb3, hr60, hb4, lc, hx1, hx2, hx3, hx4, hwi, hsl0, hsl1, hsl2, hone, Int.toNat_natCast, Int.toNat_zero, Int.le_refl, ho0, hol1]
      try simp (disch := omega) only [wrapI, wrapU]
      refine hR _ _ (kq16 _ _ ?_); clear hR R; try clear kq16 kz16
      try simp only [go_sem, hb0, hmade, hb1, hsm, hb2, hone, hb3, hr60, hb4, lc, hx1, hx2, hx3, hx4]
      refine W_seq fun kz17 kq17 => ?_
      refine W_region [15, 16, 17, 18, 19, 20, 21, 22, 23, 24] fun R hR => ?_   -- r13
      simp only [go_sem, hb0, hmade, hb1, hsm, hb2, hone, hb3, hr60, hb4, lc, hx1, hx2, hx3, hx4]
      refine GCall_of (PC.val (v' := .tuple [ints ps, I pe]) (bSquares_pc Y _ c1' b1' fc.okc (by omega)) hsqv) ?_   -- t107
      simp only [go_sem, hb0, hmade, hb1, hsm, hb2, hone, hb3, hr60, hb4, lc, hx1, hx2, hx3, hx4]
      refine hR _ _ (kq17 _ _ ?_); clear hR R; try clear kq17 kz17
      try simp only [go_sem, hb0, hmade, hb1, hsm, hb2, hone, hb3, hr60, hb4, lc, hx1, hx2, hx3, hx4]
      refine W_seq fun kz18 kq18 => ?_
      refine W_draw [15, 16, 17, 18, 19, 20, 21, 22, 23, 24, 25, 26] [0, 1, 2, 3, 4, 5, 6, 7, 8, 9, 10, 11, 12, 13] [] [[], [], [0, 1], [0, 1, 2], [], [], [4, 5], [4, 5, 6], [0, 1, 2, 3, 4, 5, 6, 7], [0, 1, 2, 3, 4, 5, 6, 7, 8], [0, 1, 2, 3, 4, 5, 6, 7, 8, 9], [0, 1, 2, 3, 4, 5, 6, 7, 8, 9], [0, 1, 2, 3, 4, 5, 6, 7, 8, 9, 10], [0, 1, 2, 3, 4, 5, 6, 7, 8, 9, 10, 11, 12]] mixed (by kernel_rfl) fun R hR => ?_   -- r14
      simp only [go_sem, hb0, hmade, hb1, hsm, hb2, hone, hb3, hr60, hb4, lc, hx1, hx2, hx3, hx4]
      refine GCall_of (PC.val (v' := .tuple [ints ps, I pe]) (rSquares_pc Y _ c1' b1' fc.okc (by omega)) hsqv) ?_   -- t119
      simp only [go_sem, hb0, hmade, hb1, hsm, hb2, hone, hb3, hr60, hb4, lc, hx1, hx2, hx3, hx4]
      try refine And.intro (by repeat' (first | refine And.intro ?_ ?_ | exact GOr_right (fun _ => by simp only [go_sem, hb0, hmade, hb1, hsm, hb2, hone, hb3, hr60, hb4, lc, hx1, hx2, hx3, hx4]))) ?_
      refine hR _ _ (kq18 _ _ ?_); clear hR R; try clear kq18 kz18
      try simp only [go_sem, hb0, hmade, hb1, hsm, hb2, hone, hb3, hr60, hb4, lc, hx1, hx2, hx3, hx4]
      refine W_seq fun kz19 kq19 => ?_
      refine W_draw [15, 16, 17, 18, 19, 20, 21, 22, 23, 24, 25, 26, 27, 28, 29] [0, 1, 2, 3, 4, 5, 6, 7, 8, 9, 10, 11, 12, 13] [] [[], [], [], [], [2, 3], [2, 3, 4], [0, 1, 2, 3, 4, 5], [0, 1, 2, 3, 4, 5, 6], [0, 1, 2, 3, 4, 5, 6, 7], [0, 1, 2, 3, 4, 5, 6, 7], [0, 1, 2, 3, 4, 5, 6, 7], [0, 1, 2, 3, 4, 5, 6, 7, 8], [0, 1, 2, 3, 4, 5, 6, 7, 8, 9, 11], [0, 1, 2, 3, 4, 5, 6, 7, 8, 9, 10, 11, 12]] mixed (by kernel_rfl) fun R hR => ?_   -- r15
      simp only [go_sem, hb0, hmade, hb1, hsm, hb2, hone, hb3, hr60, hb4, lc, hx1, hx2, hx3, hx4]
      refine GCall_of (PC.val (v' := .tuple [ints ws, .bool wa, I we]) (Where_pc Y _ c1' b1' m1' fc.okc (by omega)) (by rw [hws, hwa, hwe])) ?_   -- t129
      simp only [go_sem, hb0, hmade, hb1, hsm, hb2, hone, hb3, hr60, hb4, lc, hx1, hx2, hx3, hx4]
      try refine And.intro (by repeat' (first | refine And.intro ?_ ?_ | exact GOr_right (fun _ => by simp only [go_sem, hb0, hmade, hb1, hsm, hb2, hone, hb3, hr60, hb4, lc, hx1, hx2, hx3, hx4]))) ?_
      refine hR _ _ (kq19 _ _ ?_); clear hR R; try clear kq19 kz19
      try simp only [go_sem, hb0, hmade, hb1, hsm, hb2, hone, hb3, hr60, hb4, lc, hx1, hx2, hx3, hx4]
      refine W_seq fun kz20 kq20 => ?_
      refine W_draw [15, 16, 17, 18, 19, 20, 21, 22, 23, 24, 25, 26, 27, 28, 29, 30, 31, 32] [0, 1, 2, 3, 4, 5, 6, 7, 8, 9, 10, 11, 12, 13, 14, 15, 16, 17, 18, 19] [] [[], [], [0, 1], [0, 1, 2], [], [], [4, 5], [4, 5, 6], [], [], [8, 9], [8, 9, 10], [0, 1, 2, 3, 4, 5, 6, 7, 8, 9, 10, 11], [0, 1, 2, 3, 4, 5, 6, 7, 8, 9, 10, 11, 12], [0, 1, 2, 3, 4, 5, 6, 7, 8, 9, 10, 11, 12, 13], [0, 1, 2, 3, 4, 5, 6, 7, 8, 9, 10, 11, 12, 13], [0, 1, 2, 3, 4, 5, 6, 7, 8, 9, 10, 11, 12, 13], [0, 1, 2, 3, 4, 5, 6, 7, 8, 9, 10, 11, 12, 13, 14], [0, 1, 2, 3, 4, 5, 6, 7, 8, 9, 10, 11, 12, 13, 14, 15, 17], [0, 1, 2, 3, 4, 5, 6, 7, 8, 9, 10, 11, 12, 13, 14, 15, 16, 17, 18]] mixed (by kernel_rfl) fun R hR => ?_   -- r16
      simp only [go_sem, hb0, hmade, hb1, hsm, hb2, hone, hb3, hr60, hb4, lc, hx1, hx2, hx3, hx4]
      refine GCall_of (PC.val (v' := .tuple [ints ws, .bool wa, I we]) (rWhere_pc Y _ c1' b1' m1' fc.okc (by omega)) (by rw [← where_eq, hws, hwa, hwe])) ?_   -- t146
      simp only [go_sem, hb0, hmade, hb1, hsm, hb2, hone, hb3, hr60, hb4, lc, hx1, hx2, hx3, hx4]
      try refine And.intro (by repeat' (first | refine And.intro ?_ ?_ | exact GOr_right (fun _ => by simp only [go_sem, hb0, hmade, hb1, hsm, hb2, hone, hb3, hr60, hb4, lc, hx1, hx2, hx3, hx4]))) ?_
      refine hR _ _ (kq20 _ _ ?_); clear hR R; try clear kq20 kz20
      try simp only [go_sem, hb0, hmade, hb1, hsm, hb2, hone, hb3, hr60, hb4, lc, hx1, hx2, hx3, hx4]
      refine W_seq fun kz21 kq21 => ?_
      refine W_seq fun kz22 kq22 => ?_
      refine W_draw [15, 16, 17, 18, 19, 20, 21, 22, 199] [0, 1, 2, 3, 4, 5, 6, 7, 8, 9, 10, 11, 12, 13, 14, 15, 16, 17, 18, 19, 20, 21, 22, 23, 24, 25, 26, 27, 28, 29, 30, 31, 32, 33, 34, 35, 36, 37, 38, 39, 40, 41, 42, 43, 44, 45, 46, 47, 48, 49] [(2, 1), (3, 1), (4, 1), (5, 1), (12, 11), (13, 11), (14, 11), (15, 11), (16, 11), (17, 11), (18, 11), (19, 11)] [[], [0], [], [], [2, 3], [2, 3, 4], [0, 1, 2, 3, 4, 5], [0, 1, 2, 3, 4, 5, 6], [0, 1, 2, 3, 4, 5, 6, 7], [0, 1, 2, 3, 4, 5, 6, 7, 8], [0, 1, 2, 3, 4, 5, 6, 7, 8], [0, 1, 2, 3, 4, 5, 6, 7, 8, 9, 10], [0, 1, 2, 3, 4, 5, 6, 7, 8], [0, 1, 2, 3, 4, 5, 6, 7, 8], [0, 1, 2, 3, 4, 5, 6, 7, 8, 12, 13], [0, 1, 2, 3, 4, 5, 6, 7, 8, 12, 13, 14], [0, 1, 2, 3, 4, 5, 6, 7, 8], [0, 1, 2, 3, 4, 5, 6, 7, 8], [0, 1, 2, 3, 4, 5, 6, 7, 8, 16, 17], [0, 1, 2, 3, 4, 5, 6, 7, 8, 16, 17, 18], [0, 1, 2, 3, 4, 5, 6, 7, 8, 9, 10, 11, 12, 13, 14, 15, 16, 17, 18, 19], [0, 1, 2, 3, 4, 5, 6, 7, 8, 9, 10, 11, 12, 13, 14, 15, 16, 17, 18, 19, 20], [0, 1, 2, 3, 4, 5, 6, 7, 8, 9, 10, 11, 12, 13, 14, 15, 16, 17, 18, 19, 20, 21], [0, 1, 2, 3, 4, 5, 6, 7, 8, 9, 10, 11, 12, 13, 14, 15, 16, 17, 18, 19, 20, 21, 22], [0, 1, 2, 3, 4, 5, 6, 7, 8, 9, 10, 11, 12, 13, 14, 15, 16, 17, 18, 19, 20, 21, 22, 23], [0, 1, 2, 3, 4, 5, 6, 7, 8, 9, 10, 11, 12, 13, 14, 15, 16, 17, 18, 19, 20, 21, 22, 23], [0, 1, 2, 3, 4, 5, 6, 7, 8, 9, 10, 11, 12, 13, 14, 15, 16, 17, 18, 19, 20, 21, 22, 23, 24, 25], [0, 1, 2, 3, 4, 5, 6, 7, 8, 9, 10, 11, 12, 13, 14, 15, 16, 17, 18, 19, 20, 21, 22, 23, 24, 25, 26], [0, 1, 2, 3, 4, 5, 6, 7, 8, 9, 10, 11, 12, 13, 14, 15, 16, 17, 18, 19, 20, 21, 22, 23, 24, 25, 26, 27], [0, 1, 2, 3, 4, 5, 6, 7, 8, 9, 10, 11, 12, 13, 14, 15, 16, 17, 18, 19, 20, 21, 22, 23, 24, 25, 26, 27, 28], [0, 1, 2, 3, 4, 5, 6, 7, 8, 9, 10, 11, 12, 13, 14, 15, 16, 17, 18, 19, 20, 21, 22, 23, 24, 25, 26, 27, 28], [0, 1, 2, 3, 4, 5, 6, 7, 8, 9, 10, 11, 12, 13, 14, 15, 16, 17, 18, 19, 20, 21, 22, 23, 24, 25, 26, 27, 28, 29, 30], [0, 1, 2, 3, 4, 5, 6, 7, 8, 9, 10, 11, 12, 13, 14, 15, 16, 17, 18, 19, 20, 21, 22, 23, 24, 25, 26, 27, 28, 29, 30, 31], [0, 1, 2, 3, 4, 5, 6, 7, 8, 9, 10, 11, 12, 13, 14, 15, 16, 17, 18, 19, 20, 21, 22, 23, 24, 25, 26, 27, 28, 29, 30, 31, 32], [0, 1, 2, 3, 4, 5, 6, 7, 8, 9, 10, 11, 12, 13, 14, 15, 16, 17, 18, 19, 20, 21, 22, 23, 24, 25, 26, 27, 28, 29, 30, 31, 32, 33], [0, 1, 2, 3, 4, 5, 6, 7, 8, 9, 10, 11, 12, 13, 14, 15, 16, 17, 18, 19, 20, 21, 22, 23, 24, 25, 26, 27, 28, 29, 30, 31, 32, 33, 34], [0, 1, 2, 3, 4, 5, 6, 7, 8, 9, 10, 11, 12, 13, 14, 15, 16, 17, 18, 19, 20, 21, 22, 23, 24, 25, 26, 27, 28, 29, 30, 31, 32, 33, 34], [0, 1, 2, 3, 4, 5, 6, 7, 8, 9, 10, 11, 12, 13, 14, 15, 16, 17, 18, 19, 20, 21, 22, 23, 24, 25, 26, 27, 28, 29, 30, 31, 32, 33, 34, 35, 36], [0, 1, 2, 3, 4, 5, 6, 7, 8, 9, 10, 11, 12, 13, 14, 15, 16, 17, 18, 19, 20, 21, 22, 23, 24, 25, 26, 27, 28, 29, 30, 31, 32, 33, 34, 35, 36, 37], [0, 1, 2, 3, 4, 5, 6, 7, 8, 9, 10, 11, 12, 13, 14, 15, 16, 17, 18, 19, 20, 21, 22, 23, 24, 25, 26, 27, 28, 29, 30, 31, 32, 33, 34, 35, 36, 37, 38], [0, 1, 2, 3, 4, 5, 6, 7, 8, 9, 10, 11, 12, 13, 14, 15, 16, 17, 18, 19, 20, 21, 22, 23, 24, 25, 26, 27, 28, 29, 30, 31, 32, 33, 34, 35, 36, 37, 38, 39], [0, 1, 2, 3, 4, 5, 6, 7, 8, 9, 10, 11, 12, 13, 14, 15, 16, 17, 18, 19, 20, 21, 22, 23, 24, 25, 26, 27, 28, 29, 30, 31, 32, 33, 34, 35, 36, 37, 38, 39], [0, 1, 2, 3, 4, 5, 6, 7, 8, 9, 10, 11, 12, 13, 14, 15, 16, 17, 18, 19, 20, 21, 22, 23, 24, 25, 26, 27, 28, 29, 30, 31, 32, 33, 34, 35, 36, 37, 38, 39, 40, 41], [0, 1, 2, 3, 4, 5, 6, 7, 8, 9, 10, 11, 12, 13, 14, 15, 16, 17, 18, 19, 20, 21, 22, 23, 24, 25, 26, 27, 28, 29, 30, 31, 32, 33, 34, 35, 36, 37, 38, 39, 40, 41, 42], [0, 1, 2, 3, 4, 5, 6, 7, 8, 9, 10, 11, 12, 13, 14, 15, 16, 17, 18, 19, 20, 21, 22, 23, 24, 25, 26, 27, 28, 29, 30, 31, 32, 33, 34, 35, 36, 37, 38, 39, 40, 41, 42, 43], [0, 1, 2, 3, 4, 5, 6, 7, 8, 9, 10, 11, 12, 13, 14, 15, 16, 17, 18, 19, 20, 21, 22, 23, 24, 25, 26, 27, 28, 29, 30, 31, 32, 33, 34, 35, 36, 37, 38, 39, 40, 41, 42, 43, 44], [0, 1, 2, 3, 4, 5, 6, 7, 8, 9, 10, 11, 12, 13, 14, 15, 16, 17, 18, 19, 20, 21, 22, 23, 24, 25, 26, 27, 28, 29, 30, 31, 32, 33, 34, 35, 36, 37, 38, 39, 40, 41, 42, 43, 44], [0, 1, 2, 3, 4, 5, 6, 7, 8, 9, 10, 11, 12, 13, 14, 15, 16, 17, 18, 19, 20, 21, 22, 23, 24, 25, 26, 27, 28, 29, 30, 31, 32, 33, 34, 35, 36, 37, 38, 39, 40, 41, 42, 43, 44, 45, 46], [0, 1, 2, 3, 4, 5, 6, 7, 8, 9, 10, 11, 12, 13, 14, 15, 16, 17, 18, 19, 20, 21, 22, 23, 24, 25, 26, 27, 28, 29, 30, 31, 32, 33, 34, 35, 36, 37, 38, 39, 40, 41, 42, 43, 44, 45, 46, 47], [0, 1, 2, 3, 4, 5, 6, 7, 8, 9, 10, 11, 12, 13, 14, 15, 16, 17, 18, 19, 20, 21, 22, 23, 24, 25, 26, 27, 28, 29, 30, 31, 32, 33, 34, 35, 36, 37, 38, 39, 40, 41, 42, 43, 44, 45, 46, 47, 48]] mixed (by kernel_rfl) fun R hR => ?_   -- r17
      simp only [go_sem, hb0, hmade, hb1, hsm, hb2, hone, hb3, hr60, hb4, lc, hx1, hx2, hx3, hx4]
      refine GCall_of (PC.val (v' := I ck) (bcheck_pc Y _ c1' fc.okc) (by rw [hck])) ?_   -- t151
      simp only [go_sem, hb0, hmade, hb1, hsm, hb2, hone, hb3, hr60, hb4, lc, hx1, hx2, hx3, hx4]
      refine GCall_of (PC.val (v' := I ck) (rcheck_pc Y _ c1' fc.okc) (by rw [hck])) ?_   -- t156
      simp only [go_sem, hb0, hmade, hb1, hsm, hb2, hone, hb3, hr60, hb4, lc, hx1, hx2, hx3, hx4]
      refine GCall_of (PC.ofRo (PC.val (v' := I cb) (checkBands_pc Y _ c1' l1' fc.okc fl.okb) (by rw [hcb])) (by simp only [go_sem, bands] <;> rfl)) ?_   -- t161
      simp only [go_sem, hb0, hmade, hb1, hsm, hb2, hone, hb3, hr60, hb4, lc, hx1, hx2, hx3, hx4]
      refine GCall_of (PC.val (v' := I cb) (rcheckBands_pc Y _ c1' l1' fc.okc fl.okb) (by rw [hcb])) ?_   -- t170
      simp only [go_sem, hb0, hmade, hb1, hsm, hb2, hone, hb3, hr60, hb4, lc, hx1, hx2, hx3, hx4]
      refine GCall_of (EqInts_self Y _ ps .ro .ro hpl) ?_   -- t181
      simp only [go_sem, hb0, hmade, hb1, hsm, hb2, hone, hb3, hr60, hb4, lc, hx1, hx2, hx3, hx4]
      refine GCall_of (EqInts_self Y _ ws .ro .ro hwl) ?_   -- t197
      simp only [go_sem, hb0, hmade, hb1, hsm, hb2, hone, hb3, hr60, hb4, lc, hx1, hx2, hx3, hx4]
      try refine And.intro (by repeat' (first | refine And.intro ?_ ?_ | exact GOr_right (fun _ => by simp only [go_sem, hb0, hmade, hb1, hsm, hb2, hone, hb3, hr60, hb4, lc, hx1, hx2, hx3, hx4]))) ?_
      refine hR _ _ (kq22 _ _ ?_); clear hR R; try clear kq22 kz22
      try simp only [go_sem, hb0, hmade, hb1, hsm, hb2, hone, hb3, hr60, hb4, lc, hx1, hx2, hx3, hx4]
      refine W_cond rfl (fun c3 => ?_) (fun c3 => ?_)
      · -- c3 true
        try simp only [nrm] at c3
        exfalso
        simp at c3
      · -- c3 false
        try simp only [nrm] at c3
        refine W_skip (kq21 _ _ ?_)
        refine W_seq fun kz23 kq23 => ?_
        refine W_draw [15, 16, 17, 18, 19, 226] [0, 1, 2, 3, 4, 5, 6, 7, 8, 9, 10, 11, 12, 13, 14, 15, 16, 17, 18, 19, 20, 21, 22, 23, 24, 25, 26] [] [[], [], [], [1, 2], [1, 2, 3], [0, 1, 2, 3, 4], [0, 1, 2, 3, 4, 5], [0, 1, 2, 3, 4, 5, 6], [0, 1, 2, 3, 4, 5, 6, 7], [0, 1, 2, 3, 4, 5, 6, 7], [0, 1, 2, 3, 4, 5, 6, 7], [0, 1, 2, 3, 4, 5, 6, 7, 9, 10], [0, 1, 2, 3, 4, 5, 6, 7, 9, 10, 11], [0, 1, 2, 3, 4, 5, 6, 7, 8, 9, 10, 11, 12], [0, 1, 2, 3, 4, 5, 6, 7, 8, 9, 10, 11, 12, 13], [0, 1, 2, 3, 4, 5, 6, 7, 8, 9, 10, 11, 12, 13, 14], [0, 1, 2, 3, 4, 5, 6, 7, 8, 9, 10, 11, 12, 13, 14, 15], [0, 1, 2, 3, 4, 5, 6, 7, 8, 9, 10, 11, 12, 13, 14, 15, 16], [0, 1, 2, 3, 4, 5, 6, 7, 8, 9, 10, 11, 12, 13, 14, 15, 16, 17], [0, 1, 2, 3, 4, 5, 6, 7, 8, 9, 10, 11, 12, 13, 14, 15, 16], [0, 1, 2, 3, 4, 5, 6, 7, 8, 9, 10, 11, 12, 13, 14, 15, 16], [0, 1, 2, 3, 4, 5, 6, 7, 8, 9, 10, 11, 12, 13, 14, 15, 16], [0, 1, 2, 3, 4, 5, 6, 7, 8, 9, 10, 11, 12, 13, 14, 15, 16, 21], [0, 1, 2, 3, 4, 5, 6, 7, 8, 9, 10, 11, 12, 13, 14, 15, 16, 19, 20, 21, 22], [0, 1, 2, 3, 4, 5, 6, 7, 8, 9, 10, 11, 12, 13, 14, 15, 16, 17, 18, 19, 20, 21, 22, 23], [0, 1, 2, 3, 4, 5, 6, 7, 8, 9, 10, 11, 12, 13, 14, 15, 16, 17, 18, 19, 20, 21, 22, 23, 24], [0, 1, 2, 3, 4, 5, 6, 7, 8, 9, 10, 11, 12, 13, 14, 15, 16, 17, 18, 19, 20, 21, 22, 23, 24, 25]] mixed (by kernel_rfl) fun R hR => ?_   -- r19
        simp only [go_sem, hb0, hmade, hb1, hsm, hb2, hone, hb3, hr60, hb4, lc, hx1, hx2, hx3, hx4, hwi, hsl0, hsl1, hsl2, hone, ho1.symm, Int.toNat_natCast]
        refine GCall_of (EqCities_pc Y _ c1' fc.okc) ?_   -- t205
        simp only [go_sem, hb0, hmade, hb1, hsm, hb2, hone, hb3, hr60, hb4, lc, hx1, hx2, hx3, hx4, hwi, hsl0, hsl1, hsl2, hone, ho1.symm, Int.toNat_natCast]
        refine GCall_of (PC.ofRo (EqBands_pc Y _ l1' fl.okb) (by simp only [go_sem, bands] <;> rfl)) ?_   -- t213
        simp only [go_sem, hb0, hmade, hb1, hsm, hb2, hone, hb3, hr60, hb4, lc, hx1, hx2, hx3, hx4, hwi, hsl0, hsl1, hsl2, hone, ho1.symm, Int.toNat_natCast]
        try simp (disch := omega) only [wrapI, wrapU]
        refine GCall_of (PC.ofRo (EqBands_pc Y _ [b1'] ⟨by simp, fun z hz => by simp at hz; subst hz; omega⟩) (by simp only [go_sem, bands] <;> rfl)) ?_   -- t224
        simp only [go_sem, hb0, hmade, hb1, hsm, hb2, hone, hb3, hr60, hb4, lc, hx1, hx2, hx3, hx4, hwi, hsl0, hsl1, hsl2, hone, ho1.symm, Int.toNat_natCast]
        try simp (disch := omega) only [wrapI, wrapU]
        try refine And.intro (by repeat' (first | refine And.intro ?_ ?_ | exact GOr_right (fun _ => by simp only [go_sem, hb0, hmade, hb1, hsm, hb2, hone, hb3, hr60, hb4, lc, hx1, hx2, hx3, hx4, hwi, hsl0, hsl1, hsl2, hone, ho1.symm, Int.toNat_natCast]))) ?_
        refine hR _ _ (kq23 _ _ ?_); clear hR R; try clear kq23 kz23
        try simp only [go_sem, hb0, hmade, hb1, hsm, hb2, hone, hb3, hr60, hb4, lc, hx1, hx2, hx3, hx4]
        refine W_cond rfl (fun c4 => ?_) (fun c4 => ?_)
        · -- c4 true
          try simp only [nrm] at c4
          exfalso
          simp at c4
        · -- c4 false
          try simp only [nrm] at c4
          refine W_skip (kq14 _ _ ?_)
          refine W_region [15, 16, 17, 18, 19] fun R hR => ?_   -- r10
          simp only [go_sem, hb0, hmade, hb1, hsm, hb2, hone, hb3, hr60, hb4, lc, hx1, hx2, hx3, hx4]
          try simp (disch := omega) only [wrapI, wrapU]
          refine hR _ _ ?_; clear hR R
          try simp only [go_sem, hb0, hmade, hb1, hsm, hb2, hone, hb3, hr60, hb4, lc, hx1, hx2, hx3, hx4]
          refine ⟨i + 1, ?_, by (try simp only []); omega, ?_⟩
          · refine Weak.trans (Weak.cutX 5 2 (by omega) (by omega) hcl (by simp only [go_sem] <;> omega) (by simp only [go_sem] <;> omega)) ?_
            simp only [go_sem]
            exact Weak.eq (by first | rfl | (simp only [go_sem]; done) | (simp only [go_sem]; rfl) | (simp [go_sem]; done) | (simp [go_sem]; omega)) (by first | rfl | (simp only [go_sem]; done) | (simp [go_sem]; done))
          · try dsimp only
            omega
    · -- c2 false
      try simp only [nrm] at c2
      refine W_exit ?_
      simp only [go_sem, hb0, hmade, hb1, hsm, hb2, hone, hb3, hr60, hb4, lc]
      refine kq10 _ _ ?_
      refine W_seq fun kz24 kq24 => ?_
      refine W_region [10] fun R hR => ?_   -- r21
      simp only [go_sem, hb0, hmade, hb1, hsm, hb2, hone, hb3, hr60, hb4, lc]
      refine GCall_of (lawake_pc Y _) ?_   -- t227
      simp only [go_sem, hb0, hmade, hb1, hsm, hb2, hone, hb3, hr60, hb4, lc]
      refine hR _ _ (kq24 _ _ ?_); clear hR R; try clear kq24 kz24
      try simp only [go_sem, hb0, hmade, hb1, hsm, hb2, hone, hb3, hr60, hb4, lc]
      refine W_ret ?_
      simp only [go_sem, hb0, hmade, hb1, hsm, hb2, hone, hb3, hr60, hb4, lc]
      refine ⟨.inr (by trivial), ?_⟩
      first | refine Fin_same hcl rfl (Wk_eq ?_ (by simp only [go_sem])) | refine Fin_self hcl rfl (Wk_eq ?_ (by simp only [go_sem]))
      try simp only [go_sem]
      all_goals
        first | rfl | (simp_all; done) | (simp_all; omega)
end Go.Proofs.Ytnpamcpoaklgeaa
namespace Go.Proofs.Ytnpamcpoaklgeaa
open Go Go.RowKit
theorem rdBandChecksArgs : All2 (fun t R => Rd Try.prog t R) Try.f13.params.toList [fun p => ∃ c : City, p = ctPV c ∧ citySz c, fun p => ∃ l : List Band, p = bands l ∧ l.length * 64 ≤ 140737488351232 ∧ ∀ b, b ∈ l → bandSz b, fun p => ∃ b : Band, p = bdPV b ∧ bandSz b, fun p => ∃ n : Int, p = I n, fun p => ∃ xs : List Int, p = ints xs ∧ xs.length * 8 ≤ 140737488351232] :=
  .cons rdCity (.cons rdBands (.cons rdBand (.cons rdInt (.cons rdInts .nil))))
set_option maxHeartbeats 4000000 in
theorem BandChecks_walk : ∀ qs, AllR [fun p => ∃ c : City, p = ctPV c ∧ citySz c, fun p => ∃ l : List Band, p = bands l ∧ l.length * 64 ≤ 140737488351232 ∧ ∀ b, b ∈ l → bandSz b, fun p => ∃ b : Band, p = bdPV b ∧ bandSz b, fun p => ∃ n : Int, p = I n, fun p => ∃ xs : List Int, p = ints xs ∧ xs.length * 8 ≤ 140737488351232] qs → ∃ σ', PC Try.prog noY 13 qs Sg.zero (.bool true) σ' := by
  intro qs hq
  obtain ⟨px0, qs, rfl, ⟨x0, hx0, sx0⟩, hq⟩ := allR_cons hq
  obtain ⟨px1, qs, rfl, ⟨x1, hx1, sx1⟩, hq⟩ := allR_cons hq
  obtain ⟨px2, qs, rfl, ⟨x2, hx2, sx2⟩, hq⟩ := allR_cons hq
  obtain ⟨px3, qs, rfl, ⟨x3, hx3⟩, hq⟩ := allR_cons hq
  obtain ⟨px4, qs, rfl, ⟨x4, hx4, sx4⟩, hq⟩ := allR_cons hq
  obtain rfl := allR_nil hq
  subst hx0 hx1 hx2 hx3 hx4
  exact ⟨_, BandChecks_pc noY _ x0 x1 x2 x3 x4 ⟨sx0.hr, sx0.hs, sx0.hg, sx0.hp, sx0.hsl⟩ sx1 sx2 (by omega)⟩
theorem BandChecks_lifted (os : Os) (started : os.Started) (H : Type) (enc : TypeId × Value → H) :
    ReturnsInHanded {} Try.checked os 13 .any (Rows.bandChecksSpec.pre6 enc Try.prog Try.f13 Rows.bandChecksRow.domain false) (Rows.bandChecksSpec.post enc Try.prog Try.f13 false true false false) :=
  law_lifted (C := Try.checked) own started (by kernel_rfl) Try.func13 rfl laidOut (by kernel_rfl) rdBandChecksArgs rfl Try.underlying4
    (fun ds h => match ds, h with | [_, _, _, _, _], _ => rfl)
    (ChangeSpec.witness6 (enc := enc) (C := Try.checked) false ⟨#[], #[Value.agg #[.slice none 0 0, .slice none 0 0, .slice none 0 0, .int .i64 0, .int .i64 0, .slice none 0 0], .slice none 0 0, Value.agg #[.int .i64 0, .slice none 0 0, .int .i64 0, .int .i64 0, .int .i64 0, .int .i64 0], .int .i64 0, .slice none 0 0], []⟩ 8 (by kernel_rfl) (by kernel_rfl) (by kernel_rfl) (by kernel_rfl))
    BandChecks_walk
theorem BandChecks_holds : Rows.BandChecksSaid :=
  OpenClaim.holds_of_wide 13 Try.f13 rfl rfl rfl rfl rfl rfl rfl ⟨rfl, rfl, rfl, rfl, rfl⟩ rfl rfl rfl rfl rfl (by kernel_rfl) Try.func13 (by kernel_rfl)
    (of_decide_eq_true (by kernel_rfl)) (by unfold Func.isWrapper; first | (rw [if_pos (by decide +kernel)]; kernel_rfl) | (rw [if_neg (by decide +kernel)]; exact ⟨rfl, rfl⟩))
    (fun os started H enc _ => BandChecks_lifted os started H enc)
end Go.Proofs.Ytnpamcpoaklgeaa
