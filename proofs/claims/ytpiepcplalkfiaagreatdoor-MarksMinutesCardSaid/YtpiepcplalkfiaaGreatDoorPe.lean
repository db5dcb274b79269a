/-
  Nights made of numbers are nights that may be. The plain law.
  Regions that draw their order, two operations of which may come in either order: both are walked.
  Builders: one is made; what it holds becomes a string.
  The pure reading, run: a program's code is carried out on values that are known. What is said here is proved in the texts that follow.
  The pure reading, run: what the quick operations give.
  The pure reading, run: the quick operations are the slow ones.
  The pure reading, run: operations done another way.
  The pure reading, run: regions.
  The pure reading, run: regions that draw their order.
  The pure reading, run: code, calls.
  The pure reading, run: a call of no arguments, run from nothing, is as it was in every state.
  The regions of this seat that draw their order: one order for each, and what is to be seen to.
  Builders and decimal numerals, as the library makes them.
  Walks: a builder is written to; what it holds becomes a string.
  The pure reading, run: calls of closed arguments that hand back plain values, run from nothing, are as they were in every state; such calls remembered.
  Numbers sorted, as a run can do it.
  Calls that a run takes from contracts: builders, numbers as text, compacting.
  awake, run.
  Texts, plainly: parts between separators; numerals.
-/
import Derived.Test.YtpiepcplalkfiaaGreatDoorPd
import Derived.CallsIn
import Derived.RangeFuncLeaves
import Derived.RangeFuncRecord
import Derived.OrdersIn
import Derived.Below
import Derived.Laws.World
import Derived.Laws.StructEq
import Derived.Laws.BytesString
import Derived.Laws.Append
import Derived.MapKept
import Derived.ProofKit
import Derived.Carry
import Derived.Handed
import Derived.ChangeCalls
import Derived.Stop.Joined
import Derived.Lib.LaidTab
import Derived.Shelf.Strconv.Itoa3
import Derived.RangeFuncIn
import Derived.RangeFuncNested
import Derived.Test.YtpiepcplalkfiaaGreatDoorProg
import Derived.KernelRfl
import Derived.IntWalk
import Derived.Test.YtpiepcplalkfiaaGreatDoorRows
import Derived.Sort.OwnSortedInts
import Derived.Lib.SlicesCompact
import Derived.Shelf.Sort.Plain
import Derived.Shelf.Slices.In.SortNone
import Derived.Shelf.Small.Bits
import Derived.Shelf.Strings.Builder1
import Derived.Lib.SplitLaws
import Derived.Lib.AtoiAll
import Derived.Lib.ItoaNum
import Derived.Lib.IndexBytes
import Derived.Shelf.Strings.Split
import Derived.Shelf.Strconv.AtoiAll
import Derived.Lib.AtoiErrMem
import Derived.Lib.ItoaLen
import Derived.Lib.AtoiAllCases
import Derived.Test.YtpiepcplalkfiaaGreatDoorCards
import Derived.Test.YtpiepcplalkfiaaGreatDoorTie
import Derived.JoinedOf
import Derived.LaidMore
import Derived.LaidSub
import Derived.Lay
import Derived.SevenTiedAt
import Derived.Lib.LaidU8
import Derived.Shelf.Vars
set_option linter.unusedSimpArgs false
set_option linter.unusedVariables false
namespace Go.Proofs.YtpiepcplalkfiaaGreatDoor
set_option maxRecDepth 100000
def Bef (m j : Nat) (p : Int × Int) : Prop := p.1 < m ∨ (p.1 = m ∧ p.2 < j)
structure RInv (s : Scale) (dec : Bool) (m j : Nat) (here : Int) (op : List Envl) (ab : List (Int × Int)) : Prop where
 go : ∀ x, x ∈ op → GoodE s x ∧ Bef m j (jdE x)
 ga : ∀ a, a ∈ ab → ofSc s a = true ∧ Bef m j a
 nd : (op.map jdE ++ ab).Nodup
 sh : ∀ m' : Int, 0 ≤ m' → m' < m → ∃ q, (0 ≤ q ∧ q < s.judges) ∧ (m', q) ∉ ab
 he : 0 < here → ∃ q : Int, (0 ≤ q ∧ q < j) ∧ ((m : Int), q) ∉ ab
 h0 : 0 ≤ here
 dc : dec = true → ∀ p, ofSc s p = true → Bef m j p → p ∈ ab ∨ ∃ x, x ∈ op ∧ jdE x = p
 l1 : op.length ≤ 5 * m + j
 l2 : ab.length ≤ 5 * m + j
theorem Bef.mono {m j : Nat} {p : Int × Int} (h : Bef m j p) : Bef m (j + 1) p := by
 unfold Bef at *; omega
theorem sealed_good {s : Scale} (hc : chkSc s = 0) {m j : Int} {l : List Int} (hj : ofSc s (m, j) = true) (hl : (l.length : Int) = s.schools ∧ ∀ x, x ∈ l → s.low ≤ x ∧ x ≤ s.high) : GoodE s (sealedE s m j l) := by
 have hm : marked s (m, j) l = 0 := marked_of hj hl.1 hl.2
 refine ⟨hm, ?_⟩
 show (sealAns s (m, j) l).1 = sealOf (m, j) l
 unfold sealAns
 rw [if_neg (by simp [hc]), if_neg (by simp [hm])]
section
variable {s : Scale} {dec : Bool} {m j : Nat} {here : Int} {op : List Envl} {ab : List (Int × Int)}
theorem RInv.absent (h : RInv s dec m j here op ab) (hj : ofSc s ((m : Int), (j : Int)) = true) : RInv s dec m (j + 1) here op (ab ++ [((m : Int), (j : Int))]) where
 go := fun x hx => ⟨(h.go x hx).1, (h.go x hx).2.mono⟩
 ga := fun a ha => by
  rcases List.mem_append.1 ha with ha | ha
  ·exact ⟨(h.ga a ha).1, (h.ga a ha).2.mono⟩
  simp at ha; subst ha; exact ⟨hj, .inr ⟨rfl, by simp; omega⟩⟩
 nd := by
  rw [← List.append_assoc, List.nodup_append]
  refine ⟨h.nd, by simp, fun a ha b hb e => ?_⟩
  simp at hb
  subst hb e
  rcases List.mem_append.1 ha with ha | ha
  ·obtain ⟨x, hx, e⟩ := List.mem_map.1 ha
   have := (h.go x hx).2
   rw [e] at this
   unfold Bef at this; simp at this
  have := (h.ga _ ha).2
  unfold Bef at this; simp at this
 sh := fun m' a b => by
  obtain ⟨q, h1, h2⟩ := h.sh m' a b
  refine ⟨q, h1, fun hq => ?_⟩
  rcases List.mem_append.1 hq with hq | hq
  ·exact h2 hq
  simp at hq; omega
 he := fun hh => by
  obtain ⟨q, h1, h2⟩ := h.he hh
  refine ⟨q, by omega, fun hq => ?_⟩
  rcases List.mem_append.1 hq with hq | hq
  ·exact h2 hq
  simp at hq; omega
 h0 := h.h0
 dc := fun hd p hp hb => by
  by_cases e : p = ((m : Int), (j : Int))
  ·exact .inl (by simp [e])
  have : Bef m j p := by
   unfold Bef at *
   have : ¬ (p.1 = m ∧ p.2 = j) := fun ⟨a, b⟩ => e (Prod.ext a b)
   omega
  rcases h.dc hd p hp this with k | k
  ·exact .inl (by simp [k])
  exact .inr k
 l1 := by have := h.l1; omega
 l2 := by have := h.l2; simp; omega
theorem RInv.skip (h : RInv s dec m j here op ab) (hd : dec = false) : RInv s dec m (j + 1) (here + 1) op ab where
 go := fun x hx => ⟨(h.go x hx).1, (h.go x hx).2.mono⟩
 ga := fun a ha => ⟨(h.ga a ha).1, (h.ga a ha).2.mono⟩
 nd := h.nd
 sh := h.sh
 he := fun _ => ⟨j, by omega, fun ha => by have := (h.ga _ ha).2; unfold Bef at this; simp at this⟩
 h0 := by have := h.h0; omega
 dc := fun e => by rw [hd] at e; cases e
 l1 := by have := h.l1; omega
 l2 := by have := h.l2; omega
theorem RInv.opened (h : RInv s dec m j here op ab) (hc : chkSc s = 0) (hj : ofSc s ((m : Int), (j : Int)) = true) {l : List Int} (hl : (l.length : Int) = s.schools ∧ ∀ x, x ∈ l → s.low ≤ x ∧ x ≤ s.high) : RInv s dec m (j + 1) (here + 1) (op ++ [sealedE s m j l]) ab where
 go := fun x hx => by
  rcases List.mem_append.1 hx with hx | hx
  ·exact ⟨(h.go x hx).1, (h.go x hx).2.mono⟩
  simp at hx; subst hx; exact ⟨sealed_good hc hj hl, .inr ⟨rfl, by simp [jdE, sealedE]; omega⟩⟩
 ga := fun a ha => ⟨(h.ga a ha).1, (h.ga a ha).2.mono⟩
 nd := by
  have hnew : ((m : Int), (j : Int)) ∉ op.map jdE ++ ab := fun ha => by
   rcases List.mem_append.1 ha with ha | ha
   ·obtain ⟨x, hx, e⟩ := List.mem_map.1 ha
    have := (h.go x hx).2
    rw [e] at this
    unfold Bef at this; simp at this
   have := (h.ga _ ha).2
   unfold Bef at this; simp at this
  rw [List.map_append, List.append_assoc]
  show (op.map jdE ++ ([((m : Int), (j : Int))] ++ ab)).Nodup
  have : (op.map jdE ++ ([((m : Int), (j : Int))] ++ ab)).Perm (((m : Int), (j : Int)) :: (op.map jdE ++ ab)) := List.perm_middle
  rw [this.nodup_iff, List.nodup_cons]
  exact ⟨hnew, h.nd⟩
 sh := h.sh
 he := fun _ => ⟨j, by omega, fun ha => by have := (h.ga _ ha).2; unfold Bef at this; simp at this⟩
 h0 := by have := h.h0; omega
 dc := fun hd p hp hb => by
  by_cases e : p = ((m : Int), (j : Int))
  ·exact .inr ⟨_, List.mem_append.2 (.inr (List.mem_singleton.2 rfl)), e.symm⟩
  have : Bef m j p := by
   unfold Bef at *
   have : ¬ (p.1 = m ∧ p.2 = j) := fun ⟨a, b⟩ => e (Prod.ext a b)
   omega
  rcases h.dc hd p hp this with k | ⟨x, k1, k2⟩
  ·exact .inl k
  exact .inr ⟨x, by simp [k1], k2⟩
 l1 := by have := h.l1; simp; omega
 l2 := by have := h.l2; omega
theorem RInv.next (h : RInv s dec m j here op ab) (hv : s.V) (hJ : s.judges = j) (hh : 0 < here) : RInv s dec (m + 1) 0 0 op ab where
 go := fun x hx => ⟨(h.go x hx).1, by have := (h.go x hx).2; unfold Bef at *; omega⟩
 ga := fun a ha => ⟨(h.ga a ha).1, by have := (h.ga a ha).2; unfold Bef at *; omega⟩
 nd := h.nd
 sh := fun m' a b => by
  by_cases e : m' < m
  ·exact h.sh m' a e
  obtain ⟨q, h1, h2⟩ := h.he hh
  have e2 : m' = m := by omega
  subst e2
  exact ⟨q, by omega, h2⟩
 he := fun a => absurd a (by omega)
 h0 := Int.le_refl _
 dc := fun hd p hp hb => h.dc hd p hp (by
  obtain ⟨_, h2⟩ := ofSc_true.1 hp
  unfold Bef at *
  omega)
 l1 := by have := h.l1; have := hv.jd; omega
 l2 := by have := h.l2; have := hv.jd; omega
end
theorem nightJ_ok {s : Scale} {dec : Bool} (hc : chkSc s = 0) {J m : Nat} (hJ : s.judges = J) (hm : (m : Int) < s.matters) : ∀ (k : Nat) (here : Int) (op : List Envl) (ab : List (Int × Int)), k ≤ J → RInv s dec m (J - k) here op ab → (k = 0 → 0 < here) → Holds (nightJ s dec J m k here op ab) fun p => RInv s dec (m + 1) 0 0 p.1 p.2 := by
 have hv := Scale.v hc
 have hjd := hv.jd
 intro k
 induction k with
 | zero =>
  intro here op ab _ h h0
  exact .ret (h.next hv (by simpa using hJ) (h0 rfl))
 | succ k ih =>
  intro here op ab hk h _
  have e : J - k = (J - (k + 1)) + 1 := by omega
  have hj : ofSc s ((m : Int), ((J - (k + 1) : Nat) : Int)) = true := by rw [ofSc_true]; constructor <;> simp <;> omega
  have hh := h.h0
  simp only [nightJ]
  have hr : Holds (rare 5) fun _ => True := fun _ => trivial
  refine hr.bind fun a _ => ?_
  split
  ·rename_i hcond
   refine ih _ _ _ (by omega) (by rw [e]; exact h.absent hj) fun hk0 => ?_
   subst hk0
   omega
  split
  ·exact (marksD_ok hv).bind fun l hl => ih _ _ _ (by omega) (by rw [e]; exact h.opened hc hj hl) fun _ => by omega
  rename_i hd
  have hr : Holds (rare 3) fun _ => True := fun _ => trivial
  refine hr.bind fun r _ => ?_
  split
  ·exact ih _ _ _ (by omega) (by rw [e]; exact h.skip (by simpa using hd)) fun _ => by omega
  exact (marksD_ok hv).bind fun l hl => ih _ _ _ (by omega) (by rw [e]; exact h.opened hc hj hl) fun _ => by omega
theorem nightM_ok {s : Scale} {dec : Bool} (hc : chkSc s = 0) {M J : Nat} (hM : s.matters = M) (hJ : s.judges = J) : ∀ (k : Nat) (op : List Envl) (ab : List (Int × Int)), k ≤ M → RInv s dec (M - k) 0 0 op ab → Holds (nightM s dec M J k op ab) fun p => RInv s dec M 0 0 p.1 p.2 := by
 have hjd := (Scale.v hc).jd
 intro k
 induction k with
 | zero => intro op ab _ h; exact .ret h
 | succ k ih =>
  intro op ab hk h
  simp only [nightM]
  refine (nightJ_ok hc hJ (by omega) J 0 op ab (Nat.le_refl _) (by rw [Nat.sub_self]; exact h) (fun e => by omega)).bind fun p hp => ih _ _ (by omega) ?_
  rw [show M - k = M - (k + 1) + 1 by omega]
  exact hp
def FinesIn (sc : Int) (l : List (Int × Int)) : Prop := ∀ f, f ∈ l → (0 ≤ f.1 ∧ f.1 ≤ sc - 1) ∧ 0 ≤ f.2 ∧ f.2 ≤ 1000
theorem finesC_ok {sc : Int} (hs : 1 ≤ sc) : ∀ (k : Nat) (fi : List (Int × Int)), FinesIn sc fi → Holds (finesC sc k fi) fun l => FinesIn sc l ∧ l.length = fi.length + k := by
 intro k
 induction k with
 | zero => intro fi h; exact .ret ⟨h, rfl⟩
 | succ k ih =>
  intro fi h
  simp only [finesC]
  refine (roll_bd sc).bind fun a ha => (anyOf_mem [3, 100] (by simp)).bind fun y hy => (roll_bd y).bind fun p hp => (ih (fi ++ [(a, p)]) fun f hf => ?_).mono fun l hl => ⟨hl.1, by rw [hl.2]; simp; omega⟩
  rcases List.mem_append.1 hf with hf | hf
  ·exact h f hf
  simp at hf
  subst hf
  simp only
  rcases mem2 hy with rfl | rfl <;> omega
theorem finesD_ok {sc : Int} (hs : 1 ≤ sc) : Holds (finesD sc) fun l => FinesIn sc l ∧ l.length ≤ 3 := by
 unfold finesD
 refine (roll_bd 4).bind fun q hq => (anyOf_mem [0, 0, q] (by simp)).bind fun n hn => (finesC_ok hs n.toNat [] (fun f hf => by cases hf)).mono fun l hl => ⟨hl.1, ?_⟩
 have : 0 ≤ n ∧ n ≤ 3 := by rcases mem3 hn with rfl | rfl | rfl <;> omega
 rw [hl.2]; simp; omega
theorem finesR_zero {s : Scale} : ∀ {l : List (Int × Int)}, finesR s l = 0 ↔ FinesIn s.schools l := by
 intro l
 induction l with
 | nil => simp [finesR, FinesIn]
 | cons f l ih =>
  simp only [finesR]
  by_cases h1 : inR f.1 0 (s.schools - 1) = true
  ·rw [h1]
   simp only [Bool.not_true, Bool.false_eq_true, if_false]
   by_cases h2 : inR f.2 0 1000 = true
   ·rw [h2]
    simp only [Bool.not_true, Bool.false_eq_true, if_false]
    rw [ih]
    constructor
    ·intro h g hg
     rcases List.mem_cons.1 hg with rfl | hg
     ·exact ⟨inR_true.1 h1, inR_true.1 h2⟩
     exact h g hg
    intro h g hg; exact h g (by simp [hg])
   have e : inR f.2 0 1000 = false := by simpa using h2
   rw [e]
   constructor
   ·intro h; exact absurd h (by simp)
   intro h; exact absurd (inR_true.2 (h f (by simp)).2) h2
  have e : inR f.1 0 (s.schools - 1) = false := by simpa using h1
  rw [e]
  constructor
  ·intro h; exact absurd h (by simp)
  intro h; exact absurd (inR_true.2 (h f (by simp)).1) h1
theorem pickE_perm {op : List Envl} {od : List Int} (h : od.Perm ((List.range op.length).map fun (i : Nat) => (i : Int))) : (pickE op od).Perm op := by
 have h1 := h.map fun i : Int => (op[i.toNat]?).getD ⟨0, 0, [], 0⟩
 refine h1.trans ?_
 rw [List.map_map]
 have : (List.range op.length).map ((fun i : Int => (op[i.toNat]?).getD ⟨0, 0, [], 0⟩) ∘ fun (i : Nat) => (i : Int)) = op := by
  apply List.ext_getElem?
  intro i
  by_cases hi : i < op.length
  ·simp [hi]
  simp [hi]
 rw [this]
theorem sameE_of_nodup : ∀ {l : List Envl}, (l.map jdE).Nodup → SameE l := by
 intro l
 induction l with
 | nil => intro _ x hx; cases hx
 | cons a l ih =>
  intro h x hx y hy e
  rw [List.map_cons, List.nodup_cons] at h
  rcases List.mem_cons.1 hx with rfl | hx'
  ·rcases List.mem_cons.1 hy with rfl | hy
   ·rfl
   exact absurd (List.mem_map.2 ⟨y, hy, e.symm⟩) h.1
  rcases List.mem_cons.1 hy with rfl | hy
  ·exact absurd (List.mem_map.2 ⟨x, hx', e⟩) h.1
  exact ih h.2 x hx' y hy e
structure NightM (s : Scale) (dec : Bool) (n : Night) : Prop where
 v : NightV s n
 l1 : n.opened.length ≤ 30
 l2 : n.absent.length ≤ 30
 l3 : n.fines.length ≤ 3
 nd : (n.opened.map jdE).Nodup
 fi : FinesIn s.schools n.fines
 dc : dec = true → ∀ p, ofSc s p = true → p ∈ n.absent ∨ ∃ x, x ∈ n.opened ∧ jdE x = p
theorem nightD_ok {s : Scale} (hc : chkSc s = 0) (dec : Bool) : Holds (nightD s dec) (NightM s dec) := by
 have hv := Scale.v hc
 have q1 := hv.mt
 have q2 := hv.jd
 have q3 := hv.sc
 unfold nightD
 have h0 : RInv s dec (s.matters.toNat - s.matters.toNat) 0 0 [] [] := by
  rw [Nat.sub_self]
  exact ⟨(fun x hx => by cases hx), (fun x hx => by cases hx), by simp, (fun m' a b => by omega), (fun h => absurd h (by omega)), Int.le_refl _, (fun _ p hp hb => by
   obtain ⟨h1, _⟩ := ofSc_true.1 hp
   unfold Bef at hb; omega), by simp, by simp⟩
 refine (nightM_ok hc (by omega) (by omega) s.matters.toNat [] [] (Nat.le_refl _) h0).bind fun p hp => (finesD_ok q3.1).bind fun fi hfi => (orderDm_perm p.1.length).bind fun od hod => .ret ?_
 have hpm := pickE_perm hod
 have hmem : ∀ x, x ∈ pickE p.1 od ↔ x ∈ p.1 := fun x => hpm.mem_iff
 have hnd : ((pickE p.1 od).map jdE).Nodup := (hpm.map jdE).nodup_iff.2 (List.nodup_append.1 hp.nd).1
 have l1 := hp.l1
 have l2 := hp.l2
 have hl := hpm.length_eq
 refine ⟨⟨hc, by simp only; omega, fun x hx => (hp.go x ((hmem x).1 hx)).1, sameE_of_nodup hnd, by simp only; omega, fun j hj => ⟨(hp.ga j hj).1, fun x hx e => ?_⟩, fun m m0 m1 => hp.sh m m0 (by omega), ?_⟩, by simp only; omega, by simp only; omega, hfi.2, hnd, hfi.1, fun hd q hq => ?_⟩
 ·exact (List.nodup_append.1 hp.nd).2.2 (jdE x) (List.mem_map.2 ⟨x, (hmem x).1 hx, rfl⟩) j hj e
 ·show finesE s fi = 0
  unfold finesE
  rw [if_neg (by omega)]
  exact finesR_zero.2 hfi.1
 rcases hp.dc hd q hq (.inl (by obtain ⟨h1, _⟩ := ofSc_true.1 hq; omega)) with k | ⟨x, k1, k2⟩
 ·exact .inl k
 exact .inr ⟨x, (hmem x).2 k1, k2⟩
theorem NightV.ok {s : Scale} {n : Night} (h : NightV s n) : n.Ok := by
 have hv := Scale.v h.c
 have hs := hv.sc
 have h1 := h.o60
 have h2 := h.a60
 refine ⟨by omega, by omega, ?_, fun x hx => ?_⟩
 ·have := h.fi
  unfold finesE at this
  split at this
  ·cases this
  omega
 have := (marked_ok (h.op x hx).m).2.1
 omega
open Go Go.RowKit
section
variable {P : Program} {Y : YEnv} {N : Nat} {ops : Array Oper} {a b : Nat}
variable {F : Fence} {n : Nat} {Q : Exit → Act → World → Prop}
/-- In the order, b stands behind a. -/
def Behind (b a : Nat) (listed : Array Bool) (l : List Nat) : Prop := ∀ l1 l2, l = l1 ++ b :: l2 → listed.getD a false = true ∨ a ∈ l1
end
theorem W_newB {P : Program} {Y : YEnv} {N : Nat} {rd : Option Nat} {lo : Nat × Nat} {id : Nat} {ops : Array Oper} {E : Env} {σ : Sg} {Q : Exit → Env → Sg → Prop} (ks : List Nat) {T : TypeId} (te : TypeId) {d : Nat} {o : Oper} (ho : ops = #[o]) (hop : o.op = .alloc T) (hg : o.guard = none) (hd : o.dst = some d) (hdN : d < N)
 (hz : zeroPV P T = some [.nilptr, .isl [] .exact])
 (h : Q .normal (keep ks (E.put (some d) (.ptr σ.store.length 0))) ((σ.push [.bself σ.store.length T, .bbuf [] σ.rooms.length te]).pushRoom 0)) : W P Y N rd lo (.region id ops false) E σ Q := by
 intro Ψ0 D hb hy hrd Ψ a w le hr
 subst ho
 refine wpIn_region ?_
 show wpOpsIn (FnOf Ψ0 rd) 0 P #[o] (Post N D Ψ0 w Q) [0] a w
 rw [wpOpsIn_cons]
 refine exec_alloc (i := 0) rfl hop hg hz hr fun c hc0 hc2 => ?_
 obtain ⟨le1, hs1⟩ := hr.sg.newVar c T [.nilptr, .isl [] .exact] (Nat.le_of_eq hc0.symm) (hc2 Ψ)
 have hk : SzOK (Ψ.addVar w.heap.size).base (w.alloc (.cells c T)) w.heap.size (.ty T 2) := ⟨hr.sg.base, c, (0, 0), heap_alloc_new w _, hc0⟩
 have hs2 := hs1.addSz hk
 have le2 := le1.trans (Ty.addSz_le (Ψ.addVar w.heap.size) w.heap.size (.ty T 2))
 obtain ⟨le3, hs3⟩ := hs2.newRoom 0 none (fun b e c es h => by cases h)
 have le3' := le2.trans le3
 have hst : ((σ.push [.nilptr, .isl [] .exact]).pushRoom 0).store[σ.store.length]? = some (some [.nilptr, .isl [] .exact]) := by simp [Sg.push, Sg.pushRoom]
 have hβ : ((Ψ.addVar w.heap.size).addSz w.heap.size (.ty T 2)).β[σ.store.length]? = some w.heap.size := by
  show (Ψ.β ++ [w.heap.size])[σ.store.length]? = _
  rw [← hr.sg.blen]
  simp
 have hrm : (σ.push [.nilptr, .isl [] .exact]).rooms.length = σ.rooms.length := rfl
 rw [hrm] at le3 hs3 le3'
 have hbk : blockIs (w.alloc (.cells c T)) w.heap.size c := ⟨T, heap_alloc_new w _⟩
 have hs4 := hs3.reread (cs' := [.bself σ.store.length T, .bbuf [] σ.rooms.length te]) hst (fun b' hb' hK => by
  have e1 : b' = w.heap.size := by
   have : ((Ψ.addVar w.heap.size).addSz w.heap.size (.ty T 2)).β[σ.store.length]? = some b' := hb'
   rw [hβ] at this; injection this with this; exact this.symm
  subst e1
  refine .inl ⟨c, hbk, by rw [hc0]; exact Nat.le_refl _, fun j p v h1 h2 => ?_⟩
  have hv0 := hc2 ((((Ψ.addVar w.heap.size).addSz w.heap.size (.ty T 2))).addHist σ.rooms.length 0 none)
  match j, h1, h2 with
  | 0, h1, h2 =>
   simp only [List.getElem?_cons_zero, Option.some.injEq] at h1
   subst h1
   have hv := hv0 0 .nilptr v rfl h2
   refine .bself _ _ w.heap.size _ hβ (List.mem_cons_self ..) (.inl ?_)
   cases hv; rfl
  | 1, h1, h2 =>
   simp only [List.getElem?_cons_succ, List.getElem?_cons_zero, Option.some.injEq] at h1
   subst h1
   have hv := hv0 1 (.isl [] .exact) v rfl h2
   have hh : OwnNil ((((Ψ.addVar w.heap.size).addSz w.heap.size (.ty T 2))).addHist σ.rooms.length 0 none) (.tok σ.rooms.length ([] : List PV).length 1) := ⟨none, by simp [Ty.addHist]⟩
   cases hv with
   | islnil _ a' _ => exact .bbuf _ _ _ _ (.islnil _ a' hh) fun g o n cap e hc => by injection e with _ _ e; exact absurd e.symm hc
   | isl es _ _ b0 o0 cap vals hes k1 k2 hc ho =>
    have ho' : cap = 0 := ho
    subst ho'
    exact .bbuf _ _ _ _ (.islnil _ _ hh) fun g o n cap e hc => by injection e with _ _ e; exact absurd e.symm hc
  | j + 2, h1, h2 => simp at h1)
 have hσ : ((σ.push [.nilptr, .isl [] .exact]).pushRoom 0).setVar σ.store.length [.bself σ.store.length T, .bbuf [] σ.rooms.length te] = (σ.push [.bself σ.store.length T, .bbuf [] σ.rooms.length te]).pushRoom 0 := by simp [Sg.setVar, Sg.push, Sg.pushRoom]
 rw [hσ] at hs4
 have hrel := (hr.put le3' hs4 (o := o) (by unfold dstOK; rw [hd]; simpa using hdN) (v := .ptr σ.store.length 0) (x := .pointer (some ⟨w.heap.size, 0, none⟩)) (.ptr _ _ _ hβ (List.mem_cons_of_mem _ (List.mem_cons_self ..)))).keep ks
 rw [hd] at hrel ⊢
 exact ⟨_, _, _, le.trans le3', hrel, (Below.refl _ _).alloc (by rw [← le.base]; exact hr.sg.base) _, h⟩
/-- New blocks behind all that is known. -/
theorem SR.more {Ψ : Ty} {σ : Sg} {w w' : World} (h : SR Ψ σ w) (ho : ∀ k, k < w.heap.size → w'.heap[k]? = w.heap[k]?) (hz : w.heap.size ≤ w'.heap.size) : SR Ψ σ w' := by
 have cel : ∀ b o v, w.cell? ⟨b, o, none⟩ = some v → w'.cell? ⟨b, o, none⟩ = some v := fun b o v k => by rw [cell_eq, ho b (cell_lt k), ← cell_eq]; exact k
 have blk : ∀ b c, blockIs w b c → blockIs w' b c := fun b c k => k.of_heap (ho b k.lt)
 refine ⟨Nat.le_trans h.base hz, fun b o v k => cel b o v (h.imm b o v k), h.blen, ?_, h.apart, ?_, h.roomsApart, h.histlt, h.histle, fun i b k => Nat.lt_of_lt_of_le (h.βlt i b k) hz, ?_, h.ylen', ?_, ?_, ?_⟩
 ·intro id cs b k1 k2
  obtain ⟨a1, a2, a3⟩ := h.block id cs b k1 k2
  exact ⟨a1, a2, a3.of_heap (ho b a3.lt)⟩
 ·intro r n b e c' es k1 k2 k3
  obtain ⟨a1, a2, a3, cc, a4, a5⟩ := h.room r n b e c' es k1 k2 k3
  exact ⟨a1, a2, a3, cc, blk _ _ a4, a5⟩
 ·intro y l d s k1 k2
  obtain ⟨a1, a0, a2⟩ := h.yok y l d s k1 k2
  exact ⟨a1, a0, by rw [ho l (heap_lt a2)]; exact a2⟩
 ·intro d k
  obtain ⟨a1, a2⟩ := h.dok d k
  exact ⟨a1, by rw [ho d (heap_lt a2)]; exact a2⟩
 ·intro b c' k
  obtain ⟨a1, a2, a3, a4, a5⟩ := h.rok b c' k
  exact ⟨a1, a2, a3, a4, blk _ _ a5⟩
 intro b s k
 exact (h.szok b s k).of_heap (ho b (h.szok b s k).lt)
/-- A row that nobody holds is marked. -/
theorem SR.reframe {Ψ : Ty} {σ : Sg} {w w' : World} (h : SR Ψ σ w) {g : Nat} {c : Array Value} {t : TypeId} {f f' : Nat × Nat} (h1 : w.heap[g]? = some (.cells c t f)) (h2 : w'.heap[g]? = some (.cells c t f')) (ho : ∀ k, k ≠ g → w'.heap[k]? = w.heap[k]?) (hz : w'.heap.size = w.heap.size) (h0 : Ψ.base ≤ g)
 (hv : ∀ (id : Nat) (cs : List PV), σ.store[id]? = some (some cs) → Ψ.β[id]? ≠ some g) (hr : ∀ (r n e c es : Nat), σ.rooms[r]? = some n → Ψ.hist r n = some (some (g, e, c, es)) → c ≤ e) (hs : ∀ c, (g, c) ∉ Ψ.rs) : SR Ψ σ w' := by
 have cel : ∀ b o v, w.cell? ⟨b, o, none⟩ = some v → w'.cell? ⟨b, o, none⟩ = some v := fun b o v k => by
  by_cases e : b = g
  ·subst e; rw [cell_eq] at k ⊢; rw [h1] at k; rw [h2]; exact k
  rw [cell_eq, ho b e, ← cell_eq]; exact k
 refine ⟨by rw [hz]; exact h.base, fun b o v k => cel b o v (h.imm b o v k), h.blen, ?_, h.apart, ?_, h.roomsApart, h.histlt, h.histle, fun i b k => by rw [hz]; exact h.βlt i b k, ?_, h.ylen', ?_, ?_, ?_⟩
 ·intro id cs b k1 k2
  obtain ⟨a1, a2, a3⟩ := h.block id cs b k1 k2
  exact ⟨a1, a2, a3.of_heap (ho b fun e => hv id cs k1 (e ▸ k2))⟩
 ·intro r n b e c' es k1 k2 k3
  obtain ⟨a1, a2, a3, cc, a4, a5⟩ := h.room r n b e c' es k1 k2 k3
  have hne : b ≠ g := by rintro rfl; have := hr r n e c' es k1 k2; omega
  exact ⟨a1, a2, a3, cc, a4.of_heap (ho b hne), a5⟩
 ·intro y l d s k1 k2
  obtain ⟨a1, a0, a2⟩ := h.yok y l d s k1 k2
  have hne : l ≠ g := by rintro rfl; rw [h1] at a2; cases a2
  exact ⟨a1, a0, by rw [ho l hne]; exact a2⟩
 ·intro d k
  obtain ⟨a1, a2⟩ := h.dok d k
  have hne : d ≠ g := by rintro rfl; rw [h1] at a2; cases a2
  exact ⟨a1, by rw [ho d hne]; exact a2⟩
 ·intro b c' k
  obtain ⟨a1, a2, a3, a4, a5⟩ := h.rok b c' k
  exact ⟨a1, a2, a3, a4, a5.of_heap (ho b fun e => hs c' (e ▸ k))⟩
 intro b s k
 by_cases e : b = g
 ·subst e; exact (h.szok b s k).rewrite h0 h1 h2 rfl
 exact (h.szok b s k).of_heap (ho b e)
theorem freeze_at {w : World} {g n : Nat} {c : Array Value} {t : TypeId} {f : Nat × Nat} (h : w.heap[g]? = some (.cells c t f)) (hn : n ≠ 0) : ∃ f', (w.freeze ⟨g, 0, none⟩ n).heap[g]? = some (.cells c t f') := by
 unfold World.freeze
 rw [if_neg hn]
 obtain ⟨lo, hi⟩ := f
 simp only [Array.getElem?_modify, if_true, h, Option.map_some]
 exact ⟨_, rfl⟩
theorem freeze_other {w : World} {g n k : Nat} (hk : k ≠ g) : (w.freeze ⟨g, 0, none⟩ n).heap[k]? = w.heap[k]? := by
 unfold World.freeze
 split
 ·rfl
 simp only [Array.getElem?_modify]
 rw [if_neg (fun e => hk e.symm)]
theorem freeze_size {w : World} {g n : Nat} : (w.freeze ⟨g, 0, none⟩ n).heap.size = w.heap.size := by
 unfold World.freeze
 split
 ·rfl
 simp
/-- A builder's row becomes a string's. -/
theorem SR.stringed {Ψ : Ty} {σ : Sg} {w : World} (h : SR Ψ σ w) {r n g cap : Nat} {t : TypeId} (hr : σ.rooms[r]? = some n) (hh : Ψ.hist r n = some (some (g, n, cap, 1))) (ht : (g, .ty t cap) ∈ Ψ.sz) (hi : ∀ o, o < n → Ψ.imm g o ≠ none) (hn : 0 < n) :
 ∃ Ψ', Ψ.le Ψ' ∧ SR Ψ' (σ.setRoom r (n + 1)) (w.drew.freeze ⟨g, 0, none⟩ n) ∧ Below Ψ.base w (w.drew.freeze ⟨g, 0, none⟩ n) := by
 obtain ⟨hb0, c, f, hc, hcs⟩ := h.szok g _ ht
 obtain ⟨Ψ2, le2, hs2, i1, i2, i0, i3, i4, i5⟩ := h.drew.roomStep (r' := r) (n' := n + 1) (σ2 := σ.setRoom r (n + 1)) (.inr ⟨n, hr, by omega, rfl⟩) none (fun b e c es k => by cases k)
 obtain ⟨f', hf'⟩ := freeze_at (w := w.drew) (n := n) hc (by omega)
 have hi2 : ∀ o, o < n → Ψ2.imm g o ≠ none := by rw [i1]; exact hi
 have hfin : SR Ψ2 (σ.setRoom r (n + 1)) (w.drew.freeze ⟨g, 0, none⟩ n) := by
  refine hs2.reframe hc hf' (fun k hk => freeze_other hk) freeze_size (by rw [le2.base]; exact hb0) (fun id cs k1 k2 => ?_) (fun r1 n1 e c1 es k1 k2 => ?_) (fun c1 k => ?_)
  ·exact hi2 0 hn ((hs2.block id cs g k1 k2).2.1 0)
  ·by_cases hr1 : r1 = r
   ·subst hr1
    have : n1 = n + 1 := by
     simp only [Sg.setRoom] at k1
     rw [List.getElem?_set_self ((List.getElem?_eq_some_iff.1 hr).1)] at k1
     injection k1 with k1
     exact k1.symm
    subst this
    rw [i4] at k2
    injection k2 with k2
    cases k2
   obtain ⟨q1, q2⟩ := i5 r1 n1 k1 hr1
   rw [q2] at k2
   rcases Nat.lt_or_ge e c1 with hlt | hge
   ·exfalso
    obtain ⟨_, a2, _, cc, ⟨t3, a4⟩, a5⟩ := h.room r1 n1 g e c1 es q1 k2 hlt
    rw [show w.heap[g]? = w.drew.heap[g]? from rfl] at a4
    have hc' : w.drew.heap[g]? = some (.cells c t f) := hc
    rw [hc'] at a4
    injection a4 with a4
    injection a4 with a4 _ _
    subst a4
    have ha := h.roomsApart r n r1 n1 g n cap 1 e c1 es hr q1 (fun e => hr1 e.symm) hh k2 e
    have hen : e < n := by
     rcases Nat.lt_or_ge e n with h1 | h1
     ·exact h1
     exact absurd hlt (ha h1 (by omega) (Nat.le_refl _))
    exact hi e hen (a2 e (Nat.le_refl _) hlt)
   exact hge
  exact hi2 0 hn ((hs2.rok g c1 k).2.1 0)
 have hpl : (w.drew.freeze ⟨g, 0, none⟩ n).os = w.os ∧ (w.drew.freeze ⟨g, 0, none⟩ n).tape = w.tape ∧ (w.drew.freeze ⟨g, 0, none⟩ n).output = w.output := by
  unfold World.freeze
  split <;> exact ⟨rfl, rfl, rfl⟩
 refine ⟨Ψ2, le2, hfin, hpl.1, hpl.2.1, hpl.2.2, by rw [freeze_size]; exact Nat.le_refl _, fun k hk => ?_⟩
 rw [freeze_other (by omega)]
 rfl
theorem CleanSg_bld {σ : Sg} {id T r te n : Nat} {l m : List PV} (hcl : CleanSg σ) (hd : σ.store[id]? = some (some [.bself id T, .bbuf l r te])) (hr : r < σ.rooms.length) (hm : ∀ p, p ∈ m → Clean σ.store.length σ.rooms.length σ.ys.length p) :
 CleanSg ((σ.setRoom r n).setVar id [.bself id T, .bbuf (l ++ m) r te]) := by
 have hid := (List.getElem?_eq_some_iff.1 hd).1
 intro i cs hi hcs p hp
 have e1 : ((σ.setRoom r n).setVar id [.bself id T, .bbuf (l ++ m) r te]).store.length = σ.store.length := by simp [Sg.setVar, Sg.setRoom]
 have e2 : ((σ.setRoom r n).setVar id [.bself id T, .bbuf (l ++ m) r te]).rooms.length = σ.rooms.length := by simp [Sg.setVar, Sg.setRoom]
 have e3 : ((σ.setRoom r n).setVar id [.bself id T, .bbuf (l ++ m) r te]).ys.length = σ.ys.length := rfl
 rw [e1] at hi
 rw [e1, e2, e3]
 have h0 : (σ.store.set id (some [.bself id T, .bbuf (l ++ m) r te]))[i]? = some (some cs) := hcs
 rw [List.getElem?_set] at h0
 by_cases e : id = i
 ·subst e
  rw [if_pos rfl, if_pos hid] at h0
  injection h0 with h0
  injection h0 with h0
  subst h0
  have hl := hcl id _ hid hd (.bbuf l r te) (by simp)
  simp only [List.mem_cons, List.not_mem_nil, or_false] at hp
  rcases hp with rfl | rfl
  ·exact .bself _ _ hid
  cases hl with
  | bbuf _ _ _ hl =>
  cases hl with
  | isl _ _ h1 h2 =>
  refine .bbuf _ _ _ (.isl _ _ (fun e he => ?_) fun r' n' es' e => by injection e with e _ _; subst e; exact hr)
  rcases List.mem_append.1 he with he | he
  ·exact h1 e he
  exact hm e he
 rw [if_neg e] at h0
 exact hcl i cs hi h0 p hp
theorem strPV_clean {s : ByteArray} {a b c : Nat} : ∀ p, p ∈ strPV s → Clean a b c p := fun p hp => by
 obtain ⟨x, _, rfl⟩ := List.mem_map.1 hp
 exact .int _ _
noncomputable section
/-- An element, found with few steps. -/
def nthF {α : Type} (l : List α) : Nat → Option α := List.rec (motive := fun _ => Nat → Option α) (fun _ => none) (fun a _ ih n => Nat.rec (motive := fun _ => Option α) (some a) (fun m _ => ih m) n) l
def lenF {α : Type} (l : List α) : Nat := List.rec (motive := fun _ => Nat) 0 (fun _ _ ih => Nat.succ ih) l
def allS (l : List PV) : Bool := List.rec (motive := fun _ => Bool) true (fun a _ ih => cond a.scalar ih false) l
def snocN {α : Type} (x : α) (l : List α) : List α := List.rec (motive := fun _ => List α) [x] (fun a _ ih => a :: ih) l
/-- A number, reckoned out before it goes on. -/
def normN {α : Type} (n : Nat) (f : Nat → α) : α :=
 match n + 1 with
 | 0 => f 0
 | k + 1 => f k
def drop16 {α : Type} (l : List α) : List α :=
 match l with
 | _ :: _ :: _ :: _ :: _ :: _ :: _ :: _ :: _ :: _ :: _ :: _ :: _ :: _ :: _ :: _ :: r => r
 | _ => []
def dropC {α : Type} (l : List α) (q : Nat) : List α := Nat.rec (motive := fun _ => List α) l (fun _ ih => drop16 ih) q
/-- An element of a long list. -/
def nthC {α : Type} (l : List α) (n : Nat) : Option α := cond (Nat.ble n 31) (nthF l n) (nthF (dropC l (n / 16)) (n % 16))
/-- The temporaries, eight times eight times eight. -/
structure T8 (α : Type) where
 a0 : α
 a1 : α
 a2 : α
 a3 : α
 a4 : α
 a5 : α
 a6 : α
 a7 : α
abbrev TE := T8 (T8 (T8 PV))
structure SelF (α : Type) where
 f : T8 α → α
structure UpdF (α : Type) where
 f : (α → α) → T8 α → T8 α
def selF {α : Type} (i : Nat) : SelF α :=
 match i with
 | 0 => ⟨fun t => t.a0⟩
 | 1 => ⟨fun t => t.a1⟩
 | 2 => ⟨fun t => t.a2⟩
 | 3 => ⟨fun t => t.a3⟩
 | 4 => ⟨fun t => t.a4⟩
 | 5 => ⟨fun t => t.a5⟩
 | 6 => ⟨fun t => t.a6⟩
 | _ => ⟨fun t => t.a7⟩
def updF {α : Type} (i : Nat) : UpdF α :=
 match i with
 | 0 => ⟨fun g => T8.rec (motive := fun _ => T8 α) fun a0 a1 a2 a3 a4 a5 a6 a7 => ⟨g a0, a1, a2, a3, a4, a5, a6, a7⟩⟩
 | 1 => ⟨fun g => T8.rec (motive := fun _ => T8 α) fun a0 a1 a2 a3 a4 a5 a6 a7 => ⟨a0, g a1, a2, a3, a4, a5, a6, a7⟩⟩
 | 2 => ⟨fun g => T8.rec (motive := fun _ => T8 α) fun a0 a1 a2 a3 a4 a5 a6 a7 => ⟨a0, a1, g a2, a3, a4, a5, a6, a7⟩⟩
 | 3 => ⟨fun g => T8.rec (motive := fun _ => T8 α) fun a0 a1 a2 a3 a4 a5 a6 a7 => ⟨a0, a1, a2, g a3, a4, a5, a6, a7⟩⟩
 | 4 => ⟨fun g => T8.rec (motive := fun _ => T8 α) fun a0 a1 a2 a3 a4 a5 a6 a7 => ⟨a0, a1, a2, a3, g a4, a5, a6, a7⟩⟩
 | 5 => ⟨fun g => T8.rec (motive := fun _ => T8 α) fun a0 a1 a2 a3 a4 a5 a6 a7 => ⟨a0, a1, a2, a3, a4, g a5, a6, a7⟩⟩
 | 6 => ⟨fun g => T8.rec (motive := fun _ => T8 α) fun a0 a1 a2 a3 a4 a5 a6 a7 => ⟨a0, a1, a2, a3, a4, a5, g a6, a7⟩⟩
 | _ => ⟨fun g => T8.rec (motive := fun _ => T8 α) fun a0 a1 a2 a3 a4 a5 a6 a7 => ⟨a0, a1, a2, a3, a4, a5, a6, g a7⟩⟩
structure GF where
 get : TE → PV
structure PF where
 put : PV → TE → TE
def getF (t : Nat) : GF :=
 match Nat.ble t 511 with
 | true => ⟨fun T => (selF (t % 8)).f ((selF (t / 8 % 8)).f ((selF (t / 64)).f T))⟩
 | false => ⟨fun _ => .undef⟩
def putF (t : Nat) : PF := ⟨fun v T => (updF (t / 64)).f (fun A => (updF (t / 8 % 8)).f (fun B => (updF (t % 8)).f (fun _ => v) B) A) T⟩
def all8 {α : Type} (a : α) : T8 α := ⟨a, a, a, a, a, a, a, a⟩
def TE.leaf : TE := all8 (all8 (all8 .undef))
def TE.get (T : TE) (t : Nat) : PV := (getF t).get T
/-- The temporaries that an operation reads. -/
def tmO : Operand → List Nat → List Nat
 | .tmp t, l => t :: l
 | _, l => l
def tmM (x : Option Operand) (l : List Nat) : List Nat :=
 match x with
 | some x => tmO x l
 | none => l
def tmL : List Operand → List Nat
 | [] => []
 | x :: r => tmO x (tmL r)
def tmP : List (Nat × Operand) → List Nat
 | [] => []
 | x :: r => tmO x.2 (tmP r)
def opT : Op → List Nat
 | .move x | .assign x | .box _ x | .load _ x | .nilCheck x | .unOp _ _ x | .convert _ _ x | .fieldAddr _ x _ | .field _ x _ | .range _ x | .entry x | .extract x _ | .makeInterface _ x | .typeAssert x _ _ _ => tmO x []
 | .pick c a b => tmO c (tmO a (tmO b []))
 | .build _ ps => tmP ps.toList
 | .buildSlice _ _ ps => tmP ps.toList
 | .store _ a v | .binOp _ _ a v _ | .makeSlice _ a v | .indexAddr _ a v | .index _ a v | .lookup _ a v _ => tmO a (tmO v [])
 | .makeFunc _ a b => tmL a.toList ++ tmL b.toList
 | .slice _ x l h m => tmO x (tmM l (tmM h (tmM m [])))
 | .mapUpdate _ m k v | .insert _ m k v => tmO m (tmO k (tmO v []))
 | .call ⟨.value f, args, _⟩ => tmO f (tmL args.toList)
 | .call ⟨.builtin _, args, _⟩ => tmL args.toList
 | _ => []
def TE.mini (T : TE) (op : Op) : Env := (opT op).map fun t => (t, T.get t)
def wantT (ops : Array Oper) (T : TE) (o : Oper) : Option Bool :=
 match o.guard with
 | none => some true
 | some (j, want) => match (ops[j]?).bind (·.dst) with
  | none => none
  | some t => match T.get t with
   | .bool b => some (b == want)
   | .tuple [] => some false
   | _ => none
def dst12 (o : Oper) : Bool :=
 match o.dst with
 | none => true
 | some d => Nat.ble d 511
abbrev YF := Nat → List PV → Sg → Option (PV × Sg)
abbrev Orc := FuncId → List PV → Sg → Option (PV × Sg)
abbrev CallT := FuncId → List PV → Sg → Option (PV × Sg)
def dn : PV → PV
 | .nilsl => .isl [] .exact
 | v => v
def denil (E : Env) : Env := E.map fun kv => (kv.1, dn kv.2)
/-- An operation, run: a nil slice that is laid into a temporary is known to be nil. -/
def effI (P : Program) (σ : Sg) (E : Env) (op : Op) : Option (PV × Sg) :=
 match op with
 | .assign (.const v) => if isNilV v then some (.nilsl, σ) else some (constPV v, σ)
 | op => match effOp P σ E op with
  | some r => some r
  | none => effOp P σ (denil E) op
/-- A literal slice that will be written in place. -/
def litM (P : Program) (σ : Sg) (t : TypeId) (len : Nat) (parts : List (Nat × PV)) : Option (PV × Sg) :=
 match buildSlicePV P t len parts with
 | some (.isl l _) => some (.msl σ.store.length 0 len, σ.push (rowC l))
 | _ => none
/-- A builder. -/
def newB (P : Program) (σ : Sg) (t te : TypeId) : Option (PV × Sg) :=
 match zeroPV P t with
 | some [.nilptr, .isl [] .exact] => some (.ptr σ.store.length 0, (σ.push [.bself σ.store.length t, .bbuf [] σ.rooms.length te]).pushRoom 0)
 | _ => none
/-- Operations done another way, where a hint says so. -/
def modeI (P : Program) (m : Nat) (σ : Sg) (E : Env) (op : Op) : Option (PV × Sg) :=
 match m with
 | 0 => none
 | 1 => match op with
  | .assign (.const v) => if isNilV v then some (.gnil, σ) else none
  | .assign (.tmp k) => some (ev E (.tmp k), σ)
  | .alloc t => match zeroPV P t with
   | some [.isl [] .exact] => some (.ptr σ.store.length 0, σ.push [.gnil])
   | _ => none
  | _ => none
 | 2 => match op with
  | .buildSlice t len parts => litM P σ t len (parts.toList.map fun p => (p.1, ev E p.2))
  | _ => none
 | te + 3 => match op with
  | .alloc t => newB P σ t te
  | _ => none
/-- One operation on known values. -/
def opI (P : Program) (call : CallT) (Y : YF) (σ : Sg) (E : Env) (op : Op) : Option (PV × Sg) :=
 match whom E op with
 | .nobody => effI P σ E op
 | .fn f args => call f args σ
 | .yield y args => Y y args σ
/-- What was done, the last first. -/
structure TSt where
 i : Nat
 T : TE
 σ : Sg
 b : Bool
 v : PV
/-- Two values, the same. -/
def samePV : Nat → List PV → List PV → Bool
 | 0, _, _ => false
 | _ + 1, [], [] => true
 | n + 1, a :: r, b :: q => match a, b with
  | .undef, .undef => samePV n r q
  | .bool x, .bool y => (x == y) && samePV n r q
  | .int k x, .int j y => decide (k = j) && decide (x = y) && samePV n r q
  | .str x, .str y => decide (x = y) && samePV n r q
  | .nilptr, .nilptr => samePV n r q
  | .ptr i o, .ptr j u => Nat.beq i j && Nat.beq o u && samePV n r q
  | .eptr s l i o, .eptr t m j u => Nat.beq s t && Nat.beq i j && Nat.beq o u && samePV n (l ++ r) (m ++ q) && Nat.beq l.length m.length
  | .nilsl, .nilsl => samePV n r q
  | .isl l o, .isl m u => decide (o = u) && Nat.beq l.length m.length && samePV n (l ++ r) (m ++ q)
  | .msl i o l, .msl j u m => Nat.beq i j && Nat.beq o u && Nat.beq l m && samePV n r q
  | .agg l, .agg m => Nat.beq l.length m.length && samePV n (l ++ r) (m ++ q)
  | .tuple l, .tuple m => Nat.beq l.length m.length && samePV n (l ++ r) (m ++ q)
  | .niliface, .niliface => samePV n r q
  | .map i, .map j => Nat.beq i j && samePV n r q
  | .nilmap, .nilmap => samePV n r q
  | .gsl i l e, .gsl j m f => Nat.beq i j && Nat.beq l m && Nat.beq e f && samePV n r q
  | .gnil, .gnil => samePV n r q
  | .nilfunc, .nilfunc => samePV n r q
  | .func (.func f) a b, .func (.func g) c d => Nat.beq f g && samePV n (a ++ (b ++ r)) (c ++ (d ++ q)) && Nat.beq a.length c.length && Nat.beq b.length d.length
  | _, _ => false
 | _, _, _ => false
def stT (tr : List TSt) (σf : Sg) (p : Nat) : Sg :=
 match tr[p]? with
 | some s => s.σ
 | none => σf
def demT (P : Program) (ops : Array Oper) (tr : List TSt) (σf : Sg) : List (Nat × Nat) → Bool
 | [] => true
 | (q, p) :: r => (match tr[q]? with
  | none => true
  | some s => match s.b with
   | false => true
   | true => match ops[s.i]? with
    | none => true
    | some o => !writes o && !allocs o && (match effOp P (stT tr σf p) (s.T.mini o.op) o.op with
     | some (v, _) => samePV 10000 [v] [s.v]
     | none => false)) && demT P ops tr σf r
/-- A plan for each region that draws: function, region; order, what is read where, what goes before. -/
abbrev Plans := FuncId → Nat → List Nat × List (Nat × Nat) × List (List Nat)
def ownB (nr : Nat) : Own → Bool
 | .tok r _ _ => Nat.ble (r + 1) nr
 | _ => true
def cleanL (nb nr ny : Nat) : Nat → List PV → Bool
 | 0, _ => false
 | _ + 1, [] => true
 | n + 1, v :: q => match v with
  | .ptr id _ => Nat.ble (id + 1) nb && cleanL nb nr ny n q
  | .eptr _ es _ _ => cleanL nb nr ny n (es ++ q)
  | .isl es own => ownB nr own && cleanL nb nr ny n (es ++ q)
  | .msl id _ _ => Nat.ble (id + 1) nb && cleanL nb nr ny n q
  | .agg cs => cleanL nb nr ny n (cs ++ q)
  | .tuple cs => cleanL nb nr ny n (cs ++ q)
  | .func _ a b => cleanL nb nr ny n (a ++ b ++ q)
  | .yield y => Nat.ble (y + 1) ny && cleanL nb nr ny n q
  | .iface _ v => cleanL nb nr ny n (v :: q)
  | .map id => Nat.ble (id + 1) nb && cleanL nb nr ny n q
  | .iter id => Nat.ble (id + 1) nb && cleanL nb nr ny n q
  | .itst id _ _ => Nat.ble (id + 1) nb && cleanL nb nr ny n q
  | .gsl id _ _ => Nat.ble (id + 1) nb && cleanL nb nr ny n q
  | .bself id _ => Nat.ble (id + 1) nb && cleanL nb nr ny n q
  | .bbuf l r _ => Nat.ble (r + 1) nr && cleanL nb nr ny n (l ++ q)
  | _ => cleanL nb nr ny n q
def cleanS (nb nr ny : Nat) : List (Option (List PV)) → Bool
 | [] => true
 | none :: r => cleanS nb nr ny r
 | some cs :: r => cleanL nb nr ny 100000 cs && cleanS nb nr ny r
/-- What a run leans on: plans for the regions that draw; calls that are known. -/
structure Aid where
 plans : Plans
 orc : Orc
 mode : FuncId → Nat → Nat
structure VF where
 get : TE → PV
structure OF where
 run : CallT → YF → Sg → TE → Option (PV × Sg)
structure RF where
 run : CallT → YF → TE → Sg → Option (TE × Sg)
abbrev Out := Option (Exit × TE × Sg)
structure CF where
 run : (YF → CallT) → Nat → YF → TE → Sg → Out
def putOF : Option Nat → PF
 | some d => putF d
 | none => ⟨fun _ T => T⟩
def opdF (x : Operand) : VF :=
 match x with
 | .tmp t => ⟨fun T => (getF t).get T⟩
 | .const v => ⟨fun _ => constPV v⟩
 | .global _ => ⟨fun _ => .undef⟩
 | .func f => ⟨fun _ => .func (.func f) [] []⟩
def opdsF : List Operand → List VF
 | [] => []
 | x :: r => opdF x :: opdsF r
def getsF : List VF → TE → List PV
 | [], _ => []
 | x :: r, T => x.get T :: getsF r T
structure ArgF where
 lay : List PV → TE → TE
def argsF : List Nat → ArgF
 | [] => ⟨fun _ T => T⟩
 | p :: ps => ⟨fun vs T => match vs with
  | v :: vs => (argsF ps).lay vs ((putF p).put v T)
  | [] => T⟩
structure ResF where
 get : Sg → TE → Option (List PV)
structure IF where
 run : Int → Int → Sg → Option (PV × Sg)
/-- A number that fits, as it is. -/
def wrapF (n : Int) : Int :=
 match n with
 | .ofNat m => cond (Nat.ble m 9223372036854775807) (.ofNat m) (IntKind.i64.wrap n)
 | .negSucc m => cond (Nat.ble m 9223372036854775807) (.negSucc m) (IntKind.i64.wrap n)
def ltF (a b : Int) : Bool :=
 match a, b with
 | .ofNat m, .ofNat n => Nat.ble (m + 1) n
 | .negSucc _, .ofNat _ => true
 | .ofNat _, .negSucc _ => false
 | .negSucc m, .negSucc n => Nat.ble (n + 1) m
def eqF (a b : Int) : Bool :=
 match a, b with
 | .ofNat m, .ofNat n => Nat.beq m n
 | .negSucc m, .negSucc n => Nat.beq m n
 | _, _ => false
def arF (op : BinOp) : Option IF :=
 match op with
 | .add => some ⟨fun a b σ => some (.int .i64 (wrapF (a + b)), σ)⟩
 | .sub => some ⟨fun a b σ => some (.int .i64 (wrapF (a - b)), σ)⟩
 | .mul => some ⟨fun a b σ => some (.int .i64 (wrapF (a * b)), σ)⟩
 | .eql => some ⟨fun a b σ => some (.bool (eqF a b), σ)⟩
 | .neq => some ⟨fun a b σ => some (.bool (!eqF a b), σ)⟩
 | .lss => some ⟨fun a b σ => some (.bool (ltF a b), σ)⟩
 | .leq => some ⟨fun a b σ => some (.bool (!ltF b a), σ)⟩
 | .gtr => some ⟨fun a b σ => some (.bool (ltF b a), σ)⟩
 | .geq => some ⟨fun a b σ => some (.bool (!ltF a b), σ)⟩
 | _ => none
def int64 (v : PV) : Option Int :=
 match v with
 | .int .i64 n => some n
 | _ => none
def strOf (v : PV) : Option (List UInt8) :=
 match v with
 | .str s => some s.data.toList
 | _ => none
def bytesEq : List UInt8 → List UInt8 → Bool
 | [], [] => true
 | a :: r, b :: q => Nat.beq a.toNat b.toNat && bytesEq r q
 | _, _ => false
def strOp (op : BinOp) (a b : List UInt8) : Option PV :=
 match op with
 | .add => match Nat.ble (lenF a + lenF b) 4611686018427387904 with
  | true => some (.str ⟨(a ++ b).toArray⟩)
  | false => none
 | .eql => some (.bool (bytesEq a b))
 | .neq => some (.bool (!bytesEq a b))
 | _ => none
def binF (f : IF) (op : BinOp) (x y : VF) : OF := ⟨fun _ _ σ T => match int64 (x.get T) with
 | some a => match int64 (y.get T) with
  | some b => f.run a b σ
  | none => none
 | none => match strOf (x.get T) with
  | some a => match strOf (y.get T) with
   | some b => match strOp op a b with
    | some v => some (v, σ)
    | none => none
   | none => none
  | none => none⟩
def keepF (σ : Sg) (v : Option PV) : Option (PV × Sg) :=
 match v with
 | some v => some (v, σ)
 | none => none
def callF (f : VF) (args : List VF) : OF := ⟨fun call Y σ T => match f.get T with
 | .func (.func g) first captured => call g (first ++ getsF args T ++ captured) σ
 | .yield y => Y y (getsF args T) σ
 | _ => none⟩
structure SF where
 run : Sg → PV → Option PV
def ptrF (v : PV) : Option (Nat × Nat) :=
 match v with
 | .ptr id off => some (id, off)
 | _ => none
def eptrF (v : PV) : Option (List PV × Nat × Nat) :=
 match v with
 | .eptr _ l i off => some (l, i, off)
 | _ => none
def partF (agg : Bool) (n : Nat) : List PV → Nat → Option PV :=
 match agg with
 | true => fun cs off => match Nat.beq off 0 && Nat.beq n (lenF cs) with
  | true => some (.agg cs)
  | false => match Nat.ble (off + n) (lenF cs) with
   | true => some (.agg ((cs.drop off).take n))
   | false => none
 | false => nthC
def loadF (P : Program) (t : TypeId) : SF :=
 match P.underlying t with
 | none => ⟨fun _ _ => none⟩
 | some d => ⟨fun σ p => match ptrF p with
  | some (id, off) => match nthF σ.store id with
   | some (some cs) => partF (isAggD d) (P.cellsOf t) cs off
   | _ => none
  | none => match eptrF p with
   | some (l, i, off) => match nthF l i with
    | some e => partF (isAggD d) (P.cellsOf t) e.cells off
    | none => none
   | none => none⟩
def setN {α : Type} (v : α) (l : List α) : Nat → List α := List.rec (motive := fun _ => Nat → List α) (fun _ => []) (fun a tl ih n => Nat.rec (motive := fun _ => List α) (v :: tl) (fun m _ => a :: ih m) n) l
def layN (cs : List PV) (off : Nat) (vs : List PV) : List PV :=
 match vs with
 | [v] => setN v cs off
 | _ => match Nat.beq off 0 && Nat.beq (lenF vs) (lenF cs) with
  | true => vs
  | false => cs.take off ++ (vs ++ cs.drop (off + vs.length))
def storeF (P : Program) (t : TypeId) (σ : Sg) (a p : PV) : Option (PV × Sg) :=
 match ptrF a with
 | some (id, off) => match nthF σ.store id with
  | some (some cs) => match (P.underlying t).isSome && defd p && allS p.cells && Nat.beq (lenF p.cells) (P.cellsOf t) && Nat.ble (off + lenF p.cells) (lenF cs) with
   | true => some (.undef, { σ with store := setN (some (layN cs off p.cells)) σ.store id })
   | false => none
  | _ => none
 | none => none
def islF (v : PV) : Option (List PV) :=
 match v with
 | .isl l _ => some l
 | _ => none
def aggF (v : PV) : Option (List PV) :=
 match v with
 | .agg l => some l
 | _ => none
def natF (n : Int) : Option Nat :=
 match n with
 | .ofNat m => some m
 | _ => none
def boxF (x : VF) : OF := ⟨fun _ _ σ T => match defd (x.get T) with
 | true => normN (lenF σ.store) fun id => some (.ptr id 0, { σ with store := snocN (some (x.get T).cells) σ.store })
 | false => none⟩
def allocF (P : Program) (t : TypeId) : Option OF :=
 match zeroPV P t with
 | some zs => some ⟨fun _ _ σ _ => normN (lenF σ.store) fun id => some (.ptr id 0, { σ with store := snocN (some zs) σ.store })⟩
 | none => none
structure AF where
 run : PV → Option PV
def fieldAddrF (P : Program) (s : TypeId) (f : Nat) : Option AF :=
 match fieldOf P s f with
 | some (fl, _) => match Nat.beq (P.cellsOf fl.type) 0 with
  | true => none
  | false => some ⟨fun x => match x with
   | .ptr id off => some (.ptr id (off + fl.offset))
   | .eptr es l i off => some (.eptr es l i (off + fl.offset))
   | _ => none⟩
 | none => none
def fieldF (P : Program) (s : TypeId) (f : Nat) : Option AF :=
 match fieldOf P s f with
 | some (fl, d) => some ⟨fun x => match aggF x with
  | some cs => partF (isAggD d) (P.cellsOf fl.type) cs fl.offset
  | none => none⟩
 | none => none
def lenOp (P : Program) (t : TypeId) : Option AF :=
 match P.underlying t with
 | some (.slice _) => some ⟨fun x => match islF x with
  | some l => some (.int .i64 (.ofNat (lenF l)))
  | none => none⟩
 | _ => none
def aF (f : Option AF) (x : VF) : Option OF :=
 match f with
 | some f => some ⟨fun _ _ σ T => keepF σ (f.run (x.get T))⟩
 | none => none
structure XF where
 run : PV → Int → Option PV
def indexAddrF (P : Program) (t : TypeId) : Option XF :=
 match P.underlying t with
 | some (.slice e) => match P.underlying e with
  | some _ => some ⟨fun x n => match natF n with
   | some m => match islF x with
    | some l => match nthF l m with
     | some el => match Nat.beq (lenF el.cells) (P.cellsOf e) with
      | true => some (.eptr (P.cellsOf e) l m 0)
      | false => none
     | none => none
    | none => none
   | none => none⟩
  | none => none
 | _ => none
def indexF (P : Program) (t : TypeId) : Option XF :=
 match P.underlying t with
 | some (.array len e) => match P.underlying e with
  | some d => some ⟨fun x n => match natF n with
   | some m => match Nat.ble (m + 1) len with
    | true => match aggF x with
     | some cs => partF (isAggD d) (P.cellsOf e) cs (m * P.cellsOf e)
     | none => none
    | false => none
   | none => none⟩
  | none => none
 | _ => none
def xF (f : XF) (x i : VF) : OF := ⟨fun _ _ σ T => match int64 (i.get T) with
 | some n => keepF σ (f.run (x.get T) n)
 | none => none⟩
/-- An operation, made ready (where it is one of the common ones). -/
def fastF (P : Program) (op : Op) : Option OF :=
 match op with
 | .move x => some ⟨fun _ _ σ T => some ((opdF x).get T, σ)⟩
 | .assign (.tmp t) => some ⟨fun _ _ σ T => some ((getF t).get T, σ)⟩
 | .binOp op _ x y _ => match isNilC y || isNilI y with
  | true => none
  | false => match arF op with
   | some f => some (binF f op (opdF x) (opdF y))
   | none => none
 | .load t a => some ⟨fun _ _ σ T => keepF σ ((loadF P t).run σ ((opdF a).get T))⟩
 | .store t a x => some ⟨fun _ _ σ T => storeF P t σ ((opdF a).get T) ((opdF x).get T)⟩
 | .pick c a b => some ⟨fun _ _ σ T => keepF σ (pickPV ((opdF c).get T) ((opdF a).get T) ((opdF b).get T))⟩
 | .fieldAddr s x f => aF (fieldAddrF P s f) (opdF x)
 | .field s x f => aF (fieldF P s f) (opdF x)
 | .box _ x => some (boxF (opdF x))
 | .alloc t => allocF P t
 | .indexAddr t x i => match indexAddrF P t with
  | some f => some (xF f (opdF x) (opdF i))
  | none => none
 | .index t x i => match indexF P t with
  | some f => some (xF f (opdF x) (opdF i))
  | none => none
 | .call ⟨.builtin .len, args, ts⟩ => match args.toList, ts.toList with
  | [x], [t] => aF (lenOp P t) (opdF x)
  | _, _ => none
 | .unOp o _ x => some ⟨fun _ _ σ T => keepF σ (unPV o ((opdF x).get T))⟩
 | .extract x i => some ⟨fun _ _ σ T => keepF σ (extractPV ((opdF x).get T) i)⟩
 | .call ⟨.value f, args, _⟩ => some (callF (opdF f) (opdsF args.toList))
 | _ => none
def constF (op : Op) : Option PV :=
 match op with
 | .assign (.const v) => some (if isNilV v then .nilsl else constPV v)
 | _ => none
def opF (P : Program) (op : Op) : OF :=
 match constF op with
 | some v => ⟨fun _ _ σ _ => some (v, σ)⟩
 | none => match fastF P op with
 | some f => ⟨fun call Y σ T => match f.run call Y σ T with
  | some r => some r
  | none => opI P call Y σ (T.mini op) op⟩
 | none => ⟨fun call Y σ T => opI P call Y σ (T.mini op) op⟩
def opM (P : Program) (m : Nat) (op : Op) : OF :=
 match m with
 | 0 => opF P op
 | m + 1 => ⟨fun _ _ σ T => modeI P (m + 1) σ (T.mini op) op⟩
def modeOf (mo : Nat → Nat) (d : Option Nat) : Nat :=
 match d with
 | some d => mo d
 | none => 0
structure GT where
 run : TE → TE
structure WF where
 want : TE → Option Bool
def wantF (ops : Array Oper) (o : Oper) : Option WF :=
 match o.guard with
 | none => none
 | some (j, want) => match (ops[j]?).bind (·.dst) with
  | none => some ⟨fun _ => none⟩
  | some t => some ⟨fun T => match (getF t).get T with
   | .bool b => some (b == want)
   | .tuple [] => some false
   | _ => none⟩
/-- A region, made ready. -/
def opsF (P : Program) (mo : Nat → Nat) (N : Nat) (ops : Array Oper) : List Oper → RF
 | [] => ⟨fun _ _ T σ => some (T, σ)⟩
 | o :: r => match dstOK N o && dst12 o with
  | false => ⟨fun _ _ _ _ => none⟩
  | true => match wantF ops o with
   | none => ⟨fun call Y T σ => match (opM P (modeOf mo o.dst) o.op).run call Y σ T with
    | none => none
    | some (v, σ') => (opsF P mo N ops r).run call Y ((putOF o.dst).put v T) σ'⟩
   | some w => ⟨fun call Y T σ => match w.want T with
    | none => none
    | some false => (opsF P mo N ops r).run call Y ((putOF o.dst).put (.tuple []) T) σ
    | some true => match (opM P (modeOf mo o.dst) o.op).run call Y σ T with
     | none => none
     | some (v, σ') => (opsF P mo N ops r).run call Y ((putOF o.dst).put v T) σ'⟩
def opD (P : Program) (call : CallT) (Y : YF) (σ : Sg) (E : Env) (op : Op) : Option (PV × Sg) :=
 match whom E op with
 | .nobody => effOp P σ E op
 | .fn f args => call f args σ
 | .yield y args => Y y args σ
def opDF (P : Program) (op : Op) : OF :=
 match fastF P op with
 | some f => ⟨fun call Y σ T => match f.run call Y σ T with
  | some r => some r
  | none => opD P call Y σ (T.mini op) op⟩
 | none => ⟨fun call Y σ T => opD P call Y σ (T.mini op) op⟩
structure DF where
 run : CallT → YF → TE → Sg → List TSt → Option (List TSt × TE × Sg)
def drawF (P : Program) (N : Nat) (ops : Array Oper) : List Nat → DF
 | [] => ⟨fun _ _ T σ tr => some (tr, T, σ)⟩
 | i :: r => match ops[i]? with
  | none => ⟨fun _ _ _ _ _ => none⟩
  | some o => match dstOK N o && dst12 o with
   | false => ⟨fun _ _ _ _ _ => none⟩
   | true => match wantF ops o with
    | none => ⟨fun call Y T σ tr => match (opDF P o.op).run call Y σ T with
     | none => none
     | some (v, σ') => (drawF P N ops r).run call Y ((putOF o.dst).put v T) σ' (⟨i, T, σ, true, v⟩ :: tr)⟩
    | some w => ⟨fun call Y T σ tr => match w.want T with
     | none => none
     | some false => (drawF P N ops r).run call Y ((putOF o.dst).put (.tuple []) T) σ (⟨i, T, σ, false, .tuple []⟩ :: tr)
     | some true => match (opDF P o.op).run call Y σ T with
      | none => none
      | some (v, σ') => (drawF P N ops r).run call Y ((putOF o.dst).put v T) σ' (⟨i, T, σ, true, v⟩ :: tr)⟩
def undefsF : List Oper → GT
 | [] => ⟨fun T => T⟩
 | o :: r => match o.op with
  | .alloc _ => ⟨fun T => (undefsF r).run ((putOF o.dst).put .undef T)⟩
  | _ => undefsF r
def regionF (P : Program) (pl : List Nat × List (Nat × Nat) × List (List Nat)) (N : Nat) (ops : Array Oper) : RF :=
 match drawOK ops pl.1 pl.2.1 pl.2.2 && ops.toList.all dst12 with
 | false => ⟨fun _ _ _ _ => none⟩
 | true => ⟨fun call Y T σ => match (drawF P N ops pl.1).run call Y ((undefsF ops.toList).run T) σ [] with
  | none => none
  | some (tr, T', σ') => match demT P ops tr.reverse σ' pl.2.1 with
   | true => some (T', σ')
   | false => none⟩
/-- A result: a nil slice is said to be empty; where a hint says so, nobody may grow it. -/
def roS (m : Nat) (v : PV) : PV :=
 match m with
 | 0 => dn v
 | _ => match v with
  | .isl l _ => .isl l .ro
  | .nilsl => .isl [] .ro
  | v => v
def roC (m : Nat) (v : PV) : PV :=
 match m with
 | 0 => v
 | m => roS m v
def resF (P : Program) (m : Nat) : List ResultVar → ResF
 | [] => ⟨fun _ _ => some []⟩
 | .tmp t :: r => ⟨fun σ T => match (resF P m r).get σ T with
  | some l => some (roS m ((getF t).get T) :: l)
  | none => none⟩
 | .cell a t :: r => ⟨fun σ T => match (loadF P t).run σ ((getF a).get T) with
  | some v => match (resF P m r).get σ T with
   | some l => some (roC m v :: l)
   | none => none
  | none => none⟩
/-- A call's end: what it made is forgotten where nothing speaks of it. -/
def finT (P : Program) (m : Nat) (fn : Func) (σ0 : Sg) (T : TE) (σ : Sg) : Option (PV × Sg) :=
 match (resF P m fn.results.toList).get σ T with
 | none => none
 | some l => match Nat.beq (lenF σ.ys) (lenF σ0.ys) && Nat.ble (lenF σ0.store) (lenF σ.store) && Nat.ble (lenF σ0.rooms) (lenF σ.rooms) with
  | false => none
  | true => match Nat.beq (lenF σ.store) (lenF σ0.store) && Nat.beq (lenF σ.rooms) (lenF σ0.rooms) with
   | true => some (oneOr l, σ)
   | false => normN (lenF σ0.store) fun nb => normN (lenF σ0.rooms) fun nr => normN (lenF σ0.ys) fun ny => match cleanL nb nr ny 100000 [oneOr l] && cleanS nb nr ny (σ.store.take nb) with
    | true => some (oneOr l, σ.cut nb nr ny)
    | false => some (oneOr l, σ)
/-- A round of a loop over a function. -/
def roundF (assign body : TE → Sg → Out) (ps : List Nat) (T : TE) (y : Nat) (args : List PV) (σ : Sg) : Option (PV × Sg) :=
 match Nat.beq args.length ps.length with
 | false => none
 | true => match σ.ys[y]? with
  | some .ready => match assign ((argsF ps).lay args T) σ with
   | some (.normal, T3, σ3) => match σ3.ys[y]? with
    | some .ready => match body T3 (σ3.setY y .busy) with
     | some (ex, _, σ4) => match σ4.ys[y]? with
      | some .busy => match ex with
       | .normal => some (.bool true, σ4.setY y .ready)
       | .ret => some (.bool false, σ4.setY y (.done .ret))
       | .exit id => some (.bool false, σ4.setY y (.done (.exit id)))
       | _ => none
      | _ => none
     | none => none
    | _ => none
   | _ => none
  | _ => none
def YF.at (Y : YF) (y : Nat) (g : List PV → Sg → Option (PV × Sg)) : YF := fun i args σ => match Nat.beq i y with
 | true => g args σ
 | false => Y i args σ
/-- Behind the loop over a function. -/
def afterF (T : TE) (y : Nat) (σ : Sg) : Out :=
 match σ.ys[y]? with
 | some .ready => some (.normal, T, σ.popY y)
 | some (.done .ret) => some (.ret, T, σ.popY y)
 | some (.done (.exit id)) => some (.exit id, T, σ.popY y)
 | _ => none
/-- The variables that speak of what is gone. -/
def badS (nb nr ny : Nat) : Nat → List (Option (List PV)) → List Nat
 | _, [] => []
 | i, none :: r => badS nb nr ny (i + 1) r
 | i, some cs :: r => match cleanL nb nr ny 100000 cs with
  | true => badS nb nr ny (i + 1) r
  | false => i :: badS nb nr ny (i + 1) r
def dropsF : List Nat → Sg → Sg
 | [], σ => σ
 | i :: r, σ => dropsF r (σ.drop i)
/-- Behind the loop, where nothing speaks of its record any more. -/
def afterD (T : TE) (y : Nat) (σ : Sg) : Out :=
 match cleanS σ.store.length σ.rooms.length y σ.store with
 | true => afterF T y σ
 | false => match cleanS (dropsF (badS σ.store.length σ.rooms.length y 0 σ.store) σ).store.length (dropsF (badS σ.store.length σ.rooms.length y 0 σ.store) σ).rooms.length y (dropsF (badS σ.store.length σ.rooms.length y 0 σ.store) σ).store with
  | true => afterF T y (dropsF (badS σ.store.length σ.rooms.length y 0 σ.store) σ)
  | false => none
/-- What follows, where a piece of code has ended as usual. -/
def thenF (r : Out) (k : TE → Sg → Out) : Out :=
 match r with
 | some (.normal, T, σ) => k T σ
 | r => r
def blockF (id : Nat) (r : Out) : Out :=
 match r with
 | some (.exit id', T, σ) => match Nat.beq id' id with
  | true => some (.normal, T, σ)
  | false => some (.exit id', T, σ)
 | r => r
def scopeF (r : Out) : Out :=
 match r with
 | some (.goto _, _, _) => none
 | r => r
def regF (r : Option (TE × Sg)) : Out :=
 match r with
 | some (T, σ) => some (.normal, T, σ)
 | none => none
def loopF (c : CF) (call : YF → CallT) : Nat → YF → TE → Sg → Out
 | 0, _, _, _ => none
 | n + 1, Y, T, σ => thenF (c.run call n Y T σ) fun T' σ' => loopF c call n Y T' σ'
def codeF (P : Program) (A : Aid) (f : FuncId) (N : Nat) : Code → CF
 | .skip => ⟨fun _ _ _ T σ => some (.normal, T, σ)⟩
 | .label _ => ⟨fun _ _ _ T σ => some (.normal, T, σ)⟩
 | .exit id => ⟨fun _ _ _ T σ => some (.exit id, T, σ)⟩
 | .ret => ⟨fun _ _ _ T σ => some (.ret, T, σ)⟩
 | .seq x y => ⟨fun call n Y T σ => thenF ((codeF P A f N x).run call n Y T σ) fun T' σ' => (codeF P A f N y).run call n Y T' σ'⟩
 | .region id ops d => match d with
  | false => ⟨fun call _ Y T σ => regF ((opsF P (A.mode f) N ops ops.toList).run (call Y) Y T σ)⟩
  | true => ⟨fun call _ Y T σ => regF ((regionF P (A.plans f id) N ops).run (call Y) Y T σ)⟩
 | .cond x a b => ⟨fun call n Y T σ => match (opdF x).get T with
  | .bool true => (codeF P A f N a).run call n Y T σ
  | .bool false => (codeF P A f N b).run call n Y T σ
  | _ => none⟩
 | .loop c => ⟨fun call n Y T σ => loopF (codeF P A f N c) call n Y T σ⟩
 | .block id c => ⟨fun call n Y T σ => blockF id ((codeF P A f N c).run call n Y T σ)⟩
 | .scope c => ⟨fun call n Y T σ => scopeF ((codeF P A f N c).run call n Y T σ)⟩
 | .rangeFunc g ps assign body => match ps.toList.all fun t => Nat.ble (t + 1) N && Nat.ble t 511 with
  | false => ⟨fun _ _ _ _ _ => none⟩
  | true => ⟨fun call n Y T σ => match (opdF g).get T with
   | .func (.func gf) fs cs =>
    match call (Y.at σ.ys.length (roundF ((codeF P A f N assign).run call n Y) ((codeF P A f N body).run call n Y) ps.toList T σ.ys.length)) gf (fs ++ [.yield σ.ys.length] ++ cs) σ.pushY with
    | some (_, σ5) => afterD T σ.ys.length σ5
    | none => none
   | _ => none⟩
 | _ => ⟨fun _ _ _ _ _ => none⟩
structure FF where
 run : (YF → CallT) → Nat → YF → List PV → Sg → Option (PV × Sg)
def endF (P : Program) (m : Nat) (fn : Func) (σ : Sg) (r : Out) : Option (PV × Sg) :=
 match r with
 | some (.normal, T, σ') => finT P m fn σ T σ'
 | some (.ret, T, σ') => finT P m fn σ T σ'
 | _ => none
/-- A function, made ready. -/
def funF (P : Program) (A : Aid) (f : FuncId) : FF :=
 match P.funcs[f]? with
 | none => ⟨fun _ _ _ _ _ => none⟩
 | some fn => match fn.body with
  | none => ⟨fun _ _ _ _ _ => none⟩
  | some c => match goFn P f && Nat.ble fn.ntmps 512 with
   | false => ⟨fun _ _ _ _ _ => none⟩
   | true => ⟨fun call n Y args σ => match Nat.ble args.length fn.ntmps with
    | false => none
    | true => endF P (A.mode f 999) fn σ ((codeF P A f fn.ntmps c).run call n Y ((argsF (List.range fn.ntmps)).lay args .leaf) σ)⟩
def callK (P : Program) (A : Aid) : Nat → YF → CallT
 | 0, _, _, _, _ => none
 | n + 1, Y, f, args, σ => match A.orc f args σ with
  | some r => some r
  | none => (funF P A f).run (callK P A n) n Y args σ
end
theorem nthF_eq {α : Type} : ∀ (l : List α) (n : Nat), nthF l n = l[n]? := by
 intro l
 induction l with
 | nil => intro n; rfl
 | cons a l ih =>
  intro n
  cases n with
  | zero => rfl
  | succ n => exact ih n
theorem lenF_eq {α : Type} : ∀ (l : List α), lenF l = l.length := by
 intro l
 induction l with
 | nil => rfl
 | cons a l ih => exact congrArg Nat.succ ih
theorem allS_eq : ∀ (l : List PV), allS l = l.all PV.scalar := by
 intro l
 induction l with
 | nil => rfl
 | cons a l ih =>
  show cond a.scalar (allS l) false = _
  rw [ih, List.all_cons]
  cases a.scalar <;> rfl
theorem snocN_eq {α : Type} (x : α) : ∀ (l : List α), snocN x l = l ++ [x] := by
 intro l
 induction l with
 | nil => rfl
 | cons a l ih => exact congrArg (a :: ·) ih
theorem setN_eq {α : Type} (v : α) : ∀ (l : List α) (n : Nat), setN v l n = l.set n v := by
 intro l
 induction l with
 | nil => intro n; rfl
 | cons a l ih =>
  intro n
  cases n with
  | zero => rfl
  | succ n => exact congrArg (a :: ·) (ih n)
theorem normN_eq {α : Type} (n : Nat) (f : Nat → α) : normN n f = f n := rfl
theorem drop16_eq {α : Type} (l : List α) (n : Nat) : nthF (drop16 l) n = l[n + 16]? := by
 rw [nthF_eq]
 unfold drop16
 split
 ·rfl
 rename_i h
 have hl : l.length < 16 := by
  rcases l with _ | ⟨_, _ | ⟨_, _ | ⟨_, _ | ⟨_, _ | ⟨_, _ | ⟨_, _ | ⟨_, _ | ⟨_, _ | ⟨_, _ | ⟨_, _ | ⟨_, _ | ⟨_, _ | ⟨_, _ | ⟨_, _ | ⟨_, _ | ⟨_, _⟩⟩⟩⟩⟩⟩⟩⟩⟩⟩⟩⟩⟩⟩⟩⟩ <;> first | (simp; done) | exact absurd rfl (h _ _ _ _ _ _ _ _ _ _ _ _ _ _ _ _ _)
 exact (List.getElem?_eq_none (by omega)).symm
theorem dropC_eq {α : Type} (l : List α) : ∀ (q n : Nat), nthF (dropC l q) n = l[n + 16 * q]? := by
 intro q
 induction q with
 | zero => intro n; exact nthF_eq l n
 | succ q ih =>
  intro n
  show nthF (drop16 (dropC l q)) n = _
  rw [drop16_eq, ← nthF_eq, ih]
  congr 1
  omega
theorem nthC_eq {α : Type} (l : List α) (n : Nat) : nthC l n = l[n]? := by
 unfold nthC
 cases Nat.ble n 31 with
 | true => exact nthF_eq l n
 | false =>
  show nthF (dropC l (n / 16)) (n % 16) = _
  rw [dropC_eq]
  congr 1
  omega
theorem sel_upd {α : Type} {i j : Nat} (hi : i < 8) (hj : j < 8) (g : α → α) (t : T8 α) : (selF i).f ((updF j).f g t) = if i = j then g ((selF i).f t) else (selF i).f t := by
 have a : i = 0 ∨ i = 1 ∨ i = 2 ∨ i = 3 ∨ i = 4 ∨ i = 5 ∨ i = 6 ∨ i = 7 := by omega
 have b : j = 0 ∨ j = 1 ∨ j = 2 ∨ j = 3 ∨ j = 4 ∨ j = 5 ∨ j = 6 ∨ j = 7 := by omega
 rcases a with rfl | rfl | rfl | rfl | rfl | rfl | rfl | rfl <;> rcases b with rfl | rfl | rfl | rfl | rfl | rfl | rfl | rfl <;> rfl
theorem ble_iff {a b : Nat} : Nat.ble a b = true ↔ a ≤ b := ⟨Nat.le_of_ble_eq_true, Nat.ble_eq_true_of_le⟩
theorem ble_false {a b : Nat} (h : ¬ a ≤ b) : Nat.ble a b = false := by
 cases e : Nat.ble a b with
 | false => rfl
 | true => exact absurd (ble_iff.1 e) h
theorem get_eq {T : TE} {t : Nat} (h : t ≤ 511) : TE.get T t = (selF (t % 8)).f ((selF (t / 8 % 8)).f ((selF (t / 64)).f T)) := by
 unfold TE.get getF
 rw [ble_iff.2 h]
theorem get_far {T : TE} {t : Nat} (h : ¬ t ≤ 511) : TE.get T t = .undef := by
 unfold TE.get getF
 rw [ble_false h]
theorem tget_put {T : TE} {v : PV} {t d : Nat} (hd : d ≤ 511) : TE.get ((putF d).put v T) t = if d = t then v else TE.get T t := by
 by_cases h : t ≤ 511
 ·rw [get_eq h, get_eq h]
  unfold putF
  simp only
  rw [sel_upd (by omega) (by omega)]
  by_cases h1 : t / 64 = d / 64
  ·rw [if_pos h1, sel_upd (by omega) (by omega)]
   by_cases h2 : t / 8 % 8 = d / 8 % 8
   ·rw [if_pos h2, sel_upd (by omega) (by omega)]
    by_cases h3 : t % 8 = d % 8
    ·rw [if_pos h3, if_pos (by omega)]
    rw [if_neg h3, if_neg (by omega)]
   rw [if_neg h2, if_neg (by omega)]
  rw [if_neg h1, if_neg (by omega)]
 rw [get_far h, get_far h, if_neg (by omega)]
theorem get_leaf (t : Nat) : TE.get TE.leaf t = .undef := by
 by_cases h : t ≤ 511
 ·rw [get_eq h]
  have a : ∀ i, i < 8 → ∀ {α : Type} (x : α), (selF i).f (all8 x) = x := by
   intro i hi α x
   have a : i = 0 ∨ i = 1 ∨ i = 2 ∨ i = 3 ∨ i = 4 ∨ i = 5 ∨ i = 6 ∨ i = 7 := by omega
   rcases a with rfl | rfl | rfl | rfl | rfl | rfl | rfl | rfl <;> rfl
  unfold TE.leaf
  rw [a _ (by omega), a _ (by omega), a _ (by omega)]
 exact get_far h
/-- A tree and a list of temporaries that say the same. -/
def Same (E : Env) (T : TE) : Prop := ∀ t, E.get t = TE.get T t
theorem Same.put {E : Env} {T : TE} (h : Same E T) {d : Option Nat} (hd : ∀ n, d = some n → n ≤ 511) (v : PV) : Same (E.put d v) ((putOF d).put v T) := by
 intro t
 cases d with
 | none => exact h t
 | some d =>
  simp only [Env.put_some, Env.get, putOF]
  rw [tget_put (hd d rfl), h t]
theorem dst12_le {o : Oper} (h : dst12 o = true) : ∀ n, o.dst = some n → n ≤ 511 := by
 intro n hn
 unfold dst12 at h
 rw [hn] at h
 exact ble_iff.1 h
theorem mini_or (T : TE) (l : List Nat) (t : Nat) : Env.get (l.map fun t => (t, TE.get T t)) t = TE.get T t ∨ Env.get (l.map fun t => (t, TE.get T t)) t = .undef := by
 induction l with
 | nil => exact .inr rfl
 | cons a l ih =>
  simp only [List.map_cons, Env.get]
  split
  ·rename_i e; subst e; exact .inl rfl
  exact ih
theorem mini_get {T : TE} {l : List Nat} {t : Nat} (h : t ∈ l) : Env.get (l.map fun t => (t, TE.get T t)) t = TE.get T t := by
 induction l with
 | nil => cases h
 | cons a l ih =>
  simp only [List.map_cons, Env.get]
  split
  ·rename_i e; subst e; rfl
  rename_i e
  rcases List.mem_cons.1 h with rfl | h
  ·exact absurd rfl e
  exact ih h
/-- An operand's value, and what its reader finds. -/
theorem ev_opd {T : TE} {E : Env} {x : Operand} (h : ∀ t, x = .tmp t → E.get t = TE.get T t) : ev E x = (opdF x).get T := by
 cases x with
 | tmp t => exact h t rfl
 | const v => rfl
 | global g => rfl
 | func f => rfl
theorem ev_tmO {T : TE} {x : Operand} {l l' : List Nat} (h : ∀ t, t ∈ tmO x l → t ∈ l') : ev (l'.map fun t => (t, TE.get T t)) x = (opdF x).get T :=
 ev_opd fun t e => mini_get (h t (by subst e; simp [tmO]))
theorem tmO_sub {x : Operand} {l : List Nat} {t : Nat} (h : t ∈ l) : t ∈ tmO x l := by
 cases x <;> first | exact List.mem_cons_of_mem _ h | exact h
theorem tmL_mem {xs : List Operand} {t : Nat} (h : Operand.tmp t ∈ xs) : t ∈ tmL xs := by
 induction xs with
 | nil => cases h
 | cons x r ih =>
  rcases List.mem_cons.1 h with rfl | h
  ·exact List.mem_cons_self ..
  exact tmO_sub (ih h)
theorem gets_eq {T : TE} {E : Env} {xs : List Operand} (h : ∀ t, Operand.tmp t ∈ xs → E.get t = TE.get T t) : xs.map (ev E) = getsF (opdsF xs) T := by
 induction xs with
 | nil => rfl
 | cons x r ih =>
  simp only [List.map_cons, opdsF, getsF]
  rw [ev_opd (T := T) fun t e => h t (by subst e; exact List.mem_cons_self ..), ih fun t ht => h t (List.mem_cons_of_mem _ ht)]
theorem wrapF_eq (n : Int) : wrapF n = IntKind.i64.wrap n := by
 unfold wrapF
 split
 ·rename_i m
  by_cases h : m ≤ 9223372036854775807
  ·rw [ble_iff.2 h]
   have e : IntKind.i64.wrap (Int.ofNat m) = Int.ofNat m := wrap_i64_id (by simp only [Int.ofNat_eq_natCast]; omega) (by simp only [Int.ofNat_eq_natCast]; omega)
   rw [e, cond_true]
  rw [ble_false h, cond_false]
 rename_i m
 by_cases h : m ≤ 9223372036854775807
 ·rw [ble_iff.2 h]
  have e : IntKind.i64.wrap (Int.negSucc m) = Int.negSucc m := wrap_i64_id (by omega) (by omega)
  rw [e, cond_true]
 rw [ble_false h, cond_false]
theorem ltF_eq (a b : Int) : ltF a b = decide (a < b) := by
 unfold ltF
 cases a with
 | ofNat m =>
  cases b with
  | ofNat n =>
   simp only
   by_cases h : m + 1 ≤ n
   ·rw [ble_iff.2 h]; simp; omega
   rw [ble_false h]; simp; omega
  | negSucc n => simp; omega
 | negSucc m =>
  cases b with
  | ofNat n => simp; omega
  | negSucc n =>
   simp only
   by_cases h : n + 1 ≤ m
   ·rw [ble_iff.2 h]; simp; omega
   rw [ble_false h]; simp; omega
theorem beq_nat (a b : Nat) : Nat.beq a b = (a == b) := by rw [Bool.eq_iff_iff]; simp
theorem eqF_eq (a b : Int) : eqF a b = (a == b) := by
 unfold eqF
 cases a <;> cases b <;> simp only [beq_nat] <;> rw [Bool.eq_iff_iff] <;> first | (simp; done) | (simp; omega)
theorem int64_inv {v : PV} {n : Int} (h : int64 v = some n) : v = .int .i64 n := by
 unfold int64 at h
 split at h
 ·injection h with h; subst h; rfl
 cases h
theorem arF_ok {op : BinOp} {f : IF} (h : arF op = some f) {a b : Int} {σ : Sg} {r : PV × Sg} (hr : f.run a b σ = some r) : ∃ v, r = (v, σ) ∧ arith op .i64 a b = some v ∧ isShift op = false := by
  cases op <;> simp only [arF] at h <;> first
    | (cases h; done)
    | (injection h with h
       subst h
       injection hr with hr
       subst hr
       refine ⟨_, rfl, ?_, rfl⟩
       first
         | (simp only [arith, wrapF_eq, ltF_eq, eqF_eq]; done)
         | (simp only [arith, wrapF_eq, ltF_eq, eqF_eq]; rfl)
         | (simp only [arith, ltF_eq]; congr 2; rw [Bool.eq_iff_iff]; simp; done)
         | (simp only [arith, ltF_eq]; congr 2; rw [Bool.eq_iff_iff]; simp; omega))
theorem beq_eq {a b : Nat} : Nat.beq a b = true ↔ a = b := by rw [beq_nat]; simp
theorem ptrF_inv {v : PV} {i o : Nat} (h : ptrF v = some (i, o)) : v = .ptr i o := by
 unfold ptrF at h
 split at h
 ·injection h with h; injection h with h1 h2; subst h1 h2; rfl
 cases h
theorem eptrF_inv {v : PV} {l : List PV} {i o : Nat} (h : eptrF v = some (l, i, o)) : ∃ es, v = .eptr es l i o := by
 unfold eptrF at h
 split at h
 ·injection h with h; injection h with h1 h2; injection h2 with h2 h3; subst h1 h2 h3; exact ⟨_, rfl⟩
 cases h
theorem islF_inv {v : PV} {l : List PV} (h : islF v = some l) : ∃ o, v = .isl l o := by
 unfold islF at h
 split at h
 ·injection h with h; subst h; exact ⟨_, rfl⟩
 cases h
theorem aggF_inv {v : PV} {l : List PV} (h : aggF v = some l) : v = .agg l := by
 unfold aggF at h
 split at h
 ·injection h with h; subst h; rfl
 cases h
theorem natF_inv {n : Int} {m : Nat} (h : natF n = some m) : n = (m : Int) := by
 unfold natF at h
 split at h
 ·injection h with h; subst h; rfl
 cases h
theorem keepF_inv {σ : Sg} {x : Option PV} {r : PV × Sg} (h : keepF σ x = some r) : ∃ v, x = some v ∧ r = (v, σ) := by
 unfold keepF at h
 split at h
 ·injection h with h; exact ⟨_, rfl, h.symm⟩
 cases h
theorem partF_ok {d : TypeDesc} {n : Nat} {cs : List PV} {off : Nat} {v : PV} (h : partF (isAggD d) n cs off = some v) : partPV d n cs off = some v := by
 unfold partPV
 cases ha : isAggD d with
 | false =>
  rw [ha] at h
  simp only [partF, nthC_eq] at h
  rw [if_neg (by simp)]
  exact h
 | true =>
  rw [ha] at h
  simp only [partF, lenF_eq] at h
  rw [if_pos rfl]
  split at h
  ·rename_i hh
   simp only [Bool.and_eq_true, beq_eq] at hh
   obtain ⟨h1, h2⟩ := hh
   subst h1 h2
   rw [if_pos (by omega)]
   simpa using h
  split at h
  ·rename_i hh
   rw [if_pos (ble_iff.1 hh)]
   exact h
  cases h
theorem loadF_ok {P : Program} {t : TypeId} {σ : Sg} {p v : PV} (h : (loadF P t).run σ p = some v) : loadPV P σ t p = some v := by
 unfold loadF at h
 unfold loadPV
 cases hu : P.underlying t with
 | none => rw [hu] at h; cases h
 | some d =>
  rw [hu] at h
  simp only at h ⊢
  cases hp : ptrF p with
  | some r =>
   obtain ⟨i, o⟩ := r
   rw [hp] at h
   rw [ptrF_inv hp]
   simp only [nthF_eq] at h ⊢
   split at h
   ·rename_i cs hc
    simp only [hc]
    exact partF_ok h
   cases h
  | none =>
   rw [hp] at h
   simp only at h
   cases hq : eptrF p with
   | none => rw [hq] at h; cases h
   | some r =>
    obtain ⟨l, i, o⟩ := r
    rw [hq] at h
    obtain ⟨es, rfl⟩ := eptrF_inv hq
    simp only [nthF_eq] at h ⊢
    split at h
    ·rename_i e he
     simp only [he]
     exact partF_ok h
    cases h
theorem putCells_eq : ∀ (vs : List PV) (off : Nat) (cs : List PV), off + vs.length ≤ cs.length → putCells cs off vs = cs.take off ++ (vs ++ cs.drop (off + vs.length)) := by
 intro vs
 induction vs with
 | nil => intro off cs h; simp [putCells]
 | cons v vs ih =>
  intro off cs h
  simp only [List.length_cons] at h
  simp only [putCells]
  rw [ih _ _ (by simp; omega)]
  have e : cs.set off v = cs.take off ++ v :: cs.drop (off + 1) := by
   rw [List.set_eq_take_append_cons_drop, if_pos (by omega)]
  have hl : (cs.take off).length = off := by simp; omega
  have a : (cs.take off ++ v :: cs.drop (off + 1)).take (off + 1) = cs.take off ++ [v] := by
   rw [List.take_append, hl, List.take_of_length_le (by rw [hl]; omega), show off + 1 - off = 1 by omega]
   rfl
  have b : (cs.take off ++ v :: cs.drop (off + 1)).drop (off + 1 + vs.length) = cs.drop (off + (vs.length + 1)) := by
   rw [List.drop_append, hl, List.drop_eq_nil_of_le (by rw [hl]; omega), show off + 1 + vs.length - off = vs.length + 1 by omega, List.nil_append, List.drop_succ_cons, List.drop_drop]
   congr 1
   omega
  rw [e, a, b]
  simp only [List.append_assoc, List.length_cons, List.cons_append, List.nil_append]
theorem layN_eq {cs vs : List PV} {off : Nat} (h : off + vs.length ≤ cs.length) : layN cs off vs = putCells cs off vs := by
 unfold layN
 split
 ·rename_i v
  rw [setN_eq]; rfl
 simp only [lenF_eq]
 rw [putCells_eq _ _ _ h]
 split
 ·rename_i hh
  simp only [Bool.and_eq_true, beq_eq] at hh
  obtain ⟨h1, h2⟩ := hh
  subst h1
  simp [h2]
 rfl
theorem storeF_ok {P : Program} {t : TypeId} {σ : Sg} {a p : PV} {r : PV × Sg} (h : storeF P t σ a p = some r) : ∃ σ', r = (.undef, σ') ∧ storePV P σ t a p = some σ' := by
 unfold storeF at h
 unfold storePV
 cases hp : ptrF a with
 | none => rw [hp] at h; cases h
 | some x =>
  obtain ⟨id, off⟩ := x
  rw [hp] at h
  rw [ptrF_inv hp]
  simp only [nthF_eq, lenF_eq, allS_eq] at h ⊢
  split at h
  ·rename_i cs hc
   simp only [hc]
   split at h
   ·rename_i hh
    injection h with h
    simp only [Bool.and_eq_true, beq_eq, ble_iff] at hh
    obtain ⟨⟨⟨⟨h1, h2⟩, h3⟩, h4⟩, h5⟩ := hh
    rw [if_pos (by simp only [h1, h2, h3, Bool.true_and, Bool.and_eq_true, beq_iff_eq, decide_eq_true_eq]; exact ⟨h4, h5⟩)]
    refine ⟨_, h.symm, ?_⟩
    rw [layN_eq h5, setN_eq]
    rfl
   cases h
  cases h
theorem indexAddrF_ok {P : Program} {t : TypeId} {f : XF} (hf : indexAddrF P t = some f) {x v : PV} {n : Int} (h : f.run x n = some v) (k : IntKind) : indexAddrPV P t x (.int k n) = some v := by
 unfold indexAddrF at hf
 split at hf
 ·rename_i e he
  split at hf
  ·rename_i d hd
   injection hf with hf
   subst hf
   simp only at h
   split at h
   ·rename_i m hm
    split at h
    ·rename_i l hl
     obtain ⟨o, rfl⟩ := islF_inv hl
     split at h
     ·rename_i el hel
      split at h
      ·rename_i hb
       injection h with h
       subst h
       rw [nthF_eq] at hel
       rw [natF_inv hm]
       unfold indexAddrPV
       simp only [he, hd]
       have hlt := (List.getElem?_eq_some_iff.1 hel).1
       rw [if_pos ⟨by omega, by omega⟩]
       simp only [Int.toNat_natCast, hel]
       rw [lenF_eq] at hb
       rw [if_pos (beq_eq.1 hb)]
      cases h
     cases h
    cases h
   cases h
  cases hf
 cases hf
theorem indexF_ok {P : Program} {t : TypeId} {f : XF} (hf : indexF P t = some f) {x v : PV} {n : Int} (h : f.run x n = some v) (k : IntKind) : indexPV P t x (.int k n) = some v := by
 unfold indexF at hf
 split at hf
 ·rename_i len e he
  split at hf
  ·rename_i d hd
   injection hf with hf
   subst hf
   simp only at h
   split at h
   ·rename_i m hm
    split at h
    ·rename_i hb
     split at h
     ·rename_i cs hcs
      rw [aggF_inv hcs, natF_inv hm]
      unfold indexPV
      have := ble_iff.1 hb
      simp only [he]
      rw [if_pos ⟨by omega, by omega⟩]
      simp only [hd, Int.toNat_natCast]
      exact partF_ok h
     cases h
    cases h
   cases h
  cases hf
 cases hf
theorem fieldAddrF_ok {P : Program} {s : TypeId} {f : Nat} {g : AF} (hg : fieldAddrF P s f = some g) {x v : PV} (h : g.run x = some v) : fieldAddrPV P s x f = some v := by
 unfold fieldAddrF at hg
 unfold fieldAddrPV
 split at hg
 ·rename_i fl d hf
  rw [hf]
  simp only
  split at hg
  ·cases hg
  rename_i hb
  injection hg with hg
  subst hg
  rw [if_neg (by intro e; rw [e] at hb; cases hb)]
  exact h
 cases hg
theorem fieldF_ok {P : Program} {s : TypeId} {f : Nat} {g : AF} (hg : fieldF P s f = some g) {x v : PV} (h : g.run x = some v) : fieldPV P s x f = some v := by
 unfold fieldF at hg
 unfold fieldPV
 split at hg
 ·rename_i fl d hf
  injection hg with hg
  subst hg
  simp only at h
  split at h
  ·rename_i cs hc
   rw [hf, aggF_inv hc]
   exact partF_ok h
  cases h
 cases hg
theorem lenOp_ok {P : Program} {t : TypeId} {g : AF} (hg : lenOp P t = some g) {x v : PV} (h : g.run x = some v) : lenPV P t x = some v := by
 unfold lenOp at hg
 split at hg
 ·rename_i e he
  injection hg with hg
  subst hg
  simp only at h
  split at h
  ·rename_i l hl
   obtain ⟨o, rfl⟩ := islF_inv hl
   unfold lenPV
   simp only [he]
   rw [lenF_eq] at h
   exact h
  cases h
 cases hg
theorem opD_eff {P : Program} {call : CallT} {Y : YF} {σ : Sg} {E : Env} {op : Op} {r : PV × Sg} (hw : whom E op = .nobody) (he : effOp P σ E op = some r) : opD P call Y σ E op = some r := by
 unfold opD; rw [hw]; exact he
theorem aF_ok {f : Option AF} {x : VF} {F : OF} (h : aF f x = some F) : ∃ g, f = some g ∧ F = ⟨fun _ _ σ T => keepF σ (g.run (x.get T))⟩ := by
 unfold aF at h
 split at h
 ·injection h with h; exact ⟨_, rfl, h.symm⟩
 cases h
theorem xF_inv {f : XF} {x i : VF} {call : CallT} {Y : YF} {σ : Sg} {T : TE} {r : PV × Sg} (h : (xF f x i).run call Y σ T = some r) : ∃ n v, i.get T = .int .i64 n ∧ f.run (x.get T) n = some v ∧ r = (v, σ) := by
 unfold xF at h
 simp only at h
 split at h
 ·rename_i n hn
  obtain ⟨v, h1, h2⟩ := keepF_inv h
  exact ⟨n, v, int64_inv hn, h1, h2⟩
 cases h
theorem strOf_inv {v : PV} {l : List UInt8} (h : strOf v = some l) : v = .str ⟨l.toArray⟩ := by
 unfold strOf at h
 split at h
 ·injection h with h
  subst h
  simp
 cases h
theorem bytesEq_eq : ∀ (a b : List UInt8), bytesEq a b = true ↔ a = b := by
 intro a
 induction a with
 | nil => intro b; cases b <;> simp [bytesEq]
 | cons x a ih =>
  intro b
  cases b with
  | nil => simp [bytesEq]
  | cons y b =>
   simp only [bytesEq, Bool.and_eq_true, beq_eq, ih, List.cons.injEq]
   constructor
   ·rintro ⟨h1, h2⟩; exact ⟨UInt8.toNat_inj.1 h1, h2⟩
   rintro ⟨h1, h2⟩; exact ⟨by rw [h1], h2⟩
theorem bytes_beq (a b : List UInt8) : ((⟨a.toArray⟩ : ByteArray) == ⟨b.toArray⟩) = bytesEq a b := by
 show (a.toArray == b.toArray) = bytesEq a b
 rw [Bool.eq_iff_iff, bytesEq_eq, beq_iff_eq]
 simp
theorem strOp_ok {op : BinOp} {a b : List UInt8} {v : PV} (h : strOp op a b = some v) : strBin op ⟨a.toArray⟩ ⟨b.toArray⟩ = some v := by
 cases op <;> simp only [strOp] at h <;> first
  | (cases h; done)
  | skip
 ·split at h
  ·rename_i hl
   have hl := ble_iff.1 hl
   rw [lenF_eq, lenF_eq] at hl
   unfold strBin
   simp only
   have e1 : (⟨a.toArray⟩ : ByteArray).size = a.length := by simp [ByteArray.size]
   have e2 : (⟨b.toArray⟩ : ByteArray).size = b.length := by simp [ByteArray.size]
   rw [if_pos (by rw [e1, e2]; omega), ← h]
   have e3 : (⟨a.toArray⟩ : ByteArray) ++ ⟨b.toArray⟩ = ⟨(a ++ b).toArray⟩ := ByteArray.ext (by simp)
   rw [e3]
  cases h
 ·unfold strBin; simp only; rw [bytes_beq]; exact h
 unfold strBin; simp only; rw [bne, bytes_beq]; exact h
theorem fast_ok {P : Program} {op : Op} {F : OF} (hF : fastF P op = some F) {call : CallT} {Y : YF} {σ : Sg} {T : TE} {r : PV × Sg} (h : F.run call Y σ T = some r) : opD P call Y σ (TE.mini T op) op = some r := by
 have m1 : ∀ x : Operand, (∀ t, t ∈ tmO x [] → t ∈ opT op) → ev (TE.mini T op) x = (opdF x).get T := fun x hx => ev_tmO hx
 have m2 : ∀ x : Operand, (∀ t, x = .tmp t → t ∈ opT op) → ev (TE.mini T op) x = (opdF x).get T := fun x hx => ev_opd fun t e => mini_get (hx t e)
 have s1 : ∀ (x : Operand) (t : Nat) (l : List Nat), x = .tmp t → t ∈ tmO x l := fun x t l e => by subst e; exact List.mem_cons_self ..
 unfold fastF at hF
 split at hF
 ·rename_i x
  injection hF with hF
  subst hF
  injection h with h
  subst h
  refine opD_eff rfl ?_
  show some (ev _ x, σ) = _
  rw [m2 x fun t e => s1 x t [] e]
 ·rename_i t
  injection hF with hF
  subst hF
  injection h with h
  subst h
  refine opD_eff rfl ?_
  show some (ev _ (.tmp t), σ) = _
  rw [m2 (.tmp t) fun t' e => s1 _ t' [] e]
  rfl
 ·rename_i op t x y sh
  split at hF
  ·cases hF
  rename_i hn
  split at hF
  ·rename_i f hf
   injection hF with hF
   subst hF
   simp only [binF] at h
   simp only [Bool.or_eq_false_iff] at hn
   have ex := m2 x fun t e => s1 x t _ e
   have ey := m2 y fun t e => tmO_sub (s1 y t [] e)
   split at h
   ·rename_i a ha
    split at h
    ·rename_i b hb
     obtain ⟨v, rfl, h2, h3⟩ := arF_ok hf h
     refine opD_eff rfl ?_
     unfold effOp
     simp only [hn.1, hn.2]
     rw [ex, ey, int64_inv ha, int64_inv hb]
     simp only [binPV, bin]
     rw [if_neg (by simp [h3]), if_pos trivial, h2]
     rfl
    cases h
   split at h
   ·rename_i a ha
    split at h
    ·rename_i b hb
     split at h
     ·rename_i v hv
      injection h with h
      subst h
      refine opD_eff rfl ?_
      unfold effOp
      simp only [hn.1, hn.2]
      rw [ex, ey, strOf_inv ha, strOf_inv hb]
      simp only [binPV]
      rw [strOp_ok hv]
      rfl
     cases h
    cases h
   cases h
  cases hF
 ·rename_i t a
  injection hF with hF
  subst hF
  obtain ⟨v, h1, rfl⟩ := keepF_inv h
  refine opD_eff rfl ?_
  show (loadPV P σ t (ev _ a)).map _ = _
  rw [m2 a fun t e => s1 a t [] e, loadF_ok h1]
  rfl
 ·rename_i t a x
  injection hF with hF
  subst hF
  obtain ⟨σ', rfl, h1⟩ := storeF_ok h
  refine opD_eff rfl ?_
  show (storePV P σ t (ev _ a) (ev _ x)).map _ = _
  rw [m2 a fun t e => s1 a t _ e, m2 x fun t e => tmO_sub (s1 x t [] e), h1]
  rfl
 ·rename_i c a b
  injection hF with hF
  subst hF
  obtain ⟨v, h1, rfl⟩ := keepF_inv h
  refine opD_eff rfl ?_
  show (pickPV (ev _ c) (ev _ a) (ev _ b)).map _ = _
  rw [m2 c fun t e => s1 c t _ e, m2 a fun t e => tmO_sub (s1 a t _ e), m2 b fun t e => tmO_sub (tmO_sub (s1 b t [] e)), h1]
  rfl
 ·rename_i s x f
  obtain ⟨g, hg, rfl⟩ := aF_ok hF
  obtain ⟨v, h1, rfl⟩ := keepF_inv h
  refine opD_eff rfl ?_
  show (fieldAddrPV P s (ev _ x) f).map _ = _
  rw [m2 x fun t e => s1 x t [] e, fieldAddrF_ok hg h1]
  rfl
 ·rename_i s x f
  obtain ⟨g, hg, rfl⟩ := aF_ok hF
  obtain ⟨v, h1, rfl⟩ := keepF_inv h
  refine opD_eff rfl ?_
  show (fieldPV P s (ev _ x) f).map _ = _
  rw [m2 x fun t e => s1 x t [] e, fieldF_ok hg h1]
  rfl
 ·rename_i t x
  injection hF with hF
  subst hF
  simp only [boxF] at h
  split at h
  ·rename_i hd
   simp only [normN_eq, lenF_eq, snocN_eq] at h
   injection h with h
   subst h
   refine opD_eff rfl ?_
   show (if defd (ev _ x) then some (PV.ptr σ.store.length 0, σ.push (ev _ x).cells) else none) = _
   rw [m2 x fun t e => s1 x t [] e, if_pos hd]
   rfl
  cases h
 ·rename_i t
  unfold allocF at hF
  split at hF
  ·rename_i zs hz
   injection hF with hF
   subst hF
   simp only [normN_eq, lenF_eq, snocN_eq] at h
   injection h with h
   subst h
   refine opD_eff rfl ?_
   show (zeroPV P t).map _ = _
   rw [hz]
   rfl
  cases hF
 ·rename_i t x i
  split at hF
  ·rename_i f hf
   injection hF with hF
   subst hF
   obtain ⟨n, v, h1, h2, rfl⟩ := xF_inv h
   refine opD_eff rfl ?_
   show (indexAddrPV P t (ev _ x) (ev _ i)).map _ = _
   rw [m2 x fun t e => s1 x t _ e, m2 i fun t e => tmO_sub (s1 i t [] e), h1, indexAddrF_ok hf h2]
   rfl
  cases hF
 ·rename_i t x i
  split at hF
  ·rename_i f hf
   injection hF with hF
   subst hF
   obtain ⟨n, v, h1, h2, rfl⟩ := xF_inv h
   refine opD_eff rfl ?_
   show (indexPV P t (ev _ x) (ev _ i)).map _ = _
   rw [m2 x fun t e => s1 x t _ e, m2 i fun t e => tmO_sub (s1 i t [] e), h1, indexF_ok hf h2]
   rfl
  cases hF
 ·rename_i args ts
  split at hF
  ·rename_i x t h1 h2
   have e1 : args = #[x] := Array.toList_inj.1 h1
   have e2 : ts = #[t] := Array.toList_inj.1 h2
   subst e1 e2
   obtain ⟨g, hg, rfl⟩ := aF_ok hF
   obtain ⟨v, h1, rfl⟩ := keepF_inv h
   refine opD_eff rfl ?_
   show (builtinPV P .len #[t] [ev _ x]).map _ = _
   rw [m2 x fun t e => s1 x t [] e]
   have := lenOp_ok hg h1
   simp only [builtinPV]
   simp [this]
  cases hF
 ·rename_i o t x
  injection hF with hF
  subst hF
  obtain ⟨v, h1, rfl⟩ := keepF_inv h
  refine opD_eff rfl ?_
  show (unPV o (ev _ x)).map _ = _
  rw [m2 x fun t e => s1 x t [] e, h1]
  rfl
 ·rename_i x i
  injection hF with hF
  subst hF
  obtain ⟨v, h1, rfl⟩ := keepF_inv h
  refine opD_eff rfl ?_
  show (extractPV (ev _ x) i).map _ = _
  rw [m2 x fun t e => s1 x t [] e, h1]
  rfl
 ·rename_i f args ts
  injection hF with hF
  subst hF
  simp only [callF] at h
  have ef := m2 f fun t e => s1 f t _ e
  have ea : args.toList.map (ev (TE.mini T (.call ⟨.value f, args, ts⟩))) = getsF (opdsF args.toList) T := gets_eq fun t ht => mini_get (tmO_sub (tmL_mem ht))
  unfold opD whom
  simp only
  split at h
  ·rename_i g first captured hf
   rw [ef, hf]
   simp only
   rw [ea]
   exact h
  ·rename_i y hf
   rw [ef, hf]
   simp only
   rw [ea]
   exact h
  cases h
 cases hF
theorem litM_ok {P : Program} {Ψ : Ty} {σ σ' : Sg} {w : World} (hs : SR Ψ σ w) {t : TypeId} {len : Nat} {parts : List (Nat × PV)} {v : PV} (h : litM P σ t len parts = some (v, σ'))
 {xs : Array (Nat × Value)} (hl : parts.length = xs.size) (hv : ∀ (j : Nat) (p : Nat × PV) (x : Nat × Value), parts[j]? = some p → xs[j]? = some x → p.1 = x.1 ∧ VR Ψ p.2 x.2) :
 Did P (Instr.buildSlice t len xs) Ψ w v σ' := by
 unfold litM at h
 split at h
 ·rename_i l own hb
  injection h with h
  injection h with e1 e2
  subst e1 e2
  unfold buildSlicePV at hb
  split at hb
  ·rename_i e hu
   split at hb
   ·rename_i hh
    injection hb with hb
    injection hb with hb _
    subst hb
    simp only [Bool.and_eq_true, beq_iff_eq, decide_eq_true_eq] at hh
    obtain ⟨⟨⟨⟨h1, h2⟩, h3⟩, h4⟩, h5⟩ := hh
    obtain ⟨d, hd⟩ := Option.isSome_iff_exists.1 h1
    obtain ⟨zs, hz⟩ := Option.isSome_iff_exists.1 h5
    have hlen : (parts.map (·.2)).length = len := by
     have := congrArg List.length h2
     simpa using this
    have hdef : ∀ p ∈ parts, defd p.2 = true ∧ p.2.cells.length = P.cellsOf e := by
     intro p hp
     have := List.all_eq_true.1 h3 p hp
     simpa using this
    have hes : ∀ x, x ∈ parts.map (·.2) → x.cells.length = P.cellsOf e := by
     intro x hx
     obtain ⟨p, hp, rfl⟩ := List.mem_map.1 hx
     exact (hdef p hp).2
    obtain ⟨out, hout⟩ := fill_total (P.cellsOf e) (parts.map (·.2)) 0 (List.replicate (len * P.cellsOf e) .undef) hes (by simp [hlen])
    have hparts : (List.range' 0 (parts.map (·.2)).length).zip (parts.map (·.2)) = parts := by
     rw [hlen, ← List.range_eq_range', ← h2, zip_fst_snd]
    rw [hparts] at hout
    have hrow := fill_row (P.cellsOf e) (parts.map (·.2)) 0 (List.replicate (len * P.cellsOf e) .undef) out (by rw [hparts]; exact hout)
    obtain ⟨Z, hZ⟩ : ∃ Z : Array Value, (len * P.cellsOf e = 0 ∧ Z = #[]) ∨ (len * P.cellsOf e ≠ 0 ∧ ∃ z, (zeroValue e).run P w = .ok z w ∧ Z = z.cells) := by
     by_cases h0 : len * P.cellsOf e = 0
     ·exact ⟨#[], .inl ⟨h0, rfl⟩⟩
     obtain ⟨z, k1, _⟩ := zeroPV_ok (w := w) hz Ψ
     exact ⟨z.cells, .inr ⟨h0, z, k1, rfl⟩⟩
    have hys : VRs Ψ (List.replicate (len * P.cellsOf e) .undef) ((Array.range (len * P.cellsOf e)).map (Z[· % Z.size]!)) := by
     refine ⟨by simp, fun j p x k1 _ => ?_⟩
     have : p = .undef := by
      have := List.mem_of_getElem? k1
      exact List.eq_of_mem_replicate this
     subst this
     exact .undef x
    obtain ⟨cs, hc1, hc2⟩ := fill_ok _ parts xs.toList _ out _ hys hout (by simpa using hl) (fun j p x k1 k2 => by
     obtain ⟨a, b⟩ := hv j p x k1 (by simpa using k2)
     refine ⟨a, b, fun hu => ?_⟩
     have := (hdef p (List.mem_of_getElem? k1)).1
     rw [hu] at this
     cases this)
    have hat : ∀ (j : Nat) (p : PV), (rowC (parts.map (·.2)))[j]? = some p → out[j]? = some p := fun j p hj => by
     obtain ⟨k, q, i, e1, e2, e3⟩ := rowC_get (es := P.cellsOf e) hes hj
     obtain ⟨i1, i2⟩ := hrow.2.2 k q e2
     have hi : i < P.cellsOf e := by rw [← i1]; exact (List.getElem?_eq_some_iff.1 e3).1
     have := i2 i hi
     rw [Nat.zero_add, e3, ← e1] at this
     exact this
    obtain ⟨le, hs'⟩ := hs.newVar cs e (rowC (parts.map (·.2))) (by
     rw [rowC_length hes, hlen]
     rcases Nat.eq_zero_or_pos (len * P.cellsOf e) with h0 | h0
     ·omega
     have hlast : len * P.cellsOf e - 1 < (rowC (parts.map (·.2))).length := by rw [rowC_length hes, hlen]; omega
     have := hat _ _ (List.getElem?_eq_getElem hlast)
     have := (List.getElem?_eq_some_iff.1 this).1
     rw [hc2.1]
     omega) (fun j p x k1 k2 => hc2.2 j p x (hat j p k1) k2)
    refine ⟨.slice (some ⟨w.heap.size, 0, none⟩) len len, _, _, ?_, le, hs', .msl _ _ _ w.heap.size _ (by simp [Ty.addVar, ← hs.blen]) (by simp [Ty.addVar]) (Nat.le_refl _), (Below.refl _ _).alloc hs.base _⟩
    unfold Instr.buildSlice
    rw [run_bind_ok (run_und hu)]
    simp only
    rw [run_bind_ok (run_size hd)]
    rw [if_neg (by omega)]
    rcases hZ with ⟨h0, hZ⟩ | ⟨h0, z, k1, hZ⟩
    ·rw [if_pos h0, run_bind_ok (run_pure _), ← hZ]
     simp only [hc1]
     rfl
    rw [if_neg h0, run_bind_ok k1, run_bind_ok (run_pure _), ← hZ]
    simp only [hc1]
    rfl
   cases hb
  cases hb
 cases h
theorem newB_ok {P : Program} {Ψ : Ty} {σ σ' : Sg} {w : World} (hs : SR Ψ σ w) {T te : TypeId} {v : PV} (h : newB P σ T te = some (v, σ')) : Did P (Instr.alloc T true (.tuple #[])) Ψ w v σ' := by
 unfold newB at h
 split at h
 ·rename_i hz
  injection h with h
  injection h with e1 e2
  subst e1 e2
  obtain ⟨z, h1, _⟩ := zeroPV_ok (w := w) hz Ψ
  have hc2 : ∀ Ψ, VRs Ψ [.nilptr, .isl [] .exact] z.cells := fun Ψ' => by
   obtain ⟨z', h1', h2'⟩ := zeroPV_ok (w := w) hz Ψ'
   rw [h1] at h1'
   injection h1' with h1' _
   subst h1'
   exact h2'
  obtain ⟨c, hc⟩ : ∃ c, c = z.cells := ⟨_, rfl⟩
  have hc0 : c.size = 2 := by rw [hc]; exact (hc2 Ψ).1
  have hc3 : ∀ Ψ (j : Nat) (p : PV) (v : Value), [PV.nilptr, .isl [] .exact][j]? = some p → c[j]? = some v → VR Ψ p v := fun Ψ j p v a b => (hc2 Ψ).2 j p v a (by rw [← hc]; exact b)
  obtain ⟨le1, hs1⟩ := hs.newVar c T [.nilptr, .isl [] .exact] (Nat.le_of_eq hc0.symm) (hc3 Ψ)
  have hk : SzOK (Ψ.addVar w.heap.size).base (w.alloc (.cells c T)) w.heap.size (.ty T 2) := ⟨hs.base, c, (0, 0), heap_alloc_new w _, hc0⟩
  have hs2 := hs1.addSz hk
  have le2 := le1.trans (Ty.addSz_le (Ψ.addVar w.heap.size) w.heap.size (.ty T 2))
  obtain ⟨le3, hs3⟩ := hs2.newRoom 0 none (fun b e c es h => by cases h)
  have le3' := le2.trans le3
  have hst : ((σ.push [.nilptr, .isl [] .exact]).pushRoom 0).store[σ.store.length]? = some (some [.nilptr, .isl [] .exact]) := by simp [Sg.push, Sg.pushRoom]
  have hβ : ((Ψ.addVar w.heap.size).addSz w.heap.size (.ty T 2)).β[σ.store.length]? = some w.heap.size := by
   show (Ψ.β ++ [w.heap.size])[σ.store.length]? = _
   rw [← hs.blen]
   simp
  have hrm : (σ.push [.nilptr, .isl [] .exact]).rooms.length = σ.rooms.length := rfl
  rw [hrm] at le3 hs3 le3'
  have hbk : blockIs (w.alloc (.cells c T)) w.heap.size c := ⟨T, heap_alloc_new w _⟩
  have hs4 := hs3.reread (cs' := [.bself σ.store.length T, .bbuf [] σ.rooms.length te]) hst (fun b' hb' hK => by
   have e1 : b' = w.heap.size := by
    have : ((Ψ.addVar w.heap.size).addSz w.heap.size (.ty T 2)).β[σ.store.length]? = some b' := hb'
    rw [hβ] at this; injection this with this; exact this.symm
   subst e1
   refine .inl ⟨c, hbk, by rw [hc0]; exact Nat.le_refl _, fun j p v h1 h2 => ?_⟩
   have hv0 := hc3 ((((Ψ.addVar w.heap.size).addSz w.heap.size (.ty T 2))).addHist σ.rooms.length 0 none)
   match j, h1, h2 with
   | 0, h1, h2 =>
    simp only [List.getElem?_cons_zero, Option.some.injEq] at h1
    subst h1
    have hv := hv0 0 .nilptr v rfl h2
    refine .bself _ _ w.heap.size _ hβ (List.mem_cons_self ..) (.inl ?_)
    cases hv; rfl
   | 1, h1, h2 =>
    simp only [List.getElem?_cons_succ, List.getElem?_cons_zero, Option.some.injEq] at h1
    subst h1
    have hv := hv0 1 (.isl [] .exact) v rfl h2
    have hh : OwnNil ((((Ψ.addVar w.heap.size).addSz w.heap.size (.ty T 2))).addHist σ.rooms.length 0 none) (.tok σ.rooms.length ([] : List PV).length 1) := ⟨none, by simp [Ty.addHist]⟩
    cases hv with
    | islnil _ a' _ => exact .bbuf _ _ _ _ (.islnil _ a' hh) fun g o n cap e hc => by injection e with _ _ e; exact absurd e.symm hc
    | isl es _ _ b0 o0 cap vals hes k1 k2 hc ho =>
     have ho' : cap = 0 := ho
     subst ho'
     exact .bbuf _ _ _ _ (.islnil _ _ hh) fun g o n cap e hc => by injection e with _ _ e; exact absurd e.symm hc
   | j + 2, h1, h2 => simp at h1)
  have hσ : ((σ.push [.nilptr, .isl [] .exact]).pushRoom 0).setVar σ.store.length [.bself σ.store.length T, .bbuf [] σ.rooms.length te] = (σ.push [.bself σ.store.length T, .bbuf [] σ.rooms.length te]).pushRoom 0 := by simp [Sg.setVar, Sg.push, Sg.pushRoom]
  rw [hσ] at hs4
  refine ⟨.pointer (some ⟨w.heap.size, 0, none⟩), _, _, ?_, le3', hs4, .ptr _ _ _ hβ (List.mem_cons_of_mem _ (List.mem_cons_self ..)), (Below.refl _ _).alloc hs.base _⟩
  unfold Instr.alloc
  rw [run_bind_ok h1, hc]
  rfl
 cases h
theorem gnilA_ok {P : Program} {Ψ : Ty} {σ : Sg} {w : World} (hs : SR Ψ σ w) {t : TypeId} (hz : zeroPV P t = some [.isl [] .exact]) : Did P (Instr.alloc t true (.tuple #[])) Ψ w (.ptr σ.store.length 0) (σ.push [.gnil]) := by
 obtain ⟨z, h1, h2⟩ := zeroPV_ok (w := w) hz Ψ
 obtain ⟨le, hs'⟩ := hs.newVar z.cells t [.gnil] (by rw [h2.1]; exact Nat.le_refl _) (fun j p v a b => by
  cases j with
  | zero =>
   simp at a
   subst a
   exact (h2.2 0 _ v rfl b).to_gnil
  | succ j => simp at a)
 refine ⟨.pointer (some ⟨w.heap.size, 0, none⟩), _, _, ?_, le, hs', .ptr _ _ _ (by simp [Ty.addVar, ← hs.blen]) (by simp [Ty.addVar]), (Below.refl _ _).alloc hs.base _⟩
 unfold Instr.alloc
 rw [run_bind_ok h1]
 rfl
theorem modeI_ok {P : Program} {m : Nat} {σ : Sg} {E : Env} {o : Oper} {r : PV × Sg} (h : modeI P m σ E o.op = some r) {Ψ : Ty} {w : World} {a : Act} (hs : SR Ψ σ w) (he : ER Ψ E a.tmps) :
 (∀ c, o.op ≠ .defer c) ∧ ∃ x w' Ψ', (execOp a.eval o).run P w = .ok (.value x) w' ∧ Ψ.le Ψ' ∧ SR Ψ' r.2 w' ∧ VR Ψ' r.1 x ∧ Below Ψ.base w w' := by
 have did : ∀ {s : Sem Value}, Did P s Ψ w r.1 r.2 → (execOp a.eval o = do pure (.value (← s)) : Prop) → ∃ x w' Ψ', (execOp a.eval o).run P w = .ok (.value x) w' ∧ Ψ.le Ψ' ∧ SR Ψ' r.2 w' ∧ VR Ψ' r.1 x ∧ Below Ψ.base w w' := by
  intro s hd hex
  obtain ⟨x, w', Ψ', h1, h2, h3, h4, h5⟩ := hd
  exact ⟨x, w', Ψ', by rw [hex, run_bind_ok h1]; rfl, h2, h3, h4, h5⟩
 obtain ⟨dst, op, type, pos, after, guard⟩ := o
 simp only at h
 unfold modeI at h
 split at h
 ·cases h
 ·split at h
  ·rename_i v
   split at h
   ·rename_i hv
    injection h with h
    subst h
    have := isNilC_inv (x := .const v) hv
    injection this with this
    subst this
    exact ⟨fun c e => (by cases e), _, w, Ψ, rfl, Ty.le.refl _, hs, .gnil none, Below.refl _ _⟩
   cases h
  ·injection h with h
   subst h
   exact ⟨fun c e => (by cases e), _, w, Ψ, rfl, Ty.le.refl _, hs, ev_ok he (.tmp _), Below.refl _ _⟩
  ·split at h
   ·rename_i hz
    injection h with h
    subst h
    exact ⟨fun c e => (by cases e), did (gnilA_ok hs hz) rfl⟩
   cases h
  cases h
 ·split at h
  ·rename_i t len parts
   refine ⟨fun c e => (by cases e), did (litM_ok hs h (xs := parts.map fun (p : Nat × Operand) => (p.1, a.eval p.2)) (by simp) (fun j p x k1 k2 => ?_)) rfl⟩
   simp only [List.getElem?_map, Array.getElem?_toList] at k1
   simp only [Array.getElem?_map] at k2
   cases hx : parts[j]? with
   | none => rw [hx] at k1; cases k1
   | some q =>
    rw [hx] at k1 k2
    simp at k1 k2
    subst k1 k2
    exact ⟨rfl, ev_ok he _⟩
  cases h
 split at h
 ·exact ⟨fun c e => (by cases e), did (newB_ok hs h) rfl⟩
 cases h
/-- What a run takes for known of calls, of the yields at work. -/
def CallOK (P : Program) (Yr : YEnv) (call : CallT) : Prop := ∀ f args σ v σ', call f args σ = some (v, σ') → PC P Yr f args σ v σ'
def YFOK (Yf : YF) (Yr : YEnv) : Prop := ∀ y args σ v σ', Yf y args σ = some (v, σ') → ∃ b, v = .bool b ∧ Yr y args σ b σ'
def cstI (v : Value) : PV := if isNilV v then .nilsl else constPV v
theorem cstI_ok (Ψ : Ty) (v : Value) : VR Ψ (cstI v) v := by
 unfold cstI
 split
 ·rename_i h
  have := isNilC_inv (x := .const v) h
  injection this with this
  subst this
  exact .nilsl
 exact constPV_ok Ψ v
theorem dn_ok {Ψ : Ty} {p : PV} {x : Value} (h : VR Ψ p x) : VR Ψ (dn p) x := by
 unfold dn
 split
 ·cases h; exact .islnil _ _ trivial
 exact h
theorem ER.denil {Ψ : Ty} {E : Env} {tmps : Array Value} (h : ER Ψ E tmps) : ER Ψ (denil E) tmps := by
 intro t
 have := h t
 clear h
 induction E with
 | nil => exact this
 | cons a E ih =>
  obtain ⟨k, v⟩ := a
  simp only [YtpiepcplalkfiaaGreatDoor.denil, List.map_cons, Env.get] at this ⊢
  split
  ·rename_i e
   rw [if_pos e] at this
   exact dn_ok this
  rename_i e
  rw [if_neg e] at this
  exact ih this
theorem ER.mini {Ψ : Ty} {E : Env} {T : TE} {tmps : Array Value} (h : ER Ψ E tmps) (hs : Same E T) (op : Op) : ER Ψ (TE.mini T op) tmps := by
 intro t
 rcases mini_or T (opT op) t with e | e
 ·rw [show (TE.mini T op).get t = TE.get T t from e, ← hs t]; exact h t
 rw [show (TE.mini T op).get t = .undef from e]; exact .undef _
/-- How an operation came to its result. -/
inductive OpRes (P : Program) (call : CallT) (Y : YF) (σ : Sg) (T : TE) (op : Op) (r : PV × Sg) : Prop
 | did (h : opD P call Y σ (TE.mini T op) op = some r)
 | cst (v : Value) (h : op = .assign (.const v)) (hr : r = (cstI v, σ))
 | md (m : Nat) (h : modeI P m σ (TE.mini T op) op = some r)
 | dnil (hw : whom (TE.mini T op) op = .nobody) (h : effOp P σ (denil (TE.mini T op)) op = some r)
theorem opI_res {P : Program} {call : CallT} {Y : YF} {σ : Sg} {T : TE} {op : Op} {r : PV × Sg} (h : opI P call Y σ (TE.mini T op) op = some r) : OpRes P call Y σ T op r := by
 unfold opI at h
 cases hw : whom (TE.mini T op) op with
 | nobody =>
  rw [hw] at h
  simp only at h
  unfold effI at h
  split at h
  ·rename_i v
   refine .cst v rfl ?_
   unfold cstI
   split at h <;> (injection h with h; simp_all)
  split at h
  ·rename_i r' hr
   injection h with h
   subst h
   exact .did (opD_eff hw hr)
  exact .dnil hw h
 | fn f args =>
  rw [hw] at h
  refine .did ?_
  unfold opD
  rw [hw]
  exact h
 | yield y args =>
  rw [hw] at h
  refine .did ?_
  unfold opD
  rw [hw]
  exact h
theorem opF_res {P : Program} {call : CallT} {Y : YF} {σ : Sg} {T : TE} {op : Op} {r : PV × Sg} (h : (opF P op).run call Y σ T = some r) : OpRes P call Y σ T op r := by
 unfold opF at h
 split at h
 ·rename_i v hv
  injection h with h
  unfold constF at hv
  split at hv
  ·rename_i v'
   injection hv with hv
   exact .cst v' rfl (by rw [← h, ← hv]; rfl)
  cases hv
 split at h
 ·rename_i f hf
  simp only at h
  split at h
  ·rename_i r' hr
   injection h with h
   subst h
   exact .did (fast_ok hf hr)
  exact opI_res h
 exact opI_res h
theorem opM_res {P : Program} {m : Nat} {call : CallT} {Y : YF} {σ : Sg} {T : TE} {op : Op} {r : PV × Sg} (h : (opM P m op).run call Y σ T = some r) : OpRes P call Y σ T op r := by
 cases m with
 | zero => exact opF_res h
 | succ m => exact .md (m + 1) h
theorem wantF_none {ops : Array Oper} {o : Oper} (h : wantF ops o = none) (E : Env) : wantedPV ops E o = some true := by
 unfold wantF at h
 unfold wantedPV
 cases hg : o.guard with
 | none => rfl
 | some g =>
  obtain ⟨j, want⟩ := g
  rw [hg] at h
  simp only at h
  split at h <;> cases h
theorem wantF_some {ops : Array Oper} {o : Oper} {w : WF} (h : wantF ops o = some w) {E : Env} {T : TE} (hs : Same E T) : w.want T = wantedPV ops E o := by
 unfold wantF at h
 unfold wantedPV
 cases hg : o.guard with
 | none => rw [hg] at h; cases h
 | some g =>
  obtain ⟨j, want⟩ := g
  rw [hg] at h
  simp only at h ⊢
  split at h
  ·rename_i hn
   injection h with h
   subst h
   rw [hn]
  rename_i t ht
  injection h with h
  subst h
  rw [ht]
  simp only
  rw [hs t]
  rfl
theorem opsF_ok {D : List Nat} {P : Program} {Yr : YEnv} {call : CallT} {Y : YF} {mo : Nat → Nat} {N : Nat} {rd : Option Nat} {ops : Array Oper} {Ψ0 : Ty} {Q : Exit → Act → World → Prop} {T' : TE} {σ' : Sg} (hc : CallOK P Yr call) (hyf : YFOK Y Yr) :
 ∀ (os : List Oper) (is : List Nat), (∀ n : Nat, os[n]? = (is[n]?).bind fun i => ops[i]?) → os.length = is.length → ∀ (E : Env) (T : TE) (σ : Sg) (Ψ : Ty) (a : Act) (w : World), Same E T → Ψ0.le Ψ → Rel N D Ψ E σ a w → YOK P Yr Ψ0 →
 (opsF P mo N ops os).run call Y T σ = some (T', σ') → (∀ E' Ψ' a' w', Same E' T' → Ψ0.le Ψ' → Rel N D Ψ' E' σ' a' w' → Below Ψ0.base w w' → Q .normal a' w') → wpOpsIn (FnOf Ψ0 rd) 0 P ops Q is a w := by
 intro os
 induction os with
 | nil =>
  intro is _ hl E T σ Ψ a w hsame le hr _ hg hk
  cases is with
  | nil =>
   injection hg with hg
   injection hg with h1 h2
   subst h1 h2
   exact hk E Ψ a w hsame le hr (Below.refl _ _)
  | cons => simp at hl
 | cons o os ih =>
  intro is his hl E T σ Ψ a w hsame le hr hy hg hk
  cases is with
  | nil => simp at hl
  | cons i is =>
   have h0 := his 0
   simp only [List.getElem?_cons_zero, Option.bind_some] at h0
   have his' : ∀ n : Nat, os[n]? = (is[n]?).bind fun i => ops[i]? := fun n => by simpa using his (n + 1)
   have hl' : os.length = is.length := by simpa using hl
   simp only [opsF] at hg
   cases hd : dstOK N o && dst12 o with
   | false => rw [hd] at hg; cases hg
   | true =>
    rw [hd] at hg
    simp only [Bool.and_eq_true] at hd
    obtain ⟨hd, hd2⟩ := hd
    simp only at hg
    simp only [wpOpsIn, ← h0]
    have fin : ∀ {v : PV} {σ1 : Sg} {x : Value} {w' : World} {Ψ' : Ty}, Ψ.le Ψ' → SR Ψ' σ1 w' → VR Ψ' v x → Below Ψ.base w w' → (opsF P mo N ops os).run call Y ((putOF o.dst).put v T) σ1 = some (T', σ') → wpOpsIn (FnOf Ψ0 rd) 0 P ops Q is (a.put o.dst x) w' := by
     intro v σ1 x w' Ψ' le' hs' hv hb hg'
     exact ih is his' hl' _ _ σ1 Ψ' _ w' (hsame.put (dst12_le hd2) v) (le.trans le') (hr.put le' hs' hd hv) hy hg' fun E2 Ψ2 a2 w2 s2 l2 r2 b2 => hk E2 Ψ2 a2 w2 s2 l2 r2 (Below.trans (by rw [← le.base]; exact hb) b2)
    have doit : ∀ {r : PV × Sg}, wantedPV ops E o = some true → (opM P (modeOf mo o.dst) o.op).run call Y σ T = some r → (opsF P mo N ops os).run call Y ((putOF o.dst).put r.1 T) r.2 = some (T', σ') →
     wpOpsIn (FnOf Ψ0 rd) 0 P ops Q (i :: is) a w := by
     intro r hw hop hg'
     simp only [wpOpsIn, ← h0]
     rw [wanted_ok hw hr.env]
     simp only [if_true]
     refine ⟨fun f _ => FnOf_fn _ _ _, ?_⟩
     have hmini := hr.env.mini hsame o.op
     have eff : ∀ {E1 : Env}, ER Ψ E1 a.tmps → effOp P σ E1 o.op = some r → _ := fun he heff => effOp_ok (o := o) heff hr.sg he
     rcases opM_res hop with hdid | ⟨v, hv, hr'⟩ | ⟨m, hmd⟩ | ⟨hwh, heff⟩
     ·unfold opD at hdid
      cases hwh : whom (TE.mini T o.op) o.op with
      | nobody =>
       rw [hwh] at hdid
       simp only at hdid
       obtain ⟨nx, x, w', Ψ', k1, k2, k3, k4, k5, k6⟩ := effOp_ok hdid hr.sg hmini
       rw [Oper.semAt_eq _ _ _ (effOp_not_defer hdid), k1]
       rcases k2 with rfl | ⟨rfl, rfl⟩
       ·exact fin k3 k4 k5 k6 hg'
       exact fin k3 k4 k5 k6 hg'
      | fn f args =>
       rw [hwh] at hdid
       simp only at hdid
       have hpc := hc f args σ r.1 r.2 hdid
       obtain ⟨hnd, vals, k1, k2⟩ := whom_fn hwh hmini hpc.1 w
       rw [Oper.semAt_eq _ _ _ hnd, k1]
       refine ⟨fun h => (by rw [FnOf_depth] at h; cases h), ?_⟩
       refine CallsIn.mono (callsIn_FnOf (hpc.2 Ψ vals w hr.sg k2 (hy.mono le))) fun e w' hh => ?_
       obtain ⟨x, Ψ', rfl, l1, l2, l3, l4⟩ := hh
       exact fin l1 l2 l3 l4 hg'
      | yield y args =>
       rw [hwh] at hdid
       simp only at hdid
       obtain ⟨b, hb, hargs⟩ := hyf y args σ r.1 r.2 hdid
       obtain ⟨hnd, vals, l, d, hl1, k2, hrun⟩ := whom_yield hwh hmini
       obtain ⟨l', r0, hl2, hround⟩ := (hy.mono le).2 y args σ b r.2 hargs
       rw [hl1] at hl2
       injection hl2 with hl2
       injection hl2 with hl2 _
       subst hl2
       obtain ⟨rr, q1, q2, q3⟩ := hround Ψ vals w (Ty.le.refl _) hr.sg k2
       rw [Oper.semAt_eq _ _ _ hnd, hrun P w rr q1 q2]
       refine ⟨fun h => (by rw [FnOf_depth] at h; cases h), ?_⟩
       refine RoundIn.mono (roundIn_FnOf q3) fun e w' hh => ?_
       obtain ⟨Ψ', rfl, l1, l2, l4⟩ := hh
       rw [hb] at hg'
       exact fin l1 l2 (.bool b) l4 hg'
     ·have hnd : ∀ c, o.op ≠ .defer c := fun c e => by rw [hv] at e; cases e
      have hx : (execOp a.eval o).run P w = .ok (.value v) w := by
       obtain ⟨dst, op, type, pos, after, guard⟩ := o
       simp only at hv
       subst hv
       rfl
      rw [Oper.semAt_eq _ _ _ hnd, hx]
      subst hr'
      exact fin (Ty.le.refl _) hr.sg (cstI_ok _ _) (Below.refl _ _) hg'
     ·obtain ⟨hnd, x, w', Ψ', k1, k3, k4, k5, k6⟩ := modeI_ok hmd hr.sg hmini
      rw [Oper.semAt_eq _ _ _ hnd, k1]
      exact fin k3 k4 k5 k6 hg'
     obtain ⟨nx, x, w', Ψ', k1, k2, k3, k4, k5, k6⟩ := effOp_ok heff hr.sg hmini.denil
     rw [Oper.semAt_eq _ _ _ (effOp_not_defer heff), k1]
     rcases k2 with rfl | ⟨rfl, rfl⟩
     ·exact fin k3 k4 k5 k6 hg'
     exact fin k3 k4 k5 k6 hg'
    have doit' : ∀ {r : PV × Sg}, wantedPV ops E o = some true → (opM P (modeOf mo o.dst) o.op).run call Y σ T = some r → (opsF P mo N ops os).run call Y ((putOF o.dst).put r.1 T) r.2 = some (T', σ') → _ := fun h1 h2 h3 => by
     have := doit h1 h2 h3
     simp only [wpOpsIn, ← h0] at this
     exact this
    cases hwf : wantF ops o with
    | none =>
     rw [hwf] at hg
     simp only at hg
     split at hg
     ·cases hg
     rename_i v σ1 hop
     exact doit' (wantF_none hwf E) hop hg
    | some wf =>
     rw [hwf] at hg
     simp only at hg
     have hw := wantF_some hwf hsame
     split at hg
     ·cases hg
     ·rename_i hwn
      rw [hw] at hwn
      rw [wanted_ok hwn hr.env]
      simp only [Bool.false_eq_true, if_false]
      exact ⟨fun f _ => FnOf_fn _ _ _, fin (Ty.le.refl _) hr.sg (skipped_ok _) (Below.refl _ _) hg⟩
     rename_i hwn
     rw [hw] at hwn
     split at hg
     ·cases hg
     rename_i v σ1 hop
     exact doit' hwn hop hg
/-- A region's code, run. -/
theorem W_ops {P : Program} {Yr : YEnv} {call : CallT} {Y : YF} {mo : Nat → Nat} {N : Nat} {rd : Option Nat} {lo : Nat × Nat} {id : Nat} {ops : Array Oper} {E : Env} {T T' : TE} {σ σ' : Sg} (hc : CallOK P Yr call) (hyf : YFOK Y Yr) (hs : Same E T)
 (h : (opsF P mo N ops ops.toList).run call Y T σ = some (T', σ')) : W P Yr N rd lo (.region id ops false) E σ (fun ex E1 σ1 => ex = .normal ∧ Same E1 T' ∧ σ1 = σ') := by
 intro Ψ0 D _ hy _ Ψ a w le hr
 refine wpIn_region ?_
 refine opsF_ok hc hyf ops.toList (List.range ops.size) ?_ (by simp) E T σ Ψ a w hs le hr hy h ?_
 ·intro n
  simp only [Array.getElem?_toList]
  by_cases hn : n < ops.size
  ·simp [hn]
  simp [hn]
 intro E' Ψ' a' w' hs' le' hr' hb
 exact ⟨E', σ', Ψ', le', hr', hb, rfl, hs', rfl⟩
theorem tmM_mem {x : Option Operand} {y : Operand} {t : Nat} {l : List Nat} (hx : x = some y) (h : y = .tmp t) : t ∈ tmM x l := by
 subst hx h; exact List.mem_cons_self ..
theorem tmM_sub {x : Option Operand} {l : List Nat} {t : Nat} (h : t ∈ l) : t ∈ tmM x l := by
 cases x with
 | none => exact h
 | some x => exact tmO_sub h
theorem tmP_mem {xs : List (Nat × Operand)} {t n : Nat} (h : (n, Operand.tmp t) ∈ xs) : t ∈ tmP xs := by
 induction xs with
 | nil => cases h
 | cons x r ih =>
  rcases List.mem_cons.1 h with rfl | h
  ·exact List.mem_cons_self ..
  exact tmO_sub (ih h)
section
variable {P : Program} {σ : Sg} {E : Env} {T : TE}
/-- An operation sees no more than its own temporaries. -/
theorem effOp_mini (hs : Same E T) (op : Op) : effOp P σ E op = effOp P σ (TE.mini T op) op := by
 have e : ∀ x : Operand, (∀ t, x = .tmp t → t ∈ opT op) → ev E x = ev (TE.mini T op) x := fun x hx => by
  cases x with
  | tmp t => exact (hs t).trans (mini_get (hx t rfl)).symm
  | const v => rfl
  | global g => rfl
  | func f => rfl
 have en : ∀ x : Operand, (∀ t, x = .tmp t → t ∈ opT op) → evN E x = evN (TE.mini T op) x := fun x hx => by
  cases x with
  | tmp t => exact e _ hx
  | const v => rfl
  | global g => rfl
  | func f => rfl
 have m : ∀ x t l, x = Operand.tmp t → t ∈ tmO x l := fun x t l h => by subst h; exact List.mem_cons_self ..
 have el : ∀ xs : List Operand, (∀ t, Operand.tmp t ∈ xs → t ∈ opT op) → xs.map (ev E) = xs.map (ev (TE.mini T op)) := fun xs hx => List.map_congr_left fun x h => e x fun t ht => hx t (ht ▸ h)
 have ep : ∀ xs : List (Nat × Operand), (∀ n t, (n, Operand.tmp t) ∈ xs → t ∈ opT op) → xs.map (fun p => (p.1, ev E p.2)) = xs.map (fun p => (p.1, ev (TE.mini T op) p.2)) := fun xs hx =>
  List.map_congr_left fun x h => by rw [e x.2 fun t ht => hx x.1 t (by obtain ⟨a, b⟩ := x; simp only at ht; subst ht; exact h)]
 have eo : ∀ x : Option Operand, (∀ y t, x = some y → y = Operand.tmp t → t ∈ opT op) → x.map (ev E) = x.map (ev (TE.mini T op)) := fun x hx => by
  cases x with
  | none => rfl
  | some x => exact congrArg some (e x fun t ht => hx x t rfl ht)
 cases op with
 | move x => simp only [effOp, pureOp]; rw [e x fun t h => m x t _ h]
 | assign x => simp only [effOp, pureOp]; rw [e x fun t h => m x t _ h]
 | box t x => simp only [effOp]; rw [e x fun t h => m x t _ h]
 | load t x => simp only [effOp, pureOp]; rw [e x fun t h => m x t _ h]
 | nilCheck x => simp only [effOp, pureOp]; rw [e x fun t h => m x t _ h]
 | unOp o t x => simp only [effOp, pureOp]; rw [e x fun t h => m x t _ h]
 | convert s d x => simp only [effOp, pureOp]; rw [e x fun t h => m x t _ h]
 | fieldAddr s x f => simp only [effOp, pureOp]; rw [e x fun t h => m x t _ h]
 | field s x f => simp only [effOp, pureOp]; rw [e x fun t h => m x t _ h]
 | range t x => simp only [effOp]; rw [e x fun t h => m x t _ h]
 | entry x => simp only [effOp]; rw [e x fun t h => m x t _ h]
 | extract x i => simp only [effOp, pureOp]; rw [e x fun t h => m x t _ h]
 | pick c a b => simp only [effOp, pureOp]; rw [e c fun t h => m c t _ h, e a fun t h => tmO_sub (m a t _ h), e b fun t h => tmO_sub (tmO_sub (m b t _ h))]
 | build t ps => simp only [effOp, pureOp]; rw [ep ps.toList fun n t h => tmP_mem h]
 | buildSlice t n ps => simp only [effOp]; rw [ep ps.toList fun n t h => tmP_mem h]
 | store t a x => simp only [effOp]; rw [e a fun t h => m a t _ h, e x fun t h => tmO_sub (m x t _ h)]
 | binOp o t x y sh => simp only [effOp]; rw [e x fun t h => m x t _ h, e y fun t h => tmO_sub (m y t _ h)]
 | makeSlice t a x => simp only [effOp]; rw [e a fun t h => m a t _ h, e x fun t h => tmO_sub (m x t _ h)]
 | indexAddr t a x => simp only [effOp, pureOp]; rw [e a fun t h => m a t _ h, e x fun t h => tmO_sub (m x t _ h)]
 | index t a x => simp only [effOp, pureOp]; rw [e a fun t h => m a t _ h, e x fun t h => tmO_sub (m x t _ h)]
 | lookup t a x ok => simp only [effOp]; rw [e a fun t h => m a t _ h, e x fun t h => tmO_sub (m x t _ h)]
 | makeFunc f a b => simp only [effOp, pureOp]; rw [el a.toList fun t h => List.mem_append_left _ (tmL_mem h), el b.toList fun t h => List.mem_append_right _ (tmL_mem h)]
 | slice t x l h mx =>
  simp only [effOp, pureOp]
  rw [e x fun t h => m x t _ h, eo l fun y t h1 h2 => tmO_sub (tmM_mem h1 h2), eo h fun y t h1 h2 => tmO_sub (tmM_sub (tmM_mem h1 h2)), eo mx fun y t h1 h2 => tmO_sub (tmM_sub (tmM_sub (tmM_mem h1 h2)))]
 | mapUpdate t mm k v => simp only [effOp]; rw [e mm fun t h => m mm t _ h, e k fun t h => tmO_sub (m k t _ h), en v fun t h => tmO_sub (tmO_sub (m v t _ h))]
 | insert t mm k v => simp only [effOp]; rw [e mm fun t h => m mm t _ h, e k fun t h => tmO_sub (m k t _ h), en v fun t h => tmO_sub (tmO_sub (m v t _ h))]
 | call c =>
  obtain ⟨callee, args, ts⟩ := c
  cases callee with
  | value f => rfl
  | invoke r i => rfl
  | builtin b =>
   have h1 := el args.toList fun t h => tmL_mem h
   cases b with
   | append =>
    simp only [effOp]
    split
    ·rename_i x y t t' hx ht
     rw [e x fun t h => tmL_mem (by rw [hx, ← h]; simp), e y fun t h => tmL_mem (by rw [hx, ← h]; simp)]
    rfl
   | _ => simp only [effOp, pureOp]; rw [h1]
 | makeMap t r => cases r <;> rfl
 | _ => rfl
theorem whom_mini (hs : Same E T) (op : Op) : whom E op = whom (TE.mini T op) op := by
 cases op with
 | call c =>
  obtain ⟨callee, args, ts⟩ := c
  cases callee with
  | value f =>
   have h1 : ev E f = ev (TE.mini T (.call ⟨.value f, args, ts⟩)) f := by
    cases f with
    | tmp t => exact (hs t).trans (mini_get (List.mem_cons_self ..)).symm
    | const v => rfl
    | global g => rfl
    | func f => rfl
   have h2 : args.toList.map (ev E) = args.toList.map (ev (TE.mini T (.call ⟨.value f, args, ts⟩))) := List.map_congr_left fun x h => by
    cases x with
    | tmp t => exact (hs t).trans (mini_get (tmO_sub (tmL_mem h))).symm
    | const v => rfl
    | global g => rfl
    | func f => rfl
   simp only [whom]
   rw [h1, h2]
  | _ => rfl
 | _ => rfl
end
theorem samePV_eq : ∀ (n : Nat) (r q : List PV), samePV n r q = true → r = q := by
  intro n
  induction n with
  | zero => intro r q h; cases h
  | succ n ih =>
    intro r q h
    rcases r with _ | ⟨a, r⟩
    · rcases q with _ | ⟨b, q⟩
      · rfl
      · cases h
    · rcases q with _ | ⟨b, q⟩
      · cases h
      · simp only [samePV] at h
        split at h
        all_goals first
          | (cases h; done)
          | (rw [ih _ _ h]; done)
          | skip
        all_goals simp only [Bool.and_eq_true, decide_eq_true_eq, beq_eq, beq_iff_eq] at h
        all_goals first
          | (obtain ⟨⟨⟨rfl, h⟩, h1⟩, h2⟩ := h
             obtain ⟨rfl, e⟩ := List.append_inj (ih _ _ h) h1
             obtain ⟨rfl, rfl⟩ := List.append_inj e h2
             rfl)
          | (obtain ⟨rfl, h⟩ := h
             rw [ih _ _ h]
             done)
          | (obtain ⟨⟨rfl, rfl⟩, h⟩ := h
             rw [ih _ _ h]
             done)
          | (obtain ⟨⟨⟨rfl, rfl⟩, rfl⟩, h⟩ := h
             rw [ih _ _ h]
             done)
          | (obtain ⟨hl, h⟩ := h
             obtain ⟨rfl, rfl⟩ := List.append_inj (ih _ _ h) hl
             rfl)
          | (obtain ⟨⟨rfl, hl⟩, h⟩ := h
             obtain ⟨rfl, rfl⟩ := List.append_inj (ih _ _ h) hl
             rfl)
          | (obtain ⟨⟨⟨⟨rfl, rfl⟩, rfl⟩, h⟩, hl⟩ := h
             obtain ⟨rfl, rfl⟩ := List.append_inj (ih _ _ h) hl
             rfl)
/-- Two accounts of what was done. -/
def TrR : List TSt → List St → Prop
 | [], [] => True
 | s :: r, g :: q => (g.i = s.i ∧ Same g.E s.T ∧ g.σ = s.σ ∧ g.b = s.b ∧ g.v = s.v) ∧ TrR r q
 | _, _ => False
theorem TrR.at : ∀ {r : List TSt} {q : List St}, TrR r q → ∀ n : Nat, (r[n]? = none ∧ q[n]? = none) ∨ ∃ s g, r[n]? = some s ∧ q[n]? = some g ∧ g.i = s.i ∧ Same g.E s.T ∧ g.σ = s.σ ∧ g.b = s.b ∧ g.v = s.v := by
 intro r
 induction r with
 | nil => intro q h n; cases q with
  | nil => exact .inl ⟨rfl, rfl⟩
  | cons => exact h.elim
 | cons s r ih =>
  intro q h n
  cases q with
  | nil => exact h.elim
  | cons g q =>
   cases n with
   | zero => exact .inr ⟨s, g, rfl, rfl, h.1⟩
   | succ n => exact ih h.2 n
theorem TrR.app : ∀ {r : List TSt} {q : List St}, TrR r q → ∀ {r' : List TSt} {q' : List St}, TrR r' q' → TrR (r ++ r') (q ++ q') := by
 intro r
 induction r with
 | nil => intro q h r' q' k; cases q with
  | nil => exact k
  | cons => exact h.elim
 | cons s r ih =>
  intro q h r' q' k
  cases q with
  | nil => exact h.elim
  | cons g q => exact ⟨h.1, ih h.2 k⟩
theorem TrR.rev : ∀ {r : List TSt} {q : List St}, TrR r q → TrR r.reverse q.reverse := by
 intro r
 induction r with
 | nil => intro q h; cases q with
  | nil => trivial
  | cons => exact h.elim
 | cons s r ih =>
  intro q h
  cases q with
  | nil => exact h.elim
  | cons g q =>
   rw [List.reverse_cons, List.reverse_cons]
   exact (ih h.2).app ⟨h.1, trivial⟩
theorem opDF_res {P : Program} {call : CallT} {Y : YF} {σ : Sg} {T : TE} {op : Op} {r : PV × Sg} (h : (opDF P op).run call Y σ T = some r) : opD P call Y σ (TE.mini T op) op = some r := by
 unfold opDF at h
 split at h
 ·rename_i f hf
  simp only at h
  split at h
  ·rename_i r' hr
   injection h with h
   subst h
   exact fast_ok hf hr
  exact h
 exact h
theorem drawF_ok {P : Program} {Yr : YEnv} {call : CallT} {Y : YF} {N : Nat} {ops : Array Oper} {T' : TE} {σ' : Sg} {tr' : List TSt} {K : List St → Env → Sg → Prop} (hc : CallOK P Yr call) (hyf : YFOK Y Yr)
 (hK : ∀ E' tg, Same E' T' → TrR tr' tg → K tg E' σ') : ∀ (is : List Nat) (E : Env) (T : TE) (σ : Sg) (tr : List TSt) (tg : List St), Same E T → TrR tr tg →
 (drawF P N ops is).run call Y T σ tr = some (tr', T', σ') → GD P Yr N ops is E σ tg K := by
 intro is
 induction is with
 | nil =>
  intro E T σ tr tg hs ht h
  injection h with h
  injection h with h1 h2
  injection h2 with h2 h3
  subst h1 h2 h3
  exact hK E tg hs ht
 | cons i is ih =>
  intro E T σ tr tg hs ht h
  simp only [drawF] at h
  simp only [GD]
  cases ho : ops[i]? with
  | none => rw [ho] at h; cases h
  | some o =>
   rw [ho] at h
   simp only at h ⊢
   cases hd : dstOK N o && dst12 o with
   | false => rw [hd] at h; cases h
   | true =>
    rw [hd] at h
    simp only [Bool.and_eq_true] at hd
    obtain ⟨hd, hd2⟩ := hd
    simp only at h
    refine ⟨hd, ?_⟩
    have doit : ∀ {r : PV × Sg}, wantedPV ops E o = some true → (opDF P o.op).run call Y σ T = some r → (drawF P N ops is).run call Y ((putOF o.dst).put r.1 T) r.2 (⟨i, T, σ, true, r.1⟩ :: tr) = some (tr', T', σ') →
     @GWant (wantedPV ops E o) ⟨GD P Yr N ops is (E.put o.dst (.tuple [])) σ (⟨i, E, σ, false, .tuple []⟩ :: tg) K⟩
      ⟨@GWho (whom E o.op) ⟨fun f args => @GCall P Yr f args σ ⟨fun v σ' => GD P Yr N ops is (E.put o.dst v) σ' (⟨i, E, σ, true, v⟩ :: tg) K⟩⟩
       ⟨fun y args => @GYield Yr y args σ ⟨fun v σ' => GD P Yr N ops is (E.put o.dst v) σ' (⟨i, E, σ, true, v⟩ :: tg) K⟩⟩
       ⟨@GOpt (effOp P σ E o.op) ⟨fun v σ' => GD P Yr N ops is (E.put o.dst v) σ' (⟨i, E, σ, true, v⟩ :: tg) K⟩⟩⟩ := by
     intro r hw hop hrest
     rw [hw, GWant_true]
     have hgo : GD P Yr N ops is (E.put o.dst r.1) r.2 (⟨i, E, σ, true, r.1⟩ :: tg) K := ih _ _ _ _ _ (hs.put (dst12_le hd2) r.1) (show TrR (⟨i, T, σ, true, r.1⟩ :: tr) (⟨i, E, σ, true, r.1⟩ :: tg) from ⟨⟨rfl, hs, rfl, rfl, rfl⟩, ht⟩) hrest
     have hr := opDF_res hop
     unfold opD at hr
     rw [← whom_mini hs o.op, ← effOp_mini hs o.op] at hr
     cases hwh : whom E o.op with
     | nobody =>
      rw [hwh] at hr
      simp only at hr
      rw [GWho_nobody, hr]
      exact hgo
     | fn f args =>
      rw [hwh] at hr
      rw [GWho_fn]
      exact ⟨r.1, r.2, hc f args σ r.1 r.2 hr, hgo⟩
     | yield y args =>
      rw [hwh] at hr
      rw [GWho_yield]
      obtain ⟨b, hb, hargs⟩ := hyf y args σ r.1 r.2 hr
      refine ⟨b, r.2, hargs, ?_⟩
      rw [hb] at hgo
      exact hgo
    cases hwf : wantF ops o with
    | none =>
     rw [hwf] at h
     simp only at h
     split at h
     ·cases h
     rename_i v σ1 hop
     exact doit (wantF_none hwf E) hop h
    | some wf =>
     rw [hwf] at h
     simp only at h
     have hw := wantF_some hwf hs
     split at h
     ·cases h
     ·rename_i hwn
      rw [hw] at hwn
      rw [hwn, GWant_false]
      exact ih _ _ _ _ _ (hs.put (dst12_le hd2) _) (show TrR (⟨i, T, σ, false, .tuple []⟩ :: tr) (⟨i, E, σ, false, .tuple []⟩ :: tg) from ⟨⟨rfl, hs, rfl, rfl, rfl⟩, ht⟩) h
     rename_i hwn
     rw [hw] at hwn
     split at h
     ·cases h
     rename_i v σ1 hop
     exact doit hwn hop h
theorem undefsF_ok : ∀ (os : List Oper) (E : Env) (T : TE), os.all dst12 = true → Same E T → Same (undefs os E) ((undefsF os).run T) := by
  intro os
  induction os with
  | nil => intro E T _ h; exact h
  | cons o os ih =>
    intro E T hd h
    simp only [List.all_cons, Bool.and_eq_true] at hd
    simp only [undefs, undefsF]
    split
    · rename_i t he
      try rw [he]
      exact ih _ _ hd.2 (h.put (dst12_le hd.1) _)
    · rename_i he
      first
        | exact ih _ _ hd.2 h
        | (split
           · rename_i t he'
             exact absurd he' (he t)
           · exact ih _ _ hd.2 h)
theorem demT_ok {P : Program} {ops : Array Oper} {tr : List TSt} {tg : List St} {σf : Sg} (ht : TrR tr tg) : ∀ (plan : List (Nat × Nat)), demT P ops tr σf plan = true → Dem P ops tg σf plan := by
 have hst : ∀ p, st tg σf p = stT tr σf p := fun p => by
  unfold st stT
  rcases ht.at p with ⟨h1, h2⟩ | ⟨s, g, h1, h2, _, _, h3, _⟩
  ·rw [h1, h2]
  rw [h1, h2]; exact h3
 intro plan
 induction plan with
 | nil => intro _; trivial
 | cons x plan ih =>
  obtain ⟨q, p⟩ := x
  intro h
  simp only [demT, Bool.and_eq_true] at h
  refine ⟨?_, ih h.2⟩
  have h := h.1
  rcases ht.at q with ⟨h1, h2⟩ | ⟨s, g, h1, h2, e1, e2, e3, e4, e5⟩
  ·rw [h2]; trivial
  rw [h2]
  rw [h1] at h
  simp only at h ⊢
  rw [e1]
  cases ho : ops[s.i]? with
  | none => trivial
  | some o =>
   refine .inr fun hb => ?_
   rw [e4] at hb
   rw [hb] at h
   simp only [ho] at h
   simp only [Bool.and_eq_true, Bool.not_eq_true'] at h
   obtain ⟨⟨hw, ha⟩, h⟩ := h
   rw [hst, effOp_mini e2 o.op]
   split at h
   ·rename_i v σx hv
    have := samePV_eq _ _ _ h
    injection this with this
    subst this
    rw [hv, e5, quiet hw ha hv]
   cases h
/-- A region that draws its order, run. -/
theorem W_drawn {P : Program} {Yr : YEnv} {call : CallT} {Y : YF} {N : Nat} {rd : Option Nat} {lo : Nat × Nat} {id : Nat} {ops : Array Oper} {E : Env} {T T' : TE} {σ σ' : Sg} {pl : List Nat × List (Nat × Nat) × List (List Nat)} (hm : P.follows .mixedOrders = true) (hc : CallOK P Yr call) (hyf : YFOK Y Yr) (hs : Same E T)
 (h : (regionF P pl N ops).run call Y T σ = some (T', σ')) : W P Yr N rd lo (.region id ops true) E σ (fun ex E1 σ1 => ex = .normal ∧ Same E1 T' ∧ σ1 = σ') := by
 unfold regionF at h
 split at h
 ·cases h
 rename_i hd
 simp only [Bool.and_eq_true] at hd
 simp only at h
 split at h
 ·cases h
 rename_i tr T1 σ1 hrun
 split at h
 ·rename_i hdem
  injection h with h
  injection h with h1 h2
  subst h1 h2
  intro Ψ0 D hb hy hrd Ψ a w le hr
  refine wpIn_region_any hm (draw_any (K := fun E' σ2 => Same E' T1 ∧ σ2 = σ1) pl.1 pl.2.1 pl.2.2 hd.1 ?_ hy le hr fun Ψ' E' σ2 a' w' l1 l2 l3 k => ⟨E', σ2, Ψ', l1, l2, l3, rfl, k.1, k.2⟩)
  refine drawF_ok hc hyf (fun E' tg hs' ht => ?_) pl.1 (undefs ops.toList E) _ σ [] [] (undefsF_ok _ _ _ hd.2 hs) trivial hrun
  exact ⟨demT_ok ht.rev _ hdem, hs', rfl⟩
 cases h
theorem cleanL_ok {nb nr ny : Nat} : ∀ (n : Nat) (l : List PV), cleanL nb nr ny n l = true → ∀ p, p ∈ l → Clean nb nr ny p := by
 intro n
 induction n with
 | zero => intro l h; cases h
 | succ n ih =>
  intro l h p hp
  rcases l with _ | ⟨v, q⟩
  ·cases hp
  have key : Clean nb nr ny v ∧ ∀ p, p ∈ q → Clean nb nr ny p := by
   cases v <;> simp only [cleanL, Bool.and_eq_true, ble_iff] at h
   case undef => exact ⟨.undef, ih _ h⟩
   case bool => exact ⟨.bool _, ih _ h⟩
   case int => exact ⟨.int _ _, ih _ h⟩
   case str => exact ⟨.str _, ih _ h⟩
   case nilptr => exact ⟨.nilptr, ih _ h⟩
   case ptr => exact ⟨.ptr _ _ h.1, ih _ h.2⟩
   case eptr => exact ⟨.eptr _ _ _ _ fun e he => ih _ h e (List.mem_append_left _ he), fun p hp => ih _ h p (List.mem_append_right _ hp)⟩
   case nilsl => exact ⟨.nilsl, ih _ h⟩
   case isl =>
    refine ⟨.isl _ _ (fun e he => ih _ h.2 e (List.mem_append_left _ he)) fun r n es e => ?_, fun p hp => ih _ h.2 p (List.mem_append_right _ hp)⟩
    have := h.1
    rw [e] at this
    exact ble_iff.1 this
   case msl => exact ⟨.msl _ _ _ h.1, ih _ h.2⟩
   case agg => exact ⟨.agg _ fun e he => ih _ h e (List.mem_append_left _ he), fun p hp => ih _ h p (List.mem_append_right _ hp)⟩
   case tuple => exact ⟨.tuple _ fun e he => ih _ h e (List.mem_append_left _ he), fun p hp => ih _ h p (List.mem_append_right _ hp)⟩
   case func => exact ⟨.func _ _ _ (fun e he => ih _ h e (List.mem_append_left _ (List.mem_append_left _ he))) fun e he => ih _ h e (List.mem_append_left _ (List.mem_append_right _ he)), fun p hp => ih _ h p (List.mem_append_right _ hp)⟩
   case yield => exact ⟨.yield _ h.1, ih _ h.2⟩
   case nilfunc => exact ⟨.nilfunc, ih _ h⟩
   case niliface => exact ⟨.niliface, ih _ h⟩
   case iface => exact ⟨.iface _ _ (ih _ h _ (List.mem_cons_self ..)), fun p hp => ih _ h p (List.mem_cons_of_mem _ hp)⟩
   case map => exact ⟨.mapv _ h.1, ih _ h.2⟩
   case nilmap => exact ⟨.nilmap, ih _ h⟩
   case gsl => exact ⟨.gsl _ _ _ h.1, ih _ h.2⟩
   case gnil => exact ⟨.gnil, ih _ h⟩
   case bself => exact ⟨.bself _ _ h.1, ih _ h.2⟩
   case bbuf =>
    exact ⟨.bbuf _ _ _ (.isl _ _ (fun e he => ih _ h.2 e (List.mem_append_left _ he)) fun r n es e => by injection e with e1; subst e1; exact h.1), fun p hp => ih _ h.2 p (List.mem_append_right _ hp)⟩
   case mark => exact ⟨.mark, ih _ h⟩
   case iter => exact ⟨.iter _ h.1, ih _ h.2⟩
   case itst => exact ⟨.itst _ _ _ h.1, ih _ h.2⟩
  rcases List.mem_cons.1 hp with rfl | hp
  ·exact key.1
  exact key.2 p hp
theorem cleanS_ok {nb nr ny : Nat} : ∀ (l : List (Option (List PV))), cleanS nb nr ny l = true → ∀ cs, some cs ∈ l → ∀ p, p ∈ cs → Clean nb nr ny p := by
 intro l
 induction l with
 | nil => intro _ cs h; cases h
 | cons x l ih =>
  intro h cs hc
  cases x with
  | none =>
   rcases List.mem_cons.1 hc with hc | hc
   ·cases hc
   exact ih h cs hc
  | some x =>
   simp only [cleanS, Bool.and_eq_true] at h
   rcases List.mem_cons.1 hc with hc | hc
   ·injection hc with hc
    subst hc
    exact cleanL_ok _ _ h.1
   exact ih h.2 cs hc
theorem cleanS_cut {σ : Sg} {nb nr ny : Nat} {l : List (Option (List PV))} (h : cleanS nb nr ny l = true) (hl : ∀ id cs, id < nb → σ.store[id]? = some (some cs) → some cs ∈ l) : CleanCut σ nb nr ny :=
 fun id cs hid hc p hp => cleanS_ok l h cs (hl id cs hid hc) p hp
theorem roS_ok {m : Nat} {Ψ : Ty} {p : PV} {x : Value} (h : VR Ψ p x) : VR Ψ (roS m p) x := by
 cases m with
 | zero => exact dn_ok h
 | succ m =>
  cases h with
  | nilsl => exact .islnil _ _ trivial
  | islnil own a ho => exact .islnil _ a trivial
  | isl es elems own b o cap vals hs h1 h2 hc ho => exact .isl es elems .ro b o cap vals hs h1 h2 hc trivial
  | undef x => exact .undef x
  | bool b => exact .bool b
  | int k n => exact .int k n
  | str s => exact .str s
  | nilptr => exact .nilptr
  | ptr id off b hb hz => exact .ptr id off b hb hz
  | eptr es elems i off b o vals hs h1 h2 => exact .eptr es elems i off b o vals hs h1 h2
  | msl id off len b cap hb hz hc => exact .msl id off len b cap hb hz hc
  | agg cs vs hl h => exact .agg cs vs hl h
  | tuple cs vs hl h => exact .tuple cs vs hl h
  | func fn fs cs xs ys hl hl' h h' => exact .func fn fs cs xs ys hl hl' h h'
  | yield y l d hy => exact .yield y l d hy
  | nilfunc => exact .nilfunc
  | niliface => exact .niliface
  | iface t p x h => exact .iface t p x h
  | map id b hb => exact .map id b hb
  | nilmap => exact .nilmap
  | iter id b hb => exact .iter id b hb
  | gsl id len es b cap hb hz h0 hc => exact .gsl id len es b cap hb hz h0 hc
  | gnil a => exact .gnil a
  | bself id t b x hb hz hx => exact .bself id t b _ hb hz hx
  | bbuf l r t x h ht => exact .bbuf l r t _ h ht
theorem roC_ok {m : Nat} {Ψ : Ty} {p : PV} {x : Value} (h : VR Ψ p x) : VR Ψ (roC m p) x := by
 cases m with
 | zero => exact h
 | succ m => exact roS_ok (m := m + 1) h
/-- Results, nil slices said to be empty. -/
theorem resF_ok {P : Program} {m : Nat} {σ : Sg} {E : Env} {T : TE} (hs : Same E T) : ∀ (rs : List ResultVar) (l : List PV), (resF P m rs).get σ T = some l →
 ∃ l0, resPV P σ E rs = some l0 ∧ l0.length = l.length ∧ ∀ (j : Nat) (p q : PV), l0[j]? = some p → l[j]? = some q → ∀ Ψ x, VR Ψ p x → VR Ψ q x := by
 intro rs
 induction rs with
 | nil => intro l h; injection h with h; subst h; exact ⟨[], rfl, rfl, fun j p q h => by simp at h⟩
 | cons r rs ih =>
  intro l h
  have key : ∀ (p q : PV) (l1 : List PV), (resF P m rs).get σ T = some l1 → (∀ Ψ x, VR Ψ p x → VR Ψ q x) → l = q :: l1 → ∃ l0, resPV P σ E rs = some l0 ∧ (p :: l0).length = l.length ∧ ∀ (j : Nat) (p' q' : PV), (p :: l0)[j]? = some p' → l[j]? = some q' → ∀ Ψ x, VR Ψ p' x → VR Ψ q' x := by
   intro p q l1 h1 h2 h3
   obtain ⟨l0, k1, k2, k3⟩ := ih l1 h1
   subst h3
   refine ⟨l0, k1, by simp [k2], fun j p' q' a b => ?_⟩
   cases j with
   | zero => simp at a b; subst a b; exact h2
   | succ j => exact k3 j p' q' (by simpa using a) (by simpa using b)
  cases r with
  | tmp t =>
   simp only [resF] at h
   split at h
   ·rename_i l1 h1
    injection h with h
    obtain ⟨l0, k1, k2, k3⟩ := key (E.get t) (roS m ((getF t).get T)) l1 h1 (fun Ψ x k => by rw [hs t] at k; exact roS_ok k) h.symm
    exact ⟨_, by simp only [resPV, k1], k2, k3⟩
   cases h
  | cell a t =>
   simp only [resF] at h
   split at h
   ·rename_i v hv
    split at h
    ·rename_i l1 h1
     injection h with h
     obtain ⟨l0, k1, k2, k3⟩ := key v (roC m v) l1 h1 (fun Ψ x k => roC_ok k) h.symm
     refine ⟨_, ?_, k2, k3⟩
     simp only [resPV, k1]
     rw [hs a]
     have hv' : loadPV P σ t (TE.get T a) = some v := loadF_ok hv
     rw [hv']
    cases h
   cases h
theorem oneOr_weak {l0 l : List PV} (h : l0.length = l.length) (k : ∀ (j : Nat) (p q : PV), l0[j]? = some p → l[j]? = some q → ∀ Ψ x, VR Ψ p x → VR Ψ q x) {Ψ : Ty} {x : Value} (hx : VR Ψ (oneOr l0) x) : VR Ψ (oneOr l) x := by
 have tup : ∀ {a b : List PV} {x : Value}, a.length = b.length → (∀ (j : Nat) (p q : PV), a[j]? = some p → b[j]? = some q → ∀ Ψ x, VR Ψ p x → VR Ψ q x) → VR Ψ (.tuple a) x → VR Ψ (.tuple b) x := by
  intro a b x h k hx
  cases hx with
  | tuple _ vs hl hh =>
   refine .tuple _ vs (by omega) fun j p v h1 h2 => ?_
   have hj : j < a.length := by rw [h]; exact (List.getElem?_eq_some_iff.1 h1).1
   exact k j a[j] p (by simp [hj]) h1 Ψ v (hh j a[j] v (by simp [hj]) h2)
 rcases l0 with _ | ⟨p, _ | ⟨p', l0⟩⟩
 ·rcases l with _ | ⟨q, l⟩
  ·exact hx
  simp at h
 ·rcases l with _ | ⟨q, _ | ⟨q', l⟩⟩
  ·simp at h
  ·exact k 0 p q rfl rfl Ψ x hx
  simp at h
 rcases l with _ | ⟨q, _ | ⟨q', l⟩⟩
 ·simp at h
 ·simp at h
 exact tup h k hx
theorem W_clean {P : Program} {Y : YEnv} {N : Nat} {rd : Option Nat} {lo : Nat × Nat} {c : Code} {E : Env} {σ : Sg} {Q : Exit → Env → Sg → Prop} (fn : Func) (h : W P Y N rd lo c E σ Q) :
 W P Y N rd lo c E σ (fun ex E1 σ1 => Q ex E1 σ1 ∧ CleanSg σ1 ∧ ∀ l, resPV P σ1 E1 fn.results.toList = some l → Clean σ1.store.length σ1.rooms.length σ1.ys.length (oneOr l)) :=
 fun Ψ0 D h1 h2 h4 Ψ a w h5 h6 => wpIn_mono (h Ψ0 D h1 h2 h4 Ψ a w h5 h6) fun _ _ _ ⟨E1, σ1, Ψ1, a1, a2, a3, a4⟩ =>
  ⟨E1, σ1, Ψ1, a1, a2, a3, a4, a2.sg.cleanSg, fun l hl => by
   obtain ⟨x, _, k⟩ := results_ok (P := P) a2.sg a2.env (fn := fn) hl
   exact k.clean a2.sg⟩
theorem finT_ok {P : Program} {m : Nat} {fn : Func} {σ0 σ σ' : Sg} {E : Env} {T : TE} {v : PV} (hs : Same E T) (h : finT P m fn σ0 T σ = some (v, σ')) (hcl : CleanSg σ) (hcr : ∀ l, resPV P σ E fn.results.toList = some l → Clean σ.store.length σ.rooms.length σ.ys.length (oneOr l)) : Fin P fn σ0 v σ' E σ := by
 unfold finT at h
 split at h
 ·cases h
 rename_i l hl
 obtain ⟨l0, k1, k2, k3⟩ := resF_ok hs _ l hl
 split at h
 ·cases h
 rename_i hlen
 simp only [Bool.and_eq_true, beq_eq, ble_iff, lenF_eq] at hlen
 obtain ⟨⟨hy, h1⟩, h2⟩ := hlen
 have whole : v = oneOr l → σ' = σ → Fin P fn σ0 v σ' E σ := by
  rintro rfl rfl
  refine ⟨l0, σ'.store.length, σ'.rooms.length, k1, h1, h2, fun Ψ x hx => ?_, by rw [← hy]; simp [Sg.cut], by rw [← hy]; exact hcl, hy⟩
  have := hcr l0 k1
  rw [hy] at this
  exact oneOr_weak k2 k3 (hx.trim this)
 split at h
 ·injection h with h
  injection h with e1 e2
  exact whole e1.symm e2.symm
 simp only [normN_eq, lenF_eq] at h
 split at h
 ·rename_i hc
  simp only [Bool.and_eq_true] at hc
  injection h with h
  injection h with e1 e2
  subst e1 e2
  refine ⟨l0, σ0.store.length, σ0.rooms.length, k1, Nat.le_refl _, Nat.le_refl _, fun Ψ x hx => (oneOr_weak k2 k3 hx).trim (cleanL_ok _ _ hc.1 _ (List.mem_cons_self ..)), rfl, cleanS_cut hc.2 fun id cs hid hcs => ?_, hy⟩
  refine List.mem_of_getElem? (i := id) ?_
  rw [List.getElem?_take_of_lt hid]
  exact hcs
 injection h with h
 injection h with e1 e2
 exact whole e1.symm e2.symm
theorem SR_drops {Ψ : Ty} {w : World} : ∀ (l : List Nat) (σ : Sg), SR Ψ σ w → SR Ψ (dropsF l σ) w
 | [], _, h => h
 | i :: r, σ, h => SR_drops r (σ.drop i) (h.dropVar i)
theorem PC_drops {P : Program} {Y : YEnv} {f : FuncId} {args : List PV} {σ σ' : Sg} {v : PV} (h : PC P Y f args σ v σ') (l : List Nat) : PC P Y f args σ v (dropsF l σ') :=
 ⟨h.1, fun Ψ vals w hs ha hy => (h.2 Ψ vals w hs ha hy).mono fun _ _ ⟨x, Ψ', e, le, k, hv, hb⟩ => ⟨x, Ψ', e, le, SR_drops l _ k, hv, hb⟩⟩
def Got (ex : Exit) (T : TE) (σ : Sg) : Exit → Env → Sg → Prop := fun ex1 E1 σ1 => ex1 = ex ∧ Same E1 T ∧ σ1 = σ
theorem thenF_inv {r : Out} {k : TE → Sg → Out} {o : Exit × TE × Sg} (h : thenF r k = some o) : (∃ T σ, r = some (.normal, T, σ) ∧ k T σ = some o) ∨ (r = some o ∧ o.1 ≠ .normal) := by
 unfold thenF at h
 split at h
 ·exact .inl ⟨_, _, rfl, h⟩
 rename_i hn
 refine .inr ⟨h, fun e => ?_⟩
 obtain ⟨ex, T, σ⟩ := o
 simp only at e
 subst e
 exact hn _ _ h
theorem argsF_put : ∀ (ps : List Nat) (vs : List PV) (E : Env) (T : TE), (∀ p, p ∈ ps → p ≤ 511) → Same E T → Same (putAll ps vs E) ((argsF ps).lay vs T) := by
 intro ps
 induction ps with
 | nil => intro vs E T _ h; exact h
 | cons p ps ih =>
  intro vs E T hp h
  cases vs with
  | nil => exact h
  | cons v vs =>
   simp only [putAll, argsF]
   exact ih vs _ _ (fun q hq => hp q (List.mem_cons_of_mem _ hq)) (h.put (d := some p) (fun n e => by injection e with e; subst e; exact hp p (List.mem_cons_self ..)) v)
theorem argsF_args : ∀ (k : Nat) (vs : List PV) (i : Nat) (E : Env) (T : TE), vs.length ≤ k → i + k ≤ 512 → (∀ t, i ≤ t → E.get t = .undef) → Same E T → Same (argsEnv i vs ++ E) ((argsF (List.range' i k)).lay vs T) := by
 intro k
 induction k with
 | zero =>
  intro vs i E T h _ _ hs
  cases vs with
  | nil => exact hs
  | cons => simp at h
 | succ k ih =>
  intro vs i E T h hi hu hs
  cases vs with
  | nil => exact hs
  | cons v vs =>
   simp only [List.length_cons] at h
   simp only [argsEnv, List.range'_succ, argsF]
   have hput := hs.put (d := some i) (fun n e => by injection e with e; omega) v
   have := ih vs (i + 1) ((i, v) :: E) _ (by omega) (by omega) (fun t ht => by
    simp only [Env.get]
    rw [if_neg (by omega)]
    exact hu t (by omega)) hput
   intro t
   refine Eq.trans ?_ (this t)
   have ga : ∀ (l : List PV) (j : Nat) (E1 : Env), (argsEnv j l ++ E1).get t = if j ≤ t ∧ t < j + l.length then (l[t - j]?).getD .undef else E1.get t := by
    intro l
    induction l with
    | nil => intro j E1; simp [argsEnv]; intro a b; omega
    | cons x l ihl =>
     intro j E1
     simp only [argsEnv, List.cons_append, Env.get]
     by_cases e : j = t
     ·subst e; simp
     rw [if_neg e, ihl]
     by_cases e2 : j + 1 ≤ t ∧ t < j + 1 + l.length
     ·rw [if_pos e2, if_pos (by simp; omega), show t - j = (t - (j + 1)) + 1 by omega]
      simp
     rw [if_neg e2, if_neg (by simp; omega)]
   simp only [List.cons_append, Env.get]
   rw [ga, ga]
   simp only [Env.get]
   by_cases e : i = t
   ·subst e
    rw [if_pos rfl, if_neg (by omega), if_pos rfl]
   rw [if_neg e, if_neg e]
section
variable {P : Program} (hm : P.follows .mixedOrders = true)
include hm
theorem codeF_ok (A : Aid) (f N : Nat) {call : YF → CallT} (hcall : ∀ Yf Yr, YFOK Yf Yr → CallOK P Yr (call Yf)) : ∀ (c : Code) (n : Nat) (Yf : YF) (Yr : YEnv) (E : Env) (T : TE) (σ : Sg) (rd : Option Nat) (lo : Nat × Nat) (ex : Exit) (T' : TE) (σ' : Sg),
 YFOK Yf Yr → Same E T → (codeF P A f N c).run call n Yf T σ = some (ex, T', σ') → W P Yr N rd lo c E σ (Got ex T' σ') := by
 intro c
 induction c with
 | skip => intro n Yf Yr E T σ rd lo ex T' σ' hy hs h; injection h with h; injection h with h1 h2; injection h2 with h2 h3; subst h1 h2 h3; exact W_skip ⟨rfl, hs, rfl⟩
 | label l => intro n Yf Yr E T σ rd lo ex T' σ' hy hs h; injection h with h; injection h with h1 h2; injection h2 with h2 h3; subst h1 h2 h3; exact W_label ⟨rfl, hs, rfl⟩
 | exit id => intro n Yf Yr E T σ rd lo ex T' σ' hy hs h; injection h with h; injection h with h1 h2; injection h2 with h2 h3; subst h1 h2 h3; exact W_exit ⟨rfl, hs, rfl⟩
 | ret => intro n Yf Yr E T σ rd lo ex T' σ' hy hs h; injection h with h; injection h with h1 h2; injection h2 with h2 h3; subst h1 h2 h3; exact W_ret ⟨rfl, hs, rfl⟩
 | goto l => intro n Yf Yr E T σ rd lo ex T' σ' hy hs h; cases h
 | refuse s => intro n Yf Yr E T σ rd lo ex T' σ' hy hs h; cases h
 | region id ops d =>
  intro n Yf Yr E T σ rd lo ex T' σ' hy hs h
  have inv : ∀ {r : Option (TE × Sg)}, regF r = some (ex, T', σ') → r = some (T', σ') ∧ ex = .normal := by
   intro r h
   unfold regF at h
   split at h
   ·injection h with h; injection h with h1 h2; injection h2 with h2 h3; subst h1 h2 h3; exact ⟨rfl, rfl⟩
   cases h
  cases d with
  | false =>
   obtain ⟨h1, rfl⟩ := inv h
   exact W_ops (hcall Yf Yr hy) hy hs h1
  | true =>
   obtain ⟨h1, rfl⟩ := inv h
   exact W_drawn hm (hcall Yf Yr hy) hy hs h1
 | seq x y ihx ihy =>
  intro n Yf Yr E T σ rd lo ex T' σ' hy hs h
  refine W_seq fun K hK => ?_
  rcases thenF_inv h with ⟨T1, σ1, h1, h2⟩ | ⟨h1, h2⟩
  ·refine W_mono (ihx n Yf Yr E T σ rd lo _ _ _ hy hs h1) fun ex1 E1 σ2 hg => ?_
   obtain ⟨rfl, hs1, rfl⟩ := hg
   exact hK _ _ (ihy n Yf Yr E1 T1 σ2 rd lo _ _ _ hy hs1 h2)
  refine W_mono (ihx n Yf Yr E T σ rd lo _ _ _ hy hs h1) fun ex1 E1 σ2 hg => ?_
  obtain ⟨rfl, hs1, rfl⟩ := hg
  cases ex1 with
  | normal => exact absurd rfl h2
  | _ => exact ⟨rfl, hs1, rfl⟩
 | cond x a b iha ihb =>
  intro n Yf Yr E T σ rd lo ex T' σ' hy hs h
  have he := ev_opd (x := x) (T := T) (E := E) fun t _ => hs t
  simp only [codeF] at h
  split at h
  ·rename_i hv
   exact W_cond_true (he.trans hv) (iha n Yf Yr E T σ rd lo _ _ _ hy hs h)
  ·rename_i hv
   exact W_cond_false (he.trans hv) (ihb n Yf Yr E T σ rd lo _ _ _ hy hs h)
  cases h
 | loop c ih =>
  intro n Yf Yr E T σ rd lo ex T' σ' hy hs h
  refine W_loopK (fun k E1 σ1 => ∃ T1, Same E1 T1 ∧ loopF (codeF P A f N c) call k Yf T1 σ1 = some (ex, T', σ')) n ⟨T, hs, h⟩ fun k E1 σ1 hI => ?_
  obtain ⟨T1, hs1, h1⟩ := hI
  cases k with
  | zero => cases h1
  | succ k =>
   simp only [loopF] at h1
   rcases thenF_inv h1 with ⟨T2, σ2, h2, h3⟩ | ⟨h2, h3⟩
   ·refine W_mono (ih k Yf Yr E1 T1 σ1 rd lo _ _ _ hy hs1 h2) fun ex1 E2 σ3 hg => ?_
    obtain ⟨rfl, hs2, rfl⟩ := hg
    exact ⟨k, Nat.lt_succ_self k, T2, hs2, h3⟩
   refine W_mono (ih k Yf Yr E1 T1 σ1 rd lo _ _ _ hy hs1 h2) fun ex1 E2 σ3 hg => ?_
   obtain ⟨rfl, hs2, rfl⟩ := hg
   cases ex1 with
   | normal => exact absurd rfl h3
   | _ => exact ⟨rfl, hs2, rfl⟩
 | block id c ih =>
  intro n Yf Yr E T σ rd lo ex T' σ' hy hs h
  refine W_block ?_
  simp only [codeF, blockF] at h
  split at h
  ·rename_i id' T1 σ1 h1
   refine W_mono (ih n Yf Yr E T σ rd lo _ _ _ hy hs h1) fun ex1 E1 σ2 hg => ?_
   obtain ⟨rfl, hs1, rfl⟩ := hg
   simp only [InBlock]
   split at h
   ·rename_i hb
    rw [if_pos (beq_eq.1 hb)]
    injection h with h; injection h with h1 h2; injection h2 with h2 h3; subst h1 h2 h3
    exact ⟨rfl, hs1, rfl⟩
   rename_i hb
   rw [if_neg fun e => by rw [beq_eq.2 e] at hb; cases hb]
   injection h with h; injection h with h1 h2; injection h2 with h2 h3; subst h1 h2 h3
   exact ⟨rfl, hs1, rfl⟩
  rename_i hn
  refine W_mono (ih n Yf Yr E T σ rd lo _ _ _ hy hs h) fun ex1 E1 σ2 hg => ?_
  obtain ⟨rfl, hs1, rfl⟩ := hg
  cases ex1 with
  | exit id' => exact absurd h (hn id' _ _)
  | _ => exact ⟨rfl, hs1, rfl⟩
 | scope c ih =>
  intro n Yf Yr E T σ rd lo ex T' σ' hy hs h
  refine W_scope ?_
  simp only [codeF, scopeF] at h
  split at h
  ·cases h
  rename_i hn
  refine W_mono (ih n Yf Yr E T σ rd lo _ _ _ hy hs h) fun ex1 E1 σ2 hg => ?_
  obtain ⟨rfl, hs1, rfl⟩ := hg
  cases ex1 with
  | goto l => exact absurd h (hn l _ _)
  | _ => exact ⟨rfl, hs1, rfl⟩
 | rangeFunc g ps assign body iha ihb =>
  intro n Yf Yr E T σ rd lo ex T' σ' hy hs h
  simp only [codeF] at h
  split at h
  ·cases h
  rename_i hps
  simp only [List.all_eq_true, Bool.and_eq_true, ble_iff] at hps
  simp only at h
  split at h
  ·rename_i gf fs cs hg
   split at h
   ·rename_i v5 σ5 hcl
    have he : ev E g = .func (.func gf) fs cs := (ev_opd (x := g) (T := T) (E := E) fun t _ => hs t).trans hg
    let yf : List PV → Sg → Option (PV × Sg) := roundF ((codeF P A f N assign).run call n Yf) ((codeF P A f N body).run call n Yf) ps.toList T σ.ys.length
    let S : YSem := fun args σ2 b σ2' => yf args σ2 = some (.bool b, σ2')
    have hS : ∀ args σ2 b σ2', S args σ2 b σ2' → Round P Yr N ps.toList assign body E σ.ys.length args σ2 b σ2' := by
     intro args σ2 b σ2' hh
     have hh : roundF ((codeF P A f N assign).run call n Yf) ((codeF P A f N body).run call n Yf) ps.toList T σ.ys.length args σ2 = some (.bool b, σ2') := hh
     unfold roundF at hh
     split at hh
     ·cases hh
     rename_i hlen
     split at hh
     ·rename_i hready
      split at hh
      ·rename_i T3 σ3 hassign
       split at hh
       ·rename_i hready3
        split at hh
        ·rename_i ex4 T4 σ4 hbody
         split at hh
         ·rename_i hbusy
          refine ⟨beq_eq.1 hlen, hready, W_mono (iha n Yf Yr _ _ _ _ _ _ _ _ hy (argsF_put ps.toList args E T (fun p hp => (hps p hp).2) hs) hassign) fun ex1 E1 σ1 hgot => ?_⟩
          obtain ⟨rfl, hs1, rfl⟩ := hgot
          refine ⟨rfl, hready3, W_mono (ihb n Yf Yr _ _ _ _ _ _ _ _ hy hs1 hbody) fun ex1 E2 σ6 hgot => ?_⟩
          obtain ⟨rfl, hs2, rfl⟩ := hgot
          cases ex1 <;> simp only at hh <;> first
           | (cases hh; done)
           | (injection hh with hh; injection hh with h1 h2; injection h1 with h1; subst h1 h2; exact ⟨hbusy, rfl, rfl⟩)
         cases hh
        cases hh
       cases hh
      cases hh
     cases hh
    have hyf : YFOK (Yf.at σ.ys.length yf) (Yr.at σ.ys.length S) := by
     intro y args σ2 v σ2' hh
     unfold YF.at at hh
     split at hh
     ·rename_i he'
      have he' := beq_eq.1 he'
      subst he'
      rw [YEnv.at_self]
      have hb : ∃ b, v = .bool b := by
       have hh : roundF ((codeF P A f N assign).run call n Yf) ((codeF P A f N body).run call n Yf) ps.toList T σ.ys.length args σ2 = some (v, σ2') := hh
       unfold roundF at hh
       repeat' (split at hh)
       all_goals first
        | (cases hh; done)
        | (injection hh with hh; injection hh with h1 h2; exact ⟨_, h1.symm⟩)
      obtain ⟨b, rfl⟩ := hb
      exact ⟨b, rfl, hh⟩
     rename_i hne
     obtain ⟨b, e1, e2⟩ := hy y args σ2 v σ2' hh
     refine ⟨b, e1, ?_⟩
     unfold YEnv.at
     rw [if_neg fun e => by rw [beq_eq.2 e] at hne; cases hne]
     exact e2
    have hpc := hcall _ _ hyf gf (fs ++ [.yield σ.ys.length] ++ cs) σ.pushY v5 σ5 hcl
    have key : ∀ σ6, PC P (Yr.at σ.ys.length S) gf (fs ++ [.yield σ.ys.length] ++ cs) σ.pushY v5 σ6 → cleanS σ6.store.length σ6.rooms.length σ.ys.length σ6.store = true → afterF T σ.ys.length σ6 = some (ex, T', σ') → W P Yr N rd lo (.rangeFunc g ps assign body) E σ (Got ex T' σ') := by
     intro σ6 hpc hclean h
     have hcut : CleanCut σ6 σ6.store.length σ6.rooms.length σ.ys.length := cleanS_cut hclean fun id cs _ hc => List.mem_of_getElem? hc
     unfold afterF at h
     split at h
     ·rename_i hst
      injection h with h; injection h with h1 h2; injection h2 with h2 h3; subst h1 h2 h3
      exact W_rangeFunc he (fun t ht => (hps t ht).1) S hS hpc hst hcut ⟨rfl, hs, rfl⟩
     ·rename_i hst
      injection h with h; injection h with h1 h2; injection h2 with h2 h3; subst h1 h2 h3
      exact W_rangeFunc he (fun t ht => (hps t ht).1) S hS hpc hst hcut (W_ret ⟨rfl, hs, rfl⟩)
     ·rename_i id hst
      injection h with h; injection h with h1 h2; injection h2 with h2 h3; subst h1 h2 h3
      exact W_rangeFunc he (fun t ht => (hps t ht).1) S hS hpc hst hcut (W_exit ⟨rfl, hs, rfl⟩)
     cases h
    unfold afterD at h
    split at h
    ·rename_i hclean
     exact key _ hpc hclean h
    split at h
    ·rename_i hclean
     exact key _ (PC_drops hpc _) hclean h
    cases h
   cases h
  cases h
/-- What a run gives, the program gives. -/
theorem callK_ok (A : Aid) (ho : ∀ f args σ v σ', A.orc f args σ = some (v, σ') → ∀ Y, PC P Y f args σ v σ') : ∀ (n : Nat) (Yf : YF) (Yr : YEnv), YFOK Yf Yr → CallOK P Yr (callK P A n Yf) := by
 intro n
 induction n with
 | zero => intro Yf Yr _ f args σ v σ' h; cases h
 | succ n ih =>
  intro Yf Yr hy f args σ v σ' h
  simp only [callK] at h
  split at h
  ·rename_i r hr
   injection h with h
   subst h
   exact ho f args σ v σ' hr Yr
  unfold funF at h
  split at h
  ·cases h
  rename_i fn hfn
  split at h
  ·cases h
  rename_i c hb
  split at h
  ·cases h
  rename_i hgo
  simp only [Bool.and_eq_true, ble_iff] at hgo
  simp only at h
  split at h
  ·cases h
  rename_i hlen
  have hlen := ble_iff.1 hlen
  refine PC_of_W hfn hb hgo.1 rfl hlen fun _ _ => ?_
  have hargs : Same (argsEnv 0 args) ((argsF (List.range fn.ntmps)).lay args TE.leaf) := by
   have := argsF_args fn.ntmps args 0 [] TE.leaf hlen (by omega) (fun t _ => rfl) fun t => (get_leaf t).symm
   rw [List.append_nil, ← List.range_eq_range'] at this
   exact this
  have fin : ∀ ex T σ1, (codeF P A f fn.ntmps c).run (callK P A n) n Yf ((argsF (List.range fn.ntmps)).lay args TE.leaf) σ = some (ex, T, σ1) → (ex = .normal ∨ ex = .ret) → finT P (A.mode f 999) fn σ T σ1 = some (v, σ') →
   W P Yr fn.ntmps none (σ.store.length, σ.rooms.length) c (argsEnv 0 args) σ (fun ex E' σ2 => (ex = .normal ∨ ex = .ret) ∧ Fin P fn σ v σ' E' σ2) := by
   intro ex T σ1 hrun hex hfin
   refine W_mono (W_clean fn (codeF_ok hm A f fn.ntmps ih c n Yf Yr _ _ σ none _ ex T σ1 hy hargs hrun)) fun ex1 E1 σ2 hg => ?_
   obtain ⟨⟨rfl, hs1, rfl⟩, hcl, hcr⟩ := hg
   exact ⟨hex, finT_ok hs1 hfin hcl hcr⟩
  unfold endF at h
  split at h
  ·rename_i T σ1 hrun
   exact fin _ _ _ hrun (.inl rfl) h
  ·rename_i T σ1 hrun
   exact fin _ _ _ hrun (.inr rfl) h
  cases h
end
def isWhole : Sz → Bool
 | .whole _ => true
 | _ => false
/-- What is known for ever, all that there is taken for old. -/
def Ty.elder (Ψ : Ty) (n : Nat) : Ty := { base := n, imm := Ψ.imm, β := [], hist := fun _ _ => none, ys := [], ds := [], rs := [], sz := Ψ.sz.filter fun x => isWhole x.2 }
theorem SR.elder {Ψ : Ty} {σ : Sg} {w : World} (h : SR Ψ σ w) : SR (Ψ.elder w.heap.size) ⟨[], [], []⟩ w := by
 refine ⟨Nat.le_refl _, h.imm, rfl, fun id cs b h1 => ?_, fun id id' cs cs' b h1 => ?_, fun r n b e c es h1 => ?_, fun r n r' n' b e c es e' c' es' h1 => ?_, fun r n x h1 => ?_, fun r m n x h1 => ?_, fun id b h1 => ?_, fun y l d s h1 => ?_, ⟨rfl, fun y y' l r r' h1 => ?_⟩, fun d h1 => ?_, fun b c h1 => ?_, fun b s h1 => ?_⟩
 ·simp at h1
 ·simp at h1
 ·simp at h1
 ·simp at h1
 ·cases h1
 ·cases h1
 ·simp [Ty.elder] at h1
 ·simp [Ty.elder] at h1
 ·simp [Ty.elder] at h1
 ·cases h1
 ·cases h1
 obtain ⟨h2, h3⟩ := List.mem_filter.1 h1
 have h4 := h.szok b s h2
 cases s with
 | whole c =>
  obtain ⟨k1, k2⟩ := h4
  exact ⟨Nat.lt_of_lt_of_le k1 h.base, k2⟩
 | n k => cases h3
 | ty t k => cases h3
theorem GOK.elder {P : Program} {Ψ : Ty} (h : GOK P Ψ) (n : Nat) : GOK P (Ψ.elder n) :=
 ⟨fun g k => List.mem_filter.2 ⟨h.tab g k, rfl⟩, fun g k => h.max g k, fun q m hm g k => h.err q m hm g k⟩
theorem PC.frame {P : Program} {f : FuncId} {v : PV} {σ0 : Sg} (hv : ∀ Ψ Ψ' x, VR Ψ v x → VR Ψ' v x) (h : PC P noY f [] ⟨[], [], []⟩ v σ0) (Y : YEnv) (σ : Sg) : PC P Y f [] σ v σ := by
 refine ⟨h.1, fun Ψ vals w hs ha hy => ?_⟩
 have hv0 : vals = #[] := Array.eq_empty_of_size_eq_zero ha.1
 subst hv0
 refine CallsIn.mono (h.2 (Ψ.elder w.heap.size) #[] w hs.elder (VRs.nil _) (.none (hy.1.elder _))) ?_
 rintro e w' ⟨x, Ψ', rfl, _, _, hx, hb⟩
 refine ⟨x, Ψ, rfl, Ty.le.refl _, hs.more (fun k hk => hb.block k hk) hb.size, hv _ _ _ hx, ?_⟩
 exact ⟨hb.os, hb.tape, hb.output, hb.size, fun k hk => hb.block k (Nat.lt_of_lt_of_le hk hs.base)⟩
theorem bool_any {b : Bool} : ∀ (Ψ Ψ' : Ty) (x : Value), VR Ψ (.bool b) x → VR Ψ' (.bool b) x := fun Ψ Ψ' x h => by rw [h.bool_inv]; exact .bool b
abbrev PlanT := List (Nat × List Nat × List (Nat × Nat) × List (List Nat))
def planOf : PlanT → Nat → List Nat × List (Nat × Nat) × List (List Nat)
 | [], _ => ([], [], [])
 | (k, x) :: r, i => cond (Nat.beq k i) x (planOf r i)
/-- Plans listed by function and region. -/
def modeAt : List (Nat × Nat) → Nat → Nat
 | [], _ => 0
 | (k, m) :: r, i => cond (Nat.beq k i) m (modeAt r i)
def aidOf (l : PlanT) (o : Orc) (ms : List (Nat × Nat) := []) : Aid := ⟨fun f id => planOf l (f * 1000 + id), o, fun f d => modeAt ms (f * 1000 + d)⟩
def noYF : YF := fun _ _ _ => none
def saysTrue : Option (PV × Sg) → Bool
 | some (.bool true, _) => true
 | _ => false
/-- A call of no arguments that, run, says true. -/
theorem PC_run {P : Program} (hm : P.follows .mixedOrders = true) {A : Aid} (ho : ∀ f args σ v σ', A.orc f args σ = some (v, σ') → ∀ Y, PC P Y f args σ v σ') {n : Nat} {f : FuncId} (h : saysTrue (callK P A n noYF f [] ⟨[], [], []⟩) = true) (Y : YEnv) (σ : Sg) : PC P Y f [] σ (.bool true) σ := by
 unfold saysTrue at h
 split at h
 ·rename_i σ0 hr
  exact PC.frame bool_any (callK_ok hm A ho n noYF noY (fun y args σ v σ' h => by cases h) f [] _ _ _ hr) Y σ
 cases h
set_option maxRecDepth 1000000
def planT : PlanT := [(7004, [0,1,2,3,4,5,6,7,8,9,10,11,12,13,14,15,16,17,18,19,20,21,22,23,24,25,26,27,28,29,30,31,32,33,34], [(22,24),(22,25),(22,27),(30,35)], [[],[0],[1,0],[2,1,0],[3,2,1,0],[2,4,1,0,3],[5,2,4,1,0,3],[6,5,2,4,1,0,3],[7,6,5,2,4,1,0,3],[6,8,5,2,4,1,0,3,7],[9,6,8,5,2,4,1,0,3,7],[10,9,6,8,5,2,4,1,0,3,7],[10,9,6,8,5,2,4,1,0,3,7],[12,10,9,6,8,5,2,4,1,0,3,7],[10,9,6,8,5,2,4,1,0,3,7],[14,10,9,6,8,5,2,4,1,0,3,7],[10,9,6,8,5,2,4,1,0,3,7],[16,10,9,6,8,5,2,4,1,0,3,7],[13,15,17,10,12,9,6,8,5,2,4,1,0,3,7,14,16],[11,18,10,9,6,8,5,2,4,1,0,3,7,13,15,17,12,14,16],[10,19,9,6,8,5,2,4,1,0,3,7,11,18,13,15,17,12,14,16],[20,19,10,9,6,8,5,2,4,1,0,3,7,11,18,13,15,17,12,14,16],[21,20,19,10,9,6,8,5,2,4,1,0,3,7,11,18,13,15,17,12,14,16],[21,20,19,10,9,6,8,5,2,4,1,0,3,7,11,18,13,15,17,12,14,16],[23,21,20,19,10,9,6,8,5,2,4,1,0,3,7,11,18,13,15,17,12,14,16],[24,21,23,20,19,10,9,6,8,5,2,4,1,0,3,7,11,18,13,15,17,12,14,16],[23,24,25,21,20,19,10,9,6,8,5,2,4,1,0,3,7,11,18,13,15,17,12,14,16],[22,26,25,21,20,19,10,9,6,8,5,2,4,1,0,3,7,11,18,13,15,17,12,14,16,23,24],[21,27,20,19,10,9,6,8,5,2,4,1,0,3,7,11,18,13,15,17,12,14,16,22,26,25,23,24],[28,27,21,20,19,10,9,6,8,5,2,4,1,0,3,7,11,18,13,15,17,12,14,16,22,26,25,23,24],[29,28,27,21,20,19,10,9,6,8,5,2,4,1,0,3,7,11,18,13,15,17,12,14,16,22,26,25,23,24],[29,28,27,21,20,19,10,9,6,8,5,2,4,1,0,3,7,11,18,13,15,17,12,14,16,22,26,25,23,24],[30,31,29,28,27,21,20,19,10,9,6,8,5,2,4,1,0,3,7,11,18,13,15,17,12,14,16,22,26,25,23,24],[29,32,28,27,21,20,19,10,9,6,8,5,2,4,1,0,3,7,11,18,13,15,17,12,14,16,22,26,25,23,24,30,31],[33,31,0,1,2,3,4,5,6,7,8,9,10,11,12,13,14,15,16,17,18,19,20,21,22,23,24,25,26,27,28,29,30,32]]), (13007, [0,1,2,3,4,5,6,7,8,9,10,11,12,13,14], [(6,5),(7,5),(8,5),(9,5),(10,5)], [[],[],[1],[],[3],[0,2,4,1,3],[],[],[7],[],[9],[6,8,10,5,7,9,0,2,4,1,3],[5,11,0,2,4,1,3,6,8,10,7,9],[12,11,0,1,2,3,4,5,6,7,8,9,10],[13,0,1,2,3,4,5,6,7,8,9,10,11,12]]), (32008, [0,1,2,3,4,5,6,7,8,9,10,11,12,13,14,15,16,17,18,19,20], [(0,15),(0,19),(8,19),(9,7),(10,7),(11,7),(12,7),(13,7),(14,7)], [[],[],[],[],[],[],[5],[1,2,3,4,6,5],[7,1,2,3,4,6,5],[],[],[],[],[],[13],[9,10,11,12,14,7,13,1,2,3,4,6,5],[15,9,10,11,12,14,7,13,1,2,3,4,6,5],[8,16,7,1,2,3,4,6,5,15,9,10,11,12,14,13],[17,8,16,7,1,2,3,4,6,5,15,9,10,11,12,14,13],[0,18,15,17,8,16,7,1,2,3,4,6,5,9,10,11,12,14,13],[19,0,1,2,3,4,5,6,7,8,9,10,11,12,13,14,15,16,17,18]]), (33006, [0,1,2,3,4,5,6,7,8,9,10,11,12,13,14,15,16,17,18,19,20,21,22,23,24,25,26,27,28,29,30,31,32,33,34,35,36,37], [], [[],[],[0,1],[2,0,1],[3,2,0,1],[],[],[5,6],[7,5,6],[8,7,5,6],[4,9,3,2,0,1,8,7,5,6],[10,4,9,3,2,0,1,8,7,5,6],[11,10,4,9,3,2,0,1,8,7,5,6],[11,10,4,9,3,2,0,1,8,7,5,6],[12,13,11,10,4,9,3,2,0,1,8,7,5,6],[14,11,12,13,10,4,9,3,2,0,1,8,7,5,6],[15,11,14,12,13,10,4,9,3,2,0,1,8,7,5,6],[11,10,4,9,3,2,0,1,8,7,5,6],[11,10,4,9,3,2,0,1,8,7,5,6],[17,18,11,10,4,9,3,2,0,1,8,7,5,6],[19,11,17,18,10,4,9,3,2,0,1,8,7,5,6],[20,11,19,17,18,10,4,9,3,2,0,1,8,7,5,6],[16,21,11,15,14,12,13,10,4,9,3,2,0,1,8,7,5,6,20,19,17,18],[11,22,10,4,9,3,2,0,1,8,7,5,6,16,21,15,14,12,13,20,19,17,18],[23,11,22,10,4,9,3,2,0,1,8,7,5,6,16,21,15,14,12,13,20,19,17,18],[24,23,11,22,10,4,9,3,2,0,1,8,7,5,6,16,21,15,14,12,13,20,19,17,18],[24,23,11,22,10,4,9,3,2,0,1,8,7,5,6,16,21,15,14,12,13,20,19,17,18],[25,26,24,23,11,22,10,4,9,3,2,0,1,8,7,5,6,16,21,15,14,12,13,20,19,17,18],[27,24,25,26,23,11,22,10,4,9,3,2,0,1,8,7,5,6,16,21,15,14,12,13,20,19,17,18],[28,24,27,25,26,23,11,22,10,4,9,3,2,0,1,8,7,5,6,16,21,15,14,12,13,20,19,17,18],[24,23,11,22,10,4,9,3,2,0,1,8,7,5,6,16,21,15,14,12,13,20,19,17,18],[24,23,11,22,10,4,9,3,2,0,1,8,7,5,6,16,21,15,14,12,13,20,19,17,18],[30,31,24,23,11,22,10,4,9,3,2,0,1,8,7,5,6,16,21,15,14,12,13,20,19,17,18],[32,24,30,31,23,11,22,10,4,9,3,2,0,1,8,7,5,6,16,21,15,14,12,13,20,19,17,18],[33,24,32,30,31,23,11,22,10,4,9,3,2,0,1,8,7,5,6,16,21,15,14,12,13,20,19,17,18],[29,34,24,28,27,25,26,23,11,22,10,4,9,3,2,0,1,8,7,5,6,16,21,15,14,12,13,20,19,17,18,33,32,30,31],[35,24,29,34,28,27,25,26,23,11,22,10,4,9,3,2,0,1,8,7,5,6,16,21,15,14,12,13,20,19,17,18,33,32,30,31],[24,36,23,11,22,10,4,9,3,2,0,1,8,7,5,6,16,21,15,14,12,13,20,19,17,18,35,29,34,28,27,25,26,33,32,30,31]]), (34006, [0,1,2,3,4,5,6,7,8], [], [[],[],[0,1],[2,0,1],[],[],[4,5],[6,4,5],[3,7,2,0,1,6,4,5]]), (39018, [0,1,2,3,4,5,6,7,8,9,10,11,12,13,14,15], [(0,15),(1,15),(2,15)], [[],[],[1],[],[],[4],[3,5,4],[6,3,5,4],[7,6,3,5,4],[8,7,6,3,5,4],[8,7,6,3,5,4],[9,10,8,7,6,3,5,4],[11,8,9,10,7,6,3,5,4],[8,12,7,6,3,5,4,11,9,10],[0,2,1,3,4,5,6,7,8,9,10,11,12,13],[14,13,11,0,1,2,3,4,5,6,7,8,9,10,12]]), (40005, [0,1,2,3,4,5,6,7,8,9,10,11,12,13,14,15,16], [(4,14),(5,14),(6,14),(13,12)], [[],[],[0,1],[2,0,1],[3,2,0,1],[4,3,2,0,1],[5,3,4,2,0,1],[3,2,0,1],[3,2,0,1],[3,2,0,1],[3,2,0,1],[3,2,0,1],[7,8,9,10,11,3,2,0,1],[3,2,0,1],[6,12,13,3,5,4,2,0,1,7,8,9,10,11],[14,3,6,12,13,5,4,2,0,1,7,8,9,10,11],[3,15,2,0,1,14,6,12,13,5,4,7,8,9,10,11]]), (67006, [0,1,2,3,4,5,6,7,8], [], [[],[],[0,1],[2,0,1],[],[],[4,5],[6,4,5],[3,7,2,0,1,6,4,5]]), (72008, [0,1,2,3,4,5,6], [(0,7),(1,7)], [[],[0],[],[],[3],[2,4,3],[1,5,0,2,4,3]]), (80001, [0,1,2,3,4,5,6,7,8,9,10,11], [], [[],[0],[],[1,2,0],[3,1,2,0],[],[5],[],[6,7,5],[8,6,7,5],[4,9,3,1,2,0,8,6,7,5],[10,0,1,2,3,4,5,6,7,8,9]]), (83017, [0,1,2,3,4,5,6,7,8,9,10,11,12,13,14,15,16], [], [[],[0],[1,0],[2,1,0],[2,1,0],[2,1,0],[5,2,1,0],[4,6,2,1,0,5],[7,2,4,6,1,0,5],[2,1,0],[2,1,0],[9,10,2,1,0],[11,2,9,10,1,0],[3,8,12,2,1,0,7,4,6,5,11,9,10],[13,2,3,8,12,1,0,7,4,6,5,11,9,10],[14,2,13,3,8,12,1,0,7,4,6,5,11,9,10],[2,15,1,0,14,13,3,8,12,7,4,6,5,11,9,10]]), (95006, [0,1,2,3,4,5,6,7,8], [], [[],[],[0,1],[2,0,1],[],[],[4,5],[6,4,5],[3,7,2,0,1,6,4,5]]), (100004, [0,1,2,3,4,5,6,7,8,9,10,11,12,13,14,15,16], [], [[],[],[0,1],[2,0,1],[3,2,0,1],[3,2,0,1],[3,2,0,1],[5,6,3,2,0,1],[7,3,5,6,2,0,1],[3,2,0,1],[3,2,0,1],[10,3,2,0,1],[9,11,3,2,0,1,10],[12,3,9,11,2,0,1,10],[4,8,13,3,2,0,1,7,5,6,12,9,11,10],[14,3,4,8,13,2,0,1,7,5,6,12,9,11,10],[3,15,2,0,1,14,4,8,13,7,5,6,12,9,11,10]]), (100006, [0,1,2,3,4,5,6,7,8,9,10,11,12,13,14,15,16,17], [(2,17),(3,17),(4,17)], [[],[],[],[],[3],[],[],[6],[5,7,6],[8,5,7,6],[],[],[10,11],[12,10,11],[0,1,5,6,7,8,9,13,12,10,11],[14,9,0,1,5,6,7,8,13,12,10,11],[2,4,0,1,3,5,6,7,8,9,10,11,12,13,14,15],[16,13,15,0,1,2,3,4,5,6,7,8,9,10,11,12,14]]), (101010, [0,1,2,3,4,5,6,7,8,9,10,11,12,13,14,15,16,17,18,19], [(2,19),(3,19),(4,19),(5,19)], [[],[],[],[],[],[3,4],[],[],[],[7,8],[6,9,7,8],[10,6,9,7,8],[],[],[12,13],[14,12,13],[0,1,6,7,8,9,10,11,15,14,12,13],[16,11,0,1,6,7,8,9,10,15,14,12,13],[2,5,0,1,3,4,6,7,8,9,10,11,12,13,14,15,16,17],[18,15,17,0,1,2,3,4,5,6,7,8,9,10,11,12,13,14,16]]), (102010, [0,1,2,3,4,5,6,7,8,9,10,11,12,13,14,15,16,17,18,19], [(2,19),(3,19),(4,19),(5,19)], [[],[],[],[],[],[3,4],[],[],[],[7,8],[6,9,7,8],[10,6,9,7,8],[],[],[12,13],[14,12,13],[0,1,6,7,8,9,10,11,15,14,12,13],[16,11,0,1,6,7,8,9,10,15,14,12,13],[2,5,0,1,3,4,6,7,8,9,10,11,12,13,14,15,16,17],[18,15,17,0,1,2,3,4,5,6,7,8,9,10,11,12,13,14,16]]), (104003, [0,1,2,3,4,5,6,7,8,9,10,11,12,13,14,15], [(2,15),(3,15)], [[],[],[],[],[],[],[4,5],[6,4,5],[],[],[8,9],[10,8,9],[0,1,4,5,6,7,11,10,8,9],[12,7,0,1,4,5,6,11,10,8,9],[2,3,0,1,4,5,6,7,8,9,10,11,12,13],[14,11,13,0,1,2,3,4,5,6,7,8,9,10,12]]), (105005, [0,1,2,3,4,5,6,7,8,9,10,11,12,13,14,15,16,17], [], [[],[],[0,1],[2,0,1],[3,2,0,1],[3,2,0,1],[3,2,0,1],[5,6,3,2,0,1],[7,3,5,6,2,0,1],[3,2,0,1],[3,2,0,1],[10,3,2,0,1],[9,11,3,2,0,1,10],[12,3,9,11,2,0,1,10],[4,8,13,3,2,0,1,7,5,6,12,9,11,10],[14,3,4,8,13,2,0,1,7,5,6,12,9,11,10],[15,3,14,4,8,13,2,0,1,7,5,6,12,9,11,10],[3,16,2,0,1,15,14,4,8,13,7,5,6,12,9,11,10]]), (105011, [0,1,2,3,4,5,6,7,8,9,10,11,12,13,14,15,16,17], [(2,17),(3,17),(4,17)], [[],[],[],[],[3],[],[],[6],[5,7,6],[8,5,7,6],[],[],[10,11],[12,10,11],[0,1,5,6,7,8,9,13,12,10,11],[14,9,0,1,5,6,7,8,13,12,10,11],[2,4,0,1,3,5,6,7,8,9,10,11,12,13,14,15],[16,13,15,0,1,2,3,4,5,6,7,8,9,10,11,12,14]]), (105016, [0,1,2,3,4,5,6,7,8,9,10,11,12], [], [[],[],[],[1,2],[3,1,2],[],[],[6],[5,7,6],[8,5,7,6],[0,4,9,3,1,2,8,5,7,6],[10,0,4,9,3,1,2,8,5,7,6],[11,10,0,4,9,3,1,2,8,5,7,6]]), (105017, [0,1,2,3,4,5,6,7,8,9,10,11,12,13,14,15,16,17], [(2,17),(3,17),(4,17)], [[],[],[],[],[3],[],[],[6],[5,7,6],[8,5,7,6],[],[],[10,11],[12,10,11],[0,1,5,6,7,8,9,13,12,10,11],[14,9,0,1,5,6,7,8,13,12,10,11],[2,4,0,1,3,5,6,7,8,9,10,11,12,13,14,15],[16,13,15,0,1,2,3,4,5,6,7,8,9,10,11,12,14]]), (105022, [0,1,2,3,4,5,6,7,8,9,10,11,12], [], [[],[],[],[1,2],[3,1,2],[],[],[6],[5,7,6],[8,5,7,6],[0,4,9,3,1,2,8,5,7,6],[10,0,4,9,3,1,2,8,5,7,6],[11,10,0,4,9,3,1,2,8,5,7,6]]), (105023, [0,1,2,3,4,5,6,7,8,9,10,11,12,13,14,15,16,17], [(2,17),(3,17),(4,17)], [[],[],[],[],[3],[],[],[6],[5,7,6],[8,5,7,6],[],[],[10,11],[12,10,11],[0,1,5,6,7,8,9,13,12,10,11],[14,9,0,1,5,6,7,8,13,12,10,11],[2,4,0,1,3,5,6,7,8,9,10,11,12,13,14,15],[16,13,15,0,1,2,3,4,5,6,7,8,9,10,11,12,14]]), (106001, [0,1,2,3,4,5,6,7,8,9,10,11,12,13,14,15], [(2,15),(3,15)], [[],[],[],[],[],[],[4,5],[6,4,5],[],[],[8,9],[10,8,9],[0,1,4,5,6,7,11,10,8,9],[12,7,0,1,4,5,6,11,10,8,9],[2,3,0,1,4,5,6,7,8,9,10,11,12,13],[14,11,13,0,1,2,3,4,5,6,7,8,9,10,12]]), (106003, [0,1,2,3,4,5,6,7,8,9,10,11,12,13,14,15,16], [], [[],[],[0,1],[2,0,1],[3,2,0,1],[3,2,0,1],[3,2,0,1],[5,6,3,2,0,1],[7,3,5,6,2,0,1],[3,2,0,1],[3,2,0,1],[9,10,3,2,0,1],[11,3,9,10,2,0,1],[4,8,12,3,2,0,1,7,5,6,11,9,10],[13,3,4,8,12,2,0,1,7,5,6,11,9,10],[14,3,13,4,8,12,2,0,1,7,5,6,11,9,10],[3,15,2,0,1,14,13,4,8,12,7,5,6,11,9,10]]), (106005, [0,1,2,3,4,5,6,7,8,9,10,11,12,13,14,15], [], [[],[],[0,1],[2,0,1],[3,2,0,1],[3,2,0,1],[3,2,0,1],[5,6,3,2,0,1],[7,3,5,6,2,0,1],[3,2,0,1],[3,2,0,1],[9,10,3,2,0,1],[11,3,9,10,2,0,1],[4,8,12,3,2,0,1,7,5,6,11,9,10],[13,3,4,8,12,2,0,1,7,5,6,11,9,10],[3,14,2,0,1,13,4,8,12,7,5,6,11,9,10]]), (106008, [0,1,2,3,4,5,6,7,8,9,10,11,12,13,14,15], [(2,15),(3,15)], [[],[],[],[],[],[],[4,5],[6,4,5],[],[],[8,9],[10,8,9],[0,1,4,5,6,7,11,10,8,9],[12,7,0,1,4,5,6,11,10,8,9],[2,3,0,1,4,5,6,7,8,9,10,11,12,13],[14,11,13,0,1,2,3,4,5,6,7,8,9,10,12]]), (107001, [0,1,2,3,4,5,6,7,8,9,10,11,12,13,14,15], [(2,15),(3,15)], [[],[],[],[],[],[],[4,5],[6,4,5],[],[],[8,9],[10,8,9],[0,1,4,5,6,7,11,10,8,9],[12,7,0,1,4,5,6,11,10,8,9],[2,3,0,1,4,5,6,7,8,9,10,11,12,13],[14,11,13,0,1,2,3,4,5,6,7,8,9,10,12]]), (107003, [0,1,2,3,4,5,6,7,8,9,10,11,12,13,14,15], [], [[],[],[0,1],[2,0,1],[3,2,0,1],[3,2,0,1],[3,2,0,1],[5,6,3,2,0,1],[7,3,5,6,2,0,1],[3,2,0,1],[3,2,0,1],[9,10,3,2,0,1],[11,3,9,10,2,0,1],[4,8,12,3,2,0,1,7,5,6,11,9,10],[13,3,4,8,12,2,0,1,7,5,6,11,9,10],[3,14,2,0,1,13,4,8,12,7,5,6,11,9,10]]), (107005, [0,1,2,3,4,5,6,7,8,9,10,11,12,13,14,15,16], [], [[],[],[0,1],[2,0,1],[3,2,0,1],[3,2,0,1],[3,2,0,1],[5,6,3,2,0,1],[7,3,5,6,2,0,1],[3,2,0,1],[3,2,0,1],[9,10,3,2,0,1],[11,3,9,10,2,0,1],[4,8,12,3,2,0,1,7,5,6,11,9,10],[13,3,4,8,12,2,0,1,7,5,6,11,9,10],[14,3,13,4,8,12,2,0,1,7,5,6,11,9,10],[3,15,2,0,1,14,13,4,8,12,7,5,6,11,9,10]]), (107008, [0,1,2,3,4,5,6,7,8,9,10,11,12,13,14,15], [(2,15),(3,15)], [[],[],[],[],[],[],[4,5],[6,4,5],[],[],[8,9],[10,8,9],[0,1,4,5,6,7,11,10,8,9],[12,7,0,1,4,5,6,11,10,8,9],[2,3,0,1,4,5,6,7,8,9,10,11,12,13],[14,11,13,0,1,2,3,4,5,6,7,8,9,10,12]]), (107010, [0,1,2,3,4,5,6,7,8,9,10,11,12,13,14,15], [(2,15),(3,15)], [[],[],[],[],[],[],[4,5],[6,4,5],[],[],[8,9],[10,8,9],[0,1,4,5,6,7,11,10,8,9],[12,7,0,1,4,5,6,11,10,8,9],[2,3,0,1,4,5,6,7,8,9,10,11,12,13],[14,11,13,0,1,2,3,4,5,6,7,8,9,10,12]]), (107013, [0,1,2,3,4,5,6,7,8,9,10,11,12,13,14,15], [], [[],[],[0,1],[2,0,1],[3,2,0,1],[3,2,0,1],[3,2,0,1],[5,6,3,2,0,1],[7,3,5,6,2,0,1],[3,2,0,1],[3,2,0,1],[9,10,3,2,0,1],[11,3,9,10,2,0,1],[4,8,12,3,2,0,1,7,5,6,11,9,10],[13,3,4,8,12,2,0,1,7,5,6,11,9,10],[3,14,2,0,1,13,4,8,12,7,5,6,11,9,10]]), (107015, [0,1,2,3,4,5,6,7,8,9,10,11,12,13,14,15,16], [], [[],[],[0,1],[2,0,1],[3,2,0,1],[3,2,0,1],[3,2,0,1],[5,6,3,2,0,1],[7,3,5,6,2,0,1],[3,2,0,1],[3,2,0,1],[9,10,3,2,0,1],[11,3,9,10,2,0,1],[4,8,12,3,2,0,1,7,5,6,11,9,10],[13,3,4,8,12,2,0,1,7,5,6,11,9,10],[14,3,13,4,8,12,2,0,1,7,5,6,11,9,10],[3,15,2,0,1,14,13,4,8,12,7,5,6,11,9,10]]), (107018, [0,1,2,3,4,5,6,7,8,9,10,11,12,13,14,15], [(2,15),(3,15)], [[],[],[],[],[],[],[4,5],[6,4,5],[],[],[8,9],[10,8,9],[0,1,4,5,6,7,11,10,8,9],[12,7,0,1,4,5,6,11,10,8,9],[2,3,0,1,4,5,6,7,8,9,10,11,12,13],[14,11,13,0,1,2,3,4,5,6,7,8,9,10,12]]), (107021, [0,1,2,3,4,5,6,7,8,9,10,11,12,13,14,15], [(2,15),(3,15)], [[],[],[],[],[],[],[4,5],[6,4,5],[],[],[8,9],[10,8,9],[0,1,4,5,6,7,11,10,8,9],[12,7,0,1,4,5,6,11,10,8,9],[2,3,0,1,4,5,6,7,8,9,10,11,12,13],[14,11,13,0,1,2,3,4,5,6,7,8,9,10,12]]), (126003, [0,1,2,3,4,5,6,7,8,9,10,11,12,13,14,15,16,17,18,19,20,21], [], [[],[0],[],[1,2,0],[3,1,2,0],[4,3,1,2,0],[4,3,1,2,0],[4,3,1,2,0],[4,3,1,2,0],[7,8,4,3,1,2,0],[6,9,4,3,1,2,0,7,8],[10,4,6,9,3,1,2,0,7,8],[4,3,1,2,0],[4,3,1,2,0],[4,3,1,2,0],[13,14,4,3,1,2,0],[15,4,13,14,3,1,2,0],[12,16,4,3,1,2,0,15,13,14],[17,4,12,16,3,1,2,0,15,13,14],[5,11,18,4,3,1,2,0,10,6,9,7,8,17,12,16,15,13,14],[19,4,5,11,18,3,1,2,0,10,6,9,7,8,17,12,16,15,13,14],[4,20,3,1,2,0,19,5,11,18,10,6,9,7,8,17,12,16,15,13,14]]), (126005, [0,1,2,3,4,5,6,7,8,9,10,11,12,13,14,15], [], [[],[],[],[],[2,3],[1,4,2,3],[5,1,4,2,3],[],[],[],[8,9],[7,10,8,9],[11,7,10,8,9],[0,6,12,5,1,4,2,3,11,7,10,8,9],[13,0,6,12,5,1,4,2,3,11,7,10,8,9],[14,13,0,6,12,5,1,4,2,3,11,7,10,8,9]]), (126006, [0,1,2,3,4,5,6,7,8,9,10,11,12,13,14,15,16,17,18,19,20,21,22,23], [(4,23),(5,23),(6,23),(7,23)], [[],[],[],[1,2],[],[],[],[5,6],[],[],[],[9,10],[8,11,9,10],[12,8,11,9,10],[],[],[],[15,16],[14,17,15,16],[18,14,17,15,16],[0,3,1,2,8,9,10,11,12,13,19,18,14,17,15,16],[20,13,0,1,2,3,8,9,10,11,12,19,18,14,17,15,16],[4,7,0,1,2,3,5,6,8,9,10,11,12,13,14,15,16,17,18,19,20,21],[22,19,21,0,1,2,3,4,5,6,7,8,9,10,11,12,13,14,15,16,17,18,20]]), (128001, [0,1,2,3,4,5,6,7,8,9], [], [[],[0],[1,0],[],[3],[4,3],[5,4,3],[2,6,1,0,5,4,3],[0,1,2,3,4,5,6,7],[8,7,0,1,2,3,4,5,6]]), (128002, [0,1,2,3,4,5,6,7,8,9], [], [[],[0],[1,0],[],[3],[4,3],[5,4,3],[2,6,1,0,5,4,3],[0,1,2,3,4,5,6,7],[8,7,0,1,2,3,4,5,6]]), (128003, [0,1,2,3,4,5,6,7,8,9], [], [[],[0],[1,0],[],[3],[4,3],[5,4,3],[2,6,1,0,5,4,3],[0,1,2,3,4,5,6,7],[8,7,0,1,2,3,4,5,6]]), (148017, [0,1,2,3,4,5,6,7,8,9,10,11,12,13,14], [], [[],[0],[1,0],[2,1,0],[2,1,0],[4,2,1,0],[3,5,2,1,0,4],[6,2,3,5,1,0,4],[2,1,0],[2,1,0],[8,9,2,1,0],[10,2,8,9,1,0],[7,11,2,6,3,5,1,0,4,10,8,9],[12,2,7,11,6,3,5,1,0,4,10,8,9],[2,13,1,0,12,7,11,6,3,5,4,10,8,9]]), (149001, [0,1,2,3,4,5,6,7,8,9,10], [], [[],[],[],[1,2],[3,1,2],[],[],[5,6],[7,5,6],[0,4,8,3,1,2,7,5,6],[9,0,4,8,3,1,2,7,5,6]]), (163004, [0,1,2,3,4,5,6,7,8,9,10,11,12,13,14], [], [[],[],[0,1],[2,0,1],[3,2,0,1],[3,2,0,1],[4,5,3,2,0,1],[6,3,4,5,2,0,1],[3,2,0,1],[3,2,0,1],[9,3,2,0,1],[8,10,3,2,0,1,9],[11,3,8,10,2,0,1,9],[7,12,3,6,4,5,2,0,1,11,8,10,9],[3,13,2,0,1,7,12,6,4,5,11,8,10,9]]), (163006, [0,1,2,3,4,5,6,7,8,9,10,11,12,13,14,15,16,17], [(2,17),(3,17),(4,17)], [[],[],[],[],[3],[],[],[6],[5,7,6],[8,5,7,6],[],[],[10,11],[12,10,11],[0,1,5,6,7,8,9,13,12,10,11],[14,9,0,1,5,6,7,8,13,12,10,11],[2,4,0,1,3,5,6,7,8,9,10,11,12,13,14,15],[16,13,15,0,1,2,3,4,5,6,7,8,9,10,11,12,14]]), (164010, [0,1,2,3,4,5,6,7,8,9,10,11,12,13,14,15,16,17,18,19], [(2,19),(3,19),(4,19),(5,19)], [[],[],[],[],[],[3,4],[],[],[],[7,8],[6,9,7,8],[10,6,9,7,8],[],[],[12,13],[14,12,13],[0,1,6,7,8,9,10,11,15,14,12,13],[16,11,0,1,6,7,8,9,10,15,14,12,13],[2,5,0,1,3,4,6,7,8,9,10,11,12,13,14,15,16,17],[18,15,17,0,1,2,3,4,5,6,7,8,9,10,11,12,13,14,16]]), (165010, [0,1,2,3,4,5,6,7,8,9,10,11,12,13,14,15,16,17,18,19], [(2,19),(3,19),(4,19),(5,19)], [[],[],[],[],[],[3,4],[],[],[],[7,8],[6,9,7,8],[10,6,9,7,8],[],[],[12,13],[14,12,13],[0,1,6,7,8,9,10,11,15,14,12,13],[16,11,0,1,6,7,8,9,10,15,14,12,13],[2,5,0,1,3,4,6,7,8,9,10,11,12,13,14,15,16,17],[18,15,17,0,1,2,3,4,5,6,7,8,9,10,11,12,13,14,16]]), (167003, [0,1,2,3,4,5,6,7,8,9,10,11,12,13,14,15], [(2,15),(3,15)], [[],[],[],[],[],[],[4,5],[6,4,5],[],[],[8,9],[10,8,9],[0,1,4,5,6,7,11,10,8,9],[12,7,0,1,4,5,6,11,10,8,9],[2,3,0,1,4,5,6,7,8,9,10,11,12,13],[14,11,13,0,1,2,3,4,5,6,7,8,9,10,12]]), (168005, [0,1,2,3,4,5,6,7,8,9,10,11,12,13,14,15], [], [[],[],[0,1],[2,0,1],[3,2,0,1],[3,2,0,1],[4,5,3,2,0,1],[6,3,4,5,2,0,1],[3,2,0,1],[3,2,0,1],[9,3,2,0,1],[8,10,3,2,0,1,9],[11,3,8,10,2,0,1,9],[7,12,3,6,4,5,2,0,1,11,8,10,9],[13,3,7,12,6,4,5,2,0,1,11,8,10,9],[3,14,2,0,1,13,7,12,6,4,5,11,8,10,9]]), (168011, [0,1,2,3,4,5,6,7,8,9,10,11,12,13,14,15,16,17], [(2,17),(3,17),(4,17)], [[],[],[],[],[3],[],[],[6],[5,7,6],[8,5,7,6],[],[],[10,11],[12,10,11],[0,1,5,6,7,8,9,13,12,10,11],[14,9,0,1,5,6,7,8,13,12,10,11],[2,4,0,1,3,5,6,7,8,9,10,11,12,13,14,15],[16,13,15,0,1,2,3,4,5,6,7,8,9,10,11,12,14]]), (168016, [0,1,2,3,4,5,6,7,8,9,10], [], [[],[],[0,1],[2,0,1],[],[],[5],[4,6,5],[7,4,6,5],[3,8,2,0,1,7,4,6,5],[9,3,8,2,0,1,7,4,6,5]]), (168017, [0,1,2,3,4,5,6,7,8,9,10,11,12,13,14,15,16,17], [(2,17),(3,17),(4,17)], [[],[],[],[],[3],[],[],[6],[5,7,6],[8,5,7,6],[],[],[10,11],[12,10,11],[0,1,5,6,7,8,9,13,12,10,11],[14,9,0,1,5,6,7,8,13,12,10,11],[2,4,0,1,3,5,6,7,8,9,10,11,12,13,14,15],[16,13,15,0,1,2,3,4,5,6,7,8,9,10,11,12,14]]), (168022, [0,1,2,3,4,5,6,7,8,9,10], [], [[],[],[0,1],[2,0,1],[],[],[5],[4,6,5],[7,4,6,5],[3,8,2,0,1,7,4,6,5],[9,3,8,2,0,1,7,4,6,5]]), (168023, [0,1,2,3,4,5,6,7,8,9,10,11,12,13,14,15,16,17], [(2,17),(3,17),(4,17)], [[],[],[],[],[3],[],[],[6],[5,7,6],[8,5,7,6],[],[],[10,11],[12,10,11],[0,1,5,6,7,8,9,13,12,10,11],[14,9,0,1,5,6,7,8,13,12,10,11],[2,4,0,1,3,5,6,7,8,9,10,11,12,13,14,15],[16,13,15,0,1,2,3,4,5,6,7,8,9,10,11,12,14]]), (170001, [0,1,2,3,4,5,6,7,8,9,10,11,12,13,14,15], [(2,15),(3,15)], [[],[],[],[],[],[],[4,5],[6,4,5],[],[],[8,9],[10,8,9],[0,1,4,5,6,7,11,10,8,9],[12,7,0,1,4,5,6,11,10,8,9],[2,3,0,1,4,5,6,7,8,9,10,11,12,13],[14,11,13,0,1,2,3,4,5,6,7,8,9,10,12]]), (170003, [0,1,2,3,4,5,6,7,8,9,10,11,12,13,14], [], [[],[],[0,1],[2,0,1],[3,2,0,1],[3,2,0,1],[4,5,3,2,0,1],[6,3,4,5,2,0,1],[3,2,0,1],[3,2,0,1],[8,9,3,2,0,1],[10,3,8,9,2,0,1],[7,11,3,6,4,5,2,0,1,10,8,9],[12,3,7,11,6,4,5,2,0,1,10,8,9],[3,13,2,0,1,12,7,11,6,4,5,10,8,9]]), (170005, [0,1,2,3,4,5,6,7,8,9,10,11,12,13], [], [[],[],[0,1],[2,0,1],[3,2,0,1],[3,2,0,1],[4,5,3,2,0,1],[6,3,4,5,2,0,1],[3,2,0,1],[3,2,0,1],[8,9,3,2,0,1],[10,3,8,9,2,0,1],[7,11,3,6,4,5,2,0,1,10,8,9],[3,12,2,0,1,7,11,6,4,5,10,8,9]]), (170008, [0,1,2,3,4,5,6,7,8,9,10,11,12,13,14,15], [(2,15),(3,15)], [[],[],[],[],[],[],[4,5],[6,4,5],[],[],[8,9],[10,8,9],[0,1,4,5,6,7,11,10,8,9],[12,7,0,1,4,5,6,11,10,8,9],[2,3,0,1,4,5,6,7,8,9,10,11,12,13],[14,11,13,0,1,2,3,4,5,6,7,8,9,10,12]]), (171001, [0,1,2,3,4,5,6,7,8,9,10,11,12,13,14,15], [(2,15),(3,15)], [[],[],[],[],[],[],[4,5],[6,4,5],[],[],[8,9],[10,8,9],[0,1,4,5,6,7,11,10,8,9],[12,7,0,1,4,5,6,11,10,8,9],[2,3,0,1,4,5,6,7,8,9,10,11,12,13],[14,11,13,0,1,2,3,4,5,6,7,8,9,10,12]]), (171003, [0,1,2,3,4,5,6,7,8,9,10,11,12,13], [], [[],[],[0,1],[2,0,1],[3,2,0,1],[3,2,0,1],[4,5,3,2,0,1],[6,3,4,5,2,0,1],[3,2,0,1],[3,2,0,1],[8,9,3,2,0,1],[10,3,8,9,2,0,1],[7,11,3,6,4,5,2,0,1,10,8,9],[3,12,2,0,1,7,11,6,4,5,10,8,9]]), (171005, [0,1,2,3,4,5,6,7,8,9,10,11,12,13,14], [], [[],[],[0,1],[2,0,1],[3,2,0,1],[3,2,0,1],[4,5,3,2,0,1],[6,3,4,5,2,0,1],[3,2,0,1],[3,2,0,1],[8,9,3,2,0,1],[10,3,8,9,2,0,1],[7,11,3,6,4,5,2,0,1,10,8,9],[12,3,7,11,6,4,5,2,0,1,10,8,9],[3,13,2,0,1,12,7,11,6,4,5,10,8,9]]), (171008, [0,1,2,3,4,5,6,7,8,9,10,11,12,13,14,15], [(2,15),(3,15)], [[],[],[],[],[],[],[4,5],[6,4,5],[],[],[8,9],[10,8,9],[0,1,4,5,6,7,11,10,8,9],[12,7,0,1,4,5,6,11,10,8,9],[2,3,0,1,4,5,6,7,8,9,10,11,12,13],[14,11,13,0,1,2,3,4,5,6,7,8,9,10,12]]), (171010, [0,1,2,3,4,5,6,7,8,9,10,11,12,13,14,15], [(2,15),(3,15)], [[],[],[],[],[],[],[4,5],[6,4,5],[],[],[8,9],[10,8,9],[0,1,4,5,6,7,11,10,8,9],[12,7,0,1,4,5,6,11,10,8,9],[2,3,0,1,4,5,6,7,8,9,10,11,12,13],[14,11,13,0,1,2,3,4,5,6,7,8,9,10,12]]), (171013, [0,1,2,3,4,5,6,7,8,9,10,11,12,13], [], [[],[],[0,1],[2,0,1],[3,2,0,1],[3,2,0,1],[4,5,3,2,0,1],[6,3,4,5,2,0,1],[3,2,0,1],[3,2,0,1],[8,9,3,2,0,1],[10,3,8,9,2,0,1],[7,11,3,6,4,5,2,0,1,10,8,9],[3,12,2,0,1,7,11,6,4,5,10,8,9]]), (171015, [0,1,2,3,4,5,6,7,8,9,10,11,12,13,14], [], [[],[],[0,1],[2,0,1],[3,2,0,1],[3,2,0,1],[4,5,3,2,0,1],[6,3,4,5,2,0,1],[3,2,0,1],[3,2,0,1],[8,9,3,2,0,1],[10,3,8,9,2,0,1],[7,11,3,6,4,5,2,0,1,10,8,9],[12,3,7,11,6,4,5,2,0,1,10,8,9],[3,13,2,0,1,12,7,11,6,4,5,10,8,9]]), (171018, [0,1,2,3,4,5,6,7,8,9,10,11,12,13,14,15], [(2,15),(3,15)], [[],[],[],[],[],[],[4,5],[6,4,5],[],[],[8,9],[10,8,9],[0,1,4,5,6,7,11,10,8,9],[12,7,0,1,4,5,6,11,10,8,9],[2,3,0,1,4,5,6,7,8,9,10,11,12,13],[14,11,13,0,1,2,3,4,5,6,7,8,9,10,12]]), (171021, [0,1,2,3,4,5,6,7,8,9,10,11,12,13,14,15], [(2,15),(3,15)], [[],[],[],[],[],[],[4,5],[6,4,5],[],[],[8,9],[10,8,9],[0,1,4,5,6,7,11,10,8,9],[12,7,0,1,4,5,6,11,10,8,9],[2,3,0,1,4,5,6,7,8,9,10,11,12,13],[14,11,13,0,1,2,3,4,5,6,7,8,9,10,12]]), (178003, [0,1,2,3,4,5,6,7,8,9,10,11,12,13,14,15,16,17,18,19], [], [[],[0],[],[1,2,0],[3,1,2,0],[4,3,1,2,0],[4,3,1,2,0],[4,3,1,2,0],[6,7,4,3,1,2,0],[5,8,4,3,1,2,0,6,7],[9,4,5,8,3,1,2,0,6,7],[4,3,1,2,0],[4,3,1,2,0],[4,3,1,2,0],[12,13,4,3,1,2,0],[14,4,12,13,3,1,2,0],[11,15,4,3,1,2,0,14,12,13],[16,4,11,15,3,1,2,0,14,12,13],[10,17,4,9,5,8,3,1,2,0,6,7,16,11,15,14,12,13],[4,18,3,1,2,0,10,17,9,5,8,6,7,16,11,15,14,12,13]]), (178005, [0,1,2,3,4,5,6,7,8,9,10,11,12,13], [], [[],[],[],[1,2],[0,3,1,2],[4,0,3,1,2],[],[],[],[7,8],[6,9,7,8],[10,6,9,7,8],[5,11,4,0,3,1,2,10,6,9,7,8],[12,5,11,4,0,3,1,2,10,6,9,7,8]]), (178006, [0,1,2,3,4,5,6,7,8,9,10,11,12,13,14,15,16,17,18,19,20,21,22,23], [(4,23),(5,23),(6,23),(7,23)], [[],[],[],[1,2],[],[],[],[5,6],[],[],[],[9,10],[8,11,9,10],[12,8,11,9,10],[],[],[],[15,16],[14,17,15,16],[18,14,17,15,16],[0,3,1,2,8,9,10,11,12,13,19,18,14,17,15,16],[20,13,0,1,2,3,8,9,10,11,12,19,18,14,17,15,16],[4,7,0,1,2,3,5,6,8,9,10,11,12,13,14,15,16,17,18,19,20,21],[22,19,21,0,1,2,3,4,5,6,7,8,9,10,11,12,13,14,15,16,17,18,20]]), (182001, [0,1,2,3,4,5,6,7,8], [], [[],[],[0,1],[2,0,1],[],[],[4,5],[6,4,5],[3,7,2,0,1,6,4,5]])]
open Go Go.RowKit Go.Shelf
def bld_ren : Go.Shelf.Ren := ⟨fun | 240 => 87 | 276 => 113 | 169 => 58 | 166 => 55 | n => n, fun | 37 => 114 | 70 => 113 | 72 => 116 | 164 => 176 | 127 => 152 | n => n, fun n => n⟩
theorem lays240 : Lays.n240 Tryz.prog bld_ren where
 mixed := by kernel_rfl
 f240 := Tryz.func87.trans (congrArg some (by kernel_rfl))
 f276 := Tryz.func113.trans (congrArg some (by kernel_rfl))
 t0 := Tryz.underlying0
 a0 := Tryz.isAgg0
 z0 := Tryz.sizeOf0
 v0 := Tryz.zeroValue0
 t4 := Tryz.underlying4
 a4 := Tryz.isAgg4
 z4 := Tryz.sizeOf4
 v4 := Tryz.zeroValue4
 t9 := Tryz.underlying9
 a9 := Tryz.isAgg9
 z9 := Tryz.sizeOf9
 v9 := Tryz.zeroValue9
 t20 := Tryz.underlying20
 a20 := Tryz.isAgg20
 z20 := Tryz.sizeOf20
 v20 := Tryz.zeroValue20
 t70 := Tryz.underlying113
 a70 := Tryz.isAgg113
 z70 := Tryz.sizeOf113
 v70 := Tryz.zeroValue113
 t72 := Tryz.underlying116
 a72 := Tryz.isAgg116
 z72 := Tryz.sizeOf116
 v72 := Tryz.zeroValue116
 t164 := Tryz.underlying176
 a164 := Tryz.isAgg176
 z164 := Tryz.sizeOf176
 v164 := Tryz.zeroValue176
theorem lays169 : Lays.n169 Tryz.prog bld_ren where
 mixed := by kernel_rfl
 f169 := Tryz.func58.trans (congrArg some (by kernel_rfl))
 t0 := Tryz.underlying0
 a0 := Tryz.isAgg0
 z0 := Tryz.sizeOf0
 v0 := Tryz.zeroValue0
 t3 := Tryz.underlying3
 a3 := Tryz.isAgg3
 z3 := Tryz.sizeOf3
 v3 := Tryz.zeroValue3
 t9 := Tryz.underlying9
 a9 := Tryz.isAgg9
 z9 := Tryz.sizeOf9
 v9 := Tryz.zeroValue9
 t37 := Tryz.underlying114
 a37 := Tryz.isAgg114
 z37 := Tryz.sizeOf114
 v37 := Tryz.zeroValue114
 t70 := Tryz.underlying113
 a70 := Tryz.isAgg113
 z70 := Tryz.sizeOf113
 v70 := Tryz.zeroValue113
 t72 := Tryz.underlying116
 a72 := Tryz.isAgg116
 z72 := Tryz.sizeOf116
 v72 := Tryz.zeroValue116
 t127 := Tryz.underlying152
 a127 := Tryz.isAgg152
 z127 := Tryz.sizeOf152
 v127 := Tryz.zeroValue152
def lays171_ren : Go.Shelf.Ren := ⟨fun | 171 => 56 | 243 => 88 | 246 => 114 | 283 => 131 | 284 => 132 | 285 => 133 | 286 => 134 | 129 => 109 | 317 => 150 | 318 => 151 | 319 => 152 | 320 => 153 | 337 => 172 | 338 => 173 | n => n, fun | 3 => 3 | 9 => 9 | 2 => 2 | 4 => 4 | 171 => 188 | 0 => 0 | 53 => 104 | 37 => 114 | 5 => 5 | 173 => 190 | 212 => 210 | 51 => 171 | 20 => 20 | 213 => 211 | 46 => 149 | 232 => 238 | 233 => 239 | n => n, fun | 17 => 0 | 18 => 6 | 19 => 7 | n => n⟩
theorem lays171_p : Lays.n171 Tryz.prog lays171_ren where
 mixed := by kernel_rfl
 f129 := Tryz.func109.trans (congrArg some (by kernel_rfl))
 f171 := Tryz.func56.trans (congrArg some (by kernel_rfl))
 f243 := Tryz.func88.trans (congrArg some (by kernel_rfl))
 f246 := Tryz.func114.trans (congrArg some (by kernel_rfl))
 f283 := Tryz.func131.trans (congrArg some (by kernel_rfl))
 f284 := Tryz.func132.trans (congrArg some (by kernel_rfl))
 f285 := Tryz.func133.trans (congrArg some (by kernel_rfl))
 f286 := Tryz.func134.trans (congrArg some (by kernel_rfl))
 f317 := Tryz.func150.trans (congrArg some (by kernel_rfl))
 f318 := Tryz.func151.trans (congrArg some (by kernel_rfl))
 f319 := Tryz.func152.trans (congrArg some (by kernel_rfl))
 f320 := Tryz.func153.trans (congrArg some (by kernel_rfl))
 f337 := Tryz.func172.trans (congrArg some (by kernel_rfl))
 f338 := Tryz.func173.trans (congrArg some (by kernel_rfl))
 t0 := Tryz.underlying0
 a0 := Tryz.isAgg0
 z0 := Tryz.sizeOf0
 v0 := Tryz.zeroValue0
 t2 := Tryz.underlying2
 a2 := Tryz.isAgg2
 z2 := Tryz.sizeOf2
 v2 := Tryz.zeroValue2
 t3 := Tryz.underlying3
 a3 := Tryz.isAgg3
 z3 := Tryz.sizeOf3
 v3 := Tryz.zeroValue3
 t4 := Tryz.underlying4
 a4 := Tryz.isAgg4
 z4 := Tryz.sizeOf4
 v4 := Tryz.zeroValue4
 t5 := Tryz.underlying5
 a5 := Tryz.isAgg5
 z5 := Tryz.sizeOf5
 v5 := Tryz.zeroValue5
 t9 := Tryz.underlying9
 a9 := Tryz.isAgg9
 z9 := Tryz.sizeOf9
 v9 := Tryz.zeroValue9
 t20 := Tryz.underlying20
 a20 := Tryz.isAgg20
 z20 := Tryz.sizeOf20
 v20 := Tryz.zeroValue20
 t37 := Tryz.underlying114
 a37 := Tryz.isAgg114
 z37 := Tryz.sizeOf114
 v37 := Tryz.zeroValue114
 t46 := Tryz.underlying149
 a46 := Tryz.isAgg149
 z46 := Tryz.sizeOf149
 v46 := Tryz.zeroValue149
 t51 := Tryz.underlying171
 a51 := Tryz.isAgg171
 z51 := Tryz.sizeOf171
 v51 := Tryz.zeroValue171
 t53 := Tryz.underlying104
 a53 := Tryz.isAgg104
 z53 := Tryz.sizeOf104
 v53 := Tryz.zeroValue104
 t171 := Tryz.underlying188
 a171 := Tryz.isAgg188
 z171 := Tryz.sizeOf188
 v171 := Tryz.zeroValue188
 t173 := Tryz.underlying190
 a173 := Tryz.isAgg190
 z173 := Tryz.sizeOf190
 v173 := Tryz.zeroValue190
 t212 := Tryz.underlying210
 a212 := Tryz.isAgg210
 z212 := Tryz.sizeOf210
 v212 := Tryz.zeroValue210
 t213 := Tryz.underlying211
 a213 := Tryz.isAgg211
 z213 := Tryz.sizeOf211
 t232 := Tryz.underlying238
 a232 := Tryz.isAgg238
 z232 := Tryz.sizeOf238
 v232 := Tryz.zeroValue238
 t233 := Tryz.underlying239
 a233 := Tryz.isAgg239
 z233 := Tryz.sizeOf239
 v233 := Tryz.zeroValue239
 g17 := by kernel_rfl
 g18 := by kernel_rfl
 g19 := by kernel_rfl
theorem lays171 : LaysM.n171 Tryz.prog lays171_ren := { lays171_p with
 i0 := by kernel_rfl,
 i2 := by kernel_rfl,
 i3 := by kernel_rfl,
 i4 := by kernel_rfl,
 i5 := by kernel_rfl,
 i9 := by kernel_rfl,
 i20 := by kernel_rfl,
 i37 := by kernel_rfl,
 i46 := by kernel_rfl,
 i51 := by kernel_rfl,
 i53 := by kernel_rfl,
 i171 := by kernel_rfl,
 i173 := by kernel_rfl,
 i212 := by kernel_rfl,
 i232 := by kernel_rfl,
 i233 := by kernel_rfl,
 m17 := by kernel_rfl,
 m18 := by kernel_rfl,
 m19 := by kernel_rfl }
theorem PC_of_callsG {P : Program} {Y : YEnv} {f : FuncId} {args : List PV} {σ σ' : Sg} {v : PV} (hg : goFn P f = true)
 (h : ∀ Ψ vals w, SR Ψ σ w → VRs Ψ args vals → GOK P Ψ → Calls P f vals w (fun e w' => ∃ x Ψ', e = .returned x ∧ Ψ.le Ψ' ∧ SR Ψ' σ' w' ∧ VR Ψ' v x ∧ Below Ψ.base w w')) : PC P Y f args σ v σ' :=
 ⟨hg, fun Ψ vals w hs ha hy => callsIn_wide.2 (h Ψ vals w hs ha hy.1)⟩
theorem one_arg {Ψ : Ty} {p : PV} {vals : Array Value} (ha : VRs Ψ [p] vals) : ∃ x, vals = #[x] ∧ VR Ψ p x := by
 have := ha.1
 match vals, this with
 | ⟨[x]⟩, _ => exact ⟨x, rfl, ha.2 0 _ _ rfl rfl⟩
theorem x72 : Builder.X72 Tryz.prog bld_ren := ⟨by kernel_rfl, by kernel_rfl⟩
/-- A builder in a variable. -/
theorem bld_at {Ψ : Ty} {σ : Sg} {w : World} (hs : SR Ψ σ w) {id T r te : Nat} {l : List PV} {b : Nat} (hst : σ.store[id]? = some (some [.bself id T, .bbuf l r te])) (hβ : Ψ.β[id]? = some b) :
 ∃ x v, Ψ.base ≤ b ∧ w.heap[b]? = some (.cells #[x, v] T (0, 0)) ∧ (x = .pointer none ∨ x = .pointer (some ⟨b, 0, none⟩)) ∧ VR Ψ (.bbuf l r te) v := by
 obtain ⟨a1, _, hk⟩ := hs.block id _ b hst hβ
 rcases hk with ⟨c, hb, h1, h2⟩ | ⟨arr, es, h0, _⟩ | ⟨mid, r', n, seen, h0, _⟩
 ·simp only [List.length_cons, List.length_nil] at h1
  have v0 := h2 0 _ c[0] rfl (by simp)
  have v1 := h2 1 _ c[1] rfl (by simp)
  cases v0 with
  | bself _ _ b' _ hβ' hz hx =>
  rw [hβ] at hβ'
  injection hβ' with hβ'
  subst hβ'
  obtain ⟨_, c', f, hc', hsz⟩ := hs.szok _ _ hz
  obtain ⟨e, hbe⟩ := hb
  rw [hbe] at hc'
  injection hc' with hc'
  injection hc' with e1 e2 e3
  subst e1 e2
  refine ⟨c[0], c[1], a1, ?_, hx, v1⟩
  rw [hbe]
  congr 2
  apply Array.ext
  ·simp [hsz]
  intro i h1 h2
  match i, h2 with
  | 0, _ => rfl
  | 1, _ => rfl
 ·cases h0
 cases h0
theorem copyCheck_pc (Y : YEnv) (σ : Sg) {id r te : Nat} {l : List PV} (hst : σ.store[id]? = some (some [.bself id 116, .bbuf l r te])) : PC Tryz.prog Y 87 [.ptr id 0] σ (.tuple []) σ := by
 refine PC_of_calls (by kernel_rfl) fun Ψ vals w hs ha => ?_
 obtain ⟨x, rfl, hx⟩ := one_arg ha
 obtain ⟨b, hβ, hz, rfl⟩ := hx.ptr_inv
 obtain ⟨y, v, a1, hb, hy, hv⟩ := bld_at hs hst hβ
 have hc0 : w.cell? ⟨b, 0, none⟩ = some y := by rw [cell_eq, hb]; rfl
 rcases hy with rfl | rfl
 ·refine (Any.Builder_copyCheck_fresh lays240 x72 b w hc0 (by simp [World.shape?, hb]; rfl) (by simp [World.frozen?, hb])).mono ?_
  rintro e w' ⟨rfl, rfl⟩
  have hself : VR Ψ (.bself id 116) (.pointer (some ⟨b, 0, none⟩)) := by
   obtain ⟨_, _, hk⟩ := hs.block id _ b hst hβ
   obtain ⟨_, h2⟩ := hk.cells ⟨_, hb⟩
   have v0 := h2 0 _ _ rfl rfl
   cases v0 with
   | bself _ _ b' _ hβ' hz' _ =>
   rw [hβ] at hβ'
   injection hβ' with hβ'
   subst hβ'
   exact .bself _ _ b _ hβ hz' (.inr rfl)
  have h2 : SR Ψ (σ.setVar id [.bself id 116, .bbuf l r te]) (w.setCell ⟨b, 0, none⟩ (.pointer (some ⟨b, 0, none⟩))) := hs.setVar hst hβ hz hself (off := 0)
  rw [setVar_same σ id _ hst] at h2
  exact ⟨_, Ψ, rfl, Ty.le.refl _, h2, skipped_ok _, (Below.refl _ _).setCell (p := ⟨b, 0, none⟩) a1 _⟩
 refine (Any.Builder_copyCheck_used lays240 x72 b w hc0).mono ?_
 rintro e w' ⟨rfl, rfl⟩
 exact ⟨_, Ψ, rfl, Ty.le.refl _, hs, skipped_ok _, Below.refl _ _⟩
/-- What a builder holds, as a string: its row is marked. -/
theorem bldString (b g : Nat) (p : Value) (cap : Nat) (l : List UInt8) (w : World) (h0 : l ≠ []) (hbk : w.heap[b]? = some (.cells #[p, .slice (some ⟨g, 0, none⟩) l.length cap] 116 (0, 0))) {cur : Array Value} {fz : Nat × Nat} (hg : w.heap[g]? = some (.cells cur 5 fz)) (hn : l.length ≤ cur.size) (hcap : l.length ≤ cap) (h63 : l.length ≤ 9223372036854775807)
 (hcell : ∀ j x, l[j]? = some x → w.cell? ⟨g, j, none⟩ = some (.int .u8 x.toNat)) :
 Calls Tryz.prog 58 #[.pointer (some ⟨b, 0, none⟩)] w fun e w' => e = .returned (.string ⟨l.toArray⟩) ∧ w' = w.drew.freeze ⟨g, 0, none⟩ l.length := by
 have hl0 : l.length ≠ 0 := by simpa using h0
 have hb1 : w.drew.heap[b]? = some (.cells #[p, .slice (some ⟨g, 0, none⟩) l.length cap] 116 (0, 0)) := hbk
 have c1 : w.drew.cell? ⟨b, 1, none⟩ = some (.slice (some ⟨g, 0, none⟩) l.length cap) := by rw [Lib.cell_of_heap hb1]; rfl
 have hg' : w.drew.heap[g]? = some (.cells cur 5 fz) := hg
 have hSD : (Builtin.unsafeSliceData_ #[bld_ren.t 37] (bld_ren.t 127) #[.slice (some ⟨g, 0, none⟩) l.length cap]).run Tryz.prog w.drew = .ok (.pointer (some ⟨g, 0, none⟩)) w.drew :=
  Lib.run_unsafeSliceData_row _ _ _ _ _ _ (by omega)
 have hUS : (Builtin.unsafeString_ #[bld_ren.t 127, bld_ren.t 3] (bld_ren.t 9) #[.pointer (some ⟨g, 0, none⟩), .int .i64 l.length]).run Tryz.prog w.drew = .ok (.string ⟨l.toArray⟩) (w.drew.freeze ⟨g, 0, none⟩ l.length) :=
  Lib.run_unsafeString_row w.drew (bld_ren.t 127) (bld_ren.t 3) (bld_ren.t 9) 5 Tryz.underlying152 cells5 g cur.size (by simp [World.shape?, hg']) l h0 hn h63 fun j x hx => by
   have := hcell j x hx
   simpa using this
 have L := lays169
 have mixed := L.mixed
 have t72 := L.t72; have a72 := L.a72; have z72 := L.z72; have v72 := L.v72; have u72 := run_underlying L.t72
 have t70 := L.t70; have a70 := L.a70; have z70 := L.z70; have v70 := L.v70; have u70 := run_underlying L.t70
 have t37 := L.t37; have a37 := L.a37; have z37 := L.z37; have v37 := L.v37; have u37 := run_underlying L.t37
 have t127 := L.t127; have a127 := L.a127; have z127 := L.z127; have v127 := L.v127; have u127 := run_underlying L.t127
 have t3 := L.t3; have a3 := L.a3; have z3 := L.z3; have v3 := L.v3; have u3 := run_underlying L.t3
 have t9 := L.t9; have a9 := L.a9; have z9 := L.z9; have v9 := L.v9; have u9 := run_underlying L.t9
 go_enter L.f169, Body.n169_ntmps bld_ren
 go_wp2
 go_region_o
 all_goals (go_wp2; go_ret; exact ⟨rfl, rfl⟩)
theorem Itoa_pc (Y : YEnv) (σ : Sg) (n : Int) (h0 : -9223372036854775808 ≤ n) (h1 : n ≤ 9223372036854775807) : PC Tryz.prog Y 56 [I n] σ (.str ⟨(Lib.itoa n).toArray⟩) σ := by
 refine PC_of_callsG (by kernel_rfl) fun Ψ vals w hs ha hG => ?_
 obtain ⟨x, rfl, hx⟩ := one_arg ha
 obtain rfl := hx.int_inv
 have hgn : Tryz.prog.globalNamed "internal/strconv.uint64pow10" = some 0 := by kernel_rfl
 obtain ⟨_, e, f, hh⟩ := hs.szok _ _ (hG.tab 0 hgn)
 have htab : Lib.TabIs Tryz.prog w "internal/strconv.uint64pow10" .u64 Lib.pow10Tab := by
  unfold Lib.TabIs World.var?
  rw [hgn]
  simp only [Option.bind_some, hh]
  rfl
 refine (Any.strconv_Itoa lays171 n h0 h1 w htab).mono ?_
 rintro e2 w2 ⟨rfl, k, os, rfl⟩
 have ho : ∀ g, g < w.heap.size → (Sort.grow (w.drewN k) os).heap[g]? = w.heap[g]? := fun g hg => Sort.heap_grow_old (w.drewN k) os hg
 have hz : w.heap.size ≤ (Sort.grow (w.drewN k) os).heap.size := by simp [Sort.grow, World.drewN]
 exact ⟨_, Ψ, rfl, Ty.le.refl _, hs.more ho hz, .str _, ⟨rfl, rfl, rfl, hz, fun g hg => ho g (by have := hs.base; omega)⟩⟩
theorem strPV_app (a b : ByteArray) : strPV (a ++ b) = strPV a ++ strPV b := by simp [strPV]
theorem strPV_ok (s : ByteArray) : okC 1 (strPV s) := by
 unfold okC
 rw [List.all_eq_true]
 intro q hq
 obtain ⟨x, _, rfl⟩ := List.mem_map.1 hq
 rfl
theorem appB (σ : Sg) {r : Nat} (B s : ByteArray) (hr : σ.rooms[r]? = some B.size) (hl : B.size + s.size ≤ 2 ^ 46) :
 appendAny Tryz.prog σ 114 9 (.bbuf (strPV B) r 5) (.str s) = some (.bbuf (strPV (B ++ s)) r 5, σ.setRoom r (B.size + s.size)) := by
 rw [appendAny_bbuf]
 unfold appendB bytesArg
 simp only [Tryz.underlying114, Tryz.underlying9]
 rw [if_pos ⟨trivial, cells5⟩, app114, strPV_len, appX_tok (strPV_ok s) hr (by rw [strPV_len, strPV_len]; omega)]
 simp only [Option.map_some, strPV_app, strPV_len]
theorem String_pc (Y : YEnv) (σ : Sg) {id r : Nat} (B : ByteArray) (hst : σ.store[id]? = some (some [.bself id 116, .bbuf (strPV B) r 5])) (hr : σ.rooms[r]? = some B.size) (h0 : 0 < B.size) (hl : B.size ≤ 2 ^ 46) :
 PC Tryz.prog Y 58 [.ptr id 0] σ (.str B) (σ.setRoom r (B.size + 1)) := by
 refine PC_of_calls (by kernel_rfl) fun Ψ vals w hs ha => ?_
 obtain ⟨x, rfl, hx⟩ := one_arg ha
 obtain ⟨b, hβ, hz, rfl⟩ := hx.ptr_inv
 obtain ⟨y, v, a1, hb, hy, hv⟩ := bld_at hs hst hβ
 have hBl : B.data.toList.length = B.size := by simp
 have hget : ∀ (j : Nat) (x : UInt8), B.data.toList[j]? = some x → (strPV B)[j]? = some (.int .u8 x.toNat) := fun j x h => by
  unfold strPV; rw [List.getElem?_map, h]; rfl
 have hpl := strPV_len B
 generalize hL : strPV B = L at *
 cases hv with
 | bbuf _ _ _ _ h ht =>
 cases h with
 | islnil _ _ _ => simp at hpl; omega
 | isl es _ _ g o cap vals hes k1 k2 hc ho =>
 obtain ⟨hes1, hh⟩ := ho
 subst hes1
 obtain ⟨rfl, hty⟩ := ht g o _ cap rfl (by omega)
 obtain ⟨_, cur, f, hcur, hcs⟩ := hs.szok _ _ hty
 rw [Nat.zero_add, Nat.zero_add, Nat.mul_one, Nat.mul_one, hpl] at hh
 have hat : ∀ (j : Nat) (x : UInt8), B.data.toList[j]? = some x → Ψ.imm g j = some (.int .u8 x.toNat) := fun j x hj => by
  have e1 := k1 j _ 0 (.int .u8 x.toNat) (hget j x hj) rfl
  have e2 := k2 j _ 0 (.int .u8 x.toNat) (hget j x hj) rfl
  rw [e2.int_inv] at e1
  rw [← e1]
  congr 1
  omega
 have hbb : w.heap[b]? = some (.cells #[y, .slice (some ⟨g, 0, none⟩) B.data.toList.length cap] 116 (0, 0)) := by rw [hb, hBl, hpl]
 refine (bldString b g y cap B.data.toList w (fun e => by rw [e] at hBl; simp at hBl; omega) hbb hcur (by rw [hBl]; omega) (by rw [hBl]; omega) (by rw [hBl]; omega) fun j x hj => hs.imm _ _ _ (hat j x hj)).mono ?_
 rintro e2 w2 ⟨rfl, rfl⟩
 rw [hBl]
 obtain ⟨Ψ', le, hs', hbel⟩ := hs.stringed hr hh hty (fun o ho => by
  have hlt : o < B.data.toList.length := by rw [hBl]; exact ho
  rw [hat o _ (List.getElem?_eq_getElem hlt)]
  simp) h0
 have e : (⟨B.data.toList.toArray⟩ : ByteArray) = B := by simp
 exact ⟨_, Ψ', rfl, le, hs', by rw [e]; exact .str B, hbel⟩
set_option maxHeartbeats 2000000 in
theorem WriteString_pc (Y : YEnv) (σ : Sg) {id r : Nat} (B s : ByteArray) (hst : σ.store[id]? = some (some [.bself id 116, .bbuf (strPV B) r 5])) (hr : σ.rooms[r]? = some B.size) (hl : B.size + s.size ≤ 2 ^ 46) :
 PC Tryz.prog Y 55 [.ptr id 0, .str s] σ (.tuple [I s.size, .niliface]) ((σ.setRoom r (B.size + s.size)).setVar id [.bself id 116, .bbuf (strPV (B ++ s)) r 5]) := by
 refine PC_of_W Tryz.func55 rfl (by kernel_rfl) Tryz.ntmps55 (by simp) fun hcl hca => ?_
 have hld : ldS σ id 1 = some (.bbuf (strPV B) r 5) := by simp [ldS, hst]
 have happ := appB σ B s hr hl
 have hsto : stX 1 (σ.setRoom r (B.size + s.size)) id 1 (.bbuf (strPV (B ++ s)) r 5) = some ((σ.setRoom r (B.size + s.size)).setVar id [.bself id 116, .bbuf (strPV (B ++ s)) r 5]) := by
  have : (σ.setRoom r (B.size + s.size)).store[id]? = some (some [.bself id 116, .bbuf (strPV B) r 5]) := hst
  unfold stX
  rw [this]
  rfl
 refine W_sr [0, 1] fun R hR => ?_
 simp only [go_sem, hld, happ, hsto, Nat.zero_add]
 refine hR _ _ ?_; clear hR R
 try simp only [go_sem, hld, happ, hsto, Nat.zero_add]
 refine W_sr [0, 1] fun R hR => ?_
 simp only [go_sem, hld, happ, hsto, Nat.zero_add]
 refine GCall_of (copyCheck_pc Y _ hst) ?_
 simp only [go_sem, hld, happ, hsto, Nat.zero_add]
 refine hR _ _ ?_; clear hR R
 try simp only [go_sem, hld, happ, hsto, Nat.zero_add]
 refine W_sr [1] fun R hR => ?_
 simp only [go_sem, hld, happ, hsto, Nat.zero_add]
 try simp (disch := (first | omega | (simp only [go_sem, List.length_append] <;> omega))) only [wrapI, wrapU, appX_exact, appX_tok, strAdd, slT, slTa, slTb]
 try simp only [go_sem, hld, happ, hsto, Nat.zero_add]
 refine hR _ _ ?_; clear hR R
 try simp only [go_sem, hld, happ, hsto, Nat.zero_add]
 refine W_sr [4, 5] fun R hR => ?_
 simp only [go_sem, hld, happ, hsto, Nat.zero_add]
 refine hR _ _ ?_; clear hR R
 try simp only [go_sem, hld, happ, hsto, Nat.zero_add]
 refine W_ret ?_
 simp only [go_sem, hld, happ, hsto, Nat.zero_add]
 refine ⟨.inr (by trivial), ?_⟩
 have hrl := (List.getElem?_eq_some_iff.1 hr).1
 have hcl2 := CleanSg_bld (n := B.size + s.size) (m := strPV s) hcl hst hrl strPV_clean
 rw [← strPV_app] at hcl2
 have e1 : ((σ.setRoom r (B.size + s.size)).setVar id [.bself id 116, .bbuf (strPV (B ++ s)) r 5]).store.length = σ.store.length := by simp [Sg.setVar, Sg.setRoom]
 have e2 : ((σ.setRoom r (B.size + s.size)).setVar id [.bself id 116, .bbuf (strPV (B ++ s)) r 5]).rooms.length = σ.rooms.length := by simp [Sg.setVar, Sg.setRoom]
 refine ⟨_, σ.store.length, σ.rooms.length, rfl, Nat.le_refl _, Nat.le_refl _, Wk_eq ?_ (by simp only [go_sem]), ?_, ?_, rfl⟩
 rotate_left
 ·simp only [Sg.cut, Sg.setVar, Sg.setRoom]
  rw [List.take_of_length_le (l := σ.store.set _ _) (by simp), List.take_of_length_le (l := σ.rooms.set _ _) (by simp), List.take_of_length_le (l := σ.ys) (Nat.le_refl _)]
 ·have := hcl2; unfold CleanSg at this; rw [e1, e2] at this; exact this
 try simp only [go_sem]
 all_goals
  first | rfl | simp
/-- One number among sorted ones. -/
def insP (x : Int) : List Int → List Int
 | [] => [x]
 | y :: r => match ltF y x with
  | true => y :: insP x r
  | false => x :: y :: r
def insQ : List Int → List Int
 | [] => []
 | x :: r => insP x (insQ r)
theorem insP_perm (x : Int) : ∀ l : List Int, (insP x l).Perm (x :: l) := by
 intro l
 induction l with
 | nil => exact .refl _
 | cons y r ih =>
  simp only [insP]
  split
  ·exact (ih.cons y).trans (.swap x y r)
  exact .refl _
theorem insP_sorted (x : Int) : ∀ l : List Int, l.Pairwise (· ≤ ·) → (insP x l).Pairwise (· ≤ ·) := by
 intro l
 induction l with
 | nil => intro _; simp [insP]
 | cons y r ih =>
  intro h
  obtain ⟨h1, h2⟩ := List.pairwise_cons.1 h
  simp only [insP]
  split
  ·rename_i hc
   rw [ltF_eq] at hc
   have hc : y < x := by simpa using hc
   refine List.pairwise_cons.2 ⟨fun z hz => ?_, ih h2⟩
   rcases List.mem_cons.1 ((insP_perm x r).mem_iff.1 hz) with rfl | hz
   ·omega
   exact h1 z hz
  rename_i hc
  rw [ltF_eq] at hc
  have hc : ¬ y < x := by simpa using hc
  refine List.pairwise_cons.2 ⟨fun z hz => ?_, h⟩
  rcases List.mem_cons.1 hz with rfl | hz
  ·omega
  have := h1 z hz; omega
theorem insQ_perm : ∀ l : List Int, (insQ l).Perm l := by
 intro l
 induction l with
 | nil => exact .refl _
 | cons x r ih => exact (insP_perm x _).trans (ih.cons x)
theorem insQ_sorted : ∀ l : List Int, (insQ l).Pairwise (· ≤ ·) := by
 intro l
 induction l with
 | nil => exact .nil
 | cons x r ih => exact insP_sorted x _ ih
theorem sortI_perm' (l : List Int) : (sortI l).Perm l := List.mergeSort_perm l _
theorem sortI_sorted' (l : List Int) : (sortI l).Pairwise (· ≤ ·) := by
 have h := List.pairwise_mergeSort (le := fun a b : Int => decide (a ≤ b)) (fun a b c h1 h2 => by simp at *; omega) (fun a b => by simp; omega) l
 exact h.imp (fun h => by simpa using h)
theorem insQ_eq (l : List Int) : insQ l = sortI l :=
 ((insQ_perm l).trans (sortI_perm' l).symm).eq_of_pairwise (fun a b _ _ h1 h2 => Int.le_antisymm h1 h2) (insQ_sorted l) (sortI_sorted' l)
noncomputable section
/-- Numbers out of their readings. -/
def unI : List PV → Option (List Int)
 | [] => some []
 | v :: r => match int64 v with
  | some n => match unI r with
   | some l => some (n :: l)
   | none => none
  | none => none
theorem unI_eq : ∀ (l : List PV) (xs : List Int), unI l = some xs → l = xs.map I := by
 intro l
 induction l with
 | nil => intro xs h; injection h with h; subst h; rfl
 | cons v r ih =>
  intro xs h
  simp only [unI] at h
  split at h
  ·rename_i n hn
   split at h
   ·rename_i l hl
    injection h with h
    subst h
    rw [int64_inv hn, ih _ hl]
    rfl
   cases h
  cases h
/-- Bytes out of their readings. -/
def byteOf (v : PV) : Option UInt8 :=
 match v with
 | .int .u8 n => match n with
  | .ofNat m => match Nat.ble m 255 with
   | true => some (UInt8.ofNat m)
   | false => none
  | _ => none
 | _ => none
def unB : List PV → Option (List UInt8)
 | [] => some []
 | v :: r => match byteOf v with
  | some n => match unB r with
   | some l => some (n :: l)
   | none => none
  | none => none
theorem byteOf_inv {v : PV} {n : UInt8} (h : byteOf v = some n) : v = .int .u8 n.toNat := by
 unfold byteOf at h
 split at h
 ·split at h
  ·rename_i m
   split at h
   ·rename_i hm
    have hm := ble_iff.1 hm
    injection h with h
    subst h
    have : (UInt8.ofNat m).toNat = m := by simp; omega
    rw [this]
    rfl
   cases h
  cases h
 cases h
theorem unB_eq : ∀ (l : List PV) (xs : List UInt8), unB l = some xs → l = strPV ⟨xs.toArray⟩ := by
 intro l
 induction l with
 | nil => intro xs h; injection h with h; subst h; rfl
 | cons v r ih =>
  intro xs h
  simp only [unB] at h
  split at h
  ·rename_i n hn
   split at h
   ·rename_i l hl
    injection h with h
    subst h
    rw [byteOf_inv hn, ih _ hl]
    simp [strPV]
   cases h
  cases h
def cellsAt (σ : Sg) (id : Nat) : Option (List PV) :=
 match nthF σ.store id with
 | some (some cs) => some cs
 | _ => none
theorem cellsAt_inv {σ : Sg} {id : Nat} {cs : List PV} (h : cellsAt σ id = some cs) : σ.store[id]? = some (some cs) := by
 unfold cellsAt at h
 rw [nthF_eq] at h
 split at h
 ·injection h with h; subst h; assumption
 cases h
/-- A builder's bytes, its room. -/
def bldAt (σ : Sg) (id : Nat) : Option (List UInt8 × Nat) :=
 match cellsAt σ id with
 | some [.bself id' 116, .bbuf l r 5] => match Nat.beq id' id with
  | true => match unB l with
   | some bs => match nthF σ.rooms r with
    | some n => match Nat.beq n (lenF bs) with
     | true => some (bs, r)
     | false => none
    | none => none
   | none => none
  | false => none
 | _ => none
theorem bldAt_inv {σ : Sg} {id r : Nat} {bs : List UInt8} (h : bldAt σ id = some (bs, r)) : σ.store[id]? = some (some [.bself id 116, .bbuf (strPV ⟨bs.toArray⟩) r 5]) ∧ σ.rooms[r]? = some (⟨bs.toArray⟩ : ByteArray).size := by
 unfold bldAt at h
 split at h
 ·rename_i id' l r' hc
  split at h
  ·rename_i hid
   have hid := beq_eq.1 hid
   subst hid
   split at h
   ·rename_i bs' hb
    split at h
    ·rename_i n hn
     split at h
     ·rename_i hl
      have hl := beq_eq.1 hl
      rw [lenF_eq] at hl
      injection h with h
      injection h with h1 h2
      subst h1 h2
      refine ⟨?_, ?_⟩
      ·rw [cellsAt_inv hc, unB_eq _ _ hb]
      rw [nthF_eq] at hn
      rw [hn, hl]
      simp [ByteArray.size]
     cases h
    cases h
   cases h
  cases h
 cases h
def orcItoa (σ : Sg) (args : List PV) : Option (PV × Sg) :=
 match args with
 | [v] => match int64 v with
  | some n => match !ltF n (-9223372036854775808) && !ltF 9223372036854775807 n with
   | true => some (.str ⟨(Lib.itoa n).toArray⟩, σ)
   | false => none
  | none => none
 | _ => none
def orcWrite (σ : Sg) (args : List PV) : Option (PV × Sg) :=
 match args with
 | [.ptr id 0, v] => match strOf v with
  | some s => match bldAt σ id with
   | some (bs, r) => match Nat.ble (lenF bs + lenF s) 1000000 with
    | true => some (.tuple [I (lenF s : Nat), .niliface], (σ.setRoom r (lenF bs + lenF s)).setVar id [.bself id 116, .bbuf (strPV ⟨bs.toArray⟩ ++ strPV ⟨s.toArray⟩) r 5])
    | false => none
   | none => none
  | none => none
 | _ => none
def orcString (σ : Sg) (args : List PV) : Option (PV × Sg) :=
 match args with
 | [.ptr id 0] => match bldAt σ id with
  | some (bs, r) => match Nat.ble 1 (lenF bs) && Nat.ble (lenF bs) 1000000 with
   | true => some (.str ⟨bs.toArray⟩, σ.setRoom r (lenF bs + 1))
   | false => none
  | none => none
 | _ => none
def orcSort (σ : Sg) (args : List PV) : Option (PV × Sg) :=
 match args with
 | [.func (.func 125) [] [.ptr id 0]] => match cellsAt σ id with
  | some [.msl pid 0 n] => match cellsAt σ pid with
   | some cs => match unI cs with
    | some xs => match Nat.ble n (lenF xs) && (Nat.ble 1 n && Nat.ble n 1000) with
     | true => some (ints (insQ (xs.take n)), σ)
     | false => none
    | none => none
   | none => none
  | _ => none
 | _ => none
def orcD : Orc := fun f args σ => match Nat.beq f 56 with
 | true => orcItoa σ args
 | false => match Nat.beq f 55 with
  | true => orcWrite σ args
  | false => match Nat.beq f 58 with
   | true => orcString σ args
   | false => match Nat.beq f 98 with
    | true => orcSort σ args
    | false => none
theorem orcItoa_ok {σ σ' : Sg} {args : List PV} {v : PV} (h : orcItoa σ args = some (v, σ')) (Y : YEnv) : PC Tryz.prog Y 56 args σ v σ' := by
 unfold orcItoa at h
 split at h
 ·rename_i v0
  split at h
  ·rename_i n hn
   split at h
   ·rename_i hb
    simp only [ltF_eq, Bool.and_eq_true, Bool.not_eq_true', decide_eq_false_iff_not] at hb
    injection h with h; injection h with h1 h2; subst h1 h2
    rw [int64_inv hn]
    exact Itoa_pc Y _ n (by omega) (by omega)
   cases h
  cases h
 cases h
theorem orcWrite_ok {σ σ' : Sg} {args : List PV} {v : PV} (h : orcWrite σ args = some (v, σ')) (Y : YEnv) : PC Tryz.prog Y 55 args σ v σ' := by
 unfold orcWrite at h
 split at h
 ·rename_i id v0
  split at h
  ·rename_i s hs
   split at h
   ·rename_i bs r hb
    split at h
    ·rename_i hl
     have hl := ble_iff.1 hl
     rw [lenF_eq, lenF_eq] at hl
     injection h with h; injection h with h1 h2; subst h1 h2
     obtain ⟨k1, k2⟩ := bldAt_inv hb
     have e1 : (⟨bs.toArray⟩ : ByteArray).size = lenF bs := by rw [lenF_eq]; simp [ByteArray.size]
     have e2 : (⟨s.toArray⟩ : ByteArray).size = lenF s := by rw [lenF_eq]; simp [ByteArray.size]
     rw [strOf_inv hs]
     have := WriteString_pc Y σ ⟨bs.toArray⟩ ⟨s.toArray⟩ k1 k2 (by rw [e1, e2, lenF_eq, lenF_eq]; omega)
     rw [e1, e2, strPV_app] at this
     exact this
    cases h
   cases h
  cases h
 cases h
theorem orcString_ok {σ σ' : Sg} {args : List PV} {v : PV} (h : orcString σ args = some (v, σ')) (Y : YEnv) : PC Tryz.prog Y 58 args σ v σ' := by
 unfold orcString at h
 split at h
 ·rename_i id
  split at h
  ·rename_i bs r hb
   split at h
   ·rename_i hl
    simp only [Bool.and_eq_true, ble_iff, lenF_eq] at hl
    injection h with h; injection h with h1 h2; subst h1 h2
    obtain ⟨k1, k2⟩ := bldAt_inv hb
    have e1 : (⟨bs.toArray⟩ : ByteArray).size = lenF bs := by rw [lenF_eq]; simp [ByteArray.size]
    have := String_pc Y σ ⟨bs.toArray⟩ k1 k2 (by rw [e1, lenF_eq]; omega) (by rw [e1, lenF_eq]; omega)
    rw [e1] at this
    exact this
   cases h
  cases h
 cases h
theorem orcSort_ok {σ σ' : Sg} {args : List PV} {v : PV} (h : orcSort σ args = some (v, σ')) (Y : YEnv) : PC Tryz.prog Y 98 args σ v σ' := by
 unfold orcSort at h
 split at h
 ·rename_i id
  split at h
  ·rename_i pid n hc
   split at h
   ·rename_i cs hcs
    split at h
    ·rename_i xs hxs
     split at h
     ·rename_i hb
      simp only [Bool.and_eq_true, ble_iff, lenF_eq] at hb
      obtain ⟨h1, h2, h3⟩ := hb
      injection h with h; injection h with h1 h2; subst h1 h2
      rw [insQ_eq]
      exact sorted_pc Y _ id pid n xs (cellsAt_inv hc) (by rw [cellsAt_inv hcs, unI_eq _ _ hxs]) (by omega) (by omega) (by omega)
     cases h
    cases h
   cases h
  cases h
 cases h
theorem orcD_ok : ∀ f args σ v σ', orcD f args σ = some (v, σ') → ∀ Y, PC Tryz.prog Y f args σ v σ' := by
 intro f args σ v σ' h Y
 unfold orcD at h
 split at h
 ·rename_i e; rw [beq_eq.1 e]; exact orcItoa_ok h Y
 split at h
 ·rename_i e; rw [beq_eq.1 e]; exact orcWrite_ok h Y
 split at h
 ·rename_i e; rw [beq_eq.1 e]; exact orcString_ok h Y
 split at h
 ·rename_i e; rw [beq_eq.1 e]; exact orcSort_ok h Y
 cases h
end
set_option maxRecDepth 1000000
def modesK : List (Nat × Nat) := [(16008, 1), (32008, 1), (10001, 2), (10011, 2), (10013, 2), (10015, 2), (25007, 8)]
theorem awake_says : saysTrue (callK Tryz.prog (aidOf planT orcD modesK) 100000 noYF 7 [] ⟨[], [], []⟩) = true := by kernel_rfl
theorem awake_pc (Y : YEnv) (σ : Sg) : PC Tryz.prog Y 7 [] σ (.bool true) σ := PC_run mixed orcD_ok awake_says Y σ
def splitL (b : UInt8) : List UInt8 → List (List UInt8)
 | [] => [[]]
 | c :: r => if c = b then [] :: splitL b r else match splitL b r with
  | p :: q => (c :: p) :: q
  | [] => [[c]]
theorem splitL_ne (b : UInt8) (s : List UInt8) : splitL b s ≠ [] := by
 cases s with
 | nil => simp [splitL]
 | cons c r =>
  simp only [splitL]
  split
  ·simp
  split <;> simp
theorem splitL_one {b : UInt8} : ∀ {p : List UInt8}, b ∉ p → splitL b p = [p]
 | [], _ => rfl
 | c :: p, h => by
  simp only [List.mem_cons, not_or] at h
  simp only [splitL, splitL_one h.2]
  rw [if_neg fun e => h.1 e.symm]
theorem splitL_app {b : UInt8} : ∀ {p : List UInt8} (s : List UInt8), b ∉ p → splitL b (p ++ b :: s) = p :: splitL b s
 | [], s, _ => by simp [splitL]
 | c :: p, s, h => by
  simp only [List.mem_cons, not_or] at h
  simp only [List.cons_append, splitL, splitL_app s h.2]
  rw [if_neg fun e => h.1 e.symm]
theorem splitL_len (b : UInt8) (s : List UInt8) : (splitL b s).length = s.count b + 1 := by
 induction s with
 | nil => rfl
 | cons c r ih =>
  simp only [splitL]
  split
  ·rename_i h
   simp [ih, h]
  rename_i h
  cases hs : splitL b r with
  | nil => exact absurd hs (splitL_ne b r)
  | cons p q =>
   rw [hs] at ih
   simp only [List.length_cons] at ih ⊢
   rw [List.count_cons_of_ne h]
   exact ih
/-- A text is free of the separator, or it is cut where it stands first. -/
theorem cut_at (b : UInt8) (s : List UInt8) : b ∉ s ∨ ∃ p r, s = p ++ b :: r ∧ b ∉ p := by
 induction s with
 | nil => exact .inl (by simp)
 | cons c s ih =>
  by_cases h : c = b
  ·exact .inr ⟨[], s, by rw [h]; rfl, by simp⟩
  rcases ih with h1 | ⟨p, r, h1, h2⟩
  ·exact .inl (by simp only [List.mem_cons, not_or]; exact ⟨fun e => h e.symm, h1⟩)
  exact .inr ⟨c :: p, r, by rw [h1]; rfl, by simp only [List.mem_cons, not_or]; exact ⟨fun e => h e.symm, h2⟩⟩
theorem indexByte_free {b : UInt8} : ∀ {s : List UInt8}, b ∉ s → Lib.indexByte s b = -1
 | [], _ => rfl
 | c :: s, h => by
  simp only [List.mem_cons, not_or] at h
  unfold Lib.indexByte
  rw [indexByte_free h.2, if_neg (by simpa using fun e => h.1 e.symm), if_pos (by decide)]
theorem indexByte_at {b : UInt8} (r : List UInt8) : ∀ {p : List UInt8}, b ∉ p → Lib.indexByte (p ++ b :: r) b = (p.length : Int)
 | [], _ => by simp [Lib.indexByte]
 | c :: p, h => by
  simp only [List.mem_cons, not_or] at h
  simp only [List.cons_append]
  unfold Lib.indexByte
  rw [indexByte_at r h.2, if_neg (by simpa using fun e => h.1 e.symm), if_neg (by simp)]
  simp
/-- The library's parts. -/
theorem splitK_one (b : UInt8) : ∀ (n : Nat) (s : List UInt8), s.length ≤ n → Lib.splitK [b] 0 (Lib.count s [b]) s = splitL b s := by
 intro n
 induction n with
 | zero =>
  intro s h
  have : s = [] := List.eq_nil_of_length_eq_zero (by omega)
  subst this
  have hm : Lib.index [] [b] = -1 := by rw [Lib.index_one]; rfl
  rw [Lib.count_miss hm]
  rfl
 | succ n ih =>
  intro s h
  rcases cut_at b s with hf | ⟨p, r, rfl, hp⟩
  ·have hm : Lib.index s [b] = -1 := by rw [Lib.index_one]; exact indexByte_free hf
   rw [Lib.count_miss hm, splitL_one hf]
   rfl
  have hm : Lib.index (p ++ b :: r) [b] = (p.length : Int) := by rw [Lib.index_one]; exact indexByte_at r hp
  have hd : (p ++ b :: r).drop (p.length + [b].length) = r := by
   rw [List.drop_append]
   simp
  rw [Lib.count_hit (by simp) hm, hd, Nat.add_comm 1, splitL_app r hp, Lib.splitK]
  rw [if_neg (by rw [hm]; simp), hm, Int.toNat_natCast, hd, ih r (by simp at h; omega)]
  simp
theorem splitB_one (b : UInt8) (s : ByteArray) : (Lib.splitB ⟨#[b]⟩ 0 (Lib.countB s ⟨#[b]⟩) s).map (·.data.toList) = splitL b s.data.toList := by
 rw [Lib.splitB_data]
 exact splitK_one b s.data.toList.length s.data.toList (Nat.le_refl _)
def numFrom (n : Nat) : List UInt8 → Option Nat
 | [] => some n
 | c :: r => if 48 ≤ c.toNat ∧ c.toNat ≤ 57 then numFrom (10 * n + (c.toNat - 48)) r else none
/-- A numeral of at most k digits. -/
def numE (k : Nat) (w : List UInt8) : Option Nat :=
 if w = [] ∨ k < w.length ∨ (w.head? = some 48 ∧ 1 < w.length) then none else numFrom 0 w
theorem numFrom_snoc (c : UInt8) : ∀ (l : List UInt8) (n : Nat), numFrom n (l ++ [c]) = (numFrom n l).bind fun m => if 48 ≤ c.toNat ∧ c.toNat ≤ 57 then some (10 * m + (c.toNat - 48)) else none
 | [], n => by simp only [List.nil_append, numFrom, Option.bind_some]
 | d :: l, n => by
  simp only [List.cons_append, numFrom]
  split
  ·exact numFrom_snoc c l _
  rfl
theorem numFrom_ge : ∀ (l : List UInt8) (n v : Nat), numFrom n l = some v → n ≤ v
 | [], n, v, h => by simp only [numFrom] at h; injection h with h; omega
 | c :: l, n, v, h => by
  simp only [numFrom] at h
  split at h
  ·have := numFrom_ge l _ v h; omega
  cases h
theorem dig_toNat {d : Nat} (h : d < 10) : (UInt8.ofNat (48 + d)).toNat = 48 + d := by simp; omega
theorem dec_ne (u : Nat) : Lib.decDigits u ≠ [] := by
 rw [Lib.decDigits]
 split <;> simp
theorem dec_num (u : Nat) : numFrom 0 (Lib.decDigits u) = some u := by
 induction u using Nat.strongRecOn with
 | _ u ih =>
  rw [Lib.decDigits]
  split
  ·rename_i h
   simp only [numFrom, dig_toNat h]
   rw [if_pos (by omega)]
   congr 1; omega
  rename_i h
  rw [numFrom_snoc, ih (u / 10) (by omega), Option.bind_some, dig_toNat (by omega), if_pos (by omega)]
  congr 1; omega
theorem head_app {α : Type} {l m : List α} (h : l ≠ []) : (l ++ m).head? = l.head? := by
 cases l with
 | nil => exact absurd rfl h
 | cons a l => rfl
theorem dec_head (u : Nat) : (Lib.decDigits u).head? = some 48 → u = 0 := by
 induction u using Nat.strongRecOn with
 | _ u ih =>
  rw [Lib.decDigits]
  split
  ·rename_i h
   intro e
   simp only [List.head?_cons, Option.some.injEq] at e
   have := congrArg UInt8.toNat e
   rw [dig_toNat h] at this
   simp at this
   exact this
  rename_i h
  intro e
  have hne := dec_ne (u / 10)
  rw [head_app hne] at e
  have := ih (u / 10) (by omega) e
  omega
theorem dec_one : Lib.decDigits 0 = [48] := by rw [Lib.decDigits]; rfl
theorem numE_dec {k u : Nat} (h : (Lib.decDigits u).length ≤ k) : numE k (Lib.decDigits u) = some u := by
 unfold numE
 rw [if_neg, dec_num]
 rintro (h1 | h1 | ⟨h1, h2⟩)
 ·exact dec_ne u h1
 ·omega
 have := dec_head u h1
 subst this
 rw [dec_one] at h2
 simp at h2
theorem num_dec : ∀ (n : Nat) (w : List UInt8) (u : Nat), w.length = n → w ≠ [] → (w.head? = some 48 → w.length = 1) → numFrom 0 w = some u → w = Lib.decDigits u := by
 intro n
 induction n with
 | zero => intro w u hl hne; exact absurd (List.eq_nil_of_length_eq_zero hl) hne
 | succ n ih =>
  intro w u hl hne hz hn
  obtain ⟨l, c, rfl⟩ : ∃ l c, w = l ++ [c] := ⟨w.dropLast, w.getLast hne, (List.dropLast_concat_getLast hne).symm⟩
  rw [numFrom_snoc] at hn
  cases hm : numFrom 0 l with
  | none => rw [hm] at hn; cases hn
  | some m =>
   rw [hm, Option.bind_some] at hn
   split at hn
   ·rename_i hc
    injection hn with hn
    have hcc : c = UInt8.ofNat (48 + (c.toNat - 48)) := by
     apply UInt8.toNat.inj
     rw [dig_toNat (by omega)]
     omega
    by_cases hl0 : l = []
    ·subst hl0
     simp only [numFrom] at hm
     injection hm with hm
     subst hm
     rw [Lib.decDigits, dif_pos (by omega), ← hn, List.nil_append]
     rw [show 10 * 0 + (c.toNat - 48) = c.toNat - 48 by omega, ← hcc]
    have hl1 : l.length = n := by simp at hl; exact hl
    have hlp : 0 < l.length := List.length_pos_iff.2 hl0
    have hh : l.head? ≠ some 48 := by
     intro e
     have := hz (by rw [head_app hl0]; exact e)
     simp at this
     exact hl0 this
    have e := ih l m hl1 hl0 (fun e => absurd e hh) hm
    have hm0 : m ≠ 0 := by
     rintro rfl
     rw [dec_one] at e
     rw [e] at hh
     exact hh rfl
    rw [Lib.decDigits, dif_neg (by omega), ← hn]
    rw [show (10 * m + (c.toNat - 48)) / 10 = m by omega, show (10 * m + (c.toNat - 48)) % 10 = c.toNat - 48 by omega, ← e, ← hcc]
   cases hn
theorem numE_inv {k u : Nat} {w : List UInt8} (h : numE k w = some u) : w = Lib.decDigits u ∧ w.length ≤ k := by
 unfold numE at h
 split at h
 ·cases h
 rename_i hc
 simp only [not_or, not_and] at hc
 obtain ⟨h1, h2, h3⟩ := hc
 refine ⟨num_dec _ w u rfl h1 (fun e => ?_) h, by omega⟩
 have := h3 e
 have := List.length_pos_iff.2 h1
 omega
/-- The number that Atoi hands back, and whether there is no error. -/
def atoiV (w : List UInt8) : Int := match Lib.atoiAll w with
 | .ok v => v
 | .range => Lib.atoiSat w
 | _ => 0
def atoiOK (w : List UInt8) : Bool := match Lib.atoiAll w with
 | .ok _ => true
 | _ => false
theorem parse_num : ∀ (l : List UInt8) (n v : Nat), numFrom n l = some v → v < 18446744073709551616 → Lib.parseUint10 n l = .ok v
 | [], n, v, h, _ => by simp only [numFrom] at h; injection h with h; rw [Lib.parseUint10, h]
 | c :: l, n, v, h, hv => by
  simp only [numFrom] at h
  split at h
  ·rename_i hc
   have hge := numFrom_ge l _ v h
   rw [Lib.parseUint10, if_pos hc, if_neg (by omega), if_neg (by omega), show n * 10 + (c.toNat - 48) = 10 * n + (c.toNat - 48) by omega]
   exact parse_num l _ v h hv
  cases h
theorem dec_digits (u : Nat) : ∀ c, c ∈ Lib.decDigits u → 48 ≤ c.toNat ∧ c.toNat ≤ 57 := by
 induction u using Nat.strongRecOn with
 | _ u ih =>
  rw [Lib.decDigits]
  split
  ·rename_i h
   intro c hc
   simp only [List.mem_singleton] at hc
   subst hc
   rw [dig_toNat h]
   omega
  rename_i h
  intro c hc
  rcases List.mem_append.1 hc with hc | hc
  ·exact ih (u / 10) (by omega) c hc
  simp only [List.mem_singleton] at hc
  subst hc
  rw [dig_toNat (by omega)]
  omega
theorem atoi_dec {u : Nat} (h : u < 9223372036854775808) : Lib.atoiAll (Lib.decDigits u) = .ok (u : Int) := by
 have hd := dec_digits u
 have hn := dec_num u
 cases hw : Lib.decDigits u with
 | nil => exact absurd hw (dec_ne u)
 | cons c r =>
  rw [hw] at hd hn
  have hc := hd c (List.mem_cons_self ..)
  unfold Lib.atoiAll
  simp only
  rw [if_neg (by omega)]
  unfold Lib.parseMag
  rw [if_neg (by simp), parse_num _ _ _ hn (by omega)]
  simp only
  rw [if_neg (by omega), if_neg (by omega), if_neg (by omega)]
/-- A word, as the program tells whether it is a number. -/
def wordOK (k : Nat) (w : List UInt8) : Bool := atoiOK w && decide (0 ≤ atoiV w) && decide (w.length ≤ k) && decide (Lib.itoa (atoiV w) = w)
theorem dec_small {k u : Nat} (h : (Lib.decDigits u).length ≤ k) : u < 10 ^ k := by
 have h1 := Lib.lt_pow_nDigits u
 rw [← Lib.decDigits_length] at h1
 exact Nat.lt_of_lt_of_le h1 (Nat.pow_le_pow_right (by omega) h)
theorem wordOK_num {k : Nat} (hk : k ≤ 18) (w : List UInt8) : wordOK k w = (numE k w).isSome ∧ ∀ n, numE k w = some n → atoiV w = (n : Int) := by
 have key : ∀ n, numE k w = some n → atoiV w = (n : Int) ∧ atoiOK w = true ∧ Lib.itoa (n : Int) = w ∧ w.length ≤ k := by
  intro n hn
  obtain ⟨h1, h2⟩ := numE_inv hn
  have hs : n < 10 ^ k := dec_small (by rw [← h1]; exact h2)
  have hb : 10 ^ k ≤ 10 ^ 18 := Nat.pow_le_pow_right (by omega) hk
  have ha := atoi_dec (u := n) (by omega)
  rw [← h1] at ha
  refine ⟨by unfold atoiV; rw [ha], by unfold atoiOK; rw [ha], ?_, h2⟩
  unfold Lib.itoa
  rw [if_neg (by omega), Int.toNat_natCast, ← h1]
 refine ⟨?_, fun n hn => (key n hn).1⟩
 cases hn : numE k w with
 | some n =>
  obtain ⟨h1, h2, h3, h4⟩ := key n hn
  unfold wordOK
  rw [h1, h2, h3]
  simp [h4]
 | none =>
  cases hw : wordOK k w with
  | false => rfl
  | true =>
   exfalso
   unfold wordOK at hw
   simp only [Bool.and_eq_true, decide_eq_true_eq] at hw
   obtain ⟨⟨⟨h1, h2⟩, h3⟩, h4⟩ := hw
   unfold Lib.itoa at h4
   rw [if_neg (by omega)] at h4
   have := numE_dec (k := k) (u := (atoiV w).toNat) (by rw [h4]; exact h3)
   rw [h4, hn] at this
   cases this
end Go.Proofs.YtpiepcplalkfiaaGreatDoor
