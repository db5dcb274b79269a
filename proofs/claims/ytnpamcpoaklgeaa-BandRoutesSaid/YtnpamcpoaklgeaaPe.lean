/-
  Towns made of numbers are valid.
  Walks: cities and bands made of numbers (bateriakit).
  A slice is held against nil: the answer is open where the slice is empty.
  Walks: requests of bands (band).
  Walks: permits, one after the other (band).
  Slices of slices: what goes in front is cut off.
  Parts of slices at this seat's types.
  Walks: the chapter's examples (baterialaw07).
  Cities and bands made of numbers are valid.
  What may come in: cities and bands; few enough of them.
  Slices that grow in place: operations without types; a variable moved to another number; a variable that is never written again.
  Facts of this seat's types for slices that grow in place.
  Maps as lists of keys with their values, without the program's types.
  Slices made at once, written and then frozen; rows of numbers written at a place.
  Facts of this seat's types for maps and made slices.
  Walks: a number in a list; streets that are closed.
  Shortest ways, in plain words: the search from the end, square by square; what it finds are the distances.
  Walk: a shortest way (crowd).
  Back along the distances.
-/
import Derived.Test.YtnpamcpoaklgeaaPd
import Derived.CallsIn
import Derived.RangeFuncLeaves
import Derived.RangeFuncRecord
import Derived.OrdersIn
import Derived.Below
import Derived.Laws.World
import Derived.Laws.StructEq
import Derived.Laws.Append
import Derived.MapKept
import Derived.ProofKit
import Derived.Carry
import Derived.Handed
import Derived.ChangeCalls
import Derived.RangeFuncIn
import Derived.RangeFuncNested
import Derived.Test.YtnpamcpoaklgeaaProg
import Derived.KernelRfl
import Derived.IntWalk
import Derived.Test.YtnpamcpoaklgeaaRows
import Derived.JoinedOf
set_option linter.unusedSimpArgs false
set_option linter.unusedVariables false
namespace Go.Proofs.Ytnpamcpoaklgeaa
open Go Go.RowKit
structure GroupV (n : Nat) (sts : List (Int × Int)) (g : Group) : Prop where
  s1 : 0 ≤ g.slo
  s2 : g.slo ≤ g.shi
  s3 : g.shi ≤ 1000000
  a1 : 0 ≤ g.alo
  a2 : g.alo ≤ g.ahi
  a3 : g.ahi ≤ 96
  t1 : 1 ≤ g.stay
  t2 : g.stay ≤ 96
  f1 : 0 ≤ g.first
  f2 : g.first < n
  p1 : g.path.length ≤ 4
  p2 : chkPath sts g.path g.first = 0
def StreetV (n : Nat) (s : Int × Int) : Prop := 0 ≤ s.1 ∧ s.1 < n ∧ 0 ≤ s.2 ∧ s.2 < n ∧ s.1 ≠ s.2
structure TownV (sq st gr : Nat) (t : Town) : Prop where
  r0 : 1 ≤ t.rooms.length
  r1 : t.rooms.length ≤ sq
  r2 : ∀ r, r ∈ t.rooms → 0 ≤ r ∧ r ≤ 500
  s1 : t.streets.length ≤ st
  s2 : ∀ s, s ∈ t.streets → StreetV t.rooms.length s
  w1 : 0 ≤ t.steps
  w2 : t.steps ≤ 96
  g1 : t.groups.length ≤ gr
  g2 : ∀ g, g ∈ t.groups → GroupV t.rooms.length t.streets g
def pathEnd (sts : List (Int × Int)) : List Int → Int → Int
  | [], a => a
  | s :: r, a => pathEnd sts r (other ((sts[s.toNat]?).getD (0, 0)) a)
theorem chkPath_snoc {sts : List (Int × Int)} {s : Int} (h1 : 0 ≤ s) (h2 : s < sts.length) : ∀ (p : List Int) (a : Int), chkPath sts p a = 0 → 0 ≤ other ((sts[s.toNat]?).getD (0, 0)) (pathEnd sts p a) →
    chkPath sts (p ++ [s]) a = 0 ∧ pathEnd sts (p ++ [s]) a = other ((sts[s.toNat]?).getD (0, 0)) (pathEnd sts p a) := by
  intro p
  induction p with
  | nil =>
    intro a _ ho
    obtain ⟨x, hx⟩ : ∃ x, sts[s.toNat]? = some x := ⟨_, List.getElem?_eq_getElem (by omega)⟩
    simp only [hx, Option.getD_some, pathEnd] at ho
    simp only [List.nil_append, chkPath, pathEnd, hx, Option.getD_some]
    rw [if_neg (by simp [inR]; omega), if_neg (by omega)]
    exact ⟨by simp [chkPath], trivial⟩
  | cons y r ih =>
    intro a hc ho
    simp only [List.cons_append, chkPath, pathEnd] at hc ho ⊢
    by_cases hy : (!inR y 0 ((sts.length : Int) - 1)) = true
    · rw [if_pos hy] at hc; cases hc
    · rw [if_neg hy] at hc ⊢
      cases hs : sts[y.toNat]? with
      | none => rw [hs] at hc; cases hc
      | some z =>
        rw [hs] at hc ho
        simp only [Option.getD_some] at hc ho ⊢
        by_cases hz : other z a < 0
        · rw [if_pos hz] at hc; cases hc
        · rw [if_neg hz] at hc ⊢
          exact ih _ hc ho
theorem pathD_ok {n : Nat} {sts : List (Int × Int)} {g : Group} (hg : GroupV n sts { g with path := [] }) : ∀ (k : Nat) (a : Int) (acc : List Int), (k ≠ 0 → 0 < sts.length) → acc.length + k ≤ 4 → chkPath sts acc g.first = 0 → pathEnd sts acc g.first = a →
    Holds (pathD sts g k a acc) (GroupV n sts) := by
  intro k
  induction k with
  | zero =>
    intro a acc _ hl hc _
    exact .ret ⟨hg.s1, hg.s2, hg.s3, hg.a1, hg.a2, hg.a3, hg.t1, hg.t2, hg.f1, hg.f2, by simpa using hl, hc⟩
  | succ k ih =>
    intro a acc h0 hl hc he
    have hs := h0 (by omega)
    refine (roll_bd sts.length).bind fun s hsb => ?_
    split
    · rename_i ho
      obtain ⟨q1, q2⟩ := chkPath_snoc (s := s) (by omega) (by omega) acc g.first hc (by rw [he]; exact ho)
      exact ih _ _ (fun _ => hs) (by simp; omega) q1 (by rw [q2, he])
    · exact ih _ _ (fun _ => hs) (by omega) hc he
theorem groupD_ok {n : Nat} (hn : 1 ≤ n) (sts : List (Int × Int)) : Holds (groupD n sts) (GroupV n sts) := by
  unfold groupD
  refine (anyOf_mem [30, 90] (by simp)).bind fun x hx => ?_
  have hx := mem2 hx
  refine (spanOf_bd 0 x (by omega)).bind fun sz hsz => ?_
  refine (anyOf_mem [0, 4] (by simp)).bind fun y hy => ?_
  have hy := mem2 hy
  refine (spanOf_bd 0 y (by omega)).bind fun a ha => ?_
  refine (mid_bd 1 4 (by omega)).bind fun st hst => ?_
  refine (roll_bd n).bind fun f hf => ?_
  refine (roll_bd 5).bind fun k hk => ?_
  refine pathD_ok ⟨by (try dsimp only); omega, by (try dsimp only); omega, by (try dsimp only); omega, by (try dsimp only); omega, by (try dsimp only); omega, by (try dsimp only); omega, by (try dsimp only); omega, by (try dsimp only); omega, by (try dsimp only); omega, by (try dsimp only); omega, by simp, rfl⟩ _ _ _ (fun h => ?_) ?_ rfl rfl
  · split at h
    · assumption
    · exact absurd rfl h
  · split <;> simp <;> omega
theorem fit_street {a m n : Int} (ha : 0 ≤ a) (ha2 : a < n) (hm : 1 ≤ m) (hm2 : m ≤ n - 1) : 0 ≤ fit (a + m) n ∧ fit (a + m) n < n ∧ a ≠ fit (a + m) n := by
  have hb := fit_bd (a + m) n
  have e : fit (a + m) n = (a + m) % n := by
    unfold fit
    rw [if_neg (by omega), Int.tmod_eq_emod_of_nonneg (by omega), if_neg (by have := Int.emod_nonneg (a + m) (show n ≠ 0 by omega); omega)]
  refine ⟨by omega, by omega, ?_⟩
  rw [e]
  by_cases h : a + m < n
  · rw [Int.emod_eq_of_lt (by omega) h]; omega
  · have : (a + m) % n = a + m - n := by
      rw [← Int.sub_emod_right, Int.emod_eq_of_lt (by omega) (by omega)]
    omega
theorem townC_ok {sq st gr : Nat} {steps : Int} {rooms : List Int} {sts : List (Int × Int)} (hr0 : 1 ≤ rooms.length) (hr1 : rooms.length ≤ sq) (hr2 : ∀ r, r ∈ rooms → 0 ≤ r ∧ r ≤ 500) (hs1 : sts.length ≤ st) (hs2 : ∀ s, s ∈ sts → StreetV rooms.length s)
    (hw1 : 0 ≤ steps) (hw2 : steps ≤ 96) : ∀ (k : Nat) (acc : List Group), acc.length + k ≤ gr → (∀ g, g ∈ acc → GroupV rooms.length sts g) → Holds (townC steps rooms.length rooms sts k acc) (TownV sq st gr) := by
  intro k
  induction k with
  | zero => intro acc hl hg; exact .ret ⟨hr0, hr1, hr2, hs1, hs2, hw1, hw2, by simpa using hl, hg⟩
  | succ k ih =>
    intro acc hl hg
    refine (groupD_ok hr0 sts).bind fun g hgv => ih _ (by simp; omega) fun x hx => ?_
    rcases List.mem_append.1 hx with hx | hx
    · exact hg x hx
    · simp only [List.mem_singleton] at hx; subst hx; exact hgv
theorem townB_ok {sq st gr : Nat} {steps : Int} {rooms : List Int} (hr0 : 1 ≤ rooms.length) (hr1 : rooms.length ≤ sq) (hr2 : ∀ r, r ∈ rooms → 0 ≤ r ∧ r ≤ 500) (hw1 : 0 ≤ steps) (hw2 : steps ≤ 96) : ∀ (k : Nat) (acc : List (Int × Int)), (k ≠ 0 → 1 < rooms.length) → acc.length + k ≤ st →
    (∀ s, s ∈ acc → StreetV rooms.length s) → Holds (townB gr steps rooms.length rooms k acc) (TownV sq st gr) := by
  intro k
  induction k with
  | zero =>
    intro acc _ hl hs
    refine (roll_bd (gr + 1)).bind fun g hg => ?_
    exact townC_ok hr0 hr1 hr2 (by simpa using hl) hs hw1 hw2 _ [] (by simp; omega) (fun g hg => by cases hg)
  | succ k ih =>
    intro acc h1 hl hs
    have hn := h1 (by omega)
    refine (roll_bd rooms.length).bind fun a ha => (mid_bd 1 ((rooms.length : Int) - 1) (by omega)).bind fun m hm => ih _ (fun _ => hn) (by simp; omega) fun x hx => ?_
    rcases List.mem_append.1 hx with hx | hx
    · exact hs x hx
    · simp only [List.mem_singleton] at hx; subst hx
      have := fit_street (a := a) (m := m) (n := rooms.length) (by omega) (by omega) (by omega) (by omega)
      exact ⟨by (try dsimp only); omega, by (try dsimp only); omega, this.1, this.2.1, this.2.2⟩
theorem townA_ok {sq st gr : Nat} {steps : Int} {n : Nat} (hn : 1 ≤ n) (hn2 : n ≤ sq) (hw1 : 0 ≤ steps) (hw2 : steps ≤ 96) : ∀ (k : Nat) (acc : List Int), acc.length + k = n → (∀ r, r ∈ acc → 0 ≤ r ∧ r ≤ 500) → Holds (townA st gr steps n k acc) (TownV sq st gr) := by
  intro k
  induction k with
  | zero =>
    intro acc hl hr
    have hl : acc.length = n := by simpa using hl
    subst hl
    refine (roll_bd (st + 1)).bind fun m hm => ?_
    refine townB_ok hn hn2 hr hw1 hw2 _ [] (fun h => ?_) ?_ (fun s hs => by cases hs)
    · split at h
      · omega
      · exact absurd rfl h
    · split <;> simp <;> omega
  | succ k ih =>
    intro acc hl hr
    refine (roll_bd 60).bind fun x hx => (roll_bd 150).bind fun y hy => (anyOf_mem [x, y, 500] (by simp)).bind fun z hz => ih _ (by simp; omega) fun w hw => ?_
    have hz := mem3 hz
    rcases List.mem_append.1 hw with hw | hw
    · exact hr w hw
    · simp only [List.mem_singleton] at hw; subst hw; omega
theorem townD_ok {sq st gr : Nat} (h : 1 ≤ sq) : Holds (townD sq st gr) (TownV sq st gr) := by
  unfold townD
  refine (anyOf_mem [4, 11] (by simp)).bind fun x hx => (roll_bd x).bind fun steps hst => (mid_bd 1 sq (by omega)).bind fun n hn => ?_
  have hx := mem2 hx
  obtain ⟨m, rfl⟩ : ∃ m : Nat, n = (m : Int) := ⟨n.toNat, by omega⟩
  rw [Int.toNat_natCast]
  exact townA_ok (by omega) (by omega) (by omega) (by omega) m [] (by simp) (fun r hr => by cases hr)
end Go.Proofs.Ytnpamcpoaklgeaa
namespace Go.Proofs.Ytnpamcpoaklgeaa
open Go Go.RowKit
set_option maxRecDepth 100000
def cityA (t : Town) (brk : Int) : Nat → List Int → D City
  | 0, acc => dret ⟨t, brk, acc⟩
  | k + 1, acc => dbind (roll 721) fun x => dbind (mid 300 600) fun y => dbind (anyOf [0, x, y]) fun z => cityA t brk k (acc ++ [z])
def cityD : D City := dbind (townD 4 5 1) fun t => dbind (roll 10) fun x => dbind (roll 60) fun y => dbind (anyOf [0, 1, x, y]) fun brk => cityA t brk t.rooms.length []
theorem dbind_ap {α β : Type} (m : D α) (f : α → D β) (b : Int) : dbind m f b = f (m b).1 (m b).2 := Eq.trans rfl rfl
theorem townD451 (b : Int) : TownV 4 5 1 (townD 4 5 1 b).1 := townD_ok (sq := 4) (st := 5) (gr := 1) (by omega) b
theorem mem4 {a b c d r : Int} (h : r ∈ [a, b, c, d]) : r = a ∨ r = b ∨ r = c ∨ r = d := by simpa using h
set_option maxHeartbeats 4000000 in
theorem CityOf_pc (Y : YEnv) (σ : Sg) (d : Nat) (b : Int) (hd : σ.store[d]? = some (some [.int .u64 b])) :
    PC Try.prog Y 19 [.ptr d 0] σ (ctPV (cityD b).1) (σ.setVar d [.int .u64 (cityD b).2]) := by
  refine PC_of_W Try.func19 rfl (by kernel_rfl) Try.ntmps19 (by simp) fun hcl hca => ?_
  have hlt := lt_of_get hd
  obtain ⟨res, hres⟩ : ∃ r, cityD b = r := ⟨_, rfl⟩
  rw [hres]
  obtain ⟨t, ht⟩ : ∃ zz, (townD 4 5 1 b).1 = zz := ⟨_, rfl⟩
  obtain ⟨b1, hb1⟩ : ∃ zz, (townD 4 5 1 b).2 = zz := ⟨_, rfl⟩
  have dt := townD451 b
  rw [ht] at dt
  obtain ⟨x1, hx1⟩ : ∃ zz, (roll 10 b1).1 = zz := ⟨_, rfl⟩
  obtain ⟨b2, hb2⟩ : ∃ zz, (roll 10 b1).2 = zz := ⟨_, rfl⟩
  have dx1 := roll_bd 10 b1
  simp only [hx1] at dx1
  obtain ⟨x2, hx2⟩ : ∃ zz, (roll 60 b2).1 = zz := ⟨_, rfl⟩
  obtain ⟨b3, hb3⟩ : ∃ zz, (roll 60 b2).2 = zz := ⟨_, rfl⟩
  have dx2 := roll_bd 60 b2
  simp only [hx2] at dx2
  obtain ⟨brk, hbrk⟩ : ∃ zz, (anyOf [0, 1, x1, x2] b3).1 = zz := ⟨_, rfl⟩
  obtain ⟨b4, hb4⟩ : ∃ zz, (anyOf [0, 1, x1, x2] b3).2 = zz := ⟨_, rfl⟩
  have dbrk := anyOf_mem [0, 1, x1, x2] (by simp) b3
  simp only [hbrk] at dbrk
  have d4 := mem4 dbrk
  have hr1 := dt.r1
  unfold cityD at hres
  simp only [dbind_ap, ht, hb1, hx1, hb2, hx2, hb3, hbrk, hb4] at hres
  refine W_seq fun kz1 kq1 => ?_
  refine W_region [0, 2] fun R hR => ?_   -- r0
  simp only [go_sem, ldS_at hd, stX_at hd, ldS_sv hlt, stX_sv hlt, sv_ext hlt, sv_ext_sv hlt, ht, hb1, hx1, hb2, hx2, hb3, hbrk, hb4]
  refine hR _ _ (kq1 _ _ ?_); clear hR R; try clear kq1 kz1
  try simp only [go_sem, ldS_at hd, stX_at hd, ldS_sv hlt, stX_sv hlt, sv_ext hlt, sv_ext_sv hlt, ht, hb1, hx1, hb2, hx2, hb3, hbrk, hb4]
  refine W_seq fun kz2 kq2 => ?_
  refine W_region [0, 2, 3] fun R hR => ?_   -- r1
  simp only [go_sem, ldS_at hd, stX_at hd, ldS_sv hlt, stX_sv hlt, sv_ext hlt, sv_ext_sv hlt, ht, hb1, hx1, hb2, hx2, hb3, hbrk, hb4]
  refine GCall_of (TownOf_pc Y _ d b (by first | exact hd | exact sv_get hlt | exact get_svx hlt | exact get_extx hd) 4 5 1 (by omega) (by omega) (by omega) (by omega) (by omega) (by omega)) ?_   -- t6
  simp only [go_sem, ldS_at hd, stX_at hd, ldS_sv hlt, stX_sv hlt, sv_ext hlt, sv_ext_sv hlt, ht, hb1, hx1, hb2, hx2, hb3, hbrk, hb4]
  refine GCall_of (Roll_pc Y _ d b1 (by first | exact hd | exact sv_get hlt | exact get_svx hlt | exact get_extx hd) 10 (by omega)) ?_   -- t9
  simp only [go_sem, ldS_at hd, stX_at hd, ldS_sv hlt, stX_sv hlt, sv_ext hlt, sv_ext_sv hlt, ht, hb1, hx1, hb2, hx2, hb3, hbrk, hb4]
  refine GCall_of (Roll_pc Y _ d b2 (by first | exact hd | exact sv_get hlt | exact get_svx hlt | exact get_extx hd) 60 (by omega)) ?_   -- t11
  simp only [go_sem, ldS_at hd, stX_at hd, ldS_sv hlt, stX_sv hlt, sv_ext hlt, sv_ext_sv hlt, ht, hb1, hx1, hb2, hx2, hb3, hbrk, hb4]
  refine GCall_of (Any_pc Y _ d b3 (by first | exact hd | exact sv_get hlt | exact get_svx hlt | exact get_extx hd) [0, 1, x1, x2] (by simp) (by simp)) ?_   -- t13
  simp only [go_sem, ldS_at hd, stX_at hd, ldS_sv hlt, stX_sv hlt, sv_ext hlt, sv_ext_sv hlt, ht, hb1, hx1, hb2, hx2, hb3, hbrk, hb4]
  refine hR _ _ (kq2 _ _ ?_); clear hR R; try clear kq2 kz2
  try simp only [go_sem, ldS_at hd, stX_at hd, ldS_sv hlt, stX_sv hlt, sv_ext hlt, sv_ext_sv hlt, ht, hb1, hx1, hb2, hx2, hb3, hbrk, hb4]
  refine W_seq fun kz3 kq3 => ?_
  refine W_seq fun kz4 kq4 => ?_
  refine W_region [0, 2, 3, 4] fun R hR => ?_   -- r2
  simp only [go_sem, ldS_at hd, stX_at hd, ldS_sv hlt, stX_sv hlt, sv_ext hlt, sv_ext_sv hlt, ht, hb1, hx1, hb2, hx2, hb3, hbrk, hb4]
  refine hR _ _ (kq4 _ _ ?_); clear hR R; try clear kq4 kz4
  try simp only [go_sem, ldS_at hd, stX_at hd, ldS_sv hlt, stX_sv hlt, sv_ext hlt, sv_ext_sv hlt, ht, hb1, hx1, hb2, hx2, hb3, hbrk, hb4]
  refine W_block ?_
  refine W_weak (Weak.roomSV (j := 1) (off := 5) (es := 1) rfl rfl (by simp)) ?_
  simp only [go_sem, ldS_at hd, stX_at hd, ldS_sv hlt, stX_sv hlt, sv_ext hlt, sv_ext_sv hlt, ht, hb1, hx1, hb2, hx2, hb3, hbrk, hb4]
  refine W_loopT (α := Nat × (List Int) × Int) (fun ⟨i, acc, b⟩ => [(4, I i)]) (fun ⟨i, acc, b⟩ => (σ.setVar d [.int .u64 b]).ext [some [.isl [] .exact, .isl [] .exact, .isl [] .exact, I 0, I 0, .isl [] .exact], some [ints t.rooms, .isl (t.streets.map stPV) .ro, .isl (t.groups.map grPV) .ro, I t.steps, I brk, .isl (acc.map I) (.tok σ.rooms.length acc.length 1)]] [acc.length]) (fun ⟨i, acc, b⟩ => i ≤ t.rooms.length ∧ acc.length = i ∧ res = cityA t brk (t.rooms.length - i) acc b) (fun ⟨i, acc, b⟩ => t.rooms.length - i) ((0, [], b4)) rfl (by first | rfl | (simp only [go_sem]; done) | (simp only [go_sem]; rfl)) (⟨Nat.zero_le _, rfl, hres.symm⟩) ?_
  rintro ⟨i, acc, b⟩ ⟨hi, hal, hinv⟩
  refine W_seq fun kz5 kq5 => ?_
  refine W_seq fun kz6 kq6 => ?_
  refine W_region [0, 2, 3, 4, 20] fun R hR => ?_   -- r3
  simp only [go_sem, ldS_at hd, stX_at hd, ldS_sv hlt, stX_sv hlt, sv_ext hlt, sv_ext_sv hlt, ht, hb1, hx1, hb2, hx2, hb3, hbrk, hb4]
  refine hR _ _ (kq6 _ _ ?_); clear hR R; try clear kq6 kz6
  try simp only [go_sem, ldS_at hd, stX_at hd, ldS_sv hlt, stX_sv hlt, sv_ext hlt, sv_ext_sv hlt, ht, hb1, hx1, hb2, hx2, hb3, hbrk, hb4]
  refine W_cond rfl (fun c1 => ?_) (fun c1 => ?_)
  · -- c1 true
    try simp only [nrm] at c1
    rw [show t.rooms.length - i = (t.rooms.length - (i + 1)) + 1 by omega] at hinv
    obtain ⟨x, hx⟩ : ∃ zz, (roll 721 b).1 = zz := ⟨_, rfl⟩
    obtain ⟨b5, hb5⟩ : ∃ zz, (roll 721 b).2 = zz := ⟨_, rfl⟩
    have dx := roll_bd 721 b
    simp only [hx] at dx
    obtain ⟨y, hy⟩ : ∃ zz, (mid 300 600 b5).1 = zz := ⟨_, rfl⟩
    obtain ⟨b6, hb6⟩ : ∃ zz, (mid 300 600 b5).2 = zz := ⟨_, rfl⟩
    have dy := mid_bd 300 600 (by omega) b5
    simp only [hy] at dy
    obtain ⟨z, hz⟩ : ∃ zz, (anyOf [0, x, y] b6).1 = zz := ⟨_, rfl⟩
    obtain ⟨b7, hb7⟩ : ∃ zz, (anyOf [0, x, y] b6).2 = zz := ⟨_, rfl⟩
    have dz := anyOf_mem [0, x, y] (by simp) b6
    simp only [hz] at dz
    simp only [cityA, dbind, hx, hb5, hy, hb6, hz, hb7] at hinv
    refine W_skip (kq5 _ _ ?_)
    refine W_seq fun kz7 kq7 => ?_
    refine W_block ?_
    refine W_draw [0, 2, 3, 4] [0, 1, 2, 3, 4, 5, 6, 7, 8, 9, 10, 11, 12] [(0, 6), (0, 8), (0, 10), (1, 6), (1, 8), (1, 10), (2, 6), (2, 8), (5, 4)] [[], [0], [], [], [3], [], [3, 4, 5], [3, 4, 5, 6], [2, 3, 4, 5, 6, 7], [2, 3, 4, 5, 6, 7, 8], [0, 1, 2, 3, 4, 5, 6, 7, 8, 9], [0, 1, 2, 3, 4, 5, 6, 7, 8, 9, 10], [0, 1, 2, 3, 4, 5, 6, 7, 8, 9, 10, 11]] mixed (by kernel_rfl) fun R hR => ?_   -- r5
    simp only [go_sem, ldS_at hd, stX_at hd, ldS_sv hlt, stX_sv hlt, sv_ext hlt, sv_ext_sv hlt, ht, hb1, hx1, hb2, hx2, hb3, hbrk, hb4, hx, hb5, hy, hb6, hz, hb7]
    refine GCall_of (Roll_pc Y _ d b (by first | exact hd | exact sv_get hlt | exact get_svx hlt | exact get_extx hd) 721 (by omega)) ?_   -- t27
    simp only [go_sem, ldS_at hd, stX_at hd, ldS_sv hlt, stX_sv hlt, sv_ext hlt, sv_ext_sv hlt, ht, hb1, hx1, hb2, hx2, hb3, hbrk, hb4, hx, hb5, hy, hb6, hz, hb7]
    refine GCall_of (Mid_pc Y _ d b5 (by first | exact hd | exact sv_get hlt | exact get_svx hlt | exact get_extx hd) 300 600 (by omega) (by omega) (by omega) (by omega)) ?_   -- t29
    simp only [go_sem, ldS_at hd, stX_at hd, ldS_sv hlt, stX_sv hlt, sv_ext hlt, sv_ext_sv hlt, ht, hb1, hx1, hb2, hx2, hb3, hbrk, hb4, hx, hb5, hy, hb6, hz, hb7]
    refine GCall_of (Any_pc Y _ d b6 (by first | exact hd | exact sv_get hlt | exact get_svx hlt | exact get_extx hd) [0, x, y] (by simp) (by simp)) ?_   -- t31
    simp only [go_sem, ldS_at hd, stX_at hd, ldS_sv hlt, stX_sv hlt, sv_ext hlt, sv_ext_sv hlt, ht, hb1, hx1, hb2, hx2, hb3, hbrk, hb4, hx, hb5, hy, hb6, hz, hb7]
    simp (disch := first | omega | (simp only [go_sem] <;> omega)) only [wrapI, wrapU, appX_exact, appX_tok]
    try simp only [go_sem, ldS_at hd, stX_at hd, ldS_sv hlt, stX_sv hlt, sv_ext hlt, sv_ext_sv hlt, ht, hb1, hx1, hb2, hx2, hb3, hbrk, hb4, hx, hb5, hy, hb6, hz, hb7]
    try refine And.intro (by repeat' (first | refine And.intro ?_ ?_ | exact GOr_right (fun _ => by simp only [go_sem, ldS_at hd, stX_at hd, ldS_sv hlt, stX_sv hlt, sv_ext hlt, sv_ext_sv hlt, ht, hb1, hx1, hb2, hx2, hb3, hbrk, hb4, hx, hb5, hy, hb6, hz, hb7]))) ?_
    refine hR _ _ (kq7 _ _ ?_); clear hR R; try clear kq7 kz7
    try simp only [go_sem, ldS_at hd, stX_at hd, ldS_sv hlt, stX_sv hlt, sv_ext hlt, sv_ext_sv hlt, ht, hb1, hx1, hb2, hx2, hb3, hbrk, hb4, hx, hb5, hy, hb6, hz, hb7]
    refine W_region [0, 2, 3, 4] fun R hR => ?_   -- r4
    simp only [go_sem, ldS_at hd, stX_at hd, ldS_sv hlt, stX_sv hlt, sv_ext hlt, sv_ext_sv hlt, ht, hb1, hx1, hb2, hx2, hb3, hbrk, hb4, hx, hb5, hy, hb6, hz, hb7]
    try simp (disch := omega) only [wrapI, wrapU]
    refine hR _ _ ?_; clear hR R
    try simp only [go_sem, ldS_at hd, stX_at hd, ldS_sv hlt, stX_sv hlt, sv_ext hlt, sv_ext_sv hlt, ht, hb1, hx1, hb2, hx2, hb3, hbrk, hb4, hx, hb5, hy, hb6, hz, hb7]
    refine ⟨(i + 1, acc ++ [z], b7), ?_, by (try simp only []); omega, ?_⟩
    · first | exact Weak.refl | exact Weak.eq (by first | rfl | (simp only [go_sem]; done) | (simp only [go_sem]; rfl) | (simp [go_sem]; done) | (simp [go_sem]; omega)) (by first | rfl | (simp only [go_sem]; done) | (simp [go_sem]; done))
    · try dsimp only
      exact ⟨by omega, by simp; omega, hinv⟩
  · -- c1 false
    try simp only [nrm] at c1
    rw [show t.rooms.length - i = 0 by omega] at hinv
    simp only [cityA, dret] at hinv
    refine W_exit ?_
    simp only [go_sem, ldS_at hd, stX_at hd, ldS_sv hlt, stX_sv hlt, sv_ext hlt, sv_ext_sv hlt, ht, hb1, hx1, hb2, hx2, hb3, hbrk, hb4]
    refine kq3 _ _ ?_
    refine W_seq fun kz8 kq8 => ?_
    refine W_region [2] fun R hR => ?_   -- r6
    simp only [go_sem, ldS_at hd, stX_at hd, ldS_sv hlt, stX_sv hlt, sv_ext hlt, sv_ext_sv hlt, ht, hb1, hx1, hb2, hx2, hb3, hbrk, hb4]
    refine hR _ _ (kq8 _ _ ?_); clear hR R; try clear kq8 kz8
    try simp only [go_sem, ldS_at hd, stX_at hd, ldS_sv hlt, stX_sv hlt, sv_ext hlt, sv_ext_sv hlt, ht, hb1, hx1, hb2, hx2, hb3, hbrk, hb4]
    refine W_ret ?_
    simp only [go_sem, ldS_at hd, stX_at hd, ldS_sv hlt, stX_sv hlt, sv_ext hlt, sv_ext_sv hlt, ht, hb1, hx1, hb2, hx2, hb3, hbrk, hb4]
    refine ⟨.inr (by trivial), ?_⟩
    rw [hinv]; refine Fin_set hcl (by simp only [go_sem]) (by show resPV Try.prog _ _ [.cell 2 28] = some _; simp only [resPV, go_sem]; rfl) (Wk.ro (by simp only [go_sem]) ?_)
    try simp only [go_sem]
    all_goals
      simp only [go_sem]
end Go.Proofs.Ytnpamcpoaklgeaa
namespace Go.Proofs.Ytnpamcpoaklgeaa
open Go Go.RowKit
theorem op_step {D : List Nat} {P : Program} {N : Nat} {rd : Option Nat} {ops : Array Oper} {Ψ0 : Ty} {Q : Exit → Act → World → Prop} {E : Env} {σ : Sg} {Ψ : Ty} {a : Act} {w : World} {o : Oper} {i : Nat} {is : List Nat} {v : PV}
    (hr : Rel N D Ψ E σ a w) (ho : ops[i]? = some o) (hd : dstOK N o = true) (hg : o.guard = none) (hnd : ∀ c, o.op ≠ .defer c) {x : Value} (hx : (execOp a.eval o).run P w = .ok (.value x) w) (hv : VR Ψ v x)
    (k : ∀ a', Rel N D Ψ (E.put o.dst v) σ a' w → wpOpsIn (FnOf Ψ0 rd) 0 P ops Q is a' w) : wpOpsIn (FnOf Ψ0 rd) 0 P ops Q (i :: is) a w := by
  simp only [wpOpsIn, ho]
  have hw : wantedPV ops E o = some true := by simp [wantedPV, hg]
  rw [wanted_ok hw hr.env]
  simp only [if_true]
  refine ⟨fun f _ => FnOf_fn _ _ _, ?_⟩
  rw [Oper.semAt_eq _ _ _ hnd, hx]
  exact k _ (hr.put (Ty.le.refl _) hr.sg hd hv)
theorem W_isnil {P : Program} {Y : YEnv} {N : Nat} {rd : Option Nat} {lo : Nat × Nat} {id d1 d2 : Nat} {x : Operand} {t ty1 ty2 e : TypeId} {p1 p2 : String} {af1 af2 : Array Edge} {sh : TypeId} {E : Env} {σ : Sg} {Q : Exit → Env → Sg → Prop} {l : List PV} {own : Own} (ks : List Nat)
    (h1 : d1 < N) (h2 : d2 < N) (hx : ev E x = .isl l own) (ht : P.underlying t = some (.slice e))
    (h : ∀ b : Bool, (b = true → l = []) → Q .normal (keep ks ((d2, .bool b) :: (d1, .isl l own) :: E)) σ) :
    W P Y N rd lo (.region id #[{ dst := some d1, op := .move x, type := ty1, pos := p1, after := af1, guard := none }, { dst := some d2, op := .binOp .eql t (.tmp d1) (.const (.slice none 0 0)) sh, type := ty2, pos := p2, after := af2, guard := none }] false) E σ Q := by
  intro Ψ0 D _ hy _ Ψ a w le hr
  refine wpIn_region ?_
  have hv := ev_ok hr.env x
  rw [hx] at hv
  refine op_step (is := [1]) (v := .isl l own) hr rfl (by simp [dstOK, h1]) rfl (fun c e => by cases e) (x := a.eval x) rfl hv fun a1 hr1 => ?_
  have hv1 : VR Ψ (.isl l own) (a1.tmps.getD d1 undef) := by
    have : VR Ψ ((Env.put E (some d1) (.isl l own)).get d1) (a1.tmps.getD d1 undef) := hr1.env d1
    rw [show (Env.put E (some d1) (.isl l own)).get d1 = .isl l own by simp [Env.get]] at this
    exact this
  have hval : ∃ q n c, a1.tmps.getD d1 undef = .slice q n c ∧ (q.isNone = true → l = []) := by
    generalize a1.tmps.getD d1 undef = z at hv1
    cases hv1 with
    | islnil _ _ _ => exact ⟨_, _, _, rfl, fun _ => rfl⟩
    | isl es _ _ b o cap vals hs h1 h2 hc ho => exact ⟨_, _, _, rfl, fun h => by simp at h⟩
  obtain ⟨q, n, c, hz, hq⟩ := hval
  have he : (a1.eval (.tmp d1)) = .slice q n c := hz
  have hrun : ∀ o : Oper, o.op = .binOp .eql t (.tmp d1) (.const (.slice none 0 0)) sh → (execOp a1.eval o).run P w = .ok (.value (.bool q.isNone)) w := by
    intro o ho
    have e1 : execOp a1.eval o = (do pure (.value (← (do eqGuard .eql t (.tmp d1) (.const (.slice none 0 0)) (a1.eval (.tmp d1)) (a1.eval (.const (.slice none 0 0))); binOp .eql t (a1.eval (.tmp d1)) (a1.eval (.const (.slice none 0 0))) : Sem Value)))) := by
      unfold execOp; rw [ho]
    have he2 : a1.eval (.const (.slice none 0 0)) = .slice none 0 0 := rfl
    rw [e1, he, he2]
    have hg : (eqGuard .eql t (.tmp d1) (.const (.slice none 0 0)) (.slice q n c) (.slice none 0 0)).run P w = .ok () w := rfl
    have hb : (binOp .eql t (.slice q n c) (.slice none 0 0)).run P w = .ok (.bool q.isNone) w := by
      have heq : (Op.equal t (.slice q n c) (.slice none 0 0)).run P w = .ok q.isNone w := by
        unfold Op.equal
        show (Op.equalIn (9999 + 1) t (.slice q n c) (.slice none 0 0)).run P w = _
        unfold Op.equalIn
        rw [run_bind_ok (run_und ht)]
        cases q <;> rfl
      show (do pure (.bool (← Op.equal t (.slice q n c) (.slice none 0 0))) : Sem Value).run P w = _
      rw [run_bind_ok heq]; rfl
    have hgb : (do eqGuard .eql t (.tmp d1) (.const (.slice none 0 0)) (.slice q n c) (.slice none 0 0); binOp .eql t (.slice q n c) (.slice none 0 0) : Sem Value).run P w = .ok (.bool q.isNone) w := by
      rw [run_bind_ok hg]; exact hb
    rw [run_bind_ok hgb]
    rfl
  refine op_step (is := []) (v := .bool q.isNone) hr1 rfl (by simp [dstOK, h2]) rfl (fun c e => by cases e) (x := .bool q.isNone) (hrun _ rfl) (.bool _) fun a2 hr2 => ?_
  exact ⟨_, σ, Ψ, le, hr2.keep ks, Below.refl _ _, h _ hq⟩
end Go.Proofs.Ytnpamcpoaklgeaa
namespace Go.Proofs.Ytnpamcpoaklgeaa
open Go Go.RowKit
set_option maxRecDepth 100000
def reqPV (c : City) (w : List Band) (b : Band) : PV := .agg [ints c.town.rooms, .isl (c.town.streets.map stPV) .ro, .isl (c.town.groups.map grPV) .ro, I c.town.steps, I c.brk, ints c.sleep, bands w, I b.first, ints b.path, I b.lo, I b.hi, I b.stay, I b.people]
attribute [go_sem] reqPV
def clashOf (c : City) (b : Band) : List Band → Int
  | [] => 0
  | x :: r => if crossVal c b x ≠ 2 then 10 else clashOf c b r
def overL (c : City) (b : Band) : List Int → Int
  | [] => 0
  | s :: r => if (c.town.rooms[s.toNat]?).getD 0 < b.people then 13 else overL c b r
def overOf (c : City) (b : Band) : Int := overL c b (sqs c b).1
def awkL (c : City) (l : List Band) : Nat → List Int → Int
  | _, [] => 0
  | k, owed :: r => if (sleepOf (loudAt c l k)).2 < owed then 11 else awkL c l (k + 1) r
def awkOf (c : City) (l : List Band) : Int := awkL c l 0 c.sleep
def firstOf : List Int → Int
  | [] => 0
  | e :: r => if e ≠ 0 then e else firstOf r
def reqOf (c : City) (w : List Band) (b : Band) : Int := firstOf [clashOf c b w, overOf c b, awkOf c (w ++ [b])]
/-- A function that is called with a value first. -/
def fnPV (q : PV) (p : Nat × Int) : PV := .func (.func p.1) [q] []
attribute [go_sem] fnPV
set_option maxHeartbeats 2000000 in
theorem first_pc (Y : YEnv) (σ : Sg) (l : List (Nat × Int)) (q : PV) (hl : l.length < 2 ^ 50) (h : ∀ p, p ∈ l → ∀ (σ : Sg), PC Try.prog Y p.1 [q] σ (I p.2) σ) :
    PC Try.prog Y 107 [.isl (l.map (fnPV q)) .exact] σ (I (firstOf (l.map (·.2)))) (σ) := by
  refine PC_of_W Try.func107 rfl (by kernel_rfl) Try.ntmps107 (by simp) fun hcl hca => ?_
  obtain ⟨res, hres⟩ : ∃ r, firstOf (l.map (·.2)) = r := ⟨_, rfl⟩
  rw [hres]
  refine W_seq fun kz1 kq1 => ?_
  refine W_region [0] fun R hR => ?_   -- r0
  simp only [go_sem]
  refine hR _ _ (kq1 _ _ ?_); clear hR R; try clear kq1 kz1
  try simp only [go_sem]
  refine W_seq fun kz2 kq2 => ?_
  refine W_seq fun kz3 kq3 => ?_
  refine W_region [6, 7, 8] fun R hR => ?_   -- r1
  simp only [go_sem]
  refine hR _ _ (kq3 _ _ ?_); clear hR R; try clear kq3 kz3
  try simp only [go_sem]
  refine W_block ?_
  refine W_loopS (α := Nat) (fun (i : Nat) => [(8, I i)]) (fun (i : Nat) => i ≤ l.length ∧ res = firstOf ((l.drop i).map (·.2))) (fun (i : Nat) => l.length - i) (0) rfl (⟨Nat.zero_le _, hres.symm⟩) ?_
  rintro i ⟨hi, hinv⟩
  refine W_seq fun kz4 kq4 => ?_
  refine W_region [6, 7, 8, 9] fun R hR => ?_   -- r2
  simp only [go_sem]
  refine hR _ _ (kq4 _ _ ?_); clear hR R; try clear kq4 kz4
  try simp only [go_sem]
  refine W_seq fun kz5 kq5 => ?_
  refine W_cond rfl (fun c1 => ?_) (fun c1 => ?_)
  · -- c1 true
    try simp only [nrm] at c1
    have hi' : i < l.length := by first | assumption | omega
    obtain ⟨x, hx⟩ : ∃ x, l[i]? = some x := ⟨l[i], by simp [hi']⟩
    have hdrop : l.drop i = x :: l.drop (i + 1) := by
      rw [List.drop_eq_getElem_cons hi']; congr 1; exact (List.getElem?_eq_some_iff.1 hx).2
    rw [hdrop] at hinv
    simp only [List.map_cons, firstOf] at hinv
    refine W_skip (kq5 _ _ ?_)
    refine W_seq fun kz6 kq6 => ?_
    refine W_block ?_
    refine W_seq fun kz7 kq7 => ?_
    refine W_region [4, 6, 7, 8] fun R hR => ?_   -- r3
    simp only [go_sem, hx]
    refine hR _ _ (kq7 _ _ ?_); clear hR R; try clear kq7 kz7
    try simp only [go_sem, hx]
    refine W_seq fun kz8 kq8 => ?_
    refine W_region [5, 6, 7, 8] fun R hR => ?_   -- r4
    simp only [go_sem, hx]
    refine GCall_of (h x (List.mem_of_getElem? hx) _) ?_   -- t13
    simp only [go_sem, hx]
    refine hR _ _ (kq8 _ _ ?_); clear hR R; try clear kq8 kz8
    try simp only [go_sem, hx]
    refine W_seq fun kz9 kq9 => ?_
    refine W_region [5, 6, 7, 8, 15] fun R hR => ?_   -- r5
    simp only [go_sem, hx]
    refine hR _ _ (kq9 _ _ ?_); clear hR R; try clear kq9 kz9
    try simp only [go_sem, hx]
    refine W_cond rfl (fun c2 => ?_) (fun c2 => ?_)
    · -- c2 true
      try simp only [nrm] at c2
      refine W_seq fun kz10 kq10 => ?_
      refine W_region [2] fun R hR => ?_   -- r6
      simp only [go_sem, hx]
      refine hR _ _ (kq10 _ _ ?_); clear hR R; try clear kq10 kz10
      try simp only [go_sem, hx]
      refine W_ret ?_
      simp only [go_sem, hx]
      refine ⟨.inr (by trivial), ?_⟩
      first | refine Fin_same hcl rfl (Wk_eq ?_ (by simp only [go_sem])) | refine Fin_self hcl rfl (Wk_eq ?_ (by simp only [go_sem]))
      try simp only [go_sem]
      all_goals
        rw [hinv, if_pos c2]
    · -- c2 false
      try simp only [nrm] at c2
      refine W_skip (kq6 _ _ ?_)
      refine W_region [6, 7, 8] fun R hR => ?_   -- r7
      simp only [go_sem, hx]
      try simp (disch := omega) only [wrapI, wrapU]
      refine hR _ _ ?_; clear hR R
      try simp only [go_sem, hx]
      refine ⟨i + 1, ?_, by (try simp only []); omega, ?_⟩
      · first | exact Weak.refl | exact Weak.eq (by first | rfl | (simp only [go_sem]; done) | (simp only [go_sem]; rfl) | (simp [go_sem]; done) | (simp [go_sem]; omega)) (by first | rfl | (simp only [go_sem]; done) | (simp [go_sem]; done))
      · try dsimp only
        exact ⟨hi', by rw [hinv, if_neg (by simp [c2])]⟩
  · -- c1 false
    try simp only [nrm] at c1
    have hdrop : l.drop i = [] := List.drop_eq_nil_of_le (by omega)
    rw [hdrop] at hinv
    simp only [List.map_nil, firstOf] at hinv
    refine W_exit ?_
    simp only [go_sem]
    refine kq2 _ _ ?_
    refine W_seq fun kz11 kq11 => ?_
    refine W_region [2] fun R hR => ?_   -- r8
    simp only [go_sem]
    refine hR _ _ (kq11 _ _ ?_); clear hR R; try clear kq11 kz11
    try simp only [go_sem]
    refine W_ret ?_
    simp only [go_sem]
    refine ⟨.inr (by trivial), ?_⟩
    first | refine Fin_same hcl rfl (Wk_eq ?_ (by simp only [go_sem])) | refine Fin_self hcl rfl (Wk_eq ?_ (by simp only [go_sem]))
    try simp only [go_sem]
    all_goals
      rw [hinv]
set_option maxHeartbeats 2000000 in
theorem clash_pc (Y : YEnv) (σ : Sg) (ct : City) (w : List Band) (b : Band) (hc : ct.Ok) (hl : BandsOk w) (hw : w.length ≤ 1000) (hk : chkCity ct = 0) (hv : ∀ x, x ∈ w → chkBand ct x = 0) (hb : b.path.length < 2 ^ 50) (hbv : chkBand ct b = 0) :
    PC Try.prog Y 108 [reqPV ct w b] σ (I (clashOf ct b w)) (σ) := by
  refine PC_of_W Try.func108 rfl (by kernel_rfl) Try.ntmps108 (by simp) fun hcl hca => ?_
  have hl2 := hl.2
  obtain ⟨res, hres⟩ : ∃ r, clashOf ct b w = r := ⟨_, rfl⟩
  rw [hres]
  refine W_seq fun kz1 kq1 => ?_
  refine W_region [1] fun R hR => ?_   -- r0
  simp only [go_sem]
  refine hR _ _ (kq1 _ _ ?_); clear hR R; try clear kq1 kz1
  try simp only [go_sem]
  refine W_seq fun kz2 kq2 => ?_
  refine W_seq fun kz3 kq3 => ?_
  refine W_region [1, 6, 7, 8] fun R hR => ?_   -- r1
  simp only [go_sem]
  refine hR _ _ (kq3 _ _ ?_); clear hR R; try clear kq3 kz3
  try simp only [go_sem]
  refine W_block ?_
  refine W_loopS (α := Nat) (fun (i : Nat) => [(8, I i)]) (fun (i : Nat) => i ≤ w.length ∧ res = clashOf ct b (w.drop i)) (fun (i : Nat) => w.length - i) (0) rfl (⟨Nat.zero_le _, hres.symm⟩) ?_
  rintro i ⟨hi, hinv⟩
  refine W_seq fun kz4 kq4 => ?_
  refine W_region [1, 6, 7, 8, 9] fun R hR => ?_   -- r2
  simp only [go_sem]
  refine hR _ _ (kq4 _ _ ?_); clear hR R; try clear kq4 kz4
  try simp only [go_sem]
  refine W_seq fun kz5 kq5 => ?_
  refine W_cond rfl (fun c1 => ?_) (fun c1 => ?_)
  · -- c1 true
    try simp only [nrm] at c1
    have hi' : i < w.length := by first | assumption | omega
    obtain ⟨x, hx⟩ : ∃ x, w[i]? = some x := ⟨w[i], by simp [hi']⟩
    have hdrop : w.drop i = x :: w.drop (i + 1) := by
      rw [List.drop_eq_getElem_cons hi']; congr 1; exact (List.getElem?_eq_some_iff.1 hx).2
    have hxw := List.mem_of_getElem? hx
    rw [hdrop] at hinv
    simp only [clashOf] at hinv
    refine W_skip (kq5 _ _ ?_)
    refine W_seq fun kz6 kq6 => ?_
    refine W_block ?_
    refine W_seq fun kz7 kq7 => ?_
    refine W_region [1, 4, 6, 7, 8] fun R hR => ?_   -- r3
    simp only [go_sem, hx]
    refine hR _ _ (kq7 _ _ ?_); clear hR R; try clear kq7 kz7
    try simp only [go_sem, hx]
    refine W_seq fun kz8 kq8 => ?_
    refine W_region [1, 6, 7, 8, 18] fun R hR => ?_   -- r4
    simp only [go_sem, hx]
    refine GCall_of (bcross_pc Y _ ct b x hc hb (hl2 x hxw) (chkBand_ok hbv).2 (chkBand_ok (hv x hxw)).2) ?_   -- t17
    simp only [go_sem, hx]
    refine hR _ _ (kq8 _ _ ?_); clear hR R; try clear kq8 kz8
    try simp only [go_sem, hx]
    refine W_cond rfl (fun c2 => ?_) (fun c2 => ?_)
    · -- c2 true
      try simp only [nrm] at c2
      refine W_seq fun kz9 kq9 => ?_
      refine W_region [2] fun R hR => ?_   -- r5
      simp only [go_sem, hx]
      refine hR _ _ (kq9 _ _ ?_); clear hR R; try clear kq9 kz9
      try simp only [go_sem, hx]
      refine W_ret ?_
      simp only [go_sem, hx]
      refine ⟨.inr (by trivial), ?_⟩
      first | refine Fin_same hcl rfl (Wk_eq ?_ (by simp only [go_sem])) | refine Fin_self hcl rfl (Wk_eq ?_ (by simp only [go_sem]))
      try simp only [go_sem]
      all_goals
        rw [hinv, if_pos c2]
    · -- c2 false
      try simp only [nrm] at c2
      refine W_skip (kq6 _ _ ?_)
      refine W_region [1, 6, 7, 8] fun R hR => ?_   -- r6
      simp only [go_sem, hx]
      try simp (disch := omega) only [wrapI, wrapU]
      refine hR _ _ ?_; clear hR R
      try simp only [go_sem, hx]
      refine ⟨i + 1, ?_, by (try simp only []); omega, ?_⟩
      · refine Weak.trans (Weak.cutX 1 0 (by omega) (by omega) hcl (by simp only [go_sem] <;> omega) (by simp only [go_sem] <;> omega)) ?_
        simp only [go_sem]
        exact Weak.eq (by first | rfl | (simp only [go_sem]; done) | (simp only [go_sem]; rfl) | (simp [go_sem]; done) | (simp [go_sem]; omega)) (by first | rfl | (simp only [go_sem]; done) | (simp [go_sem]; done))
      · try dsimp only
        exact ⟨hi', by rw [hinv, if_neg (by simp [c2])]⟩
  · -- c1 false
    try simp only [nrm] at c1
    have hdrop : w.drop i = [] := List.drop_eq_nil_of_le (by omega)
    rw [hdrop] at hinv
    simp only [clashOf] at hinv
    refine W_exit ?_
    simp only [go_sem]
    refine kq2 _ _ ?_
    refine W_seq fun kz10 kq10 => ?_
    refine W_region [2] fun R hR => ?_   -- r7
    simp only [go_sem]
    refine hR _ _ (kq10 _ _ ?_); clear hR R; try clear kq10 kz10
    try simp only [go_sem]
    refine W_ret ?_
    simp only [go_sem]
    refine ⟨.inr (by trivial), ?_⟩
    first | refine Fin_same hcl rfl (Wk_eq ?_ (by simp only [go_sem])) | refine Fin_self hcl rfl (Wk_eq ?_ (by simp only [go_sem]))
    try simp only [go_sem]
    all_goals
      rw [hinv]
set_option maxHeartbeats 2000000 in
theorem over_pc (Y : YEnv) (σ : Sg) (ct : City) (w : List Band) (b : Band) (hc : ct.Ok) (hl : BandsOk w) (hw : w.length ≤ 1000) (hk : chkCity ct = 0) (hv : ∀ x, x ∈ w → chkBand ct x = 0) (hb : b.path.length < 2 ^ 50) (hbv : chkBand ct b = 0) (hrg : ∀ s, s ∈ (sqs ct b).1 → 0 ≤ s ∧ s < ct.town.rooms.length) :
    PC Try.prog Y 109 [reqPV ct w b] σ (I (overOf ct b)) (σ) := by
  refine PC_of_W Try.func109 rfl (by kernel_rfl) Try.ntmps109 (by simp) fun hcl hca => ?_
  obtain ⟨l, hl3⟩ : ∃ l, l = (sqs ct b).1 := ⟨_, rfl⟩
  have hln : l.length ≤ 13 := by rw [hl3]; exact (sqs_len ct b).1
  rw [← hl3] at hrg
  rw [show overOf ct b = overL ct b l by rw [hl3]; rfl]
  obtain ⟨res, hres⟩ : ∃ r, overL ct b l = r := ⟨_, rfl⟩
  rw [hres]
  refine W_seq fun kz1 kq1 => ?_
  refine W_region [1] fun R hR => ?_   -- r0
  simp only [go_sem]
  refine hR _ _ (kq1 _ _ ?_); clear hR R; try clear kq1 kz1
  try simp only [go_sem]
  refine W_seq fun kz2 kq2 => ?_
  refine W_region [1, 3] fun R hR => ?_   -- r1
  simp only [go_sem]
  refine GCall_of (PC.val (v' := .tuple [ints l, I (sqs ct b).2]) (squares_pc Y _ ct b hc hb) (by rw [hl3]; rfl)) ?_   -- t12
  simp only [go_sem]
  refine hR _ _ (kq2 _ _ ?_); clear hR R; try clear kq2 kz2
  try simp only [go_sem]
  refine W_seq fun kz3 kq3 => ?_
  refine W_seq fun kz4 kq4 => ?_
  refine W_region [1, 15, 16, 17] fun R hR => ?_   -- r2
  simp only [go_sem]
  refine hR _ _ (kq4 _ _ ?_); clear hR R; try clear kq4 kz4
  try simp only [go_sem]
  refine W_block ?_
  refine W_loopS (α := Nat) (fun (i : Nat) => [(17, I i)]) (fun (i : Nat) => i ≤ l.length ∧ res = overL ct b (l.drop i)) (fun (i : Nat) => l.length - i) (0) rfl (⟨Nat.zero_le _, hres.symm⟩) ?_
  rintro i ⟨hi, hinv⟩
  refine W_seq fun kz5 kq5 => ?_
  refine W_region [1, 15, 16, 17, 18] fun R hR => ?_   -- r3
  simp only [go_sem]
  refine hR _ _ (kq5 _ _ ?_); clear hR R; try clear kq5 kz5
  try simp only [go_sem]
  refine W_seq fun kz6 kq6 => ?_
  refine W_cond rfl (fun c1 => ?_) (fun c1 => ?_)
  · -- c1 true
    try simp only [nrm] at c1
    have hi' : i < l.length := by first | assumption | omega
    obtain ⟨s, hx⟩ : ∃ s, l[i]? = some s := ⟨l[i], by simp [hi']⟩
    have hdrop : l.drop i = s :: l.drop (i + 1) := by
      rw [List.drop_eq_getElem_cons hi']; congr 1; exact (List.getElem?_eq_some_iff.1 hx).2
    obtain ⟨hs0, hs1⟩ := hrg s (List.mem_of_getElem? hx)
    obtain ⟨r, hr⟩ : ∃ r, ct.town.rooms[s.toNat]? = some r := ⟨_, List.getElem?_eq_getElem (by omega)⟩
    rw [hdrop] at hinv
    simp only [overL, hr, Option.getD_some] at hinv
    refine W_skip (kq6 _ _ ?_)
    refine W_seq fun kz7 kq7 => ?_
    refine W_block ?_
    refine W_seq fun kz8 kq8 => ?_
    refine W_region [1, 6, 15, 16, 17] fun R hR => ?_   -- r4
    simp only [go_sem, hx, hs0, hr]
    refine hR _ _ (kq8 _ _ ?_); clear hR R; try clear kq8 kz8
    try simp only [go_sem, hx, hs0, hr]
    refine W_seq fun kz9 kq9 => ?_
    refine W_draw [1, 15, 16, 17, 31] [0, 1, 2, 3, 4, 5, 6, 7, 8, 9, 10] [] [[], [0], [0, 1], [], [3], [3, 4], [3, 4, 5], [], [3, 4, 5, 6, 7], [3, 4, 5, 6, 7, 8], [0, 1, 2, 3, 4, 5, 6, 7, 8, 9]] mixed (by kernel_rfl) fun R hR => ?_   -- r5
    simp only [go_sem, hx, hs0, hr]
    try refine And.intro (by repeat' (first | refine And.intro ?_ ?_ | exact GOr_right (fun _ => by simp only [go_sem, hx, hs0, hr]))) ?_
    refine hR _ _ (kq9 _ _ ?_); clear hR R; try clear kq9 kz9
    try simp only [go_sem, hx, hs0, hr]
    refine W_cond rfl (fun c2 => ?_) (fun c2 => ?_)
    · -- c2 true
      try simp only [nrm] at c2
      refine W_seq fun kz10 kq10 => ?_
      refine W_region [2] fun R hR => ?_   -- r6
      simp only [go_sem, hx, hs0, hr]
      refine hR _ _ (kq10 _ _ ?_); clear hR R; try clear kq10 kz10
      try simp only [go_sem, hx, hs0, hr]
      refine W_ret ?_
      simp only [go_sem, hx, hs0, hr]
      refine ⟨.inr (by trivial), ?_⟩
      first | refine Fin_same hcl rfl (Wk_eq ?_ (by simp only [go_sem])) | refine Fin_self hcl rfl (Wk_eq ?_ (by simp only [go_sem]))
      try simp only [go_sem]
      all_goals
        rw [hinv, if_pos c2]
    · -- c2 false
      try simp only [nrm] at c2
      refine W_skip (kq7 _ _ ?_)
      refine W_region [1, 15, 16, 17] fun R hR => ?_   -- r7
      simp only [go_sem, hx, hs0, hr]
      try simp (disch := omega) only [wrapI, wrapU]
      refine hR _ _ ?_; clear hR R
      try simp only [go_sem, hx, hs0, hr]
      refine ⟨i + 1, ?_, by (try simp only []); omega, ?_⟩
      · first | exact Weak.refl | exact Weak.eq (by first | rfl | (simp only [go_sem]; done) | (simp only [go_sem]; rfl) | (simp [go_sem]; done) | (simp [go_sem]; omega)) (by first | rfl | (simp only [go_sem]; done) | (simp [go_sem]; done))
      · try dsimp only
        exact ⟨hi', by rw [hinv, if_neg c2]⟩
  · -- c1 false
    try simp only [nrm] at c1
    have hdrop : l.drop i = [] := List.drop_eq_nil_of_le (by omega)
    rw [hdrop] at hinv
    simp only [overL] at hinv
    refine W_exit ?_
    simp only [go_sem]
    refine kq3 _ _ ?_
    refine W_seq fun kz11 kq11 => ?_
    refine W_region [2] fun R hR => ?_   -- r8
    simp only [go_sem]
    refine hR _ _ (kq11 _ _ ?_); clear hR R; try clear kq11 kz11
    try simp only [go_sem]
    refine W_ret ?_
    simp only [go_sem]
    refine ⟨.inr (by trivial), ?_⟩
    first | refine Fin_same hcl rfl (Wk_eq ?_ (by simp only [go_sem])) | refine Fin_self hcl rfl (Wk_eq ?_ (by simp only [go_sem]))
    try simp only [go_sem]
    all_goals
      rw [hinv]
set_option maxHeartbeats 2000000 in
theorem CloneB_pc (Y : YEnv) (σ : Sg) (l : List Band) (hl : l.length ≤ 2 ^ 30) :
    PC Try.prog Y 81 [bands l] σ (.isl (l.map bdPV) (.tok σ.rooms.length l.length 6)) (σ.ext [] [l.length]) := by
  refine PC_of_W Try.func81 rfl (by kernel_rfl) Try.ntmps81 (by simp) fun hcl hca => ?_
  refine W_seq fun kz1 kq1 => ?_
  refine W_region [0] fun R hR => ?_   -- r0
  simp only [go_sem]
  refine hR _ _ (kq1 _ _ ?_); clear hR R; try clear kq1 kz1
  try simp only [go_sem]
  refine W_seq fun kz2 kq2 => ?_
  refine W_seq fun kz3 kq3 => ?_
  refine W_isnil [0, 4] (by decide) (by decide) rfl Try.underlying29 fun bn hbn => ?_   -- r1
  refine kq3 _ _ ?_
  try simp only [go_sem]
  refine W_cond rfl (fun c1 => ?_) (fun c1 => ?_)
  · -- c1 true
    try simp only [nrm] at c1
    refine W_seq fun kz4 kq4 => ?_
    refine W_region [2] fun R hR => ?_   -- r2
    simp only [go_sem]
    refine hR _ _ (kq4 _ _ ?_); clear hR R; try clear kq4 kz4
    try simp only [go_sem]
    refine W_weak (Weak.room (t := 2) (es := 6) rfl (by simp)) ?_
    refine W_ret ?_
    simp only [go_sem]
    refine ⟨.inr (by trivial), ?_⟩
    obtain rfl : l = [] := by simpa using hbn c1
    exact Fin_ext 0 1 hcl rfl (Wk_eq rfl (by simp only [go_sem] <;> omega)) CleanL_nil
    try simp only [go_sem]
    all_goals
      skip
  · -- c1 false
    try simp only [nrm] at c1
    refine W_skip (kq2 _ _ ?_)
    refine W_seq fun kz5 kq5 => ?_
    refine W_region [2] fun R hR => ?_   -- r3
    simp only [go_sem]
    simp (disch := first | omega | (simp only [go_sem] <;> omega)) only [wrapI, wrapU, appX_exact, appX_tok]
    try simp only [go_sem]
    refine hR _ _ (kq5 _ _ ?_); clear hR R; try clear kq5 kz5
    try simp only [go_sem]
    refine W_ret ?_
    simp only [go_sem]
    refine ⟨.inr (by trivial), ?_⟩
    exact Fin_ext 0 1 hcl rfl (Wk_eq (by simp only [go_sem]) (by simp only [go_sem] <;> omega)) CleanL_nil
    try simp only [go_sem]
    all_goals
      skip
end Go.Proofs.Ytnpamcpoaklgeaa
namespace Go.Proofs.Ytnpamcpoaklgeaa
open Go Go.RowKit
set_option maxRecDepth 100000
theorem chkStreets_inv {n : Int} : ∀ {l : List (Int × Int)}, chkStreets n l = 0 → ∀ s, s ∈ l → 0 ≤ s.1 ∧ s.1 < n ∧ 0 ≤ s.2 ∧ s.2 < n ∧ s.1 ≠ s.2 := by
  intro l
  induction l with
  | nil => intro _ s hs; cases hs
  | cons a r ih =>
    intro h s hs
    simp only [chkStreets] at h
    split at h
    · simp at h
    · rename_i h1
      split at h
      · simp at h
      · rename_i h2
        rcases List.mem_cons.1 hs with rfl | hs
        · simp [inR] at h1
          exact ⟨by omega, by omega, by omega, by omega, h2⟩
        · exact ih h s hs
theorem chkTown_streets {t : Town} (h : chkTown t = 0) : chkStreets t.rooms.length t.streets = 0 := by
  unfold chkTown at h
  split at h
  · simp at h
  · split at h
    · simp at h
    · split at h
      · simp at h
      · split at h
        · simp at h
        · split at h
          · rename_i h5; exact absurd h h5
          · rename_i h5; simpa using h5
theorem chkCity_town {c : City} (h : chkCity c = 0) : chkTown c.town = 0 := by
  unfold chkCity at h
  split at h
  · rename_i h1; exact absurd h h1
  · rename_i h1; simpa using h1
theorem walkSq_range {st : List (Int × Int)} {n : Int} (hs : ∀ s, s ∈ st → 0 ≤ s.1 ∧ s.1 < n ∧ 0 ≤ s.2 ∧ s.2 < n ∧ s.1 ≠ s.2) : ∀ (l : List Int) (a : Int) (out : List Int), (∀ x, x ∈ out → 0 ≤ x ∧ x < n) → ∀ x, x ∈ (walkSq st l a out).1 → 0 ≤ x ∧ x < n := by
  intro l
  induction l with
  | nil => intro a out ho x hx; exact ho x hx
  | cons k r ih =>
    intro a out ho x hx
    simp only [walkSq] at hx
    split at hx
    · cases hx
    · split at hx
      · cases hx
      · rename_i s hsk
        have h1 := hs s (List.mem_of_getElem? hsk)
        split at hx
        · refine ih _ _ (fun y hy => ?_) x hx
          rcases List.mem_append.1 hy with hy | hy
          · exact ho y hy
          · simp only [List.mem_singleton] at hy; subst hy; omega
        · split at hx
          · refine ih _ _ (fun y hy => ?_) x hx
            rcases List.mem_append.1 hy with hy | hy
            · exact ho y hy
            · simp only [List.mem_singleton] at hy; subst hy; omega
          · cases hx
theorem sqs_range {c : City} {b : Band} (hk : chkCity c = 0) : ∀ s, s ∈ (sqs c b).1 → 0 ≤ s ∧ s < c.town.rooms.length := by
  intro s hs
  unfold sqs at hs
  split at hs
  · cases hs
  · split at hs
    · cases hs
    · rename_i h1 _
      refine walkSq_range (chkStreets_inv (chkTown_streets (chkCity_town hk))) _ _ _ (fun x hx => ?_) s hs
      simp only [List.mem_singleton] at hx; subst hx
      simp [inR] at h1; omega
def grantL (c : City) : List Band → List Band → List Int
  | _, [] => []
  | w, b :: r => reqOf c w b :: grantL c (if reqOf c w b = 0 then w ++ [b] else w) r
def grantAns (c : City) (l : List Band) : List Int × Int := if chkAll c l ≠ 0 then ([], chkAll c l) else (grantL c [] l, 0)
set_option maxHeartbeats 2000000 in
theorem rawake_pc (Y : YEnv) (σ : Sg) (ct : City) (w : List Band) (b : Band) (hc : ct.Ok) (hl : BandsOk w) (hw : w.length ≤ 1000) (hk : chkCity ct = 0) (hv : ∀ x, x ∈ w → chkBand ct x = 0) (hb : b.path.length < 2 ^ 50) (hbv : chkBand ct b = 0) :
    PC Try.prog Y 110 [reqPV ct w b] σ (I (awkOf ct (w ++ [b]))) (σ) := by
  refine PC_of_W Try.func110 rfl (by kernel_rfl) Try.ntmps110 (by simp) fun hcl hca => ?_
  have hsl := hc.hsl
  have hl2 := hl.2
  have hall : BandsOk (w ++ [b]) := ⟨by simp; omega, fun x hx => by rcases List.mem_append.1 hx with h | h; exact hl2 x h; simp only [List.mem_singleton] at h; subst h; exact hb⟩
  have hval : ∀ x, x ∈ w ++ [b] → chkBand ct x = 0 := fun x hx => by rcases List.mem_append.1 hx with h | h; exact hv x h; simp only [List.mem_singleton] at h; subst h; exact hbv
  rw [show awkOf ct (w ++ [b]) = awkL ct (w ++ [b]) 0 ct.sleep from rfl]
  obtain ⟨res, hres⟩ : ∃ r, awkL ct (w ++ [b]) 0 ct.sleep = r := ⟨_, rfl⟩
  rw [hres]
  refine W_seq fun kz1 kq1 => ?_
  refine W_region [1] fun R hR => ?_   -- r0
  simp only [go_sem]
  refine hR _ _ (kq1 _ _ ?_); clear hR R; try clear kq1 kz1
  try simp only [go_sem]
  refine W_seq fun kz2 kq2 => ?_
  refine W_draw [1, 3] [0, 1, 2, 3, 4, 5, 6, 7] [(3, 2), (4, 2), (5, 2)] [[], [0], [0, 1], [], [3], [3, 4], [0, 1, 2, 3, 4, 5], [0, 1, 2, 3, 4, 5, 6]] mixed (by kernel_rfl) fun R hR => ?_   -- r1
  simp only [go_sem]
  refine GCall_of (CloneB_pc Y _ w (by omega)) ?_   -- t10
  simp only [go_sem]
  simp (disch := first | omega | (simp only [go_sem] <;> omega)) only [wrapI, wrapU, appX_exact, appX_tok]
  try simp only [go_sem]
  try refine And.intro (by repeat' (first | refine And.intro ?_ ?_ | exact GOr_right (fun _ => by simp only [go_sem]))) ?_
  refine hR _ _ (kq2 _ _ ?_); clear hR R; try clear kq2 kz2
  try simp only [go_sem]
  refine W_seq fun kz3 kq3 => ?_
  refine W_seq fun kz4 kq4 => ?_
  refine W_region [1, 3, 17, 18, 19] fun R hR => ?_   -- r2
  simp only [go_sem]
  refine hR _ _ (kq4 _ _ ?_); clear hR R; try clear kq4 kz4
  try simp only [go_sem]
  refine W_block ?_
  refine W_loopS (α := Nat) (fun (i : Nat) => [(19, I i)]) (fun (i : Nat) => i ≤ ct.sleep.length ∧ res = awkL ct (w ++ [b]) i (ct.sleep.drop i)) (fun (i : Nat) => ct.sleep.length - i) (0) rfl (⟨Nat.zero_le _, hres.symm⟩) ?_
  rintro i ⟨hi, hinv⟩
  refine W_seq fun kz5 kq5 => ?_
  refine W_region [1, 3, 17, 18, 19, 20] fun R hR => ?_   -- r3
  simp only [go_sem]
  refine hR _ _ (kq5 _ _ ?_); clear hR R; try clear kq5 kz5
  try simp only [go_sem]
  refine W_seq fun kz6 kq6 => ?_
  refine W_cond rfl (fun c1 => ?_) (fun c1 => ?_)
  · -- c1 true
    try simp only [nrm] at c1
    have hi' : i < ct.sleep.length := by first | assumption | omega
    obtain ⟨owed, hx⟩ : ∃ owed, ct.sleep[i]? = some owed := ⟨ct.sleep[i], by simp [hi']⟩
    have hdrop : ct.sleep.drop i = owed :: ct.sleep.drop (i + 1) := by
      rw [List.drop_eq_getElem_cons hi']; congr 1; exact (List.getElem?_eq_some_iff.1 hx).2
    rw [hdrop] at hinv
    simp only [awkL] at hinv
    refine W_skip (kq6 _ _ ?_)
    refine W_seq fun kz7 kq7 => ?_
    refine W_block ?_
    refine W_seq fun kz8 kq8 => ?_
    refine W_region [1, 3, 4, 5, 17, 18, 19] fun R hR => ?_   -- r4
    simp only [go_sem, hx]
    refine hR _ _ (kq8 _ _ ?_); clear hR R; try clear kq8 kz8
    try simp only [go_sem, hx]
    refine W_seq fun kz9 kq9 => ?_
    refine W_region [1, 3, 5, 7, 17, 18, 19] fun R hR => ?_   -- r5
    simp only [go_sem, hx]
    refine GCall_of (PC.ofRo (bsleep_pc Y _ ct (w ++ [b]) i hc hall hval) (by simp only [go_sem, bands] <;> rfl)) ?_   -- t29
    simp only [go_sem, hx]
    refine hR _ _ (kq9 _ _ ?_); clear hR R; try clear kq9 kz9
    try simp only [go_sem, hx]
    refine W_seq fun kz10 kq10 => ?_
    refine W_region [1, 3, 17, 18, 19, 34] fun R hR => ?_   -- r6
    simp only [go_sem, hx]
    refine hR _ _ (kq10 _ _ ?_); clear hR R; try clear kq10 kz10
    try simp only [go_sem, hx]
    refine W_cond rfl (fun c2 => ?_) (fun c2 => ?_)
    · -- c2 true
      try simp only [nrm] at c2
      refine W_seq fun kz11 kq11 => ?_
      refine W_region [2] fun R hR => ?_   -- r7
      simp only [go_sem, hx]
      refine hR _ _ (kq11 _ _ ?_); clear hR R; try clear kq11 kz11
      try simp only [go_sem, hx]
      refine W_ret ?_
      simp only [go_sem, hx]
      refine ⟨.inr (by trivial), ?_⟩
      first | refine Fin_same hcl rfl (Wk_eq ?_ (by simp only [go_sem])) | refine Fin_self hcl rfl (Wk_eq ?_ (by simp only [go_sem]))
      try simp only [go_sem]
      all_goals
        rw [hinv, if_pos c2]
    · -- c2 false
      try simp only [nrm] at c2
      refine W_skip (kq7 _ _ ?_)
      refine W_region [1, 3, 17, 18, 19] fun R hR => ?_   -- r8
      simp only [go_sem, hx]
      try simp (disch := omega) only [wrapI, wrapU]
      refine hR _ _ ?_; clear hR R
      try simp only [go_sem, hx]
      refine ⟨i + 1, ?_, by (try simp only []); omega, ?_⟩
      · first | exact Weak.refl | exact Weak.eq (by first | rfl | (simp only [go_sem]; done) | (simp only [go_sem]; rfl) | (simp [go_sem]; done) | (simp [go_sem]; omega)) (by first | rfl | (simp only [go_sem]; done) | (simp [go_sem]; done))
      · try dsimp only
        exact ⟨hi', by rw [hinv, if_neg c2]⟩
  · -- c1 false
    try simp only [nrm] at c1
    have hdrop : ct.sleep.drop i = [] := List.drop_eq_nil_of_le (by omega)
    rw [hdrop] at hinv
    simp only [awkL] at hinv
    refine W_exit ?_
    simp only [go_sem]
    refine kq3 _ _ ?_
    refine W_seq fun kz12 kq12 => ?_
    refine W_region [2] fun R hR => ?_   -- r9
    simp only [go_sem]
    refine hR _ _ (kq12 _ _ ?_); clear hR R; try clear kq12 kz12
    try simp only [go_sem]
    refine W_ret ?_
    simp only [go_sem]
    refine ⟨.inr (by trivial), ?_⟩
    first | refine Fin_same hcl rfl (Wk_eq ?_ (by simp only [go_sem])) | refine Fin_self hcl rfl (Wk_eq ?_ (by simp only [go_sem]))
    try simp only [go_sem]
    all_goals
      rw [hinv]
set_option maxHeartbeats 2000000 in
theorem granted_pc (Y : YEnv) (σ : Sg) (ct : City) (w : List Band) (b : Band) (hc : ct.Ok) (hl : BandsOk w) (hw : w.length ≤ 1000) (hk : chkCity ct = 0) (hv : ∀ x, x ∈ w → chkBand ct x = 0) (hb : b.path.length < 2 ^ 50) (hbv : chkBand ct b = 0) :
    PC Try.prog Y 74 [reqPV ct w b] σ (I (reqOf ct w b)) (σ) := by
  refine PC_of_W Try.func74 rfl (by kernel_rfl) Try.ntmps74 (by simp) fun hcl hca => ?_
  refine W_seq fun kz1 kq1 => ?_
  refine W_region [1] fun R hR => ?_   -- r0
  simp only [go_sem]
  refine hR _ _ (kq1 _ _ ?_); clear hR R; try clear kq1 kz1
  try simp only [go_sem]
  refine W_seq fun kz2 kq2 => ?_
  refine W_region [2] fun R hR => ?_   -- r1
  simp only [go_sem]
  refine GCall_of (first_pc Y _ [(108, clashOf ct b w), (109, overOf ct b), (110, awkOf ct (w ++ [b]))] (reqPV ct w b) (by simp) (fun p hp σ => by
      simp only [List.mem_cons, List.not_mem_nil, or_false] at hp
      rcases hp with rfl | rfl | rfl
      · exact clash_pc Y σ ct w b hc hl hw hk hv hb hbv
      · exact over_pc Y σ ct w b hc hl hw hk hv hb hbv (sqs_range hk)
      · exact rawake_pc Y σ ct w b hc hl hw hk hv hb hbv)) ?_   -- t10
  simp only [go_sem]
  refine hR _ _ (kq2 _ _ ?_); clear hR R; try clear kq2 kz2
  try simp only [go_sem]
  refine W_ret ?_
  simp only [go_sem]
  refine ⟨.inr (by trivial), ?_⟩
  first | refine Fin_same hcl rfl (Wk_eq ?_ (by simp only [go_sem])) | refine Fin_self hcl rfl (Wk_eq ?_ (by simp only [go_sem]))
  try simp only [go_sem]
  all_goals
    simp only [reqOf, List.map]
set_option maxHeartbeats 2000000 in
theorem Grant_pc (Y : YEnv) (σ : Sg) (ct : City) (l : List Band) (hc : ct.Ok) (hl : BandsOk l) :
    PC Try.prog Y 30 [ctPV ct, bands l] σ (.tuple [ints (grantAns ct l).1, I (grantAns ct l).2]) (σ) := by
  refine PC_of_W Try.func30 rfl (by kernel_rfl) Try.ntmps30 (by simp) fun hcl hca => ?_
  have hl1 := hl.1
  have hl2 := hl.2
  obtain ⟨res, hres⟩ : ∃ r, grantAns ct l = r := ⟨_, rfl⟩
  rw [hres]
  refine W_seq fun kz1 kq1 => ?_
  refine W_region [1, 2] fun R hR => ?_   -- r0
  simp only [go_sem]
  refine hR _ _ (kq1 _ _ ?_); clear hR R; try clear kq1 kz1
  try simp only [go_sem]
  refine W_seq fun kz2 kq2 => ?_
  refine W_seq fun kz3 kq3 => ?_
  refine W_region [1, 2, 6] fun R hR => ?_   -- r1
  simp only [go_sem]
  refine GCall_of (checkBands_pc Y _ ct l hc hl) ?_   -- t14
  simp only [go_sem]
  refine hR _ _ (kq3 _ _ ?_); clear hR R; try clear kq3 kz3
  try simp only [go_sem]
  refine W_seq fun kz4 kq4 => ?_
  refine W_region [1, 2, 6, 16] fun R hR => ?_   -- r2
  simp only [go_sem]
  refine hR _ _ (kq4 _ _ ?_); clear hR R; try clear kq4 kz4
  try simp only [go_sem]
  refine W_cond rfl (fun c1 => ?_) (fun c1 => ?_)
  · -- c1 true
    try simp only [nrm] at c1
    refine W_seq fun kz5 kq5 => ?_
    refine W_region [4, 5] fun R hR => ?_   -- r3
    simp only [go_sem]
    refine hR _ _ (kq5 _ _ ?_); clear hR R; try clear kq5 kz5
    try simp only [go_sem]
    refine W_ret ?_
    simp only [go_sem]
    refine ⟨.inr (by trivial), ?_⟩
    refine Fin_same hcl rfl (Wk.ro (by simp only [go_sem]) ?_)
    try simp only [go_sem]
    all_goals
      rw [← hres]; simp [grantAns, c1]
  · -- c1 false
    try simp only [nrm] at c1
    obtain ⟨hk, hlen, hcb⟩ := chkAll_ok c1
    have hv := chkBands_ok hcb
    have hq : res = (grantL ct [] l, 0) := by rw [← hres]; simp [grantAns, c1]
    refine W_skip (kq2 _ _ ?_)
    refine W_seq fun kz6 kq6 => ?_
    refine W_region [1, 2, 7] fun R hR => ?_   -- r4
    simp only [go_sem]
    refine hR _ _ (kq6 _ _ ?_); clear hR R; try clear kq6 kz6
    try simp only [go_sem]
    refine W_seq fun kz7 kq7 => ?_
    refine W_region [1, 2, 7, 8] fun R hR => ?_   -- r5
    simp only [go_sem]
    refine hR _ _ (kq7 _ _ ?_); clear hR R; try clear kq7 kz7
    try simp only [go_sem]
    refine W_seq fun kz8 kq8 => ?_
    refine W_seq fun kz9 kq9 => ?_
    refine W_region [2, 7, 8, 18, 19, 20] fun R hR => ?_   -- r6
    simp only [go_sem]
    refine hR _ _ (kq9 _ _ ?_); clear hR R; try clear kq9 kz9
    try simp only [go_sem]
    refine W_block ?_
    refine W_weak (Weak.room (t := 7) (es := 6) rfl (by simp)) ?_
    refine W_weak (Weak.keep [2, 7, 8, 18, 19, 20]) ?_
    simp only [go_sem]
    refine W_weak (Weak.room (t := 8) (es := 1) rfl (by simp)) ?_
    refine W_weak (Weak.keep [2, 7, 8, 18, 19, 20]) ?_
    simp only [go_sem]
    refine W_loopT (α := Nat × (List Band) × (List Int)) (fun ⟨i, w, out⟩ => [(7, .isl (w.map bdPV) (.tok σ.rooms.length w.length 6)), (8, .isl (out.map I) (.tok (σ.rooms.length + 1) out.length 1)), (20, I i)]) (fun ⟨i, w, out⟩ => σ.ext [some (ctCells ct)] [w.length, out.length]) (fun ⟨i, w, out⟩ => i ≤ l.length ∧ w.length ≤ i ∧ out.length = i ∧ (∀ x, x ∈ w → x ∈ l) ∧ res = (out ++ grantL ct w (l.drop i), 0)) (fun ⟨i, w, out⟩ => l.length - i) ((0, [], [])) (by simp only [go_sem, List.map]) (by first | rfl | (simp only [go_sem]; done) | (simp only [go_sem]; rfl)) (⟨Nat.zero_le _, Nat.le_refl _, rfl, (fun x hx => by cases hx), hq⟩) ?_
    rintro ⟨i, w, out⟩ ⟨hi, hwl, hol, hsub, hinv⟩
    refine W_seq fun kz10 kq10 => ?_
    refine W_region [2, 7, 8, 18, 19, 20, 21] fun R hR => ?_   -- r7
    simp only [go_sem]
    refine hR _ _ (kq10 _ _ ?_); clear hR R; try clear kq10 kz10
    try simp only [go_sem]
    refine W_seq fun kz11 kq11 => ?_
    refine W_cond rfl (fun c2 => ?_) (fun c2 => ?_)
    · -- c2 true
      try simp only [nrm] at c2
      have hi' : i < l.length := by first | assumption | omega
      obtain ⟨b, hx⟩ : ∃ b, l[i]? = some b := ⟨l[i], by simp [hi']⟩
      have hdrop : l.drop i = b :: l.drop (i + 1) := by
        rw [List.drop_eq_getElem_cons hi']; congr 1; exact (List.getElem?_eq_some_iff.1 hx).2
      have hbl := List.mem_of_getElem? hx
      rw [hdrop] at hinv
      simp only [grantL] at hinv
      refine W_skip (kq11 _ _ ?_)
      refine W_seq fun kz12 kq12 => ?_
      refine W_block ?_
      refine W_seq fun kz13 kq13 => ?_
      refine W_region [2, 7, 8, 10, 18, 19, 20] fun R hR => ?_   -- r8
      simp only [go_sem, hx]
      refine hR _ _ (kq13 _ _ ?_); clear hR R; try clear kq13 kz13
      try simp only [go_sem, hx]
      refine W_seq fun kz14 kq14 => ?_
      refine W_region [2, 7, 8, 10, 11, 18, 19, 20] fun R hR => ?_   -- r9
      simp only [go_sem, hx]
      refine GCall_of (PC.ofRo (granted_pc Y _ ct w b hc ⟨by omega, fun x hx => hl2 x (hsub x hx)⟩ (by omega) hk (fun x hx => hv x (hsub x hx)) (hl2 b hbl) (hv b hbl)) (by simp only [go_sem, bands] <;> rfl)) ?_   -- t28
      simp only [go_sem, hx]
      refine hR _ _ (kq14 _ _ ?_); clear hR R; try clear kq14 kz14
      try simp only [go_sem, hx]
      refine W_seq fun kz15 kq15 => ?_
      refine W_seq fun kz16 kq16 => ?_
      refine W_region [2, 7, 8, 10, 11, 18, 19, 20, 30] fun R hR => ?_   -- r10
      simp only [go_sem, hx]
      refine hR _ _ (kq16 _ _ ?_); clear hR R; try clear kq16 kz16
      try simp only [go_sem, hx]
      refine W_cond rfl (fun c3 => ?_) (fun c3 => ?_)
      · -- c3 true
        try simp only [nrm] at c3
        refine W_region [2, 7, 8, 11, 18, 19, 20] fun R hR => ?_   -- r11
        simp only [go_sem, hx]
        simp (disch := first | omega | (simp only [go_sem] <;> omega)) only [wrapI, wrapU, appX_exact, appX_tok]
        try simp only [go_sem, hx]
        refine hR _ _ (kq15 _ _ ?_); clear hR R; try clear kq15 kz15
        try simp only [go_sem, hx]
        refine W_region [2, 7, 8, 18, 19, 20] fun R hR => ?_   -- r12
        simp only [go_sem, hx]
        simp (disch := first | omega | (simp only [go_sem] <;> omega)) only [wrapI, wrapU, appX_exact, appX_tok]
        try simp only [go_sem, hx]
        refine hR _ _ (kq12 _ _ ?_); clear hR R; try clear kq12 kz12
        try simp only [go_sem, hx]
        refine W_region [2, 7, 8, 18, 19, 20] fun R hR => ?_   -- r13
        simp only [go_sem, hx]
        try simp (disch := omega) only [wrapI, wrapU]
        refine hR _ _ ?_; clear hR R
        try simp only [go_sem, hx]
        refine ⟨(i + 1, w ++ [b], out ++ [reqOf ct w b]), ?_, by (try simp only []); omega, ?_⟩
        · refine Weak.trans (Weak.cutX 1 2 (by omega) (by omega) hcl (by simp only [go_sem] <;> omega) (by simp only [go_sem] <;> omega)) ?_
          simp only [go_sem]
          exact Weak.eq (by first | rfl | (simp only [go_sem]; done) | (simp only [go_sem]; rfl) | (simp [go_sem]; done) | (simp [go_sem]; omega)) (by first | rfl | (simp only [go_sem]; done) | (simp [go_sem]; done))
        · try dsimp only
          refine ⟨hi', by (try simp); omega, by simp; omega, fun x hx => ?_, ?_⟩
          · first | exact hsub x hx | (rcases List.mem_append.1 hx with h | h; exact hsub x h; simp only [List.mem_singleton] at h; subst h; exact hbl)
          · rw [hinv]; simp [c3]
      · -- c3 false
        try simp only [nrm] at c3
        refine W_skip (kq15 _ _ ?_)
        refine W_region [2, 7, 8, 18, 19, 20] fun R hR => ?_   -- r12
        simp only [go_sem, hx]
        simp (disch := first | omega | (simp only [go_sem] <;> omega)) only [wrapI, wrapU, appX_exact, appX_tok]
        try simp only [go_sem, hx]
        refine hR _ _ (kq12 _ _ ?_); clear hR R; try clear kq12 kz12
        try simp only [go_sem, hx]
        refine W_region [2, 7, 8, 18, 19, 20] fun R hR => ?_   -- r13
        simp only [go_sem, hx]
        try simp (disch := omega) only [wrapI, wrapU]
        refine hR _ _ ?_; clear hR R
        try simp only [go_sem, hx]
        refine ⟨(i + 1, w, out ++ [reqOf ct w b]), ?_, by (try simp only []); omega, ?_⟩
        · refine Weak.trans (Weak.cutX 1 2 (by omega) (by omega) hcl (by simp only [go_sem] <;> omega) (by simp only [go_sem] <;> omega)) ?_
          simp only [go_sem]
          exact Weak.eq (by first | rfl | (simp only [go_sem]; done) | (simp only [go_sem]; rfl) | (simp [go_sem]; done) | (simp [go_sem]; omega)) (by first | rfl | (simp only [go_sem]; done) | (simp [go_sem]; done))
        · try dsimp only
          refine ⟨hi', by (try simp); omega, by simp; omega, fun x hx => ?_, ?_⟩
          · first | exact hsub x hx | (rcases List.mem_append.1 hx with h | h; exact hsub x h; simp only [List.mem_singleton] at h; subst h; exact hbl)
          · rw [hinv]; simp [c3]
    · -- c2 false
      try simp only [nrm] at c2
      have hdrop : l.drop i = [] := List.drop_eq_nil_of_le (by omega)
      rw [hdrop] at hinv
      simp only [grantL, List.append_nil] at hinv
      refine W_exit ?_
      simp only [go_sem]
      refine kq8 _ _ ?_
      refine W_seq fun kz17 kq17 => ?_
      refine W_region [4, 5] fun R hR => ?_   -- r14
      simp only [go_sem]
      refine hR _ _ (kq17 _ _ ?_); clear hR R; try clear kq17 kz17
      try simp only [go_sem]
      refine W_ret ?_
      simp only [go_sem]
      refine ⟨.inr (by trivial), ?_⟩
      refine Fin_same hcl rfl (Wk.ro (by simp only [go_sem]) ?_)
      try simp only [go_sem]
      all_goals
        rw [hinv]
set_option maxHeartbeats 2000000 in
theorem EqErrors_pc (Y : YEnv) (σ : Sg) (xs ys : List Int) (o o2 : Own) (hx : xs.length < 2 ^ 50) :
    PC Try.prog Y 31 [.isl (xs.map I) o, .isl (ys.map I) o2] σ (.bool (decide (xs = ys))) (σ) := by
  refine PC_of_W Try.func31 rfl (by kernel_rfl) Try.ntmps31 (by simp) fun hcl hca => ?_
  refine W_seq fun kz1 kq1 => ?_
  refine W_region [0, 1] fun R hR => ?_   -- r0
  simp only [go_sem]
  refine hR _ _ (kq1 _ _ ?_); clear hR R; try clear kq1 kz1
  try simp only [go_sem]
  refine W_seq fun kz2 kq2 => ?_
  refine W_seq fun kz3 kq3 => ?_
  refine W_region [0, 1, 10] fun R hR => ?_   -- r1
  simp only [go_sem]
  refine hR _ _ (kq3 _ _ ?_); clear hR R; try clear kq3 kz3
  try simp only [go_sem]
  refine W_cond rfl (fun c1 => ?_) (fun c1 => ?_)
  · -- c1 true
    try simp only [nrm] at c1
    refine W_seq fun kz4 kq4 => ?_
    refine W_region [4] fun R hR => ?_   -- r2
    simp only [go_sem]
    refine hR _ _ (kq4 _ _ ?_); clear hR R; try clear kq4 kz4
    try simp only [go_sem]
    refine W_ret ?_
    simp only [go_sem]
    refine ⟨.inr (by trivial), ?_⟩
    first | refine Fin_same hcl rfl (Wk_eq ?_ (by simp only [go_sem])) | refine Fin_self hcl rfl (Wk_eq ?_ (by simp only [go_sem]))
    try simp only [go_sem]
    all_goals
      simp; intro h; subst h; exact c1 rfl
  · -- c1 false
    try simp only [nrm] at c1
    refine W_skip (kq2 _ _ ?_)
    refine W_seq fun kz5 kq5 => ?_
    refine W_seq fun kz6 kq6 => ?_
    refine W_region [0, 1, 5] fun R hR => ?_   -- r3
    simp only [go_sem]
    refine hR _ _ (kq6 _ _ ?_); clear hR R; try clear kq6 kz6
    try simp only [go_sem]
    refine W_block ?_
    refine W_loopS (α := Nat) (fun (i : Nat) => [(5, I i)]) (fun (i : Nat) => i ≤ xs.length ∧ xs.take i = ys.take i) (fun (i : Nat) => xs.length - i) (0) rfl (⟨Nat.zero_le _, rfl⟩) ?_
    rintro i ⟨hi, ht⟩
    refine W_seq fun kz7 kq7 => ?_
    refine W_seq fun kz8 kq8 => ?_
    refine W_region [0, 1, 5, 14] fun R hR => ?_   -- r4
    simp only [go_sem]
    refine hR _ _ (kq8 _ _ ?_); clear hR R; try clear kq8 kz8
    try simp only [go_sem]
    refine W_cond rfl (fun c2 => ?_) (fun c2 => ?_)
    · -- c2 true
      try simp only [nrm] at c2
      have hi' : i < xs.length := by first | assumption | omega
      obtain ⟨x, hxi⟩ : ∃ x, xs[i]? = some x := ⟨xs[i], by simp⟩
      obtain ⟨y, hyi⟩ : ∃ y, ys[i]? = some y := ⟨ys[i]'(by omega), by simp⟩
      refine W_skip (kq7 _ _ ?_)
      refine W_seq fun kz9 kq9 => ?_
      refine W_block ?_
      refine W_seq fun kz10 kq10 => ?_
      refine W_draw [0, 1, 5, 25] [0, 1, 2, 3, 4, 5, 6, 7, 8] [] [[], [], [0, 1], [0, 1, 2], [], [], [4, 5], [4, 5, 6], [0, 1, 2, 3, 4, 5, 6, 7]] mixed (by kernel_rfl) fun R hR => ?_   -- r6
      simp only [go_sem, hxi, hyi]
      try refine And.intro (by repeat' (first | refine And.intro ?_ ?_ | exact GOr_right (fun _ => by simp only [go_sem, hxi, hyi]))) ?_
      refine hR _ _ (kq10 _ _ ?_); clear hR R; try clear kq10 kz10
      try simp only [go_sem, hxi, hyi]
      refine W_cond rfl (fun c3 => ?_) (fun c3 => ?_)
      · -- c3 true
        try simp only [nrm] at c3
        refine W_seq fun kz11 kq11 => ?_
        refine W_region [4] fun R hR => ?_   -- r7
        simp only [go_sem, hxi, hyi]
        refine hR _ _ (kq11 _ _ ?_); clear hR R; try clear kq11 kz11
        try simp only [go_sem, hxi, hyi]
        refine W_ret ?_
        simp only [go_sem, hxi, hyi]
        refine ⟨.inr (by trivial), ?_⟩
        first | refine Fin_same hcl rfl (Wk_eq ?_ (by simp only [go_sem])) | refine Fin_self hcl rfl (Wk_eq ?_ (by simp only [go_sem]))
        try simp only [go_sem]
        all_goals
          simp; intro h; subst h; rw [hxi] at hyi; injection hyi with h; exact c3 h
      · -- c3 false
        try simp only [nrm] at c3
        refine W_skip (kq9 _ _ ?_)
        refine W_region [0, 1, 5] fun R hR => ?_   -- r5
        simp only [go_sem, hxi, hyi]
        try simp (disch := omega) only [wrapI, wrapU]
        refine hR _ _ ?_; clear hR R
        try simp only [go_sem, hxi, hyi]
        refine ⟨i + 1, ?_, by (try simp only []); omega, ?_⟩
        · first | exact Weak.refl | exact Weak.eq (by first | rfl | (simp only [go_sem]; done) | (simp only [go_sem]; rfl) | (simp [go_sem]; done) | (simp [go_sem]; omega)) (by first | rfl | (simp only [go_sem]; done) | (simp [go_sem]; done))
        · try dsimp only
          exact ⟨hi', by rw [List.take_add_one, List.take_add_one, ht, hxi, hyi, c3]⟩
    · -- c2 false
      try simp only [nrm] at c2
      have hie : i = xs.length := by omega
      subst hie
      have hxy : xs = ys := by rw [List.take_length] at ht; rw [c1, List.take_length] at ht; exact ht
      refine W_exit ?_
      simp only [go_sem]
      refine kq5 _ _ ?_
      refine W_seq fun kz12 kq12 => ?_
      refine W_region [4] fun R hR => ?_   -- r8
      simp only [go_sem]
      refine hR _ _ (kq12 _ _ ?_); clear hR R; try clear kq12 kz12
      try simp only [go_sem]
      refine W_ret ?_
      simp only [go_sem]
      refine ⟨.inr (by trivial), ?_⟩
      first | refine Fin_same hcl rfl (Wk_eq ?_ (by simp only [go_sem])) | refine Fin_self hcl rfl (Wk_eq ?_ (by simp only [go_sem]))
      try simp only [go_sem]
      all_goals
        simp [hxy]
end Go.Proofs.Ytnpamcpoaklgeaa
namespace Go.Proofs.Ytnpamcpoaklgeaa
open Go Go.RowKit
/-- The owner of a part of a slice. -/
theorem slHi_of {P : Program} {t e : TypeId} {d : TypeDesc} (h : P.underlying t = some (.slice e)) (he : P.underlying e = some d) (l : List PV) (own : Own) (k : IntKind) (n : Int) :
    slicePV P t (.isl l own) none (some (.int k n)) none = if 0 ≤ n then if n.toNat ≤ l.length then some (.isl (l.take n.toNat) (sliceOwn own 0 n.toNat l.length)) else none else none := by
  unfold slicePV
  rw [h]
  simp only [he, bnd]
  by_cases hn : 0 ≤ n
  · simp [hn]
  · simp [hn]
/-- Without an owner. -/
theorem sliceOwn_ro {lo h len : Nat} : sliceOwn .ro lo h len = .ro := by unfold sliceOwn; split <;> rfl
theorem sliceOwn_self {own : Own} {lo len : Nat} : sliceOwn own lo len len = own := by simp [sliceOwn]
attribute [go_sem] sliceOwn_ro sliceOwn_self
theorem slLo_of {P : Program} {t e : TypeId} {d : TypeDesc} {c : Nat} (h : P.underlying t = some (.slice e)) (he : P.underlying e = some d) (hc : P.cellsOf e = c) {α : Type} {f : α → PV} (hf : ∀ x, (f x).cells.length = c) (xs : List α) (own : Own) (k : IntKind) (n : Int) :
    slicePV P t (.isl (xs.map f) own) (some (.int k n)) none none = if 0 ≤ n then if n.toNat ≤ xs.length then some (.isl ((xs.drop n.toNat).map f) own) else none else none := by
  have hall : (xs.map f).all (fun el => el.cells.length == c) = true := by
    rw [List.all_eq_true]
    intro p hp
    obtain ⟨x, _, rfl⟩ := List.mem_map.1 hp
    simp [hf]
  unfold slicePV
  rw [h]
  simp only [he, bnd, hc]
  by_cases hn : 0 ≤ n
  · simp only [hn, if_true]
    by_cases hl : n.toNat ≤ xs.length
    · rw [if_pos ⟨by simpa using hl, Nat.le_refl _, .inr hall⟩, if_pos hl, sliceOwn_self, ← List.map_drop, List.take_of_length_le (by simp)]
    · rw [if_neg (fun q => hl (by simpa using q.1)), if_neg hl]
  · simp [hn]
end Go.Proofs.Ytnpamcpoaklgeaa
namespace Go.Proofs.Ytnpamcpoaklgeaa
open Go
set_option maxRecDepth 100000
theorem slh22 {l : List PV} {own : Own} {k : IntKind} {n : Int} : slicePV Try.prog 22 (.isl l own) none (some (.int k n)) none = if 0 ≤ n then if n.toNat ≤ l.length then some (.isl (l.take n.toNat) (sliceOwn own 0 n.toNat l.length)) else none else none := slHi_of Try.underlying22 Try.underlying3 l own k n
theorem slh29 {l : List PV} {own : Own} {k : IntKind} {n : Int} : slicePV Try.prog 29 (.isl l own) none (some (.int k n)) none = if 0 ≤ n then if n.toNat ≤ l.length then some (.isl (l.take n.toNat) (sliceOwn own 0 n.toNat l.length)) else none else none := slHi_of Try.underlying29 Try.underlying33 l own k n
theorem slh54 {l : List PV} {own : Own} {k : IntKind} {n : Int} : slicePV Try.prog 54 (.isl l own) none (some (.int k n)) none = if 0 ≤ n then if n.toNat ≤ l.length then some (.isl (l.take n.toNat) (sliceOwn own 0 n.toNat l.length)) else none else none := slHi_of Try.underlying54 Try.underlying46 l own k n
attribute [go_sem] slh22 slh29 slh54
end Go.Proofs.Ytnpamcpoaklgeaa
namespace Go.Proofs.Ytnpamcpoaklgeaa
open Go Go.RowKit
set_option maxRecDepth 100000
def quarterC : City := ⟨⟨[110, 80, 50], [(0, 1), (1, 2), (0, 2)], [], 6⟩, 5, [590, 500, 0]⟩
def bandsQ : List Band := [⟨0, [0, 1], 100, 110, 20, 50⟩, ⟨2, [1], 120, 120, 30, 40⟩, ⟨1, [], 300, 300, 10, 90⟩, ⟨0, [], 650, 650, 10, 1⟩]
def laterQ (s : Int) : Band := ⟨2, [1], s, s, 30, 40⟩
theorem quarter_ok : quarterC.Ok := ⟨by decide, by decide, by decide, (fun g hg => by cases hg), by decide⟩
theorem bandsQ_ok : BandsOk bandsQ := ⟨by decide, fun b hb => by simp only [bandsQ, List.mem_cons, List.not_mem_nil, or_false] at hb; rcases hb with rfl | rfl | rfl | rfl <;> decide⟩
theorem ex_grant : grantAns quarterC bandsQ = ([0, 10, 13, 11], 0) := by decide +kernel
theorem ex_cross : crossAns quarterC ⟨0, [0, 1], 100, 110, 20, 50⟩ (laterQ 60) = (3, 0) := by decide +kernel
theorem ex_sleep : sleepAns quarterC (bandsQ.take 1) 0 = (130, 590, 0) := by decide +kernel
set_option maxHeartbeats 2000000 in
theorem quarter_pc (Y : YEnv) (σ : Sg)  :
    PC Try.prog Y 58 [] σ (ctPV quarterC) (σ) := by
  refine PC_of_W Try.func58 rfl (by kernel_rfl) Try.ntmps58 (by simp) fun hcl hca => ?_
  refine W_seq fun kz1 kq1 => ?_
  refine W_region [0] fun R hR => ?_   -- r0
  simp only [go_sem]
  refine hR _ _ (kq1 _ _ ?_); clear hR R; try clear kq1 kz1
  try simp only [go_sem]
  refine W_seq fun kz2 kq2 => ?_
  refine W_region [0] fun R hR => ?_   -- r1
  simp only [go_sem]
  refine hR _ _ (kq2 _ _ ?_); clear hR R; try clear kq2 kz2
  try simp only [go_sem]
  refine W_ret ?_
  simp only [go_sem]
  refine ⟨.inr (by trivial), ?_⟩
  refine Fin_same hcl (by show resPV Try.prog _ _ [.cell 0 28] = some _; simp only [resPV, go_sem]; rfl) (Wk.ro (by simp only [go_sem]) ?_)
  try simp only [go_sem]
  all_goals
    rfl
set_option maxHeartbeats 2000000 in
theorem span_pc (Y : YEnv) (σ : Sg) (lo hi : Int) :
    PC Try.prog Y 101 [I lo, I hi] σ (.agg [I lo, I hi]) (σ) := by
  refine PC_of_W Try.func101 rfl (by kernel_rfl) Try.ntmps101 (by simp) fun hcl hca => ?_
  refine W_seq fun kz1 kq1 => ?_
  refine W_region [0, 1, 4] fun R hR => ?_   -- r0
  simp only [go_sem]
  refine hR _ _ (kq1 _ _ ?_); clear hR R; try clear kq1 kz1
  try simp only [go_sem]
  refine W_seq fun kz2 kq2 => ?_
  refine W_region [4] fun R hR => ?_   -- r1
  simp only [go_sem]
  refine hR _ _ (kq2 _ _ ?_); clear hR R; try clear kq2 kz2
  try simp only [go_sem]
  refine W_ret ?_
  simp only [go_sem]
  refine ⟨.inr (by trivial), ?_⟩
  first | refine Fin_same hcl (by show resPV Try.prog _ _ [.cell 4 31] = some _; simp only [resPV, go_sem]; rfl) (Wk_eq ?_ (by simp only [go_sem])) | refine Fin_same hcl rfl (Wk_eq ?_ (by simp only [go_sem]))
  try simp only [go_sem]
  all_goals
    first | rfl | (simp_all; done) | (simp_all; omega)
set_option maxHeartbeats 2000000 in
theorem bandsQ_pc (Y : YEnv) (σ : Sg)  :
    PC Try.prog Y 59 [] σ (bands bandsQ) (σ) := by
  refine PC_of_W Try.func59 rfl (by kernel_rfl) Try.ntmps59 (by simp) fun hcl hca => ?_
  refine W_seq fun kz1 kq1 => ?_
  refine W_region [] fun R hR => ?_   -- r0
  simp only [go_sem]
  refine hR _ _ (kq1 _ _ ?_); clear hR R; try clear kq1 kz1
  try simp only [go_sem]
  refine W_seq fun kz2 kq2 => ?_
  refine W_region [0] fun R hR => ?_   -- r1
  simp only [go_sem]
  refine GCall_of (span_pc Y _ 100 110) ?_   -- t2
  simp only [go_sem]
  refine GCall_of (span_pc Y _ 120 120) ?_   -- t5
  simp only [go_sem]
  refine GCall_of (span_pc Y _ 300 300) ?_   -- t7
  simp only [go_sem]
  refine GCall_of (span_pc Y _ 650 650) ?_   -- t9
  simp only [go_sem]
  refine hR _ _ (kq2 _ _ ?_); clear hR R; try clear kq2 kz2
  try simp only [go_sem]
  refine W_ret ?_
  simp only [go_sem]
  refine ⟨.inr (by trivial), ?_⟩
  first | refine Fin_same hcl rfl (Wk.ro (by simp only [go_sem]) ?_) | refine Fin_self hcl rfl (Wk.ro (by simp only [go_sem]) ?_)
  try simp only [go_sem]
  all_goals
    rfl
set_option maxHeartbeats 2000000 in
theorem later_pc (Y : YEnv) (σ : Sg) (s : Int) :
    PC Try.prog Y 60 [I s] σ (bdPV (laterQ s)) (σ) := by
  refine PC_of_W Try.func60 rfl (by kernel_rfl) Try.ntmps60 (by simp) fun hcl hca => ?_
  have q0 : (0 : Int) ≤ 1 := by decide
  have q1 : (1 : Int).toNat = 1 := rfl
  have q2 : bandsQ[1]? = some ⟨2, [1], 120, 120, 30, 40⟩ := rfl
  refine W_seq fun kz1 kq1 => ?_
  refine W_region [0, 2] fun R hR => ?_   -- r0
  simp only [go_sem, q0, q1, q2]
  refine hR _ _ (kq1 _ _ ?_); clear hR R; try clear kq1 kz1
  try simp only [go_sem, q0, q1, q2]
  refine W_seq fun kz2 kq2 => ?_
  refine W_region [0, 2, 3] fun R hR => ?_   -- r1
  simp only [go_sem, q0, q1, q2]
  refine GCall_of (bandsQ_pc Y _) ?_   -- t4
  simp only [go_sem, q0, q1, q2]
  refine hR _ _ (kq2 _ _ ?_); clear hR R; try clear kq2 kz2
  try simp only [go_sem, q0, q1, q2]
  refine W_seq fun kz3 kq3 => ?_
  refine W_region [2, 3] fun R hR => ?_   -- r2
  simp only [go_sem, q0, q1, q2]
  refine GCall_of (span_pc Y _ s s) ?_   -- t9
  simp only [go_sem, q0, q1, q2]
  refine hR _ _ (kq3 _ _ ?_); clear hR R; try clear kq3 kz3
  try simp only [go_sem, q0, q1, q2]
  refine W_seq fun kz4 kq4 => ?_
  refine W_region [2] fun R hR => ?_   -- r3
  simp only [go_sem, q0, q1, q2]
  refine hR _ _ (kq4 _ _ ?_); clear hR R; try clear kq4 kz4
  try simp only [go_sem, q0, q1, q2]
  refine W_ret ?_
  simp only [go_sem, q0, q1, q2]
  refine ⟨.inr (by trivial), ?_⟩
  refine Fin_same hcl (by show resPV Try.prog _ _ [.cell 2 33] = some _; simp only [resPV, go_sem]; rfl) (Wk.ro (by simp only [go_sem]) ?_)
  try simp only [go_sem]
  all_goals
    rfl
set_option maxHeartbeats 2000000 in
theorem lawake_pc (Y : YEnv) (σ : Sg)  :
    PC Try.prog Y 17 [] σ (.bool true) (σ) := by
  refine PC_of_W Try.func17 rfl (by kernel_rfl) Try.ntmps17 (by simp) fun hcl hca => ?_
  have q0 : (0 : Int) ≤ 0 := by decide
  have q1 : (0 : Int).toNat = 0 := rfl
  have q2 : bandsQ[0]? = some ⟨0, [0, 1], 100, 110, 20, 50⟩ := rfl
  have q3 : (0 : Int) ≤ 1 := by decide
  have q4 : (1 : Int).toNat = 1 := rfl
  have q5 : 1 ≤ bandsQ.length := by decide
  refine W_seq fun kz1 kq1 => ?_
  refine W_region [] fun R hR => ?_   -- r0
  simp only [go_sem, q0, q1, q2, q3, q4, q5]
  refine hR _ _ (kq1 _ _ ?_); clear hR R; try clear kq1 kz1
  try simp only [go_sem, q0, q1, q2, q3, q4, q5]
  refine W_seq fun kz2 kq2 => ?_
  refine W_region [1, 2] fun R hR => ?_   -- r1
  simp only [go_sem, q0, q1, q2, q3, q4, q5]
  refine GCall_of (quarter_pc Y _) ?_   -- t9
  simp only [go_sem, q0, q1, q2, q3, q4, q5]
  refine GCall_of (bandsQ_pc Y _) ?_   -- t10
  simp only [go_sem, q0, q1, q2, q3, q4, q5]
  refine GCall_of (PC.val (v' := .tuple [ints [0, 10, 13, 11], I 0]) (Grant_pc Y _ quarterC bandsQ quarter_ok bandsQ_ok) (by rw [ex_grant])) ?_   -- t11
  simp only [go_sem, q0, q1, q2, q3, q4, q5]
  refine hR _ _ (kq2 _ _ ?_); clear hR R; try clear kq2 kz2
  try simp only [go_sem, q0, q1, q2, q3, q4, q5]
  refine W_seq fun kz3 kq3 => ?_
  refine W_draw [1, 2, 3, 4] [0, 1, 2, 3, 4, 5, 6, 7, 8, 9, 10] [(2, 5), (3, 5)] [[], [0], [0, 1], [0, 1, 2], [0, 1], [0, 1, 2, 3, 4], [0, 1, 2, 3, 4, 5], [0, 1, 2, 3, 4, 5, 6], [0, 1, 2, 3, 4, 5, 6], [0, 1, 2, 3, 4, 5, 6, 7], [0, 1, 2, 3, 4, 5, 6, 7, 8, 9]] mixed (by kernel_rfl) fun R hR => ?_   -- r2
  simp only [go_sem, q0, q1, q2, q3, q4, q5]
  refine GCall_of (quarter_pc Y _) ?_   -- t15
  simp only [go_sem, q0, q1, q2, q3, q4, q5]
  refine GCall_of (bandsQ_pc Y _) ?_   -- t16
  simp only [go_sem, q0, q1, q2, q3, q4, q5]
  refine GCall_of (later_pc Y _ 60) ?_   -- t19
  simp only [go_sem, q0, q1, q2, q3, q4, q5]
  refine GCall_of (PC.val (v' := .tuple [I 3, I 0]) (bCross_pc Y _ quarterC ⟨0, [0, 1], 100, 110, 20, 50⟩ (laterQ 60) quarter_ok (by decide) (by decide)) (by rw [ex_cross])) ?_   -- t20
  simp only [go_sem, q0, q1, q2, q3, q4, q5]
  try refine And.intro (by repeat' (first | refine And.intro ?_ ?_ | exact GOr_right (fun _ => by simp only [go_sem, q0, q1, q2, q3, q4, q5]))) ?_
  refine hR _ _ (kq3 _ _ ?_); clear hR R; try clear kq3 kz3
  try simp only [go_sem, q0, q1, q2, q3, q4, q5]
  refine W_seq fun kz4 kq4 => ?_
  refine W_region [1, 2, 3, 4, 5, 6, 7] fun R hR => ?_   -- r3
  simp only [go_sem, q0, q1, q2, q3, q4, q5]
  refine GCall_of (quarter_pc Y _) ?_   -- t24
  simp only [go_sem, q0, q1, q2, q3, q4, q5]
  refine GCall_of (bandsQ_pc Y _) ?_   -- t25
  simp only [go_sem, q0, q1, q2, q3, q4, q5]
  refine GCall_of (PC.val (v' := .tuple [I 130, I 590, I 0]) (bSleep_pc Y _ quarterC (bandsQ.take 1) 0 quarter_ok ⟨by decide, fun b hb => bandsQ_ok.2 b (List.mem_of_mem_take hb)⟩) (by rw [ex_sleep])) ?_   -- t27
  simp only [go_sem, q0, q1, q2, q3, q4, q5]
  refine hR _ _ (kq4 _ _ ?_); clear hR R; try clear kq4 kz4
  try simp only [go_sem, q0, q1, q2, q3, q4, q5]
  refine W_seq fun kz5 kq5 => ?_
  refine W_region [0] fun R hR => ?_   -- r4
  simp only [go_sem, q0, q1, q2, q3, q4, q5]
  refine GCall_of (PC.val (v' := .bool true) (EqErrors_pc Y _ [0, 10, 13, 11] [0, 10, 13, 11] .ro .exact (by decide)) (by simp)) ?_   -- t44
  simp only [go_sem, q0, q1, q2, q3, q4, q5]
  refine hR _ _ (kq5 _ _ ?_); clear hR R; try clear kq5 kz5
  try simp only [go_sem, q0, q1, q2, q3, q4, q5]
  refine W_ret ?_
  simp only [go_sem, q0, q1, q2, q3, q4, q5]
  refine ⟨.inr (by trivial), ?_⟩
  first | refine Fin_same hcl rfl (Wk_eq ?_ (by simp only [go_sem])) | refine Fin_self hcl rfl (Wk_eq ?_ (by simp only [go_sem]))
  try simp only [go_sem]
  all_goals
    first | rfl | (simp_all; done) | (simp_all; omega)
end Go.Proofs.Ytnpamcpoaklgeaa
namespace Go.Proofs.Ytnpamcpoaklgeaa
open Go Go.RowKit
structure CityV (c : City) : Prop where
  tv : TownV 4 5 1 c.town
  b0 : 0 ≤ c.brk
  b1 : c.brk ≤ 60
  sl : c.sleep.length = c.town.rooms.length
  sv : ∀ n, n ∈ c.sleep → 0 ≤ n ∧ n ≤ 720
theorem cityA_ok {t : Town} {brk : Int} (ht : TownV 4 5 1 t) (h0 : 0 ≤ brk) (h1 : brk ≤ 60) : ∀ (k : Nat) (acc : List Int), acc.length + k = t.rooms.length → (∀ n, n ∈ acc → 0 ≤ n ∧ n ≤ 720) → Holds (cityA t brk k acc) CityV := by
  intro k
  induction k with
  | zero => intro acc hl ha; exact .ret ⟨ht, h0, h1, by simpa using hl, ha⟩
  | succ k ih =>
    intro acc hl ha
    refine (roll_bd 721).bind fun x hx => (mid_bd 300 600 (by omega)).bind fun y hy => (anyOf_mem [0, x, y] (by simp)).bind fun z hz => ih _ (by simp; omega) fun n hn => ?_
    have hz := mem3 hz
    rcases List.mem_append.1 hn with hn | hn
    · exact ha n hn
    · simp only [List.mem_singleton] at hn; subst hn; omega
theorem cityD_ok : Holds cityD CityV := by
  unfold cityD
  refine Holds.bind (R := TownV 4 5 1) townD451 fun t ht => (roll_bd 10).bind fun x hx => (roll_bd 60).bind fun y hy => (anyOf_mem [0, 1, x, y] (by simp)).bind fun brk hb => ?_
  have hb := mem4 hb
  exact cityA_ok ht (by omega) (by omega) _ [] (by simp) (fun n hn => by cases hn)
end Go.Proofs.Ytnpamcpoaklgeaa
namespace Go.Proofs.Ytnpamcpoaklgeaa
open Go Go.RowKit
set_option maxRecDepth 100000
/-- A row of bands, in a row. -/
def bsPV (l : List Band) : PV := .isl (l.map bdPV) .ro
theorem cA_ct {a b c : Nat} {xs : List City} : CleanAll a b c (xs.map ctPV) = True := CleanAll_map clean_ct
theorem cA_bs {a b c : Nat} {xs : List (List Band)} : CleanAll a b c (xs.map bsPV) = True := CleanAll_map fun x => by simp only [bsPV, go_sem]
attribute [go_sem] bsPV cA_ct cA_bs
/-- What may come in. -/
structure City.In (c : City) : Prop where
  hr : c.town.rooms.length * 8 ≤ 140737488351232
  hs : c.town.streets.length * 16 ≤ 140737488351232
  hg : c.town.groups.length * 72 ≤ 140737488351232
  hp : ∀ g, g ∈ c.town.groups → g.path.length * 8 ≤ 140737488351232
  hsl : c.sleep.length * 8 ≤ 140737488351232
theorem City.In.okc {c : City} (h : c.In) : c.Ok := by
  have := h.hr; have := h.hs; have := h.hg; have := h.hsl
  exact ⟨by omega, by omega, by omega, fun g hg => by have := h.hp g hg; omega, by omega⟩
/-- Few enough of all. -/
structure City.Few (c : City) : Prop where
  hr : c.town.rooms.length ≤ 20
  hs : c.town.streets.length ≤ 20
  hg : c.town.groups.length ≤ 20
  hp : ∀ g, g ∈ c.town.groups → g.path.length ≤ 20
  hsl : c.sleep.length ≤ 20
theorem City.Few.okc {c : City} (h : c.Few) : c.Ok := by
  have := h.hr; have := h.hs; have := h.hg; have := h.hsl
  exact ⟨by omega, by omega, by omega, fun g hg => by have := h.hp g hg; omega, by omega⟩
theorem City.Few.small {c : City} (h : c.Few) : c.Small := by
  have := h.hr; have := h.hs; have := h.hg; have := h.hsl
  exact ⟨by omega, by omega, by omega, fun g hg => by have := h.hp g hg; omega, by omega⟩
theorem CityV.few {c : City} (h : CityV c) : c.Few := by
  have := h.tv.r1; have := h.tv.s1; have := h.tv.g1; have := h.sl
  exact ⟨by omega, by omega, by omega, fun g hg => by have := (h.tv.g2 g hg).p1; omega, by omega⟩
end Go.Proofs.Ytnpamcpoaklgeaa
namespace Go.Proofs.Ytnpamcpoaklgeaa
open Go Go.RowKit
section
variable {P : Program} {t e : TypeId} {d : TypeDesc} {c b : Nat} {σ : Sg} {id len es : Nat}
theorem iaG_of (h : P.underlying t = some (.slice e)) (he : P.underlying e = some d) (hc : P.cellsOf e = c) (kd : IntKind) (len : Nat) (n : Int) : indexAddrPV P t (.gsl id len es) (.int kd n) = iaM c id 0 len n := by
  simp [indexAddrPV, h, he, hc, iaM]
theorem lenG_of (h : P.underlying t = some (.slice e)) (n : Nat) : lenPV P t (.gsl id n es) = some (.int .i64 n) := by simp [lenPV, h]
theorem lenN_of (h : P.underlying t = some (.slice e)) : lenPV P t .gnil = some (.int .i64 0) := by simp [lenPV, h]
def appG (c b : Nat) (σ : Sg) (x : PV) (m : List PV) : Option (PV × Sg) :=
  if m.all (fun q => (q.cells.length == c) && q.cells.all PV.scalar) && decide (0 < m.length) then
    (match x with
     | .gnil => if m.length * b ≤ 2 ^ 47 then some (.gsl σ.store.length m.length c, σ.push (rowC m)) else none
     | .gsl id len es => match σ.store[id]? with
       | some (some cs) => if es = c ∧ cs.length = len * es ∧ (len + m.length) * b ≤ 2 ^ 47 then some (.gsl σ.store.length (len + m.length) es, (σ.drop id).push (cs ++ rowC m)) else none
       | _ => none
     | _ => none)
  else none
theorem appG_of {zs : List PV} {x : PV} {m : List PV} {own : Own} (h : P.underlying t = some (.slice e)) (he : P.underlying e = some d) (hc : P.cellsOf e = c) (hb : P.bytesOf e = b) (hb0 : b ≠ 0) (hc0 : 0 < c) (hz : zeroPV P e = some zs) (hzl : zs.length = c) :
    appendG P σ t t x (.isl m own) = appG c b σ x m := by
  unfold appendG appG
  rw [h]
  simp only [he, hc, hb, hz, hzl, Option.isSome_some, Bool.true_and, Option.map_some, BEq.rfl, Bool.and_true, hb0, hc0, ne_eq, not_false_eq_true, and_self, decide_true]
  rfl
end
theorem get_put1 (E : Env) (t : Nat) (v : PV) (t' : Nat) : (E.put (some t) v).get t' = if t' = t then v else E.get t' := by
  simp only [Env.put_some, Env.get]
  by_cases h : t' = t
  · subst h; simp
  · simp [h, Ne.symm h]
theorem rowC_at {es : Nat} : ∀ {l : List PV} (_ : ∀ q ∈ l, q.cells.length = es) {k j : Nat} {q p : PV}, l[k]? = some q → q.cells[j]? = some p → (rowC l)[k * es + j]? = some p := by
  intro l
  induction l with
  | nil => intro _ k j q p h; simp at h
  | cons a l ih =>
    intro hl k j q p h1 h2
    have ha := hl a (by simp)
    have e : rowC (a :: l) = a.cells ++ rowC l := by simp [rowC]
    rw [e]
    cases k with
    | zero =>
      simp at h1
      subst h1
      rw [Nat.zero_mul, Nat.zero_add, List.getElem?_append_left (List.getElem?_eq_some_iff.1 h2).1]
      exact h2
    | succ k =>
      have := ih (fun q hq => hl q (by simp [hq])) (by simpa using h1) h2
      rw [List.getElem?_append_right (by rw [ha, Nat.add_mul]; omega), ha, show (k + 1) * es + j - es = k * es + j by rw [Nat.add_mul]; omega]
      exact this
theorem Sg.drop_ext {σ : Sg} {l : List (Option (List PV))} {rm : List Nat} {ys : List LState} (j : Nat) : (σ.ext l rm ys).drop (σ.store.length + j) = σ.ext (l.set j none) rm ys := by
  simp [Sg.drop, Sg.ext, List.set_append]
theorem Sg.drop_ext0 {σ : Sg} {l : List (Option (List PV))} {rm : List Nat} {ys : List LState} : (σ.ext l rm ys).drop σ.store.length = σ.ext (l.set 0 none) rm ys := Sg.drop_ext 0
attribute [go_sem] Sg.drop_ext Sg.drop_ext0
end Go.Proofs.Ytnpamcpoaklgeaa
namespace Go.Proofs.Ytnpamcpoaklgeaa
open Go Go.RowKit
theorem appg22 {σ : Sg} {x : PV} {m : List PV} {own : Own} : appendG Try.prog σ 22 22 x (.isl m own) = appG 1 8 σ x m := appG_of Try.underlying22 Try.underlying3 cells3 bytes3 (by decide) (by decide) zero3 rfl
theorem iag22 {id len es : Nat} {k : IntKind} {i : Int} : indexAddrPV Try.prog 22 (.gsl id len es) (.int k i) = iaM 1 id 0 len i := iaG_of Try.underlying22 Try.underlying3 cells3 k len i
theorem leng22 {id n es : Nat} : lenPV Try.prog 22 (.gsl id n es) = some (.int .i64 n) := lenG_of Try.underlying22 n
theorem lenn22 : lenPV Try.prog 22 .gnil = some (.int .i64 0) := lenN_of Try.underlying22
theorem appg23 {σ : Sg} {x : PV} {m : List PV} {own : Own} : appendG Try.prog σ 23 23 x (.isl m own) = appG 2 16 σ x m := appG_of Try.underlying23 Try.underlying76 cells76 bytes76 (by decide) (by decide) zero76 rfl
theorem iag23 {id len es : Nat} {k : IntKind} {i : Int} : indexAddrPV Try.prog 23 (.gsl id len es) (.int k i) = iaM 2 id 0 len i := iaG_of Try.underlying23 Try.underlying76 cells76 k len i
theorem leng23 {id n es : Nat} : lenPV Try.prog 23 (.gsl id n es) = some (.int .i64 n) := lenG_of Try.underlying23 n
theorem lenn23 : lenPV Try.prog 23 .gnil = some (.int .i64 0) := lenN_of Try.underlying23
theorem appg24 {σ : Sg} {x : PV} {m : List PV} {own : Own} : appendG Try.prog σ 24 24 x (.isl m own) = appG 7 72 σ x m := appG_of Try.underlying24 Try.underlying86 cells86 bytes86 (by decide) (by decide) zero86 rfl
theorem iag24 {id len es : Nat} {k : IntKind} {i : Int} : indexAddrPV Try.prog 24 (.gsl id len es) (.int k i) = iaM 7 id 0 len i := iaG_of Try.underlying24 Try.underlying86 cells86 k len i
theorem leng24 {id n es : Nat} : lenPV Try.prog 24 (.gsl id n es) = some (.int .i64 n) := lenG_of Try.underlying24 n
theorem lenn24 : lenPV Try.prog 24 .gnil = some (.int .i64 0) := lenN_of Try.underlying24
theorem appg29 {σ : Sg} {x : PV} {m : List PV} {own : Own} : appendG Try.prog σ 29 29 x (.isl m own) = appG 6 64 σ x m := appG_of Try.underlying29 Try.underlying33 cells33 bytes33 (by decide) (by decide) zero33 rfl
theorem iag29 {id len es : Nat} {k : IntKind} {i : Int} : indexAddrPV Try.prog 29 (.gsl id len es) (.int k i) = iaM 6 id 0 len i := iaG_of Try.underlying29 Try.underlying33 cells33 k len i
theorem leng29 {id n es : Nat} : lenPV Try.prog 29 (.gsl id n es) = some (.int .i64 n) := lenG_of Try.underlying29 n
theorem lenn29 : lenPV Try.prog 29 .gnil = some (.int .i64 0) := lenN_of Try.underlying29
theorem appg41 {σ : Sg} {x : PV} {m : List PV} {own : Own} : appendG Try.prog σ 41 41 x (.isl m own) = appG 6 112 σ x m := appG_of Try.underlying41 Try.underlying28 cells28 bytes28 (by decide) (by decide) zero28 rfl
theorem iag41 {id len es : Nat} {k : IntKind} {i : Int} : indexAddrPV Try.prog 41 (.gsl id len es) (.int k i) = iaM 6 id 0 len i := iaG_of Try.underlying41 Try.underlying28 cells28 k len i
theorem leng41 {id n es : Nat} : lenPV Try.prog 41 (.gsl id n es) = some (.int .i64 n) := lenG_of Try.underlying41 n
theorem lenn41 : lenPV Try.prog 41 .gnil = some (.int .i64 0) := lenN_of Try.underlying41
theorem appg43 {σ : Sg} {x : PV} {m : List PV} {own : Own} : appendG Try.prog σ 43 43 x (.isl m own) = appG 1 24 σ x m := appG_of Try.underlying43 Try.underlying29 cells29 bytes29 (by decide) (by decide) zero29 rfl
theorem iag43 {id len es : Nat} {k : IntKind} {i : Int} : indexAddrPV Try.prog 43 (.gsl id len es) (.int k i) = iaM 1 id 0 len i := iaG_of Try.underlying43 Try.underlying29 cells29 k len i
theorem leng43 {id n es : Nat} : lenPV Try.prog 43 (.gsl id n es) = some (.int .i64 n) := lenG_of Try.underlying43 n
theorem lenn43 : lenPV Try.prog 43 .gnil = some (.int .i64 0) := lenN_of Try.underlying43
theorem appg54 {σ : Sg} {x : PV} {m : List PV} {own : Own} : appendG Try.prog σ 54 54 x (.isl m own) = appG 1 8 σ x m := appG_of Try.underlying54 Try.underlying46 cells46 bytes46 (by decide) (by decide) zero46 rfl
theorem iag54 {id len es : Nat} {k : IntKind} {i : Int} : indexAddrPV Try.prog 54 (.gsl id len es) (.int k i) = iaM 1 id 0 len i := iaG_of Try.underlying54 Try.underlying46 cells46 k len i
theorem leng54 {id n es : Nat} : lenPV Try.prog 54 (.gsl id n es) = some (.int .i64 n) := lenG_of Try.underlying54 n
theorem lenn54 : lenPV Try.prog 54 .gnil = some (.int .i64 0) := lenN_of Try.underlying54
theorem appg71 {σ : Sg} {x : PV} {m : List PV} {own : Own} : appendG Try.prog σ 71 71 x (.isl m own) = appG 1 24 σ x m := appG_of Try.underlying71 Try.underlying22 cells22 bytes22 (by decide) (by decide) zero22 rfl
theorem iag71 {id len es : Nat} {k : IntKind} {i : Int} : indexAddrPV Try.prog 71 (.gsl id len es) (.int k i) = iaM 1 id 0 len i := iaG_of Try.underlying71 Try.underlying22 cells22 k len i
theorem leng71 {id n es : Nat} : lenPV Try.prog 71 (.gsl id n es) = some (.int .i64 n) := lenG_of Try.underlying71 n
theorem lenn71 : lenPV Try.prog 71 .gnil = some (.int .i64 0) := lenN_of Try.underlying71
theorem appg117 {σ : Sg} {x : PV} {m : List PV} {own : Own} : appendG Try.prog σ 117 117 x (.isl m own) = appG 3 24 σ x m := appG_of Try.underlying117 Try.underlying119 cells119 bytes119 (by decide) (by decide) zero119 rfl
theorem iag117 {id len es : Nat} {k : IntKind} {i : Int} : indexAddrPV Try.prog 117 (.gsl id len es) (.int k i) = iaM 3 id 0 len i := iaG_of Try.underlying117 Try.underlying119 cells119 k len i
theorem leng117 {id n es : Nat} : lenPV Try.prog 117 (.gsl id n es) = some (.int .i64 n) := lenG_of Try.underlying117 n
theorem lenn117 : lenPV Try.prog 117 .gnil = some (.int .i64 0) := lenN_of Try.underlying117
theorem appg123 {σ : Sg} {x : PV} {m : List PV} {own : Own} : appendG Try.prog σ 123 123 x (.isl m own) = appG 1 1 σ x m := appG_of Try.underlying123 Try.underlying4 cells4 bytes4 (by decide) (by decide) zero4 rfl
theorem iag123 {id len es : Nat} {k : IntKind} {i : Int} : indexAddrPV Try.prog 123 (.gsl id len es) (.int k i) = iaM 1 id 0 len i := iaG_of Try.underlying123 Try.underlying4 cells4 k len i
theorem leng123 {id n es : Nat} : lenPV Try.prog 123 (.gsl id n es) = some (.int .i64 n) := lenG_of Try.underlying123 n
theorem lenn123 : lenPV Try.prog 123 .gnil = some (.int .i64 0) := lenN_of Try.underlying123
theorem appg150 {σ : Sg} {x : PV} {m : List PV} {own : Own} : appendG Try.prog σ 150 150 x (.isl m own) = appG 1 8 σ x m := appG_of Try.underlying150 Try.underlying107 cells107 bytes107 (by decide) (by decide) zero107 rfl
theorem iag150 {id len es : Nat} {k : IntKind} {i : Int} : indexAddrPV Try.prog 150 (.gsl id len es) (.int k i) = iaM 1 id 0 len i := iaG_of Try.underlying150 Try.underlying107 cells107 k len i
theorem leng150 {id n es : Nat} : lenPV Try.prog 150 (.gsl id n es) = some (.int .i64 n) := lenG_of Try.underlying150 n
theorem lenn150 : lenPV Try.prog 150 .gnil = some (.int .i64 0) := lenN_of Try.underlying150
attribute [go_sem] appg22 iag22 leng22 lenn22 appg23 iag23 leng23 lenn23 appg24 iag24 leng24 lenn24 appg29 iag29 leng29 lenn29 appg41 iag41 leng41 lenn41 appg43 iag43 leng43 lenn43 appg54 iag54 leng54 lenn54 appg71 iag71 leng71 lenn71 appg117 iag117 leng117 lenn117 appg123 iag123 leng123 lenn123 appg150 iag150 leng150 lenn150
end Go.Proofs.Ytnpamcpoaklgeaa
namespace Go.Proofs.Ytnpamcpoaklgeaa
open Go Go.RowKit
/-- A map's entries. -/
def mapE {κ ν : Type} (ek : κ → PV) (ev : ν → PV) (l : List (κ × ν)) : List PV := l.map fun e => .tuple [ek e.1, ev e.2]
theorem mapE_cons {κ ν : Type} (ek : κ → PV) (ev : ν → PV) (e : κ × ν) (l : List (κ × ν)) : mapE ek ev (e :: l) = .tuple [ek e.1, ev e.2] :: mapE ek ev l := rfl
theorem mapE_append {κ ν : Type} (ek : κ → PV) (ev : ν → PV) (l m : List (κ × ν)) : mapE ek ev (l ++ m) = mapE ek ev l ++ mapE ek ev m := by simp [mapE]
section
variable {κ ν : Type} [DecidableEq κ]
def aget (k : κ) : List (κ × ν) → Option ν
  | [] => none
  | e :: l => if k = e.1 then some e.2 else aget k l
def aput (k : κ) (v : ν) : List (κ × ν) → List (κ × ν)
  | [] => [(k, v)]
  | e :: l => if k = e.1 then (k, v) :: l else e :: aput k v l
theorem aput_new {k : κ} {v : ν} : ∀ {l : List (κ × ν)}, aget k l = none → aput k v l = l ++ [(k, v)] := by
  intro l
  induction l with
  | nil => intro _; rfl
  | cons e l ih =>
    intro h
    simp only [aget] at h
    split at h
    · cases h
    · rename_i hne
      simp only [aput, if_neg hne, ih h, List.cons_append]
theorem aget_append (k : κ) : ∀ l m : List (κ × ν), aget k (l ++ m) = match aget k l with | some v => some v | none => aget k m := by
  intro l m
  induction l with
  | nil => rfl
  | cons e l ih =>
    simp only [List.cons_append, aget]
    split
    · rfl
    · exact ih
theorem aget_mem {k : κ} {v : ν} : ∀ {l : List (κ × ν)}, aget k l = some v → (k, v) ∈ l := by
  intro l
  induction l with
  | nil => intro h; cases h
  | cons e l ih =>
    intro h
    simp only [aget] at h
    split at h
    · rename_i he
      injection h with h
      subst he h
      simp
    · exact List.mem_cons_of_mem _ (ih h)
theorem aget_none {k : κ} : ∀ {l : List (κ × ν)}, aget k l = none ↔ ∀ e, e ∈ l → e.1 ≠ k := by
  intro l
  induction l with
  | nil =>
    constructor
    · intro _ e h
      cases h
    · intro _
      rfl
  | cons e l ih =>
    simp only [aget]
    by_cases he : k = e.1
    · rw [if_pos he]
      constructor
      · intro h
        cases h
      · intro h
        exact absurd he.symm (h e (by simp))
    · rw [if_neg he, ih]
      constructor
      · intro h x hx
        rcases List.mem_cons.1 hx with rfl | hx
        · exact fun q => he q.symm
        · exact h x hx
      · intro h x hx
        exact h x (by simp [hx])
/-- The keys of a type are told apart as their readings are. -/
def KeyOK (P : Program) (kt : TypeId) (ek : κ → PV) : Prop := ∀ a b, keyEq P kt (ek a) (ek b) = some (decide (a = b))
def afind (k : κ) : List (κ × ν) → Nat → Option (Nat × ν)
  | [], _ => none
  | e :: l, i => if k = e.1 then some (i, e.2) else afind k l (i + 1)
theorem findPV_map {P : Program} {kt : TypeId} {ek : κ → PV} (h : KeyOK P kt ek) (ev : ν → PV) (k : κ) : ∀ (l : List (κ × ν)) (i : Nat), findPV P kt (ek k) (mapE ek ev l) i = some ((afind k l i).map fun r => (r.1, ev r.2)) := by
  intro l
  induction l with
  | nil => intro i; rfl
  | cons e l ih =>
    intro i
    simp only [mapE_cons, findPV, afind]
    rw [h k e.1]
    by_cases he : k = e.1
    · simp [he]
    · simp only [he, decide_false, if_neg, not_false_eq_true]
      exact ih (i + 1)
theorem afind_get (k : κ) : ∀ (l : List (κ × ν)) (i : Nat), (afind k l i).map (·.2) = aget k l := by
  intro l
  induction l with
  | nil => intro i; rfl
  | cons e l ih =>
    intro i
    simp only [afind, aget]
    split
    · rfl
    · exact ih (i + 1)
theorem afind_put (ek : κ → PV) (ev : ν → PV) (k : κ) (v : ν) : ∀ (l : List (κ × ν)) (i : Nat), match afind k l i with
    | none => aput k v l = l ++ [(k, v)]
    | some (j, _) => i ≤ j ∧ (mapE ek ev l).set (j - i) (.tuple [ek k, ev v]) = mapE ek ev (aput k v l) := by
  intro l
  induction l with
  | nil => intro i; rfl
  | cons e l ih =>
    intro i
    simp only [afind, aput]
    by_cases he : k = e.1
    · rw [if_pos he, if_pos he]
      simp [mapE_cons]
    · rw [if_neg he, if_neg he]
      have := ih (i + 1)
      cases hf : afind k l (i + 1) with
      | none => rw [hf] at this; simp only at this ⊢; rw [this]; rfl
      | some r =>
        rw [hf] at this
        obtain ⟨j, x⟩ := r
        simp only at this ⊢
        refine ⟨by omega, ?_⟩
        rw [show j - i = j - (i + 1) + 1 by omega, mapE_cons, List.set_cons_succ, this.2, mapE_cons]
def lkM (P : Program) (kt : TypeId) (z : PV) (b : Option (Option (List PV))) (k : PV) (ok : Bool) : Option PV :=
  match b with
  | some (some (.mark :: es)) => match findPV P kt k es 0 with
    | some (some (_, v)) => some (packPV ok v true)
    | some none => some (packPV ok z false)
    | none => none
  | _ => none
def lkX (P : Program) (kt : TypeId) (z : PV) (σ : Sg) (id : Nat) (k : PV) (ok : Bool) : Option PV := lkM P kt z σ.store[id]? k ok
def upM (P : Program) (kt : TypeId) (b : Option (Option (List PV))) (k v : PV) : Option (List PV) :=
  match b with
  | some (some (.mark :: es)) => match findPV P kt k es 0 with
    | some (some (j, _)) => some (.mark :: es.set j (.tuple [k, v]))
    | some none => some (.mark :: (es ++ [.tuple [k, v]]))
    | none => none
  | _ => none
def upX (P : Program) (kt : TypeId) (σ : Sg) (id : Nat) (k v : PV) : Option Sg := (upM P kt σ.store[id]? k v).map fun cs => σ.setVar id cs
theorem lk_of {P : Program} {t kt et : TypeId} {kd : TypeDesc} {z : PV} (h : P.underlying t = some (.map kt et)) (hk : P.underlying kt = some kd) (hz : zeroOne P et = some z) {k : PV} (hf : keyFor P kd k = true) (σ : Sg) (id : Nat) (ok : Bool) :
    lookupPV P σ t (.map id) k ok = lkX P kt z σ id k ok := by
  simp only [lookupPV, h, hk, hz, hf, if_true, lkX, lkM]
  rfl
theorem up_of {P : Program} {t kt et : TypeId} {kd : TypeDesc} (h : P.underlying t = some (.map kt et)) (hk : P.underlying kt = some kd) {k : PV} (hf : keyFor P kd k = true) (v : PV) (σ : Sg) (id : Nat) :
    updatePV P σ t (.map id) k v = upX P kt σ id k v := by
  simp only [updatePV, h, hk, hf, if_true, upX, upM]
  generalize σ.store[id]? = b
  rcases b with _ | _ | cs
  · rfl
  · rfl
  · rcases cs with _ | ⟨c, cs⟩
    · rfl
    · cases c <;> try rfl
      simp only
      rcases findPV P kt k cs 0 with _ | _ | ⟨j, x⟩ <;> rfl
theorem lkM_map {P : Program} {kt : TypeId} {z : PV} {ek : κ → PV} (h : KeyOK P kt ek) (ev : ν → PV) (l : List (κ × ν)) (k : κ) (ok : Bool) :
    lkM P kt z (some (some (.mark :: mapE ek ev l))) (ek k) ok = some (packPV ok (match aget k l with | some v => ev v | none => z) (aget k l).isSome) := by
  simp only [lkM, findPV_map h]
  rw [← afind_get k l 0]
  cases afind k l 0 with
  | none => rfl
  | some r => rfl
theorem upM_map {P : Program} {kt : TypeId} {ek : κ → PV} (h : KeyOK P kt ek) (ev : ν → PV) (l : List (κ × ν)) (k : κ) (v : ν) :
    upM P kt (some (some (.mark :: mapE ek ev l))) (ek k) (ev v) = some (.mark :: mapE ek ev (aput k v l)) := by
  simp only [upM, findPV_map h]
  have := afind_put ek ev k v l 0
  cases hf : afind k l 0 with
  | none =>
    rw [hf] at this
    simp only at this
    simp only [Option.map_none, this, mapE_append]
    rfl
  | some r =>
    rw [hf] at this
    obtain ⟨j, x⟩ := r
    simp only [Option.map_some]
    have h2 := this.2
    simp only [Nat.sub_zero] at h2
    rw [h2]
end
section
variable {P : Program} {kt : TypeId} {z : PV} {σ : Sg} {l : List (Option (List PV))} {rm : List Nat} {ys : List LState} {j d : Nat} {cs : List PV} {k v : PV} {ok : Bool}
theorem lkX_ext : lkX P kt z (σ.ext l rm ys) (σ.store.length + j) k ok = lkM P kt z l[j]? k ok := by simp only [lkX, Sg.get_ext]
theorem lkX_ext0 : lkX P kt z (σ.ext l rm ys) σ.store.length k ok = lkM P kt z l[0]? k ok := by simp only [lkX, Sg.get_ext0]
theorem upX_ext : upX P kt (σ.ext l rm ys) (σ.store.length + j) k v = (upM P kt l[j]? k v).map fun cs => σ.ext (l.set j (some cs)) rm ys := by simp only [upX, Sg.get_ext, Sg.set_ext]
theorem upX_ext0 : upX P kt (σ.ext l rm ys) σ.store.length k v = (upM P kt l[0]? k v).map fun cs => σ.ext (l.set 0 (some cs)) rm ys := by simp only [upX, Sg.get_ext0, Sg.set_ext0]
theorem lkX_svx : lkX P kt z ((σ.setVar d cs).ext l rm ys) (σ.store.length + j) k ok = lkM P kt z l[j]? k ok := by
  have := lkX_ext (P := P) (kt := kt) (z := z) (σ := σ.setVar d cs) (l := l) (rm := rm) (ys := ys) (j := j) (k := k) (ok := ok)
  rw [sv_len] at this
  exact this
theorem Cl_map {a b c id : Nat} : Clean a b c (.map id) = (id < a) := propext ⟨fun h => by cases h; assumption, fun h => .mapv _ h⟩
theorem Cl_nilmap {a b c : Nat} : Clean a b c .nilmap = True := eq_true .nilmap
theorem Cl_mark {a b c : Nat} : Clean a b c .mark = True := eq_true .mark
theorem Cl_gsl {a b c id len es : Nat} : Clean a b c (.gsl id len es) = (id < a) := propext ⟨fun h => by cases h; assumption, fun h => .gsl _ _ _ h⟩
theorem Cl_gnil {a b c : Nat} : Clean a b c .gnil = True := eq_true .gnil
theorem CleanAll_mapE {κ ν : Type} {a b c : Nat} {ek : κ → PV} {ev : ν → PV} {l : List (κ × ν)} (h1 : ∀ x, Clean a b c (ek x)) (h2 : ∀ x, Clean a b c (ev x)) : CleanAll a b c (mapE ek ev l) = True := eq_true fun p hp => by
  obtain ⟨e, _, rfl⟩ := List.mem_map.1 hp
  refine .tuple _ fun q hq => ?_
  simp only [List.mem_cons, List.not_mem_nil, or_false] at hq
  rcases hq with rfl | rfl
  · exact h1 _
  · exact h2 _
theorem CleanAll_mapI {a b c : Nat} {l : List (Int × Int)} : CleanAll a b c (mapE I I l) = True := CleanAll_mapE (fun _ => .int _ _) (fun _ => .int _ _)
end
end Go.Proofs.Ytnpamcpoaklgeaa
namespace Go.Proofs.Ytnpamcpoaklgeaa
open Go Go.RowKit
/-- What a made slice holds is read of a temporary, and is never written again. -/
theorem Weak.freezeM {N : Nat} {lo : Nat × Nat} {E : Env} {σ : Sg} {t id len es : Nat} {l : List PV} (ht : E.get t = .msl id 0 len) (hs : σ.store[id]? = some (some (rowC l))) (hl : l.length = len) (hes : ∀ q ∈ l, q.cells.length = es) :
    Weak N lo E σ (E.put (some t) (.isl l .ro)) (σ.drop id) := by
  intro Ψ0 Ψ D a w hb le hr
  have hv := hr.env t
  rw [ht] at hv
  generalize hx : a.tmps.getD t undef = x at hv
  cases hv with
  | msl _ _ _ b cap hβ hz0 hc =>
  obtain ⟨_, c, hbk, _⟩ := hr.sg.szok b 0 hz0
  obtain ⟨_, _, hkp⟩ := hr.sg.block id _ b hs hβ
  obtain ⟨a4, a5⟩ := hkp.cells hbk
  obtain ⟨le2, hs2⟩ := hr.sg.freeze hs hβ hbk
  refine ⟨_, le.trans le2, hr.size, fun t' => ?_, hs2, fun d hd => le2.ds _ (hr.dsub d hd), ?_⟩
  · rw [get_put1]
    split
    · rename_i e
      subst e
      rw [hx, ← hl]
      have hat : ∀ (k : Nat) (q : PV) (j : Nat) (p : PV), l[k]? = some q → q.cells[j]? = some p → (rowC l)[k * es + j]? = some p ∧ k * es + j < c.size := fun k q j p q1 q2 => by
        have := rowC_at hes q1 q2
        exact ⟨this, Nat.lt_of_lt_of_le (List.getElem?_eq_some_iff.1 this).1 a4⟩
      refine .isl es l .ro b 0 cap (fun k j => c.getD (k * es + j) undef) (fun k q hk => hes q (List.mem_of_getElem? hk)) (fun k q j p q1 q2 => ?_) (fun k q j p q1 q2 => ?_) (by omega) trivial
      · obtain ⟨_, hlt⟩ := hat k q j p q1 q2
        simp only [Ty.addImm, Nat.zero_add]
        rw [if_pos ⟨trivial, Nat.zero_le _, hlt⟩]
        simp [Array.getD, hlt]
      · obtain ⟨h1, hlt⟩ := hat k q j p q1 q2
        refine (a5 _ p _ h1 ?_).mono le2
        simp [Array.getD, hlt]
    · exact (hr.env t').mono le2
  · obtain ⟨rs, r1, r2, r3⟩ := hr.defs
    exact ⟨rs, r1, r2, fun r hm => ⟨le2.ds _ (r3 r hm).1, (r3 r hm).2⟩⟩
theorem rowC_single {l : List PV} (h : ∀ q, q ∈ l → q.cells = [q]) : rowC l = l := by
  induction l with
  | nil => rfl
  | cons q l ih =>
    have := ih fun q hq => h q (by simp [hq])
    simp only [rowC, List.flatMap_cons] at this ⊢
    rw [h q (by simp), this]
    rfl
theorem rowC_ints (xs : List Int) : rowC (xs.map I) = xs.map I := rowC_single fun q hq => by obtain ⟨x, _, rfl⟩ := List.mem_map.1 hq; rfl
/-- A made slice of numbers, in a variable of its own, frozen. -/
theorem Weak.freezeI {N : Nat} {lo : Nat × Nat} {E : Env} {σ : Sg} {l : List (Option (List PV))} {rm : List Nat} {ys : List LState} {t j : Nat} {xs : List Int} (ht : E.get t = .msl (σ.store.length + j) 0 xs.length) (hs : l[j]? = some (some (xs.map I))) :
    Weak N lo E (σ.ext l rm ys) (E.put (some t) (ints xs)) (σ.ext (l.set j none) rm ys) := by
  have h := Weak.freezeM (N := N) (lo := lo) (E := E) (σ := σ.ext l rm ys) (t := t) (id := σ.store.length + j) (len := xs.length) (es := 1) (l := xs.map I) ht (by rw [Sg.get_ext, hs, rowC_ints]) (by simp) (fun q hq => by obtain ⟨x, _, rfl⟩ := List.mem_map.1 hq; rfl)
  rw [Sg.drop_ext] at h
  exact h
theorem mk_of {P : Program} {t e : TypeId} {z : PV} {b : Nat} (h : P.underlying t = some (.slice e)) (hz : zeroPV P e = some [z]) (hb : P.bytesOf e = b) (hc : P.cellsOf e = 1) {σ : Sg} {k : Nat} (hk : k * b ≤ 2 ^ 47) (hk2 : k < 2 ^ 63) :
    makePV P σ t (.int .i64 (k : Int)) (.int .i64 (k : Int)) = some (.msl σ.store.length 0 k, σ.push (List.replicate k z)) := by
  simp only [makePV, h, hz, hb, hc]
  rw [if_pos ⟨trivial, Int.natCast_nonneg k, by rw [← Int.natCast_mul]; omega, by omega, trivial⟩]
  simp
theorem setI {xs : List Int} {i : Nat} {v : Int} : (xs.map I).set i (I v) = (xs.set i v).map I := by rw [List.map_set]
theorem setB {xs : List Bool} {i : Nat} {v : Bool} : (xs.map PV.bool).set i (.bool v) = (xs.set i v).map PV.bool := by rw [List.map_set]
theorem repI (n : Nat) (v : Int) : List.replicate n (I v) = (List.replicate n v).map I := by simp
end Go.Proofs.Ytnpamcpoaklgeaa
namespace Go.Proofs.Ytnpamcpoaklgeaa
open Go Go.RowKit
theorem mk22 {σ : Sg} {k : Nat} (hk : k < 2 ^ 44) : makePV Try.prog σ 22 (.int .i64 (k : Int)) (.int .i64 (k : Int)) = some (.msl σ.store.length 0 k, σ.push ((List.replicate k (0 : Int)).map I)) := by
  rw [mk_of Try.underlying22 zero3 bytes3 cells3 (by omega) (by omega), repI]
theorem keyInt : KeyOK Try.prog 3 I := fun a b => by
  simp only [I, keyEq, if_true]
  congr 1
theorem lk137 {σ : Sg} {id : Nat} {k : Int} {ok : Bool} : lookupPV Try.prog σ 137 (.map id) (.int .i64 k) ok = lkX Try.prog 3 (I 0) σ id (.int .i64 k) ok := lk_of Try.underlying137 Try.underlying3 (by kernel_rfl) rfl σ id ok
theorem up137 {σ : Sg} {id : Nat} {k : Int} {v : PV} : updatePV Try.prog σ 137 (.map id) (.int .i64 k) v = upX Try.prog 3 σ id (.int .i64 k) v := up_of Try.underlying137 Try.underlying3 rfl v σ id
theorem lkI {m : List (Int × Int)} {k : Int} {ok : Bool} : lkM Try.prog 3 (I 0) (some (some (.mark :: mapE I I m))) (.int .i64 k) ok = some (packPV ok (I ((aget k m).getD 0)) (aget k m).isSome) := by
  have := lkM_map (z := I 0) keyInt I m k ok
  simp only [I] at this ⊢
  rw [this]
  cases aget k m <;> rfl
theorem upI {m : List (Int × Int)} {k v : Int} : upM Try.prog 3 (some (some (.mark :: mapE I I m))) (.int .i64 k) (.int .i64 v) = some (.mark :: mapE I I (aput k v m)) := upM_map keyInt I m k v
theorem upI0 {k v : Int} : upM Try.prog 3 (some (some [.mark])) (.int .i64 k) (.int .i64 v) = some (.mark :: mapE I I [(k, v)]) := upM_map keyInt I [] k v
theorem packT {v : PV} {b : Bool} : packPV true v b = .tuple [v, .bool b] := rfl
theorem packF {v : PV} {b : Bool} : packPV false v b = v := rfl
theorem evN_tmp {E : Env} {t : Nat} : evN E (.tmp t) = E.get t := rfl
theorem evN_int {E : Env} {k : IntKind} {n : Int} : evN E (.const (.int k n)) = .int k n := rfl
theorem evN_bool {E : Env} {b : Bool} : evN E (.const (.bool b)) = .bool b := rfl
theorem evN_nil {E : Env} : evN E (.const (.slice none 0 0)) = .nilsl := rfl
theorem sll22 {xs : List Int} {own : Own} {k : IntKind} {n : Int} : slicePV Try.prog 22 (.isl (xs.map I) own) (some (.int k n)) none none = if 0 ≤ n then if n.toNat ≤ xs.length then some (.isl ((xs.drop n.toNat).map I) own) else none else none := slLo_of Try.underlying22 Try.underlying3 cells3 (fun _ => rfl) xs own k n
attribute [go_sem] sll22 lk137 up137 lkI upI upI0 packT packF evN_tmp evN_int evN_bool evN_nil lkX_ext lkX_ext0 upX_ext upX_ext0 lkX_svx Cl_map Cl_nilmap Cl_mark Cl_gsl Cl_gnil CleanAll_mapI setI setB
end Go.Proofs.Ytnpamcpoaklgeaa
namespace Go.Proofs.Ytnpamcpoaklgeaa
open Go Go.RowKit
set_option maxRecDepth 100000
def has (l : List Int) (v : Int) : Bool := l.any fun x => decide (x = v)
theorem has_cons {x v : Int} {l : List Int} : has (x :: l) v = (decide (x = v) || has l v) := rfl
theorem has_nil {v : Int} : has [] v = false := rfl
def prevOf (l : List Int) (i : Nat) : Option Int := if i = 0 then none else l[i - 1]?
def chkCl (n : Int) : Option Int → List Int → Int
  | _, [] => 0
  | p, s :: r => if !(inR s 0 (n - 1)) then 7 else match p with
    | some q => if s ≤ q then 9 else chkCl n (some s) r
    | none => chkCl n (some s) r
def closedAns (t : Town) (l : List Int) : Int := if chkTown t ≠ 0 then chkTown t else chkCl t.streets.length none l
theorem prevOf_succ {l : List Int} {i : Nat} {x : Int} (h : l[i]? = some x) : prevOf l (i + 1) = some x := by simp [prevOf, h]
theorem chkCl_none {n x : Int} {r : List Int} (h : inR x 0 (n - 1) = true) : chkCl n none (x :: r) = chkCl n (some x) r := by simp [chkCl, h]
theorem chkCl_some {n x q : Int} {r : List Int} (h : inR x 0 (n - 1) = true) (hq : q < x) : chkCl n (some q) (x :: r) = chkCl n (some x) r := by simp [chkCl, h]; omega
theorem chkCl_bad {n x : Int} {p : Option Int} {r : List Int} (h : inR x 0 (n - 1) = false) : chkCl n p (x :: r) = 7 := by simp [chkCl, h]
theorem chkCl_low {n x q : Int} {r : List Int} (h : inR x 0 (n - 1) = true) (hq : x ≤ q) : chkCl n (some q) (x :: r) = 9 := by simp [chkCl, h]; omega
theorem chkCl_ok {n : Int} : ∀ {l : List Int} {p : Option Int}, chkCl n p l = 0 → ∀ x, x ∈ l → 0 ≤ x ∧ x < n := by
  intro l
  induction l with
  | nil => intro p _ x hx; cases hx
  | cons s r ih =>
    intro p h x hx
    have hin : inR s 0 (n - 1) = true := by
      cases hs : inR s 0 (n - 1) with
      | true => rfl
      | false => rw [chkCl_bad hs] at h; cases h
    have hr : chkCl n (some s) r = 0 := by
      cases p with
      | none => rw [chkCl_none hin] at h; exact h
      | some q =>
        by_cases hq : s ≤ q
        · rw [chkCl_low hin hq] at h; cases h
        · rw [chkCl_some hin (by omega)] at h; exact h
    simp only [inR_true] at hin
    rcases List.mem_cons.1 hx with rfl | hx
    · omega
    · exact ih hr x hx
set_option maxHeartbeats 2000000 in
theorem Index_pc (Y : YEnv) (σ : Sg) (l : List Int) (v : Int) (o : Own) (hl : l.length < 2 ^ 62) :
    PC Try.prog Y 120 [intsO o l, I v] σ (I (fIdx (fun x => decide (v = x)) 0 l)) (σ) := by
  refine PC_of_W Try.func120 rfl (by kernel_rfl) Try.ntmps120 (by simp) fun hcl hca => ?_
  obtain ⟨res, hres⟩ : ∃ r, fIdx (fun x => decide (v = x)) 0 l = r := ⟨_, rfl⟩
  rw [hres]
  refine W_seq fun kz1 kq1 => ?_
  refine W_region [0, 1] fun R hR => ?_   -- r0
  simp only [go_sem]
  refine hR _ _ (kq1 _ _ ?_); clear hR R; try clear kq1 kz1
  try simp only [go_sem]
  refine W_seq fun kz2 kq2 => ?_
  refine W_seq fun kz3 kq3 => ?_
  refine W_region [0, 1, 7, 8] fun R hR => ?_   -- r1
  simp only [go_sem]
  refine hR _ _ (kq3 _ _ ?_); clear hR R; try clear kq3 kz3
  try simp only [go_sem]
  refine W_block ?_
  refine W_loopS (α := Nat) (fun (i : Nat) => [(8, I i)]) (fun (i : Nat) => i ≤ l.length ∧ res = fIdx (fun x => decide (v = x)) i (l.drop i)) (fun (i : Nat) => l.length - i) (0) rfl (⟨Nat.zero_le _, hres.symm⟩) ?_
  rintro i ⟨hi, hinv⟩
  refine W_seq fun kz4 kq4 => ?_
  refine W_region [0, 1, 7, 8, 9] fun R hR => ?_   -- r2
  simp only [go_sem]
  refine hR _ _ (kq4 _ _ ?_); clear hR R; try clear kq4 kz4
  try simp only [go_sem]
  refine W_seq fun kz5 kq5 => ?_
  refine W_cond rfl (fun c1 => ?_) (fun c1 => ?_)
  · -- c1 true
    try simp only [nrm] at c1
    have hi' : i < l.length := by first | assumption | omega
    obtain ⟨x, hx⟩ : ∃ x, l[i]? = some x := ⟨l[i], by simp [hi']⟩
    have hdrop : l.drop i = x :: l.drop (i + 1) := by
      rw [List.drop_eq_getElem_cons hi']; congr 1; exact (List.getElem?_eq_some_iff.1 hx).2
    rw [hdrop] at hinv
    simp only [fIdx] at hinv
    refine W_skip (kq5 _ _ ?_)
    refine W_seq fun kz6 kq6 => ?_
    refine W_block ?_
    refine W_seq fun kz7 kq7 => ?_
    refine W_region [0, 1, 5, 7, 8] fun R hR => ?_   -- r3
    simp only [go_sem, hx]
    refine hR _ _ (kq7 _ _ ?_); clear hR R; try clear kq7 kz7
    try simp only [go_sem, hx]
    refine W_seq fun kz8 kq8 => ?_
    refine W_region [0, 1, 5, 7, 8, 16] fun R hR => ?_   -- r4
    simp only [go_sem, hx]
    refine hR _ _ (kq8 _ _ ?_); clear hR R; try clear kq8 kz8
    try simp only [go_sem, hx]
    refine W_cond rfl (fun c2 => ?_) (fun c2 => ?_)
    · -- c2 true
      try simp only [nrm] at c2
      refine W_seq fun kz9 kq9 => ?_
      refine W_region [4] fun R hR => ?_   -- r5
      simp only [go_sem, hx]
      refine hR _ _ (kq9 _ _ ?_); clear hR R; try clear kq9 kz9
      try simp only [go_sem, hx]
      refine W_ret ?_
      simp only [go_sem, hx]
      refine ⟨.inr (by trivial), ?_⟩
      first | refine Fin_same hcl rfl (Wk_eq ?_ (by simp only [go_sem])) | refine Fin_self hcl rfl (Wk_eq ?_ (by simp only [go_sem]))
      try simp only [go_sem]
      all_goals
        first | rfl | (simp_all; done) | (simp_all; omega)
    · -- c2 false
      try simp only [nrm] at c2
      refine W_skip (kq6 _ _ ?_)
      refine W_region [0, 1, 7, 8] fun R hR => ?_   -- r6
      simp only [go_sem, hx]
      try simp (disch := omega) only [wrapI, wrapU]
      refine hR _ _ ?_; clear hR R
      try simp only [go_sem, hx]
      refine ⟨i + 1, ?_, by (try simp only []); omega, ?_⟩
      · first | exact Weak.refl | exact Weak.eq (by first | rfl | (simp only [go_sem]; done) | (simp only [go_sem]; rfl) | (simp [go_sem]; done) | (simp [go_sem]; omega)) (by first | rfl | (simp only [go_sem]; done) | (simp [go_sem]; done))
      · try dsimp only
        exact ⟨hi', by simp_all⟩
  · -- c1 false
    try simp only [nrm] at c1
    have hdrop : l.drop i = [] := List.drop_eq_nil_of_le (by omega)
    rw [hdrop] at hinv
    simp only [fIdx] at hinv
    refine W_exit ?_
    simp only [go_sem]
    refine kq2 _ _ ?_
    refine W_seq fun kz10 kq10 => ?_
    refine W_region [4] fun R hR => ?_   -- r7
    simp only [go_sem]
    refine hR _ _ (kq10 _ _ ?_); clear hR R; try clear kq10 kz10
    try simp only [go_sem]
    refine W_ret ?_
    simp only [go_sem]
    refine ⟨.inr (by trivial), ?_⟩
    first | refine Fin_same hcl rfl (Wk_eq ?_ (by simp only [go_sem])) | refine Fin_self hcl rfl (Wk_eq ?_ (by simp only [go_sem]))
    try simp only [go_sem]
    all_goals
      first | rfl | (simp_all; done) | (simp_all; omega)
theorem fIdx_has (l : List Int) (v : Int) (i : Nat) : decide (0 ≤ fIdx (fun x => decide (v = x)) i l) = has l v := by
  rw [fIdx_any]
  unfold has
  congr 1
  funext x
  rw [Bool.eq_iff_iff]
  simp [eq_comm]
set_option maxHeartbeats 2000000 in
theorem Contains_pc (Y : YEnv) (σ : Sg) (l : List Int) (v : Int) (o : Own) (hl : l.length < 2 ^ 62) :
    PC Try.prog Y 85 [intsO o l, I v] σ (.bool (has l v)) (σ) := by
  refine PC_of_W Try.func85 rfl (by kernel_rfl) Try.ntmps85 (by simp) fun hcl hca => ?_
  refine W_seq fun kz1 kq1 => ?_
  refine W_region [0, 1] fun R hR => ?_   -- r0
  simp only [go_sem]
  refine hR _ _ (kq1 _ _ ?_); clear hR R; try clear kq1 kz1
  try simp only [go_sem]
  refine W_seq fun kz2 kq2 => ?_
  refine W_region [4] fun R hR => ?_   -- r1
  simp only [go_sem]
  refine GCall_of (Index_pc Y _ l v o hl) ?_   -- t7
  simp only [go_sem]
  refine hR _ _ (kq2 _ _ ?_); clear hR R; try clear kq2 kz2
  try simp only [go_sem]
  refine W_ret ?_
  simp only [go_sem]
  refine ⟨.inr (by trivial), ?_⟩
  first | refine Fin_same hcl rfl (Wk_eq ?_ (by simp only [go_sem])) | refine Fin_self hcl rfl (Wk_eq ?_ (by simp only [go_sem]))
  try simp only [go_sem]
  all_goals
    simp only [fIdx_has, go_sem]
set_option maxHeartbeats 2000000 in
theorem rhas_pc (Y : YEnv) (σ : Sg) (l : List Int) (v : Int) (o : Own) (hl : l.length < 2 ^ 62) :
    PC Try.prog Y 87 [intsO o l, I v] σ (.bool (has l v)) (σ) := by
  refine PC_of_W Try.func87 rfl (by kernel_rfl) Try.ntmps87 (by simp) fun hcl hca => ?_
  obtain ⟨res, hres⟩ : ∃ r, has l v = r := ⟨_, rfl⟩
  rw [hres]
  refine W_seq fun kz1 kq1 => ?_
  refine W_region [0, 1] fun R hR => ?_   -- r0
  simp only [go_sem]
  refine hR _ _ (kq1 _ _ ?_); clear hR R; try clear kq1 kz1
  try simp only [go_sem]
  refine W_seq fun kz2 kq2 => ?_
  refine W_seq fun kz3 kq3 => ?_
  refine W_region [0, 1, 5] fun R hR => ?_   -- r1
  simp only [go_sem]
  refine hR _ _ (kq3 _ _ ?_); clear hR R; try clear kq3 kz3
  try simp only [go_sem]
  refine W_block ?_
  refine W_loopS (α := Nat) (fun (i : Nat) => [(5, I i)]) (fun (i : Nat) => i ≤ l.length ∧ res = has (l.drop i) v) (fun (i : Nat) => l.length - i) (0) rfl (⟨Nat.zero_le _, hres.symm⟩) ?_
  rintro i ⟨hi, hinv⟩
  refine W_seq fun kz4 kq4 => ?_
  refine W_seq fun kz5 kq5 => ?_
  refine W_region [0, 1, 5, 9] fun R hR => ?_   -- r2
  simp only [go_sem]
  refine hR _ _ (kq5 _ _ ?_); clear hR R; try clear kq5 kz5
  try simp only [go_sem]
  refine W_cond rfl (fun c1 => ?_) (fun c1 => ?_)
  · -- c1 true
    try simp only [nrm] at c1
    have hi' : i < l.length := by first | assumption | omega
    obtain ⟨x, hx⟩ : ∃ x, l[i]? = some x := ⟨l[i], by simp [hi']⟩
    have hdrop : l.drop i = x :: l.drop (i + 1) := by
      rw [List.drop_eq_getElem_cons hi']; congr 1; exact (List.getElem?_eq_some_iff.1 hx).2
    rw [hdrop, has_cons] at hinv
    refine W_skip (kq4 _ _ ?_)
    refine W_seq fun kz6 kq6 => ?_
    refine W_block ?_
    refine W_seq fun kz7 kq7 => ?_
    refine W_region [0, 1, 5, 17] fun R hR => ?_   -- r4
    simp only [go_sem, hx]
    refine hR _ _ (kq7 _ _ ?_); clear hR R; try clear kq7 kz7
    try simp only [go_sem, hx]
    refine W_cond rfl (fun c2 => ?_) (fun c2 => ?_)
    · -- c2 true
      try simp only [nrm] at c2
      refine W_seq fun kz8 kq8 => ?_
      refine W_region [4] fun R hR => ?_   -- r5
      simp only [go_sem, hx]
      refine hR _ _ (kq8 _ _ ?_); clear hR R; try clear kq8 kz8
      try simp only [go_sem, hx]
      refine W_ret ?_
      simp only [go_sem, hx]
      refine ⟨.inr (by trivial), ?_⟩
      first | refine Fin_same hcl rfl (Wk_eq ?_ (by simp only [go_sem])) | refine Fin_self hcl rfl (Wk_eq ?_ (by simp only [go_sem]))
      try simp only [go_sem]
      all_goals
        first | rfl | (simp_all; done) | (simp_all; omega)
    · -- c2 false
      try simp only [nrm] at c2
      refine W_skip (kq6 _ _ ?_)
      refine W_region [0, 1, 5] fun R hR => ?_   -- r3
      simp only [go_sem, hx]
      try simp (disch := omega) only [wrapI, wrapU]
      refine hR _ _ ?_; clear hR R
      try simp only [go_sem, hx]
      refine ⟨i + 1, ?_, by (try simp only []); omega, ?_⟩
      · first | exact Weak.refl | exact Weak.eq (by first | rfl | (simp only [go_sem]; done) | (simp only [go_sem]; rfl) | (simp [go_sem]; done) | (simp [go_sem]; omega)) (by first | rfl | (simp only [go_sem]; done) | (simp [go_sem]; done))
      · try dsimp only
        exact ⟨hi', by simp_all⟩
  · -- c1 false
    try simp only [nrm] at c1
    have hdrop : l.drop i = [] := List.drop_eq_nil_of_le (by omega)
    rw [hdrop, has_nil] at hinv
    refine W_exit ?_
    simp only [go_sem]
    refine kq2 _ _ ?_
    refine W_seq fun kz9 kq9 => ?_
    refine W_region [4] fun R hR => ?_   -- r6
    simp only [go_sem]
    refine hR _ _ (kq9 _ _ ?_); clear hR R; try clear kq9 kz9
    try simp only [go_sem]
    refine W_ret ?_
    simp only [go_sem]
    refine ⟨.inr (by trivial), ?_⟩
    first | refine Fin_same hcl rfl (Wk_eq ?_ (by simp only [go_sem])) | refine Fin_self hcl rfl (Wk_eq ?_ (by simp only [go_sem]))
    try simp only [go_sem]
    all_goals
      first | rfl | (simp_all; done) | (simp_all; omega)
set_option maxHeartbeats 2000000 in
theorem cclosed_pc (Y : YEnv) (σ : Sg) (t : Town) (l : List Int) (o : Own) (hl : l.length < 2 ^ 50) (hr : t.rooms.length < 2 ^ 50) (hs : t.streets.length < 2 ^ 50) (hg : t.groups.length < 2 ^ 50) (hp : ∀ g, g ∈ t.groups → g.path.length < 2 ^ 50) :
    PC Try.prog Y 114 [twPV t, intsO o l] σ (I (closedAns t l)) (σ) := by
  refine PC_of_W Try.func114 rfl (by kernel_rfl) Try.ntmps114 (by simp) fun hcl hca => ?_
  obtain ⟨res, hres⟩ : ∃ r, closedAns t l = r := ⟨_, rfl⟩
  rw [hres]
  refine W_seq fun kz1 kq1 => ?_
  refine W_region [1, 2] fun R hR => ?_   -- r0
  simp only [go_sem]
  refine hR _ _ (kq1 _ _ ?_); clear hR R; try clear kq1 kz1
  try simp only [go_sem]
  refine W_seq fun kz2 kq2 => ?_
  refine W_seq fun kz3 kq3 => ?_
  refine W_region [1, 2, 5] fun R hR => ?_   -- r1
  simp only [go_sem]
  refine GCall_of (ctown_pc Y _ t (by omega) (by omega) (by omega) (fun g hg => by have := hp g hg; omega)) ?_   -- t9
  simp only [go_sem]
  refine hR _ _ (kq3 _ _ ?_); clear hR R; try clear kq3 kz3
  try simp only [go_sem]
  refine W_seq fun kz4 kq4 => ?_
  refine W_region [1, 2, 5, 11] fun R hR => ?_   -- r2
  simp only [go_sem]
  refine hR _ _ (kq4 _ _ ?_); clear hR R; try clear kq4 kz4
  try simp only [go_sem]
  refine W_cond rfl (fun c1 => ?_) (fun c1 => ?_)
  · -- c1 true
    try simp only [nrm] at c1
    refine W_seq fun kz5 kq5 => ?_
    refine W_region [4] fun R hR => ?_   -- r3
    simp only [go_sem]
    refine hR _ _ (kq5 _ _ ?_); clear hR R; try clear kq5 kz5
    try simp only [go_sem]
    refine W_ret ?_
    simp only [go_sem]
    refine ⟨.inr (by trivial), ?_⟩
    first | refine Fin_same hcl rfl (Wk_eq ?_ (by simp only [go_sem])) | refine Fin_self hcl rfl (Wk_eq ?_ (by simp only [go_sem]))
    try simp only [go_sem]
    all_goals
      rw [← hres]; simp [closedAns, c1]
  · -- c1 false
    try simp only [nrm] at c1
    refine W_skip (kq2 _ _ ?_)
    refine W_seq fun kz6 kq6 => ?_
    refine W_seq fun kz7 kq7 => ?_
    refine W_region [1, 2, 13, 14, 15] fun R hR => ?_   -- r4
    simp only [go_sem]
    refine hR _ _ (kq7 _ _ ?_); clear hR R; try clear kq7 kz7
    try simp only [go_sem]
    refine W_block ?_
    refine W_loopS (α := Nat) (fun (i : Nat) => [(15, I i)]) (fun (i : Nat) => i ≤ l.length ∧ res = chkCl t.streets.length (prevOf l i) (l.drop i)) (fun (i : Nat) => l.length - i) (0) rfl (⟨Nat.zero_le _, by rw [← hres]; first | rfl | simp [closedAns, c1, prevOf]⟩) ?_
    rintro i ⟨hi, hinv⟩
    refine W_seq fun kz8 kq8 => ?_
    refine W_region [1, 2, 13, 14, 15, 16] fun R hR => ?_   -- r5
    simp only [go_sem]
    refine hR _ _ (kq8 _ _ ?_); clear hR R; try clear kq8 kz8
    try simp only [go_sem]
    refine W_seq fun kz9 kq9 => ?_
    refine W_cond rfl (fun c2 => ?_) (fun c2 => ?_)
    · -- c2 true
      try simp only [nrm] at c2
      have hi' : i < l.length := by first | assumption | omega
      obtain ⟨s, hx⟩ : ∃ s, l[i]? = some s := ⟨l[i], by simp [hi']⟩
      have hdrop : l.drop i = s :: l.drop (i + 1) := by
        rw [List.drop_eq_getElem_cons hi']; congr 1; exact (List.getElem?_eq_some_iff.1 hx).2
      rw [hdrop] at hinv
      have hsuc := prevOf_succ hx
      refine W_skip (kq9 _ _ ?_)
      refine W_seq fun kz10 kq10 => ?_
      refine W_block ?_
      refine W_seq fun kz11 kq11 => ?_
      refine W_region [1, 2, 6, 7, 13, 14, 15] fun R hR => ?_   -- r6
      simp only [go_sem, hx]
      refine hR _ _ (kq11 _ _ ?_); clear hR R; try clear kq11 kz11
      try simp only [go_sem, hx]
      refine W_block ?_
      refine W_seq fun kz12 kq12 => ?_
      refine W_region [1, 2, 6, 7, 13, 14, 15, 20] fun R hR => ?_   -- r7
      simp only [go_sem, hx]
      try simp (disch := omega) only [wrapI, wrapU]
      refine GCall_of (cin_pc Y _ 0 _ [s] .exact (by simp)) ?_   -- t27
      simp only [go_sem, hx]
      try simp (disch := omega) only [wrapI, wrapU]
      refine hR _ _ (kq12 _ _ ?_); clear hR R; try clear kq12 kz12
      try simp only [go_sem, hx]
      refine W_cond rfl (fun c3 => ?_) (fun c3 => ?_)
      · -- c3 true
        try simp only [nrm] at c3
        refine W_seq fun kz13 kq13 => ?_
        refine W_region [4] fun R hR => ?_   -- r8
        simp only [go_sem, hx]
        refine hR _ _ (kq13 _ _ ?_); clear hR R; try clear kq13 kz13
        try simp only [go_sem, hx]
        refine W_ret ?_
        simp only [go_sem, hx]
        refine ⟨.inr (by trivial), ?_⟩
        first | refine Fin_same hcl rfl (Wk_eq ?_ (by simp only [go_sem])) | refine Fin_self hcl rfl (Wk_eq ?_ (by simp only [go_sem]))
        try simp only [go_sem]
        all_goals
          rw [hinv, chkCl_bad (by simpa [allIn, inR] using c3)]
      · -- c3 false
        try simp only [nrm] at c3
        refine W_seq fun kz14 kq14 => ?_
        refine W_region [1, 2, 13, 14, 15, 29] fun R hR => ?_   -- r9
        simp only [go_sem, hx]
        refine GWant_split (fun g1 => ?_) (fun g1 => ?_)
        · try simp only [Bool.not_eq_true', Bool.not_eq_false'] at g1
          have n1 := g1; try simp only [nrm] at n1
          have wi : IntKind.i64.wrap ((i : Int) - 1) = (i : Int) - 1 := wrapI (by omega) (by omega)
          have hq0 : 0 ≤ (i : Int) - 1 := by omega
          obtain ⟨q, hq⟩ : ∃ q, l[((i : Int) - 1).toNat]? = some q := ⟨l[((i : Int) - 1).toNat]'(by omega), by simp⟩
          have hpq : prevOf l i = some q := by rw [prevOf, if_neg (by omega), ← hq]; congr 1; omega
          simp only [go_sem, hx, wi, hq0, hq, g1]
          try simp (disch := omega) only [wrapI, wrapU]
          refine hR _ _ (kq14 _ _ ?_); clear hR R; try clear kq14 kz14
          try simp only [go_sem, hx, wi, hq0, hq]
          refine W_cond rfl (fun c4 => ?_) (fun c4 => ?_)
          · -- c4 true
            try simp only [nrm] at c4
            refine W_seq fun kz15 kq15 => ?_
            refine W_region [4] fun R hR => ?_   -- r10
            simp only [go_sem, hx, wi, hq0, hq]
            refine hR _ _ (kq15 _ _ ?_); clear hR R; try clear kq15 kz15
            try simp only [go_sem, hx, wi, hq0, hq]
            refine W_ret ?_
            simp only [go_sem, hx, wi, hq0, hq]
            refine ⟨.inr (by trivial), ?_⟩
            first | refine Fin_same hcl rfl (Wk_eq ?_ (by simp only [go_sem])) | refine Fin_self hcl rfl (Wk_eq ?_ (by simp only [go_sem]))
            try simp only [go_sem]
            all_goals
              rw [hinv, hpq, chkCl_low (by simpa [allIn, inR] using c3) (by omega)]
          · -- c4 false
            try simp only [nrm] at c4
            refine W_skip (kq10 _ _ ?_)
            refine W_region [1, 2, 13, 14, 15] fun R hR => ?_   -- r11
            simp only [go_sem, hx, wi, hq0, hq]
            try simp (disch := omega) only [wrapI, wrapU]
            refine hR _ _ ?_; clear hR R
            try simp only [go_sem, hx, wi, hq0, hq]
            refine ⟨i + 1, ?_, by (try simp only []); omega, ?_⟩
            · first | exact Weak.refl | exact Weak.eq (by first | rfl | (simp only [go_sem]; done) | (simp only [go_sem]; rfl) | (simp [go_sem]; done) | (simp [go_sem]; omega)) (by first | rfl | (simp only [go_sem]; done) | (simp [go_sem]; done))
            · try dsimp only
              refine ⟨hi', ?_⟩
              rw [hinv, hpq, hsuc]
              first | exact chkCl_some (by simpa [allIn, inR] using c3) (by omega) | exact chkCl_none (by simpa [allIn, inR] using c3)
        · try simp only [Bool.not_eq_true', Bool.not_eq_false'] at g1
          have n1 := g1; try simp only [nrm] at n1
          have hi0 : i = 0 := by omega
          have hpq : prevOf l i = none := by rw [prevOf, if_pos hi0]
          simp only [go_sem, hx, g1]
          try simp (disch := omega) only [wrapI, wrapU]
          refine hR _ _ (kq14 _ _ ?_); clear hR R; try clear kq14 kz14
          try simp only [go_sem, hx]
          refine W_cond_false rfl ?_
          refine W_skip (kq10 _ _ ?_)
          refine W_region [1, 2, 13, 14, 15] fun R hR => ?_   -- r11
          simp only [go_sem, hx]
          try simp (disch := omega) only [wrapI, wrapU]
          refine hR _ _ ?_; clear hR R
          try simp only [go_sem, hx]
          refine ⟨i + 1, ?_, by (try simp only []); omega, ?_⟩
          · first | exact Weak.refl | exact Weak.eq (by first | rfl | (simp only [go_sem]; done) | (simp only [go_sem]; rfl) | (simp [go_sem]; done) | (simp [go_sem]; omega)) (by first | rfl | (simp only [go_sem]; done) | (simp [go_sem]; done))
          · try dsimp only
            refine ⟨hi', ?_⟩
            rw [hinv, hpq, hsuc]
            first | exact chkCl_some (by simpa [allIn, inR] using c3) (by omega) | exact chkCl_none (by simpa [allIn, inR] using c3)
    · -- c2 false
      try simp only [nrm] at c2
      have hdrop : l.drop i = [] := List.drop_eq_nil_of_le (by omega)
      rw [hdrop] at hinv
      simp only [chkCl] at hinv
      refine W_exit ?_
      simp only [go_sem]
      refine kq6 _ _ ?_
      refine W_seq fun kz16 kq16 => ?_
      refine W_region [4] fun R hR => ?_   -- r12
      simp only [go_sem]
      refine hR _ _ (kq16 _ _ ?_); clear hR R; try clear kq16 kz16
      try simp only [go_sem]
      refine W_ret ?_
      simp only [go_sem]
      refine ⟨.inr (by trivial), ?_⟩
      first | refine Fin_same hcl rfl (Wk_eq ?_ (by simp only [go_sem])) | refine Fin_self hcl rfl (Wk_eq ?_ (by simp only [go_sem]))
      try simp only [go_sem]
      all_goals
        rw [hinv]
set_option maxHeartbeats 2000000 in
theorem rclosed_pc (Y : YEnv) (σ : Sg) (t : Town) (l : List Int) (o : Own) (hl : l.length < 2 ^ 50) (hs : t.streets.length < 2 ^ 50) :
    PC Try.prog Y 134 [twPV t, intsO o l] σ (I (chkCl t.streets.length none l)) (σ) := by
  refine PC_of_W Try.func134 rfl (by kernel_rfl) Try.ntmps134 (by simp) fun hcl hca => ?_
  obtain ⟨res, hres⟩ : ∃ r, chkCl t.streets.length none l = r := ⟨_, rfl⟩
  rw [hres]
  refine W_seq fun kz1 kq1 => ?_
  refine W_region [1, 2] fun R hR => ?_   -- r0
  simp only [go_sem]
  refine hR _ _ (kq1 _ _ ?_); clear hR R; try clear kq1 kz1
  try simp only [go_sem]
  refine W_seq fun kz2 kq2 => ?_
  refine W_seq fun kz3 kq3 => ?_
  refine W_region [1, 2, 5] fun R hR => ?_   -- r1
  simp only [go_sem]
  refine hR _ _ (kq3 _ _ ?_); clear hR R; try clear kq3 kz3
  try simp only [go_sem]
  refine W_block ?_
  refine W_loopS (α := Nat) (fun (i : Nat) => [(5, I i)]) (fun (i : Nat) => i ≤ l.length ∧ res = chkCl t.streets.length (prevOf l i) (l.drop i)) (fun (i : Nat) => l.length - i) (0) rfl (⟨Nat.zero_le _, by rw [← hres]; first | rfl | simp [closedAns, c1, prevOf]⟩) ?_
  rintro i ⟨hi, hinv⟩
  refine W_seq fun kz4 kq4 => ?_
  refine W_seq fun kz5 kq5 => ?_
  refine W_region [1, 2, 5, 9] fun R hR => ?_   -- r2
  simp only [go_sem]
  refine hR _ _ (kq5 _ _ ?_); clear hR R; try clear kq5 kz5
  try simp only [go_sem]
  refine W_cond rfl (fun c1 => ?_) (fun c1 => ?_)
  · -- c1 true
    try simp only [nrm] at c1
    have hi' : i < l.length := by first | assumption | omega
    obtain ⟨s, hx⟩ : ∃ s, l[i]? = some s := ⟨l[i], by simp [hi']⟩
    have hdrop : l.drop i = s :: l.drop (i + 1) := by
      rw [List.drop_eq_getElem_cons hi']; congr 1; exact (List.getElem?_eq_some_iff.1 hx).2
    rw [hdrop] at hinv
    have hsuc := prevOf_succ hx
    refine W_skip (kq4 _ _ ?_)
    refine W_seq fun kz6 kq6 => ?_
    refine W_block ?_
    refine W_seq fun kz7 kq7 => ?_
    refine W_seq fun kz8 kq8 => ?_
    refine W_draw [1, 2, 5, 21] [0, 1, 2, 3, 4, 5, 6, 7, 8, 9] [] [[], [], [0, 1], [0, 1, 2], [], [4], [4, 5], [4, 5, 6], [0, 1, 2, 3, 4, 5, 6, 7], [0, 1, 2, 3, 4, 5, 6, 7, 8]] mixed (by kernel_rfl) fun R hR => ?_   -- r4
    simp only [go_sem, hx]
    try simp (disch := omega) only [wrapI, wrapU]
    refine GCall_of (rin6_pc Y _ s 0 _) ?_   -- t20
    simp only [go_sem, hx]
    try simp (disch := omega) only [wrapI, wrapU]
    try refine And.intro (by repeat' (first | refine And.intro ?_ ?_ | exact GOr_right (fun _ => by simp only [go_sem, hx]))) ?_
    refine hR _ _ (kq8 _ _ ?_); clear hR R; try clear kq8 kz8
    try simp only [go_sem, hx]
    refine W_cond rfl (fun c2 => ?_) (fun c2 => ?_)
    · -- c2 true
      try simp only [nrm] at c2
      refine W_seq fun kz9 kq9 => ?_
      refine W_region [4] fun R hR => ?_   -- r5
      simp only [go_sem, hx]
      refine hR _ _ (kq9 _ _ ?_); clear hR R; try clear kq9 kz9
      try simp only [go_sem, hx]
      refine W_ret ?_
      simp only [go_sem, hx]
      refine ⟨.inr (by trivial), ?_⟩
      first | refine Fin_same hcl rfl (Wk_eq ?_ (by simp only [go_sem])) | refine Fin_self hcl rfl (Wk_eq ?_ (by simp only [go_sem]))
      try simp only [go_sem]
      all_goals
        rw [hinv, chkCl_bad (by simpa [inR] using c2)]
    · -- c2 false
      try simp only [nrm] at c2
      refine W_skip (kq7 _ _ ?_)
      refine W_seq fun kz10 kq10 => ?_
      refine W_draw [1, 2, 5, 35] [0, 1, 2, 3, 4, 5, 6, 7, 8, 9, 10, 11, 12, 13] [] [[], [0], [0, 1], [0, 1, 2], [0, 1, 2], [0, 1, 2, 3, 4], [0, 1, 2, 3, 4, 5], [0, 1, 2], [0, 1, 2], [0, 1, 2, 8], [0, 1, 2, 7, 8, 9], [0, 1, 2, 7, 8, 9, 10], [0, 1, 2, 3, 4, 5, 6, 7, 8, 9, 10, 11], [0, 1, 2, 3, 4, 5, 6, 7, 8, 9, 10, 11, 12]] mixed (by kernel_rfl) fun R hR => ?_   -- r6
      simp only [go_sem, hx]
      refine GWant_split (fun g1 => ?_) (fun g1 => ?_)
      · try simp only [Bool.not_eq_true', Bool.not_eq_false'] at g1
        have n1 := g1; try simp only [nrm] at n1
        have wi : IntKind.i64.wrap ((i : Int) - 1) = (i : Int) - 1 := wrapI (by omega) (by omega)
        have hq0 : 0 ≤ (i : Int) - 1 := by omega
        obtain ⟨q, hq⟩ : ∃ q, l[((i : Int) - 1).toNat]? = some q := ⟨l[((i : Int) - 1).toNat]'(by omega), by simp⟩
        have hpq : prevOf l i = some q := by rw [prevOf, if_neg (by omega), ← hq]; congr 1; omega
        simp only [go_sem, hx, wi, hq0, hq, g1]
        try simp (disch := omega) only [wrapI, wrapU]
        try refine And.intro (by repeat' (first | refine And.intro ?_ ?_ | exact GOr_right (fun _ => by simp only [go_sem, hx, wi, hq0, hq]))) ?_
        refine hR _ _ (kq10 _ _ ?_); clear hR R; try clear kq10 kz10
        try simp only [go_sem, hx, wi, hq0, hq]
        refine W_cond rfl (fun c3 => ?_) (fun c3 => ?_)
        · -- c3 true
          try simp only [nrm] at c3
          refine W_seq fun kz11 kq11 => ?_
          refine W_region [4] fun R hR => ?_   -- r7
          simp only [go_sem, hx, wi, hq0, hq]
          refine hR _ _ (kq11 _ _ ?_); clear hR R; try clear kq11 kz11
          try simp only [go_sem, hx, wi, hq0, hq]
          refine W_ret ?_
          simp only [go_sem, hx, wi, hq0, hq]
          refine ⟨.inr (by trivial), ?_⟩
          first | refine Fin_same hcl rfl (Wk_eq ?_ (by simp only [go_sem])) | refine Fin_self hcl rfl (Wk_eq ?_ (by simp only [go_sem]))
          try simp only [go_sem]
          all_goals
            rw [hinv, hpq, chkCl_low (by simpa [inR] using c2) (by omega)]
        · -- c3 false
          try simp only [nrm] at c3
          refine W_skip (kq6 _ _ ?_)
          refine W_region [1, 2, 5] fun R hR => ?_   -- r3
          simp only [go_sem, hx, wi, hq0, hq]
          try simp (disch := omega) only [wrapI, wrapU]
          refine hR _ _ ?_; clear hR R
          try simp only [go_sem, hx, wi, hq0, hq]
          refine ⟨i + 1, ?_, by (try simp only []); omega, ?_⟩
          · first | exact Weak.refl | exact Weak.eq (by first | rfl | (simp only [go_sem]; done) | (simp only [go_sem]; rfl) | (simp [go_sem]; done) | (simp [go_sem]; omega)) (by first | rfl | (simp only [go_sem]; done) | (simp [go_sem]; done))
          · try dsimp only
            refine ⟨hi', ?_⟩
            rw [hinv, hpq, hsuc]
            first | exact chkCl_some (by simpa [allIn, inR] using c2) (by omega) | exact chkCl_none (by simpa [allIn, inR] using c2)
      · try simp only [Bool.not_eq_true', Bool.not_eq_false'] at g1
        have n1 := g1; try simp only [nrm] at n1
        have hi0 : i = 0 := by omega
        have hpq : prevOf l i = none := by rw [prevOf, if_pos hi0]
        simp only [go_sem, hx, g1]
        try simp (disch := omega) only [wrapI, wrapU]
        try refine And.intro (by repeat' (first | refine And.intro ?_ ?_ | exact GOr_right (fun _ => by simp only [go_sem, hx]))) ?_
        refine hR _ _ (kq10 _ _ ?_); clear hR R; try clear kq10 kz10
        try simp only [go_sem, hx]
        refine W_cond_false rfl ?_
        refine W_skip (kq6 _ _ ?_)
        refine W_region [1, 2, 5] fun R hR => ?_   -- r3
        simp only [go_sem, hx]
        try simp (disch := omega) only [wrapI, wrapU]
        refine hR _ _ ?_; clear hR R
        try simp only [go_sem, hx]
        refine ⟨i + 1, ?_, by (try simp only []); omega, ?_⟩
        · first | exact Weak.refl | exact Weak.eq (by first | rfl | (simp only [go_sem]; done) | (simp only [go_sem]; rfl) | (simp [go_sem]; done) | (simp [go_sem]; omega)) (by first | rfl | (simp only [go_sem]; done) | (simp [go_sem]; done))
        · try dsimp only
          refine ⟨hi', ?_⟩
          rw [hinv, hpq, hsuc]
          first | exact chkCl_some (by simpa [allIn, inR] using c2) (by omega) | exact chkCl_none (by simpa [allIn, inR] using c2)
  · -- c1 false
    try simp only [nrm] at c1
    have hdrop : l.drop i = [] := List.drop_eq_nil_of_le (by omega)
    rw [hdrop] at hinv
    simp only [chkCl] at hinv
    refine W_exit ?_
    simp only [go_sem]
    refine kq2 _ _ ?_
    refine W_seq fun kz12 kq12 => ?_
    refine W_region [4] fun R hR => ?_   -- r8
    simp only [go_sem]
    refine hR _ _ (kq12 _ _ ?_); clear hR R; try clear kq12 kz12
    try simp only [go_sem]
    refine W_ret ?_
    simp only [go_sem]
    refine ⟨.inr (by trivial), ?_⟩
    first | refine Fin_same hcl rfl (Wk_eq ?_ (by simp only [go_sem])) | refine Fin_self hcl rfl (Wk_eq ?_ (by simp only [go_sem]))
    try simp only [go_sem]
    all_goals
      rw [hinv]
set_option maxHeartbeats 2000000 in
theorem rall_pc (Y : YEnv) (σ : Sg) (t : Town) (l : List Int) (o : Own) (hl : l.length < 2 ^ 50) (hr : t.rooms.length < 2 ^ 50) (hs : t.streets.length < 2 ^ 50) (hg : t.groups.length < 2 ^ 50) (hp : ∀ g, g ∈ t.groups → g.path.length < 2 ^ 50) :
    PC Try.prog Y 121 [twPV t, intsO o l] σ (I (closedAns t l)) (σ) := by
  refine PC_of_W Try.func121 rfl (by kernel_rfl) Try.ntmps121 (by simp) fun hcl hca => ?_
  refine W_seq fun kz1 kq1 => ?_
  refine W_region [1, 2] fun R hR => ?_   -- r0
  simp only [go_sem]
  refine hR _ _ (kq1 _ _ ?_); clear hR R; try clear kq1 kz1
  try simp only [go_sem]
  refine W_seq fun kz2 kq2 => ?_
  refine W_seq fun kz3 kq3 => ?_
  refine W_region [1, 2, 5] fun R hR => ?_   -- r1
  simp only [go_sem]
  refine GCall_of (rtown_pc Y _ t hr hs hg hp) ?_   -- t7
  simp only [go_sem]
  refine hR _ _ (kq3 _ _ ?_); clear hR R; try clear kq3 kz3
  try simp only [go_sem]
  refine W_seq fun kz4 kq4 => ?_
  refine W_region [1, 2, 5, 9] fun R hR => ?_   -- r2
  simp only [go_sem]
  refine hR _ _ (kq4 _ _ ?_); clear hR R; try clear kq4 kz4
  try simp only [go_sem]
  refine W_cond rfl (fun c1 => ?_) (fun c1 => ?_)
  · -- c1 true
    try simp only [nrm] at c1
    refine W_seq fun kz5 kq5 => ?_
    refine W_region [4] fun R hR => ?_   -- r3
    simp only [go_sem]
    refine hR _ _ (kq5 _ _ ?_); clear hR R; try clear kq5 kz5
    try simp only [go_sem]
    refine W_ret ?_
    simp only [go_sem]
    refine ⟨.inr (by trivial), ?_⟩
    first | refine Fin_same hcl rfl (Wk_eq ?_ (by simp only [go_sem])) | refine Fin_self hcl rfl (Wk_eq ?_ (by simp only [go_sem]))
    try simp only [go_sem]
    all_goals
      simp [closedAns, *]
  · -- c1 false
    try simp only [nrm] at c1
    refine W_skip (kq2 _ _ ?_)
    refine W_seq fun kz6 kq6 => ?_
    refine W_region [4] fun R hR => ?_   -- r4
    simp only [go_sem]
    refine GCall_of (rclosed_pc Y _ t l o hl hs) ?_   -- t13
    simp only [go_sem]
    refine hR _ _ (kq6 _ _ ?_); clear hR R; try clear kq6 kz6
    try simp only [go_sem]
    refine W_ret ?_
    simp only [go_sem]
    refine ⟨.inr (by trivial), ?_⟩
    first | refine Fin_same hcl rfl (Wk_eq ?_ (by simp only [go_sem])) | refine Fin_self hcl rfl (Wk_eq ?_ (by simp only [go_sem]))
    try simp only [go_sem]
    all_goals
      simp [closedAns, *]
def rare (n : Int) : D Bool := fun b => (decide ((roll n b).1 = 0), (roll n b).2)
set_option maxHeartbeats 2000000 in
theorem Rare_pc (Y : YEnv) (σ : Sg) (d : Nat) (b : Int) (hd : σ.store[d]? = some (some [.int .u64 b])) (n : Int) (hn : n < 2 ^ 62) :
    PC Try.prog Y 83 [.ptr d 0, I n] σ (.bool (rare n b).1) (σ.setVar d [.int .u64 (rare n b).2]) := by
  refine PC_of_W Try.func83 rfl (by kernel_rfl) Try.ntmps83 (by simp) fun hcl hca => ?_
  have hlt := lt_of_get hd
  refine W_seq fun kz1 kq1 => ?_
  refine W_region [0, 1] fun R hR => ?_   -- r0
  simp only [go_sem, ldS_at hd, stX_at hd, ldS_sv hlt, stX_sv hlt, sv_ext hlt, sv_ext_sv hlt]
  refine hR _ _ (kq1 _ _ ?_); clear hR R; try clear kq1 kz1
  try simp only [go_sem, ldS_at hd, stX_at hd, ldS_sv hlt, stX_sv hlt, sv_ext hlt, sv_ext_sv hlt]
  refine W_seq fun kz2 kq2 => ?_
  refine W_region [4] fun R hR => ?_   -- r1
  simp only [go_sem, ldS_at hd, stX_at hd, ldS_sv hlt, stX_sv hlt, sv_ext hlt, sv_ext_sv hlt]
  refine GCall_of (Roll_pc Y _ d b (by first | exact hd | exact sv_get hlt | exact get_svx hlt | exact get_extx hd) n hn) ?_   -- t7
  simp only [go_sem, ldS_at hd, stX_at hd, ldS_sv hlt, stX_sv hlt, sv_ext hlt, sv_ext_sv hlt]
  refine hR _ _ (kq2 _ _ ?_); clear hR R; try clear kq2 kz2
  try simp only [go_sem, ldS_at hd, stX_at hd, ldS_sv hlt, stX_sv hlt, sv_ext hlt, sv_ext_sv hlt]
  refine W_ret ?_
  simp only [go_sem, ldS_at hd, stX_at hd, ldS_sv hlt, stX_sv hlt, sv_ext hlt, sv_ext_sv hlt]
  refine ⟨.inr (by trivial), ?_⟩
  first | refine Fin_set hcl (by simp only [go_sem]) rfl (Wk_eq ?_ (by simp only [go_sem])) | refine Fin_set0 hcl (by simp only [go_sem]) rfl (Wk_eq ?_ (by simp only [go_sem]))
  try simp only [go_sem]
  all_goals
    congr 1
def closedA (k : Nat) : Nat → List Int → D (List Int)
  | 0, acc => dret acc
  | j + 1, acc => dbind (rare 3) fun is => closedA k j (if is then acc ++ [((k - (j + 1) : Nat) : Int)] else acc)
def closedD (t : Town) : D (List Int) := closedA t.streets.length t.streets.length []
set_option maxHeartbeats 2000000 in
theorem ClosedOf_pc (Y : YEnv) (σ : Sg) (d : Nat) (b : Int) (hd : σ.store[d]? = some (some [.int .u64 b])) (t : Town) (hs : t.streets.length < 2 ^ 40) :
    PC Try.prog Y 44 [.ptr d 0, twPV t] σ (ints (closedD t b).1) (σ.setVar d [.int .u64 (closedD t b).2]) := by
  refine PC_of_W Try.func44 rfl (by kernel_rfl) Try.ntmps44 (by simp) fun hcl hca => ?_
  have hlt := lt_of_get hd
  obtain ⟨res, hres⟩ : ∃ r, closedD t b = r := ⟨_, rfl⟩
  rw [hres]
  refine W_seq fun kz1 kq1 => ?_
  refine W_region [0, 3] fun R hR => ?_   -- r0
  simp only [go_sem, ldS_at hd, stX_at hd, ldS_sv hlt, stX_sv hlt, sv_ext hlt, sv_ext_sv hlt]
  refine hR _ _ (kq1 _ _ ?_); clear hR R; try clear kq1 kz1
  try simp only [go_sem, ldS_at hd, stX_at hd, ldS_sv hlt, stX_sv hlt, sv_ext hlt, sv_ext_sv hlt]
  refine W_seq fun kz2 kq2 => ?_
  refine W_region [0, 3, 5] fun R hR => ?_   -- r1
  simp only [go_sem, ldS_at hd, stX_at hd, ldS_sv hlt, stX_sv hlt, sv_ext hlt, sv_ext_sv hlt]
  refine hR _ _ (kq2 _ _ ?_); clear hR R; try clear kq2 kz2
  try simp only [go_sem, ldS_at hd, stX_at hd, ldS_sv hlt, stX_sv hlt, sv_ext hlt, sv_ext_sv hlt]
  refine W_seq fun kz3 kq3 => ?_
  refine W_seq fun kz4 kq4 => ?_
  refine W_region [0, 3, 5, 6] fun R hR => ?_   -- r2
  simp only [go_sem, ldS_at hd, stX_at hd, ldS_sv hlt, stX_sv hlt, sv_ext hlt, sv_ext_sv hlt]
  refine hR _ _ (kq4 _ _ ?_); clear hR R; try clear kq4 kz4
  try simp only [go_sem, ldS_at hd, stX_at hd, ldS_sv hlt, stX_sv hlt, sv_ext hlt, sv_ext_sv hlt]
  refine W_block ?_
  refine W_weak (Weak.room (t := 5) (es := 1) rfl (by simp)) ?_
  refine W_weak (Weak.keep [0, 3, 5, 6]) ?_
  simp only [go_sem, ldS_at hd, stX_at hd, ldS_sv hlt, stX_sv hlt, sv_ext hlt, sv_ext_sv hlt]
  refine W_loopT (α := Nat × (List Int) × Int) (fun ⟨i, acc, b⟩ => [(5, .isl (acc.map I) (.tok σ.rooms.length acc.length 1)), (6, I i)]) (fun ⟨i, acc, b⟩ => (σ.setVar d [.int .u64 b]).ext [some (twCells t)] [acc.length]) (fun ⟨i, acc, b⟩ => i ≤ t.streets.length ∧ acc.length ≤ i ∧ res = closedA t.streets.length (t.streets.length - i) acc b) (fun ⟨i, acc, b⟩ => t.streets.length - i) ((0, [], b)) rfl (by simp only [go_sem, sv_self hd]) (⟨Nat.zero_le _, Nat.le_refl _, hres.symm⟩) ?_
  rintro ⟨i, acc, b⟩ ⟨hi, hal, hinv⟩
  refine W_seq fun kz5 kq5 => ?_
  refine W_seq fun kz6 kq6 => ?_
  refine W_region [0, 3, 5, 6, 11] fun R hR => ?_   -- r3
  simp only [go_sem, ldS_at hd, stX_at hd, ldS_sv hlt, stX_sv hlt, sv_ext hlt, sv_ext_sv hlt]
  refine hR _ _ (kq6 _ _ ?_); clear hR R; try clear kq6 kz6
  try simp only [go_sem, ldS_at hd, stX_at hd, ldS_sv hlt, stX_sv hlt, sv_ext hlt, sv_ext_sv hlt]
  refine W_cond rfl (fun c1 => ?_) (fun c1 => ?_)
  · -- c1 true
    try simp only [nrm] at c1
    rw [show t.streets.length - i = (t.streets.length - (i + 1)) + 1 by omega] at hinv
    simp only [closedA, dbind] at hinv
    rw [show (t.streets.length - (t.streets.length - (i + 1) + 1) : Nat) = i by omega] at hinv
    obtain ⟨is, his⟩ : ∃ z, (rare 3 b).1 = z := ⟨_, rfl⟩
    obtain ⟨b1, hb1⟩ : ∃ z, (rare 3 b).2 = z := ⟨_, rfl⟩
    rw [his, hb1] at hinv
    refine W_skip (kq5 _ _ ?_)
    refine W_seq fun kz7 kq7 => ?_
    refine W_block ?_
    refine W_seq fun kz8 kq8 => ?_
    refine W_region [0, 3, 5, 6, 15] fun R hR => ?_   -- r5
    simp only [go_sem, ldS_at hd, stX_at hd, ldS_sv hlt, stX_sv hlt, sv_ext hlt, sv_ext_sv hlt, his, hb1]
    refine GCall_of (Rare_pc Y _ d b (by first | exact hd | exact sv_get hlt | exact get_svx hlt | exact get_extx hd) 3 (by omega)) ?_   -- t15
    simp only [go_sem, ldS_at hd, stX_at hd, ldS_sv hlt, stX_sv hlt, sv_ext hlt, sv_ext_sv hlt, his, hb1]
    refine hR _ _ (kq8 _ _ ?_); clear hR R; try clear kq8 kz8
    try simp only [go_sem, ldS_at hd, stX_at hd, ldS_sv hlt, stX_sv hlt, sv_ext hlt, sv_ext_sv hlt, his, hb1]
    refine W_cond rfl (fun c2 => ?_) (fun c2 => ?_)
    · -- c2 true
      try simp only [nrm] at c2
      refine W_region [0, 3, 5, 6] fun R hR => ?_   -- r6
      simp only [go_sem, ldS_at hd, stX_at hd, ldS_sv hlt, stX_sv hlt, sv_ext hlt, sv_ext_sv hlt, his, hb1]
      simp (disch := first | omega | (simp only [go_sem] <;> omega)) only [wrapI, wrapU, appX_exact, appX_tok]
      try simp only [go_sem, ldS_at hd, stX_at hd, ldS_sv hlt, stX_sv hlt, sv_ext hlt, sv_ext_sv hlt, his, hb1]
      refine hR _ _ (kq7 _ _ ?_); clear hR R; try clear kq7 kz7
      try simp only [go_sem, ldS_at hd, stX_at hd, ldS_sv hlt, stX_sv hlt, sv_ext hlt, sv_ext_sv hlt, his, hb1]
      refine W_region [0, 3, 5, 6] fun R hR => ?_   -- r4
      simp only [go_sem, ldS_at hd, stX_at hd, ldS_sv hlt, stX_sv hlt, sv_ext hlt, sv_ext_sv hlt, his, hb1]
      try simp (disch := omega) only [wrapI, wrapU]
      refine hR _ _ ?_; clear hR R
      try simp only [go_sem, ldS_at hd, stX_at hd, ldS_sv hlt, stX_sv hlt, sv_ext hlt, sv_ext_sv hlt, his, hb1]
      refine ⟨(i + 1, acc ++ [(i : Int)], b1), ?_, by (try simp only []); omega, ?_⟩
      · first | exact Weak.refl | exact Weak.eq (by first | rfl | (simp only [go_sem]; done) | (simp only [go_sem]; rfl) | (simp [go_sem]; done) | (simp [go_sem]; omega)) (by first | rfl | (simp only [go_sem]; done) | (simp [go_sem]; done))
      · try dsimp only
        refine ⟨by omega, by (try simp); omega, ?_⟩
        rw [hinv]; simp [c2]
    · -- c2 false
      try simp only [nrm] at c2
      refine W_skip (kq7 _ _ ?_)
      refine W_region [0, 3, 5, 6] fun R hR => ?_   -- r4
      simp only [go_sem, ldS_at hd, stX_at hd, ldS_sv hlt, stX_sv hlt, sv_ext hlt, sv_ext_sv hlt, his, hb1]
      try simp (disch := omega) only [wrapI, wrapU]
      refine hR _ _ ?_; clear hR R
      try simp only [go_sem, ldS_at hd, stX_at hd, ldS_sv hlt, stX_sv hlt, sv_ext hlt, sv_ext_sv hlt, his, hb1]
      refine ⟨(i + 1, acc, b1), ?_, by (try simp only []); omega, ?_⟩
      · first | exact Weak.refl | exact Weak.eq (by first | rfl | (simp only [go_sem]; done) | (simp only [go_sem]; rfl) | (simp [go_sem]; done) | (simp [go_sem]; omega)) (by first | rfl | (simp only [go_sem]; done) | (simp [go_sem]; done))
      · try dsimp only
        refine ⟨by omega, by (try simp); omega, ?_⟩
        rw [hinv]; simp [c2]
  · -- c1 false
    try simp only [nrm] at c1
    rw [show t.streets.length - i = 0 by omega] at hinv
    simp only [closedA, dret] at hinv
    refine W_exit ?_
    simp only [go_sem, ldS_at hd, stX_at hd, ldS_sv hlt, stX_sv hlt, sv_ext hlt, sv_ext_sv hlt]
    refine kq3 _ _ ?_
    refine W_seq fun kz9 kq9 => ?_
    refine W_region [4] fun R hR => ?_   -- r7
    simp only [go_sem, ldS_at hd, stX_at hd, ldS_sv hlt, stX_sv hlt, sv_ext hlt, sv_ext_sv hlt]
    refine hR _ _ (kq9 _ _ ?_); clear hR R; try clear kq9 kz9
    try simp only [go_sem, ldS_at hd, stX_at hd, ldS_sv hlt, stX_sv hlt, sv_ext hlt, sv_ext_sv hlt]
    refine W_ret ?_
    simp only [go_sem, ldS_at hd, stX_at hd, ldS_sv hlt, stX_sv hlt, sv_ext hlt, sv_ext_sv hlt]
    refine ⟨.inr (by trivial), ?_⟩
    rw [hinv]; refine Fin_set hcl (by simp only [go_sem]) rfl (Wk.ro (by simp only [go_sem]) ?_)
    try simp only [go_sem]
    all_goals
      simp only [go_sem]
end Go.Proofs.Ytnpamcpoaklgeaa
namespace Go.Proofs.Ytnpamcpoaklgeaa
/-- A list of different numbers below n is not longer than n. -/
theorem nodup_len : ∀ (n : Nat) (l : List Int), l.Nodup → (∀ x, x ∈ l → 0 ≤ x ∧ x < n) → l.length ≤ n := by
  intro n
  induction n with
  | zero =>
    intro l _ h
    cases l with
    | nil => exact Nat.le_refl _
    | cons x l => have := h x (by simp); omega
  | succ n ih =>
    intro l hn h
    have h1 : (l.erase (n : Int)).length ≤ n := by
      refine ih _ (hn.erase _) fun x hx => ?_
      have hm := (hn.mem_erase_iff).1 hx
      have := h x hm.2
      have hne := hm.1
      omega
    have h2 : l.length ≤ (l.erase (n : Int)).length + 1 := by
      rw [List.length_erase]
      split <;> omega
    omega
def bstep (at' o : Int) (s : List (Int × Int) × List Int) : List (Int × Int) × List Int :=
  match aget o s.1 with
  | some _ => s
  | none => (aput o ((aget at' s.1).getD 0 + 1) s.1, s.2 ++ [o])
def bsteps (at' : Int) : List Int → List (Int × Int) × List Int → List (Int × Int) × List Int
  | [], s => s
  | o :: os, s => bsteps at' os (bstep at' o s)
def bfs (nb : Int → List Int) (from' : Int) : Nat → List (Int × Int) → List Int → List (Int × Int)
  | 0, far, _ => far
  | _ + 1, far, [] => far
  | k + 1, far, at' :: q => if at' = from' then far else bfs nb from' k (bsteps at' (nb at') (far, q)).1 (bsteps at' (nb at') (far, q)).2
/-- What the walk asks of a search at work. -/
structure FI (N : Nat) (far : List (Int × Int)) (q : List Int) : Prop where
  ne : 0 < far.length
  nd : (far.map (·.1)).Nodup
  rg : ∀ e, e ∈ far → 0 ≤ e.1 ∧ e.1 < N
  vl : ∀ e, e ∈ far → 0 ≤ e.2 ∧ e.2 < far.length
  ql : q.length ≤ far.length
theorem FI.le {N : Nat} {far : List (Int × Int)} {q : List Int} (h : FI N far q) : far.length ≤ N := by
  have := nodup_len N (far.map (·.1)) h.nd (fun x hx => by
    obtain ⟨e, he, rfl⟩ := List.mem_map.1 hx
    exact h.rg e he)
  simpa using this
theorem FI.val {N : Nat} {far : List (Int × Int)} {q : List Int} (h : FI N far q) (at' : Int) : 0 ≤ (aget at' far).getD 0 ∧ (aget at' far).getD 0 < far.length := by
  have := h.ne
  cases hg : aget at' far with
  | none => simp only [Option.getD_none]; omega
  | some v => exact h.vl _ (aget_mem hg)
theorem bstep_none {at' o : Int} {far : List (Int × Int)} {q : List Int} (h : aget o far = none) : bstep at' o (far, q) = (far ++ [(o, (aget at' far).getD 0 + 1)], q ++ [o]) := by
  simp only [bstep, h, aput_new h]
theorem bstep_some {at' o v : Int} {far : List (Int × Int)} {q : List Int} (h : aget o far = some v) : bstep at' o (far, q) = (far, q) := by
  simp only [bstep, h]
theorem FI.step {N : Nat} {far : List (Int × Int)} {q : List Int} (h : FI N far q) (at' o : Int) (h0 : 0 ≤ o) (h1 : o < N) : FI N (bstep at' o (far, q)).1 (bstep at' o (far, q)).2 := by
  cases hg : aget o far with
  | some v => rw [bstep_some hg]; exact h
  | none =>
    rw [bstep_none hg]
    have hv := h.val at'
    have hn := aget_none.1 hg
    refine ⟨by simp, ?_, ?_, ?_, by have := h.ql; simp; omega⟩
    · simp only [List.map_append, List.map_cons, List.map_nil]
      rw [List.nodup_append]
      refine ⟨h.nd, by simp, fun a ha b hb => ?_⟩
      simp only [List.mem_singleton] at hb
      subst hb
      obtain ⟨e, he, rfl⟩ := List.mem_map.1 ha
      exact hn e he
    · intro e he
      rcases List.mem_append.1 he with he | he
      · exact h.rg e he
      · simp only [List.mem_singleton] at he; subst he; exact ⟨h0, h1⟩
    · intro e he
      simp only [List.length_append, List.length_cons, List.length_nil]
      rcases List.mem_append.1 he with he | he
      · have := h.vl e he; omega
      · simp only [List.mem_singleton] at he; subst he; simp only; omega
def meas (N : Nat) (far : List (Int × Int)) (q : List Int) : Nat := 2 * (N - far.length) + q.length
theorem meas_step {N : Nat} {far : List (Int × Int)} {q : List Int} (h : FI N far q) (at' o : Int) (h0 : 0 ≤ o) (h1 : o < N) : meas N (bstep at' o (far, q)).1 (bstep at' o (far, q)).2 ≤ meas N far q := by
  have hs := (h.step at' o h0 h1).le
  cases hg : aget o far with
  | some v => rw [bstep_some hg]; exact Nat.le_refl _
  | none =>
    rw [bstep_none hg] at hs ⊢
    simp only [meas, List.length_append, List.length_cons, List.length_nil] at hs ⊢
    omega
theorem FI.steps {N : Nat} (at' : Int) : ∀ (os : List Int) {far : List (Int × Int)} {q : List Int}, FI N far q → (∀ o, o ∈ os → 0 ≤ o ∧ o < N) →
    FI N (bsteps at' os (far, q)).1 (bsteps at' os (far, q)).2 ∧ meas N (bsteps at' os (far, q)).1 (bsteps at' os (far, q)).2 ≤ meas N far q := by
  intro os
  induction os with
  | nil => intro far q h _; exact ⟨h, Nat.le_refl _⟩
  | cons o os ih =>
    intro far q h ho
    obtain ⟨h0, h1⟩ := ho o (by simp)
    have := ih (h.step at' o h0 h1) (fun x hx => ho x (by simp [hx]))
    have hm := meas_step h at' o h0 h1
    simp only [bsteps]
    exact ⟨this.1, Nat.le_trans this.2 hm⟩
theorem FI.pop {N : Nat} {far : List (Int × Int)} {q : List Int} {at' : Int} (h : FI N far (at' :: q)) : FI N far q := ⟨h.ne, h.nd, h.rg, h.vl, by have := h.ql; simp at this; omega⟩
section
variable (nb : Int → List Int) (to' : Int)
def Reach : Nat → Int → Prop
  | 0, v => v = to'
  | k + 1, v => ∃ u, u ∈ nb v ∧ Reach k u
def Dist (v : Int) (k : Nat) : Prop := Reach nb to' k v ∧ ∀ j, Reach nb to' j v → k ≤ j
end
section
variable {nb : Int → List Int} {to' : Int} {N : Nat}
theorem Dist.uniq {v : Int} {k j : Nat} (h : Dist nb to' v k) (g : Dist nb to' v j) : k = j := Nat.le_antisymm (h.2 _ g.1) (g.2 _ h.1)
theorem Reach.dist {v : Int} : ∀ {k : Nat}, Reach nb to' k v → ∃ j, j ≤ k ∧ Dist nb to' v j := by
  intro k
  induction k using Nat.strongRecOn with
  | _ k ih =>
    intro h
    by_cases hh : ∃ j, j < k ∧ Reach nb to' j v
    · obtain ⟨j, h1, h2⟩ := hh
      obtain ⟨i, h3, h4⟩ := ih j h1 h2
      exact ⟨i, by omega, h4⟩
    · exact ⟨k, Nat.le_refl _, h, fun j hj => Nat.le_of_not_lt fun hlt => hh ⟨j, hlt, hj⟩⟩
/-- The search at work: what was met, first to last; the first p were looked at. -/
structure BI (nb : Int → List Int) (to' : Int) (N : Nat) (far : List (Int × Int)) (q : List Int) (p : Nat) : Prop where
  fi : FI N far q
  zero : (to', 0) ∈ far
  hp : p ≤ far.length
  hq : q = (far.drop p).map (·.1)
  srt : far.Pairwise fun a b => a.2 ≤ b.2
  near : ∀ e h, e ∈ far → far[p]? = some h → e.2 ≤ h.2 + 1
  closed : ∀ e, e ∈ far.take p → ∀ o, o ∈ nb e.1 → ∃ v, (o, v) ∈ far
  dist : ∀ e, e ∈ far → Dist nb to' e.1 e.2.toNat
theorem aget_of_mem {far : List (Int × Int)} (hn : (far.map (·.1)).Nodup) {v k : Int} (h : (v, k) ∈ far) : aget v far = some k := by
  induction far with
  | nil => cases h
  | cons e l ih =>
    simp only [List.map_cons, List.nodup_cons] at hn
    simp only [aget]
    rcases List.mem_cons.1 h with rfl | h
    · simp
    · rw [if_neg]
      · exact ih hn.2 h
      · rintro rfl
        exact hn.1 (List.mem_map.2 ⟨_, h, rfl⟩)
theorem BI.complete {far : List (Int × Int)} {q : List Int} {p : Nat} (h : BI nb to' N far q p) (sym : ∀ u v, u ∈ nb v → v ∈ nb u) {d : Nat} (hd : ∀ e, e ∈ far.drop p → d ≤ e.2.toNat) : ∀ (j : Nat) (v : Int), Reach nb to' j v → j ≤ d → ∃ k, (v, k) ∈ far := by
  intro j
  induction j with
  | zero => intro v hv _; simp only [Reach] at hv; subst hv; exact ⟨0, h.zero⟩
  | succ j ih =>
    intro v hv hj
    obtain ⟨u, hu, hr⟩ := hv
    obtain ⟨k, hk⟩ := ih u hr (by omega)
    have hdu := (h.dist _ hk).2 j hr
    simp only at hdu
    have hin : (u, k) ∈ far.take p := by
      rw [← List.take_append_drop p far] at hk
      rcases List.mem_append.1 hk with hk | hk
      · exact hk
      · have := hd _ hk
        simp only at this
        omega
    exact h.closed _ hin v (sym u v hu)
theorem pairwise_drop_le {far : List (Int × Int)} {p : Nat} {h : Int × Int} (hs : far.Pairwise fun a b => a.2 ≤ b.2) (hp : far[p]? = some h) : ∀ e, e ∈ far.drop p → h.2 ≤ e.2 := by
  have hlt : p < far.length := (List.getElem?_eq_some_iff.1 hp).1
  have hd := List.drop_eq_getElem_cons hlt
  have he : far[p] = h := (List.getElem?_eq_some_iff.1 hp).2
  have := hs.drop (i := p)
  rw [hd, List.pairwise_cons, he] at this
  intro e hm
  rw [hd, he] at hm
  rcases List.mem_cons.1 hm with rfl | hm
  · omega
  · exact this.1 e hm
/-- The squares beside the one that is looked at, one after the other. -/
theorem BI.steps {far0 : List (Int × Int)} {at' : Int} {q0 : List Int} {p : Nat} (h : BI nb to' N far0 (at' :: q0) p) (sym : ∀ u v, u ∈ nb v → v ∈ nb u) (hn : ∀ u o, o ∈ nb u → 0 ≤ o ∧ o < N) :
    BI nb to' N (bsteps at' (nb at') (far0, q0)).1 (bsteps at' (nb at') (far0, q0)).2 (p + 1) := by
  have hlt : p < far0.length := by
    have := congrArg List.length h.hq
    simp only [List.length_cons, List.length_map, List.length_drop] at this
    omega
  have hd := List.drop_eq_getElem_cons hlt
  have hq := h.hq
  rw [hd] at hq
  simp only [List.map_cons, List.cons.injEq] at hq
  obtain ⟨hat, hq0⟩ := hq
  have hgp : far0[p]? = some far0[p] := by simp [hlt]
  obtain ⟨d, hdd⟩ : ∃ d, far0[p] = (at', d) := ⟨far0[p].2, by rw [hat]⟩
  rw [hdd] at hgp
  have hmem : (at', d) ∈ far0 := List.mem_of_getElem? hgp
  have hd0 := (h.fi.vl _ hmem).1
  simp only at hd0
  have hdist := h.dist _ hmem
  simp only at hdist
  have hcomp := h.complete sym (d := d.toNat) (fun e he => by have := pairwise_drop_le h.srt hgp e he; simp only at this; omega)
  -- the invariant of the inner steps
  have key : ∀ (os done : List Int) (new : List (Int × Int)), (∀ o, o ∈ os → o ∈ nb at') → (∀ o, o ∈ done → o ∈ nb at') →
      FI N (far0 ++ new) (q0 ++ new.map (·.1)) → (∀ e, e ∈ new → e.2 = d + 1 ∧ Dist nb to' e.1 e.2.toNat) → (∀ o, o ∈ done → ∃ v, (o, v) ∈ far0 ++ new) →
      ∃ new', bsteps at' os (far0 ++ new, q0 ++ new.map (·.1)) = (far0 ++ new', q0 ++ new'.map (·.1)) ∧ FI N (far0 ++ new') (q0 ++ new'.map (·.1)) ∧ (∀ e, e ∈ new' → e.2 = d + 1 ∧ Dist nb to' e.1 e.2.toNat) ∧ (∀ o, o ∈ done ++ os → ∃ v, (o, v) ∈ far0 ++ new') := by
    intro os
    induction os with
    | nil => intro done new _ _ h1 h2 h3; exact ⟨new, rfl, h1, h2, by simpa using h3⟩
    | cons o os ih =>
      intro done new ho hdn h1 h2 h3
      have hon := ho o (by simp)
      obtain ⟨o0, o1⟩ := hn _ _ hon
      have hst := h1.step at' o o0 o1
      simp only [bsteps]
      cases hg : aget o (far0 ++ new) with
      | some v =>
        rw [bstep_some hg]
        obtain ⟨new', g1, g2, g3, g4⟩ := ih (done ++ [o]) new (fun x hx => ho x (by simp [hx])) (fun x hx => by
          rcases List.mem_append.1 hx with hx | hx
          · exact hdn x hx
          · simp only [List.mem_singleton] at hx; subst hx; exact hon) h1 h2 (fun x hx => by
          rcases List.mem_append.1 hx with hx | hx
          · exact h3 x hx
          · simp only [List.mem_singleton] at hx; subst hx; exact ⟨v, aget_mem hg⟩)
        exact ⟨new', g1, g2, g3, by simpa using g4⟩
      | none =>
        rw [bstep_none hg] at hst ⊢
        have hatv : aget at' (far0 ++ new) = some d := by
          rw [aget_append, aget_of_mem h.fi.nd hmem]
        rw [hatv] at hst ⊢
        simp only [Option.getD_some] at hst ⊢
        have e1 : far0 ++ new ++ [(o, d + 1)] = far0 ++ (new ++ [(o, d + 1)]) := by simp
        have e2 : q0 ++ new.map (·.1) ++ [o] = q0 ++ (new ++ [(o, d + 1)]).map (·.1) := by simp
        rw [e1, e2] at hst ⊢
        have hnew : Dist nb to' o (d + 1).toNat := by
          have er : (d + 1).toNat = d.toNat + 1 := by omega
          rw [er]
          refine ⟨⟨at', sym _ _ hon, hdist.1⟩, fun j hj => ?_⟩
          refine Nat.le_of_not_lt fun hlt => ?_
          obtain ⟨k, hk⟩ := hcomp j o hj (by omega)
          exact aget_none.1 hg _ (List.mem_append_left _ hk) rfl
        obtain ⟨new', g1, g2, g3, g4⟩ := ih (done ++ [o]) (new ++ [(o, d + 1)]) (fun x hx => ho x (by simp [hx])) (fun x hx => by
          rcases List.mem_append.1 hx with hx | hx
          · exact hdn x hx
          · simp only [List.mem_singleton] at hx; subst hx; exact hon) hst (fun e he => by
          rcases List.mem_append.1 he with he | he
          · exact h2 e he
          · simp only [List.mem_singleton] at he; subst he; exact ⟨rfl, hnew⟩) (fun x hx => by
          rcases List.mem_append.1 hx with hx | hx
          · obtain ⟨v, hv⟩ := h3 x hx
            rw [← List.append_assoc]
            exact ⟨v, List.mem_append_left _ hv⟩
          · simp only [List.mem_singleton] at hx; subst hx; exact ⟨d + 1, by simp⟩)
        exact ⟨new', g1, g2, g3, by simpa using g4⟩
  obtain ⟨new, g1, g2, g3, g4⟩ := key (nb at') [] [] (fun o ho => ho) (fun o ho => by cases ho) (by simpa using h.fi.pop) (fun e he => by cases he) (fun o ho => by cases ho)
  simp only [List.append_nil, List.map_nil] at g1
  rw [g1]
  simp only
  have tk : (far0 ++ new).take (p + 1) = far0.take p ++ [(at', d)] := by
    rw [List.take_append_of_le_length (by omega), List.take_add_one, hgp]; rfl
  refine ⟨g2, List.mem_append_left _ h.zero, by simp; omega, ?_, ?_, ?_, ?_, ?_⟩
  · rw [List.drop_append_of_le_length (by omega), List.map_append, hq0]
  · rw [List.pairwise_append]
    refine ⟨h.srt, ?_, fun a ha b hb => ?_⟩
    · rw [List.pairwise_iff_forall_sublist]
      intro a b hab
      have ha := (g3 a (hab.subset (by simp))).1
      have hb := (g3 b (hab.subset (by simp))).1
      omega
    · have := h.near a _ ha hgp
      have hb := (g3 b hb).1
      simp only at this
      omega
  · intro e x he hx
    have hx2 : d ≤ x.2 := by
      by_cases hl : p + 1 < far0.length
      · rw [List.getElem?_append_left hl] at hx
        have := pairwise_drop_le h.srt hgp x (by
          refine List.mem_of_getElem? (i := 1) ?_
          rw [List.getElem?_drop]; exact hx)
        exact this
      · rw [List.getElem?_append_right (by omega)] at hx
        have := (g3 x (List.mem_of_getElem? hx)).1
        omega
    rcases List.mem_append.1 he with he | he
    · have := h.near e _ he hgp
      simp only at this
      omega
    · have := (g3 e he).1
      omega
  · intro e he o ho
    rw [tk] at he
    rcases List.mem_append.1 he with he | he
    · obtain ⟨v, hv⟩ := h.closed e he o ho
      exact ⟨v, List.mem_append_left _ hv⟩
    · simp only [List.mem_singleton] at he
      subst he
      exact g4 o (by simpa using ho)
  · intro e he
    rcases List.mem_append.1 he with he | he
    · exact h.dist e he
    · exact (g3 e he).2
/-- What the search hands over. -/
structure FarOK (nb : Int → List Int) (to' from' : Int) (far : List (Int × Int)) : Prop where
  dist : ∀ v k, aget v far = some k → 0 ≤ k ∧ Dist nb to' v k.toNat
  met : (aget from' far).isSome = true ↔ ∃ k, Reach nb to' k from'
  all : ∀ D, aget from' far = some D → ∀ j v, Reach nb to' j v → j ≤ D.toNat → ∃ k, aget v far = some k
theorem bfs_ok {from' : Int} (sym : ∀ u v, u ∈ nb v → v ∈ nb u) (hn : ∀ u o, o ∈ nb u → 0 ≤ o ∧ o < N) : ∀ (k : Nat) (far : List (Int × Int)) (q : List Int) (p : Nat), BI nb to' N far q p → meas N far q ≤ k → (∀ e, e ∈ far.take p → e.1 ≠ from') → FarOK nb to' from' (bfs nb from' k far q) := by
  have gdist : ∀ {far : List (Int × Int)} {q : List Int} {p : Nat}, BI nb to' N far q p → ∀ v k, aget v far = some k → 0 ≤ k ∧ Dist nb to' v k.toNat := by
    intro far q p h v k hg
    have hm := aget_mem hg
    exact ⟨(h.fi.vl _ hm).1, h.dist _ hm⟩
  have done : ∀ {far : List (Int × Int)} {p : Nat}, BI nb to' N far [] p → FarOK nb to' from' far := by
    intro far p h
    have hpl : far.drop p = [] := by
      have := h.hq
      rw [eq_comm, List.map_eq_nil_iff] at this
      exact this
    have hall : ∀ j v, Reach nb to' j v → ∃ k, aget v far = some k := by
      intro j v hv
      obtain ⟨k, hk⟩ := h.complete sym (d := j) (fun e he => by rw [hpl] at he; cases he) j v hv (Nat.le_refl _)
      exact ⟨k, aget_of_mem h.fi.nd hk⟩
    refine ⟨gdist h, ⟨fun hs => ?_, fun ⟨k, hk⟩ => ?_⟩, fun D _ j v hv _ => hall j v hv⟩
    · obtain ⟨k, hk⟩ := Option.isSome_iff_exists.1 hs
      exact ⟨_, (gdist h _ _ hk).2.1⟩
    · obtain ⟨x, hx⟩ := hall k _ hk
      rw [hx]; rfl
  intro k
  induction k with
  | zero =>
    intro far q p h hm _
    have : q = [] := by
      cases q with
      | nil => rfl
      | cons => simp [meas] at hm
    subst this
    simp only [bfs]
    exact done h
  | succ k ih =>
    intro far q p h hm hnf
    cases q with
    | nil => simp only [bfs]; exact done h
    | cons at' q =>
      simp only [bfs]
      have hlt : p < far.length := by
        have := congrArg List.length h.hq
        simp only [List.length_cons, List.length_map, List.length_drop] at this
        omega
      have hd := List.drop_eq_getElem_cons hlt
      have hq := h.hq
      rw [hd] at hq
      simp only [List.map_cons, List.cons.injEq] at hq
      have hgp : far[p]? = some far[p] := by simp [hlt]
      obtain ⟨d, hdd⟩ : ∃ d, far[p] = (at', d) := ⟨far[p].2, by rw [hq.1]⟩
      rw [hdd] at hgp
      have hmem : (at', d) ∈ far := List.mem_of_getElem? hgp
      split
      · rename_i he
        subst he
        have hat := aget_of_mem h.fi.nd hmem
        refine ⟨gdist h, ⟨fun _ => ⟨_, (h.dist _ hmem).1⟩, fun _ => by rw [hat]; rfl⟩, fun D hD j v hv hj => ?_⟩
        rw [hat] at hD
        injection hD with hD
        subst hD
        obtain ⟨x, hx⟩ := h.complete sym (d := d.toNat) (fun e he => by have := pairwise_drop_le h.srt hgp e he; simp only at this; omega) j v hv hj
        exact ⟨x, aget_of_mem h.fi.nd hx⟩
      · rename_i hne
        have hb := h.steps sym hn
        have hfs := (FI.steps at' (nb at') h.fi.pop (fun o ho => hn _ o ho)).2
        refine ih _ _ (p + 1) hb ?_ fun e he => ?_
        · simp only [meas, List.length_cons] at hm hfs ⊢
          omega
        · have hpre : ∃ new, (bsteps at' (nb at') (far, q)).1 = far ++ new := by
            have gen : ∀ (os : List Int) (s : List (Int × Int) × List Int), ∃ new, (bsteps at' os s).1 = s.1 ++ new := by
              intro os
              induction os with
              | nil => intro s; exact ⟨[], by simp [bsteps]⟩
              | cons o os ih2 =>
                intro s
                obtain ⟨new, hnew⟩ := ih2 (bstep at' o s)
                simp only [bsteps]
                rw [hnew]
                obtain ⟨f, q'⟩ := s
                cases hg : aget o f with
                | some v => rw [bstep_some hg]; exact ⟨new, rfl⟩
                | none => rw [bstep_none hg]; exact ⟨_, by rw [List.append_assoc]⟩
            exact gen _ _
          obtain ⟨new, hnew⟩ := hpre
          rw [hnew, List.take_append_of_le_length (by omega), List.take_add_one, hgp] at he
          rcases List.mem_append.1 he with he | he
          · exact hnf e he
          · simp only [Option.toList_some, List.mem_singleton] at he
            subst he
            exact hne
theorem BI.start (h0 : 0 ≤ to') (h1 : to' < N) : BI nb to' N [(to', 0)] [to'] 0 := by
  refine ⟨⟨by simp, by simp, fun e he => ?_, fun e he => ?_, by simp⟩, by simp, by simp, by simp, by simp, fun e h he hh => ?_, fun e he => by simp at he, fun e he => ?_⟩
  · simp only [List.mem_singleton] at he; subst he; exact ⟨h0, h1⟩
  · simp only [List.mem_singleton] at he; subst he; simp
  · simp only [List.mem_singleton] at he; subst he
    simp at hh; subst hh; simp
  · simp only [List.mem_singleton] at he; subst he
    exact ⟨rfl, fun j _ => Nat.zero_le _⟩
end
end Go.Proofs.Ytnpamcpoaklgeaa
namespace Go.Proofs.Ytnpamcpoaklgeaa
open Go Go.RowKit
set_option maxRecDepth 100000
def nbs (cl : List Int) (sq : Int) : List (Int × Int) → Nat → List Int
  | [], _ => []
  | s :: r, i => if decide (0 ≤ other s sq) && !(has cl i) then other s sq :: nbs cl sq r (i + 1) else nbs cl sq r (i + 1)
theorem nbs_yes {cl : List Int} {sq : Int} {s : Int × Int} {r : List (Int × Int)} {i : Nat} (h : 0 ≤ other s sq) (h2 : has cl i = false) : nbs cl sq (s :: r) i = other s sq :: nbs cl sq r (i + 1) := by simp [nbs, h, h2]
theorem nbs_no {cl : List Int} {sq : Int} {s : Int × Int} {r : List (Int × Int)} {i : Nat} (h : ¬ (0 ≤ other s sq ∧ has cl i = false)) : nbs cl sq (s :: r) i = nbs cl sq r (i + 1) := by
  rw [nbs, if_neg]
  simpa using h
theorem nbs_mem {cl : List Int} {sq : Int} : ∀ {r : List (Int × Int)} {i : Nat} {o : Int}, o ∈ nbs cl sq r i ↔ ∃ (k : Nat) (s : Int × Int), r[k]? = some s ∧ o = other s sq ∧ 0 ≤ o ∧ has cl ((i + k : Nat) : Int) = false := by
  intro r
  induction r with
  | nil => intro i o; simp [nbs]
  | cons s r ih =>
    intro i o
    have tail : (∃ (k : Nat) (x : Int × Int), (s :: r)[k + 1]? = some x ∧ o = other x sq ∧ 0 ≤ o ∧ has cl ((i + (k + 1) : Nat) : Int) = false) ↔ o ∈ nbs cl sq r (i + 1) := by
      rw [ih]
      constructor
      · rintro ⟨k, x, h1, h2, h3, h4⟩
        exact ⟨k, x, by simpa using h1, h2, h3, by rw [show i + 1 + k = i + (k + 1) by omega]; exact h4⟩
      · rintro ⟨k, x, h1, h2, h3, h4⟩
        exact ⟨k, x, by simpa using h1, h2, h3, by rw [show i + (k + 1) = i + 1 + k by omega]; exact h4⟩
    by_cases h : 0 ≤ other s sq ∧ has cl i = false
    · rw [nbs_yes h.1 h.2, List.mem_cons, ← tail]
      constructor
      · rintro (rfl | ⟨k, x, hx⟩)
        · exact ⟨0, s, rfl, rfl, h.1, h.2⟩
        · exact ⟨k + 1, x, hx⟩
      · rintro ⟨k, x, h1, h2, h3, h4⟩
        cases k with
        | zero => simp at h1; subst h1; exact .inl h2
        | succ k => exact .inr ⟨k, x, h1, h2, h3, h4⟩
    · rw [nbs_no h, ← tail]
      constructor
      · rintro ⟨k, x, hx⟩
        exact ⟨k + 1, x, hx⟩
      · rintro ⟨k, x, h1, h2, h3, h4⟩
        cases k with
        | zero => simp at h1; subst h1; exact absurd ⟨h2 ▸ h3, h4⟩ h
        | succ k => exact ⟨k, x, h1, h2, h3, h4⟩
def bn (o : Int) (far : List (Int × Int)) (n : Nat) : Nat := match aget o far with
  | some _ => n
  | none => n + 1
def nearer (far : List (Int × Int)) (at' o : Int) : Bool := match aget o far with
  | some v => decide (v = (aget at' far).getD 0 - 1)
  | none => false
def bmin (c : Bool) (best o : Int) : Int := if c then min best o else best
def bstepsN (at' : Int) : List Int → List (Int × Int) × List Int → Nat → (List (Int × Int) × List Int) × Nat
  | [], s, n => (s, n)
  | o :: os, s, n => bstepsN at' os (bstep at' o s) (bn o s.1 n)
theorem bstepsN_fst (at' : Int) : ∀ (os : List Int) (s : List (Int × Int) × List Int) (n : Nat), (bstepsN at' os s n).1 = bsteps at' os s := by
  intro os
  induction os with
  | nil => intro s n; rfl
  | cons o os ih => intro s n; simp only [bstepsN, bsteps, ih]
def bmins (far : List (Int × Int)) (at' : Int) : List Int → Int → Int
  | [], b => b
  | o :: os, b => bmins far at' os (bmin (nearer far at' o) b o)
set_option maxHeartbeats 2000000 in
theorem Way2_new (Y : YEnv) (σ : Sg) (hτ : CleanSg σ) (t : Town) (cl : List Int) (far : List (Int × Int)) (q : List Int) (n : Nat) (at' o x y : Int) (hg : aget o far = none) (h0 : 0 ≤ (aget at' far).getD 0) (h1 : (aget at' far).getD 0 ≤ 2 ^ 40) (hq : q.length ≤ 2 ^ 40) :
    PC Try.prog Y 118 [I o, .ptr (σ.store.length + 3) 0, .ptr (σ.store.length + 5) 0, .ptr (σ.store.length + 4) 0] (σ.ext [some (twCells t), some [ints cl], some (.mark :: mapE I I far), some [.map (σ.store.length + 2)], some [.isl ((q).map I) (.tok σ.rooms.length n 1)], some [I at'], some [I x, I y]] [n]) (.tuple []) (σ.ext [some (twCells t), some [ints cl], some (.mark :: mapE I I (far ++ [(o, (aget at' far).getD 0 + 1)])), some [.map (σ.store.length + 2)], some [.isl ((q ++ [o]).map I) (.tok σ.rooms.length (n + 1) 1)], some [I at'], some [I x, I y]] [(n + 1)]) := by
  refine PC_of_W Try.func118 rfl (by kernel_rfl) Try.ntmps118 (by simp) fun hcl hca => ?_
  clear hcl
  have hcl := hτ
  have w1 : IntKind.i64.wrap ((aget at' far).getD 0 + 1) = (aget at' far).getD 0 + 1 := wrapI (by omega) (by omega)
  refine W_seq fun kz1 kq1 => ?_
  refine W_region [0, 1, 2, 3, 6] fun R hR => ?_   -- r0
  simp only [go_sem, hg, Option.getD_some, Option.getD_none, Option.isSome_some, Option.isSome_none, aput_new hg, w1]
  refine hR _ _ (kq1 _ _ ?_); clear hR R; try clear kq1 kz1
  try simp only [go_sem, hg, Option.getD_some, Option.getD_none, Option.isSome_some, Option.isSome_none, aput_new hg, w1]
  refine W_seq fun kz2 kq2 => ?_
  refine W_region [0, 1, 2, 3, 14] fun R hR => ?_   -- r1
  simp only [go_sem, hg, Option.getD_some, Option.getD_none, Option.isSome_some, Option.isSome_none, aput_new hg, w1]
  refine hR _ _ (kq2 _ _ ?_); clear hR R; try clear kq2 kz2
  try simp only [go_sem, hg, Option.getD_some, Option.getD_none, Option.isSome_some, Option.isSome_none, aput_new hg, w1]
  refine W_cond rfl (fun c1 => ?_) (fun c1 => ?_)
  · -- c1 true
    try simp only [nrm] at c1
    refine W_seq fun kz3 kq3 => ?_
    refine W_region [0, 3] fun R hR => ?_   -- r2
    simp only [go_sem, hg, Option.getD_some, Option.getD_none, Option.isSome_some, Option.isSome_none, aput_new hg, w1]
    try simp (disch := omega) only [wrapI, wrapU]
    refine hR _ _ (kq3 _ _ ?_); clear hR R; try clear kq3 kz3
    try simp only [go_sem, hg, Option.getD_some, Option.getD_none, Option.isSome_some, Option.isSome_none, aput_new hg, w1]
    refine W_region [] fun R hR => ?_   -- r3
    simp only [go_sem, hg, Option.getD_some, Option.getD_none, Option.isSome_some, Option.isSome_none, aput_new hg, w1]
    simp (disch := first | omega | (simp only [go_sem] <;> omega)) only [wrapI, wrapU, appX_exact, appX_tok]
    try simp only [go_sem, hg, Option.getD_some, Option.getD_none, Option.isSome_some, Option.isSome_none, aput_new hg, w1]
    refine hR _ _ ?_; clear hR R
    try simp only [go_sem, hg, Option.getD_some, Option.getD_none, Option.isSome_some, Option.isSome_none, aput_new hg, w1]
    try simp only [go_sem, hg, Option.getD_some, Option.getD_none, Option.isSome_some, Option.isSome_none, aput_new hg, w1]
    refine ⟨.inl (by trivial), ?_⟩
    exact Fin_end (CleanSg_ext hcl (by show CleanLs _ _ _ _; simp only [go_sem] <;> omega)) (by simp only [go_sem]) (by simp only [go_sem]) (by simp only [go_sem]) rfl (Wk_eq rfl (by simp only [go_sem]))
    try simp only [go_sem]
    all_goals
      skip
  · -- c1 false
    try simp only [nrm] at c1
    exfalso
    simp at c1
set_option maxHeartbeats 2000000 in
theorem Way2_old (Y : YEnv) (σ : Sg) (hτ : CleanSg σ) (t : Town) (cl : List Int) (far : List (Int × Int)) (q : List Int) (n : Nat) (at' o x y : Int) (v : Int) (hg : aget o far = some v) :
    PC Try.prog Y 118 [I o, .ptr (σ.store.length + 3) 0, .ptr (σ.store.length + 5) 0, .ptr (σ.store.length + 4) 0] (σ.ext [some (twCells t), some [ints cl], some (.mark :: mapE I I far), some [.map (σ.store.length + 2)], some [.isl ((q).map I) (.tok σ.rooms.length n 1)], some [I at'], some [I x, I y]] [n]) (.tuple []) (σ.ext [some (twCells t), some [ints cl], some (.mark :: mapE I I far), some [.map (σ.store.length + 2)], some [.isl ((q).map I) (.tok σ.rooms.length n 1)], some [I at'], some [I x, I y]] [n]) := by
  refine PC_of_W Try.func118 rfl (by kernel_rfl) Try.ntmps118 (by simp) fun hcl hca => ?_
  clear hcl
  have hcl := hτ
  refine W_seq fun kz1 kq1 => ?_
  refine W_region [0, 1, 2, 3, 6] fun R hR => ?_   -- r0
  simp only [go_sem, hg, Option.getD_some, Option.getD_none, Option.isSome_some, Option.isSome_none]
  refine hR _ _ (kq1 _ _ ?_); clear hR R; try clear kq1 kz1
  try simp only [go_sem, hg, Option.getD_some, Option.getD_none, Option.isSome_some, Option.isSome_none]
  refine W_seq fun kz2 kq2 => ?_
  refine W_region [0, 1, 2, 3, 14] fun R hR => ?_   -- r1
  simp only [go_sem, hg, Option.getD_some, Option.getD_none, Option.isSome_some, Option.isSome_none]
  refine hR _ _ (kq2 _ _ ?_); clear hR R; try clear kq2 kz2
  try simp only [go_sem, hg, Option.getD_some, Option.getD_none, Option.isSome_some, Option.isSome_none]
  refine W_cond rfl (fun c1 => ?_) (fun c1 => ?_)
  · -- c1 true
    try simp only [nrm] at c1
    exfalso
    simp at c1
  · -- c1 false
    try simp only [nrm] at c1
    refine W_skip ?_
    simp only [go_sem, hg, Option.getD_some, Option.getD_none, Option.isSome_some, Option.isSome_none]
    try simp only [go_sem, hg, Option.getD_some, Option.getD_none, Option.isSome_some, Option.isSome_none]
    refine ⟨.inl (by trivial), ?_⟩
    exact Fin_end (CleanSg_ext hcl (by show CleanLs _ _ _ _; simp only [go_sem] <;> omega)) (by simp only [go_sem]) (by simp only [go_sem]) (by simp only [go_sem]) rfl (Wk_eq rfl (by simp only [go_sem]))
    try simp only [go_sem]
    all_goals
      skip
theorem Way2_pc (Y : YEnv) (σ : Sg) (hτ : CleanSg σ) (t : Town) (cl : List Int) (far : List (Int × Int)) (q : List Int) (n : Nat) (at' o x y : Int) (h0 : 0 ≤ (aget at' far).getD 0) (h1 : (aget at' far).getD 0 ≤ 2 ^ 40) (hq : q.length ≤ 2 ^ 40) :
    PC Try.prog Y 118 [I o, .ptr (σ.store.length + 3) 0, .ptr (σ.store.length + 5) 0, .ptr (σ.store.length + 4) 0] (σ.ext [some (twCells t), some [ints cl], some (.mark :: mapE I I far), some [.map (σ.store.length + 2)], some [.isl ((q).map I) (.tok σ.rooms.length n 1)], some [I at'], some [I x, I y]] [n]) (.tuple []) (σ.ext [some (twCells t), some [ints cl], some (.mark :: mapE I I (bstep at' o (far, q)).1), some [.map (σ.store.length + 2)], some [.isl (((bstep at' o (far, q)).2).map I) (.tok σ.rooms.length (bn o far n) 1)], some [I at'], some [I x, I y]] [(bn o far n)]) := by
  unfold bn
  cases hg : aget o far with
  | none => rw [bstep_none hg]; exact Way2_new Y σ hτ t cl far q n at' o x y hg h0 h1 hq
  | some v => rw [bstep_some hg]; exact Way2_old Y σ hτ t cl far q n at' o x y v hg
set_option maxHeartbeats 2000000 in
theorem Way3_none (Y : YEnv) (σ : Sg) (hτ : CleanSg σ) (t : Town) (cl : List Int) (far : List (Int × Int)) (q : List Int) (n m : Nat) (at' o best x y : Int) (hg : aget o far = none) :
    PC Try.prog Y 119 [I o, .ptr (σ.store.length + 3) 0, .ptr (σ.store.length + 5) 0, .ptr (σ.store.length + 6) 0] (σ.ext [some (twCells t), some [ints cl], some (.mark :: mapE I I far), some [.map (σ.store.length + 2)], some [.isl (q.map I) (.tok σ.rooms.length n 1)], some [I at'], some [I best], some [I x, I y]] [n, m]) (.tuple []) (σ.ext [some (twCells t), some [ints cl], some (.mark :: mapE I I far), some [.map (σ.store.length + 2)], some [.isl (q.map I) (.tok σ.rooms.length n 1)], some [I at'], some [I best], some [I x, I y]] [n, m]) := by
  refine PC_of_W Try.func119 rfl (by kernel_rfl) Try.ntmps119 (by simp) fun hcl hca => ?_
  clear hcl
  have hcl := hτ
  refine W_seq fun kz1 kq1 => ?_
  refine W_region [0, 1, 2, 3, 5, 6] fun R hR => ?_   -- r0
  simp only [go_sem, hg, Option.getD_some, Option.getD_none, Option.isSome_some, Option.isSome_none]
  refine hR _ _ (kq1 _ _ ?_); clear hR R; try clear kq1 kz1
  try simp only [go_sem, hg, Option.getD_some, Option.getD_none, Option.isSome_some, Option.isSome_none]
  refine W_seq fun kz2 kq2 => ?_
  refine W_region [0, 3, 21] fun R hR => ?_   -- r1
  simp only [go_sem, hg, Option.getD_some, Option.getD_none, Option.isSome_some, Option.isSome_none]
  try simp (disch := omega) only [wrapI, wrapU]
  refine hR _ _ (kq2 _ _ ?_); clear hR R; try clear kq2 kz2
  try simp only [go_sem, hg, Option.getD_some, Option.getD_none, Option.isSome_some, Option.isSome_none]
  refine W_cond_false rfl ?_
  refine W_skip ?_
  simp only [go_sem, hg, Option.getD_some, Option.getD_none, Option.isSome_some, Option.isSome_none]
  try simp only [go_sem, hg, Option.getD_some, Option.getD_none, Option.isSome_some, Option.isSome_none]
  refine ⟨.inl (by trivial), ?_⟩
  exact Fin_end (CleanSg_ext hcl (by show CleanLs _ _ _ _; simp only [go_sem] <;> omega)) (by simp only [go_sem]) (by simp only [go_sem]) (by simp only [go_sem]) rfl (Wk_eq rfl (by simp only [go_sem]))
  try simp only [go_sem]
  all_goals
    skip
set_option maxHeartbeats 2000000 in
theorem Way3_some (Y : YEnv) (σ : Sg) (hτ : CleanSg σ) (t : Town) (cl : List Int) (far : List (Int × Int)) (q : List Int) (n m : Nat) (at' o best x y : Int) (v : Int) (hg : aget o far = some v) (h0 : 0 ≤ (aget at' far).getD 0) (h1 : (aget at' far).getD 0 ≤ 2 ^ 40) :
    PC Try.prog Y 119 [I o, .ptr (σ.store.length + 3) 0, .ptr (σ.store.length + 5) 0, .ptr (σ.store.length + 6) 0] (σ.ext [some (twCells t), some [ints cl], some (.mark :: mapE I I far), some [.map (σ.store.length + 2)], some [.isl (q.map I) (.tok σ.rooms.length n 1)], some [I at'], some [I best], some [I x, I y]] [n, m]) (.tuple []) (σ.ext [some (twCells t), some [ints cl], some (.mark :: mapE I I far), some [.map (σ.store.length + 2)], some [.isl (q.map I) (.tok σ.rooms.length n 1)], some [I at'], some [I (bmin (decide (v = (aget at' far).getD 0 - 1)) best o)], some [I x, I y]] [n, m]) := by
  refine PC_of_W Try.func119 rfl (by kernel_rfl) Try.ntmps119 (by simp) fun hcl hca => ?_
  clear hcl
  have hcl := hτ
  have w1 : IntKind.i64.wrap ((aget at' far).getD 0 - 1) = (aget at' far).getD 0 - 1 := wrapI (by omega) (by omega)
  refine W_seq fun kz1 kq1 => ?_
  refine W_region [0, 1, 2, 3, 5, 6] fun R hR => ?_   -- r0
  simp only [go_sem, hg, Option.getD_some, Option.getD_none, Option.isSome_some, Option.isSome_none, w1]
  refine hR _ _ (kq1 _ _ ?_); clear hR R; try clear kq1 kz1
  try simp only [go_sem, hg, Option.getD_some, Option.getD_none, Option.isSome_some, Option.isSome_none, w1]
  refine W_seq fun kz2 kq2 => ?_
  refine W_region [0, 3, 21] fun R hR => ?_   -- r1
  simp only [go_sem, hg, Option.getD_some, Option.getD_none, Option.isSome_some, Option.isSome_none, w1]
  try simp (disch := omega) only [wrapI, wrapU]
  refine hR _ _ (kq2 _ _ ?_); clear hR R; try clear kq2 kz2
  try simp only [go_sem, hg, Option.getD_some, Option.getD_none, Option.isSome_some, Option.isSome_none, w1]
  refine W_cond rfl (fun c1 => ?_) (fun c1 => ?_)
  · -- c1 true
    try simp only [nrm] at c1
    have hb : bmin (decide (v = (aget at' far).getD 0 - 1)) best o = min best o := by simp [bmin, c1]
    rw [hb]
    refine W_region [] fun R hR => ?_   -- r2
    simp only [go_sem, hg, Option.getD_some, Option.getD_none, Option.isSome_some, Option.isSome_none, w1]
    refine hR _ _ ?_; clear hR R
    try simp only [go_sem, hg, Option.getD_some, Option.getD_none, Option.isSome_some, Option.isSome_none, w1]
    try simp only [go_sem, hg, Option.getD_some, Option.getD_none, Option.isSome_some, Option.isSome_none, w1]
    refine ⟨.inl (by trivial), ?_⟩
    exact Fin_end (CleanSg_ext hcl (by show CleanLs _ _ _ _; simp only [go_sem] <;> omega)) (by simp only [go_sem]) (by simp only [go_sem]) (by simp only [go_sem]) rfl (Wk_eq rfl (by simp only [go_sem]))
    try simp only [go_sem]
    all_goals
      skip
  · -- c1 false
    try simp only [nrm] at c1
    have hb : bmin (decide (v = (aget at' far).getD 0 - 1)) best o = best := by simp [bmin, c1]
    rw [hb]
    refine W_skip ?_
    simp only [go_sem, hg, Option.getD_some, Option.getD_none, Option.isSome_some, Option.isSome_none, w1]
    try simp only [go_sem, hg, Option.getD_some, Option.getD_none, Option.isSome_some, Option.isSome_none, w1]
    refine ⟨.inl (by trivial), ?_⟩
    exact Fin_end (CleanSg_ext hcl (by show CleanLs _ _ _ _; simp only [go_sem] <;> omega)) (by simp only [go_sem]) (by simp only [go_sem]) (by simp only [go_sem]) rfl (Wk_eq rfl (by simp only [go_sem]))
    try simp only [go_sem]
    all_goals
      skip
theorem Way3_pc (Y : YEnv) (σ : Sg) (hτ : CleanSg σ) (t : Town) (cl : List Int) (far : List (Int × Int)) (q : List Int) (n m : Nat) (at' o best x y : Int) (h0 : 0 ≤ (aget at' far).getD 0) (h1 : (aget at' far).getD 0 ≤ 2 ^ 40) :
    PC Try.prog Y 119 [I o, .ptr (σ.store.length + 3) 0, .ptr (σ.store.length + 5) 0, .ptr (σ.store.length + 6) 0] (σ.ext [some (twCells t), some [ints cl], some (.mark :: mapE I I far), some [.map (σ.store.length + 2)], some [.isl (q.map I) (.tok σ.rooms.length n 1)], some [I at'], some [I best], some [I x, I y]] [n, m]) (.tuple []) (σ.ext [some (twCells t), some [ints cl], some (.mark :: mapE I I far), some [.map (σ.store.length + 2)], some [.isl (q.map I) (.tok σ.rooms.length n 1)], some [I at'], some [I (bmin (nearer far at' o) best o)], some [I x, I y]] [n, m]) := by
  unfold nearer
  cases hg : aget o far with
  | none => exact Way3_none Y σ hτ t cl far q n m at' o best x y hg
  | some v => exact Way3_some Y σ hτ t cl far q n m at' o best x y v hg h0 h1
set_option maxHeartbeats 4000000 in
theorem Way1a_pc (Y : YEnv) (σ : Sg) (hτ : CleanSg σ) (t : Town) (cl : List Int) (far : List (Int × Int)) (q : List Int) (n : Nat) (at' : Int) (hs : t.streets.length < 2 ^ 40) (hc : cl.length < 2 ^ 40) (hN : t.rooms.length < 2 ^ 40) (hv : ∀ s, s ∈ t.streets → 0 ≤ s.1 ∧ s.1 < t.rooms.length ∧ 0 ≤ s.2 ∧ s.2 < t.rooms.length) (hf : FI t.rooms.length far q) :
    PC Try.prog Y 116 [I at', .func (.func 118) [] [.ptr (σ.store.length + 3) 0, .ptr (σ.store.length + 5) 0, .ptr (σ.store.length + 4) 0], .ptr σ.store.length 0, .ptr (σ.store.length + 1) 0] (σ.ext [some (twCells t), some [ints cl], some (.mark :: mapE I I far), some [.map (σ.store.length + 2)], some [.isl ((q).map I) (.tok σ.rooms.length n 1)], some [I at']] [n]) (.tuple []) (σ.ext [some (twCells t), some [ints cl], some (.mark :: mapE I I (bstepsN at' (nbs cl at' t.streets 0) (far, q) n).1.1), some [.map (σ.store.length + 2)], some [.isl (((bstepsN at' (nbs cl at' t.streets 0) (far, q) n).1.2).map I) (.tok σ.rooms.length (bstepsN at' (nbs cl at' t.streets 0) (far, q) n).2 1)], some [I at']] [(bstepsN at' (nbs cl at' t.streets 0) (far, q) n).2]) := by
  refine PC_of_W Try.func116 rfl (by kernel_rfl) Try.ntmps116 (by simp) fun hcl hca => ?_
  clear hcl
  have hcl := hτ
  obtain ⟨res, hres⟩ : ∃ r, (bstepsN at' (nbs cl at' t.streets 0) (far, q) n) = r := ⟨_, rfl⟩
  rw [hres]
  refine W_seq fun kz1 kq1 => ?_
  refine W_region [0, 1, 3, 10, 11, 12] fun R hR => ?_   -- r0
  simp only [go_sem]
  refine hR _ _ (kq1 _ _ ?_); clear hR R; try clear kq1 kz1
  try simp only [go_sem]
  refine W_block ?_
  refine W_loopT (α := Nat × (List (Int × Int)) × (List Int) × Nat) (fun ⟨i, far', q', n'⟩ => [(12, I i)]) (fun ⟨i, far', q', n'⟩ => σ.ext [some (twCells t), some [ints cl], some (.mark :: mapE I I far'), some [.map (σ.store.length + 2)], some [.isl ((q').map I) (.tok σ.rooms.length n' 1)], some [I at']] [n']) (fun ⟨i, far', q', n'⟩ => i ≤ t.streets.length ∧ res = bstepsN at' (nbs cl at' (t.streets.drop i) i) (far', q') n' ∧ FI t.rooms.length far' q') (fun ⟨i, far', q', n'⟩ => t.streets.length - i) ((0, far, q, n)) rfl (by first | rfl | (simp only [go_sem]; done) | (simp only [go_sem]; rfl)) (⟨Nat.zero_le _, hres.symm, hf⟩) ?_
  rintro ⟨i, far', q', n'⟩ ⟨hi, hinv, hf'⟩
  refine W_seq fun kz2 kq2 => ?_
  refine W_region [0, 1, 3, 10, 11, 12, 13] fun R hR => ?_   -- r1
  simp only [go_sem]
  refine hR _ _ (kq2 _ _ ?_); clear hR R; try clear kq2 kz2
  try simp only [go_sem]
  refine W_seq fun kz3 kq3 => ?_
  refine W_cond rfl (fun c1 => ?_) (fun c1 => ?_)
  · -- c1 true
    try simp only [nrm] at c1
    have hi' : i < t.streets.length := by first | assumption | omega
    obtain ⟨s, hx⟩ : ∃ s, t.streets[i]? = some s := ⟨t.streets[i], by simp [hi']⟩
    have hdrop : t.streets.drop i = s :: t.streets.drop (i + 1) := by
      rw [List.drop_eq_getElem_cons hi']; congr 1; exact (List.getElem?_eq_some_iff.1 hx).2
    have hsm : s ∈ t.streets := List.mem_of_getElem? hx
    obtain ⟨v0, v1, v2, v3⟩ := hv s hsm
    have hor : other s at' < t.rooms.length := by unfold other; split <;> (try split) <;> omega
    rw [hdrop] at hinv
    refine W_skip (kq3 _ _ ?_)
    refine W_seq fun kz4 kq4 => ?_
    refine W_block ?_
    refine W_seq fun kz5 kq5 => ?_
    refine W_region [0, 1, 3, 6, 7, 10, 11, 12] fun R hR => ?_   -- r2
    simp only [go_sem, hx]
    refine hR _ _ (kq5 _ _ ?_); clear hR R; try clear kq5 kz5
    try simp only [go_sem, hx]
    refine W_seq fun kz6 kq6 => ?_
    refine W_region [0, 1, 3, 6, 8, 10, 11, 12] fun R hR => ?_   -- r3
    simp only [go_sem, hx]
    refine GCall_of (cother_pc Y _ s at') ?_   -- t19
    simp only [go_sem, hx]
    refine hR _ _ (kq6 _ _ ?_); clear hR R; try clear kq6 kz6
    try simp only [go_sem, hx]
    refine W_seq fun kz7 kq7 => ?_
    refine W_region [0, 1, 3, 8, 10, 11, 12, 27] fun R hR => ?_   -- r4
    simp only [go_sem, hx]
    refine GWant_split (fun g1 => ?_) (fun g1 => ?_)
    · try simp only [Bool.not_eq_true', Bool.not_eq_false'] at g1
      have n1 := g1; try simp only [nrm] at n1
      simp only [go_sem, hx, g1]
      refine GCall_of (Contains_pc Y _ cl (i : Int) .ro (by omega)) ?_   -- t25
      simp only [go_sem, hx, g1]
      refine hR _ _ (kq7 _ _ ?_); clear hR R; try clear kq7 kz7
      try simp only [go_sem, hx]
      refine W_cond rfl (fun c2 => ?_) (fun c2 => ?_)
      · -- c2 true
        try simp only [nrm] at c2
        refine W_region [0, 1, 3, 10, 11, 12] fun R hR => ?_   -- r5
        simp only [go_sem, hx]
        refine GCall_of (Way2_pc Y σ hτ t cl far' q' n' at' (other s at') s.1 s.2 (hf'.val at').1 (by have := (hf'.val at').2; have := hf'.le; omega) (by have := hf'.ql; have := hf'.le; omega)) ?_   -- t30
        simp only [go_sem, hx]
        refine hR _ _ (kq4 _ _ ?_); clear hR R; try clear kq4 kz4
        try simp only [go_sem, hx]
        refine W_region [0, 1, 3, 10, 11, 12] fun R hR => ?_   -- r6
        simp only [go_sem, hx]
        try simp (disch := omega) only [wrapI, wrapU]
        refine hR _ _ ?_; clear hR R
        try simp only [go_sem, hx]
        refine ⟨(i + 1, (bstep at' (other s at') (far', q')).1, (bstep at' (other s at') (far', q')).2, bn (other s at') far' n'), ?_, by (try simp only []); omega, ?_⟩
        · refine Weak.trans (Weak.cutX 6 1 (by omega) (by omega) hcl (by simp only [go_sem] <;> omega) (by simp only [go_sem] <;> omega)) ?_
          simp only [go_sem]
          exact Weak.eq (by first | rfl | (simp only [go_sem]; done) | (simp only [go_sem]; rfl) | (simp [go_sem]; done) | (simp [go_sem]; omega)) (by first | rfl | (simp only [go_sem]; done) | (simp [go_sem]; done))
        · try dsimp only
          first | exact ⟨hi', by rw [hinv, nbs_yes n1 (by simpa using c2)]; rfl, hf'.step at' _ n1 hor⟩ | exact ⟨hi', by rw [hinv, nbs_no (fun h => by obtain ⟨h1, h2⟩ := h; first | omega | (simp_all; done))], hf'⟩
      · -- c2 false
        try simp only [nrm] at c2
        refine W_skip (kq4 _ _ ?_)
        refine W_region [0, 1, 3, 10, 11, 12] fun R hR => ?_   -- r6
        simp only [go_sem, hx]
        try simp (disch := omega) only [wrapI, wrapU]
        refine hR _ _ ?_; clear hR R
        try simp only [go_sem, hx]
        refine ⟨(i + 1, far', q', n'), ?_, by (try simp only []); omega, ?_⟩
        · refine Weak.trans (Weak.cutX 6 1 (by omega) (by omega) hcl (by simp only [go_sem] <;> omega) (by simp only [go_sem] <;> omega)) ?_
          simp only [go_sem]
          exact Weak.eq (by first | rfl | (simp only [go_sem]; done) | (simp only [go_sem]; rfl) | (simp [go_sem]; done) | (simp [go_sem]; omega)) (by first | rfl | (simp only [go_sem]; done) | (simp [go_sem]; done))
        · try dsimp only
          first | exact ⟨hi', by rw [hinv, nbs_yes n1 (by simpa using c2)]; rfl, hf'.step at' _ n1 hor⟩ | exact ⟨hi', by rw [hinv, nbs_no (fun h => by obtain ⟨h1, h2⟩ := h; first | omega | (simp_all; done))], hf'⟩
    · try simp only [Bool.not_eq_true', Bool.not_eq_false'] at g1
      have n1 := g1; try simp only [nrm] at n1
      simp only [go_sem, hx, g1]
      refine hR _ _ (kq7 _ _ ?_); clear hR R; try clear kq7 kz7
      try simp only [go_sem, hx]
      refine W_cond_false rfl ?_
      refine W_skip (kq4 _ _ ?_)
      refine W_region [0, 1, 3, 10, 11, 12] fun R hR => ?_   -- r6
      simp only [go_sem, hx]
      try simp (disch := omega) only [wrapI, wrapU]
      refine hR _ _ ?_; clear hR R
      try simp only [go_sem, hx]
      refine ⟨(i + 1, far', q', n'), ?_, by (try simp only []); omega, ?_⟩
      · refine Weak.trans (Weak.cutX 6 1 (by omega) (by omega) hcl (by simp only [go_sem] <;> omega) (by simp only [go_sem] <;> omega)) ?_
        simp only [go_sem]
        exact Weak.eq (by first | rfl | (simp only [go_sem]; done) | (simp only [go_sem]; rfl) | (simp [go_sem]; done) | (simp [go_sem]; omega)) (by first | rfl | (simp only [go_sem]; done) | (simp [go_sem]; done))
      · try dsimp only
        first | exact ⟨hi', by rw [hinv, nbs_yes n1 (by simpa using c2)]; rfl, hf'.step at' _ n1 hor⟩ | exact ⟨hi', by rw [hinv, nbs_no (fun h => by obtain ⟨h1, h2⟩ := h; first | omega | (simp_all; done))], hf'⟩
  · -- c1 false
    try simp only [nrm] at c1
    have hdrop : t.streets.drop i = [] := List.drop_eq_nil_of_le (by omega)
    rw [hdrop] at hinv
    simp only [nbs, bstepsN] at hinv
    refine W_exit ?_
    simp only [go_sem]
    try simp only [go_sem]
    refine ⟨.inl (by trivial), ?_⟩
    rw [hinv]; exact Fin_end (CleanSg_ext hcl (by show CleanLs _ _ _ _; simp only [go_sem] <;> omega)) (by simp only [go_sem]) (by simp only [go_sem]) (by simp only [go_sem]) rfl (Wk_eq rfl (by simp only [go_sem]))
    try simp only [go_sem]
    all_goals
      skip
set_option maxHeartbeats 4000000 in
theorem Way1b_pc (Y : YEnv) (σ : Sg) (hτ : CleanSg σ) (t : Town) (cl : List Int) (far : List (Int × Int)) (q : List Int) (n m : Nat) (at' best : Int) (hs : t.streets.length < 2 ^ 40) (hc : cl.length < 2 ^ 40) (hN : t.rooms.length < 2 ^ 40) (hv : ∀ s, s ∈ t.streets → 0 ≤ s.1 ∧ s.1 < t.rooms.length ∧ 0 ≤ s.2 ∧ s.2 < t.rooms.length) (h0 : 0 ≤ (aget at' far).getD 0) (h1 : (aget at' far).getD 0 ≤ 2 ^ 40) :
    PC Try.prog Y 116 [I at', .func (.func 119) [] [.ptr (σ.store.length + 3) 0, .ptr (σ.store.length + 5) 0, .ptr (σ.store.length + 6) 0], .ptr σ.store.length 0, .ptr (σ.store.length + 1) 0] (σ.ext [some (twCells t), some [ints cl], some (.mark :: mapE I I far), some [.map (σ.store.length + 2)], some [.isl (q.map I) (.tok σ.rooms.length n 1)], some [I at'], some [I best]] [n, m]) (.tuple []) (σ.ext [some (twCells t), some [ints cl], some (.mark :: mapE I I far), some [.map (σ.store.length + 2)], some [.isl (q.map I) (.tok σ.rooms.length n 1)], some [I at'], some [I (bmins far at' (nbs cl at' t.streets 0) best)]] [n, m]) := by
  refine PC_of_W Try.func116 rfl (by kernel_rfl) Try.ntmps116 (by simp) fun hcl hca => ?_
  clear hcl
  have hcl := hτ
  obtain ⟨res, hres⟩ : ∃ r, (bmins far at' (nbs cl at' t.streets 0) best) = r := ⟨_, rfl⟩
  rw [hres]
  refine W_seq fun kz1 kq1 => ?_
  refine W_region [0, 1, 3, 10, 11, 12] fun R hR => ?_   -- r0
  simp only [go_sem]
  refine hR _ _ (kq1 _ _ ?_); clear hR R; try clear kq1 kz1
  try simp only [go_sem]
  refine W_block ?_
  refine W_loopT (α := Nat × Int) (fun ⟨i, b⟩ => [(12, I i)]) (fun ⟨i, b⟩ => σ.ext [some (twCells t), some [ints cl], some (.mark :: mapE I I far), some [.map (σ.store.length + 2)], some [.isl (q.map I) (.tok σ.rooms.length n 1)], some [I at'], some [I b]] [n, m]) (fun ⟨i, b⟩ => i ≤ t.streets.length ∧ res = bmins far at' (nbs cl at' (t.streets.drop i) i) b) (fun ⟨i, b⟩ => t.streets.length - i) ((0, best)) rfl (by first | rfl | (simp only [go_sem]; done) | (simp only [go_sem]; rfl)) (⟨Nat.zero_le _, hres.symm⟩) ?_
  rintro ⟨i, b⟩ ⟨hi, hinv⟩
  refine W_seq fun kz2 kq2 => ?_
  refine W_region [0, 1, 3, 10, 11, 12, 13] fun R hR => ?_   -- r1
  simp only [go_sem]
  refine hR _ _ (kq2 _ _ ?_); clear hR R; try clear kq2 kz2
  try simp only [go_sem]
  refine W_seq fun kz3 kq3 => ?_
  refine W_cond rfl (fun c1 => ?_) (fun c1 => ?_)
  · -- c1 true
    try simp only [nrm] at c1
    have hi' : i < t.streets.length := by first | assumption | omega
    obtain ⟨s, hx⟩ : ∃ s, t.streets[i]? = some s := ⟨t.streets[i], by simp [hi']⟩
    have hdrop : t.streets.drop i = s :: t.streets.drop (i + 1) := by
      rw [List.drop_eq_getElem_cons hi']; congr 1; exact (List.getElem?_eq_some_iff.1 hx).2
    have hsm : s ∈ t.streets := List.mem_of_getElem? hx
    obtain ⟨v0, v1, v2, v3⟩ := hv s hsm
    have hor : other s at' < t.rooms.length := by unfold other; split <;> (try split) <;> omega
    rw [hdrop] at hinv
    refine W_skip (kq3 _ _ ?_)
    refine W_seq fun kz4 kq4 => ?_
    refine W_block ?_
    refine W_seq fun kz5 kq5 => ?_
    refine W_region [0, 1, 3, 6, 7, 10, 11, 12] fun R hR => ?_   -- r2
    simp only [go_sem, hx]
    refine hR _ _ (kq5 _ _ ?_); clear hR R; try clear kq5 kz5
    try simp only [go_sem, hx]
    refine W_seq fun kz6 kq6 => ?_
    refine W_region [0, 1, 3, 6, 8, 10, 11, 12] fun R hR => ?_   -- r3
    simp only [go_sem, hx]
    refine GCall_of (cother_pc Y _ s at') ?_   -- t19
    simp only [go_sem, hx]
    refine hR _ _ (kq6 _ _ ?_); clear hR R; try clear kq6 kz6
    try simp only [go_sem, hx]
    refine W_seq fun kz7 kq7 => ?_
    refine W_region [0, 1, 3, 8, 10, 11, 12, 27] fun R hR => ?_   -- r4
    simp only [go_sem, hx]
    refine GWant_split (fun g1 => ?_) (fun g1 => ?_)
    · try simp only [Bool.not_eq_true', Bool.not_eq_false'] at g1
      have n1 := g1; try simp only [nrm] at n1
      simp only [go_sem, hx, g1]
      refine GCall_of (Contains_pc Y _ cl (i : Int) .ro (by omega)) ?_   -- t25
      simp only [go_sem, hx, g1]
      refine hR _ _ (kq7 _ _ ?_); clear hR R; try clear kq7 kz7
      try simp only [go_sem, hx]
      refine W_cond rfl (fun c2 => ?_) (fun c2 => ?_)
      · -- c2 true
        try simp only [nrm] at c2
        refine W_region [0, 1, 3, 10, 11, 12] fun R hR => ?_   -- r5
        simp only [go_sem, hx]
        refine GCall_of (Way3_pc Y σ hτ t cl far q n m at' (other s at') b s.1 s.2 h0 h1) ?_   -- t30
        simp only [go_sem, hx]
        refine hR _ _ (kq4 _ _ ?_); clear hR R; try clear kq4 kz4
        try simp only [go_sem, hx]
        refine W_region [0, 1, 3, 10, 11, 12] fun R hR => ?_   -- r6
        simp only [go_sem, hx]
        try simp (disch := omega) only [wrapI, wrapU]
        refine hR _ _ ?_; clear hR R
        try simp only [go_sem, hx]
        refine ⟨(i + 1, bmin (nearer far at' (other s at')) b (other s at')), ?_, by (try simp only []); omega, ?_⟩
        · refine Weak.trans (Weak.cutX 7 2 (by omega) (by omega) hcl (by simp only [go_sem] <;> omega) (by simp only [go_sem] <;> omega)) ?_
          simp only [go_sem]
          exact Weak.eq (by first | rfl | (simp only [go_sem]; done) | (simp only [go_sem]; rfl) | (simp [go_sem]; done) | (simp [go_sem]; omega)) (by first | rfl | (simp only [go_sem]; done) | (simp [go_sem]; done))
        · try dsimp only
          first | exact ⟨hi', by rw [hinv, nbs_yes n1 (by simpa using c2)]; rfl⟩ | exact ⟨hi', by rw [hinv, nbs_no (fun h => by obtain ⟨h1, h2⟩ := h; first | omega | (simp_all; done))]⟩
      · -- c2 false
        try simp only [nrm] at c2
        refine W_skip (kq4 _ _ ?_)
        refine W_region [0, 1, 3, 10, 11, 12] fun R hR => ?_   -- r6
        simp only [go_sem, hx]
        try simp (disch := omega) only [wrapI, wrapU]
        refine hR _ _ ?_; clear hR R
        try simp only [go_sem, hx]
        refine ⟨(i + 1, b), ?_, by (try simp only []); omega, ?_⟩
        · refine Weak.trans (Weak.cutX 7 2 (by omega) (by omega) hcl (by simp only [go_sem] <;> omega) (by simp only [go_sem] <;> omega)) ?_
          simp only [go_sem]
          exact Weak.eq (by first | rfl | (simp only [go_sem]; done) | (simp only [go_sem]; rfl) | (simp [go_sem]; done) | (simp [go_sem]; omega)) (by first | rfl | (simp only [go_sem]; done) | (simp [go_sem]; done))
        · try dsimp only
          first | exact ⟨hi', by rw [hinv, nbs_yes n1 (by simpa using c2)]; rfl⟩ | exact ⟨hi', by rw [hinv, nbs_no (fun h => by obtain ⟨h1, h2⟩ := h; first | omega | (simp_all; done))]⟩
    · try simp only [Bool.not_eq_true', Bool.not_eq_false'] at g1
      have n1 := g1; try simp only [nrm] at n1
      simp only [go_sem, hx, g1]
      refine hR _ _ (kq7 _ _ ?_); clear hR R; try clear kq7 kz7
      try simp only [go_sem, hx]
      refine W_cond_false rfl ?_
      refine W_skip (kq4 _ _ ?_)
      refine W_region [0, 1, 3, 10, 11, 12] fun R hR => ?_   -- r6
      simp only [go_sem, hx]
      try simp (disch := omega) only [wrapI, wrapU]
      refine hR _ _ ?_; clear hR R
      try simp only [go_sem, hx]
      refine ⟨(i + 1, b), ?_, by (try simp only []); omega, ?_⟩
      · refine Weak.trans (Weak.cutX 7 2 (by omega) (by omega) hcl (by simp only [go_sem] <;> omega) (by simp only [go_sem] <;> omega)) ?_
        simp only [go_sem]
        exact Weak.eq (by first | rfl | (simp only [go_sem]; done) | (simp only [go_sem]; rfl) | (simp [go_sem]; done) | (simp [go_sem]; omega)) (by first | rfl | (simp only [go_sem]; done) | (simp [go_sem]; done))
      · try dsimp only
        first | exact ⟨hi', by rw [hinv, nbs_yes n1 (by simpa using c2)]; rfl⟩ | exact ⟨hi', by rw [hinv, nbs_no (fun h => by obtain ⟨h1, h2⟩ := h; first | omega | (simp_all; done))]⟩
  · -- c1 false
    try simp only [nrm] at c1
    have hdrop : t.streets.drop i = [] := List.drop_eq_nil_of_le (by omega)
    rw [hdrop] at hinv
    simp only [nbs, bmins] at hinv
    refine W_exit ?_
    simp only [go_sem]
    try simp only [go_sem]
    refine ⟨.inl (by trivial), ?_⟩
    rw [hinv]; exact Fin_end (CleanSg_ext hcl (by show CleanLs _ _ _ _; simp only [go_sem] <;> omega)) (by simp only [go_sem]) (by simp only [go_sem]) (by simp only [go_sem]) rfl (Wk_eq rfl (by simp only [go_sem]))
    try simp only [go_sem]
    all_goals
      skip
end Go.Proofs.Ytnpamcpoaklgeaa
namespace Go.Proofs.Ytnpamcpoaklgeaa
def backs (far : List (Int × Int)) (nb : Int → List Int) (n : Int) (to' : Int) : Nat → Int → List Int → List Int
  | 0, _, acc => acc
  | k + 1, at', acc => if at' = to' then acc else backs far nb n to' k (bmins far at' (nb at') n) (acc ++ [bmins far at' (nb at') n])
theorem bmins_spec (far : List (Int × Int)) (at' : Int) : ∀ (os : List Int) (b : Int), (bmins far at' os b = b ∨ (bmins far at' os b ∈ os ∧ nearer far at' (bmins far at' os b) = true)) ∧ bmins far at' os b ≤ b ∧ ∀ o, o ∈ os → nearer far at' o = true → bmins far at' os b ≤ o := by
  intro os
  induction os with
  | nil => intro b; exact ⟨.inl rfl, Int.le_refl _, fun o ho => by cases ho⟩
  | cons o os ih =>
    intro b
    simp only [bmins]
    obtain ⟨h1, h2, h3⟩ := ih (bmin (nearer far at' o) b o)
    have hb : bmin (nearer far at' o) b o = if nearer far at' o = true then min b o else b := rfl
    by_cases hn : nearer far at' o = true
    · rw [if_pos hn] at hb
      rw [hb] at h1 h2 h3 ⊢
      refine ⟨?_, by omega, fun x hx hxn => ?_⟩
      · rcases h1 with h1 | ⟨h1, h1'⟩
        · rw [h1]
          by_cases hle : b ≤ o
          · left; omega
          · right
            have : min b o = o := by omega
            rw [this]
            exact ⟨by simp, hn⟩
        · exact .inr ⟨List.mem_cons_of_mem _ h1, h1'⟩
      · rcases List.mem_cons.1 hx with rfl | hx
        · omega
        · exact h3 x hx hxn
    · rw [if_neg hn] at hb
      rw [hb] at h1 h2 h3 ⊢
      refine ⟨?_, h2, fun x hx hxn => ?_⟩
      · rcases h1 with h1 | ⟨h1, h1'⟩
        · exact .inl h1
        · exact .inr ⟨List.mem_cons_of_mem _ h1, h1'⟩
      · rcases List.mem_cons.1 hx with rfl | hx
        · exact absurd hxn hn
        · exact h3 x hx hxn
theorem nearer_iff {far : List (Int × Int)} {at' o d : Int} (h : aget at' far = some d) : nearer far at' o = true ↔ aget o far = some (d - 1) := by
  unfold nearer
  rw [h]
  cases aget o far with
  | none => simp
  | some v => simp
section
variable {nb : Int → List Int} {to' from' : Int} {N : Nat} {far : List (Int × Int)}
/-- A step back. -/
theorem back_ok (hf : FarOK nb to' from' far) (hn : ∀ u o, o ∈ nb u → 0 ≤ o ∧ o < N) {D d at' : Int} (hD : aget from' far = some D) (ha : aget at' far = some d) (hd : d ≤ D) (hne : at' ≠ to') :
    1 ≤ d ∧ aget (bmins far at' (nb at') N) far = some (d - 1) ∧ bmins far at' (nb at') N ∈ nb at' ∧ ∀ o, o ∈ nb at' → aget o far = some (d - 1) → bmins far at' (nb at') N ≤ o := by
  obtain ⟨d0, dd⟩ := hf.dist _ _ ha
  have hd1 : 1 ≤ d := by
    by_cases h : d = 0
    · subst h
      have := dd.1
      simp only [Int.toNat_zero, Reach] at this
      exact absurd this hne
    · omega
  have hr := dd.1
  have e : d.toNat = (d - 1).toNat + 1 := by omega
  rw [e] at hr
  obtain ⟨u, hu, hru⟩ := hr
  obtain ⟨k, hk⟩ := hf.all D hD _ _ hru (by omega)
  obtain ⟨k0, dk⟩ := hf.dist _ _ hk
  have hdu : Dist nb to' u (d - 1).toNat := ⟨hru, fun j hj => by have := dd.2 (j + 1) ⟨u, hu, hj⟩; omega⟩
  have hkk : k = d - 1 := by have := dk.uniq hdu; omega
  subst hkk
  obtain ⟨h1, h2, h3⟩ := bmins_spec far at' (nb at') N
  have hnu : nearer far at' u = true := (nearer_iff ha).2 hk
  have hle := h3 u hu hnu
  have hun := hn _ _ hu
  rcases h1 with h1 | ⟨h1, h1'⟩
  · omega
  · exact ⟨hd1, (nearer_iff ha).1 h1', h1, fun o ho hoo => h3 o ho ((nearer_iff ha).2 hoo)⟩
end
theorem other_sym {s : Int × Int} {u v : Int} (h0 : 0 ≤ u) (hv : 0 ≤ v) (h : v = other s u) : u = other s v := by
  subst h
  unfold other at hv ⊢
  by_cases h1 : u = s.1
  · rw [if_pos h1] at hv ⊢
    by_cases h2 : s.2 = s.1
    · rw [if_pos h2, h2]; exact h1
    · rw [if_neg h2, if_pos rfl]; exact h1
  · rw [if_neg h1] at hv ⊢
    by_cases h2 : u = s.2
    · rw [if_pos h2, if_pos rfl]; exact h2
    · rw [if_neg h2] at hv; omega
/-- The streets that are open, from a square; none from where no square is. -/
def nbT (t : Town) (cl : List Int) (sq : Int) : List Int := nbs cl sq t.streets 0
def ValidSt (t : Town) : Prop := ∀ s, s ∈ t.streets → 0 ≤ s.1 ∧ s.1 < t.rooms.length ∧ 0 ≤ s.2 ∧ s.2 < t.rooms.length
theorem nbT_bd {t : Town} {cl : List Int} (hv : ValidSt t) (u o : Int) (h : o ∈ nbT t cl u) : 0 ≤ o ∧ o < t.rooms.length := by
  obtain ⟨k, s, h1, h2, h3, _⟩ := nbs_mem.1 h
  obtain ⟨a, b, c, d⟩ := hv s (List.mem_of_getElem? h1)
  subst h2
  refine ⟨h3, ?_⟩
  unfold other
  split
  · exact d
  · split
    · exact b
    · omega
theorem nbT_from {t : Town} {cl : List Int} (hv : ValidSt t) {u o : Int} (h : o ∈ nbT t cl u) : 0 ≤ u ∧ u < t.rooms.length := by
  obtain ⟨k, s, h1, h2, h3, _⟩ := nbs_mem.1 h
  obtain ⟨a, b, c, d⟩ := hv s (List.mem_of_getElem? h1)
  subst h2
  unfold other at h3
  split at h3
  · rename_i e; rw [e]; exact ⟨a, b⟩
  · split at h3
    · rename_i e; rw [e]; exact ⟨c, d⟩
    · omega
theorem nbT_sym {t : Town} {cl : List Int} (hv : ValidSt t) (u v : Int) (h : u ∈ nbT t cl v) : v ∈ nbT t cl u := by
  have hv0 := nbT_from hv h
  obtain ⟨k, s, h1, h2, h3, h4⟩ := nbs_mem.1 h
  exact nbs_mem.2 ⟨k, s, h1, other_sym hv0.1 h3 h2, hv0.1, h4⟩
def wayFar (t : Town) (cl : List Int) (from' to' : Int) : List (Int × Int) := bfs (nbT t cl) from' (2 * t.rooms.length) [(to', 0)] [to']
def wayAns (t : Town) (cl : List Int) (from' to' : Int) : List Int × Int :=
  if closedAns t cl ≠ 0 then ([], closedAns t cl) else if !(allIn 0 ((t.rooms.length : Int) - 1) [from', to']) then ([], 7) else
  if (aget from' (wayFar t cl from' to')).isSome then (backs (wayFar t cl from' to') (nbT t cl) t.rooms.length to' (t.rooms.length + 1) from' [from'], 0) else ([], 7)
theorem wayFar_ok {t : Town} {cl : List Int} (hv : ValidSt t) {from' to' : Int} (h0 : 0 ≤ to') (h1 : to' < t.rooms.length) : FarOK (nbT t cl) to' from' (wayFar t cl from' to') := by
  refine bfs_ok (N := t.rooms.length) (nbT_sym hv) (nbT_bd hv) _ _ _ 0 (BI.start h0 h1) ?_ (fun e he => by simp at he)
  simp only [meas, List.length_cons, List.length_nil]
  omega
end Go.Proofs.Ytnpamcpoaklgeaa
