/-
  The law BandTrue: whatever comes in, it answers true and leaves what came in as it was.
  The law BandTrue, walked: whatever the true start is.
  The law BandAsleep, walked: the city sleeps as long as it is owed.
  Walk: where a band is (bateriaref07.At).
  Where a band may be, and how long a square sleeps: the plain law.
  Walks: a number in a list; streets that are closed.
  Plain law: two bands cross, minute by minute.
  Plain law: two searches for the best choice of bands find the same.
  Plain law: choices of bands: lists of numbers in order, sets as numbers, what is better.
  Walks: the reference's requests, permits, choices (bateriaref07).
  Plain law: what is said to requests.
  Walks: who is granted; true starts; squares; the laws' data.
  Cities and bands made of numbers are valid.
  Walks: the chapter's examples (baterialaw07).
  Parts of slices at this seat's types.
  Walks: permits, one after the other (band).
  Walks: requests of bands (band).
  Walks: cities and bands made of numbers (bateriakit).
  Towns made of numbers are valid.
  Walks: towns made of numbers (bateriakit).
-/
import Derived.Test.YtnpamcpoaklgeaaPd
import Derived.CallsIn
import Derived.RangeFuncLeaves
import Derived.RangeFuncRecord
import Derived.OrdersIn
import Derived.Below
import Derived.Laws.World
import Derived.Laws.StructEq
import Derived.Laws.Append
import Derived.MapKept
import Derived.ProofKit
import Derived.Carry
import Derived.Handed
import Derived.ChangeCalls
import Derived.RangeFuncIn
import Derived.RangeFuncNested
import Derived.Test.YtnpamcpoaklgeaaProg
import Derived.KernelRfl
import Derived.IntWalk
import Derived.Test.YtnpamcpoaklgeaaRows
import Derived.Sort.OwnSortedInts
import Derived.Lib.SlicesCompact
import Derived.Shelf.Sort.Plain
import Derived.Shelf.Slices.In.SortNone
import Derived.Shelf.Slices.CompactI
import Derived.JoinedOf
set_option linter.unusedSimpArgs false
set_option linter.unusedVariables false
namespace Go.Proofs.Ytnpamcpoaklgeaa
open Go Go.RowKit
set_option maxRecDepth 100000
def pathD (sts : List (Int × Int)) (g : Group) : Nat → Int → List Int → D Group
  | 0, _, acc => dret { g with path := acc }
  | k + 1, at', acc => dbind (roll sts.length) fun s => if 0 ≤ other ((sts[s.toNat]?).getD (0, 0)) at' then pathD sts g k (other ((sts[s.toNat]?).getD (0, 0)) at') (acc ++ [s]) else pathD sts g k at' acc
def groupD (n : Int) (sts : List (Int × Int)) : D Group := dbind (anyOf [30, 90]) fun x => dbind (spanOf 0 x) fun sz => dbind (anyOf [0, 4]) fun y => dbind (spanOf 0 y) fun a => dbind (mid 1 4) fun stay => dbind (roll n) fun f => dbind (roll 5) fun k =>
  pathD sts ⟨sz.1, sz.2, a.1, a.2, stay, f, []⟩ (if 0 < sts.length then k.toNat else 0) f []
def townC (steps n : Int) (rooms : List Int) (sts : List (Int × Int)) : Nat → List Group → D Town
  | 0, acc => dret ⟨rooms, sts, acc, steps⟩
  | k + 1, acc => dbind (groupD n sts) fun g => townC steps n rooms sts k (acc ++ [g])
def townB (gr steps n : Int) (rooms : List Int) : Nat → List (Int × Int) → D Town
  | 0, acc => dbind (roll (gr + 1)) fun g => townC steps n rooms acc g.toNat []
  | k + 1, acc => dbind (roll n) fun a => dbind (mid 1 (n - 1)) fun m => townB gr steps n rooms k (acc ++ [(a, fit (a + m) n)])
def townA (st gr steps n : Int) : Nat → List Int → D Town
  | 0, acc => dbind (roll (st + 1)) fun m => townB gr steps n acc (if 1 < n then m.toNat else 0) []
  | k + 1, acc => dbind (roll 60) fun x => dbind (roll 150) fun y => dbind (anyOf [x, y, 500]) fun z => townA st gr steps n k (acc ++ [z])
def townD (sq st gr : Int) : D Town := dbind (anyOf [4, 11]) fun x => dbind (roll x) fun steps => dbind (mid 1 sq) fun n => townA st gr steps n n.toNat []
theorem mem2 {a b r : Int} (h : r ∈ [a, b]) : r = a ∨ r = b := by simpa using h
theorem mem3 {a b c r : Int} (h : r ∈ [a, b, c]) : r = a ∨ r = b ∨ r = c := by simpa using h
set_option maxHeartbeats 4000000 in
theorem TownOf_pc (Y : YEnv) (σ : Sg) (d : Nat) (b : Int) (hd : σ.store[d]? = some (some [.int .u64 b])) (sq st gr : Int) (hs1 : 1 ≤ sq) (hs2 : sq ≤ 1000) (ht1 : 0 ≤ st) (ht2 : st ≤ 1000) (hg1 : 0 ≤ gr) (hg2 : gr ≤ 1000) :
    PC Try.prog Y 62 [.ptr d 0, I sq, I st, I gr] σ (twPV (townD sq st gr b).1) (σ.setVar d [.int .u64 (townD sq st gr b).2]) := by
  refine PC_of_W Try.func62 rfl (by kernel_rfl) Try.ntmps62 (by simp) fun hcl hca => ?_
  have hlt := lt_of_get hd
  obtain ⟨res, hres⟩ : ∃ r, townD sq st gr b = r := ⟨_, rfl⟩
  rw [hres]
  obtain ⟨x0, hx0⟩ : ∃ zz, (anyOf [4, 11] b).1 = zz := ⟨_, rfl⟩
  obtain ⟨b1, hb1⟩ : ∃ zz, (anyOf [4, 11] b).2 = zz := ⟨_, rfl⟩
  have dx0 := anyOf_mem [4, 11] (by simp) b
  simp only [hx0] at dx0
  obtain ⟨steps, hsteps⟩ : ∃ zz, (roll x0 b1).1 = zz := ⟨_, rfl⟩
  obtain ⟨b2, hb2⟩ : ∃ zz, (roll x0 b1).2 = zz := ⟨_, rfl⟩
  have dsteps := roll_bd x0 b1
  simp only [hsteps] at dsteps
  obtain ⟨n, hn⟩ : ∃ zz, (mid 1 sq b2).1 = zz := ⟨_, rfl⟩
  obtain ⟨b3, hb3⟩ : ∃ zz, (mid 1 sq b2).2 = zz := ⟨_, rfl⟩
  have dn := mid_bd 1 sq hs1 b2
  simp only [hn] at dn
  have dx1 := mem2 dx0
  simp only [townD, dbind, hx0, hb1, hsteps, hb2, hn, hb3] at hres
  have hnn : n - ((n.toNat : Nat) : Int) = 0 := by omega
  refine W_seq fun kz1 kq1 => ?_
  refine W_region [0, 1, 2, 3, 8] fun R hR => ?_   -- r0
  simp only [go_sem, ldS_at hd, stX_at hd, ldS_sv hlt, stX_sv hlt, sv_ext hlt, sv_ext_sv hlt, hx0, hb1, hsteps, hb2, hn, hb3]
  refine hR _ _ (kq1 _ _ ?_); clear hR R; try clear kq1 kz1
  try simp only [go_sem, ldS_at hd, stX_at hd, ldS_sv hlt, stX_sv hlt, sv_ext hlt, sv_ext_sv hlt, hx0, hb1, hsteps, hb2, hn, hb3]
  refine W_seq fun kz2 kq2 => ?_
  refine W_region [0, 1, 2, 3, 8, 9] fun R hR => ?_   -- r1
  simp only [go_sem, ldS_at hd, stX_at hd, ldS_sv hlt, stX_sv hlt, sv_ext hlt, sv_ext_sv hlt, hx0, hb1, hsteps, hb2, hn, hb3]
  refine GCall_of (Any_pc Y _ d b (by first | exact hd | exact sv_get hlt | exact get_svx hlt | exact get_extx hd) [4, 11] (by simp) (by simp)) ?_   -- t23
  simp only [go_sem, ldS_at hd, stX_at hd, ldS_sv hlt, stX_sv hlt, sv_ext hlt, sv_ext_sv hlt, hx0, hb1, hsteps, hb2, hn, hb3]
  refine GCall_of (Roll_pc Y _ d b1 (by first | exact hd | exact sv_get hlt | exact get_svx hlt | exact get_extx hd) x0 (by omega)) ?_   -- t24
  simp only [go_sem, ldS_at hd, stX_at hd, ldS_sv hlt, stX_sv hlt, sv_ext hlt, sv_ext_sv hlt, hx0, hb1, hsteps, hb2, hn, hb3]
  refine hR _ _ (kq2 _ _ ?_); clear hR R; try clear kq2 kz2
  try simp only [go_sem, ldS_at hd, stX_at hd, ldS_sv hlt, stX_sv hlt, sv_ext hlt, sv_ext_sv hlt, hx0, hb1, hsteps, hb2, hn, hb3]
  refine W_seq fun kz3 kq3 => ?_
  refine W_region [0, 2, 3, 8, 9, 10] fun R hR => ?_   -- r2
  simp only [go_sem, ldS_at hd, stX_at hd, ldS_sv hlt, stX_sv hlt, sv_ext hlt, sv_ext_sv hlt, hx0, hb1, hsteps, hb2, hn, hb3]
  refine GCall_of (Mid_pc Y _ d b2 (by first | exact hd | exact sv_get hlt | exact get_svx hlt | exact get_extx hd) 1 sq (by omega) (by omega) (by omega) (by omega)) ?_   -- t28
  simp only [go_sem, ldS_at hd, stX_at hd, ldS_sv hlt, stX_sv hlt, sv_ext hlt, sv_ext_sv hlt, hx0, hb1, hsteps, hb2, hn, hb3]
  refine hR _ _ (kq3 _ _ ?_); clear hR R; try clear kq3 kz3
  try simp only [go_sem, ldS_at hd, stX_at hd, ldS_sv hlt, stX_sv hlt, sv_ext hlt, sv_ext_sv hlt, hx0, hb1, hsteps, hb2, hn, hb3]
  refine W_seq fun kz4 kq4 => ?_
  refine W_seq fun kz5 kq5 => ?_
  refine W_region [0, 2, 3, 8, 9, 10, 11] fun R hR => ?_   -- r3
  simp only [go_sem, ldS_at hd, stX_at hd, ldS_sv hlt, stX_sv hlt, sv_ext hlt, sv_ext_sv hlt, hx0, hb1, hsteps, hb2, hn, hb3]
  refine hR _ _ (kq5 _ _ ?_); clear hR R; try clear kq5 kz5
  try simp only [go_sem, ldS_at hd, stX_at hd, ldS_sv hlt, stX_sv hlt, sv_ext hlt, sv_ext_sv hlt, hx0, hb1, hsteps, hb2, hn, hb3]
  refine W_block ?_
  refine W_weak (Weak.roomSV (j := 1) (off := 0) (es := 1) rfl rfl (by simp)) ?_
  simp only [go_sem, ldS_at hd, stX_at hd, ldS_sv hlt, stX_sv hlt, sv_ext hlt, sv_ext_sv hlt, hx0, hb1, hsteps, hb2, hn, hb3]
  refine W_loopT (α := Nat × (List Int) × Int) (fun ⟨k, acc, b⟩ => [(11, I (n - (k : Int)))]) (fun ⟨k, acc, b⟩ => (σ.setVar d [.int .u64 b]).ext [some [.isl [] .exact, .isl [] .exact, .isl [] .exact, I 0], some [.isl (acc.map I) (.tok σ.rooms.length acc.length 1), .isl [] .exact, .isl [] .exact, I steps]] [acc.length]) (fun ⟨k, acc, b⟩ => (k : Int) ≤ n ∧ acc.length + k ≤ 2000 ∧ res = townA st gr steps n k acc b) (fun ⟨k, acc, b⟩ => k) ((n.toNat, [], b3)) (by simp only [go_sem, hnn]) (by first | rfl | (simp only [go_sem]; done) | (simp only [go_sem]; rfl)) (⟨by (try dsimp only); omega, by (try dsimp only); simp; omega, hres.symm⟩) ?_
  rintro ⟨k, acc, b⟩ ⟨hk, hal, hinv⟩
  refine W_seq fun kz6 kq6 => ?_
  refine W_seq fun kz7 kq7 => ?_
  refine W_region [0, 2, 3, 8, 9, 10, 11, 31] fun R hR => ?_   -- r4
  simp only [go_sem, ldS_at hd, stX_at hd, ldS_sv hlt, stX_sv hlt, sv_ext hlt, sv_ext_sv hlt, hx0, hb1, hsteps, hb2, hn, hb3]
  refine hR _ _ (kq7 _ _ ?_); clear hR R; try clear kq7 kz7
  try simp only [go_sem, ldS_at hd, stX_at hd, ldS_sv hlt, stX_sv hlt, sv_ext hlt, sv_ext_sv hlt, hx0, hb1, hsteps, hb2, hn, hb3]
  refine W_cond rfl (fun c1 => ?_) (fun c1 => ?_)
  · -- c1 true
    try simp only [nrm] at c1
    obtain ⟨k, rfl⟩ : ∃ j, k = j + 1 := ⟨k - 1, by omega⟩
    obtain ⟨x, hx⟩ : ∃ zz, (roll 60 b).1 = zz := ⟨_, rfl⟩
    obtain ⟨b4, hb4⟩ : ∃ zz, (roll 60 b).2 = zz := ⟨_, rfl⟩
    have dx := roll_bd 60 b
    simp only [hx] at dx
    obtain ⟨y, hy⟩ : ∃ zz, (roll 150 b4).1 = zz := ⟨_, rfl⟩
    obtain ⟨b5, hb5⟩ : ∃ zz, (roll 150 b4).2 = zz := ⟨_, rfl⟩
    have dy := roll_bd 150 b4
    simp only [hy] at dy
    obtain ⟨z, hz⟩ : ∃ zz, (anyOf [x, y, 500] b5).1 = zz := ⟨_, rfl⟩
    obtain ⟨b6, hb6⟩ : ∃ zz, (anyOf [x, y, 500] b5).2 = zz := ⟨_, rfl⟩
    have dz := anyOf_mem [x, y, 500] (by simp) b5
    simp only [hz] at dz
    simp only [townA, dbind, hx, hb4, hy, hb5, hz, hb6] at hinv
    refine W_skip (kq6 _ _ ?_)
    refine W_seq fun kz8 kq8 => ?_
    refine W_block ?_
    refine W_draw [0, 2, 3, 8, 9, 10, 11] [0, 1, 2, 3, 4, 5, 6, 7, 8, 9, 10, 11, 12] [(0, 6), (0, 8), (0, 10), (1, 6), (1, 8), (1, 10), (2, 6), (2, 8), (5, 4)] [[], [0], [], [], [3], [], [3, 4, 5], [3, 4, 5, 6], [2, 3, 4, 5, 6, 7], [2, 3, 4, 5, 6, 7, 8], [0, 1, 2, 3, 4, 5, 6, 7, 8, 9], [0, 1, 2, 3, 4, 5, 6, 7, 8, 9, 10], [0, 1, 2, 3, 4, 5, 6, 7, 8, 9, 10, 11]] mixed (by kernel_rfl) fun R hR => ?_   -- r6
    simp only [go_sem, ldS_at hd, stX_at hd, ldS_sv hlt, stX_sv hlt, sv_ext hlt, sv_ext_sv hlt, hx0, hb1, hsteps, hb2, hn, hb3, hx, hb4, hy, hb5, hz, hb6]
    refine GCall_of (Roll_pc Y _ d b (by first | exact hd | exact sv_get hlt | exact get_svx hlt | exact get_extx hd) 60 (by omega)) ?_   -- t38
    simp only [go_sem, ldS_at hd, stX_at hd, ldS_sv hlt, stX_sv hlt, sv_ext hlt, sv_ext_sv hlt, hx0, hb1, hsteps, hb2, hn, hb3, hx, hb4, hy, hb5, hz, hb6]
    refine GCall_of (Roll_pc Y _ d b4 (by first | exact hd | exact sv_get hlt | exact get_svx hlt | exact get_extx hd) 150 (by omega)) ?_   -- t40
    simp only [go_sem, ldS_at hd, stX_at hd, ldS_sv hlt, stX_sv hlt, sv_ext hlt, sv_ext_sv hlt, hx0, hb1, hsteps, hb2, hn, hb3, hx, hb4, hy, hb5, hz, hb6]
    refine GCall_of (Any_pc Y _ d b5 (by first | exact hd | exact sv_get hlt | exact get_svx hlt | exact get_extx hd) [x, y, 500] (by simp) (by simp)) ?_   -- t42
    simp only [go_sem, ldS_at hd, stX_at hd, ldS_sv hlt, stX_sv hlt, sv_ext hlt, sv_ext_sv hlt, hx0, hb1, hsteps, hb2, hn, hb3, hx, hb4, hy, hb5, hz, hb6]
    simp (disch := first | omega | (simp only [go_sem] <;> omega)) only [wrapI, wrapU, appX_exact, appX_tok]
    try simp only [go_sem, ldS_at hd, stX_at hd, ldS_sv hlt, stX_sv hlt, sv_ext hlt, sv_ext_sv hlt, hx0, hb1, hsteps, hb2, hn, hb3, hx, hb4, hy, hb5, hz, hb6]
    try refine And.intro (by repeat' (first | refine And.intro ?_ ?_ | exact GOr_right (fun _ => by simp only [go_sem, ldS_at hd, stX_at hd, ldS_sv hlt, stX_sv hlt, sv_ext hlt, sv_ext_sv hlt, hx0, hb1, hsteps, hb2, hn, hb3, hx, hb4, hy, hb5, hz, hb6]))) ?_
    refine hR _ _ (kq8 _ _ ?_); clear hR R; try clear kq8 kz8
    try simp only [go_sem, ldS_at hd, stX_at hd, ldS_sv hlt, stX_sv hlt, sv_ext hlt, sv_ext_sv hlt, hx0, hb1, hsteps, hb2, hn, hb3, hx, hb4, hy, hb5, hz, hb6]
    refine W_region [0, 2, 3, 8, 9, 10, 11] fun R hR => ?_   -- r5
    simp only [go_sem, ldS_at hd, stX_at hd, ldS_sv hlt, stX_sv hlt, sv_ext hlt, sv_ext_sv hlt, hx0, hb1, hsteps, hb2, hn, hb3, hx, hb4, hy, hb5, hz, hb6]
    try simp (disch := omega) only [wrapI, wrapU]
    refine hR _ _ ?_; clear hR R
    try simp only [go_sem, ldS_at hd, stX_at hd, ldS_sv hlt, stX_sv hlt, sv_ext hlt, sv_ext_sv hlt, hx0, hb1, hsteps, hb2, hn, hb3, hx, hb4, hy, hb5, hz, hb6]
    refine ⟨(k, acc ++ [z], b6), ?_, by (try simp only []); omega, ?_⟩
    · first | exact Weak.refl | exact Weak.eq (by first | rfl | (simp only [go_sem]; done) | (simp only [go_sem]; rfl) | (simp [go_sem]; done) | (simp [go_sem]; omega)) (by first | rfl | (simp only [go_sem]; done) | (simp [go_sem]; done))
    · try dsimp only
      exact ⟨by omega, by simp; omega, hinv⟩
  · -- c1 false
    try simp only [nrm] at c1
    obtain rfl : k = 0 := by omega
    obtain ⟨m1, hm1⟩ : ∃ zz, (roll (st + 1) b).1 = zz := ⟨_, rfl⟩
    obtain ⟨b7, hb7⟩ : ∃ zz, (roll (st + 1) b).2 = zz := ⟨_, rfl⟩
    have dm1 := roll_bd (st + 1) b
    simp only [hm1] at dm1
    simp only [townA, dbind, hm1, hb7] at hinv
    clear hres
    have hmt : ((m1.toNat : Nat) : Int) = m1 := by omega
    refine W_exit ?_
    simp only [go_sem, ldS_at hd, stX_at hd, ldS_sv hlt, stX_sv hlt, sv_ext hlt, sv_ext_sv hlt, hx0, hb1, hsteps, hb2, hn, hb3, hm1, hb7]
    refine kq4 _ _ ?_
    refine W_seq fun kz9 kq9 => ?_
    refine W_seq fun kz10 kq10 => ?_
    refine W_region [0, 3, 8, 9, 10, 12] fun R hR => ?_   -- r7
    simp only [go_sem, ldS_at hd, stX_at hd, ldS_sv hlt, stX_sv hlt, sv_ext hlt, sv_ext_sv hlt, hx0, hb1, hsteps, hb2, hn, hb3, hm1, hb7]
    try simp (disch := omega) only [wrapI, wrapU]
    refine GCall_of (Roll_pc Y _ d b (by first | exact hd | exact sv_get hlt | exact get_svx hlt | exact get_extx hd) (st + 1) (by omega)) ?_   -- t49
    simp only [go_sem, ldS_at hd, stX_at hd, ldS_sv hlt, stX_sv hlt, sv_ext hlt, sv_ext_sv hlt, hx0, hb1, hsteps, hb2, hn, hb3, hm1, hb7]
    try simp (disch := omega) only [wrapI, wrapU]
    refine hR _ _ (kq10 _ _ ?_); clear hR R; try clear kq10 kz10
    try simp only [go_sem, ldS_at hd, stX_at hd, ldS_sv hlt, stX_sv hlt, sv_ext hlt, sv_ext_sv hlt, hx0, hb1, hsteps, hb2, hn, hb3, hm1, hb7]
    refine W_block ?_
    refine W_weak (Weak.roomSV (j := 1) (off := 1) (es := 2) rfl rfl (by simp)) ?_
    simp only [go_sem, ldS_at hd, stX_at hd, ldS_sv hlt, stX_sv hlt, sv_ext hlt, sv_ext_sv hlt, hx0, hb1, hsteps, hb2, hn, hb3, hm1, hb7]
    refine W_loopT (α := Nat × (List (Int × Int)) × Int) (fun ⟨k, acs, b⟩ => [(12, I k)]) (fun ⟨k, acs, b⟩ => (σ.setVar d [.int .u64 b]).ext [some [.isl [] .exact, .isl [] .exact, .isl [] .exact, I 0], some [.isl (acc.map I) (.tok σ.rooms.length acc.length 1), .isl (acs.map stPV) (.tok (σ.rooms.length + 1) acs.length 2), .isl [] .exact, I steps]] [acc.length, acs.length]) (fun ⟨k, acs, b⟩ => acs.length + k ≤ 2000 ∧ res = townB gr steps n acc (if 1 < n then k else 0) acs b) (fun ⟨k, acs, b⟩ => k) ((m1.toNat, [], b7)) (by simp only [go_sem, hmt]) (by first | rfl | (simp only [go_sem]; done) | (simp only [go_sem]; rfl)) (⟨by (try dsimp only); simp; omega, hinv⟩) ?_
    rintro ⟨k, acs, b⟩ ⟨hal2, hinv⟩
    refine W_seq fun kz11 kq11 => ?_
    refine W_seq fun kz12 kq12 => ?_
    refine W_regionJ [0, 3, 8, 9, 10, 12, 55] [(55, .bool (decide (0 < (k : Int)) && decide (1 < n)))] ?_ fun R hR => ?_   -- r8
    · refine kq12 _ _ ?_
      simp only [go_sem, ldS_at hd, stX_at hd, ldS_sv hlt, stX_sv hlt, sv_ext hlt, sv_ext_sv hlt, hx0, hb1, hsteps, hb2, hn, hb3, hm1, hb7]
      refine W_cond rfl (fun c2 => ?_) (fun c2 => ?_)
      · -- c2 true
        try simp only [nrm] at c2
        simp only [Bool.and_eq_true, decide_eq_true_eq] at c2
        obtain ⟨k, rfl⟩ : ∃ j, k = j + 1 := ⟨k - 1, by omega⟩
        rw [if_pos c2.2] at hinv
        obtain ⟨a0, ha0⟩ : ∃ zz, (roll n b).1 = zz := ⟨_, rfl⟩
        obtain ⟨b8, hb8⟩ : ∃ zz, (roll n b).2 = zz := ⟨_, rfl⟩
        have da0 := roll_bd n b
        simp only [ha0] at da0
        obtain ⟨m0, hm0⟩ : ∃ zz, (mid 1 (n - 1) b8).1 = zz := ⟨_, rfl⟩
        obtain ⟨b9, hb9⟩ : ∃ zz, (mid 1 (n - 1) b8).2 = zz := ⟨_, rfl⟩
        have dm0 := mid_bd 1 (n - 1) (by omega) b8
        simp only [hm0] at dm0
        have dft := fit_bd (a0 + m0) n
        simp only [townB, dbind, ha0, hb8, hm0, hb9] at hinv
        refine W_skip (kq11 _ _ ?_)
        refine W_seq fun kz13 kq13 => ?_
        refine W_block ?_
        refine W_seq fun kz14 kq14 => ?_
        refine W_region [0, 3, 8, 9, 10, 12, 13] fun R hR => ?_   -- r10
        simp only [go_sem, ldS_at hd, stX_at hd, ldS_sv hlt, stX_sv hlt, sv_ext hlt, sv_ext_sv hlt, hx0, hb1, hsteps, hb2, hn, hb3, hm1, hb7, ha0, hb8, hm0, hb9]
        refine GCall_of (Roll_pc Y _ d b (by first | exact hd | exact sv_get hlt | exact get_svx hlt | exact get_extx hd) n (by omega)) ?_   -- t60
        simp only [go_sem, ldS_at hd, stX_at hd, ldS_sv hlt, stX_sv hlt, sv_ext hlt, sv_ext_sv hlt, hx0, hb1, hsteps, hb2, hn, hb3, hm1, hb7, ha0, hb8, hm0, hb9]
        refine hR _ _ (kq14 _ _ ?_); clear hR R; try clear kq14 kz14
        try simp only [go_sem, ldS_at hd, stX_at hd, ldS_sv hlt, stX_sv hlt, sv_ext hlt, sv_ext_sv hlt, hx0, hb1, hsteps, hb2, hn, hb3, hm1, hb7, ha0, hb8, hm0, hb9]
        refine W_draw [0, 3, 8, 9, 10, 12] [0, 1, 2, 3, 4, 5, 6, 7, 8, 9, 10, 11, 12, 13, 14, 15] [(0, 10), (0, 13), (1, 10), (1, 13), (2, 10), (2, 13), (3, 10), (9, 7)] [[], [0], [], [], [], [], [5], [4, 5, 6], [3, 4, 5, 6, 7], [], [3, 4, 5, 6, 7, 8, 9], [2, 3, 4, 5, 6, 7, 8, 9, 10], [2, 3, 4, 5, 6, 7, 8, 9, 10, 11], [0, 1, 2, 3, 4, 5, 6, 7, 8, 9, 10, 11, 12], [0, 1, 2, 3, 4, 5, 6, 7, 8, 9, 10, 11, 12, 13], [0, 1, 2, 3, 4, 5, 6, 7, 8, 9, 10, 11, 12, 13, 14]] mixed (by kernel_rfl) fun R hR => ?_   -- r11
        simp only [go_sem, ldS_at hd, stX_at hd, ldS_sv hlt, stX_sv hlt, sv_ext hlt, sv_ext_sv hlt, hx0, hb1, hsteps, hb2, hn, hb3, hm1, hb7, ha0, hb8, hm0, hb9]
        try simp (disch := omega) only [wrapI, wrapU]
        refine GCall_of (Mid_pc Y _ d b8 (by first | exact hd | exact sv_get hlt | exact get_svx hlt | exact get_extx hd) 1 (n - 1) (by omega) (by omega) (by omega) (by omega)) ?_   -- t68
        simp only [go_sem, ldS_at hd, stX_at hd, ldS_sv hlt, stX_sv hlt, sv_ext hlt, sv_ext_sv hlt, hx0, hb1, hsteps, hb2, hn, hb3, hm1, hb7, ha0, hb8, hm0, hb9]
        try simp (disch := omega) only [wrapI, wrapU]
        refine GCall_of (Fit_pc Y _ (a0 + m0) n (by omega) (by omega) (by omega)) ?_   -- t71
        simp only [go_sem, ldS_at hd, stX_at hd, ldS_sv hlt, stX_sv hlt, sv_ext hlt, sv_ext_sv hlt, hx0, hb1, hsteps, hb2, hn, hb3, hm1, hb7, ha0, hb8, hm0, hb9]
        simp (disch := first | omega | (simp only [go_sem] <;> omega)) only [wrapI, wrapU, appX_exact, appX_tok]
        try simp only [go_sem, ldS_at hd, stX_at hd, ldS_sv hlt, stX_sv hlt, sv_ext hlt, sv_ext_sv hlt, hx0, hb1, hsteps, hb2, hn, hb3, hm1, hb7, ha0, hb8, hm0, hb9]
        try refine And.intro (by repeat' (first | refine And.intro ?_ ?_ | exact GOr_right (fun _ => by simp only [go_sem, ldS_at hd, stX_at hd, ldS_sv hlt, stX_sv hlt, sv_ext hlt, sv_ext_sv hlt, hx0, hb1, hsteps, hb2, hn, hb3, hm1, hb7, ha0, hb8, hm0, hb9]))) ?_
        refine hR _ _ (kq13 _ _ ?_); clear hR R; try clear kq13 kz13
        try simp only [go_sem, ldS_at hd, stX_at hd, ldS_sv hlt, stX_sv hlt, sv_ext hlt, sv_ext_sv hlt, hx0, hb1, hsteps, hb2, hn, hb3, hm1, hb7, ha0, hb8, hm0, hb9]
        refine W_region [0, 3, 8, 9, 10, 12] fun R hR => ?_   -- r9
        simp only [go_sem, ldS_at hd, stX_at hd, ldS_sv hlt, stX_sv hlt, sv_ext hlt, sv_ext_sv hlt, hx0, hb1, hsteps, hb2, hn, hb3, hm1, hb7, ha0, hb8, hm0, hb9]
        try simp (disch := omega) only [wrapI, wrapU]
        refine hR _ _ ?_; clear hR R
        try simp only [go_sem, ldS_at hd, stX_at hd, ldS_sv hlt, stX_sv hlt, sv_ext hlt, sv_ext_sv hlt, hx0, hb1, hsteps, hb2, hn, hb3, hm1, hb7, ha0, hb8, hm0, hb9]
        refine ⟨(k, acs ++ [(a0, fit (a0 + m0) n)], b9), ?_, by (try simp only []); omega, ?_⟩
        · first | exact Weak.refl | exact Weak.eq (by first | rfl | (simp only [go_sem]; done) | (simp only [go_sem]; rfl) | (simp [go_sem]; done) | (simp [go_sem]; omega)) (by first | rfl | (simp only [go_sem]; done) | (simp [go_sem]; done))
        · try dsimp only
          exact ⟨by simp; omega, by rw [if_pos c2.2]; exact hinv⟩
      · -- c2 false
        try simp only [nrm] at c2
        simp only [Bool.and_eq_false_iff, decide_eq_false_iff_not] at c2
        have hz : (if 1 < n then k else 0) = 0 := by split <;> omega
        rw [hz] at hinv
        obtain ⟨gg, hgg⟩ : ∃ zz, (roll (gr + 1) b).1 = zz := ⟨_, rfl⟩
        obtain ⟨b10, hb10⟩ : ∃ zz, (roll (gr + 1) b).2 = zz := ⟨_, rfl⟩
        have dgg := roll_bd (gr + 1) b
        simp only [hgg] at dgg
        simp only [townB, dbind, hgg, hb10] at hinv
        have hgt : ((gg.toNat : Nat) : Int) = gg := by omega
        refine W_exit ?_
        simp only [go_sem, ldS_at hd, stX_at hd, ldS_sv hlt, stX_sv hlt, sv_ext hlt, sv_ext_sv hlt, hx0, hb1, hsteps, hb2, hn, hb3, hm1, hb7, hgg, hb10]
        refine kq9 _ _ ?_
        refine W_seq fun kz15 kq15 => ?_
        refine W_seq fun kz16 kq16 => ?_
        refine W_region [0, 8, 9, 10, 14] fun R hR => ?_   -- r12
        simp only [go_sem, ldS_at hd, stX_at hd, ldS_sv hlt, stX_sv hlt, sv_ext hlt, sv_ext_sv hlt, hx0, hb1, hsteps, hb2, hn, hb3, hm1, hb7, hgg, hb10]
        try simp (disch := omega) only [wrapI, wrapU]
        refine GCall_of (Roll_pc Y _ d b (by first | exact hd | exact sv_get hlt | exact get_svx hlt | exact get_extx hd) (gr + 1) (by omega)) ?_   -- t79
        simp only [go_sem, ldS_at hd, stX_at hd, ldS_sv hlt, stX_sv hlt, sv_ext hlt, sv_ext_sv hlt, hx0, hb1, hsteps, hb2, hn, hb3, hm1, hb7, hgg, hb10]
        try simp (disch := omega) only [wrapI, wrapU]
        refine hR _ _ (kq16 _ _ ?_); clear hR R; try clear kq16 kz16
        try simp only [go_sem, ldS_at hd, stX_at hd, ldS_sv hlt, stX_sv hlt, sv_ext hlt, sv_ext_sv hlt, hx0, hb1, hsteps, hb2, hn, hb3, hm1, hb7, hgg, hb10]
        refine W_block ?_
        refine W_weak (Weak.roomSV (j := 1) (off := 2) (es := 7) rfl rfl (by simp)) ?_
        simp only [go_sem, ldS_at hd, stX_at hd, ldS_sv hlt, stX_sv hlt, sv_ext hlt, sv_ext_sv hlt, hx0, hb1, hsteps, hb2, hn, hb3, hm1, hb7, hgg, hb10]
        refine W_loopT (α := Nat × (List Group) × Int) (fun ⟨k2, acg, b⟩ => [(14, I k2)]) (fun ⟨k2, acg, b⟩ => (σ.setVar d [.int .u64 b]).ext [some [.isl [] .exact, .isl [] .exact, .isl [] .exact, I 0], some [.isl (acc.map I) (.tok σ.rooms.length acc.length 1), .isl (acs.map stPV) (.tok (σ.rooms.length + 1) acs.length 2), .isl (acg.map grPV) (.tok (σ.rooms.length + 2) acg.length 7), I steps]] [acc.length, acs.length, acg.length]) (fun ⟨k2, acg, b⟩ => acg.length + k2 ≤ 2000 ∧ res = townC steps n acc acs k2 acg b) (fun ⟨k2, acg, b⟩ => k2) ((gg.toNat, [], b10)) (by simp only [go_sem, hgt]) (by first | rfl | (simp only [go_sem]; done) | (simp only [go_sem]; rfl)) (⟨by (try dsimp only); simp; omega, hinv⟩) ?_
        rintro ⟨k2, acg, b⟩ ⟨hal3, hinv⟩
        refine W_seq fun kz17 kq17 => ?_
        refine W_seq fun kz18 kq18 => ?_
        refine W_region [0, 8, 9, 10, 14, 81] fun R hR => ?_   -- r13
        simp only [go_sem, ldS_at hd, stX_at hd, ldS_sv hlt, stX_sv hlt, sv_ext hlt, sv_ext_sv hlt, hx0, hb1, hsteps, hb2, hn, hb3, hm1, hb7, hgg, hb10]
        refine hR _ _ (kq18 _ _ ?_); clear hR R; try clear kq18 kz18
        try simp only [go_sem, ldS_at hd, stX_at hd, ldS_sv hlt, stX_sv hlt, sv_ext hlt, sv_ext_sv hlt, hx0, hb1, hsteps, hb2, hn, hb3, hm1, hb7, hgg, hb10]
        refine W_cond rfl (fun c3 => ?_) (fun c3 => ?_)
        · -- c3 true
          try simp only [nrm] at c3
          obtain ⟨k2, rfl⟩ : ∃ j, k2 = j + 1 := ⟨k2 - 1, by omega⟩
          obtain ⟨gres, hgr⟩ : ∃ r, groupD n acs b = r := ⟨_, rfl⟩
          simp only [townC, dbind, hgr] at hinv
          obtain ⟨x2, hx2⟩ : ∃ zz, (anyOf [30, 90] b).1 = zz := ⟨_, rfl⟩
          obtain ⟨b11, hb11⟩ : ∃ zz, (anyOf [30, 90] b).2 = zz := ⟨_, rfl⟩
          have dx2 := anyOf_mem [30, 90] (by simp) b
          simp only [hx2] at dx2
          have dx2b := mem2 dx2
          obtain ⟨sz, hsz⟩ : ∃ zz, (spanOf 0 x2 b11).1 = zz := ⟨_, rfl⟩
          obtain ⟨b12, hb12⟩ : ∃ zz, (spanOf 0 x2 b11).2 = zz := ⟨_, rfl⟩
          have dsz := spanOf_bd 0 x2 (by omega) b11
          simp only [hsz] at dsz
          obtain ⟨x3, hx3⟩ : ∃ zz, (anyOf [0, 4] b12).1 = zz := ⟨_, rfl⟩
          obtain ⟨b13, hb13⟩ : ∃ zz, (anyOf [0, 4] b12).2 = zz := ⟨_, rfl⟩
          have dx3 := anyOf_mem [0, 4] (by simp) b12
          simp only [hx3] at dx3
          have dx3b := mem2 dx3
          obtain ⟨aa, haa⟩ : ∃ zz, (spanOf 0 x3 b13).1 = zz := ⟨_, rfl⟩
          obtain ⟨b14, hb14⟩ : ∃ zz, (spanOf 0 x3 b13).2 = zz := ⟨_, rfl⟩
          have daa := spanOf_bd 0 x3 (by omega) b13
          simp only [haa] at daa
          obtain ⟨stay, hstay⟩ : ∃ zz, (mid 1 4 b14).1 = zz := ⟨_, rfl⟩
          obtain ⟨b15, hb15⟩ : ∃ zz, (mid 1 4 b14).2 = zz := ⟨_, rfl⟩
          have dstay := mid_bd 1 4 (by omega) b14
          simp only [hstay] at dstay
          obtain ⟨fst, hfst⟩ : ∃ zz, (roll n b15).1 = zz := ⟨_, rfl⟩
          obtain ⟨b16, hb16⟩ : ∃ zz, (roll n b15).2 = zz := ⟨_, rfl⟩
          have dfst := roll_bd n b15
          simp only [hfst] at dfst
          obtain ⟨kk, hkk⟩ : ∃ zz, (roll 5 b16).1 = zz := ⟨_, rfl⟩
          obtain ⟨b17, hb17⟩ : ∃ zz, (roll 5 b16).2 = zz := ⟨_, rfl⟩
          have dkk := roll_bd 5 b16
          simp only [hkk] at dkk
          simp only [groupD, dbind, hx2, hb11, hsz, hb12, hx3, hb13, haa, hb14, hstay, hb15, hfst, hb16, hkk, hb17] at hgr
          have hkt : ((kk.toNat : Nat) : Int) = kk := by omega
          refine W_skip (kq17 _ _ ?_)
          refine W_seq fun kz19 kq19 => ?_
          refine W_block ?_
          refine W_seq fun kz20 kq20 => ?_
          refine W_region [0, 8, 9, 10, 14, 15] fun R hR => ?_   -- r15
          simp only [go_sem, ldS_at hd, stX_at hd, ldS_sv hlt, stX_sv hlt, sv_ext hlt, sv_ext_sv hlt, hx0, hb1, hsteps, hb2, hn, hb3, hm1, hb7, hgg, hb10, hx2, hb11, hsz, hb12, hx3, hb13, haa, hb14, hstay, hb15, hfst, hb16, hkk, hb17]
          refine GCall_of (Any_pc Y _ d b (by first | exact hd | exact sv_get hlt | exact get_svx hlt | exact get_extx hd) [30, 90] (by simp) (by simp)) ?_   -- t87
          simp only [go_sem, ldS_at hd, stX_at hd, ldS_sv hlt, stX_sv hlt, sv_ext hlt, sv_ext_sv hlt, hx0, hb1, hsteps, hb2, hn, hb3, hm1, hb7, hgg, hb10, hx2, hb11, hsz, hb12, hx3, hb13, haa, hb14, hstay, hb15, hfst, hb16, hkk, hb17]
          refine GCall_of (Span_pc Y _ d b11 (by first | exact hd | exact sv_get hlt | exact get_svx hlt | exact get_extx hd) 0 x2 (by omega) (by omega) (by omega) (by omega) (by omega)) ?_   -- t88
          simp only [go_sem, ldS_at hd, stX_at hd, ldS_sv hlt, stX_sv hlt, sv_ext hlt, sv_ext_sv hlt, hx0, hb1, hsteps, hb2, hn, hb3, hm1, hb7, hgg, hb10, hx2, hb11, hsz, hb12, hx3, hb13, haa, hb14, hstay, hb15, hfst, hb16, hkk, hb17]
          refine GCall_of (Any_pc Y _ d b12 (by first | exact hd | exact sv_get hlt | exact get_svx hlt | exact get_extx hd) [0, 4] (by simp) (by simp)) ?_   -- t92
          simp only [go_sem, ldS_at hd, stX_at hd, ldS_sv hlt, stX_sv hlt, sv_ext hlt, sv_ext_sv hlt, hx0, hb1, hsteps, hb2, hn, hb3, hm1, hb7, hgg, hb10, hx2, hb11, hsz, hb12, hx3, hb13, haa, hb14, hstay, hb15, hfst, hb16, hkk, hb17]
          refine GCall_of (Span_pc Y _ d b13 (by first | exact hd | exact sv_get hlt | exact get_svx hlt | exact get_extx hd) 0 x3 (by omega) (by omega) (by omega) (by omega) (by omega)) ?_   -- t93
          simp only [go_sem, ldS_at hd, stX_at hd, ldS_sv hlt, stX_sv hlt, sv_ext hlt, sv_ext_sv hlt, hx0, hb1, hsteps, hb2, hn, hb3, hm1, hb7, hgg, hb10, hx2, hb11, hsz, hb12, hx3, hb13, haa, hb14, hstay, hb15, hfst, hb16, hkk, hb17]
          refine GCall_of (Mid_pc Y _ d b14 (by first | exact hd | exact sv_get hlt | exact get_svx hlt | exact get_extx hd) 1 4 (by omega) (by omega) (by omega) (by omega)) ?_   -- t95
          simp only [go_sem, ldS_at hd, stX_at hd, ldS_sv hlt, stX_sv hlt, sv_ext hlt, sv_ext_sv hlt, hx0, hb1, hsteps, hb2, hn, hb3, hm1, hb7, hgg, hb10, hx2, hb11, hsz, hb12, hx3, hb13, haa, hb14, hstay, hb15, hfst, hb16, hkk, hb17]
          refine GCall_of (Roll_pc Y _ d b15 (by first | exact hd | exact sv_get hlt | exact get_svx hlt | exact get_extx hd) n (by omega)) ?_   -- t98
          simp only [go_sem, ldS_at hd, stX_at hd, ldS_sv hlt, stX_sv hlt, sv_ext hlt, sv_ext_sv hlt, hx0, hb1, hsteps, hb2, hn, hb3, hm1, hb7, hgg, hb10, hx2, hb11, hsz, hb12, hx3, hb13, haa, hb14, hstay, hb15, hfst, hb16, hkk, hb17]
          refine hR _ _ (kq20 _ _ ?_); clear hR R; try clear kq20 kz20
          try simp only [go_sem, ldS_at hd, stX_at hd, ldS_sv hlt, stX_sv hlt, sv_ext hlt, sv_ext_sv hlt, hx0, hb1, hsteps, hb2, hn, hb3, hm1, hb7, hgg, hb10, hx2, hb11, hsz, hb12, hx3, hb13, haa, hb14, hstay, hb15, hfst, hb16, hkk, hb17]
          refine W_seq fun kz21 kq21 => ?_
          refine W_region [0, 8, 9, 10, 14, 15, 16] fun R hR => ?_   -- r16
          simp only [go_sem, ldS_at hd, stX_at hd, ldS_sv hlt, stX_sv hlt, sv_ext hlt, sv_ext_sv hlt, hx0, hb1, hsteps, hb2, hn, hb3, hm1, hb7, hgg, hb10, hx2, hb11, hsz, hb12, hx3, hb13, haa, hb14, hstay, hb15, hfst, hb16, hkk, hb17]
          refine hR _ _ (kq21 _ _ ?_); clear hR R; try clear kq21 kz21
          try simp only [go_sem, ldS_at hd, stX_at hd, ldS_sv hlt, stX_sv hlt, sv_ext hlt, sv_ext_sv hlt, hx0, hb1, hsteps, hb2, hn, hb3, hm1, hb7, hgg, hb10, hx2, hb11, hsz, hb12, hx3, hb13, haa, hb14, hstay, hb15, hfst, hb16, hkk, hb17]
          refine W_seq fun kz22 kq22 => ?_
          refine W_seq fun kz23 kq23 => ?_
          refine W_region [0, 8, 9, 10, 14, 15, 16, 17] fun R hR => ?_   -- r17
          simp only [go_sem, ldS_at hd, stX_at hd, ldS_sv hlt, stX_sv hlt, sv_ext hlt, sv_ext_sv hlt, hx0, hb1, hsteps, hb2, hn, hb3, hm1, hb7, hgg, hb10, hx2, hb11, hsz, hb12, hx3, hb13, haa, hb14, hstay, hb15, hfst, hb16, hkk, hb17]
          refine GCall_of (Roll_pc Y _ d b16 (by first | exact hd | exact sv_get hlt | exact get_svx hlt | exact get_extx hd) 5 (by omega)) ?_   -- t103
          simp only [go_sem, ldS_at hd, stX_at hd, ldS_sv hlt, stX_sv hlt, sv_ext hlt, sv_ext_sv hlt, hx0, hb1, hsteps, hb2, hn, hb3, hm1, hb7, hgg, hb10, hx2, hb11, hsz, hb12, hx3, hb13, haa, hb14, hstay, hb15, hfst, hb16, hkk, hb17]
          refine hR _ _ (kq23 _ _ ?_); clear hR R; try clear kq23 kz23
          try simp only [go_sem, ldS_at hd, stX_at hd, ldS_sv hlt, stX_sv hlt, sv_ext hlt, sv_ext_sv hlt, hx0, hb1, hsteps, hb2, hn, hb3, hm1, hb7, hgg, hb10, hx2, hb11, hsz, hb12, hx3, hb13, haa, hb14, hstay, hb15, hfst, hb16, hkk, hb17]
          refine W_block ?_
          refine W_weak (Weak.roomSV (j := 2) (off := 6) (es := 1) rfl rfl (by simp)) ?_
          simp only [go_sem, ldS_at hd, stX_at hd, ldS_sv hlt, stX_sv hlt, sv_ext hlt, sv_ext_sv hlt, hx0, hb1, hsteps, hb2, hn, hb3, hm1, hb7, hgg, hb10, hx2, hb11, hsz, hb12, hx3, hb13, haa, hb14, hstay, hb15, hfst, hb16, hkk, hb17]
          refine W_loopT (α := Nat × Int × (List Int) × Int) (fun ⟨k3, at', acp, bp⟩ => [(16, I at'), (17, I k3)]) (fun ⟨k3, at', acp, bp⟩ => (σ.setVar d [.int .u64 bp]).ext [some [.isl [] .exact, .isl [] .exact, .isl [] .exact, I 0], some [.isl (acc.map I) (.tok σ.rooms.length acc.length 1), .isl (acs.map stPV) (.tok (σ.rooms.length + 1) acs.length 2), .isl (acg.map grPV) (.tok (σ.rooms.length + 2) acg.length 7), I steps], some [I sz.1, I sz.2, I aa.1, I aa.2, I stay, I fst, .isl (acp.map I) (.tok (σ.rooms.length + 3) acp.length 1)]] [acc.length, acs.length, acg.length, acp.length]) (fun ⟨k3, at', acp, bp⟩ => acp.length + k3 ≤ 100 ∧ gres = pathD acs ⟨sz.1, sz.2, aa.1, aa.2, stay, fst, []⟩ (if 0 < acs.length then k3 else 0) at' acp bp) (fun ⟨k3, at', acp, bp⟩ => k3) ((kk.toNat, fst, [], b17)) (by simp only [go_sem, hkt]) (by first | rfl | (simp only [go_sem]; done) | (simp only [go_sem]; rfl)) (⟨by (try dsimp only); simp; omega, hgr.symm⟩) ?_
          rintro ⟨k3, at', acp, bp⟩ ⟨hal4, hg3⟩
          refine W_seq fun kz24 kq24 => ?_
          refine W_seq fun kz25 kq25 => ?_
          refine W_regionJ [0, 8, 9, 10, 14, 15, 16, 17, 111] [(111, .bool (decide (0 < (k3 : Int)) && decide (0 < (acs.length : Int))))] ?_ fun R hR => ?_   -- r18
          · refine kq25 _ _ ?_
            simp only [go_sem, ldS_at hd, stX_at hd, ldS_sv hlt, stX_sv hlt, sv_ext hlt, sv_ext_sv hlt, hx0, hb1, hsteps, hb2, hn, hb3, hm1, hb7, hgg, hb10, hx2, hb11, hsz, hb12, hx3, hb13, haa, hb14, hstay, hb15, hfst, hb16, hkk, hb17]
            refine W_cond rfl (fun c4 => ?_) (fun c4 => ?_)
            · -- c4 true
              try simp only [nrm] at c4
              simp only [Bool.and_eq_true, decide_eq_true_eq] at c4
              obtain ⟨k3, rfl⟩ : ∃ j, k3 = j + 1 := ⟨k3 - 1, by omega⟩
              have hap : 0 < acs.length := by omega
              rw [if_pos hap] at hg3
              obtain ⟨s0, hs0⟩ : ∃ zz, (roll acs.length bp).1 = zz := ⟨_, rfl⟩
              obtain ⟨b18, hb18⟩ : ∃ zz, (roll acs.length bp).2 = zz := ⟨_, rfl⟩
              have ds0 := roll_bd acs.length bp
              simp only [hs0] at ds0
              obtain ⟨s, hs⟩ : ∃ s, acs[s0.toNat]? = some s := ⟨acs[s0.toNat]'(by omega), by simp⟩
              have hs00 : 0 ≤ s0 := by omega
              simp only [pathD, dbind, hs0, hb18, hs, Option.getD_some] at hg3
              refine W_skip (kq24 _ _ ?_)
              refine W_seq fun kz26 kq26 => ?_
              refine W_block ?_
              refine W_seq fun kz27 kq27 => ?_
              refine W_region [0, 8, 9, 10, 14, 15, 16, 17, 18] fun R hR => ?_   -- r20
              simp only [go_sem, ldS_at hd, stX_at hd, ldS_sv hlt, stX_sv hlt, sv_ext hlt, sv_ext_sv hlt, hx0, hb1, hsteps, hb2, hn, hb3, hm1, hb7, hgg, hb10, hx2, hb11, hsz, hb12, hx3, hb13, haa, hb14, hstay, hb15, hfst, hb16, hkk, hb17, hs0, hb18, hs, hs00]
              refine GCall_of (Roll_pc Y _ d bp (by first | exact hd | exact sv_get hlt | exact get_svx hlt | exact get_extx hd) acs.length (by omega)) ?_   -- t118
              simp only [go_sem, ldS_at hd, stX_at hd, ldS_sv hlt, stX_sv hlt, sv_ext hlt, sv_ext_sv hlt, hx0, hb1, hsteps, hb2, hn, hb3, hm1, hb7, hgg, hb10, hx2, hb11, hsz, hb12, hx3, hb13, haa, hb14, hstay, hb15, hfst, hb16, hkk, hb17, hs0, hb18, hs, hs00]
              refine hR _ _ (kq27 _ _ ?_); clear hR R; try clear kq27 kz27
              try simp only [go_sem, ldS_at hd, stX_at hd, ldS_sv hlt, stX_sv hlt, sv_ext hlt, sv_ext_sv hlt, hx0, hb1, hsteps, hb2, hn, hb3, hm1, hb7, hgg, hb10, hx2, hb11, hsz, hb12, hx3, hb13, haa, hb14, hstay, hb15, hfst, hb16, hkk, hb17, hs0, hb18, hs, hs00]
              refine W_seq fun kz28 kq28 => ?_
              refine W_region [0, 8, 9, 10, 14, 15, 16, 17, 18, 19] fun R hR => ?_   -- r21
              simp only [go_sem, ldS_at hd, stX_at hd, ldS_sv hlt, stX_sv hlt, sv_ext hlt, sv_ext_sv hlt, hx0, hb1, hsteps, hb2, hn, hb3, hm1, hb7, hgg, hb10, hx2, hb11, hsz, hb12, hx3, hb13, haa, hb14, hstay, hb15, hfst, hb16, hkk, hb17, hs0, hb18, hs, hs00]
              refine GCall_of (rother_pc Y _ s at') ?_   -- t125
              simp only [go_sem, ldS_at hd, stX_at hd, ldS_sv hlt, stX_sv hlt, sv_ext hlt, sv_ext_sv hlt, hx0, hb1, hsteps, hb2, hn, hb3, hm1, hb7, hgg, hb10, hx2, hb11, hsz, hb12, hx3, hb13, haa, hb14, hstay, hb15, hfst, hb16, hkk, hb17, hs0, hb18, hs, hs00]
              refine hR _ _ (kq28 _ _ ?_); clear hR R; try clear kq28 kz28
              try simp only [go_sem, ldS_at hd, stX_at hd, ldS_sv hlt, stX_sv hlt, sv_ext hlt, sv_ext_sv hlt, hx0, hb1, hsteps, hb2, hn, hb3, hm1, hb7, hgg, hb10, hx2, hb11, hsz, hb12, hx3, hb13, haa, hb14, hstay, hb15, hfst, hb16, hkk, hb17, hs0, hb18, hs, hs00]
              refine W_seq fun kz29 kq29 => ?_
              refine W_region [0, 8, 9, 10, 14, 15, 16, 17, 18, 19, 127] fun R hR => ?_   -- r22
              simp only [go_sem, ldS_at hd, stX_at hd, ldS_sv hlt, stX_sv hlt, sv_ext hlt, sv_ext_sv hlt, hx0, hb1, hsteps, hb2, hn, hb3, hm1, hb7, hgg, hb10, hx2, hb11, hsz, hb12, hx3, hb13, haa, hb14, hstay, hb15, hfst, hb16, hkk, hb17, hs0, hb18, hs, hs00]
              refine hR _ _ (kq29 _ _ ?_); clear hR R; try clear kq29 kz29
              try simp only [go_sem, ldS_at hd, stX_at hd, ldS_sv hlt, stX_sv hlt, sv_ext hlt, sv_ext_sv hlt, hx0, hb1, hsteps, hb2, hn, hb3, hm1, hb7, hgg, hb10, hx2, hb11, hsz, hb12, hx3, hb13, haa, hb14, hstay, hb15, hfst, hb16, hkk, hb17, hs0, hb18, hs, hs00]
              refine W_cond rfl (fun c5 => ?_) (fun c5 => ?_)
              · -- c5 true
                try simp only [nrm] at c5
                refine W_region [0, 8, 9, 10, 14, 15, 16, 17] fun R hR => ?_   -- r23
                simp only [go_sem, ldS_at hd, stX_at hd, ldS_sv hlt, stX_sv hlt, sv_ext hlt, sv_ext_sv hlt, hx0, hb1, hsteps, hb2, hn, hb3, hm1, hb7, hgg, hb10, hx2, hb11, hsz, hb12, hx3, hb13, haa, hb14, hstay, hb15, hfst, hb16, hkk, hb17, hs0, hb18, hs, hs00]
                simp (disch := first | omega | (simp only [go_sem] <;> omega)) only [wrapI, wrapU, appX_exact, appX_tok]
                try simp only [go_sem, ldS_at hd, stX_at hd, ldS_sv hlt, stX_sv hlt, sv_ext hlt, sv_ext_sv hlt, hx0, hb1, hsteps, hb2, hn, hb3, hm1, hb7, hgg, hb10, hx2, hb11, hsz, hb12, hx3, hb13, haa, hb14, hstay, hb15, hfst, hb16, hkk, hb17, hs0, hb18, hs, hs00]
                refine hR _ _ (kq26 _ _ ?_); clear hR R; try clear kq26 kz26
                try simp only [go_sem, ldS_at hd, stX_at hd, ldS_sv hlt, stX_sv hlt, sv_ext hlt, sv_ext_sv hlt, hx0, hb1, hsteps, hb2, hn, hb3, hm1, hb7, hgg, hb10, hx2, hb11, hsz, hb12, hx3, hb13, haa, hb14, hstay, hb15, hfst, hb16, hkk, hb17, hs0, hb18, hs, hs00]
                refine W_region [0, 8, 9, 10, 14, 15, 16, 17] fun R hR => ?_   -- r19
                simp only [go_sem, ldS_at hd, stX_at hd, ldS_sv hlt, stX_sv hlt, sv_ext hlt, sv_ext_sv hlt, hx0, hb1, hsteps, hb2, hn, hb3, hm1, hb7, hgg, hb10, hx2, hb11, hsz, hb12, hx3, hb13, haa, hb14, hstay, hb15, hfst, hb16, hkk, hb17, hs0, hb18, hs, hs00]
                try simp (disch := omega) only [wrapI, wrapU]
                refine hR _ _ ?_; clear hR R
                try simp only [go_sem, ldS_at hd, stX_at hd, ldS_sv hlt, stX_sv hlt, sv_ext hlt, sv_ext_sv hlt, hx0, hb1, hsteps, hb2, hn, hb3, hm1, hb7, hgg, hb10, hx2, hb11, hsz, hb12, hx3, hb13, haa, hb14, hstay, hb15, hfst, hb16, hkk, hb17, hs0, hb18, hs, hs00]
                refine ⟨(k3, other s at', acp ++ [s0], b18), ?_, by (try simp only []); omega, ?_⟩
                · first | exact Weak.refl | exact Weak.eq (by first | rfl | (simp only [go_sem]; done) | (simp only [go_sem]; rfl) | (simp [go_sem]; done) | (simp [go_sem]; omega)) (by first | rfl | (simp only [go_sem]; done) | (simp [go_sem]; done))
                · try dsimp only
                  refine ⟨by (try simp); omega, ?_⟩
                  rw [if_pos hap, hg3]; first | rw [if_pos c5] | rw [if_neg c5]
              · -- c5 false
                try simp only [nrm] at c5
                refine W_skip (kq26 _ _ ?_)
                refine W_region [0, 8, 9, 10, 14, 15, 16, 17] fun R hR => ?_   -- r19
                simp only [go_sem, ldS_at hd, stX_at hd, ldS_sv hlt, stX_sv hlt, sv_ext hlt, sv_ext_sv hlt, hx0, hb1, hsteps, hb2, hn, hb3, hm1, hb7, hgg, hb10, hx2, hb11, hsz, hb12, hx3, hb13, haa, hb14, hstay, hb15, hfst, hb16, hkk, hb17, hs0, hb18, hs, hs00]
                try simp (disch := omega) only [wrapI, wrapU]
                refine hR _ _ ?_; clear hR R
                try simp only [go_sem, ldS_at hd, stX_at hd, ldS_sv hlt, stX_sv hlt, sv_ext hlt, sv_ext_sv hlt, hx0, hb1, hsteps, hb2, hn, hb3, hm1, hb7, hgg, hb10, hx2, hb11, hsz, hb12, hx3, hb13, haa, hb14, hstay, hb15, hfst, hb16, hkk, hb17, hs0, hb18, hs, hs00]
                refine ⟨(k3, at', acp, b18), ?_, by (try simp only []); omega, ?_⟩
                · first | exact Weak.refl | exact Weak.eq (by first | rfl | (simp only [go_sem]; done) | (simp only [go_sem]; rfl) | (simp [go_sem]; done) | (simp [go_sem]; omega)) (by first | rfl | (simp only [go_sem]; done) | (simp [go_sem]; done))
                · try dsimp only
                  refine ⟨by (try simp); omega, ?_⟩
                  rw [if_pos hap, hg3]; first | rw [if_pos c5] | rw [if_neg c5]
            · -- c4 false
              try simp only [nrm] at c4
              simp only [Bool.and_eq_false_iff, decide_eq_false_iff_not] at c4
              have hz : (if 0 < acs.length then k3 else 0) = 0 := by split <;> omega
              rw [hz] at hg3
              simp only [pathD, dret] at hg3
              refine W_exit ?_
              simp only [go_sem, ldS_at hd, stX_at hd, ldS_sv hlt, stX_sv hlt, sv_ext hlt, sv_ext_sv hlt, hx0, hb1, hsteps, hb2, hn, hb3, hm1, hb7, hgg, hb10, hx2, hb11, hsz, hb12, hx3, hb13, haa, hb14, hstay, hb15, hfst, hb16, hkk, hb17]
              refine kq22 _ _ ?_
              refine W_weak (Weak.roSV (j := 2) (off := 6) rfl rfl) ?_
              simp only [go_sem]
              refine W_region [0, 8, 9, 10, 14] fun R hR => ?_   -- r24
              simp only [go_sem, ldS_at hd, stX_at hd, ldS_sv hlt, stX_sv hlt, sv_ext hlt, sv_ext_sv hlt, hx0, hb1, hsteps, hb2, hn, hb3, hm1, hb7, hgg, hb10, hx2, hb11, hsz, hb12, hx3, hb13, haa, hb14, hstay, hb15, hfst, hb16, hkk, hb17]
              simp (disch := first | omega | (simp only [go_sem] <;> omega)) only [wrapI, wrapU, appX_exact, appX_tok]
              try simp only [go_sem, ldS_at hd, stX_at hd, ldS_sv hlt, stX_sv hlt, sv_ext hlt, sv_ext_sv hlt, hx0, hb1, hsteps, hb2, hn, hb3, hm1, hb7, hgg, hb10, hx2, hb11, hsz, hb12, hx3, hb13, haa, hb14, hstay, hb15, hfst, hb16, hkk, hb17]
              refine hR _ _ (kq19 _ _ ?_); clear hR R; try clear kq19 kz19
              try simp only [go_sem, ldS_at hd, stX_at hd, ldS_sv hlt, stX_sv hlt, sv_ext hlt, sv_ext_sv hlt, hx0, hb1, hsteps, hb2, hn, hb3, hm1, hb7, hgg, hb10, hx2, hb11, hsz, hb12, hx3, hb13, haa, hb14, hstay, hb15, hfst, hb16, hkk, hb17]
              refine W_region [0, 8, 9, 10, 14] fun R hR => ?_   -- r14
              simp only [go_sem, ldS_at hd, stX_at hd, ldS_sv hlt, stX_sv hlt, sv_ext hlt, sv_ext_sv hlt, hx0, hb1, hsteps, hb2, hn, hb3, hm1, hb7, hgg, hb10, hx2, hb11, hsz, hb12, hx3, hb13, haa, hb14, hstay, hb15, hfst, hb16, hkk, hb17]
              try simp (disch := omega) only [wrapI, wrapU]
              refine hR _ _ ?_; clear hR R
              try simp only [go_sem, ldS_at hd, stX_at hd, ldS_sv hlt, stX_sv hlt, sv_ext hlt, sv_ext_sv hlt, hx0, hb1, hsteps, hb2, hn, hb3, hm1, hb7, hgg, hb10, hx2, hb11, hsz, hb12, hx3, hb13, haa, hb14, hstay, hb15, hfst, hb16, hkk, hb17]
              refine ⟨(k2, acg ++ [gres.1], bp), ?_, by (try simp only []); omega, ?_⟩
              · refine Weak.trans (Weak.cutSV 2 3 (by omega) (by omega) hcl (by simp only [go_sem]) (by simp only [go_sem] <;> omega) (by simp only [go_sem] <;> omega)) ?_
                simp only [go_sem]
                rw [hg3]
                exact Weak.eq (by first | rfl | (simp only [go_sem]; done) | (simp [go_sem]; done) | (simp [go_sem]; omega)) (by first | rfl | (simp only [go_sem]; done) | (simp [go_sem]; done))
              · try dsimp only
                refine ⟨by simp; omega, ?_⟩
                rw [hinv, hg3]
          · simp only [go_sem, ldS_at hd, stX_at hd, ldS_sv hlt, stX_sv hlt, sv_ext hlt, sv_ext_sv hlt, hx0, hb1, hsteps, hb2, hn, hb3, hm1, hb7, hgg, hb10, hx2, hb11, hsz, hb12, hx3, hb13, haa, hb14, hstay, hb15, hfst, hb16, hkk, hb17]
            refine GWant_split (fun g1 => ?_) (fun g1 => ?_)
            · try simp only [Bool.not_eq_true', Bool.not_eq_false'] at g1
              have n1 := g1; try simp only [nrm] at n1
              simp only [go_sem, ldS_at hd, stX_at hd, ldS_sv hlt, stX_sv hlt, sv_ext hlt, sv_ext_sv hlt, hx0, hb1, hsteps, hb2, hn, hb3, hm1, hb7, hgg, hb10, hx2, hb11, hsz, hb12, hx3, hb13, haa, hb14, hstay, hb15, hfst, hb16, hkk, hb17, g1]
              refine hR _ ?_
              try simp only [go_sem, ldS_at hd, stX_at hd, ldS_sv hlt, stX_sv hlt, sv_ext hlt, sv_ext_sv hlt, hx0, hb1, hsteps, hb2, hn, hb3, hm1, hb7, hgg, hb10, hx2, hb11, hsz, hb12, hx3, hb13, haa, hb14, hstay, hb15, hfst, hb16, hkk, hb17]
              all_goals
                first | rfl | (simp [*]; done) | (simp [*]; omega)
            · try simp only [Bool.not_eq_true', Bool.not_eq_false'] at g1
              have n1 := g1; try simp only [nrm] at n1
              simp only [go_sem, ldS_at hd, stX_at hd, ldS_sv hlt, stX_sv hlt, sv_ext hlt, sv_ext_sv hlt, hx0, hb1, hsteps, hb2, hn, hb3, hm1, hb7, hgg, hb10, hx2, hb11, hsz, hb12, hx3, hb13, haa, hb14, hstay, hb15, hfst, hb16, hkk, hb17, g1]
              refine hR _ ?_
              try simp only [go_sem, ldS_at hd, stX_at hd, ldS_sv hlt, stX_sv hlt, sv_ext hlt, sv_ext_sv hlt, hx0, hb1, hsteps, hb2, hn, hb3, hm1, hb7, hgg, hb10, hx2, hb11, hsz, hb12, hx3, hb13, haa, hb14, hstay, hb15, hfst, hb16, hkk, hb17]
              all_goals
                first | rfl | (simp [*]; done) | (simp [*]; omega)
        · -- c3 false
          try simp only [nrm] at c3
          obtain rfl : k2 = 0 := by omega
          simp only [townC, dret] at hinv
          refine W_exit ?_
          simp only [go_sem, ldS_at hd, stX_at hd, ldS_sv hlt, stX_sv hlt, sv_ext hlt, sv_ext_sv hlt, hx0, hb1, hsteps, hb2, hn, hb3, hm1, hb7, hgg, hb10]
          refine kq15 _ _ ?_
          refine W_seq fun kz30 kq30 => ?_
          refine W_region [8] fun R hR => ?_   -- r25
          simp only [go_sem, ldS_at hd, stX_at hd, ldS_sv hlt, stX_sv hlt, sv_ext hlt, sv_ext_sv hlt, hx0, hb1, hsteps, hb2, hn, hb3, hm1, hb7, hgg, hb10]
          refine hR _ _ (kq30 _ _ ?_); clear hR R; try clear kq30 kz30
          try simp only [go_sem, ldS_at hd, stX_at hd, ldS_sv hlt, stX_sv hlt, sv_ext hlt, sv_ext_sv hlt, hx0, hb1, hsteps, hb2, hn, hb3, hm1, hb7, hgg, hb10]
          refine W_ret ?_
          simp only [go_sem, ldS_at hd, stX_at hd, ldS_sv hlt, stX_sv hlt, sv_ext hlt, sv_ext_sv hlt, hx0, hb1, hsteps, hb2, hn, hb3, hm1, hb7, hgg, hb10]
          refine ⟨.inr (by trivial), ?_⟩
          rw [hinv]; refine Fin_set hcl (by simp only [go_sem]) (by show resPV Try.prog _ _ [.cell 8 26] = some _; simp only [resPV, go_sem]; rfl) (Wk.ro (by simp only [go_sem]) ?_)
          try simp only [go_sem]
          all_goals
            simp only [go_sem]
    · simp only [go_sem, ldS_at hd, stX_at hd, ldS_sv hlt, stX_sv hlt, sv_ext hlt, sv_ext_sv hlt, hx0, hb1, hsteps, hb2, hn, hb3, hm1, hb7]
      refine GWant_split (fun g2 => ?_) (fun g2 => ?_)
      · try simp only [Bool.not_eq_true', Bool.not_eq_false'] at g2
        have n2 := g2; try simp only [nrm] at n2
        simp only [go_sem, ldS_at hd, stX_at hd, ldS_sv hlt, stX_sv hlt, sv_ext hlt, sv_ext_sv hlt, hx0, hb1, hsteps, hb2, hn, hb3, hm1, hb7, g2]
        refine hR _ ?_
        try simp only [go_sem, ldS_at hd, stX_at hd, ldS_sv hlt, stX_sv hlt, sv_ext hlt, sv_ext_sv hlt, hx0, hb1, hsteps, hb2, hn, hb3, hm1, hb7]
        all_goals
          first | rfl | (simp [*]; done) | (simp [*]; omega)
      · try simp only [Bool.not_eq_true', Bool.not_eq_false'] at g2
        have n2 := g2; try simp only [nrm] at n2
        simp only [go_sem, ldS_at hd, stX_at hd, ldS_sv hlt, stX_sv hlt, sv_ext hlt, sv_ext_sv hlt, hx0, hb1, hsteps, hb2, hn, hb3, hm1, hb7, g2]
        refine hR _ ?_
        try simp only [go_sem, ldS_at hd, stX_at hd, ldS_sv hlt, stX_sv hlt, sv_ext hlt, sv_ext_sv hlt, hx0, hb1, hsteps, hb2, hn, hb3, hm1, hb7]
        all_goals
          first | rfl | (simp [*]; done) | (simp [*]; omega)
end Go.Proofs.Ytnpamcpoaklgeaa
namespace Go.Proofs.Ytnpamcpoaklgeaa
open Go Go.RowKit
structure GroupV (n : Nat) (sts : List (Int × Int)) (g : Group) : Prop where
  s1 : 0 ≤ g.slo
  s2 : g.slo ≤ g.shi
  s3 : g.shi ≤ 1000000
  a1 : 0 ≤ g.alo
  a2 : g.alo ≤ g.ahi
  a3 : g.ahi ≤ 96
  t1 : 1 ≤ g.stay
  t2 : g.stay ≤ 96
  f1 : 0 ≤ g.first
  f2 : g.first < n
  p1 : g.path.length ≤ 4
  p2 : chkPath sts g.path g.first = 0
def StreetV (n : Nat) (s : Int × Int) : Prop := 0 ≤ s.1 ∧ s.1 < n ∧ 0 ≤ s.2 ∧ s.2 < n ∧ s.1 ≠ s.2
structure TownV (sq st gr : Nat) (t : Town) : Prop where
  r0 : 1 ≤ t.rooms.length
  r1 : t.rooms.length ≤ sq
  r2 : ∀ r, r ∈ t.rooms → 0 ≤ r ∧ r ≤ 500
  s1 : t.streets.length ≤ st
  s2 : ∀ s, s ∈ t.streets → StreetV t.rooms.length s
  w1 : 0 ≤ t.steps
  w2 : t.steps ≤ 96
  g1 : t.groups.length ≤ gr
  g2 : ∀ g, g ∈ t.groups → GroupV t.rooms.length t.streets g
theorem chkStreets_ok {n : Nat} : ∀ {l : List (Int × Int)}, (∀ s, s ∈ l → StreetV n s) → chkStreets n l = 0 := by
  intro l
  induction l with
  | nil => intro _; rfl
  | cons s r ih =>
    intro h
    obtain ⟨h1, h2, h3, h4, h5⟩ := h s (by simp)
    simp only [chkStreets]
    rw [if_neg (by simp [inR]; omega), if_neg h5]
    exact ih fun x hx => h x (by simp [hx])
theorem chkGroup_ok {t : Town} {g : Group} (h : GroupV t.rooms.length t.streets g) : chkGroup t g = 0 := by
  have e1 : chkSpan g.slo g.shi 1000000 = 0 := by
    have := h.s1; have := h.s2; have := h.s3
    unfold chkSpan; rw [if_neg (by simp [inR]; omega), if_neg (by omega)]
  have e2 : chkSpan g.alo g.ahi 96 = 0 := by
    have := h.a1; have := h.a2; have := h.a3
    unfold chkSpan; rw [if_neg (by simp [inR]; omega), if_neg (by omega)]
  have := h.t1; have := h.t2; have := h.f1; have := h.f2; have := h.p1
  unfold chkGroup
  rw [if_neg (by simp [e1]), if_neg (by simp [e2]), if_neg (by simp [inR]; omega), if_neg (by simp [inR]; omega), if_neg (by omega)]
  exact h.p2
theorem chkGroups_ok {t : Town} : ∀ {l : List Group}, (∀ g, g ∈ l → GroupV t.rooms.length t.streets g) → chkGroups t l = 0 := by
  intro l
  induction l with
  | nil => intro _; rfl
  | cons g r ih =>
    intro h
    simp only [chkGroups]
    rw [if_neg (by rw [chkGroup_ok (h g (by simp))]; simp)]
    exact ih fun x hx => h x (by simp [hx])
theorem TownV.ok {sq st gr : Nat} {t : Town} (h : TownV sq st gr t) (h1 : sq ≤ 12) (h2 : st ≤ 12) (h3 : gr ≤ 12) : chkTown t = 0 := by
  have := h.r0; have := h.r1; have := h.s1; have := h.w1; have := h.w2; have := h.g1
  have e : allIn 0 1000000 t.rooms = true := by
    unfold allIn; rw [List.all_eq_true]; intro r hr
    have := h.r2 r hr
    simp [inR]; omega
  unfold chkTown
  rw [if_neg (by omega), if_neg (by omega), if_neg (by simp [e]), if_neg (by omega), if_neg (by rw [chkStreets_ok h.s2]; simp), if_neg (by simp [inR]; omega), if_neg (by omega)]
  exact chkGroups_ok h.g2
def pathEnd (sts : List (Int × Int)) : List Int → Int → Int
  | [], a => a
  | s :: r, a => pathEnd sts r (other ((sts[s.toNat]?).getD (0, 0)) a)
theorem chkPath_snoc {sts : List (Int × Int)} {s : Int} (h1 : 0 ≤ s) (h2 : s < sts.length) : ∀ (p : List Int) (a : Int), chkPath sts p a = 0 → 0 ≤ other ((sts[s.toNat]?).getD (0, 0)) (pathEnd sts p a) →
    chkPath sts (p ++ [s]) a = 0 ∧ pathEnd sts (p ++ [s]) a = other ((sts[s.toNat]?).getD (0, 0)) (pathEnd sts p a) := by
  intro p
  induction p with
  | nil =>
    intro a _ ho
    obtain ⟨x, hx⟩ : ∃ x, sts[s.toNat]? = some x := ⟨_, List.getElem?_eq_getElem (by omega)⟩
    simp only [hx, Option.getD_some, pathEnd] at ho
    simp only [List.nil_append, chkPath, pathEnd, hx, Option.getD_some]
    rw [if_neg (by simp [inR]; omega), if_neg (by omega)]
    exact ⟨by simp [chkPath], trivial⟩
  | cons y r ih =>
    intro a hc ho
    simp only [List.cons_append, chkPath, pathEnd] at hc ho ⊢
    by_cases hy : (!inR y 0 ((sts.length : Int) - 1)) = true
    · rw [if_pos hy] at hc; cases hc
    · rw [if_neg hy] at hc ⊢
      cases hs : sts[y.toNat]? with
      | none => rw [hs] at hc; cases hc
      | some z =>
        rw [hs] at hc ho
        simp only [Option.getD_some] at hc ho ⊢
        by_cases hz : other z a < 0
        · rw [if_pos hz] at hc; cases hc
        · rw [if_neg hz] at hc ⊢
          exact ih _ hc ho
theorem pathD_ok {n : Nat} {sts : List (Int × Int)} {g : Group} (hg : GroupV n sts { g with path := [] }) : ∀ (k : Nat) (a : Int) (acc : List Int), (k ≠ 0 → 0 < sts.length) → acc.length + k ≤ 4 → chkPath sts acc g.first = 0 → pathEnd sts acc g.first = a →
    Holds (pathD sts g k a acc) (GroupV n sts) := by
  intro k
  induction k with
  | zero =>
    intro a acc _ hl hc _
    exact .ret ⟨hg.s1, hg.s2, hg.s3, hg.a1, hg.a2, hg.a3, hg.t1, hg.t2, hg.f1, hg.f2, by simpa using hl, hc⟩
  | succ k ih =>
    intro a acc h0 hl hc he
    have hs := h0 (by omega)
    refine (roll_bd sts.length).bind fun s hsb => ?_
    split
    · rename_i ho
      obtain ⟨q1, q2⟩ := chkPath_snoc (s := s) (by omega) (by omega) acc g.first hc (by rw [he]; exact ho)
      exact ih _ _ (fun _ => hs) (by simp; omega) q1 (by rw [q2, he])
    · exact ih _ _ (fun _ => hs) (by omega) hc he
theorem groupD_ok {n : Nat} (hn : 1 ≤ n) (sts : List (Int × Int)) : Holds (groupD n sts) (GroupV n sts) := by
  unfold groupD
  refine (anyOf_mem [30, 90] (by simp)).bind fun x hx => ?_
  have hx := mem2 hx
  refine (spanOf_bd 0 x (by omega)).bind fun sz hsz => ?_
  refine (anyOf_mem [0, 4] (by simp)).bind fun y hy => ?_
  have hy := mem2 hy
  refine (spanOf_bd 0 y (by omega)).bind fun a ha => ?_
  refine (mid_bd 1 4 (by omega)).bind fun st hst => ?_
  refine (roll_bd n).bind fun f hf => ?_
  refine (roll_bd 5).bind fun k hk => ?_
  refine pathD_ok ⟨by (try dsimp only); omega, by (try dsimp only); omega, by (try dsimp only); omega, by (try dsimp only); omega, by (try dsimp only); omega, by (try dsimp only); omega, by (try dsimp only); omega, by (try dsimp only); omega, by (try dsimp only); omega, by (try dsimp only); omega, by simp, rfl⟩ _ _ _ (fun h => ?_) ?_ rfl rfl
  · split at h
    · assumption
    · exact absurd rfl h
  · split <;> simp <;> omega
theorem fit_street {a m n : Int} (ha : 0 ≤ a) (ha2 : a < n) (hm : 1 ≤ m) (hm2 : m ≤ n - 1) : 0 ≤ fit (a + m) n ∧ fit (a + m) n < n ∧ a ≠ fit (a + m) n := by
  have hb := fit_bd (a + m) n
  have e : fit (a + m) n = (a + m) % n := by
    unfold fit
    rw [if_neg (by omega), Int.tmod_eq_emod_of_nonneg (by omega), if_neg (by have := Int.emod_nonneg (a + m) (show n ≠ 0 by omega); omega)]
  refine ⟨by omega, by omega, ?_⟩
  rw [e]
  by_cases h : a + m < n
  · rw [Int.emod_eq_of_lt (by omega) h]; omega
  · have : (a + m) % n = a + m - n := by
      rw [← Int.sub_emod_right, Int.emod_eq_of_lt (by omega) (by omega)]
    omega
theorem townC_ok {sq st gr : Nat} {steps : Int} {rooms : List Int} {sts : List (Int × Int)} (hr0 : 1 ≤ rooms.length) (hr1 : rooms.length ≤ sq) (hr2 : ∀ r, r ∈ rooms → 0 ≤ r ∧ r ≤ 500) (hs1 : sts.length ≤ st) (hs2 : ∀ s, s ∈ sts → StreetV rooms.length s)
    (hw1 : 0 ≤ steps) (hw2 : steps ≤ 96) : ∀ (k : Nat) (acc : List Group), acc.length + k ≤ gr → (∀ g, g ∈ acc → GroupV rooms.length sts g) → Holds (townC steps rooms.length rooms sts k acc) (TownV sq st gr) := by
  intro k
  induction k with
  | zero => intro acc hl hg; exact .ret ⟨hr0, hr1, hr2, hs1, hs2, hw1, hw2, by simpa using hl, hg⟩
  | succ k ih =>
    intro acc hl hg
    refine (groupD_ok hr0 sts).bind fun g hgv => ih _ (by simp; omega) fun x hx => ?_
    rcases List.mem_append.1 hx with hx | hx
    · exact hg x hx
    · simp only [List.mem_singleton] at hx; subst hx; exact hgv
theorem townB_ok {sq st gr : Nat} {steps : Int} {rooms : List Int} (hr0 : 1 ≤ rooms.length) (hr1 : rooms.length ≤ sq) (hr2 : ∀ r, r ∈ rooms → 0 ≤ r ∧ r ≤ 500) (hw1 : 0 ≤ steps) (hw2 : steps ≤ 96) : ∀ (k : Nat) (acc : List (Int × Int)), (k ≠ 0 → 1 < rooms.length) → acc.length + k ≤ st →
    (∀ s, s ∈ acc → StreetV rooms.length s) → Holds (townB gr steps rooms.length rooms k acc) (TownV sq st gr) := by
  intro k
  induction k with
  | zero =>
    intro acc _ hl hs
    refine (roll_bd (gr + 1)).bind fun g hg => ?_
    exact townC_ok hr0 hr1 hr2 (by simpa using hl) hs hw1 hw2 _ [] (by simp; omega) (fun g hg => by cases hg)
  | succ k ih =>
    intro acc h1 hl hs
    have hn := h1 (by omega)
    refine (roll_bd rooms.length).bind fun a ha => (mid_bd 1 ((rooms.length : Int) - 1) (by omega)).bind fun m hm => ih _ (fun _ => hn) (by simp; omega) fun x hx => ?_
    rcases List.mem_append.1 hx with hx | hx
    · exact hs x hx
    · simp only [List.mem_singleton] at hx; subst hx
      have := fit_street (a := a) (m := m) (n := rooms.length) (by omega) (by omega) (by omega) (by omega)
      exact ⟨by (try dsimp only); omega, by (try dsimp only); omega, this.1, this.2.1, this.2.2⟩
theorem townA_ok {sq st gr : Nat} {steps : Int} {n : Nat} (hn : 1 ≤ n) (hn2 : n ≤ sq) (hw1 : 0 ≤ steps) (hw2 : steps ≤ 96) : ∀ (k : Nat) (acc : List Int), acc.length + k = n → (∀ r, r ∈ acc → 0 ≤ r ∧ r ≤ 500) → Holds (townA st gr steps n k acc) (TownV sq st gr) := by
  intro k
  induction k with
  | zero =>
    intro acc hl hr
    have hl : acc.length = n := by simpa using hl
    subst hl
    refine (roll_bd (st + 1)).bind fun m hm => ?_
    refine townB_ok hn hn2 hr hw1 hw2 _ [] (fun h => ?_) ?_ (fun s hs => by cases hs)
    · split at h
      · omega
      · exact absurd rfl h
    · split <;> simp <;> omega
  | succ k ih =>
    intro acc hl hr
    refine (roll_bd 60).bind fun x hx => (roll_bd 150).bind fun y hy => (anyOf_mem [x, y, 500] (by simp)).bind fun z hz => ih _ (by simp; omega) fun w hw => ?_
    have hz := mem3 hz
    rcases List.mem_append.1 hw with hw | hw
    · exact hr w hw
    · simp only [List.mem_singleton] at hw; subst hw; omega
theorem townD_ok {sq st gr : Nat} (h : 1 ≤ sq) : Holds (townD sq st gr) (TownV sq st gr) := by
  unfold townD
  refine (anyOf_mem [4, 11] (by simp)).bind fun x hx => (roll_bd x).bind fun steps hst => (mid_bd 1 sq (by omega)).bind fun n hn => ?_
  have hx := mem2 hx
  obtain ⟨m, rfl⟩ : ∃ m : Nat, n = (m : Int) := ⟨n.toNat, by omega⟩
  rw [Int.toNat_natCast]
  exact townA_ok (by omega) (by omega) (by omega) (by omega) m [] (by simp) (fun r hr => by cases hr)
end Go.Proofs.Ytnpamcpoaklgeaa
namespace Go.Proofs.Ytnpamcpoaklgeaa
open Go Go.RowKit
set_option maxRecDepth 100000
def cityA (t : Town) (brk : Int) : Nat → List Int → D City
  | 0, acc => dret ⟨t, brk, acc⟩
  | k + 1, acc => dbind (roll 721) fun x => dbind (mid 300 600) fun y => dbind (anyOf [0, x, y]) fun z => cityA t brk k (acc ++ [z])
def cityD : D City := dbind (townD 4 5 1) fun t => dbind (roll 10) fun x => dbind (roll 60) fun y => dbind (anyOf [0, 1, x, y]) fun brk => cityA t brk t.rooms.length []
def bandP (sts : List (Int × Int)) (first stay people : Int) : Nat → Int → List Int → D Band
  | 0, _, acc => dbind (anyOf [60, 200, 720 - stay * ((acc.length : Int) + 1) - 4]) fun m => dbind (roll m) fun start => dbind (roll 5) fun z => dbind (anyOf [0, 0, z]) fun more => dret ⟨first, acc, start, start + more, stay, people⟩
  | k + 1, at', acc => dbind (roll sts.length) fun s => if 0 ≤ other ((sts[s.toNat]?).getD (0, 0)) at' then bandP sts first stay people k (other ((sts[s.toNat]?).getD (0, 0)) at') (acc ++ [s]) else bandP sts first stay people k at' acc
def bandD (c : City) : D Band := dbind (roll c.town.rooms.length) fun first => dbind (anyOf [6, 20]) fun q => dbind (mid 1 q) fun stay => dbind (roll 60) fun x => dbind (roll 600) fun y => dbind (anyOf [0, x, y]) fun people => dbind (roll 5) fun k =>
  bandP c.town.streets first stay people (if 0 < c.town.streets.length then k.toNat else 0) first []
theorem dbind_ap {α β : Type} (m : D α) (f : α → D β) (b : Int) : dbind m f b = f (m b).1 (m b).2 := Eq.trans rfl rfl
theorem townD451 (b : Int) : TownV 4 5 1 (townD 4 5 1 b).1 := townD_ok (sq := 4) (st := 5) (gr := 1) (by omega) b
theorem mem4 {a b c d r : Int} (h : r ∈ [a, b, c, d]) : r = a ∨ r = b ∨ r = c ∨ r = d := by simpa using h
set_option maxHeartbeats 4000000 in
theorem CityOf_pc (Y : YEnv) (σ : Sg) (d : Nat) (b : Int) (hd : σ.store[d]? = some (some [.int .u64 b])) :
    PC Try.prog Y 19 [.ptr d 0] σ (ctPV (cityD b).1) (σ.setVar d [.int .u64 (cityD b).2]) := by
  refine PC_of_W Try.func19 rfl (by kernel_rfl) Try.ntmps19 (by simp) fun hcl hca => ?_
  have hlt := lt_of_get hd
  obtain ⟨res, hres⟩ : ∃ r, cityD b = r := ⟨_, rfl⟩
  rw [hres]
  obtain ⟨t, ht⟩ : ∃ zz, (townD 4 5 1 b).1 = zz := ⟨_, rfl⟩
  obtain ⟨b1, hb1⟩ : ∃ zz, (townD 4 5 1 b).2 = zz := ⟨_, rfl⟩
  have dt := townD451 b
  rw [ht] at dt
  obtain ⟨x1, hx1⟩ : ∃ zz, (roll 10 b1).1 = zz := ⟨_, rfl⟩
  obtain ⟨b2, hb2⟩ : ∃ zz, (roll 10 b1).2 = zz := ⟨_, rfl⟩
  have dx1 := roll_bd 10 b1
  simp only [hx1] at dx1
  obtain ⟨x2, hx2⟩ : ∃ zz, (roll 60 b2).1 = zz := ⟨_, rfl⟩
  obtain ⟨b3, hb3⟩ : ∃ zz, (roll 60 b2).2 = zz := ⟨_, rfl⟩
  have dx2 := roll_bd 60 b2
  simp only [hx2] at dx2
  obtain ⟨brk, hbrk⟩ : ∃ zz, (anyOf [0, 1, x1, x2] b3).1 = zz := ⟨_, rfl⟩
  obtain ⟨b4, hb4⟩ : ∃ zz, (anyOf [0, 1, x1, x2] b3).2 = zz := ⟨_, rfl⟩
  have dbrk := anyOf_mem [0, 1, x1, x2] (by simp) b3
  simp only [hbrk] at dbrk
  have d4 := mem4 dbrk
  have hr1 := dt.r1
  unfold cityD at hres
  simp only [dbind_ap, ht, hb1, hx1, hb2, hx2, hb3, hbrk, hb4] at hres
  refine W_seq fun kz1 kq1 => ?_
  refine W_region [0, 2] fun R hR => ?_   -- r0
  simp only [go_sem, ldS_at hd, stX_at hd, ldS_sv hlt, stX_sv hlt, sv_ext hlt, sv_ext_sv hlt, ht, hb1, hx1, hb2, hx2, hb3, hbrk, hb4]
  refine hR _ _ (kq1 _ _ ?_); clear hR R; try clear kq1 kz1
  try simp only [go_sem, ldS_at hd, stX_at hd, ldS_sv hlt, stX_sv hlt, sv_ext hlt, sv_ext_sv hlt, ht, hb1, hx1, hb2, hx2, hb3, hbrk, hb4]
  refine W_seq fun kz2 kq2 => ?_
  refine W_region [0, 2, 3] fun R hR => ?_   -- r1
  simp only [go_sem, ldS_at hd, stX_at hd, ldS_sv hlt, stX_sv hlt, sv_ext hlt, sv_ext_sv hlt, ht, hb1, hx1, hb2, hx2, hb3, hbrk, hb4]
  refine GCall_of (TownOf_pc Y _ d b (by first | exact hd | exact sv_get hlt | exact get_svx hlt | exact get_extx hd) 4 5 1 (by omega) (by omega) (by omega) (by omega) (by omega) (by omega)) ?_   -- t6
  simp only [go_sem, ldS_at hd, stX_at hd, ldS_sv hlt, stX_sv hlt, sv_ext hlt, sv_ext_sv hlt, ht, hb1, hx1, hb2, hx2, hb3, hbrk, hb4]
  refine GCall_of (Roll_pc Y _ d b1 (by first | exact hd | exact sv_get hlt | exact get_svx hlt | exact get_extx hd) 10 (by omega)) ?_   -- t9
  simp only [go_sem, ldS_at hd, stX_at hd, ldS_sv hlt, stX_sv hlt, sv_ext hlt, sv_ext_sv hlt, ht, hb1, hx1, hb2, hx2, hb3, hbrk, hb4]
  refine GCall_of (Roll_pc Y _ d b2 (by first | exact hd | exact sv_get hlt | exact get_svx hlt | exact get_extx hd) 60 (by omega)) ?_   -- t11
  simp only [go_sem, ldS_at hd, stX_at hd, ldS_sv hlt, stX_sv hlt, sv_ext hlt, sv_ext_sv hlt, ht, hb1, hx1, hb2, hx2, hb3, hbrk, hb4]
  refine GCall_of (Any_pc Y _ d b3 (by first | exact hd | exact sv_get hlt | exact get_svx hlt | exact get_extx hd) [0, 1, x1, x2] (by simp) (by simp)) ?_   -- t13
  simp only [go_sem, ldS_at hd, stX_at hd, ldS_sv hlt, stX_sv hlt, sv_ext hlt, sv_ext_sv hlt, ht, hb1, hx1, hb2, hx2, hb3, hbrk, hb4]
  refine hR _ _ (kq2 _ _ ?_); clear hR R; try clear kq2 kz2
  try simp only [go_sem, ldS_at hd, stX_at hd, ldS_sv hlt, stX_sv hlt, sv_ext hlt, sv_ext_sv hlt, ht, hb1, hx1, hb2, hx2, hb3, hbrk, hb4]
  refine W_seq fun kz3 kq3 => ?_
  refine W_seq fun kz4 kq4 => ?_
  refine W_region [0, 2, 3, 4] fun R hR => ?_   -- r2
  simp only [go_sem, ldS_at hd, stX_at hd, ldS_sv hlt, stX_sv hlt, sv_ext hlt, sv_ext_sv hlt, ht, hb1, hx1, hb2, hx2, hb3, hbrk, hb4]
  refine hR _ _ (kq4 _ _ ?_); clear hR R; try clear kq4 kz4
  try simp only [go_sem, ldS_at hd, stX_at hd, ldS_sv hlt, stX_sv hlt, sv_ext hlt, sv_ext_sv hlt, ht, hb1, hx1, hb2, hx2, hb3, hbrk, hb4]
  refine W_block ?_
  refine W_weak (Weak.roomSV (j := 1) (off := 5) (es := 1) rfl rfl (by simp)) ?_
  simp only [go_sem, ldS_at hd, stX_at hd, ldS_sv hlt, stX_sv hlt, sv_ext hlt, sv_ext_sv hlt, ht, hb1, hx1, hb2, hx2, hb3, hbrk, hb4]
  refine W_loopT (α := Nat × (List Int) × Int) (fun ⟨i, acc, b⟩ => [(4, I i)]) (fun ⟨i, acc, b⟩ => (σ.setVar d [.int .u64 b]).ext [some [.isl [] .exact, .isl [] .exact, .isl [] .exact, I 0, I 0, .isl [] .exact], some [ints t.rooms, .isl (t.streets.map stPV) .ro, .isl (t.groups.map grPV) .ro, I t.steps, I brk, .isl (acc.map I) (.tok σ.rooms.length acc.length 1)]] [acc.length]) (fun ⟨i, acc, b⟩ => i ≤ t.rooms.length ∧ acc.length = i ∧ res = cityA t brk (t.rooms.length - i) acc b) (fun ⟨i, acc, b⟩ => t.rooms.length - i) ((0, [], b4)) rfl (by first | rfl | (simp only [go_sem]; done) | (simp only [go_sem]; rfl)) (⟨Nat.zero_le _, rfl, hres.symm⟩) ?_
  rintro ⟨i, acc, b⟩ ⟨hi, hal, hinv⟩
  refine W_seq fun kz5 kq5 => ?_
  refine W_seq fun kz6 kq6 => ?_
  refine W_region [0, 2, 3, 4, 20] fun R hR => ?_   -- r3
  simp only [go_sem, ldS_at hd, stX_at hd, ldS_sv hlt, stX_sv hlt, sv_ext hlt, sv_ext_sv hlt, ht, hb1, hx1, hb2, hx2, hb3, hbrk, hb4]
  refine hR _ _ (kq6 _ _ ?_); clear hR R; try clear kq6 kz6
  try simp only [go_sem, ldS_at hd, stX_at hd, ldS_sv hlt, stX_sv hlt, sv_ext hlt, sv_ext_sv hlt, ht, hb1, hx1, hb2, hx2, hb3, hbrk, hb4]
  refine W_cond rfl (fun c1 => ?_) (fun c1 => ?_)
  · -- c1 true
    try simp only [nrm] at c1
    rw [show t.rooms.length - i = (t.rooms.length - (i + 1)) + 1 by omega] at hinv
    obtain ⟨x, hx⟩ : ∃ zz, (roll 721 b).1 = zz := ⟨_, rfl⟩
    obtain ⟨b5, hb5⟩ : ∃ zz, (roll 721 b).2 = zz := ⟨_, rfl⟩
    have dx := roll_bd 721 b
    simp only [hx] at dx
    obtain ⟨y, hy⟩ : ∃ zz, (mid 300 600 b5).1 = zz := ⟨_, rfl⟩
    obtain ⟨b6, hb6⟩ : ∃ zz, (mid 300 600 b5).2 = zz := ⟨_, rfl⟩
    have dy := mid_bd 300 600 (by omega) b5
    simp only [hy] at dy
    obtain ⟨z, hz⟩ : ∃ zz, (anyOf [0, x, y] b6).1 = zz := ⟨_, rfl⟩
    obtain ⟨b7, hb7⟩ : ∃ zz, (anyOf [0, x, y] b6).2 = zz := ⟨_, rfl⟩
    have dz := anyOf_mem [0, x, y] (by simp) b6
    simp only [hz] at dz
    simp only [cityA, dbind, hx, hb5, hy, hb6, hz, hb7] at hinv
    refine W_skip (kq5 _ _ ?_)
    refine W_seq fun kz7 kq7 => ?_
    refine W_block ?_
    refine W_draw [0, 2, 3, 4] [0, 1, 2, 3, 4, 5, 6, 7, 8, 9, 10, 11, 12] [(0, 6), (0, 8), (0, 10), (1, 6), (1, 8), (1, 10), (2, 6), (2, 8), (5, 4)] [[], [0], [], [], [3], [], [3, 4, 5], [3, 4, 5, 6], [2, 3, 4, 5, 6, 7], [2, 3, 4, 5, 6, 7, 8], [0, 1, 2, 3, 4, 5, 6, 7, 8, 9], [0, 1, 2, 3, 4, 5, 6, 7, 8, 9, 10], [0, 1, 2, 3, 4, 5, 6, 7, 8, 9, 10, 11]] mixed (by kernel_rfl) fun R hR => ?_   -- r5
    simp only [go_sem, ldS_at hd, stX_at hd, ldS_sv hlt, stX_sv hlt, sv_ext hlt, sv_ext_sv hlt, ht, hb1, hx1, hb2, hx2, hb3, hbrk, hb4, hx, hb5, hy, hb6, hz, hb7]
    refine GCall_of (Roll_pc Y _ d b (by first | exact hd | exact sv_get hlt | exact get_svx hlt | exact get_extx hd) 721 (by omega)) ?_   -- t27
    simp only [go_sem, ldS_at hd, stX_at hd, ldS_sv hlt, stX_sv hlt, sv_ext hlt, sv_ext_sv hlt, ht, hb1, hx1, hb2, hx2, hb3, hbrk, hb4, hx, hb5, hy, hb6, hz, hb7]
    refine GCall_of (Mid_pc Y _ d b5 (by first | exact hd | exact sv_get hlt | exact get_svx hlt | exact get_extx hd) 300 600 (by omega) (by omega) (by omega) (by omega)) ?_   -- t29
    simp only [go_sem, ldS_at hd, stX_at hd, ldS_sv hlt, stX_sv hlt, sv_ext hlt, sv_ext_sv hlt, ht, hb1, hx1, hb2, hx2, hb3, hbrk, hb4, hx, hb5, hy, hb6, hz, hb7]
    refine GCall_of (Any_pc Y _ d b6 (by first | exact hd | exact sv_get hlt | exact get_svx hlt | exact get_extx hd) [0, x, y] (by simp) (by simp)) ?_   -- t31
    simp only [go_sem, ldS_at hd, stX_at hd, ldS_sv hlt, stX_sv hlt, sv_ext hlt, sv_ext_sv hlt, ht, hb1, hx1, hb2, hx2, hb3, hbrk, hb4, hx, hb5, hy, hb6, hz, hb7]
    simp (disch := first | omega | (simp only [go_sem] <;> omega)) only [wrapI, wrapU, appX_exact, appX_tok]
    try simp only [go_sem, ldS_at hd, stX_at hd, ldS_sv hlt, stX_sv hlt, sv_ext hlt, sv_ext_sv hlt, ht, hb1, hx1, hb2, hx2, hb3, hbrk, hb4, hx, hb5, hy, hb6, hz, hb7]
    try refine And.intro (by repeat' (first | refine And.intro ?_ ?_ | exact GOr_right (fun _ => by simp only [go_sem, ldS_at hd, stX_at hd, ldS_sv hlt, stX_sv hlt, sv_ext hlt, sv_ext_sv hlt, ht, hb1, hx1, hb2, hx2, hb3, hbrk, hb4, hx, hb5, hy, hb6, hz, hb7]))) ?_
    refine hR _ _ (kq7 _ _ ?_); clear hR R; try clear kq7 kz7
    try simp only [go_sem, ldS_at hd, stX_at hd, ldS_sv hlt, stX_sv hlt, sv_ext hlt, sv_ext_sv hlt, ht, hb1, hx1, hb2, hx2, hb3, hbrk, hb4, hx, hb5, hy, hb6, hz, hb7]
    refine W_region [0, 2, 3, 4] fun R hR => ?_   -- r4
    simp only [go_sem, ldS_at hd, stX_at hd, ldS_sv hlt, stX_sv hlt, sv_ext hlt, sv_ext_sv hlt, ht, hb1, hx1, hb2, hx2, hb3, hbrk, hb4, hx, hb5, hy, hb6, hz, hb7]
    try simp (disch := omega) only [wrapI, wrapU]
    refine hR _ _ ?_; clear hR R
    try simp only [go_sem, ldS_at hd, stX_at hd, ldS_sv hlt, stX_sv hlt, sv_ext hlt, sv_ext_sv hlt, ht, hb1, hx1, hb2, hx2, hb3, hbrk, hb4, hx, hb5, hy, hb6, hz, hb7]
    refine ⟨(i + 1, acc ++ [z], b7), ?_, by (try simp only []); omega, ?_⟩
    · first | exact Weak.refl | exact Weak.eq (by first | rfl | (simp only [go_sem]; done) | (simp only [go_sem]; rfl) | (simp [go_sem]; done) | (simp [go_sem]; omega)) (by first | rfl | (simp only [go_sem]; done) | (simp [go_sem]; done))
    · try dsimp only
      exact ⟨by omega, by simp; omega, hinv⟩
  · -- c1 false
    try simp only [nrm] at c1
    rw [show t.rooms.length - i = 0 by omega] at hinv
    simp only [cityA, dret] at hinv
    refine W_exit ?_
    simp only [go_sem, ldS_at hd, stX_at hd, ldS_sv hlt, stX_sv hlt, sv_ext hlt, sv_ext_sv hlt, ht, hb1, hx1, hb2, hx2, hb3, hbrk, hb4]
    refine kq3 _ _ ?_
    refine W_seq fun kz8 kq8 => ?_
    refine W_region [2] fun R hR => ?_   -- r6
    simp only [go_sem, ldS_at hd, stX_at hd, ldS_sv hlt, stX_sv hlt, sv_ext hlt, sv_ext_sv hlt, ht, hb1, hx1, hb2, hx2, hb3, hbrk, hb4]
    refine hR _ _ (kq8 _ _ ?_); clear hR R; try clear kq8 kz8
    try simp only [go_sem, ldS_at hd, stX_at hd, ldS_sv hlt, stX_sv hlt, sv_ext hlt, sv_ext_sv hlt, ht, hb1, hx1, hb2, hx2, hb3, hbrk, hb4]
    refine W_ret ?_
    simp only [go_sem, ldS_at hd, stX_at hd, ldS_sv hlt, stX_sv hlt, sv_ext hlt, sv_ext_sv hlt, ht, hb1, hx1, hb2, hx2, hb3, hbrk, hb4]
    refine ⟨.inr (by trivial), ?_⟩
    rw [hinv]; refine Fin_set hcl (by simp only [go_sem]) (by show resPV Try.prog _ _ [.cell 2 28] = some _; simp only [resPV, go_sem]; rfl) (Wk.ro (by simp only [go_sem]) ?_)
    try simp only [go_sem]
    all_goals
      simp only [go_sem]
set_option maxHeartbeats 4000000 in
theorem BandOf_pc (Y : YEnv) (σ : Sg) (d : Nat) (b : Int) (hd : σ.store[d]? = some (some [.int .u64 b])) (c : City) (hr : c.town.rooms.length < 2 ^ 40) (hs : c.town.streets.length < 2 ^ 40) :
    PC Try.prog Y 20 [.ptr d 0, ctPV c] σ (bdPV (bandD c b).1) (σ.setVar d [.int .u64 (bandD c b).2]) := by
  refine PC_of_W Try.func20 rfl (by kernel_rfl) Try.ntmps20 (by simp) fun hcl hca => ?_
  have hlt := lt_of_get hd
  obtain ⟨res, hres⟩ : ∃ r, bandD c b = r := ⟨_, rfl⟩
  rw [hres]
  obtain ⟨first, hfirst⟩ : ∃ zz, (roll c.town.rooms.length b).1 = zz := ⟨_, rfl⟩
  obtain ⟨b1, hb1⟩ : ∃ zz, (roll c.town.rooms.length b).2 = zz := ⟨_, rfl⟩
  have dfirst := roll_bd c.town.rooms.length b
  simp only [hfirst] at dfirst
  obtain ⟨q, hq⟩ : ∃ zz, (anyOf [6, 20] b1).1 = zz := ⟨_, rfl⟩
  obtain ⟨b2, hb2⟩ : ∃ zz, (anyOf [6, 20] b1).2 = zz := ⟨_, rfl⟩
  have dq := anyOf_mem [6, 20] (by simp) b1
  simp only [hq] at dq
  have dq2 := mem2 dq
  obtain ⟨stay, hstay⟩ : ∃ zz, (mid 1 q b2).1 = zz := ⟨_, rfl⟩
  obtain ⟨b3, hb3⟩ : ∃ zz, (mid 1 q b2).2 = zz := ⟨_, rfl⟩
  have dstay := mid_bd 1 q (by omega) b2
  simp only [hstay] at dstay
  obtain ⟨x1, hx1⟩ : ∃ zz, (roll 60 b3).1 = zz := ⟨_, rfl⟩
  obtain ⟨b4, hb4⟩ : ∃ zz, (roll 60 b3).2 = zz := ⟨_, rfl⟩
  have dx1 := roll_bd 60 b3
  simp only [hx1] at dx1
  obtain ⟨x2, hx2⟩ : ∃ zz, (roll 600 b4).1 = zz := ⟨_, rfl⟩
  obtain ⟨b5, hb5⟩ : ∃ zz, (roll 600 b4).2 = zz := ⟨_, rfl⟩
  have dx2 := roll_bd 600 b4
  simp only [hx2] at dx2
  obtain ⟨people, hpeople⟩ : ∃ zz, (anyOf [0, x1, x2] b5).1 = zz := ⟨_, rfl⟩
  obtain ⟨b6, hb6⟩ : ∃ zz, (anyOf [0, x1, x2] b5).2 = zz := ⟨_, rfl⟩
  have dpeople := anyOf_mem [0, x1, x2] (by simp) b5
  simp only [hpeople] at dpeople
  obtain ⟨kk, hkk⟩ : ∃ zz, (roll 5 b6).1 = zz := ⟨_, rfl⟩
  obtain ⟨b7, hb7⟩ : ∃ zz, (roll 5 b6).2 = zz := ⟨_, rfl⟩
  have dkk := roll_bd 5 b6
  simp only [hkk] at dkk
  have dp2 := mem3 dpeople
  simp only [bandD, dbind, hfirst, hb1, hq, hb2, hstay, hb3, hx1, hb4, hx2, hb5, hpeople, hb6, hkk, hb7] at hres
  have hkt : ((kk.toNat : Nat) : Int) = kk := by omega
  refine W_seq fun kz1 kq1 => ?_
  refine W_region [0, 3, 4] fun R hR => ?_   -- r0
  simp only [go_sem, ldS_at hd, stX_at hd, ldS_sv hlt, stX_sv hlt, sv_ext hlt, sv_ext_sv hlt, hfirst, hb1, hq, hb2, hstay, hb3, hx1, hb4, hx2, hb5, hpeople, hb6, hkk, hb7]
  refine hR _ _ (kq1 _ _ ?_); clear hR R; try clear kq1 kz1
  try simp only [go_sem, ldS_at hd, stX_at hd, ldS_sv hlt, stX_sv hlt, sv_ext hlt, sv_ext_sv hlt, hfirst, hb1, hq, hb2, hstay, hb3, hx1, hb4, hx2, hb5, hpeople, hb6, hkk, hb7]
  refine W_seq fun kz2 kq2 => ?_
  refine W_region [0, 3, 4, 5] fun R hR => ?_   -- r1
  simp only [go_sem, ldS_at hd, stX_at hd, ldS_sv hlt, stX_sv hlt, sv_ext hlt, sv_ext_sv hlt, hfirst, hb1, hq, hb2, hstay, hb3, hx1, hb4, hx2, hb5, hpeople, hb6, hkk, hb7]
  refine GCall_of (Roll_pc Y _ d b (by first | exact hd | exact sv_get hlt | exact get_svx hlt | exact get_extx hd) c.town.rooms.length (by omega)) ?_   -- t16
  simp only [go_sem, ldS_at hd, stX_at hd, ldS_sv hlt, stX_sv hlt, sv_ext hlt, sv_ext_sv hlt, hfirst, hb1, hq, hb2, hstay, hb3, hx1, hb4, hx2, hb5, hpeople, hb6, hkk, hb7]
  refine GCall_of (Any_pc Y _ d b1 (by first | exact hd | exact sv_get hlt | exact get_svx hlt | exact get_extx hd) [6, 20] (by simp) (by simp)) ?_   -- t20
  simp only [go_sem, ldS_at hd, stX_at hd, ldS_sv hlt, stX_sv hlt, sv_ext hlt, sv_ext_sv hlt, hfirst, hb1, hq, hb2, hstay, hb3, hx1, hb4, hx2, hb5, hpeople, hb6, hkk, hb7]
  refine GCall_of (Mid_pc Y _ d b2 (by first | exact hd | exact sv_get hlt | exact get_svx hlt | exact get_extx hd) 1 q (by omega) (by omega) (by omega) (by omega)) ?_   -- t21
  simp only [go_sem, ldS_at hd, stX_at hd, ldS_sv hlt, stX_sv hlt, sv_ext hlt, sv_ext_sv hlt, hfirst, hb1, hq, hb2, hstay, hb3, hx1, hb4, hx2, hb5, hpeople, hb6, hkk, hb7]
  refine GCall_of (Roll_pc Y _ d b3 (by first | exact hd | exact sv_get hlt | exact get_svx hlt | exact get_extx hd) 60 (by omega)) ?_   -- t24
  simp only [go_sem, ldS_at hd, stX_at hd, ldS_sv hlt, stX_sv hlt, sv_ext hlt, sv_ext_sv hlt, hfirst, hb1, hq, hb2, hstay, hb3, hx1, hb4, hx2, hb5, hpeople, hb6, hkk, hb7]
  refine GCall_of (Roll_pc Y _ d b4 (by first | exact hd | exact sv_get hlt | exact get_svx hlt | exact get_extx hd) 600 (by omega)) ?_   -- t26
  simp only [go_sem, ldS_at hd, stX_at hd, ldS_sv hlt, stX_sv hlt, sv_ext hlt, sv_ext_sv hlt, hfirst, hb1, hq, hb2, hstay, hb3, hx1, hb4, hx2, hb5, hpeople, hb6, hkk, hb7]
  refine GCall_of (Any_pc Y _ d b5 (by first | exact hd | exact sv_get hlt | exact get_svx hlt | exact get_extx hd) [0, x1, x2] (by simp) (by simp)) ?_   -- t28
  simp only [go_sem, ldS_at hd, stX_at hd, ldS_sv hlt, stX_sv hlt, sv_ext hlt, sv_ext_sv hlt, hfirst, hb1, hq, hb2, hstay, hb3, hx1, hb4, hx2, hb5, hpeople, hb6, hkk, hb7]
  refine hR _ _ (kq2 _ _ ?_); clear hR R; try clear kq2 kz2
  try simp only [go_sem, ldS_at hd, stX_at hd, ldS_sv hlt, stX_sv hlt, sv_ext hlt, sv_ext_sv hlt, hfirst, hb1, hq, hb2, hstay, hb3, hx1, hb4, hx2, hb5, hpeople, hb6, hkk, hb7]
  refine W_seq fun kz3 kq3 => ?_
  refine W_region [0, 3, 4, 5, 6] fun R hR => ?_   -- r2
  simp only [go_sem, ldS_at hd, stX_at hd, ldS_sv hlt, stX_sv hlt, sv_ext hlt, sv_ext_sv hlt, hfirst, hb1, hq, hb2, hstay, hb3, hx1, hb4, hx2, hb5, hpeople, hb6, hkk, hb7]
  refine hR _ _ (kq3 _ _ ?_); clear hR R; try clear kq3 kz3
  try simp only [go_sem, ldS_at hd, stX_at hd, ldS_sv hlt, stX_sv hlt, sv_ext hlt, sv_ext_sv hlt, hfirst, hb1, hq, hb2, hstay, hb3, hx1, hb4, hx2, hb5, hpeople, hb6, hkk, hb7]
  refine W_seq fun kz4 kq4 => ?_
  refine W_seq fun kz5 kq5 => ?_
  refine W_region [0, 3, 4, 5, 6, 7] fun R hR => ?_   -- r3
  simp only [go_sem, ldS_at hd, stX_at hd, ldS_sv hlt, stX_sv hlt, sv_ext hlt, sv_ext_sv hlt, hfirst, hb1, hq, hb2, hstay, hb3, hx1, hb4, hx2, hb5, hpeople, hb6, hkk, hb7]
  refine GCall_of (Roll_pc Y _ d b6 (by first | exact hd | exact sv_get hlt | exact get_svx hlt | exact get_extx hd) 5 (by omega)) ?_   -- t33
  simp only [go_sem, ldS_at hd, stX_at hd, ldS_sv hlt, stX_sv hlt, sv_ext hlt, sv_ext_sv hlt, hfirst, hb1, hq, hb2, hstay, hb3, hx1, hb4, hx2, hb5, hpeople, hb6, hkk, hb7]
  refine hR _ _ (kq5 _ _ ?_); clear hR R; try clear kq5 kz5
  try simp only [go_sem, ldS_at hd, stX_at hd, ldS_sv hlt, stX_sv hlt, sv_ext hlt, sv_ext_sv hlt, hfirst, hb1, hq, hb2, hstay, hb3, hx1, hb4, hx2, hb5, hpeople, hb6, hkk, hb7]
  refine W_block ?_
  refine W_weak (Weak.roomSV (j := 2) (off := 1) (es := 1) rfl rfl (by simp)) ?_
  simp only [go_sem, ldS_at hd, stX_at hd, ldS_sv hlt, stX_sv hlt, sv_ext hlt, sv_ext_sv hlt, hfirst, hb1, hq, hb2, hstay, hb3, hx1, hb4, hx2, hb5, hpeople, hb6, hkk, hb7]
  refine W_loopT (α := Nat × Int × (List Int) × Int) (fun ⟨k, at', acc, b⟩ => [(6, I at'), (7, I k)]) (fun ⟨k, at', acc, b⟩ => (σ.setVar d [.int .u64 b]).ext [some (ctCells c), some [I 0, .isl [] .exact, I 0, I 0, I 0, I 0], some [I first, .isl (acc.map I) (.tok σ.rooms.length acc.length 1), I 0, I 0, I stay, I people]] [acc.length]) (fun ⟨k, at', acc, b⟩ => acc.length + k ≤ 100 ∧ res = bandP c.town.streets first stay people (if 0 < c.town.streets.length then k else 0) at' acc b) (fun ⟨k, at', acc, b⟩ => k) ((kk.toNat, first, [], b7)) (by simp only [go_sem, hkt]) (by first | rfl | (simp only [go_sem]; done) | (simp only [go_sem]; rfl)) (⟨by (try dsimp only); simp; omega, hres.symm⟩) ?_
  rintro ⟨k, at', acc, b⟩ ⟨hal, hinv⟩
  refine W_seq fun kz6 kq6 => ?_
  refine W_seq fun kz7 kq7 => ?_
  refine W_regionJ [0, 3, 4, 5, 6, 7, 42] [(42, .bool (decide (0 < (k : Int)) && decide (0 < (c.town.streets.length : Int))))] ?_ fun R hR => ?_   -- r4
  · refine kq7 _ _ ?_
    simp only [go_sem, ldS_at hd, stX_at hd, ldS_sv hlt, stX_sv hlt, sv_ext hlt, sv_ext_sv hlt, hfirst, hb1, hq, hb2, hstay, hb3, hx1, hb4, hx2, hb5, hpeople, hb6, hkk, hb7]
    refine W_cond rfl (fun c1 => ?_) (fun c1 => ?_)
    · -- c1 true
      try simp only [nrm] at c1
      simp only [Bool.and_eq_true, decide_eq_true_eq] at c1
      obtain ⟨k, rfl⟩ : ∃ j, k = j + 1 := ⟨k - 1, by omega⟩
      have hap : 0 < c.town.streets.length := by omega
      rw [if_pos hap] at hinv
      obtain ⟨s0, hs0⟩ : ∃ zz, (roll c.town.streets.length b).1 = zz := ⟨_, rfl⟩
      obtain ⟨b8, hb8⟩ : ∃ zz, (roll c.town.streets.length b).2 = zz := ⟨_, rfl⟩
      have ds0 := roll_bd c.town.streets.length b
      simp only [hs0] at ds0
      obtain ⟨s, hs1⟩ : ∃ s, c.town.streets[s0.toNat]? = some s := ⟨c.town.streets[s0.toNat]'(by omega), by simp⟩
      have hs00 : 0 ≤ s0 := by omega
      simp only [bandP, dbind, hs0, hb8, hs1, Option.getD_some] at hinv
      refine W_skip (kq6 _ _ ?_)
      refine W_seq fun kz8 kq8 => ?_
      refine W_block ?_
      refine W_seq fun kz9 kq9 => ?_
      refine W_region [0, 3, 4, 5, 6, 7, 8] fun R hR => ?_   -- r6
      simp only [go_sem, ldS_at hd, stX_at hd, ldS_sv hlt, stX_sv hlt, sv_ext hlt, sv_ext_sv hlt, hfirst, hb1, hq, hb2, hstay, hb3, hx1, hb4, hx2, hb5, hpeople, hb6, hkk, hb7, hs0, hb8, hs1, hs00]
      refine GCall_of (Roll_pc Y _ d b (by first | exact hd | exact sv_get hlt | exact get_svx hlt | exact get_extx hd) c.town.streets.length (by omega)) ?_   -- t50
      simp only [go_sem, ldS_at hd, stX_at hd, ldS_sv hlt, stX_sv hlt, sv_ext hlt, sv_ext_sv hlt, hfirst, hb1, hq, hb2, hstay, hb3, hx1, hb4, hx2, hb5, hpeople, hb6, hkk, hb7, hs0, hb8, hs1, hs00]
      refine hR _ _ (kq9 _ _ ?_); clear hR R; try clear kq9 kz9
      try simp only [go_sem, ldS_at hd, stX_at hd, ldS_sv hlt, stX_sv hlt, sv_ext hlt, sv_ext_sv hlt, hfirst, hb1, hq, hb2, hstay, hb3, hx1, hb4, hx2, hb5, hpeople, hb6, hkk, hb7, hs0, hb8, hs1, hs00]
      refine W_seq fun kz10 kq10 => ?_
      refine W_region [0, 3, 4, 5, 6, 7, 8, 9] fun R hR => ?_   -- r7
      simp only [go_sem, ldS_at hd, stX_at hd, ldS_sv hlt, stX_sv hlt, sv_ext hlt, sv_ext_sv hlt, hfirst, hb1, hq, hb2, hstay, hb3, hx1, hb4, hx2, hb5, hpeople, hb6, hkk, hb7, hs0, hb8, hs1, hs00]
      refine GCall_of (rother_pc Y _ s at') ?_   -- t58
      simp only [go_sem, ldS_at hd, stX_at hd, ldS_sv hlt, stX_sv hlt, sv_ext hlt, sv_ext_sv hlt, hfirst, hb1, hq, hb2, hstay, hb3, hx1, hb4, hx2, hb5, hpeople, hb6, hkk, hb7, hs0, hb8, hs1, hs00]
      refine hR _ _ (kq10 _ _ ?_); clear hR R; try clear kq10 kz10
      try simp only [go_sem, ldS_at hd, stX_at hd, ldS_sv hlt, stX_sv hlt, sv_ext hlt, sv_ext_sv hlt, hfirst, hb1, hq, hb2, hstay, hb3, hx1, hb4, hx2, hb5, hpeople, hb6, hkk, hb7, hs0, hb8, hs1, hs00]
      refine W_seq fun kz11 kq11 => ?_
      refine W_region [0, 3, 4, 5, 6, 7, 8, 9, 60] fun R hR => ?_   -- r8
      simp only [go_sem, ldS_at hd, stX_at hd, ldS_sv hlt, stX_sv hlt, sv_ext hlt, sv_ext_sv hlt, hfirst, hb1, hq, hb2, hstay, hb3, hx1, hb4, hx2, hb5, hpeople, hb6, hkk, hb7, hs0, hb8, hs1, hs00]
      refine hR _ _ (kq11 _ _ ?_); clear hR R; try clear kq11 kz11
      try simp only [go_sem, ldS_at hd, stX_at hd, ldS_sv hlt, stX_sv hlt, sv_ext hlt, sv_ext_sv hlt, hfirst, hb1, hq, hb2, hstay, hb3, hx1, hb4, hx2, hb5, hpeople, hb6, hkk, hb7, hs0, hb8, hs1, hs00]
      refine W_cond rfl (fun c2 => ?_) (fun c2 => ?_)
      · -- c2 true
        try simp only [nrm] at c2
        refine W_region [0, 3, 4, 5, 6, 7] fun R hR => ?_   -- r9
        simp only [go_sem, ldS_at hd, stX_at hd, ldS_sv hlt, stX_sv hlt, sv_ext hlt, sv_ext_sv hlt, hfirst, hb1, hq, hb2, hstay, hb3, hx1, hb4, hx2, hb5, hpeople, hb6, hkk, hb7, hs0, hb8, hs1, hs00]
        simp (disch := first | omega | (simp only [go_sem] <;> omega)) only [wrapI, wrapU, appX_exact, appX_tok]
        try simp only [go_sem, ldS_at hd, stX_at hd, ldS_sv hlt, stX_sv hlt, sv_ext hlt, sv_ext_sv hlt, hfirst, hb1, hq, hb2, hstay, hb3, hx1, hb4, hx2, hb5, hpeople, hb6, hkk, hb7, hs0, hb8, hs1, hs00]
        refine hR _ _ (kq8 _ _ ?_); clear hR R; try clear kq8 kz8
        try simp only [go_sem, ldS_at hd, stX_at hd, ldS_sv hlt, stX_sv hlt, sv_ext hlt, sv_ext_sv hlt, hfirst, hb1, hq, hb2, hstay, hb3, hx1, hb4, hx2, hb5, hpeople, hb6, hkk, hb7, hs0, hb8, hs1, hs00]
        refine W_region [0, 3, 4, 5, 6, 7] fun R hR => ?_   -- r5
        simp only [go_sem, ldS_at hd, stX_at hd, ldS_sv hlt, stX_sv hlt, sv_ext hlt, sv_ext_sv hlt, hfirst, hb1, hq, hb2, hstay, hb3, hx1, hb4, hx2, hb5, hpeople, hb6, hkk, hb7, hs0, hb8, hs1, hs00]
        try simp (disch := omega) only [wrapI, wrapU]
        refine hR _ _ ?_; clear hR R
        try simp only [go_sem, ldS_at hd, stX_at hd, ldS_sv hlt, stX_sv hlt, sv_ext hlt, sv_ext_sv hlt, hfirst, hb1, hq, hb2, hstay, hb3, hx1, hb4, hx2, hb5, hpeople, hb6, hkk, hb7, hs0, hb8, hs1, hs00]
        refine ⟨(k, other s at', acc ++ [s0], b8), ?_, by (try simp only []); omega, ?_⟩
        · first | exact Weak.refl | exact Weak.eq (by first | rfl | (simp only [go_sem]; done) | (simp only [go_sem]; rfl) | (simp [go_sem]; done) | (simp [go_sem]; omega)) (by first | rfl | (simp only [go_sem]; done) | (simp [go_sem]; done))
        · try dsimp only
          refine ⟨by (try simp); omega, ?_⟩
          rw [if_pos hap, hinv]; first | rw [if_pos c2] | rw [if_neg c2]
      · -- c2 false
        try simp only [nrm] at c2
        refine W_skip (kq8 _ _ ?_)
        refine W_region [0, 3, 4, 5, 6, 7] fun R hR => ?_   -- r5
        simp only [go_sem, ldS_at hd, stX_at hd, ldS_sv hlt, stX_sv hlt, sv_ext hlt, sv_ext_sv hlt, hfirst, hb1, hq, hb2, hstay, hb3, hx1, hb4, hx2, hb5, hpeople, hb6, hkk, hb7, hs0, hb8, hs1, hs00]
        try simp (disch := omega) only [wrapI, wrapU]
        refine hR _ _ ?_; clear hR R
        try simp only [go_sem, ldS_at hd, stX_at hd, ldS_sv hlt, stX_sv hlt, sv_ext hlt, sv_ext_sv hlt, hfirst, hb1, hq, hb2, hstay, hb3, hx1, hb4, hx2, hb5, hpeople, hb6, hkk, hb7, hs0, hb8, hs1, hs00]
        refine ⟨(k, at', acc, b8), ?_, by (try simp only []); omega, ?_⟩
        · first | exact Weak.refl | exact Weak.eq (by first | rfl | (simp only [go_sem]; done) | (simp only [go_sem]; rfl) | (simp [go_sem]; done) | (simp [go_sem]; omega)) (by first | rfl | (simp only [go_sem]; done) | (simp [go_sem]; done))
        · try dsimp only
          refine ⟨by (try simp); omega, ?_⟩
          rw [if_pos hap, hinv]; first | rw [if_pos c2] | rw [if_neg c2]
    · -- c1 false
      try simp only [nrm] at c1
      simp only [Bool.and_eq_false_iff, decide_eq_false_iff_not] at c1
      have hz : (if 0 < c.town.streets.length then k else 0) = 0 := by split <;> omega
      rw [hz] at hinv
      clear hres
      have hmu := mul_bd (a := stay) (b := (acc.length : Int) + 1) (A := 20) (B := 101) (by omega) (by omega) (by omega) (by omega)
      obtain ⟨m, hm⟩ : ∃ zz, (anyOf [60, 200, 720 - stay * ((acc.length : Int) + 1) - 4] b).1 = zz := ⟨_, rfl⟩
      obtain ⟨b9, hb9⟩ : ∃ zz, (anyOf [60, 200, 720 - stay * ((acc.length : Int) + 1) - 4] b).2 = zz := ⟨_, rfl⟩
      have dm := anyOf_mem [60, 200, 720 - stay * ((acc.length : Int) + 1) - 4] (by simp) b
      simp only [hm] at dm
      have dm2 := mem3 dm
      obtain ⟨start, hstart⟩ : ∃ zz, (roll m b9).1 = zz := ⟨_, rfl⟩
      obtain ⟨b10, hb10⟩ : ∃ zz, (roll m b9).2 = zz := ⟨_, rfl⟩
      have dstart := roll_bd m b9
      simp only [hstart] at dstart
      obtain ⟨z, hz⟩ : ∃ zz, (roll 5 b10).1 = zz := ⟨_, rfl⟩
      obtain ⟨b11, hb11⟩ : ∃ zz, (roll 5 b10).2 = zz := ⟨_, rfl⟩
      have dz := roll_bd 5 b10
      simp only [hz] at dz
      obtain ⟨more, hmore⟩ : ∃ zz, (anyOf [0, 0, z] b11).1 = zz := ⟨_, rfl⟩
      obtain ⟨b12, hb12⟩ : ∃ zz, (anyOf [0, 0, z] b11).2 = zz := ⟨_, rfl⟩
      have dmore := anyOf_mem [0, 0, z] (by simp) b11
      simp only [hmore] at dmore
      have do2 := mem3 dmore
      simp only [bandP, dbind, dret, hm, hb9, hstart, hb10, hz, hb11, hmore, hb12] at hinv
      have w1 : IntKind.i64.wrap (stay * ((acc.length : Int) + 1)) = stay * ((acc.length : Int) + 1) := wrapI (by omega) (by omega)
      refine W_exit ?_
      simp only [go_sem, ldS_at hd, stX_at hd, ldS_sv hlt, stX_sv hlt, sv_ext hlt, sv_ext_sv hlt, hfirst, hb1, hq, hb2, hstay, hb3, hx1, hb4, hx2, hb5, hpeople, hb6, hkk, hb7, hm, hb9, hstart, hb10, hz, hb11, hmore, hb12]
      refine kq4 _ _ ?_
      refine W_seq fun kz12 kq12 => ?_
      refine W_region [0, 4, 5, 10] fun R hR => ?_   -- r10
      simp only [go_sem, ldS_at hd, stX_at hd, ldS_sv hlt, stX_sv hlt, sv_ext hlt, sv_ext_sv hlt, hfirst, hb1, hq, hb2, hstay, hb3, hx1, hb4, hx2, hb5, hpeople, hb6, hkk, hb7, hm, hb9, hstart, hb10, hz, hb11, hmore, hb12]
      try simp (disch := omega) only [wrapI, wrapU]
      refine GCall_of (Any_pc Y _ d b (by first | exact hd | exact sv_get hlt | exact get_svx hlt | exact get_extx hd) [60, 200, 720 - stay * ((acc.length : Int) + 1) - 4] (by simp) (by simp)) ?_   -- t80
      simp only [go_sem, ldS_at hd, stX_at hd, ldS_sv hlt, stX_sv hlt, sv_ext hlt, sv_ext_sv hlt, hfirst, hb1, hq, hb2, hstay, hb3, hx1, hb4, hx2, hb5, hpeople, hb6, hkk, hb7, hm, hb9, hstart, hb10, hz, hb11, hmore, hb12]
      try simp (disch := omega) only [wrapI, wrapU]
      refine GCall_of (Roll_pc Y _ d b9 (by first | exact hd | exact sv_get hlt | exact get_svx hlt | exact get_extx hd) m (by omega)) ?_   -- t81
      simp only [go_sem, ldS_at hd, stX_at hd, ldS_sv hlt, stX_sv hlt, sv_ext hlt, sv_ext_sv hlt, hfirst, hb1, hq, hb2, hstay, hb3, hx1, hb4, hx2, hb5, hpeople, hb6, hkk, hb7, hm, hb9, hstart, hb10, hz, hb11, hmore, hb12]
      try simp (disch := omega) only [wrapI, wrapU]
      refine hR _ _ (kq12 _ _ ?_); clear hR R; try clear kq12 kz12
      try simp only [go_sem, ldS_at hd, stX_at hd, ldS_sv hlt, stX_sv hlt, sv_ext hlt, sv_ext_sv hlt, hfirst, hb1, hq, hb2, hstay, hb3, hx1, hb4, hx2, hb5, hpeople, hb6, hkk, hb7, hm, hb9, hstart, hb10, hz, hb11, hmore, hb12]
      refine W_seq fun kz13 kq13 => ?_
      refine W_region [4, 5] fun R hR => ?_   -- r11
      simp only [go_sem, ldS_at hd, stX_at hd, ldS_sv hlt, stX_sv hlt, sv_ext hlt, sv_ext_sv hlt, hfirst, hb1, hq, hb2, hstay, hb3, hx1, hb4, hx2, hb5, hpeople, hb6, hkk, hb7, hm, hb9, hstart, hb10, hz, hb11, hmore, hb12]
      refine GCall_of (Roll_pc Y _ d b10 (by first | exact hd | exact sv_get hlt | exact get_svx hlt | exact get_extx hd) 5 (by omega)) ?_   -- t86
      simp only [go_sem, ldS_at hd, stX_at hd, ldS_sv hlt, stX_sv hlt, sv_ext hlt, sv_ext_sv hlt, hfirst, hb1, hq, hb2, hstay, hb3, hx1, hb4, hx2, hb5, hpeople, hb6, hkk, hb7, hm, hb9, hstart, hb10, hz, hb11, hmore, hb12]
      refine GCall_of (Any_pc Y _ d b11 (by first | exact hd | exact sv_get hlt | exact get_svx hlt | exact get_extx hd) [0, 0, z] (by simp) (by simp)) ?_   -- t88
      simp only [go_sem, ldS_at hd, stX_at hd, ldS_sv hlt, stX_sv hlt, sv_ext hlt, sv_ext_sv hlt, hfirst, hb1, hq, hb2, hstay, hb3, hx1, hb4, hx2, hb5, hpeople, hb6, hkk, hb7, hm, hb9, hstart, hb10, hz, hb11, hmore, hb12]
      try simp (disch := omega) only [wrapI, wrapU]
      refine hR _ _ (kq13 _ _ ?_); clear hR R; try clear kq13 kz13
      try simp only [go_sem, ldS_at hd, stX_at hd, ldS_sv hlt, stX_sv hlt, sv_ext hlt, sv_ext_sv hlt, hfirst, hb1, hq, hb2, hstay, hb3, hx1, hb4, hx2, hb5, hpeople, hb6, hkk, hb7, hm, hb9, hstart, hb10, hz, hb11, hmore, hb12]
      refine W_seq fun kz14 kq14 => ?_
      refine W_region [4] fun R hR => ?_   -- r12
      simp only [go_sem, ldS_at hd, stX_at hd, ldS_sv hlt, stX_sv hlt, sv_ext hlt, sv_ext_sv hlt, hfirst, hb1, hq, hb2, hstay, hb3, hx1, hb4, hx2, hb5, hpeople, hb6, hkk, hb7, hm, hb9, hstart, hb10, hz, hb11, hmore, hb12]
      refine hR _ _ (kq14 _ _ ?_); clear hR R; try clear kq14 kz14
      try simp only [go_sem, ldS_at hd, stX_at hd, ldS_sv hlt, stX_sv hlt, sv_ext hlt, sv_ext_sv hlt, hfirst, hb1, hq, hb2, hstay, hb3, hx1, hb4, hx2, hb5, hpeople, hb6, hkk, hb7, hm, hb9, hstart, hb10, hz, hb11, hmore, hb12]
      refine W_ret ?_
      simp only [go_sem, ldS_at hd, stX_at hd, ldS_sv hlt, stX_sv hlt, sv_ext hlt, sv_ext_sv hlt, hfirst, hb1, hq, hb2, hstay, hb3, hx1, hb4, hx2, hb5, hpeople, hb6, hkk, hb7, hm, hb9, hstart, hb10, hz, hb11, hmore, hb12]
      refine ⟨.inr (by trivial), ?_⟩
      rw [hinv]; refine Fin_set hcl (by simp only [go_sem]) (by show resPV Try.prog _ _ [.cell 4 33] = some _; simp only [resPV, go_sem]; rfl) (Wk.ro (by simp only [go_sem]) ?_)
      try simp only [go_sem]
      all_goals
        simp only [go_sem]
  · simp only [go_sem, ldS_at hd, stX_at hd, ldS_sv hlt, stX_sv hlt, sv_ext hlt, sv_ext_sv hlt, hfirst, hb1, hq, hb2, hstay, hb3, hx1, hb4, hx2, hb5, hpeople, hb6, hkk, hb7]
    refine GWant_split (fun g1 => ?_) (fun g1 => ?_)
    · try simp only [Bool.not_eq_true', Bool.not_eq_false'] at g1
      have n1 := g1; try simp only [nrm] at n1
      simp only [go_sem, ldS_at hd, stX_at hd, ldS_sv hlt, stX_sv hlt, sv_ext hlt, sv_ext_sv hlt, hfirst, hb1, hq, hb2, hstay, hb3, hx1, hb4, hx2, hb5, hpeople, hb6, hkk, hb7, g1]
      refine hR _ ?_
      try simp only [go_sem, ldS_at hd, stX_at hd, ldS_sv hlt, stX_sv hlt, sv_ext hlt, sv_ext_sv hlt, hfirst, hb1, hq, hb2, hstay, hb3, hx1, hb4, hx2, hb5, hpeople, hb6, hkk, hb7]
      all_goals
        first | rfl | (simp [*]; done) | (simp [*]; omega)
    · try simp only [Bool.not_eq_true', Bool.not_eq_false'] at g1
      have n1 := g1; try simp only [nrm] at n1
      simp only [go_sem, ldS_at hd, stX_at hd, ldS_sv hlt, stX_sv hlt, sv_ext hlt, sv_ext_sv hlt, hfirst, hb1, hq, hb2, hstay, hb3, hx1, hb4, hx2, hb5, hpeople, hb6, hkk, hb7, g1]
      refine hR _ ?_
      try simp only [go_sem, ldS_at hd, stX_at hd, ldS_sv hlt, stX_sv hlt, sv_ext hlt, sv_ext_sv hlt, hfirst, hb1, hq, hb2, hstay, hb3, hx1, hb4, hx2, hb5, hpeople, hb6, hkk, hb7]
      all_goals
        first | rfl | (simp [*]; done) | (simp [*]; omega)
end Go.Proofs.Ytnpamcpoaklgeaa
namespace Go.Proofs.Ytnpamcpoaklgeaa
open Go Go.RowKit
set_option maxRecDepth 100000
def reqPV (c : City) (w : List Band) (b : Band) : PV := .agg [ints c.town.rooms, .isl (c.town.streets.map stPV) .ro, .isl (c.town.groups.map grPV) .ro, I c.town.steps, I c.brk, ints c.sleep, bands w, I b.first, ints b.path, I b.lo, I b.hi, I b.stay, I b.people]
attribute [go_sem] reqPV
def clashOf (c : City) (b : Band) : List Band → Int
  | [] => 0
  | x :: r => if crossVal c b x ≠ 2 then 10 else clashOf c b r
def overL (c : City) (b : Band) : List Int → Int
  | [] => 0
  | s :: r => if (c.town.rooms[s.toNat]?).getD 0 < b.people then 13 else overL c b r
def overOf (c : City) (b : Band) : Int := overL c b (sqs c b).1
def awkL (c : City) (l : List Band) : Nat → List Int → Int
  | _, [] => 0
  | k, owed :: r => if (sleepOf (loudAt c l k)).2 < owed then 11 else awkL c l (k + 1) r
def awkOf (c : City) (l : List Band) : Int := awkL c l 0 c.sleep
def firstOf : List Int → Int
  | [] => 0
  | e :: r => if e ≠ 0 then e else firstOf r
def reqOf (c : City) (w : List Band) (b : Band) : Int := firstOf [clashOf c b w, overOf c b, awkOf c (w ++ [b])]
/-- A function that is called with a value first. -/
def fnPV (q : PV) (p : Nat × Int) : PV := .func (.func p.1) [q] []
attribute [go_sem] fnPV
set_option maxHeartbeats 2000000 in
theorem first_pc (Y : YEnv) (σ : Sg) (l : List (Nat × Int)) (q : PV) (hl : l.length < 2 ^ 50) (h : ∀ p, p ∈ l → ∀ (σ : Sg), PC Try.prog Y p.1 [q] σ (I p.2) σ) :
    PC Try.prog Y 107 [.isl (l.map (fnPV q)) .exact] σ (I (firstOf (l.map (·.2)))) (σ) := by
  refine PC_of_W Try.func107 rfl (by kernel_rfl) Try.ntmps107 (by simp) fun hcl hca => ?_
  obtain ⟨res, hres⟩ : ∃ r, firstOf (l.map (·.2)) = r := ⟨_, rfl⟩
  rw [hres]
  refine W_seq fun kz1 kq1 => ?_
  refine W_region [0] fun R hR => ?_   -- r0
  simp only [go_sem]
  refine hR _ _ (kq1 _ _ ?_); clear hR R; try clear kq1 kz1
  try simp only [go_sem]
  refine W_seq fun kz2 kq2 => ?_
  refine W_seq fun kz3 kq3 => ?_
  refine W_region [6, 7, 8] fun R hR => ?_   -- r1
  simp only [go_sem]
  refine hR _ _ (kq3 _ _ ?_); clear hR R; try clear kq3 kz3
  try simp only [go_sem]
  refine W_block ?_
  refine W_loopS (α := Nat) (fun (i : Nat) => [(8, I i)]) (fun (i : Nat) => i ≤ l.length ∧ res = firstOf ((l.drop i).map (·.2))) (fun (i : Nat) => l.length - i) (0) rfl (⟨Nat.zero_le _, hres.symm⟩) ?_
  rintro i ⟨hi, hinv⟩
  refine W_seq fun kz4 kq4 => ?_
  refine W_region [6, 7, 8, 9] fun R hR => ?_   -- r2
  simp only [go_sem]
  refine hR _ _ (kq4 _ _ ?_); clear hR R; try clear kq4 kz4
  try simp only [go_sem]
  refine W_seq fun kz5 kq5 => ?_
  refine W_cond rfl (fun c1 => ?_) (fun c1 => ?_)
  · -- c1 true
    try simp only [nrm] at c1
    have hi' : i < l.length := by first | assumption | omega
    obtain ⟨x, hx⟩ : ∃ x, l[i]? = some x := ⟨l[i], by simp [hi']⟩
    have hdrop : l.drop i = x :: l.drop (i + 1) := by
      rw [List.drop_eq_getElem_cons hi']; congr 1; exact (List.getElem?_eq_some_iff.1 hx).2
    rw [hdrop] at hinv
    simp only [List.map_cons, firstOf] at hinv
    refine W_skip (kq5 _ _ ?_)
    refine W_seq fun kz6 kq6 => ?_
    refine W_block ?_
    refine W_seq fun kz7 kq7 => ?_
    refine W_region [4, 6, 7, 8] fun R hR => ?_   -- r3
    simp only [go_sem, hx]
    refine hR _ _ (kq7 _ _ ?_); clear hR R; try clear kq7 kz7
    try simp only [go_sem, hx]
    refine W_seq fun kz8 kq8 => ?_
    refine W_region [5, 6, 7, 8] fun R hR => ?_   -- r4
    simp only [go_sem, hx]
    refine GCall_of (h x (List.mem_of_getElem? hx) _) ?_   -- t13
    simp only [go_sem, hx]
    refine hR _ _ (kq8 _ _ ?_); clear hR R; try clear kq8 kz8
    try simp only [go_sem, hx]
    refine W_seq fun kz9 kq9 => ?_
    refine W_region [5, 6, 7, 8, 15] fun R hR => ?_   -- r5
    simp only [go_sem, hx]
    refine hR _ _ (kq9 _ _ ?_); clear hR R; try clear kq9 kz9
    try simp only [go_sem, hx]
    refine W_cond rfl (fun c2 => ?_) (fun c2 => ?_)
    · -- c2 true
      try simp only [nrm] at c2
      refine W_seq fun kz10 kq10 => ?_
      refine W_region [2] fun R hR => ?_   -- r6
      simp only [go_sem, hx]
      refine hR _ _ (kq10 _ _ ?_); clear hR R; try clear kq10 kz10
      try simp only [go_sem, hx]
      refine W_ret ?_
      simp only [go_sem, hx]
      refine ⟨.inr (by trivial), ?_⟩
      first | refine Fin_same hcl rfl (Wk_eq ?_ (by simp only [go_sem])) | refine Fin_self hcl rfl (Wk_eq ?_ (by simp only [go_sem]))
      try simp only [go_sem]
      all_goals
        rw [hinv, if_pos c2]
    · -- c2 false
      try simp only [nrm] at c2
      refine W_skip (kq6 _ _ ?_)
      refine W_region [6, 7, 8] fun R hR => ?_   -- r7
      simp only [go_sem, hx]
      try simp (disch := omega) only [wrapI, wrapU]
      refine hR _ _ ?_; clear hR R
      try simp only [go_sem, hx]
      refine ⟨i + 1, ?_, by (try simp only []); omega, ?_⟩
      · first | exact Weak.refl | exact Weak.eq (by first | rfl | (simp only [go_sem]; done) | (simp only [go_sem]; rfl) | (simp [go_sem]; done) | (simp [go_sem]; omega)) (by first | rfl | (simp only [go_sem]; done) | (simp [go_sem]; done))
      · try dsimp only
        exact ⟨hi', by rw [hinv, if_neg (by simp [c2])]⟩
  · -- c1 false
    try simp only [nrm] at c1
    have hdrop : l.drop i = [] := List.drop_eq_nil_of_le (by omega)
    rw [hdrop] at hinv
    simp only [List.map_nil, firstOf] at hinv
    refine W_exit ?_
    simp only [go_sem]
    refine kq2 _ _ ?_
    refine W_seq fun kz11 kq11 => ?_
    refine W_region [2] fun R hR => ?_   -- r8
    simp only [go_sem]
    refine hR _ _ (kq11 _ _ ?_); clear hR R; try clear kq11 kz11
    try simp only [go_sem]
    refine W_ret ?_
    simp only [go_sem]
    refine ⟨.inr (by trivial), ?_⟩
    first | refine Fin_same hcl rfl (Wk_eq ?_ (by simp only [go_sem])) | refine Fin_self hcl rfl (Wk_eq ?_ (by simp only [go_sem]))
    try simp only [go_sem]
    all_goals
      rw [hinv]
set_option maxHeartbeats 2000000 in
theorem clash_pc (Y : YEnv) (σ : Sg) (ct : City) (w : List Band) (b : Band) (hc : ct.Ok) (hl : BandsOk w) (hw : w.length ≤ 1000) (hk : chkCity ct = 0) (hv : ∀ x, x ∈ w → chkBand ct x = 0) (hb : b.path.length < 2 ^ 50) (hbv : chkBand ct b = 0) :
    PC Try.prog Y 108 [reqPV ct w b] σ (I (clashOf ct b w)) (σ) := by
  refine PC_of_W Try.func108 rfl (by kernel_rfl) Try.ntmps108 (by simp) fun hcl hca => ?_
  have hl2 := hl.2
  obtain ⟨res, hres⟩ : ∃ r, clashOf ct b w = r := ⟨_, rfl⟩
  rw [hres]
  refine W_seq fun kz1 kq1 => ?_
  refine W_region [1] fun R hR => ?_   -- r0
  simp only [go_sem]
  refine hR _ _ (kq1 _ _ ?_); clear hR R; try clear kq1 kz1
  try simp only [go_sem]
  refine W_seq fun kz2 kq2 => ?_
  refine W_seq fun kz3 kq3 => ?_
  refine W_region [1, 6, 7, 8] fun R hR => ?_   -- r1
  simp only [go_sem]
  refine hR _ _ (kq3 _ _ ?_); clear hR R; try clear kq3 kz3
  try simp only [go_sem]
  refine W_block ?_
  refine W_loopS (α := Nat) (fun (i : Nat) => [(8, I i)]) (fun (i : Nat) => i ≤ w.length ∧ res = clashOf ct b (w.drop i)) (fun (i : Nat) => w.length - i) (0) rfl (⟨Nat.zero_le _, hres.symm⟩) ?_
  rintro i ⟨hi, hinv⟩
  refine W_seq fun kz4 kq4 => ?_
  refine W_region [1, 6, 7, 8, 9] fun R hR => ?_   -- r2
  simp only [go_sem]
  refine hR _ _ (kq4 _ _ ?_); clear hR R; try clear kq4 kz4
  try simp only [go_sem]
  refine W_seq fun kz5 kq5 => ?_
  refine W_cond rfl (fun c1 => ?_) (fun c1 => ?_)
  · -- c1 true
    try simp only [nrm] at c1
    have hi' : i < w.length := by first | assumption | omega
    obtain ⟨x, hx⟩ : ∃ x, w[i]? = some x := ⟨w[i], by simp [hi']⟩
    have hdrop : w.drop i = x :: w.drop (i + 1) := by
      rw [List.drop_eq_getElem_cons hi']; congr 1; exact (List.getElem?_eq_some_iff.1 hx).2
    have hxw := List.mem_of_getElem? hx
    rw [hdrop] at hinv
    simp only [clashOf] at hinv
    refine W_skip (kq5 _ _ ?_)
    refine W_seq fun kz6 kq6 => ?_
    refine W_block ?_
    refine W_seq fun kz7 kq7 => ?_
    refine W_region [1, 4, 6, 7, 8] fun R hR => ?_   -- r3
    simp only [go_sem, hx]
    refine hR _ _ (kq7 _ _ ?_); clear hR R; try clear kq7 kz7
    try simp only [go_sem, hx]
    refine W_seq fun kz8 kq8 => ?_
    refine W_region [1, 6, 7, 8, 18] fun R hR => ?_   -- r4
    simp only [go_sem, hx]
    refine GCall_of (bcross_pc Y _ ct b x hc hb (hl2 x hxw) (chkBand_ok hbv).2 (chkBand_ok (hv x hxw)).2) ?_   -- t17
    simp only [go_sem, hx]
    refine hR _ _ (kq8 _ _ ?_); clear hR R; try clear kq8 kz8
    try simp only [go_sem, hx]
    refine W_cond rfl (fun c2 => ?_) (fun c2 => ?_)
    · -- c2 true
      try simp only [nrm] at c2
      refine W_seq fun kz9 kq9 => ?_
      refine W_region [2] fun R hR => ?_   -- r5
      simp only [go_sem, hx]
      refine hR _ _ (kq9 _ _ ?_); clear hR R; try clear kq9 kz9
      try simp only [go_sem, hx]
      refine W_ret ?_
      simp only [go_sem, hx]
      refine ⟨.inr (by trivial), ?_⟩
      first | refine Fin_same hcl rfl (Wk_eq ?_ (by simp only [go_sem])) | refine Fin_self hcl rfl (Wk_eq ?_ (by simp only [go_sem]))
      try simp only [go_sem]
      all_goals
        rw [hinv, if_pos c2]
    · -- c2 false
      try simp only [nrm] at c2
      refine W_skip (kq6 _ _ ?_)
      refine W_region [1, 6, 7, 8] fun R hR => ?_   -- r6
      simp only [go_sem, hx]
      try simp (disch := omega) only [wrapI, wrapU]
      refine hR _ _ ?_; clear hR R
      try simp only [go_sem, hx]
      refine ⟨i + 1, ?_, by (try simp only []); omega, ?_⟩
      · refine Weak.trans (Weak.cutX 1 0 (by omega) (by omega) hcl (by simp only [go_sem] <;> omega) (by simp only [go_sem] <;> omega)) ?_
        simp only [go_sem]
        exact Weak.eq (by first | rfl | (simp only [go_sem]; done) | (simp only [go_sem]; rfl) | (simp [go_sem]; done) | (simp [go_sem]; omega)) (by first | rfl | (simp only [go_sem]; done) | (simp [go_sem]; done))
      · try dsimp only
        exact ⟨hi', by rw [hinv, if_neg (by simp [c2])]⟩
  · -- c1 false
    try simp only [nrm] at c1
    have hdrop : w.drop i = [] := List.drop_eq_nil_of_le (by omega)
    rw [hdrop] at hinv
    simp only [clashOf] at hinv
    refine W_exit ?_
    simp only [go_sem]
    refine kq2 _ _ ?_
    refine W_seq fun kz10 kq10 => ?_
    refine W_region [2] fun R hR => ?_   -- r7
    simp only [go_sem]
    refine hR _ _ (kq10 _ _ ?_); clear hR R; try clear kq10 kz10
    try simp only [go_sem]
    refine W_ret ?_
    simp only [go_sem]
    refine ⟨.inr (by trivial), ?_⟩
    first | refine Fin_same hcl rfl (Wk_eq ?_ (by simp only [go_sem])) | refine Fin_self hcl rfl (Wk_eq ?_ (by simp only [go_sem]))
    try simp only [go_sem]
    all_goals
      rw [hinv]
set_option maxHeartbeats 2000000 in
theorem over_pc (Y : YEnv) (σ : Sg) (ct : City) (w : List Band) (b : Band) (hc : ct.Ok) (hl : BandsOk w) (hw : w.length ≤ 1000) (hk : chkCity ct = 0) (hv : ∀ x, x ∈ w → chkBand ct x = 0) (hb : b.path.length < 2 ^ 50) (hbv : chkBand ct b = 0) (hrg : ∀ s, s ∈ (sqs ct b).1 → 0 ≤ s ∧ s < ct.town.rooms.length) :
    PC Try.prog Y 109 [reqPV ct w b] σ (I (overOf ct b)) (σ) := by
  refine PC_of_W Try.func109 rfl (by kernel_rfl) Try.ntmps109 (by simp) fun hcl hca => ?_
  obtain ⟨l, hl3⟩ : ∃ l, l = (sqs ct b).1 := ⟨_, rfl⟩
  have hln : l.length ≤ 13 := by rw [hl3]; exact (sqs_len ct b).1
  rw [← hl3] at hrg
  rw [show overOf ct b = overL ct b l by rw [hl3]; rfl]
  obtain ⟨res, hres⟩ : ∃ r, overL ct b l = r := ⟨_, rfl⟩
  rw [hres]
  refine W_seq fun kz1 kq1 => ?_
  refine W_region [1] fun R hR => ?_   -- r0
  simp only [go_sem]
  refine hR _ _ (kq1 _ _ ?_); clear hR R; try clear kq1 kz1
  try simp only [go_sem]
  refine W_seq fun kz2 kq2 => ?_
  refine W_region [1, 3] fun R hR => ?_   -- r1
  simp only [go_sem]
  refine GCall_of (PC.val (v' := .tuple [ints l, I (sqs ct b).2]) (squares_pc Y _ ct b hc hb) (by rw [hl3]; rfl)) ?_   -- t12
  simp only [go_sem]
  refine hR _ _ (kq2 _ _ ?_); clear hR R; try clear kq2 kz2
  try simp only [go_sem]
  refine W_seq fun kz3 kq3 => ?_
  refine W_seq fun kz4 kq4 => ?_
  refine W_region [1, 15, 16, 17] fun R hR => ?_   -- r2
  simp only [go_sem]
  refine hR _ _ (kq4 _ _ ?_); clear hR R; try clear kq4 kz4
  try simp only [go_sem]
  refine W_block ?_
  refine W_loopS (α := Nat) (fun (i : Nat) => [(17, I i)]) (fun (i : Nat) => i ≤ l.length ∧ res = overL ct b (l.drop i)) (fun (i : Nat) => l.length - i) (0) rfl (⟨Nat.zero_le _, hres.symm⟩) ?_
  rintro i ⟨hi, hinv⟩
  refine W_seq fun kz5 kq5 => ?_
  refine W_region [1, 15, 16, 17, 18] fun R hR => ?_   -- r3
  simp only [go_sem]
  refine hR _ _ (kq5 _ _ ?_); clear hR R; try clear kq5 kz5
  try simp only [go_sem]
  refine W_seq fun kz6 kq6 => ?_
  refine W_cond rfl (fun c1 => ?_) (fun c1 => ?_)
  · -- c1 true
    try simp only [nrm] at c1
    have hi' : i < l.length := by first | assumption | omega
    obtain ⟨s, hx⟩ : ∃ s, l[i]? = some s := ⟨l[i], by simp [hi']⟩
    have hdrop : l.drop i = s :: l.drop (i + 1) := by
      rw [List.drop_eq_getElem_cons hi']; congr 1; exact (List.getElem?_eq_some_iff.1 hx).2
    obtain ⟨hs0, hs1⟩ := hrg s (List.mem_of_getElem? hx)
    obtain ⟨r, hr⟩ : ∃ r, ct.town.rooms[s.toNat]? = some r := ⟨_, List.getElem?_eq_getElem (by omega)⟩
    rw [hdrop] at hinv
    simp only [overL, hr, Option.getD_some] at hinv
    refine W_skip (kq6 _ _ ?_)
    refine W_seq fun kz7 kq7 => ?_
    refine W_block ?_
    refine W_seq fun kz8 kq8 => ?_
    refine W_region [1, 6, 15, 16, 17] fun R hR => ?_   -- r4
    simp only [go_sem, hx, hs0, hr]
    refine hR _ _ (kq8 _ _ ?_); clear hR R; try clear kq8 kz8
    try simp only [go_sem, hx, hs0, hr]
    refine W_seq fun kz9 kq9 => ?_
    refine W_draw [1, 15, 16, 17, 31] [0, 1, 2, 3, 4, 5, 6, 7, 8, 9, 10] [] [[], [0], [0, 1], [], [3], [3, 4], [3, 4, 5], [], [3, 4, 5, 6, 7], [3, 4, 5, 6, 7, 8], [0, 1, 2, 3, 4, 5, 6, 7, 8, 9]] mixed (by kernel_rfl) fun R hR => ?_   -- r5
    simp only [go_sem, hx, hs0, hr]
    try refine And.intro (by repeat' (first | refine And.intro ?_ ?_ | exact GOr_right (fun _ => by simp only [go_sem, hx, hs0, hr]))) ?_
    refine hR _ _ (kq9 _ _ ?_); clear hR R; try clear kq9 kz9
    try simp only [go_sem, hx, hs0, hr]
    refine W_cond rfl (fun c2 => ?_) (fun c2 => ?_)
    · -- c2 true
      try simp only [nrm] at c2
      refine W_seq fun kz10 kq10 => ?_
      refine W_region [2] fun R hR => ?_   -- r6
      simp only [go_sem, hx, hs0, hr]
      refine hR _ _ (kq10 _ _ ?_); clear hR R; try clear kq10 kz10
      try simp only [go_sem, hx, hs0, hr]
      refine W_ret ?_
      simp only [go_sem, hx, hs0, hr]
      refine ⟨.inr (by trivial), ?_⟩
      first | refine Fin_same hcl rfl (Wk_eq ?_ (by simp only [go_sem])) | refine Fin_self hcl rfl (Wk_eq ?_ (by simp only [go_sem]))
      try simp only [go_sem]
      all_goals
        rw [hinv, if_pos c2]
    · -- c2 false
      try simp only [nrm] at c2
      refine W_skip (kq7 _ _ ?_)
      refine W_region [1, 15, 16, 17] fun R hR => ?_   -- r7
      simp only [go_sem, hx, hs0, hr]
      try simp (disch := omega) only [wrapI, wrapU]
      refine hR _ _ ?_; clear hR R
      try simp only [go_sem, hx, hs0, hr]
      refine ⟨i + 1, ?_, by (try simp only []); omega, ?_⟩
      · first | exact Weak.refl | exact Weak.eq (by first | rfl | (simp only [go_sem]; done) | (simp only [go_sem]; rfl) | (simp [go_sem]; done) | (simp [go_sem]; omega)) (by first | rfl | (simp only [go_sem]; done) | (simp [go_sem]; done))
      · try dsimp only
        exact ⟨hi', by rw [hinv, if_neg c2]⟩
  · -- c1 false
    try simp only [nrm] at c1
    have hdrop : l.drop i = [] := List.drop_eq_nil_of_le (by omega)
    rw [hdrop] at hinv
    simp only [overL] at hinv
    refine W_exit ?_
    simp only [go_sem]
    refine kq3 _ _ ?_
    refine W_seq fun kz11 kq11 => ?_
    refine W_region [2] fun R hR => ?_   -- r8
    simp only [go_sem]
    refine hR _ _ (kq11 _ _ ?_); clear hR R; try clear kq11 kz11
    try simp only [go_sem]
    refine W_ret ?_
    simp only [go_sem]
    refine ⟨.inr (by trivial), ?_⟩
    first | refine Fin_same hcl rfl (Wk_eq ?_ (by simp only [go_sem])) | refine Fin_self hcl rfl (Wk_eq ?_ (by simp only [go_sem]))
    try simp only [go_sem]
    all_goals
      rw [hinv]
set_option maxHeartbeats 2000000 in
theorem CloneB_pc (Y : YEnv) (σ : Sg) (l : List Band) (hl : l.length ≤ 2 ^ 30) :
    PC Try.prog Y 81 [bands l] σ (.isl (l.map bdPV) (.tok σ.rooms.length l.length 6)) (σ.ext [] [l.length]) := by
  refine PC_of_W Try.func81 rfl (by kernel_rfl) Try.ntmps81 (by simp) fun hcl hca => ?_
  refine W_seq fun kz1 kq1 => ?_
  refine W_region [0] fun R hR => ?_   -- r0
  simp only [go_sem]
  refine hR _ _ (kq1 _ _ ?_); clear hR R; try clear kq1 kz1
  try simp only [go_sem]
  refine W_seq fun kz2 kq2 => ?_
  refine W_seq fun kz3 kq3 => ?_
  refine W_isnil [0, 4] (by decide) (by decide) rfl Try.underlying29 fun bn hbn => ?_   -- r1
  refine kq3 _ _ ?_
  try simp only [go_sem]
  refine W_cond rfl (fun c1 => ?_) (fun c1 => ?_)
  · -- c1 true
    try simp only [nrm] at c1
    refine W_seq fun kz4 kq4 => ?_
    refine W_region [2] fun R hR => ?_   -- r2
    simp only [go_sem]
    refine hR _ _ (kq4 _ _ ?_); clear hR R; try clear kq4 kz4
    try simp only [go_sem]
    refine W_weak (Weak.room (t := 2) (es := 6) rfl (by simp)) ?_
    refine W_ret ?_
    simp only [go_sem]
    refine ⟨.inr (by trivial), ?_⟩
    obtain rfl : l = [] := by simpa using hbn c1
    exact Fin_ext 0 1 hcl rfl (Wk_eq rfl (by simp only [go_sem] <;> omega)) CleanL_nil
    try simp only [go_sem]
    all_goals
      skip
  · -- c1 false
    try simp only [nrm] at c1
    refine W_skip (kq2 _ _ ?_)
    refine W_seq fun kz5 kq5 => ?_
    refine W_region [2] fun R hR => ?_   -- r3
    simp only [go_sem]
    simp (disch := first | omega | (simp only [go_sem] <;> omega)) only [wrapI, wrapU, appX_exact, appX_tok]
    try simp only [go_sem]
    refine hR _ _ (kq5 _ _ ?_); clear hR R; try clear kq5 kz5
    try simp only [go_sem]
    refine W_ret ?_
    simp only [go_sem]
    refine ⟨.inr (by trivial), ?_⟩
    exact Fin_ext 0 1 hcl rfl (Wk_eq (by simp only [go_sem]) (by simp only [go_sem] <;> omega)) CleanL_nil
    try simp only [go_sem]
    all_goals
      skip
end Go.Proofs.Ytnpamcpoaklgeaa
namespace Go.Proofs.Ytnpamcpoaklgeaa
open Go Go.RowKit
set_option maxRecDepth 100000
theorem chkStreets_inv {n : Int} : ∀ {l : List (Int × Int)}, chkStreets n l = 0 → ∀ s, s ∈ l → 0 ≤ s.1 ∧ s.1 < n ∧ 0 ≤ s.2 ∧ s.2 < n ∧ s.1 ≠ s.2 := by
  intro l
  induction l with
  | nil => intro _ s hs; cases hs
  | cons a r ih =>
    intro h s hs
    simp only [chkStreets] at h
    split at h
    · simp at h
    · rename_i h1
      split at h
      · simp at h
      · rename_i h2
        rcases List.mem_cons.1 hs with rfl | hs
        · simp [inR] at h1
          exact ⟨by omega, by omega, by omega, by omega, h2⟩
        · exact ih h s hs
theorem chkTown_streets {t : Town} (h : chkTown t = 0) : chkStreets t.rooms.length t.streets = 0 := by
  unfold chkTown at h
  split at h
  · simp at h
  · split at h
    · simp at h
    · split at h
      · simp at h
      · split at h
        · simp at h
        · split at h
          · rename_i h5; exact absurd h h5
          · rename_i h5; simpa using h5
theorem chkCity_town {c : City} (h : chkCity c = 0) : chkTown c.town = 0 := by
  unfold chkCity at h
  split at h
  · rename_i h1; exact absurd h h1
  · rename_i h1; simpa using h1
theorem walkSq_range {st : List (Int × Int)} {n : Int} (hs : ∀ s, s ∈ st → 0 ≤ s.1 ∧ s.1 < n ∧ 0 ≤ s.2 ∧ s.2 < n ∧ s.1 ≠ s.2) : ∀ (l : List Int) (a : Int) (out : List Int), (∀ x, x ∈ out → 0 ≤ x ∧ x < n) → ∀ x, x ∈ (walkSq st l a out).1 → 0 ≤ x ∧ x < n := by
  intro l
  induction l with
  | nil => intro a out ho x hx; exact ho x hx
  | cons k r ih =>
    intro a out ho x hx
    simp only [walkSq] at hx
    split at hx
    · cases hx
    · split at hx
      · cases hx
      · rename_i s hsk
        have h1 := hs s (List.mem_of_getElem? hsk)
        split at hx
        · refine ih _ _ (fun y hy => ?_) x hx
          rcases List.mem_append.1 hy with hy | hy
          · exact ho y hy
          · simp only [List.mem_singleton] at hy; subst hy; omega
        · split at hx
          · refine ih _ _ (fun y hy => ?_) x hx
            rcases List.mem_append.1 hy with hy | hy
            · exact ho y hy
            · simp only [List.mem_singleton] at hy; subst hy; omega
          · cases hx
theorem sqs_range {c : City} {b : Band} (hk : chkCity c = 0) : ∀ s, s ∈ (sqs c b).1 → 0 ≤ s ∧ s < c.town.rooms.length := by
  intro s hs
  unfold sqs at hs
  split at hs
  · cases hs
  · split at hs
    · cases hs
    · rename_i h1 _
      refine walkSq_range (chkStreets_inv (chkTown_streets (chkCity_town hk))) _ _ _ (fun x hx => ?_) s hs
      simp only [List.mem_singleton] at hx; subst hx
      simp [inR] at h1; omega
def grantL (c : City) : List Band → List Band → List Int
  | _, [] => []
  | w, b :: r => reqOf c w b :: grantL c (if reqOf c w b = 0 then w ++ [b] else w) r
def grantAns (c : City) (l : List Band) : List Int × Int := if chkAll c l ≠ 0 then ([], chkAll c l) else (grantL c [] l, 0)
set_option maxHeartbeats 2000000 in
theorem rawake_pc (Y : YEnv) (σ : Sg) (ct : City) (w : List Band) (b : Band) (hc : ct.Ok) (hl : BandsOk w) (hw : w.length ≤ 1000) (hk : chkCity ct = 0) (hv : ∀ x, x ∈ w → chkBand ct x = 0) (hb : b.path.length < 2 ^ 50) (hbv : chkBand ct b = 0) :
    PC Try.prog Y 110 [reqPV ct w b] σ (I (awkOf ct (w ++ [b]))) (σ) := by
  refine PC_of_W Try.func110 rfl (by kernel_rfl) Try.ntmps110 (by simp) fun hcl hca => ?_
  have hsl := hc.hsl
  have hl2 := hl.2
  have hall : BandsOk (w ++ [b]) := ⟨by simp; omega, fun x hx => by rcases List.mem_append.1 hx with h | h; exact hl2 x h; simp only [List.mem_singleton] at h; subst h; exact hb⟩
  have hval : ∀ x, x ∈ w ++ [b] → chkBand ct x = 0 := fun x hx => by rcases List.mem_append.1 hx with h | h; exact hv x h; simp only [List.mem_singleton] at h; subst h; exact hbv
  rw [show awkOf ct (w ++ [b]) = awkL ct (w ++ [b]) 0 ct.sleep from rfl]
  obtain ⟨res, hres⟩ : ∃ r, awkL ct (w ++ [b]) 0 ct.sleep = r := ⟨_, rfl⟩
  rw [hres]
  refine W_seq fun kz1 kq1 => ?_
  refine W_region [1] fun R hR => ?_   -- r0
  simp only [go_sem]
  refine hR _ _ (kq1 _ _ ?_); clear hR R; try clear kq1 kz1
  try simp only [go_sem]
  refine W_seq fun kz2 kq2 => ?_
  refine W_draw [1, 3] [0, 1, 2, 3, 4, 5, 6, 7] [(3, 2), (4, 2), (5, 2)] [[], [0], [0, 1], [], [3], [3, 4], [0, 1, 2, 3, 4, 5], [0, 1, 2, 3, 4, 5, 6]] mixed (by kernel_rfl) fun R hR => ?_   -- r1
  simp only [go_sem]
  refine GCall_of (CloneB_pc Y _ w (by omega)) ?_   -- t10
  simp only [go_sem]
  simp (disch := first | omega | (simp only [go_sem] <;> omega)) only [wrapI, wrapU, appX_exact, appX_tok]
  try simp only [go_sem]
  try refine And.intro (by repeat' (first | refine And.intro ?_ ?_ | exact GOr_right (fun _ => by simp only [go_sem]))) ?_
  refine hR _ _ (kq2 _ _ ?_); clear hR R; try clear kq2 kz2
  try simp only [go_sem]
  refine W_seq fun kz3 kq3 => ?_
  refine W_seq fun kz4 kq4 => ?_
  refine W_region [1, 3, 17, 18, 19] fun R hR => ?_   -- r2
  simp only [go_sem]
  refine hR _ _ (kq4 _ _ ?_); clear hR R; try clear kq4 kz4
  try simp only [go_sem]
  refine W_block ?_
  refine W_loopS (α := Nat) (fun (i : Nat) => [(19, I i)]) (fun (i : Nat) => i ≤ ct.sleep.length ∧ res = awkL ct (w ++ [b]) i (ct.sleep.drop i)) (fun (i : Nat) => ct.sleep.length - i) (0) rfl (⟨Nat.zero_le _, hres.symm⟩) ?_
  rintro i ⟨hi, hinv⟩
  refine W_seq fun kz5 kq5 => ?_
  refine W_region [1, 3, 17, 18, 19, 20] fun R hR => ?_   -- r3
  simp only [go_sem]
  refine hR _ _ (kq5 _ _ ?_); clear hR R; try clear kq5 kz5
  try simp only [go_sem]
  refine W_seq fun kz6 kq6 => ?_
  refine W_cond rfl (fun c1 => ?_) (fun c1 => ?_)
  · -- c1 true
    try simp only [nrm] at c1
    have hi' : i < ct.sleep.length := by first | assumption | omega
    obtain ⟨owed, hx⟩ : ∃ owed, ct.sleep[i]? = some owed := ⟨ct.sleep[i], by simp [hi']⟩
    have hdrop : ct.sleep.drop i = owed :: ct.sleep.drop (i + 1) := by
      rw [List.drop_eq_getElem_cons hi']; congr 1; exact (List.getElem?_eq_some_iff.1 hx).2
    rw [hdrop] at hinv
    simp only [awkL] at hinv
    refine W_skip (kq6 _ _ ?_)
    refine W_seq fun kz7 kq7 => ?_
    refine W_block ?_
    refine W_seq fun kz8 kq8 => ?_
    refine W_region [1, 3, 4, 5, 17, 18, 19] fun R hR => ?_   -- r4
    simp only [go_sem, hx]
    refine hR _ _ (kq8 _ _ ?_); clear hR R; try clear kq8 kz8
    try simp only [go_sem, hx]
    refine W_seq fun kz9 kq9 => ?_
    refine W_region [1, 3, 5, 7, 17, 18, 19] fun R hR => ?_   -- r5
    simp only [go_sem, hx]
    refine GCall_of (PC.ofRo (bsleep_pc Y _ ct (w ++ [b]) i hc hall hval) (by simp only [go_sem, bands] <;> rfl)) ?_   -- t29
    simp only [go_sem, hx]
    refine hR _ _ (kq9 _ _ ?_); clear hR R; try clear kq9 kz9
    try simp only [go_sem, hx]
    refine W_seq fun kz10 kq10 => ?_
    refine W_region [1, 3, 17, 18, 19, 34] fun R hR => ?_   -- r6
    simp only [go_sem, hx]
    refine hR _ _ (kq10 _ _ ?_); clear hR R; try clear kq10 kz10
    try simp only [go_sem, hx]
    refine W_cond rfl (fun c2 => ?_) (fun c2 => ?_)
    · -- c2 true
      try simp only [nrm] at c2
      refine W_seq fun kz11 kq11 => ?_
      refine W_region [2] fun R hR => ?_   -- r7
      simp only [go_sem, hx]
      refine hR _ _ (kq11 _ _ ?_); clear hR R; try clear kq11 kz11
      try simp only [go_sem, hx]
      refine W_ret ?_
      simp only [go_sem, hx]
      refine ⟨.inr (by trivial), ?_⟩
      first | refine Fin_same hcl rfl (Wk_eq ?_ (by simp only [go_sem])) | refine Fin_self hcl rfl (Wk_eq ?_ (by simp only [go_sem]))
      try simp only [go_sem]
      all_goals
        rw [hinv, if_pos c2]
    · -- c2 false
      try simp only [nrm] at c2
      refine W_skip (kq7 _ _ ?_)
      refine W_region [1, 3, 17, 18, 19] fun R hR => ?_   -- r8
      simp only [go_sem, hx]
      try simp (disch := omega) only [wrapI, wrapU]
      refine hR _ _ ?_; clear hR R
      try simp only [go_sem, hx]
      refine ⟨i + 1, ?_, by (try simp only []); omega, ?_⟩
      · first | exact Weak.refl | exact Weak.eq (by first | rfl | (simp only [go_sem]; done) | (simp only [go_sem]; rfl) | (simp [go_sem]; done) | (simp [go_sem]; omega)) (by first | rfl | (simp only [go_sem]; done) | (simp [go_sem]; done))
      · try dsimp only
        exact ⟨hi', by rw [hinv, if_neg c2]⟩
  · -- c1 false
    try simp only [nrm] at c1
    have hdrop : ct.sleep.drop i = [] := List.drop_eq_nil_of_le (by omega)
    rw [hdrop] at hinv
    simp only [awkL] at hinv
    refine W_exit ?_
    simp only [go_sem]
    refine kq3 _ _ ?_
    refine W_seq fun kz12 kq12 => ?_
    refine W_region [2] fun R hR => ?_   -- r9
    simp only [go_sem]
    refine hR _ _ (kq12 _ _ ?_); clear hR R; try clear kq12 kz12
    try simp only [go_sem]
    refine W_ret ?_
    simp only [go_sem]
    refine ⟨.inr (by trivial), ?_⟩
    first | refine Fin_same hcl rfl (Wk_eq ?_ (by simp only [go_sem])) | refine Fin_self hcl rfl (Wk_eq ?_ (by simp only [go_sem]))
    try simp only [go_sem]
    all_goals
      rw [hinv]
set_option maxHeartbeats 2000000 in
theorem granted_pc (Y : YEnv) (σ : Sg) (ct : City) (w : List Band) (b : Band) (hc : ct.Ok) (hl : BandsOk w) (hw : w.length ≤ 1000) (hk : chkCity ct = 0) (hv : ∀ x, x ∈ w → chkBand ct x = 0) (hb : b.path.length < 2 ^ 50) (hbv : chkBand ct b = 0) :
    PC Try.prog Y 74 [reqPV ct w b] σ (I (reqOf ct w b)) (σ) := by
  refine PC_of_W Try.func74 rfl (by kernel_rfl) Try.ntmps74 (by simp) fun hcl hca => ?_
  refine W_seq fun kz1 kq1 => ?_
  refine W_region [1] fun R hR => ?_   -- r0
  simp only [go_sem]
  refine hR _ _ (kq1 _ _ ?_); clear hR R; try clear kq1 kz1
  try simp only [go_sem]
  refine W_seq fun kz2 kq2 => ?_
  refine W_region [2] fun R hR => ?_   -- r1
  simp only [go_sem]
  refine GCall_of (first_pc Y _ [(108, clashOf ct b w), (109, overOf ct b), (110, awkOf ct (w ++ [b]))] (reqPV ct w b) (by simp) (fun p hp σ => by
      simp only [List.mem_cons, List.not_mem_nil, or_false] at hp
      rcases hp with rfl | rfl | rfl
      · exact clash_pc Y σ ct w b hc hl hw hk hv hb hbv
      · exact over_pc Y σ ct w b hc hl hw hk hv hb hbv (sqs_range hk)
      · exact rawake_pc Y σ ct w b hc hl hw hk hv hb hbv)) ?_   -- t10
  simp only [go_sem]
  refine hR _ _ (kq2 _ _ ?_); clear hR R; try clear kq2 kz2
  try simp only [go_sem]
  refine W_ret ?_
  simp only [go_sem]
  refine ⟨.inr (by trivial), ?_⟩
  first | refine Fin_same hcl rfl (Wk_eq ?_ (by simp only [go_sem])) | refine Fin_self hcl rfl (Wk_eq ?_ (by simp only [go_sem]))
  try simp only [go_sem]
  all_goals
    simp only [reqOf, List.map]
set_option maxHeartbeats 2000000 in
theorem Grant_pc (Y : YEnv) (σ : Sg) (ct : City) (l : List Band) (hc : ct.Ok) (hl : BandsOk l) :
    PC Try.prog Y 30 [ctPV ct, bands l] σ (.tuple [ints (grantAns ct l).1, I (grantAns ct l).2]) (σ) := by
  refine PC_of_W Try.func30 rfl (by kernel_rfl) Try.ntmps30 (by simp) fun hcl hca => ?_
  have hl1 := hl.1
  have hl2 := hl.2
  obtain ⟨res, hres⟩ : ∃ r, grantAns ct l = r := ⟨_, rfl⟩
  rw [hres]
  refine W_seq fun kz1 kq1 => ?_
  refine W_region [1, 2] fun R hR => ?_   -- r0
  simp only [go_sem]
  refine hR _ _ (kq1 _ _ ?_); clear hR R; try clear kq1 kz1
  try simp only [go_sem]
  refine W_seq fun kz2 kq2 => ?_
  refine W_seq fun kz3 kq3 => ?_
  refine W_region [1, 2, 6] fun R hR => ?_   -- r1
  simp only [go_sem]
  refine GCall_of (checkBands_pc Y _ ct l hc hl) ?_   -- t14
  simp only [go_sem]
  refine hR _ _ (kq3 _ _ ?_); clear hR R; try clear kq3 kz3
  try simp only [go_sem]
  refine W_seq fun kz4 kq4 => ?_
  refine W_region [1, 2, 6, 16] fun R hR => ?_   -- r2
  simp only [go_sem]
  refine hR _ _ (kq4 _ _ ?_); clear hR R; try clear kq4 kz4
  try simp only [go_sem]
  refine W_cond rfl (fun c1 => ?_) (fun c1 => ?_)
  · -- c1 true
    try simp only [nrm] at c1
    refine W_seq fun kz5 kq5 => ?_
    refine W_region [4, 5] fun R hR => ?_   -- r3
    simp only [go_sem]
    refine hR _ _ (kq5 _ _ ?_); clear hR R; try clear kq5 kz5
    try simp only [go_sem]
    refine W_ret ?_
    simp only [go_sem]
    refine ⟨.inr (by trivial), ?_⟩
    refine Fin_same hcl rfl (Wk.ro (by simp only [go_sem]) ?_)
    try simp only [go_sem]
    all_goals
      rw [← hres]; simp [grantAns, c1]
  · -- c1 false
    try simp only [nrm] at c1
    obtain ⟨hk, hlen, hcb⟩ := chkAll_ok c1
    have hv := chkBands_ok hcb
    have hq : res = (grantL ct [] l, 0) := by rw [← hres]; simp [grantAns, c1]
    refine W_skip (kq2 _ _ ?_)
    refine W_seq fun kz6 kq6 => ?_
    refine W_region [1, 2, 7] fun R hR => ?_   -- r4
    simp only [go_sem]
    refine hR _ _ (kq6 _ _ ?_); clear hR R; try clear kq6 kz6
    try simp only [go_sem]
    refine W_seq fun kz7 kq7 => ?_
    refine W_region [1, 2, 7, 8] fun R hR => ?_   -- r5
    simp only [go_sem]
    refine hR _ _ (kq7 _ _ ?_); clear hR R; try clear kq7 kz7
    try simp only [go_sem]
    refine W_seq fun kz8 kq8 => ?_
    refine W_seq fun kz9 kq9 => ?_
    refine W_region [2, 7, 8, 18, 19, 20] fun R hR => ?_   -- r6
    simp only [go_sem]
    refine hR _ _ (kq9 _ _ ?_); clear hR R; try clear kq9 kz9
    try simp only [go_sem]
    refine W_block ?_
    refine W_weak (Weak.room (t := 7) (es := 6) rfl (by simp)) ?_
    refine W_weak (Weak.keep [2, 7, 8, 18, 19, 20]) ?_
    simp only [go_sem]
    refine W_weak (Weak.room (t := 8) (es := 1) rfl (by simp)) ?_
    refine W_weak (Weak.keep [2, 7, 8, 18, 19, 20]) ?_
    simp only [go_sem]
    refine W_loopT (α := Nat × (List Band) × (List Int)) (fun ⟨i, w, out⟩ => [(7, .isl (w.map bdPV) (.tok σ.rooms.length w.length 6)), (8, .isl (out.map I) (.tok (σ.rooms.length + 1) out.length 1)), (20, I i)]) (fun ⟨i, w, out⟩ => σ.ext [some (ctCells ct)] [w.length, out.length]) (fun ⟨i, w, out⟩ => i ≤ l.length ∧ w.length ≤ i ∧ out.length = i ∧ (∀ x, x ∈ w → x ∈ l) ∧ res = (out ++ grantL ct w (l.drop i), 0)) (fun ⟨i, w, out⟩ => l.length - i) ((0, [], [])) (by simp only [go_sem, List.map]) (by first | rfl | (simp only [go_sem]; done) | (simp only [go_sem]; rfl)) (⟨Nat.zero_le _, Nat.le_refl _, rfl, (fun x hx => by cases hx), hq⟩) ?_
    rintro ⟨i, w, out⟩ ⟨hi, hwl, hol, hsub, hinv⟩
    refine W_seq fun kz10 kq10 => ?_
    refine W_region [2, 7, 8, 18, 19, 20, 21] fun R hR => ?_   -- r7
    simp only [go_sem]
    refine hR _ _ (kq10 _ _ ?_); clear hR R; try clear kq10 kz10
    try simp only [go_sem]
    refine W_seq fun kz11 kq11 => ?_
    refine W_cond rfl (fun c2 => ?_) (fun c2 => ?_)
    · -- c2 true
      try simp only [nrm] at c2
      have hi' : i < l.length := by first | assumption | omega
      obtain ⟨b, hx⟩ : ∃ b, l[i]? = some b := ⟨l[i], by simp [hi']⟩
      have hdrop : l.drop i = b :: l.drop (i + 1) := by
        rw [List.drop_eq_getElem_cons hi']; congr 1; exact (List.getElem?_eq_some_iff.1 hx).2
      have hbl := List.mem_of_getElem? hx
      rw [hdrop] at hinv
      simp only [grantL] at hinv
      refine W_skip (kq11 _ _ ?_)
      refine W_seq fun kz12 kq12 => ?_
      refine W_block ?_
      refine W_seq fun kz13 kq13 => ?_
      refine W_region [2, 7, 8, 10, 18, 19, 20] fun R hR => ?_   -- r8
      simp only [go_sem, hx]
      refine hR _ _ (kq13 _ _ ?_); clear hR R; try clear kq13 kz13
      try simp only [go_sem, hx]
      refine W_seq fun kz14 kq14 => ?_
      refine W_region [2, 7, 8, 10, 11, 18, 19, 20] fun R hR => ?_   -- r9
      simp only [go_sem, hx]
      refine GCall_of (PC.ofRo (granted_pc Y _ ct w b hc ⟨by omega, fun x hx => hl2 x (hsub x hx)⟩ (by omega) hk (fun x hx => hv x (hsub x hx)) (hl2 b hbl) (hv b hbl)) (by simp only [go_sem, bands] <;> rfl)) ?_   -- t28
      simp only [go_sem, hx]
      refine hR _ _ (kq14 _ _ ?_); clear hR R; try clear kq14 kz14
      try simp only [go_sem, hx]
      refine W_seq fun kz15 kq15 => ?_
      refine W_seq fun kz16 kq16 => ?_
      refine W_region [2, 7, 8, 10, 11, 18, 19, 20, 30] fun R hR => ?_   -- r10
      simp only [go_sem, hx]
      refine hR _ _ (kq16 _ _ ?_); clear hR R; try clear kq16 kz16
      try simp only [go_sem, hx]
      refine W_cond rfl (fun c3 => ?_) (fun c3 => ?_)
      · -- c3 true
        try simp only [nrm] at c3
        refine W_region [2, 7, 8, 11, 18, 19, 20] fun R hR => ?_   -- r11
        simp only [go_sem, hx]
        simp (disch := first | omega | (simp only [go_sem] <;> omega)) only [wrapI, wrapU, appX_exact, appX_tok]
        try simp only [go_sem, hx]
        refine hR _ _ (kq15 _ _ ?_); clear hR R; try clear kq15 kz15
        try simp only [go_sem, hx]
        refine W_region [2, 7, 8, 18, 19, 20] fun R hR => ?_   -- r12
        simp only [go_sem, hx]
        simp (disch := first | omega | (simp only [go_sem] <;> omega)) only [wrapI, wrapU, appX_exact, appX_tok]
        try simp only [go_sem, hx]
        refine hR _ _ (kq12 _ _ ?_); clear hR R; try clear kq12 kz12
        try simp only [go_sem, hx]
        refine W_region [2, 7, 8, 18, 19, 20] fun R hR => ?_   -- r13
        simp only [go_sem, hx]
        try simp (disch := omega) only [wrapI, wrapU]
        refine hR _ _ ?_; clear hR R
        try simp only [go_sem, hx]
        refine ⟨(i + 1, w ++ [b], out ++ [reqOf ct w b]), ?_, by (try simp only []); omega, ?_⟩
        · refine Weak.trans (Weak.cutX 1 2 (by omega) (by omega) hcl (by simp only [go_sem] <;> omega) (by simp only [go_sem] <;> omega)) ?_
          simp only [go_sem]
          exact Weak.eq (by first | rfl | (simp only [go_sem]; done) | (simp only [go_sem]; rfl) | (simp [go_sem]; done) | (simp [go_sem]; omega)) (by first | rfl | (simp only [go_sem]; done) | (simp [go_sem]; done))
        · try dsimp only
          refine ⟨hi', by (try simp); omega, by simp; omega, fun x hx => ?_, ?_⟩
          · first | exact hsub x hx | (rcases List.mem_append.1 hx with h | h; exact hsub x h; simp only [List.mem_singleton] at h; subst h; exact hbl)
          · rw [hinv]; simp [c3]
      · -- c3 false
        try simp only [nrm] at c3
        refine W_skip (kq15 _ _ ?_)
        refine W_region [2, 7, 8, 18, 19, 20] fun R hR => ?_   -- r12
        simp only [go_sem, hx]
        simp (disch := first | omega | (simp only [go_sem] <;> omega)) only [wrapI, wrapU, appX_exact, appX_tok]
        try simp only [go_sem, hx]
        refine hR _ _ (kq12 _ _ ?_); clear hR R; try clear kq12 kz12
        try simp only [go_sem, hx]
        refine W_region [2, 7, 8, 18, 19, 20] fun R hR => ?_   -- r13
        simp only [go_sem, hx]
        try simp (disch := omega) only [wrapI, wrapU]
        refine hR _ _ ?_; clear hR R
        try simp only [go_sem, hx]
        refine ⟨(i + 1, w, out ++ [reqOf ct w b]), ?_, by (try simp only []); omega, ?_⟩
        · refine Weak.trans (Weak.cutX 1 2 (by omega) (by omega) hcl (by simp only [go_sem] <;> omega) (by simp only [go_sem] <;> omega)) ?_
          simp only [go_sem]
          exact Weak.eq (by first | rfl | (simp only [go_sem]; done) | (simp only [go_sem]; rfl) | (simp [go_sem]; done) | (simp [go_sem]; omega)) (by first | rfl | (simp only [go_sem]; done) | (simp [go_sem]; done))
        · try dsimp only
          refine ⟨hi', by (try simp); omega, by simp; omega, fun x hx => ?_, ?_⟩
          · first | exact hsub x hx | (rcases List.mem_append.1 hx with h | h; exact hsub x h; simp only [List.mem_singleton] at h; subst h; exact hbl)
          · rw [hinv]; simp [c3]
    · -- c2 false
      try simp only [nrm] at c2
      have hdrop : l.drop i = [] := List.drop_eq_nil_of_le (by omega)
      rw [hdrop] at hinv
      simp only [grantL, List.append_nil] at hinv
      refine W_exit ?_
      simp only [go_sem]
      refine kq8 _ _ ?_
      refine W_seq fun kz17 kq17 => ?_
      refine W_region [4, 5] fun R hR => ?_   -- r14
      simp only [go_sem]
      refine hR _ _ (kq17 _ _ ?_); clear hR R; try clear kq17 kz17
      try simp only [go_sem]
      refine W_ret ?_
      simp only [go_sem]
      refine ⟨.inr (by trivial), ?_⟩
      refine Fin_same hcl rfl (Wk.ro (by simp only [go_sem]) ?_)
      try simp only [go_sem]
      all_goals
        rw [hinv]
set_option maxHeartbeats 2000000 in
theorem EqErrors_pc (Y : YEnv) (σ : Sg) (xs ys : List Int) (o o2 : Own) (hx : xs.length < 2 ^ 50) :
    PC Try.prog Y 31 [.isl (xs.map I) o, .isl (ys.map I) o2] σ (.bool (decide (xs = ys))) (σ) := by
  refine PC_of_W Try.func31 rfl (by kernel_rfl) Try.ntmps31 (by simp) fun hcl hca => ?_
  refine W_seq fun kz1 kq1 => ?_
  refine W_region [0, 1] fun R hR => ?_   -- r0
  simp only [go_sem]
  refine hR _ _ (kq1 _ _ ?_); clear hR R; try clear kq1 kz1
  try simp only [go_sem]
  refine W_seq fun kz2 kq2 => ?_
  refine W_seq fun kz3 kq3 => ?_
  refine W_region [0, 1, 10] fun R hR => ?_   -- r1
  simp only [go_sem]
  refine hR _ _ (kq3 _ _ ?_); clear hR R; try clear kq3 kz3
  try simp only [go_sem]
  refine W_cond rfl (fun c1 => ?_) (fun c1 => ?_)
  · -- c1 true
    try simp only [nrm] at c1
    refine W_seq fun kz4 kq4 => ?_
    refine W_region [4] fun R hR => ?_   -- r2
    simp only [go_sem]
    refine hR _ _ (kq4 _ _ ?_); clear hR R; try clear kq4 kz4
    try simp only [go_sem]
    refine W_ret ?_
    simp only [go_sem]
    refine ⟨.inr (by trivial), ?_⟩
    first | refine Fin_same hcl rfl (Wk_eq ?_ (by simp only [go_sem])) | refine Fin_self hcl rfl (Wk_eq ?_ (by simp only [go_sem]))
    try simp only [go_sem]
    all_goals
      simp; intro h; subst h; exact c1 rfl
  · -- c1 false
    try simp only [nrm] at c1
    refine W_skip (kq2 _ _ ?_)
    refine W_seq fun kz5 kq5 => ?_
    refine W_seq fun kz6 kq6 => ?_
    refine W_region [0, 1, 5] fun R hR => ?_   -- r3
    simp only [go_sem]
    refine hR _ _ (kq6 _ _ ?_); clear hR R; try clear kq6 kz6
    try simp only [go_sem]
    refine W_block ?_
    refine W_loopS (α := Nat) (fun (i : Nat) => [(5, I i)]) (fun (i : Nat) => i ≤ xs.length ∧ xs.take i = ys.take i) (fun (i : Nat) => xs.length - i) (0) rfl (⟨Nat.zero_le _, rfl⟩) ?_
    rintro i ⟨hi, ht⟩
    refine W_seq fun kz7 kq7 => ?_
    refine W_seq fun kz8 kq8 => ?_
    refine W_region [0, 1, 5, 14] fun R hR => ?_   -- r4
    simp only [go_sem]
    refine hR _ _ (kq8 _ _ ?_); clear hR R; try clear kq8 kz8
    try simp only [go_sem]
    refine W_cond rfl (fun c2 => ?_) (fun c2 => ?_)
    · -- c2 true
      try simp only [nrm] at c2
      have hi' : i < xs.length := by first | assumption | omega
      obtain ⟨x, hxi⟩ : ∃ x, xs[i]? = some x := ⟨xs[i], by simp⟩
      obtain ⟨y, hyi⟩ : ∃ y, ys[i]? = some y := ⟨ys[i]'(by omega), by simp⟩
      refine W_skip (kq7 _ _ ?_)
      refine W_seq fun kz9 kq9 => ?_
      refine W_block ?_
      refine W_seq fun kz10 kq10 => ?_
      refine W_draw [0, 1, 5, 25] [0, 1, 2, 3, 4, 5, 6, 7, 8] [] [[], [], [0, 1], [0, 1, 2], [], [], [4, 5], [4, 5, 6], [0, 1, 2, 3, 4, 5, 6, 7]] mixed (by kernel_rfl) fun R hR => ?_   -- r6
      simp only [go_sem, hxi, hyi]
      try refine And.intro (by repeat' (first | refine And.intro ?_ ?_ | exact GOr_right (fun _ => by simp only [go_sem, hxi, hyi]))) ?_
      refine hR _ _ (kq10 _ _ ?_); clear hR R; try clear kq10 kz10
      try simp only [go_sem, hxi, hyi]
      refine W_cond rfl (fun c3 => ?_) (fun c3 => ?_)
      · -- c3 true
        try simp only [nrm] at c3
        refine W_seq fun kz11 kq11 => ?_
        refine W_region [4] fun R hR => ?_   -- r7
        simp only [go_sem, hxi, hyi]
        refine hR _ _ (kq11 _ _ ?_); clear hR R; try clear kq11 kz11
        try simp only [go_sem, hxi, hyi]
        refine W_ret ?_
        simp only [go_sem, hxi, hyi]
        refine ⟨.inr (by trivial), ?_⟩
        first | refine Fin_same hcl rfl (Wk_eq ?_ (by simp only [go_sem])) | refine Fin_self hcl rfl (Wk_eq ?_ (by simp only [go_sem]))
        try simp only [go_sem]
        all_goals
          simp; intro h; subst h; rw [hxi] at hyi; injection hyi with h; exact c3 h
      · -- c3 false
        try simp only [nrm] at c3
        refine W_skip (kq9 _ _ ?_)
        refine W_region [0, 1, 5] fun R hR => ?_   -- r5
        simp only [go_sem, hxi, hyi]
        try simp (disch := omega) only [wrapI, wrapU]
        refine hR _ _ ?_; clear hR R
        try simp only [go_sem, hxi, hyi]
        refine ⟨i + 1, ?_, by (try simp only []); omega, ?_⟩
        · first | exact Weak.refl | exact Weak.eq (by first | rfl | (simp only [go_sem]; done) | (simp only [go_sem]; rfl) | (simp [go_sem]; done) | (simp [go_sem]; omega)) (by first | rfl | (simp only [go_sem]; done) | (simp [go_sem]; done))
        · try dsimp only
          exact ⟨hi', by rw [List.take_add_one, List.take_add_one, ht, hxi, hyi, c3]⟩
    · -- c2 false
      try simp only [nrm] at c2
      have hie : i = xs.length := by omega
      subst hie
      have hxy : xs = ys := by rw [List.take_length] at ht; rw [c1, List.take_length] at ht; exact ht
      refine W_exit ?_
      simp only [go_sem]
      refine kq5 _ _ ?_
      refine W_seq fun kz12 kq12 => ?_
      refine W_region [4] fun R hR => ?_   -- r8
      simp only [go_sem]
      refine hR _ _ (kq12 _ _ ?_); clear hR R; try clear kq12 kz12
      try simp only [go_sem]
      refine W_ret ?_
      simp only [go_sem]
      refine ⟨.inr (by trivial), ?_⟩
      first | refine Fin_same hcl rfl (Wk_eq ?_ (by simp only [go_sem])) | refine Fin_self hcl rfl (Wk_eq ?_ (by simp only [go_sem]))
      try simp only [go_sem]
      all_goals
        simp [hxy]
end Go.Proofs.Ytnpamcpoaklgeaa
namespace Go.Proofs.Ytnpamcpoaklgeaa
open Go
set_option maxRecDepth 100000
theorem slh22 {l : List PV} {own : Own} {k : IntKind} {n : Int} : slicePV Try.prog 22 (.isl l own) none (some (.int k n)) none = if 0 ≤ n then if n.toNat ≤ l.length then some (.isl (l.take n.toNat) (sliceOwn own 0 n.toNat l.length)) else none else none := slHi_of Try.underlying22 Try.underlying3 l own k n
theorem slh29 {l : List PV} {own : Own} {k : IntKind} {n : Int} : slicePV Try.prog 29 (.isl l own) none (some (.int k n)) none = if 0 ≤ n then if n.toNat ≤ l.length then some (.isl (l.take n.toNat) (sliceOwn own 0 n.toNat l.length)) else none else none := slHi_of Try.underlying29 Try.underlying33 l own k n
theorem slh54 {l : List PV} {own : Own} {k : IntKind} {n : Int} : slicePV Try.prog 54 (.isl l own) none (some (.int k n)) none = if 0 ≤ n then if n.toNat ≤ l.length then some (.isl (l.take n.toNat) (sliceOwn own 0 n.toNat l.length)) else none else none := slHi_of Try.underlying54 Try.underlying46 l own k n
attribute [go_sem] slh22 slh29 slh54
end Go.Proofs.Ytnpamcpoaklgeaa
namespace Go.Proofs.Ytnpamcpoaklgeaa
open Go Go.RowKit
set_option maxRecDepth 100000
def quarterC : City := ⟨⟨[110, 80, 50], [(0, 1), (1, 2), (0, 2)], [], 6⟩, 5, [590, 500, 0]⟩
def bandsQ : List Band := [⟨0, [0, 1], 100, 110, 20, 50⟩, ⟨2, [1], 120, 120, 30, 40⟩, ⟨1, [], 300, 300, 10, 90⟩, ⟨0, [], 650, 650, 10, 1⟩]
def laterQ (s : Int) : Band := ⟨2, [1], s, s, 30, 40⟩
theorem quarter_ok : quarterC.Ok := ⟨by decide, by decide, by decide, (fun g hg => by cases hg), by decide⟩
theorem bandsQ_ok : BandsOk bandsQ := ⟨by decide, fun b hb => by simp only [bandsQ, List.mem_cons, List.not_mem_nil, or_false] at hb; rcases hb with rfl | rfl | rfl | rfl <;> decide⟩
theorem ex_grant : grantAns quarterC bandsQ = ([0, 10, 13, 11], 0) := by decide +kernel
theorem ex_cross : crossAns quarterC ⟨0, [0, 1], 100, 110, 20, 50⟩ (laterQ 60) = (3, 0) := by decide +kernel
theorem ex_sleep : sleepAns quarterC (bandsQ.take 1) 0 = (130, 590, 0) := by decide +kernel
set_option maxHeartbeats 2000000 in
theorem quarter_pc (Y : YEnv) (σ : Sg)  :
    PC Try.prog Y 58 [] σ (ctPV quarterC) (σ) := by
  refine PC_of_W Try.func58 rfl (by kernel_rfl) Try.ntmps58 (by simp) fun hcl hca => ?_
  refine W_seq fun kz1 kq1 => ?_
  refine W_region [0] fun R hR => ?_   -- r0
  simp only [go_sem]
  refine hR _ _ (kq1 _ _ ?_); clear hR R; try clear kq1 kz1
  try simp only [go_sem]
  refine W_seq fun kz2 kq2 => ?_
  refine W_region [0] fun R hR => ?_   -- r1
  simp only [go_sem]
  refine hR _ _ (kq2 _ _ ?_); clear hR R; try clear kq2 kz2
  try simp only [go_sem]
  refine W_ret ?_
  simp only [go_sem]
  refine ⟨.inr (by trivial), ?_⟩
  refine Fin_same hcl (by show resPV Try.prog _ _ [.cell 0 28] = some _; simp only [resPV, go_sem]; rfl) (Wk.ro (by simp only [go_sem]) ?_)
  try simp only [go_sem]
  all_goals
    rfl
set_option maxHeartbeats 2000000 in
theorem span_pc (Y : YEnv) (σ : Sg) (lo hi : Int) :
    PC Try.prog Y 101 [I lo, I hi] σ (.agg [I lo, I hi]) (σ) := by
  refine PC_of_W Try.func101 rfl (by kernel_rfl) Try.ntmps101 (by simp) fun hcl hca => ?_
  refine W_seq fun kz1 kq1 => ?_
  refine W_region [0, 1, 4] fun R hR => ?_   -- r0
  simp only [go_sem]
  refine hR _ _ (kq1 _ _ ?_); clear hR R; try clear kq1 kz1
  try simp only [go_sem]
  refine W_seq fun kz2 kq2 => ?_
  refine W_region [4] fun R hR => ?_   -- r1
  simp only [go_sem]
  refine hR _ _ (kq2 _ _ ?_); clear hR R; try clear kq2 kz2
  try simp only [go_sem]
  refine W_ret ?_
  simp only [go_sem]
  refine ⟨.inr (by trivial), ?_⟩
  first | refine Fin_same hcl (by show resPV Try.prog _ _ [.cell 4 31] = some _; simp only [resPV, go_sem]; rfl) (Wk_eq ?_ (by simp only [go_sem])) | refine Fin_same hcl rfl (Wk_eq ?_ (by simp only [go_sem]))
  try simp only [go_sem]
  all_goals
    first | rfl | (simp_all; done) | (simp_all; omega)
set_option maxHeartbeats 2000000 in
theorem bandsQ_pc (Y : YEnv) (σ : Sg)  :
    PC Try.prog Y 59 [] σ (bands bandsQ) (σ) := by
  refine PC_of_W Try.func59 rfl (by kernel_rfl) Try.ntmps59 (by simp) fun hcl hca => ?_
  refine W_seq fun kz1 kq1 => ?_
  refine W_region [] fun R hR => ?_   -- r0
  simp only [go_sem]
  refine hR _ _ (kq1 _ _ ?_); clear hR R; try clear kq1 kz1
  try simp only [go_sem]
  refine W_seq fun kz2 kq2 => ?_
  refine W_region [0] fun R hR => ?_   -- r1
  simp only [go_sem]
  refine GCall_of (span_pc Y _ 100 110) ?_   -- t2
  simp only [go_sem]
  refine GCall_of (span_pc Y _ 120 120) ?_   -- t5
  simp only [go_sem]
  refine GCall_of (span_pc Y _ 300 300) ?_   -- t7
  simp only [go_sem]
  refine GCall_of (span_pc Y _ 650 650) ?_   -- t9
  simp only [go_sem]
  refine hR _ _ (kq2 _ _ ?_); clear hR R; try clear kq2 kz2
  try simp only [go_sem]
  refine W_ret ?_
  simp only [go_sem]
  refine ⟨.inr (by trivial), ?_⟩
  first | refine Fin_same hcl rfl (Wk.ro (by simp only [go_sem]) ?_) | refine Fin_self hcl rfl (Wk.ro (by simp only [go_sem]) ?_)
  try simp only [go_sem]
  all_goals
    rfl
set_option maxHeartbeats 2000000 in
theorem later_pc (Y : YEnv) (σ : Sg) (s : Int) :
    PC Try.prog Y 60 [I s] σ (bdPV (laterQ s)) (σ) := by
  refine PC_of_W Try.func60 rfl (by kernel_rfl) Try.ntmps60 (by simp) fun hcl hca => ?_
  have q0 : (0 : Int) ≤ 1 := by decide
  have q1 : (1 : Int).toNat = 1 := rfl
  have q2 : bandsQ[1]? = some ⟨2, [1], 120, 120, 30, 40⟩ := rfl
  refine W_seq fun kz1 kq1 => ?_
  refine W_region [0, 2] fun R hR => ?_   -- r0
  simp only [go_sem, q0, q1, q2]
  refine hR _ _ (kq1 _ _ ?_); clear hR R; try clear kq1 kz1
  try simp only [go_sem, q0, q1, q2]
  refine W_seq fun kz2 kq2 => ?_
  refine W_region [0, 2, 3] fun R hR => ?_   -- r1
  simp only [go_sem, q0, q1, q2]
  refine GCall_of (bandsQ_pc Y _) ?_   -- t4
  simp only [go_sem, q0, q1, q2]
  refine hR _ _ (kq2 _ _ ?_); clear hR R; try clear kq2 kz2
  try simp only [go_sem, q0, q1, q2]
  refine W_seq fun kz3 kq3 => ?_
  refine W_region [2, 3] fun R hR => ?_   -- r2
  simp only [go_sem, q0, q1, q2]
  refine GCall_of (span_pc Y _ s s) ?_   -- t9
  simp only [go_sem, q0, q1, q2]
  refine hR _ _ (kq3 _ _ ?_); clear hR R; try clear kq3 kz3
  try simp only [go_sem, q0, q1, q2]
  refine W_seq fun kz4 kq4 => ?_
  refine W_region [2] fun R hR => ?_   -- r3
  simp only [go_sem, q0, q1, q2]
  refine hR _ _ (kq4 _ _ ?_); clear hR R; try clear kq4 kz4
  try simp only [go_sem, q0, q1, q2]
  refine W_ret ?_
  simp only [go_sem, q0, q1, q2]
  refine ⟨.inr (by trivial), ?_⟩
  refine Fin_same hcl (by show resPV Try.prog _ _ [.cell 2 33] = some _; simp only [resPV, go_sem]; rfl) (Wk.ro (by simp only [go_sem]) ?_)
  try simp only [go_sem]
  all_goals
    rfl
set_option maxHeartbeats 2000000 in
theorem lawake_pc (Y : YEnv) (σ : Sg)  :
    PC Try.prog Y 17 [] σ (.bool true) (σ) := by
  refine PC_of_W Try.func17 rfl (by kernel_rfl) Try.ntmps17 (by simp) fun hcl hca => ?_
  have q0 : (0 : Int) ≤ 0 := by decide
  have q1 : (0 : Int).toNat = 0 := rfl
  have q2 : bandsQ[0]? = some ⟨0, [0, 1], 100, 110, 20, 50⟩ := rfl
  have q3 : (0 : Int) ≤ 1 := by decide
  have q4 : (1 : Int).toNat = 1 := rfl
  have q5 : 1 ≤ bandsQ.length := by decide
  refine W_seq fun kz1 kq1 => ?_
  refine W_region [] fun R hR => ?_   -- r0
  simp only [go_sem, q0, q1, q2, q3, q4, q5]
  refine hR _ _ (kq1 _ _ ?_); clear hR R; try clear kq1 kz1
  try simp only [go_sem, q0, q1, q2, q3, q4, q5]
  refine W_seq fun kz2 kq2 => ?_
  refine W_region [1, 2] fun R hR => ?_   -- r1
  simp only [go_sem, q0, q1, q2, q3, q4, q5]
  refine GCall_of (quarter_pc Y _) ?_   -- t9
  simp only [go_sem, q0, q1, q2, q3, q4, q5]
  refine GCall_of (bandsQ_pc Y _) ?_   -- t10
  simp only [go_sem, q0, q1, q2, q3, q4, q5]
  refine GCall_of (PC.val (v' := .tuple [ints [0, 10, 13, 11], I 0]) (Grant_pc Y _ quarterC bandsQ quarter_ok bandsQ_ok) (by rw [ex_grant])) ?_   -- t11
  simp only [go_sem, q0, q1, q2, q3, q4, q5]
  refine hR _ _ (kq2 _ _ ?_); clear hR R; try clear kq2 kz2
  try simp only [go_sem, q0, q1, q2, q3, q4, q5]
  refine W_seq fun kz3 kq3 => ?_
  refine W_draw [1, 2, 3, 4] [0, 1, 2, 3, 4, 5, 6, 7, 8, 9, 10] [(2, 5), (3, 5)] [[], [0], [0, 1], [0, 1, 2], [0, 1], [0, 1, 2, 3, 4], [0, 1, 2, 3, 4, 5], [0, 1, 2, 3, 4, 5, 6], [0, 1, 2, 3, 4, 5, 6], [0, 1, 2, 3, 4, 5, 6, 7], [0, 1, 2, 3, 4, 5, 6, 7, 8, 9]] mixed (by kernel_rfl) fun R hR => ?_   -- r2
  simp only [go_sem, q0, q1, q2, q3, q4, q5]
  refine GCall_of (quarter_pc Y _) ?_   -- t15
  simp only [go_sem, q0, q1, q2, q3, q4, q5]
  refine GCall_of (bandsQ_pc Y _) ?_   -- t16
  simp only [go_sem, q0, q1, q2, q3, q4, q5]
  refine GCall_of (later_pc Y _ 60) ?_   -- t19
  simp only [go_sem, q0, q1, q2, q3, q4, q5]
  refine GCall_of (PC.val (v' := .tuple [I 3, I 0]) (bCross_pc Y _ quarterC ⟨0, [0, 1], 100, 110, 20, 50⟩ (laterQ 60) quarter_ok (by decide) (by decide)) (by rw [ex_cross])) ?_   -- t20
  simp only [go_sem, q0, q1, q2, q3, q4, q5]
  try refine And.intro (by repeat' (first | refine And.intro ?_ ?_ | exact GOr_right (fun _ => by simp only [go_sem, q0, q1, q2, q3, q4, q5]))) ?_
  refine hR _ _ (kq3 _ _ ?_); clear hR R; try clear kq3 kz3
  try simp only [go_sem, q0, q1, q2, q3, q4, q5]
  refine W_seq fun kz4 kq4 => ?_
  refine W_region [1, 2, 3, 4, 5, 6, 7] fun R hR => ?_   -- r3
  simp only [go_sem, q0, q1, q2, q3, q4, q5]
  refine GCall_of (quarter_pc Y _) ?_   -- t24
  simp only [go_sem, q0, q1, q2, q3, q4, q5]
  refine GCall_of (bandsQ_pc Y _) ?_   -- t25
  simp only [go_sem, q0, q1, q2, q3, q4, q5]
  refine GCall_of (PC.val (v' := .tuple [I 130, I 590, I 0]) (bSleep_pc Y _ quarterC (bandsQ.take 1) 0 quarter_ok ⟨by decide, fun b hb => bandsQ_ok.2 b (List.mem_of_mem_take hb)⟩) (by rw [ex_sleep])) ?_   -- t27
  simp only [go_sem, q0, q1, q2, q3, q4, q5]
  refine hR _ _ (kq4 _ _ ?_); clear hR R; try clear kq4 kz4
  try simp only [go_sem, q0, q1, q2, q3, q4, q5]
  refine W_seq fun kz5 kq5 => ?_
  refine W_region [0] fun R hR => ?_   -- r4
  simp only [go_sem, q0, q1, q2, q3, q4, q5]
  refine GCall_of (PC.val (v' := .bool true) (EqErrors_pc Y _ [0, 10, 13, 11] [0, 10, 13, 11] .ro .exact (by decide)) (by simp)) ?_   -- t44
  simp only [go_sem, q0, q1, q2, q3, q4, q5]
  refine hR _ _ (kq5 _ _ ?_); clear hR R; try clear kq5 kz5
  try simp only [go_sem, q0, q1, q2, q3, q4, q5]
  refine W_ret ?_
  simp only [go_sem, q0, q1, q2, q3, q4, q5]
  refine ⟨.inr (by trivial), ?_⟩
  first | refine Fin_same hcl rfl (Wk_eq ?_ (by simp only [go_sem])) | refine Fin_self hcl rfl (Wk_eq ?_ (by simp only [go_sem]))
  try simp only [go_sem]
  all_goals
    first | rfl | (simp_all; done) | (simp_all; omega)
end Go.Proofs.Ytnpamcpoaklgeaa
namespace Go.Proofs.Ytnpamcpoaklgeaa
open Go Go.RowKit
structure CityV (c : City) : Prop where
  tv : TownV 4 5 1 c.town
  b0 : 0 ≤ c.brk
  b1 : c.brk ≤ 60
  sl : c.sleep.length = c.town.rooms.length
  sv : ∀ n, n ∈ c.sleep → 0 ≤ n ∧ n ≤ 720
theorem cityA_ok {t : Town} {brk : Int} (ht : TownV 4 5 1 t) (h0 : 0 ≤ brk) (h1 : brk ≤ 60) : ∀ (k : Nat) (acc : List Int), acc.length + k = t.rooms.length → (∀ n, n ∈ acc → 0 ≤ n ∧ n ≤ 720) → Holds (cityA t brk k acc) CityV := by
  intro k
  induction k with
  | zero => intro acc hl ha; exact .ret ⟨ht, h0, h1, by simpa using hl, ha⟩
  | succ k ih =>
    intro acc hl ha
    refine (roll_bd 721).bind fun x hx => (mid_bd 300 600 (by omega)).bind fun y hy => (anyOf_mem [0, x, y] (by simp)).bind fun z hz => ih _ (by simp; omega) fun n hn => ?_
    have hz := mem3 hz
    rcases List.mem_append.1 hn with hn | hn
    · exact ha n hn
    · simp only [List.mem_singleton] at hn; subst hn; omega
theorem cityD_ok : Holds cityD CityV := by
  unfold cityD
  refine Holds.bind (R := TownV 4 5 1) townD451 fun t ht => (roll_bd 10).bind fun x hx => (roll_bd 60).bind fun y hy => (anyOf_mem [0, 1, x, y] (by simp)).bind fun brk hb => ?_
  have hb := mem4 hb
  exact cityA_ok ht (by omega) (by omega) _ [] (by simp) (fun n hn => by cases hn)
theorem CityV.chk {c : City} (h : CityV c) : chkCity c = 0 := by
  have := h.b0; have := h.b1
  unfold chkCity
  rw [if_neg (by rw [h.tv.ok (by omega) (by omega) (by omega)]; simp), if_neg (by simp [inR]; omega), if_neg (by simp [h.sl]), if_neg]
  intro hh
  rw [List.any_eq_true] at hh
  obtain ⟨n, hn, hh⟩ := hh
  have := h.sv n hn
  simp [inR] at hh; omega
theorem CityV.okc {c : City} (h : CityV c) : c.Ok := by
  have := h.tv.r1; have := h.tv.s1; have := h.tv.g1; have := h.sl
  exact ⟨by omega, by omega, by omega, fun g hg => by have := (h.tv.g2 g hg).p1; omega, by omega⟩
theorem CityV.small {c : City} (h : CityV c) : c.Small := by
  have := h.tv.r1; have := h.tv.s1; have := h.tv.g1; have := h.sl
  exact ⟨by omega, by omega, by omega, fun g hg => by have := (h.tv.g2 g hg).p1; omega, by omega⟩
structure BandV (c : City) (b : Band) : Prop where
  f0 : 0 ≤ b.first
  f1 : b.first < c.town.rooms.length
  p1 : b.path.length ≤ 4
  p2 : chkPath c.town.streets b.path b.first = 0
  l0 : 0 ≤ b.lo
  l1 : b.lo ≤ b.hi
  l2 : b.hi ≤ b.lo + 4
  s0 : 1 ≤ b.stay
  s1 : b.stay ≤ 20
  q0 : 0 ≤ b.people
  q1 : b.people ≤ 600
  e1 : b.hi + b.stay * ((b.path.length : Int) + 1) ≤ 720
theorem bandP_ok {c : City} {first stay people : Int} (hf0 : 0 ≤ first) (hf1 : first < c.town.rooms.length) (hs0 : 1 ≤ stay) (hs1 : stay ≤ 20) (hp0 : 0 ≤ people) (hp1 : people ≤ 600) : ∀ (k : Nat) (a : Int) (acc : List Int), (k ≠ 0 → 0 < c.town.streets.length) → acc.length + k ≤ 4 →
    chkPath c.town.streets acc first = 0 → pathEnd c.town.streets acc first = a → Holds (bandP c.town.streets first stay people k a acc) (BandV c) := by
  intro k
  induction k with
  | zero =>
    intro a acc _ hl hc _
    have hm := mul_bd (a := stay) (b := (acc.length : Int) + 1) (A := 20) (B := 5) (by omega) hs1 (by omega) (by omega)
    refine (anyOf_mem [60, 200, 720 - stay * ((acc.length : Int) + 1) - 4] (by simp)).bind fun m hm' => (roll_bd m).bind fun st hst => (roll_bd 5).bind fun z hz => (anyOf_mem [0, 0, z] (by simp)).bind fun more hmo => ?_
    have hm' := mem3 hm'
    have hmo := mem3 hmo
    exact .ret ⟨hf0, hf1, by simpa using hl, hc, by (try dsimp only); omega, by (try dsimp only); omega, by (try dsimp only); omega, hs0, hs1, hp0, hp1, by (try dsimp only); omega⟩
  | succ k ih =>
    intro a acc h0 hl hc he
    have hs := h0 (by omega)
    refine (roll_bd c.town.streets.length).bind fun s hsb => ?_
    split
    · rename_i ho
      obtain ⟨q1, q2⟩ := chkPath_snoc (s := s) (by omega) (by omega) acc first hc (by rw [he]; exact ho)
      exact ih _ _ (fun _ => hs) (by simp; omega) q1 (by rw [q2, he])
    · exact ih _ _ (fun _ => hs) (by omega) hc he
theorem bandD_ok {c : City} (hc : CityV c) : Holds (bandD c) (BandV c) := by
  have := hc.tv.r0
  unfold bandD
  refine (roll_bd c.town.rooms.length).bind fun f hf => (anyOf_mem [6, 20] (by simp)).bind fun q hq => ?_
  have hq := mem2 hq
  refine (mid_bd 1 q (by omega)).bind fun st hst => (roll_bd 60).bind fun x hx => (roll_bd 600).bind fun y hy => (anyOf_mem [0, x, y] (by simp)).bind fun p hp => (roll_bd 5).bind fun k hk => ?_
  have hp := mem3 hp
  refine bandP_ok (by omega) (by omega) (by omega) (by omega) (by omega) (by omega) _ _ [] (fun h => ?_) ?_ rfl rfl
  · split at h
    · assumption
    · exact absurd rfl h
  · split <;> simp <;> omega
theorem other_of {x : Int × Int} {n a : Int} (h : 0 ≤ x.1 ∧ x.1 < n ∧ 0 ≤ x.2 ∧ x.2 < n ∧ x.1 ≠ x.2) (ho : ¬ other x a < 0) : (a = x.1 ∧ other x a = x.2) ∨ (a ≠ x.1 ∧ a = x.2 ∧ other x a = x.1) := by
  unfold other at ho ⊢
  split at ho
  · rename_i e; exact .inl ⟨e, by rw [if_pos e]⟩
  · rename_i e
    split at ho
    · rename_i e2; exact .inr ⟨e, e2, by rw [if_neg e, if_pos e2]⟩
    · omega
theorem walkSq_of_path {st : List (Int × Int)} {n : Int} (hs : ∀ s, s ∈ st → 0 ≤ s.1 ∧ s.1 < n ∧ 0 ≤ s.2 ∧ s.2 < n ∧ s.1 ≠ s.2) : ∀ (p : List Int) (a : Int) (out : List Int), chkPath st p a = 0 → (walkSq st p a out).2 = 0 := by
  intro p
  induction p with
  | nil => intro a out _; rfl
  | cons k r ih =>
    intro a out h
    simp only [chkPath] at h
    simp only [walkSq]
    split at h
    · cases h
    · rename_i h1
      rw [if_neg h1]
      split at h
      · cases h
      · rename_i x hx
        split at h
        · cases h
        · rename_i ho
          rcases other_of (hs x (List.mem_of_getElem? hx)) ho with ⟨e, e2⟩ | ⟨e, e2, e3⟩
          · (try rw [hx]); (try dsimp only); rw [if_pos e]; rw [e2] at h; exact ih _ _ h
          · (try rw [hx]); (try dsimp only); rw [if_neg e, if_pos e2]; rw [e3] at h; exact ih _ _ h
theorem BandV.chk {c : City} (hc : CityV c) {b : Band} (h : BandV c b) : chkBand c b = 0 := by
  have e : (sqs c b).2 = 0 := by
    have := h.f0; have := h.f1; have := h.p1
    unfold sqs
    rw [if_neg (by simp [inR]; omega), if_neg (by omega)]
    exact walkSq_of_path (chkStreets_inv (chkTown_streets (chkCity_town hc.chk))) _ _ _ h.p2
  have := h.l0; have := h.l1; have := h.l2; have := h.s0; have := h.s1; have := h.q0; have := h.q1; have := h.e1
  have hm := mul_bd (a := b.stay) (b := (b.path.length : Int) + 1) (A := 20) (B := 5) (by omega) (by omega) (by omega) (by have := h.p1; omega)
  have hm2 : b.stay ≤ b.stay * ((b.path.length : Int) + 1) := by
    have := Int.mul_le_mul_of_nonneg_left (show (1 : Int) ≤ (b.path.length : Int) + 1 by omega) (show 0 ≤ b.stay by omega)
    simpa using this
  unfold chkBand
  rw [if_neg (by rw [e]; simp)]
  unfold timesOf
  rw [if_neg (by simp [inR]; omega), if_neg (by simp [inR]; omega), if_neg (by omega), if_neg (by omega), if_neg (by simp [inR]; omega), if_neg (by simp [inR]; omega), if_neg (by omega)]
end Go.Proofs.Ytnpamcpoaklgeaa
namespace Go.Proofs.Ytnpamcpoaklgeaa
open Go Go.RowKit
set_option maxRecDepth 100000
def grantedOf : List Band → List Int → List Band
  | b :: l, e :: es => if e = 0 then b :: grantedOf l es else grantedOf l es
  | _, _ => []
theorem chkBands_of {c : City} : ∀ {l : List Band}, (∀ b, b ∈ l → chkBand c b = 0) → chkBands c l = 0 := by
  intro l
  induction l with
  | nil => intro _; rfl
  | cons b l ih =>
    intro h
    simp only [chkBands]
    rw [if_neg (by rw [h b (by simp)]; simp)]
    exact ih fun x hx => h x (by simp [hx])
theorem BandV.seq {c : City} {b : Band} (h : BandV c b) : 0 ≤ b.lo ∧ b.lo ≤ b.hi ∧ b.hi ≤ 720 ∧ 1 ≤ b.stay ∧ b.stay ≤ 20 := by
  have := h.l0; have := h.l1; have := h.l2; have := h.s0; have := h.s1; have := h.e1
  have hm : 0 ≤ b.stay * ((b.path.length : Int) + 1) := Int.mul_nonneg (by omega) (by omega)
  omega
def squaresAns (c : City) (b : Band) : List Int × Int := if askedOf c [b] ≠ 0 then ([], askedOf c [b]) else sqs c b
set_option maxHeartbeats 2000000 in
theorem lgranted_pc (Y : YEnv) (σ : Sg) (l : List Band) (es : List Int) (hl : l.length ≤ 2 ^ 30) (he : l.length ≤ es.length) :
    PC Try.prog Y 32 [bands l, ints es] σ (bands (grantedOf l es)) (σ) := by
  refine PC_of_W Try.func32 rfl (by kernel_rfl) Try.ntmps32 (by simp) fun hcl hca => ?_
  refine W_seq fun kz1 kq1 => ?_
  refine W_region [0, 1] fun R hR => ?_   -- r0
  simp only [go_sem]
  refine hR _ _ (kq1 _ _ ?_); clear hR R; try clear kq1 kz1
  try simp only [go_sem]
  refine W_seq fun kz2 kq2 => ?_
  refine W_region [0, 1, 5] fun R hR => ?_   -- r1
  simp only [go_sem]
  refine hR _ _ (kq2 _ _ ?_); clear hR R; try clear kq2 kz2
  try simp only [go_sem]
  refine W_seq fun kz3 kq3 => ?_
  refine W_seq fun kz4 kq4 => ?_
  refine W_region [0, 1, 5, 6] fun R hR => ?_   -- r2
  simp only [go_sem]
  refine hR _ _ (kq4 _ _ ?_); clear hR R; try clear kq4 kz4
  try simp only [go_sem]
  refine W_block ?_
  refine W_weak (Weak.room (t := 5) (es := 6) rfl (by simp)) ?_
  refine W_weak (Weak.keep [0, 1, 5, 6]) ?_
  simp only [go_sem]
  refine W_loopT (α := Nat × (List Band)) (fun ⟨i, out⟩ => [(5, .isl (out.map bdPV) (.tok σ.rooms.length out.length 6)), (6, I i)]) (fun ⟨i, out⟩ => σ.ext [] [out.length]) (fun ⟨i, out⟩ => i ≤ l.length ∧ out.length ≤ i ∧ grantedOf l es = out ++ grantedOf (l.drop i) (es.drop i)) (fun ⟨i, out⟩ => l.length - i) ((0, [])) rfl (by first | rfl | (simp only [go_sem]; done) | (simp only [go_sem]; rfl)) (⟨Nat.zero_le _, Nat.le_refl _, rfl⟩) ?_
  rintro ⟨i, out⟩ ⟨hi, ho, hinv⟩
  refine W_seq fun kz5 kq5 => ?_
  refine W_seq fun kz6 kq6 => ?_
  refine W_regionJ [0, 1, 5, 6, 16] [(16, .bool (decide (i < l.length)))] ?_ fun R hR => ?_   -- r3
  · refine kq6 _ _ ?_
    simp only [go_sem]
    refine W_cond rfl (fun c1 => ?_) (fun c1 => ?_)
    · -- c1 true
      try simp only [nrm] at c1
      have hi' : i < l.length := by first | assumption | omega
      obtain ⟨b, hx⟩ : ∃ b, l[i]? = some b := ⟨l[i], by simp [hi']⟩
      have hdrop : l.drop i = b :: l.drop (i + 1) := by
        rw [List.drop_eq_getElem_cons hi']; congr 1; exact (List.getElem?_eq_some_iff.1 hx).2
      obtain ⟨e, hy⟩ : ∃ e, es[i]? = some e := ⟨es[i]'(by omega), by simp⟩
      have hdrop2 : es.drop i = e :: es.drop (i + 1) := by
        rw [List.drop_eq_getElem_cons (by omega)]; congr 1; exact (List.getElem?_eq_some_iff.1 hy).2
      rw [hdrop, hdrop2] at hinv
      simp only [grantedOf] at hinv
      refine W_skip (kq5 _ _ ?_)
      refine W_seq fun kz7 kq7 => ?_
      refine W_block ?_
      refine W_seq fun kz8 kq8 => ?_
      refine W_region [0, 1, 5, 6, 23] fun R hR => ?_   -- r5
      simp only [go_sem, hx, hy]
      refine hR _ _ (kq8 _ _ ?_); clear hR R; try clear kq8 kz8
      try simp only [go_sem, hx, hy]
      refine W_cond rfl (fun c2 => ?_) (fun c2 => ?_)
      · -- c2 true
        try simp only [nrm] at c2
        refine W_region [0, 1, 5, 6] fun R hR => ?_   -- r6
        simp only [go_sem, hx, hy]
        simp (disch := first | omega | (simp only [go_sem] <;> omega)) only [wrapI, wrapU, appX_exact, appX_tok]
        try simp only [go_sem, hx, hy]
        refine hR _ _ (kq7 _ _ ?_); clear hR R; try clear kq7 kz7
        try simp only [go_sem, hx, hy]
        refine W_region [0, 1, 5, 6] fun R hR => ?_   -- r4
        simp only [go_sem, hx, hy]
        try simp (disch := omega) only [wrapI, wrapU]
        refine hR _ _ ?_; clear hR R
        try simp only [go_sem, hx, hy]
        refine ⟨(i + 1, out ++ [b]), ?_, by (try simp only []); omega, ?_⟩
        · first | exact Weak.refl | exact Weak.eq (by first | rfl | (simp only [go_sem]; done) | (simp only [go_sem]; rfl) | (simp [go_sem]; done) | (simp [go_sem]; omega)) (by first | rfl | (simp only [go_sem]; done) | (simp [go_sem]; done))
        · try dsimp only
          exact ⟨hi', by (try simp); omega, by rw [hinv]; simp [c2]⟩
      · -- c2 false
        try simp only [nrm] at c2
        refine W_skip (kq7 _ _ ?_)
        refine W_region [0, 1, 5, 6] fun R hR => ?_   -- r4
        simp only [go_sem, hx, hy]
        try simp (disch := omega) only [wrapI, wrapU]
        refine hR _ _ ?_; clear hR R
        try simp only [go_sem, hx, hy]
        refine ⟨(i + 1, out), ?_, by (try simp only []); omega, ?_⟩
        · first | exact Weak.refl | exact Weak.eq (by first | rfl | (simp only [go_sem]; done) | (simp only [go_sem]; rfl) | (simp [go_sem]; done) | (simp [go_sem]; omega)) (by first | rfl | (simp only [go_sem]; done) | (simp [go_sem]; done))
        · try dsimp only
          exact ⟨hi', by (try simp); omega, by rw [hinv]; simp [c2]⟩
    · -- c1 false
      try simp only [nrm] at c1
      have hdrop : l.drop i = [] := List.drop_eq_nil_of_le (by omega)
      rw [hdrop] at hinv
      simp only [grantedOf, List.append_nil] at hinv
      refine W_exit ?_
      simp only [go_sem]
      refine kq3 _ _ ?_
      refine W_seq fun kz9 kq9 => ?_
      refine W_region [4] fun R hR => ?_   -- r7
      simp only [go_sem]
      refine hR _ _ (kq9 _ _ ?_); clear hR R; try clear kq9 kz9
      try simp only [go_sem]
      refine W_ret ?_
      simp only [go_sem]
      refine ⟨.inr (by trivial), ?_⟩
      refine Fin_same hcl rfl (Wk.ro (by simp only [go_sem]) ?_)
      try simp only [go_sem]
      all_goals
        rw [hinv]
  · simp only [go_sem]
    refine GWant_split (fun g1 => ?_) (fun g1 => ?_)
    · try simp only [Bool.not_eq_true', Bool.not_eq_false'] at g1
      have n1 := g1; try simp only [nrm] at n1
      simp only [go_sem, g1]
      refine hR _ ?_
      try simp only [go_sem]
      all_goals
        first | rfl | (simp [*]; done) | (simp [*]; omega)
    · try simp only [Bool.not_eq_true', Bool.not_eq_false'] at g1
      have n1 := g1; try simp only [nrm] at n1
      simp only [go_sem, g1]
      refine hR _ ?_
      try simp only [go_sem]
      all_goals
        first | rfl | (simp [*]; done) | (simp [*]; omega)
set_option maxHeartbeats 2000000 in
theorem bSquares_pc (Y : YEnv) (σ : Sg) (ct : City) (b : Band) (hc : ct.Ok) (hb : b.path.length < 2 ^ 50) :
    PC Try.prog Y 37 [ctPV ct, bdPV b] σ (sqPV (squaresAns ct b)) (σ) := by
  refine PC_of_W Try.func37 rfl (by kernel_rfl) Try.ntmps37 (by simp) fun hcl hca => ?_
  refine W_seq fun kz1 kq1 => ?_
  refine W_region [2, 3] fun R hR => ?_   -- r0
  simp only [go_sem]
  refine hR _ _ (kq1 _ _ ?_); clear hR R; try clear kq1 kz1
  try simp only [go_sem]
  refine W_seq fun kz2 kq2 => ?_
  refine W_seq fun kz3 kq3 => ?_
  refine W_region [2, 3, 6] fun R hR => ?_   -- r1
  simp only [go_sem]
  refine GCall_of (PC.ofRo (asked_pc Y _ ct [b] hc ⟨by simp, fun x hx => by simp at hx; subst hx; assumption⟩) (by simp only [go_sem] <;> rfl)) ?_   -- t10
  simp only [go_sem]
  refine hR _ _ (kq3 _ _ ?_); clear hR R; try clear kq3 kz3
  try simp only [go_sem]
  refine W_seq fun kz4 kq4 => ?_
  refine W_region [2, 3, 6, 12] fun R hR => ?_   -- r2
  simp only [go_sem]
  refine hR _ _ (kq4 _ _ ?_); clear hR R; try clear kq4 kz4
  try simp only [go_sem]
  refine W_cond rfl (fun c1 => ?_) (fun c1 => ?_)
  · -- c1 true
    try simp only [nrm] at c1
    refine W_seq fun kz5 kq5 => ?_
    refine W_region [4, 5] fun R hR => ?_   -- r3
    simp only [go_sem]
    refine hR _ _ (kq5 _ _ ?_); clear hR R; try clear kq5 kz5
    try simp only [go_sem]
    refine W_ret ?_
    simp only [go_sem]
    refine ⟨.inr (by trivial), ?_⟩
    refine Fin_same hcl rfl (Wk.ro (by simp only [go_sem]) ?_)
    try simp only [go_sem]
    all_goals
      simp [squaresAns, sqPV, c1, PV.ro, PV.roL]
  · -- c1 false
    try simp only [nrm] at c1
    refine W_skip (kq2 _ _ ?_)
    refine W_seq fun kz6 kq6 => ?_
    refine W_region [4, 5] fun R hR => ?_   -- r4
    simp only [go_sem]
    refine GCall_of (squares_pc Y _ ct b hc hb) ?_   -- t16
    simp only [go_sem]
    refine hR _ _ (kq6 _ _ ?_); clear hR R; try clear kq6 kz6
    try simp only [go_sem]
    refine W_ret ?_
    simp only [go_sem]
    refine ⟨.inr (by trivial), ?_⟩
    first | refine Fin_same hcl rfl (Wk_eq ?_ (by simp only [go_sem])) | refine Fin_self hcl rfl (Wk_eq ?_ (by simp only [go_sem]))
    try simp only [go_sem]
    all_goals
      simp [squaresAns, sqPV, c1, PV.ro, PV.roL]
end Go.Proofs.Ytnpamcpoaklgeaa
namespace Go.Proofs.Ytnpamcpoaklgeaa
open Go Go.RowKit
theorem askedOf_of {c : City} {l : List Band} (h1 : chkCity c = 0) (h3 : ∀ b, b ∈ l → chkBand c b = 0) : askedOf c l = 0 := by
  unfold askedOf
  rw [if_neg (by rw [h1]; simp), chkBands_of h3]
theorem squaresAns_of {c : City} {b : Band} (h1 : chkCity c = 0) (hb : chkBand c b = 0) : squaresAns c b = ((sqs c b).1, 0) := by
  unfold squaresAns
  rw [if_neg (by rw [askedOf_of h1 (fun x hx => by simp at hx; subst hx; assumption)]; simp)]
  rw [← (chkBand_ok hb).1]
end Go.Proofs.Ytnpamcpoaklgeaa
namespace Go.Proofs.Ytnpamcpoaklgeaa
open Go Go.RowKit
set_option maxRecDepth 100000
end Go.Proofs.Ytnpamcpoaklgeaa
namespace Go.Proofs.Ytnpamcpoaklgeaa
open Go Go.RowKit
def bandsAt (l : List Band) (ms : List Nat) : List Band := ms.filterMap fun i => l[i]?
end Go.Proofs.Ytnpamcpoaklgeaa
namespace Go.Proofs.Ytnpamcpoaklgeaa
open Go Go.RowKit
/-- The choice E goes on from the choice C, with members from n on, each granted in turn. -/
inductive Reach (c : City) (l : List Band) : Nat → List Nat → List Nat → Prop where
  | here (n : Nat) (C : List Nat) : Reach c l n C C
  | more (n : Nat) (C E : List Nat) (k : Nat) (b : Band) (h1 : n ≤ k) (h2 : l[k]? = some b) (h3 : reqOf c (bandsAt l C) b = 0) (h4 : Reach c l (k + 1) (C ++ [k]) E) : Reach c l n C E
section
variable {c : City} {l : List Band}
end
end Go.Proofs.Ytnpamcpoaklgeaa
namespace Go.Proofs.Ytnpamcpoaklgeaa
open Go Go.RowKit
theorem div_idx {d s : Int} (hs : 1 ≤ s) (hd : 0 ≤ d) : ∃ i : Nat, d.tdiv s = (i : Int) ∧ (i : Int) * s ≤ d ∧ d < (i : Int) * s + s := by
  have h0 : 0 ≤ d.tdiv s := Int.tdiv_nonneg hd (by omega)
  refine ⟨(d.tdiv s).toNat, by omega, ?_, ?_⟩
  · rw [Int.toNat_of_nonneg h0, Int.tdiv_eq_ediv_of_nonneg hd]
    exact Int.ediv_mul_le d (by omega)
  · rw [Int.toNat_of_nonneg h0, Int.tdiv_eq_ediv_of_nonneg hd]
    have := Int.lt_ediv_add_one_mul_self d (show 0 < s by omega)
    rw [Int.add_mul, Int.one_mul] at this
    exact this
theorem idx_uniq {d s : Int} {i j : Nat} (hs : 1 ≤ s) (h1 : (i : Int) * s ≤ d) (h2 : d < (i : Int) * s + s) (h3 : (j : Int) * s ≤ d) (h4 : d < (j : Int) * s + s) : i = j := by
  rcases Nat.lt_trichotomy i j with h | h | h
  · have := Int.mul_le_mul_of_nonneg_right (show (i : Int) + 1 ≤ (j : Int) by omega) (show 0 ≤ s by omega)
    rw [Int.add_mul, Int.one_mul] at this
    omega
  · exact h
  · have := Int.mul_le_mul_of_nonneg_right (show (j : Int) + 1 ≤ (i : Int) by omega) (show 0 ≤ s by omega)
    rw [Int.add_mul, Int.one_mul] at this
    omega
theorem quo_bd {d s : Int} (hs : 1 ≤ s) (h1 : -100000 ≤ d) (h2 : d ≤ 100000) : -100000 ≤ d.tdiv s ∧ d.tdiv s ≤ 100000 := by
  have := Int.natAbs_tdiv_le_natAbs d s
  omega
end Go.Proofs.Ytnpamcpoaklgeaa
namespace Go.Proofs.Ytnpamcpoaklgeaa
open Go Go.RowKit
set_option maxRecDepth 100000
def has (l : List Int) (v : Int) : Bool := l.any fun x => decide (x = v)
theorem has_iff {l : List Int} {v : Int} : has l v = true ↔ v ∈ l := by simp [has]
theorem has_cons {x v : Int} {l : List Int} : has (x :: l) v = (decide (x = v) || has l v) := rfl
theorem has_nil {v : Int} : has [] v = false := rfl
set_option maxHeartbeats 2000000 in
theorem Index_pc (Y : YEnv) (σ : Sg) (l : List Int) (v : Int) (o : Own) (hl : l.length < 2 ^ 62) :
    PC Try.prog Y 120 [intsO o l, I v] σ (I (fIdx (fun x => decide (v = x)) 0 l)) (σ) := by
  refine PC_of_W Try.func120 rfl (by kernel_rfl) Try.ntmps120 (by simp) fun hcl hca => ?_
  obtain ⟨res, hres⟩ : ∃ r, fIdx (fun x => decide (v = x)) 0 l = r := ⟨_, rfl⟩
  rw [hres]
  refine W_seq fun kz1 kq1 => ?_
  refine W_region [0, 1] fun R hR => ?_   -- r0
  simp only [go_sem]
  refine hR _ _ (kq1 _ _ ?_); clear hR R; try clear kq1 kz1
  try simp only [go_sem]
  refine W_seq fun kz2 kq2 => ?_
  refine W_seq fun kz3 kq3 => ?_
  refine W_region [0, 1, 7, 8] fun R hR => ?_   -- r1
  simp only [go_sem]
  refine hR _ _ (kq3 _ _ ?_); clear hR R; try clear kq3 kz3
  try simp only [go_sem]
  refine W_block ?_
  refine W_loopS (α := Nat) (fun (i : Nat) => [(8, I i)]) (fun (i : Nat) => i ≤ l.length ∧ res = fIdx (fun x => decide (v = x)) i (l.drop i)) (fun (i : Nat) => l.length - i) (0) rfl (⟨Nat.zero_le _, hres.symm⟩) ?_
  rintro i ⟨hi, hinv⟩
  refine W_seq fun kz4 kq4 => ?_
  refine W_region [0, 1, 7, 8, 9] fun R hR => ?_   -- r2
  simp only [go_sem]
  refine hR _ _ (kq4 _ _ ?_); clear hR R; try clear kq4 kz4
  try simp only [go_sem]
  refine W_seq fun kz5 kq5 => ?_
  refine W_cond rfl (fun c1 => ?_) (fun c1 => ?_)
  · -- c1 true
    try simp only [nrm] at c1
    have hi' : i < l.length := by first | assumption | omega
    obtain ⟨x, hx⟩ : ∃ x, l[i]? = some x := ⟨l[i], by simp [hi']⟩
    have hdrop : l.drop i = x :: l.drop (i + 1) := by
      rw [List.drop_eq_getElem_cons hi']; congr 1; exact (List.getElem?_eq_some_iff.1 hx).2
    rw [hdrop] at hinv
    simp only [fIdx] at hinv
    refine W_skip (kq5 _ _ ?_)
    refine W_seq fun kz6 kq6 => ?_
    refine W_block ?_
    refine W_seq fun kz7 kq7 => ?_
    refine W_region [0, 1, 5, 7, 8] fun R hR => ?_   -- r3
    simp only [go_sem, hx]
    refine hR _ _ (kq7 _ _ ?_); clear hR R; try clear kq7 kz7
    try simp only [go_sem, hx]
    refine W_seq fun kz8 kq8 => ?_
    refine W_region [0, 1, 5, 7, 8, 16] fun R hR => ?_   -- r4
    simp only [go_sem, hx]
    refine hR _ _ (kq8 _ _ ?_); clear hR R; try clear kq8 kz8
    try simp only [go_sem, hx]
    refine W_cond rfl (fun c2 => ?_) (fun c2 => ?_)
    · -- c2 true
      try simp only [nrm] at c2
      refine W_seq fun kz9 kq9 => ?_
      refine W_region [4] fun R hR => ?_   -- r5
      simp only [go_sem, hx]
      refine hR _ _ (kq9 _ _ ?_); clear hR R; try clear kq9 kz9
      try simp only [go_sem, hx]
      refine W_ret ?_
      simp only [go_sem, hx]
      refine ⟨.inr (by trivial), ?_⟩
      first | refine Fin_same hcl rfl (Wk_eq ?_ (by simp only [go_sem])) | refine Fin_self hcl rfl (Wk_eq ?_ (by simp only [go_sem]))
      try simp only [go_sem]
      all_goals
        first | rfl | (simp_all; done) | (simp_all; omega)
    · -- c2 false
      try simp only [nrm] at c2
      refine W_skip (kq6 _ _ ?_)
      refine W_region [0, 1, 7, 8] fun R hR => ?_   -- r6
      simp only [go_sem, hx]
      try simp (disch := omega) only [wrapI, wrapU]
      refine hR _ _ ?_; clear hR R
      try simp only [go_sem, hx]
      refine ⟨i + 1, ?_, by (try simp only []); omega, ?_⟩
      · first | exact Weak.refl | exact Weak.eq (by first | rfl | (simp only [go_sem]; done) | (simp only [go_sem]; rfl) | (simp [go_sem]; done) | (simp [go_sem]; omega)) (by first | rfl | (simp only [go_sem]; done) | (simp [go_sem]; done))
      · try dsimp only
        exact ⟨hi', by simp_all⟩
  · -- c1 false
    try simp only [nrm] at c1
    have hdrop : l.drop i = [] := List.drop_eq_nil_of_le (by omega)
    rw [hdrop] at hinv
    simp only [fIdx] at hinv
    refine W_exit ?_
    simp only [go_sem]
    refine kq2 _ _ ?_
    refine W_seq fun kz10 kq10 => ?_
    refine W_region [4] fun R hR => ?_   -- r7
    simp only [go_sem]
    refine hR _ _ (kq10 _ _ ?_); clear hR R; try clear kq10 kz10
    try simp only [go_sem]
    refine W_ret ?_
    simp only [go_sem]
    refine ⟨.inr (by trivial), ?_⟩
    first | refine Fin_same hcl rfl (Wk_eq ?_ (by simp only [go_sem])) | refine Fin_self hcl rfl (Wk_eq ?_ (by simp only [go_sem]))
    try simp only [go_sem]
    all_goals
      first | rfl | (simp_all; done) | (simp_all; omega)
set_option maxHeartbeats 2000000 in
theorem rhas_pc (Y : YEnv) (σ : Sg) (l : List Int) (v : Int) (o : Own) (hl : l.length < 2 ^ 62) :
    PC Try.prog Y 87 [intsO o l, I v] σ (.bool (has l v)) (σ) := by
  refine PC_of_W Try.func87 rfl (by kernel_rfl) Try.ntmps87 (by simp) fun hcl hca => ?_
  obtain ⟨res, hres⟩ : ∃ r, has l v = r := ⟨_, rfl⟩
  rw [hres]
  refine W_seq fun kz1 kq1 => ?_
  refine W_region [0, 1] fun R hR => ?_   -- r0
  simp only [go_sem]
  refine hR _ _ (kq1 _ _ ?_); clear hR R; try clear kq1 kz1
  try simp only [go_sem]
  refine W_seq fun kz2 kq2 => ?_
  refine W_seq fun kz3 kq3 => ?_
  refine W_region [0, 1, 5] fun R hR => ?_   -- r1
  simp only [go_sem]
  refine hR _ _ (kq3 _ _ ?_); clear hR R; try clear kq3 kz3
  try simp only [go_sem]
  refine W_block ?_
  refine W_loopS (α := Nat) (fun (i : Nat) => [(5, I i)]) (fun (i : Nat) => i ≤ l.length ∧ res = has (l.drop i) v) (fun (i : Nat) => l.length - i) (0) rfl (⟨Nat.zero_le _, hres.symm⟩) ?_
  rintro i ⟨hi, hinv⟩
  refine W_seq fun kz4 kq4 => ?_
  refine W_seq fun kz5 kq5 => ?_
  refine W_region [0, 1, 5, 9] fun R hR => ?_   -- r2
  simp only [go_sem]
  refine hR _ _ (kq5 _ _ ?_); clear hR R; try clear kq5 kz5
  try simp only [go_sem]
  refine W_cond rfl (fun c1 => ?_) (fun c1 => ?_)
  · -- c1 true
    try simp only [nrm] at c1
    have hi' : i < l.length := by first | assumption | omega
    obtain ⟨x, hx⟩ : ∃ x, l[i]? = some x := ⟨l[i], by simp [hi']⟩
    have hdrop : l.drop i = x :: l.drop (i + 1) := by
      rw [List.drop_eq_getElem_cons hi']; congr 1; exact (List.getElem?_eq_some_iff.1 hx).2
    rw [hdrop, has_cons] at hinv
    refine W_skip (kq4 _ _ ?_)
    refine W_seq fun kz6 kq6 => ?_
    refine W_block ?_
    refine W_seq fun kz7 kq7 => ?_
    refine W_region [0, 1, 5, 17] fun R hR => ?_   -- r4
    simp only [go_sem, hx]
    refine hR _ _ (kq7 _ _ ?_); clear hR R; try clear kq7 kz7
    try simp only [go_sem, hx]
    refine W_cond rfl (fun c2 => ?_) (fun c2 => ?_)
    · -- c2 true
      try simp only [nrm] at c2
      refine W_seq fun kz8 kq8 => ?_
      refine W_region [4] fun R hR => ?_   -- r5
      simp only [go_sem, hx]
      refine hR _ _ (kq8 _ _ ?_); clear hR R; try clear kq8 kz8
      try simp only [go_sem, hx]
      refine W_ret ?_
      simp only [go_sem, hx]
      refine ⟨.inr (by trivial), ?_⟩
      first | refine Fin_same hcl rfl (Wk_eq ?_ (by simp only [go_sem])) | refine Fin_self hcl rfl (Wk_eq ?_ (by simp only [go_sem]))
      try simp only [go_sem]
      all_goals
        first | rfl | (simp_all; done) | (simp_all; omega)
    · -- c2 false
      try simp only [nrm] at c2
      refine W_skip (kq6 _ _ ?_)
      refine W_region [0, 1, 5] fun R hR => ?_   -- r3
      simp only [go_sem, hx]
      try simp (disch := omega) only [wrapI, wrapU]
      refine hR _ _ ?_; clear hR R
      try simp only [go_sem, hx]
      refine ⟨i + 1, ?_, by (try simp only []); omega, ?_⟩
      · first | exact Weak.refl | exact Weak.eq (by first | rfl | (simp only [go_sem]; done) | (simp only [go_sem]; rfl) | (simp [go_sem]; done) | (simp [go_sem]; omega)) (by first | rfl | (simp only [go_sem]; done) | (simp [go_sem]; done))
      · try dsimp only
        exact ⟨hi', by simp_all⟩
  · -- c1 false
    try simp only [nrm] at c1
    have hdrop : l.drop i = [] := List.drop_eq_nil_of_le (by omega)
    rw [hdrop, has_nil] at hinv
    refine W_exit ?_
    simp only [go_sem]
    refine kq2 _ _ ?_
    refine W_seq fun kz9 kq9 => ?_
    refine W_region [4] fun R hR => ?_   -- r6
    simp only [go_sem]
    refine hR _ _ (kq9 _ _ ?_); clear hR R; try clear kq9 kz9
    try simp only [go_sem]
    refine W_ret ?_
    simp only [go_sem]
    refine ⟨.inr (by trivial), ?_⟩
    first | refine Fin_same hcl rfl (Wk_eq ?_ (by simp only [go_sem])) | refine Fin_self hcl rfl (Wk_eq ?_ (by simp only [go_sem]))
    try simp only [go_sem]
    all_goals
      first | rfl | (simp_all; done) | (simp_all; omega)
set_option maxHeartbeats 2000000 in
theorem Has_pc (Y : YEnv) (σ : Sg) (l : List Int) (v : Int) (o : Own) (hl : l.length < 2 ^ 62) :
    PC Try.prog Y 48 [intsO o l, I v] σ (.bool (has l v)) (σ) := by
  refine PC_of_W Try.func48 rfl (by kernel_rfl) Try.ntmps48 (by simp) fun hcl hca => ?_
  obtain ⟨res, hres⟩ : ∃ r, has l v = r := ⟨_, rfl⟩
  rw [hres]
  refine W_seq fun kz1 kq1 => ?_
  refine W_region [0, 1] fun R hR => ?_   -- r0
  simp only [go_sem]
  refine hR _ _ (kq1 _ _ ?_); clear hR R; try clear kq1 kz1
  try simp only [go_sem]
  refine W_seq fun kz2 kq2 => ?_
  refine W_seq fun kz3 kq3 => ?_
  refine W_region [0, 1, 5] fun R hR => ?_   -- r1
  simp only [go_sem]
  refine hR _ _ (kq3 _ _ ?_); clear hR R; try clear kq3 kz3
  try simp only [go_sem]
  refine W_block ?_
  refine W_loopS (α := Nat) (fun (i : Nat) => [(5, I i)]) (fun (i : Nat) => i ≤ l.length ∧ res = has (l.drop i) v) (fun (i : Nat) => l.length - i) (0) rfl (⟨Nat.zero_le _, hres.symm⟩) ?_
  rintro i ⟨hi, hinv⟩
  refine W_seq fun kz4 kq4 => ?_
  refine W_seq fun kz5 kq5 => ?_
  refine W_region [0, 1, 5, 9] fun R hR => ?_   -- r2
  simp only [go_sem]
  refine hR _ _ (kq5 _ _ ?_); clear hR R; try clear kq5 kz5
  try simp only [go_sem]
  refine W_cond rfl (fun c1 => ?_) (fun c1 => ?_)
  · -- c1 true
    try simp only [nrm] at c1
    have hi' : i < l.length := by first | assumption | omega
    obtain ⟨x, hx⟩ : ∃ x, l[i]? = some x := ⟨l[i], by simp [hi']⟩
    have hdrop : l.drop i = x :: l.drop (i + 1) := by
      rw [List.drop_eq_getElem_cons hi']; congr 1; exact (List.getElem?_eq_some_iff.1 hx).2
    rw [hdrop, has_cons] at hinv
    refine W_skip (kq4 _ _ ?_)
    refine W_seq fun kz6 kq6 => ?_
    refine W_block ?_
    refine W_seq fun kz7 kq7 => ?_
    refine W_region [0, 1, 5, 17] fun R hR => ?_   -- r4
    simp only [go_sem, hx]
    refine hR _ _ (kq7 _ _ ?_); clear hR R; try clear kq7 kz7
    try simp only [go_sem, hx]
    refine W_cond rfl (fun c2 => ?_) (fun c2 => ?_)
    · -- c2 true
      try simp only [nrm] at c2
      refine W_seq fun kz8 kq8 => ?_
      refine W_region [4] fun R hR => ?_   -- r5
      simp only [go_sem, hx]
      refine hR _ _ (kq8 _ _ ?_); clear hR R; try clear kq8 kz8
      try simp only [go_sem, hx]
      refine W_ret ?_
      simp only [go_sem, hx]
      refine ⟨.inr (by trivial), ?_⟩
      first | refine Fin_same hcl rfl (Wk_eq ?_ (by simp only [go_sem])) | refine Fin_self hcl rfl (Wk_eq ?_ (by simp only [go_sem]))
      try simp only [go_sem]
      all_goals
        first | rfl | (simp_all; done) | (simp_all; omega)
    · -- c2 false
      try simp only [nrm] at c2
      refine W_skip (kq6 _ _ ?_)
      refine W_region [0, 1, 5] fun R hR => ?_   -- r3
      simp only [go_sem, hx]
      try simp (disch := omega) only [wrapI, wrapU]
      refine hR _ _ ?_; clear hR R
      try simp only [go_sem, hx]
      refine ⟨i + 1, ?_, by (try simp only []); omega, ?_⟩
      · first | exact Weak.refl | exact Weak.eq (by first | rfl | (simp only [go_sem]; done) | (simp only [go_sem]; rfl) | (simp [go_sem]; done) | (simp [go_sem]; omega)) (by first | rfl | (simp only [go_sem]; done) | (simp [go_sem]; done))
      · try dsimp only
        exact ⟨hi', by simp_all⟩
  · -- c1 false
    try simp only [nrm] at c1
    have hdrop : l.drop i = [] := List.drop_eq_nil_of_le (by omega)
    rw [hdrop, has_nil] at hinv
    refine W_exit ?_
    simp only [go_sem]
    refine kq2 _ _ ?_
    refine W_seq fun kz9 kq9 => ?_
    refine W_region [4] fun R hR => ?_   -- r6
    simp only [go_sem]
    refine hR _ _ (kq9 _ _ ?_); clear hR R; try clear kq9 kz9
    try simp only [go_sem]
    refine W_ret ?_
    simp only [go_sem]
    refine ⟨.inr (by trivial), ?_⟩
    first | refine Fin_same hcl rfl (Wk_eq ?_ (by simp only [go_sem])) | refine Fin_self hcl rfl (Wk_eq ?_ (by simp only [go_sem]))
    try simp only [go_sem]
    all_goals
      first | rfl | (simp_all; done) | (simp_all; omega)
end Go.Proofs.Ytnpamcpoaklgeaa
namespace Go.Proofs.Ytnpamcpoaklgeaa
set_option maxRecDepth 100000
theorem mem_sortI {x : Int} {l : List Int} : x ∈ sortI l ↔ x ∈ l := (List.mergeSort_perm l _).mem_iff
theorem sorted_sortI (l : List Int) : (sortI l).Pairwise (· ≤ ·) := by
  have := List.pairwise_mergeSort (le := fun x y : Int => decide (x ≤ y)) (fun a b c h1 h2 => by simp only [decide_eq_true_eq] at *; omega) (fun a b => by simp only [Bool.or_eq_true, decide_eq_true_eq]; omega) l
  exact this.imp (fun h => by simpa using h)
theorem get_bang {l : List Int} {j : Nat} (h : j < l.length) : l.toArray[j]! = l[j] := by simp [h]
theorem mem_compact {x : Int} {l : List Int} : x ∈ Lib.compact l ↔ x ∈ l := by
  unfold Lib.compact Lib.compactUpTo
  simp only [List.mem_map, List.mem_filter, List.mem_range]
  constructor
  · rintro ⟨j, ⟨hj, _⟩, rfl⟩
    rw [get_bang hj]
    exact List.getElem_mem hj
  · intro h
    obtain ⟨n, hn⟩ := List.mem_iff_getElem?.1 h
    induction n using Nat.strongRecOn with
    | _ n ih =>
      have hlt := (List.getElem?_eq_some_iff.1 hn).1
      have hx := (List.getElem?_eq_some_iff.1 hn).2
      by_cases hk : Lib.keeps l.toArray n = true
      · exact ⟨n, ⟨hlt, hk⟩, by rw [get_bang hlt]; exact hx⟩
      · simp only [Lib.keeps, decide_eq_true_eq, not_or, Decidable.not_not] at hk
        obtain ⟨h0, h1⟩ := hk
        have hlt' : n - 1 < l.length := by omega
        rw [get_bang hlt, get_bang hlt', hx] at h1
        exact ih (n - 1) (by omega) (by rw [List.getElem?_eq_getElem hlt']; congr 1; exact h1.symm)
theorem asc_compact {l : List Int} (hs : l.Pairwise (· ≤ ·)) : (Lib.compact l).Pairwise (· < ·) := by
  unfold Lib.compact Lib.compactUpTo
  rw [List.pairwise_map]
  have hr : ((List.range l.length).filter (Lib.keeps l.toArray)).Pairwise (fun a b => a < b ∧ b < l.length ∧ Lib.keeps l.toArray b = true) := by
    rw [List.pairwise_filter]
    have := @List.pairwise_lt_range l.length
    refine List.Pairwise.imp_of_mem (fun {a b} ha hb hab h1 h2 => ⟨hab, List.mem_range.1 hb, h2⟩) this
  refine hr.imp fun {a b} ⟨h1, h2, h3⟩ => ?_
  have ha : a < l.length := by omega
  rw [get_bang ha, get_bang h2]
  simp only [Lib.keeps, decide_eq_true_eq] at h3
  have hle : ∀ i j (hi : i < l.length) (hj : j < l.length), i ≤ j → l[i] ≤ l[j] := fun i j hi hj hij => by
    by_cases e : i = j
    · subst e; exact Int.le_refl _
    · exact List.pairwise_iff_getElem.1 hs i j hi hj (by omega)
  rcases h3 with h3 | h3
  · omega
  · have hb' : b - 1 < l.length := by omega
    rw [get_bang h2, get_bang hb'] at h3
    have g1 := hle a (b - 1) ha hb' (by omega)
    have g2 := hle (b - 1) b hb' h2 (by omega)
    omega
/-- The band, begun at s, is in the square sq in the minute t. -/
def isAt (c : City) (b : Band) (s t sq : Int) : Prop := ∃ k : Nat, (sqs c b).1[k]? = some sq ∧ s + (k : Int) * b.stay ≤ t ∧ t ≤ s + (k : Int) * b.stay + b.stay - 1
theorem vIdx_none {q : Vis → Bool} : ∀ {l : List Vis} {i : Nat}, vIdx q i l < 0 → ∀ v, v ∈ l → q v = false := by
  intro l
  induction l with
  | nil => intro i _ v hv; cases hv
  | cons x l ih =>
    intro i h v hv
    simp only [vIdx] at h
    by_cases hx : q x = true
    · rw [if_pos hx] at h; omega
    · rw [if_neg hx] at h
      rcases List.mem_cons.1 hv with rfl | hv
      · simpa using hx
      · exact ih h v hv
theorem whAt_neg {c : City} {b : Band} {t s : Int} (h : whAt c b t s < 0) : ¬ ∃ sq, isAt c b s t sq := by
  rintro ⟨sq, k, h1, h2, h3⟩
  have hv := (visOf_get c b s k ⟨s + (k : Int) * b.stay, s + (k : Int) * b.stay + b.stay - 1, sq⟩).2 ⟨sq, h1, rfl⟩
  have := vIdx_none h _ (List.mem_of_getElem? hv)
  simp only [inR] at this
  simp at this
  omega
theorem whAt_pos {c : City} {b : Band} {t s : Int} (hs : 1 ≤ b.stay) (h : ¬ whAt c b t s < 0) : ∃ v, (visOf c b s)[(whAt c b t s).toNat]? = some v ∧ ∀ sq, isAt c b s t sq ↔ sq = v.sq := by
  obtain ⟨v, h1, _, h2⟩ := whAt_get h
  refine ⟨v, h1, fun sq => ?_⟩
  obtain ⟨x, hx, rfl⟩ := (visOf_get c b s _ v).1 h1
  simp only [inR_true] at h2
  constructor
  · rintro ⟨k, g1, g2, g3⟩
    have e := idx_uniq (d := t - s) (i := k) (j := (whAt c b t s).toNat) hs (by omega) (by omega) (by omega) (by omega)
    rw [← e] at hx
    rw [hx] at g1
    injection g1 with g1
    exact g1.symm
  · rintro rfl
    exact ⟨_, hx, h2.1, h2.2⟩
theorem whAll_mem {c : City} {b : Band} {t : Int} (hs : 1 ≤ b.stay) (hb : b.lo ≤ b.hi + 1) (sq : Int) : sq ∈ (whAll c b t).1 ↔ ∃ s, b.lo ≤ s ∧ s ≤ b.hi ∧ isAt c b s t sq := by
  have h := upTo_ind (f := whStep c b t) (lo := b.lo) (fun i p => sq ∈ p.1 ↔ ∃ s, b.lo ≤ s ∧ s < i ∧ isAt c b s t sq) (a := ([], false)) ⟨fun h => (by cases h), fun ⟨s, h1, h2, _⟩ => (by omega)⟩ (fun i p hi hp => by
    have split : (∃ s, b.lo ≤ s ∧ s < i + 1 ∧ isAt c b s t sq) ↔ (∃ s, b.lo ≤ s ∧ s < i ∧ isAt c b s t sq) ∨ isAt c b i t sq := by
      constructor
      · rintro ⟨s, h1, h2, h3⟩
        by_cases e : s = i
        · subst e; exact .inr h3
        · exact .inl ⟨s, h1, by omega, h3⟩
      · rintro (⟨s, h1, h2, h3⟩ | h)
        · exact ⟨s, h1, by omega, h3⟩
        · exact ⟨i, hi, by omega, h⟩
    rw [split, ← hp]
    unfold whStep
    by_cases hw : whAt c b t i < 0
    · rw [if_pos hw]
      exact ⟨.inl, fun h => h.resolve_right fun q => whAt_neg hw ⟨_, q⟩⟩
    · rw [if_neg hw]
      obtain ⟨v, h1, h2⟩ := whAt_pos hs hw
      rw [h1, h2]
      simp) (s := b.hi + 1) hb
  unfold whAll
  rw [h]
  exact ⟨fun ⟨s, h1, h2, h3⟩ => ⟨s, h1, by omega, h3⟩, fun ⟨s, h1, h2, h3⟩ => ⟨s, h1, by omega, h3⟩⟩
theorem where_ok {c : City} {b : Band} {t : Int} (hc : chkCity c = 0) (hb : chkBand c b = 0) (h0 : 0 ≤ t) (h1 : t < 720) : whereAns c b t = ((Lib.compact (sortI (whAll c b t).1), (whAll c b t).2), 0) := by
  unfold whereAns
  have : inR t 0 719 = true := by rw [inR_true]; omega
  rw [if_neg (by rw [askedOf_of hc (fun x hx => by simp at hx; subst hx; exact hb)]; simp), if_neg (by simp [this])]
end Go.Proofs.Ytnpamcpoaklgeaa
namespace Go.Proofs.Ytnpamcpoaklgeaa
open Go Go.RowKit
set_option maxRecDepth 100000
end Go.Proofs.Ytnpamcpoaklgeaa
namespace Go.Proofs.Ytnpamcpoaklgeaa
open Go Go.RowKit
set_option maxRecDepth 100000
end Go.Proofs.Ytnpamcpoaklgeaa
namespace Go.Proofs.Ytnpamcpoaklgeaa
open Go Go.RowKit
set_option maxRecDepth 100000
theorem eqboolT {a : Bool} : eqPV Try.prog 4 (.bool a) (.bool a) = some true := by cases a <;> kernel_rfl
attribute [go_sem] eqboolT
/-- One true start, by division. -/
theorem whStep_eq {c : City} {b : Band} {t s : Int} (hs : 1 ≤ b.stay) (p : List Int × Bool) :
    (t < s → whStep c b t s p = (p.1, true)) ∧ (∀ k : Nat, s ≤ t → (t - s).tdiv b.stay = k → (sqs c b).1.length ≤ k → whStep c b t s p = (p.1, true)) ∧
    (∀ (k : Nat) (q : Int), s ≤ t → (t - s).tdiv b.stay = k → (sqs c b).1[k]? = some q → whStep c b t s p = (p.1 ++ [q], p.2) ∧ isAt c b s t q) := by
  have none : ¬ (∃ q, isAt c b s t q) → whStep c b t s p = (p.1, true) := fun h => by
    unfold whStep
    by_cases e : whAt c b t s < 0
    · rw [if_pos e]
    · obtain ⟨v, h1, h2⟩ := whAt_pos hs e
      exact absurd ⟨v.sq, (h2 v.sq).2 rfl⟩ h
  refine ⟨fun h => none ?_, fun k h hk hl => none ?_, fun k q h hk hq => ?_⟩
  · rintro ⟨q, j, h1, h2, h3⟩
    have : 0 ≤ (j : Int) * b.stay := Int.mul_nonneg (by omega) (by omega)
    omega
  · rintro ⟨q, j, h1, h2, h3⟩
    obtain ⟨i, hi1, hi2, hi3⟩ := div_idx hs (show 0 ≤ t - s by omega)
    have hjl := (List.getElem?_eq_some_iff.1 h1).1
    have := idx_uniq (d := t - s) (i := j) (j := i) hs (by omega) (by omega) (by omega) (by omega)
    omega
  · obtain ⟨i, hi1, hi2, hi3⟩ := div_idx hs (show 0 ≤ t - s by omega)
    have e : i = k := by omega
    subst e
    have hat : isAt c b s t q := ⟨i, hq, by omega, by omega⟩
    refine ⟨?_, hat⟩
    unfold whStep
    by_cases e : whAt c b t s < 0
    · exact absurd ⟨q, hat⟩ (whAt_neg e)
    · obtain ⟨v, h1, h2⟩ := whAt_pos hs e
      rw [if_neg e, h1, (h2 q).1 hat]
set_option maxHeartbeats 8000000 in
theorem BandTrue_pc (Y : YEnv) (σ : Sg) (nums : List Int) (hn : nums.length < 2 ^ 60) :
    PC Try.prog Y 14 [ints nums] σ (.bool true) (σ) := by
  refine PC_of_W Try.func14 rfl (by kernel_rfl) Try.ntmps14 (by simp) fun hcl hca => ?_
  obtain ⟨b0, hb0⟩ : ∃ z, drumB nums 2685821657736338717 = z := ⟨_, rfl⟩
  obtain ⟨made, hmade⟩ : ∃ zz, (cityD b0).1 = zz := ⟨_, rfl⟩
  obtain ⟨b1, hb1⟩ : ∃ zz, (cityD b0).2 = zz := ⟨_, rfl⟩
  obtain ⟨x, hx⟩ : ∃ zz, (bandD made b1).1 = zz := ⟨_, rfl⟩
  obtain ⟨b2, hb2⟩ : ∃ zz, (bandD made b1).2 = zz := ⟨_, rfl⟩
  obtain ⟨r80, hr80⟩ : ∃ zz, (roll 80 b2).1 = zz := ⟨_, rfl⟩
  obtain ⟨b3, hb3⟩ : ∃ zz, (roll 80 b2).2 = zz := ⟨_, rfl⟩
  obtain ⟨r7, hr7⟩ : ∃ zz, (roll 720 b3).1 = zz := ⟨_, rfl⟩
  obtain ⟨b4, hb4⟩ : ∃ zz, (roll 720 b3).2 = zz := ⟨_, rfl⟩
  obtain ⟨t, ht⟩ : ∃ zz, (anyOf [min 719 (max 0 (x.lo - 3 + r80)), r7] b4).1 = zz := ⟨_, rfl⟩
  obtain ⟨b5, hb5⟩ : ∃ zz, (anyOf [min 719 (max 0 (x.lo - 3 + r80)), r7] b4).2 = zz := ⟨_, rfl⟩
  have vmade : CityV made := by rw [← hmade]; exact cityD_ok b0
  have vx : BandV made x := by rw [← hx]; exact bandD_ok vmade b1
  have vck := vmade.chk
  have vcx := vx.chk vmade
  have hxs := vx.seq
  have hxp := vx.p1
  have htm := timesOf_ok (chkBand_ok vcx).2
  have d80 := roll_bd 80 b2
  have d7 := roll_bd 720 b3
  rw [hr80] at d80
  rw [hr7] at d7
  have dt := anyOf_mem [min 719 (max 0 (x.lo - 3 + r80)), r7] (by simp) b4
  rw [ht] at dt
  have ht0 : 0 ≤ t ∧ t < 720 := by
    rcases mem2 dt with h | h <;> omega
  have hwo := where_ok vck vcx ht0.1 ht0.2
  have lq := sqs_ok (chkBand_ok vcx).1
  have sx0 : (x.stay = 0) = False := eq_false (by omega)
  obtain ⟨way, hway⟩ : ∃ z, (sqs made x).1 = z := ⟨_, rfl⟩
  obtain ⟨l, hl⟩ : ∃ z, (whereAns made x t).1.1 = z := ⟨_, rfl⟩
  obtain ⟨aw, haw⟩ : ∃ z, (whereAns made x t).1.2 = z := ⟨_, rfl⟩
  have hW : whereAns made x t = ((l, aw), 0) := by rw [← hl, ← haw, hwo]
  have hlc : l = Lib.compact (sortI (whAll made x t).1) := by rw [← hl, hwo]
  have hac : aw = (whAll made x t).2 := by rw [← haw, hwo]
  have hlm : ∀ q, q ∈ l ↔ q ∈ (whAll made x t).1 := fun q => by rw [hlc, mem_compact, mem_sortI]
  have hla : l.Pairwise (· < ·) := by rw [hlc]; exact asc_compact (sorted_sortI _)
  have hwl : l.length ≤ 720 := by
    rw [hlc]
    have h1 := compact_len (sortI (whAll made x t).1)
    have h2 := sortI_len (whAll made x t).1
    have h3 := foldUp_len made x t x.lo (x.hi + 1 - x.lo).toNat ([], false)
    unfold whAll upTo at *
    simp only at h1 h2 h3 ⊢
    simp at h3
    omega
  rw [hway] at lq
  have hlw : ((way.length : Int) != IntKind.i64.wrap ((x.path.length : Int) + 1)) = false := by rw [lq, wrapI (by omega) (by omega)]; simp
  refine W_seq fun kz1 kq1 => ?_
  refine W_region [0] fun R hR => ?_   -- r0
  simp only [go_sem, hb0, sx0, hmade, hb1, hx, hb2, hr80, hb3, hr7, hb4, ht, hb5]
  refine hR _ _ (kq1 _ _ ?_); clear hR R; try clear kq1 kz1
  try simp only [go_sem, hb0, sx0, hmade, hb1, hx, hb2, hr80, hb3, hr7, hb4, ht, hb5]
  refine W_seq fun kz2 kq2 => ?_
  refine W_region [3] fun R hR => ?_   -- r1
  simp only [go_sem, hb0, sx0, hmade, hb1, hx, hb2, hr80, hb3, hr7, hb4, ht, hb5]
  refine GCall_of (DrumOf_pc Y _ nums hn) ?_   -- t18
  simp only [go_sem, hb0, sx0, hmade, hb1, hx, hb2, hr80, hb3, hr7, hb4, ht, hb5]
  refine hR _ _ (kq2 _ _ ?_); clear hR R; try clear kq2 kz2
  try simp only [go_sem, hb0, sx0, hmade, hb1, hx, hb2, hr80, hb3, hr7, hb4, ht, hb5]
  refine W_seq fun kz3 kq3 => ?_
  refine W_region [3, 4] fun R hR => ?_   -- r2
  simp only [go_sem, hb0, sx0, hmade, hb1, hx, hb2, hr80, hb3, hr7, hb4, ht, hb5]
  refine GCall_of (CityOf_pc Y _ _ _ (Sg.get_ext0 _ _ _ _)) ?_   -- t20
  simp only [go_sem, hb0, sx0, hmade, hb1, hx, hb2, hr80, hb3, hr7, hb4, ht, hb5]
  refine hR _ _ (kq3 _ _ ?_); clear hR R; try clear kq3 kz3
  try simp only [go_sem, hb0, sx0, hmade, hb1, hx, hb2, hr80, hb3, hr7, hb4, ht, hb5]
  refine W_seq fun kz4 kq4 => ?_
  refine W_region [3, 4, 5] fun R hR => ?_   -- r3
  simp only [go_sem, hb0, sx0, hmade, hb1, hx, hb2, hr80, hb3, hr7, hb4, ht, hb5]
  refine GCall_of (BandOf_pc Y _ _ _ (Sg.get_ext0 _ _ _ _) made vmade.small.hr vmade.small.hs) ?_   -- t23
  simp only [go_sem, hb0, sx0, hmade, hb1, hx, hb2, hr80, hb3, hr7, hb4, ht, hb5]
  refine hR _ _ (kq4 _ _ ?_); clear hR R; try clear kq4 kz4
  try simp only [go_sem, hb0, sx0, hmade, hb1, hx, hb2, hr80, hb3, hr7, hb4, ht, hb5]
  refine W_seq fun kz5 kq5 => ?_
  refine W_draw [4, 5, 6] [0, 1, 2, 3, 4, 5, 6, 7, 8, 9, 10, 11, 12, 13, 14] [(0, 11), (0, 13), (1, 11), (1, 13), (2, 11), (2, 13), (3, 11), (3, 13), (4, 11), (4, 13), (7, 13), (8, 13), (9, 13), (10, 6)] [[], [], [1], [1, 2], [1, 2, 3], [], [5], [1, 2, 3, 4, 5, 6], [1, 2, 3, 4, 5, 6, 7], [1, 2, 3, 4, 5, 6, 7, 8], [], [5, 6, 10], [1, 2, 3, 4, 5, 6, 7, 8, 9, 10, 11], [0, 1, 2, 3, 4, 5, 6, 7, 8, 9, 10, 11, 12], [0, 1, 2, 3, 4, 5, 6, 7, 8, 9, 10, 11, 12, 13]] mixed (by kernel_rfl) fun R hR => ?_   -- r4
  simp only [go_sem, hb0, sx0, hmade, hb1, hx, hb2, hr80, hb3, hr7, hb4, ht, hb5]
  try simp (disch := omega) only [wrapI, wrapU]
  refine GCall_of (Roll_pc Y _ _ _ (Sg.get_ext0 _ _ _ _) 80 (by omega)) ?_   -- t30
  simp only [go_sem, hb0, sx0, hmade, hb1, hx, hb2, hr80, hb3, hr7, hb4, ht, hb5]
  try simp (disch := omega) only [wrapI, wrapU]
  refine GCall_of (Roll_pc Y _ _ _ (Sg.get_ext0 _ _ _ _) 720 (by omega)) ?_   -- t35
  simp only [go_sem, hb0, sx0, hmade, hb1, hx, hb2, hr80, hb3, hr7, hb4, ht, hb5]
  try simp (disch := omega) only [wrapI, wrapU]
  refine GCall_of (Any_pc Y _ _ _ (Sg.get_ext0 _ _ _ _) [min 719 (max 0 (x.lo - 3 + r80)), r7] (by simp) (by simp)) ?_   -- t37
  simp only [go_sem, hb0, sx0, hmade, hb1, hx, hb2, hr80, hb3, hr7, hb4, ht, hb5]
  try simp (disch := omega) only [wrapI, wrapU]
  try refine And.intro (by repeat' (first | refine And.intro ?_ ?_ | exact GOr_right (fun _ => by simp only [go_sem, hb0, sx0, hmade, hb1, hx, hb2, hr80, hb3, hr7, hb4, ht, hb5]))) ?_
  refine hR _ _ (kq5 _ _ ?_); clear hR R; try clear kq5 kz5
  try simp only [go_sem, hb0, sx0, hmade, hb1, hx, hb2, hr80, hb3, hr7, hb4, ht, hb5]
  refine W_seq fun kz6 kq6 => ?_
  refine W_region [4, 5, 6, 7, 8, 9] fun R hR => ?_   -- r5
  simp only [go_sem, hb0, sx0, hmade, hb1, hx, hb2, hr80, hb3, hr7, hb4, ht, hb5]
  refine GCall_of (PC.val (v' := .tuple [ints l, .bool aw, I 0]) (Where_pc Y _ made x t vmade.okc (by omega)) (by rw [hW])) ?_   -- t42
  simp only [go_sem, hb0, sx0, hmade, hb1, hx, hb2, hr80, hb3, hr7, hb4, ht, hb5]
  refine hR _ _ (kq6 _ _ ?_); clear hR R; try clear kq6 kz6
  try simp only [go_sem, hb0, sx0, hmade, hb1, hx, hb2, hr80, hb3, hr7, hb4, ht, hb5]
  refine W_seq fun kz7 kq7 => ?_
  refine W_region [5, 6, 7, 8, 9, 10, 11] fun R hR => ?_   -- r6
  simp only [go_sem, hb0, sx0, hmade, hb1, hx, hb2, hr80, hb3, hr7, hb4, ht, hb5]
  refine GCall_of (PC.val (v' := .tuple [ints way, I 0]) (bSquares_pc Y _ made x vmade.okc (by omega)) (by rw [squaresAns_of vck vcx, hway]; rfl)) ?_   -- t49
  simp only [go_sem, hb0, sx0, hmade, hb1, hx, hb2, hr80, hb3, hr7, hb4, ht, hb5]
  refine hR _ _ (kq7 _ _ ?_); clear hR R; try clear kq7 kz7
  try simp only [go_sem, hb0, sx0, hmade, hb1, hx, hb2, hr80, hb3, hr7, hb4, ht, hb5]
  refine W_seq fun kz8 kq8 => ?_
  refine W_seq fun kz9 kq9 => ?_
  refine W_region [5, 6, 7, 8, 10, 66] fun R hR => ?_   -- r7
  simp only [go_sem, hb0, sx0, hmade, hb1, hx, hb2, hr80, hb3, hr7, hb4, ht, hb5, hlw]
  try simp (disch := omega) only [wrapI, wrapU]
  refine hR _ _ (kq9 _ _ ?_); clear hR R; try clear kq9 kz9
  try simp only [go_sem, hb0, sx0, hmade, hb1, hx, hb2, hr80, hb3, hr7, hb4, ht, hb5]
  refine W_cond_false rfl ?_
  refine W_skip (kq8 _ _ ?_)
  refine W_seq fun kz10 kq10 => ?_
  refine W_region [5, 6, 7, 8, 10, 12] fun R hR => ?_   -- r9
  simp only [go_sem, hb0, sx0, hmade, hb1, hx, hb2, hr80, hb3, hr7, hb4, ht, hb5]
  refine hR _ _ (kq10 _ _ ?_); clear hR R; try clear kq10 kz10
  try simp only [go_sem, hb0, sx0, hmade, hb1, hx, hb2, hr80, hb3, hr7, hb4, ht, hb5]
  refine W_seq fun kz11 kq11 => ?_
  refine W_region [5, 6, 7, 8, 10, 12, 13] fun R hR => ?_   -- r10
  simp only [go_sem, hb0, sx0, hmade, hb1, hx, hb2, hr80, hb3, hr7, hb4, ht, hb5]
  refine hR _ _ (kq11 _ _ ?_); clear hR R; try clear kq11 kz11
  try simp only [go_sem, hb0, sx0, hmade, hb1, hx, hb2, hr80, hb3, hr7, hb4, ht, hb5]
  refine W_seq fun kz12 kq12 => ?_
  refine W_seq fun kz13 kq13 => ?_
  refine W_region [5, 6, 7, 8, 10, 12, 13, 14] fun R hR => ?_   -- r11
  simp only [go_sem, hb0, sx0, hmade, hb1, hx, hb2, hr80, hb3, hr7, hb4, ht, hb5]
  refine hR _ _ (kq13 _ _ ?_); clear hR R; try clear kq13 kz13
  try simp only [go_sem, hb0, sx0, hmade, hb1, hx, hb2, hr80, hb3, hr7, hb4, ht, hb5]
  refine W_block ?_
  refine W_weak (Weak.room (t := 12) (es := 1) rfl (by simp)) ?_
  refine W_weak (Weak.keep [5, 6, 7, 8, 10, 12, 13, 14]) ?_
  simp only [go_sem, hb0, sx0, hmade, hb1, hx, hb2, hr80, hb3, hr7, hb4, ht, hb5]
  refine W_loopT (α := Int × (List Int) × Bool) (fun ⟨s, met, gone⟩ => [(12, .isl (met.map I) (.tok σ.rooms.length met.length 1)), (13, .bool gone), (14, I s)]) (fun ⟨s, met, gone⟩ => σ.ext [some [.int .u64 b5], some (ctCells made), some (bdCells x)] [met.length]) (fun ⟨s, met, gone⟩ => x.lo ≤ s ∧ s ≤ x.hi + 1 ∧ (met.length : Int) ≤ s - x.lo ∧ (met, gone) = upTo (whStep made x t) x.lo s ([], false)) (fun ⟨s, met, gone⟩ => (x.hi + 1 - s).toNat) ((x.lo, [], false)) rfl (by first | rfl | (simp only [go_sem]; done) | (simp only [go_sem]; rfl)) (⟨Int.le_refl _, by omega, by simp, by rw [upTo_start]⟩) ?_
  rintro ⟨s, met, gone⟩ ⟨hs1, hs2, hml, hinv⟩
  refine W_seq fun kz14 kq14 => ?_
  refine W_seq fun kz15 kq15 => ?_
  refine W_region [5, 6, 7, 8, 10, 12, 13, 14, 74] fun R hR => ?_   -- r12
  simp only [go_sem, hb0, sx0, hmade, hb1, hx, hb2, hr80, hb3, hr7, hb4, ht, hb5]
  refine hR _ _ (kq15 _ _ ?_); clear hR R; try clear kq15 kz15
  try simp only [go_sem, hb0, sx0, hmade, hb1, hx, hb2, hr80, hb3, hr7, hb4, ht, hb5]
  refine W_cond rfl (fun c1 => ?_) (fun c1 => ?_)
  · -- c1 true
    try simp only [nrm] at c1
    have hsh : s ≤ x.hi := by omega
    obtain ⟨k0, hk0⟩ : ∃ z, (t - s).tdiv x.stay = z := ⟨_, rfl⟩
    have hkb := quo_bd (d := t - s) htm.2.2.2.2.1 (by omega) (by omega)
    rw [hk0] at hkb
    have hnx := upTo_step (whStep made x t) hs1 ([], false)
    rw [← hinv] at hnx
    obtain ⟨st1, st2, st3⟩ := whStep_eq (c := made) (b := x) (t := t) (s := s) htm.2.2.2.2.1 (met, gone)
    rw [hway] at st2 st3
    refine W_skip (kq14 _ _ ?_)
    refine W_seq fun kz16 kq16 => ?_
    refine W_block ?_
    refine W_seq fun kz17 kq17 => ?_
    refine W_region [5, 6, 7, 8, 10, 12, 13, 14, 15] fun R hR => ?_   -- r14
    simp only [go_sem, hb0, sx0, hmade, hb1, hx, hb2, hr80, hb3, hr7, hb4, ht, hb5, hk0]
    try simp (disch := omega) only [wrapI, wrapU]
    refine hR _ _ (kq17 _ _ ?_); clear hR R; try clear kq17 kz17
    try simp only [go_sem, hb0, sx0, hmade, hb1, hx, hb2, hr80, hb3, hr7, hb4, ht, hb5, hk0]
    refine W_seq fun kz18 kq18 => ?_
    refine W_seq fun kz19 kq19 => ?_
    refine W_regionJ [5, 6, 7, 8, 10, 12, 13, 14, 15, 91] [(91, .bool (decide (t < s) || decide ((way.length : Int) ≤ k0)))] ?_ fun R hR => ?_   -- r15
    · refine kq19 _ _ ?_
      simp only [go_sem, hb0, sx0, hmade, hb1, hx, hb2, hr80, hb3, hr7, hb4, ht, hb5, hk0]
      refine W_cond rfl (fun c2 => ?_) (fun c2 => ?_)
      · -- c2 true
        try simp only [nrm] at c2
        have hst : whStep made x t s (met, gone) = (met, true) := by
          by_cases e : t < s
          · exact st1 e
          · obtain ⟨i, hi1, hi2, hi3⟩ := div_idx htm.2.2.2.2.1 (show 0 ≤ t - s by omega)
            exact st2 i (by omega) hi1 (by simp at c2; omega)
        refine W_seq fun kz20 kq20 => ?_
        refine W_region [5, 6, 7, 8, 10, 12, 13, 14] fun R hR => ?_   -- r16
        simp only [go_sem, hb0, sx0, hmade, hb1, hx, hb2, hr80, hb3, hr7, hb4, ht, hb5, hk0]
        refine hR _ _ (kq20 _ _ ?_); clear hR R; try clear kq20 kz20
        try simp only [go_sem, hb0, sx0, hmade, hb1, hx, hb2, hr80, hb3, hr7, hb4, ht, hb5, hk0]
        refine W_exit ?_
        simp only [go_sem, hb0, sx0, hmade, hb1, hx, hb2, hr80, hb3, hr7, hb4, ht, hb5, hk0]
        refine kq16 _ _ ?_
        refine W_region [5, 6, 7, 8, 10, 12, 13, 14] fun R hR => ?_   -- r13
        simp only [go_sem, hb0, sx0, hmade, hb1, hx, hb2, hr80, hb3, hr7, hb4, ht, hb5, hk0]
        try simp (disch := omega) only [wrapI, wrapU]
        refine hR _ _ ?_; clear hR R
        try simp only [go_sem, hb0, sx0, hmade, hb1, hx, hb2, hr80, hb3, hr7, hb4, ht, hb5, hk0]
        refine ⟨(s + 1, met, true), ?_, by (try simp only []); omega, ?_⟩
        · refine Weak.trans (Weak.cutX 3 1 (by omega) (by omega) hcl (by simp only [go_sem] <;> omega) (by simp only [go_sem] <;> omega)) ?_
          simp only [go_sem]
          exact Weak.eq (by first | rfl | (simp only [go_sem]; done) | (simp only [go_sem]; rfl) | (simp [go_sem]; done) | (simp [go_sem]; omega)) (by first | rfl | (simp only [go_sem]; done) | (simp [go_sem]; done))
        · try dsimp only
          first
          | exact ⟨by omega, by omega, by (try simp); omega, by rw [hnx, hst]⟩
      · -- c2 false
        try simp only [nrm] at c2
        have hsle : s ≤ t := by simp at c2; omega
        obtain ⟨k, hk1, hk2, hk3⟩ := div_idx htm.2.2.2.2.1 (show 0 ≤ t - s by omega)
        rw [hk0] at hk1
        subst hk1
        have hkl : k < way.length := by simp at c2; omega
        obtain ⟨q, hq⟩ : ∃ q, way[k]? = some q := ⟨way[k], by simp [hkl]⟩
        obtain ⟨hst, hat⟩ := st3 k q hsle hk0 hq
        have hhas : has l q = true := by rw [has_iff, hlm, whAll_mem (by omega) (by omega)]; exact ⟨s, hs1, hsh, hat⟩
        refine W_skip (kq18 _ _ ?_)
        refine W_seq fun kz21 kq21 => ?_
        refine W_seq fun kz22 kq22 => ?_
        refine W_region [5, 6, 7, 8, 10, 12, 13, 14, 15, 98] fun R hR => ?_   -- r17
        simp only [go_sem, hb0, sx0, hmade, hb1, hx, hb2, hr80, hb3, hr7, hb4, ht, hb5, hk0, hq]
        refine GCall_of (PC.val (v' := .bool true) (Has_pc Y _ l q .ro (by omega)) (by rw [hhas])) ?_   -- t97
        simp only [go_sem, hb0, sx0, hmade, hb1, hx, hb2, hr80, hb3, hr7, hb4, ht, hb5, hk0, hq]
        refine hR _ _ (kq22 _ _ ?_); clear hR R; try clear kq22 kz22
        try simp only [go_sem, hb0, sx0, hmade, hb1, hx, hb2, hr80, hb3, hr7, hb4, ht, hb5, hk0, hq]
        refine W_cond_false rfl ?_
        refine W_skip (kq21 _ _ ?_)
        refine W_region [5, 6, 7, 8, 10, 12, 13, 14] fun R hR => ?_   -- r19
        simp only [go_sem, hb0, sx0, hmade, hb1, hx, hb2, hr80, hb3, hr7, hb4, ht, hb5, hk0, hq]
        try simp (disch := first | omega | (simp only [go_sem] <;> omega)) only [wrapI, wrapU, appX_exact, appX_tok]
        try simp only [go_sem, hb0, sx0, hmade, hb1, hx, hb2, hr80, hb3, hr7, hb4, ht, hb5, hk0, hq]
        refine hR _ _ (kq16 _ _ ?_); clear hR R; try clear kq16 kz16
        try simp only [go_sem, hb0, sx0, hmade, hb1, hx, hb2, hr80, hb3, hr7, hb4, ht, hb5, hk0, hq]
        refine W_region [5, 6, 7, 8, 10, 12, 13, 14] fun R hR => ?_   -- r13
        simp only [go_sem, hb0, sx0, hmade, hb1, hx, hb2, hr80, hb3, hr7, hb4, ht, hb5, hk0, hq]
        try simp (disch := omega) only [wrapI, wrapU]
        refine hR _ _ ?_; clear hR R
        try simp only [go_sem, hb0, sx0, hmade, hb1, hx, hb2, hr80, hb3, hr7, hb4, ht, hb5, hk0, hq]
        refine ⟨(s + 1, met ++ [q], gone), ?_, by (try simp only []); omega, ?_⟩
        · refine Weak.trans (Weak.cutX 3 1 (by omega) (by omega) hcl (by simp only [go_sem] <;> omega) (by simp only [go_sem] <;> omega)) ?_
          simp only [go_sem]
          exact Weak.eq (by first | rfl | (simp only [go_sem]; done) | (simp only [go_sem]; rfl) | (simp [go_sem]; done) | (simp [go_sem]; omega)) (by first | rfl | (simp only [go_sem]; done) | (simp [go_sem]; done))
        · try dsimp only
          first
          | exact ⟨by omega, by omega, by (try simp); omega, by rw [hnx, hst]⟩
    · simp only [go_sem, hb0, sx0, hmade, hb1, hx, hb2, hr80, hb3, hr7, hb4, ht, hb5, hk0]
      refine GWant_split (fun g1 => ?_) (fun g1 => ?_)
      · try simp only [Bool.not_eq_true', Bool.not_eq_false'] at g1
        have n1 := g1; try simp only [nrm] at n1
        simp only [go_sem, hb0, sx0, hmade, hb1, hx, hb2, hr80, hb3, hr7, hb4, ht, hb5, hk0, g1]
        refine hR _ ?_
        try simp only [go_sem, hb0, sx0, hmade, hb1, hx, hb2, hr80, hb3, hr7, hb4, ht, hb5, hk0]
        all_goals
          first | rfl | (simp [*]; done) | (simp [*]; omega)
      · try simp only [Bool.not_eq_true', Bool.not_eq_false'] at g1
        have n1 := g1; try simp only [nrm] at n1
        simp only [go_sem, hb0, sx0, hmade, hb1, hx, hb2, hr80, hb3, hr7, hb4, ht, hb5, hk0, g1]
        refine hR _ ?_
        try simp only [go_sem, hb0, sx0, hmade, hb1, hx, hb2, hr80, hb3, hr7, hb4, ht, hb5, hk0]
        all_goals
          first | rfl | (simp [*]; done) | (simp [*]; omega)
  · -- c1 false
    try simp only [nrm] at c1
    obtain rfl : s = x.hi + 1 := by omega
    have hfin : (met, gone) = whAll made x t := hinv
    have hmf : met = (whAll made x t).1 := by rw [← hfin]
    have hgf : gone = aw := by rw [hac, ← hfin]
    subst hgf
    refine W_exit ?_
    simp only [go_sem, hb0, sx0, hmade, hb1, hx, hb2, hr80, hb3, hr7, hb4, ht, hb5]
    refine kq12 _ _ ?_
    refine W_seq fun kz23 kq23 => ?_
    refine W_seq fun kz24 kq24 => ?_
    refine W_region [7, 8, 12, 13, 16] fun R hR => ?_   -- r20
    simp only [go_sem, hb0, sx0, hmade, hb1, hx, hb2, hr80, hb3, hr7, hb4, ht, hb5]
    refine hR _ _ (kq24 _ _ ?_); clear hR R; try clear kq24 kz24
    try simp only [go_sem, hb0, sx0, hmade, hb1, hx, hb2, hr80, hb3, hr7, hb4, ht, hb5]
    refine W_block ?_
    refine W_loopS (α := Nat) (fun (i : Nat) => [(16, I i)]) (fun (i : Nat) => i ≤ l.length) (fun (i : Nat) => l.length - i) (0) rfl (Nat.zero_le _) ?_
    rintro i hi
    refine W_seq fun kz25 kq25 => ?_
    refine W_seq fun kz26 kq26 => ?_
    refine W_region [7, 8, 12, 13, 16, 109] fun R hR => ?_   -- r21
    simp only [go_sem, hb0, sx0, hmade, hb1, hx, hb2, hr80, hb3, hr7, hb4, ht, hb5]
    refine hR _ _ (kq26 _ _ ?_); clear hR R; try clear kq26 kz26
    try simp only [go_sem, hb0, sx0, hmade, hb1, hx, hb2, hr80, hb3, hr7, hb4, ht, hb5]
    refine W_cond rfl (fun c3 => ?_) (fun c3 => ?_)
    · -- c3 true
      try simp only [nrm] at c3
      have hi' : i < l.length := by omega
      obtain ⟨y, hy⟩ : ∃ y, l[i]? = some y := ⟨l[i]'hi', by simp⟩
      have hmy : has met y = true := by rw [has_iff, hmf, ← hlm]; exact List.mem_of_getElem? hy
      obtain ⟨y0, hy0⟩ : ∃ z, l[((i : Int) - 1).toNat]? = some z := ⟨l[((i : Int) - 1).toNat]'(by omega), by simp⟩
      have hyp : IntKind.i64.wrap ((i : Int) - 1) = (i : Int) - 1 := wrapI (by omega) (by omega)
      have hyl : 0 < (i : Int) → ¬ y ≤ y0 := fun h0 => by
        have := List.pairwise_iff_getElem.1 hla ((i : Int) - 1).toNat i (by omega) (by omega) (by omega)
        have e1 : l[((i : Int) - 1).toNat]'(by omega) = y0 := by
          have := List.getElem?_eq_some_iff.1 hy0; exact this.2
        have e2 : l[i]'hi' = y := (List.getElem?_eq_some_iff.1 hy).2
        rw [e1, e2] at this
        omega
      refine W_skip (kq25 _ _ ?_)
      refine W_seq fun kz27 kq27 => ?_
      refine W_block ?_
      refine W_seq fun kz28 kq28 => ?_
      refine W_drawJ [7, 8, 12, 13, 16, 134] [(134, .bool false)] [0, 1, 2, 3, 4, 5, 6, 7, 8, 9, 10, 11, 12, 13, 14, 15, 16, 17, 18, 19, 20, 21, 22] [] [[], [], [], [1, 2], [1, 2, 3], [0, 1, 2, 3, 4], [0, 1, 2, 3, 4, 5], [0, 1, 2, 3, 4, 5, 6], [0, 1, 2, 3, 4, 5, 6, 7], [0, 1, 2, 3, 4, 5, 6, 7, 8], [0, 1, 2, 3, 4, 5, 6, 7, 8, 9], [0, 1, 2, 3, 4, 5, 6, 7, 8, 9, 10], [0, 1, 2, 3, 4, 5, 6, 7, 8, 9, 10], [0, 1, 2, 3, 4, 5, 6, 7, 8, 9, 10, 11, 12], [0, 1, 2, 3, 4, 5, 6, 7, 8, 9, 10, 11, 12, 13], [0, 1, 2, 3, 4, 5, 6, 7, 8, 9, 10], [0, 1, 2, 3, 4, 5, 6, 7, 8, 9, 10], [0, 1, 2, 3, 4, 5, 6, 7, 8, 9, 10, 16], [0, 1, 2, 3, 4, 5, 6, 7, 8, 9, 10, 15, 16, 17], [0, 1, 2, 3, 4, 5, 6, 7, 8, 9, 10, 15, 16, 17, 18], [0, 1, 2, 3, 4, 5, 6, 7, 8, 9, 10, 11, 12, 13, 14, 15, 16, 17, 18, 19], [0, 1, 2, 3, 4, 5, 6, 7, 8, 9, 10, 11, 12, 13, 14, 15, 16, 17, 18, 19, 20], [0, 1, 2, 3, 4, 5, 6, 7, 8, 9, 10, 11, 12, 13, 14, 15, 16, 17, 18, 19, 20, 21]] mixed (by kernel_rfl) ?_ fun R hR => ?_   -- r23
      · refine kq28 _ _ ?_
        simp only [go_sem, hb0, sx0, hmade, hb1, hx, hb2, hr80, hb3, hr7, hb4, ht, hb5, hy, hy0]
        refine W_cond_false rfl ?_
        refine W_skip (kq27 _ _ ?_)
        refine W_region [7, 8, 12, 13, 16] fun R hR => ?_   -- r22
        simp only [go_sem, hb0, sx0, hmade, hb1, hx, hb2, hr80, hb3, hr7, hb4, ht, hb5, hy, hy0]
        try simp (disch := omega) only [wrapI, wrapU]
        refine hR _ _ ?_; clear hR R
        try simp only [go_sem, hb0, sx0, hmade, hb1, hx, hb2, hr80, hb3, hr7, hb4, ht, hb5, hy, hy0]
        refine ⟨i + 1, ?_, by (try simp only []); omega, ?_⟩
        · refine Weak.trans (Weak.cutX 3 1 (by omega) (by omega) hcl (by simp only [go_sem] <;> omega) (by simp only [go_sem] <;> omega)) ?_
          simp only [go_sem]
          exact Weak.eq (by first | rfl | (simp only [go_sem]; done) | (simp only [go_sem]; rfl) | (simp [go_sem]; done) | (simp [go_sem]; omega)) (by first | rfl | (simp only [go_sem]; done) | (simp [go_sem]; done))
        · try dsimp only
          omega
      · simp only [go_sem, hb0, sx0, hmade, hb1, hx, hb2, hr80, hb3, hr7, hb4, ht, hb5, hy, hy0, hyp]
        refine GCall_of (PC.val (v' := .bool true) (Has_pc Y _ met y _ (by omega)) (by rw [hmy])) ?_   -- t117
        simp only [go_sem, hb0, sx0, hmade, hb1, hx, hb2, hr80, hb3, hr7, hb4, ht, hb5, hy, hy0, hyp]
        refine GWant_split (fun g2 => ?_) (fun g2 => ?_)
        · try simp only [Bool.not_eq_true', Bool.not_eq_false'] at g2
          have n2 := g2; try simp only [nrm] at n2
          have ii0 : 0 ≤ (i : Int) - 1 := by omega
          simp only [go_sem, hb0, sx0, hmade, hb1, hx, hb2, hr80, hb3, hr7, hb4, ht, hb5, hy, hy0, ii0, hyp, g2]
          try simp (disch := omega) only [wrapI, wrapU]
          try refine And.intro (by repeat' (first | refine And.intro ?_ ?_ | exact GOr_right (fun _ => by simp only [go_sem, hb0, sx0, hmade, hb1, hx, hb2, hr80, hb3, hr7, hb4, ht, hb5, hy, hy0, ii0, hyp]))) ?_
          refine hR _ ?_
          try simp only [go_sem, hb0, sx0, hmade, hb1, hx, hb2, hr80, hb3, hr7, hb4, ht, hb5, hy, hy0, ii0, hyp]
          all_goals
            first | rfl | (simp [*]; done) | (simp only [PV.bool.injEq, decide_eq_false_iff_not]; exact hyl (by omega)) | (simp [*]; omega)
        · try simp only [Bool.not_eq_true', Bool.not_eq_false'] at g2
          have n2 := g2; try simp only [nrm] at n2
          simp only [go_sem, hb0, sx0, hmade, hb1, hx, hb2, hr80, hb3, hr7, hb4, ht, hb5, hy, hy0, hyp, g2]
          try simp (disch := omega) only [wrapI, wrapU]
          try refine And.intro (by repeat' (first | refine And.intro ?_ ?_ | exact GOr_right (fun _ => by simp only [go_sem, hb0, sx0, hmade, hb1, hx, hb2, hr80, hb3, hr7, hb4, ht, hb5, hy, hy0, hyp]))) ?_
          refine hR _ ?_
          try simp only [go_sem, hb0, sx0, hmade, hb1, hx, hb2, hr80, hb3, hr7, hb4, ht, hb5, hy, hy0, hyp]
          all_goals
            first | rfl | (simp [*]; done) | (simp only [PV.bool.injEq, decide_eq_false_iff_not]; exact hyl (by omega)) | (simp [*]; omega)
    · -- c3 false
      try simp only [nrm] at c3
      refine W_exit ?_
      simp only [go_sem, hb0, sx0, hmade, hb1, hx, hb2, hr80, hb3, hr7, hb4, ht, hb5]
      refine kq23 _ _ ?_
      refine W_seq fun kz29 kq29 => ?_
      refine W_region [2] fun R hR => ?_   -- r25
      simp only [go_sem, hb0, sx0, hmade, hb1, hx, hb2, hr80, hb3, hr7, hb4, ht, hb5]
      refine GCall_of (lawake_pc Y _) ?_   -- t139
      simp only [go_sem, hb0, sx0, hmade, hb1, hx, hb2, hr80, hb3, hr7, hb4, ht, hb5]
      refine hR _ _ (kq29 _ _ ?_); clear hR R; try clear kq29 kz29
      try simp only [go_sem, hb0, sx0, hmade, hb1, hx, hb2, hr80, hb3, hr7, hb4, ht, hb5]
      refine W_ret ?_
      simp only [go_sem, hb0, sx0, hmade, hb1, hx, hb2, hr80, hb3, hr7, hb4, ht, hb5]
      refine ⟨.inr (by trivial), ?_⟩
      first | refine Fin_same hcl rfl (Wk_eq ?_ (by simp only [go_sem])) | refine Fin_self hcl rfl (Wk_eq ?_ (by simp only [go_sem]))
      try simp only [go_sem]
      all_goals
        first | rfl | (simp_all; done) | (simp_all; omega)
end Go.Proofs.Ytnpamcpoaklgeaa
namespace Go.Proofs.Ytnpamcpoaklgeaa
open Go Go.RowKit
theorem rdBandTrueArgs : All2 (fun t R => Rd Try.prog t R) Try.f14.params.toList [fun p => ∃ xs : List Int, p = ints xs ∧ xs.length * 8 ≤ 140737488351232] :=
  .cons rdInts .nil
set_option maxHeartbeats 4000000 in
theorem BandTrue_walk : ∀ qs, AllR [fun p => ∃ xs : List Int, p = ints xs ∧ xs.length * 8 ≤ 140737488351232] qs → ∃ σ', PC Try.prog noY 14 qs Sg.zero (.bool true) σ' := by
  intro qs hq
  obtain ⟨px0, qs, rfl, ⟨x0, hx0, sx0⟩, hq⟩ := allR_cons hq
  obtain rfl := allR_nil hq
  subst hx0
  exact ⟨_, BandTrue_pc noY _ x0 (by omega)⟩
theorem BandTrue_lifted (os : Os) (started : os.Started) (H : Type) (enc : TypeId × Value → H) :
    ReturnsInHanded {} Try.checked os 14 .any (Rows.bandTrueSpec.pre6 enc Try.prog Try.f14 Rows.bandTrueRow.domain false) (Rows.bandTrueSpec.post enc Try.prog Try.f14 false true false false) :=
  law_lifted (C := Try.checked) own started (by kernel_rfl) Try.func14 rfl laidOut (by kernel_rfl) rdBandTrueArgs rfl Try.underlying4
    (fun ds h => match ds, h with | [_], _ => rfl)
    (ChangeSpec.witness6 (enc := enc) (C := Try.checked) false ⟨#[], #[.slice none 0 0], []⟩ 8 (by kernel_rfl) (by kernel_rfl) (by kernel_rfl) (by kernel_rfl))
    BandTrue_walk
theorem BandTrue_holds : Rows.BandTrueSaid :=
  OpenClaim.holds_of_wide 14 Try.f14 rfl rfl rfl rfl rfl rfl rfl ⟨rfl, rfl, rfl, rfl, rfl⟩ rfl rfl rfl rfl rfl (by kernel_rfl) Try.func14 (by kernel_rfl)
    (of_decide_eq_true (by kernel_rfl)) (by unfold Func.isWrapper; first | (rw [if_pos (by decide +kernel)]; kernel_rfl) | (rw [if_neg (by decide +kernel)]; exact ⟨rfl, rfl⟩))
    (fun os started H enc _ => BandTrue_lifted os started H enc)
end Go.Proofs.Ytnpamcpoaklgeaa
