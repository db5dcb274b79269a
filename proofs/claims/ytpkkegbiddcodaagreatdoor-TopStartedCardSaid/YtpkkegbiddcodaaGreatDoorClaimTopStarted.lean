/-
  The law TopStarted: whatever comes in, it answers true and leaves what came in as it was.
  Closed facts of the law's row, each by itself.
  The law, walked: a parade that is started line by line.
  Walks: a script's replies (night); the desk is awake.
  Directors made of numbers are valid (plainly).
  Walks: directors made of numbers (bateriakit).
  Walks: cities and bands made of numbers (bateriakit).
-/
import Derived.Test.YtpkkegbiddcodaaGreatDoorPf
import Derived.CallsIn
import Derived.RangeFuncLeaves
import Derived.RangeFuncRecord
import Derived.OrdersIn
import Derived.Below
import Derived.Laws.World
import Derived.Laws.StructEq
import Derived.Laws.BytesString
import Derived.Laws.Append
import Derived.MapKept
import Derived.ProofKit
import Derived.Carry
import Derived.Handed
import Derived.ChangeCalls
import Derived.Stop.Joined
import Derived.Lib.LaidTab
import Derived.Shelf.Strconv.Itoa3
import Derived.RangeFuncIn
import Derived.RangeFuncNested
import Derived.Test.YtpkkegbiddcodaaGreatDoorProg
import Derived.KernelRfl
import Derived.IntWalk
import Derived.Sort.OwnSortedInts
import Derived.Lib.SlicesCompact
import Derived.Shelf.Strings.Builder1
import Derived.Shelf.Strings.SlTrimAscii
import Derived.Lib.SplitLaws
import Derived.Lib.AtoiAll
import Derived.Lib.ItoaNum
import Derived.Lib.IndexBytes
import Derived.Shelf.Strings.Split
import Derived.Shelf.Strconv.AtoiAll
import Derived.Lib.AtoiErrMem
import Derived.Lib.ItoaLen
import Derived.Tactics
import Derived.Tactics2
import Derived.StillTactics
import Derived.Laws.RangeString
import Derived.Laws.RangeAny
import Derived.LoopTactic
import Derived.Scope
import Derived.FnLit
import Derived.Shelf.Strings.Prefix
import Derived.Shelf.Strings.Count
import Derived.Shelf.Strings.Cut
import Derived.Test.YtpkkegbiddcodaaGreatDoorCards
import Derived.Test.YtpkkegbiddcodaaGreatDoorChecked
import Derived.JoinedOf
import Derived.Test.YtpkkegbiddcodaaGreatDoorTie
import Derived.LaidMore
import Derived.LaidSub
import Derived.Lay
import Derived.SevenTiedAt
import Derived.Lib.LaidU8
import Derived.Shelf.Vars
import Derived.OpenShut
set_option linter.unusedSimpArgs false
set_option linter.unusedVariables false
namespace Go.Proofs.YtpkkegbiddcodaaGreatDoor.Bd
open Go Go.RowKit
set_option maxRecDepth 100000
def cityA (t : Town) (brk : Int) : Nat → List Int → D City
 | 0, acc => dret ⟨t, brk, acc⟩
 | k + 1, acc => dbind (roll 721) fun x => dbind (mid 300 600) fun y => dbind (anyOf [0, x, y]) fun z => cityA t brk k (acc ++ [z])
def cityD : D City := dbind (townD 4 5 1) fun t => dbind (roll 10) fun x => dbind (roll 60) fun y => dbind (anyOf [0, 1, x, y]) fun brk => cityA t brk t.rooms.length []
theorem dbind_ap {α β : Type} (m : D α) (f : α → D β) (b : Int) : dbind m f b = f (m b).1 (m b).2 := Eq.trans rfl rfl
theorem townD451 (b : Int) : TownV 4 5 1 (townD 4 5 1 b).1 := townD_ok (sq := 4) (st := 5) (gr := 1) (by omega) b
theorem mem4 {a b c d r : Int} (h : r ∈ [a, b, c, d]) : r = a ∨ r = b ∨ r = c ∨ r = d := by simpa using h
set_option maxHeartbeats 4000000 in
theorem CityOf_pc (Y : YEnv) (σ : Sg) (d : Nat) (b : Int) (hd : σ.store[d]? = some (some [.int .u64 b])) :
 PC Tryz.prog Y 38 [.ptr d 0] σ (ctPV (cityD b).1) (σ.setVar d [.int .u64 (cityD b).2]) := by
 refine PC_of_W Tryz.func38 rfl (by kernel_rfl) Tryz.ntmps38 (by simp) fun hcl hca => ?_
 have hlt := lt_of_get hd
 obtain ⟨res, hres⟩ : ∃ r, cityD b = r := ⟨_, rfl⟩
 rw [hres]
 obtain ⟨t, ht⟩ : ∃ zz, (townD 4 5 1 b).1 = zz := ⟨_, rfl⟩
 obtain ⟨b1, hb1⟩ : ∃ zz, (townD 4 5 1 b).2 = zz := ⟨_, rfl⟩
 have dt := townD451 b
 rw [ht] at dt
 obtain ⟨x1, hx1⟩ : ∃ zz, (roll 10 b1).1 = zz := ⟨_, rfl⟩
 obtain ⟨b2, hb2⟩ : ∃ zz, (roll 10 b1).2 = zz := ⟨_, rfl⟩
 have dx1 := roll_bd 10 b1
 simp only [hx1] at dx1
 obtain ⟨x2, hx2⟩ : ∃ zz, (roll 60 b2).1 = zz := ⟨_, rfl⟩
 obtain ⟨b3, hb3⟩ : ∃ zz, (roll 60 b2).2 = zz := ⟨_, rfl⟩
 have dx2 := roll_bd 60 b2
 simp only [hx2] at dx2
 obtain ⟨brk, hbrk⟩ : ∃ zz, (anyOf [0, 1, x1, x2] b3).1 = zz := ⟨_, rfl⟩
 obtain ⟨b4, hb4⟩ : ∃ zz, (anyOf [0, 1, x1, x2] b3).2 = zz := ⟨_, rfl⟩
 have dbrk := anyOf_mem [0, 1, x1, x2] (by simp) b3
 simp only [hbrk] at dbrk
 have d4 := mem4 dbrk
 have hr1 := dt.r1
 unfold cityD at hres
 simp only [dbind_ap, ht, hb1, hx1, hb2, hx2, hb3, hbrk, hb4] at hres
 refine W_sr [0, 2] fun R hR => ?_
 simp only [go_sem, ldS_at hd, stX_at hd, ldS_sv hlt, stX_sv hlt, sv_ext hlt, sv_ext_sv hlt, ht, hb1, hx1, hb2, hx2, hb3, hbrk, hb4]
 refine hR _ _ ?_; clear hR R
 try simp only [go_sem, ldS_at hd, stX_at hd, ldS_sv hlt, stX_sv hlt, sv_ext hlt, sv_ext_sv hlt, ht, hb1, hx1, hb2, hx2, hb3, hbrk, hb4]
 refine W_sr [0, 2, 3] fun R hR => ?_
 simp only [go_sem, ldS_at hd, stX_at hd, ldS_sv hlt, stX_sv hlt, sv_ext hlt, sv_ext_sv hlt, ht, hb1, hx1, hb2, hx2, hb3, hbrk, hb4]
 refine GCall_of (TownOf_pc Y _ d b (by first | exact hd | exact sv_get hlt | exact get_svx hlt | exact get_extx hd) 4 5 1 (by omega) (by omega) (by omega) (by omega) (by omega) (by omega)) ?_
 simp only [go_sem, ldS_at hd, stX_at hd, ldS_sv hlt, stX_sv hlt, sv_ext hlt, sv_ext_sv hlt, ht, hb1, hx1, hb2, hx2, hb3, hbrk, hb4]
 refine GCall_of (Roll_pc Y _ d b1 (by first | exact hd | exact sv_get hlt | exact get_svx hlt | exact get_extx hd) 10 (by omega)) ?_
 simp only [go_sem, ldS_at hd, stX_at hd, ldS_sv hlt, stX_sv hlt, sv_ext hlt, sv_ext_sv hlt, ht, hb1, hx1, hb2, hx2, hb3, hbrk, hb4]
 refine GCall_of (Roll_pc Y _ d b2 (by first | exact hd | exact sv_get hlt | exact get_svx hlt | exact get_extx hd) 60 (by omega)) ?_
 simp only [go_sem, ldS_at hd, stX_at hd, ldS_sv hlt, stX_sv hlt, sv_ext hlt, sv_ext_sv hlt, ht, hb1, hx1, hb2, hx2, hb3, hbrk, hb4]
 refine GCall_of (Any_pc Y _ d b3 (by first | exact hd | exact sv_get hlt | exact get_svx hlt | exact get_extx hd) [0, 1, x1, x2] (by simp) (by simp)) ?_
 simp only [go_sem, ldS_at hd, stX_at hd, ldS_sv hlt, stX_sv hlt, sv_ext hlt, sv_ext_sv hlt, ht, hb1, hx1, hb2, hx2, hb3, hbrk, hb4]
 refine hR _ _ ?_; clear hR R
 try simp only [go_sem, ldS_at hd, stX_at hd, ldS_sv hlt, stX_sv hlt, sv_ext hlt, sv_ext_sv hlt, ht, hb1, hx1, hb2, hx2, hb3, hbrk, hb4]
 refine W_seq fun Z3 K3 => ?_
 refine W_sr [0, 2, 3, 4] fun R hR => ?_
 simp only [go_sem, ldS_at hd, stX_at hd, ldS_sv hlt, stX_sv hlt, sv_ext hlt, sv_ext_sv hlt, ht, hb1, hx1, hb2, hx2, hb3, hbrk, hb4]
 refine hR _ _ ?_; clear hR R
 try simp only [go_sem, ldS_at hd, stX_at hd, ldS_sv hlt, stX_sv hlt, sv_ext hlt, sv_ext_sv hlt, ht, hb1, hx1, hb2, hx2, hb3, hbrk, hb4]
 refine W_block ?_
 refine W_weak (Weak.roomSV (j := 1) (off := 5) (es := 1) rfl rfl (by simp)) ?_
 simp only [go_sem, ldS_at hd, stX_at hd, ldS_sv hlt, stX_sv hlt, sv_ext hlt, sv_ext_sv hlt, ht, hb1, hx1, hb2, hx2, hb3, hbrk, hb4]
 refine W_loopT (α := Nat × (List Int) × Int) (fun ⟨i, acc, b⟩ => [(4, I i)]) (fun ⟨i, acc, b⟩ => (σ.setVar d [.int .u64 b]).ext [some [.isl [] .exact, .isl [] .exact, .isl [] .exact, I 0, I 0, .isl [] .exact], some [ints t.rooms, .isl (t.streets.map stPV) .ro, .isl (t.groups.map grPV) .ro, I t.steps, I brk, .isl (acc.map I) (.tok σ.rooms.length acc.length 1)]] [acc.length]) (fun ⟨i, acc, b⟩ => i ≤ t.rooms.length ∧ acc.length = i ∧ res = cityA t brk (t.rooms.length - i) acc b) (fun ⟨i, acc, b⟩ => t.rooms.length - i) ((0, [], b4)) rfl (by first | rfl | (simp only [go_sem]; done) | (simp only [go_sem]; rfl)) (⟨Nat.zero_le _, rfl, hres.symm⟩) ?_
 rintro ⟨i, acc, b⟩ ⟨hi, hal, hinv⟩
 refine W_seq fun Z5 K5 => ?_
 refine W_sr [0, 2, 3, 4, 20] fun R hR => ?_
 simp only [go_sem, ldS_at hd, stX_at hd, ldS_sv hlt, stX_sv hlt, sv_ext hlt, sv_ext_sv hlt, ht, hb1, hx1, hb2, hx2, hb3, hbrk, hb4]
 refine hR _ _ ?_; clear hR R
 try simp only [go_sem, ldS_at hd, stX_at hd, ldS_sv hlt, stX_sv hlt, sv_ext hlt, sv_ext_sv hlt, ht, hb1, hx1, hb2, hx2, hb3, hbrk, hb4]
 refine W_cond rfl (fun c1 => ?_) (fun c1 => ?_)
 ·
  try simp only [nrm] at c1
  rw [show t.rooms.length - i = (t.rooms.length - (i + 1)) + 1 by omega] at hinv
  obtain ⟨x, hx⟩ : ∃ zz, (roll 721 b).1 = zz := ⟨_, rfl⟩
  obtain ⟨b5, hb5⟩ : ∃ zz, (roll 721 b).2 = zz := ⟨_, rfl⟩
  have dx := roll_bd 721 b
  simp only [hx] at dx
  obtain ⟨y, hy⟩ : ∃ zz, (mid 300 600 b5).1 = zz := ⟨_, rfl⟩
  obtain ⟨b6, hb6⟩ : ∃ zz, (mid 300 600 b5).2 = zz := ⟨_, rfl⟩
  have dy := mid_bd 300 600 (by omega) b5
  simp only [hy] at dy
  obtain ⟨z, hz⟩ : ∃ zz, (anyOf [0, x, y] b6).1 = zz := ⟨_, rfl⟩
  obtain ⟨b7, hb7⟩ : ∃ zz, (anyOf [0, x, y] b6).2 = zz := ⟨_, rfl⟩
  have dz := anyOf_mem [0, x, y] (by simp) b6
  simp only [hz] at dz
  simp only [cityA, dbind, hx, hb5, hy, hb6, hz, hb7] at hinv
  refine W_skip (K5 _ _ ?_)
  refine W_seq fun Z7 K7 => ?_
  refine W_block ?_
  refine W_draw [0, 2, 3, 4] [0, 1, 2, 3, 4, 5, 6, 7, 8, 9, 10, 11, 12] [(0, 6), (0, 8), (0, 10), (1, 6), (1, 8), (1, 10), (2, 6), (2, 8), (5, 4)] [[], [0], [], [], [3], [], [3, 4, 5], [3, 4, 5, 6], [2, 3, 4, 5, 6, 7], [2, 3, 4, 5, 6, 7, 8], [0, 1, 2, 3, 4, 5, 6, 7, 8, 9], [0, 1, 2, 3, 4, 5, 6, 7, 8, 9, 10], [0, 1, 2, 3, 4, 5, 6, 7, 8, 9, 10, 11]] mixed (by kernel_rfl) fun R hR => ?_
  simp only [go_sem, ldS_at hd, stX_at hd, ldS_sv hlt, stX_sv hlt, sv_ext hlt, sv_ext_sv hlt, ht, hb1, hx1, hb2, hx2, hb3, hbrk, hb4, hx, hb5, hy, hb6, hz, hb7]
  refine GCall_of (Roll_pc Y _ d b (by first | exact hd | exact sv_get hlt | exact get_svx hlt | exact get_extx hd) 721 (by omega)) ?_
  simp only [go_sem, ldS_at hd, stX_at hd, ldS_sv hlt, stX_sv hlt, sv_ext hlt, sv_ext_sv hlt, ht, hb1, hx1, hb2, hx2, hb3, hbrk, hb4, hx, hb5, hy, hb6, hz, hb7]
  refine GCall_of (Mid_pc Y _ d b5 (by first | exact hd | exact sv_get hlt | exact get_svx hlt | exact get_extx hd) 300 600 (by omega) (by omega) (by omega) (by omega)) ?_
  simp only [go_sem, ldS_at hd, stX_at hd, ldS_sv hlt, stX_sv hlt, sv_ext hlt, sv_ext_sv hlt, ht, hb1, hx1, hb2, hx2, hb3, hbrk, hb4, hx, hb5, hy, hb6, hz, hb7]
  refine GCall_of (Any_pc Y _ d b6 (by first | exact hd | exact sv_get hlt | exact get_svx hlt | exact get_extx hd) [0, x, y] (by simp) (by simp)) ?_
  simp only [go_sem, ldS_at hd, stX_at hd, ldS_sv hlt, stX_sv hlt, sv_ext hlt, sv_ext_sv hlt, ht, hb1, hx1, hb2, hx2, hb3, hbrk, hb4, hx, hb5, hy, hb6, hz, hb7]
  simp (disch := first | omega | (simp only [go_sem] <;> omega)) only [wrapI, wrapU, appX_exact, appX_tok]
  try simp only [go_sem, ldS_at hd, stX_at hd, ldS_sv hlt, stX_sv hlt, sv_ext hlt, sv_ext_sv hlt, ht, hb1, hx1, hb2, hx2, hb3, hbrk, hb4, hx, hb5, hy, hb6, hz, hb7]
  try refine And.intro (by repeat' (first | refine And.intro ?_ ?_ | exact GOr_right (fun _ => by simp only [go_sem, ldS_at hd, stX_at hd, ldS_sv hlt, stX_sv hlt, sv_ext hlt, sv_ext_sv hlt, ht, hb1, hx1, hb2, hx2, hb3, hbrk, hb4, hx, hb5, hy, hb6, hz, hb7]))) ?_
  refine hR _ _ (K7 _ _ ?_); clear hR R; try clear K7 Z7
  try simp only [go_sem, ldS_at hd, stX_at hd, ldS_sv hlt, stX_sv hlt, sv_ext hlt, sv_ext_sv hlt, ht, hb1, hx1, hb2, hx2, hb3, hbrk, hb4, hx, hb5, hy, hb6, hz, hb7]
  refine W_region [0, 2, 3, 4] fun R hR => ?_
  simp only [go_sem, ldS_at hd, stX_at hd, ldS_sv hlt, stX_sv hlt, sv_ext hlt, sv_ext_sv hlt, ht, hb1, hx1, hb2, hx2, hb3, hbrk, hb4, hx, hb5, hy, hb6, hz, hb7]
  try simp (disch := omega) only [wrapI, wrapU]
  refine hR _ _ ?_; clear hR R
  try simp only [go_sem, ldS_at hd, stX_at hd, ldS_sv hlt, stX_sv hlt, sv_ext hlt, sv_ext_sv hlt, ht, hb1, hx1, hb2, hx2, hb3, hbrk, hb4, hx, hb5, hy, hb6, hz, hb7]
  refine ⟨(i + 1, acc ++ [z], b7), ?_, by (try simp only []); omega, ?_⟩
  ·first | exact Weak.refl | exact Wqq
  try dsimp only
  exact ⟨by omega, by simp; omega, hinv⟩
 try simp only [nrm] at c1
 rw [show t.rooms.length - i = 0 by omega] at hinv
 simp only [cityA, dret] at hinv
 refine W_exit ?_
 simp only [go_sem, ldS_at hd, stX_at hd, ldS_sv hlt, stX_sv hlt, sv_ext hlt, sv_ext_sv hlt, ht, hb1, hx1, hb2, hx2, hb3, hbrk, hb4]
 refine K3 _ _ ?_
 refine W_sr [2] fun R hR => ?_
 simp only [go_sem, ldS_at hd, stX_at hd, ldS_sv hlt, stX_sv hlt, sv_ext hlt, sv_ext_sv hlt, ht, hb1, hx1, hb2, hx2, hb3, hbrk, hb4]
 refine hR _ _ ?_; clear hR R
 try simp only [go_sem, ldS_at hd, stX_at hd, ldS_sv hlt, stX_sv hlt, sv_ext hlt, sv_ext_sv hlt, ht, hb1, hx1, hb2, hx2, hb3, hbrk, hb4]
 refine W_ret ?_
 simp only [go_sem, ldS_at hd, stX_at hd, ldS_sv hlt, stX_sv hlt, sv_ext hlt, sv_ext_sv hlt, ht, hb1, hx1, hb2, hx2, hb3, hbrk, hb4]
 refine ⟨.inr (by trivial), ?_⟩
 rw [hinv]; refine Fin_set hcl (by simp only [go_sem]) (by show resPV Tryz.prog _ _ [.cell 2 37] = some _; simp only [resPV, go_sem]; rfl) (Wk.ro (by simp only [go_sem]) ?_)
 try simp only [go_sem]
 all_goals
  simp only [go_sem]
end Go.Proofs.YtpkkegbiddcodaaGreatDoor.Bd
namespace Go.Proofs.YtpkkegbiddcodaaGreatDoor.Ki
open Go Go.RowKit Mk
open Ni (Director diPV diCells)
open Pa (shPV shCells ruPV ruCells)
set_option maxRecDepth 100000
noncomputable def cityDM : D Bd.City := fun b => Bd.cityD b
noncomputable def directorD : D Director := dbind (schoolD 4) fun s => dbind rulesD fun r => dbind (scaleD 4) fun sc => dbind cityDM fun ct => dbind (ledgerD 3 0 40) fun lg => dbind (mid 3 12) fun dt => dret ⟨s, r, sc, ct, lg.funds, dt⟩
theorem cityDM_pc (Y : YEnv) (σ : Sg) (d : Nat) (b : Int) (hd : σ.store[d]? = some (some [.int .u64 b])) : PC Tryz.prog Y 38 [.ptr d 0] σ (Bd.ctPV (cityDM b).1) (σ.setVar d [.int .u64 (cityDM b).2]) := Bd.CityOf_pc Y σ d b hd
set_option maxHeartbeats 4000000 in
theorem DirectorOf_pc (Y : YEnv) (σ : Sg) (d : Nat) (b : Int) (hd : σ.store[d]? = some (some [.int .u64 b])) :
 PC Tryz.prog Y 6 [.ptr d 0] σ (diPV (directorD b).1) (σ.setVar d [.int .u64 (directorD b).2]) := by
 refine PC_of_W Tryz.func6 rfl (by kernel_rfl) Tryz.ntmps6 (by simp) fun hcl hca => ?_
 have hlt := lt_of_get hd
 obtain ⟨s, hs⟩ : ∃ zz, (schoolD 4 b).1 = zz := ⟨_, rfl⟩
 obtain ⟨b1, hb1⟩ : ∃ zz, (schoolD 4 b).2 = zz := ⟨_, rfl⟩
 obtain ⟨r, hr⟩ : ∃ zz, (rulesD b1).1 = zz := ⟨_, rfl⟩
 obtain ⟨b2, hb2⟩ : ∃ zz, (rulesD b1).2 = zz := ⟨_, rfl⟩
 obtain ⟨sc, hsc⟩ : ∃ zz, (scaleD 4 b2).1 = zz := ⟨_, rfl⟩
 obtain ⟨b3, hb3⟩ : ∃ zz, (scaleD 4 b2).2 = zz := ⟨_, rfl⟩
 obtain ⟨ct, hct⟩ : ∃ zz, (cityDM b3).1 = zz := ⟨_, rfl⟩
 obtain ⟨b4, hb4⟩ : ∃ zz, (cityDM b3).2 = zz := ⟨_, rfl⟩
 obtain ⟨lg, hlg⟩ : ∃ zz, (ledgerD 3 0 40 b4).1 = zz := ⟨_, rfl⟩
 obtain ⟨b5, hb5⟩ : ∃ zz, (ledgerD 3 0 40 b4).2 = zz := ⟨_, rfl⟩
 obtain ⟨dt, hdt⟩ : ∃ zz, (mid 3 12 b5).1 = zz := ⟨_, rfl⟩
 obtain ⟨b6, hb6⟩ : ∃ zz, (mid 3 12 b5).2 = zz := ⟨_, rfl⟩
 have ddt := mid_bd 3 12 (by omega) b5
 simp only [hdt] at ddt
 have hres : directorD b = (⟨s, r, sc, ct, lg.funds, dt⟩, b6) := by
  simp only [directorD, dbind, hs, hb1, hr, hb2, hsc, hb3, hct, hb4, hlg, hb5, hdt, hb6, dret]
 rw [hres]
 refine W_sr [0, 2] fun R hR => ?_
 simp only [go_sem, ldS_at hd, stX_at hd, ldS_sv hlt, stX_sv hlt, sv_ext hlt, sv_ext_sv hlt, hs, hb1, hr, hb2, hsc, hb3, hct, hb4, hlg, hb5, hdt, hb6, scPV, scCells, Bd.ctPV, Bd.ctCells]
 refine hR _ _ ?_; clear hR R
 try simp only [go_sem, ldS_at hd, stX_at hd, ldS_sv hlt, stX_sv hlt, sv_ext hlt, sv_ext_sv hlt, hs, hb1, hr, hb2, hsc, hb3, hct, hb4, hlg, hb5, hdt, hb6, scPV, scCells, Bd.ctPV, Bd.ctCells]
 refine W_sr [2] fun R hR => ?_
 simp only [go_sem, ldS_at hd, stX_at hd, ldS_sv hlt, stX_sv hlt, sv_ext hlt, sv_ext_sv hlt, hs, hb1, hr, hb2, hsc, hb3, hct, hb4, hlg, hb5, hdt, hb6, scPV, scCells, Bd.ctPV, Bd.ctCells]
 refine GCall_of (SchoolOf_pc Y _ d b (by first | exact hd | exact sv_get hlt | exact get_svx hlt | exact get_extx hd) 4 (by omega) (by omega)) ?_
 simp only [go_sem, ldS_at hd, stX_at hd, ldS_sv hlt, stX_sv hlt, sv_ext hlt, sv_ext_sv hlt, hs, hb1, hr, hb2, hsc, hb3, hct, hb4, hlg, hb5, hdt, hb6, scPV, scCells, Bd.ctPV, Bd.ctCells]
 refine GCall_of (RulesOf_pc Y _ d b1 (by first | exact hd | exact sv_get hlt | exact get_svx hlt | exact get_extx hd)) ?_
 simp only [go_sem, ldS_at hd, stX_at hd, ldS_sv hlt, stX_sv hlt, sv_ext hlt, sv_ext_sv hlt, hs, hb1, hr, hb2, hsc, hb3, hct, hb4, hlg, hb5, hdt, hb6, scPV, scCells, Bd.ctPV, Bd.ctCells]
 refine GCall_of (ScaleOf_pc Y _ d b2 (by first | exact hd | exact sv_get hlt | exact get_svx hlt | exact get_extx hd) 4 (by omega) (by omega)) ?_
 simp only [go_sem, ldS_at hd, stX_at hd, ldS_sv hlt, stX_sv hlt, sv_ext hlt, sv_ext_sv hlt, hs, hb1, hr, hb2, hsc, hb3, hct, hb4, hlg, hb5, hdt, hb6, scPV, scCells, Bd.ctPV, Bd.ctCells]
 refine GCall_of (cityDM_pc Y _ d b3 (by first | exact hd | exact sv_get hlt | exact get_svx hlt | exact get_extx hd)) ?_
 simp only [go_sem, ldS_at hd, stX_at hd, ldS_sv hlt, stX_sv hlt, sv_ext hlt, sv_ext_sv hlt, hs, hb1, hr, hb2, hsc, hb3, hct, hb4, hlg, hb5, hdt, hb6, scPV, scCells, Bd.ctPV, Bd.ctCells]
 refine GCall_of (LedgerOf_pc Y _ d b4 (by first | exact hd | exact sv_get hlt | exact get_svx hlt | exact get_extx hd) 3 0 40 (by omega) (by omega) (by omega) (by omega) (by omega) (by omega)) ?_
 simp only [go_sem, ldS_at hd, stX_at hd, ldS_sv hlt, stX_sv hlt, sv_ext hlt, sv_ext_sv hlt, hs, hb1, hr, hb2, hsc, hb3, hct, hb4, hlg, hb5, hdt, hb6, scPV, scCells, Bd.ctPV, Bd.ctCells]
 refine GCall_of (Mid_pc Y _ d b5 (by first | exact hd | exact sv_get hlt | exact get_svx hlt | exact get_extx hd) 3 12 (by omega) (by omega) (by omega) (by omega)) ?_
 simp only [go_sem, ldS_at hd, stX_at hd, ldS_sv hlt, stX_sv hlt, sv_ext hlt, sv_ext_sv hlt, hs, hb1, hr, hb2, hsc, hb3, hct, hb4, hlg, hb5, hdt, hb6, scPV, scCells, Bd.ctPV, Bd.ctCells]
 refine hR _ _ ?_; clear hR R
 try simp only [go_sem, ldS_at hd, stX_at hd, ldS_sv hlt, stX_sv hlt, sv_ext hlt, sv_ext_sv hlt, hs, hb1, hr, hb2, hsc, hb3, hct, hb4, hlg, hb5, hdt, hb6, scPV, scCells, Bd.ctPV, Bd.ctCells]
 refine W_ret ?_
 simp only [go_sem, ldS_at hd, stX_at hd, ldS_sv hlt, stX_sv hlt, sv_ext hlt, sv_ext_sv hlt, hs, hb1, hr, hb2, hsc, hb3, hct, hb4, hlg, hb5, hdt, hb6, scPV, scCells, Bd.ctPV, Bd.ctCells]
 refine ⟨.inr (by trivial), ?_⟩
 first | refine Fin_set hcl (by simp only [go_sem]) (by show resPV Tryz.prog _ _ [.cell 2 40] = some _; simp only [resPV, go_sem]; rfl) (Wk_eq ?_ (by simp only [go_sem])) | refine Fin_set0 hcl (by simp only [go_sem]) (by show resPV Tryz.prog _ _ [.cell 2 40] = some _; simp only [resPV, go_sem]; rfl) (Wk_eq ?_ (by simp only [go_sem]))
 try simp only [go_sem]
 all_goals
  first | rfl | (simp_all; done) | (simp_all; omega)
end Go.Proofs.YtpkkegbiddcodaaGreatDoor.Ki
namespace Go.Proofs.YtpkkegbiddcodaaGreatDoor.Bd
open Go Go.RowKit
structure CityV (c : City) : Prop where
 tv : TownV 4 5 1 c.town
 b0 : 0 ≤ c.brk
 b1 : c.brk ≤ 60
 sl : c.sleep.length = c.town.rooms.length
 sv : ∀ n, n ∈ c.sleep → 0 ≤ n ∧ n ≤ 720
theorem cityA_ok {t : Town} {brk : Int} (ht : TownV 4 5 1 t) (h0 : 0 ≤ brk) (h1 : brk ≤ 60) : ∀ (k : Nat) (acc : List Int), acc.length + k = t.rooms.length → (∀ n, n ∈ acc → 0 ≤ n ∧ n ≤ 720) → Holds (cityA t brk k acc) CityV := by
 intro k
 induction k with
 | zero => intro acc hl ha; exact .ret ⟨ht, h0, h1, by simpa using hl, ha⟩
 | succ k ih =>
  intro acc hl ha
  refine (roll_bd 721).bind fun x hx => (mid_bd 300 600 (by omega)).bind fun y hy => (anyOf_mem [0, x, y] (by simp)).bind fun z hz => ih _ (by simp; omega) fun n hn => ?_
  have hz := mem3 hz
  rcases List.mem_append.1 hn with hn | hn
  ·exact ha n hn
  simp only [List.mem_singleton] at hn; subst hn; omega
theorem cityD_ok : Holds cityD CityV := by
 unfold cityD
 refine Holds.bind (R := TownV 4 5 1) townD451 fun t ht => (roll_bd 10).bind fun x hx => (roll_bd 60).bind fun y hy => (anyOf_mem [0, 1, x, y] (by simp)).bind fun brk hb => ?_
 have hb := mem4 hb
 exact cityA_ok ht (by omega) (by omega) _ [] (by simp) (fun n hn => by cases hn)
theorem CityV.chk {c : City} (h : CityV c) : chkCity c = 0 := by
 have := h.b0; have := h.b1
 unfold chkCity
 rw [if_neg (by rw [h.tv.ok (by omega) (by omega) (by omega)]; simp), if_neg (by simp [inR]; omega), if_neg (by simp [h.sl]), if_neg]
 intro hh
 rw [List.any_eq_true] at hh
 obtain ⟨n, hn, hh⟩ := hh
 have := h.sv n hn
 simp [inR] at hh; omega
theorem CityV.okc {c : City} (h : CityV c) : c.Ok := by
 have := h.tv.r1; have := h.tv.s1; have := h.tv.g1; have := h.sl
 exact ⟨by omega, by omega, by omega, fun g hg => by have := (h.tv.g2 g hg).p1; omega, by omega⟩
end Go.Proofs.YtpkkegbiddcodaaGreatDoor.Bd
namespace Go.Proofs.YtpkkegbiddcodaaGreatDoor.Ki
open Go Go.RowKit Mk
open Ni (Director DiL chkDi diEs firstE unl)
open Pa (School Wing Rules chkS chkRu wgErr wgsErr)
open Co (Fund chkFd chkFds chkLg usesErr allR)
set_option maxRecDepth 100000
theorem wname_ok : ∀ n, n < 8 → Pa.inR ((wnames[n]?).getD []).length 1 8 = true ∧ (((wnames[n]?).getD []).all fun c => decide (97 ≤ c.toNat) && decide (c.toNat ≤ 122)) = true ∧ ((wnames.take n).any fun v => decide (v = (wnames[n]?).getD [])) = false ∧ wnames.take n ++ [(wnames[n]?).getD []] = wnames.take (n + 1) := by decide
theorem wgsErr_snoc (w : Wing) : ∀ (l p : List Wing), wgsErr p l = 0 → wgErr (p ++ l) w = 0 → wgsErr p (l ++ [w]) = 0 := by
 intro l
 induction l with
 | nil => intro p _ h; simp only [List.append_nil] at h; simp [wgsErr, h]
 | cons x l ih =>
  intro p h k
  simp only [wgsErr, List.cons_append] at h ⊢
  split at h
  ·rename_i q; exact absurd h q
  rename_i q
  rw [if_neg q]
  exact ih _ h (by simpa using k)
theorem wgsErr_nm : ∀ (l p : List Wing), wgsErr p l = 0 → ∀ w, w ∈ l → w.name.length ≤ 8 := by
 intro l
 induction l with
 | nil => intro p _ w h; cases h
 | cons x l ih =>
  intro p h w hw
  simp only [wgsErr] at h
  split at h
  ·rename_i q; exact absurd h q
  rename_i q
  simp only [ne_eq, Classical.not_not] at q
  rcases List.mem_cons.1 hw with rfl | hw
  ·unfold wgErr at q
   split at q
   ·cases q
   rename_i q1
   simp only [Bool.or_eq_true, Bool.not_eq_true', not_or, Bool.not_eq_false, Pa.inR_true] at q1
   omega
  exact ih _ h w hw
theorem schoolA_ok {rt : Int} (h1 : 1 ≤ rt) (h2 : rt ≤ 2000) : ∀ (k : Nat) (acc : List Wing), acc.length + k ≤ 8 → 1 ≤ acc.length + k → acc.map (·.name) = wnames.take acc.length → wgsErr [] acc = 0 →
 Holds (schoolA rt k acc) fun s => chkS s = 0 ∧ s.wings.length = acc.length + k ∧ ∀ v, v ∈ s.wings → v.name.length ≤ 8 := by
 intro k
 induction k with
 | zero =>
  intro acc ha hb hn he
  refine .ret ⟨?_, rfl, wgsErr_nm _ _ he⟩
  unfold chkS
  dsimp only
  rw [if_neg (by simp [Pa.inR]; omega), if_neg (by omega), if_neg (by omega)]
  exact he
 | succ k ih =>
  intro acc ha hb hn he
  refine (anyOf_mem [5, 40] (by simp)).bind fun q hq => ?_
  have hq := mem2 hq
  refine (mid_bd 1 q (by omega)).bind fun p hp => (anyOf_mem [10, 80] (by simp)).bind fun q2 hq2 => ?_
  have hq2 := mem2 hq2
  refine (mid_bd 1 q2 (by omega)).bind fun ln hln => (roll_bd 4).bind fun x hx => (roll_bd 30).bind fun y hy => (anyOf_mem [0, x, y] (by simp)).bind fun e hee => ?_
  have hee := mem3 hee
  obtain ⟨w1, w2, w3, w4⟩ := wname_ok acc.length (by omega)
  refine (ih _ (by simp; omega) (by simp; omega) (by simp [hn, w4]) (wgsErr_snoc _ _ _ he ?_)).mono fun s hs => ⟨hs.1, by rw [hs.2.1]; simp; omega, hs.2.2⟩
  rw [← hn, List.any_map] at w3
  unfold wgErr
  rw [if_neg (by simp only [w1, w2]; simp), if_neg (by simp only [List.nil_append]; rw [Bool.not_eq_true]; exact w3), if_neg (by simp [Pa.inR]; omega), if_neg (by simp; omega)]
theorem schoolD_ok (n : Int) (h1 : 1 ≤ n) (h2 : n ≤ 8) : Holds (schoolD n) fun s => chkS s = 0 ∧ s.wings.length ≤ n ∧ ∀ v, v ∈ s.wings → v.name.length ≤ 8 := by
 refine (anyOf_mem [60, 400, 2000] (by simp)).bind fun q hq => ?_
 have hq := mem3 hq
 refine (mid_bd 1 q (by omega)).bind fun rt hrt => (mid_bd 1 n h1).bind fun k hk => (schoolA_ok (by omega) (by omega) _ [] (by simp; omega) (by simp; omega) rfl rfl).mono fun s hs => ⟨hs.1, ?_, hs.2.2⟩
 rw [hs.2.1]; simp; omega
structure RuV (r : Rules) : Prop where
 l0 : 0 ≤ r.least
 l1 : r.least ≤ 400
 m0 : r.least ≤ r.most
 m1 : r.most ≤ 2400
 g0 : 0 ≤ r.gap
 g1 : r.gap ≤ 300
theorem rulesD_ok : Holds rulesD RuV := by
 refine (roll_bd 60).bind fun x hx => (roll_bd 400).bind fun y hy => (anyOf_mem [0, x, y] (by simp)).bind fun lo hlo => (roll_bd 40).bind fun z hz => (roll_bd 2000).bind fun u hu => (anyOf_mem [0, z, u] (by simp)).bind fun m hm => (roll_bd 20).bind fun v hv => (roll_bd 300).bind fun t ht => (anyOf_mem [0, v, t] (by simp)).bind fun g hg => ?_
 have hlo := mem3 hlo
 have hm := mem3 hm
 have hg := mem3 hg
 exact .ret ⟨by dsimp only; omega, by dsimp only; omega, by dsimp only; omega, by dsimp only; omega, by dsimp only; omega, by dsimp only; omega⟩
theorem fund_fd {dy un am : Int} (h0 : 0 ≤ dy) (h1 : dy ≤ un) (h2 : un ≤ 20) (h3 : 0 ≤ am) (h4 : am ≤ 100) {l : List Int} (hl : l.length ≤ 8) (hu : usesErr none l = 0) : chkFd ⟨dy, un, am, l⟩ = 0 := by
 unfold chkFd
 rw [if_neg (by simp [allR, Pa.inR]; omega), if_neg (by simp; omega), if_neg (by simp [allR, Pa.inR]; omega), if_neg (by simp; omega)]
 exact hu
theorem fundD_ok : Holds (fundD 40) fun f => chkFd f = 0 ∧ f.uses.length ≤ 3 := by
 refine (roll_bd 10).bind fun dy hdy => (anyOf_mem [dy + 4, 20] (by simp)).bind fun q hq => ?_
 have hq := mem2 hq
 refine (mid_bd dy q (by omega)).bind fun un hun => (roll_bd (2 * 40 + 1)).bind fun am ham => ?_
 have go : ∀ l : List Int, l.length ≤ 3 → usesErr none l = 0 → chkFd ⟨dy, un, am, l⟩ = 0 ∧ l.length ≤ 3 := fun l h1 h2 => ⟨fund_fd (by omega) (by omega) (by omega) (by omega) (by omega) (by omega) h2, h1⟩
 refine (roll_bd 3).bind fun x _ => (roll_bd 3).bind fun y _ => (roll_bd 3).bind fun z _ => .ret ?_
 by_cases hx : x = 0 <;> by_cases hy : y = 0 <;> by_cases hz : z = 0 <;> simp only [hx, hy, hz, if_true, if_false] <;> exact go _ (by simp) (by decide)
theorem chkFds_snoc (f : Fund) (hf : chkFd f = 0) : ∀ l : List Fund, chkFds l = 0 → chkFds (l ++ [f]) = 0 := by
 intro l
 induction l with
 | nil => intro _; simp [chkFds, hf]
 | cons x l ih =>
  intro h
  simp only [chkFds, List.cons_append] at h ⊢
  split at h
  ·rename_i q; exact absurd h q
  rename_i q
  rw [if_neg q]
  exact ih h
theorem billsA_fs (cn : Int) (fs : List Fund) : ∀ (k : Nat) (acc : List Co.Bill), Holds (billsA cn fs k acc) fun l => l.funds = fs := by
 intro k
 induction k with
 | zero => intro acc; exact .ret rfl
 | succ k ih => intro acc; exact (mid_bd 3 12 (by omega)).bind fun _ _ => (roll_bd 3).bind fun _ _ => (roll_bd (cn + 1)).bind fun _ _ => ih _
theorem fundsA_ok : ∀ (k : Nat) (acc : List Fund), acc.length + k ≤ 3 → chkFds acc = 0 → (∀ f, f ∈ acc → f.uses.length ≤ 3) → Holds (fundsA 0 40 k acc) fun l => l.funds.length ≤ 3 ∧ chkFds l.funds = 0 ∧ ∀ f, f ∈ l.funds → f.uses.length ≤ 3 := by
 intro k
 induction k with
 | zero =>
  intro acc h1 h2 h3
  exact (roll_bd (0 + 1)).bind fun z _ => (billsA_fs _ _ _ _).mono fun l hl => by rw [hl]; exact ⟨by omega, h2, h3⟩
 | succ k ih =>
  intro acc h1 h2 h3
  refine fundD_ok.bind fun f hf => ih _ (by simp; omega) (chkFds_snoc f hf.1 _ h2) fun g hg => ?_
  rcases List.mem_append.1 hg with hg | hg
  ·exact h3 g hg
  simp only [List.mem_singleton] at hg; subst hg; exact hf.2
theorem ledgerD_ok : Holds (ledgerD 3 0 40) fun l => l.funds.length ≤ 3 ∧ chkFds l.funds = 0 ∧ ∀ f, f ∈ l.funds → f.uses.length ≤ 3 :=
 (roll_bd (3 + 1)).bind fun k hk => fundsA_ok _ [] (by simp; omega) rfl (fun f hf => by cases hf)
/-- A director that may be, whatever the rules. -/
structure DirV (x : Director) : Prop where
 l : DiL x
 s : chkS x.school = 0
 sc : chkSc x.scale = 0
 ct : Bd.chkCity x.city = 0
 lg : chkLg ⟨x.funds, []⟩ = 0
 dt : Pa.inR x.date 0 3650 = true
 w4 : x.school.wings.length ≤ 4
 ru : RuV x.rules
theorem directorD_ok : Holds directorD DirV := by
 refine (schoolD_ok 4 (by omega) (by omega)).bind fun s hs => rulesD_ok.bind fun r hr => (scaleD_ok 4 (by omega) (by omega)).bind fun sc hsc => Holds.bind (R := Bd.CityV) (fun b => Bd.cityD_ok b) fun ct hct => ledgerD_ok.bind fun lg hlg => (mid_bd 3 12 (by omega)).bind fun dt hdt => .ret ?_
 have hv := Scale.v hsc.1
 have := hv.ol
 have := hsc.2.2.1
 exact ⟨⟨fun v hv => Nat.le_trans (hs.2.2 v hv) (by decide), by dsimp only; omega, ⟨by dsimp only; omega⟩, hct.okc, by dsimp only; omega, fun f hf => Nat.lt_of_le_of_lt (hlg.2.2 f hf) (by decide)⟩, hs.1, hsc.1, hct.chk,
  by unfold chkLg; rw [if_neg (by simp; omega), if_neg (by simp [hlg.2.1]), if_neg (by simp)]; simp, by simp [Pa.inR]; omega, by dsimp only; omega, hr⟩
theorem DirV.chk {x : Director} (h : DirV x) (r : Rules) (hr : chkRu r = 0) : chkDi { x with rules := r } = 0 := by
 simp [chkDi, diEs, firstE, h.s, hr, h.sc, h.ct, h.lg, h.dt, unl]
theorem DirV.len {x : Director} (h : DirV x) (r : Rules) : DiL { x with rules := r } := ⟨h.l.nm, h.l.wl, h.l.sc, h.l.ct, h.l.fl, h.l.us⟩
end Go.Proofs.YtpkkegbiddcodaaGreatDoor.Ki
namespace Go.Proofs.YtpkkegbiddcodaaGreatDoor.Sd
open Go Go.RowKit Pa Ni
set_option maxRecDepth 100000
theorem itoa_le21 {n : Int} (h : -2 ^ 60 ≤ n ∧ n ≤ 2 ^ 60) : (Lib.itoa n).length ≤ 21 := Lib.itoa_length_le n (by omega) (by omega)
theorem errT_len {e : Int} (h : 0 ≤ e ∧ e ≤ 12) : (errT e).length ≤ 100 := by
 have := itoa_le21 (n := e) (by omega)
 unfold errT
 rw [wordsT_line _ _ (by decide)]
 simp only [lineT, errorT, List.length_append, List.length_cons, List.length_nil]; omega
theorem toldT_len (v : Int) : (toldT v).length ≤ 5 := by
 unfold toldT
 split
 ·decide
 split
 ·decide
 split <;> decide
theorem words2_len {w : List UInt8} {a b : Int} (hw : w.length ≤ 5) (ha : -2 ^ 40 ≤ a ∧ a ≤ 2 ^ 40) (hb : -2 ^ 40 ≤ b ∧ b ≤ 2 ^ 40) : (wordsT w [a, b]).length ≤ 100 := by
 have h1 := itoa_le21 (n := a) (by omega)
 have h2 := itoa_le21 (n := b) (by omega)
 simp only [wordsT]
 split <;> split <;> (try simp only [List.length_append, List.length_cons]) <;> omega
theorem stepD_len (x : Director) (d : Dk) (c : Cmd) : (stepD x d c).1.length ≤ 100 := by
 cases c with
 | «at» n =>
  simp only [stepD]
  split
  ·show okT.length ≤ 100; decide
  exact errT_len (by omega)
 | wing =>
  simp only [stepD]
  split
  ·exact errT_len (wingE_bd x d)
  show okT.length ≤ 100; decide
 | lasts =>
  simp only [stepD]
  split
  ·exact errT_len (by omega)
  split
  ·exact errT_len (lastsE_bd _ _ _)
  have h := lastsA_bd (takeSch x.school d.st.length) (rowS d.st) x.rules
  exact words2_len (toldT_len _) h.2.1 h.2.2
 | fuel => exact errT_len (by omega)
theorem runD_len (x : Director) : ∀ (cs : List Cmd) (d : Dk), (runD x d cs).1.length = cs.length ∧ ∀ q, q ∈ (runD x d cs).1 → q.length ≤ 100 := by
 intro cs
 induction cs with
 | nil => intro d; exact ⟨rfl, fun q hq => by cases hq⟩
 | cons c cs ih =>
  intro d
  obtain ⟨h1, h2⟩ := ih (stepD x d c).2
  refine ⟨by simp only [runD, List.length_cons, h1], fun q hq => ?_⟩
  simp only [runD, List.mem_cons] at hq
  rcases hq with rfl | hq
  ·exact stepD_len x d c
  exact h2 q hq
theorem scl_of {x : Director} (h : Ki.DirV x) : ScL x := ⟨h.l.nm, by have := h.w4; omega⟩
theorem ruV_chk {r : Rules} (h : Ki.RuV r) : chkRu r = 0 := by
 have := h.l0; have := h.l1; have := h.m0; have := h.m1; have := h.g0; have := h.g1
 unfold chkRu
 rw [if_neg (by simp [inR]; omega), if_neg (by omega)]
def awakeC : List Cmd := [.at 7, .at 6, .fuel]
theorem itoa7 : Lib.itoa 7 = [55] := by unfold Lib.itoa; rw [if_neg (by decide), Lib.decDigits]; rfl
theorem itoa6 : Lib.itoa 6 = [54] := by unfold Lib.itoa; rw [if_neg (by decide), Lib.decDigits]; rfl
theorem itoa2 : Lib.itoa 2 = [50] := by unfold Lib.itoa; rw [if_neg (by decide), Lib.decDigits]; rfl
theorem itoa1 : Lib.itoa 1 = [49] := by unfold Lib.itoa; rw [if_neg (by decide), Lib.decDigits]; rfl
theorem awake_text : textT (awakeC.map cmdT) = [97, 116, 32, 55, 10, 97, 116, 32, 54, 10, 102, 117, 101, 108, 10] := by
 simp only [awakeC, List.map_cons, List.map_nil, cmdT, lineT, itoa7, itoa6]; rfl
theorem awake_run (x : Director) : textT (runD x ⟨0, []⟩ awakeC).1 = [111, 107, 10, 101, 114, 114, 111, 114, 32, 50, 10, 101, 114, 114, 111, 114, 32, 49, 10] := by
 have e2 : errT 2 = [101, 114, 114, 111, 114, 32, 50] := by unfold errT; rw [wordsT_line _ _ (by decide)]; simp only [lineT, itoa2]; rfl
 have e1 : errT 1 = [101, 114, 114, 111, 114, 32, 49] := by unfold errT; rw [wordsT_line _ _ (by decide)]; simp only [lineT, itoa1]; rfl
 simp only [awakeC, runD, stepD, e1, e2]
 rw [if_pos (by decide)]
 simp only
 rw [if_neg (by decide)]
 rfl
set_option maxHeartbeats 4000000 in
theorem Run_pc (Y : YEnv) (σ : Sg) (x : Director) (cs : List Cmd) (hx : DiL x) (hs : ScL x) (h0 : chkDi x = 0) (hcs : ∀ c, c ∈ cs → CmdOK c) (hn : cs ≠ []) (hn2 : cs.length ≤ 100) (s : List UInt8) (hS : textT (cs.map cmdT) = s) (hsl : s.length ≤ 8000) :
 PC Tryz.prog Y 14 [diPV x, txt s] σ (.tuple [txt (textT (runD x ⟨0, []⟩ cs).1), I 0]) (σ) := by
 refine PC_of_W Tryz.func14 rfl (by kernel_rfl) Tryz.ntmps14 (by simp) fun hcl hca => ?_
 obtain ⟨hl1, hl2⟩ := runD_len x cs ⟨0, []⟩
 obtain ⟨rp, hrp⟩ : ∃ z, (runD x ⟨0, []⟩ cs).1 = z := ⟨_, rfl⟩
 rw [hrp] at hl1 hl2 ⊢
 have hrn : rp ≠ [] := fun h => hn (by rw [h] at hl1; exact List.eq_nil_of_length_eq_zero hl1.symm)
 refine W_sr [1, 2] fun R hR => ?_
 simp only [go_sem, Mk.scCells, Bd.ctCells]
 refine hR _ _ ?_; clear hR R
 try simp only [go_sem, Mk.scCells, Bd.ctCells]
 refine W_sr [7, 8] fun R hR => ?_
 simp only [go_sem, Mk.scCells, Bd.ctCells]
 refine GCall_of (PC.val (v' := .tuple [.undef, .isl (rp.map txt) .ro, I 0]) (run_pc Y _ x cs hx hs h0 hcs hn hn2 s hS hsl) (by rw [hrp])) ?_
 simp only [go_sem, Mk.scCells, Bd.ctCells]
 refine hR _ _ ?_; clear hR R
 try simp only [go_sem, Mk.scCells, Bd.ctCells]
 refine W_seq fun Z3 K3 => ?_
 refine W_sr [7, 8, 17] fun R hR => ?_
 simp only [go_sem, Mk.scCells, Bd.ctCells]
 refine hR _ _ ?_; clear hR R
 try simp only [go_sem, Mk.scCells, Bd.ctCells]
 refine W_cond_false rfl ?_
 refine W_skip (K3 _ _ ?_)
 refine W_sr [4, 5] fun R hR => ?_
 simp only [go_sem, Mk.scCells, Bd.ctCells]
 refine GCall_of (page_pc Y _ rp .ro hrn (by omega) (fun q hq => by have := hl2 q hq; omega)) ?_
 simp only [go_sem, Mk.scCells, Bd.ctCells]
 refine hR _ _ ?_; clear hR R
 try simp only [go_sem, Mk.scCells, Bd.ctCells]
 refine W_ret ?_
 simp only [go_sem, Mk.scCells, Bd.ctCells]
 refine ⟨.inr (by trivial), ?_⟩
 first | refine Fsa hcl rfl ?_ | refine Fse hcl rfl ?_
 try simp only [go_sem]
 all_goals
  first | rfl | (simp_all; done) | (simp_all; omega)
set_option maxHeartbeats 4000000 in
theorem deskAwake_pc (Y : YEnv) (σ : Sg)  :
 PC Tryz.prog Y 9 [] σ (.bool true) (σ) := by
 refine PC_of_W Tryz.func9 rfl (by kernel_rfl) Tryz.ntmps9 (by simp) fun hcl hca => ?_
 obtain ⟨b, hb⟩ : ∃ b, Mk.drumB [5] 2685821657736338717 = b := ⟨_, rfl⟩
 have hdr : PC Tryz.prog Y 5 [.isl [I 5] .ro] σ (.ptr σ.store.length 0) (σ.ext [some [.int .u64 b]] []) := by
  rw [← hb]; exact Mk.DrumOf_pc Y σ [5] (by decide)
 obtain ⟨x, hx⟩ : ∃ x, (Ki.directorD b).1 = x := ⟨_, rfl⟩
 obtain ⟨b2, hb2⟩ : ∃ b2, (Ki.directorD b).2 = b2 := ⟨_, rfl⟩
 have hV : Ki.DirV x := by rw [← hx]; exact Ki.directorD_ok b
 have hdi : PC Tryz.prog Y 6 [.ptr σ.store.length 0] (σ.ext [some [.int .u64 b]] []) (diPV x) (σ.ext [some [.int .u64 b2]] []) := by
  have h := Ki.DirectorOf_pc Y (σ.ext [some [.int .u64 b]] []) σ.store.length b (Sg.get_ext0 ..)
  rw [hx, hb2, Sg.set_ext0] at h
  exact h
 have awake_eq : ([111, 107, 10, 101, 114, 114, 111, 114, 32, 50, 10, 101, 114, 114, 111, 114, 32, 49, 10] = ([111, 107, 10, 101, 114, 114, 111, 114, 32, 50, 10, 101, 114, 114, 111, 114, 32, 49, 10] : List UInt8)) = True := eq_true rfl
 have hrun : ∀ l, PC Tryz.prog Y 14 [diPV x, txt [97, 116, 32, 55, 10, 97, 116, 32, 54, 10, 102, 117, 101, 108, 10]] (σ.ext l []) (.tuple [txt [111, 107, 10, 101, 114, 114, 111, 114, 32, 50, 10, 101, 114, 114, 111, 114, 32, 49, 10], I 0]) (σ.ext l []) := fun l => by
  have h := Run_pc Y (σ.ext l []) x awakeC hV.l (scl_of hV) (hV.chk x.rules (ruV_chk hV.ru)) (fun c hc => by
   simp only [awakeC, List.mem_cons, List.not_mem_nil, or_false] at hc
   rcases hc with rfl | rfl | rfl
   ·exact ⟨by decide, by decide⟩
   ·exact ⟨by decide, by decide⟩
   trivial) (by decide) (by decide) _ awake_text (by decide)
  rw [awake_run] at h
  exact h
 refine W_sr [] fun R hR => ?_
 simp only [go_sem, Mk.scCells, Bd.ctCells, awake_eq]
 refine hR _ _ ?_; clear hR R
 try simp only [go_sem, Mk.scCells, Bd.ctCells, awake_eq]
 refine W_sr [1] fun R hR => ?_
 simp only [go_sem, Mk.scCells, Bd.ctCells, awake_eq]
 refine GCall_of (PC.ofRo (hdr) (by simp only [go_sem] <;> rfl)) ?_
 simp only [go_sem, Mk.scCells, Bd.ctCells, awake_eq]
 refine GCall_of (hdi) ?_
 simp only [go_sem, Mk.scCells, Bd.ctCells, awake_eq]
 refine hR _ _ ?_; clear hR R
 try simp only [go_sem, Mk.scCells, Bd.ctCells, awake_eq]
 refine W_sr [2, 3] fun R hR => ?_
 simp only [go_sem, Mk.scCells, Bd.ctCells, awake_eq]
 refine GCall_of (hrun _) ?_
 simp only [go_sem, Mk.scCells, Bd.ctCells, awake_eq]
 refine hR _ _ ?_; clear hR R
 try simp only [go_sem, Mk.scCells, Bd.ctCells, awake_eq]
 refine W_sr [0] fun R hR => ?_
 simp only [go_sem, Mk.scCells, Bd.ctCells, awake_eq]
 refine hR _ _ ?_; clear hR R
 try simp only [go_sem, Mk.scCells, Bd.ctCells, awake_eq]
 refine W_ret ?_
 simp only [go_sem, Mk.scCells, Bd.ctCells, awake_eq]
 refine ⟨.inr (by trivial), ?_⟩
 first | refine Fsa hcl rfl ?_ | refine Fse hcl rfl ?_
 try simp only [go_sem]
 all_goals
  first | rfl | (simp_all; done) | (simp_all; omega)
open Go Go.RowKit Pa Ni
theorem lsts_get {ws : List Wing} {i : Nat} (h : i = 1) : (lsts (ws.take (i + 1)) (i + 1))[1]? = some (leastW ws [0] 1) := by
 subst h
 show (lsts (ws.take 2) 2)[1]? = _
 have h1 := lsts_two (ws := ws) (m := 2) (Nat.le_refl _)
 have h2 := lsts_len (ws.take 2) 2
 unfold stW at h1
 rw [List.getElem?_eq_getElem (by omega)] at h1 ⊢
 simpa using h1
theorem cmdT_len {c : Cmd} (h : CmdOK c) : (cmdT c).length ≤ 24 := by
 cases c with
 | «at» n =>
  have := itoa_le21 (n := n) (by simp only [CmdOK] at h; omega)
  simp only [cmdT, lineT, atT, List.length_append, List.length_cons, List.length_nil]; omega
 | _ => decide
theorem cmdsN_ok {ws : List Wing} {p : List Int} {z : Int} (hz : 0 ≤ z ∧ z ≤ 2000) (hb : ∀ i, i < p.length → 0 ≤ stW p i ∧ stW p i ≤ 20000) (hl : 1 < p.length → leastW ws [0] 1 ≤ 20000) : ∀ k, k ≤ p.length → (cmdsN ws p z k).length ≤ 4 * k ∧ ∀ c, c ∈ cmdsN ws p z k → CmdOK c := by
 intro k
 induction k with
 | zero => intro _; exact ⟨Nat.le_refl _, fun c hc => by cases hc⟩
 | succ k ih =>
  intro hk
  obtain ⟨h1, h2⟩ := ih (by omega)
  have hk2 := hb k (by omega)
  simp only [cmdsN, cmdI]
  refine ⟨?_, fun c hc => ?_⟩
  ·split <;> simp <;> omega
  rcases List.mem_append.1 hc with hc | hc
  ·exact h2 c hc
  rcases List.mem_append.1 hc with hc | hc
  ·split at hc
   ·rename_i he
    simp only [early, Bool.and_eq_true, decide_eq_true_eq] at he
    have := hl (by omega)
    simp only [List.mem_cons, List.not_mem_nil, or_false] at hc
    rcases hc with rfl | rfl
    ·exact ⟨by omega, by omega⟩
    trivial
   cases hc
  simp only [List.mem_cons, List.not_mem_nil, or_false] at hc
  rcases hc with rfl | rfl
  ·exact ⟨by omega, by omega⟩
  trivial
theorem dueN_len {ws : List Wing} {p : List Int} : ∀ k, (dueN ws p k).length ≤ 4 * k ∧ ∀ q, q ∈ dueN ws p k → q.length ≤ 100 := by
 have h12 : (lineT errorT [12]).length ≤ 100 := by
  have := itoa_le21 (n := 12) (by omega)
  simp only [lineT, errorT, List.length_append, List.length_cons, List.length_nil]; omega
 have hok : okT.length ≤ 100 := by decide
 intro k
 induction k with
 | zero => exact ⟨Nat.le_refl _, fun c hc => by cases hc⟩
 | succ k ih =>
  obtain ⟨h1, h2⟩ := ih
  simp only [dueN, dueI]
  refine ⟨?_, fun c hc => ?_⟩
  ·split <;> simp <;> omega
  rcases List.mem_append.1 hc with hc | hc
  ·exact h2 c hc
  rcases List.mem_append.1 hc with hc | hc
  ·split at hc
   ·simp only [List.mem_cons, List.not_mem_nil, or_false] at hc
    rcases hc with rfl | rfl
    ·exact hok
    exact h12
   cases hc
  simp only [List.mem_cons, List.not_mem_nil, or_false] at hc
  rcases hc with rfl | rfl <;> exact hok
theorem iaX_o {xs : List Int} {x : Int} (h : xs[1]? = some x) : iaX 1 (xs.map I) 1 = some (.eptr 1 (xs.map I) 1 0) := Mk.iaX_map (i := 1) h rfl
theorem elS_o {xs : List Int} {x : Int} (h : xs[1]? = some x) : elS (xs.map I) 1 0 = some (I x) := by rw [Mk.elS_map h]; rfl
theorem fits1 {n : Int} (h : -2 ^ 60 ≤ n ∧ n ≤ 2 ^ 60) : FitsI [n] := fun m hm => by simp only [List.mem_singleton] at hm; subst hm; omega
theorem fits2 {a b : Int} (h : -2 ^ 60 ≤ a ∧ a ≤ 2 ^ 60) (k : -2 ^ 60 ≤ b ∧ b ≤ 2 ^ 60) : FitsI [a, b] := fun m hm => by
 simp only [List.mem_cons, List.not_mem_nil, or_false] at hm
 rcases hm with rfl | rfl <;> omega
set_option maxHeartbeats 16000000 in
theorem TopStarted_pc (Y : YEnv) (σ : Sg) (nums : List Int) (hnums : nums.length < 2 ^ 60) :
 PC Tryz.prog Y 3 [ints nums] σ (.bool true) (σ) := by
 refine PC_of_W Tryz.func3 rfl (by kernel_rfl) Tryz.ntmps3 (by simp) fun hcl hca => ?_
 obtain ⟨b, hb⟩ : ∃ b, Mk.drumB nums 2685821657736338717 = b := ⟨_, rfl⟩
 have hdr : PC Tryz.prog Y 5 [ints nums] σ (.ptr σ.store.length 0) (σ.ext [some [.int .u64 b]] []) := by
  rw [← hb]; exact Mk.DrumOf_pc Y σ nums hnums
 clear hb
 obtain ⟨x, hx⟩ : ∃ x, (Ki.directorD b).1 = x := ⟨_, rfl⟩
 obtain ⟨b1, hb1⟩ : ∃ b2, (Ki.directorD b).2 = b2 := ⟨_, rfl⟩
 have hV : Ki.DirV x := by rw [← hx]; exact Ki.directorD_ok b
 have hdi : PC Tryz.prog Y 6 [.ptr σ.store.length 0] (σ.ext [some [.int .u64 b]] []) (diPV x) (σ.ext [some [.int .u64 b1]] []) := by
  have h := Ki.DirectorOf_pc Y (σ.ext [some [.int .u64 b]] []) σ.store.length b (Sg.get_ext0 ..)
  rw [hx, hb1, Sg.set_ext0] at h
  exact h
 clear hx hb1
 obtain ⟨le, hle⟩ : ∃ le, (Mk.anyOf [0, x.rules.least] b1).1 = le := ⟨_, rfl⟩
 obtain ⟨b2, hb2⟩ : ∃ b2, (Mk.anyOf [0, x.rules.least] b1).2 = b2 := ⟨_, rfl⟩
 have hany : ∀ l, PC Tryz.prog Y 7 [.ptr σ.store.length 0, .isl [I 0, I x.rules.least] .exact] (σ.ext (some [.int .u64 b1] :: l) []) (I le) (σ.ext (some [.int .u64 b2] :: l) []) := fun l => by
  have h := Mk.Any_pc Y (σ.ext (some [.int .u64 b1] :: l) []) σ.store.length b1 (Sg.get_ext0 ..) [0, x.rules.least] (by simp) (by simp)
  rw [hle, hb2, Sg.set_ext0] at h
  exact h
 have dle := Mk.anyOf_mem [0, x.rules.least] (by simp) b1
 rw [hle] at dle
 have dle := Mk.mem2 dle
 clear hle hb2
 have hru := hV.ru
 have l0 := hru.l0
 have l1 := hru.l1
 have m0 := hru.m0
 have m1 := hru.m1
 have gp0 := hru.g0
 have gp1 := hru.g1
 have hmw : IntKind.i64.wrap (x.rules.most + 5000) = x.rules.most + 5000 := wrapI (by omega) (by omega)
 obtain ⟨r', hr'⟩ : ∃ r' : Rules, r' = ⟨le, x.rules.most + 5000, x.rules.gap⟩ := ⟨_, rfl⟩
 have hrc : chkRu r' = 0 := by
  rw [hr']; unfold chkRu
  rw [if_neg (by simp [inR]; omega), if_neg (by simp only; omega)]
 obtain ⟨z, hz⟩ : ∃ z, (Mk.roll 2000 b2).1 = z := ⟨_, rfl⟩
 obtain ⟨b3, hb3⟩ : ∃ z, (Mk.roll 2000 b2).2 = z := ⟨_, rfl⟩
 have hroll : ∀ l rm, PC Tryz.prog Y 11 [.ptr σ.store.length 0, I 2000] (σ.ext (some [.int .u64 b2] :: l) rm) (I z) (σ.ext (some [.int .u64 b3] :: l) rm) := fun l rm => by
  have h := Mk.Roll_pc Y (σ.ext (some [.int .u64 b2] :: l) rm) σ.store.length b2 (Sg.get_ext0 ..) 2000 (by omega)
  rw [hz, hb3, Sg.set_ext0] at h
  exact h
 have dz := Mk.roll_bd 2000 b2
 simp only [hz] at dz
 have hzb : 0 ≤ z ∧ z ≤ 2000 := by omega
 clear hz hb3
 obtain ⟨⟨⟨p, gp⟩, e⟩, hpl⟩ : ∃ q, planA x.school r' = q := ⟨_, rfl⟩
 have hplan : ∀ τ, PC Tryz.prog Y 8 [shPV x.school, .agg [I le, I (x.rules.most + 5000), I x.rules.gap]] τ (.tuple [ints p, I gp, I e]) τ := fun τ => by
  have h := Plan_pc Y τ x.school r' hV.l.nm hV.l.wl
  rw [hpl, hr'] at h
  exact h
 have he07 := plan_err (s := x.school) (r := r') hV.s (by have := hV.w4; omega) hrc
 rw [hpl] at he07
 simp only at he07
 have h4 := hV.w4
 refine W_sr [0] fun R hR => ?_
 simp only [go_sem, Mk.scCells, Bd.ctCells]
 refine hR _ _ ?_; clear hR R
 try simp only [go_sem, Mk.scCells, Bd.ctCells]
 refine W_sr [3] fun R hR => ?_
 simp only [go_sem, Mk.scCells, Bd.ctCells]
 refine GCall_of (hdr) ?_
 simp only [go_sem, Mk.scCells, Bd.ctCells]
 refine hR _ _ ?_; clear hR R
 try simp only [go_sem, Mk.scCells, Bd.ctCells]
 refine W_sr [3, 4] fun R hR => ?_
 simp only [go_sem, Mk.scCells, Bd.ctCells]
 refine GCall_of (hdi) ?_
 simp only [go_sem, Mk.scCells, Bd.ctCells]
 refine hR _ _ ?_; clear hR R
 try simp only [go_sem, Mk.scCells, Bd.ctCells]
 refine W_sr [3, 4] fun R hR => ?_
 simp only [go_sem, Mk.scCells, Bd.ctCells, hmw]
 try simp (disch := (first | omega | (simp only [go_sem, List.length_append] <;> omega))) only [wrapI, wrapU, strAdd, slT, slTa, slTb]
 refine hR _ _ ?_; clear hR R
 try simp only [go_sem, Mk.scCells, Bd.ctCells]
 refine W_sr [3, 4] fun R hR => ?_
 simp only [go_sem, Mk.scCells, Bd.ctCells]
 refine GCall_of (hany _) ?_
 simp only [go_sem, Mk.scCells, Bd.ctCells]
 refine hR _ _ ?_; clear hR R
 try simp only [go_sem, Mk.scCells, Bd.ctCells]
 refine W_sr [3, 4, 5, 7] fun R hR => ?_
 simp only [go_sem, Mk.scCells, Bd.ctCells]
 refine GCall_of (hplan _) ?_
 simp only [go_sem, Mk.scCells, Bd.ctCells]
 refine hR _ _ ?_; clear hR R
 try simp only [go_sem, Mk.scCells, Bd.ctCells]
 refine W_seq fun Z7 K7 => ?_
 refine W_sr [3, 4, 5, 7, 48] fun R hR => ?_
 simp only [go_sem, Mk.scCells, Bd.ctCells]
 refine hR _ _ ?_; clear hR R
 try simp only [go_sem, Mk.scCells, Bd.ctCells]
 refine W_cond rfl (fun c1 => ?_) (fun c1 => ?_)
 ·
  try simp only [nrm] at c1
  obtain rfl : e = 7 := by omega
  refine W_sr [2] fun R hR => ?_
  simp only [go_sem, Mk.scCells, Bd.ctCells]
  refine GCall_of (deskAwake_pc Y _) ?_
  simp only [go_sem, Mk.scCells, Bd.ctCells]
  refine hR _ _ ?_; clear hR R
  try simp only [go_sem, Mk.scCells, Bd.ctCells]
  refine W_ret ?_
  simp only [go_sem, Mk.scCells, Bd.ctCells]
  refine ⟨.inr (by trivial), ?_⟩
  first | refine Fsa hcl rfl ?_ | refine Fse hcl rfl ?_
  try simp only [go_sem]
  all_goals
   first | rfl | simp
 try simp only [nrm] at c1
 obtain rfl : e = 0 := by omega
 obtain ⟨_, _, hpv, hp0, _⟩ := plan_ok hpl
 have hpz := plan_0 hpl
 have hls := plan_lasts hpl
 have hpn : p.length = x.school.wings.length := hpv.ln
 have hpb := hpv.ok.bd
 have hpln : ((p.length : Int) != (x.school.wings.length : Int)) = false := by rw [bne_eq_false_iff_eq]; omega
 have hlb := lastsA_bd x.school p r'
 rw [hls] at hlb
 obtain ⟨lo, hlo⟩ : ∃ q, (lastsW x.school p).1 = q := ⟨_, rfl⟩
 obtain ⟨hi, hhi⟩ : ∃ q, (lastsW x.school p).2 = q := ⟨_, rfl⟩
 have hlw : lastsW x.school p = (lo, hi) := Prod.ext hlo hhi
 rw [hlw] at hlb hls
 simp only at hlb
 have hlasts : ∀ τ, PC Tryz.prog Y 10 [shPV x.school, ints p, .agg [I le, I (x.rules.most + 5000), I x.rules.gap]] τ (.tuple [I 1, .agg [I lo, I hi], I 0]) τ := fun τ => by
  have h := Lasts_pc Y τ x.school p .ro r' hV.l.nm hV.l.wl
  rw [hls, hr'] at h
  exact h
 obtain ⟨l2, hl2⟩ : ∃ q, leastW x.school.wings [0] 1 = q := ⟨_, rfl⟩
 have hl2b : 1 < p.length → l2 ≤ 20000 := fun h => by
  have h3 := leastW_st (ws := x.school.wings) (a := [0]) (b := p) (i := 1) (fun j hj => by
   have : j = 0 := by omega
   subst this; rw [hpz]; rfl)
  have := hpv.ok.ge 1 h
  have := hpb 1 h
  omega
 have hcok := cmdsN_ok (ws := x.school.wings) (p := p) (z := z) hzb hpb (by rw [hl2]; exact hl2b)
 have hp1 : 0 < p.length := List.length_pos_iff.2 hp0
 obtain ⟨p1, hp1x⟩ : ∃ q, p[0]? = some q := ⟨p[0], by simp [hp1]⟩
 have hp1z : p1 = 0 := by have h := hpz; unfold stW at h; rw [hp1x] at h; exact h
 subst hp1z
 refine W_skip (K7 _ _ ?_)
 refine W_sr [3, 4, 5, 9, 10] fun R hR => ?_
 simp only [go_sem, Mk.scCells, Bd.ctCells]
 refine GCall_of (hlasts _) ?_
 simp only [go_sem, Mk.scCells, Bd.ctCells]
 refine hR _ _ ?_; clear hR R
 try simp only [go_sem, Mk.scCells, Bd.ctCells]
 refine W_seq fun Z11 K11 => ?_
 refine W_sr [3, 4, 5, 9, 74] fun R hR => ?_
 simp only [go_sem, Mk.scCells, Bd.ctCells, hpln, decide_true]
 refine hR _ _ ?_; clear hR R
 try simp only [go_sem, Mk.scCells, Bd.ctCells]
 refine W_cond_false rfl ?_
 refine W_skip (K11 _ _ ?_)
 refine W_sr [4, 5, 9, 11] fun R hR => ?_
 simp only [go_sem, Mk.scCells, Bd.ctCells]
 refine GCall_of (hroll _ _) ?_
 simp only [go_sem, Mk.scCells, Bd.ctCells]
 refine hR _ _ ?_; clear hR R
 try simp only [go_sem, Mk.scCells, Bd.ctCells]
 refine W_sr [4, 5, 9, 11, 12, 13] fun R hR => ?_
 simp only [go_sem, Mk.scCells, Bd.ctCells]
 refine hR _ _ ?_; clear hR R
 try simp only [go_sem, Mk.scCells, Bd.ctCells]
 refine W_seq fun Z15 K15 => ?_
 refine W_sr [4, 5, 9, 11, 12, 13, 14] fun R hR => ?_
 simp only [go_sem, Mk.scCells, Bd.ctCells]
 refine hR _ _ ?_; clear hR R
 try simp only [go_sem, Mk.scCells, Bd.ctCells]
 refine W_block ?_
 refine W_weak (Weak.room (t := 12) (es := 1) rfl (by simp)) ?_
 refine W_weak (Weak.keep [4, 5, 9, 11, 12, 13, 14]) ?_
 simp only [go_sem, Mk.scCells, Bd.ctCells]
 refine W_weak (Weak.room (t := 13) (es := 1) rfl (by simp)) ?_
 refine W_weak (Weak.keep [4, 5, 9, 11, 12, 13, 14]) ?_
 simp only [go_sem, Mk.scCells, Bd.ctCells]
 refine W_loopT (α := Nat × (List (List UInt8)) × (List (List UInt8))) (fun ⟨i, A, B⟩ => [(12, .isl (A.map txt) (.tok σ.rooms.length A.length 1)), (13, .isl (B.map txt) (.tok (σ.rooms.length + 1) B.length 1)), (14, I i)]) (fun ⟨i, A, B⟩ => σ.ext [some [.int .u64 b3], some [I x.school.route, wgs x.school.wings, I le, I (x.rules.most + 5000), I x.rules.gap, I x.scale.schools, I x.scale.matters, I x.scale.judges, I x.scale.drop, I x.scale.low, I x.scale.high, ints x.scale.order, ints x.city.town.rooms, .isl (x.city.town.streets.map Bd.stPV) .ro, .isl (x.city.town.groups.map Bd.grPV) .ro, I x.city.town.steps, I x.city.brk, ints x.city.sleep, .isl (x.funds.map Co.fdPV) .ro, I x.date], some [I lo, I hi]] [A.length, B.length]) (fun ⟨i, A, B⟩ => i ≤ p.length ∧ A = (cmdsN x.school.wings p z i).map cmdT ∧ B = dueN x.school.wings p i ∧ A.length ≤ 4 * i ∧ B.length ≤ 4 * i) (fun ⟨i, A, B⟩ => p.length - i) ((0, [], [])) rfl (by first | rfl | (simp only [go_sem]; done) | (simp only [go_sem]; rfl)) (⟨Nat.zero_le _, rfl, rfl, Nat.zero_le _, Nat.zero_le _⟩) ?_
 rintro ⟨i, A, B⟩ ⟨hi0, hA, hB, hAn, hBn⟩
 refine W_seq fun Z17 K17 => ?_
 refine W_sr [4, 5, 9, 11, 12, 13, 14, 80] fun R hR => ?_
 simp only [go_sem, Mk.scCells, Bd.ctCells]
 refine hR _ _ ?_; clear hR R
 try simp only [go_sem, Mk.scCells, Bd.ctCells]
 refine W_cond rfl (fun c2 => ?_) (fun c2 => ?_)
 ·
  try simp only [nrm] at c2
  have hi' : i < p.length := by omega
  obtain ⟨pi, hx⟩ : ∃ q, p[i]? = some q := ⟨p[i], by simp [hi']⟩
  have hpi : stW p i = pi := stW_at hx
  have hpib := hpb i hi'
  rw [hpi] at hpib
  have hiw : IntKind.i64.wrap ((i : Int) + 1) = ((i + 1 : Nat) : Int) := by rw [wrapI (by omega) (by omega)]; omega
  have hile : i + 1 ≤ x.school.wings.length := by omega
  obtain ⟨Lk, hLk⟩ : ∃ q, lsts (x.school.wings.take (i + 1)) (i + 1) = q := ⟨_, rfl⟩
  have hLl : Lk.length = i + 1 := by rw [← hLk]; exact lsts_len _ _
  have hLi : ((Lk.length : Int) != ((i + 1 : Nat) : Int)) = false := by rw [bne_eq_false_iff_eq]; omega
  have hL1 : i = 1 → Lk[1]? = some l2 := fun h => by rw [← hLk, ← hl2]; exact lsts_get h
  have hleast : ∀ τ, PC Tryz.prog Y 12 [.agg [I x.school.route, wgs (x.school.wings.take (i + 1))]] τ (.tuple [ints Lk, I 0]) τ := fun τ => by
   have h := Least_pc Y τ (takeSch x.school (i + 1)) (fun v hv => hV.l.nm v (List.mem_of_mem_take hv)) (by simp only [takeSch, List.length_take]; omega)
   rw [leasts_cut hV.s hpv.ok (by omega) (by omega), hLk] at h
   exact h
  have hzw : IntKind.i64.wrap (z + pi) = z + pi := wrapI (by omega) (by omega)
  have hA1 : cmdsN x.school.wings p z (i + 1) = cmdsN x.school.wings p z i ++ cmdI x.school.wings p z i := rfl
  have hB1 : dueN x.school.wings p (i + 1) = dueN x.school.wings p i ++ dueI x.school.wings p i := rfl
  refine W_skip (K17 _ _ ?_)
  refine W_seq fun Z19 K19 => ?_
  refine W_block ?_
  refine W_sr [4, 5, 9, 11, 12, 13, 14, 15] fun R hR => ?_
  simp only [go_sem, Mk.scCells, Bd.ctCells, hx]
  refine hR _ _ ?_; clear hR R
  try simp only [go_sem, Mk.scCells, Bd.ctCells, hx]
  refine W_sr [4, 5, 9, 11, 12, 13, 14, 15] fun R hR => ?_
  simp only [go_sem, Mk.scCells, Bd.ctCells, hx, hiw, hile, ← List.map_take]
  try simp (disch := (first | omega | (simp only [go_sem, List.length_append] <;> omega))) only [wrapI, wrapU, strAdd, slT, slTa, slTb]
  refine hR _ _ ?_; clear hR R
  try simp only [go_sem, Mk.scCells, Bd.ctCells, hx]
  refine W_sr [4, 5, 9, 11, 12, 13, 14, 16, 17] fun R hR => ?_
  simp only [go_sem, Mk.scCells, Bd.ctCells, hx]
  refine GCall_of (hleast _) ?_
  simp only [go_sem, Mk.scCells, Bd.ctCells, hx]
  refine hR _ _ ?_; clear hR R
  try simp only [go_sem, Mk.scCells, Bd.ctCells, hx]
  refine W_seq fun Z23 K23 => ?_
  refine W_sr [4, 5, 9, 11, 12, 13, 14, 16, 105] fun R hR => ?_
  simp only [go_sem, Mk.scCells, Bd.ctCells, hx, hiw, hLi, decide_true]
  try simp (disch := (first | omega | (simp only [go_sem, List.length_append] <;> omega))) only [wrapI, wrapU, strAdd, slT, slTa, slTb]
  refine hR _ _ ?_; clear hR R
  try simp only [go_sem, Mk.scCells, Bd.ctCells, hx]
  refine W_cond_false rfl ?_
  refine W_skip (K23 _ _ ?_)
  refine W_seq fun Z25 K25 => ?_
  refine W_seq fun Z26 K26 => ?_
  refine W_drawJ [4, 5, 9, 11, 12, 13, 14, 16, 123] [(123, .bool (early x.school.wings p i))] [0, 1, 2, 3, 4, 5, 6, 7, 8, 9, 10, 11, 12, 13, 14, 15, 16, 17] [] [[], [0], [0, 1], [0, 1, 2], [0, 1, 2, 3], [0, 1, 2, 3, 4], [0, 1, 2, 3, 4, 5], [0, 1, 2, 3, 4, 5, 6], [0, 1, 2, 3, 4, 5, 6, 7], [0, 1, 2, 3, 4, 5, 6, 7, 8], [0, 1, 2, 3, 4, 5, 6, 7, 8, 9], [0, 1, 2, 3, 4, 5, 6, 7, 8, 9, 10], [0, 1, 2, 3, 4, 5, 6, 7, 8, 9, 10, 11], [0, 1, 2, 3, 4, 5, 6, 7, 8], [0, 1, 2, 3, 4, 5, 6, 7, 8, 13], [0, 1, 2, 3, 4, 5, 6, 7, 8, 13, 14], [0, 1, 2, 3, 4, 5, 6, 7, 8, 9, 10, 11, 12, 13, 14, 15], [0, 1, 2, 3, 4, 5, 6, 7, 8, 9, 10, 11, 12, 13, 14, 15, 16]] mixed (by kernel_rfl) ?_ fun R hR => ?_
  ·refine K26 _ _ ?_
   simp only [go_sem, Mk.scCells, Bd.ctCells, hx]
   refine W_cond rfl (fun c3 => ?_) (fun c3 => ?_)
   ·
    try simp only [nrm] at c3
    have he := c3
    simp only [early, Bool.and_eq_true, decide_eq_true_eq, hl2, hpz] at he
    obtain ⟨hi1, he1, he2⟩ := he
    have hlb2 := hl2b (by omega)
    have hLx := hL1 hi1
    have hw1 : IntKind.i64.wrap (z + l2) = z + l2 := wrapI (by omega) (by omega)
    have hw2 : IntKind.i64.wrap (z + l2 - 1) = z + l2 - 1 := wrapI (by omega) (by omega)
    refine W_region [4, 5, 9, 11, 12, 13, 14] fun R hR => ?_
    simp only [go_sem, Mk.scCells, Bd.ctCells, hx, hw1, hw2, iaX_o hLx, elS_o hLx]
    try simp (disch := (first | omega | (simp only [go_sem, List.length_append] <;> omega))) only [wrapI, wrapU, strAdd, slT, slTa, slTb]
    refine GCall_of (Line_pc Y _ atT [z + l2 - 1] .exact (by decide) (by simp) (fits1 (by omega))) ?_
    simp only [go_sem, Mk.scCells, Bd.ctCells, hx, hw1, hw2, iaX_o hLx, elS_o hLx]
    try simp (disch := (first | omega | (simp only [go_sem, List.length_append] <;> omega))) only [wrapI, wrapU, appX_exact, appX_tok, strAdd, slT, slTa, slTb]
    try simp only [go_sem, Mk.scCells, Bd.ctCells, hx, hw1, hw2, iaX_o hLx, elS_o hLx]
    try simp (disch := (first | omega | (simp only [go_sem, List.length_append] <;> omega))) only [wrapI, wrapU, strAdd, slT, slTa, slTb]
    refine GCall_of (Line_pc Y _ errorT [12] .exact (by decide) (by simp) (fits1 (by omega))) ?_
    simp only [go_sem, Mk.scCells, Bd.ctCells, hx, hw1, hw2, iaX_o hLx, elS_o hLx]
    try simp (disch := (first | omega | (simp only [go_sem, List.length_append] <;> omega))) only [wrapI, wrapU, appX_exact, appX_tok, strAdd, slT, slTa, slTb]
    try simp only [go_sem, Mk.scCells, Bd.ctCells, hx, hw1, hw2, iaX_o hLx, elS_o hLx]
    refine hR _ _ (K25 _ _ ?_); clear hR R; try clear K25 Z25
    try simp only [go_sem, Mk.scCells, Bd.ctCells, hx, hw1, hw2, iaX_o hLx, elS_o hLx]
    refine W_region [4, 5, 9, 11, 12, 13, 14] fun R hR => ?_
    simp only [go_sem, Mk.scCells, Bd.ctCells, hx, hw1, hw2, iaX_o hLx, elS_o hLx, hzw]
    try simp (disch := (first | omega | (simp only [go_sem, List.length_append] <;> omega))) only [wrapI, wrapU, strAdd, slT, slTa, slTb]
    refine GCall_of (Line_pc Y _ atT [z + pi] .exact (by decide) (by simp) (fits1 (by omega))) ?_
    simp only [go_sem, Mk.scCells, Bd.ctCells, hx, hw1, hw2, iaX_o hLx, elS_o hLx, hzw]
    try simp (disch := (first | omega | (simp only [go_sem, List.length_append] <;> omega))) only [wrapI, wrapU, appX_exact, appX_tok, strAdd, slT, slTa, slTb]
    try simp only [go_sem, Mk.scCells, Bd.ctCells, hx, hw1, hw2, iaX_o hLx, elS_o hLx, hzw]
    try simp (disch := (first | omega | (simp only [go_sem, List.length_append] <;> omega))) only [wrapI, wrapU, appX_exact, appX_tok, strAdd, slT, slTa, slTb]
    try simp only [go_sem, Mk.scCells, Bd.ctCells, hx, hw1, hw2, iaX_o hLx, elS_o hLx, hzw]
    refine hR _ _ (K19 _ _ ?_); clear hR R; try clear K19 Z19
    try simp only [go_sem, Mk.scCells, Bd.ctCells, hx, hw1, hw2, iaX_o hLx, elS_o hLx]
    refine W_region [4, 5, 9, 11, 12, 13, 14] fun R hR => ?_
    simp only [go_sem, Mk.scCells, Bd.ctCells, hx, hw1, hw2, iaX_o hLx, elS_o hLx]
    try simp (disch := (first | omega | (simp only [go_sem, List.length_append] <;> omega))) only [wrapI, wrapU, strAdd, slT, slTa, slTb]
    refine hR _ _ ?_; clear hR R
    try simp only [go_sem, Mk.scCells, Bd.ctCells, hx, hw1, hw2, iaX_o hLx, elS_o hLx]
    refine ⟨(i + 1, A ++ [cmdT (.at (z + l2 - 1)), wingT, cmdT (.at (z + pi)), wingT], B ++ [okT, lineT errorT [12], okT, okT]), ?_, by (try simp only []); omega, ?_⟩
    ·refine Weak.trans (Weak.cutX 3 2 (by omega) (by omega) hcl (by simp only [go_sem, Mk.scCells, Bd.ctCells] <;> omega) (by simp only [go_sem, Mk.scCells, Bd.ctCells] <;> omega)) ?_
     simp only [go_sem]
     refine Weak.eq (by simp only [cmdT, wingT, okT, List.map_append, List.map_cons, List.map_nil, List.length_append, List.length_cons, List.length_nil, List.append_assoc, List.cons_append, List.nil_append, go_sem]; first | done | rfl) (by simp only [cmdT, wingT, okT, List.map_append, List.map_cons, List.map_nil, List.length_append, List.length_cons, List.length_nil, List.append_assoc, List.cons_append, List.nil_append, go_sem]; first | done | rfl)
    try dsimp only
    refine ⟨by omega, ?_, ?_, by simp; omega, by simp; omega⟩
    ·rw [hA1, List.map_append, ← hA]; unfold cmdI; rw [if_pos c3, hl2, hpi]; rfl
    rw [hB1, ← hB]; unfold dueI; rw [if_pos c3]; rfl
   try simp only [nrm] at c3
   refine W_skip (K25 _ _ ?_)
   refine W_region [4, 5, 9, 11, 12, 13, 14] fun R hR => ?_
   simp only [go_sem, Mk.scCells, Bd.ctCells, hx, hzw]
   try simp (disch := (first | omega | (simp only [go_sem, List.length_append] <;> omega))) only [wrapI, wrapU, strAdd, slT, slTa, slTb]
   refine GCall_of (Line_pc Y _ atT [z + pi] .exact (by decide) (by simp) (fits1 (by omega))) ?_
   simp only [go_sem, Mk.scCells, Bd.ctCells, hx, hzw]
   try simp (disch := (first | omega | (simp only [go_sem, List.length_append] <;> omega))) only [wrapI, wrapU, appX_exact, appX_tok, strAdd, slT, slTa, slTb]
   try simp only [go_sem, Mk.scCells, Bd.ctCells, hx, hzw]
   try simp (disch := (first | omega | (simp only [go_sem, List.length_append] <;> omega))) only [wrapI, wrapU, appX_exact, appX_tok, strAdd, slT, slTa, slTb]
   try simp only [go_sem, Mk.scCells, Bd.ctCells, hx, hzw]
   refine hR _ _ (K19 _ _ ?_); clear hR R; try clear K19 Z19
   try simp only [go_sem, Mk.scCells, Bd.ctCells, hx]
   refine W_region [4, 5, 9, 11, 12, 13, 14] fun R hR => ?_
   simp only [go_sem, Mk.scCells, Bd.ctCells, hx]
   try simp (disch := (first | omega | (simp only [go_sem, List.length_append] <;> omega))) only [wrapI, wrapU, strAdd, slT, slTa, slTb]
   refine hR _ _ ?_; clear hR R
   try simp only [go_sem, Mk.scCells, Bd.ctCells, hx]
   refine ⟨(i + 1, A ++ [cmdT (.at (z + pi)), wingT], B ++ [okT, okT]), ?_, by (try simp only []); omega, ?_⟩
   ·refine Weak.trans (Weak.cutX 3 2 (by omega) (by omega) hcl (by simp only [go_sem, Mk.scCells, Bd.ctCells] <;> omega) (by simp only [go_sem, Mk.scCells, Bd.ctCells] <;> omega)) ?_
    simp only [go_sem]
    refine Weak.eq (by simp only [cmdT, wingT, okT, List.map_append, List.map_cons, List.map_nil, List.length_append, List.length_cons, List.length_nil, List.append_assoc, List.cons_append, List.nil_append, go_sem]; first | done | rfl) (by simp only [cmdT, wingT, okT, List.map_append, List.map_cons, List.map_nil, List.length_append, List.length_cons, List.length_nil, List.append_assoc, List.cons_append, List.nil_append, go_sem]; first | done | rfl)
   try dsimp only
   refine ⟨by omega, ?_, ?_, by simp; omega, by simp; omega⟩
   ·rw [hA1, List.map_append, ← hA]; unfold cmdI; rw [if_neg (by rw [c3]; decide), hpi]; rfl
   rw [hB1, ← hB]; unfold dueI; rw [if_neg (by rw [c3]; decide)]; rfl
  simp only [go_sem, Mk.scCells, Bd.ctCells, hx]
  refine GWant_split (fun g1 => ?_) (fun g1 => ?_)
  ·try simp only [Bool.not_eq_true', Bool.not_eq_false'] at g1
   have n1 := g1; try simp only [nrm] at n1
   have hi1 : i = 1 := by
    have h : (i : Int) = 1 := by simpa using g1
    omega
   have hLx := hL1 hi1
   have hlb2 := hl2b (by omega)
   simp only [go_sem, Mk.scCells, Bd.ctCells, hx, iaX_o hLx, elS_o hLx, g1]
   refine GWant_split (fun g2 => ?_) (fun g2 => ?_)
   ·try simp only [Bool.not_eq_true', Bool.not_eq_false'] at g2
    have n2 := g2; try simp only [nrm] at n2
    have hl21 : l2 > 1 := by simpa using g2
    have hw0 : IntKind.i64.wrap (l2 - 1) = l2 - 1 := wrapI (by omega) (by omega)
    simp only [go_sem, Mk.scCells, Bd.ctCells, hx, iaX_o hLx, elS_o hLx, hw0, iaX_z hp1x, elS_z hp1x, g1, g2]
    try simp (disch := (first | omega | (simp only [go_sem, List.length_append] <;> omega))) only [wrapI, wrapU, strAdd, slT, slTa, slTb]
    try simp only [go_sem, Mk.scCells, Bd.ctCells, hx, iaX_o hLx, elS_o hLx, hw0, iaX_z hp1x, elS_z hp1x, g1, g2]
    try refine And.intro (by repeat' (first | refine And.intro ?_ ?_ | exact trivial | exact GOr_right (fun _ => by simp only [go_sem, Mk.scCells, Bd.ctCells, hx, iaX_o hLx, elS_o hLx, hw0, iaX_z hp1x, elS_z hp1x]))) ?_
    refine hR _ ?_
    all_goals try simp only [go_sem, Mk.scCells, Bd.ctCells, hx, iaX_o hLx, elS_o hLx, hw0, iaX_z hp1x, elS_z hp1x]
    all_goals
     first | rfl | (simp [early, hl2, hpz, *]; done) | (simp [early, hl2, hpz, *]; omega) | (simp [early, hl2, hpz, *]; intros; omega)
   try simp only [Bool.not_eq_true', Bool.not_eq_false'] at g2
   have n2 := g2; try simp only [nrm] at n2
   simp only [go_sem, Mk.scCells, Bd.ctCells, hx, iaX_o hLx, elS_o hLx, g1, g2]
   try simp (disch := (first | omega | (simp only [go_sem, List.length_append] <;> omega))) only [wrapI, wrapU, strAdd, slT, slTa, slTb]
   try simp only [go_sem, Mk.scCells, Bd.ctCells, hx, iaX_o hLx, elS_o hLx, g1, g2]
   try refine And.intro (by repeat' (first | refine And.intro ?_ ?_ | exact trivial | exact GOr_right (fun _ => by simp only [go_sem, Mk.scCells, Bd.ctCells, hx, iaX_o hLx, elS_o hLx]))) ?_
   refine hR _ ?_
   all_goals try simp only [go_sem, Mk.scCells, Bd.ctCells, hx, iaX_o hLx, elS_o hLx]
   all_goals
    first | rfl | (simp [early, hl2, hpz, *]; done) | (simp [early, hl2, hpz, *]; omega) | (simp [early, hl2, hpz, *]; intros; omega)
  try simp only [Bool.not_eq_true', Bool.not_eq_false'] at g1
  have n1 := g1; try simp only [nrm] at n1
  simp only [go_sem, Mk.scCells, Bd.ctCells, hx, g1]
  try simp (disch := (first | omega | (simp only [go_sem, List.length_append] <;> omega))) only [wrapI, wrapU, strAdd, slT, slTa, slTb]
  try simp only [go_sem, Mk.scCells, Bd.ctCells, hx, g1]
  try refine And.intro (by repeat' (first | refine And.intro ?_ ?_ | exact trivial | exact GOr_right (fun _ => by simp only [go_sem, Mk.scCells, Bd.ctCells, hx]))) ?_
  refine hR _ ?_
  all_goals try simp only [go_sem, Mk.scCells, Bd.ctCells, hx]
  all_goals
   first | rfl | (simp [early, hl2, hpz, *]; done) | (simp [early, hl2, hpz, *]; omega) | (simp [early, hl2, hpz, *]; intros; omega)
 try simp only [nrm] at c2
 have hie : i = p.length := by omega
 subst hie
 obtain ⟨hAl, hAc⟩ := hcok p.length (Nat.le_refl _)
 have hBl := dueN_len (ws := x.school.wings) (p := p) p.length
 have hsure : (lineT sureT [lo, hi]).length ≤ 100 := by
  have h1 := itoa_le21 (n := lo) (by omega)
  have h2 := itoa_le21 (n := hi) (by omega)
  simp only [lineT, sureT, List.length_append, List.length_cons, List.length_nil]; omega
 have hcs : (cmdsN x.school.wings p z p.length ++ [Cmd.lasts]).map cmdT = A ++ [lastsT] := by rw [hA, List.map_append]; rfl
 have hcs2 : ∀ c, c ∈ cmdsN x.school.wings p z p.length ++ [Cmd.lasts] → CmdOK c := fun c hc => by
  rcases List.mem_append.1 hc with hc | hc
  ·exact hAc c hc
  simp only [List.mem_singleton] at hc; subst hc; trivial
 have htx : ∀ q, q ∈ A ++ [lastsT] → q.length ≤ 24 := fun q hq => by
  rw [← hcs] at hq
  obtain ⟨c, hc, rfl⟩ := List.mem_map.1 hq
  exact cmdT_len (hcs2 c hc)
 have htl := textT_len htx
 have hAL : (A ++ [lastsT]).length ≤ 17 := by simp only [List.length_append, List.length_cons, List.length_nil]; omega
 have htl2 : (textT (A ++ [lastsT])).length ≤ 8000 := by
  have := Nat.mul_le_mul_left 25 hAL
  omega
 have hdu : ∀ q, q ∈ B ++ [lineT sureT [lo, hi]] → q.length ≤ 100 := fun q hq => by
  rcases List.mem_append.1 hq with hq | hq
  ·rw [hB] at hq; exact hBl.2 q hq
  simp only [List.mem_singleton] at hq; subst hq; exact hsure
 have hrun : ∀ τ, PC Tryz.prog Y 14 [diPV { x with rules := r' }, txt (textT (A ++ [lastsT]))] τ (.tuple [txt (textT (B ++ [lineT sureT [lo, hi]])), I 0]) τ := fun τ => by
  have h := Run_pc Y τ { x with rules := r' } (cmdsN x.school.wings p z p.length ++ [Cmd.lasts]) (hV.len r') ⟨hV.l.nm, by show x.school.wings.length ≤ 8; omega⟩ (hV.chk r' hrc) hcs2 (by simp) (by simp; omega) (textT (A ++ [lastsT])) (by rw [hcs]) htl2
  rw [run_plan (x := { x with rules := r' }) hpl hzb] at h
  rw [show lastsW ({ x with rules := r' } : Director).school p = (lo, hi) from hlw] at h
  rw [hB]
  exact h
 have htA : ∀ τ o, PC Tryz.prog Y 15 [.isl (A.map txt ++ [txt lastsT]) o] τ (txt (textT (A ++ [lastsT]))) τ := fun τ o => by
  have h := Text_pc Y τ (A ++ [lastsT]) o (by omega) (fun q hq => by have := htx q hq; omega)
  simp only [List.map_append, List.map_cons, List.map_nil] at h
  exact h
 have htB : ∀ τ o, PC Tryz.prog Y 15 [.isl (B.map txt ++ [txt (lineT sureT [lo, hi])]) o] τ (txt (textT (B ++ [lineT sureT [lo, hi]]))) τ := fun τ o => by
  have h := Text_pc Y τ (B ++ [lineT sureT [lo, hi]]) o (by simp only [List.length_append, List.length_cons, List.length_nil]; omega) (fun q hq => by have := hdu q hq; omega)
  simp only [List.map_append, List.map_cons, List.map_nil] at h
  exact h
 rw [hr'] at hrun
 refine W_exit ?_
 simp only [go_sem, Mk.scCells, Bd.ctCells]
 refine K15 _ _ ?_
 refine W_seq fun Z27 K27 => ?_
 refine W_draw [4, 12, 13] [0, 1, 2, 3, 4, 5, 6, 7, 8, 9, 10, 11, 12, 13] [(3, 2), (3, 11), (4, 2), (5, 2), (6, 2), (7, 2), (8, 2)] [[], [], [0, 1], [], [], [4], [], [6], [4, 5, 6, 7], [0, 1, 2, 4, 5, 6, 7, 8], [0, 1, 2, 4, 5, 6, 7, 8, 9], [0, 1, 2, 3, 4, 5, 6, 7, 8, 9, 10], [0, 1, 2, 3, 4, 5, 6, 7, 8, 9, 10, 11], [0, 1, 2, 3, 4, 5, 6, 7, 8, 9, 10, 11, 12]] mixed (by kernel_rfl) fun R hR => ?_
 simp only [go_sem, Mk.scCells, Bd.ctCells]
 try simp (disch := (first | omega | (simp only [go_sem, List.length_append] <;> omega))) only [wrapI, wrapU, appX_exact, appX_tok, strAdd, slT, slTa, slTb]
 try simp only [go_sem, Mk.scCells, Bd.ctCells]
 refine GCall_of (Line_pc Y _ sureT [lo, hi] .exact (by decide) (by simp) (fits2 (by omega) (by omega))) ?_
 simp only [go_sem, Mk.scCells, Bd.ctCells]
 try simp (disch := (first | omega | (simp only [go_sem, List.length_append] <;> omega))) only [wrapI, wrapU, appX_exact, appX_tok, strAdd, slT, slTa, slTb]
 try simp only [go_sem, Mk.scCells, Bd.ctCells]
 try refine And.intro (by repeat' (first | refine And.intro ?_ ?_ | exact trivial | exact GOr_right (fun _ => by simp only [go_sem, Mk.scCells, Bd.ctCells]))) ?_
 refine hR _ _ (K27 _ _ ?_); clear hR R; try clear K27 Z27
 try simp only [go_sem, Mk.scCells, Bd.ctCells]
 refine W_seq fun Z28 K28 => ?_
 refine W_draw [13, 18, 19] [0, 1, 2, 3, 4, 5, 6, 7, 8] [(0, 3)] [[], [], [1], [0, 1, 2], [0, 1, 2, 3], [0, 1, 2, 3, 4], [0, 1, 2, 3, 4], [0, 1, 2, 3, 4, 5], [0, 1, 2, 3, 4, 5, 6, 7]] mixed (by kernel_rfl) fun R hR => ?_
 simp only [go_sem, Mk.scCells, Bd.ctCells]
 refine GCall_of (htA _ _) ?_
 simp only [go_sem, Mk.scCells, Bd.ctCells]
 refine GCall_of (hrun _) ?_
 simp only [go_sem, Mk.scCells, Bd.ctCells]
 try refine And.intro (by repeat' (first | refine And.intro ?_ ?_ | exact trivial | exact GOr_right (fun _ => by simp only [go_sem, Mk.scCells, Bd.ctCells]))) ?_
 refine hR _ _ (K28 _ _ ?_); clear hR R; try clear K28 Z28
 try simp only [go_sem, Mk.scCells, Bd.ctCells]
 refine W_sr [2] fun R hR => ?_
 simp only [go_sem, Mk.scCells, Bd.ctCells]
 refine GCall_of (htB _ _) ?_
 simp only [go_sem, Mk.scCells, Bd.ctCells]
 refine GCall_of (deskAwake_pc Y _) ?_
 simp only [go_sem, Mk.scCells, Bd.ctCells]
 refine hR _ _ ?_; clear hR R
 try simp only [go_sem, Mk.scCells, Bd.ctCells]
 refine W_ret ?_
 simp only [go_sem, Mk.scCells, Bd.ctCells]
 refine ⟨.inr (by trivial), ?_⟩
 first | refine Fsa hcl rfl ?_ | refine Fse hcl rfl ?_
 try simp only [go_sem]
 all_goals
  first | rfl | simp
end Go.Proofs.YtpkkegbiddcodaaGreatDoor.Sd
namespace Go.Proofs.YtpkkegbiddcodaaGreatDoor
open Go
set_option maxRecDepth 100000
set_option maxHeartbeats 20000000 in
theorem TopStarted_facts : joinedFacts Tryz.pinned.checked.prog 3 Tryz.f3 Rows.topStartedSpec Rows.topStartedRow = true := by
 unfold joinedFacts
 repeat' (rw [Bool.and_eq_true]; apply And.intro)
 all_goals (as_aux_lemma => kernel_rfl)
open Go Go.RowKit
theorem knownErrSyntax {W : World} (h : laidMet Tryz.prog Rows.topStartedRow.laid W) : ∃ t x, W.cell? ⟨1, 0, none⟩ = some (.iface t x) := by
 obtain ⟨g, t, cs, fuel, p, hg, ht, hv, hd⟩ := Lib.laidMet.reads h (n := "strconv.ErrSyntax") (d := Rows.laid_strconv_ErrSyntax) (by simp [Rows.topStartedRow])
 obtain rfl := Option.some.inj ((show Tryz.prog.globalNamed "strconv.ErrSyntax" = some 1 by kernel_rfl).symm.trans hg)
 obtain rfl := Option.some.inj ((show (Tryz.prog.globals[1]?).map (·.type) = some 148 by kernel_rfl).symm.trans ht)
 obtain ⟨_, u, v, e1, _, _⟩ := iface_of_trod Tryz.underlying148 hd
 refine ⟨u, v, ?_⟩
 rw [World.var?_cell hg hv 0]
 have : cs.toList[0]? = some (.iface u v) := by rw [e1]; rfl
 simpa using this
theorem knownErrRange {W : World} (h : laidMet Tryz.prog Rows.topStartedRow.laid W) : ∃ t x, W.cell? ⟨2, 0, none⟩ = some (.iface t x) := by
 obtain ⟨g, t, cs, fuel, p, hg, ht, hv, hd⟩ := Lib.laidMet.reads h (n := "strconv.ErrRange") (d := Rows.laid_strconv_ErrRange) (by simp [Rows.topStartedRow])
 obtain rfl := Option.some.inj ((show Tryz.prog.globalNamed "strconv.ErrRange" = some 2 by kernel_rfl).symm.trans hg)
 obtain rfl := Option.some.inj ((show (Tryz.prog.globals[2]?).map (·.type) = some 148 by kernel_rfl).symm.trans ht)
 obtain ⟨_, u, v, e1, _, _⟩ := iface_of_trod Tryz.underlying148 hd
 refine ⟨u, v, ?_⟩
 rw [World.var?_cell hg hv 0]
 have : cs.toList[0]? = some (.iface u v) := by rw [e1]; rfl
 simpa using this
theorem knownTold {W : World} (h : laidMet Tryz.prog Rows.topStartedRow.laid W) : ∀ (k : Nat) (s : ByteArray), toldL[k]? = some s → W.cell? ⟨4, k, none⟩ = some (.string s) := by
 obtain ⟨g, t, cs, fuel, p, hg, ht, hv, hd⟩ := Lib.laidMet.reads h (n := "bateria/night.told") (d := Rows.laid_bateria_night_told) (by simp [Rows.topStartedRow])
 obtain rfl := Option.some.inj ((show Tryz.prog.globalNamed "bateria/night.told" = some 4 by kernel_rfl).symm.trans hg)
 obtain rfl := Option.some.inj ((show (Tryz.prog.globals[4]?).map (·.type) = some 361 by kernel_rfl).symm.trans ht)
 obtain ⟨xs, m, rfl, hx, hl, hn, he⟩ := DataW.trod_array Tryz.underlying361 hd
 have hc9 : Tryz.prog.cellsOf 9 = 1 := by kernel_rfl
 have hc : cs.toList.length = 4 := hl.trans (by kernel_rfl)
 have hxs : xs.map (·.1) = [.lit (.string []), .lit (.string [115, 117, 114, 101]), .lit (.string [110, 101, 118, 101, 114]), .lit (.string [111, 112, 101, 110])] := by
  have := (Prod.mk.inj hx).1
  rw [Rows.laid_bateria_night_told] at this
  injection this with this
  exact this.symm
 have at1 : ∀ (k : Nat) (bs : List UInt8), k < 4 → (xs.map (·.1))[k]? = some (.lit (.string bs)) → W.cell? ⟨4, k, none⟩ = some (.string ⟨bs.toArray⟩) := by
  intro k bs hk hb
  rw [List.getElem?_map, Option.map_eq_some_iff] at hb
  obtain ⟨x, hx1, hx2⟩ := hb
  have h1 := he k hk
  rw [hx1, hc9, Nat.mul_one] at h1
  obtain ⟨s, e1, e2, _⟩ := DataW.trod_string Tryz.underlying9 h1
  rw [e2] at hx2
  simp only at hx2
  injection hx2 with hx2
  injection hx2 with hx2
  rw [World.var?_cell hg hv k]
  have h2 : cs.toList[k]? = some (.string s) := by
   have h3 : ((cs.toList.drop k).take 1)[0]? = some (.string s) := by rw [e1]; rfl
   rw [List.getElem?_take_of_lt (by omega), List.getElem?_drop, Nat.add_zero] at h3
   exact h3
  have h4 : s = ⟨bs.toArray⟩ := by rw [← hx2]
  rw [← h4]
  simpa using h2
 intro k s hs
 have hk : k < 4 := (List.getElem?_eq_some_iff.1 hs).1
 have : k = 0 ∨ k = 1 ∨ k = 2 ∨ k = 3 := by omega
 rcases this with rfl | rfl | rfl | rfl
 ·injection hs with hs; subst hs; exact at1 0 _ (by decide) (by rw [hxs]; rfl)
 ·injection hs with hs; subst hs; exact at1 1 _ (by decide) (by rw [hxs]; rfl)
 ·injection hs with hs; subst hs; exact at1 2 _ (by decide) (by rw [hxs]; rfl)
 injection hs with hs; subst hs; exact at1 3 _ (by decide) (by rw [hxs]; rfl)
theorem knownMax {W : World} (hsh : W.ShapedOpen Tryz.prog) : ∃ m, W.cell? ⟨0, 0, none⟩ = some (.int .i64 m) :=
 cell_of_shapedOpen_int (P := Tryz.prog) (g := 0) (t := 3) (zero := #[.int .i64 0]) hsh (of_decide_eq_true (by kernel_rfl)) (by kernel_rfl) rfl (by kernel_rfl) (by kernel_rfl) Tryz.underlying3
/-- What the listed variables give. -/
theorem known (W : World) (hsh : W.ShapedOpen Tryz.prog) (h : laidMetH Tryz.prog Rows.topStartedRow.laid W) : Known Tryz.prog W := by
 rw [MakeChecks.laidMetH_plain _ _ _ (by kernel_rfl)] at h
 have hg : Tryz.prog.globalNamed "internal/strconv.uint64pow10" = some 3 := by kernel_rfl
 have h2 := h.filter (fun x => x.1 == "internal/strconv.uint64pow10")
 rw [show (Rows.topStartedRow.laid.filter fun x => x.1 == "internal/strconv.uint64pow10") = [("internal/strconv.uint64pow10", Lib.tabData .u64 Lib.pow10Tab)] by kernel_rfl] at h2
 obtain ⟨t, f, hh⟩ := known_tab (Lib.tabIs_of_head (t := 352) (e := 98) (n := 20) hg (by kernel_rfl) (by kernel_rfl) (by kernel_rfl) (by kernel_rfl) (by kernel_rfl) h2) hg
 have _ := hsh
 refine ⟨[(3, .whole pow10A)], fun b s hb => ?_, fun k hk => ?_, fun k hk => ?_, knownTold h, fun q n hn k hk => ?_⟩
 ·simp only [List.mem_singleton, Prod.mk.injEq] at hb
  obtain ⟨rfl, rfl⟩ := hb
  exact ⟨(Array.getElem?_eq_some_iff.1 hh).1, t, f, hh⟩
 ·obtain rfl := Option.some.inj (hg.symm.trans hk)
  exact List.mem_singleton.2 rfl
 ·obtain rfl := Option.some.inj ((show Tryz.prog.globalNamed "internal/bytealg.MaxLen" = some 0 by kernel_rfl).symm.trans hk)
  exact knownMax hsh
 simp only [List.mem_cons, List.not_mem_nil, or_false] at hn
 rcases hn with rfl | rfl
 ·obtain rfl := Option.some.inj ((show Tryz.prog.globalNamed "strconv.ErrSyntax" = some 1 by kernel_rfl).symm.trans hk)
  exact knownErrSyntax h
 obtain rfl := Option.some.inj ((show Tryz.prog.globalNamed "strconv.ErrRange" = some 2 by kernel_rfl).symm.trans hk)
 exact knownErrRange h
theorem rdTopStartedArgs : All2 (fun t R => Rd Tryz.prog t R) Tryz.f3.params.toList [fun p => ∃ xs : List Int, p = ints xs ∧ xs.length * 8 ≤ 140737488351232] :=
 .cons rdInts .nil
set_option maxHeartbeats 4000000 in
theorem TopStarted_walk : ∀ qs, AllR [fun p => ∃ xs : List Int, p = ints xs ∧ xs.length * 8 ≤ 140737488351232] qs → ∃ σ', PC Tryz.prog noY 3 qs Sg.zero (.bool true) σ' := by
 intro qs hq
 obtain ⟨px0, qs, rfl, ⟨x0, hx0, sx0⟩, hq⟩ := allR_cons hq
 obtain rfl := allR_nil hq
 subst hx0
 exact ⟨_, Sd.TopStarted_pc noY _ x0 (by omega)⟩
theorem TopStarted_lifted (os : Os) (started : os.Started) (H : Type) (enc : TypeId × Value → H) :
 ReturnsInHanded {} Tryz.checked os 3 .any (fun w args => (Rows.topStartedSpec.pre enc Tryz.prog Tryz.f3 Rows.topStartedRow.domain false w args ∧ laidMetH Tryz.prog Rows.topStartedRow.laid w) ∧ sizedMet enc Tryz.prog Tryz.f3 (OpenSpec.ofChange Rows.topStartedSpec) false w args)
  (Rows.topStartedSpec.post enc Tryz.prog Tryz.f3 false true false false) :=
 law_laid (C := Tryz.checked) own started (by kernel_rfl) Tryz.func3 rfl laidOut (by kernel_rfl) rdTopStartedArgs rfl Tryz.underlying4
  (fun ds h => match ds, h with | [_], _ => rfl)
  (ChangeSpec.witness_shaped (enc := enc) (C := Tryz.checked) (os := os) (X := fun w _ => laidMetH Tryz.prog Rows.topStartedRow.laid w) false (World.laidAll Tryz.prog os Rows.topStartedRow.laid) #[.slice none 0 0] 8 (World.laidAll_os _ _ _)
   (World.shaped_of_ZipB (by kernel_rfl) (by kernel_rfl)) (by kernel_rfl) (by kernel_rfl) (by kernel_rfl)
   (by rw [MakeChecks.laidMetH_plain _ _ _ (by kernel_rfl)]; exact laidMet_laidAll _ (by kernel_rfl) (by kernel_rfl)))
  known TopStarted_walk
theorem TopStarted_row : Rows.TopStartedSaid :=
 OpenClaim.holds_of_wide 3 Tryz.f3 rfl rfl rfl rfl rfl rfl rfl ⟨rfl, rfl, rfl, rfl, rfl⟩ rfl rfl rfl rfl rfl (by kernel_rfl) Tryz.func3 TopStarted_facts
  (of_decide_eq_true (by kernel_rfl)) (by unfold Func.isWrapper; first | (rw [if_pos (by decide +kernel)]; kernel_rfl) | (rw [if_neg (by decide +kernel)]; exact ⟨rfl, rfl⟩))
  (fun os started H enc _ => TopStarted_lifted os started H enc)
theorem TopStarted_holds : Rows.TopStartedCardSaid :=
 Claim7.holds_tied_plain_at .later [] [.data, .data, .data, .data, .sentinel, .sentinel, .data, .pinned] true (true, "ed2a7a2dd28182f598c7e68d09992f8c917b62b4f7cc91f60c0fab9390c22103") true
  TopStarted_row (fun _ h => by cases h) (by kernel_rfl) (fun _ h => by cases h) topStarted_row_tie rfl ⟨rfl, rfl⟩ (by kernel_rfl) rfl
  (fun f fn hf hfn => by
   obtain rfl : f = 3 := Option.some.inj (hf.symm.trans (by kernel_rfl))
   obtain rfl : fn = Tryz.f3 := (Option.some.inj (Tryz.func3.symm.trans hfn)).symm
   refine ⟨by kernel_rfl, fun j t ht => ?_⟩
   have hall : (Tryz.f3.params.toList.all fun t => !(Tryz.prog.wantsStandIn t)) = true := by kernel_rfl
   have hm : t ∈ Tryz.f3.params.toList := Array.mem_toList_iff.2 (Array.mem_of_getElem? ht)
   show Tryz.prog.wantsStandIn t = false
   simpa using List.all_eq_true.1 hall t hm)
  (by kernel_rfl)
end Go.Proofs.YtpkkegbiddcodaaGreatDoor
