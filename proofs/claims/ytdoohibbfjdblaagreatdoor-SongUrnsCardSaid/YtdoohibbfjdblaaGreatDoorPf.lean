/-
  Walks: contests and ballots made of numbers (bateriakit).
  Walks: the chapter's examples checked (song).
  Regions that draw their order, two operations of which may come in either order: both are walked.
  Builders: one is made; what it holds becomes a string.
  Builders and decimal numerals, as the library makes them.
  Texts, plainly: parts between separators; numerals.
  Parts of texts, and numbers out of texts, as the library makes them.
  Rows of a word and numbers, plainly: written and read back.
  Walks: rows, parts of texts, numbers (the document's).
  Urns, plainly: what is written of a contest and ballots, what is read of a text; both ways.
  Walks: numbers behind a word (the document's); lengths.
  Walks: urns are written (the document's).
  Walks: a builder is written to; what it holds becomes a string.
  Builders among a walk's variables: written to, read.
  Walk: a builder is written a byte.
  Walk: a row is written into a builder (the program's closure).
  Walk: urns are written (the program's).
  Walks: a number taken into bounds; a text that is blotted.
  Walk: urns are read (the document's).
-/
import Derived.Test.YtdoohibbfjdblaaGreatDoorPe
import Derived.CallsIn
import Derived.RangeFuncLeaves
import Derived.RangeFuncRecord
import Derived.OrdersIn
import Derived.Below
import Derived.Laws.World
import Derived.Laws.StructEq
import Derived.Laws.BytesString
import Derived.Laws.Append
import Derived.MapKept
import Derived.ProofKit
import Derived.Carry
import Derived.Handed
import Derived.ChangeCalls
import Derived.Stop.Joined
import Derived.Lib.LaidTab
import Derived.Shelf.Strconv.Itoa3
import Derived.RangeFuncIn
import Derived.RangeFuncNested
import Derived.Test.YtdoohibbfjdblaaGreatDoorProg
import Derived.KernelRfl
import Derived.IntWalk
import Derived.Sort.OwnSortedInts
import Derived.Lib.SlicesCompact
import Derived.Test.YtdoohibbfjdblaaGreatDoorRows
import Derived.Shelf.Sort.Plain
import Derived.Shelf.Slices.In.SortNone
import Derived.Shelf.Small.Bits
import Derived.Shelf.Strings.Builder1
import Derived.Lib.SplitLaws
import Derived.Lib.AtoiAll
import Derived.Lib.ItoaNum
import Derived.Lib.IndexBytes
import Derived.Shelf.Strings.Split
import Derived.Shelf.Strconv.AtoiAll
import Derived.Lib.AtoiErrMem
import Derived.Lib.ItoaLen
import Derived.Lib.AtoiAllCases
import Derived.Test.YtdoohibbfjdblaaGreatDoorCards
import Derived.Test.YtdoohibbfjdblaaGreatDoorTie
import Derived.JoinedOf
import Derived.LaidMore
import Derived.LaidSub
import Derived.Lay
import Derived.SevenTiedAt
import Derived.Lib.LaidU8
import Derived.Shelf.Vars
set_option linter.unusedSimpArgs false
set_option linter.unusedVariables false
namespace Go.Proofs.YtdoohibbfjdblaaGreatDoor
open Go Go.RowKit
set_option maxRecDepth 100000
set_option maxHeartbeats 8000000 in
theorem ContestOf_pc (Y : YEnv) (σ : Sg) (d : Nat) (b : Int) (hd : σ.store[d]? = some (some [.int .u64 b])) (songs juries members : Int) (h1 : 1 ≤ songs ∧ songs ≤ 1000) (h2 : 0 ≤ juries ∧ juries ≤ 1000) (h3 : 0 ≤ members ∧ members ≤ 1000) :
 PC Tryz.prog Y 26 [.ptr d 0, I songs, I juries, I members] σ (cnPV (contestD songs juries members b).1) (σ.setVar d [.int .u64 (contestD songs juries members b).2]) := by
 refine PC_of_W Tryz.func26 rfl (by kernel_rfl) Tryz.ntmps26 (by simp) fun hcl hca => ?_
 have hlt := lt_of_get hd
 obtain ⟨s, hs⟩ : ∃ zz, (mid 1 songs b).1 = zz := ⟨_, rfl⟩
 obtain ⟨b1, hb1⟩ : ∃ zz, (mid 1 songs b).2 = zz := ⟨_, rfl⟩
 have ds := mid_bd 1 songs h1.1 b
 simp only [hs] at ds
 obtain ⟨j, hj⟩ : ∃ zz, (roll (juries + 1) b1).1 = zz := ⟨_, rfl⟩
 obtain ⟨b2, hb2⟩ : ∃ zz, (roll (juries + 1) b1).2 = zz := ⟨_, rfl⟩
 have dj := roll_bd (juries + 1) b1
 simp only [hj] at dj
 obtain ⟨m, hm⟩ : ∃ zz, (roll (members + 1) b2).1 = zz := ⟨_, rfl⟩
 obtain ⟨b3, hb3⟩ : ∃ zz, (roll (members + 1) b2).2 = zz := ⟨_, rfl⟩
 have dm := roll_bd (members + 1) b2
 simp only [hm] at dm
 obtain ⟨mo, hmo⟩ : ∃ zz, (anyOf [0, 2, 10] b3).1 = zz := ⟨_, rfl⟩
 obtain ⟨b4, hb4⟩ : ∃ zz, (anyOf [0, 2, 10] b3).2 = zz := ⟨_, rfl⟩
 have dmo := anyOf_mem [0, 2, 10] (by simp) b3
 simp only [hmo] at dmo
 obtain ⟨kz, hkz⟩ : ∃ zz, (mid 1 3 b4).1 = zz := ⟨_, rfl⟩
 obtain ⟨b5, hb5⟩ : ∃ zz, (mid 1 3 b4).2 = zz := ⟨_, rfl⟩
 have dkz := mid_bd 1 3 (by omega) b4
 simp only [hkz] at dkz
 obtain ⟨kn, hkn⟩ : ∃ z : Nat, kz = z := ⟨kz.toNat, by omega⟩
 subst hkn
 obtain ⟨rs, hrs⟩ : ∃ z, roundsC kn s [] b5 = z := ⟨_, rfl⟩
 have hdef : contestD songs juries members b = (⟨s, j, m, mo, rs.1⟩, rs.2) := by simp only [contestD, dbind, dret, hs, hb1, hj, hb2, hm, hb3, hmo, hb4, hkz, hb5, Int.toNat_natCast, hrs]
 rw [hdef]
 refine W_sr [0, 1, 2, 3, 8] fun R hR => ?_
 simp only [go_sem, ldS_at hd, stX_at hd, ldS_sv hlt, stX_sv hlt, sv_ext hlt, sv_ext_sv hlt, hs, hb1, hj, hb2, hm, hb3, hmo, hb4, hkz, hb5]
 refine hR _ _ ?_; clear hR R
 try simp only [go_sem, ldS_at hd, stX_at hd, ldS_sv hlt, stX_sv hlt, sv_ext hlt, sv_ext_sv hlt, hs, hb1, hj, hb2, hm, hb3, hmo, hb4, hkz, hb5]
 refine W_sr [0, 8, 9] fun R hR => ?_
 simp only [go_sem, ldS_at hd, stX_at hd, ldS_sv hlt, stX_sv hlt, sv_ext hlt, sv_ext_sv hlt, hs, hb1, hj, hb2, hm, hb3, hmo, hb4, hkz, hb5]
 refine GCall_of (Mid_pc Y _ d b (by first | exact hd | exact sv_get hlt | exact get_svx hlt | exact get_extx hd) 1 songs (by omega) (by omega) (by omega) (by omega)) ?_
 simp only [go_sem, ldS_at hd, stX_at hd, ldS_sv hlt, stX_sv hlt, sv_ext hlt, sv_ext_sv hlt, hs, hb1, hj, hb2, hm, hb3, hmo, hb4, hkz, hb5]
 try simp (disch := omega) only [wrapI]
 try simp (disch := omega) only [wrapI, wrapU]
 refine GCall_of (Roll_pc Y _ d b1 (by first | exact hd | exact sv_get hlt | exact get_svx hlt | exact get_extx hd) (juries + 1) (by omega)) ?_
 simp only [go_sem, ldS_at hd, stX_at hd, ldS_sv hlt, stX_sv hlt, sv_ext hlt, sv_ext_sv hlt, hs, hb1, hj, hb2, hm, hb3, hmo, hb4, hkz, hb5]
 try simp (disch := omega) only [wrapI]
 try simp (disch := omega) only [wrapI, wrapU]
 refine GCall_of (Roll_pc Y _ d b2 (by first | exact hd | exact sv_get hlt | exact get_svx hlt | exact get_extx hd) (members + 1) (by omega)) ?_
 simp only [go_sem, ldS_at hd, stX_at hd, ldS_sv hlt, stX_sv hlt, sv_ext hlt, sv_ext_sv hlt, hs, hb1, hj, hb2, hm, hb3, hmo, hb4, hkz, hb5]
 try simp (disch := omega) only [wrapI, wrapU]
 refine GCall_of (Any_pc Y _ d b3 (by first | exact hd | exact sv_get hlt | exact get_svx hlt | exact get_extx hd) [0, 2, 10] (by simp) (by simp)) ?_
 simp only [go_sem, ldS_at hd, stX_at hd, ldS_sv hlt, stX_sv hlt, sv_ext hlt, sv_ext_sv hlt, hs, hb1, hj, hb2, hm, hb3, hmo, hb4, hkz, hb5]
 try simp (disch := omega) only [wrapI, wrapU]
 refine hR _ _ ?_; clear hR R
 try simp only [go_sem, ldS_at hd, stX_at hd, ldS_sv hlt, stX_sv hlt, sv_ext hlt, sv_ext_sv hlt, hs, hb1, hj, hb2, hm, hb3, hmo, hb4, hkz, hb5]
 refine W_sr [0, 8, 9, 10] fun R hR => ?_
 simp only [go_sem, ldS_at hd, stX_at hd, ldS_sv hlt, stX_sv hlt, sv_ext hlt, sv_ext_sv hlt, hs, hb1, hj, hb2, hm, hb3, hmo, hb4, hkz, hb5]
 refine hR _ _ ?_; clear hR R
 try simp only [go_sem, ldS_at hd, stX_at hd, ldS_sv hlt, stX_sv hlt, sv_ext hlt, sv_ext_sv hlt, hs, hb1, hj, hb2, hm, hb3, hmo, hb4, hkz, hb5]
 refine W_seq fun Z4 K4 => ?_
 refine W_sr [0, 8, 9, 10, 11] fun R hR => ?_
 simp only [go_sem, ldS_at hd, stX_at hd, ldS_sv hlt, stX_sv hlt, sv_ext hlt, sv_ext_sv hlt, hs, hb1, hj, hb2, hm, hb3, hmo, hb4, hkz, hb5]
 refine GCall_of (Mid_pc Y _ d b4 (by first | exact hd | exact sv_get hlt | exact get_svx hlt | exact get_extx hd) 1 3 (by omega) (by omega) (by omega) (by omega)) ?_
 simp only [go_sem, ldS_at hd, stX_at hd, ldS_sv hlt, stX_sv hlt, sv_ext hlt, sv_ext_sv hlt, hs, hb1, hj, hb2, hm, hb3, hmo, hb4, hkz, hb5]
 refine hR _ _ ?_; clear hR R
 try simp only [go_sem, ldS_at hd, stX_at hd, ldS_sv hlt, stX_sv hlt, sv_ext hlt, sv_ext_sv hlt, hs, hb1, hj, hb2, hm, hb3, hmo, hb4, hkz, hb5]
 refine W_block ?_
 refine W_weak (Weak.roomSV (j := 1) (off := 4) (es := 3) rfl rfl (by simp)) ?_
 simp only [go_sem, ldS_at hd, stX_at hd, ldS_sv hlt, stX_sv hlt, sv_ext hlt, sv_ext_sv hlt, hs, hb1, hj, hb2, hm, hb3, hmo, hb4, hkz, hb5]
 refine W_loopT (α := Nat × Int × (List Rnd) × Int) (fun ⟨k, kp, acc, bb⟩ => [(10, I kp), (11, I k)]) (fun ⟨k, kp, acc, bb⟩ => (σ.setVar d [.int .u64 bb]).ext [some [I 0, I 0, I 0, I 0, .isl [] .exact], some [I s, I j, I m, I mo, .isl (acc.map rdPV) (.tok σ.rooms.length acc.length 3)]] [acc.length]) (fun ⟨k, kp, acc, bb⟩ => (1 ≤ kp ∧ kp ≤ 1000) ∧ acc.length + k = kn ∧ roundsC k kp acc bb = rs) (fun ⟨k, kp, acc, bb⟩ => k) ((kn, s, [], b5)) rfl (by first | rfl | (simp only [go_sem]; done) | (simp only [go_sem]; rfl)) (⟨by omega, by simp, hrs⟩) ?_
 rintro ⟨k, kp, acc, bb⟩ ⟨hkp, hal, hinv⟩
 refine W_seq fun Z6 K6 => ?_
 refine W_sr [0, 8, 9, 10, 11, 32] fun R hR => ?_
 simp only [go_sem, ldS_at hd, stX_at hd, ldS_sv hlt, stX_sv hlt, sv_ext hlt, sv_ext_sv hlt, hs, hb1, hj, hb2, hm, hb3, hmo, hb4, hkz, hb5]
 refine hR _ _ ?_; clear hR R
 try simp only [go_sem, ldS_at hd, stX_at hd, ldS_sv hlt, stX_sv hlt, sv_ext hlt, sv_ext_sv hlt, hs, hb1, hj, hb2, hm, hb3, hmo, hb4, hkz, hb5]
 refine W_cond rfl (fun c1 => ?_) (fun c1 => ?_)
 ·
  try simp only [nrm] at c1
  obtain ⟨k, rfl⟩ : ∃ z, k = z + 1 := ⟨k - 1, by first | omega | (simp at c1; omega)⟩
  simp only [roundsC] at hinv
  have hk1 : ((k + 1 : Nat) : Int) - 1 = (k : Int) := by omega
  refine W_skip (K6 _ _ ?_)
  refine W_seq fun Z8 K8 => ?_
  refine W_block ?_
  refine W_seq fun Z9 K9 => ?_
  refine W_sr [0, 8, 9, 10, 11, 36] fun R hR => ?_
  simp only [go_sem, ldS_at hd, stX_at hd, ldS_sv hlt, stX_sv hlt, sv_ext hlt, sv_ext_sv hlt, hs, hb1, hj, hb2, hm, hb3, hmo, hb4, hkz, hb5]
  refine hR _ _ ?_; clear hR R
  try simp only [go_sem, ldS_at hd, stX_at hd, ldS_sv hlt, stX_sv hlt, sv_ext hlt, sv_ext_sv hlt, hs, hb1, hj, hb2, hm, hb3, hmo, hb4, hkz, hb5]
  refine W_cond rfl (fun c2 => ?_) (fun c2 => ?_)
  ·
   try simp only [nrm] at c2
   have hk0 : k = 0 := by omega
   subst hk0
   rw [if_pos rfl] at hinv
   obtain ⟨bq, rfl⟩ : ∃ z, z = bb := ⟨bb, rfl⟩
   obtain ⟨ra, hra⟩ : ∃ zz, (roll 4 bq).1 = zz := ⟨_, rfl⟩
   obtain ⟨b8, hb8⟩ : ∃ zz, (roll 4 bq).2 = zz := ⟨_, rfl⟩
   have dra := roll_bd 4 bq
   simp only [hra] at dra
   obtain ⟨rb, hrb⟩ : ∃ zz, (roll 5 b8).1 = zz := ⟨_, rfl⟩
   obtain ⟨b9, hb9⟩ : ∃ zz, (roll 5 b8).2 = zz := ⟨_, rfl⟩
   have drb := roll_bd 5 b8
   simp only [hrb] at drb
   simp only [dbind, hra, hb8, hrb, hb9] at hinv
   refine W_region [0, 8, 9, 10, 11] fun R hR => ?_
   simp only [go_sem, ldS_at hd, stX_at hd, ldS_sv hlt, stX_sv hlt, sv_ext hlt, sv_ext_sv hlt, hs, hb1, hj, hb2, hm, hb3, hmo, hb4, hkz, hb5, hra, hb8, hrb, hb9]
   refine hR _ _ (K9 _ _ ?_); clear hR R; try clear K9 Z9
   try simp only [go_sem, ldS_at hd, stX_at hd, ldS_sv hlt, stX_sv hlt, sv_ext hlt, sv_ext_sv hlt, hs, hb1, hj, hb2, hm, hb3, hmo, hb4, hkz, hb5, hra, hb8, hrb, hb9]
   refine W_draw [0, 8, 9, 10, 11] [0, 1, 2, 3, 4, 5, 6, 7, 8, 9, 10, 11] [(0, 6), (0, 9), (1, 6), (1, 9), (2, 6), (2, 9), (5, 4)] [[], [0], [], [], [3], [], [3, 4, 5], [2, 3, 4, 5, 6], [2, 3, 4, 5, 6, 7], [0, 1, 2, 3, 4, 5, 6, 7, 8], [0, 1, 2, 3, 4, 5, 6, 7, 8, 9], [0, 1, 2, 3, 4, 5, 6, 7, 8, 9, 10]] mixed (by kernel_rfl) fun R hR => ?_
   simp only [go_sem, ldS_at hd, stX_at hd, ldS_sv hlt, stX_sv hlt, sv_ext hlt, sv_ext_sv hlt, hs, hb1, hj, hb2, hm, hb3, hmo, hb4, hkz, hb5, hra, hb8, hrb, hb9]
   refine GCall_of (Roll_pc Y _ d bq (by first | exact hd | exact sv_get hlt | exact get_svx hlt | exact get_extx hd) 4 (by omega)) ?_
   simp only [go_sem, ldS_at hd, stX_at hd, ldS_sv hlt, stX_sv hlt, sv_ext hlt, sv_ext_sv hlt, hs, hb1, hj, hb2, hm, hb3, hmo, hb4, hkz, hb5, hra, hb8, hrb, hb9]
   refine GCall_of (Roll_pc Y _ d b8 (by first | exact hd | exact sv_get hlt | exact get_svx hlt | exact get_extx hd) 5 (by omega)) ?_
   simp only [go_sem, ldS_at hd, stX_at hd, ldS_sv hlt, stX_sv hlt, sv_ext hlt, sv_ext_sv hlt, hs, hb1, hj, hb2, hm, hb3, hmo, hb4, hkz, hb5, hra, hb8, hrb, hb9]
   try simp (disch := first | omega | (simp only [go_sem] <;> omega)) only [wrapI, wrapU, appX_exact, appX_tok]
   try simp only [go_sem, ldS_at hd, stX_at hd, ldS_sv hlt, stX_sv hlt, sv_ext hlt, sv_ext_sv hlt, hs, hb1, hj, hb2, hm, hb3, hmo, hb4, hkz, hb5, hra, hb8, hrb, hb9]
   try refine And.intro (by repeat' (first | refine And.intro ?_ ?_ | exact GOr_right (fun _ => by simp only [go_sem, ldS_at hd, stX_at hd, ldS_sv hlt, stX_sv hlt, sv_ext hlt, sv_ext_sv hlt, hs, hb1, hj, hb2, hm, hb3, hmo, hb4, hkz, hb5, hra, hb8, hrb, hb9]))) ?_
   refine hR _ _ (K8 _ _ ?_); clear hR R; try clear K8 Z8
   try simp only [go_sem, ldS_at hd, stX_at hd, ldS_sv hlt, stX_sv hlt, sv_ext hlt, sv_ext_sv hlt, hs, hb1, hj, hb2, hm, hb3, hmo, hb4, hkz, hb5, hra, hb8, hrb, hb9]
   refine W_region [0, 8, 9, 10, 11] fun R hR => ?_
   simp only [go_sem, ldS_at hd, stX_at hd, ldS_sv hlt, stX_sv hlt, sv_ext hlt, sv_ext_sv hlt, hs, hb1, hj, hb2, hm, hb3, hmo, hb4, hkz, hb5, hra, hb8, hrb, hb9]
   try simp (disch := omega) only [wrapI, wrapU]
   refine hR _ _ ?_; clear hR R
   try simp only [go_sem, ldS_at hd, stX_at hd, ldS_sv hlt, stX_sv hlt, sv_ext hlt, sv_ext_sv hlt, hs, hb1, hj, hb2, hm, hb3, hmo, hb4, hkz, hb5, hra, hb8, hrb, hb9]
   refine ⟨(0, 1, acc ++ [⟨1, ra, rb⟩], b9), ?_, by (try simp only []); omega, ?_⟩
   ·refine Weak.eq ?_ ?_
    ·first | (simp only [hk1, List.map_append, List.map_cons, List.map_nil, List.length_append, List.length_cons, List.length_nil]; first | done | rfl) | (simp only [List.map_append, List.map_cons, List.map_nil, List.length_append, List.length_cons, List.length_nil]; first | done | rfl)
    simp only [List.map_append, List.map_cons, List.map_nil, List.length_append, List.length_cons, List.length_nil]; first | done | rfl
   try dsimp only
   exact ⟨by omega, by simp; omega, hinv⟩
  try simp only [nrm] at c2
  rw [if_neg (by omega)] at hinv
  obtain ⟨kq, hkq⟩ : ∃ zz, (mid 1 kp bb).1 = zz := ⟨_, rfl⟩
  obtain ⟨bq, hbq⟩ : ∃ zz, (mid 1 kp bb).2 = zz := ⟨_, rfl⟩
  have dkq := mid_bd 1 kp hkp.1 bb
  simp only [hkq] at dkq
  obtain ⟨ra, hra⟩ : ∃ zz, (roll 4 bq).1 = zz := ⟨_, rfl⟩
  obtain ⟨b8, hb8⟩ : ∃ zz, (roll 4 bq).2 = zz := ⟨_, rfl⟩
  have dra := roll_bd 4 bq
  simp only [hra] at dra
  obtain ⟨rb, hrb⟩ : ∃ zz, (roll 5 b8).1 = zz := ⟨_, rfl⟩
  obtain ⟨b9, hb9⟩ : ∃ zz, (roll 5 b8).2 = zz := ⟨_, rfl⟩
  have drb := roll_bd 5 b8
  simp only [hrb] at drb
  simp only [dbind, hkq, hbq, hra, hb8, hrb, hb9] at hinv
  refine W_region [0, 8, 9, 10, 11] fun R hR => ?_
  simp only [go_sem, ldS_at hd, stX_at hd, ldS_sv hlt, stX_sv hlt, sv_ext hlt, sv_ext_sv hlt, hs, hb1, hj, hb2, hm, hb3, hmo, hb4, hkz, hb5, hkq, hbq, hra, hb8, hrb, hb9]
  refine GCall_of (Mid_pc Y _ d bb (by first | exact hd | exact sv_get hlt | exact get_svx hlt | exact get_extx hd) 1 kp (by omega) (by omega) (by omega) (by omega)) ?_
  simp only [go_sem, ldS_at hd, stX_at hd, ldS_sv hlt, stX_sv hlt, sv_ext hlt, sv_ext_sv hlt, hs, hb1, hj, hb2, hm, hb3, hmo, hb4, hkz, hb5, hkq, hbq, hra, hb8, hrb, hb9]
  refine hR _ _ (K9 _ _ ?_); clear hR R; try clear K9 Z9
  try simp only [go_sem, ldS_at hd, stX_at hd, ldS_sv hlt, stX_sv hlt, sv_ext hlt, sv_ext_sv hlt, hs, hb1, hj, hb2, hm, hb3, hmo, hb4, hkz, hb5, hkq, hbq, hra, hb8, hrb, hb9]
  refine W_draw [0, 8, 9, 10, 11] [0, 1, 2, 3, 4, 5, 6, 7, 8, 9, 10, 11] [(0, 6), (0, 9), (1, 6), (1, 9), (2, 6), (2, 9), (5, 4)] [[], [0], [], [], [3], [], [3, 4, 5], [2, 3, 4, 5, 6], [2, 3, 4, 5, 6, 7], [0, 1, 2, 3, 4, 5, 6, 7, 8], [0, 1, 2, 3, 4, 5, 6, 7, 8, 9], [0, 1, 2, 3, 4, 5, 6, 7, 8, 9, 10]] mixed (by kernel_rfl) fun R hR => ?_
  simp only [go_sem, ldS_at hd, stX_at hd, ldS_sv hlt, stX_sv hlt, sv_ext hlt, sv_ext_sv hlt, hs, hb1, hj, hb2, hm, hb3, hmo, hb4, hkz, hb5, hkq, hbq, hra, hb8, hrb, hb9]
  refine GCall_of (Roll_pc Y _ d bq (by first | exact hd | exact sv_get hlt | exact get_svx hlt | exact get_extx hd) 4 (by omega)) ?_
  simp only [go_sem, ldS_at hd, stX_at hd, ldS_sv hlt, stX_sv hlt, sv_ext hlt, sv_ext_sv hlt, hs, hb1, hj, hb2, hm, hb3, hmo, hb4, hkz, hb5, hkq, hbq, hra, hb8, hrb, hb9]
  refine GCall_of (Roll_pc Y _ d b8 (by first | exact hd | exact sv_get hlt | exact get_svx hlt | exact get_extx hd) 5 (by omega)) ?_
  simp only [go_sem, ldS_at hd, stX_at hd, ldS_sv hlt, stX_sv hlt, sv_ext hlt, sv_ext_sv hlt, hs, hb1, hj, hb2, hm, hb3, hmo, hb4, hkz, hb5, hkq, hbq, hra, hb8, hrb, hb9]
  try simp (disch := first | omega | (simp only [go_sem] <;> omega)) only [wrapI, wrapU, appX_exact, appX_tok]
  try simp only [go_sem, ldS_at hd, stX_at hd, ldS_sv hlt, stX_sv hlt, sv_ext hlt, sv_ext_sv hlt, hs, hb1, hj, hb2, hm, hb3, hmo, hb4, hkz, hb5, hkq, hbq, hra, hb8, hrb, hb9]
  try refine And.intro (by repeat' (first | refine And.intro ?_ ?_ | exact GOr_right (fun _ => by simp only [go_sem, ldS_at hd, stX_at hd, ldS_sv hlt, stX_sv hlt, sv_ext hlt, sv_ext_sv hlt, hs, hb1, hj, hb2, hm, hb3, hmo, hb4, hkz, hb5, hkq, hbq, hra, hb8, hrb, hb9]))) ?_
  refine hR _ _ (K8 _ _ ?_); clear hR R; try clear K8 Z8
  try simp only [go_sem, ldS_at hd, stX_at hd, ldS_sv hlt, stX_sv hlt, sv_ext hlt, sv_ext_sv hlt, hs, hb1, hj, hb2, hm, hb3, hmo, hb4, hkz, hb5, hkq, hbq, hra, hb8, hrb, hb9]
  refine W_region [0, 8, 9, 10, 11] fun R hR => ?_
  simp only [go_sem, ldS_at hd, stX_at hd, ldS_sv hlt, stX_sv hlt, sv_ext hlt, sv_ext_sv hlt, hs, hb1, hj, hb2, hm, hb3, hmo, hb4, hkz, hb5, hkq, hbq, hra, hb8, hrb, hb9]
  try simp (disch := omega) only [wrapI, wrapU]
  refine hR _ _ ?_; clear hR R
  try simp only [go_sem, ldS_at hd, stX_at hd, ldS_sv hlt, stX_sv hlt, sv_ext hlt, sv_ext_sv hlt, hs, hb1, hj, hb2, hm, hb3, hmo, hb4, hkz, hb5, hkq, hbq, hra, hb8, hrb, hb9]
  refine ⟨(k, kq, acc ++ [⟨kq, ra, rb⟩], b9), ?_, by (try simp only []); omega, ?_⟩
  ·refine Weak.eq ?_ ?_
   ·first | (simp only [hk1, List.map_append, List.map_cons, List.map_nil, List.length_append, List.length_cons, List.length_nil]; first | done | rfl) | (simp only [List.map_append, List.map_cons, List.map_nil, List.length_append, List.length_cons, List.length_nil]; first | done | rfl)
   simp only [List.map_append, List.map_cons, List.map_nil, List.length_append, List.length_cons, List.length_nil]; first | done | rfl
  try dsimp only
  exact ⟨by omega, by simp; omega, hinv⟩
 try simp only [nrm] at c1
 have hke : k = 0 := by first | omega | (simp at c1; omega)
 subst hke
 simp only [roundsC, dret] at hinv
 refine W_exit ?_
 simp only [go_sem, ldS_at hd, stX_at hd, ldS_sv hlt, stX_sv hlt, sv_ext hlt, sv_ext_sv hlt, hs, hb1, hj, hb2, hm, hb3, hmo, hb4, hkz, hb5]
 refine K4 _ _ ?_
 refine W_sr [8] fun R hR => ?_
 simp only [go_sem, ldS_at hd, stX_at hd, ldS_sv hlt, stX_sv hlt, sv_ext hlt, sv_ext_sv hlt, hs, hb1, hj, hb2, hm, hb3, hmo, hb4, hkz, hb5]
 refine hR _ _ ?_; clear hR R
 try simp only [go_sem, ldS_at hd, stX_at hd, ldS_sv hlt, stX_sv hlt, sv_ext hlt, sv_ext_sv hlt, hs, hb1, hj, hb2, hm, hb3, hmo, hb4, hkz, hb5]
 refine W_ret ?_
 simp only [go_sem, ldS_at hd, stX_at hd, ldS_sv hlt, stX_sv hlt, sv_ext hlt, sv_ext_sv hlt, hs, hb1, hj, hb2, hm, hb3, hmo, hb4, hkz, hb5]
 refine ⟨.inr (by trivial), ?_⟩
 rw [← hinv]; refine Fin_set hcl (by simp only [go_sem]) (by show resPV Tryz.prog _ _ [.cell 8 24] = some _; simp only [resPV, go_sem]; rfl) (Wk.ro (by simp only [go_sem]) ?_)
 try simp only [go_sem]
 all_goals
  first | done | rfl | simp only [go_sem]
set_option maxHeartbeats 16000000 in
theorem BallotsOf_pc (Y : YEnv) (σ : Sg) (d : Nat) (b : Int) (hd : σ.store[d]? = some (some [.int .u64 b])) (c : Contest) (songs juries members most : Int) (hc : CnMade c songs juries members) (h1 : songs ≤ 1000 ∧ juries ≤ 1000 ∧ members ≤ 1000) (hm : 0 ≤ most ∧ most ≤ 1000) :
 PC Tryz.prog Y 27 [.ptr d 0, cnPV c, I most] σ (bls (ballotsD c most b).1) (σ.setVar d [.int .u64 (ballotsD c most b).2]) := by
 refine PC_of_W Tryz.func27 rfl (by kernel_rfl) Tryz.ntmps27 (by simp) fun hcl hca => ?_
 have hlt := lt_of_get hd
 have hsg := hc.sg
 have hjr := hc.jr
 have hmb := hc.mb
 have hms := hc.ms
 have hrl := hc.rl
 have hwjm : IntKind.i64.wrap (c.juries + c.members) = c.juries + c.members := wrapI (by omega) (by omega)
 obtain ⟨res, hres⟩ : ∃ r, ballotsD c most b = r := ⟨_, rfl⟩
 rw [hres]
 refine W_sr [0, 2, 4] fun R hR => ?_
 simp only [go_sem, ldS_at hd, stX_at hd, ldS_sv hlt, stX_sv hlt, sv_ext hlt, sv_ext_sv hlt]
 refine hR _ _ ?_; clear hR R
 try simp only [go_sem, ldS_at hd, stX_at hd, ldS_sv hlt, stX_sv hlt, sv_ext hlt, sv_ext_sv hlt]
 refine W_sr [0, 2, 4, 7] fun R hR => ?_
 simp only [go_sem, ldS_at hd, stX_at hd, ldS_sv hlt, stX_sv hlt, sv_ext hlt, sv_ext_sv hlt]
 refine hR _ _ ?_; clear hR R
 try simp only [go_sem, ldS_at hd, stX_at hd, ldS_sv hlt, stX_sv hlt, sv_ext hlt, sv_ext_sv hlt]
 refine W_seq fun Z3 K3 => ?_
 refine W_sr [0, 2, 4, 7, 17] fun R hR => ?_
 simp only [go_sem, ldS_at hd, stX_at hd, ldS_sv hlt, stX_sv hlt, sv_ext hlt, sv_ext_sv hlt, hwjm]
 try simp (disch := omega) only [wrapI, wrapU]
 refine hR _ _ ?_; clear hR R
 try simp only [go_sem, ldS_at hd, stX_at hd, ldS_sv hlt, stX_sv hlt, sv_ext hlt, sv_ext_sv hlt]
 refine W_cond rfl (fun c1 => ?_) (fun c1 => ?_)
 ·
  try simp only [nrm] at c1
  have hr0 : res = ([], b) := by rw [← hres]; unfold ballotsD; rw [if_pos c1]; rfl
  refine W_sr [6] fun R hR => ?_
  simp only [go_sem, ldS_at hd, stX_at hd, ldS_sv hlt, stX_sv hlt, sv_ext hlt, sv_ext_sv hlt]
  refine hR _ _ ?_; clear hR R
  try simp only [go_sem, ldS_at hd, stX_at hd, ldS_sv hlt, stX_sv hlt, sv_ext hlt, sv_ext_sv hlt]
  refine W_ret ?_
  simp only [go_sem, ldS_at hd, stX_at hd, ldS_sv hlt, stX_sv hlt, sv_ext hlt, sv_ext_sv hlt]
  refine ⟨.inr (by trivial), ?_⟩
  rw [hr0]; simp only [sv_self hd]; refine Fin_same hcl rfl (Wk.ro (by simp only [go_sem]) ?_)
  try simp only [go_sem]
  all_goals
   first | done | rfl | simp only [go_sem]
 try simp only [nrm] at c1
 obtain ⟨k0, hk0⟩ : ∃ zz, (roll (most + 1) b).1 = zz := ⟨_, rfl⟩
 obtain ⟨b1, hb1⟩ : ∃ zz, (roll (most + 1) b).2 = zz := ⟨_, rfl⟩
 have dk0 := roll_bd (most + 1) b
 simp only [hk0] at dk0
 obtain ⟨kn, hkn⟩ : ∃ z : Nat, k0 = z := ⟨k0.toNat, by omega⟩
 subst hkn
 obtain ⟨n3, hn3⟩ : ∃ z : Nat, 3 * (kn + 1) = z := ⟨_, rfl⟩
 have hn3i : 3 * ((kn : Int) + 1) = (n3 : Int) := by omega
 obtain ⟨ser, hser⟩ : ∃ zz, (orderD n3 b1).1 = zz := ⟨_, rfl⟩
 obtain ⟨b2, hb2⟩ : ∃ zz, (orderD n3 b1).2 = zz := ⟨_, rfl⟩
 have dser := orderD_perm n3 b1
 simp only [hser] at dser
 have hsl : ser.length = n3 := by rw [dser.length_eq]; simp
 have hsb : ∀ x, x ∈ ser → 0 ≤ x ∧ x < 100000 := fun x hx => by
  obtain ⟨i, h1, rfl⟩ := List.mem_map.1 (dser.mem_iff.1 hx)
  have := List.mem_range.1 h1
  omega
 have hres2 : ballotsC c ser kn 0 [] b2 = res := by
  rw [← hres]; unfold ballotsD; rw [if_neg c1]; simp only [dbind, hk0, hb1, hser, hb2, Int.toNat_natCast, hn3]
 refine W_skip (K3 _ _ ?_)
 refine W_sr [0, 4, 7, 8] fun R hR => ?_
 simp only [go_sem, ldS_at hd, stX_at hd, ldS_sv hlt, stX_sv hlt, sv_ext hlt, sv_ext_sv hlt, hk0, hb1, hser, hb2]
 try simp (disch := omega) only [wrapI]
 try simp (disch := omega) only [wrapI, wrapU]
 refine GCall_of (Roll_pc Y _ d b (by first | exact hd | exact sv_get hlt | exact get_svx hlt | exact get_extx hd) (most + 1) (by omega)) ?_
 simp only [go_sem, ldS_at hd, stX_at hd, ldS_sv hlt, stX_sv hlt, sv_ext hlt, sv_ext_sv hlt, hk0, hb1, hser, hb2]
 try simp (disch := omega) only [wrapI, wrapU]
 refine hR _ _ ?_; clear hR R
 try simp only [go_sem, ldS_at hd, stX_at hd, ldS_sv hlt, stX_sv hlt, sv_ext hlt, sv_ext_sv hlt, hk0, hb1, hser, hb2]
 refine W_sr [0, 4, 7, 8, 9] fun R hR => ?_
 simp only [go_sem, ldS_at hd, stX_at hd, ldS_sv hlt, stX_sv hlt, sv_ext hlt, sv_ext_sv hlt, hk0, hb1, hser, hb2]
 try simp (disch := omega) only [wrapI]
 try simp only [hn3i]
 try simp (disch := omega) only [wrapI, wrapU]
 refine GCall_of (Order_pc Y _ d b1 (by first | exact hd | exact sv_get hlt | exact get_svx hlt | exact get_extx hd) n3 (by omega)) ?_
 simp only [go_sem, ldS_at hd, stX_at hd, ldS_sv hlt, stX_sv hlt, sv_ext hlt, sv_ext_sv hlt, hk0, hb1, hser, hb2]
 try simp (disch := omega) only [wrapI, wrapU]
 refine hR _ _ ?_; clear hR R
 try simp only [go_sem, ldS_at hd, stX_at hd, ldS_sv hlt, stX_sv hlt, sv_ext hlt, sv_ext_sv hlt, hk0, hb1, hser, hb2]
 refine W_seq fun Z8 K8 => ?_
 refine W_sr [0, 4, 7, 8, 9, 10] fun R hR => ?_
 simp only [go_sem, ldS_at hd, stX_at hd, ldS_sv hlt, stX_sv hlt, sv_ext hlt, sv_ext_sv hlt, hk0, hb1, hser, hb2]
 refine hR _ _ ?_; clear hR R
 try simp only [go_sem, ldS_at hd, stX_at hd, ldS_sv hlt, stX_sv hlt, sv_ext hlt, sv_ext_sv hlt, hk0, hb1, hser, hb2]
 refine W_block ?_
 refine W_weak (Weak.room (t := 7) (es := 6) rfl (by simp)) ?_
 refine W_weak (Weak.keep [0, 4, 7, 8, 9, 10]) ?_
 simp only [go_sem, ldS_at hd, stX_at hd, ldS_sv hlt, stX_sv hlt, sv_ext hlt, sv_ext_sv hlt, hk0, hb1, hser, hb2]
 refine W_loopT (α := Nat × (List Ballot) × Int) (fun ⟨i, acc, bb⟩ => [(7, .isl (acc.map blPV) (.tok σ.rooms.length acc.length 6)), (10, I i)]) (fun ⟨i, acc, bb⟩ => (σ.setVar d [.int .u64 bb]).ext [some (cnCells c)] [acc.length]) (fun ⟨i, acc, bb⟩ => i ≤ kn ∧ acc.length = i ∧ ballotsC c ser (kn - i) i acc bb = res) (fun ⟨i, acc, bb⟩ => kn - i) ((0, [], b2)) rfl (by first | rfl | (simp only [go_sem]; done) | (simp only [go_sem]; rfl)) (⟨Nat.zero_le _, rfl, hres2⟩) ?_
 rintro ⟨i, acc, bb⟩ ⟨hi, hal, hinv⟩
 refine W_seq fun Z10 K10 => ?_
 refine W_sr [0, 4, 7, 8, 9, 10, 30] fun R hR => ?_
 simp only [go_sem, ldS_at hd, stX_at hd, ldS_sv hlt, stX_sv hlt, sv_ext hlt, sv_ext_sv hlt, hk0, hb1, hser, hb2]
 refine hR _ _ ?_; clear hR R
 try simp only [go_sem, ldS_at hd, stX_at hd, ldS_sv hlt, stX_sv hlt, sv_ext hlt, sv_ext_sv hlt, hk0, hb1, hser, hb2]
 refine W_cond rfl (fun c2 => ?_) (fun c2 => ?_)
 ·
  try simp only [nrm] at c2
  have hi1 : i < kn := by first | omega | (simp at c2; omega)
  rw [show kn - i = (kn - (i + 1)) + 1 by omega] at hinv
  simp only [ballotsC, dbind] at hinv
  obtain ⟨sx, hsx⟩ : ∃ z, ser[i]? = some z := ⟨ser[i]'(by omega), by simp⟩
  have hil : (i : Int) < (ser.length : Int) := by omega
  have hsxb := hsb sx (List.mem_of_getElem? hsx)
  have hsa : serAt ser i = sx + 1 := by unfold serAt; rw [hsx]; rfl
  have hwx : IntKind.i64.wrap (sx + 1) = sx + 1 := wrapI (by omega) (by omega)
  obtain ⟨rd0, hrd0⟩ : ∃ zz, (roll c.rounds.length bb).1 = zz := ⟨_, rfl⟩
  obtain ⟨b3, hb3⟩ : ∃ zz, (roll c.rounds.length bb).2 = zz := ⟨_, rfl⟩
  have drd0 := roll_bd c.rounds.length bb
  simp only [hrd0] at drd0
  obtain ⟨kd, hkd⟩ : ∃ zz, (anyOf [1, 2] b3).1 = zz := ⟨_, rfl⟩
  obtain ⟨b4, hb4⟩ : ∃ zz, (anyOf [1, 2] b3).2 = zz := ⟨_, rfl⟩
  have dkd := anyOf_mem [1, 2] (by simp) b3
  simp only [hkd] at dkd
  obtain ⟨sg, hsg⟩ : ∃ zz, (roll c.songs b4).1 = zz := ⟨_, rfl⟩
  obtain ⟨b5, hb5⟩ : ∃ zz, (roll c.songs b4).2 = zz := ⟨_, rfl⟩
  have dsg := roll_bd c.songs b4
  simp only [hsg] at dsg
  simp only [hrd0, hb3, hkd, hb4, hsg, hb5, hsa] at hinv
  refine W_skip (K10 _ _ ?_)
  refine W_seq fun Z12 K12 => ?_
  refine W_block ?_
  refine W_seq fun Z13 K13 => ?_
  refine W_draw [0, 4, 7, 8, 9, 10, 11] [0, 1, 2, 3, 4, 5, 6, 7, 8, 9, 10, 11, 12, 13, 14, 15, 16, 17, 18, 19] [(0, 12), (0, 16), (0, 18), (0, 19), (1, 12), (1, 16), (1, 18), (1, 19), (2, 12), (2, 16), (2, 18), (2, 19), (3, 12), (3, 16), (3, 18), (3, 19), (4, 12), (4, 16), (4, 18), (4, 19), (10, 9), (11, 9), (13, 9), (13, 12), (14, 9), (14, 12), (15, 9), (15, 12), (17, 19)] [[], [], [0, 1], [0, 1, 2], [0, 1, 2, 3], [], [], [6], [6, 7], [5, 6, 7, 8], [], [], [5, 6, 7, 8, 9, 10, 11], [], [], [14], [5, 6, 7, 8, 9, 10, 11, 12, 13, 14, 15], [0, 1, 2, 3, 4, 5, 6, 7, 8, 9, 10, 11, 12, 13, 14, 15, 16], [], [0, 1, 2, 3, 4, 5, 6, 7, 8, 9, 10, 11, 12, 13, 14, 15, 16, 17, 18]] mixed (by kernel_rfl) fun R hR => ?_
  simp only [go_sem, ldS_at hd, stX_at hd, ldS_sv hlt, stX_sv hlt, sv_ext hlt, sv_ext_sv hlt, hk0, hb1, hser, hb2, hrd0, hb3, hkd, hb4, hsg, hb5, hsx, hwx, hil]
  try simp (disch := omega) only [wrapI, wrapU]
  refine GCall_of (Roll_pc Y _ d bb (by first | exact hd | exact sv_get hlt | exact get_svx hlt | exact get_extx hd) c.rounds.length (by omega)) ?_
  simp only [go_sem, ldS_at hd, stX_at hd, ldS_sv hlt, stX_sv hlt, sv_ext hlt, sv_ext_sv hlt, hk0, hb1, hser, hb2, hrd0, hb3, hkd, hb4, hsg, hb5, hsx, hwx, hil]
  try simp (disch := omega) only [wrapI, wrapU]
  refine GCall_of (Any_pc Y _ d b3 (by first | exact hd | exact sv_get hlt | exact get_svx hlt | exact get_extx hd) [1, 2] (by simp) (by simp)) ?_
  simp only [go_sem, ldS_at hd, stX_at hd, ldS_sv hlt, stX_sv hlt, sv_ext hlt, sv_ext_sv hlt, hk0, hb1, hser, hb2, hrd0, hb3, hkd, hb4, hsg, hb5, hsx, hwx, hil]
  try simp (disch := omega) only [wrapI, wrapU]
  refine GCall_of (Roll_pc Y _ d b4 (by first | exact hd | exact sv_get hlt | exact get_svx hlt | exact get_extx hd) c.songs (by omega)) ?_
  simp only [go_sem, ldS_at hd, stX_at hd, ldS_sv hlt, stX_sv hlt, sv_ext hlt, sv_ext_sv hlt, hk0, hb1, hser, hb2, hrd0, hb3, hkd, hb4, hsg, hb5, hsx, hwx, hil]
  try simp (disch := omega) only [wrapI, wrapU]
  try refine And.intro (by repeat' (first | refine And.intro ?_ ?_ | exact GOr_right (fun _ => by simp only [go_sem, ldS_at hd, stX_at hd, ldS_sv hlt, stX_sv hlt, sv_ext hlt, sv_ext_sv hlt, hk0, hb1, hser, hb2, hrd0, hb3, hkd, hb4, hsg, hb5, hsx, hwx, hil]))) ?_
  refine hR _ _ (K13 _ _ ?_); clear hR R; try clear K13 Z13
  try simp only [go_sem, ldS_at hd, stX_at hd, ldS_sv hlt, stX_sv hlt, sv_ext hlt, sv_ext_sv hlt, hk0, hb1, hser, hb2, hrd0, hb3, hkd, hb4, hsg, hb5]
  refine W_seq fun Z14 K14 => ?_
  refine W_sr [0, 4, 7, 8, 9, 10, 11, 53] fun R hR => ?_
  simp only [go_sem, ldS_at hd, stX_at hd, ldS_sv hlt, stX_sv hlt, sv_ext hlt, sv_ext_sv hlt, hk0, hb1, hser, hb2, hrd0, hb3, hkd, hb4, hsg, hb5]
  refine hR _ _ ?_; clear hR R
  try simp only [go_sem, ldS_at hd, stX_at hd, ldS_sv hlt, stX_sv hlt, sv_ext hlt, sv_ext_sv hlt, hk0, hb1, hser, hb2, hrd0, hb3, hkd, hb4, hsg, hb5]
  refine W_cond rfl (fun c3 => ?_) (fun c3 => ?_)
  ·
   try simp only [nrm] at c3
   refine W_region [0, 4, 7, 8, 9, 10, 11] fun R hR => ?_
   simp only [go_sem, ldS_at hd, stX_at hd, ldS_sv hlt, stX_sv hlt, sv_ext hlt, sv_ext_sv hlt, hk0, hb1, hser, hb2, hrd0, hb3, hkd, hb4, hsg, hb5]
   refine hR _ _ (K14 _ _ ?_); clear hR R; try clear K14 Z14
   try simp only [go_sem, ldS_at hd, stX_at hd, ldS_sv hlt, stX_sv hlt, sv_ext hlt, sv_ext_sv hlt, hk0, hb1, hser, hb2, hrd0, hb3, hkd, hb4, hsg, hb5]
   refine W_seq fun Z16 K16 => ?_
   refine W_sr [0, 4, 7, 8, 9, 10, 11, 57] fun R hR => ?_
   simp only [go_sem, ldS_at hd, stX_at hd, ldS_sv hlt, stX_sv hlt, sv_ext hlt, sv_ext_sv hlt, hk0, hb1, hser, hb2, hrd0, hb3, hkd, hb4, hsg, hb5]
   refine hR _ _ ?_; clear hR R
   try simp only [go_sem, ldS_at hd, stX_at hd, ldS_sv hlt, stX_sv hlt, sv_ext hlt, sv_ext_sv hlt, hk0, hb1, hser, hb2, hrd0, hb3, hkd, hb4, hsg, hb5]
   refine W_cond rfl (fun c4 => ?_) (fun c4 => ?_)
   ·
    try simp only [nrm] at c4
    exfalso
    omega
   try simp only [nrm] at c4
   refine W_skip (K16 _ _ ?_)
   refine W_seq fun Z18 K18 => ?_
   refine W_sr [0, 4, 7, 8, 9, 10, 11, 61] fun R hR => ?_
   simp only [go_sem, ldS_at hd, stX_at hd, ldS_sv hlt, stX_sv hlt, sv_ext hlt, sv_ext_sv hlt, hk0, hb1, hser, hb2, hrd0, hb3, hkd, hb4, hsg, hb5]
   refine hR _ _ ?_; clear hR R
   try simp only [go_sem, ldS_at hd, stX_at hd, ldS_sv hlt, stX_sv hlt, sv_ext hlt, sv_ext_sv hlt, hk0, hb1, hser, hb2, hrd0, hb3, hkd, hb4, hsg, hb5]
   refine W_cond rfl (fun c5 => ?_) (fun c5 => ?_)
   ·
    try simp only [nrm] at c5
    exfalso
    simp at c5
   try simp only [nrm] at c5
   rw [if_neg (by simp [c3, c4])] at hinv
   obtain ⟨v, hv⟩ : ∃ zz, (roll c.members b5).1 = zz := ⟨_, rfl⟩
   obtain ⟨b6, hb6⟩ : ∃ zz, (roll c.members b5).2 = zz := ⟨_, rfl⟩
   have dv := roll_bd c.members b5
   simp only [hv] at dv
   simp only [dbind, hv, hb6] at hinv
   refine W_region [0, 4, 7, 8, 9, 10, 11] fun R hR => ?_
   simp only [go_sem, ldS_at hd, stX_at hd, ldS_sv hlt, stX_sv hlt, sv_ext hlt, sv_ext_sv hlt, hk0, hb1, hser, hb2, hrd0, hb3, hkd, hb4, hsg, hb5, hv, hb6]
   refine GCall_of (Roll_pc Y _ d b5 (by first | exact hd | exact sv_get hlt | exact get_svx hlt | exact get_extx hd) c.members (by omega)) ?_
   simp only [go_sem, ldS_at hd, stX_at hd, ldS_sv hlt, stX_sv hlt, sv_ext hlt, sv_ext_sv hlt, hk0, hb1, hser, hb2, hrd0, hb3, hkd, hb4, hsg, hb5, hv, hb6]
   refine hR _ _ (K18 _ _ ?_); clear hR R; try clear K18 Z18
   try simp only [go_sem, ldS_at hd, stX_at hd, ldS_sv hlt, stX_sv hlt, sv_ext hlt, sv_ext_sv hlt, hk0, hb1, hser, hb2, hrd0, hb3, hkd, hb4, hsg, hb5, hv, hb6]
   refine W_region [0, 4, 7, 8, 9, 10] fun R hR => ?_
   simp only [go_sem, ldS_at hd, stX_at hd, ldS_sv hlt, stX_sv hlt, sv_ext hlt, sv_ext_sv hlt, hk0, hb1, hser, hb2, hrd0, hb3, hkd, hb4, hsg, hb5, hv, hb6]
   try simp (disch := first | omega | (simp only [go_sem] <;> omega)) only [wrapI, wrapU, appX_exact, appX_tok]
   try simp only [go_sem, ldS_at hd, stX_at hd, ldS_sv hlt, stX_sv hlt, sv_ext hlt, sv_ext_sv hlt, hk0, hb1, hser, hb2, hrd0, hb3, hkd, hb4, hsg, hb5, hv, hb6]
   refine hR _ _ (K12 _ _ ?_); clear hR R; try clear K12 Z12
   try simp only [go_sem, ldS_at hd, stX_at hd, ldS_sv hlt, stX_sv hlt, sv_ext hlt, sv_ext_sv hlt, hk0, hb1, hser, hb2, hrd0, hb3, hkd, hb4, hsg, hb5, hv, hb6]
   refine W_region [0, 4, 7, 8, 9, 10] fun R hR => ?_
   simp only [go_sem, ldS_at hd, stX_at hd, ldS_sv hlt, stX_sv hlt, sv_ext hlt, sv_ext_sv hlt, hk0, hb1, hser, hb2, hrd0, hb3, hkd, hb4, hsg, hb5, hv, hb6]
   try simp (disch := omega) only [wrapI, wrapU]
   refine hR _ _ ?_; clear hR R
   try simp only [go_sem, ldS_at hd, stX_at hd, ldS_sv hlt, stX_sv hlt, sv_ext hlt, sv_ext_sv hlt, hk0, hb1, hser, hb2, hrd0, hb3, hkd, hb4, hsg, hb5, hv, hb6]
   refine ⟨(i + 1, acc ++ [⟨sx + 1, rd0, 2, v, sg, 0⟩], b6), ?_, by (try simp only []); omega, ?_⟩
   ·refine Weak.trans (Weak.cutSV 1 1 (by omega) (by omega) hcl (by simp only [go_sem]) (by simp only [go_sem] <;> omega) (by simp only [go_sem] <;> omega)) ?_
    simp only [go_sem]
    exact Weak.eq rfl rfl
   try dsimp only
   exact ⟨by omega, by simp; omega, hinv⟩
  try simp only [nrm] at c3
  refine W_skip (K14 _ _ ?_)
  refine W_seq fun Z20 K20 => ?_
  refine W_sr [0, 4, 7, 8, 9, 10, 11, 57] fun R hR => ?_
  simp only [go_sem, ldS_at hd, stX_at hd, ldS_sv hlt, stX_sv hlt, sv_ext hlt, sv_ext_sv hlt, hk0, hb1, hser, hb2, hrd0, hb3, hkd, hb4, hsg, hb5]
  refine hR _ _ ?_; clear hR R
  try simp only [go_sem, ldS_at hd, stX_at hd, ldS_sv hlt, stX_sv hlt, sv_ext hlt, sv_ext_sv hlt, hk0, hb1, hser, hb2, hrd0, hb3, hkd, hb4, hsg, hb5]
  refine W_cond rfl (fun c6 => ?_) (fun c6 => ?_)
  ·
   try simp only [nrm] at c6
   refine W_region [0, 4, 7, 8, 9, 10, 11] fun R hR => ?_
   simp only [go_sem, ldS_at hd, stX_at hd, ldS_sv hlt, stX_sv hlt, sv_ext hlt, sv_ext_sv hlt, hk0, hb1, hser, hb2, hrd0, hb3, hkd, hb4, hsg, hb5]
   refine hR _ _ (K20 _ _ ?_); clear hR R; try clear K20 Z20
   try simp only [go_sem, ldS_at hd, stX_at hd, ldS_sv hlt, stX_sv hlt, sv_ext hlt, sv_ext_sv hlt, hk0, hb1, hser, hb2, hrd0, hb3, hkd, hb4, hsg, hb5]
   refine W_seq fun Z22 K22 => ?_
   refine W_sr [0, 4, 7, 8, 9, 10, 11, 61] fun R hR => ?_
   simp only [go_sem, ldS_at hd, stX_at hd, ldS_sv hlt, stX_sv hlt, sv_ext hlt, sv_ext_sv hlt, hk0, hb1, hser, hb2, hrd0, hb3, hkd, hb4, hsg, hb5]
   refine hR _ _ ?_; clear hR R
   try simp only [go_sem, ldS_at hd, stX_at hd, ldS_sv hlt, stX_sv hlt, sv_ext hlt, sv_ext_sv hlt, hk0, hb1, hser, hb2, hrd0, hb3, hkd, hb4, hsg, hb5]
   refine W_cond rfl (fun c7 => ?_) (fun c7 => ?_)
   ·
    try simp only [nrm] at c7
    rw [if_pos (by simp [c6])] at hinv
    obtain ⟨v, hv⟩ : ∃ zz, (roll c.juries b5).1 = zz := ⟨_, rfl⟩
    obtain ⟨b6, hb6⟩ : ∃ zz, (roll c.juries b5).2 = zz := ⟨_, rfl⟩
    have dv := roll_bd c.juries b5
    simp only [hv] at dv
    obtain ⟨p, hp⟩ : ∃ zz, (mid 0 c.most b6).1 = zz := ⟨_, rfl⟩
    obtain ⟨b7, hb7⟩ : ∃ zz, (mid 0 c.most b6).2 = zz := ⟨_, rfl⟩
    have dp := mid_bd 0 c.most hms.1 b6
    simp only [hp] at dp
    simp only [dbind, hv, hb6, hp, hb7] at hinv
    refine W_draw [0, 4, 7, 8, 9, 10, 11] [0, 1, 2, 3, 4, 5, 6, 7, 8, 9, 10, 11] [(4, 3), (5, 3), (6, 3), (8, 7)] [[], [], [1], [0, 1, 2], [], [], [5], [0, 1, 2, 3, 4, 5, 6], [0, 1, 2, 3], [0, 1, 2, 3, 4, 5, 6, 7, 8], [0, 1, 2, 3, 4, 5, 6, 7, 8, 9], [0, 1, 2, 3, 4, 5, 6, 7, 8, 9, 10]] mixed (by kernel_rfl) fun R hR => ?_
    simp only [go_sem, ldS_at hd, stX_at hd, ldS_sv hlt, stX_sv hlt, sv_ext hlt, sv_ext_sv hlt, hk0, hb1, hser, hb2, hrd0, hb3, hkd, hb4, hsg, hb5, hv, hb6, hp, hb7]
    refine GCall_of (Roll_pc Y _ d b5 (by first | exact hd | exact sv_get hlt | exact get_svx hlt | exact get_extx hd) c.juries (by omega)) ?_
    simp only [go_sem, ldS_at hd, stX_at hd, ldS_sv hlt, stX_sv hlt, sv_ext hlt, sv_ext_sv hlt, hk0, hb1, hser, hb2, hrd0, hb3, hkd, hb4, hsg, hb5, hv, hb6, hp, hb7]
    refine GCall_of (Mid_pc Y _ d b6 (by first | exact hd | exact sv_get hlt | exact get_svx hlt | exact get_extx hd) 0 c.most (by omega) (by omega) (by omega) (by omega)) ?_
    simp only [go_sem, ldS_at hd, stX_at hd, ldS_sv hlt, stX_sv hlt, sv_ext hlt, sv_ext_sv hlt, hk0, hb1, hser, hb2, hrd0, hb3, hkd, hb4, hsg, hb5, hv, hb6, hp, hb7]
    try refine And.intro (by repeat' (first | refine And.intro ?_ ?_ | exact GOr_right (fun _ => by simp only [go_sem, ldS_at hd, stX_at hd, ldS_sv hlt, stX_sv hlt, sv_ext hlt, sv_ext_sv hlt, hk0, hb1, hser, hb2, hrd0, hb3, hkd, hb4, hsg, hb5, hv, hb6, hp, hb7]))) ?_
    refine hR _ _ (K22 _ _ ?_); clear hR R; try clear K22 Z22
    try simp only [go_sem, ldS_at hd, stX_at hd, ldS_sv hlt, stX_sv hlt, sv_ext hlt, sv_ext_sv hlt, hk0, hb1, hser, hb2, hrd0, hb3, hkd, hb4, hsg, hb5, hv, hb6, hp, hb7]
    refine W_region [0, 4, 7, 8, 9, 10] fun R hR => ?_
    simp only [go_sem, ldS_at hd, stX_at hd, ldS_sv hlt, stX_sv hlt, sv_ext hlt, sv_ext_sv hlt, hk0, hb1, hser, hb2, hrd0, hb3, hkd, hb4, hsg, hb5, hv, hb6, hp, hb7]
    try simp (disch := first | omega | (simp only [go_sem] <;> omega)) only [wrapI, wrapU, appX_exact, appX_tok]
    try simp only [go_sem, ldS_at hd, stX_at hd, ldS_sv hlt, stX_sv hlt, sv_ext hlt, sv_ext_sv hlt, hk0, hb1, hser, hb2, hrd0, hb3, hkd, hb4, hsg, hb5, hv, hb6, hp, hb7]
    refine hR _ _ (K12 _ _ ?_); clear hR R; try clear K12 Z12
    try simp only [go_sem, ldS_at hd, stX_at hd, ldS_sv hlt, stX_sv hlt, sv_ext hlt, sv_ext_sv hlt, hk0, hb1, hser, hb2, hrd0, hb3, hkd, hb4, hsg, hb5, hv, hb6, hp, hb7]
    refine W_region [0, 4, 7, 8, 9, 10] fun R hR => ?_
    simp only [go_sem, ldS_at hd, stX_at hd, ldS_sv hlt, stX_sv hlt, sv_ext hlt, sv_ext_sv hlt, hk0, hb1, hser, hb2, hrd0, hb3, hkd, hb4, hsg, hb5, hv, hb6, hp, hb7]
    try simp (disch := omega) only [wrapI, wrapU]
    refine hR _ _ ?_; clear hR R
    try simp only [go_sem, ldS_at hd, stX_at hd, ldS_sv hlt, stX_sv hlt, sv_ext hlt, sv_ext_sv hlt, hk0, hb1, hser, hb2, hrd0, hb3, hkd, hb4, hsg, hb5, hv, hb6, hp, hb7]
    refine ⟨(i + 1, acc ++ [⟨sx + 1, rd0, 1, v, sg, p⟩], b7), ?_, by (try simp only []); omega, ?_⟩
    ·refine Weak.trans (Weak.cutSV 1 1 (by omega) (by omega) hcl (by simp only [go_sem]) (by simp only [go_sem] <;> omega) (by simp only [go_sem] <;> omega)) ?_
     simp only [go_sem]
     exact Weak.eq rfl rfl
    try dsimp only
    exact ⟨by omega, by simp; omega, hinv⟩
   try simp only [nrm] at c7
   exfalso
   simp at c7
  try simp only [nrm] at c6
  refine W_skip (K20 _ _ ?_)
  refine W_seq fun Z24 K24 => ?_
  refine W_sr [0, 4, 7, 8, 9, 10, 11, 61] fun R hR => ?_
  simp only [go_sem, ldS_at hd, stX_at hd, ldS_sv hlt, stX_sv hlt, sv_ext hlt, sv_ext_sv hlt, hk0, hb1, hser, hb2, hrd0, hb3, hkd, hb4, hsg, hb5]
  refine hR _ _ ?_; clear hR R
  try simp only [go_sem, ldS_at hd, stX_at hd, ldS_sv hlt, stX_sv hlt, sv_ext hlt, sv_ext_sv hlt, hk0, hb1, hser, hb2, hrd0, hb3, hkd, hb4, hsg, hb5]
  refine W_cond rfl (fun c8 => ?_) (fun c8 => ?_)
  ·
   try simp only [nrm] at c8
   rw [if_pos (by simp [c3, c6, c8])] at hinv
   obtain ⟨v, hv⟩ : ∃ zz, (roll c.juries b5).1 = zz := ⟨_, rfl⟩
   obtain ⟨b6, hb6⟩ : ∃ zz, (roll c.juries b5).2 = zz := ⟨_, rfl⟩
   have dv := roll_bd c.juries b5
   simp only [hv] at dv
   obtain ⟨p, hp⟩ : ∃ zz, (mid 0 c.most b6).1 = zz := ⟨_, rfl⟩
   obtain ⟨b7, hb7⟩ : ∃ zz, (mid 0 c.most b6).2 = zz := ⟨_, rfl⟩
   have dp := mid_bd 0 c.most hms.1 b6
   simp only [hp] at dp
   simp only [dbind, hv, hb6, hp, hb7] at hinv
   subst c8
   refine W_draw [0, 4, 7, 8, 9, 10, 11] [0, 1, 2, 3, 4, 5, 6, 7, 8, 9, 10, 11] [(4, 3), (5, 3), (6, 3), (8, 7)] [[], [], [1], [0, 1, 2], [], [], [5], [0, 1, 2, 3, 4, 5, 6], [0, 1, 2, 3], [0, 1, 2, 3, 4, 5, 6, 7, 8], [0, 1, 2, 3, 4, 5, 6, 7, 8, 9], [0, 1, 2, 3, 4, 5, 6, 7, 8, 9, 10]] mixed (by kernel_rfl) fun R hR => ?_
   simp only [go_sem, ldS_at hd, stX_at hd, ldS_sv hlt, stX_sv hlt, sv_ext hlt, sv_ext_sv hlt, hk0, hb1, hser, hb2, hrd0, hb3, hkd, hb4, hsg, hb5, hv, hb6, hp, hb7]
   refine GCall_of (Roll_pc Y _ d b5 (by first | exact hd | exact sv_get hlt | exact get_svx hlt | exact get_extx hd) c.juries (by omega)) ?_
   simp only [go_sem, ldS_at hd, stX_at hd, ldS_sv hlt, stX_sv hlt, sv_ext hlt, sv_ext_sv hlt, hk0, hb1, hser, hb2, hrd0, hb3, hkd, hb4, hsg, hb5, hv, hb6, hp, hb7]
   refine GCall_of (Mid_pc Y _ d b6 (by first | exact hd | exact sv_get hlt | exact get_svx hlt | exact get_extx hd) 0 c.most (by omega) (by omega) (by omega) (by omega)) ?_
   simp only [go_sem, ldS_at hd, stX_at hd, ldS_sv hlt, stX_sv hlt, sv_ext hlt, sv_ext_sv hlt, hk0, hb1, hser, hb2, hrd0, hb3, hkd, hb4, hsg, hb5, hv, hb6, hp, hb7]
   try refine And.intro (by repeat' (first | refine And.intro ?_ ?_ | exact GOr_right (fun _ => by simp only [go_sem, ldS_at hd, stX_at hd, ldS_sv hlt, stX_sv hlt, sv_ext hlt, sv_ext_sv hlt, hk0, hb1, hser, hb2, hrd0, hb3, hkd, hb4, hsg, hb5, hv, hb6, hp, hb7]))) ?_
   refine hR _ _ (K24 _ _ ?_); clear hR R; try clear K24 Z24
   try simp only [go_sem, ldS_at hd, stX_at hd, ldS_sv hlt, stX_sv hlt, sv_ext hlt, sv_ext_sv hlt, hk0, hb1, hser, hb2, hrd0, hb3, hkd, hb4, hsg, hb5, hv, hb6, hp, hb7]
   refine W_region [0, 4, 7, 8, 9, 10] fun R hR => ?_
   simp only [go_sem, ldS_at hd, stX_at hd, ldS_sv hlt, stX_sv hlt, sv_ext hlt, sv_ext_sv hlt, hk0, hb1, hser, hb2, hrd0, hb3, hkd, hb4, hsg, hb5, hv, hb6, hp, hb7]
   try simp (disch := first | omega | (simp only [go_sem] <;> omega)) only [wrapI, wrapU, appX_exact, appX_tok]
   try simp only [go_sem, ldS_at hd, stX_at hd, ldS_sv hlt, stX_sv hlt, sv_ext hlt, sv_ext_sv hlt, hk0, hb1, hser, hb2, hrd0, hb3, hkd, hb4, hsg, hb5, hv, hb6, hp, hb7]
   refine hR _ _ (K12 _ _ ?_); clear hR R; try clear K12 Z12
   try simp only [go_sem, ldS_at hd, stX_at hd, ldS_sv hlt, stX_sv hlt, sv_ext hlt, sv_ext_sv hlt, hk0, hb1, hser, hb2, hrd0, hb3, hkd, hb4, hsg, hb5, hv, hb6, hp, hb7]
   refine W_region [0, 4, 7, 8, 9, 10] fun R hR => ?_
   simp only [go_sem, ldS_at hd, stX_at hd, ldS_sv hlt, stX_sv hlt, sv_ext hlt, sv_ext_sv hlt, hk0, hb1, hser, hb2, hrd0, hb3, hkd, hb4, hsg, hb5, hv, hb6, hp, hb7]
   try simp (disch := omega) only [wrapI, wrapU]
   refine hR _ _ ?_; clear hR R
   try simp only [go_sem, ldS_at hd, stX_at hd, ldS_sv hlt, stX_sv hlt, sv_ext hlt, sv_ext_sv hlt, hk0, hb1, hser, hb2, hrd0, hb3, hkd, hb4, hsg, hb5, hv, hb6, hp, hb7]
   refine ⟨(i + 1, acc ++ [⟨sx + 1, rd0, 1, v, sg, p⟩], b7), ?_, by (try simp only []); omega, ?_⟩
   ·refine Weak.trans (Weak.cutSV 1 1 (by omega) (by omega) hcl (by simp only [go_sem]) (by simp only [go_sem] <;> omega) (by simp only [go_sem] <;> omega)) ?_
    simp only [go_sem]
    exact Weak.eq rfl rfl
   try dsimp only
   exact ⟨by omega, by simp; omega, hinv⟩
  try simp only [nrm] at c8
  rw [if_neg (by simp [c3, c6, c8])] at hinv
  obtain ⟨v, hv⟩ : ∃ zz, (roll c.members b5).1 = zz := ⟨_, rfl⟩
  obtain ⟨b6, hb6⟩ : ∃ zz, (roll c.members b5).2 = zz := ⟨_, rfl⟩
  have dv := roll_bd c.members b5
  simp only [hv] at dv
  simp only [dbind, hv, hb6] at hinv
  have hk2 : kd = 2 := by
   rcases mem2 dkd with h | h
   ·exact absurd h c8
   exact h
  subst hk2
  refine W_region [0, 4, 7, 8, 9, 10, 11] fun R hR => ?_
  simp only [go_sem, ldS_at hd, stX_at hd, ldS_sv hlt, stX_sv hlt, sv_ext hlt, sv_ext_sv hlt, hk0, hb1, hser, hb2, hrd0, hb3, hkd, hb4, hsg, hb5, hv, hb6]
  refine GCall_of (Roll_pc Y _ d b5 (by first | exact hd | exact sv_get hlt | exact get_svx hlt | exact get_extx hd) c.members (by omega)) ?_
  simp only [go_sem, ldS_at hd, stX_at hd, ldS_sv hlt, stX_sv hlt, sv_ext hlt, sv_ext_sv hlt, hk0, hb1, hser, hb2, hrd0, hb3, hkd, hb4, hsg, hb5, hv, hb6]
  refine hR _ _ (K24 _ _ ?_); clear hR R; try clear K24 Z24
  try simp only [go_sem, ldS_at hd, stX_at hd, ldS_sv hlt, stX_sv hlt, sv_ext hlt, sv_ext_sv hlt, hk0, hb1, hser, hb2, hrd0, hb3, hkd, hb4, hsg, hb5, hv, hb6]
  refine W_region [0, 4, 7, 8, 9, 10] fun R hR => ?_
  simp only [go_sem, ldS_at hd, stX_at hd, ldS_sv hlt, stX_sv hlt, sv_ext hlt, sv_ext_sv hlt, hk0, hb1, hser, hb2, hrd0, hb3, hkd, hb4, hsg, hb5, hv, hb6]
  try simp (disch := first | omega | (simp only [go_sem] <;> omega)) only [wrapI, wrapU, appX_exact, appX_tok]
  try simp only [go_sem, ldS_at hd, stX_at hd, ldS_sv hlt, stX_sv hlt, sv_ext hlt, sv_ext_sv hlt, hk0, hb1, hser, hb2, hrd0, hb3, hkd, hb4, hsg, hb5, hv, hb6]
  refine hR _ _ (K12 _ _ ?_); clear hR R; try clear K12 Z12
  try simp only [go_sem, ldS_at hd, stX_at hd, ldS_sv hlt, stX_sv hlt, sv_ext hlt, sv_ext_sv hlt, hk0, hb1, hser, hb2, hrd0, hb3, hkd, hb4, hsg, hb5, hv, hb6]
  refine W_region [0, 4, 7, 8, 9, 10] fun R hR => ?_
  simp only [go_sem, ldS_at hd, stX_at hd, ldS_sv hlt, stX_sv hlt, sv_ext hlt, sv_ext_sv hlt, hk0, hb1, hser, hb2, hrd0, hb3, hkd, hb4, hsg, hb5, hv, hb6]
  try simp (disch := omega) only [wrapI, wrapU]
  refine hR _ _ ?_; clear hR R
  try simp only [go_sem, ldS_at hd, stX_at hd, ldS_sv hlt, stX_sv hlt, sv_ext hlt, sv_ext_sv hlt, hk0, hb1, hser, hb2, hrd0, hb3, hkd, hb4, hsg, hb5, hv, hb6]
  refine ⟨(i + 1, acc ++ [⟨sx + 1, rd0, 2, v, sg, 0⟩], b6), ?_, by (try simp only []); omega, ?_⟩
  ·refine Weak.trans (Weak.cutSV 1 1 (by omega) (by omega) hcl (by simp only [go_sem]) (by simp only [go_sem] <;> omega) (by simp only [go_sem] <;> omega)) ?_
   simp only [go_sem]
   exact Weak.eq rfl rfl
  try dsimp only
  exact ⟨by omega, by simp; omega, hinv⟩
 try simp only [nrm] at c2
 have hie : kn = i := by first | omega | (simp at c2; omega)
 subst hie
 rw [Nat.sub_self] at hinv
 simp only [ballotsC, dret] at hinv
 refine W_exit ?_
 simp only [go_sem, ldS_at hd, stX_at hd, ldS_sv hlt, stX_sv hlt, sv_ext hlt, sv_ext_sv hlt, hk0, hb1, hser, hb2]
 refine K8 _ _ ?_
 refine W_sr [6] fun R hR => ?_
 simp only [go_sem, ldS_at hd, stX_at hd, ldS_sv hlt, stX_sv hlt, sv_ext hlt, sv_ext_sv hlt, hk0, hb1, hser, hb2]
 refine hR _ _ ?_; clear hR R
 try simp only [go_sem, ldS_at hd, stX_at hd, ldS_sv hlt, stX_sv hlt, sv_ext hlt, sv_ext_sv hlt, hk0, hb1, hser, hb2]
 refine W_ret ?_
 simp only [go_sem, ldS_at hd, stX_at hd, ldS_sv hlt, stX_sv hlt, sv_ext hlt, sv_ext_sv hlt, hk0, hb1, hser, hb2]
 refine ⟨.inr (by trivial), ?_⟩
 rw [← hinv]; refine Fin_set hcl (by simp only [go_sem]) rfl (Wk.ro (by simp only [go_sem]) ?_)
 try simp only [go_sem]
 all_goals
  first | done | rfl | simp only [go_sem]
def exC : Contest := ⟨3, 2, 3, 10, [⟨2, 1, 2⟩, ⟨1, 1, 3⟩]⟩
def exL : List Ballot := [⟨1, 0, 1, 0, 0, 7⟩, ⟨2, 0, 1, 0, 1, 9⟩, ⟨3, 0, 1, 1, 2, 8⟩, ⟨4, 0, 2, 0, 0, 0⟩, ⟨5, 0, 2, 0, 1, 0⟩, ⟨6, 0, 2, 1, 0, 0⟩, ⟨7, 1, 2, 0, 2, 0⟩, ⟨8, 1, 2, 0, 1, 0⟩, ⟨9, 1, 1, 1, 1, 4⟩, ⟨10, 1, 2, 1, 0, 0⟩]
def exD : Contest := ⟨2, 0, 3, 0, [⟨1, 0, 1⟩]⟩
def exK : List Ballot := [⟨1, 0, 2, 0, 0, 0⟩, ⟨2, 0, 2, 1, 0, 0⟩]
def exP : List (List Int) := [[0, 1, 2], [1, 0, 2], [1, 2, 0], [2, 0, 1], [2, 0, 1]]
def exT0 : Tally := countT ⟨2, 1, 2⟩ 0 [0, 1, 2] exL
def exT1 : Tally := countT ⟨1, 1, 3⟩ 1 [0, 1] exL
def exT2 : Tally := countT ⟨1, 0, 1⟩ 0 [0, 1] exK
theorem ex0 : resT exT0 = ⟨[0, 1, 2], [7, 9, 8], [2, 0, 0], [11, 9, 8], [0, 1]⟩ := by
 unfold resT keptS
 rw [sortI_isort]
 decide
theorem ex1 : resT exT1 = ⟨[0, 1], [0, 4], [1, 1], [3, 7], [1]⟩ := by
 unfold resT keptS
 rw [sortI_isort]
 decide
theorem exTs : roundsT exC exL = [exT0, exT1] := by
 have e : (resT (countT ⟨2, 1, 2⟩ ((0 : Nat) : Int) (toI 3) exL)).kept = [0, 1] := by
  have := congrArg Res.kept ex0
  exact this
 unfold roundsT
 simp only [exC, rdsT]
 rw [e]
 rfl
theorem exRun : runD exC exL = ([⟨[0, 1, 2], [7, 9, 8], [2, 0, 0], [11, 9, 8], [0, 1]⟩, ⟨[0, 1], [0, 4], [1, 1], [3, 7], [1]⟩], 1, 0) := by
 have h0 : chkBls exC exL = 0 := by decide
 unfold runD
 rw [if_neg (by rw [h0]; simp)]
 have h1 : resultsT exC exL = [⟨[0, 1, 2], [7, 9, 8], [2, 0, 0], [11, 9, 8], [0, 1]⟩, ⟨[0, 1], [0, 4], [1, 1], [3, 7], [1]⟩] := by
  unfold resultsT
  rw [exTs, List.map_cons, List.map_cons, List.map_nil, ex0, ex1]
 rw [h1]
 unfold winnerT
 rw [h1]
 rfl
theorem exMust0 : mustT exT2 exD 0 = true := by
 unfold mustT
 simp only [sortI_isort]
 decide
theorem exMust1 : mustT exT2 exD 1 = false := by
 unfold mustT
 simp only [sortI_isort]
 decide
theorem exMay1 : mayT exT2 exD 1 (freeT exT2 exD) = false := by decide
theorem exStays : staysD exD exK 0 = ([1, 2], 0) := by
 have h0 : chkBls exD exK = 0 := by decide
 have h1 : roundsT exD exK = [exT2] := rfl
 have h2 : inR 0 0 ((exD.rounds.length : Int) - 1) = true := by decide
 unfold staysD
 rw [if_neg (by rw [h0]; simp), if_neg (by rw [h2]; simp), h1]
 have e0 : staysV exT2 exD 0 = 1 := by unfold staysV; rw [if_neg (by decide), if_pos exMust0]
 have e1 : staysV exT2 exD 1 = 2 := by unfold staysV; rw [if_neg (by decide), if_neg (by rw [exMust1]; simp), if_neg (by rw [exMay1]; simp)]
 show ([staysV exT2 exD 0, staysV exT2 exD 1], (0 : Int)) = _
 rw [e0, e1]
theorem exRunoff : runoffA 3 exP = ([0, 2], 1, 0) := by decide
set_option maxHeartbeats 2000000 in
theorem contest_pc (Y : YEnv) (σ : Sg)  :
 PC Tryz.prog Y 6 [] σ (cnPV exC) (σ) := by
 refine PC_of_W Tryz.func6 rfl (by kernel_rfl) Tryz.ntmps6 (by simp) fun hcl hca => ?_
 refine W_sr [0] fun R hR => ?_
 simp only [go_sem]
 refine hR _ _ ?_; clear hR R
 try simp only [go_sem]
 refine W_sr [0] fun R hR => ?_
 simp only [go_sem]
 refine hR _ _ ?_; clear hR R
 try simp only [go_sem]
 refine W_ret ?_
 simp only [go_sem]
 refine ⟨.inr (by trivial), ?_⟩
 refine Fin_same hcl (by show resPV Tryz.prog _ _ [.cell 0 24] = some _; simp only [resPV, go_sem]; rfl) (Wk.ro (by simp only [go_sem, exC, List.map_cons, List.map_nil]) ?_)
 try simp only [go_sem]
 all_goals
  simp only [go_sem, exC, List.map_cons, List.map_nil]; first | done | rfl
set_option maxHeartbeats 2000000 in
theorem ballots_pc (Y : YEnv) (σ : Sg)  :
 PC Tryz.prog Y 7 [] σ (bls exL) (σ) := by
 refine PC_of_W Tryz.func7 rfl (by kernel_rfl) Tryz.ntmps7 (by simp) fun hcl hca => ?_
 refine W_sr [] fun R hR => ?_
 simp only [go_sem]
 refine hR _ _ ?_; clear hR R
 try simp only [go_sem]
 refine W_sr [0] fun R hR => ?_
 simp only [go_sem]
 refine hR _ _ ?_; clear hR R
 try simp only [go_sem]
 refine W_ret ?_
 simp only [go_sem]
 refine ⟨.inr (by trivial), ?_⟩
 refine Fin_self hcl rfl (Wk.ro (by simp only [go_sem, exL, List.map_cons, List.map_nil]) ?_)
 try simp only [go_sem]
 all_goals
  simp only [go_sem, exL, List.map_cons, List.map_nil]; first | done | rfl
set_option maxHeartbeats 2000000 in
theorem duel_pc (Y : YEnv) (σ : Sg)  :
 PC Tryz.prog Y 16 [] σ (cnPV exD) (σ) := by
 refine PC_of_W Tryz.func16 rfl (by kernel_rfl) Tryz.ntmps16 (by simp) fun hcl hca => ?_
 refine W_sr [0] fun R hR => ?_
 simp only [go_sem]
 refine hR _ _ ?_; clear hR R
 try simp only [go_sem]
 refine W_sr [0] fun R hR => ?_
 simp only [go_sem]
 refine hR _ _ ?_; clear hR R
 try simp only [go_sem]
 refine W_ret ?_
 simp only [go_sem]
 refine ⟨.inr (by trivial), ?_⟩
 refine Fin_same hcl (by show resPV Tryz.prog _ _ [.cell 0 24] = some _; simp only [resPV, go_sem]; rfl) (Wk.ro (by simp only [go_sem, exD, List.map_cons, List.map_nil]) ?_)
 try simp only [go_sem]
 all_goals
  simp only [go_sem, exD, List.map_cons, List.map_nil]; first | done | rfl
set_option maxHeartbeats 2000000 in
theorem votes_pc (Y : YEnv) (σ : Sg)  :
 PC Tryz.prog Y 17 [] σ (bls exK) (σ) := by
 refine PC_of_W Tryz.func17 rfl (by kernel_rfl) Tryz.ntmps17 (by simp) fun hcl hca => ?_
 refine W_sr [] fun R hR => ?_
 simp only [go_sem]
 refine hR _ _ ?_; clear hR R
 try simp only [go_sem]
 refine W_sr [0] fun R hR => ?_
 simp only [go_sem]
 refine hR _ _ ?_; clear hR R
 try simp only [go_sem]
 refine W_ret ?_
 simp only [go_sem]
 refine ⟨.inr (by trivial), ?_⟩
 refine Fin_self hcl rfl (Wk.ro (by simp only [go_sem, exK, List.map_cons, List.map_nil]) ?_)
 try simp only [go_sem]
 all_goals
  simp only [go_sem, exK, List.map_cons, List.map_nil]; first | done | rfl
set_option maxHeartbeats 2000000 in
theorem prefs_pc (Y : YEnv) (σ : Sg)  :
 PC Tryz.prog Y 21 [] σ (lls exP) (σ) := by
 refine PC_of_W Tryz.func21 rfl (by kernel_rfl) Tryz.ntmps21 (by simp) fun hcl hca => ?_
 refine W_sr [] fun R hR => ?_
 simp only [go_sem]
 refine hR _ _ ?_; clear hR R
 try simp only [go_sem]
 refine W_sr [0] fun R hR => ?_
 simp only [go_sem]
 refine hR _ _ ?_; clear hR R
 try simp only [go_sem]
 refine W_ret ?_
 simp only [go_sem]
 refine ⟨.inr (by trivial), ?_⟩
 refine Fin_self hcl rfl (Wk.ro (by simp only [go_sem, exP, llPV, List.map_cons, List.map_nil]) ?_)
 try simp only [go_sem]
 all_goals
  simp only [go_sem, exP, llPV, List.map_cons, List.map_nil]; first | done | rfl
set_option maxHeartbeats 4000000 in
theorem awake_pc (Y : YEnv) (σ : Sg)  :
 PC Tryz.prog Y 8 [] σ (.bool true) (σ) := by
 refine PC_of_W Tryz.func8 rfl (by kernel_rfl) Tryz.ntmps8 (by simp) fun hcl hca => ?_
 refine W_sr [] fun R hR => ?_
 simp only [go_sem, List.map_cons, List.map_nil]
 refine hR _ _ ?_; clear hR R
 try simp only [go_sem, List.map_cons, List.map_nil]
 refine W_sr [1, 2, 3] fun R hR => ?_
 simp only [go_sem, List.map_cons, List.map_nil]
 refine GCall_of (contest_pc Y _) ?_
 simp only [go_sem, List.map_cons, List.map_nil]
 refine GCall_of (ballots_pc Y _) ?_
 simp only [go_sem, List.map_cons, List.map_nil]
 refine GCall_of (PC.val (v' := .tuple [rss [⟨[0, 1, 2], [7, 9, 8], [2, 0, 0], [11, 9, 8], [0, 1]⟩, ⟨[0, 1], [0, 4], [1, 1], [3, 7], [1]⟩], I 1, I 0]) (Run_pc Y _ exC exL (by decide) (by decide)) (by rw [exRun])) ?_
 simp only [go_sem, List.map_cons, List.map_nil]
 refine hR _ _ ?_; clear hR R
 try simp only [go_sem, List.map_cons, List.map_nil]
 refine W_sr [1, 2, 3, 4, 5] fun R hR => ?_
 simp only [go_sem, List.map_cons, List.map_nil]
 refine GCall_of (duel_pc Y _) ?_
 simp only [go_sem, List.map_cons, List.map_nil]
 refine GCall_of (votes_pc Y _) ?_
 simp only [go_sem, List.map_cons, List.map_nil]
 refine GCall_of (PC.val (v' := .tuple [ints [1, 2], I 0]) (Stays_pc Y _ exD exK 0 (by decide) (by decide)) (by rw [exStays])) ?_
 simp only [go_sem, List.map_cons, List.map_nil]
 refine hR _ _ ?_; clear hR R
 try simp only [go_sem, List.map_cons, List.map_nil]
 refine W_sr [1, 2, 3, 4, 5, 6, 7, 8] fun R hR => ?_
 simp only [go_sem, List.map_cons, List.map_nil]
 refine GCall_of (prefs_pc Y _) ?_
 simp only [go_sem, List.map_cons, List.map_nil]
 refine GCall_of (PC.val (v' := .tuple [ints [0, 2], I 1, I 0]) (Runoff_pc Y _ 3 exP (by decide) (by decide)) (by rw [exRunoff])) ?_
 simp only [go_sem, List.map_cons, List.map_nil]
 refine hR _ _ ?_; clear hR R
 try simp only [go_sem, List.map_cons, List.map_nil]
 refine W_sr [0] fun R hR => ?_
 simp only [go_sem, List.map_cons, List.map_nil, iaX0 (c := 5) (p := .agg [ints [0, 1, 2], ints [7, 9, 8], ints [2, 0, 0], ints [11, 9, 8], ints [0, 1]]) rfl, elS0]
 refine GCall_of (PC.val (v' := .bool true) (EqInts_pc Y _ [11, 9, 8] [11, 9, 8] .ro .exact (by decide)) (by rfl)) ?_
 simp only [go_sem, List.map_cons, List.map_nil, iaX0 (c := 5) (p := .agg [ints [0, 1, 2], ints [7, 9, 8], ints [2, 0, 0], ints [11, 9, 8], ints [0, 1]]) rfl, elS0]
 refine GCall_of (PC.val (v' := .bool true) (EqInts_pc Y _ [1, 2] [1, 2] .ro .exact (by decide)) (by rfl)) ?_
 simp only [go_sem, List.map_cons, List.map_nil, iaX0 (c := 5) (p := .agg [ints [0, 1, 2], ints [7, 9, 8], ints [2, 0, 0], ints [11, 9, 8], ints [0, 1]]) rfl, elS0]
 refine GCall_of (PC.val (v' := .bool true) (EqInts_pc Y _ [0, 2] [0, 2] .ro .exact (by decide)) (by rfl)) ?_
 simp only [go_sem, List.map_cons, List.map_nil, iaX0 (c := 5) (p := .agg [ints [0, 1, 2], ints [7, 9, 8], ints [2, 0, 0], ints [11, 9, 8], ints [0, 1]]) rfl, elS0]
 refine hR _ _ ?_; clear hR R
 try simp only [go_sem, List.map_cons, List.map_nil]
 refine W_ret ?_
 simp only [go_sem, List.map_cons, List.map_nil]
 refine ⟨.inr (by trivial), ?_⟩
 first | refine Fsa hcl rfl ?_ | refine Fse hcl rfl ?_
 try simp only [go_sem]
 all_goals
  first | rfl | (simp_all; done) | (simp_all; omega)
section
variable {P : Program} {Y : YEnv} {N : Nat} {ops : Array Oper} {a b : Nat}
variable {F : Fence} {n : Nat} {Q : Exit → Act → World → Prop}
/-- In the order, b stands behind a. -/
def Behind (b a : Nat) (listed : Array Bool) (l : List Nat) : Prop := ∀ l1 l2, l = l1 ++ b :: l2 → listed.getD a false = true ∨ a ∈ l1
end
theorem W_newB {P : Program} {Y : YEnv} {N : Nat} {rd : Option Nat} {lo : Nat × Nat} {id : Nat} {ops : Array Oper} {E : Env} {σ : Sg} {Q : Exit → Env → Sg → Prop} (ks : List Nat) {T : TypeId} (te : TypeId) {d : Nat} {o : Oper} (ho : ops = #[o]) (hop : o.op = .alloc T) (hg : o.guard = none) (hd : o.dst = some d) (hdN : d < N)
 (hz : zeroPV P T = some [.nilptr, .isl [] .exact])
 (h : Q .normal (keep ks (E.put (some d) (.ptr σ.store.length 0))) ((σ.push [.bself σ.store.length T, .bbuf [] σ.rooms.length te]).pushRoom 0)) : W P Y N rd lo (.region id ops false) E σ Q := by
 intro Ψ0 D hb hy hrd Ψ a w le hr
 subst ho
 refine wpIn_region ?_
 show wpOpsIn (FnOf Ψ0 rd) 0 P #[o] (Post N D Ψ0 w Q) [0] a w
 rw [wpOpsIn_cons]
 refine exec_alloc (i := 0) rfl hop hg hz hr fun c hc0 hc2 => ?_
 obtain ⟨le1, hs1⟩ := hr.sg.newVar c T [.nilptr, .isl [] .exact] (Nat.le_of_eq hc0.symm) (hc2 Ψ)
 have hk : SzOK (Ψ.addVar w.heap.size).base (w.alloc (.cells c T)) w.heap.size (.ty T 2) := ⟨hr.sg.base, c, (0, 0), heap_alloc_new w _, hc0⟩
 have hs2 := hs1.addSz hk
 have le2 := le1.trans (Ty.addSz_le (Ψ.addVar w.heap.size) w.heap.size (.ty T 2))
 obtain ⟨le3, hs3⟩ := hs2.newRoom 0 none (fun b e c es h => by cases h)
 have le3' := le2.trans le3
 have hst : ((σ.push [.nilptr, .isl [] .exact]).pushRoom 0).store[σ.store.length]? = some (some [.nilptr, .isl [] .exact]) := by simp [Sg.push, Sg.pushRoom]
 have hβ : ((Ψ.addVar w.heap.size).addSz w.heap.size (.ty T 2)).β[σ.store.length]? = some w.heap.size := by
  show (Ψ.β ++ [w.heap.size])[σ.store.length]? = _
  rw [← hr.sg.blen]
  simp
 have hrm : (σ.push [.nilptr, .isl [] .exact]).rooms.length = σ.rooms.length := rfl
 rw [hrm] at le3 hs3 le3'
 have hbk : blockIs (w.alloc (.cells c T)) w.heap.size c := ⟨T, heap_alloc_new w _⟩
 have hs4 := hs3.reread (cs' := [.bself σ.store.length T, .bbuf [] σ.rooms.length te]) hst (fun b' hb' hK => by
  have e1 : b' = w.heap.size := by
   have : ((Ψ.addVar w.heap.size).addSz w.heap.size (.ty T 2)).β[σ.store.length]? = some b' := hb'
   rw [hβ] at this; injection this with this; exact this.symm
  subst e1
  refine .inl ⟨c, hbk, by rw [hc0]; exact Nat.le_refl _, fun j p v h1 h2 => ?_⟩
  have hv0 := hc2 ((((Ψ.addVar w.heap.size).addSz w.heap.size (.ty T 2))).addHist σ.rooms.length 0 none)
  match j, h1, h2 with
  | 0, h1, h2 =>
   simp only [List.getElem?_cons_zero, Option.some.injEq] at h1
   subst h1
   have hv := hv0 0 .nilptr v rfl h2
   refine .bself _ _ w.heap.size _ hβ (List.mem_cons_self ..) (.inl ?_)
   cases hv; rfl
  | 1, h1, h2 =>
   simp only [List.getElem?_cons_succ, List.getElem?_cons_zero, Option.some.injEq] at h1
   subst h1
   have hv := hv0 1 (.isl [] .exact) v rfl h2
   have hh : OwnNil ((((Ψ.addVar w.heap.size).addSz w.heap.size (.ty T 2))).addHist σ.rooms.length 0 none) (.tok σ.rooms.length ([] : List PV).length 1) := ⟨none, by simp [Ty.addHist]⟩
   cases hv with
   | islnil _ a' _ => exact .bbuf _ _ _ _ (.islnil _ a' hh) fun g o n cap e hc => by injection e with _ _ e; exact absurd e.symm hc
   | isl es _ _ b0 o0 cap vals hes k1 k2 hc ho =>
    have ho' : cap = 0 := ho
    subst ho'
    exact .bbuf _ _ _ _ (.islnil _ _ hh) fun g o n cap e hc => by injection e with _ _ e; exact absurd e.symm hc
  | j + 2, h1, h2 => simp at h1)
 have hσ : ((σ.push [.nilptr, .isl [] .exact]).pushRoom 0).setVar σ.store.length [.bself σ.store.length T, .bbuf [] σ.rooms.length te] = (σ.push [.bself σ.store.length T, .bbuf [] σ.rooms.length te]).pushRoom 0 := by simp [Sg.setVar, Sg.push, Sg.pushRoom]
 rw [hσ] at hs4
 have hrel := (hr.put le3' hs4 (o := o) (by unfold dstOK; rw [hd]; simpa using hdN) (v := .ptr σ.store.length 0) (x := .pointer (some ⟨w.heap.size, 0, none⟩)) (.ptr _ _ _ hβ (List.mem_cons_of_mem _ (List.mem_cons_self ..)))).keep ks
 rw [hd] at hrel ⊢
 exact ⟨_, _, _, le.trans le3', hrel, (Below.refl _ _).alloc (by rw [← le.base]; exact hr.sg.base) _, h⟩
/-- New blocks behind all that is known. -/
theorem SR.more {Ψ : Ty} {σ : Sg} {w w' : World} (h : SR Ψ σ w) (ho : ∀ k, k < w.heap.size → w'.heap[k]? = w.heap[k]?) (hz : w.heap.size ≤ w'.heap.size) : SR Ψ σ w' := by
 have cel : ∀ b o v, w.cell? ⟨b, o, none⟩ = some v → w'.cell? ⟨b, o, none⟩ = some v := fun b o v k => by rw [cell_eq, ho b (cell_lt k), ← cell_eq]; exact k
 have blk : ∀ b c, blockIs w b c → blockIs w' b c := fun b c k => k.of_heap (ho b k.lt)
 refine ⟨Nat.le_trans h.base hz, fun b o v k => cel b o v (h.imm b o v k), h.blen, ?_, h.apart, ?_, h.roomsApart, h.histlt, h.histle, fun i b k => Nat.lt_of_lt_of_le (h.βlt i b k) hz, ?_, h.ylen', ?_, ?_, ?_⟩
 ·intro id cs b k1 k2
  obtain ⟨a1, a2, a3⟩ := h.block id cs b k1 k2
  exact ⟨a1, a2, a3.of_heap (ho b a3.lt)⟩
 ·intro r n b e c' es k1 k2 k3
  obtain ⟨a1, a2, a3, cc, a4, a5⟩ := h.room r n b e c' es k1 k2 k3
  exact ⟨a1, a2, a3, cc, blk _ _ a4, a5⟩
 ·intro y l d s k1 k2
  obtain ⟨a1, a0, a2⟩ := h.yok y l d s k1 k2
  exact ⟨a1, a0, by rw [ho l (heap_lt a2)]; exact a2⟩
 ·intro d k
  obtain ⟨a1, a2⟩ := h.dok d k
  exact ⟨a1, by rw [ho d (heap_lt a2)]; exact a2⟩
 ·intro b c' k
  obtain ⟨a1, a2, a3, a4, a5⟩ := h.rok b c' k
  exact ⟨a1, a2, a3, a4, blk _ _ a5⟩
 intro b s k
 exact (h.szok b s k).of_heap (ho b (h.szok b s k).lt)
/-- A row that nobody holds is marked. -/
theorem SR.reframe {Ψ : Ty} {σ : Sg} {w w' : World} (h : SR Ψ σ w) {g : Nat} {c : Array Value} {t : TypeId} {f f' : Nat × Nat} (h1 : w.heap[g]? = some (.cells c t f)) (h2 : w'.heap[g]? = some (.cells c t f')) (ho : ∀ k, k ≠ g → w'.heap[k]? = w.heap[k]?) (hz : w'.heap.size = w.heap.size) (h0 : Ψ.base ≤ g)
 (hv : ∀ (id : Nat) (cs : List PV), σ.store[id]? = some (some cs) → Ψ.β[id]? ≠ some g) (hr : ∀ (r n e c es : Nat), σ.rooms[r]? = some n → Ψ.hist r n = some (some (g, e, c, es)) → c ≤ e) (hs : ∀ c, (g, c) ∉ Ψ.rs) : SR Ψ σ w' := by
 have cel : ∀ b o v, w.cell? ⟨b, o, none⟩ = some v → w'.cell? ⟨b, o, none⟩ = some v := fun b o v k => by
  by_cases e : b = g
  ·subst e; rw [cell_eq] at k ⊢; rw [h1] at k; rw [h2]; exact k
  rw [cell_eq, ho b e, ← cell_eq]; exact k
 refine ⟨by rw [hz]; exact h.base, fun b o v k => cel b o v (h.imm b o v k), h.blen, ?_, h.apart, ?_, h.roomsApart, h.histlt, h.histle, fun i b k => by rw [hz]; exact h.βlt i b k, ?_, h.ylen', ?_, ?_, ?_⟩
 ·intro id cs b k1 k2
  obtain ⟨a1, a2, a3⟩ := h.block id cs b k1 k2
  exact ⟨a1, a2, a3.of_heap (ho b fun e => hv id cs k1 (e ▸ k2))⟩
 ·intro r n b e c' es k1 k2 k3
  obtain ⟨a1, a2, a3, cc, a4, a5⟩ := h.room r n b e c' es k1 k2 k3
  have hne : b ≠ g := by rintro rfl; have := hr r n e c' es k1 k2; omega
  exact ⟨a1, a2, a3, cc, a4.of_heap (ho b hne), a5⟩
 ·intro y l d s k1 k2
  obtain ⟨a1, a0, a2⟩ := h.yok y l d s k1 k2
  have hne : l ≠ g := by rintro rfl; rw [h1] at a2; cases a2
  exact ⟨a1, a0, by rw [ho l hne]; exact a2⟩
 ·intro d k
  obtain ⟨a1, a2⟩ := h.dok d k
  have hne : d ≠ g := by rintro rfl; rw [h1] at a2; cases a2
  exact ⟨a1, by rw [ho d hne]; exact a2⟩
 ·intro b c' k
  obtain ⟨a1, a2, a3, a4, a5⟩ := h.rok b c' k
  exact ⟨a1, a2, a3, a4, a5.of_heap (ho b fun e => hs c' (e ▸ k))⟩
 intro b s k
 by_cases e : b = g
 ·subst e; exact (h.szok b s k).rewrite h0 h1 h2 rfl
 exact (h.szok b s k).of_heap (ho b e)
theorem freeze_at {w : World} {g n : Nat} {c : Array Value} {t : TypeId} {f : Nat × Nat} (h : w.heap[g]? = some (.cells c t f)) (hn : n ≠ 0) : ∃ f', (w.freeze ⟨g, 0, none⟩ n).heap[g]? = some (.cells c t f') := by
 unfold World.freeze
 rw [if_neg hn]
 obtain ⟨lo, hi⟩ := f
 simp only [Array.getElem?_modify, if_true, h, Option.map_some]
 exact ⟨_, rfl⟩
theorem freeze_other {w : World} {g n k : Nat} (hk : k ≠ g) : (w.freeze ⟨g, 0, none⟩ n).heap[k]? = w.heap[k]? := by
 unfold World.freeze
 split
 ·rfl
 simp only [Array.getElem?_modify]
 rw [if_neg (fun e => hk e.symm)]
theorem freeze_size {w : World} {g n : Nat} : (w.freeze ⟨g, 0, none⟩ n).heap.size = w.heap.size := by
 unfold World.freeze
 split
 ·rfl
 simp
/-- A builder's row becomes a string's. -/
theorem SR.stringed {Ψ : Ty} {σ : Sg} {w : World} (h : SR Ψ σ w) {r n g cap : Nat} {t : TypeId} (hr : σ.rooms[r]? = some n) (hh : Ψ.hist r n = some (some (g, n, cap, 1))) (ht : (g, .ty t cap) ∈ Ψ.sz) (hi : ∀ o, o < n → Ψ.imm g o ≠ none) (hn : 0 < n) :
 ∃ Ψ', Ψ.le Ψ' ∧ SR Ψ' (σ.setRoom r (n + 1)) (w.drew.freeze ⟨g, 0, none⟩ n) ∧ Below Ψ.base w (w.drew.freeze ⟨g, 0, none⟩ n) := by
 obtain ⟨hb0, c, f, hc, hcs⟩ := h.szok g _ ht
 obtain ⟨Ψ2, le2, hs2, i1, i2, i0, i3, i4, i5⟩ := h.drew.roomStep (r' := r) (n' := n + 1) (σ2 := σ.setRoom r (n + 1)) (.inr ⟨n, hr, by omega, rfl⟩) none (fun b e c es k => by cases k)
 obtain ⟨f', hf'⟩ := freeze_at (w := w.drew) (n := n) hc (by omega)
 have hi2 : ∀ o, o < n → Ψ2.imm g o ≠ none := by rw [i1]; exact hi
 have hfin : SR Ψ2 (σ.setRoom r (n + 1)) (w.drew.freeze ⟨g, 0, none⟩ n) := by
  refine hs2.reframe hc hf' (fun k hk => freeze_other hk) freeze_size (by rw [le2.base]; exact hb0) (fun id cs k1 k2 => ?_) (fun r1 n1 e c1 es k1 k2 => ?_) (fun c1 k => ?_)
  ·exact hi2 0 hn ((hs2.block id cs g k1 k2).2.1 0)
  ·by_cases hr1 : r1 = r
   ·subst hr1
    have : n1 = n + 1 := by
     simp only [Sg.setRoom] at k1
     rw [List.getElem?_set_self ((List.getElem?_eq_some_iff.1 hr).1)] at k1
     injection k1 with k1
     exact k1.symm
    subst this
    rw [i4] at k2
    injection k2 with k2
    cases k2
   obtain ⟨q1, q2⟩ := i5 r1 n1 k1 hr1
   rw [q2] at k2
   rcases Nat.lt_or_ge e c1 with hlt | hge
   ·exfalso
    obtain ⟨_, a2, _, cc, ⟨t3, a4⟩, a5⟩ := h.room r1 n1 g e c1 es q1 k2 hlt
    rw [show w.heap[g]? = w.drew.heap[g]? from rfl] at a4
    have hc' : w.drew.heap[g]? = some (.cells c t f) := hc
    rw [hc'] at a4
    injection a4 with a4
    injection a4 with a4 _ _
    subst a4
    have ha := h.roomsApart r n r1 n1 g n cap 1 e c1 es hr q1 (fun e => hr1 e.symm) hh k2 e
    have hen : e < n := by
     rcases Nat.lt_or_ge e n with h1 | h1
     ·exact h1
     exact absurd hlt (ha h1 (by omega) (Nat.le_refl _))
    exact hi e hen (a2 e (Nat.le_refl _) hlt)
   exact hge
  exact hi2 0 hn ((hs2.rok g c1 k).2.1 0)
 have hpl : (w.drew.freeze ⟨g, 0, none⟩ n).os = w.os ∧ (w.drew.freeze ⟨g, 0, none⟩ n).tape = w.tape ∧ (w.drew.freeze ⟨g, 0, none⟩ n).output = w.output := by
  unfold World.freeze
  split <;> exact ⟨rfl, rfl, rfl⟩
 refine ⟨Ψ2, le2, hfin, hpl.1, hpl.2.1, hpl.2.2, by rw [freeze_size]; exact Nat.le_refl _, fun k hk => ?_⟩
 rw [freeze_other (by omega)]
 rfl
theorem CleanSg_bld {σ : Sg} {id T r te n : Nat} {l m : List PV} (hcl : CleanSg σ) (hd : σ.store[id]? = some (some [.bself id T, .bbuf l r te])) (hr : r < σ.rooms.length) (hm : ∀ p, p ∈ m → Clean σ.store.length σ.rooms.length σ.ys.length p) :
 CleanSg ((σ.setRoom r n).setVar id [.bself id T, .bbuf (l ++ m) r te]) := by
 have hid := (List.getElem?_eq_some_iff.1 hd).1
 intro i cs hi hcs p hp
 have e1 : ((σ.setRoom r n).setVar id [.bself id T, .bbuf (l ++ m) r te]).store.length = σ.store.length := by simp [Sg.setVar, Sg.setRoom]
 have e2 : ((σ.setRoom r n).setVar id [.bself id T, .bbuf (l ++ m) r te]).rooms.length = σ.rooms.length := by simp [Sg.setVar, Sg.setRoom]
 have e3 : ((σ.setRoom r n).setVar id [.bself id T, .bbuf (l ++ m) r te]).ys.length = σ.ys.length := rfl
 rw [e1] at hi
 rw [e1, e2, e3]
 have h0 : (σ.store.set id (some [.bself id T, .bbuf (l ++ m) r te]))[i]? = some (some cs) := hcs
 rw [List.getElem?_set] at h0
 by_cases e : id = i
 ·subst e
  rw [if_pos rfl, if_pos hid] at h0
  injection h0 with h0
  injection h0 with h0
  subst h0
  have hl := hcl id _ hid hd (.bbuf l r te) (by simp)
  simp only [List.mem_cons, List.not_mem_nil, or_false] at hp
  rcases hp with rfl | rfl
  ·exact .bself _ _ hid
  cases hl with
  | bbuf _ _ _ hl =>
  cases hl with
  | isl _ _ h1 h2 =>
  refine .bbuf _ _ _ (.isl _ _ (fun e he => ?_) fun r' n' es' e => by injection e with e _ _; subst e; exact hr)
  rcases List.mem_append.1 he with he | he
  ·exact h1 e he
  exact hm e he
 rw [if_neg e] at h0
 exact hcl i cs hi h0 p hp
theorem strPV_clean {s : ByteArray} {a b c : Nat} : ∀ p, p ∈ strPV s → Clean a b c p := fun p hp => by
 obtain ⟨x, _, rfl⟩ := List.mem_map.1 hp
 exact .int _ _
open Go Go.RowKit Go.Shelf
def bld_ren : Go.Shelf.Ren := ⟨fun | 240 => 78 | 276 => 93 | 169 => 51 | 166 => 48 | 167 => 50 | n => n, fun | 37 => 99 | 70 => 98 | 72 => 101 | 164 => 151 | 127 => 140 | n => n, fun n => n⟩
theorem lays240 : Lays.n240 Tryz.prog bld_ren where
 mixed := by kernel_rfl
 f240 := Tryz.func78.trans (congrArg some (by kernel_rfl))
 f276 := Tryz.func93.trans (congrArg some (by kernel_rfl))
 t0 := Tryz.underlying0
 a0 := Tryz.isAgg0
 z0 := Tryz.sizeOf0
 v0 := Tryz.zeroValue0
 t4 := Tryz.underlying4
 a4 := Tryz.isAgg4
 z4 := Tryz.sizeOf4
 v4 := Tryz.zeroValue4
 t9 := Tryz.underlying9
 a9 := Tryz.isAgg9
 z9 := Tryz.sizeOf9
 v9 := Tryz.zeroValue9
 t20 := Tryz.underlying20
 a20 := Tryz.isAgg20
 z20 := Tryz.sizeOf20
 v20 := Tryz.zeroValue20
 t70 := Tryz.underlying98
 a70 := Tryz.isAgg98
 z70 := Tryz.sizeOf98
 v70 := Tryz.zeroValue98
 t72 := Tryz.underlying101
 a72 := Tryz.isAgg101
 z72 := Tryz.sizeOf101
 v72 := Tryz.zeroValue101
 t164 := Tryz.underlying151
 a164 := Tryz.isAgg151
 z164 := Tryz.sizeOf151
 v164 := Tryz.zeroValue151
theorem lays169 : Lays.n169 Tryz.prog bld_ren where
 mixed := by kernel_rfl
 f169 := Tryz.func51.trans (congrArg some (by kernel_rfl))
 t0 := Tryz.underlying0
 a0 := Tryz.isAgg0
 z0 := Tryz.sizeOf0
 v0 := Tryz.zeroValue0
 t3 := Tryz.underlying3
 a3 := Tryz.isAgg3
 z3 := Tryz.sizeOf3
 v3 := Tryz.zeroValue3
 t9 := Tryz.underlying9
 a9 := Tryz.isAgg9
 z9 := Tryz.sizeOf9
 v9 := Tryz.zeroValue9
 t37 := Tryz.underlying99
 a37 := Tryz.isAgg99
 z37 := Tryz.sizeOf99
 v37 := Tryz.zeroValue99
 t70 := Tryz.underlying98
 a70 := Tryz.isAgg98
 z70 := Tryz.sizeOf98
 v70 := Tryz.zeroValue98
 t72 := Tryz.underlying101
 a72 := Tryz.isAgg101
 z72 := Tryz.sizeOf101
 v72 := Tryz.zeroValue101
 t127 := Tryz.underlying140
 a127 := Tryz.isAgg140
 z127 := Tryz.sizeOf140
 v127 := Tryz.zeroValue140
def lays171_ren : Go.Shelf.Ren := ⟨fun | 171 => 49 | 243 => 79 | 246 => 94 | 283 => 114 | 284 => 115 | 285 => 116 | 286 => 117 | 129 => 113 | 317 => 140 | 318 => 141 | 319 => 142 | 320 => 143 | 337 => 156 | 338 => 157 | n => n, fun | 3 => 3 | 9 => 9 | 2 => 2 | 4 => 4 | 171 => 170 | 0 => 0 | 53 => 110 | 37 => 99 | 5 => 5 | 173 => 172 | 212 => 195 | 51 => 168 | 20 => 20 | 213 => 196 | 46 => 141 | 232 => 220 | 233 => 221 | n => n, fun | 17 => 0 | 18 => 6 | 19 => 7 | n => n⟩
theorem lays171_p : Lays.n171 Tryz.prog lays171_ren where
 mixed := by kernel_rfl
 f129 := Tryz.func113.trans (congrArg some (by kernel_rfl))
 f171 := Tryz.func49.trans (congrArg some (by kernel_rfl))
 f243 := Tryz.func79.trans (congrArg some (by kernel_rfl))
 f246 := Tryz.func94.trans (congrArg some (by kernel_rfl))
 f283 := Tryz.func114.trans (congrArg some (by kernel_rfl))
 f284 := Tryz.func115.trans (congrArg some (by kernel_rfl))
 f285 := Tryz.func116.trans (congrArg some (by kernel_rfl))
 f286 := Tryz.func117.trans (congrArg some (by kernel_rfl))
 f317 := Tryz.func140.trans (congrArg some (by kernel_rfl))
 f318 := Tryz.func141.trans (congrArg some (by kernel_rfl))
 f319 := Tryz.func142.trans (congrArg some (by kernel_rfl))
 f320 := Tryz.func143.trans (congrArg some (by kernel_rfl))
 f337 := Tryz.func156.trans (congrArg some (by kernel_rfl))
 f338 := Tryz.func157.trans (congrArg some (by kernel_rfl))
 t0 := Tryz.underlying0
 a0 := Tryz.isAgg0
 z0 := Tryz.sizeOf0
 v0 := Tryz.zeroValue0
 t2 := Tryz.underlying2
 a2 := Tryz.isAgg2
 z2 := Tryz.sizeOf2
 v2 := Tryz.zeroValue2
 t3 := Tryz.underlying3
 a3 := Tryz.isAgg3
 z3 := Tryz.sizeOf3
 v3 := Tryz.zeroValue3
 t4 := Tryz.underlying4
 a4 := Tryz.isAgg4
 z4 := Tryz.sizeOf4
 v4 := Tryz.zeroValue4
 t5 := Tryz.underlying5
 a5 := Tryz.isAgg5
 z5 := Tryz.sizeOf5
 v5 := Tryz.zeroValue5
 t9 := Tryz.underlying9
 a9 := Tryz.isAgg9
 z9 := Tryz.sizeOf9
 v9 := Tryz.zeroValue9
 t20 := Tryz.underlying20
 a20 := Tryz.isAgg20
 z20 := Tryz.sizeOf20
 v20 := Tryz.zeroValue20
 t37 := Tryz.underlying99
 a37 := Tryz.isAgg99
 z37 := Tryz.sizeOf99
 v37 := Tryz.zeroValue99
 t46 := Tryz.underlying141
 a46 := Tryz.isAgg141
 z46 := Tryz.sizeOf141
 v46 := Tryz.zeroValue141
 t51 := Tryz.underlying168
 a51 := Tryz.isAgg168
 z51 := Tryz.sizeOf168
 v51 := Tryz.zeroValue168
 t53 := Tryz.underlying110
 a53 := Tryz.isAgg110
 z53 := Tryz.sizeOf110
 v53 := Tryz.zeroValue110
 t171 := Tryz.underlying170
 a171 := Tryz.isAgg170
 z171 := Tryz.sizeOf170
 v171 := Tryz.zeroValue170
 t173 := Tryz.underlying172
 a173 := Tryz.isAgg172
 z173 := Tryz.sizeOf172
 v173 := Tryz.zeroValue172
 t212 := Tryz.underlying195
 a212 := Tryz.isAgg195
 z212 := Tryz.sizeOf195
 v212 := Tryz.zeroValue195
 t213 := Tryz.underlying196
 a213 := Tryz.isAgg196
 z213 := Tryz.sizeOf196
 t232 := Tryz.underlying220
 a232 := Tryz.isAgg220
 z232 := Tryz.sizeOf220
 v232 := Tryz.zeroValue220
 t233 := Tryz.underlying221
 a233 := Tryz.isAgg221
 z233 := Tryz.sizeOf221
 v233 := Tryz.zeroValue221
 g17 := by kernel_rfl
 g18 := by kernel_rfl
 g19 := by kernel_rfl
theorem lays171 : LaysM.n171 Tryz.prog lays171_ren := { lays171_p with
 i0 := by kernel_rfl,
 i2 := by kernel_rfl,
 i3 := by kernel_rfl,
 i4 := by kernel_rfl,
 i5 := by kernel_rfl,
 i9 := by kernel_rfl,
 i20 := by kernel_rfl,
 i37 := by kernel_rfl,
 i46 := by kernel_rfl,
 i51 := by kernel_rfl,
 i53 := by kernel_rfl,
 i171 := by kernel_rfl,
 i173 := by kernel_rfl,
 i212 := by kernel_rfl,
 i232 := by kernel_rfl,
 i233 := by kernel_rfl,
 m17 := by kernel_rfl,
 m18 := by kernel_rfl,
 m19 := by kernel_rfl }
theorem PC_of_callsG {P : Program} {Y : YEnv} {f : FuncId} {args : List PV} {σ σ' : Sg} {v : PV} (hg : goFn P f = true)
 (h : ∀ Ψ vals w, SR Ψ σ w → VRs Ψ args vals → GOK P Ψ → Calls P f vals w (fun e w' => ∃ x Ψ', e = .returned x ∧ Ψ.le Ψ' ∧ SR Ψ' σ' w' ∧ VR Ψ' v x ∧ Below Ψ.base w w')) : PC P Y f args σ v σ' :=
 ⟨hg, fun Ψ vals w hs ha hy => callsIn_wide.2 (h Ψ vals w hs ha hy.1)⟩
theorem one_arg {Ψ : Ty} {p : PV} {vals : Array Value} (ha : VRs Ψ [p] vals) : ∃ x, vals = #[x] ∧ VR Ψ p x := by
 have := ha.1
 match vals, this with
 | ⟨[x]⟩, _ => exact ⟨x, rfl, ha.2 0 _ _ rfl rfl⟩
theorem x72 : Builder.X72 Tryz.prog bld_ren := ⟨by kernel_rfl, by kernel_rfl⟩
/-- A builder in a variable. -/
theorem bld_at {Ψ : Ty} {σ : Sg} {w : World} (hs : SR Ψ σ w) {id T r te : Nat} {l : List PV} {b : Nat} (hst : σ.store[id]? = some (some [.bself id T, .bbuf l r te])) (hβ : Ψ.β[id]? = some b) :
 ∃ x v, Ψ.base ≤ b ∧ w.heap[b]? = some (.cells #[x, v] T (0, 0)) ∧ (x = .pointer none ∨ x = .pointer (some ⟨b, 0, none⟩)) ∧ VR Ψ (.bbuf l r te) v := by
 obtain ⟨a1, _, hk⟩ := hs.block id _ b hst hβ
 rcases hk with ⟨c, hb, h1, h2⟩ | ⟨arr, es, h0, _⟩ | ⟨mid, r', n, seen, h0, _⟩
 ·simp only [List.length_cons, List.length_nil] at h1
  have v0 := h2 0 _ c[0] rfl (by simp)
  have v1 := h2 1 _ c[1] rfl (by simp)
  cases v0 with
  | bself _ _ b' _ hβ' hz hx =>
  rw [hβ] at hβ'
  injection hβ' with hβ'
  subst hβ'
  obtain ⟨_, c', f, hc', hsz⟩ := hs.szok _ _ hz
  obtain ⟨e, hbe⟩ := hb
  rw [hbe] at hc'
  injection hc' with hc'
  injection hc' with e1 e2 e3
  subst e1 e2
  refine ⟨c[0], c[1], a1, ?_, hx, v1⟩
  rw [hbe]
  congr 2
  apply Array.ext
  ·simp [hsz]
  intro i h1 h2
  match i, h2 with
  | 0, _ => rfl
  | 1, _ => rfl
 ·cases h0
 cases h0
theorem copyCheck_pc (Y : YEnv) (σ : Sg) {id r te : Nat} {l : List PV} (hst : σ.store[id]? = some (some [.bself id 101, .bbuf l r te])) : PC Tryz.prog Y 78 [.ptr id 0] σ (.tuple []) σ := by
 refine PC_of_calls (by kernel_rfl) fun Ψ vals w hs ha => ?_
 obtain ⟨x, rfl, hx⟩ := one_arg ha
 obtain ⟨b, hβ, hz, rfl⟩ := hx.ptr_inv
 obtain ⟨y, v, a1, hb, hy, hv⟩ := bld_at hs hst hβ
 have hc0 : w.cell? ⟨b, 0, none⟩ = some y := by rw [cell_eq, hb]; rfl
 rcases hy with rfl | rfl
 ·refine (Any.Builder_copyCheck_fresh lays240 x72 b w hc0 (by simp [World.shape?, hb]; rfl) (by simp [World.frozen?, hb])).mono ?_
  rintro e w' ⟨rfl, rfl⟩
  have hself : VR Ψ (.bself id 101) (.pointer (some ⟨b, 0, none⟩)) := by
   obtain ⟨_, _, hk⟩ := hs.block id _ b hst hβ
   obtain ⟨_, h2⟩ := hk.cells ⟨_, hb⟩
   have v0 := h2 0 _ _ rfl rfl
   cases v0 with
   | bself _ _ b' _ hβ' hz' _ =>
   rw [hβ] at hβ'
   injection hβ' with hβ'
   subst hβ'
   exact .bself _ _ b _ hβ hz' (.inr rfl)
  have h2 : SR Ψ (σ.setVar id [.bself id 101, .bbuf l r te]) (w.setCell ⟨b, 0, none⟩ (.pointer (some ⟨b, 0, none⟩))) := hs.setVar hst hβ hz hself (off := 0)
  rw [setVar_same σ id _ hst] at h2
  exact ⟨_, Ψ, rfl, Ty.le.refl _, h2, skipped_ok _, (Below.refl _ _).setCell (p := ⟨b, 0, none⟩) a1 _⟩
 refine (Any.Builder_copyCheck_used lays240 x72 b w hc0).mono ?_
 rintro e w' ⟨rfl, rfl⟩
 exact ⟨_, Ψ, rfl, Ty.le.refl _, hs, skipped_ok _, Below.refl _ _⟩
/-- What a builder holds, as a string: its row is marked. -/
theorem bldString (b g : Nat) (p : Value) (cap : Nat) (l : List UInt8) (w : World) (h0 : l ≠ []) (hbk : w.heap[b]? = some (.cells #[p, .slice (some ⟨g, 0, none⟩) l.length cap] 101 (0, 0))) {cur : Array Value} {fz : Nat × Nat} (hg : w.heap[g]? = some (.cells cur 5 fz)) (hn : l.length ≤ cur.size) (hcap : l.length ≤ cap) (h63 : l.length ≤ 9223372036854775807)
 (hcell : ∀ j x, l[j]? = some x → w.cell? ⟨g, j, none⟩ = some (.int .u8 x.toNat)) :
 Calls Tryz.prog 51 #[.pointer (some ⟨b, 0, none⟩)] w fun e w' => e = .returned (.string ⟨l.toArray⟩) ∧ w' = w.drew.freeze ⟨g, 0, none⟩ l.length := by
 have hl0 : l.length ≠ 0 := by simpa using h0
 have hb1 : w.drew.heap[b]? = some (.cells #[p, .slice (some ⟨g, 0, none⟩) l.length cap] 101 (0, 0)) := hbk
 have c1 : w.drew.cell? ⟨b, 1, none⟩ = some (.slice (some ⟨g, 0, none⟩) l.length cap) := by rw [Lib.cell_of_heap hb1]; rfl
 have hg' : w.drew.heap[g]? = some (.cells cur 5 fz) := hg
 have hSD : (Builtin.unsafeSliceData_ #[bld_ren.t 37] (bld_ren.t 127) #[.slice (some ⟨g, 0, none⟩) l.length cap]).run Tryz.prog w.drew = .ok (.pointer (some ⟨g, 0, none⟩)) w.drew :=
  Lib.run_unsafeSliceData_row _ _ _ _ _ _ (by omega)
 have hUS : (Builtin.unsafeString_ #[bld_ren.t 127, bld_ren.t 3] (bld_ren.t 9) #[.pointer (some ⟨g, 0, none⟩), .int .i64 l.length]).run Tryz.prog w.drew = .ok (.string ⟨l.toArray⟩) (w.drew.freeze ⟨g, 0, none⟩ l.length) :=
  Lib.run_unsafeString_row w.drew (bld_ren.t 127) (bld_ren.t 3) (bld_ren.t 9) 5 Tryz.underlying140 cells5 g cur.size (by simp [World.shape?, hg']) l h0 hn h63 fun j x hx => by
   have := hcell j x hx
   simpa using this
 have L := lays169
 have mixed := L.mixed
 have t72 := L.t72; have a72 := L.a72; have z72 := L.z72; have v72 := L.v72; have u72 := run_underlying L.t72
 have t70 := L.t70; have a70 := L.a70; have z70 := L.z70; have v70 := L.v70; have u70 := run_underlying L.t70
 have t37 := L.t37; have a37 := L.a37; have z37 := L.z37; have v37 := L.v37; have u37 := run_underlying L.t37
 have t127 := L.t127; have a127 := L.a127; have z127 := L.z127; have v127 := L.v127; have u127 := run_underlying L.t127
 have t3 := L.t3; have a3 := L.a3; have z3 := L.z3; have v3 := L.v3; have u3 := run_underlying L.t3
 have t9 := L.t9; have a9 := L.a9; have z9 := L.z9; have v9 := L.v9; have u9 := run_underlying L.t9
 go_enter L.f169, Body.n169_ntmps bld_ren
 go_wp2
 go_region_o
 all_goals (go_wp2; go_ret; exact ⟨rfl, rfl⟩)
theorem Itoa_pc (Y : YEnv) (σ : Sg) (n : Int) (h0 : -9223372036854775808 ≤ n) (h1 : n ≤ 9223372036854775807) : PC Tryz.prog Y 49 [I n] σ (.str ⟨(Lib.itoa n).toArray⟩) σ := by
 refine PC_of_callsG (by kernel_rfl) fun Ψ vals w hs ha hG => ?_
 obtain ⟨x, rfl, hx⟩ := one_arg ha
 obtain rfl := hx.int_inv
 have hgn : Tryz.prog.globalNamed "internal/strconv.uint64pow10" = some 0 := by kernel_rfl
 obtain ⟨_, e, f, hh⟩ := hs.szok _ _ (hG.tab 0 hgn)
 have htab : Lib.TabIs Tryz.prog w "internal/strconv.uint64pow10" .u64 Lib.pow10Tab := by
  unfold Lib.TabIs World.var?
  rw [hgn]
  simp only [Option.bind_some, hh]
  rfl
 refine (Any.strconv_Itoa lays171 n h0 h1 w htab).mono ?_
 rintro e2 w2 ⟨rfl, k, os, rfl⟩
 have ho : ∀ g, g < w.heap.size → (Sort.grow (w.drewN k) os).heap[g]? = w.heap[g]? := fun g hg => Sort.heap_grow_old (w.drewN k) os hg
 have hz : w.heap.size ≤ (Sort.grow (w.drewN k) os).heap.size := by simp [Sort.grow, World.drewN]
 exact ⟨_, Ψ, rfl, Ty.le.refl _, hs.more ho hz, .str _, ⟨rfl, rfl, rfl, hz, fun g hg => ho g (by have := hs.base; omega)⟩⟩
def splitL (b : UInt8) : List UInt8 → List (List UInt8)
 | [] => [[]]
 | c :: r => if c = b then [] :: splitL b r else match splitL b r with
  | p :: q => (c :: p) :: q
  | [] => [[c]]
theorem splitL_ne (b : UInt8) (s : List UInt8) : splitL b s ≠ [] := by
 cases s with
 | nil => simp [splitL]
 | cons c r =>
  simp only [splitL]
  split
  ·simp
  split <;> simp
theorem splitL_one {b : UInt8} : ∀ {p : List UInt8}, b ∉ p → splitL b p = [p]
 | [], _ => rfl
 | c :: p, h => by
  simp only [List.mem_cons, not_or] at h
  simp only [splitL, splitL_one h.2]
  rw [if_neg fun e => h.1 e.symm]
theorem splitL_app {b : UInt8} : ∀ {p : List UInt8} (s : List UInt8), b ∉ p → splitL b (p ++ b :: s) = p :: splitL b s
 | [], s, _ => by simp [splitL]
 | c :: p, s, h => by
  simp only [List.mem_cons, not_or] at h
  simp only [List.cons_append, splitL, splitL_app s h.2]
  rw [if_neg fun e => h.1 e.symm]
theorem splitL_len (b : UInt8) (s : List UInt8) : (splitL b s).length = s.count b + 1 := by
 induction s with
 | nil => rfl
 | cons c r ih =>
  simp only [splitL]
  split
  ·rename_i h
   simp [ih, h]
  rename_i h
  cases hs : splitL b r with
  | nil => exact absurd hs (splitL_ne b r)
  | cons p q =>
   rw [hs] at ih
   simp only [List.length_cons] at ih ⊢
   rw [List.count_cons_of_ne h]
   exact ih
/-- A text is free of the separator, or it is cut where it stands first. -/
theorem cut_at (b : UInt8) (s : List UInt8) : b ∉ s ∨ ∃ p r, s = p ++ b :: r ∧ b ∉ p := by
 induction s with
 | nil => exact .inl (by simp)
 | cons c s ih =>
  by_cases h : c = b
  ·exact .inr ⟨[], s, by rw [h]; rfl, by simp⟩
  rcases ih with h1 | ⟨p, r, h1, h2⟩
  ·exact .inl (by simp only [List.mem_cons, not_or]; exact ⟨fun e => h e.symm, h1⟩)
  exact .inr ⟨c :: p, r, by rw [h1]; rfl, by simp only [List.mem_cons, not_or]; exact ⟨fun e => h e.symm, h2⟩⟩
theorem indexByte_free {b : UInt8} : ∀ {s : List UInt8}, b ∉ s → Lib.indexByte s b = -1
 | [], _ => rfl
 | c :: s, h => by
  simp only [List.mem_cons, not_or] at h
  unfold Lib.indexByte
  rw [indexByte_free h.2, if_neg (by simpa using fun e => h.1 e.symm), if_pos (by decide)]
theorem indexByte_at {b : UInt8} (r : List UInt8) : ∀ {p : List UInt8}, b ∉ p → Lib.indexByte (p ++ b :: r) b = (p.length : Int)
 | [], _ => by simp [Lib.indexByte]
 | c :: p, h => by
  simp only [List.mem_cons, not_or] at h
  simp only [List.cons_append]
  unfold Lib.indexByte
  rw [indexByte_at r h.2, if_neg (by simpa using fun e => h.1 e.symm), if_neg (by simp)]
  simp
/-- The library's parts. -/
theorem splitK_one (b : UInt8) : ∀ (n : Nat) (s : List UInt8), s.length ≤ n → Lib.splitK [b] 0 (Lib.count s [b]) s = splitL b s := by
 intro n
 induction n with
 | zero =>
  intro s h
  have : s = [] := List.eq_nil_of_length_eq_zero (by omega)
  subst this
  have hm : Lib.index [] [b] = -1 := by rw [Lib.index_one]; rfl
  rw [Lib.count_miss hm]
  rfl
 | succ n ih =>
  intro s h
  rcases cut_at b s with hf | ⟨p, r, rfl, hp⟩
  ·have hm : Lib.index s [b] = -1 := by rw [Lib.index_one]; exact indexByte_free hf
   rw [Lib.count_miss hm, splitL_one hf]
   rfl
  have hm : Lib.index (p ++ b :: r) [b] = (p.length : Int) := by rw [Lib.index_one]; exact indexByte_at r hp
  have hd : (p ++ b :: r).drop (p.length + [b].length) = r := by
   rw [List.drop_append]
   simp
  rw [Lib.count_hit (by simp) hm, hd, Nat.add_comm 1, splitL_app r hp, Lib.splitK]
  rw [if_neg (by rw [hm]; simp), hm, Int.toNat_natCast, hd, ih r (by simp at h; omega)]
  simp
theorem splitB_one (b : UInt8) (s : ByteArray) : (Lib.splitB ⟨#[b]⟩ 0 (Lib.countB s ⟨#[b]⟩) s).map (·.data.toList) = splitL b s.data.toList := by
 rw [Lib.splitB_data]
 exact splitK_one b s.data.toList.length s.data.toList (Nat.le_refl _)
def numFrom (n : Nat) : List UInt8 → Option Nat
 | [] => some n
 | c :: r => if 48 ≤ c.toNat ∧ c.toNat ≤ 57 then numFrom (10 * n + (c.toNat - 48)) r else none
/-- A numeral of at most k digits. -/
def numE (k : Nat) (w : List UInt8) : Option Nat :=
 if w = [] ∨ k < w.length ∨ (w.head? = some 48 ∧ 1 < w.length) then none else numFrom 0 w
theorem numFrom_snoc (c : UInt8) : ∀ (l : List UInt8) (n : Nat), numFrom n (l ++ [c]) = (numFrom n l).bind fun m => if 48 ≤ c.toNat ∧ c.toNat ≤ 57 then some (10 * m + (c.toNat - 48)) else none
 | [], n => by simp only [List.nil_append, numFrom, Option.bind_some]
 | d :: l, n => by
  simp only [List.cons_append, numFrom]
  split
  ·exact numFrom_snoc c l _
  rfl
theorem numFrom_ge : ∀ (l : List UInt8) (n v : Nat), numFrom n l = some v → n ≤ v
 | [], n, v, h => by simp only [numFrom] at h; injection h with h; omega
 | c :: l, n, v, h => by
  simp only [numFrom] at h
  split at h
  ·have := numFrom_ge l _ v h; omega
  cases h
theorem dig_toNat {d : Nat} (h : d < 10) : (UInt8.ofNat (48 + d)).toNat = 48 + d := by simp; omega
theorem dec_ne (u : Nat) : Lib.decDigits u ≠ [] := by
 rw [Lib.decDigits]
 split <;> simp
theorem dec_num (u : Nat) : numFrom 0 (Lib.decDigits u) = some u := by
 induction u using Nat.strongRecOn with
 | _ u ih =>
  rw [Lib.decDigits]
  split
  ·rename_i h
   simp only [numFrom, dig_toNat h]
   rw [if_pos (by omega)]
   congr 1; omega
  rename_i h
  rw [numFrom_snoc, ih (u / 10) (by omega), Option.bind_some, dig_toNat (by omega), if_pos (by omega)]
  congr 1; omega
theorem head_app {α : Type} {l m : List α} (h : l ≠ []) : (l ++ m).head? = l.head? := by
 cases l with
 | nil => exact absurd rfl h
 | cons a l => rfl
theorem dec_head (u : Nat) : (Lib.decDigits u).head? = some 48 → u = 0 := by
 induction u using Nat.strongRecOn with
 | _ u ih =>
  rw [Lib.decDigits]
  split
  ·rename_i h
   intro e
   simp only [List.head?_cons, Option.some.injEq] at e
   have := congrArg UInt8.toNat e
   rw [dig_toNat h] at this
   simp at this
   exact this
  rename_i h
  intro e
  have hne := dec_ne (u / 10)
  rw [head_app hne] at e
  have := ih (u / 10) (by omega) e
  omega
theorem dec_one : Lib.decDigits 0 = [48] := by rw [Lib.decDigits]; rfl
theorem numE_dec {k u : Nat} (h : (Lib.decDigits u).length ≤ k) : numE k (Lib.decDigits u) = some u := by
 unfold numE
 rw [if_neg, dec_num]
 rintro (h1 | h1 | ⟨h1, h2⟩)
 ·exact dec_ne u h1
 ·omega
 have := dec_head u h1
 subst this
 rw [dec_one] at h2
 simp at h2
theorem num_dec : ∀ (n : Nat) (w : List UInt8) (u : Nat), w.length = n → w ≠ [] → (w.head? = some 48 → w.length = 1) → numFrom 0 w = some u → w = Lib.decDigits u := by
 intro n
 induction n with
 | zero => intro w u hl hne; exact absurd (List.eq_nil_of_length_eq_zero hl) hne
 | succ n ih =>
  intro w u hl hne hz hn
  obtain ⟨l, c, rfl⟩ : ∃ l c, w = l ++ [c] := ⟨w.dropLast, w.getLast hne, (List.dropLast_concat_getLast hne).symm⟩
  rw [numFrom_snoc] at hn
  cases hm : numFrom 0 l with
  | none => rw [hm] at hn; cases hn
  | some m =>
   rw [hm, Option.bind_some] at hn
   split at hn
   ·rename_i hc
    injection hn with hn
    have hcc : c = UInt8.ofNat (48 + (c.toNat - 48)) := by
     apply UInt8.toNat.inj
     rw [dig_toNat (by omega)]
     omega
    by_cases hl0 : l = []
    ·subst hl0
     simp only [numFrom] at hm
     injection hm with hm
     subst hm
     rw [Lib.decDigits, dif_pos (by omega), ← hn, List.nil_append]
     rw [show 10 * 0 + (c.toNat - 48) = c.toNat - 48 by omega, ← hcc]
    have hl1 : l.length = n := by simp at hl; exact hl
    have hlp : 0 < l.length := List.length_pos_iff.2 hl0
    have hh : l.head? ≠ some 48 := by
     intro e
     have := hz (by rw [head_app hl0]; exact e)
     simp at this
     exact hl0 this
    have e := ih l m hl1 hl0 (fun e => absurd e hh) hm
    have hm0 : m ≠ 0 := by
     rintro rfl
     rw [dec_one] at e
     rw [e] at hh
     exact hh rfl
    rw [Lib.decDigits, dif_neg (by omega), ← hn]
    rw [show (10 * m + (c.toNat - 48)) / 10 = m by omega, show (10 * m + (c.toNat - 48)) % 10 = c.toNat - 48 by omega, ← e, ← hcc]
   cases hn
theorem numE_inv {k u : Nat} {w : List UInt8} (h : numE k w = some u) : w = Lib.decDigits u ∧ w.length ≤ k := by
 unfold numE at h
 split at h
 ·cases h
 rename_i hc
 simp only [not_or, not_and] at hc
 obtain ⟨h1, h2, h3⟩ := hc
 refine ⟨num_dec _ w u rfl h1 (fun e => ?_) h, by omega⟩
 have := h3 e
 have := List.length_pos_iff.2 h1
 omega
/-- The number that Atoi hands back, and whether there is no error. -/
def atoiV (w : List UInt8) : Int := match Lib.atoiAll w with
 | .ok v => v
 | .range => Lib.atoiSat w
 | _ => 0
def atoiOK (w : List UInt8) : Bool := match Lib.atoiAll w with
 | .ok _ => true
 | _ => false
theorem parse_num : ∀ (l : List UInt8) (n v : Nat), numFrom n l = some v → v < 18446744073709551616 → Lib.parseUint10 n l = .ok v
 | [], n, v, h, _ => by simp only [numFrom] at h; injection h with h; rw [Lib.parseUint10, h]
 | c :: l, n, v, h, hv => by
  simp only [numFrom] at h
  split at h
  ·rename_i hc
   have hge := numFrom_ge l _ v h
   rw [Lib.parseUint10, if_pos hc, if_neg (by omega), if_neg (by omega), show n * 10 + (c.toNat - 48) = 10 * n + (c.toNat - 48) by omega]
   exact parse_num l _ v h hv
  cases h
theorem dec_digits (u : Nat) : ∀ c, c ∈ Lib.decDigits u → 48 ≤ c.toNat ∧ c.toNat ≤ 57 := by
 induction u using Nat.strongRecOn with
 | _ u ih =>
  rw [Lib.decDigits]
  split
  ·rename_i h
   intro c hc
   simp only [List.mem_singleton] at hc
   subst hc
   rw [dig_toNat h]
   omega
  rename_i h
  intro c hc
  rcases List.mem_append.1 hc with hc | hc
  ·exact ih (u / 10) (by omega) c hc
  simp only [List.mem_singleton] at hc
  subst hc
  rw [dig_toNat (by omega)]
  omega
theorem atoi_dec {u : Nat} (h : u < 9223372036854775808) : Lib.atoiAll (Lib.decDigits u) = .ok (u : Int) := by
 have hd := dec_digits u
 have hn := dec_num u
 cases hw : Lib.decDigits u with
 | nil => exact absurd hw (dec_ne u)
 | cons c r =>
  rw [hw] at hd hn
  have hc := hd c (List.mem_cons_self ..)
  unfold Lib.atoiAll
  simp only
  rw [if_neg (by omega)]
  unfold Lib.parseMag
  rw [if_neg (by simp), parse_num _ _ _ hn (by omega)]
  simp only
  rw [if_neg (by omega), if_neg (by omega), if_neg (by omega)]
/-- A word, as the program tells whether it is a number. -/
def wordOK (k : Nat) (w : List UInt8) : Bool := atoiOK w && decide (0 ≤ atoiV w) && decide (w.length ≤ k) && decide (Lib.itoa (atoiV w) = w)
theorem pow_dec (u : Nat) : 10 ^ ((Lib.decDigits u).length - 1) ≤ u ∨ u = 0 := by
 induction u using Nat.strongRecOn with
 | _ u ih =>
  rw [Lib.decDigits]
  split
  ·rcases Nat.eq_zero_or_pos u with h | h
   ·exact .inr h
   left; simp; omega
  rename_i h
  left
  have hne := List.length_pos_iff.2 (dec_ne (u / 10))
  rcases ih (u / 10) (by omega) with h1 | h1
  ·simp only [List.length_append, List.length_cons, List.length_nil, Nat.zero_add, Nat.add_sub_cancel]
   obtain ⟨m, hm⟩ : ∃ m, (Lib.decDigits (u / 10)).length = m + 1 := ⟨(Lib.decDigits (u / 10)).length - 1, by omega⟩
   rw [hm] at h1 ⊢
   rw [Nat.add_sub_cancel] at h1
   rw [Nat.pow_succ]
   omega
  omega
theorem dec_small {k u : Nat} (h : (Lib.decDigits u).length ≤ k) : u < 10 ^ k := by
 have h1 := Lib.lt_pow_nDigits u
 rw [← Lib.decDigits_length] at h1
 exact Nat.lt_of_lt_of_le h1 (Nat.pow_le_pow_right (by omega) h)
theorem wordOK_num {k : Nat} (hk : k ≤ 18) (w : List UInt8) : wordOK k w = (numE k w).isSome ∧ ∀ n, numE k w = some n → atoiV w = (n : Int) := by
 have key : ∀ n, numE k w = some n → atoiV w = (n : Int) ∧ atoiOK w = true ∧ Lib.itoa (n : Int) = w ∧ w.length ≤ k := by
  intro n hn
  obtain ⟨h1, h2⟩ := numE_inv hn
  have hs : n < 10 ^ k := dec_small (by rw [← h1]; exact h2)
  have hb : 10 ^ k ≤ 10 ^ 18 := Nat.pow_le_pow_right (by omega) hk
  have ha := atoi_dec (u := n) (by omega)
  rw [← h1] at ha
  refine ⟨by unfold atoiV; rw [ha], by unfold atoiOK; rw [ha], ?_, h2⟩
  unfold Lib.itoa
  rw [if_neg (by omega), Int.toNat_natCast, ← h1]
 refine ⟨?_, fun n hn => (key n hn).1⟩
 cases hn : numE k w with
 | some n =>
  obtain ⟨h1, h2, h3, h4⟩ := key n hn
  unfold wordOK
  rw [h1, h2, h3]
  simp [h4]
 | none =>
  cases hw : wordOK k w with
  | false => rfl
  | true =>
   exfalso
   unfold wordOK at hw
   simp only [Bool.and_eq_true, decide_eq_true_eq] at hw
   obtain ⟨⟨⟨h1, h2⟩, h3⟩, h4⟩ := hw
   unfold Lib.itoa at h4
   rw [if_neg (by omega)] at h4
   have := numE_dec (k := k) (u := (atoiV w).toNat) (by rw [h4]; exact h3)
   rw [h4, hn] at this
   cases this
open Go Go.RowKit Go.Shelf
def lays146_ren : Go.Shelf.Ren := ⟨fun | 146 => 60 | 221 => 82 | 268 => 96 | 138 => 97 | 143 => 98 | 195 => 118 | 197 => 119 | 218 => 120 | 219 => 121 | 260 => 144 | 217 => 145 | 225 => 146 | 224 => 147 | 267 => 148 | 266 => 158 | 314 => 159 | n => n, fun | 9 => 9 | 31 => 66 | 3 => 3 | 4 => 4 | 0 => 0 | 105 => 175 | 21 => 21 | 5 => 5 | 46 => 141 | 119 => 208 | 139 => 211 | 138 => 210 | 146 => 212 | 51 => 168 | n => n, fun | 1 => 1 | 3 => 4 | 4 => 5 | n => n⟩
theorem lays146 : Lays.n146 Tryz.prog lays146_ren where
 mixed := by kernel_rfl
 f138 := Tryz.func97.trans (congrArg some (by kernel_rfl))
 f143 := Tryz.func98.trans (congrArg some (by kernel_rfl))
 f146 := Tryz.func60.trans (congrArg some (by kernel_rfl))
 f195 := Tryz.func118.trans (congrArg some (by kernel_rfl))
 f197 := Tryz.func119.trans (congrArg some (by kernel_rfl))
 f217 := Tryz.func145.trans (congrArg some (by kernel_rfl))
 f218 := Tryz.func120.trans (congrArg some (by kernel_rfl))
 f219 := Tryz.func121.trans (congrArg some (by kernel_rfl))
 f221 := Tryz.func82.trans (congrArg some (by kernel_rfl))
 f224 := Tryz.func147.trans (congrArg some (by kernel_rfl))
 f225 := Tryz.func146.trans (congrArg some (by kernel_rfl))
 f260 := Tryz.func144.trans (congrArg some (by kernel_rfl))
 f266 := Tryz.func158.trans (congrArg some (by kernel_rfl))
 f267 := Tryz.func148.trans (congrArg some (by kernel_rfl))
 f268 := Tryz.func96.trans (congrArg some (by kernel_rfl))
 f314 := Tryz.func159.trans (congrArg some (by kernel_rfl))
 t0 := Tryz.underlying0
 a0 := Tryz.isAgg0
 z0 := Tryz.sizeOf0
 v0 := Tryz.zeroValue0
 t3 := Tryz.underlying3
 a3 := Tryz.isAgg3
 z3 := Tryz.sizeOf3
 v3 := Tryz.zeroValue3
 t4 := Tryz.underlying4
 a4 := Tryz.isAgg4
 z4 := Tryz.sizeOf4
 v4 := Tryz.zeroValue4
 t5 := Tryz.underlying5
 a5 := Tryz.isAgg5
 z5 := Tryz.sizeOf5
 v5 := Tryz.zeroValue5
 t9 := Tryz.underlying9
 a9 := Tryz.isAgg9
 z9 := Tryz.sizeOf9
 v9 := Tryz.zeroValue9
 t21 := Tryz.underlying21
 a21 := Tryz.isAgg21
 z21 := Tryz.sizeOf21
 v21 := Tryz.zeroValue21
 t31 := Tryz.underlying66
 a31 := Tryz.isAgg66
 z31 := Tryz.sizeOf66
 v31 := Tryz.zeroValue66
 t46 := Tryz.underlying141
 a46 := Tryz.isAgg141
 z46 := Tryz.sizeOf141
 v46 := Tryz.zeroValue141
 t51 := Tryz.underlying168
 a51 := Tryz.isAgg168
 z51 := Tryz.sizeOf168
 v51 := Tryz.zeroValue168
 t105 := Tryz.underlying175
 a105 := Tryz.isAgg175
 z105 := Tryz.sizeOf175
 v105 := Tryz.zeroValue175
 t119 := Tryz.underlying208
 a119 := Tryz.isAgg208
 z119 := Tryz.sizeOf208
 t138 := Tryz.underlying210
 a138 := Tryz.isAgg210
 z138 := Tryz.sizeOf210
 v138 := Tryz.zeroValue210
 t139 := Tryz.underlying211
 a139 := Tryz.isAgg211
 z139 := Tryz.sizeOf211
 v139 := Tryz.zeroValue211
 t146 := Tryz.underlying212
 a146 := Tryz.isAgg212
 z146 := Tryz.sizeOf212
 v146 := Tryz.zeroValue212
 g1 := by kernel_rfl
 g3 := by kernel_rfl
 g4 := by kernel_rfl
def lays172_ren : Go.Shelf.Ren := ⟨fun | 172 => 83 | 244 => 99 | 245 => 100 | 247 => 122 | 279 => 123 | 280 => 124 | 281 => 125 | 282 => 126 | 287 => 149 | 316 => 150 | 171 => 49 | 205 => 151 | 321 => 160 | 322 => 161 | 243 => 79 | 246 => 94 | 283 => 114 | 284 => 115 | 285 => 116 | 286 => 117 | 129 => 113 | 317 => 140 | 318 => 141 | 319 => 142 | 320 => 143 | 337 => 156 | 338 => 157 | n => n, fun | 9 => 9 | 3 => 3 | 75 => 103 | 76 => 104 | 4 => 4 | 5 => 5 | 167 => 178 | 37 => 99 | 0 => 0 | 85 => 179 | 2 => 2 | 168 => 181 | 53 => 110 | 175 => 197 | 46 => 141 | 210 => 201 | 127 => 140 | 145 => 218 | 143 => 216 | 21 => 21 | 171 => 170 | 173 => 172 | 212 => 195 | 51 => 168 | 20 => 20 | 213 => 196 | 232 => 220 | 233 => 221 | 80 => 109 | n => n, fun | 15 => 2 | 16 => 3 | 17 => 0 | 18 => 6 | 19 => 7 | n => n⟩
theorem lays172 : LaysC.n172 Tryz.prog lays172_ren where
 mixed := by kernel_rfl
 f129 := Tryz.func113.trans (congrArg some (by kernel_rfl))
 f171 := Tryz.func49.trans (congrArg some (by kernel_rfl))
 f172 := Tryz.func83.trans (congrArg some (by kernel_rfl))
 f205 := Tryz.func151.trans (congrArg some (by kernel_rfl))
 f243 := Tryz.func79.trans (congrArg some (by kernel_rfl))
 f244 := Tryz.func99.trans (congrArg some (by kernel_rfl))
 f245 := Tryz.func100.trans (congrArg some (by kernel_rfl))
 f246 := Tryz.func94.trans (congrArg some (by kernel_rfl))
 f247 := Tryz.func122.trans (congrArg some (by kernel_rfl))
 f279 := Tryz.func123.trans (congrArg some (by kernel_rfl))
 f280 := Tryz.func124.trans (congrArg some (by kernel_rfl))
 f281 := Tryz.func125.trans (congrArg some (by kernel_rfl))
 f282 := Tryz.func126.trans (congrArg some (by kernel_rfl))
 f283 := Tryz.func114.trans (congrArg some (by kernel_rfl))
 f284 := Tryz.func115.trans (congrArg some (by kernel_rfl))
 f285 := Tryz.func116.trans (congrArg some (by kernel_rfl))
 f286 := Tryz.func117.trans (congrArg some (by kernel_rfl))
 f287 := Tryz.func149.trans (congrArg some (by kernel_rfl))
 f316 := Tryz.func150.trans (congrArg some (by kernel_rfl))
 f317 := Tryz.func140.trans (congrArg some (by kernel_rfl))
 f318 := Tryz.func141.trans (congrArg some (by kernel_rfl))
 f319 := Tryz.func142.trans (congrArg some (by kernel_rfl))
 f320 := Tryz.func143.trans (congrArg some (by kernel_rfl))
 f321 := Tryz.func160.trans (congrArg some (by kernel_rfl))
 f322 := Tryz.func161.trans (congrArg some (by kernel_rfl))
 f337 := Tryz.func156.trans (congrArg some (by kernel_rfl))
 f338 := Tryz.func157.trans (congrArg some (by kernel_rfl))
 t0 := Tryz.underlying0
 a0 := Tryz.isAgg0
 z0 := Tryz.sizeOf0
 v0 := Tryz.zeroValue0
 t2 := Tryz.underlying2
 a2 := Tryz.isAgg2
 z2 := Tryz.sizeOf2
 v2 := Tryz.zeroValue2
 t3 := Tryz.underlying3
 a3 := Tryz.isAgg3
 z3 := Tryz.sizeOf3
 v3 := Tryz.zeroValue3
 t4 := Tryz.underlying4
 a4 := Tryz.isAgg4
 z4 := Tryz.sizeOf4
 v4 := Tryz.zeroValue4
 t5 := Tryz.underlying5
 a5 := Tryz.isAgg5
 z5 := Tryz.sizeOf5
 v5 := Tryz.zeroValue5
 t9 := Tryz.underlying9
 a9 := Tryz.isAgg9
 z9 := Tryz.sizeOf9
 v9 := Tryz.zeroValue9
 t20 := Tryz.underlying20
 a20 := Tryz.isAgg20
 z20 := Tryz.sizeOf20
 v20 := Tryz.zeroValue20
 t21 := Tryz.underlying21
 a21 := Tryz.isAgg21
 z21 := Tryz.sizeOf21
 v21 := Tryz.zeroValue21
 t37 := Tryz.underlying99
 a37 := Tryz.isAgg99
 z37 := Tryz.sizeOf99
 v37 := Tryz.zeroValue99
 t46 := Tryz.underlying141
 a46 := Tryz.isAgg141
 z46 := Tryz.sizeOf141
 v46 := Tryz.zeroValue141
 t51 := Tryz.underlying168
 a51 := Tryz.isAgg168
 z51 := Tryz.sizeOf168
 v51 := Tryz.zeroValue168
 t53 := Tryz.underlying110
 a53 := Tryz.isAgg110
 z53 := Tryz.sizeOf110
 v53 := Tryz.zeroValue110
 t75 := Tryz.underlying103
 a75 := Tryz.isAgg103
 z75 := Tryz.sizeOf103
 v75 := Tryz.zeroValue103
 t76 := Tryz.underlying104
 a76 := Tryz.isAgg104
 z76 := Tryz.sizeOf104
 v76 := Tryz.zeroValue104
 t85 := Tryz.underlying179
 a85 := Tryz.isAgg179
 z85 := Tryz.sizeOf179
 v85 := Tryz.zeroValue179
 t127 := Tryz.underlying140
 a127 := Tryz.isAgg140
 z127 := Tryz.sizeOf140
 v127 := Tryz.zeroValue140
 t143 := Tryz.underlying216
 a143 := Tryz.isAgg216
 z143 := Tryz.sizeOf216
 v143 := Tryz.zeroValue216
 t145 := Tryz.underlying218
 a145 := Tryz.isAgg218
 z145 := Tryz.sizeOf218
 v145 := Tryz.zeroValue218
 t167 := Tryz.underlying178
 a167 := Tryz.isAgg178
 z167 := Tryz.sizeOf178
 v167 := Tryz.zeroValue178
 t168 := Tryz.underlying181
 a168 := Tryz.isAgg181
 z168 := Tryz.sizeOf181
 v168 := Tryz.zeroValue181
 t171 := Tryz.underlying170
 a171 := Tryz.isAgg170
 z171 := Tryz.sizeOf170
 v171 := Tryz.zeroValue170
 t173 := Tryz.underlying172
 a173 := Tryz.isAgg172
 z173 := Tryz.sizeOf172
 v173 := Tryz.zeroValue172
 t175 := Tryz.underlying197
 a175 := Tryz.isAgg197
 z175 := Tryz.sizeOf197
 v175 := Tryz.zeroValue197
 t210 := Tryz.underlying201
 a210 := Tryz.isAgg201
 z210 := Tryz.sizeOf201
 v210 := Tryz.zeroValue201
 t212 := Tryz.underlying195
 a212 := Tryz.isAgg195
 z212 := Tryz.sizeOf195
 v212 := Tryz.zeroValue195
 t213 := Tryz.underlying196
 a213 := Tryz.isAgg196
 z213 := Tryz.sizeOf196
 t232 := Tryz.underlying220
 a232 := Tryz.isAgg220
 z232 := Tryz.sizeOf220
 v232 := Tryz.zeroValue220
 t233 := Tryz.underlying221
 a233 := Tryz.isAgg221
 z233 := Tryz.sizeOf221
 v233 := Tryz.zeroValue221
 g15 := by kernel_rfl
 g16 := by kernel_rfl
 g17 := by kernel_rfl
 g18 := by kernel_rfl
 g19 := by kernel_rfl
 t80 := Tryz.underlying109
 a80 := Tryz.isAgg109
 z80 := Tryz.sizeOf109
 v80 := Tryz.zeroValue109
 i0 := by kernel_rfl
 i2 := by kernel_rfl
 i3 := by kernel_rfl
 i4 := by kernel_rfl
 i5 := by kernel_rfl
 i9 := by kernel_rfl
 i20 := by kernel_rfl
 i21 := by kernel_rfl
 i37 := by kernel_rfl
 i46 := by kernel_rfl
 i51 := by kernel_rfl
 i53 := by kernel_rfl
 i75 := by kernel_rfl
 i76 := by kernel_rfl
 i80 := by kernel_rfl
 i85 := by kernel_rfl
 i127 := by kernel_rfl
 i143 := by kernel_rfl
 i145 := by kernel_rfl
 i167 := by kernel_rfl
 i168 := by kernel_rfl
 i171 := by kernel_rfl
 i173 := by kernel_rfl
 i175 := by kernel_rfl
 i210 := by kernel_rfl
 i212 := by kernel_rfl
 i232 := by kernel_rfl
 i233 := by kernel_rfl
 m15 := by kernel_rfl
 m16 := by kernel_rfl
 m17 := by kernel_rfl
 m18 := by kernel_rfl
 m19 := by kernel_rfl
 c0 := by kernel_rfl
 c2 := by kernel_rfl
 c3 := by kernel_rfl
 c4 := by kernel_rfl
 c5 := by kernel_rfl
 c9 := by kernel_rfl
 c20 := by kernel_rfl
 c21 := by kernel_rfl
 c37 := by kernel_rfl
 c46 := by kernel_rfl
 c51 := by kernel_rfl
 c53 := by kernel_rfl
 c75 := by kernel_rfl
 c76 := by kernel_rfl
 c80 := by kernel_rfl
 c85 := by kernel_rfl
 c127 := by kernel_rfl
 c143 := by kernel_rfl
 c145 := by kernel_rfl
 c167 := by kernel_rfl
 c168 := by kernel_rfl
 c171 := by kernel_rfl
 c173 := by kernel_rfl
 c175 := by kernel_rfl
 c210 := by kernel_rfl
 c212 := by kernel_rfl
 c213 := by kernel_rfl
 c232 := by kernel_rfl
 c233 := by kernel_rfl
theorem two_arg {Ψ : Ty} {p q : PV} {vals : Array Value} (ha : VRs Ψ [p, q] vals) : ∃ x y, vals = #[x, y] ∧ VR Ψ p x ∧ VR Ψ q y := by
 have := ha.1
 match vals, this with
 | ⟨[x, y]⟩, _ => exact ⟨x, y, rfl, ha.2 0 _ _ rfl rfl, ha.2 1 _ _ rfl rfl⟩
theorem Split_pc (Y : YEnv) (σ : Sg) (l : List UInt8) (b : UInt8) (hl : l.length < 4294967281) :
 PC Tryz.prog Y 60 [.str ⟨l.toArray⟩, .str ⟨#[b]⟩] σ (.isl ((splitL b l).map txt) .exact) σ := by
 refine PC_of_callsG (by kernel_rfl) fun Ψ vals w hs ha hG => ?_
 obtain ⟨x, y, rfl, hx, hy⟩ := two_arg ha
 obtain rfl := hx.str_inv
 obtain rfl := hy.str_inv
 have hgn : Tryz.prog.globalNamed "internal/bytealg.MaxLen" = some 1 := by kernel_rfl
 obtain ⟨m, hm⟩ := hG.max 1 hgn
 have hm' := hs.imm _ _ _ hm
 have hsz : (⟨l.toArray⟩ : ByteArray).size = l.length := by simp [ByteArray.size]
 refine (Any.strings_Split lays146 (by kernel_rfl) ⟨l.toArray⟩ ⟨#[b]⟩ m w (by rw [hsz]; exact hl) hm' (Nat.le_refl 1)).mono ?_
 rintro e2 w2 ⟨rfl, rfl⟩
 have hsp := splitB_one b ⟨l.toArray⟩
 have hdl : (⟨l.toArray⟩ : ByteArray).data.toList = l := by simp
 rw [hdl] at hsp
 have hlen := Lib.splitB_all ⟨#[b]⟩ (Nat.le_refl 1) 0 _ (⟨l.toArray⟩ : ByteArray) rfl
 have hln : ((splitL b l).map txt).length = Lib.countB ⟨l.toArray⟩ ⟨#[b]⟩ + 1 := by
  rw [List.length_map, ← hsp, List.length_map, hlen]
 obtain ⟨Ψ', le, hs', hv⟩ := hs.newSlice (es := 1) (l := (splitL b l).map txt) (C := ((Lib.splitB ⟨#[b]⟩ 0 (Lib.countB ⟨l.toArray⟩ ⟨#[b]⟩) ⟨l.toArray⟩).map Value.string).toArray) 9 (fun k e hk => by
  obtain ⟨p, _, rfl⟩ := List.mem_map.1 (List.mem_of_getElem? hk)
  rfl) (fun k e j p hk hj => by
  rw [← hsp, List.map_map, List.getElem?_map, Option.map_eq_some_iff] at hk
  obtain ⟨q, hq, rfl⟩ := hk
  obtain ⟨rfl, rfl⟩ := one_get hj
  refine ⟨.string q, by simp [hq], ?_⟩
  have : (⟨q.data.toList.toArray⟩ : ByteArray) = q := by simp
  show VR Ψ (.str ⟨q.data.toList.toArray⟩) _
  rw [this]
  exact .str q)
 rw [hln] at hv
 exact ⟨_, Ψ', rfl, le, hs', hv, (Below.refl _ _).alloc hs.base _⟩
def errPV (ok : Bool) : PV := match ok with
 | true => .niliface
 | false => .iface 181 .undef
theorem Atoi_pc (Y : YEnv) (σ : Sg) (l : List UInt8) (hl : l.length ≤ 281474976710656) :
 PC Tryz.prog Y 83 [.str ⟨l.toArray⟩] σ (.tuple [I (atoiV l), errPV (atoiOK l)]) σ := by
 refine PC_of_callsG (by kernel_rfl) fun Ψ vals w hs ha hG => ?_
 obtain ⟨x, rfl, hx⟩ := one_arg ha
 obtain rfl := hx.str_inv
 have hsz : (⟨l.toArray⟩ : ByteArray).size = l.length := by simp [ByteArray.size]
 have hdl : (⟨l.toArray⟩ : ByteArray).data.toList = l := by simp
 have low : ∀ {w2 : World}, Below w.heap.size w w2 → SR Ψ σ w2 ∧ Below Ψ.base w w2 := fun hb =>
  ⟨hs.more (fun k hk => hb.block k hk) hb.size, ⟨hb.os, hb.tape, hb.output, hb.size, fun k hk => hb.block k (Nat.lt_of_lt_of_le hk hs.base)⟩⟩
 have tup : ∀ (n : Int) (p : PV) (v : Value), VR Ψ p v → VR Ψ (.tuple [I n, p]) (.tuple #[.int .i64 n, v]) := fun n p v hp =>
  .tuple _ _ rfl fun j q y h1 h2 => by
   match j, h1, h2 with
   | 0, h1, h2 => simp at h1 h2; subst h1 h2; exact .int _ _
   | 1, h1, h2 => simp at h1 h2; subst h1 h2; exact hp
   | j + 2, h1, h2 => simp at h1
 unfold atoiV atoiOK
 cases hA : Lib.atoiAll l with
 | ok v =>
  refine (Any.strconv_Atoi_ok lays172 ⟨l.toArray⟩ (by rw [hsz]; omega) v (by rw [hdl]; exact hA) w).mono ?_
  rintro e2 w2 ⟨rfl, hw⟩
  have hb : Below w.heap.size w w2 := by
   rcases hw with rfl | ⟨t, rfl⟩
   ·exact Below.refl _ _
   exact Lib.bytesWorld_below _ _ _
  exact ⟨_, Ψ, rfl, Ty.le.refl _, (low hb).1, tup v _ _ .niliface, (low hb).2⟩
 | range =>
  have hgn : Tryz.prog.globalNamed "strconv.ErrRange" = some 3 := by kernel_rfl
  obtain ⟨te, xe, he⟩ := hG.err rfl "strconv.ErrRange" (by simp) 3 hgn
  refine (Any.strconv_Atoi_range lays172 ⟨l.toArray⟩ (by rw [hsz]; exact hl) (by rw [hdl]; exact hA) _ w (hs.imm _ _ _ he) (.inr ⟨_, _, rfl⟩)).mono ?_
  rintro e2 w2 ⟨N, rfl, _, _, hb⟩
  rw [hdl]
  exact ⟨_, Ψ, rfl, Ty.le.refl _, (low hb).1, tup _ _ _ (.iface _ _ _ (.undef _)), (low hb).2⟩
 | _ =>
  have hgn : Tryz.prog.globalNamed "strconv.ErrSyntax" = some 2 := by kernel_rfl
  obtain ⟨te, xe, he⟩ := hG.err rfl "strconv.ErrSyntax" (by simp) 2 hgn
  refine (Any.strconv_Atoi_syntax lays172 ⟨l.toArray⟩ (by rw [hsz]; exact hl) (by rw [hdl]; exact hA) _ w (hs.imm _ _ _ he) (.inr ⟨_, _, rfl⟩)).mono ?_
  rintro e2 w2 ⟨N, rfl, _, _, hb⟩
  exact ⟨_, Ψ, rfl, Ty.le.refl _, (low hb).1, tup 0 _ _ (.iface _ _ _ (.undef _)), (low hb).2⟩
def rowT (w : List UInt8) (l : List Int) : List UInt8 := w ++ l.flatMap fun n => 32 :: Lib.itoa n
theorem rowT_nil (w : List UInt8) : rowT w [] = w := by simp [rowT]
theorem rowT_cons (w : List UInt8) (n : Int) (l : List Int) : rowT w (n :: l) = rowT (w ++ 32 :: Lib.itoa n) l := by simp [rowT]
theorem rowT_take {w : List UInt8} {l : List Int} {i : Nat} {n : Int} (h : l[i]? = some n) : rowT w (l.take (i + 1)) = rowT w (l.take i) ++ 32 :: Lib.itoa n := by
 unfold rowT
 rw [List.take_add_one, h, List.flatMap_append]
 simp
/-- The numbers of some words; none: one of them is no number. -/
def numsE (k : Nat) : List (List UInt8) → Option (List Int)
 | [] => some []
 | w :: r => match numE k w with
  | none => none
  | some n => (numsE k r).map fun l => (n : Int) :: l
def parseE (k : Nat) (s : List UInt8) : Option (List UInt8 × List Int) := match splitL 32 s with
 | [] => none
 | w :: r => (numsE k r).map fun l => (w, l)
theorem numsE_len {k : Nat} : ∀ {ws : List (List UInt8)} {l : List Int}, numsE k ws = some l → l.length = ws.length := by
 intro ws
 induction ws with
 | nil => intro l h; simp [numsE] at h; subst h; rfl
 | cons w r ih =>
  intro l h
  simp only [numsE] at h
  split at h
  ·cases h
  simp only [Option.map_eq_some_iff] at h
  obtain ⟨l0, h0, rfl⟩ := h
  simp [ih h0]
/-- A number as it is written: not negative, of at most k digits. -/
def Short (k : Nat) (n : Int) : Prop := 0 ≤ n ∧ (Lib.itoa n).length ≤ k
theorem itoa_nat {n : Int} (h : 0 ≤ n) : Lib.itoa n = Lib.decDigits n.toNat := by unfold Lib.itoa; rw [if_neg (by omega)]
theorem short_lt {k : Nat} {n : Int} (h : 0 ≤ n) (h2 : n < ((10 ^ k : Nat) : Int)) (hk : 1 ≤ k) : Short k n := by
 refine ⟨h, ?_⟩
 rw [itoa_nat h]
 have hs := pow_dec n.toNat
 rcases Nat.lt_or_ge k (Lib.decDigits n.toNat).length with hl | hl
 ·exfalso
  rcases hs with hs | hs
  ·have := Nat.pow_le_pow_right (n := 10) (by omega) (show k ≤ (Lib.decDigits n.toNat).length - 1 by omega)
   omega
  rw [hs, dec_one] at hl
  simp at hl
  omega
 exact hl
def Fits (l : List Int) : Prop := ∀ n, n ∈ l → -9223372036854775808 ≤ n ∧ n ≤ 9223372036854775807
theorem u8_48 {c : UInt8} : (c = 48) ↔ c.toNat = 48 := ⟨fun h => by rw [h]; rfl, fun h => UInt8.toNat.inj h⟩
theorem numFrom_cons (n : Nat) (c : UInt8) (r : List UInt8) : numFrom n (c :: r) = if 48 ≤ c.toNat ∧ c.toNat ≤ 57 then numFrom (10 * n + (c.toNat - 48)) r else none := rfl
theorem take_free {b : UInt8} {s : List UInt8} {f i : Nat} {c : UInt8} (h : b ∉ (s.drop f).take (i - f)) (hf : f ≤ i) (hx : s[i]? = some c) (hc : c ≠ b) : b ∉ (s.drop f).take (i + 1 - f) := by
 rw [show i + 1 - f = (i - f) + 1 by omega, List.take_add_one, List.getElem?_drop, show f + (i - f) = i by omega, hx]
 simp only [Option.toList_some, List.mem_append, List.mem_singleton, not_or]
 exact ⟨h, fun e => hc e.symm⟩
theorem drop_cut {s : List UInt8} {f i : Nat} {c : UInt8} (hf : f ≤ i) (hx : s[i]? = some c) : s.drop f = (s.drop f).take (i - f) ++ c :: s.drop (i + 1) := by
 have hl : i < s.length := (List.getElem?_eq_some_iff.1 hx).1
 have hv : s[i] = c := (List.getElem?_eq_some_iff.1 hx).2
 have h1 := (List.take_append_drop (i - f) (s.drop f)).symm
 rw [List.drop_drop, show f + (i - f) = i by omega, List.drop_eq_getElem_cons hl, hv] at h1
 exact h1
set_option maxHeartbeats 2000000 in
theorem rrow_pc (Y : YEnv) (σ : Sg) (w : List UInt8) (l : List Int) (o : Own) (hw : w.length ≤ 2 ^ 40) (hl : l.length ≤ 2 ^ 30) (hv : Fits l) :
 PC Tryz.prog Y 58 [txt w, .isl (l.map I) o] σ (txt (rowT w l ++ [10])) (σ) := by
 refine PC_of_W Tryz.func58 rfl (by kernel_rfl) Tryz.ntmps58 (by simp) fun hcl hca => ?_
 refine W_sr [0, 1] fun R hR => ?_
 simp only [go_sem]
 refine hR _ _ ?_; clear hR R
 try simp only [go_sem]
 refine W_seq fun Z2 K2 => ?_
 refine W_sr [0, 1, 5] fun R hR => ?_
 simp only [go_sem]
 refine hR _ _ ?_; clear hR R
 try simp only [go_sem]
 refine W_block ?_
 refine W_loopS (α := Nat × (List UInt8)) (fun ⟨i, acc⟩ => [(0, txt acc), (5, I i)]) (fun ⟨i, acc⟩ => i ≤ l.length ∧ rowT acc (l.drop i) = rowT w l ∧ acc.length ≤ w.length + 22 * i) (fun ⟨i, acc⟩ => l.length - i) ((0, w)) rfl (⟨Nat.zero_le _, rfl, by omega⟩) ?_
 rintro ⟨i, acc⟩ ⟨hi, hinv, hal⟩
 refine W_seq fun Z4 K4 => ?_
 refine W_sr [0, 1, 5, 9] fun R hR => ?_
 simp only [go_sem]
 refine hR _ _ ?_; clear hR R
 try simp only [go_sem]
 refine W_cond rfl (fun c1 => ?_) (fun c1 => ?_)
 ·
  try simp only [nrm] at c1
  have hi' : i < l.length := by first | assumption | omega
  obtain ⟨x, hx⟩ : ∃ x, l[i]? = some x := ⟨l[i], by simp [hi']⟩
  have hdrop : l.drop i = x :: l.drop (i + 1) := by
   rw [List.drop_eq_getElem_cons hi']; congr 1; exact (List.getElem?_eq_some_iff.1 hx).2
  have hxv := hv x (List.mem_of_getElem? hx)
  have hxl := Lib.itoa_length_le x hxv.1 hxv.2
  rw [hdrop, rowT_cons] at hinv
  refine W_skip (K4 _ _ ?_)
  refine W_seq fun Z6 K6 => ?_
  refine W_block ?_
  refine W_region [0, 1, 5] fun R hR => ?_
  simp only [go_sem, hx]
  try simp (disch := (first | omega | (simp only [go_sem, List.length_append] <;> omega))) only [wrapI, wrapU, appX_exact, appX_tok, strAdd, slT, slTa, slTb]
  try simp only [go_sem, hx]
  try simp (disch := (first | omega | (simp only [go_sem, List.length_append] <;> omega))) only [wrapI, wrapU, strAdd, slT, slTa, slTb]
  refine GCall_of (Itoa_pc Y _ x hxv.1 hxv.2) ?_
  simp only [go_sem, hx]
  try simp (disch := (first | omega | (simp only [go_sem, List.length_append] <;> omega))) only [wrapI, wrapU, appX_exact, appX_tok, strAdd, slT, slTa, slTb]
  try simp only [go_sem, hx]
  refine hR _ _ (K6 _ _ ?_); clear hR R; try clear K6 Z6
  try simp only [go_sem, hx]
  refine W_region [0, 1, 5] fun R hR => ?_
  simp only [go_sem, hx]
  try simp (disch := (first | omega | (simp only [go_sem, List.length_append] <;> omega))) only [wrapI, wrapU, strAdd, slT, slTa, slTb]
  refine hR _ _ ?_; clear hR R
  try simp only [go_sem, hx]
  refine ⟨(i + 1, acc ++ 32 :: Lib.itoa x), ?_, by (try simp only []); omega, ?_⟩
  ·refine Weak.eq (by simp only [List.append_assoc, List.cons_append, List.nil_append]; first | done | rfl) rfl
  try dsimp only
  exact ⟨hi', hinv, by simp only [List.length_append, List.length_cons]; omega⟩
 try simp only [nrm] at c1
 have hdrop : l.drop i = [] := List.drop_eq_nil_of_le (by omega)
 rw [hdrop, rowT_nil] at hinv
 refine W_exit ?_
 simp only [go_sem]
 refine K2 _ _ ?_
 refine W_sr [4] fun R hR => ?_
 simp only [go_sem]
 try simp (disch := (first | omega | (simp only [go_sem, List.length_append] <;> omega))) only [wrapI, wrapU, appX_exact, appX_tok, strAdd, slT, slTa, slTb]
 try simp only [go_sem]
 refine hR _ _ ?_; clear hR R
 try simp only [go_sem]
 refine W_ret ?_
 simp only [go_sem]
 refine ⟨.inr (by trivial), ?_⟩
 first | refine Fsa hcl rfl ?_ | refine Fse hcl rfl ?_
 try simp only [go_sem]
 all_goals
  first | rw [← hinv] | rfl
set_option maxHeartbeats 2000000 in
theorem rsplit_pc (Y : YEnv) (σ : Sg) (s : List UInt8) (b : UInt8) (hs : s.length ≤ 2 ^ 40) :
 PC Tryz.prog Y 62 [txt s, .int .u8 b.toNat] σ (.isl ((splitL b s).map txt) .ro) (σ) := by
 refine PC_of_W Tryz.func62 rfl (by kernel_rfl) Tryz.ntmps62 (by simp) fun hcl hca => ?_
 refine W_sr [0, 1] fun R hR => ?_
 simp only [go_sem]
 refine hR _ _ ?_; clear hR R
 try simp only [go_sem]
 refine W_sr [0, 1, 5] fun R hR => ?_
 simp only [go_sem]
 refine hR _ _ ?_; clear hR R
 try simp only [go_sem]
 refine W_sr [0, 1, 5, 6] fun R hR => ?_
 simp only [go_sem]
 refine hR _ _ ?_; clear hR R
 try simp only [go_sem]
 refine W_seq fun Z4 K4 => ?_
 refine W_sr [0, 1, 5, 6, 7] fun R hR => ?_
 simp only [go_sem]
 refine hR _ _ ?_; clear hR R
 try simp only [go_sem]
 refine W_block ?_
 refine W_weak (Weak.room (t := 5) (es := 1) rfl (by simp)) ?_
 refine W_weak (Weak.keep [0, 1, 5, 6, 7]) ?_
 simp only [go_sem]
 refine W_loopT (α := Nat × Nat × (List (List UInt8))) (fun ⟨i, f, out⟩ => [(5, .isl (out.map txt) (.tok σ.rooms.length out.length 1)), (6, I f), (7, I i)]) (fun ⟨i, f, out⟩ => σ.ext [] [out.length]) (fun ⟨i, f, out⟩ => i ≤ s.length + 1 ∧ out.length ≤ i ∧ (i ≤ s.length → f ≤ i ∧ out ++ splitL b (s.drop f) = splitL b s ∧ b ∉ (s.drop f).take (i - f)) ∧ (i = s.length + 1 → out = splitL b s)) (fun ⟨i, f, out⟩ => s.length + 1 - i) ((0, 0, [])) rfl (by first | rfl | (simp only [go_sem]; done) | (simp only [go_sem]; rfl)) (⟨by omega, Nat.le_refl _, fun _ => ⟨Nat.le_refl _, rfl, by simp⟩, fun h => by omega⟩) ?_
 rintro ⟨i, f, out⟩ ⟨hi, hol, hin, hend⟩
 refine W_seq fun Z6 K6 => ?_
 refine W_sr [0, 1, 5, 6, 7, 11] fun R hR => ?_
 simp only [go_sem]
 refine hR _ _ ?_; clear hR R
 try simp only [go_sem]
 refine W_cond rfl (fun c1 => ?_) (fun c1 => ?_)
 ·
  try simp only [nrm] at c1
  have hi1 : i ≤ s.length := by first | omega | (simp at c1; omega)
  obtain ⟨hfi, hsp, hfree⟩ := hin hi1
  refine W_skip (K6 _ _ ?_)
  refine W_seq fun Z8 K8 => ?_
  refine W_block ?_
  refine W_seq fun Z9 K9 => ?_
  refine W_regionJ [0, 1, 5, 6, 7, 24] [(24, .bool (decide (i = s.length) || decide (s[i]? = some b)))] ?_ fun R hR => ?_
  ·refine K9 _ _ ?_
   simp only [go_sem]
   refine W_cond rfl (fun c2 => ?_) (fun c2 => ?_)
   ·
    try simp only [nrm] at c2
    have hcut : ∀ c, s[i]? = some c → c = b := fun c hc => by
     simp only [Bool.or_eq_true, decide_eq_true_eq] at c2
     rcases c2 with h | h
     ·rw [h] at hc; simp at hc
     rw [hc] at h; injection h
    refine W_sr [0, 1, 5, 7] fun R hR => ?_
    simp only [go_sem]
    try simp (disch := (first | omega | (simp only [go_sem, List.length_append] <;> omega))) only [wrapI, wrapU, appX_exact, appX_tok, strAdd, slT, slTa, slTb]
    try simp only [go_sem]
    try simp (disch := (first | omega | (simp only [go_sem, List.length_append] <;> omega))) only [wrapI, wrapU, appX_exact, appX_tok, strAdd, slT, slTa, slTb]
    try simp only [go_sem]
    refine hR _ _ ?_; clear hR R
    try simp only [go_sem]
    refine W_region [0, 1, 5, 6, 7] fun R hR => ?_
    simp only [go_sem]
    try simp (disch := (first | omega | (simp only [go_sem, List.length_append] <;> omega))) only [wrapI, wrapU, strAdd, slT, slTa, slTb]
    refine hR _ _ (K8 _ _ ?_); clear hR R; try clear K8 Z8
    try simp only [go_sem]
    refine W_region [0, 1, 5, 6, 7] fun R hR => ?_
    simp only [go_sem]
    try simp (disch := (first | omega | (simp only [go_sem, List.length_append] <;> omega))) only [wrapI, wrapU, strAdd, slT, slTa, slTb]
    refine hR _ _ ?_; clear hR R
    try simp only [go_sem]
    refine ⟨(i + 1, i + 1, out ++ [(s.drop f).take (i - f)]), ?_, by (try simp only []); omega, ?_⟩
    ·first | exact Weak.refl | exact Wqq
    try dsimp only
    refine ⟨by omega, by simp; omega, fun h1 => ?_, fun h1 => ?_⟩
    ·obtain ⟨c, hx⟩ : ∃ c, s[i]? = some c := ⟨s[i]'(by omega), by simp⟩
     have hcb : c = b := hcut c hx
     have hd := drop_cut hfi hx
     rw [hcb] at hd
     refine ⟨Nat.le_refl _, ?_, by simp⟩
     rw [← hsp, hd, splitL_app _ hfree, List.append_assoc]
     rw [← hd]
     simp
    have hil : i = s.length := by omega
    have hd : (s.drop f).take (i - f) = s.drop f := List.take_of_length_le (by simp; omega)
    rw [hd] at hfree ⊢
    rw [← hsp, splitL_one hfree]
   try simp only [nrm] at c2
   have hnot : ∃ c, s[i]? = some c ∧ c ≠ b := by
    simp only [Bool.or_eq_false_iff, decide_eq_false_iff_not] at c2
    refine ⟨s[i]'(by omega), by simp, fun e => c2.2 ?_⟩
    rw [← e]; simp
   refine W_skip (K8 _ _ ?_)
   refine W_region [0, 1, 5, 6, 7] fun R hR => ?_
   simp only [go_sem]
   try simp (disch := (first | omega | (simp only [go_sem, List.length_append] <;> omega))) only [wrapI, wrapU, strAdd, slT, slTa, slTb]
   refine hR _ _ ?_; clear hR R
   try simp only [go_sem]
   refine ⟨(i + 1, f, out), ?_, by (try simp only []); omega, ?_⟩
   ·first | exact Weak.refl | exact Wqq
   try dsimp only
   obtain ⟨c, hx, hcb⟩ := hnot
   exact ⟨by omega, by omega, fun _ => ⟨by omega, hsp, take_free hfree hfi hx hcb⟩, fun h => by have := (List.getElem?_eq_some_iff.1 hx).1; omega⟩
  simp only [go_sem]
  refine GWant_split (fun g1 => ?_) (fun g1 => ?_)
  ·try simp only [Bool.not_eq_true', Bool.not_eq_false'] at g1
   have n1 := g1; try simp only [nrm] at n1
   have hil : i < s.length := by simp at g1; omega
   obtain ⟨c, hx⟩ : ∃ c, s[i]? = some c := ⟨s[i], by simp [hil]⟩
   have hix := ixT (k := .i64) hx
   simp only [go_sem, hix, g1]
   refine hR _ ?_
   all_goals try simp only [go_sem, hix]
   all_goals
    first | rfl | (simp [*]; done) | (simp_all; done) | (rw [u8_beq, hx]; simp [show ¬ i = s.length by omega])
  try simp only [Bool.not_eq_true', Bool.not_eq_false'] at g1
  have n1 := g1; try simp only [nrm] at n1
  simp only [go_sem, g1]
  refine hR _ ?_
  all_goals try simp only [go_sem]
  all_goals
   first | rfl | (simp [*]; done) | (simp_all; done) | (rw [u8_beq, hx]; simp [show ¬ i = s.length by omega])
 try simp only [nrm] at c1
 have hie : i = s.length + 1 := by first | omega | (simp at c1; omega)
 have hout := hend hie
 refine W_exit ?_
 simp only [go_sem]
 refine K4 _ _ ?_
 refine W_sr [4] fun R hR => ?_
 simp only [go_sem]
 refine hR _ _ ?_; clear hR R
 try simp only [go_sem]
 refine W_ret ?_
 simp only [go_sem]
 refine ⟨.inr (by trivial), ?_⟩
 refine Fin_same hcl rfl (Wk.ro (by simp only [go_sem]) ?_)
 try simp only [go_sem]
 all_goals
  subst hout; first | rfl | (simp only [go_sem]; done)
set_option maxHeartbeats 2000000 in
theorem rnumber_pc (Y : YEnv) (σ : Sg) (w : List UInt8) (hw : w.length ≤ 2 ^ 40) :
 PC Tryz.prog Y 84 [txt w] σ (.tuple [I (((numE 10 w).getD 0 : Nat) : Int), .bool (numE 10 w).isSome]) (σ) := by
 refine PC_of_W Tryz.func84 rfl (by kernel_rfl) Tryz.ntmps84 (by simp) fun hcl hca => ?_
 refine W_sr [0] fun R hR => ?_
 simp only [go_sem]
 refine hR _ _ ?_; clear hR R
 try simp only [go_sem]
 refine W_seq fun Z2 K2 => ?_
 refine W_seq fun Z3 K3 => ?_
 refine W_regionJ [0, 23] [(23, .bool (decide (w = [] ∨ 10 < w.length ∨ (w.head? = some 48 ∧ 1 < w.length))))] ?_ fun R hR => ?_
 ·refine K3 _ _ ?_
  simp only [go_sem]
  refine W_cond rfl (fun c1 => ?_) (fun c1 => ?_)
  ·
   try simp only [nrm] at c1
   have hnone : numE 10 w = none := by unfold numE; exact if_pos (by simpa using c1)
   refine W_sr [2, 3] fun R hR => ?_
   simp only [go_sem]
   refine hR _ _ ?_; clear hR R
   try simp only [go_sem]
   refine W_ret ?_
   simp only [go_sem]
   refine ⟨.inr (by trivial), ?_⟩
   first | refine Fsa hcl rfl ?_ | refine Fse hcl rfl ?_
   try simp only [go_sem]
   all_goals
    first | rfl | (rw [hnone]; rfl) | (rw [hsome, ← hinv]; rfl) | simp_all
  try simp only [nrm] at c1
  have hsome : numE 10 w = numFrom 0 w := by unfold numE; exact if_neg (by simpa using c1)
  have hl7 : w.length ≤ 10 := by simp at c1; omega
  refine W_skip (K2 _ _ ?_)
  refine W_sr [0, 4] fun R hR => ?_
  simp only [go_sem]
  refine hR _ _ ?_; clear hR R
  try simp only [go_sem]
  refine W_seq fun Z6 K6 => ?_
  refine W_sr [0, 4, 5] fun R hR => ?_
  simp only [go_sem]
  refine hR _ _ ?_; clear hR R
  try simp only [go_sem]
  refine W_block ?_
  refine W_loopS (α := Nat × Nat) (fun ⟨i, n⟩ => [(4, I n), (5, I i)]) (fun ⟨i, n⟩ => i ≤ w.length ∧ numFrom n (w.drop i) = numFrom 0 w ∧ n < 10 ^ i) (fun ⟨i, n⟩ => w.length - i) ((0, 0)) rfl (⟨Nat.zero_le _, rfl, by simp⟩) ?_
  rintro ⟨i, n⟩ ⟨hi, hinv, hn⟩
  refine W_seq fun Z8 K8 => ?_
  refine W_sr [0, 4, 5, 27] fun R hR => ?_
  simp only [go_sem]
  refine hR _ _ ?_; clear hR R
  try simp only [go_sem]
  refine W_cond rfl (fun c2 => ?_) (fun c2 => ?_)
  ·
   try simp only [nrm] at c2
   have hi' : i < w.length := by first | assumption | omega
   obtain ⟨c, hx⟩ : ∃ c, w[i]? = some c := ⟨w[i], by simp [hi']⟩
   have hdrop : w.drop i = c :: w.drop (i + 1) := by
    rw [List.drop_eq_getElem_cons hi']; congr 1; exact (List.getElem?_eq_some_iff.1 hx).2
   rw [hdrop, numFrom_cons] at hinv
   have hix := ixT (k := .i64) hx
   have hcb := c.toNat_lt
   refine W_skip (K8 _ _ ?_)
   refine W_seq fun Z10 K10 => ?_
   refine W_block ?_
   refine W_seq fun Z11 K11 => ?_
   refine W_seq fun Z12 K12 => ?_
   refine W_regionJ [0, 4, 5, 39] [(39, .bool (!decide (48 ≤ c.toNat ∧ c.toNat ≤ 57)))] ?_ fun R hR => ?_
   ·refine K12 _ _ ?_
    simp only [go_sem, hix]
    refine W_cond rfl (fun c3 => ?_) (fun c3 => ?_)
    ·
     try simp only [nrm] at c3
     have hnd : ¬ (48 ≤ c.toNat ∧ c.toNat ≤ 57) := by simpa using c3
     rw [if_neg hnd] at hinv
     have hnone := hsome.trans hinv.symm
     refine W_sr [2, 3] fun R hR => ?_
     simp only [go_sem, hix]
     refine hR _ _ ?_; clear hR R
     try simp only [go_sem, hix]
     refine W_ret ?_
     simp only [go_sem, hix]
     refine ⟨.inr (by trivial), ?_⟩
     first | refine Fsa hcl rfl ?_ | refine Fse hcl rfl ?_
     try simp only [go_sem]
     all_goals
      first | rfl | (rw [hnone]; rfl) | (rw [hsome, ← hinv]; rfl) | simp_all
    try simp only [nrm] at c3
    have hd : 48 ≤ c.toNat ∧ c.toNat ≤ 57 := by simpa using c3
    rw [if_pos hd] at hinv
    have hp : 10 ^ i ≤ 10 ^ 10 := Nat.pow_le_pow_right (by omega) (by omega)
    have hw1 : IntKind.u8.wrap ((c.toNat : Int) - 48) = ((c.toNat - 48 : Nat) : Int) := by rw [wrap8 (by omega) (by omega)]; omega
    have hw2 : IntKind.i64.wrap ((c.toNat - 48 : Nat) : Int) = ((c.toNat - 48 : Nat) : Int) := wrapI (by omega) (by omega)
    have hw3 : IntKind.i64.wrap (10 * (n : Int)) = ((10 * n : Nat) : Int) := by rw [wrapI (by omega) (by omega)]; omega
    have hw4 : IntKind.i64.wrap (((10 * n : Nat) : Int) + ((c.toNat - 48 : Nat) : Int)) = ((10 * n + (c.toNat - 48) : Nat) : Int) := by rw [wrapI (by omega) (by omega)]; omega
    refine W_skip (K11 _ _ ?_)
    refine W_region [0, 4, 5] fun R hR => ?_
    simp only [go_sem, hix, hw1, hw2, hw3, hw4]
    try simp (disch := (first | omega | (simp only [go_sem, List.length_append] <;> omega))) only [wrapI, wrapU, strAdd, slT, slTa, slTb]
    refine hR _ _ (K10 _ _ ?_); clear hR R; try clear K10 Z10
    try simp only [go_sem, hix, hw1, hw2, hw3, hw4]
    refine W_region [0, 4, 5] fun R hR => ?_
    simp only [go_sem, hix, hw1, hw2, hw3, hw4]
    try simp (disch := (first | omega | (simp only [go_sem, List.length_append] <;> omega))) only [wrapI, wrapU, strAdd, slT, slTa, slTb]
    refine hR _ _ ?_; clear hR R
    try simp only [go_sem, hix, hw1, hw2, hw3, hw4]
    refine ⟨(i + 1, 10 * n + (c.toNat - 48)), ?_, by (try simp only []); omega, ?_⟩
    ·first | exact Weak.refl | exact Wqq
    try dsimp only
    exact ⟨hi', hinv, by rw [Nat.pow_succ]; omega⟩
   simp only [go_sem, hix]
   refine GWant_split (fun g1 => ?_) (fun g1 => ?_)
   ·try simp only [Bool.not_eq_true', Bool.not_eq_false'] at g1
    have n1 := g1; try simp only [nrm] at n1
    simp only [go_sem, hix, g1]
    refine hR _ ?_
    all_goals try simp only [go_sem, hix]
    all_goals
     first | rfl | (simp [*]; done) | (simp only [List.cons.injEq, Prod.mk.injEq, PV.bool.injEq, true_and, and_true]; rw [Bool.eq_iff_iff]; simp only [Bool.not_eq_true', decide_eq_false_iff_not, decide_eq_true_eq, Bool.or_eq_true, Bool.and_eq_true]; first | omega | (simp_all; done) | (simp_all; omega))
   try simp only [Bool.not_eq_true', Bool.not_eq_false'] at g1
   have n1 := g1; try simp only [nrm] at n1
   simp only [go_sem, hix, g1]
   refine hR _ ?_
   all_goals try simp only [go_sem, hix]
   all_goals
    first | rfl | (simp [*]; done) | (simp only [List.cons.injEq, Prod.mk.injEq, PV.bool.injEq, true_and, and_true]; rw [Bool.eq_iff_iff]; simp only [Bool.not_eq_true', decide_eq_false_iff_not, decide_eq_true_eq, Bool.or_eq_true, Bool.and_eq_true]; first | omega | (simp_all; done) | (simp_all; omega))
  try simp only [nrm] at c2
  have hdrop : w.drop i = [] := List.drop_eq_nil_of_le (by omega)
  rw [hdrop] at hinv
  simp only [numFrom] at hinv
  refine W_exit ?_
  simp only [go_sem]
  refine K6 _ _ ?_
  refine W_sr [2, 3] fun R hR => ?_
  simp only [go_sem]
  refine hR _ _ ?_; clear hR R
  try simp only [go_sem]
  refine W_ret ?_
  simp only [go_sem]
  refine ⟨.inr (by trivial), ?_⟩
  first | refine Fsa hcl rfl ?_ | refine Fse hcl rfl ?_
  try simp only [go_sem]
  all_goals
   first | rfl | (rw [hnone]; rfl) | (rw [hsome, ← hinv]; rfl) | simp_all
 simp only [go_sem]
 refine GWant_split (fun g2 => ?_) (fun g2 => ?_)
 ·try simp only [Bool.not_eq_true', Bool.not_eq_false'] at g2
  have n2 := g2; try simp only [nrm] at n2
  simp only [go_sem, g2]
  refine GWant_split (fun g3 => ?_) (fun g3 => ?_)
  ·try simp only [Bool.not_eq_true', Bool.not_eq_false'] at g3
   have n3 := g3; try simp only [nrm] at n3
   have hwl : 0 < w.length := by first | omega | (simp at g2; omega) | (simp at n2; omega) | (rcases w with _ | ⟨c, r⟩ <;> simp_all; done)
   obtain ⟨c0, hc0⟩ : ∃ c, w[0]? = some c := ⟨w[0], by simp [hwl]⟩
   have hh : w.head? = some c0 := by rw [← hc0]; cases w <;> rfl
   have hix := ixT0 (k := .i64) hc0
   simp only [go_sem, hix, g2, g3]
   refine GWant_split (fun g4 => ?_) (fun g4 => ?_)
   ·try simp only [Bool.not_eq_true', Bool.not_eq_false'] at g4
    have n4 := g4; try simp only [nrm] at n4
    simp only [go_sem, hix, g2, g3, g4]
    refine hR _ ?_
    all_goals try simp only [go_sem, hix]
    all_goals
     first | rfl | (simp [*]; done) | (simp_all; done) | (simp only [List.cons.injEq, Prod.mk.injEq, PV.bool.injEq, true_and, and_true]; rw [Bool.eq_iff_iff]; rcases w with _ | ⟨c1, r⟩ <;> simp_all [u8_48] <;> omega) | (rcases w with _ | ⟨c1, r⟩ <;> simp_all [u8_48] <;> omega)
   try simp only [Bool.not_eq_true', Bool.not_eq_false'] at g4
   have n4 := g4; try simp only [nrm] at n4
   simp only [go_sem, hix, g2, g3, g4]
   refine hR _ ?_
   all_goals try simp only [go_sem, hix]
   all_goals
    first | rfl | (simp [*]; done) | (simp_all; done) | (simp only [List.cons.injEq, Prod.mk.injEq, PV.bool.injEq, true_and, and_true]; rw [Bool.eq_iff_iff]; rcases w with _ | ⟨c1, r⟩ <;> simp_all [u8_48] <;> omega) | (rcases w with _ | ⟨c1, r⟩ <;> simp_all [u8_48] <;> omega)
  try simp only [Bool.not_eq_true', Bool.not_eq_false'] at g3
  have n3 := g3; try simp only [nrm] at n3
  simp only [go_sem, g2, g3]
  refine hR _ ?_
  all_goals try simp only [go_sem]
  all_goals
   first | rfl | (simp [*]; done) | (simp_all; done) | (simp only [List.cons.injEq, Prod.mk.injEq, PV.bool.injEq, true_and, and_true]; rw [Bool.eq_iff_iff]; rcases w with _ | ⟨c1, r⟩ <;> simp_all [u8_48] <;> omega) | (rcases w with _ | ⟨c1, r⟩ <;> simp_all [u8_48] <;> omega)
 try simp only [Bool.not_eq_true', Bool.not_eq_false'] at g2
 have n2 := g2; try simp only [nrm] at n2
 simp only [go_sem, g2]
 refine hR _ ?_
 all_goals try simp only [go_sem]
 all_goals
  first | rfl | (simp [*]; done) | (simp_all; done) | (simp only [List.cons.injEq, Prod.mk.injEq, PV.bool.injEq, true_and, and_true]; rw [Bool.eq_iff_iff]; rcases w with _ | ⟨c1, r⟩ <;> simp_all [u8_48] <;> omega) | (rcases w with _ | ⟨c1, r⟩ <;> simp_all [u8_48] <;> omega)
def contestW : List UInt8 := [99, 111, 110, 116, 101, 115, 116]
def roundW : List UInt8 := [114, 111, 117, 110, 100]
def ballotW : List UInt8 := [98, 97, 108, 108, 111, 116]
def endW : List UInt8 := [101, 110, 100]
def cnNums (c : Contest) : List Int := [c.songs, c.juries, c.members, c.most]
def rdNums (r : Rnd) : List Int := [r.keep, r.jury, r.member]
def blNums (b : Ballot) : List Int := [b.serial, b.round, b.kind, b.voter, b.song, b.points]
def lineT (w : List UInt8) (l : List Int) : List UInt8 := rowT w l ++ [10]
def rdT (l : List Rnd) : List UInt8 := l.flatMap fun r => lineT roundW (rdNums r)
def blT (l : List Ballot) : List UInt8 := l.flatMap fun b => lineT ballotW (blNums b)
def urnT (c : Contest) (l : List Ballot) : List UInt8 := lineT contestW (cnNums c) ++ rdT c.rounds ++ blT l ++ lineT endW [(l.length : Int)]
def urnA (c : Contest) (l : List Ballot) : List UInt8 × Int := if chkBls c l ≠ 0 then ([], chkBls c l) else (urnT c l, 0)
theorem rdT_take {l : List Rnd} {i : Nat} {b : Rnd} (h : l[i]? = some b) : rdT (l.take (i + 1)) = rdT (l.take i) ++ lineT roundW (rdNums b) := by
 unfold rdT
 rw [List.take_add_one, h, List.flatMap_append]
 simp
theorem blT_take {l : List Ballot} {i : Nat} {b : Ballot} (h : l[i]? = some b) : blT (l.take (i + 1)) = blT (l.take i) ++ lineT ballotW (blNums b) := by
 unfold blT
 rw [List.take_add_one, h, List.flatMap_append]
 simp
def Lim (b : Int) (l : List Int) : Prop := ∀ n, n ∈ l → 0 ≤ n ∧ n ≤ b
structure UrnK (c : Contest) (l : List Ballot) : Prop where
 v : CnV c
 cn : Lim 1000 (cnNums c)
 rl : c.rounds.length ≤ 4
 rd : ∀ r, r ∈ c.rounds → Lim 1000 (rdNums r)
 bl : l.length ≤ 300
 bn : ∀ b, b ∈ l → Lim 1000000000 (blNums b)
theorem urn_k {c : Contest} {l : List Ballot} (h : chkBls c l = 0) : UrnK c l := by
 obtain ⟨h1, h2, h3, _⟩ := blsV_of h
 have k1 := h1.sg; have k2 := h1.jr; have k3 := h1.mb; have k4 := h1.ms
 refine ⟨h1, fun n hn => ?_, h1.rl.2, fun r hr n hn => ?_, h2, fun b hb n hn => ?_⟩
 ·simp only [cnNums, List.mem_cons, List.not_mem_nil, or_false] at hn
  rcases hn with rfl | rfl | rfl | rfl <;> omega
 ·have := h1.rnd hr
  simp only [rdNums, List.mem_cons, List.not_mem_nil, or_false] at hn
  rcases hn with rfl | rfl | rfl <;> omega
 have q := h3 b hb
 have q1 := q.sr; have q2 := q.rd; have q3 := q.kd; have q4 := q.vt; have q5 := q.sg; have q6 := q.pt; have q7 := h1.rl
 have q8 : b.voter < 1001 := by have := q4.2; split at this <;> omega
 have q9 : b.points ≤ 100 := by have := q6.2; split at this <;> omega
 simp only [blNums, List.mem_cons, List.not_mem_nil, or_false] at hn
 rcases hn with rfl | rfl | rfl | rfl | rfl | rfl <;> omega
abbrev USt := Contest × List Ballot × Bool
def cn0 : Contest := ⟨0, 0, 0, 0, []⟩
def mkCn (n : List Int) : Contest := ⟨n.getD 0 0, n.getD 1 0, n.getD 2 0, n.getD 3 0, []⟩
def mkRd (n : List Int) : Rnd := ⟨n.getD 0 0, n.getD 1 0, n.getD 2 0⟩
def mkBl (n : List Int) : Ballot := ⟨n.getD 0 0, n.getD 1 0, n.getD 2 0, n.getD 3 0, n.getD 4 0, n.getD 5 0⟩
/-- One row more; none: it is not as said. -/
def takeU (i : Nat) (c : Contest) (l : List Ballot) (ended : Bool) (w : List UInt8) (n : List Int) : Option USt :=
 if ended = true then none
 else if i = 0 then (if w = contestW ∧ n.length = 4 then some (mkCn n, l, false) else none)
 else if w = roundW ∧ n.length = 3 ∧ l = [] then some ({ c with rounds := c.rounds ++ [mkRd n] }, l, false)
 else if w = ballotW ∧ n.length = 6 then some (c, l ++ [mkBl n], false)
 else if w = endW ∧ n.length = 1 ∧ n.getD 0 0 = (l.length : Int) then some (c, l, true)
 else none
def stepU (i : Nat) (st : USt) (row : List UInt8) : Option USt := match parseE 10 row with
 | none => none
 | some (w, n) => takeU i st.1 st.2.1 st.2.2 w n
def rowsU : Nat → USt → List (List UInt8) → USt × Int
 | _, st, [] => (st, 0)
 | i, st, r :: q => match stepU i st r with
  | none => (st, (i : Int) + 1)
  | some st' => rowsU (i + 1) st' q
abbrev UAns := Contest × List Ballot × Int × Int
def readRU (rows : List (List UInt8)) : UAns :=
 if (rowsU 0 (cn0, [], false) (rows.take (rows.length - 1))).2 ≠ 0 then (cn0, [], (rowsU 0 (cn0, [], false) (rows.take (rows.length - 1))).2, 1)
 else if (rowsU 0 (cn0, [], false) (rows.take (rows.length - 1))).1.2.2 = false ∨ rows[rows.length - 1]? ≠ some [] then (cn0, [], (rows.length : Int), 1)
 else if chkBls (rowsU 0 (cn0, [], false) (rows.take (rows.length - 1))).1.1 (rowsU 0 (cn0, [], false) (rows.take (rows.length - 1))).1.2.1 ≠ 0 then (cn0, [], 0, chkBls (rowsU 0 (cn0, [], false) (rows.take (rows.length - 1))).1.1 (rowsU 0 (cn0, [], false) (rows.take (rows.length - 1))).1.2.1)
 else ((rowsU 0 (cn0, [], false) (rows.take (rows.length - 1))).1.1, (rowsU 0 (cn0, [], false) (rows.take (rows.length - 1))).1.2.1, 0, 0)
def readU (s : List UInt8) : UAns := if 12000 < s.length then (cn0, [], 0, 6) else readRU (splitL 10 s)
theorem rowsU_cons {i : Nat} {st : USt} {r : List UInt8} {q : List (List UInt8)} : rowsU i st (r :: q) = match stepU i st r with
 | none => (st, (i : Int) + 1)
 | some st' => rowsU (i + 1) st' q := rfl
theorem rowsU_none {i : Nat} {st : USt} {r : List UInt8} {q : List (List UInt8)} (h : stepU i st r = none) : rowsU i st (r :: q) = (st, (i : Int) + 1) := by rw [rowsU_cons, h]
theorem rowsU_some {i : Nat} {st st' : USt} {r : List UInt8} {q : List (List UInt8)} (h : stepU i st r = some st') : rowsU i st (r :: q) = rowsU (i + 1) st' q := by rw [rowsU_cons, h]
theorem readU_bad {rows : List (List UInt8)} {st : USt} {e : Int} (h : rowsU 0 (cn0, [], false) (rows.take (rows.length - 1)) = (st, e)) (he : e ≠ 0) : readRU rows = (cn0, [], e, 1) := by
 unfold readRU
 rw [h, if_pos he]
theorem readU_open {rows : List (List UInt8)} {st : USt} (h : rowsU 0 (cn0, [], false) (rows.take (rows.length - 1)) = (st, 0)) (he : st.2.2 = false ∨ rows[rows.length - 1]? ≠ some []) : readRU rows = (cn0, [], (rows.length : Int), 1) := by
 unfold readRU
 rw [h, if_neg (by simp), if_pos he]
theorem readU_end {rows : List (List UInt8)} {st : USt} (h : rowsU 0 (cn0, [], false) (rows.take (rows.length - 1)) = (st, 0)) (he : ¬ (st.2.2 = false ∨ rows[rows.length - 1]? ≠ some [])) :
 readRU rows = if chkBls st.1 st.2.1 ≠ 0 then (cn0, [], 0, chkBls st.1 st.2.1) else (st.1, st.2.1, 0, 0) := by
 unfold readRU
 rw [h, if_neg (by simp), if_neg he]
theorem readU_err {s : List UInt8} (h : (readU s).2.2.2 ≠ 0) : (readU s).1 = cn0 ∧ (readU s).2.1 = [] := by
 unfold readU at h ⊢
 split
 ·exact ⟨rfl, rfl⟩
 rename_i h1
 rw [if_neg h1] at h
 unfold readRU at h ⊢
 repeat' split
 all_goals first | exact ⟨rfl, rfl⟩ | skip
 rename_i h2 h3 h4
 rw [if_neg h2, if_neg h3, if_neg h4] at h
 exact absurd rfl h
theorem readU_known {s : List UInt8} (h : (readU s).2.2.2 = 0) : chkBls (readU s).1 (readU s).2.1 = 0 := by
 unfold readU at h ⊢
 split
 ·rename_i h1; rw [if_pos h1] at h; cases h
 rename_i h1
 rw [if_neg h1] at h
 unfold readRU at h ⊢
 split
 ·rename_i h2; rw [if_pos h2] at h; cases h
 rename_i h2
 rw [if_neg h2] at h
 split
 ·rename_i h3; rw [if_pos h3] at h; cases h
 rename_i h3
 rw [if_neg h3] at h
 split
 ·rename_i h4; rw [if_pos h4] at h; exact absurd h h4
 rename_i h4; simpa using h4
theorem readU_len (s : List UInt8) : (readU s).1.rounds.length ≤ 4 ∧ (readU s).2.1.length ≤ 300 := by
 by_cases h : (readU s).2.2.2 = 0
 ·have := urn_k (readU_known h)
  exact ⟨this.rl, this.bl⟩
 obtain ⟨h1, h2⟩ := readU_err h
 rw [h1, h2]
 simp [cn0]
theorem Lim.short {b : Int} {l : List Int} {k : Nat} (h : Lim b l) (hb : b < ((10 ^ k : Nat) : Int)) (hk : 1 ≤ k) : ∀ n, n ∈ l → Short k n := fun n hn => short_lt (h n hn).1 (Int.lt_of_le_of_lt (h n hn).2 hb) hk
theorem short_len {k : Nat} : ∀ {l : List Int}, (∀ n, n ∈ l → Short k n) → ∀ w, (rowT w l).length ≤ w.length + (k + 1) * l.length := by
 intro l
 induction l with
 | nil => intro _ w; simp [rowT]
 | cons n l ih =>
  intro h w
  rw [rowT_cons]
  have h1 := ih (fun m hm => h m (List.mem_cons_of_mem _ hm)) (w ++ 32 :: Lib.itoa n)
  have h2 := (h n (List.mem_cons_self ..)).2
  simp only [List.length_append, List.length_cons, Nat.mul_add, Nat.mul_one] at h1 ⊢
  omega
theorem short_line {k : Nat} {w : List UInt8} {l : List Int} (h : ∀ n, n ∈ l → Short k n) : (lineT w l).length ≤ w.length + (k + 1) * l.length + 1 := by
 have := short_len h w
 simp only [lineT, List.length_append, List.length_cons, List.length_nil]
 omega
theorem rdT_21 : ∀ {l : List Rnd}, (∀ r, r ∈ l → Lim 1000 (rdNums r)) → (rdT l).length ≤ 21 * l.length := by
 intro l
 induction l with
 | nil => intro _; simp [rdT]
 | cons b l ih =>
  intro h
  have h1 := ih fun x hx => h x (List.mem_cons_of_mem _ hx)
  have h2 := short_line (w := roundW) ((h b (List.mem_cons_self ..)).short (k := 4) (by decide) (by decide))
  have e1 : (rdNums b).length = 3 := rfl
  have e2 : roundW.length = 5 := rfl
  simp only [rdT, List.flatMap_cons, List.length_append, List.length_cons] at h1 ⊢
  omega
theorem blT_73 : ∀ {l : List Ballot}, (∀ r, r ∈ l → Lim 1000000000 (blNums r)) → (blT l).length ≤ 73 * l.length := by
 intro l
 induction l with
 | nil => intro _; simp [blT]
 | cons b l ih =>
  intro h
  have h1 := ih fun x hx => h x (List.mem_cons_of_mem _ hx)
  have h2 := short_line (w := ballotW) ((h b (List.mem_cons_self ..)).short (k := 10) (by decide) (by decide))
  have e1 : (blNums b).length = 6 := rfl
  have e2 : ballotW.length = 6 := rfl
  simp only [blT, List.flatMap_cons, List.length_append, List.length_cons] at h1 ⊢
  omega
theorem urnT_len {c : Contest} {l : List Ballot} (h : UrnK c l) : (urnT c l).length ≤ 200 + 73 * l.length := by
 have q1 := short_line (w := contestW) (h.cn.short (k := 4) (by decide) (by decide))
 have q2 := rdT_21 h.rd
 have q3 := blT_73 h.bn
 have q6 := short_line (w := endW) (l := [(l.length : Int)]) (k := 3) fun m hm => by simp at hm; subst hm; have := h.bl; exact short_lt (by omega) (by simp; omega) (by omega)
 have e1 : (cnNums c).length = 4 := rfl
 have e2 : contestW.length = 7 := rfl
 have e4 : endW.length = 3 := rfl
 have e5 := h.rl
 simp only [List.length_cons, List.length_nil] at q6
 simp only [urnT, List.length_append]
 omega
theorem urnA_len (c : Contest) (l : List Ballot) : (urnA c l).1.length ≤ 22100 := by
 unfold urnA
 split
 ·simp
 rename_i h
 have hk := urn_k (by simpa using h)
 have := urnT_len hk
 have := hk.bl
 simp only
 omega
section
variable {c : Contest} {l : List Ballot} {i : Nat}
end
theorem splitL_mem {b : UInt8} : ∀ {s : List UInt8} {p : List UInt8}, p ∈ splitL b s → p.length ≤ s.length := by
 intro s
 induction s with
 | nil => intro p h; simp [splitL] at h; simp [h]
 | cons c r ih =>
  intro p h
  simp only [splitL] at h
  split at h
  ·rcases List.mem_cons.1 h with rfl | h
   ·simp
   have := ih h; simp; omega
  cases hs : splitL b r with
  | nil => exact absurd hs (splitL_ne b r)
  | cons p0 q =>
   rw [hs] at h ih
   rcases List.mem_cons.1 h with rfl | h
   ·have := ih (List.mem_cons_self ..); simp; omega
   have := ih (List.mem_cons_of_mem _ h); simp; omega
theorem splitL_le {b : UInt8} {s : List UInt8} : (splitL b s).length ≤ s.length + 1 := by
 rw [splitL_len]
 have := List.count_le_length (a := b) (l := s)
 omega
theorem parseE_of {k : Nat} {s w : List UInt8} {ws : List (List UInt8)} (h : splitL 32 s = ws) (h0 : ws[0]? = some w) : parseE k s = (numsE k ws.tail).map fun l => (w, l) := by
 unfold parseE
 rw [h]
 cases ws with
 | nil => simp at h0
 | cons a r => simp at h0; subst h0; rfl
theorem tail_drop {α : Type} (l : List α) : l.tail = l.drop 1 := by cases l <;> rfl
theorem rsplit_32 (Y : YEnv) (σ : Sg) (s : List UInt8) (hs : s.length ≤ 2 ^ 40) : PC Tryz.prog Y 62 [txt s, .int .u8 32] σ (.isl ((splitL 32 s).map txt) .ro) σ := rsplit_pc Y σ s 32 hs
theorem rsplit_10 (Y : YEnv) (σ : Sg) (s : List UInt8) (hs : s.length ≤ 2 ^ 40) : PC Tryz.prog Y 62 [txt s, .int .u8 10] σ (.isl ((splitL 10 s).map txt) .ro) σ := rsplit_pc Y σ s 10 hs
theorem rowT_len : ∀ (l : List Int) (w : List UInt8), Fits l → (rowT w l).length ≤ w.length + 22 * l.length := by
 intro l
 induction l with
 | nil => intro w _; simp [rowT]
 | cons n l ih =>
  intro w h
  rw [rowT_cons]
  have h1 := ih (w ++ 32 :: Lib.itoa n) fun m hm => h m (List.mem_cons_of_mem _ hm)
  have h2 := h n (List.mem_cons_self ..)
  have h3 := Lib.itoa_length_le n h2.1 h2.2
  simp only [List.length_append, List.length_cons] at h1 ⊢
  omega
theorem lineT_len {w : List UInt8} {l : List Int} (h : Fits l) : (lineT w l).length ≤ w.length + 22 * l.length + 1 := by
 have := rowT_len l w h
 simp only [lineT, List.length_append, List.length_cons, List.length_nil]
 omega
theorem Lim.fits {b : Int} {l : List Int} (h : Lim b l) (hb : b ≤ 1000000000) : Fits l := fun n hn => by have := h n hn; omega
theorem rdT_len : ∀ {l : List Rnd}, (∀ a, a ∈ l → Lim 1000 (rdNums a)) → (rdT l).length ≤ 100 * l.length := by
 intro l h
 have := rdT_21 h
 omega
theorem blT_len : ∀ {l : List Ballot}, (∀ a, a ∈ l → Lim 1000000000 (blNums a)) → (blT l).length ≤ 100 * l.length := by
 intro l h
 have := blT_73 h
 omega
theorem Fits.one {n : Nat} (h : n ≤ 2 ^ 60) : Fits [(n : Int)] := fun m hm => by simp at hm; subst hm; omega
theorem endT_len {n : Nat} (h : n ≤ 2 ^ 60) : (lineT endW [(n : Int)]).length ≤ 30 := by
 have := lineT_len (w := endW) (Fits.one h)
 have e2 : endW.length = 3 := rfl
 simp only [List.length_cons, List.length_nil] at this
 omega
/-- The numbers behind a word; none: a row does not begin with it, or has not so many. -/
def numsW (s w : List UInt8) (m : Nat) : Option (List Int) := match parseE 10 s with
 | none => none
 | some (v, n) => if v = w ∧ n.length = m then some n else none
def numPV (a : Option (List Int)) : PV := .tuple [ints (a.getD []), .bool a.isSome]
theorem numsW_of {s w v : List UInt8} {m : Nat} {ws : List (List UInt8)} (h : splitL 32 s = ws) (h0 : ws[0]? = some v) : numsW s w m = if v = w ∧ ws.length = m + 1 then numsE 10 ws.tail else none := by
 unfold numsW
 rw [parseE_of h h0]
 have h1 : 0 < ws.length := (List.getElem?_eq_some_iff.1 h0).1
 cases hn : numsE 10 ws.tail with
 | none => simp
 | some n =>
  have hl := numsE_len hn
  rw [List.length_tail] at hl
  simp only [Option.map_some]
  by_cases e : v = w ∧ ws.length = m + 1
  ·rw [if_pos e, if_pos ⟨e.1, by omega⟩]
  rw [if_neg e, if_neg fun q => e ⟨q.1, by omega⟩]
theorem numsW_len {s w : List UInt8} {m : Nat} {n : List Int} (h : numsW s w m = some n) : n.length = m := by
 unfold numsW at h
 split at h
 ·cases h
 split at h
 ·rename_i q; injection h with h; subst h; exact q.2
 cases h
/-- One row more, out of the numbers behind each of the four words. -/
def pickU (c : Contest) (l : List Ballot) : Option (List Int) → Option (List Int) → Option (List Int) → Option (List Int) → Option USt
 | some n, _, _, _ => some (mkCn n, l, false)
 | none, some n, _, _ => if l = [] then some ({ c with rounds := c.rounds ++ [mkRd n] }, l, false) else none
 | none, none, some n, _ => some (c, l ++ [mkBl n], false)
 | none, none, none, some n => if n.getD 0 0 = (l.length : Int) then some (c, l, true) else none
 | none, none, none, none => none
/-- What the four words give. -/
theorem step_nums (i : Nat) (c : Contest) (l : List Ballot) (e : Bool) (s : List UInt8) : stepU i (c, l, e) s =
 if e = true ∨ (numsW s contestW 4).isSome ≠ decide (i = 0) then none else pickU c l (numsW s contestW 4) (numsW s roundW 3) (numsW s ballotW 6) (numsW s endW 1) := by
 unfold stepU numsW
 cases hp : parseE 10 s with
 | none => simp [pickU]
 | some p =>
  obtain ⟨v, n⟩ := p
  simp only
  unfold takeU
  cases e with
  | true => simp
  | false =>
   by_cases hi : i = 0
   ·by_cases h1 : v = contestW ∧ n.length = 4
    ·rw [if_pos h1]; simp [hi, h1, pickU]
    rw [if_neg h1]; simp [hi, h1, pickU]
   by_cases h1 : v = contestW ∧ n.length = 4
   ·rw [if_pos h1]; simp [pickU, hi, h1.1, h1.2, contestW, roundW, ballotW, endW]
   rw [if_neg h1]
   by_cases h2 : v = roundW ∧ n.length = 3
   ·rw [if_pos h2]; simp [pickU, hi, h2.1, h2.2, ballotW, roundW, endW]
   rw [if_neg h2]
   by_cases h3 : v = ballotW ∧ n.length = 6
   ·rw [if_pos h3]; simp [pickU, hi, h3.1, h3.2, ballotW, roundW, endW]
   rw [if_neg h3]
   by_cases h4 : v = endW ∧ n.length = 1
   ·rw [if_pos h4]; simp [pickU, hi, h4.1, h4.2, ballotW, roundW, endW]
   rw [if_neg h4]
   have k2 : ¬ (v = roundW ∧ n.length = 3 ∧ l = []) := fun q => h2 ⟨q.1, q.2.1⟩
   have k4 : ¬ (v = endW ∧ n.length = 1 ∧ n.getD 0 0 = (l.length : Int)) := fun q => h4 ⟨q.1, q.2.1⟩
   rw [if_neg k2, if_neg h3, if_neg k4]
   simp [pickU, hi, h1, h2, h3, h4]
theorem nums_excl {s v w : List UInt8} {k m : Nat} {n : List Int} (h : numsW s v k = some n) (hne : v ≠ w) : numsW s w m = none := by
 unfold numsW at h ⊢
 split at h
 ·cases h
 split at h
 ·rename_i q
  exact if_neg fun q2 => hne (q.1.symm.trans q2.1)
 cases h
set_option maxHeartbeats 2000000 in
theorem rnumbers_pc (Y : YEnv) (σ : Sg) (s w0 : List UInt8) (m : Nat) (hs : s.length ≤ 2 ^ 40) (hm : m ≤ 100) :
 PC Tryz.prog Y 63 [txt s, txt w0, I m] σ (numPV (numsW s w0 m)) (σ) := by
 refine PC_of_W Tryz.func63 rfl (by kernel_rfl) Tryz.ntmps63 (by simp) fun hcl hca => ?_
 obtain ⟨ws, hws⟩ : ∃ z, splitL 32 s = z := ⟨_, rfl⟩
 have hwm : ∀ p, p ∈ ws → p.length ≤ 2 ^ 40 := fun p hp => by rw [← hws] at hp; have := splitL_mem hp; omega
 have hwn : ws ≠ [] := by rw [← hws]; exact splitL_ne 32 s
 have hwl : 0 < ws.length := List.length_pos_iff.2 hwn
 have hw40 : ws.length ≤ 2 ^ 40 + 1 := by rw [← hws]; have := splitL_le (b := 32) (s := s); omega
 obtain ⟨v, hx0⟩ : ∃ w, ws[0]? = some w := ⟨ws[0], by simp [hwl]⟩
 have hpe := numsW_of (w := w0) (m := m) hws hx0
 refine W_sr [0, 1, 2] fun R hR => ?_
 simp only [go_sem]
 refine hR _ _ ?_; clear hR R
 try simp only [go_sem]
 refine W_sr [1, 2, 8] fun R hR => ?_
 simp only [go_sem]
 refine GCall_of (PC.val (v' := .isl (ws.map txt) .ro) (rsplit_32 Y _ s hs) (by rw [hws])) ?_
 simp only [go_sem]
 refine hR _ _ ?_; clear hR R
 try simp only [go_sem]
 refine W_seq fun Z3 K3 => ?_
 refine W_seq fun Z4 K4 => ?_
 refine W_regionJ [8, 26] [(26, .bool (!decide (v = w0) || !decide (ws.length = m + 1)))] ?_ fun R hR => ?_
 ·refine K4 _ _ ?_
  simp only [go_sem]
  refine W_cond rfl (fun c1 => ?_) (fun c1 => ?_)
  ·
   try simp only [nrm] at c1
   have hno : numsW s w0 m = none := by
    rw [hpe, if_neg]
    intro q
    simp [q.1, q.2] at c1
   refine W_sr [6, 7] fun R hR => ?_
   simp only [go_sem]
   refine hR _ _ ?_; clear hR R
   try simp only [go_sem]
   rw [hno]
   simp only [numPV, Option.getD_none, Option.isSome_none]
   refine W_ret ?_
   simp only [go_sem]
   refine ⟨.inr (by trivial), ?_⟩
   first | refine Fin_same hcl rfl (Wk.ro (by simp only [go_sem]) ?_) | refine Fin_self hcl rfl (Wk.ro (by simp only [go_sem]) ?_)
   try simp only [go_sem]
   all_goals
    first | done | rfl
  try simp only [nrm] at c1
  have hyes : v = w0 ∧ ws.length = m + 1 := by
   simp at c1
   exact ⟨c1.1, by omega⟩
  rw [if_pos hyes] at hpe
  refine W_skip (K3 _ _ ?_)
  refine W_sr [8, 9] fun R hR => ?_
  simp only [go_sem]
  refine hR _ _ ?_; clear hR R
  try simp only [go_sem]
  refine W_seq fun Z7 K7 => ?_
  refine W_sr [8, 9, 10] fun R hR => ?_
  simp only [go_sem]
  refine hR _ _ ?_; clear hR R
  try simp only [go_sem]
  refine W_block ?_
  refine W_weak (Weak.room (t := 9) (es := 1) rfl (by simp)) ?_
  refine W_weak (Weak.keep [8, 9, 10]) ?_
  simp only [go_sem]
  refine W_loopT (α := Nat × (List Int)) (fun ⟨i, l⟩ => [(9, .isl (l.map I) (.tok σ.rooms.length l.length 1)), (10, I i)]) (fun ⟨i, l⟩ => σ.ext [] [l.length]) (fun ⟨i, l⟩ => 1 ≤ i ∧ i ≤ ws.length ∧ l.length ≤ i ∧ numsE 10 ws.tail = (numsE 10 (ws.drop i)).map fun r => l ++ r) (fun ⟨i, l⟩ => ws.length - i) ((1, [])) rfl (by first | rfl | (simp only [go_sem]; done) | (simp only [go_sem]; rfl)) (⟨Nat.le_refl _, hwl, Nat.zero_le _, by rw [tail_drop]; simp⟩) ?_
  rintro ⟨i, l⟩ ⟨hi0, hi, hll, hinv⟩
  refine W_seq fun Z9 K9 => ?_
  refine W_sr [8, 9, 10, 30] fun R hR => ?_
  simp only [go_sem]
  refine hR _ _ ?_; clear hR R
  try simp only [go_sem]
  refine W_cond rfl (fun c2 => ?_) (fun c2 => ?_)
  ·
   try simp only [nrm] at c2
   have hi' : i < ws.length := by first | assumption | omega
   obtain ⟨w, hx⟩ : ∃ w, ws[i]? = some w := ⟨ws[i], by simp [hi']⟩
   have hdrop : ws.drop i = w :: ws.drop (i + 1) := by
    rw [List.drop_eq_getElem_cons hi']; congr 1; exact (List.getElem?_eq_some_iff.1 hx).2
   rw [hdrop] at hinv
   simp only [numsE] at hinv
   obtain ⟨q, hq⟩ : ∃ z, numE 10 w = z := ⟨_, rfl⟩
   refine W_skip (K9 _ _ ?_)
   refine W_seq fun Z11 K11 => ?_
   refine W_block ?_
   refine W_sr [8, 9, 10, 11, 12] fun R hR => ?_
   simp only [go_sem, hx]
   refine GCall_of (PC.val (v' := .tuple [I ((q.getD 0 : Nat) : Int), .bool q.isSome]) (rnumber_pc Y _ w (hwm w (List.mem_of_getElem? hx))) (by rw [hq])) ?_
   simp only [go_sem, hx]
   refine hR _ _ ?_; clear hR R
   try simp only [go_sem, hx]
   refine W_seq fun Z13 K13 => ?_
   refine W_sr [8, 9, 10, 11, 42] fun R hR => ?_
   simp only [go_sem, hx]
   refine hR _ _ ?_; clear hR R
   try simp only [go_sem, hx]
   refine W_cond rfl (fun c3 => ?_) (fun c3 => ?_)
   ·
    try simp only [nrm] at c3
    have hqn : q = none := by cases q with
     | none => rfl
     | some n => simp at c3
    subst hqn
    rw [hq] at hinv
    simp only [Option.map_none] at hinv
    refine W_sr [6, 7] fun R hR => ?_
    simp only [go_sem, hx]
    refine hR _ _ ?_; clear hR R
    try simp only [go_sem, hx]
    rw [hpe, hinv]
    simp only [Option.map_none, numPV, Option.getD_none, Option.isSome_none]
    refine W_ret ?_
    simp only [go_sem, hx]
    refine ⟨.inr (by trivial), ?_⟩
    first | refine Fin_same hcl rfl (Wk.ro (by simp only [go_sem]) ?_) | refine Fin_self hcl rfl (Wk.ro (by simp only [go_sem]) ?_)
    try simp only [go_sem]
    all_goals
     first | done | rfl
   try simp only [nrm] at c3
   obtain ⟨n, rfl⟩ : ∃ n, q = some n := by cases q with
    | none => simp at c3
    | some n => exact ⟨n, rfl⟩
   rw [hq] at hinv
   simp only at hinv
   refine W_skip (K13 _ _ ?_)
   refine W_region [8, 9, 10] fun R hR => ?_
   simp only [go_sem, hx]
   try simp (disch := (first | omega | (simp only [go_sem, List.length_append] <;> omega))) only [wrapI, wrapU, appX_exact, appX_tok, strAdd, slT, slTa, slTb]
   try simp only [go_sem, hx]
   refine hR _ _ (K11 _ _ ?_); clear hR R; try clear K11 Z11
   try simp only [go_sem, hx]
   refine W_region [8, 9, 10] fun R hR => ?_
   simp only [go_sem, hx]
   try simp (disch := (first | omega | (simp only [go_sem, List.length_append] <;> omega))) only [wrapI, wrapU, strAdd, slT, slTa, slTb]
   refine hR _ _ ?_; clear hR R
   try simp only [go_sem, hx]
   refine ⟨(i + 1, l ++ [(n : Int)]), ?_, by (try simp only []); omega, ?_⟩
   ·first | exact Weak.refl | exact Wqq
   try dsimp only
   exact ⟨by omega, hi', by simp; omega, by rw [hinv]; cases numsE 10 (ws.drop (i + 1)) <;> simp⟩
  try simp only [nrm] at c2
  have hdrop : ws.drop i = [] := List.drop_eq_nil_of_le (by omega)
  rw [hdrop] at hinv
  simp only [numsE, Option.map_some, List.append_nil] at hinv
  rw [hinv] at hpe
  refine W_exit ?_
  simp only [go_sem, hx0]
  refine K7 _ _ ?_
  refine W_sr [6, 7] fun R hR => ?_
  simp only [go_sem, hx0]
  refine hR _ _ ?_; clear hR R
  try simp only [go_sem, hx0]
  rw [hpe]
  simp only [numPV, Option.getD_some, Option.isSome_some]
  refine W_ret ?_
  simp only [go_sem, hx0]
  refine ⟨.inr (by trivial), ?_⟩
  first | refine Fin_same hcl rfl (Wk.ro (by simp only [go_sem]) ?_) | refine Fin_self hcl rfl (Wk.ro (by simp only [go_sem]) ?_)
  try simp only [go_sem]
  all_goals
   first | done | rfl
 simp only [go_sem, hx0, Int.toNat_zero, Int.le_refl]
 refine GWant_split (fun g1 => ?_) (fun g1 => ?_)
 ·try simp only [Bool.not_eq_true', Bool.not_eq_false'] at g1
  have n1 := g1; try simp only [nrm] at n1
  simp only [go_sem, hx0, Int.toNat_zero, Int.le_refl, g1]
  try simp (disch := (first | omega | (simp only [go_sem, List.length_append] <;> omega))) only [wrapI, wrapU, strAdd, slT, slTa, slTb]
  try simp only [go_sem, hx0, Int.toNat_zero, Int.le_refl, g1]
  refine hR _ ?_
  all_goals try simp only [go_sem, hx0, Int.toNat_zero, Int.le_refl]
  all_goals
   first | rfl | (simp [*]; done) | (simp only [List.cons.injEq, Prod.mk.injEq, PV.bool.injEq, true_and, and_true]; rw [Bool.eq_iff_iff]; simp only [Bool.not_eq_true', decide_eq_false_iff_not, decide_eq_true_eq, Bool.or_eq_true, Bool.and_eq_true]; first | omega | (simp_all; done) | (simp_all; omega))
 try simp only [Bool.not_eq_true', Bool.not_eq_false'] at g1
 have n1 := g1; try simp only [nrm] at n1
 simp only [go_sem, hx0, Int.toNat_zero, Int.le_refl, g1]
 try simp (disch := (first | omega | (simp only [go_sem, List.length_append] <;> omega))) only [wrapI, wrapU, strAdd, slT, slTa, slTb]
 try simp only [go_sem, hx0, Int.toNat_zero, Int.le_refl, g1]
 refine hR _ ?_
 all_goals try simp only [go_sem, hx0, Int.toNat_zero, Int.le_refl]
 all_goals
  first | rfl | (simp [*]; done) | (simp only [List.cons.injEq, Prod.mk.injEq, PV.bool.injEq, true_and, and_true]; rw [Bool.eq_iff_iff]; simp only [Bool.not_eq_true', decide_eq_false_iff_not, decide_eq_true_eq, Bool.or_eq_true, Bool.and_eq_true]; first | omega | (simp_all; done) | (simp_all; omega))
set_option maxHeartbeats 4000000 in
theorem rWrite_pc (Y : YEnv) (σ : Sg) (c : Contest) (l : List Ballot) (hr : c.rounds.length < 2 ^ 40) (hl : l.length < 2 ^ 40) :
 PC Tryz.prog Y 28 [cnPV c, bls l] σ (.tuple [txt (urnA c l).1, I (urnA c l).2]) (σ) := by
 refine PC_of_W Tryz.func28 rfl (by kernel_rfl) Tryz.ntmps28 (by simp) fun hcl hca => ?_
 refine W_sr [1, 2] fun R hR => ?_
 simp only [go_sem]
 refine hR _ _ ?_; clear hR R
 try simp only [go_sem]
 refine W_seq fun Z2 K2 => ?_
 refine W_sr [1, 2, 6] fun R hR => ?_
 simp only [go_sem]
 refine GCall_of (rchkBls_pc Y _ c l hr hl) ?_
 simp only [go_sem]
 refine hR _ _ ?_; clear hR R
 try simp only [go_sem]
 refine W_sr [1, 2, 6, 15] fun R hR => ?_
 simp only [go_sem]
 refine hR _ _ ?_; clear hR R
 try simp only [go_sem]
 refine W_cond rfl (fun c1 => ?_) (fun c1 => ?_)
 ·
  try simp only [nrm] at c1
  have hwr : urnA c l = ([], chkBls c l) := by unfold urnA; rw [if_pos (by simpa using c1)]
  refine W_sr [4, 5] fun R hR => ?_
  simp only [go_sem]
  refine hR _ _ ?_; clear hR R
  try simp only [go_sem]
  refine W_ret ?_
  simp only [go_sem]
  refine ⟨.inr (by trivial), ?_⟩
  first | refine Fsa hcl rfl ?_ | refine Fse hcl rfl ?_
  try simp only [go_sem]
  all_goals
   rw [hwr]
 try simp only [nrm] at c1
 have hck : chkBls c l = 0 := by simpa using c1
 have hnk := urn_k hck
 have hcl1 := lineT_len (w := contestW) (hnk.cn.fits (by omega))
 have e1 : (cnNums c).length = 4 := rfl
 have e2 : contestW.length = 7 := rfl
 have hrl := hnk.rl
 have hbl := hnk.bl
 have hrt0 := rdT_len hnk.rd
 have hbt0 := blT_len hnk.bn
 have hl4 := endT_len (n := l.length) (by omega)
 have hwr : urnA c l = (urnT c l, 0) := by unfold urnA; rw [if_neg (by omega)]
 refine W_skip (K2 _ _ ?_)
 refine W_sr [1, 2, 7] fun R hR => ?_
 simp only [go_sem]
 refine GCall_of (PC.val (v' := txt (lineT contestW (cnNums c))) (rrow_pc Y _ contestW (cnNums c) _ (by decide) (by simp [cnNums]) (hnk.cn.fits (by omega))) rfl) ?_
 simp only [go_sem]
 refine hR _ _ ?_; clear hR R
 try simp only [go_sem]
 refine W_seq fun Z7 K7 => ?_
 refine W_sr [1, 2, 7, 8] fun R hR => ?_
 simp only [go_sem]
 refine hR _ _ ?_; clear hR R
 try simp only [go_sem]
 refine W_block ?_
 rw [show lineT contestW (cnNums c) = lineT contestW (cnNums c) ++ rdT (List.take 0 c.rounds) by simp [rdT]]
 refine W_loopS (α := Nat) (fun (i : Nat) => [(7, txt (lineT contestW (cnNums c) ++ rdT (c.rounds.take i))), (8, I i)]) (fun (i : Nat) => i ≤ c.rounds.length) (fun (i : Nat) => c.rounds.length - i) (0) rfl (Nat.zero_le _) ?_
 rintro i hi
 have hbt : (rdT (c.rounds.take i)).length ≤ 400 := by
  have := rdT_len (l := c.rounds.take i) (fun b hb => hnk.rd b (List.mem_of_mem_take hb))
  rw [List.length_take] at this
  omega
 refine W_seq fun Z9 K9 => ?_
 refine W_sr [1, 2, 7, 8, 31] fun R hR => ?_
 simp only [go_sem]
 refine hR _ _ ?_; clear hR R
 try simp only [go_sem]
 refine W_cond rfl (fun c2 => ?_) (fun c2 => ?_)
 ·
  try simp only [nrm] at c2
  have hi' : i < c.rounds.length := by first | assumption | omega
  obtain ⟨b, hx⟩ : ∃ b, c.rounds[i]? = some b := ⟨c.rounds[i], by simp [hi']⟩
  have hdrop : c.rounds.drop i = b :: c.rounds.drop (i + 1) := by
   rw [List.drop_eq_getElem_cons hi']; congr 1; exact (List.getElem?_eq_some_iff.1 hx).2
  have hbk := hnk.rd b (List.mem_of_getElem? hx)
  have hrl2 := lineT_len (w := roundW) (hbk.fits (by omega))
  have hel1 : (rdNums b).length = 3 := rfl
  have hmw : roundW.length = 5 := rfl
  refine W_skip (K9 _ _ ?_)
  refine W_seq fun Z11 K11 => ?_
  refine W_block ?_
  refine W_draw [1, 2, 7, 8] [0, 1, 2, 3, 4, 5, 6, 7, 8, 9, 10, 11, 12, 13, 14, 15, 16, 17, 18, 19, 20, 21, 22] [(0, 23)] [[], [], [1], [], [1, 2, 3], [1, 2, 3, 4], [1, 2, 3, 4, 5], [], [7], [], [7, 8, 9], [7, 8, 9, 10], [7, 8, 9, 10, 11], [], [13], [], [13, 14, 15], [13, 14, 15, 16], [13, 14, 15, 16, 17], [1, 2, 3, 4, 5, 6, 7, 8, 9, 10, 11, 12, 13, 14, 15, 16, 17, 18], [1, 2, 3, 4, 5, 6, 7, 8, 9, 10, 11, 12, 13, 14, 15, 16, 17, 18, 19], [0, 1, 2, 3, 4, 5, 6, 7, 8, 9, 10, 11, 12, 13, 14, 15, 16, 17, 18, 19, 20], [0, 1, 2, 3, 4, 5, 6, 7, 8, 9, 10, 11, 12, 13, 14, 15, 16, 17, 18, 19, 20, 21]] mixed (by kernel_rfl) fun R hR => ?_
  simp only [go_sem, hx]
  refine GCall_of (PC.val (v' := txt (lineT roundW (rdNums b))) (rrow_pc Y _ roundW (rdNums b) _ (by decide) (by simp [rdNums]) (hbk.fits (by omega))) rfl) ?_
  simp only [go_sem, hx]
  try simp (disch := (first | omega | (simp only [go_sem, List.length_append] <;> omega))) only [wrapI, wrapU, appX_exact, appX_tok, strAdd, slT, slTa, slTb]
  try simp only [go_sem, hx]
  try refine And.intro (by repeat' (first | refine And.intro ?_ ?_ | exact trivial | exact GOr_right (fun _ => by simp only [go_sem, hx]))) ?_
  refine hR _ _ (K11 _ _ ?_); clear hR R; try clear K11 Z11
  try simp only [go_sem, hx]
  refine W_region [1, 2, 7, 8] fun R hR => ?_
  simp only [go_sem, hx]
  try simp (disch := (first | omega | (simp only [go_sem, List.length_append] <;> omega))) only [wrapI, wrapU, strAdd, slT, slTa, slTb]
  refine hR _ _ ?_; clear hR R
  try simp only [go_sem, hx]
  refine ⟨i + 1, ?_, by (try simp only []); omega, ?_⟩
  ·exact Weak.eq (by rw [rdT_take hx, ← List.append_assoc]; rfl) rfl
  try dsimp only
  omega
 try simp only [nrm] at c2
 have hdrop : c.rounds.drop i = [] := List.drop_eq_nil_of_le (by omega)
 have hie : i = c.rounds.length := by omega
 subst hie
 rw [List.take_length] at hbt ⊢
 refine W_exit ?_
 simp only [go_sem]
 refine K7 _ _ ?_
 refine W_seq fun Z12 K12 => ?_
 refine W_sr [1, 7, 9] fun R hR => ?_
 simp only [go_sem]
 refine hR _ _ ?_; clear hR R
 try simp only [go_sem]
 refine W_block ?_
 rw [show lineT contestW (cnNums c) ++ rdT c.rounds = lineT contestW (cnNums c) ++ rdT c.rounds ++ blT (List.take 0 l) by simp [blT]]
 refine W_loopS (α := Nat) (fun (i : Nat) => [(7, txt (lineT contestW (cnNums c) ++ rdT c.rounds ++ blT (l.take i))), (9, I i)]) (fun (i : Nat) => i ≤ l.length) (fun (i : Nat) => l.length - i) (0) rfl (Nat.zero_le _) ?_
 rintro i hi
 have hbt2 : (blT (l.take i)).length ≤ 100 * 300 := by
  have := blT_len (l := l.take i) (fun b hb => hnk.bn b (List.mem_of_mem_take hb))
  rw [List.length_take] at this
  omega
 refine W_seq fun Z14 K14 => ?_
 refine W_sr [1, 7, 9, 59] fun R hR => ?_
 simp only [go_sem]
 refine hR _ _ ?_; clear hR R
 try simp only [go_sem]
 refine W_cond rfl (fun c3 => ?_) (fun c3 => ?_)
 ·
  try simp only [nrm] at c3
  have hi' : i < l.length := by first | assumption | omega
  obtain ⟨b, hx⟩ : ∃ b, l[i]? = some b := ⟨l[i], by simp [hi']⟩
  have hdrop : l.drop i = b :: l.drop (i + 1) := by
   rw [List.drop_eq_getElem_cons hi']; congr 1; exact (List.getElem?_eq_some_iff.1 hx).2
  have hbk := hnk.bn b (List.mem_of_getElem? hx)
  have hrl2 := lineT_len (w := ballotW) (hbk.fits (by omega))
  have hel1 : (blNums b).length = 6 := rfl
  have hmw : ballotW.length = 6 := rfl
  refine W_skip (K14 _ _ ?_)
  refine W_seq fun Z16 K16 => ?_
  refine W_block ?_
  refine W_sr [1, 7, 9, 10] fun R hR => ?_
  simp only [go_sem, hx]
  refine hR _ _ ?_; clear hR R
  try simp only [go_sem, hx]
  refine W_region [1, 7, 9] fun R hR => ?_
  simp only [go_sem, hx]
  refine GCall_of (PC.val (v' := txt (lineT ballotW (blNums b))) (rrow_pc Y _ ballotW (blNums b) _ (by decide) (by simp [blNums]) (hbk.fits (by omega))) rfl) ?_
  simp only [go_sem, hx]
  try simp (disch := (first | omega | (simp only [go_sem, List.length_append] <;> omega))) only [wrapI, wrapU, appX_exact, appX_tok, strAdd, slT, slTa, slTb]
  try simp only [go_sem, hx]
  refine hR _ _ (K16 _ _ ?_); clear hR R; try clear K16 Z16
  try simp only [go_sem, hx]
  refine W_region [1, 7, 9] fun R hR => ?_
  simp only [go_sem, hx]
  try simp (disch := (first | omega | (simp only [go_sem, List.length_append] <;> omega))) only [wrapI, wrapU, strAdd, slT, slTa, slTb]
  refine hR _ _ ?_; clear hR R
  try simp only [go_sem, hx]
  refine ⟨i + 1, ?_, by (try simp only []); omega, ?_⟩
  ·refine Weak.trans (Weak.cutX 1 0 (by omega) (by omega) hcl (by simp only [go_sem] <;> omega) (by simp only [go_sem] <;> omega)) ?_
   simp only [go_sem]
   exact Weak.eq (by rw [blT_take hx, ← List.append_assoc]; rfl) rfl
  try dsimp only
  omega
 try simp only [nrm] at c3
 have hdrop : l.drop i = [] := List.drop_eq_nil_of_le (by omega)
 have hie : i = l.length := by omega
 subst hie
 rw [List.take_length] at hbt2 ⊢
 refine W_exit ?_
 simp only [go_sem]
 refine K12 _ _ ?_
 refine W_sr [4, 5] fun R hR => ?_
 simp only [go_sem]
 refine GCall_of (PC.val (v' := txt (lineT endW [(l.length : Int)])) (rrow_pc Y _ endW [(l.length : Int)] _ (by decide) (by simp) (Fits.one (by omega))) rfl) ?_
 simp only [go_sem]
 try simp (disch := (first | omega | (simp only [go_sem, List.length_append] <;> omega))) only [wrapI, wrapU, appX_exact, appX_tok, strAdd, slT, slTa, slTb]
 try simp only [go_sem]
 refine hR _ _ ?_; clear hR R
 try simp only [go_sem]
 refine W_ret ?_
 simp only [go_sem]
 refine ⟨.inr (by trivial), ?_⟩
 first | refine Fsa hcl rfl ?_ | refine Fse hcl rfl ?_
 try simp only [go_sem]
 all_goals
  rw [hwr]; rfl
theorem strPV_app (a b : ByteArray) : strPV (a ++ b) = strPV a ++ strPV b := by simp [strPV]
theorem strPV_ok (s : ByteArray) : okC 1 (strPV s) := by
 unfold okC
 rw [List.all_eq_true]
 intro q hq
 obtain ⟨x, _, rfl⟩ := List.mem_map.1 hq
 rfl
theorem appB (σ : Sg) {r : Nat} (B s : ByteArray) (hr : σ.rooms[r]? = some B.size) (hl : B.size + s.size ≤ 2 ^ 46) :
 appendAny Tryz.prog σ 99 9 (.bbuf (strPV B) r 5) (.str s) = some (.bbuf (strPV (B ++ s)) r 5, σ.setRoom r (B.size + s.size)) := by
 rw [appendAny_bbuf]
 unfold appendB bytesArg
 simp only [Tryz.underlying99, Tryz.underlying9]
 rw [if_pos ⟨trivial, cells5⟩, app99, strPV_len, appX_tok (strPV_ok s) hr (by rw [strPV_len, strPV_len]; omega)]
 simp only [Option.map_some, strPV_app, strPV_len]
theorem String_pc (Y : YEnv) (σ : Sg) {id r : Nat} (B : ByteArray) (hst : σ.store[id]? = some (some [.bself id 101, .bbuf (strPV B) r 5])) (hr : σ.rooms[r]? = some B.size) (h0 : 0 < B.size) (hl : B.size ≤ 2 ^ 46) :
 PC Tryz.prog Y 51 [.ptr id 0] σ (.str B) (σ.setRoom r (B.size + 1)) := by
 refine PC_of_calls (by kernel_rfl) fun Ψ vals w hs ha => ?_
 obtain ⟨x, rfl, hx⟩ := one_arg ha
 obtain ⟨b, hβ, hz, rfl⟩ := hx.ptr_inv
 obtain ⟨y, v, a1, hb, hy, hv⟩ := bld_at hs hst hβ
 have hBl : B.data.toList.length = B.size := by simp
 have hget : ∀ (j : Nat) (x : UInt8), B.data.toList[j]? = some x → (strPV B)[j]? = some (.int .u8 x.toNat) := fun j x h => by
  unfold strPV; rw [List.getElem?_map, h]; rfl
 have hpl := strPV_len B
 generalize hL : strPV B = L at *
 cases hv with
 | bbuf _ _ _ _ h ht =>
 cases h with
 | islnil _ _ _ => simp at hpl; omega
 | isl es _ _ g o cap vals hes k1 k2 hc ho =>
 obtain ⟨hes1, hh⟩ := ho
 subst hes1
 obtain ⟨rfl, hty⟩ := ht g o _ cap rfl (by omega)
 obtain ⟨_, cur, f, hcur, hcs⟩ := hs.szok _ _ hty
 rw [Nat.zero_add, Nat.zero_add, Nat.mul_one, Nat.mul_one, hpl] at hh
 have hat : ∀ (j : Nat) (x : UInt8), B.data.toList[j]? = some x → Ψ.imm g j = some (.int .u8 x.toNat) := fun j x hj => by
  have e1 := k1 j _ 0 (.int .u8 x.toNat) (hget j x hj) rfl
  have e2 := k2 j _ 0 (.int .u8 x.toNat) (hget j x hj) rfl
  rw [e2.int_inv] at e1
  rw [← e1]
  congr 1
  omega
 have hbb : w.heap[b]? = some (.cells #[y, .slice (some ⟨g, 0, none⟩) B.data.toList.length cap] 101 (0, 0)) := by rw [hb, hBl, hpl]
 refine (bldString b g y cap B.data.toList w (fun e => by rw [e] at hBl; simp at hBl; omega) hbb hcur (by rw [hBl]; omega) (by rw [hBl]; omega) (by rw [hBl]; omega) fun j x hj => hs.imm _ _ _ (hat j x hj)).mono ?_
 rintro e2 w2 ⟨rfl, rfl⟩
 rw [hBl]
 obtain ⟨Ψ', le, hs', hbel⟩ := hs.stringed hr hh hty (fun o ho => by
  have hlt : o < B.data.toList.length := by rw [hBl]; exact ho
  rw [hat o _ (List.getElem?_eq_getElem hlt)]
  simp) h0
 have e : (⟨B.data.toList.toArray⟩ : ByteArray) = B := by simp
 exact ⟨_, Ψ', rfl, le, hs', by rw [e]; exact .str B, hbel⟩
set_option maxHeartbeats 2000000 in
theorem WriteString_pc (Y : YEnv) (σ : Sg) {id r : Nat} (B s : ByteArray) (hst : σ.store[id]? = some (some [.bself id 101, .bbuf (strPV B) r 5])) (hr : σ.rooms[r]? = some B.size) (hl : B.size + s.size ≤ 2 ^ 46) :
 PC Tryz.prog Y 48 [.ptr id 0, .str s] σ (.tuple [I s.size, .niliface]) ((σ.setRoom r (B.size + s.size)).setVar id [.bself id 101, .bbuf (strPV (B ++ s)) r 5]) := by
 refine PC_of_W Tryz.func48 rfl (by kernel_rfl) Tryz.ntmps48 (by simp) fun hcl hca => ?_
 have hld : ldS σ id 1 = some (.bbuf (strPV B) r 5) := by simp [ldS, hst]
 have happ := appB σ B s hr hl
 have hsto : stX 1 (σ.setRoom r (B.size + s.size)) id 1 (.bbuf (strPV (B ++ s)) r 5) = some ((σ.setRoom r (B.size + s.size)).setVar id [.bself id 101, .bbuf (strPV (B ++ s)) r 5]) := by
  have : (σ.setRoom r (B.size + s.size)).store[id]? = some (some [.bself id 101, .bbuf (strPV B) r 5]) := hst
  unfold stX
  rw [this]
  rfl
 refine W_sr [0, 1] fun R hR => ?_
 simp only [go_sem, hld, happ, hsto, Nat.zero_add]
 refine hR _ _ ?_; clear hR R
 try simp only [go_sem, hld, happ, hsto, Nat.zero_add]
 refine W_sr [0, 1] fun R hR => ?_
 simp only [go_sem, hld, happ, hsto, Nat.zero_add]
 refine GCall_of (copyCheck_pc Y _ hst) ?_
 simp only [go_sem, hld, happ, hsto, Nat.zero_add]
 refine hR _ _ ?_; clear hR R
 try simp only [go_sem, hld, happ, hsto, Nat.zero_add]
 refine W_sr [1] fun R hR => ?_
 simp only [go_sem, hld, happ, hsto, Nat.zero_add]
 try simp (disch := (first | omega | (simp only [go_sem, List.length_append] <;> omega))) only [wrapI, wrapU, appX_exact, appX_tok, strAdd, slT, slTa, slTb]
 try simp only [go_sem, hld, happ, hsto, Nat.zero_add]
 refine hR _ _ ?_; clear hR R
 try simp only [go_sem, hld, happ, hsto, Nat.zero_add]
 refine W_sr [4, 5] fun R hR => ?_
 simp only [go_sem, hld, happ, hsto, Nat.zero_add]
 refine hR _ _ ?_; clear hR R
 try simp only [go_sem, hld, happ, hsto, Nat.zero_add]
 refine W_ret ?_
 simp only [go_sem, hld, happ, hsto, Nat.zero_add]
 refine ⟨.inr (by trivial), ?_⟩
 have hrl := (List.getElem?_eq_some_iff.1 hr).1
 have hcl2 := CleanSg_bld (n := B.size + s.size) (m := strPV s) hcl hst hrl strPV_clean
 rw [← strPV_app] at hcl2
 have e1 : ((σ.setRoom r (B.size + s.size)).setVar id [.bself id 101, .bbuf (strPV (B ++ s)) r 5]).store.length = σ.store.length := by simp [Sg.setVar, Sg.setRoom]
 have e2 : ((σ.setRoom r (B.size + s.size)).setVar id [.bself id 101, .bbuf (strPV (B ++ s)) r 5]).rooms.length = σ.rooms.length := by simp [Sg.setVar, Sg.setRoom]
 refine ⟨_, σ.store.length, σ.rooms.length, rfl, Nat.le_refl _, Nat.le_refl _, Wk_eq ?_ (by simp only [go_sem]), ?_, ?_, rfl⟩
 rotate_left
 ·simp only [Sg.cut, Sg.setVar, Sg.setRoom]
  rw [List.take_of_length_le (l := σ.store.set _ _) (by simp), List.take_of_length_le (l := σ.rooms.set _ _) (by simp), List.take_of_length_le (l := σ.ys) (Nat.le_refl _)]
 ·have := hcl2; unfold CleanSg at this; rw [e1, e2] at this; exact this
 try simp only [go_sem]
 all_goals
  first | rfl | simp
/-- A builder's cells. -/
def bldC (id r : Nat) (b : List UInt8) : List PV := [.bself id 101, .bbuf (strPV ⟨b.toArray⟩) r 5]
theorem app_txt (a b : List UInt8) : (⟨a.toArray⟩ : ByteArray) ++ ⟨b.toArray⟩ = ⟨(a ++ b).toArray⟩ := by
 try (apply ByteArray.ext)
 simp [ByteArray.data_append]
theorem zeroB : zeroPV Tryz.prog 101 = some [.nilptr, .isl [] .exact] := by kernel_rfl
section
variable {σ : Sg} {L : List (Option (List PV))} {rm : List Nat} {ys : List LState} {j k : Nat} {b s : List UInt8}
theorem rooms_at (k : Nat) : (σ.ext L rm ys).rooms[σ.rooms.length + k]? = rm[k]? := by
 show (σ.rooms ++ rm)[σ.rooms.length + k]? = _
 rw [List.getElem?_append_right (by omega)]
 congr 1; omega
theorem StringT_pc (Y : YEnv) (h : L[j]? = some (some (bldC (σ.store.length + j) (σ.rooms.length + k) b))) (hr : rm[k]? = some b.length) (h0 : 0 < b.length) (hl : b.length ≤ 2 ^ 46) :
 PC Tryz.prog Y 51 [.ptr (σ.store.length + j) 0] (σ.ext L rm ys) (txt b) (σ.ext L (rm.set k (b.length + 1)) ys) := by
 have h1 := String_pc Y (σ.ext L rm ys) (id := σ.store.length + j) (r := σ.rooms.length + k) ⟨b.toArray⟩ (by rw [Sg.get_ext]; exact h) (by rw [rooms_at, hr, size_txt]) (by rw [size_txt]; exact h0) (by rw [size_txt]; exact hl)
 rw [size_txt, Sg.setRoom_ext] at h1
 exact h1
end
theorem Cl_bself {a b c id t : Nat} : Clean a b c (.bself id t) = (id < a) := propext ⟨fun h => by cases h; assumption, fun h => .bself _ _ h⟩
theorem Cl_bbufS {a b c r t : Nat} {s : ByteArray} : Clean a b c (.bbuf (strPV s) r t) = (r < b) := propext ⟨fun h => by
 cases h with
 | bbuf _ _ _ hh =>
 cases hh with
 | isl _ _ _ hlt => exact hlt r _ 1 rfl, fun h => .bbuf _ _ _ (.isl _ _ (fun e he => strPV_clean e he) fun r' n es e => by injection e with e _ _; omega)⟩
attribute [go_sem] Cl_bself Cl_bbufS
theorem strPV_one (c : UInt8) : strPV ⟨#[c]⟩ = [.int .u8 c.toNat] := by simp [strPV]
theorem size_one (c : UInt8) : (⟨#[c]⟩ : ByteArray).size = 1 := rfl
theorem appByte (σ : Sg) {r : Nat} (B : ByteArray) (c : UInt8) (hr : σ.rooms[r]? = some B.size) (hl : B.size + 1 ≤ 2 ^ 46) :
 appendAny Tryz.prog σ 99 99 (.bbuf (strPV B) r 5) (.isl [.int .u8 c.toNat] .exact) = some (.bbuf (strPV (B ++ ⟨#[c]⟩)) r 5, σ.setRoom r (B.size + 1)) := by
 rw [appendAny_bbuf, ← strPV_one]
 unfold appendB bytesArg
 simp only [Tryz.underlying99]
 rw [if_pos ⟨trivial, cells5⟩, app99, strPV_len, appX_tok (strPV_ok _) hr (by rw [strPV_len, strPV_len, size_one]; omega)]
 simp only [Option.map_some, strPV_app, strPV_len, size_one]
set_option maxHeartbeats 2000000 in
theorem WriteByte_pc (Y : YEnv) (σ : Sg) {id r : Nat} (B : ByteArray) (c : UInt8) (hst : σ.store[id]? = some (some [.bself id 101, .bbuf (strPV B) r 5])) (hr : σ.rooms[r]? = some B.size) (hl : B.size + 1 ≤ 2 ^ 46) :
 PC Tryz.prog Y 50 [.ptr id 0, .int .u8 c.toNat] σ (.niliface) ((σ.setRoom r (B.size + 1)).setVar id [.bself id 101, .bbuf (strPV (B ++ ⟨#[c]⟩)) r 5]) := by
 refine PC_of_W Tryz.func50 rfl (by kernel_rfl) Tryz.ntmps50 (by simp) fun hcl hca => ?_
 have hld : ldS σ id 1 = some (.bbuf (strPV B) r 5) := by simp [ldS, hst]
 have happ := appByte σ B c hr hl
 have hsto : stX 1 (σ.setRoom r (B.size + 1)) id 1 (.bbuf (strPV (B ++ ⟨#[c]⟩)) r 5) = some ((σ.setRoom r (B.size + 1)).setVar id [.bself id 101, .bbuf (strPV (B ++ ⟨#[c]⟩)) r 5]) := by
  have : (σ.setRoom r (B.size + 1)).store[id]? = some (some [.bself id 101, .bbuf (strPV B) r 5]) := hst
  unfold stX
  rw [this]
  rfl
 refine W_sr [0, 1] fun R hR => ?_
 simp only [go_sem, hld, happ, hsto, Nat.zero_add]
 refine hR _ _ ?_; clear hR R
 try simp only [go_sem, hld, happ, hsto, Nat.zero_add]
 refine W_sr [0, 1] fun R hR => ?_
 simp only [go_sem, hld, happ, hsto, Nat.zero_add]
 refine GCall_of (copyCheck_pc Y _ hst) ?_
 simp only [go_sem, hld, happ, hsto, Nat.zero_add]
 refine hR _ _ ?_; clear hR R
 try simp only [go_sem, hld, happ, hsto, Nat.zero_add]
 refine W_sr [] fun R hR => ?_
 simp only [go_sem, hld, happ, hsto, Nat.zero_add]
 try simp (disch := (first | omega | (simp only [go_sem, List.length_append] <;> omega))) only [wrapI, wrapU, appX_exact, appX_tok, strAdd, slT, slTa, slTb]
 try simp only [go_sem, hld, happ, hsto, Nat.zero_add]
 refine hR _ _ ?_; clear hR R
 try simp only [go_sem, hld, happ, hsto, Nat.zero_add]
 refine W_sr [4] fun R hR => ?_
 simp only [go_sem, hld, happ, hsto, Nat.zero_add]
 refine hR _ _ ?_; clear hR R
 try simp only [go_sem, hld, happ, hsto, Nat.zero_add]
 refine W_ret ?_
 simp only [go_sem, hld, happ, hsto, Nat.zero_add]
 refine ⟨.inr (by trivial), ?_⟩
 have hrl := (List.getElem?_eq_some_iff.1 hr).1
 have hcl2 := CleanSg_bld (n := B.size + 1) (m := strPV ⟨#[c]⟩) hcl hst hrl strPV_clean
 rw [← strPV_app] at hcl2
 have e1 : ((σ.setRoom r (B.size + 1)).setVar id [.bself id 101, .bbuf (strPV (B ++ ⟨#[c]⟩)) r 5]).store.length = σ.store.length := by simp [Sg.setVar, Sg.setRoom]
 have e2 : ((σ.setRoom r (B.size + 1)).setVar id [.bself id 101, .bbuf (strPV (B ++ ⟨#[c]⟩)) r 5]).rooms.length = σ.rooms.length := by simp [Sg.setVar, Sg.setRoom]
 refine ⟨_, σ.store.length, σ.rooms.length, rfl, Nat.le_refl _, Nat.le_refl _, Wk_eq ?_ (by simp only [go_sem]), ?_, ?_, rfl⟩
 rotate_left
 ·simp only [Sg.cut, Sg.setVar, Sg.setRoom]
  rw [List.take_of_length_le (l := σ.store.set _ _) (by simp), List.take_of_length_le (l := σ.rooms.set _ _) (by simp), List.take_of_length_le (l := σ.ys) (Nat.le_refl _)]
 ·have := hcl2; unfold CleanSg at this; rw [e1, e2] at this; exact this
 try simp only [go_sem]
 all_goals
  first | rfl | simp
/-- A state in which a builder holds some text. -/
def bldS (σ : Sg) (id r : Nat) (b : List UInt8) : Sg := (σ.setRoom r b.length).setVar id (bldC id r b)
theorem bldS_len {σ : Sg} {id r : Nat} {b : List UInt8} : (bldS σ id r b).store.length = σ.store.length := by simp [bldS, Sg.setVar, Sg.setRoom]
theorem bldS_rooms {σ : Sg} {id r : Nat} {b : List UInt8} : (bldS σ id r b).rooms.length = σ.rooms.length := by simp [bldS, Sg.setVar, Sg.setRoom]
theorem bldS_ys {σ : Sg} {id r : Nat} {b : List UInt8} : (bldS σ id r b).ys = σ.ys := rfl
theorem bldS_set {σ : Sg} {id r : Nat} {a b : List UInt8} : bldS (bldS σ id r a) id r b = bldS σ id r b := by simp [bldS, Sg.setVar, Sg.setRoom, List.set_set]
theorem bldS_get {σ : Sg} {id r : Nat} {b : List UInt8} (h : id < σ.store.length) : (bldS σ id r b).store[id]? = some (some (bldC id r b)) := by simp [bldS, Sg.setVar, Sg.setRoom, h]
theorem bldS_room {σ : Sg} {id r : Nat} {b : List UInt8} (h : r < σ.rooms.length) : (bldS σ id r b).rooms[r]? = some b.length := by simp [bldS, Sg.setVar, Sg.setRoom, h]
theorem bldS_self {σ : Sg} {id r : Nat} {b : List UInt8} (h : σ.store[id]? = some (some (bldC id r b))) (hr : σ.rooms[r]? = some b.length) : bldS σ id r b = σ := by
 obtain ⟨h1, h2⟩ := List.getElem?_eq_some_iff.1 h
 obtain ⟨h3, h4⟩ := List.getElem?_eq_some_iff.1 hr
 have e1 : σ.store.set id (some (bldC id r b)) = σ.store := by rw [← h2]; exact List.set_getElem_self _
 have e2 : σ.rooms.set r b.length = σ.rooms := by rw [← h4]; exact List.set_getElem_self _
 show (⟨σ.store.set id (some (bldC id r b)), σ.rooms.set r b.length, σ.ys⟩ : Sg) = σ
 rw [e1, e2]
theorem bldS_clean {σ : Sg} {id r : Nat} {a b : List UInt8} (hcl : CleanSg (bldS σ id r a)) (h : id < σ.store.length) (hr : r < σ.rooms.length) : CleanSg (bldS σ id r b) := by
 have hcl' : CleanCut (bldS σ id r a) σ.store.length σ.rooms.length σ.ys.length := by
  have := hcl
  unfold CleanSg at this
  rw [bldS_len, bldS_rooms] at this
  exact this
 show CleanCut (bldS σ id r b) _ _ _
 rw [bldS_len, bldS_rooms]
 intro i cs hi hcs p hp
 have h0 : (σ.store.set id (some (bldC id r b)))[i]? = some (some cs) := hcs
 rw [List.getElem?_set] at h0
 by_cases e : id = i
 ·subst e
  rw [if_pos rfl, if_pos h] at h0
  injection h0 with h0
  injection h0 with h0
  subst h0
  simp only [bldC, List.mem_cons, List.not_mem_nil, or_false] at hp
  rcases hp with rfl | rfl
  ·exact .bself _ _ h
  exact .bbuf _ _ _ (.isl _ _ (fun e he => strPV_clean e he) fun r' n es e => by injection e with e _ _; omega)
 rw [if_neg e] at h0
 refine hcl' i cs hi ?_ p hp
 show (σ.store.set id _)[i]? = _
 rw [List.getElem?_set, if_neg e]
 exact h0
theorem WriteB_pc (Y : YEnv) (σ : Sg) {id r : Nat} (h : id < σ.store.length) (hr : r < σ.rooms.length) (b s : List UInt8) (hl : b.length + s.length ≤ 2 ^ 46) :
 PC Tryz.prog Y 48 [.ptr id 0, txt s] (bldS σ id r b) (.tuple [I s.length, .niliface]) (bldS σ id r (b ++ s)) := by
 have h1 := WriteString_pc Y (bldS σ id r b) (id := id) (r := r) ⟨b.toArray⟩ ⟨s.toArray⟩ (bldS_get h) (by rw [bldS_room hr, size_txt]) (by rw [size_txt, size_txt]; exact hl)
 rw [size_txt, size_txt, app_txt] at h1
 have e : (((bldS σ id r b).setRoom r (b.length + s.length)).setVar id [.bself id 101, .bbuf (strPV ⟨(b ++ s).toArray⟩) r 5]) = bldS σ id r (b ++ s) := by
  rw [← List.length_append]
  exact bldS_set
 rw [e] at h1
 exact h1
theorem WriteByteB_pc (Y : YEnv) (σ : Sg) {id r : Nat} (h : id < σ.store.length) (hr : r < σ.rooms.length) (b : List UInt8) (c : UInt8) (hl : b.length + 1 ≤ 2 ^ 46) :
 PC Tryz.prog Y 50 [.ptr id 0, .int .u8 c.toNat] (bldS σ id r b) .niliface (bldS σ id r (b ++ [c])) := by
 have h1 := WriteByte_pc Y (bldS σ id r b) (id := id) (r := r) ⟨b.toArray⟩ c (bldS_get h) (by rw [bldS_room hr, size_txt]) (by rw [size_txt]; exact hl)
 rw [size_txt, show (⟨b.toArray⟩ ++ ⟨#[c]⟩ : ByteArray) = ⟨(b ++ [c]).toArray⟩ from app_txt b [c]] at h1
 have e : (((bldS σ id r b).setRoom r (b.length + 1)).setVar id [.bself id 101, .bbuf (strPV ⟨(b ++ [c]).toArray⟩) r 5]) = bldS σ id r (b ++ [c]) := by
  rw [show b.length + 1 = (b ++ [c]).length by simp]
  exact bldS_set
 rw [e] at h1
 exact h1
theorem WriteNl_pc (Y : YEnv) (σ : Sg) {id r : Nat} (h : id < σ.store.length) (hr : r < σ.rooms.length) (b : List UInt8) (hl : b.length + 1 ≤ 2 ^ 46) :
 PC Tryz.prog Y 50 [.ptr id 0, .int .u8 10] (bldS σ id r b) .niliface (bldS σ id r (b ++ [10])) := WriteByteB_pc Y σ h hr b 10 hl
theorem Fin_bld {P : Program} {fn : Func} {σ : Sg} {id r : Nat} {a b : List UInt8} {E : Env} {rs : List PV} {v : PV} (hcl : CleanSg (bldS σ id r a)) (h : id < σ.store.length) (hr : r < σ.rooms.length)
 (hres : resPV P (bldS σ id r b) E fn.results.toList = some rs) (hv : Wk σ.store.length σ.rooms.length σ.ys.length (oneOr rs) v) : Fin P fn (bldS σ id r a) v (bldS σ id r b) E (bldS σ id r b) := by
 have hc := bldS_clean (b := b) hcl h hr
 have := Fin_self (fn := fn) hc hres (v := v) (by rw [bldS_len, bldS_rooms]; exact hv)
 obtain ⟨l0, n1, n2, k1, k2, k3, k4, k5, k6, k7⟩ := this
 rw [bldS_len] at k2
 rw [bldS_rooms] at k3
 exact ⟨l0, n1, n2, k1, by rw [bldS_len]; exact k2, by rw [bldS_rooms]; exact k3, k4, k5, k6, k7⟩
attribute [go_sem] bldS_len bldS_rooms bldS_ys
set_option maxHeartbeats 2000000 in
theorem Wrow_pc (Y : YEnv) (σ : Sg) (w : List UInt8) (l : List Int) (o : Own) (b : List UInt8) (id r : Nat) (hid : id < σ.store.length) (hr : r < σ.rooms.length) (hv : Fits l) (hw : w.length ≤ 2 ^ 20) (hl : l.length ≤ 2 ^ 20) (hb : b.length ≤ 2 ^ 40) :
 PC Tryz.prog Y 47 [txt w, .isl (l.map I) o, .ptr id 0] (bldS σ id r b) (.tuple []) (bldS σ id r (b ++ lineT w l)) := by
 refine PC_of_W Tryz.func47 rfl (by kernel_rfl) Tryz.ntmps47 (by simp) fun hcl hca => ?_
 refine W_sr [1, 2] fun R hR => ?_
 simp only [go_sem]
 refine GCall_of (WriteB_pc Y σ hid hr b w (by omega)) ?_
 simp only [go_sem]
 refine hR _ _ ?_; clear hR R
 try simp only [go_sem]
 refine W_seq fun Z2 K2 => ?_
 refine W_sr [2, 9, 10, 11] fun R hR => ?_
 simp only [go_sem]
 refine hR _ _ ?_; clear hR R
 try simp only [go_sem]
 refine W_block ?_
 refine W_loopT (α := Nat) (fun (i : Nat) => [(11, I i)]) (fun (i : Nat) => bldS σ id r (b ++ rowT w (l.take i))) (fun (i : Nat) => i ≤ l.length) (fun (i : Nat) => l.length - i) (0) rfl (by simp [rowT_nil]) (Nat.zero_le _) ?_
 rintro i hi
 have hrt : (rowT w (l.take i)).length ≤ w.length + 22 * l.length := by
  have h1 := rowT_len (l.take i) w (fun n hn => hv n (List.mem_of_mem_take hn))
  rw [List.length_take] at h1
  omega
 refine W_sr [2, 9, 10, 11, 12] fun R hR => ?_
 simp only [go_sem]
 refine hR _ _ ?_; clear hR R
 try simp only [go_sem]
 refine W_seq fun Z5 K5 => ?_
 refine W_cond rfl (fun c1 => ?_) (fun c1 => ?_)
 ·
  try simp only [nrm] at c1
  have hi' : i < l.length := by first | assumption | omega
  obtain ⟨x, hx⟩ : ∃ x, l[i]? = some x := ⟨l[i], by simp [hi']⟩
  have hdrop : l.drop i = x :: l.drop (i + 1) := by
   rw [List.drop_eq_getElem_cons hi']; congr 1; exact (List.getElem?_eq_some_iff.1 hx).2
  have hxv := hv x (List.mem_of_getElem? hx)
  have hxl := Lib.itoa_length_le x hxv.1 hxv.2
  refine W_skip (K5 _ _ ?_)
  refine W_seq fun Z6 K6 => ?_
  refine W_block ?_
  refine W_sr [2, 6, 9, 10, 11] fun R hR => ?_
  simp only [go_sem, hx]
  refine hR _ _ ?_; clear hR R
  try simp only [go_sem, hx]
  refine W_region [2, 9, 10, 11] fun R hR => ?_
  simp only [go_sem, hx]
  refine GCall_of (Itoa_pc Y _ x hxv.1 hxv.2) ?_
  simp only [go_sem, hx]
  try simp (disch := (first | omega | (simp only [go_sem, List.length_append] <;> omega))) only [wrapI, wrapU, appX_exact, appX_tok, strAdd, slT, slTa, slTb]
  try simp only [go_sem, hx]
  try simp (disch := (first | omega | (simp only [go_sem, List.length_append] <;> omega))) only [wrapI, wrapU, strAdd, slT, slTa, slTb]
  refine GCall_of (WriteB_pc Y σ hid hr (b ++ rowT w (l.take i)) (32 :: Lib.itoa x) (by simp only [List.length_append, List.length_cons]; omega)) ?_
  simp only [go_sem, hx]
  try simp (disch := (first | omega | (simp only [go_sem, List.length_append] <;> omega))) only [wrapI, wrapU, strAdd, slT, slTa, slTb]
  refine hR _ _ (K6 _ _ ?_); clear hR R; try clear K6 Z6
  try simp only [go_sem, hx]
  refine W_region [2, 9, 10, 11] fun R hR => ?_
  simp only [go_sem, hx]
  try simp (disch := (first | omega | (simp only [go_sem, List.length_append] <;> omega))) only [wrapI, wrapU, strAdd, slT, slTa, slTb]
  refine hR _ _ ?_; clear hR R
  try simp only [go_sem, hx]
  refine ⟨i + 1, ?_, by (try simp only []); omega, ?_⟩
  ·exact Weak.eq rfl (by rw [rowT_take hx, ← List.append_assoc])
  try dsimp only
  omega
 try simp only [nrm] at c1
 have hie : i = l.length := by first | omega | (simp at c1; omega)
 subst hie
 rw [List.take_length] at hrt ⊢
 refine W_exit ?_
 simp only [go_sem]
 refine K2 _ _ ?_
 refine W_region [] fun R hR => ?_
 simp only [go_sem]
 refine GCall_of (WriteNl_pc Y σ hid hr (b ++ rowT w l) (by simp only [List.length_append]; omega)) ?_
 simp only [go_sem]
 refine hR _ _ ?_; clear hR R
 try simp only [go_sem]
 try simp only [go_sem]
 refine ⟨.inl (by trivial), ?_⟩
 rw [show b ++ lineT w l = b ++ rowT w l ++ [10] by simp [lineT]]
 refine Fin_bld hcl hid hr rfl (Wk_eq ?_ (by simp only [go_sem]))
 try simp only [go_sem]
 all_goals
  first | rfl | (simp_all; done) | (simp_all; omega)
section
variable {σ : Sg} {L : List (Option (List PV))} {rm : List Nat} {ys : List LState} {j k : Nat} {b w : List UInt8} {l : List Int} {o : Own}
theorem RowT_pc (Y : YEnv) (h : L[j]? = some (some (bldC (σ.store.length + j) (σ.rooms.length + k) b))) (hr : rm[k]? = some b.length) (hv : Fits l) (hw : w.length ≤ 2 ^ 20) (hl : l.length ≤ 2 ^ 20) (hb : b.length ≤ 2 ^ 40) :
 PC Tryz.prog Y 47 [txt w, .isl (l.map I) o, .ptr (σ.store.length + j) 0] (σ.ext L rm ys) (.tuple []) (σ.ext (L.set j (some (bldC (σ.store.length + j) (σ.rooms.length + k) (b ++ lineT w l)))) (rm.set k (b ++ lineT w l).length) ys) := by
 have h1 : (σ.ext L rm ys).store[σ.store.length + j]? = some (some (bldC (σ.store.length + j) (σ.rooms.length + k) b)) := by rw [Sg.get_ext]; exact h
 have h2 : (σ.ext L rm ys).rooms[σ.rooms.length + k]? = some b.length := by rw [rooms_at]; exact hr
 have h3 := Wrow_pc Y (σ.ext L rm ys) w l o b (σ.store.length + j) (σ.rooms.length + k) (List.getElem?_eq_some_iff.1 h1).1 (List.getElem?_eq_some_iff.1 h2).1 hv hw hl hb
 rw [bldS_self h1 h2] at h3
 unfold bldS at h3
 rw [Sg.setRoom_ext, setVar_ext] at h3
 exact h3
end
attribute [go_sem] bldC
set_option maxHeartbeats 8000000 in
theorem Write_pc (Y : YEnv) (σ : Sg) (c : Contest) (l : List Ballot) (hr : c.rounds.length < 2 ^ 40) (hl : l.length < 2 ^ 40) :
 PC Tryz.prog Y 22 [cnPV c, bls l] σ (.tuple [txt (urnA c l).1, I (urnA c l).2]) (σ) := by
 refine PC_of_W Tryz.func22 rfl (by kernel_rfl) Tryz.ntmps22 (by simp) fun hcl hca => ?_
 refine W_sr [1, 2] fun R hR => ?_
 simp only [go_sem]
 refine hR _ _ ?_; clear hR R
 try simp only [go_sem]
 refine W_seq fun Z2 K2 => ?_
 refine W_sr [1, 2, 6] fun R hR => ?_
 simp only [go_sem]
 refine GCall_of (chkBls_pc Y _ c l hr hl) ?_
 simp only [go_sem]
 refine hR _ _ ?_; clear hR R
 try simp only [go_sem]
 refine W_sr [1, 2, 6, 17] fun R hR => ?_
 simp only [go_sem]
 refine hR _ _ ?_; clear hR R
 try simp only [go_sem]
 refine W_cond rfl (fun c1 => ?_) (fun c1 => ?_)
 ·
  try simp only [nrm] at c1
  have hwr : urnA c l = ([], chkBls c l) := by unfold urnA; rw [if_pos (by simpa using c1)]
  refine W_sr [4, 5] fun R hR => ?_
  simp only [go_sem]
  refine hR _ _ ?_; clear hR R
  try simp only [go_sem]
  refine W_ret ?_
  simp only [go_sem]
  refine ⟨.inr (by trivial), ?_⟩
  first | refine Fsa hcl rfl ?_ | refine Fse hcl rfl ?_
  try simp only [go_sem]
  all_goals
   rw [hwr]
 try simp only [nrm] at c1
 have hck : chkBls c l = 0 := by simpa using c1
 have hnk := urn_k hck
 have hcl1 := lineT_len (w := contestW) (hnk.cn.fits (by omega))
 have e1 : (cnNums c).length = 4 := rfl
 have e2 : contestW.length = 7 := rfl
 have hrl := hnk.rl
 have hbl := hnk.bl
 have hrt0 := rdT_len hnk.rd
 have hbt0 := blT_len hnk.bn
 have hl4 := endT_len (n := l.length) (by omega)
 have hwr : urnA c l = (urnT c l, 0) := by unfold urnA; rw [if_neg (by omega)]
 refine W_skip (K2 _ _ ?_)
 refine W_seq fun Z6 K6 => ?_
 refine W_newB [1, 2, 7] (T := 101) 5 rfl rfl rfl rfl (by decide) zeroB ?_
 refine K6 _ _ ?_
 try simp only [go_sem]
 refine W_sr [1, 2, 7, 8] fun R hR => ?_
 simp only [go_sem]
 refine hR _ _ ?_; clear hR R
 try simp only [go_sem]
 refine W_sr [1, 2, 7, 8] fun R hR => ?_
 simp only [go_sem]
 refine GCall_of (RowT_pc (j := 1) (k := 0) (b := []) (w := contestW) (l := cnNums c) Y rfl (by simp [Nat.add_assoc]) (hnk.cn.fits (by omega)) (by decide) (by simp [cnNums]) (by first | omega | (simp only [List.length_append, List.length_nil]; omega))) ?_
 simp only [go_sem]
 refine hR _ _ ?_; clear hR R
 try simp only [go_sem]
 refine W_seq fun Z9 K9 => ?_
 refine W_sr [1, 7, 8, 32, 33, 34] fun R hR => ?_
 simp only [go_sem]
 refine hR _ _ ?_; clear hR R
 try simp only [go_sem]
 refine W_block ?_
 refine W_loopT (α := Nat) (fun (i : Nat) => [(34, I i)]) (fun (i : Nat) => σ.ext [some (cnCells c), some (bldC (σ.store.length + 1) σ.rooms.length (lineT contestW (cnNums c) ++ rdT (c.rounds.take i)))] [(lineT contestW (cnNums c) ++ rdT (c.rounds.take i)).length]) (fun (i : Nat) => i ≤ c.rounds.length) (fun (i : Nat) => c.rounds.length - i) (0) rfl (by rw [show lineT contestW (cnNums c) ++ rdT (List.take 0 c.rounds) = lineT contestW (cnNums c) by simp [rdT, blT]]; first | rfl | (simp only [go_sem, List.length_append]; done) | (simp only [go_sem, List.length_append]; rfl) | (simp [go_sem, List.length_append, Nat.add_assoc]; done)) (Nat.zero_le _) ?_
 rintro i hi
 have hbt : (rdT (c.rounds.take i)).length ≤ 400 := by
  have := rdT_len (l := c.rounds.take i) (fun b hb => hnk.rd b (List.mem_of_mem_take hb))
  rw [List.length_take] at this
  omega
 refine W_sr [1, 7, 8, 32, 33, 34, 35] fun R hR => ?_
 simp only [go_sem]
 refine hR _ _ ?_; clear hR R
 try simp only [go_sem]
 refine W_seq fun Z12 K12 => ?_
 refine W_cond rfl (fun c2 => ?_) (fun c2 => ?_)
 ·
  try simp only [nrm] at c2
  have hi' : i < c.rounds.length := by first | assumption | omega
  obtain ⟨b, hx⟩ : ∃ b, c.rounds[i]? = some b := ⟨c.rounds[i], by simp [hi']⟩
  have hdrop : c.rounds.drop i = b :: c.rounds.drop (i + 1) := by
   rw [List.drop_eq_getElem_cons hi']; congr 1; exact (List.getElem?_eq_some_iff.1 hx).2
  have hbk := hnk.rd b (List.mem_of_getElem? hx)
  refine W_skip (K12 _ _ ?_)
  refine W_seq fun Z13 K13 => ?_
  refine W_block ?_
  refine W_sr [1, 7, 8, 10, 32, 33, 34] fun R hR => ?_
  simp only [go_sem, hx]
  refine hR _ _ ?_; clear hR R
  try simp only [go_sem, hx]
  refine W_region [1, 7, 8, 32, 33, 34] fun R hR => ?_
  simp only [go_sem, hx]
  refine GCall_of (RowT_pc (j := 1) (k := 0) (b := lineT contestW (cnNums c) ++ rdT (c.rounds.take i)) (w := roundW) (l := rdNums b) Y rfl (by simp [Nat.add_assoc]) (hbk.fits (by omega)) (by decide) (by simp [rdNums]) (by first | omega | (simp only [List.length_append, List.length_nil]; omega))) ?_
  simp only [go_sem, hx]
  refine hR _ _ (K13 _ _ ?_); clear hR R; try clear K13 Z13
  try simp only [go_sem, hx]
  refine W_region [1, 7, 8, 32, 33, 34] fun R hR => ?_
  simp only [go_sem, hx]
  try simp (disch := (first | omega | (simp only [go_sem, List.length_append] <;> omega))) only [wrapI, wrapU, strAdd, slT, slTa, slTb]
  refine hR _ _ ?_; clear hR R
  try simp only [go_sem, hx]
  refine ⟨i + 1, ?_, by (try simp only []); omega, ?_⟩
  ·refine Weak.trans (Weak.cutX 2 1 (by omega) (by omega) hcl (by simp only [go_sem] <;> omega) (by simp only [go_sem] <;> omega)) ?_
   simp only [go_sem]
   refine Weak.eq (by first | rfl | (simp only [go_sem]; done) | (simp only [go_sem]; rfl)) ?_
   rw [rdT_take hx]
   simp only [go_sem, List.append_assoc, List.length_append, Nat.add_assoc]
  try dsimp only
  omega
 try simp only [nrm] at c2
 have hdrop : c.rounds.drop i = [] := List.drop_eq_nil_of_le (by omega)
 have hie : i = c.rounds.length := by omega
 subst hie
 rw [List.take_length] at hbt ⊢
 refine W_exit ?_
 simp only [go_sem]
 refine K9 _ _ ?_
 refine W_seq fun Z15 K15 => ?_
 refine W_sr [1, 7, 8, 48, 49, 50] fun R hR => ?_
 simp only [go_sem]
 refine hR _ _ ?_; clear hR R
 try simp only [go_sem]
 refine W_block ?_
 refine W_loopT (α := Nat) (fun (i : Nat) => [(50, I i)]) (fun (i : Nat) => σ.ext [some (cnCells c), some (bldC (σ.store.length + 1) σ.rooms.length (lineT contestW (cnNums c) ++ rdT c.rounds ++ blT (l.take i)))] [(lineT contestW (cnNums c) ++ rdT c.rounds ++ blT (l.take i)).length]) (fun (i : Nat) => i ≤ l.length) (fun (i : Nat) => l.length - i) (0) rfl (by rw [show lineT contestW (cnNums c) ++ rdT c.rounds ++ blT (List.take 0 l) = lineT contestW (cnNums c) ++ rdT c.rounds by simp [rdT, blT]]; first | rfl | (simp only [go_sem, List.length_append]; done) | (simp only [go_sem, List.length_append]; rfl) | (simp [go_sem, List.length_append, Nat.add_assoc]; done)) (Nat.zero_le _) ?_
 rintro i hi
 have hbt2 : (blT (l.take i)).length ≤ 100 * 300 := by
  have := blT_len (l := l.take i) (fun b hb => hnk.bn b (List.mem_of_mem_take hb))
  rw [List.length_take] at this
  omega
 refine W_sr [1, 7, 8, 48, 49, 50, 51] fun R hR => ?_
 simp only [go_sem]
 refine hR _ _ ?_; clear hR R
 try simp only [go_sem]
 refine W_seq fun Z18 K18 => ?_
 refine W_cond rfl (fun c3 => ?_) (fun c3 => ?_)
 ·
  try simp only [nrm] at c3
  have hi' : i < l.length := by first | assumption | omega
  obtain ⟨b, hx⟩ : ∃ b, l[i]? = some b := ⟨l[i], by simp [hi']⟩
  have hdrop : l.drop i = b :: l.drop (i + 1) := by
   rw [List.drop_eq_getElem_cons hi']; congr 1; exact (List.getElem?_eq_some_iff.1 hx).2
  have hbk := hnk.bn b (List.mem_of_getElem? hx)
  refine W_skip (K18 _ _ ?_)
  refine W_seq fun Z19 K19 => ?_
  refine W_block ?_
  refine W_sr [1, 7, 8, 12, 48, 49, 50] fun R hR => ?_
  simp only [go_sem, hx]
  refine hR _ _ ?_; clear hR R
  try simp only [go_sem, hx]
  refine W_region [1, 7, 8, 48, 49, 50] fun R hR => ?_
  simp only [go_sem, hx]
  refine GCall_of (RowT_pc (j := 1) (k := 0) (b := lineT contestW (cnNums c) ++ rdT c.rounds ++ blT (l.take i)) (w := ballotW) (l := blNums b) Y rfl (by simp [Nat.add_assoc]) (hbk.fits (by omega)) (by decide) (by simp [blNums]) (by first | omega | (simp only [List.length_append, List.length_nil]; omega))) ?_
  simp only [go_sem, hx]
  refine hR _ _ (K19 _ _ ?_); clear hR R; try clear K19 Z19
  try simp only [go_sem, hx]
  refine W_region [1, 7, 8, 48, 49, 50] fun R hR => ?_
  simp only [go_sem, hx]
  try simp (disch := (first | omega | (simp only [go_sem, List.length_append] <;> omega))) only [wrapI, wrapU, strAdd, slT, slTa, slTb]
  refine hR _ _ ?_; clear hR R
  try simp only [go_sem, hx]
  refine ⟨i + 1, ?_, by (try simp only []); omega, ?_⟩
  ·refine Weak.trans (Weak.cutX 2 1 (by omega) (by omega) hcl (by simp only [go_sem] <;> omega) (by simp only [go_sem] <;> omega)) ?_
   simp only [go_sem]
   refine Weak.eq (by first | rfl | (simp only [go_sem]; done) | (simp only [go_sem]; rfl)) ?_
   rw [blT_take hx]
   simp only [go_sem, List.append_assoc, List.length_append, Nat.add_assoc]
  try dsimp only
  omega
 try simp only [nrm] at c3
 have hdrop : l.drop i = [] := List.drop_eq_nil_of_le (by omega)
 have hie : i = l.length := by omega
 subst hie
 rw [List.take_length] at hbt2 ⊢
 refine W_exit ?_
 simp only [go_sem]
 refine K15 _ _ ?_
 refine W_sr [7] fun R hR => ?_
 simp only [go_sem]
 refine GCall_of (RowT_pc (j := 1) (k := 0) (b := lineT contestW (cnNums c) ++ rdT c.rounds ++ blT l) (w := endW) (l := [(l.length : Int)]) Y rfl (by simp [Nat.add_assoc]) (Fits.one (by omega)) (by decide) (by simp) (by first | omega | (simp only [List.length_append, List.length_nil]; omega))) ?_
 simp only [go_sem]
 refine hR _ _ ?_; clear hR R
 try simp only [go_sem]
 refine W_sr [4, 5] fun R hR => ?_
 simp only [go_sem]
 refine GCall_of (StringT_pc (j := 1) (k := 0) (b := urnT c l) Y rfl (by simp [urnT]; try omega) (by simp only [urnT, List.length_append, lineT, List.length_cons]; omega) (by simp only [urnT, List.length_append]; omega)) ?_
 simp only [go_sem]
 refine hR _ _ ?_; clear hR R
 try simp only [go_sem]
 refine W_ret ?_
 simp only [go_sem]
 refine ⟨.inr (by trivial), ?_⟩
 first | refine Fsa hcl rfl ?_ | refine Fse hcl rfl ?_
 try simp only [go_sem]
 all_goals
  rw [hwr]
theorem tmod_bd {x n : Int} (hn : 2 ≤ n) : -n < x.tmod n ∧ x.tmod n < n := by
 have h1 := Int.tmod_lt_of_pos x (show 0 < n by omega)
 have h2 := Int.lt_tmod_of_pos x (show 0 < n by omega)
 exact ⟨h2, h1⟩
/-- A text in which a byte is another one, missing, or more. -/
def blotT (s : List UInt8) (at' how by' : Int) : List UInt8 :=
 if s = [] then s else
 let a := (fit at' s.length).toNat
 if fit how 3 = 0 then s.take a ++ [UInt8.ofNat by'.toNat] ++ s.drop (a + 1) else if fit how 3 = 1 then s.take a ++ s.drop (a + 1) else s.take a ++ [UInt8.ofNat by'.toNat] ++ s.drop a
theorem bytes_one {n : Int} : bytesStr [n] = ⟨([UInt8.ofNat n.toNat] : List UInt8).toArray⟩ := by
 unfold bytesStr
 simp only [List.foldl_cons, List.foldl_nil]
 rfl
set_option maxHeartbeats 2000000 in
theorem Fit2_pc (Y : YEnv) (σ : Sg) (x n : Int) (hn : n < 2 ^ 60) (h1 : -9223372036854775808 ≤ x) (h2 : x ≤ 9223372036854775807) :
 PC Tryz.prog Y 59 [I x, I n] σ (I (fit x n)) (σ) := by
 refine PC_of_W Tryz.func59 rfl (by kernel_rfl) Tryz.ntmps59 (by simp) fun hcl hca => ?_
 refine W_sr [0, 1] fun R hR => ?_
 simp only [go_sem]
 refine hR _ _ ?_; clear hR R
 try simp only [go_sem]
 refine W_seq fun Z2 K2 => ?_
 refine W_sr [0, 1, 6] fun R hR => ?_
 simp only [go_sem]
 refine hR _ _ ?_; clear hR R
 try simp only [go_sem]
 refine W_cond rfl (fun c1 => ?_) (fun c1 => ?_)
 ·
  try simp only [nrm] at c1
  have hf : fit x n = 0 := by unfold fit; rw [if_pos (by omega)]
  refine W_sr [4] fun R hR => ?_
  simp only [go_sem]
  refine hR _ _ ?_; clear hR R
  try simp only [go_sem]
  refine W_ret ?_
  simp only [go_sem]
  refine ⟨.inr (by trivial), ?_⟩
  first | refine Fsa hcl rfl ?_ | refine Fse hcl rfl ?_
  try simp only [go_sem]
  all_goals
   rw [hf]
 try simp only [nrm] at c1
 have hn2 : 2 ≤ n := by omega
 obtain ⟨hb1, hb2⟩ := tmod_bd (x := x) hn2
 have hf : fit x n = if x.tmod n < 0 then x.tmod n + n else x.tmod n := by unfold fit; rw [if_neg (by omega)]
 have hnz : ¬ n = 0 := by omega
 have hnz2 : (n == 0) = false := by simp; omega
 have hw : IntKind.i64.wrap (x.tmod n) = x.tmod n := wrapI (by omega) (by omega)
 refine W_skip (K2 _ _ ?_)
 refine W_sr [0, 1] fun R hR => ?_
 simp only [go_sem, hnz, hnz2, hw]
 try simp (disch := (first | omega | (simp only [go_sem, List.length_append] <;> omega))) only [wrapI, wrapU, strAdd, slT, slTa, slTb]
 refine hR _ _ ?_; clear hR R
 try simp only [go_sem, hnz, hnz2, hw]
 refine W_seq fun Z6 K6 => ?_
 refine W_sr [0, 1, 11] fun R hR => ?_
 simp only [go_sem, hnz, hnz2, hw]
 refine hR _ _ ?_; clear hR R
 try simp only [go_sem, hnz, hnz2, hw]
 refine W_cond rfl (fun c2 => ?_) (fun c2 => ?_)
 ·
  try simp only [nrm] at c2
  rw [if_pos (by omega)] at hf
  refine W_region [0] fun R hR => ?_
  simp only [go_sem, hnz, hnz2, hw]
  try simp (disch := (first | omega | (simp only [go_sem, List.length_append] <;> omega))) only [wrapI, wrapU, strAdd, slT, slTa, slTb]
  refine hR _ _ (K6 _ _ ?_); clear hR R; try clear K6 Z6
  try simp only [go_sem, hnz, hnz2, hw]
  refine W_sr [4] fun R hR => ?_
  simp only [go_sem, hnz, hnz2, hw]
  refine hR _ _ ?_; clear hR R
  try simp only [go_sem, hnz, hnz2, hw]
  refine W_ret ?_
  simp only [go_sem, hnz, hnz2, hw]
  refine ⟨.inr (by trivial), ?_⟩
  first | refine Fsa hcl rfl ?_ | refine Fse hcl rfl ?_
  try simp only [go_sem]
  all_goals
   rw [hf]
 try simp only [nrm] at c2
 rw [if_neg (by omega)] at hf
 refine W_skip (K6 _ _ ?_)
 refine W_sr [4] fun R hR => ?_
 simp only [go_sem, hnz, hnz2, hw]
 refine hR _ _ ?_; clear hR R
 try simp only [go_sem, hnz, hnz2, hw]
 refine W_ret ?_
 simp only [go_sem, hnz, hnz2, hw]
 refine ⟨.inr (by trivial), ?_⟩
 first | refine Fsa hcl rfl ?_ | refine Fse hcl rfl ?_
 try simp only [go_sem]
 all_goals
  rw [hf]
set_option maxHeartbeats 2000000 in
theorem Blot_pc (Y : YEnv) (σ : Sg) (s : List UInt8) (at' how by' : Int) (hs : s.length ≤ 2 ^ 40) (h1 : -9223372036854775808 ≤ at') (h2 : at' ≤ 9223372036854775807) (h3 : -9223372036854775808 ≤ how) (h4 : how ≤ 9223372036854775807) :
 PC Tryz.prog Y 29 [txt s, I at', I how, .int .u8 by'] σ (txt (blotT s at' how by')) (σ) := by
 refine PC_of_W Tryz.func29 rfl (by kernel_rfl) Tryz.ntmps29 (by simp) fun hcl hca => ?_
 obtain ⟨a, ha⟩ : ∃ z : Nat, fit at' s.length = z := ⟨(fit at' s.length).toNat, by have := fit_bd at' s.length; omega⟩
 obtain ⟨q, hq⟩ : ∃ z, fit how 3 = z := ⟨_, rfl⟩
 have hab := fit_bd at' s.length
 rw [ha] at hab
 refine W_sr [0, 1, 2, 3] fun R hR => ?_
 simp only [go_sem]
 refine hR _ _ ?_; clear hR R
 try simp only [go_sem]
 refine W_seq fun Z2 K2 => ?_
 refine W_sr [0, 1, 2, 3, 11] fun R hR => ?_
 simp only [go_sem]
 refine hR _ _ ?_; clear hR R
 try simp only [go_sem]
 refine W_cond rfl (fun c1 => ?_) (fun c1 => ?_)
 ·
  try simp only [nrm] at c1
  have hs0 : s = [] := by simpa using c1
  subst hs0
  have hb : blotT [] at' how by' = [] := by unfold blotT; rw [if_pos rfl]
  refine W_sr [8] fun R hR => ?_
  simp only [go_sem]
  refine hR _ _ ?_; clear hR R
  try simp only [go_sem]
  refine W_ret ?_
  simp only [go_sem]
  refine ⟨.inr (by trivial), ?_⟩
  first | refine Fsa hcl rfl ?_ | refine Fse hcl rfl ?_
  try simp only [go_sem]
  all_goals
   rw [hb]
 try simp only [nrm] at c1
 have hs0 : s ≠ [] := by simpa using c1
 have hsl : 0 < s.length := List.length_pos_iff.2 hs0
 have hal : a < s.length := by omega
 have hb : blotT s at' how by' = if q = 0 then s.take a ++ [UInt8.ofNat by'.toNat] ++ s.drop (a + 1) else if q = 1 then s.take a ++ s.drop (a + 1) else s.take a ++ [UInt8.ofNat by'.toNat] ++ s.drop a := by
  unfold blotT
  rw [if_neg hs0, ha, hq]
  simp only [Int.toNat_natCast]
 have htk : (s.take a).length = a := by rw [List.length_take]; omega
 have hdr : (s.drop (a + 1)).length ≤ s.length := by rw [List.length_drop]; omega
 have hdr2 : (s.drop a).length ≤ s.length := by rw [List.length_drop]; omega
 have hsa : slicePV Tryz.prog 9 (txt s) (some (.int .i64 ((a : Int) + 1))) none none = some (txt (s.drop (a + 1))) := slTa (a := a + 1) (by omega)
 refine W_skip (K2 _ _ ?_)
 refine W_sr [0, 1, 2, 3] fun R hR => ?_
 simp only [go_sem]
 refine GCall_of (PC.val (v' := I (a : Int)) (Fit2_pc Y _ at' (s.length : Int) (by omega) h1 h2) (by rw [ha])) ?_
 simp only [go_sem]
 refine hR _ _ ?_; clear hR R
 try simp only [go_sem]
 refine W_sr [0, 1, 2, 9] fun R hR => ?_
 simp only [go_sem, bytesOfPV, bytes_one]
 try simp (disch := (first | omega | (simp only [go_sem, List.length_append] <;> omega))) only [wrapI, wrapU, strAdd, slT, slTa, slTb]
 refine hR _ _ ?_; clear hR R
 try simp only [go_sem]
 refine W_seq fun Z7 K7 => ?_
 refine W_sr [0, 1, 9, 21] fun R hR => ?_
 simp only [go_sem]
 refine GCall_of (PC.val (v' := I q) (Fit2_pc Y _ how 3 (by omega) h3 h4) (by rw [hq])) ?_
 simp only [go_sem]
 refine hR _ _ ?_; clear hR R
 try simp only [go_sem]
 refine W_block ?_
 refine W_sr [0, 1, 9, 21, 22] fun R hR => ?_
 simp only [go_sem]
 refine hR _ _ ?_; clear hR R
 try simp only [go_sem]
 refine W_cond rfl (fun c2 => ?_) (fun c2 => ?_)
 ·
  try simp only [nrm] at c2
  rw [if_pos (by omega)] at hb
  refine W_seq fun Z10 K10 => ?_
  refine W_draw [8] [0, 1, 2, 3, 4, 5, 6, 7, 8, 9, 10] [] [[], [], [0, 1], [], [0, 1, 2, 3], [], [], [6], [5, 6, 7], [0, 1, 2, 3, 4, 5, 6, 7, 8], [0, 1, 2, 3, 4, 5, 6, 7, 8, 9]] mixed (by kernel_rfl) fun R hR => ?_
  simp only [go_sem, hsa]
  try simp (disch := (first | omega | (simp only [go_sem, List.length_append] <;> omega))) only [wrapI, wrapU, appX_exact, appX_tok, strAdd, slT, slTa, slTb]
  try simp only [go_sem, hsa]
  try simp (disch := (first | omega | (simp only [go_sem, List.length_append] <;> omega))) only [wrapI, wrapU, appX_exact, appX_tok, strAdd, slT, slTa, slTb]
  try simp only [go_sem, hsa]
  try simp (disch := (first | omega | (simp only [go_sem, List.length_append] <;> omega))) only [wrapI, wrapU, appX_exact, appX_tok, strAdd, slT, slTa, slTb]
  try simp only [go_sem, hsa]
  try simp (disch := (first | omega | (simp only [go_sem, List.length_append] <;> omega))) only [wrapI, wrapU, appX_exact, appX_tok, strAdd, slT, slTa, slTb]
  try simp only [go_sem, hsa]
  try refine And.intro (by repeat' (first | refine And.intro ?_ ?_ | exact trivial | exact GOr_right (fun _ => by simp only [go_sem, hsa]))) ?_
  refine hR _ _ (K10 _ _ ?_); clear hR R; try clear K10 Z10
  try simp only [go_sem]
  refine W_ret ?_
  simp only [go_sem]
  refine ⟨.inr (by trivial), ?_⟩
  first | refine Fsa hcl rfl ?_ | refine Fse hcl rfl ?_
  try simp only [go_sem]
  all_goals
   rw [hb]
 try simp only [nrm] at c2
 rw [if_neg (by omega)] at hb
 refine W_sr [0, 1, 9, 34] fun R hR => ?_
 simp only [go_sem]
 refine hR _ _ ?_; clear hR R
 try simp only [go_sem]
 refine W_cond rfl (fun c3 => ?_) (fun c3 => ?_)
 ·
  try simp only [nrm] at c3
  rw [if_pos (by omega)] at hb
  refine W_seq fun Z12 K12 => ?_
  refine W_draw [8] [0, 1, 2, 3, 4, 5, 6, 7, 8] [] [[], [], [0, 1], [], [], [4], [3, 4, 5], [0, 1, 2, 3, 4, 5, 6], [0, 1, 2, 3, 4, 5, 6, 7]] mixed (by kernel_rfl) fun R hR => ?_
  simp only [go_sem, hsa]
  try simp (disch := (first | omega | (simp only [go_sem, List.length_append] <;> omega))) only [wrapI, wrapU, appX_exact, appX_tok, strAdd, slT, slTa, slTb]
  try simp only [go_sem, hsa]
  try simp (disch := (first | omega | (simp only [go_sem, List.length_append] <;> omega))) only [wrapI, wrapU, appX_exact, appX_tok, strAdd, slT, slTa, slTb]
  try simp only [go_sem, hsa]
  try simp (disch := (first | omega | (simp only [go_sem, List.length_append] <;> omega))) only [wrapI, wrapU, appX_exact, appX_tok, strAdd, slT, slTa, slTb]
  try simp only [go_sem, hsa]
  try refine And.intro (by repeat' (first | refine And.intro ?_ ?_ | exact trivial | exact GOr_right (fun _ => by simp only [go_sem, hsa]))) ?_
  refine hR _ _ (K12 _ _ ?_); clear hR R; try clear K12 Z12
  try simp only [go_sem]
  refine W_ret ?_
  simp only [go_sem]
  refine ⟨.inr (by trivial), ?_⟩
  first | refine Fsa hcl rfl ?_ | refine Fse hcl rfl ?_
  try simp only [go_sem]
  all_goals
   rw [hb]
 try simp only [nrm] at c3
 rw [if_neg (by omega)] at hb
 refine W_skip (K7 _ _ ?_)
 refine W_seq fun Z13 K13 => ?_
 refine W_draw [8] [0, 1, 2, 3, 4, 5, 6, 7, 8, 9] [] [[], [], [0, 1], [], [0, 1, 2, 3], [], [], [5, 6], [0, 1, 2, 3, 4, 5, 6, 7], [0, 1, 2, 3, 4, 5, 6, 7, 8]] mixed (by kernel_rfl) fun R hR => ?_
 simp only [go_sem]
 try simp (disch := (first | omega | (simp only [go_sem, List.length_append] <;> omega))) only [wrapI, wrapU, appX_exact, appX_tok, strAdd, slT, slTa, slTb]
 try simp only [go_sem]
 try simp (disch := (first | omega | (simp only [go_sem, List.length_append] <;> omega))) only [wrapI, wrapU, appX_exact, appX_tok, strAdd, slT, slTa, slTb]
 try simp only [go_sem]
 try simp (disch := (first | omega | (simp only [go_sem, List.length_append] <;> omega))) only [wrapI, wrapU, appX_exact, appX_tok, strAdd, slT, slTa, slTb]
 try simp only [go_sem]
 try simp (disch := (first | omega | (simp only [go_sem, List.length_append] <;> omega))) only [wrapI, wrapU, appX_exact, appX_tok, strAdd, slT, slTa, slTb]
 try simp only [go_sem]
 try refine And.intro (by repeat' (first | refine And.intro ?_ ?_ | exact trivial | exact GOr_right (fun _ => by simp only [go_sem]))) ?_
 refine hR _ _ (K13 _ _ ?_); clear hR R; try clear K13 Z13
 try simp only [go_sem]
 refine W_ret ?_
 simp only [go_sem]
 refine ⟨.inr (by trivial), ?_⟩
 first | refine Fsa hcl rfl ?_ | refine Fse hcl rfl ?_
 try simp only [go_sem]
 all_goals
  rw [hb]
abbrev ansU (a : UAns) : PV := .tuple [cnPV a.1, bls a.2.1, I a.2.2.1, I a.2.2.2]
theorem eqbool2 {a b : Bool} : eqPV Tryz.prog 4 (.bool a) (.bool b) = some (a == b) := by cases a <;> cases b <;> kernel_rfl
attribute [go_sem] eqbool2
/-- A contest while it is read. -/
def cnT (r : Nat) (c : Contest) : List PV := [I c.songs, I c.juries, I c.members, I c.most, .isl (c.rounds.map rdPV) (.tok r c.rounds.length 3)]
abbrev rdU (σ : Sg) (c : Contest) (l : List Ballot) : Sg := σ.ext [some [I 0, I 0, I 0, I 0, .isl [] .exact], some (cnT σ.rooms.length c)] [c.rounds.length, l.length]
attribute [go_sem] cnT
theorem dec_zero (i : Nat) : decide (i = 0) = ((i : Int) == 0) := by
 rw [Bool.eq_iff_iff, beq_iff_eq, decide_eq_true_eq]
 omega
theorem step_no {i : Nat} {c : Contest} {l : List Ballot} {e : Bool} {x : List UInt8} {A : Option (List Int)} (hA : numsW x contestW 4 = A) (h : (e || (A.isSome != ((i : Int) == 0))) = true) : stepU i (c, l, e) x = none := by
 rw [step_nums, hA, dec_zero, if_pos]
 simpa [bne_iff_ne] using h
theorem step_yes {i : Nat} {c : Contest} {l : List Ballot} {x : List UInt8} {A B C D : Option (List Int)} (hA : numsW x contestW 4 = A) (hB : numsW x roundW 3 = B) (hC : numsW x ballotW 6 = C) (hD : numsW x endW 1 = D) (h : A.isSome = ((i : Int) == 0)) : stepU i (c, l, false) x = pickU c l A B C D := by
 rw [step_nums, hA, hB, hC, hD, dec_zero, if_neg]
 simp [h]
set_option maxHeartbeats 16000000 in
theorem rRead_pc (Y : YEnv) (σ : Sg) (s : List UInt8) (hs : s.length ≤ 2 ^ 30) :
 PC Tryz.prog Y 31 [txt s] σ (ansU (readU s)) (σ) := by
 refine PC_of_W Tryz.func31 rfl (by kernel_rfl) Tryz.ntmps31 (by simp) fun hcl hca => ?_
 obtain ⟨rows, hrw⟩ : ∃ z, splitL 10 s = z := ⟨_, rfl⟩
 have hwm : ∀ p, p ∈ rows → p.length ≤ 2 ^ 30 := fun p hp => by rw [← hrw] at hp; have := splitL_mem hp; omega
 have hwn : rows ≠ [] := by rw [← hrw]; exact splitL_ne 10 s
 have hwl : 0 < rows.length := List.length_pos_iff.2 hwn
 have hw40 : rows.length ≤ 2 ^ 30 + 1 := by rw [← hrw]; have := splitL_le (b := 10) (s := s); omega
 obtain ⟨xl, hxl⟩ : ∃ w, rows[rows.length - 1]? = some w := ⟨rows[rows.length - 1], by simp [hwl]⟩
 obtain ⟨R, hR0⟩ : ∃ z, rows.take (rows.length - 1) = z := ⟨_, rfl⟩
 have hRl : R.length = rows.length - 1 := by rw [← hR0]; simp
 have hlast : rows[((rows.length : Int) - 1).toNat]? = some xl := by rw [show ((rows.length : Int) - 1).toNat = rows.length - 1 by omega]; exact hxl
 have hposl : (0 ≤ (rows.length : Int) - 1) = True := by simp; omega
 have hRr : ∀ (k : Nat) (x : List UInt8), R[k]? = some x → rows[k]? = some x := fun k x h => by rw [← hR0] at h; rw [List.getElem?_take] at h; split at h <;> first | exact h | cases h
 refine W_sr [0, 2] fun R hR => ?_
 simp only [go_sem]
 refine hR _ _ ?_; clear hR R
 try simp only [go_sem]
 refine W_seq fun Z2 K2 => ?_
 refine W_sr [0, 2, 22] fun R hR => ?_
 simp only [go_sem]
 refine hR _ _ ?_; clear hR R
 try simp only [go_sem]
 refine W_cond rfl (fun c1 => ?_) (fun c1 => ?_)
 ·
  try simp only [nrm] at c1
  have hres : readU s = (cn0, [], 0, 6) := by unfold readU; rw [if_pos (by omega)]
  refine W_sr [2, 3, 4, 5] fun R hR => ?_
  simp only [go_sem]
  refine hR _ _ ?_; clear hR R
  try simp only [go_sem]
  refine W_ret ?_
  simp only [go_sem]
  refine ⟨.inr (by trivial), ?_⟩
  refine Fin_same hcl (by show resPV Tryz.prog _ _ [.cell 2 24, .tmp 3, .tmp 4, .tmp 5] = some _; simp only [resPV, go_sem]; rfl) (Wk.ro (by simp only [go_sem]) ?_)
  try simp only [go_sem]
  all_goals
   first | (rw [hres2]; done) | (rw [hres]; done) | (rw [hres2]; rfl) | (rw [hres]; rfl)
 try simp only [nrm] at c1
 have hres : readU s = readRU rows := by unfold readU; rw [if_neg (by omega), hrw]
 refine W_skip (K2 _ _ ?_)
 refine W_sr [2, 6] fun R hR => ?_
 simp only [go_sem]
 refine GCall_of (PC.val (v' := .isl (rows.map txt) .ro) (rsplit_10 Y _ s (by omega)) (by rw [hrw])) ?_
 simp only [go_sem]
 refine hR _ _ ?_; clear hR R
 try simp only [go_sem]
 refine W_sr [2, 6, 7] fun R hR => ?_
 simp only [go_sem]
 refine hR _ _ ?_; clear hR R
 try simp only [go_sem]
 refine W_sr [2, 6, 7, 8] fun R hR => ?_
 simp only [go_sem]
 refine hR _ _ ?_; clear hR R
 try simp only [go_sem]
 refine W_sr [2, 6, 7, 8, 9] fun R hR => ?_
 simp only [go_sem]
 refine hR _ _ ?_; clear hR R
 try simp only [go_sem]
 refine W_seq fun Z9 K9 => ?_
 refine W_sr [2, 6, 7, 8, 9, 10] fun R hR => ?_
 simp only [go_sem]
 refine hR _ _ ?_; clear hR R
 try simp only [go_sem]
 refine W_block ?_
 refine W_weak (Weak.roomX (j := 1) (off := 4) (es := 3) rfl rfl (by simp)) ?_
 simp only [go_sem]
 refine W_weak (Weak.room (t := 8) (es := 6) rfl (by simp)) ?_
 refine W_weak (Weak.keep [2, 6, 7, 8, 9, 10]) ?_
 simp only [go_sem]
 refine W_loopT (α := Nat × Contest × (List Ballot) × Bool) (fun ⟨i, c, l, ended⟩ => [(8, .isl (l.map blPV) (.tok (σ.rooms.length + 1) l.length 6)), (9, .bool ended), (10, I i)]) (fun ⟨i, c, l, ended⟩ => rdU σ c l) (fun ⟨i, c, l, ended⟩ => i ≤ R.length ∧ l.length ≤ i ∧ c.rounds.length ≤ i ∧ (i = 0 → c.rounds = []) ∧ rowsU i (c, l, ended) (R.drop i) = rowsU 0 (cn0, [], false) R) (fun ⟨i, c, l, ended⟩ => R.length - i) ((0, cn0, [], false)) rfl (by first | rfl | (simp only [go_sem]; done) | (simp only [go_sem]; rfl)) (⟨Nat.zero_le _, Nat.le_refl _, Nat.le_refl _, fun _ => rfl, rfl⟩) ?_
 rintro ⟨i, c, l, ended⟩ ⟨hi, hll, hrl, hz, hinv⟩
 refine W_seq fun Z11 K11 => ?_
 refine W_sr [2, 6, 7, 8, 9, 10, 30] fun R hR => ?_
 simp only [go_sem]
 try simp (disch := (first | omega | (simp only [go_sem, List.length_append] <;> omega))) only [wrapI, wrapU, strAdd, slT, slTa, slTb]
 refine hR _ _ ?_; clear hR R
 try simp only [go_sem]
 refine W_cond rfl (fun c2 => ?_) (fun c2 => ?_)
 ·
  try simp only [nrm] at c2
  have hi' : i < R.length := by first | omega | (simp at c2; omega)
  obtain ⟨x, hx⟩ : ∃ x, R[i]? = some x := ⟨R[i], by simp [hi']⟩
  have hdrop : R.drop i = x :: R.drop (i + 1) := by
   rw [List.drop_eq_getElem_cons hi']; congr 1; exact (List.getElem?_eq_some_iff.1 hx).2
  have hxr := hRr i x hx
  have hxm := hwm x (List.mem_of_getElem? hxr)
  rw [hdrop] at hinv
  have hl0 : ((l.length : Int) == 0) = decide (l = []) := by rw [Bool.eq_iff_iff, beq_iff_eq, decide_eq_true_eq, ← List.length_eq_zero_iff]; omega
  obtain ⟨A, hA⟩ : ∃ z, numsW x contestW 4 = z := ⟨_, rfl⟩
  obtain ⟨B, hB⟩ : ∃ z, numsW x roundW 3 = z := ⟨_, rfl⟩
  obtain ⟨C, hC⟩ : ∃ z, numsW x ballotW 6 = z := ⟨_, rfl⟩
  obtain ⟨D, hD⟩ : ∃ z, numsW x endW 1 = z := ⟨_, rfl⟩
  refine W_skip (K11 _ _ ?_)
  refine W_seq fun Z13 K13 => ?_
  refine W_block ?_
  refine W_sr [2, 6, 7, 8, 9, 10, 11, 12] fun R hR => ?_
  simp only [go_sem, hxr, hl0]
  refine GCall_of (PC.val (v' := .tuple [ints (A.getD []), .bool A.isSome]) (rnumbers_pc Y _ x contestW 4 (by have := hwm x (List.mem_of_getElem? hxr); omega) (by omega)) (by rw [hA]; rfl)) ?_
  simp only [go_sem, hxr, hl0]
  refine hR _ _ ?_; clear hR R
  try simp only [go_sem, hxr, hl0]
  refine W_sr [2, 6, 7, 8, 9, 10, 11, 12, 13, 14] fun R hR => ?_
  simp only [go_sem, hxr, hl0]
  refine GCall_of (PC.val (v' := .tuple [ints (B.getD []), .bool B.isSome]) (rnumbers_pc Y _ x roundW 3 (by have := hwm x (List.mem_of_getElem? hxr); omega) (by omega)) (by rw [hB]; rfl)) ?_
  simp only [go_sem, hxr, hl0]
  refine hR _ _ ?_; clear hR R
  try simp only [go_sem, hxr, hl0]
  refine W_sr [2, 6, 7, 8, 9, 10, 11, 12, 13, 14, 15, 16] fun R hR => ?_
  simp only [go_sem, hxr, hl0]
  refine GCall_of (PC.val (v' := .tuple [ints (C.getD []), .bool C.isSome]) (rnumbers_pc Y _ x ballotW 6 (by have := hwm x (List.mem_of_getElem? hxr); omega) (by omega)) (by rw [hC]; rfl)) ?_
  simp only [go_sem, hxr, hl0]
  refine hR _ _ ?_; clear hR R
  try simp only [go_sem, hxr, hl0]
  refine W_sr [2, 6, 7, 8, 9, 10, 11, 12, 13, 14, 15, 16, 17, 18] fun R hR => ?_
  simp only [go_sem, hxr, hl0]
  refine GCall_of (PC.val (v' := .tuple [ints (D.getD []), .bool D.isSome]) (rnumbers_pc Y _ x endW 1 (by have := hwm x (List.mem_of_getElem? hxr); omega) (by omega)) (by rw [hD]; rfl)) ?_
  simp only [go_sem, hxr, hl0]
  refine hR _ _ ?_; clear hR R
  try simp only [go_sem, hxr, hl0]
  refine W_block ?_
  refine W_seq fun Z18 K18 => ?_
  refine W_regionJ [2, 6, 7, 8, 9, 10, 11, 12, 13, 14, 15, 16, 17, 18, 68] [(68, .bool (ended || (A.isSome != ((i : Int) == 0))))] ?_ fun R hR => ?_
  ·refine K18 _ _ ?_
   simp only [go_sem, hxr, hl0]
   refine W_cond rfl (fun c3 => ?_) (fun c3 => ?_)
   ·
    try simp only [nrm] at c3
    have hst := step_no (c := c) (l := l) hA c3
    rw [rowsU_none hst] at hinv
    have hres2 : readU s = (cn0, [], (i : Int) + 1, 1) := by rw [hres]; exact readU_bad (by rw [hR0]; exact hinv.symm) (by omega)
    refine W_sr [2, 3, 4, 5] fun R hR => ?_
    simp only [go_sem, hxr, hl0]
    try simp (disch := (first | omega | (simp only [go_sem, List.length_append] <;> omega))) only [wrapI, wrapU, strAdd, slT, slTa, slTb]
    refine hR _ _ ?_; clear hR R
    try simp only [go_sem, hxr, hl0]
    refine W_ret ?_
    simp only [go_sem, hxr, hl0]
    refine ⟨.inr (by trivial), ?_⟩
    refine Fin_same hcl (by show resPV Tryz.prog _ _ [.cell 2 24, .tmp 3, .tmp 4, .tmp 5] = some _; simp only [resPV, go_sem]; rfl) (Wk.ro (by simp only [go_sem]) ?_)
    try simp only [go_sem]
    all_goals
     first | (rw [hres2]; done) | (rw [hres]; done) | (rw [hres2]; rfl) | (rw [hres]; rfl)
   try simp only [nrm] at c3
   obtain ⟨c31, c32⟩ : ended = false ∧ A.isSome = ((i : Int) == 0) := by simpa [bne_iff_ne] using c3
   obtain rfl : ended = false := c31
   have hstp := step_yes (c := c) (l := l) hA hB hC hD c32
   refine W_sr [2, 6, 7, 8, 9, 10, 11, 13, 14, 15, 16, 17, 18, 79] fun R hR => ?_
   simp only [go_sem, hxr, hl0]
   refine hR _ _ ?_; clear hR R
   try simp only [go_sem, hxr, hl0]
   refine W_cond rfl (fun c4 => ?_) (fun c4 => ?_)
   ·
    try simp only [nrm] at c4
    obtain ⟨n, rfl⟩ : ∃ n, A = some n := by cases A with
     | none => simp at c4
     | some n => exact ⟨n, rfl⟩
    have hnl := numsW_len hA
    have hi0 : i = 0 := by
     have := c32.symm
     simp at this
     omega
    have hc0 := hz hi0
    have hgk : ∀ k, k < n.length → n[k]? = some (n.getD k 0) := fun k h => by simp [h]
    have hg0 := hgk 0 (by omega)
    have hg1 := hgk 1 (by omega)
    have hg2 := hgk 2 (by omega)
    have hg3 := hgk 3 (by omega)
    have hst : stepU i (c, l, false) x = some (mkCn n, l, false) := by
     rw [hstp]
     rfl
    rw [rowsU_some hst] at hinv
    refine W_draw [2, 6, 7, 8, 9, 10] [0, 1, 2, 3, 4, 5, 6, 7, 8, 9, 10, 11, 12, 13, 14, 15, 16, 17, 18, 19] [(3, 15), (4, 15), (5, 15), (6, 15), (6, 17), (7, 15), (7, 17), (8, 15), (8, 17), (9, 15), (9, 17), (9, 19), (10, 15), (10, 17), (10, 19), (11, 15), (11, 17), (11, 19)] [[], [0], [0, 1], [], [3], [3, 4], [], [6], [6, 7], [], [9], [9, 10], [0, 1, 2], [0, 1, 2, 12], [0, 1, 2, 3, 4, 5, 12, 13], [0, 1, 2, 3, 4, 5, 12, 13, 14], [0, 1, 2, 3, 4, 5, 6, 7, 8, 12, 13, 14, 15], [0, 1, 2, 3, 4, 5, 6, 7, 8, 12, 13, 14, 15, 16], [0, 1, 2, 3, 4, 5, 6, 7, 8, 9, 10, 11, 12, 13, 14, 15, 16, 17], [0, 1, 2, 3, 4, 5, 6, 7, 8, 9, 10, 11, 12, 13, 14, 15, 16, 17, 18]] mixed (by kernel_rfl) fun R hR => ?_
    simp only [go_sem, hxr, hl0, hg0, hg1, hg2, hg3, Option.getD_some, Int.reduceToNat, Int.reduceLE, Int.le_refl]
    try refine And.intro (by repeat' (first | refine And.intro ?_ ?_ | exact trivial | exact GOr_right (fun _ => by simp only [go_sem, hxr, hl0, hg0, hg1, hg2, hg3, Option.getD_some, Int.reduceToNat, Int.reduceLE, Int.le_refl]))) ?_
    refine hR _ _ (K13 _ _ ?_); clear hR R; try clear K13 Z13
    try simp only [go_sem, hxr, hl0, hg0, hg1, hg2, hg3, Option.getD_some, Int.reduceToNat, Int.reduceLE, Int.le_refl]
    refine W_region [2, 6, 7, 8, 9, 10] fun R hR => ?_
    simp only [go_sem, hxr, hl0, hg0, hg1, hg2, hg3, Option.getD_some, Int.reduceToNat, Int.reduceLE, Int.le_refl]
    try simp (disch := (first | omega | (simp only [go_sem, List.length_append] <;> omega))) only [wrapI, wrapU, strAdd, slT, slTa, slTb]
    refine hR _ _ ?_; clear hR R
    try simp only [go_sem, hxr, hl0, hg0, hg1, hg2, hg3, Option.getD_some, Int.reduceToNat, Int.reduceLE, Int.le_refl]
    refine ⟨(i + 1, mkCn n, l, false), ?_, by (try simp only []); omega, ?_⟩
    ·refine Weak.eq (by first | rfl | (simp only [go_sem]; done) | (simp only [go_sem, mkBl, List.map_append, List.map_cons, List.map_nil, List.length_append, List.length_cons, List.length_nil]; first | done | rfl)) (by simp only [rdU, go_sem, mkCn, mkRd, mkBl, List.map_append, List.map_cons, List.map_nil, List.length_append, List.length_cons, List.length_nil]; first | done | rfl | (rw [hc0]; done) | (rw [hc0]; rfl) | (simp [hc0]; done))
    try dsimp only
    exact ⟨by omega, by omega, by simp [mkCn], fun h => by omega, by rw [hi0] at hinv ⊢; exact hinv⟩
   try simp only [nrm] at c4
   obtain rfl : A = none := by cases A with
    | none => rfl
    | some n => simp at c4
   refine W_seq fun Z21 K21 => ?_
   refine W_regionJ [2, 6, 7, 8, 9, 10, 13, 15, 16, 17, 18, 97] [(97, .bool (B.isSome && decide (l = [])))] ?_ fun R hR => ?_
   ·refine K21 _ _ ?_
    simp only [go_sem, hxr, hl0]
    refine W_cond rfl (fun c5 => ?_) (fun c5 => ?_)
    ·
     try simp only [nrm] at c5
     obtain ⟨c51, c52⟩ : B.isSome = true ∧ l = [] := by simpa using c5
     obtain ⟨n, rfl⟩ : ∃ n, B = some n := by cases B with
      | none => simp at c51
      | some n => exact ⟨n, rfl⟩
     have hnl := numsW_len hB
     have hgk : ∀ k, k < n.length → n[k]? = some (n.getD k 0) := fun k h => by simp [h]
     have hg0 := hgk 0 (by omega)
     have hg1 := hgk 1 (by omega)
     have hg2 := hgk 2 (by omega)
     have hst : stepU i (c, l, false) x = some ({ c with rounds := c.rounds ++ [mkRd n] }, l, false) := by
      rw [hstp]
      exact if_pos c52
     rw [rowsU_some hst] at hinv
     refine W_draw [2, 6, 7, 8, 9, 10] [0, 1, 2, 3, 4, 5, 6, 7, 8, 9, 10, 11, 12, 13, 14, 15] [] [[], [0], [], [2], [2, 3], [], [5], [5, 6], [], [8], [8, 9], [2, 3, 4, 5, 6, 7, 8, 9, 10], [2, 3, 4, 5, 6, 7, 8, 9, 10, 11], [0, 1, 2, 3, 4, 5, 6, 7, 8, 9, 10, 11, 12], [0, 1, 2, 3, 4, 5, 6, 7, 8, 9, 10, 11, 12, 13], [0, 1, 2, 3, 4, 5, 6, 7, 8, 9, 10, 11, 12, 13, 14]] mixed (by kernel_rfl) fun R hR => ?_
     simp only [go_sem, hxr, hl0, hg0, hg1, hg2, Option.getD_some, Int.reduceToNat, Int.reduceLE, Int.le_refl]
     try simp (disch := (first | omega | (simp only [go_sem, List.length_append] <;> omega))) only [wrapI, wrapU, appX_exact, appX_tok, strAdd, slT, slTa, slTb]
     try simp only [go_sem, hxr, hl0, hg0, hg1, hg2, Option.getD_some, Int.reduceToNat, Int.reduceLE, Int.le_refl]
     try refine And.intro (by repeat' (first | refine And.intro ?_ ?_ | exact trivial | exact GOr_right (fun _ => by simp only [go_sem, hxr, hl0, hg0, hg1, hg2, Option.getD_some, Int.reduceToNat, Int.reduceLE, Int.le_refl]))) ?_
     refine hR _ _ (K13 _ _ ?_); clear hR R; try clear K13 Z13
     try simp only [go_sem, hxr, hl0, hg0, hg1, hg2, Option.getD_some, Int.reduceToNat, Int.reduceLE, Int.le_refl]
     refine W_region [2, 6, 7, 8, 9, 10] fun R hR => ?_
     simp only [go_sem, hxr, hl0, hg0, hg1, hg2, Option.getD_some, Int.reduceToNat, Int.reduceLE, Int.le_refl]
     try simp (disch := (first | omega | (simp only [go_sem, List.length_append] <;> omega))) only [wrapI, wrapU, strAdd, slT, slTa, slTb]
     refine hR _ _ ?_; clear hR R
     try simp only [go_sem, hxr, hl0, hg0, hg1, hg2, Option.getD_some, Int.reduceToNat, Int.reduceLE, Int.le_refl]
     refine ⟨(i + 1, { c with rounds := c.rounds ++ [mkRd n] }, l, false), ?_, by (try simp only []); omega, ?_⟩
     ·refine Weak.eq (by first | rfl | (simp only [go_sem]; done) | (simp only [go_sem, mkBl, List.map_append, List.map_cons, List.map_nil, List.length_append, List.length_cons, List.length_nil]; first | done | rfl)) (by simp only [rdU, go_sem, mkCn, mkRd, mkBl, List.map_append, List.map_cons, List.map_nil, List.length_append, List.length_cons, List.length_nil]; first | done | rfl | (rw [hc0]; done) | (rw [hc0]; rfl) | (simp [hc0]; done))
     try dsimp only
     exact ⟨by omega, by omega, by simp; omega, fun h => by omega, hinv⟩
    try simp only [nrm] at c5
    refine W_sr [2, 6, 7, 8, 9, 10, 15, 17, 18, 119] fun R hR => ?_
    simp only [go_sem, hxr, hl0]
    refine hR _ _ ?_; clear hR R
    try simp only [go_sem, hxr, hl0]
    refine W_cond rfl (fun c6 => ?_) (fun c6 => ?_)
    ·
     try simp only [nrm] at c6
     obtain ⟨n, rfl⟩ : ∃ n, C = some n := by cases C with
      | none => simp at c6
      | some n => exact ⟨n, rfl⟩
     have hnl := numsW_len hC
     obtain rfl : B = none := hB.symm.trans (nums_excl hC (by decide))
     have hgk : ∀ k, k < n.length → n[k]? = some (n.getD k 0) := fun k h => by simp [h]
     have hg0 := hgk 0 (by omega)
     have hg1 := hgk 1 (by omega)
     have hg2 := hgk 2 (by omega)
     have hg3 := hgk 3 (by omega)
     have hg4 := hgk 4 (by omega)
     have hg5 := hgk 5 (by omega)
     have hst : stepU i (c, l, false) x = some (c, l ++ [mkBl n], false) := by
      rw [hstp]
      rfl
     rw [rowsU_some hst] at hinv
     refine W_draw [2, 6, 7, 8, 9, 10] [0, 1, 2, 3, 4, 5, 6, 7, 8, 9, 10, 11, 12, 13, 14, 15, 16, 17, 18, 19, 20, 21, 22] [] [[], [], [1], [1, 2], [], [4], [4, 5], [], [7], [7, 8], [], [10], [10, 11], [], [13], [13, 14], [], [16], [16, 17], [1, 2, 3, 4, 5, 6, 7, 8, 9, 10, 11, 12, 13, 14, 15, 16, 17, 18], [1, 2, 3, 4, 5, 6, 7, 8, 9, 10, 11, 12, 13, 14, 15, 16, 17, 18, 19], [0, 1, 2, 3, 4, 5, 6, 7, 8, 9, 10, 11, 12, 13, 14, 15, 16, 17, 18, 19, 20], [0, 1, 2, 3, 4, 5, 6, 7, 8, 9, 10, 11, 12, 13, 14, 15, 16, 17, 18, 19, 20, 21]] mixed (by kernel_rfl) fun R hR => ?_
     simp only [go_sem, hxr, hl0, hg0, hg1, hg2, hg3, hg4, hg5, Option.getD_some, Int.reduceToNat, Int.reduceLE, Int.le_refl]
     try simp (disch := (first | omega | (simp only [go_sem, List.length_append] <;> omega))) only [wrapI, wrapU, appX_exact, appX_tok, strAdd, slT, slTa, slTb]
     try simp only [go_sem, hxr, hl0, hg0, hg1, hg2, hg3, hg4, hg5, Option.getD_some, Int.reduceToNat, Int.reduceLE, Int.le_refl]
     try refine And.intro (by repeat' (first | refine And.intro ?_ ?_ | exact trivial | exact GOr_right (fun _ => by simp only [go_sem, hxr, hl0, hg0, hg1, hg2, hg3, hg4, hg5, Option.getD_some, Int.reduceToNat, Int.reduceLE, Int.le_refl]))) ?_
     refine hR _ _ (K13 _ _ ?_); clear hR R; try clear K13 Z13
     try simp only [go_sem, hxr, hl0, hg0, hg1, hg2, hg3, hg4, hg5, Option.getD_some, Int.reduceToNat, Int.reduceLE, Int.le_refl]
     refine W_region [2, 6, 7, 8, 9, 10] fun R hR => ?_
     simp only [go_sem, hxr, hl0, hg0, hg1, hg2, hg3, hg4, hg5, Option.getD_some, Int.reduceToNat, Int.reduceLE, Int.le_refl]
     try simp (disch := (first | omega | (simp only [go_sem, List.length_append] <;> omega))) only [wrapI, wrapU, strAdd, slT, slTa, slTb]
     refine hR _ _ ?_; clear hR R
     try simp only [go_sem, hxr, hl0, hg0, hg1, hg2, hg3, hg4, hg5, Option.getD_some, Int.reduceToNat, Int.reduceLE, Int.le_refl]
     refine ⟨(i + 1, c, l ++ [mkBl n], false), ?_, by (try simp only []); omega, ?_⟩
     ·refine Weak.eq (by first | rfl | (simp only [go_sem]; done) | (simp only [go_sem, mkBl, List.map_append, List.map_cons, List.map_nil, List.length_append, List.length_cons, List.length_nil]; first | done | rfl)) (by simp only [rdU, go_sem, mkCn, mkRd, mkBl, List.map_append, List.map_cons, List.map_nil, List.length_append, List.length_cons, List.length_nil]; first | done | rfl | (rw [hc0]; done) | (rw [hc0]; rfl) | (simp [hc0]; done))
     try dsimp only
     exact ⟨by omega, by simp; omega, by omega, fun h => by omega, hinv⟩
    try simp only [nrm] at c6
    obtain rfl : C = none := by cases C with
     | none => rfl
     | some n => simp at c6
    refine W_seq fun Z23 K23 => ?_
    refine W_regionJ [2, 6, 7, 8, 10, 143] [(143, .bool (D.isSome && decide ((D.getD []).getD 0 0 = (l.length : Int))))] ?_ fun R hR => ?_
    ·refine K23 _ _ ?_
     simp only [go_sem, hxr, hl0]
     refine W_cond rfl (fun c7 => ?_) (fun c7 => ?_)
     ·
      try simp only [nrm] at c7
      obtain ⟨c71, c72⟩ : D.isSome = true ∧ (D.getD []).getD 0 0 = (l.length : Int) := by simpa using c7
      obtain ⟨n, rfl⟩ : ∃ n, D = some n := by cases D with
       | none => simp at c71
       | some n => exact ⟨n, rfl⟩
      have hnl := numsW_len hD
      obtain rfl : B = none := hB.symm.trans (nums_excl hD (by decide))
      have hst : stepU i (c, l, false) x = some (c, l, true) := by
       rw [hstp]
       exact if_pos c72
      rw [rowsU_some hst] at hinv
      refine W_region [2, 6, 7, 8, 9, 10] fun R hR => ?_
      simp only [go_sem, hxr, hl0]
      refine hR _ _ (K13 _ _ ?_); clear hR R; try clear K13 Z13
      try simp only [go_sem, hxr, hl0]
      refine W_region [2, 6, 7, 8, 9, 10] fun R hR => ?_
      simp only [go_sem, hxr, hl0]
      try simp (disch := (first | omega | (simp only [go_sem, List.length_append] <;> omega))) only [wrapI, wrapU, strAdd, slT, slTa, slTb]
      refine hR _ _ ?_; clear hR R
      try simp only [go_sem, hxr, hl0]
      refine ⟨(i + 1, c, l, true), ?_, by (try simp only []); omega, ?_⟩
      ·first | exact Weak.refl | exact Wqq
      try dsimp only
      exact ⟨by omega, by omega, by omega, fun h => by omega, hinv⟩
     try simp only [nrm] at c7
     have hst : stepU i (c, l, false) x = none := by
      rw [hstp]
      cases B with
      | some n =>
       refine if_neg fun q => ?_
       rw [q] at c5
       exact absurd c5 (by simp)
      | none => cases D with
       | none => rfl
       | some n =>
        refine if_neg fun q => ?_
        rw [show ((some n).getD [] : List Int) = n from rfl, decide_eq_true q] at c7
        exact absurd c7 (by simp)
     rw [rowsU_none hst] at hinv
     have hres2 : readU s = (cn0, [], (i : Int) + 1, 1) := by rw [hres]; exact readU_bad (by rw [hR0]; exact hinv.symm) (by omega)
     refine W_sr [2, 3, 4, 5] fun R hR => ?_
     simp only [go_sem, hxr, hl0]
     try simp (disch := (first | omega | (simp only [go_sem, List.length_append] <;> omega))) only [wrapI, wrapU, strAdd, slT, slTa, slTb]
     refine hR _ _ ?_; clear hR R
     try simp only [go_sem, hxr, hl0]
     refine W_ret ?_
     simp only [go_sem, hxr, hl0]
     refine ⟨.inr (by trivial), ?_⟩
     refine Fin_same hcl (by show resPV Tryz.prog _ _ [.cell 2 24, .tmp 3, .tmp 4, .tmp 5] = some _; simp only [resPV, go_sem]; rfl) (Wk.ro (by simp only [go_sem]) ?_)
     try simp only [go_sem]
     all_goals
      first | (rw [hres2]; done) | (rw [hres]; done) | (rw [hres2]; rfl) | (rw [hres]; rfl)
    simp only [go_sem, hxr, hl0]
    refine GWant_split (fun g1 => ?_) (fun g1 => ?_)
    ·try simp only [Bool.not_eq_true', Bool.not_eq_false'] at g1
     have n1 := g1; try simp only [nrm] at n1
     obtain ⟨n, rfl⟩ : ∃ n, D = some n := by cases D with
      | none => simp at g1
      | some n => exact ⟨n, rfl⟩
     have hnl := numsW_len hD
     have hg0 : n[0]? = some (n.getD 0 0) := by simp [hnl]
     simp only [go_sem, hxr, hl0, hg0, Option.getD_some, Int.toNat_zero, Int.le_refl, g1]
     refine hR _ ?_
     all_goals try simp only [go_sem, hxr, hl0, hg0, Option.getD_some, Int.toNat_zero, Int.le_refl]
     all_goals
      first | rfl | (simp [*]; done) | (simp_all; done)
    try simp only [Bool.not_eq_true', Bool.not_eq_false'] at g1
    have n1 := g1; try simp only [nrm] at n1
    simp only [go_sem, hxr, hl0, g1]
    refine hR _ ?_
    all_goals try simp only [go_sem, hxr, hl0]
    all_goals
     first | rfl | (simp [*]; done) | (simp_all; done)
   simp only [go_sem, hxr, hl0]
   refine GWant_split (fun g2 => ?_) (fun g2 => ?_)
   ·try simp only [Bool.not_eq_true', Bool.not_eq_false'] at g2
    have n2 := g2; try simp only [nrm] at n2
    simp only [go_sem, hxr, hl0, g2]
    refine hR _ ?_
    all_goals try simp only [go_sem, hxr, hl0]
    all_goals
     first | rfl | (simp [*]; done) | (simp_all; done) | (cases l <;> simp_all; done)
   try simp only [Bool.not_eq_true', Bool.not_eq_false'] at g2
   have n2 := g2; try simp only [nrm] at n2
   simp only [go_sem, hxr, hl0, g2]
   refine hR _ ?_
   all_goals try simp only [go_sem, hxr, hl0]
   all_goals
    first | rfl | (simp [*]; done) | (simp_all; done) | (cases l <;> simp_all; done)
  simp only [go_sem, hxr, hl0]
  refine GWant_split (fun g3 => ?_) (fun g3 => ?_)
  ·try simp only [Bool.not_eq_true', Bool.not_eq_false'] at g3
   have n3 := g3; try simp only [nrm] at n3
   simp only [go_sem, hxr, hl0, g3]
   refine hR _ ?_
   all_goals try simp only [go_sem, hxr, hl0]
   all_goals
    first | rfl | (simp [*]; done) | (simp [*, bne]; done) | (simp_all; done)
  try simp only [Bool.not_eq_true', Bool.not_eq_false'] at g3
  have n3 := g3; try simp only [nrm] at n3
  simp only [go_sem, hxr, hl0, g3]
  refine hR _ ?_
  all_goals try simp only [go_sem, hxr, hl0]
  all_goals
   first | rfl | (simp [*]; done) | (simp [*, bne]; done) | (simp_all; done)
 try simp only [nrm] at c2
 have hie : i = R.length := by first | omega | (simp at c2; omega)
 have hdrop : R.drop i = [] := List.drop_eq_nil_of_le (by omega)
 rw [hdrop] at hinv
 simp only [rowsU] at hinv
 have hfin := hinv.symm
 refine W_exit ?_
 simp only [go_sem]
 refine K9 _ _ ?_
 refine W_seq fun Z25 K25 => ?_
 refine W_seq fun Z26 K26 => ?_
 refine W_regionJ [2, 6, 7, 8, 163] [(163, .bool (!ended || !decide (xl = [])))] ?_ fun R hR => ?_
 ·refine K26 _ _ ?_
  simp only [go_sem]
  refine W_cond rfl (fun c8 => ?_) (fun c8 => ?_)
  ·
   try simp only [nrm] at c8
   have hres2 : readU s = (cn0, [], (rows.length : Int), 1) := by
    rw [hres]
    refine readU_open (by rw [hR0]; exact hfin) ?_
    rw [hxl]
    by_cases h5 : ended = false
    ·exact .inl h5
    right; simp at h5; simp [h5] at c8; simpa using c8
   refine W_sr [2, 3, 4, 5] fun R hR => ?_
   simp only [go_sem]
   refine hR _ _ ?_; clear hR R
   try simp only [go_sem]
   refine W_ret ?_
   simp only [go_sem]
   refine ⟨.inr (by trivial), ?_⟩
   refine Fin_same hcl (by show resPV Tryz.prog _ _ [.cell 2 24, .tmp 3, .tmp 4, .tmp 5] = some _; simp only [resPV, go_sem]; rfl) (Wk.ro (by simp only [go_sem]) ?_)
   try simp only [go_sem]
   all_goals
    first | (rw [hres2]; done) | (rw [hres]; done) | (rw [hres2]; rfl) | (rw [hres]; rfl)
  try simp only [nrm] at c8
  obtain ⟨rfl, rfl⟩ : ended = true ∧ xl = [] := by simpa using c8
  have hres2 : readU s = if chkBls c l ≠ 0 then (cn0, [], 0, chkBls c l) else (c, l, 0, 0) := by
   rw [hres]
   exact readU_end (st := (c, l, true)) (by rw [hR0]; exact hfin) (by rw [hxl]; simp)
  refine W_skip (K25 _ _ ?_)
  refine W_seq fun Z28 K28 => ?_
  refine W_sr [2, 7, 8, 19] fun R hR => ?_
  simp only [go_sem]
  refine GCall_of (PC.ofRo (rchkBls_pc Y _ c l (by omega) (by omega)) (by simp only [go_sem] <;> rfl)) ?_
  simp only [go_sem]
  refine hR _ _ ?_; clear hR R
  try simp only [go_sem]
  refine W_sr [2, 7, 8, 19, 171] fun R hR => ?_
  simp only [go_sem]
  refine hR _ _ ?_; clear hR R
  try simp only [go_sem]
  refine W_cond rfl (fun c9 => ?_) (fun c9 => ?_)
  ·
   try simp only [nrm] at c9
   rw [if_pos (by simpa using c9)] at hres2
   refine W_sr [2, 3, 4, 5] fun R hR => ?_
   simp only [go_sem]
   refine hR _ _ ?_; clear hR R
   try simp only [go_sem]
   refine W_ret ?_
   simp only [go_sem]
   refine ⟨.inr (by trivial), ?_⟩
   refine Fin_same hcl (by show resPV Tryz.prog _ _ [.cell 2 24, .tmp 3, .tmp 4, .tmp 5] = some _; simp only [resPV, go_sem]; rfl) (Wk.ro (by simp only [go_sem]) ?_)
   try simp only [go_sem]
   all_goals
    first | (rw [hres2]; done) | (rw [hres]; done) | (rw [hres2]; rfl) | (rw [hres]; rfl)
  try simp only [nrm] at c9
  rw [if_neg (by simpa using c9)] at hres2
  refine W_skip (K28 _ _ ?_)
  refine W_sr [2, 3, 4, 5] fun R hR => ?_
  simp only [go_sem]
  refine hR _ _ ?_; clear hR R
  try simp only [go_sem]
  refine W_ret ?_
  simp only [go_sem]
  refine ⟨.inr (by trivial), ?_⟩
  refine Fin_same hcl (by show resPV Tryz.prog _ _ [.cell 2 24, .tmp 3, .tmp 4, .tmp 5] = some _; simp only [resPV, go_sem]; rfl) (Wk.ro (by simp only [go_sem]) ?_)
  try simp only [go_sem]
  all_goals
   first | (rw [hres2]; done) | (rw [hres]; done) | (rw [hres2]; rfl) | (rw [hres]; rfl)
 simp only [go_sem, hlast, hposl]
 refine GWant_split (fun g4 => ?_) (fun g4 => ?_)
 ·try simp only [Bool.not_eq_true', Bool.not_eq_false'] at g4
  have n4 := g4; try simp only [nrm] at n4
  simp only [go_sem, hlast, hposl, g4]
  try simp (disch := (first | omega | (simp only [go_sem, List.length_append] <;> omega))) only [wrapI, wrapU, strAdd, slT, slTa, slTb]
  try simp only [go_sem, hlast, hposl, g4]
  refine hR _ ?_
  all_goals try simp only [go_sem, hlast, hposl]
  all_goals
   first | rfl | (simp [*]; done) | (simp_all; done)
 try simp only [Bool.not_eq_true', Bool.not_eq_false'] at g4
 have n4 := g4; try simp only [nrm] at n4
 simp only [go_sem, hlast, hposl, g4]
 try simp (disch := (first | omega | (simp only [go_sem, List.length_append] <;> omega))) only [wrapI, wrapU, strAdd, slT, slTa, slTb]
 try simp only [go_sem, hlast, hposl, g4]
 refine hR _ ?_
 all_goals try simp only [go_sem, hlast, hposl]
 all_goals
  first | rfl | (simp [*]; done) | (simp_all; done)
end Go.Proofs.YtdoohibbfjdblaaGreatDoor
