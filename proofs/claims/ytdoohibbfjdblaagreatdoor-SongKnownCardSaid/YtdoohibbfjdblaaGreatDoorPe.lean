/-
  Walks: the ballots of a round counted (song).
  Sorting, as the library does it.
  Walks: the standing of a song; standings copied and sorted (song).
  Walks: the result of a round (song).
  Tallies of all rounds: what may be said of them, their reading (song).
  Walks: all rounds counted (song).
  Walks: a contest run (song).
  Walks: how many may still vote, how many points may still come (song).
  Walks: the other songs of a round; may a song be kept (song).
  Walks: is a song kept whatever happens (song).
  Walks: which songs a round keeps (song).
  Standings sorted, and those that are kept: the plain law (song).
  Walks: preferences checked (song, bateriaref04).
  Songs that are left out one after the other, in plain Lean.
  Walks: songs left out one after the other (song).
-/
import Derived.Test.YtdoohibbfjdblaaGreatDoorPd
import Derived.CallsIn
import Derived.RangeFuncLeaves
import Derived.RangeFuncRecord
import Derived.OrdersIn
import Derived.Below
import Derived.Laws.World
import Derived.Laws.StructEq
import Derived.Laws.BytesString
import Derived.Laws.Append
import Derived.MapKept
import Derived.ProofKit
import Derived.Carry
import Derived.Handed
import Derived.ChangeCalls
import Derived.Stop.Joined
import Derived.Lib.LaidTab
import Derived.Shelf.Strconv.Itoa3
import Derived.RangeFuncIn
import Derived.RangeFuncNested
import Derived.Sort.OwnSortedInts
import Derived.Lib.SlicesCompact
import Derived.Test.YtdoohibbfjdblaaGreatDoorProg
import Derived.KernelRfl
import Derived.IntWalk
import Derived.Shelf.Sort.Plain
import Derived.Shelf.Slices.In.SortNone
import Derived.Shelf.Small.Bits
import Derived.Shelf.Strings.Builder1
import Derived.Lib.SplitLaws
import Derived.Lib.AtoiAll
import Derived.Lib.ItoaNum
import Derived.Lib.IndexBytes
import Derived.Shelf.Strings.Split
import Derived.Shelf.Strconv.AtoiAll
import Derived.Lib.AtoiErrMem
import Derived.Lib.ItoaLen
import Derived.Test.YtdoohibbfjdblaaGreatDoorCards
import Derived.Test.YtdoohibbfjdblaaGreatDoorTie
import Derived.JoinedOf
import Derived.LaidMore
import Derived.LaidSub
import Derived.Lay
import Derived.SevenTiedAt
import Derived.Lib.LaidU8
import Derived.Shelf.Vars
set_option linter.unusedSimpArgs false
set_option linter.unusedVariables false
namespace Go.Proofs.YtdoohibbfjdblaaGreatDoor
open Go Go.RowKit
set_option maxRecDepth 100000
def zeroTl : List PV := [I 0, I 0, I 0, .isl [] .exact, I 0, I 0, I 0, I 0, I 0, I 0, I 0, I 0, I 0, I 0, I 0, I 0, I 0, I 0, I 0, I 0, .nilmap]
def tl0 (r : Rnd) (songs : List Int) : Tally := ⟨r, songs, fun _ => 0, fun _ => 0, []⟩
def tlS (r : Rnd) (songs : List Int) (l : List Ballot) (m : List (Voice × Int)) (seen : List Nat) : Tally := ⟨r, songs, sumR cpB l m seen, sumR cvB l m seen, []⟩
theorem cleans_zt {a b c : Nat} : CleanAll a b c zeroTl = True := by simp only [zeroTl, go_sem]
attribute [go_sem] cleans_zt
theorem rn_tl {n nr ny k i : Nat} {ks : List Nat} (t : Tally) (h : ks[i]? = some k) : RnL n nr ny ks (tlCells (n + k) t) (tlCells (n + i) t) := by
 simp only [tlCells, RnL]
 exact ⟨.same _ (.int _ _), .same _ (.int _ _), .same _ (.int _ _), .same _ (clean_ints _), .same _ (.int _ _), .same _ (.int _ _), .same _ (.int _ _), .same _ (.int _ _), .same _ (.int _ _), .same _ (.int _ _), .same _ (.int _ _), .same _ (.int _ _), .same _ (.int _ _), .same _ (.int _ _), .same _ (.int _ _), .same _ (.int _ _), .same _ (.int _ _), .same _ (.int _ _), .same _ (.int _ _), .same _ (.int _ _), .mapv i k _ _ h rfl rfl, trivial⟩
theorem cpB_jury {b : Ballot} {sn : Nat} (hs : b.song = sn) (hk : b.kind ≠ 2) : ∀ s, cpB s b = if s = sn then b.points else 0 := fun s => by
 unfold cpB
 rw [hs]
 by_cases e : s = sn
 ·subst e; rw [if_pos ⟨hk, rfl⟩, if_pos rfl]
 rw [if_neg (by intro h; omega), if_neg e]
theorem cpB_member {b : Ballot} (hk : b.kind = 2) : ∀ s, cpB s b = 0 := fun s => by unfold cpB; rw [if_neg (by simp [hk])]
theorem cvB_member {b : Ballot} {sn : Nat} (hs : b.song = sn) (hk : b.kind = 2) : ∀ s, cvB s b = if s = sn then 1 else 0 := fun s => by
 unfold cvB
 rw [hs]
 by_cases e : s = sn
 ·subst e; rw [if_pos ⟨hk, rfl⟩, if_pos rfl]
 rw [if_neg (by intro h; omega), if_neg e]
theorem cvB_jury {b : Ballot} (hk : b.kind ≠ 2) : ∀ s, cvB s b = 0 := fun s => by unfold cvB; rw [if_neg (by simp [hk])]
set_option maxHeartbeats 8000000 in
theorem count_pc (Y : YEnv) (σ : Sg) (c : Contest) (l : List Ballot) (rdn : Nat) (r : Rnd) (songs : List Int) (hr : c.rounds[rdn]? = some r) (hrl : c.rounds.length < 2 ^ 40) (hl : l.length ≤ 300) (hsl : songs.length < 2 ^ 40) (hbv : ∀ b, b ∈ l → (0 ≤ b.song ∧ b.song < 8) ∧ 0 ≤ b.points ∧ b.points ≤ 100) :
 PC Tryz.prog Y 71 [cnPV c, bls l, I rdn, ints songs] σ (tlPV σ.store.length (countT r rdn songs l)) (σ.ext [some (.mark :: mapE vcPV I (voices rdn songs l l.length))] []) := by
 refine PC_of_W Tryz.func71 rfl (by kernel_rfl) Tryz.ntmps71 (by simp) fun hcl hca => ?_
 have hrd : rdn < c.rounds.length := (List.getElem?_eq_some_iff.1 hr).1
 have hrd2 : (rdn : Int) < (c.rounds.length : Int) := by omega
 refine W_sr [1, 2, 3, 4, 8] fun R hR => ?_
 simp only [go_sem, tl_map, Sg.get_ext, Sg.get_ext0, List.getElem?_cons_succ, List.getElem?_cons_zero]
 refine hR _ _ ?_; clear hR R
 try simp only [go_sem, tl_map, Sg.get_ext, Sg.get_ext0, List.getElem?_cons_succ, List.getElem?_cons_zero]
 refine W_sr [1, 2, 3, 8, 9] fun R hR => ?_
 simp only [go_sem, tl_map, Sg.get_ext, Sg.get_ext0, List.getElem?_cons_succ, List.getElem?_cons_zero, hr, hrd2]
 refine hR _ _ ?_; clear hR R
 try simp only [go_sem, tl_map, Sg.get_ext, Sg.get_ext0, List.getElem?_cons_succ, List.getElem?_cons_zero]
 refine W_seq fun Z3 K3 => ?_
 refine W_seq fun Z4 K4 => ?_
 refine W_weak (Weak.eq (σ' := σ.ext [some (cnCells c), some zeroTl, some (.mark :: mapE vcPV I ([])), some (tlCells (σ.store.length + 2) (tl0 r songs))] []) rfl rfl) ?_
 refine W_region [1, 2, 3, 8, 9, 26, 27, 28] fun R hR => ?_
 simp only [go_sem, tl_map, Sg.get_ext, Sg.get_ext0, List.getElem?_cons_succ, List.getElem?_cons_zero]
 refine hR _ _ (K4 _ _ ?_); clear hR R; try clear K4 Z4
 try simp only [go_sem, tl_map, Sg.get_ext, Sg.get_ext0, List.getElem?_cons_succ, List.getElem?_cons_zero]
 refine W_block ?_
 refine W_loopT (α := Nat) (fun (i : Nat) => [(28, I i)]) (fun (i : Nat) => σ.ext [some (cnCells c), some zeroTl, some (.mark :: mapE vcPV I (voices rdn songs l i)), some (tlCells (σ.store.length + 2) (tl0 r songs))] []) (fun (i : Nat) => i ≤ l.length) (fun (i : Nat) => l.length - i) (0) rfl (by first | rfl | (simp only [go_sem]; done) | (simp only [go_sem]; rfl)) (Nat.zero_le _) ?_
 rintro i hi
 refine W_sr [1, 2, 3, 8, 9, 26, 27, 28, 29] fun R hR => ?_
 simp only [go_sem, tl_map, Sg.get_ext, Sg.get_ext0, List.getElem?_cons_succ, List.getElem?_cons_zero]
 refine hR _ _ ?_; clear hR R
 try simp only [go_sem, tl_map, Sg.get_ext, Sg.get_ext0, List.getElem?_cons_succ, List.getElem?_cons_zero]
 refine W_seq fun Z6 K6 => ?_
 refine W_cond rfl (fun c1 => ?_) (fun c1 => ?_)
 ·
  try simp only [nrm] at c1
  have hi' : i < l.length := by first | assumption | omega
  obtain ⟨b, hx⟩ : ∃ b, l[i]? = some b := ⟨l[i], by simp [hi']⟩
  have hdrop : l.drop i = b :: l.drop (i + 1) := by
   rw [List.drop_eq_getElem_cons hi']; congr 1; exact (List.getElem?_eq_some_iff.1 hx).2
  have hvs : voices rdn songs l (i + 1) = vstep rdn songs l (voices rdn songs l i) i b := by simp only [voices, hx]
  have hpl := voices_ok rdn songs l i
  obtain ⟨m, hm⟩ : ∃ z, voices rdn songs l i = z := ⟨_, rfl⟩
  rw [hm] at hvs hpl
  simp only [hm]
  refine W_skip (K6 _ _ ?_)
  refine W_seq fun Z7 K7 => ?_
  refine W_block ?_
  refine W_sr [1, 2, 3, 8, 9, 10, 11, 26, 27, 28] fun R hR => ?_
  simp only [go_sem, tl_map, Sg.get_ext, Sg.get_ext0, List.getElem?_cons_succ, List.getElem?_cons_zero, hx, blCells, blPV]
  refine hR _ _ ?_; clear hR R
  try simp only [go_sem, tl_map, Sg.get_ext, Sg.get_ext0, List.getElem?_cons_succ, List.getElem?_cons_zero, hx, blCells, blPV]
  refine W_seq fun Z9 K9 => ?_
  refine W_seq fun Z10 K10 => ?_
  refine W_regionJ [1, 2, 3, 8, 9, 10, 11, 26, 27, 28, 43] [(43, .bool (!(isIn rdn songs b)))] ?_ fun R hR => ?_
  ·refine K10 _ _ ?_
   simp only [go_sem, tl_map, Sg.get_ext, Sg.get_ext0, List.getElem?_cons_succ, List.getElem?_cons_zero, hx, blCells, blPV]
   refine W_cond rfl (fun c2 => ?_) (fun c2 => ?_)
   ·
    try simp only [nrm] at c2
    refine W_exit ?_
    simp only [go_sem, tl_map, Sg.get_ext, Sg.get_ext0, List.getElem?_cons_succ, List.getElem?_cons_zero, hx, blCells, blPV]
    refine K7 _ _ ?_
    refine W_region [1, 2, 3, 8, 9, 26, 27, 28] fun R hR => ?_
    simp only [go_sem, tl_map, Sg.get_ext, Sg.get_ext0, List.getElem?_cons_succ, List.getElem?_cons_zero, hx, blCells, blPV]
    try simp (disch := omega) only [wrapI, wrapU]
    refine hR _ _ ?_; clear hR R
    try simp only [go_sem, tl_map, Sg.get_ext, Sg.get_ext0, List.getElem?_cons_succ, List.getElem?_cons_zero, hx, blCells, blPV]
    refine ⟨i + 1, ?_, by (try simp only []); omega, ?_⟩
    ·refine Weak.trans (Weak.cutX 4 0 (by omega) (by omega) hcl (by simp only [go_sem, CleanAll_mapV] <;> omega) (by simp only [go_sem] <;> omega)) ?_
     simp only [go_sem]
     exact Weak.eq rfl (by rw [hvs]; unfold vstep; first | (rw [c2, c4, hkey]; rfl) | (rw [c2, c4]; rfl) | (rw [c2, c5, hkey]; rfl) | (rw [c2, c5]; rfl) | (rw [c2]; rfl))
    try dsimp only
    exact hi'
   try simp only [nrm] at c2
   refine W_skip (K9 _ _ ?_)
   refine W_sr [1, 2, 3, 8, 9, 10, 11, 12, 26, 27, 28] fun R hR => ?_
   simp only [go_sem, tl_map, Sg.get_ext, Sg.get_ext0, List.getElem?_cons_succ, List.getElem?_cons_zero, hx, blCells, blPV]
   refine hR _ _ ?_; clear hR R
   try simp only [go_sem, tl_map, Sg.get_ext, Sg.get_ext0, List.getElem?_cons_succ, List.getElem?_cons_zero, hx, blCells, blPV]
   refine W_seq fun Z12 K12 => ?_
   refine W_sr [1, 2, 3, 8, 9, 10, 11, 12, 26, 27, 28, 53] fun R hR => ?_
   simp only [go_sem, tl_map, Sg.get_ext, Sg.get_ext0, List.getElem?_cons_succ, List.getElem?_cons_zero, hx, blCells, blPV]
   refine hR _ _ ?_; clear hR R
   try simp only [go_sem, tl_map, Sg.get_ext, Sg.get_ext0, List.getElem?_cons_succ, List.getElem?_cons_zero, hx, blCells, blPV]
   refine W_cond rfl (fun c3 => ?_) (fun c3 => ?_)
   ·
    try simp only [nrm] at c3
    have hkey : keyOf b = (b.kind, b.voter, -1) := by simp [keyOf, c3]
    refine W_region [1, 2, 3, 8, 9, 10, 11, 12, 26, 27, 28] fun R hR => ?_
    simp only [go_sem, tl_map, Sg.get_ext, Sg.get_ext0, List.getElem?_cons_succ, List.getElem?_cons_zero, hx, blCells, blPV]
    refine hR _ _ (K12 _ _ ?_); clear hR R; try clear K12 Z12
    try simp only [go_sem, tl_map, Sg.get_ext, Sg.get_ext0, List.getElem?_cons_succ, List.getElem?_cons_zero, hx, blCells, blPV]
    refine W_sr [1, 2, 3, 8, 9, 10, 11, 12, 13, 14, 26, 27, 28] fun R hR => ?_
    simp only [go_sem, tl_map, Sg.get_ext, Sg.get_ext0, List.getElem?_cons_succ, List.getElem?_cons_zero, hx, blCells, blPV]
    refine hR _ _ ?_; clear hR R
    try simp only [go_sem, tl_map, Sg.get_ext, Sg.get_ext0, List.getElem?_cons_succ, List.getElem?_cons_zero, hx, blCells, blPV]
    refine W_seq fun Z15 K15 => ?_
    refine W_drawJ [1, 2, 3, 8, 9, 10, 12, 26, 27, 28, 73] [(73, .bool (first l m b))] [0, 1, 2, 3, 4, 5, 6, 7, 8, 9, 10, 11] [] [[], [0], [0, 1], [0, 1, 2], [0, 1, 2, 3], [0, 1, 2], [0, 1, 2], [0, 1, 2, 5, 6], [0, 1, 2, 5, 6, 7], [0, 1, 2, 5, 6, 7, 8], [0, 1, 2, 3, 4, 5, 6, 7, 8, 9], [0, 1, 2, 3, 4, 5, 6, 7, 8, 9, 10]] mixed (by kernel_rfl) ?_ fun R hR => ?_
    ·refine K15 _ _ ?_
     simp only [go_sem, tl_map, Sg.get_ext, Sg.get_ext0, List.getElem?_cons_succ, List.getElem?_cons_zero, hx, blCells, blPV]
     refine W_cond rfl (fun c4 => ?_) (fun c4 => ?_)
     ·
      try simp only [nrm] at c4
      refine W_region [1, 2, 3, 8, 9, 26, 27, 28] fun R hR => ?_
      simp only [go_sem, tl_map, Sg.get_ext, Sg.get_ext0, List.getElem?_cons_succ, List.getElem?_cons_zero, hx, blCells, blPV]
      refine hR _ _ (K7 _ _ ?_); clear hR R; try clear K7 Z7
      try simp only [go_sem, tl_map, Sg.get_ext, Sg.get_ext0, List.getElem?_cons_succ, List.getElem?_cons_zero, hx, blCells, blPV]
      refine W_region [1, 2, 3, 8, 9, 26, 27, 28] fun R hR => ?_
      simp only [go_sem, tl_map, Sg.get_ext, Sg.get_ext0, List.getElem?_cons_succ, List.getElem?_cons_zero, hx, blCells, blPV]
      try simp (disch := omega) only [wrapI, wrapU]
      refine hR _ _ ?_; clear hR R
      try simp only [go_sem, tl_map, Sg.get_ext, Sg.get_ext0, List.getElem?_cons_succ, List.getElem?_cons_zero, hx, blCells, blPV]
      refine ⟨i + 1, ?_, by (try simp only []); omega, ?_⟩
      ·refine Weak.trans (Weak.cutX 4 0 (by omega) (by omega) hcl (by simp only [go_sem, CleanAll_mapV] <;> omega) (by simp only [go_sem] <;> omega)) ?_
       simp only [go_sem]
       exact Weak.eq rfl (by rw [hvs]; unfold vstep; first | (rw [c2, c4, hkey]; rfl) | (rw [c2, c4]; rfl) | (rw [c2, c5, hkey]; rfl) | (rw [c2, c5]; rfl) | (rw [c2]; rfl))
      try dsimp only
      exact hi'
     try simp only [nrm] at c4
     refine W_skip (K7 _ _ ?_)
     refine W_region [1, 2, 3, 8, 9, 26, 27, 28] fun R hR => ?_
     simp only [go_sem, tl_map, Sg.get_ext, Sg.get_ext0, List.getElem?_cons_succ, List.getElem?_cons_zero, hx, blCells, blPV]
     try simp (disch := omega) only [wrapI, wrapU]
     refine hR _ _ ?_; clear hR R
     try simp only [go_sem, tl_map, Sg.get_ext, Sg.get_ext0, List.getElem?_cons_succ, List.getElem?_cons_zero, hx, blCells, blPV]
     refine ⟨i + 1, ?_, by (try simp only []); omega, ?_⟩
     ·refine Weak.trans (Weak.cutX 4 0 (by omega) (by omega) hcl (by simp only [go_sem, CleanAll_mapV] <;> omega) (by simp only [go_sem] <;> omega)) ?_
      simp only [go_sem]
      exact Weak.eq rfl (by rw [hvs]; unfold vstep; first | (rw [c2, c4, hkey]; rfl) | (rw [c2, c4]; rfl) | (rw [c2, c5, hkey]; rfl) | (rw [c2, c5]; rfl) | (rw [c2]; rfl))
     try dsimp only
     exact hi'
    simp only [go_sem, tl_map, Sg.get_ext, Sg.get_ext0, List.getElem?_cons_succ, List.getElem?_cons_zero, hx, blCells, blPV]
    refine GWant_split (fun g1 => ?_) (fun g1 => ?_)
    ·try simp only [Bool.not_eq_true', Bool.not_eq_false'] at g1
     have n1 := g1; try simp only [nrm] at n1
     obtain ⟨kz, hkz⟩ : ∃ z, aget (keyOf b) m = some z := Option.isSome_iff_exists.1 (by rw [hkey]; simpa using g1)
     obtain ⟨kk, o, e1, e2, e3, _⟩ := hpl _ (aget_mem hkz)
     simp only at e1
     subst e1
     have hfst : first l m b = decide (b.serial < o.serial) := by simp [first, hkz, e3]
     rw [hkey] at hkz
     have hkk0 : (0 : Int) ≤ (kk : Int) := by omega
     have hkl : (kk : Int) < (l.length : Int) := by omega
     simp only [go_sem, tl_map, Sg.get_ext, Sg.get_ext0, List.getElem?_cons_succ, List.getElem?_cons_zero, hx, blCells, blPV, hkz, e3, Option.getD_some, Int.toNat_natCast, hkk0, hkl, Option.isSome_some, Bool.not_true, Bool.not_false, g1]
     try refine And.intro (by repeat' (first | refine And.intro ?_ ?_ | exact GOr_right (fun _ => by simp only [go_sem, tl_map, Sg.get_ext, Sg.get_ext0, List.getElem?_cons_succ, List.getElem?_cons_zero, hx, blCells, blPV, hkz, e3, Option.getD_some, Int.toNat_natCast, hkk0, hkl, Option.isSome_some, Bool.not_true, Bool.not_false]))) ?_
     refine hR _ ?_
     all_goals try simp only [go_sem, tl_map, Sg.get_ext, Sg.get_ext0, List.getElem?_cons_succ, List.getElem?_cons_zero, hx, blCells, blPV, hkz, e3, Option.getD_some, Int.toNat_natCast, hkk0, hkl, Option.isSome_some, Bool.not_true, Bool.not_false]
     all_goals
      first | rfl | (rw [hfst]; done) | (rw [hfst]; rfl)
    try simp only [Bool.not_eq_true', Bool.not_eq_false'] at g1
    have n1 := g1; try simp only [nrm] at n1
    have hkn : aget (keyOf b) m = none := by rw [hkey]; simpa using g1
    have hfst : first l m b = true := by simp [first, hkn]
    simp only [go_sem, tl_map, Sg.get_ext, Sg.get_ext0, List.getElem?_cons_succ, List.getElem?_cons_zero, hx, blCells, blPV, g1]
    try refine And.intro (by repeat' (first | refine And.intro ?_ ?_ | exact GOr_right (fun _ => by simp only [go_sem, tl_map, Sg.get_ext, Sg.get_ext0, List.getElem?_cons_succ, List.getElem?_cons_zero, hx, blCells, blPV]))) ?_
    refine hR _ ?_
    all_goals try simp only [go_sem, tl_map, Sg.get_ext, Sg.get_ext0, List.getElem?_cons_succ, List.getElem?_cons_zero, hx, blCells, blPV]
    all_goals
     first | rfl | (rw [hfst]; done) | (rw [hfst]; rfl)
   try simp only [nrm] at c3
   have hkey : keyOf b = (b.kind, b.voter, b.song) := by simp [keyOf, c3]
   refine W_skip (K12 _ _ ?_)
   refine W_sr [1, 2, 3, 8, 9, 10, 11, 12, 13, 14, 26, 27, 28] fun R hR => ?_
   simp only [go_sem, tl_map, Sg.get_ext, Sg.get_ext0, List.getElem?_cons_succ, List.getElem?_cons_zero, hx, blCells, blPV]
   refine hR _ _ ?_; clear hR R
   try simp only [go_sem, tl_map, Sg.get_ext, Sg.get_ext0, List.getElem?_cons_succ, List.getElem?_cons_zero, hx, blCells, blPV]
   refine W_seq fun Z17 K17 => ?_
   refine W_drawJ [1, 2, 3, 8, 9, 10, 12, 26, 27, 28, 73] [(73, .bool (first l m b))] [0, 1, 2, 3, 4, 5, 6, 7, 8, 9, 10, 11] [] [[], [0], [0, 1], [0, 1, 2], [0, 1, 2, 3], [0, 1, 2], [0, 1, 2], [0, 1, 2, 5, 6], [0, 1, 2, 5, 6, 7], [0, 1, 2, 5, 6, 7, 8], [0, 1, 2, 3, 4, 5, 6, 7, 8, 9], [0, 1, 2, 3, 4, 5, 6, 7, 8, 9, 10]] mixed (by kernel_rfl) ?_ fun R hR => ?_
   ·refine K17 _ _ ?_
    simp only [go_sem, tl_map, Sg.get_ext, Sg.get_ext0, List.getElem?_cons_succ, List.getElem?_cons_zero, hx, blCells, blPV]
    refine W_cond rfl (fun c5 => ?_) (fun c5 => ?_)
    ·
     try simp only [nrm] at c5
     refine W_region [1, 2, 3, 8, 9, 26, 27, 28] fun R hR => ?_
     simp only [go_sem, tl_map, Sg.get_ext, Sg.get_ext0, List.getElem?_cons_succ, List.getElem?_cons_zero, hx, blCells, blPV]
     refine hR _ _ (K7 _ _ ?_); clear hR R; try clear K7 Z7
     try simp only [go_sem, tl_map, Sg.get_ext, Sg.get_ext0, List.getElem?_cons_succ, List.getElem?_cons_zero, hx, blCells, blPV]
     refine W_region [1, 2, 3, 8, 9, 26, 27, 28] fun R hR => ?_
     simp only [go_sem, tl_map, Sg.get_ext, Sg.get_ext0, List.getElem?_cons_succ, List.getElem?_cons_zero, hx, blCells, blPV]
     try simp (disch := omega) only [wrapI, wrapU]
     refine hR _ _ ?_; clear hR R
     try simp only [go_sem, tl_map, Sg.get_ext, Sg.get_ext0, List.getElem?_cons_succ, List.getElem?_cons_zero, hx, blCells, blPV]
     refine ⟨i + 1, ?_, by (try simp only []); omega, ?_⟩
     ·refine Weak.trans (Weak.cutX 4 0 (by omega) (by omega) hcl (by simp only [go_sem, CleanAll_mapV] <;> omega) (by simp only [go_sem] <;> omega)) ?_
      simp only [go_sem]
      exact Weak.eq rfl (by rw [hvs]; unfold vstep; first | (rw [c2, c4, hkey]; rfl) | (rw [c2, c4]; rfl) | (rw [c2, c5, hkey]; rfl) | (rw [c2, c5]; rfl) | (rw [c2]; rfl))
     try dsimp only
     exact hi'
    try simp only [nrm] at c5
    refine W_skip (K7 _ _ ?_)
    refine W_region [1, 2, 3, 8, 9, 26, 27, 28] fun R hR => ?_
    simp only [go_sem, tl_map, Sg.get_ext, Sg.get_ext0, List.getElem?_cons_succ, List.getElem?_cons_zero, hx, blCells, blPV]
    try simp (disch := omega) only [wrapI, wrapU]
    refine hR _ _ ?_; clear hR R
    try simp only [go_sem, tl_map, Sg.get_ext, Sg.get_ext0, List.getElem?_cons_succ, List.getElem?_cons_zero, hx, blCells, blPV]
    refine ⟨i + 1, ?_, by (try simp only []); omega, ?_⟩
    ·refine Weak.trans (Weak.cutX 4 0 (by omega) (by omega) hcl (by simp only [go_sem, CleanAll_mapV] <;> omega) (by simp only [go_sem] <;> omega)) ?_
     simp only [go_sem]
     exact Weak.eq rfl (by rw [hvs]; unfold vstep; first | (rw [c2, c4, hkey]; rfl) | (rw [c2, c4]; rfl) | (rw [c2, c5, hkey]; rfl) | (rw [c2, c5]; rfl) | (rw [c2]; rfl))
    try dsimp only
    exact hi'
   simp only [go_sem, tl_map, Sg.get_ext, Sg.get_ext0, List.getElem?_cons_succ, List.getElem?_cons_zero, hx, blCells, blPV]
   refine GWant_split (fun g2 => ?_) (fun g2 => ?_)
   ·try simp only [Bool.not_eq_true', Bool.not_eq_false'] at g2
    have n2 := g2; try simp only [nrm] at n2
    obtain ⟨kz, hkz⟩ : ∃ z, aget (keyOf b) m = some z := Option.isSome_iff_exists.1 (by rw [hkey]; simpa using g2)
    obtain ⟨kk, o, e1, e2, e3, _⟩ := hpl _ (aget_mem hkz)
    simp only at e1
    subst e1
    have hfst : first l m b = decide (b.serial < o.serial) := by simp [first, hkz, e3]
    rw [hkey] at hkz
    have hkk0 : (0 : Int) ≤ (kk : Int) := by omega
    have hkl : (kk : Int) < (l.length : Int) := by omega
    simp only [go_sem, tl_map, Sg.get_ext, Sg.get_ext0, List.getElem?_cons_succ, List.getElem?_cons_zero, hx, blCells, blPV, hkz, e3, Option.getD_some, Int.toNat_natCast, hkk0, hkl, Option.isSome_some, Bool.not_true, Bool.not_false, g2]
    try refine And.intro (by repeat' (first | refine And.intro ?_ ?_ | exact GOr_right (fun _ => by simp only [go_sem, tl_map, Sg.get_ext, Sg.get_ext0, List.getElem?_cons_succ, List.getElem?_cons_zero, hx, blCells, blPV, hkz, e3, Option.getD_some, Int.toNat_natCast, hkk0, hkl, Option.isSome_some, Bool.not_true, Bool.not_false]))) ?_
    refine hR _ ?_
    all_goals try simp only [go_sem, tl_map, Sg.get_ext, Sg.get_ext0, List.getElem?_cons_succ, List.getElem?_cons_zero, hx, blCells, blPV, hkz, e3, Option.getD_some, Int.toNat_natCast, hkk0, hkl, Option.isSome_some, Bool.not_true, Bool.not_false]
    all_goals
     first | rfl | (rw [hfst]; done) | (rw [hfst]; rfl)
   try simp only [Bool.not_eq_true', Bool.not_eq_false'] at g2
   have n2 := g2; try simp only [nrm] at n2
   have hkn : aget (keyOf b) m = none := by rw [hkey]; simpa using g2
   have hfst : first l m b = true := by simp [first, hkn]
   simp only [go_sem, tl_map, Sg.get_ext, Sg.get_ext0, List.getElem?_cons_succ, List.getElem?_cons_zero, hx, blCells, blPV, g2]
   try refine And.intro (by repeat' (first | refine And.intro ?_ ?_ | exact GOr_right (fun _ => by simp only [go_sem, tl_map, Sg.get_ext, Sg.get_ext0, List.getElem?_cons_succ, List.getElem?_cons_zero, hx, blCells, blPV]))) ?_
   refine hR _ ?_
   all_goals try simp only [go_sem, tl_map, Sg.get_ext, Sg.get_ext0, List.getElem?_cons_succ, List.getElem?_cons_zero, hx, blCells, blPV]
   all_goals
    first | rfl | (rw [hfst]; done) | (rw [hfst]; rfl)
  simp only [go_sem, tl_map, Sg.get_ext, Sg.get_ext0, List.getElem?_cons_succ, List.getElem?_cons_zero, hx, blCells, blPV]
  refine GWant_split (fun g3 => ?_) (fun g3 => ?_)
  ·try simp only [Bool.not_eq_true', Bool.not_eq_false'] at g3
   have n3 := g3; try simp only [nrm] at n3
   simp only [go_sem, tl_map, Sg.get_ext, Sg.get_ext0, List.getElem?_cons_succ, List.getElem?_cons_zero, hx, blCells, blPV, g3]
   refine GCall_of (contains_pc Y _ songs .ro b.song (by omega)) ?_
   simp only [go_sem, tl_map, Sg.get_ext, Sg.get_ext0, List.getElem?_cons_succ, List.getElem?_cons_zero, hx, blCells, blPV, g3]
   refine hR _ ?_
   all_goals try simp only [go_sem, tl_map, Sg.get_ext, Sg.get_ext0, List.getElem?_cons_succ, List.getElem?_cons_zero, hx, blCells, blPV]
   all_goals
    first | rfl | (simp [isIn, *]; done) | (simp_all [isIn]; done)
  try simp only [Bool.not_eq_true', Bool.not_eq_false'] at g3
  have n3 := g3; try simp only [nrm] at n3
  simp only [go_sem, tl_map, Sg.get_ext, Sg.get_ext0, List.getElem?_cons_succ, List.getElem?_cons_zero, hx, blCells, blPV, g3]
  refine hR _ ?_
  all_goals try simp only [go_sem, tl_map, Sg.get_ext, Sg.get_ext0, List.getElem?_cons_succ, List.getElem?_cons_zero, hx, blCells, blPV]
  all_goals
   first | rfl | (simp [isIn, *]; done) | (simp_all [isIn]; done)
 try simp only [nrm] at c1
 have hie : i = l.length := by first | omega | (simp at c1; omega)
 subst hie
 refine W_exit ?_
 simp only [go_sem, tl_map, Sg.get_ext, Sg.get_ext0, List.getElem?_cons_succ, List.getElem?_cons_zero]
 refine K3 _ _ ?_
 refine W_seq fun Z18 K18 => ?_
 refine W_sr [1, 8, 9, 81] fun R hR => ?_
 simp only [go_sem, tl_map, Sg.get_ext, Sg.get_ext0, List.getElem?_cons_succ, List.getElem?_cons_zero]
 refine hR _ _ ?_; clear hR R
 try simp only [go_sem, tl_map, Sg.get_ext, Sg.get_ext0, List.getElem?_cons_succ, List.getElem?_cons_zero]
 refine W_block ?_
 obtain ⟨M, hM⟩ : ∃ z, voices rdn songs l l.length = z := ⟨_, rfl⟩
 have hpl := voices_ok rdn songs l l.length
 have hml := voices_len rdn songs l l.length
 rw [hM] at hpl hml
 simp only [hM]
 refine W_loopT (α := (List Nat)) (fun (seen : List Nat) => []) (fun (seen : List Nat) => σ.ext [some (cnCells c), some zeroTl, some (.mark :: mapE vcPV I M), some (tlCells (σ.store.length + 2) (tlS r songs l M seen)), some [.itst (σ.store.length + 2) M.length seen]] []) (fun (seen : List Nat) => seen.Nodup ∧ ∀ j, j ∈ seen → j < M.length) (fun (seen : List Nat) => M.length - seen.length) ([]) rfl (by first | rfl | (simp only [go_sem]; done) | (simp only [go_sem]; rfl)) (⟨List.nodup_nil, fun j h => absurd h (by simp)⟩) ?_
 rintro seen ⟨hsn, hsl2⟩
 refine W_seq fun Z20 K20 => ?_
 refine W_next [1, 8, 9, 81, 83] (os := _) rfl rfl rfl (by decide) (it_ext (j := 4) (k := 2) rfl rfl mapE_len) (fun K hR hall => ?_) (fun K hR j0 k0 u0 hj0 hns => ?_)
 · -- next: no more
  have hsA := sumR_all (f := cpB) (l := l) (m := M) hsn hsl2 (by simpa [mapE_len] using hall)
  have hsB := sumR_all (f := cvB) (l := l) (m := M) hsn hsl2 (by simpa [mapE_len] using hall)
  have hct : countT r rdn songs l = ⟨r, songs, sumR cpB l M seen, sumR cvB l M seen, M⟩ := by unfold countT; rw [hM, hsA, hsB]
  simp only [go_sem, tl_map, Sg.get_ext, Sg.get_ext0, List.getElem?_cons_succ, List.getElem?_cons_zero]
  refine hR _ _ (K20 _ _ ?_); clear hR K
  try simp only [go_sem, tl_map, Sg.get_ext, Sg.get_ext0, List.getElem?_cons_succ, List.getElem?_cons_zero]
  refine W_seq fun Z21 K21 => ?_
  refine W_cond_false rfl ?_
  refine W_exit ?_
  simp only [go_sem, tl_map, Sg.get_ext, Sg.get_ext0, List.getElem?_cons_succ, List.getElem?_cons_zero]
  refine K18 _ _ ?_
  refine W_sr [8] fun R hR => ?_
  simp only [go_sem, tl_map, Sg.get_ext, Sg.get_ext0, List.getElem?_cons_succ, List.getElem?_cons_zero, tlCells, zeroTl]
  refine hR _ _ ?_; clear hR R
  try simp only [go_sem, tl_map, Sg.get_ext, Sg.get_ext0, List.getElem?_cons_succ, List.getElem?_cons_zero]
  refine W_weak (?_ : Weak _ _ _ _ [(8, .ptr (σ.store.length + 1) 0)] (σ.ext [some (.mark :: mapE vcPV I M), some (tlCells (σ.store.length + 0) ⟨r, songs, sumR cpB l M seen, sumR cvB l M seen, M⟩)] [])) ?_
  ·refine Weak.ren [2, 1] (by decide) (by simp) (by first | omega | (simp only [go_sem] <;> omega)) hcl (RnE.get ⟨rfl, .ptr 1 1 _ _ _ rfl rfl rfl, trivial⟩) ⟨⟨_, rfl, .inl ⟨?_, rfl⟩⟩, ⟨_, rfl, .inr ⟨by simp, rn_tl (k := 2) (i := 0) ⟨r, songs, sumR cpB l M seen, sumR cvB l M seen, M⟩ rfl⟩⟩, trivial⟩
   simp only [go_sem]
  simp only [tlCells, Nat.add_zero]
  refine W_ret ?_
  simp only [go_sem, tl_map, Sg.get_ext, Sg.get_ext0, List.getElem?_cons_succ, List.getElem?_cons_zero]
  refine ⟨.inr (by trivial), ?_⟩
  rw [hct, hM]
  refine Fin_ext (l := [_, _]) (rm := []) 1 0 hcl (by show resPV Tryz.prog _ _ [.cell 8 86] = some _; simp only [resPV, go_sem]; rfl) (Wk_eq ?_ (by simp only [go_sem] <;> omega)) ?_
  try simp only [go_sem]
  all_goals
   first | rfl | (show CleanLs _ _ _ _; simp only [go_sem] <;> omega)
 -- next: one more
 obtain ⟨e, he, rfl, rfl⟩ := mapE_get hj0
 obtain ⟨ky, kz⟩ := e
 obtain ⟨kk, o, e1, e2, e3, e4, e5⟩ := hpl _ (List.mem_of_getElem? he)
 simp only at e1 e4
 subst e1
 have hent : entB l M j0 = some o := by simp [entB, he, e3]
 have hbo := hbv o (List.mem_of_getElem? e3)
 obtain ⟨sn, hsn2⟩ : ∃ z : Nat, o.song = z := ⟨o.song.toNat, by omega⟩
 have hs8 : sn < 8 := by omega
 have hs8i : (sn : Int) < 8 := by omega
 have hs12 : decide (12 + sn ≤ 20) = true := by simp; omega
 have hs4 : decide (4 + sn ≤ 20) = true := by simp; omega
 have hsn' : (seen ++ [j0]).Nodup := by
  rw [List.nodup_append]
  exact ⟨hsn, by simp, fun x hx y hy e => hns (by simp at hy; rw [← hy, ← e]; exact hx)⟩
 have hsl' : ∀ j, j ∈ seen ++ [j0] → j < M.length := fun j hj => by
  rcases List.mem_append.1 hj with h | h
  ·exact hsl2 j h
  simp at h
  rw [h]
  exact (List.getElem?_eq_some_iff.1 he).1
 have hln : (seen ++ [j0]).length = seen.length + 1 := by simp
 have hjl' := nodup_len hsn' hsl'
 have hjl := nodup_len hsn hsl2
 have hbd1 : 0 ≤ (tlS r songs l M seen).vts sn ∧ (tlS r songs l M seen).vts sn ≤ 300 := by
  have := sumB_bd (f := cvB sn) (l := l) (m := M) (c := 1) (by omega) (fun b _ => by unfold cvB; split <;> omega) seen
  exact ⟨this.1, Int.le_trans this.2 (by omega)⟩
 have hbd2 : 0 ≤ (tlS r songs l M seen).pts sn ∧ (tlS r songs l M seen).pts sn ≤ 30000 := by
  have := sumB_bd (f := cpB sn) (l := l) (m := M) (c := 100) (by omega) (fun b hb => by have := hbv b hb; unfold cpB; split <;> omega) seen
  exact ⟨this.1, Int.le_trans this.2 (by omega)⟩
 have hw1 : IntKind.i64.wrap ((tlS r songs l M seen).vts sn + 1) = (tlS r songs l M seen).vts sn + 1 := wrapI (by omega) (by omega)
 have hw2 : IntKind.i64.wrap ((tlS r songs l M seen).pts sn + o.points) = (tlS r songs l M seen).pts sn + o.points := wrapI (by omega) (by omega)
 simp only [go_sem, tl_map, Sg.get_ext, Sg.get_ext0, List.getElem?_cons_succ, List.getElem?_cons_zero, e3, hsn2]
 refine hR _ _ (K20 _ _ ?_); clear hR K
 try simp only [go_sem, tl_map, Sg.get_ext, Sg.get_ext0, List.getElem?_cons_succ, List.getElem?_cons_zero, e3, hsn2]
 refine W_seq fun Z23 K23 => ?_
 refine W_cond_true rfl ?_
 refine W_skip (K23 _ _ ?_)
 refine W_block ?_
 refine W_sr [1, 8, 9, 16, 81] fun R hR => ?_
 simp only [go_sem, tl_map, Sg.get_ext, Sg.get_ext0, List.getElem?_cons_succ, List.getElem?_cons_zero, e3, hsn2, entryPV, iterAt, mapE_len, List.getLast?_concat, mapE_at he]
 refine hR _ _ ?_; clear hR R
 try simp only [go_sem, tl_map, Sg.get_ext, Sg.get_ext0, List.getElem?_cons_succ, List.getElem?_cons_zero, e3, hsn2]
 refine W_sr [1, 8, 9, 17, 81] fun R hR => ?_
 simp only [go_sem, tl_map, Sg.get_ext, Sg.get_ext0, List.getElem?_cons_succ, List.getElem?_cons_zero, e3, hsn2]
 refine hR _ _ ?_; clear hR R
 try simp only [go_sem, tl_map, Sg.get_ext, Sg.get_ext0, List.getElem?_cons_succ, List.getElem?_cons_zero, e3, hsn2]
 refine W_sr [1, 8, 9, 17, 81, 92] fun R hR => ?_
 simp only [go_sem, tl_map, Sg.get_ext, Sg.get_ext0, List.getElem?_cons_succ, List.getElem?_cons_zero, e3, hsn2]
 refine hR _ _ ?_; clear hR R
 try simp only [go_sem, tl_map, Sg.get_ext, Sg.get_ext0, List.getElem?_cons_succ, List.getElem?_cons_zero, e3, hsn2]
 refine W_cond rfl (fun c6 => ?_) (fun c6 => ?_)
 ·
  try simp only [nrm] at c6
  have hst : ({ tlS r songs l M seen with vts := upd (tlS r songs l M seen).vts sn ((tlS r songs l M seen).vts sn + 1) } : Tally) = tlS r songs l M (seen ++ [j0]) := by unfold tlS; rw [sumR_same hent (cpB_member c6), sumR_hit hent (cvB_member hsn2 c6)]
  refine W_region [1, 8, 9, 81] fun R hR => ?_
  simp only [go_sem, tl_map, Sg.get_ext, Sg.get_ext0, List.getElem?_cons_succ, List.getElem?_cons_zero, e3, hsn2, hs8i, Nat.mul_one, tl_vts hs8, hw1, tl_setV hs8, tl_len, hs12]
  try simp (disch := omega) only [wrapI, wrapU]
  refine hR _ _ ?_; clear hR R
  try simp only [go_sem, tl_map, Sg.get_ext, Sg.get_ext0, List.getElem?_cons_succ, List.getElem?_cons_zero, e3, hsn2]
  refine ⟨seen ++ [j0], ?_, by (try simp only []); omega, ?_⟩
  ·refine Weak.trans (Weak.cutX 5 0 (by omega) (by omega) hcl (by simp only [go_sem, CleanAll_mapV] <;> omega) (by simp only [go_sem] <;> omega)) ?_
   simp only [go_sem]
   exact Weak.eq rfl (by rw [hst])
  try dsimp only
  exact ⟨hsn', hsl'⟩
 try simp only [nrm] at c6
 have hst : ({ tlS r songs l M seen with pts := upd (tlS r songs l M seen).pts sn ((tlS r songs l M seen).pts sn + o.points) } : Tally) = tlS r songs l M (seen ++ [j0]) := by unfold tlS; rw [sumR_same hent (cvB_jury c6), sumR_hit hent (cpB_jury hsn2 c6)]
 refine W_draw [1, 8, 9, 81] [0, 1, 2, 3, 4, 5, 6, 7, 8, 9, 10, 11, 12] [] [[], [0], [], [2], [0, 1, 2, 3], [0, 1, 2, 3, 4], [], [6], [0, 1, 2, 3, 4, 5, 6, 7], [], [9], [0, 1, 2, 3, 4, 5, 6, 7, 8, 9, 10], [0, 1, 2, 3, 4, 5, 6, 7, 8, 9, 10, 11]] mixed (by kernel_rfl) fun R hR => ?_
 simp only [go_sem, tl_map, Sg.get_ext, Sg.get_ext0, List.getElem?_cons_succ, List.getElem?_cons_zero, e3, hsn2, hs8i, Nat.mul_one, tl_pts hs8, hw2, tl_setP hs8, tl_len, hs4]
 try simp (disch := omega) only [wrapI, wrapU]
 try refine And.intro (by repeat' (first | refine And.intro ?_ ?_ | exact GOr_right (fun _ => by simp only [go_sem, tl_map, Sg.get_ext, Sg.get_ext0, List.getElem?_cons_succ, List.getElem?_cons_zero, e3, hsn2, hs8i, Nat.mul_one, tl_pts hs8, hw2, tl_setP hs8, tl_len, hs4]))) ?_
 refine hR _ _ ?_; clear hR R
 try simp only [go_sem, tl_map, Sg.get_ext, Sg.get_ext0, List.getElem?_cons_succ, List.getElem?_cons_zero, e3, hsn2]
 refine ⟨seen ++ [j0], ?_, by (try simp only []); omega, ?_⟩
 ·refine Weak.trans (Weak.cutX 5 0 (by omega) (by omega) hcl (by simp only [go_sem, CleanAll_mapV] <;> omega) (by simp only [go_sem] <;> omega)) ?_
  simp only [go_sem]
  exact Weak.eq rfl (by rw [hst])
 try dsimp only
 exact ⟨hsn', hsl'⟩
def lays189_ren : Go.Shelf.Ren := ⟨fun | 189 => 75 | 125 => 91 | 257 => 90 | 128 => 112 | 129 => 113 | 294 => 103 | 295 => 104 | 296 => 105 | 297 => 106 | 298 => 107 | 299 => 108 | 216 => 109 | 300 => 110 | 301 => 111 | 328 => 135 | 329 => 136 | 330 => 137 | 331 => 138 | 332 => 139 | 215 => 102 | 343 => 155 | n => n, fun | 28 => 42 | 3 => 3 | 46 => 141 | 0 => 0 | 51 => 168 | 53 => 110 | 4 => 4 | 183 => 161 | 182 => 160 | 131 => 144 | 5 => 5 | 9 => 9 | 218 => 189 | 222 => 192 | 228 => 205 | 229 => 206 | n => n, fun n => n⟩
theorem lays189 : Lays.n189 Tryz.prog lays189_ren where
 mixed := by kernel_rfl
 f125 := Tryz.func91.trans (congrArg some (by kernel_rfl))
 f128 := Tryz.func112.trans (congrArg some (by kernel_rfl))
 f129 := Tryz.func113.trans (congrArg some (by kernel_rfl))
 f189 := Tryz.func75.trans (congrArg some (by kernel_rfl))
 f215 := Tryz.func102.trans (congrArg some (by kernel_rfl))
 f216 := Tryz.func109.trans (congrArg some (by kernel_rfl))
 f257 := Tryz.func90.trans (congrArg some (by kernel_rfl))
 f294 := Tryz.func103.trans (congrArg some (by kernel_rfl))
 f295 := Tryz.func104.trans (congrArg some (by kernel_rfl))
 f296 := Tryz.func105.trans (congrArg some (by kernel_rfl))
 f297 := Tryz.func106.trans (congrArg some (by kernel_rfl))
 f298 := Tryz.func107.trans (congrArg some (by kernel_rfl))
 f299 := Tryz.func108.trans (congrArg some (by kernel_rfl))
 f300 := Tryz.func110.trans (congrArg some (by kernel_rfl))
 f301 := Tryz.func111.trans (congrArg some (by kernel_rfl))
 f328 := Tryz.func135.trans (congrArg some (by kernel_rfl))
 f329 := Tryz.func136.trans (congrArg some (by kernel_rfl))
 f330 := Tryz.func137.trans (congrArg some (by kernel_rfl))
 f331 := Tryz.func138.trans (congrArg some (by kernel_rfl))
 f332 := Tryz.func139.trans (congrArg some (by kernel_rfl))
 f343 := Tryz.func155.trans (congrArg some (by kernel_rfl))
 t0 := Tryz.underlying0
 a0 := Tryz.isAgg0
 z0 := Tryz.sizeOf0
 v0 := Tryz.zeroValue0
 t3 := Tryz.underlying3
 a3 := Tryz.isAgg3
 z3 := Tryz.sizeOf3
 v3 := Tryz.zeroValue3
 t4 := Tryz.underlying4
 a4 := Tryz.isAgg4
 z4 := Tryz.sizeOf4
 v4 := Tryz.zeroValue4
 t5 := Tryz.underlying5
 a5 := Tryz.isAgg5
 z5 := Tryz.sizeOf5
 v5 := Tryz.zeroValue5
 t9 := Tryz.underlying9
 a9 := Tryz.isAgg9
 z9 := Tryz.sizeOf9
 v9 := Tryz.zeroValue9
 t28 := Tryz.underlying42
 a28 := Tryz.isAgg42
 z28 := Tryz.sizeOf42
 v28 := Tryz.zeroValue42
 t46 := Tryz.underlying141
 a46 := Tryz.isAgg141
 z46 := Tryz.sizeOf141
 v46 := Tryz.zeroValue141
 t51 := Tryz.underlying168
 a51 := Tryz.isAgg168
 z51 := Tryz.sizeOf168
 v51 := Tryz.zeroValue168
 t53 := Tryz.underlying110
 a53 := Tryz.isAgg110
 z53 := Tryz.sizeOf110
 v53 := Tryz.zeroValue110
 t131 := Tryz.underlying144
 a131 := Tryz.isAgg144
 z131 := Tryz.sizeOf144
 v131 := Tryz.zeroValue144
 t182 := Tryz.underlying160
 a182 := Tryz.isAgg160
 z182 := Tryz.sizeOf160
 v182 := Tryz.zeroValue160
 t183 := Tryz.underlying161
 a183 := Tryz.isAgg161
 z183 := Tryz.sizeOf161
 v183 := Tryz.zeroValue161
 t218 := Tryz.underlying189
 a218 := Tryz.isAgg189
 z218 := Tryz.sizeOf189
 v218 := Tryz.zeroValue189
 t222 := Tryz.underlying192
 a222 := Tryz.isAgg192
 z222 := Tryz.sizeOf192
 v222 := Tryz.zeroValue192
 t228 := Tryz.underlying205
 a228 := Tryz.isAgg205
 z228 := Tryz.sizeOf205
 v228 := Tryz.zeroValue205
 t229 := Tryz.underlying206
 a229 := Tryz.isAgg206
 z229 := Tryz.sizeOf206
 v229 := Tryz.zeroValue206
def lays125_ren : Go.Shelf.Ren := ⟨fun | 125 => 91 | 128 => 112 | 129 => 113 | n => n, fun | 46 => 141 | 3 => 3 | 51 => 168 | 53 => 110 | 4 => 4 | 5 => 5 | 9 => 9 | n => n, fun n => n⟩
theorem lays125 : Lays.n125 Tryz.prog lays125_ren where
 mixed := by kernel_rfl
 f125 := Tryz.func91.trans (congrArg some (by kernel_rfl))
 f128 := Tryz.func112.trans (congrArg some (by kernel_rfl))
 f129 := Tryz.func113.trans (congrArg some (by kernel_rfl))
 t3 := Tryz.underlying3
 a3 := Tryz.isAgg3
 z3 := Tryz.sizeOf3
 v3 := Tryz.zeroValue3
 t4 := Tryz.underlying4
 a4 := Tryz.isAgg4
 z4 := Tryz.sizeOf4
 v4 := Tryz.zeroValue4
 t5 := Tryz.underlying5
 a5 := Tryz.isAgg5
 z5 := Tryz.sizeOf5
 v5 := Tryz.zeroValue5
 t9 := Tryz.underlying9
 a9 := Tryz.isAgg9
 z9 := Tryz.sizeOf9
 v9 := Tryz.zeroValue9
 t46 := Tryz.underlying141
 a46 := Tryz.isAgg141
 z46 := Tryz.sizeOf141
 v46 := Tryz.zeroValue141
 t51 := Tryz.underlying168
 a51 := Tryz.isAgg168
 z51 := Tryz.sizeOf168
 v51 := Tryz.zeroValue168
 t53 := Tryz.underlying110
 a53 := Tryz.isAgg110
 z53 := Tryz.sizeOf110
 v53 := Tryz.zeroValue110
theorem sortsI : SortsI Tryz.prog 75 := ⟨by kernel_rfl, Any.slices_Sort_int_none lays189, Any.slices_Sort_int lays189⟩
theorem bitsLen_pc (Y : YEnv) (σ : Sg) (x : Int) (h0 : 0 ≤ x) (h1 : x ≤ 18446744073709551615) : PC Tryz.prog Y 91 [.int .u64 x] σ (.int .i64 (Lib.bitLen x.toNat)) σ := by
 refine PC_of_calls (by kernel_rfl) fun Ψ vals w hs ha => ?_
 obtain ⟨v, rfl⟩ : ∃ v, vals = #[v] := by
  have := ha.1
  match vals, this with
  | ⟨[v]⟩, _ => exact ⟨v, rfl⟩
 have hx := (ha.2 0 _ _ rfl rfl).int_inv
 subst hx
 refine (Any.bits_Len lays125 x w h0 h1).mono ?_
 rintro e w' ⟨rfl, rfl⟩
 exact ⟨_, Ψ, rfl, Ty.le.refl _, hs, .int _ _, Below.refl _ _⟩
theorem row4_cons (x : Std) (l : List Std) : rowC ((x :: l).map sdPV) = I x.song :: I x.points :: I x.votes :: I x.score :: rowC (l.map sdPV) := by simp [rowC, sdPV, sdCells]
theorem row4_len : ∀ l : List Std, (rowC (l.map sdPV)).length = l.length * 4 := by
 intro l
 induction l with
 | nil => rfl
 | cons x l ih => rw [row4_cons]; simp only [List.length_cons, ih]; omega
theorem row4_ld : ∀ {l : List Std} {j : Nat} {x : Std}, l[j]? = some x → ((rowC (l.map sdPV)).drop (j * 4)).take 4 = [I x.song, I x.points, I x.votes, I x.score] := by
 intro l
 induction l with
 | nil => intro j x h; simp at h
 | cons y l ih =>
  intro j x h
  rw [row4_cons]
  cases j with
  | zero =>
   simp only [List.getElem?_cons_zero, Option.some.injEq] at h
   subst h
   simp
  | succ j =>
   simp only [List.getElem?_cons_succ] at h
   rw [show (j + 1) * 4 = j * 4 + 1 + 1 + 1 + 1 by omega]
   simp only [List.drop_succ_cons]
   exact ih h
theorem row4_put (x : Std) : ∀ {l : List Std} {j : Nat}, j < l.length → ((((rowC (l.map sdPV)).set (j * 4) (I x.song)).set (j * 4 + 1) (I x.points)).set (j * 4 + 1 + 1) (I x.votes)).set (j * 4 + 1 + 1 + 1) (I x.score) = rowC ((l.set j x).map sdPV) := by
 intro l
 induction l with
 | nil => intro j h; simp at h
 | cons y l ih =>
  intro j h
  rw [row4_cons]
  cases j with
  | zero =>
   have e : (y :: l).set 0 x = x :: l := rfl
   rw [e, row4_cons]; simp
  | succ j =>
   rw [List.set_cons_succ, row4_cons, show (j + 1) * 4 = j * 4 + 1 + 1 + 1 + 1 by omega]
   simp only [List.set_cons_succ]
   rw [ih (by simpa using h)]
theorem cA_row4 {a b c : Nat} {l : List Std} : CleanAll a b c (rowC (l.map sdPV)) = True := eq_true fun p hp => by
 simp only [rowC, List.mem_flatMap, List.mem_map] at hp
 obtain ⟨q, ⟨x, _, rfl⟩, hp⟩ := hp
 exact cleans_sd x p hp
attribute [go_sem] cA_row4
theorem ld4 {σ : Sg} {id : Nat} (hlt : id < σ.store.length) {l : List Std} {j : Nat} {x : Std} (h : l[j]? = some x) : ldA 4 (σ.setVar id (rowC (l.map sdPV))) id (j * 4) = some (.agg [I x.song, I x.points, I x.votes, I x.score]) := by
 have hj := (List.getElem?_eq_some_iff.1 h).1
 rw [ldA_at (sv_get hlt), if_pos (by rw [row4_len]; omega), row4_ld h]
theorem tl_take3 {id : Nat} {t : Tally} : List.take 3 (tlCells id t) = rdCells t.rd := rfl
/-- A tally that may be. -/
structure TlB (t : Tally) : Prop where
 pb : ∀ s, 0 ≤ t.pts s ∧ t.pts s ≤ 2 ^ 20
 vb : ∀ s, 0 ≤ t.vts s ∧ t.vts s ≤ 2 ^ 20
 wj : 0 ≤ t.rd.jury ∧ t.rd.jury ≤ 1000
 wm : 0 ≤ t.rd.member ∧ t.rd.member ≤ 1000
 kp : 1 ≤ t.rd.keep ∧ t.rd.keep ≤ t.songs.length
 sl : t.songs.length ≤ 8
 sg : ∀ s, s ∈ t.songs → 0 ≤ s ∧ s < 8
set_option maxHeartbeats 4000000 in
theorem standing_pc (Y : YEnv) (σ : Sg) (id : Nat) (t : Tally) (hT : TlB t) (s : Nat) (hs : s < 8) (p v : Int) (hp : -2 ^ 20 ≤ p ∧ p ≤ 2 ^ 20) (hv : -2 ^ 20 ≤ v ∧ v ≤ 2 ^ 20) :
 PC Tryz.prog Y 72 [tlPV id t, I s, I p, I v] σ (sdPV (stdT t s p v)) (σ) := by
 refine PC_of_W Tryz.func72 rfl (by kernel_rfl) Tryz.ntmps72 (by simp) fun hcl hca => ?_
 have hs8i : (s : Int) < 8 := by omega
 have hp1 := hT.pb s
 have hv1 := hT.vb s
 have hw1 : IntKind.i64.wrap (t.pts s + p) = t.pts s + p := wrapI (by omega) (by omega)
 have hw2 : IntKind.i64.wrap (t.vts s + v) = t.vts s + v := wrapI (by omega) (by omega)
 have hwj := hT.wj
 have hwm := hT.wm
 refine W_sr [1, 2, 3, 4, 8] fun R hR => ?_
 simp only [go_sem, hs8i, Nat.mul_one, tl_pts hs, tl_vts hs, hw1, hw2, tlPV]
 refine hR _ _ ?_; clear hR R
 try simp only [go_sem, hs8i, Nat.mul_one, tl_pts hs, tl_vts hs, hw1, hw2]
 refine W_seq fun Z2 K2 => ?_
 refine W_draw [8] [0, 1, 2, 3, 4, 5, 6, 7, 8, 9, 10, 11, 12, 13, 14, 15, 16, 17, 18, 19] [] [[], [], [], [2], [1, 2, 3], [1, 2, 3, 4], [], [1, 2, 3, 4, 5, 6], [], [], [9], [8, 9, 10], [8, 9, 10, 11], [], [8, 9, 10, 11, 12, 13], [0, 1, 2, 3, 4, 5, 6, 7, 8, 9, 10, 11, 12, 13, 14], [], [16], [0, 1, 2, 3, 4, 5, 6, 7, 8, 9, 10, 11, 12, 13, 14, 15, 16, 17], [0, 1, 2, 3, 4, 5, 6, 7, 8, 9, 10, 11, 12, 13, 14, 15, 16, 17, 18]] mixed (by kernel_rfl) fun R hR => ?_
 simp only [go_sem, hs8i, Nat.mul_one, tl_pts hs, tl_vts hs, hw1, hw2, tl_len, tl_take3]
 try simp (disch := omega) only [wrapI, wrapU]
 refine GCall_of (weigh_pc Y _ ⟨s, t.pts s + p, t.vts s + v, 0⟩ t.rd (by omega) (by omega) (by simp only; omega) (by simp only; omega)) ?_
 simp only [go_sem, hs8i, Nat.mul_one, tl_pts hs, tl_vts hs, hw1, hw2, tl_len, tl_take3]
 try simp (disch := omega) only [wrapI, wrapU]
 try refine And.intro (by repeat' (first | refine And.intro ?_ ?_ | exact GOr_right (fun _ => by simp only [go_sem, hs8i, Nat.mul_one, tl_pts hs, tl_vts hs, hw1, hw2, tl_len, tl_take3]))) ?_
 refine hR _ _ (K2 _ _ ?_); clear hR R; try clear K2 Z2
 try simp only [go_sem, hs8i, Nat.mul_one, tl_pts hs, tl_vts hs, hw1, hw2]
 refine W_ret ?_
 simp only [go_sem, hs8i, Nat.mul_one, tl_pts hs, tl_vts hs, hw1, hw2]
 refine ⟨.inr (by trivial), ?_⟩
 first | refine Fin_same hcl (by show resPV Tryz.prog _ _ [.cell 8 131] = some _; simp only [resPV, go_sem]; rfl) (Wk_eq ?_ (by simp only [go_sem])) | refine Fin_same hcl rfl (Wk_eq ?_ (by simp only [go_sem]))
 try simp only [go_sem]
 all_goals
  first | rfl | (simp [stdT]; done) | (simp only [stdT, Int.toNat_natCast]; rfl)
set_option maxHeartbeats 4000000 in
theorem insSort_pc (Y : YEnv) (σ : Sg) (id : Nat) (l : List Std) (hd : σ.store[id]? = some (some (rowC (l.map sdPV)))) (hl : 0 < l.length ∧ l.length ≤ 12) :
    PC Tryz.prog Y 127 [.gsl id l.length 4, I 0, I l.length, .func (.func 74) [] []] σ (.tuple []) (σ.setVar id (rowC ((sortSd l).map sdPV))) := by
  refine PC_of_W Tryz.func127 rfl (by kernel_rfl) Tryz.ntmps127 (by simp) fun hcl hca => ?_
  have hlt := lt_of_get hd
  obtain ⟨res, hres⟩ : ∃ r, sortSd l = r := ⟨_, rfl⟩
  rw [hres]
  obtain ⟨n, hn⟩ : ∃ z, l.length = z := ⟨_, rfl⟩
  rw [hn] at hl ⊢
  refine W_sr [0, 1, 2, 3, 8] fun R hR => ?_
  simp only [go_sem, ldS_at hd, stX_at hd, ldS_sv hlt, stX_sv hlt, sv_ext hlt, sv_ext_sv hlt]
  try simp (disch := omega) only [wrapI, wrapU]
  refine hR _ _ ?_; clear hR R
  try simp only [go_sem, ldS_at hd, stX_at hd, ldS_sv hlt, stX_sv hlt, sv_ext hlt, sv_ext_sv hlt]
  refine W_block ?_
  refine W_loopT (α := Nat × (List Std)) (fun ⟨i, m⟩ => [(8, I i)]) (fun ⟨i, m⟩ => σ.setVar id (rowC (m.map sdPV))) (fun ⟨i, m⟩ => 1 ≤ i ∧ i ≤ n ∧ m.length = n ∧ (∀ x, x ∈ m → x ∈ l) ∧ res = sinkAll (n - i) i m) (fun ⟨i, m⟩ => n - i) ((1, l)) rfl (by show σ.setVar id _ = σ; exact sv_self hd) (⟨Nat.le_refl _, by omega, hn, fun x hx => hx, by rw [← hres, sortSd, hn]⟩) ?_
  rintro ⟨i, m⟩ ⟨hi1, hi, hml, hmm, hinv⟩
  refine W_seq fun Z2 K2 => ?_
  refine W_sr [0, 1, 2, 3, 8, 14] fun R hR => ?_
  simp only [go_sem, ldS_at hd, stX_at hd, ldS_sv hlt, stX_sv hlt, sv_ext hlt, sv_ext_sv hlt]
  refine hR _ _ ?_; clear hR R
  try simp only [go_sem, ldS_at hd, stX_at hd, ldS_sv hlt, stX_sv hlt, sv_ext hlt, sv_ext_sv hlt]
  refine W_cond rfl (fun c1 => ?_) (fun c1 => ?_)
  ·
    try simp only [nrm] at c1
    have hin : i < n := by first | omega | (simp at c1; omega)
    rw [show n - i = (n - (i + 1)) + 1 by omega] at hinv
    simp only [sinkAll] at hinv
    refine W_skip (K2 _ _ ?_)
    refine W_seq fun Z4 K4 => ?_
    refine W_block ?_
    refine W_sr [0, 1, 2, 3, 8, 9] fun R hR => ?_
    simp only [go_sem, ldS_at hd, stX_at hd, ldS_sv hlt, stX_sv hlt, sv_ext hlt, sv_ext_sv hlt]
    refine hR _ _ ?_; clear hR R
    try simp only [go_sem, ldS_at hd, stX_at hd, ldS_sv hlt, stX_sv hlt, sv_ext hlt, sv_ext_sv hlt]
    refine W_block ?_
    refine W_loopT (α := Nat × (List Std)) (fun ⟨j, m2⟩ => [(9, I j)]) (fun ⟨j, m2⟩ => σ.setVar id (rowC (m2.map sdPV))) (fun ⟨j, m2⟩ => j ≤ i ∧ m2.length = n ∧ (∀ x, x ∈ m2 → x ∈ l) ∧ sink i m = sink j m2) (fun ⟨j, m2⟩ => j) ((i, m)) rfl (by first | rfl | (simp only [go_sem]; done) | (simp only [go_sem]; rfl)) (⟨Nat.le_refl _, hml, hmm, rfl⟩) ?_
    rintro ⟨j, m2⟩ ⟨hj, hm2l, hm2, hsk⟩
    refine W_seq fun Z6 K6 => ?_
    refine W_seq fun Z7 K7 => ?_
    refine W_draw [0, 1, 2, 3, 8, 9, 34] [0, 1, 2, 3, 4, 5, 6, 7, 8, 9, 10, 11, 12, 13, 14, 15, 16] [] [[], [], [0, 1], [0, 1, 2], [0, 1, 2, 3], [0, 1, 2, 3], [0, 1, 2, 3], [0, 1, 2, 3, 5, 6], [0, 1, 2, 3, 5, 6, 7], [0, 1, 2, 3], [0, 1, 2, 3], [0, 1, 2, 3, 10], [0, 1, 2, 3, 9, 10, 11], [0, 1, 2, 3, 9, 10, 11, 12], [0, 1, 2, 3, 4, 5, 6, 7, 8, 9, 10, 11, 12, 13], [0, 1, 2, 3, 4, 5, 6, 7, 8, 9, 10, 11, 12, 13, 14], [0, 1, 2, 3, 4, 5, 6, 7, 8, 9, 10, 11, 12, 13, 14, 15]] mixed (by kernel_rfl) fun R hR => ?_
    simp only [go_sem, ldS_at hd, stX_at hd, ldS_sv hlt, stX_sv hlt, sv_ext hlt, sv_ext_sv hlt]
    refine GWant_split (fun g1 => ?_) (fun g1 => ?_)
    · try simp only [Bool.not_eq_true', Bool.not_eq_false'] at g1
      have n1 := g1; try simp only [nrm] at n1
      obtain ⟨q, rfl⟩ : ∃ q, j = q + 1 := ⟨j - 1, by first | omega | (simp at g1; omega)⟩
      obtain ⟨x, hx⟩ : ∃ z, m2[q + 1]? = some z := ⟨m2[q + 1]'(by omega), by simp⟩
      obtain ⟨y, hy⟩ : ∃ z, m2[q]? = some z := ⟨m2[q]'(by omega), by simp⟩
      have hsk2 : sink (q + 1) m2 = if aheadS x y < 0 then sink q ((m2.set (q + 1) y).set q x) else m2 := by simp only [sink, hx, hy]
      have hq1 : ((q + 1 : Nat) : Int) < (n : Int) := by omega
      have hq0 : ((q : Nat) : Int) < (n : Int) := by omega
      have hz1 : (0 : Int) ≤ ((q + 1 : Nat) : Int) := by omega
      have hqw : IntKind.i64.wrap (((q + 1 : Nat) : Int) - 1) = (q : Int) := by rw [wrapI (by omega) (by omega)]; omega
      have l1 := ld4 hlt hx
      have l2 := ld4 hlt hy
      have s1 : decide ((q + 1) * 4 + 4 ≤ (rowC (List.map sdPV m2)).length) = true := by rw [row4_len]; simp; omega
      have s2 : decide (q * 4 + 4 ≤ (rowC (List.map sdPV (m2.set (q + 1) y))).length) = true := by rw [row4_len]; simp; omega
      have s3 := row4_put y (l := m2) (j := q + 1) (by omega)
      have s4 := row4_put x (l := m2.set (q + 1) y) (j := q) (by simp; omega)
      simp only [go_sem, ldS_at hd, stX_at hd, ldS_sv hlt, stX_sv hlt, sv_ext hlt, sv_ext_sv hlt, hqw, hq1, hq0, iaM_nat (Int.ofNat_lt.1 hq1), iaM_nat (Int.ofNat_lt.1 hq0), Nat.zero_add, l1, l2, s1, s2, s3, s4, g1]
      try simp (disch := omega) only [wrapI, wrapU]
      refine GCall_of (ahead_pc Y _ x y) ?_
      simp only [go_sem, ldS_at hd, stX_at hd, ldS_sv hlt, stX_sv hlt, sv_ext hlt, sv_ext_sv hlt, hqw, hq1, hq0, iaM_nat (Int.ofNat_lt.1 hq1), iaM_nat (Int.ofNat_lt.1 hq0), Nat.zero_add, l1, l2, s1, s2, s3, s4, g1]
      try simp (disch := omega) only [wrapI, wrapU]
      try refine And.intro (by repeat' (first | refine And.intro ?_ ?_ | exact GOr_right (fun _ => by simp only [go_sem, ldS_at hd, stX_at hd, ldS_sv hlt, stX_sv hlt, sv_ext hlt, sv_ext_sv hlt, hqw, hq1, hq0, iaM_nat (Int.ofNat_lt.1 hq1), iaM_nat (Int.ofNat_lt.1 hq0), Nat.zero_add, l1, l2, s1, s2, s3, s4]))) ?_
      refine hR _ _ (K7 _ _ ?_); clear hR R; try clear K7 Z7
      try simp only [go_sem, ldS_at hd, stX_at hd, ldS_sv hlt, stX_sv hlt, sv_ext hlt, sv_ext_sv hlt, hqw, hq1, hq0, iaM_nat (Int.ofNat_lt.1 hq1), iaM_nat (Int.ofNat_lt.1 hq0), Nat.zero_add, l1, l2, s1, s2, s3, s4]
      refine W_cond rfl (fun c2 => ?_) (fun c2 => ?_)
      ·
        try simp only [nrm] at c2
        skip
        refine W_skip (K6 _ _ ?_)
        refine W_seq fun Z8 K8 => ?_
        refine W_block ?_
        refine W_draw [0, 1, 2, 3, 8, 9] [0, 1, 2, 3, 4, 5, 6, 7, 8, 9, 10, 11, 12, 13, 14, 15, 16, 17] [(2, 17), (3, 17), (4, 17)] [[], [], [], [], [3], [], [], [6], [5, 6, 7], [5, 6, 7, 8], [], [], [10, 11], [10, 11, 12], [0, 1, 5, 6, 7, 8, 9, 10, 11, 12, 13], [0, 1, 5, 6, 7, 8, 9, 10, 11, 12, 13, 14], [0, 1, 2, 3, 4, 5, 6, 7, 8, 9, 10, 11, 12, 13, 14, 15], [0, 1, 2, 3, 4, 5, 6, 7, 8, 9, 10, 11, 12, 13, 14, 15, 16]] mixed (by kernel_rfl) fun R hR => ?_
        simp only [go_sem, ldS_at hd, stX_at hd, ldS_sv hlt, stX_sv hlt, sv_ext hlt, sv_ext_sv hlt, hqw, hq1, hq0, iaM_nat (Int.ofNat_lt.1 hq1), iaM_nat (Int.ofNat_lt.1 hq0), Nat.zero_add, l1, l2, s1, s2, s3, s4]
        try simp (disch := omega) only [wrapI, wrapU]
        try refine And.intro (by repeat' (first | refine And.intro ?_ ?_ | exact GOr_right (fun _ => by simp only [go_sem, ldS_at hd, stX_at hd, ldS_sv hlt, stX_sv hlt, sv_ext hlt, sv_ext_sv hlt, hqw, hq1, hq0, iaM_nat (Int.ofNat_lt.1 hq1), iaM_nat (Int.ofNat_lt.1 hq0), Nat.zero_add, l1, l2, s1, s2, s3, s4]))) ?_
        refine hR _ _ (K8 _ _ ?_); clear hR R; try clear K8 Z8
        try simp only [go_sem, ldS_at hd, stX_at hd, ldS_sv hlt, stX_sv hlt, sv_ext hlt, sv_ext_sv hlt, hqw, hq1, hq0, iaM_nat (Int.ofNat_lt.1 hq1), iaM_nat (Int.ofNat_lt.1 hq0), Nat.zero_add, l1, l2, s1, s2, s3, s4]
        refine W_region [0, 1, 2, 3, 8, 9] fun R hR => ?_
        simp only [go_sem, ldS_at hd, stX_at hd, ldS_sv hlt, stX_sv hlt, sv_ext hlt, sv_ext_sv hlt, hqw, hq1, hq0, iaM_nat (Int.ofNat_lt.1 hq1), iaM_nat (Int.ofNat_lt.1 hq0), Nat.zero_add, l1, l2, s1, s2, s3, s4]
        try simp (disch := omega) only [wrapI, wrapU]
        refine hR _ _ ?_; clear hR R
        try simp only [go_sem, ldS_at hd, stX_at hd, ldS_sv hlt, stX_sv hlt, sv_ext hlt, sv_ext_sv hlt, hqw, hq1, hq0, iaM_nat (Int.ofNat_lt.1 hq1), iaM_nat (Int.ofNat_lt.1 hq0), Nat.zero_add, l1, l2, s1, s2, s3, s4]
        refine ⟨(q, (m2.set (q + 1) y).set q x), ?_, by (try simp only []); omega, ?_⟩
        · first | exact Weak.refl | exact Wqq
        · try dsimp only
          refine ⟨by omega, by simp [hm2l], fun z hz => hm2 z (mem_set2 hx hy hz), ?_⟩
          rw [hsk, hsk2, if_pos (by simpa using c2)]
      ·
        try simp only [nrm] at c2
        skip
        refine W_exit ?_
        simp only [go_sem, ldS_at hd, stX_at hd, ldS_sv hlt, stX_sv hlt, sv_ext hlt, sv_ext_sv hlt, hqw, hq1, hq0, iaM_nat (Int.ofNat_lt.1 hq1), iaM_nat (Int.ofNat_lt.1 hq0), Nat.zero_add, l1, l2, s1, s2, s3, s4]
        refine K4 _ _ ?_
        refine W_region [0, 1, 2, 3, 8] fun R hR => ?_
        simp only [go_sem, ldS_at hd, stX_at hd, ldS_sv hlt, stX_sv hlt, sv_ext hlt, sv_ext_sv hlt, hqw, hq1, hq0, iaM_nat (Int.ofNat_lt.1 hq1), iaM_nat (Int.ofNat_lt.1 hq0), Nat.zero_add, l1, l2, s1, s2, s3, s4]
        try simp (disch := omega) only [wrapI, wrapU]
        refine hR _ _ ?_; clear hR R
        try simp only [go_sem, ldS_at hd, stX_at hd, ldS_sv hlt, stX_sv hlt, sv_ext hlt, sv_ext_sv hlt, hqw, hq1, hq0, iaM_nat (Int.ofNat_lt.1 hq1), iaM_nat (Int.ofNat_lt.1 hq0), Nat.zero_add, l1, l2, s1, s2, s3, s4]
        refine ⟨(i + 1, m2), ?_, by (try simp only []); omega, ?_⟩
        · first | exact Weak.refl | exact Wqq
        · try dsimp only
          refine ⟨by omega, by omega, hm2l, hm2, ?_⟩
          rw [hinv, hsk]
          first
          | rw [hsk2, if_neg (by simpa using c2)]
          | (have hj0 : j = 0 := by first | omega | (simp at g1; omega)
             subst hj0; rfl)
    · try simp only [Bool.not_eq_true', Bool.not_eq_false'] at g1
      have n1 := g1; try simp only [nrm] at n1
      simp only [go_sem, ldS_at hd, stX_at hd, ldS_sv hlt, stX_sv hlt, sv_ext hlt, sv_ext_sv hlt, g1]
      try simp (disch := omega) only [wrapI, wrapU]
      try refine And.intro (by repeat' (first | refine And.intro ?_ ?_ | exact GOr_right (fun _ => by simp only [go_sem, ldS_at hd, stX_at hd, ldS_sv hlt, stX_sv hlt, sv_ext hlt, sv_ext_sv hlt]))) ?_
      refine hR _ _ (K7 _ _ ?_); clear hR R; try clear K7 Z7
      try simp only [go_sem, ldS_at hd, stX_at hd, ldS_sv hlt, stX_sv hlt, sv_ext hlt, sv_ext_sv hlt]
      refine W_cond_false rfl ?_
      refine W_exit ?_
      simp only [go_sem, ldS_at hd, stX_at hd, ldS_sv hlt, stX_sv hlt, sv_ext hlt, sv_ext_sv hlt]
      refine K4 _ _ ?_
      refine W_region [0, 1, 2, 3, 8] fun R hR => ?_
      simp only [go_sem, ldS_at hd, stX_at hd, ldS_sv hlt, stX_sv hlt, sv_ext hlt, sv_ext_sv hlt]
      try simp (disch := omega) only [wrapI, wrapU]
      refine hR _ _ ?_; clear hR R
      try simp only [go_sem, ldS_at hd, stX_at hd, ldS_sv hlt, stX_sv hlt, sv_ext hlt, sv_ext_sv hlt]
      refine ⟨(i + 1, m2), ?_, by (try simp only []); omega, ?_⟩
      · first | exact Weak.refl | exact Wqq
      · try dsimp only
        refine ⟨by omega, by omega, hm2l, hm2, ?_⟩
        rw [hinv, hsk]
        first
        | rw [hsk2, if_neg (by simpa using c2)]
        | (have hj0 : j = 0 := by first | omega | (simp at g1; omega)
           subst hj0; rfl)
  ·
    try simp only [nrm] at c1
    have hie : n = i := by first | omega | (simp at c1; omega)
    subst hie
    rw [Nat.sub_self] at hinv
    simp only [sinkAll] at hinv
    subst hinv
    refine W_exit ?_
    simp only [go_sem, ldS_at hd, stX_at hd, ldS_sv hlt, stX_sv hlt, sv_ext hlt, sv_ext_sv hlt]
    try simp only [go_sem, ldS_at hd, stX_at hd, ldS_sv hlt, stX_sv hlt, sv_ext hlt, sv_ext_sv hlt]
    refine ⟨.inl (by trivial), ?_⟩
    first | refine Fin_set hcl (by simp only [go_sem]) rfl (Wk_eq ?_ (by simp only [go_sem])) | refine Fin_set0 hcl (by simp only [go_sem]) rfl (Wk_eq ?_ (by simp only [go_sem]))
    try simp only [go_sem]
    all_goals
      skip
set_option maxHeartbeats 2000000 in
theorem pdqSort_pc (Y : YEnv) (σ : Sg) (id : Nat) (l : List Std) (hd : σ.store[id]? = some (some (rowC (l.map sdPV)))) (hl : 0 < l.length ∧ l.length ≤ 12) (lim : Int) :
 PC Tryz.prog Y 101 [.gsl id l.length 4, I 0, I l.length, I lim, .func (.func 74) [] []] σ (.tuple []) (σ.setVar id (rowC ((sortSd l).map sdPV))) := by
 refine PC_of_W Tryz.func101 rfl (by kernel_rfl) Tryz.ntmps101 (by simp) fun hcl hca => ?_
 have hlt := lt_of_get hd
 have hl2 : (l.length : Int) ≤ 12 := by omega
 refine W_sr [0, 1, 2, 3, 4, 10] fun R hR => ?_
 simp only [go_sem, ldS_at hd, stX_at hd, ldS_sv hlt, stX_sv hlt, sv_ext hlt, sv_ext_sv hlt]
 refine hR _ _ ?_; clear hR R
 try simp only [go_sem, ldS_at hd, stX_at hd, ldS_sv hlt, stX_sv hlt, sv_ext hlt, sv_ext_sv hlt]
 refine W_sr [0, 1, 2, 3, 4, 10, 11] fun R hR => ?_
 simp only [go_sem, ldS_at hd, stX_at hd, ldS_sv hlt, stX_sv hlt, sv_ext hlt, sv_ext_sv hlt]
 refine hR _ _ ?_; clear hR R
 try simp only [go_sem, ldS_at hd, stX_at hd, ldS_sv hlt, stX_sv hlt, sv_ext hlt, sv_ext_sv hlt]
 refine W_block ?_
 refine W_loopS (α := Nat) (fun (z : Nat) => []) (fun (z : Nat) => True) (fun (z : Nat) => 0) (0) rfl (trivial) ?_
 rintro z _
 refine W_block ?_
 refine W_sr [0, 1, 2, 3, 4, 10, 11, 12] fun R hR => ?_
 simp only [go_sem, ldS_at hd, stX_at hd, ldS_sv hlt, stX_sv hlt, sv_ext hlt, sv_ext_sv hlt]
 try simp (disch := omega) only [wrapI, wrapU]
 refine hR _ _ ?_; clear hR R
 try simp only [go_sem, ldS_at hd, stX_at hd, ldS_sv hlt, stX_sv hlt, sv_ext hlt, sv_ext_sv hlt]
 refine W_seq fun Z4 K4 => ?_
 refine W_sr [0, 1, 2, 3, 4, 10, 11, 12, 25] fun R hR => ?_
 simp only [go_sem, ldS_at hd, stX_at hd, ldS_sv hlt, stX_sv hlt, sv_ext hlt, sv_ext_sv hlt]
 refine hR _ _ ?_; clear hR R
 try simp only [go_sem, ldS_at hd, stX_at hd, ldS_sv hlt, stX_sv hlt, sv_ext hlt, sv_ext_sv hlt]
 refine W_cond rfl (fun c1 => ?_) (fun c1 => ?_)
 ·
  try simp only [nrm] at c1
  refine W_sr [] fun R hR => ?_
  simp only [go_sem, ldS_at hd, stX_at hd, ldS_sv hlt, stX_sv hlt, sv_ext hlt, sv_ext_sv hlt]
  refine GCall_of (insSort_pc Y _ id l hd hl) ?_
  simp only [go_sem, ldS_at hd, stX_at hd, ldS_sv hlt, stX_sv hlt, sv_ext hlt, sv_ext_sv hlt]
  refine hR _ _ ?_; clear hR R
  try simp only [go_sem, ldS_at hd, stX_at hd, ldS_sv hlt, stX_sv hlt, sv_ext hlt, sv_ext_sv hlt]
  refine W_ret ?_
  simp only [go_sem, ldS_at hd, stX_at hd, ldS_sv hlt, stX_sv hlt, sv_ext hlt, sv_ext_sv hlt]
  refine ⟨.inr (by trivial), ?_⟩
  first | refine Fin_set hcl (by simp only [go_sem]) rfl (Wk_eq ?_ (by simp only [go_sem])) | refine Fin_set0 hcl (by simp only [go_sem]) rfl (Wk_eq ?_ (by simp only [go_sem]))
  try simp only [go_sem]
  all_goals
   skip
 try simp only [nrm] at c1
 exfalso
 first | omega | (simp at c1; omega)
set_option maxHeartbeats 2000000 in
theorem sortFunc_pc (Y : YEnv) (σ : Sg) (id : Nat) (l : List Std) (hd : σ.store[id]? = some (some (rowC (l.map sdPV)))) (hl : 0 < l.length ∧ l.length ≤ 12) :
 PC Tryz.prog Y 87 [.gsl id l.length 4, .func (.func 74) [] []] σ (.tuple []) (σ.setVar id (rowC ((sortSd l).map sdPV))) := by
 refine PC_of_W Tryz.func87 rfl (by kernel_rfl) Tryz.ntmps87 (by simp) fun hcl hca => ?_
 have hlt := lt_of_get hd
 refine W_sr [0, 1, 4] fun R hR => ?_
 simp only [go_sem, ldS_at hd, stX_at hd, ldS_sv hlt, stX_sv hlt, sv_ext hlt, sv_ext_sv hlt]
 refine hR _ _ ?_; clear hR R
 try simp only [go_sem, ldS_at hd, stX_at hd, ldS_sv hlt, stX_sv hlt, sv_ext hlt, sv_ext_sv hlt]
 refine W_region [] fun R hR => ?_
 simp only [go_sem, ldS_at hd, stX_at hd, ldS_sv hlt, stX_sv hlt, sv_ext hlt, sv_ext_sv hlt]
 try simp (disch := omega) only [wrapI, wrapU]
 refine GCall_of (bitsLen_pc Y _ l.length (by omega) (by omega)) ?_
 simp only [go_sem, ldS_at hd, stX_at hd, ldS_sv hlt, stX_sv hlt, sv_ext hlt, sv_ext_sv hlt]
 try simp (disch := omega) only [wrapI, wrapU]
 refine GCall_of (pdqSort_pc Y _ id l hd hl _) ?_
 simp only [go_sem, ldS_at hd, stX_at hd, ldS_sv hlt, stX_sv hlt, sv_ext hlt, sv_ext_sv hlt]
 try simp (disch := omega) only [wrapI, wrapU]
 refine hR _ _ ?_; clear hR R
 try simp only [go_sem, ldS_at hd, stX_at hd, ldS_sv hlt, stX_sv hlt, sv_ext hlt, sv_ext_sv hlt]
 try simp only [go_sem, ldS_at hd, stX_at hd, ldS_sv hlt, stX_sv hlt, sv_ext hlt, sv_ext_sv hlt]
 refine ⟨.inl (by trivial), ?_⟩
 first | refine Fin_set hcl (by simp only [go_sem]) rfl (Wk_eq ?_ (by simp only [go_sem])) | refine Fin_set0 hcl (by simp only [go_sem]) rfl (Wk_eq ?_ (by simp only [go_sem]))
 try simp only [go_sem]
 all_goals
  skip
set_option maxHeartbeats 2000000 in
theorem CloneS_pc (Y : YEnv) (σ : Sg) (l : List Std) (o : Own) (hl : 0 < l.length ∧ l.length ≤ 12) :
 PC Tryz.prog Y 86 [.isl (l.map sdPV) o] σ (.gsl σ.store.length l.length 4) (σ.ext [some (rowC (l.map sdPV))] []) := by
 refine PC_of_W Tryz.func86 rfl (by kernel_rfl) Tryz.ntmps86 (by simp) fun hcl hca => ?_
 have hne : l ≠ [] := by intro e; subst e; simp at hl
 refine W_sr [0] fun R hR => ?_
 simp only [go_sem]
 refine hR _ _ ?_; clear hR R
 try simp only [go_sem]
 refine W_seq fun Z2 K2 => ?_
 refine W_seq fun Z3 K3 => ?_
 refine W_isnil [0, 4] (by decide) (by decide) rfl Tryz.underlying129 fun bn hbn => ?_
 refine K3 _ _ ?_
 try simp only [go_sem]
 refine W_cond rfl (fun c1 => ?_) (fun c1 => ?_)
 ·exact absurd (by simpa using hbn c1) hne
 refine W_skip (K2 _ _ ?_)
 refine W_seq fun Z4 K4 => ?_
 refine W_regionN [2] 2 fun R hR => ?_
 simp only [GLw, go_sem]
 refine ⟨_, _, Weak.gnil (t := 5) (by simp only [go_sem]), ?_⟩
 simp only [go_sem]
 rw [appG_nil (by simp [PV.cells, PV.scalar, sdPV, sdCells]) (by simpa using hl.1) (by simp; omega)]
 simp only [go_sem]
 refine hR _ _ (K4 _ _ ?_); clear hR R; try clear K4 Z4
 try simp only [go_sem]
 refine W_ret ?_
 simp only [go_sem]
 refine ⟨.inr (by trivial), ?_⟩
 refine Fin_ext (σ := σ) (l := [some (rowC (l.map sdPV))]) (rm := []) 1 0 hcl rfl (Wk_eq rfl (by simp only [go_sem] <;> omega)) (by show CleanLs _ _ _ _; simp only [go_sem])
set_option maxHeartbeats 2000000 in
theorem sorted_pc (Y : YEnv) (σ : Sg) (l : List Std) (o : Own) (hl : 0 < l.length ∧ l.length ≤ 12) :
 PC Tryz.prog Y 73 [.isl (l.map sdPV) o, .func (.func 74) [] []] σ (sds (sortSd l)) (σ) := by
 refine PC_of_W Tryz.func73 rfl (by kernel_rfl) Tryz.ntmps73 (by simp) fun hcl hca => ?_
 refine W_sr [0, 1] fun R hR => ?_
 simp only [go_sem]
 refine hR _ _ ?_; clear hR R
 try simp only [go_sem]
 refine W_sr [0, 1] fun R hR => ?_
 simp only [go_sem]
 refine GCall_of (CloneS_pc Y _ l o hl) ?_
 simp only [go_sem]
 refine hR _ _ ?_; clear hR R
 try simp only [go_sem]
 refine W_sr [0] fun R hR => ?_
 simp only [go_sem]
 refine GCall_of (sortFunc_pc Y _ σ.store.length l (Sg.get_ext0 ..) hl) ?_
 simp only [go_sem]
 refine hR _ _ ?_; clear hR R
 try simp only [go_sem]
 refine W_seq fun Z4 K4 => ?_
 refine W_weak (Weak.freeze (t := 0) (id := σ.store.length) (len := l.length) (es := 4) (l := (sortSd l).map sdPV) rfl (Sg.get_ext0 ..) (by simp [sortSd_len]) (fun q hq => by obtain ⟨x, _, rfl⟩ := List.mem_map.1 hq; rfl)) ?_
 simp only [go_sem]
 refine W_region [4] fun R hR => ?_
 simp only [go_sem]
 refine hR _ _ (K4 _ _ ?_); clear hR R; try clear K4 Z4
 try simp only [go_sem]
 refine W_ret ?_
 simp only [go_sem]
 refine ⟨.inr (by trivial), ?_⟩
 first | refine Fsa hcl rfl ?_ | refine Fse hcl rfl ?_
 try simp only [go_sem]
 all_goals
  first | rfl | simp only [go_sem]
/-- Numbers that grow in a cell: in one variable. -/
def glK (n : Nat) : List Int → PV
 | [] => .gnil
 | k :: ks => .gsl n (ks.length + 1) 1
def gsK : List Int → List (Option (List PV))
 | [] => []
 | k :: ks => [some (I k :: ks.map I)]
theorem glK_nil {n : Nat} : glK n [] = .gnil := rfl
theorem glK_cons {n : Nat} {k : Int} {ks : List Int} : glK n (k :: ks) = .gsl n (ks.length + 1) 1 := rfl
theorem gsK_nil : gsK [] = [] := rfl
theorem gsK_cons {k : Int} {ks : List Int} : gsK (k :: ks) = [some (I k :: ks.map I)] := rfl
theorem appG1_nil {σ : Sg} {l : List (Option (List PV))} {rm : List Nat} {ys : List LState} {x : Int} : appG 1 8 (σ.ext l rm ys) .gnil [.int .i64 x] = some (.gsl (σ.store.length + l.length) 1 1, σ.ext (l ++ [some [.int .i64 x]]) rm ys) := by
 rw [appG_nil (by rfl) (by simp) (by simp), Sg.push_ext, Sg.len_ext]; rfl
theorem appG1_4 {σ : Sg} {a b c : Option (List PV)} {r : List (Option (List PV))} {rm : List Nat} {ys : List LState} {x k : Int} {ks : List Int} (hb : ks.length ≤ 2 ^ 20) : appG 1 8 (σ.ext (a :: b :: c :: some (I k :: ks.map I) :: r) rm ys) (.gsl (σ.store.length + 3) (ks.length + 1) 1) [.int .i64 x] = some (.gsl (σ.store.length + (r.length + 4)) (ks.length + 2) 1, σ.ext (a :: b :: c :: none :: (r ++ [some (I k :: (ks ++ [x]).map I)])) rm ys) := by
 rw [appG_more (cs := I k :: ks.map I) (by rw [Sg.get_ext]; rfl) (by simp) (by rfl) (by simp) (by simp; omega), Sg.drop_ext, Sg.push_ext, Sg.len_ext]
 simp [rowC]
theorem tl_take21 {id : Nat} {t : Tally} : List.take 21 (tlCells id t) = tlCells id t := rfl
def zeroRs : List PV := [.isl [] .exact, .isl [] .exact, .isl [] .exact, .isl [] .exact, .isl [] .exact]
theorem cleans_zr {a b c : Nat} : CleanAll a b c zeroRs = True := by simp only [zeroRs, go_sem]
attribute [go_sem] cleans_zr
set_option maxHeartbeats 8000000 in
theorem result_pc (Y : YEnv) (σ : Sg) (id : Nat) (t : Tally) (hT : TlB t) :
 PC Tryz.prog Y 38 [tlPV id t] σ (rsPV (resT t)) (σ) := by
 refine PC_of_W Tryz.func38 rfl (by kernel_rfl) Tryz.ntmps38 (by simp) fun hcl hca => ?_
 have hid : id < σ.store.length := by
  have := hca (tlPV id t) (by simp)
  exact C_tl.mp this
 have hsl := hT.sl
 have hkp := hT.kp
 obtain ⟨A, hA⟩ : ∃ z, allT t = z := ⟨_, rfl⟩
 have hAl : A.length = t.songs.length := by rw [← hA]; simp [allT]
 obtain ⟨kn, hkn⟩ : ∃ z : Nat, t.rd.keep = z := ⟨t.rd.keep.toNat, by omega⟩
 refine W_sr [1, 2] fun R hR => ?_
 simp only [go_sem, glK_nil, glK_cons, gsK_nil, gsK_cons, List.cons_append, List.nil_append, tlPV]
 refine hR _ _ ?_; clear hR R
 try simp only [go_sem, glK_nil, glK_cons, gsK_nil, gsK_cons, List.cons_append, List.nil_append]
 refine W_sr [1, 2, 3] fun R hR => ?_
 simp only [go_sem, glK_nil, glK_cons, gsK_nil, gsK_cons, List.cons_append, List.nil_append]
 refine hR _ _ ?_; clear hR R
 try simp only [go_sem, glK_nil, glK_cons, gsK_nil, gsK_cons, List.cons_append, List.nil_append]
 refine W_seq fun Z3 K3 => ?_
 refine W_weak (Weak.eq (σ' := σ.ext [some (tlCells id t), some zeroRs, some zeroRs] []) rfl rfl) ?_
 refine W_region [1, 2, 3, 4] fun R hR => ?_
 simp only [go_sem, glK_nil, glK_cons, gsK_nil, gsK_cons, List.cons_append, List.nil_append]
 refine hR _ _ (K3 _ _ ?_); clear hR R; try clear K3 Z3
 try simp only [go_sem, glK_nil, glK_cons, gsK_nil, gsK_cons, List.cons_append, List.nil_append]
 refine W_seq fun Z4 K4 => ?_
 refine W_sr [1, 2, 3, 4, 11, 12, 13] fun R hR => ?_
 simp only [go_sem, glK_nil, glK_cons, gsK_nil, gsK_cons, List.cons_append, List.nil_append, tl_songs]
 refine hR _ _ ?_; clear hR R
 try simp only [go_sem, glK_nil, glK_cons, gsK_nil, gsK_cons, List.cons_append, List.nil_append]
 refine W_block ?_
 simp only [zeroRs]
 refine W_weak (Weak.roomX (j := 2) (off := 0) (es := 1) rfl rfl (by simp)) ?_
 simp only [go_sem, glK_nil, glK_cons, gsK_nil, gsK_cons, List.cons_append, List.nil_append]
 refine W_weak (Weak.roomX (j := 2) (off := 1) (es := 1) rfl rfl (by simp)) ?_
 simp only [go_sem, glK_nil, glK_cons, gsK_nil, gsK_cons, List.cons_append, List.nil_append]
 refine W_weak (Weak.roomX (j := 2) (off := 2) (es := 1) rfl rfl (by simp)) ?_
 simp only [go_sem, glK_nil, glK_cons, gsK_nil, gsK_cons, List.cons_append, List.nil_append]
 refine W_weak (Weak.roomX (j := 2) (off := 3) (es := 1) rfl rfl (by simp)) ?_
 simp only [go_sem, glK_nil, glK_cons, gsK_nil, gsK_cons, List.cons_append, List.nil_append]
 refine W_weak (Weak.room (t := 4) (es := 4) rfl (by simp)) ?_
 refine W_weak (Weak.keep [1, 2, 3, 4, 11, 12, 13]) ?_
 simp only [go_sem, glK_nil, glK_cons, gsK_nil, gsK_cons, List.cons_append, List.nil_append]
 refine W_loopT (α := Nat) (fun (i : Nat) => [(4, .isl ((A.take i).map sdPV) (.tok (σ.rooms.length + 4) i 4)), (13, I i)]) (fun (i : Nat) => σ.ext [some (tlCells id t), some zeroRs, some [.isl ((t.songs.take i).map I) (.tok σ.rooms.length i 1), .isl (((A.take i).map (·.points)).map I) (.tok (σ.rooms.length + 1) i 1), .isl (((A.take i).map (·.votes)).map I) (.tok (σ.rooms.length + 2) i 1), .isl (((A.take i).map (·.score)).map I) (.tok (σ.rooms.length + 3) i 1), .isl [] .exact]] [i, i, i, i, i]) (fun (i : Nat) => i ≤ t.songs.length) (fun (i : Nat) => t.songs.length - i) (0) rfl (by first | rfl | (simp only [go_sem]; done) | (simp only [go_sem]; rfl)) (Nat.zero_le _) ?_
 rintro i hi
 refine W_sr [1, 2, 3, 4, 11, 12, 13, 14] fun R hR => ?_
 simp only [go_sem, glK_nil, glK_cons, gsK_nil, gsK_cons, List.cons_append, List.nil_append]
 refine hR _ _ ?_; clear hR R
 try simp only [go_sem, glK_nil, glK_cons, gsK_nil, gsK_cons, List.cons_append, List.nil_append]
 refine W_seq fun Z7 K7 => ?_
 refine W_cond rfl (fun c1 => ?_) (fun c1 => ?_)
 ·
  try simp only [nrm] at c1
  have hi' : i < t.songs.length := by first | assumption | omega
  obtain ⟨s, hx⟩ : ∃ s, t.songs[i]? = some s := ⟨t.songs[i], by simp [hi']⟩
  have hdrop : t.songs.drop i = s :: t.songs.drop (i + 1) := by
   rw [List.drop_eq_getElem_cons hi']; congr 1; exact (List.getElem?_eq_some_iff.1 hx).2
  have hsb := hT.sg s (List.mem_of_getElem? hx)
  obtain ⟨sn, rfl⟩ : ∃ z : Nat, s = z := ⟨s.toNat, by omega⟩
  have hs8 : sn < 8 := by omega
  have hxA : A[i]? = some (stdT t sn 0 0) := by rw [← hA]; simp [allT, hx]
  have hS1 : t.songs.take (i + 1) = t.songs.take i ++ [(sn : Int)] := by rw [List.take_add_one, hx]; rfl
  have hA1 : A.take (i + 1) = A.take i ++ [stdT t sn 0 0] := by rw [List.take_add_one, hxA]; rfl
  have hil : i + 1 < 100 := by omega
  have htl1 : (t.songs.take i).length = i := by rw [List.length_take]; omega
  have htl2 : (A.take i).length = i := by rw [List.length_take]; omega
  refine W_skip (K7 _ _ ?_)
  refine W_seq fun Z8 K8 => ?_
  refine W_block ?_
  refine W_sr [1, 2, 3, 4, 6, 11, 12, 13] fun R hR => ?_
  simp only [go_sem, glK_nil, glK_cons, gsK_nil, gsK_cons, List.cons_append, List.nil_append, hx]
  refine hR _ _ ?_; clear hR R
  try simp only [go_sem, glK_nil, glK_cons, gsK_nil, gsK_cons, List.cons_append, List.nil_append, hx]
  refine W_sr [1, 2, 3, 4, 6, 7, 11, 12, 13] fun R hR => ?_
  simp only [go_sem, glK_nil, glK_cons, gsK_nil, gsK_cons, List.cons_append, List.nil_append, hx, tlPV, tl_len, tl_take21]
  refine GCall_of (standing_pc Y _ id t hT sn hs8 0 0 (by omega) (by omega)) ?_
  simp only [go_sem, glK_nil, glK_cons, gsK_nil, gsK_cons, List.cons_append, List.nil_append, hx, tlPV, tl_len, tl_take21]
  refine hR _ _ ?_; clear hR R
  try simp only [go_sem, glK_nil, glK_cons, gsK_nil, gsK_cons, List.cons_append, List.nil_append, hx]
  refine W_sr [1, 2, 3, 4, 6, 7, 11, 12, 13] fun R hR => ?_
  simp only [go_sem, glK_nil, glK_cons, gsK_nil, gsK_cons, List.cons_append, List.nil_append, hx]
  try simp (disch := first | omega | (simp only [go_sem] <;> omega)) only [wrapI, wrapU, appX_exact, appX_tok]
  try simp only [go_sem, glK_nil, glK_cons, gsK_nil, gsK_cons, List.cons_append, List.nil_append, hx]
  refine hR _ _ ?_; clear hR R
  try simp only [go_sem, glK_nil, glK_cons, gsK_nil, gsK_cons, List.cons_append, List.nil_append, hx]
  refine W_draw [1, 2, 3, 4, 11, 12, 13] [0, 1, 2, 3, 4, 5, 6, 7, 8, 9, 10, 11, 12, 13, 14, 15, 16, 17, 18, 19, 20, 21, 22, 23, 24, 25, 26, 27, 28, 29, 30] [(5, 4), (6, 4), (7, 4), (8, 4), (9, 4), (11, 4), (11, 10), (12, 4), (12, 10), (13, 4), (13, 10), (14, 4), (14, 10), (15, 4), (15, 10), (17, 4), (17, 10), (17, 16), (18, 4), (18, 10), (18, 16), (19, 4), (19, 10), (19, 16), (20, 4), (20, 10), (20, 16), (21, 4), (21, 10), (21, 16), (23, 10), (23, 16), (23, 22)] [[], [0], [], [2], [0, 1, 2, 3], [], [5], [], [7], [7, 8], [0, 1, 2, 3, 4, 5, 6, 7, 8, 9], [], [11], [], [13], [13, 14], [0, 1, 2, 3, 4, 5, 6, 7, 8, 9, 10, 11, 12, 13, 14, 15], [], [17], [], [19], [19, 20], [0, 1, 2, 3, 4, 5, 6, 7, 8, 9, 10, 11, 12, 13, 14, 15, 16, 17, 18, 19, 20, 21], [0, 1, 2, 3, 4, 5, 6, 11, 12, 17, 18], [0, 1, 2, 3, 4, 5, 6, 7, 8, 9, 10, 11, 12, 13, 14, 15, 16, 17, 18, 19, 20, 21, 22, 23], [0, 1, 2, 3, 4, 5, 6, 7, 8, 9, 10, 11, 12, 13, 14, 15, 16, 17, 18, 19, 20, 21, 22, 23, 24], [0, 1, 2, 3, 4, 5, 6, 7, 8, 9, 10, 11, 12, 13, 14, 15, 16, 17, 18, 19, 20, 21, 22, 23, 24, 25], [0, 1, 2, 3, 4, 5, 6, 7, 8, 9, 10, 11, 12, 13, 14, 15, 16, 17, 18, 19, 20, 21, 22, 23, 24, 25, 26], [0, 1, 2, 3, 4, 5, 6, 7, 8, 9, 10, 11, 12, 13, 14, 15, 16, 17, 18, 19, 20, 21, 22, 23, 24, 25, 26, 27], [0, 1, 2, 3, 4, 5, 6, 7, 8, 9, 10, 11, 12, 13, 14, 15, 16, 17, 18, 19, 20, 21, 22, 23, 24, 25, 26, 27, 28], [0, 1, 2, 3, 4, 5, 6, 7, 8, 9, 10, 11, 12, 13, 14, 15, 16, 17, 18, 19, 20, 21, 22, 23, 24, 25, 26, 27, 28, 29]] mixed (by kernel_rfl) fun R hR => ?_
  simp only [go_sem, glK_nil, glK_cons, gsK_nil, gsK_cons, List.cons_append, List.nil_append, hx]
  try simp (disch := first | omega | (simp only [go_sem] <;> omega)) only [wrapI, wrapU, appX_exact, appX_tok]
  try simp only [go_sem, glK_nil, glK_cons, gsK_nil, gsK_cons, List.cons_append, List.nil_append, hx]
  try simp (disch := first | omega | (simp only [go_sem] <;> omega)) only [wrapI, wrapU, appX_exact, appX_tok]
  try simp only [go_sem, glK_nil, glK_cons, gsK_nil, gsK_cons, List.cons_append, List.nil_append, hx]
  try simp (disch := first | omega | (simp only [go_sem] <;> omega)) only [wrapI, wrapU, appX_exact, appX_tok]
  try simp only [go_sem, glK_nil, glK_cons, gsK_nil, gsK_cons, List.cons_append, List.nil_append, hx]
  try simp (disch := first | omega | (simp only [go_sem] <;> omega)) only [wrapI, wrapU, appX_exact, appX_tok]
  try simp only [go_sem, glK_nil, glK_cons, gsK_nil, gsK_cons, List.cons_append, List.nil_append, hx]
  try refine And.intro (by repeat' (first | refine And.intro ?_ ?_ | exact GOr_right (fun _ => by simp only [go_sem, glK_nil, glK_cons, gsK_nil, gsK_cons, List.cons_append, List.nil_append, hx]))) ?_
  refine hR _ _ (K8 _ _ ?_); clear hR R; try clear K8 Z8
  try simp only [go_sem, glK_nil, glK_cons, gsK_nil, gsK_cons, List.cons_append, List.nil_append, hx]
  refine W_region [1, 2, 3, 4, 11, 12, 13] fun R hR => ?_
  simp only [go_sem, glK_nil, glK_cons, gsK_nil, gsK_cons, List.cons_append, List.nil_append, hx]
  try simp (disch := omega) only [wrapI, wrapU]
  refine hR _ _ ?_; clear hR R
  try simp only [go_sem, glK_nil, glK_cons, gsK_nil, gsK_cons, List.cons_append, List.nil_append, hx]
  refine ⟨i + 1, ?_, by (try simp only []); omega, ?_⟩
  ·refine Weak.trans (Weak.cutX 3 5 (by omega) (by omega) hcl (by simp only [go_sem] <;> omega) (by simp only [go_sem] <;> omega)) ?_
   simp only [go_sem]
   exact Weak.eq (by rw [hA1]; simp only [List.map_append, List.map_cons, List.map_nil]; first | done | rfl) (by rw [hS1, hA1]; simp only [List.map_append, List.map_cons, List.map_nil]; first | done | rfl)
  try dsimp only
  exact hi'
 try simp only [nrm] at c1
 have hie : i = t.songs.length := by first | omega | (simp at c1; omega)
 subst hie
 have hS2 : t.songs.take t.songs.length = t.songs := List.take_length
 have hA2 : A.take t.songs.length = A := by rw [← hAl]; exact List.take_length
 simp only [hS2, hA2]
 refine W_exit ?_
 simp only [go_sem, glK_nil, glK_cons, gsK_nil, gsK_cons, List.cons_append, List.nil_append]
 refine K4 _ _ ?_
 refine W_seq fun Z12 K12 => ?_
 refine W_seq fun Z13 K13 => ?_
 have hk0 : (0 : Int) ≤ (kn : Int) := by omega
 have hkl : kn ≤ (sortSd A).length := by rw [sortSd_len]; omega
 refine W_draw [2, 3, 57, 58, 59] [0, 1, 2, 3, 4, 5, 6, 7] [(2, 1), (3, 1), (4, 1), (7, 1)] [[], [0], [], [2], [2, 3], [0, 1, 2, 3, 4], [0, 1, 2, 3, 4, 5], []] mixed (by kernel_rfl) fun R hR => ?_
 simp only [go_sem, glK_nil, glK_cons, gsK_nil, gsK_cons, List.cons_append, List.nil_append, tl_keep, hkn, hk0, hkl, Int.toNat_natCast]
 refine GCall_of (sorted_pc Y _ A _ (by omega)) ?_
 simp only [go_sem, glK_nil, glK_cons, gsK_nil, gsK_cons, List.cons_append, List.nil_append, tl_keep, hkn, hk0, hkl, Int.toNat_natCast]
 try refine And.intro (by repeat' (first | refine And.intro ?_ ?_ | exact GOr_right (fun _ => by simp only [go_sem, glK_nil, glK_cons, gsK_nil, gsK_cons, List.cons_append, List.nil_append, tl_keep, hkn, hk0, hkl, Int.toNat_natCast]))) ?_
 refine hR _ _ (K13 _ _ ?_); clear hR R; try clear K13 Z13
 try simp only [go_sem, glK_nil, glK_cons, gsK_nil, gsK_cons, List.cons_append, List.nil_append]
 refine W_block ?_
 obtain ⟨L, hL⟩ : ∃ z, (sortSd A).take kn = z := ⟨_, rfl⟩
 have hLl : L.length = kn := by rw [← hL, List.length_take]; omega
 simp only [← List.map_take, hL]
 refine W_weak (Weak.roX (j := 2) (off := 0) rfl rfl) ?_
 simp only [go_sem]
 refine W_weak (Weak.roX (j := 2) (off := 1) rfl rfl) ?_
 simp only [go_sem]
 refine W_weak (Weak.roX (j := 2) (off := 2) rfl rfl) ?_
 simp only [go_sem]
 refine W_weak (Weak.roX (j := 2) (off := 3) rfl rfl) ?_
 simp only [go_sem]
 refine W_weak (Weak.gnilX (j := 2) (off := 4) rfl rfl) ?_
 simp only [go_sem]
 refine W_weak (Weak.cutX 3 0 (by omega) (by omega) hcl (by simp only [go_sem] <;> omega) (by simp only [go_sem] <;> omega)) ?_
 simp only [go_sem]
 refine W_loopT (α := Nat × (List Int)) (fun ⟨i, ks⟩ => [(59, I i)]) (fun ⟨i, ks⟩ => σ.ext ([some (tlCells id t), some zeroRs, some [ints t.songs, ints (A.map (·.points)), ints (A.map (·.votes)), ints (A.map (·.score)), glK (σ.store.length + 3) ks]] ++ gsK ks) []) (fun ⟨i, ks⟩ => i ≤ L.length ∧ ks = (L.take i).map (·.song)) (fun ⟨i, ks⟩ => L.length - i) ((0, [])) rfl (by first | rfl | (simp only [go_sem]; done) | (simp only [go_sem]; rfl)) (⟨Nat.zero_le _, rfl⟩) ?_
 rintro ⟨i, ks⟩ ⟨hi, hks⟩
 rcases ks with _ | ⟨k0, kt⟩
 ·skip
  refine W_sr [2, 3, 57, 58, 59, 60] fun R hR => ?_
  simp only [go_sem, glK_nil, glK_cons, gsK_nil, gsK_cons, List.cons_append, List.nil_append, appG1_nil]
  refine hR _ _ ?_; clear hR R
  try simp only [go_sem, glK_nil, glK_cons, gsK_nil, gsK_cons, List.cons_append, List.nil_append, appG1_nil]
  refine W_seq fun Z15 K15 => ?_
  refine W_cond rfl (fun c2 => ?_) (fun c2 => ?_)
  ·
   try simp only [nrm] at c2
   have hi' : i < L.length := by first | assumption | omega
   obtain ⟨b, hx⟩ : ∃ b, L[i]? = some b := ⟨L[i], by simp [hi']⟩
   have hdrop : L.drop i = b :: L.drop (i + 1) := by
    rw [List.drop_eq_getElem_cons hi']; congr 1; exact (List.getElem?_eq_some_iff.1 hx).2
   have hn1 : (L.take (i + 1)).map (·.song) = (L.take i).map (·.song) ++ [b.song] := by rw [List.take_add_one, hx]; simp
   rw [← hks] at hn1
   refine W_skip (K15 _ _ ?_)
   refine W_seq fun Z16 K16 => ?_
   refine W_block ?_
   refine W_sr [2, 3, 9, 57, 58, 59] fun R hR => ?_
   simp only [go_sem, glK_nil, glK_cons, gsK_nil, gsK_cons, List.cons_append, List.nil_append, appG1_nil, hx]
   refine hR _ _ ?_; clear hR R
   try simp only [go_sem, glK_nil, glK_cons, gsK_nil, gsK_cons, List.cons_append, List.nil_append, appG1_nil, hx]
   refine W_region [2, 3, 57, 58, 59] fun R hR => ?_
   simp only [go_sem, glK_nil, glK_cons, gsK_nil, gsK_cons, List.cons_append, List.nil_append, appG1_nil, hx]
   try simp (disch := first | omega | (simp only [go_sem] <;> omega)) only [wrapI, wrapU, appX_exact, appX_tok]
   try simp only [go_sem, glK_nil, glK_cons, gsK_nil, gsK_cons, List.cons_append, List.nil_append, appG1_nil, hx]
   refine hR _ _ (K16 _ _ ?_); clear hR R; try clear K16 Z16
   try simp only [go_sem, glK_nil, glK_cons, gsK_nil, gsK_cons, List.cons_append, List.nil_append, appG1_nil, hx]
   refine W_region [2, 3, 57, 58, 59] fun R hR => ?_
   simp only [go_sem, glK_nil, glK_cons, gsK_nil, gsK_cons, List.cons_append, List.nil_append, appG1_nil, hx]
   try simp (disch := omega) only [wrapI, wrapU]
   refine hR _ _ ?_; clear hR R
   try simp only [go_sem, glK_nil, glK_cons, gsK_nil, gsK_cons, List.cons_append, List.nil_append, appG1_nil, hx]
   refine ⟨(i + 1, [b.song]), ?_, by (try simp only []); omega, ?_⟩
   ·simp only [glK_cons, gsK_cons, List.length_nil, List.map_nil]
    try simp only [go_sem]
    refine Weak.ren [0, 1, 2, 4] (by decide) (by simp) (by first | omega | (simp only [go_sem] <;> omega)) hcl (RnE.get ?_) ?_
    ·repeat' (first | exact trivial | (refine .same _ ?_; simp only [go_sem]; done) | (refine .same _ ?_; simp only [go_sem]; omega) | exact .ptr 0 0 _ _ _  rfl rfl rfl | exact .msl 0 0 _ _ _ _  rfl rfl rfl | exact .gsl 0 0 _ _ _ _  rfl rfl rfl | exact .mapv 0 0 _ _  rfl rfl rfl | exact .ptr 1 1 _ _ _  rfl rfl rfl | exact .msl 1 1 _ _ _ _  rfl rfl rfl | exact .gsl 1 1 _ _ _ _  rfl rfl rfl | exact .mapv 1 1 _ _  rfl rfl rfl | exact .ptr 2 2 _ _ _  rfl rfl rfl | exact .msl 2 2 _ _ _ _  rfl rfl rfl | exact .gsl 2 2 _ _ _ _  rfl rfl rfl | exact .mapv 2 2 _ _  rfl rfl rfl | exact .ptr 3 4 _ _ _  rfl rfl rfl | exact .msl 3 4 _ _ _ _  rfl rfl rfl | exact .gsl 3 4 _ _ _ _  rfl rfl rfl | exact .mapv 3 4 _ _  rfl rfl rfl | refine .funcL ?_ | refine ⟨rfl, ?_, ?_⟩ | refine ⟨?_, ?_⟩)
    repeat' (first | exact trivial | (refine .inl ⟨?_, rfl⟩; simp only [go_sem]; done) | (refine .inl ⟨?_, rfl⟩; simp only [go_sem]; omega) | (refine .same _ ?_; simp only [go_sem]; done) | (refine .same _ ?_; simp only [go_sem]; omega) | exact .ptr 0 0 _ _ _  rfl rfl rfl | exact .msl 0 0 _ _ _ _  rfl rfl rfl | exact .gsl 0 0 _ _ _ _  rfl rfl rfl | exact .mapv 0 0 _ _  rfl rfl rfl | exact .ptr 1 1 _ _ _  rfl rfl rfl | exact .msl 1 1 _ _ _ _  rfl rfl rfl | exact .gsl 1 1 _ _ _ _  rfl rfl rfl | exact .mapv 1 1 _ _  rfl rfl rfl | exact .ptr 2 2 _ _ _  rfl rfl rfl | exact .msl 2 2 _ _ _ _  rfl rfl rfl | exact .gsl 2 2 _ _ _ _  rfl rfl rfl | exact .mapv 2 2 _ _  rfl rfl rfl | exact .ptr 3 4 _ _ _  rfl rfl rfl | exact .msl 3 4 _ _ _ _  rfl rfl rfl | exact .gsl 3 4 _ _ _ _  rfl rfl rfl | exact .mapv 3 4 _ _  rfl rfl rfl | refine .inr ⟨by simp, ?_⟩ | refine ⟨⟨_, rfl, ?_⟩, ?_⟩ | refine ⟨?_, ?_⟩)
   try dsimp only
   exact ⟨hi', by rw [hn1]; rfl⟩
  try simp only [nrm] at c2
  have hie : L.length = i := by first | omega | (simp at c2; omega)
  subst hie
  rw [List.take_length] at hks
  exfalso
  have := congrArg List.length hks; simp at this; omega
 have hktl : kt.length ≤ 2 ^ 20 := by have := congrArg List.length hks; simp at this; omega
 simp only [gsK_cons, glK_cons, List.cons_append, List.nil_append]
 refine W_sr [2, 3, 57, 58, 59, 60] fun R hR => ?_
 simp only [go_sem, glK_nil, glK_cons, gsK_nil, gsK_cons, List.cons_append, List.nil_append, appG1_4 hktl]
 refine hR _ _ ?_; clear hR R
 try simp only [go_sem, glK_nil, glK_cons, gsK_nil, gsK_cons, List.cons_append, List.nil_append, appG1_4 hktl]
 refine W_seq fun Z19 K19 => ?_
 refine W_cond rfl (fun c3 => ?_) (fun c3 => ?_)
 ·
  try simp only [nrm] at c3
  have hi' : i < L.length := by first | assumption | omega
  obtain ⟨b, hx⟩ : ∃ b, L[i]? = some b := ⟨L[i], by simp [hi']⟩
  have hdrop : L.drop i = b :: L.drop (i + 1) := by
   rw [List.drop_eq_getElem_cons hi']; congr 1; exact (List.getElem?_eq_some_iff.1 hx).2
  have hn1 : (L.take (i + 1)).map (·.song) = (L.take i).map (·.song) ++ [b.song] := by rw [List.take_add_one, hx]; simp
  rw [← hks] at hn1
  refine W_skip (K19 _ _ ?_)
  refine W_seq fun Z20 K20 => ?_
  refine W_block ?_
  refine W_sr [2, 3, 9, 57, 58, 59] fun R hR => ?_
  simp only [go_sem, glK_nil, glK_cons, gsK_nil, gsK_cons, List.cons_append, List.nil_append, appG1_4 hktl, hx]
  refine hR _ _ ?_; clear hR R
  try simp only [go_sem, glK_nil, glK_cons, gsK_nil, gsK_cons, List.cons_append, List.nil_append, appG1_4 hktl, hx]
  refine W_region [2, 3, 57, 58, 59] fun R hR => ?_
  simp only [go_sem, glK_nil, glK_cons, gsK_nil, gsK_cons, List.cons_append, List.nil_append, appG1_4 hktl, hx]
  try simp (disch := first | omega | (simp only [go_sem] <;> omega)) only [wrapI, wrapU, appX_exact, appX_tok]
  try simp only [go_sem, glK_nil, glK_cons, gsK_nil, gsK_cons, List.cons_append, List.nil_append, appG1_4 hktl, hx]
  refine hR _ _ (K20 _ _ ?_); clear hR R; try clear K20 Z20
  try simp only [go_sem, glK_nil, glK_cons, gsK_nil, gsK_cons, List.cons_append, List.nil_append, appG1_4 hktl, hx]
  refine W_region [2, 3, 57, 58, 59] fun R hR => ?_
  simp only [go_sem, glK_nil, glK_cons, gsK_nil, gsK_cons, List.cons_append, List.nil_append, appG1_4 hktl, hx]
  try simp (disch := omega) only [wrapI, wrapU]
  refine hR _ _ ?_; clear hR R
  try simp only [go_sem, glK_nil, glK_cons, gsK_nil, gsK_cons, List.cons_append, List.nil_append, appG1_4 hktl, hx]
  refine ⟨(i + 1, k0 :: (kt ++ [b.song])), ?_, by (try simp only []); omega, ?_⟩
  ·simp only [glK_cons, gsK_cons, List.length_append, List.length_cons, List.length_nil, List.map_append, List.map_cons, List.map_nil]
   try simp only [go_sem]
   refine Weak.ren [0, 1, 2, 5] (by decide) (by simp) (by first | omega | (simp only [go_sem] <;> omega)) hcl (RnE.get ?_) ?_
   ·repeat' (first | exact trivial | (refine .same _ ?_; simp only [go_sem]; done) | (refine .same _ ?_; simp only [go_sem]; omega) | exact .ptr 0 0 _ _ _  rfl rfl rfl | exact .msl 0 0 _ _ _ _  rfl rfl rfl | exact .gsl 0 0 _ _ _ _  rfl rfl rfl | exact .mapv 0 0 _ _  rfl rfl rfl | exact .ptr 1 1 _ _ _  rfl rfl rfl | exact .msl 1 1 _ _ _ _  rfl rfl rfl | exact .gsl 1 1 _ _ _ _  rfl rfl rfl | exact .mapv 1 1 _ _  rfl rfl rfl | exact .ptr 2 2 _ _ _  rfl rfl rfl | exact .msl 2 2 _ _ _ _  rfl rfl rfl | exact .gsl 2 2 _ _ _ _  rfl rfl rfl | exact .mapv 2 2 _ _  rfl rfl rfl | exact .ptr 3 5 _ _ _  rfl rfl rfl | exact .msl 3 5 _ _ _ _  rfl rfl rfl | exact .gsl 3 5 _ _ _ _  rfl rfl rfl | exact .mapv 3 5 _ _  rfl rfl rfl | refine .funcL ?_ | refine ⟨rfl, ?_, ?_⟩ | refine ⟨?_, ?_⟩)
   repeat' (first | exact trivial | (refine .inl ⟨?_, rfl⟩; simp only [go_sem]; done) | (refine .inl ⟨?_, rfl⟩; simp only [go_sem]; omega) | (refine .same _ ?_; simp only [go_sem]; done) | (refine .same _ ?_; simp only [go_sem]; omega) | exact .ptr 0 0 _ _ _  rfl rfl rfl | exact .msl 0 0 _ _ _ _  rfl rfl rfl | exact .gsl 0 0 _ _ _ _  rfl rfl rfl | exact .mapv 0 0 _ _  rfl rfl rfl | exact .ptr 1 1 _ _ _  rfl rfl rfl | exact .msl 1 1 _ _ _ _  rfl rfl rfl | exact .gsl 1 1 _ _ _ _  rfl rfl rfl | exact .mapv 1 1 _ _  rfl rfl rfl | exact .ptr 2 2 _ _ _  rfl rfl rfl | exact .msl 2 2 _ _ _ _  rfl rfl rfl | exact .gsl 2 2 _ _ _ _  rfl rfl rfl | exact .mapv 2 2 _ _  rfl rfl rfl | exact .ptr 3 5 _ _ _  rfl rfl rfl | exact .msl 3 5 _ _ _ _  rfl rfl rfl | exact .gsl 3 5 _ _ _ _  rfl rfl rfl | exact .mapv 3 5 _ _  rfl rfl rfl | refine .inr ⟨by simp, ?_⟩ | refine ⟨⟨_, rfl, ?_⟩, ?_⟩ | refine ⟨?_, ?_⟩)
  try dsimp only
  exact ⟨hi', by rw [hn1]; rfl⟩
 try simp only [nrm] at c3
 have hie : L.length = i := by first | omega | (simp at c3; omega)
 subst hie
 rw [List.take_length] at hks
 refine W_exit ?_
 simp only [go_sem, glK_nil, glK_cons, gsK_nil, gsK_cons, List.cons_append, List.nil_append, appG1_4 hktl]
 refine K12 _ _ ?_
 refine W_sr [2, 3] fun R hR => ?_
 simp only [go_sem, glK_nil, glK_cons, gsK_nil, gsK_cons, List.cons_append, List.nil_append, appG1_4 hktl]
 refine GCall_of (PC_sortI (xs := k0 :: kt) sortsI (Sg.get_ext ..) (by simp only [List.length_cons]; omega)) ?_
 simp only [go_sem, glK_nil, glK_cons, gsK_nil, gsK_cons, List.cons_append, List.nil_append, appG1_4 hktl]
 refine hR _ _ ?_; clear hR R
 try simp only [go_sem, glK_nil, glK_cons, gsK_nil, gsK_cons, List.cons_append, List.nil_append, appG1_4 hktl]
 refine W_seq fun Z23 K23 => ?_
 have hsl2 := sortI_len (k0 :: kt)
 obtain ⟨z0, zt, hz⟩ : ∃ z zs, sortI (k0 :: kt) = z :: zs := by cases h : sortI (k0 :: kt) with
  | nil => rw [h] at hsl2; simp at hsl2
  | cons z zs => exact ⟨z, zs, rfl⟩
 simp only [hz]
 rw [hz] at hsl2
 refine W_weak (Weak.freezeX (j := 2) (k := 3) (off := 4) (len := kt.length + 1) (es := 1) (rest := []) (m := (z0 :: zt).map I) (by decide) rfl rfl (by rw [rowC_ints, List.append_nil]; rfl) (by simpa using hsl2) (fun q hq => by obtain ⟨x, _, rfl⟩ := List.mem_map.1 hq; rfl)) ?_
 simp only [go_sem]
 refine W_region [2] fun R hR => ?_
 simp only [go_sem, glK_nil, glK_cons, gsK_nil, gsK_cons, List.cons_append, List.nil_append, appG1_4 hktl, zeroRs]
 refine hR _ _ (K23 _ _ ?_); clear hR R; try clear K23 Z23
 try simp only [go_sem, glK_nil, glK_cons, gsK_nil, gsK_cons, List.cons_append, List.nil_append, appG1_4 hktl]
 refine W_ret ?_
 simp only [go_sem, glK_nil, glK_cons, gsK_nil, gsK_cons, List.cons_append, List.nil_append, appG1_4 hktl]
 refine ⟨.inr (by trivial), ?_⟩
 first | refine Fin_same hcl (by show resPV Tryz.prog _ _ [.cell 2 44] = some _; simp only [resPV, go_sem]; rfl) (Wk_eq ?_ (by simp only [go_sem])) | refine Fin_same hcl rfl (Wk_eq ?_ (by simp only [go_sem]))
 try simp only [go_sem]
 all_goals
  simp only [resT, hA, keptS, hkn, Int.toNat_natCast, hL, ← hks, hz]; rfl
def toN (n : Nat) : List Int := (List.range n).map fun (i : Nat) => (i : Int)
theorem toI_N (n : Nat) : toI n = toN n := by simp [toI, toN]
theorem toN_succ (n : Nat) : toN (n + 1) = toN n ++ [(n : Int)] := by simp [toN, List.range_succ]
theorem toN_len (n : Nat) : (toN n).length = n := by simp [toN]
theorem mem_toN {n : Nat} {x : Int} : x ∈ toN n ↔ 0 ≤ x ∧ x < n := by
 unfold toN
 rw [List.mem_map]
 constructor
 ·rintro ⟨i, hi, rfl⟩
  have := List.mem_range.1 hi
  omega
 rintro ⟨h1, h2⟩
 exact ⟨x.toNat, List.mem_range.2 (by omega), by omega⟩
theorem allT_song {t : Tally} : (allT t).map (·.song) = t.songs := by
 unfold allT
 rw [List.map_map]
 have : ((fun x : Std => x.song) ∘ fun s => stdT t s 0 0) = id := by funext s; rfl
 rw [this, List.map_id]
theorem mem_keptS {n : Nat} {l : List Std} {x : Int} (h : x ∈ keptS n l) : x ∈ l.map (·.song) := by
 unfold keptS at h
 have h1 := (List.mergeSort_perm _ _).mem_iff.1 h
 obtain ⟨a, h2, rfl⟩ := List.mem_map.1 h1
 exact List.mem_map.2 ⟨a, (sortSd_perm l).mem_iff.1 (List.mem_of_mem_take h2), rfl⟩
theorem mem_kept {t : Tally} {x : Int} (h : x ∈ (resT t).kept) : x ∈ t.songs := by
 rw [← allT_song (t := t)]
 exact mem_keptS h
theorem resT_klen {t : Tally} (h : t.rd.keep ≤ t.songs.length) : (resT t).kept.length = t.rd.keep.toNat := kept_len (by rw [allT_len]; omega)
/-- Songs of a round that may be. -/
structure SgOk (ss : List Int) : Prop where
 ln : ss.length ≤ 8
 bd : ∀ s, s ∈ ss → 0 ≤ s ∧ s < 8
theorem countT_b {r : Rnd} {rd : Int} {ss : List Int} {l : List Ballot} {c : Contest} (hl : l.length ≤ 300) (hb : ∀ b, b ∈ l → BlV c b) (hm : c.most ≤ 100) (hj : 0 ≤ r.jury ∧ r.jury ≤ 1000) (hw : 0 ≤ r.member ∧ r.member ≤ 1000) (hk : 1 ≤ r.keep ∧ r.keep ≤ ss.length) (hs : SgOk ss) : TlB (countT r rd ss l) := by
 have hml := voices_len rd ss l l.length
 refine ⟨fun s => ?_, fun s => ?_, hj, hw, hk, hs.ln, hs.bd⟩
 ·have := sumB_bd (f := cpB s) (l := l) (m := voices rd ss l l.length) (c := 100) (by omega) (fun b h => by
   have h1 := (hb b h).pt
   unfold cpB
   split
   ·split at h1 <;> omega
   omega) (List.range (voices rd ss l l.length).length)
  simp only [List.length_range] at this
  exact ⟨this.1, Int.le_trans this.2 (by omega)⟩
 have := sumB_bd (f := cvB s) (l := l) (m := voices rd ss l l.length) (c := 1) (by omega) (fun b h => by unfold cvB; split <;> omega) (List.range (voices rd ss l l.length).length)
 simp only [List.length_range] at this
 exact ⟨this.1, Int.le_trans this.2 (by omega)⟩
theorem chkRds_step {s : Int} {r : Rnd} {l : List Rnd} (h : chkRds s (r :: l) = 0) : (1 ≤ r.keep ∧ r.keep ≤ s) ∧ (0 ≤ r.jury ∧ r.jury ≤ 1000) ∧ (0 ≤ r.member ∧ r.member ≤ 1000) ∧ chkRds r.keep l = 0 := by
 simp only [chkRds] at h
 split at h
 ·cases h
 rename_i h1
 simp only [chkRd, allIn, List.all_cons, List.all_nil, Bool.and_true, Bool.not_eq_true', Bool.not_eq_false, Bool.and_eq_true, inR_true] at h1
 exact ⟨h1.2, h1.1.1, h1.1.2, h⟩
/-- The tallies of some rounds, all that may be. -/
theorem rdsT_b {l : List Ballot} {c : Contest} (hl : l.length ≤ 300) (hb : ∀ b, b ∈ l → BlV c b) (hm : c.most ≤ 100) : ∀ {rs : List Rnd} {i : Nat} {ss : List Int}, chkRds ss.length rs = 0 → SgOk ss → ∀ t, t ∈ rdsT l rs i ss → TlB t := by
 intro rs
 induction rs with
 | nil => intro i ss _ _ t h; cases h
 | cons r rs ih =>
  intro i ss h hs t ht
  obtain ⟨h1, h2, h3, h4⟩ := chkRds_step h
  have hT := countT_b (rd := (i : Int)) hl hb hm h2 h3 h1 hs
  simp only [rdsT, List.mem_cons] at ht
  rcases ht with rfl | ht
  ·exact hT
  have hk := resT_klen (t := countT r i ss l) h1.2
  have hke : (countT r i ss l).rd.keep = r.keep := rfl
  refine ih (by rw [hk, hke, Int.toNat_of_nonneg (by omega)]; exact h4) ⟨by rw [hk, hke]; have := hs.ln; omega, fun s h => hs.bd s (mem_kept h)⟩ t ht
theorem sgOk_all {c : Contest} (hV : CnV c) : SgOk (toI c.songs) := by
 obtain ⟨N, hN⟩ : ∃ z : Nat, c.songs = z := ⟨c.songs.toNat, by have := hV.sg; omega⟩
 have := hV.sg
 rw [hN, toI_N]
 exact ⟨by rw [toN_len]; omega, fun s h => by have := mem_toN.1 h; omega⟩
theorem toI_len {n : Int} (h : 0 ≤ n) : ((toI n).length : Int) = n := by simp [toI]; omega
theorem roundsT_b {c : Contest} {l : List Ballot} (hV : CnV c) (hl : l.length ≤ 300) (hb : ∀ b, b ∈ l → BlV c b) : ∀ t, t ∈ roundsT c l → TlB t :=
 rdsT_b hl hb hV.ms.2 (by rw [toI_len (by have := hV.sg; omega)]; exact hV.rs) (sgOk_all hV)
/-- The reading of the tallies. -/
def tlF (n : Nat) (p : Tally × Nat) : PV := tlPV (n + p.2) p.1
def tls (n : Nat) (ts : List Tally) : List PV := ts.zipIdx.map (tlF n)
def mapsOf (ts : List Tally) : List (Option (List PV)) := ts.map fun t => some (.mark :: mapE vcPV I t.m)
theorem mapsOf_len {ts : List Tally} : (mapsOf ts).length = ts.length := by simp [mapsOf]
theorem mapsOf_clean {a b c : Nat} {ts : List Tally} : CleanLs a b c (mapsOf ts) := by
 intro cs h p hp
 obtain ⟨t, _, e⟩ := List.mem_map.1 h
 simp only [Option.some.injEq] at e
 subst e
 rcases List.mem_cons.1 hp with rfl | hp
 ·exact .mark
 exact CleanAll_mapV.mpr trivial p hp
theorem mapsOf_get {ts : List Tally} {i : Nat} {t : Tally} (h : ts[i]? = some t) : (mapsOf ts)[i]? = some (some (.mark :: mapE vcPV I t.m)) := by
 unfold mapsOf
 rw [List.getElem?_map, h]; rfl
theorem tls_get {n i : Nat} {ts : List Tally} {t : Tally} (h : ts[i]? = some t) : (tls n ts)[i]? = some (tlPV (n + i) t) := by
 unfold tls
 rw [List.getElem?_map, List.getElem?_zipIdx, h]
 simp [tlF]
theorem tls_len {n : Nat} {ts : List Tally} : (tls n ts).length = ts.length := by simp [tls]
theorem tls_snoc {n : Nat} {ts : List Tally} {t : Tally} : tls n (ts ++ [t]) = tls n ts ++ [tlPV (n + ts.length) t] := by
 unfold tls
 rw [List.zipIdx_append, List.map_append]
 simp [tlF]
theorem cA_tls {a b c n : Nat} {ts : List Tally} (h : n + ts.length ≤ a) : CleanAll a b c (tls n ts) := by
 intro p hp
 obtain ⟨i, hi⟩ := List.mem_iff_getElem?.1 hp
 cases ht : ts[i]? with
 | none =>
  rw [List.getElem?_eq_none_iff] at ht
  rw [List.getElem?_eq_none (by rw [tls_len]; exact ht)] at hi
  cases hi
 | some t =>
  rw [tls_get ht] at hi
  injection hi with hi
  subst hi
  have := (List.getElem?_eq_some_iff.1 ht).1
  exact clean_tl t (by omega)
theorem CleanAll_tls {a b c n : Nat} {ts : List Tally} : CleanAll a b c (tls n ts) = (ts.length = 0 ∨ n + ts.length ≤ a) := propext ⟨fun h => by
 rcases Nat.eq_zero_or_pos ts.length with h0 | h0
 ·exact .inl h0
 ·right
  have hg := tls_get (n := n) (i := ts.length - 1) (ts := ts) (t := ts[ts.length - 1]'(by omega)) (by simp)
  have := C_tl.mp (h _ (List.mem_of_getElem? hg))
  omega, fun h => by
 rcases h with h | h
 ·obtain rfl := List.eq_nil_of_length_eq_zero h
  intro p hp
  cases hp
 exact cA_tls h⟩
theorem okC_tls {n : Nat} {ts : List Tally} : okC 21 (tls n ts) = True := okC_map fun x => by simp [okC, tlF, tlPV, tlCells, PV.cells, PV.scalar]
theorem mapsOf_snoc {ts : List Tally} {t : Tally} : mapsOf (ts ++ [t]) = mapsOf ts ++ [some (.mark :: mapE vcPV I t.m)] := by simp [mapsOf]
theorem roL_tls {n : Nat} {ts : List Tally} : PV.roL (tls n ts) = tls n ts := roL_enc fun x => by simp only [tlF, tlPV, tlCells, ro_agg, roL_cons, roL_nil, ro_int, ro_isl, roL_ints, PV.ro]
attribute [go_sem] roL_tls
theorem CleanLs_noneC {a b c : Nat} {l : List (Option (List PV))} : CleanLs a b c (none :: l) = CleanLs a b c l := propext ⟨fun h cs hc => h cs (List.mem_cons_of_mem _ hc), fun h cs hc => by rcases List.mem_cons.1 hc with e | hc; cases e; exact h cs hc⟩
attribute [go_sem] mapsOf_len CleanLs_noneC
theorem CleanLs_maps {a b c : Nat} {ts : List Tally} : CleanLs a b c (mapsOf ts) = True := eq_true mapsOf_clean
attribute [go_sem] CleanAll_tls CleanLs_maps okC_tls tls_len
theorem Fin_more {P : Program} {fn : Func} {σ σ' : Sg} {E : Env} {rs : List PV} {v : PV} (hcl : CleanSg σ') (h1 : σ.store.length ≤ σ'.store.length) (h2 : σ.rooms.length ≤ σ'.rooms.length) (h3 : σ'.ys.length = σ.ys.length)
 (hr : resPV P σ' E fn.results.toList = some rs) (hv : Wk σ'.store.length σ'.rooms.length σ.ys.length (oneOr rs) v) : Fin P fn σ v σ' E σ' := by
 refine ⟨rs, _, _, hr, h1, h2, hv, ?_, ?_, h3⟩
 ·rw [← h3]; simp [Sg.cut]
 unfold CleanSg at hcl; rw [h3] at hcl; exact hcl
set_option maxHeartbeats 8000000 in
theorem rounds_pc (Y : YEnv) (σ : Sg) (c : Contest) (l : List Ballot) (hV : CnV c) (hl : l.length ≤ 300) (hb : ∀ b, b ∈ l → BlV c b) :
 PC Tryz.prog Y 37 [cnPV c, bls l] σ (.isl (tls (σ.store.length + 1) (roundsT c l)) .ro) (σ.ext (none :: mapsOf (roundsT c l)) []) := by
 refine PC_of_W Tryz.func37 rfl (by kernel_rfl) Tryz.ntmps37 (by simp) fun hcl hca => ?_
 obtain ⟨ts, hts⟩ : ∃ z, roundsT c l = z := ⟨_, rfl⟩
 rw [hts]
 have hsg := hV.sg
 have hrl := hV.rl
 have hms := hV.ms
 obtain ⟨N, hN⟩ : ∃ z : Nat, c.songs = z := ⟨c.songs.toNat, by omega⟩
 have htl : ts.length = c.rounds.length := by rw [← hts]; exact rdsT_len
 have hbv : ∀ b, b ∈ l → (0 ≤ b.song ∧ b.song < 8) ∧ 0 ≤ b.points ∧ b.points ≤ 100 := fun b h => by
  have h1 := (hb b h).sg
  have h2 := (hb b h).pt
  split at h2 <;> omega
 refine W_sr [1, 2] fun R hR => ?_
 simp only [go_sem]
 refine hR _ _ ?_; clear hR R
 try simp only [go_sem]
 refine W_sr [1, 2, 5] fun R hR => ?_
 simp only [go_sem]
 refine hR _ _ ?_; clear hR R
 try simp only [go_sem]
 refine W_seq fun Z3 K3 => ?_
 refine W_sr [1, 2, 5, 11, 12] fun R hR => ?_
 simp only [go_sem, hN]
 refine hR _ _ ?_; clear hR R
 try simp only [go_sem]
 refine W_block ?_
 refine W_weak (Weak.room (t := 5) (es := 1) rfl (by simp)) ?_
 refine W_weak (Weak.keep [1, 2, 5, 11, 12]) ?_
 simp only [go_sem]
 refine W_loopT (α := Nat) (fun (i : Nat) => [(5, .isl ((toN i).map I) (.tok σ.rooms.length i 1)), (12, I i)]) (fun (i : Nat) => σ.ext [some [I (N : Int), I c.juries, I c.members, I c.most, rds c.rounds]] [i]) (fun (i : Nat) => i ≤ N) (fun (i : Nat) => N - i) (0) rfl (by first | rfl | (simp only [go_sem]; done) | (simp only [go_sem]; rfl)) (Nat.zero_le _) ?_
 rintro i hi
 refine W_sr [1, 2, 5, 11, 12, 13] fun R hR => ?_
 simp only [go_sem]
 refine hR _ _ ?_; clear hR R
 try simp only [go_sem]
 refine W_seq fun Z6 K6 => ?_
 refine W_cond rfl (fun c1 => ?_) (fun c1 => ?_)
 ·
  try simp only [nrm] at c1
  have hi1 : i < N := by first | omega | (simp at c1; omega)
  have htn := toN_len i
  refine W_skip (K6 _ _ ?_)
  refine W_seq fun Z7 K7 => ?_
  refine W_block ?_
  refine W_sr [1, 2, 5, 6, 11, 12] fun R hR => ?_
  simp only [go_sem]
  refine hR _ _ ?_; clear hR R
  try simp only [go_sem]
  refine W_region [1, 2, 5, 11, 12] fun R hR => ?_
  simp only [go_sem]
  try simp (disch := first | omega | (simp only [go_sem] <;> omega)) only [wrapI, wrapU, appX_exact, appX_tok]
  try simp only [go_sem]
  refine hR _ _ (K7 _ _ ?_); clear hR R; try clear K7 Z7
  try simp only [go_sem]
  refine W_region [1, 2, 5, 11, 12] fun R hR => ?_
  simp only [go_sem]
  try simp (disch := omega) only [wrapI, wrapU]
  refine hR _ _ ?_; clear hR R
  try simp only [go_sem]
  refine ⟨i + 1, ?_, by (try simp only []); omega, ?_⟩
  ·exact Weak.eq (by rw [toN_succ]; simp only [List.map_append, List.map_cons, List.map_nil]; first | done | rfl) rfl
  try dsimp only
  omega
 try simp only [nrm] at c1
 have hie : N = i := by first | omega | (simp at c1; omega)
 subst hie
 refine W_exit ?_
 simp only [go_sem]
 refine K3 _ _ ?_
 refine W_seq fun Z9 K9 => ?_
 simp only [← hN]
 refine W_weak (Weak.ro 5) ?_
 refine W_weak (Weak.keep [1, 2, 4, 5]) ?_
 simp only [go_sem]
 refine W_weak (Weak.cutX 1 0 (by omega) (by omega) hcl (by simp only [go_sem] <;> omega) (by simp only [go_sem] <;> omega)) ?_
 simp only [go_sem]
 refine W_region [1, 2, 5, 7] fun R hR => ?_
 simp only [go_sem]
 refine hR _ _ (K9 _ _ ?_); clear hR R; try clear K9 Z9
 try simp only [go_sem]
 refine W_seq fun Z10 K10 => ?_
 refine W_sr [1, 2, 5, 7, 22, 23] fun R hR => ?_
 simp only [go_sem]
 refine hR _ _ ?_; clear hR R
 try simp only [go_sem]
 refine W_block ?_
 refine W_weak (Weak.room (t := 7) (es := 21) rfl (by simp)) ?_
 refine W_weak (Weak.keep [1, 2, 5, 7, 22, 23]) ?_
 simp only [go_sem]
 refine W_loopT (α := Nat × (List Int)) (fun ⟨i, ss⟩ => [(5, ints ss), (7, .isl (tls (σ.store.length + 1) (ts.take i)) (.tok σ.rooms.length i 21)), (23, I i)]) (fun ⟨i, ss⟩ => σ.ext (some (cnCells c) :: mapsOf (ts.take i)) [i]) (fun ⟨i, ss⟩ => i ≤ c.rounds.length ∧ SgOk ss ∧ chkRds ss.length (c.rounds.drop i) = 0 ∧ rdsT l (c.rounds.drop i) i ss = ts.drop i) (fun ⟨i, ss⟩ => c.rounds.length - i) ((0, toN N)) rfl (by first | rfl | (simp only [go_sem]; done) | (simp only [go_sem]; rfl)) (⟨Nat.zero_le _, by have := sgOk_all hV; rw [hN, toI_N] at this; exact this, by rw [toN_len]; have := hV.rs; rw [hN] at this; exact this, by rw [← hts]; unfold roundsT; rw [hN, toI_N]; rfl⟩) ?_
 rintro ⟨i, ss⟩ ⟨hi, hso, hck, hrd⟩
 have htk : (ts.take i).length = i := by rw [List.length_take]; omega
 obtain ⟨τ, hτ⟩ : ∃ z, σ.ext (some (cnCells c) :: mapsOf (ts.take i)) [] = z := ⟨_, rfl⟩
 have hτe : σ.ext (some (cnCells c) :: mapsOf (ts.take i)) [i] = τ.ext [] [i] := by rw [← hτ, Sg.ext_ext]; simp
 have hτr : σ.rooms.length = τ.rooms.length := by rw [← hτ]; simp [Sg.ext]
 have hτy : τ.ys = σ.ys := by rw [← hτ]; simp [Sg.ext]
 have hid : τ.store.length = σ.store.length + 1 + i := by rw [← hτ]; simp only [Sg.len_ext, List.length_cons, mapsOf_len, htk]; omega
 have hclτ : CleanSg τ := by rw [← hτ]; exact CleanSg_ext hcl (by show CleanLs _ _ _ _; simp only [go_sem])
 have hd0 : τ.store[σ.store.length]? = some (some (cnCells c)) := by rw [← hτ]; exact Sg.get_ext0 ..
 dsimp only
 rw [hτe]
 simp only [hτr]
 refine W_sr [1, 2, 5, 7, 22, 23, 24] fun R hR => ?_
 simp only [go_sem, ldA_at (get_extx hd0)]
 refine hR _ _ ?_; clear hR R
 try simp only [go_sem, ldA_at (get_extx hd0)]
 refine W_seq fun Z13 K13 => ?_
 refine W_cond rfl (fun c2 => ?_) (fun c2 => ?_)
 ·
  try simp only [nrm] at c2
  have hi' : i < c.rounds.length := by first | omega | (simp at c2; omega)
  obtain ⟨r, hr⟩ : ∃ z, c.rounds[i]? = some z := ⟨c.rounds[i], by simp [hi']⟩
  have hdrop : c.rounds.drop i = r :: c.rounds.drop (i + 1) := by rw [List.drop_eq_getElem_cons hi']; congr 1; exact (List.getElem?_eq_some_iff.1 hr).2
  rw [hdrop] at hck hrd
  obtain ⟨h1, h2, h3, h4⟩ := chkRds_step hck
  have hTB := countT_b (rd := (i : Int)) hl hb hms.2 h2 h3 h1 hso
  simp only [rdsT] at hrd
  have hti : ts[i]? = some (countT r i ss l) := by
   have := congrArg (fun z => z[0]?) hrd
   simpa using this.symm
  have htd : rdsT l (c.rounds.drop (i + 1)) (i + 1) (resT (countT r i ss l)).kept = ts.drop (i + 1) := by
   have := congrArg List.tail hrd
   simpa using this
  have hsn : ts.take (i + 1) = ts.take i ++ [countT r i ss l] := by rw [List.take_add_one, hti]; rfl
  have hkl := resT_klen (t := countT r i ss l) h1.2
  have hke : (countT r i ss l).rd.keep = r.keep := rfl
  refine W_skip (K13 _ _ ?_)
  refine W_seq fun Z14 K14 => ?_
  refine W_block ?_
  refine W_sr [1, 2, 5, 7, 8, 22, 23] fun R hR => ?_
  simp only [go_sem, ldA_at (get_extx hd0)]
  refine hR _ _ ?_; clear hR R
  try simp only [go_sem, ldA_at (get_extx hd0)]
  refine W_sr [1, 2, 7, 9, 22, 23] fun R hR => ?_
  simp only [go_sem, ldA_at (get_extx hd0), tlPV, tlCells]
  refine GCall_of (count_pc Y _ c l i r ss hr (by omega) hl (by have := hso.ln; omega) hbv) ?_
  simp only [go_sem, ldA_at (get_extx hd0), tlPV, tlCells]
  refine hR _ _ ?_; clear hR R
  try simp only [go_sem, ldA_at (get_extx hd0)]
  refine W_sr [1, 2, 7, 9, 22, 23] fun R hR => ?_
  simp only [go_sem, ldA_at (get_extx hd0), tlPV, tlCells]
  try simp (disch := first | omega | (simp only [go_sem] <;> omega)) only [wrapI, wrapU, appX_exact, appX_tok]
  try simp only [go_sem, ldA_at (get_extx hd0), tlPV, tlCells]
  refine hR _ _ ?_; clear hR R
  try simp only [go_sem, ldA_at (get_extx hd0)]
  refine W_region [1, 2, 5, 7, 22, 23] fun R hR => ?_
  simp only [go_sem, ldA_at (get_extx hd0), tlPV, tlCells]
  refine GCall_of (result_pc Y _ τ.store.length (countT r i ss l) hTB) ?_
  simp only [go_sem, ldA_at (get_extx hd0), tlPV, tlCells]
  refine hR _ _ (K14 _ _ ?_); clear hR R; try clear K14 Z14
  try simp only [go_sem, ldA_at (get_extx hd0)]
  refine W_region [1, 2, 5, 7, 22, 23] fun R hR => ?_
  simp only [go_sem, ldA_at (get_extx hd0)]
  try simp (disch := omega) only [wrapI, wrapU]
  refine hR _ _ ?_; clear hR R
  try simp only [go_sem, ldA_at (get_extx hd0)]
  refine ⟨(i + 1, (resT (countT r i ss l)).kept), ?_, by (try simp only []); omega, ?_⟩
  ·refine Weak.trans (Weak.cutX (σ := τ) 1 1 (by omega) (by omega) hclτ (by simp only [go_sem] <;> omega) (by simp only [go_sem] <;> omega)) ?_
   simp only [go_sem]
   exact Weak.eq (by rw [hsn, tls_snoc, htk, ← hid]; first | done | rfl) (by rw [hsn, mapsOf_snoc, ← hτ, Sg.ext_ext]; first | done | rfl)
  try dsimp only
  exact ⟨hi', ⟨by rw [hkl, hke]; have := hso.ln; omega, fun s h => hso.bd s (mem_kept h)⟩, by rw [hkl, hke, Int.toNat_of_nonneg (by omega)]; exact h4, htd⟩
 try simp only [nrm] at c2
 have hie : c.rounds.length = i := by first | omega | (simp at c2; omega)
 have hta : ts.take i = ts := by rw [← hie, ← htl]; exact List.take_length
 refine W_exit ?_
 simp only [go_sem, ldA_at (get_extx hd0)]
 refine K10 _ _ ?_
 refine W_sr [4] fun R hR => ?_
 simp only [go_sem, ldA_at (get_extx hd0)]
 refine hR _ _ ?_; clear hR R
 try simp only [go_sem, ldA_at (get_extx hd0)]
 refine W_weak (Weak.ro 4) ?_
 refine W_weak (Weak.keep [4]) ?_
 simp only [go_sem]
 rw [← hτe]
 simp only [hta]
 refine W_weak (Weak.goneX 0) ?_
 simp only [go_sem]
 refine W_weak (Weak.cutX (none :: mapsOf ts).length 0 (by omega) (by omega) hcl (by rw [List.take_length]; simp only [go_sem]) (by simp only [go_sem] <;> omega)) ?_
 simp only [List.take_length, List.take_zero]
 refine W_ret ?_
 simp only [go_sem, ldA_at (get_extx hd0)]
 refine ⟨.inr (by trivial), ?_⟩
 refine Fin_more (CleanSg_ext hcl (by show CleanLs _ _ _ _; simp only [go_sem])) (by simp only [go_sem] <;> omega) (by simp only [go_sem] <;> omega) (by simp only [go_sem]) rfl (Wk_eq rfl ?_)
 try simp only [go_sem]
 all_goals
  first | omega | (simp only [go_sem] <;> omega)
theorem iaX_tls {n i : Nat} {ts : List Tally} {t : Tally} (h : ts[i]? = some t) : iaX 21 (tls n ts) (i : Int) = some (.eptr 21 (tls n ts) i 0) := by
 have : (ts.zipIdx)[i]? = some (t, i) := by rw [List.getElem?_zipIdx, h]; simp
 exact iaX_map this rfl
theorem elA_tls {n i : Nat} {ts : List Tally} {t : Tally} (h : ts[i]? = some t) : elA 21 (tls n ts) i 0 = some (tlPV (n + i) t) := by
 have : (ts.zipIdx)[i]? = some (t, i) := by rw [List.getElem?_zipIdx, h]; simp
 rw [tls, elA_map this]; rfl
theorem iaX0 {c : Nat} {p : PV} {l : List PV} (h : p.cells.length = c) : iaX c (p :: l) 0 = some (.eptr c (p :: l) 0 0) := by subst h; simp [iaX]
theorem elS0 {p : PV} {l : List PV} {off : Nat} : elS (p :: l) 0 off = p.cells[off]? := by simp [elS]
theorem res_last {c : Contest} {l : List Ballot} {ts : List Tally} (hts : roundsT c l = ts) {m : Nat} {t : Tally} (ht : ts[m]? = some t) (hm : ts.length = m + 1) {k : Int} {ks : List Int} (hk : (resT t).kept = k :: ks) : winnerT c l = k := by
 unfold winnerT resultsT
 rw [hts, List.getLast?_eq_getElem?, List.length_map, hm, List.getElem?_map, Nat.add_sub_cancel, ht]
 simp [hk]
set_option maxHeartbeats 8000000 in
theorem Run_pc (Y : YEnv) (σ : Sg) (c : Contest) (l : List Ballot) (hr : c.rounds.length < 2 ^ 40) (hl : l.length < 2 ^ 40) :
 PC Tryz.prog Y 11 [cnPV c, bls l] σ (.tuple [rss (runD c l).1, I (runD c l).2.1, I (runD c l).2.2]) (σ) := by
 refine PC_of_W Tryz.func11 rfl (by kernel_rfl) Tryz.ntmps11 (by simp) fun hcl hca => ?_
 refine W_sr [1, 2, 4] fun R hR => ?_
 simp only [go_sem]
 refine hR _ _ ?_; clear hR R
 try simp only [go_sem]
 refine W_seq fun Z2 K2 => ?_
 refine W_sr [1, 2, 4, 7] fun R hR => ?_
 simp only [go_sem]
 refine GCall_of (chkBls_pc Y _ c l hr hl) ?_
 simp only [go_sem]
 refine hR _ _ ?_; clear hR R
 try simp only [go_sem]
 refine W_sr [1, 2, 4, 7, 14] fun R hR => ?_
 simp only [go_sem]
 refine hR _ _ ?_; clear hR R
 try simp only [go_sem]
 refine W_cond rfl (fun c1 => ?_) (fun c1 => ?_)
 ·
  try simp only [nrm] at c1
  have hres : runD c l = ([], 0, chkBls c l) := by unfold runD; rw [if_pos c1]
  refine W_sr [4, 5, 6] fun R hR => ?_
  simp only [go_sem]
  refine hR _ _ ?_; clear hR R
  try simp only [go_sem]
  refine W_ret ?_
  simp only [go_sem]
  refine ⟨.inr (by trivial), ?_⟩
  rw [hres]
  refine Fin_same hcl rfl (Wk.ro (by simp only [go_sem]) ?_)
  try simp only [go_sem]
  all_goals
   first | rfl | (simp only [go_sem]; done) | (simp only [go_sem, resultsT, hts, hRS, hwin, List.map_map]; first | done | rfl)
 try simp only [nrm] at c1
 obtain ⟨hV, hl3, hb, hnd⟩ := blsV_of c1
 have hTb := roundsT_b hV hl3 hb
 have hrl := hV.rl
 have hres : runD c l = (resultsT c l, winnerT c l, 0) := by unfold runD; rw [if_neg (by simp [c1])]
 obtain ⟨ts, hts⟩ : ∃ z, roundsT c l = z := ⟨_, rfl⟩
 have htl : ts.length = c.rounds.length := by rw [← hts]; exact rdsT_len
 rw [hts] at hTb
 refine W_skip (K2 _ _ ?_)
 refine W_seq fun Z6 K6 => ?_
 refine W_sr [4, 18, 19, 20] fun R hR => ?_
 simp only [go_sem]
 refine GCall_of (rounds_pc Y _ c l hV hl3 hb) ?_
 simp only [go_sem]
 refine hR _ _ ?_; clear hR R
 try simp only [go_sem]
 refine W_block ?_
 simp only [hts]
 obtain ⟨RS, hRS⟩ : ∃ z, ts.map resT = z := ⟨_, rfl⟩
 have hRl : RS.length = ts.length := by rw [← hRS]; simp
 obtain ⟨τ, hτ⟩ : ∃ z, σ.ext (some [I c.songs, I c.juries, I c.members, I c.most, rds c.rounds] :: none :: mapsOf ts) [] = z := ⟨_, rfl⟩
 have hτr : σ.rooms.length = τ.rooms.length := by rw [← hτ]; simp [Sg.ext]
 have hτl : τ.store.length = σ.store.length + 1 + 1 + ts.length := by rw [← hτ]; simp only [Sg.len_ext, List.length_cons, mapsOf_len]; omega
 have hclτ : CleanSg τ := by rw [← hτ]; exact CleanSg_ext hcl (by show CleanLs _ _ _ _; simp only [go_sem])
 have hτe : ∀ rm, σ.ext (some [I c.songs, I c.juries, I c.members, I c.most, rds c.rounds] :: none :: mapsOf ts) rm = τ.ext [] rm := fun rm => by rw [← hτ, Sg.ext_ext]; simp
 rw [hτe]
 simp only [hτr]
 refine W_weak (Weak.room (t := 4) (es := 5) rfl (by simp)) ?_
 refine W_weak (Weak.keep [4, 18, 19, 20]) ?_
 simp only [go_sem]
 refine W_loopT (α := Nat) (fun (i : Nat) => [(4, .isl ((RS.take i).map rsPV) (.tok τ.rooms.length i 5)), (20, I i)]) (fun (i : Nat) => τ.ext [] [i]) (fun (i : Nat) => i ≤ ts.length) (fun (i : Nat) => ts.length - i) (0) rfl (by first | rfl | (simp only [go_sem]; done) | (simp only [go_sem]; rfl)) (Nat.zero_le _) ?_
 rintro i hi
 refine W_sr [4, 18, 19, 20, 21] fun R hR => ?_
 simp only [go_sem]
 refine hR _ _ ?_; clear hR R
 try simp only [go_sem]
 refine W_seq fun Z9 K9 => ?_
 refine W_cond rfl (fun c2 => ?_) (fun c2 => ?_)
 ·
  try simp only [nrm] at c2
  have hi' : i < ts.length := by first | omega | (simp at c2; omega)
  obtain ⟨t, ht⟩ : ∃ z, ts[i]? = some z := ⟨ts[i], by simp [hi']⟩
  have hir : (i : Int) < (ts.length : Int) := by omega
  have hri : RS[i]? = some (resT t) := by rw [← hRS, List.getElem?_map, ht]; rfl
  have hsn : RS.take (i + 1) = RS.take i ++ [resT t] := by rw [List.take_add_one, hri]; rfl
  have htk : (RS.take i).length = i := by rw [List.length_take]; omega
  refine W_skip (K9 _ _ ?_)
  refine W_seq fun Z10 K10 => ?_
  refine W_block ?_
  refine W_sr [4, 9, 18, 19, 20] fun R hR => ?_
  simp only [go_sem, iaX_tls ht, elA_tls ht, tlPV, tlCells, List.length_map, hir]
  refine hR _ _ ?_; clear hR R
  try simp only [go_sem]
  refine W_region [4, 18, 19, 20] fun R hR => ?_
  simp only [go_sem, tlPV, tlCells]
  refine GCall_of (result_pc Y _ _ t (hTb t (List.mem_of_getElem? ht))) ?_
  simp only [go_sem, tlPV, tlCells]
  try simp (disch := first | omega | (simp only [go_sem] <;> omega)) only [wrapI, wrapU, appX_exact, appX_tok]
  try simp only [go_sem, tlPV, tlCells]
  refine hR _ _ (K10 _ _ ?_); clear hR R; try clear K10 Z10
  try simp only [go_sem]
  refine W_region [4, 18, 19, 20] fun R hR => ?_
  simp only [go_sem]
  try simp (disch := omega) only [wrapI, wrapU]
  refine hR _ _ ?_; clear hR R
  try simp only [go_sem]
  refine ⟨i + 1, ?_, by (try simp only []); omega, ?_⟩
  ·refine Weak.trans (Weak.cutX (σ := τ) 0 1 (by omega) (by omega) hclτ (by simp only [go_sem] <;> omega) (by simp only [go_sem] <;> omega)) ?_
   simp only [go_sem]
   exact Weak.eq (by rw [hsn]; simp only [List.map_append, List.map_cons, List.map_nil]; first | done | rfl) rfl
  try dsimp only
  exact hi'
 try simp only [nrm] at c2
 have hie : ts.length = i := by first | omega | (simp at c2; omega)
 subst hie
 rw [← hRl, List.take_length]
 refine W_exit ?_
 simp only [go_sem]
 refine K6 _ _ ?_
 refine W_seq fun Z12 K12 => ?_
 obtain ⟨m, hm⟩ : ∃ z, ts.length = z + 1 := ⟨ts.length - 1, by omega⟩
 obtain ⟨tl, htl2⟩ : ∃ z, ts[m]? = some z := ⟨ts[m]'(by omega), by simp⟩
 have hTl := hTb tl (List.mem_of_getElem? htl2)
 obtain ⟨k0, kt, hk⟩ : ∃ a b, (resT tl).kept = a :: b := by
  have h1 := resT_klen (t := tl) hTl.kp.2
  have h2 := hTl.kp.1
  cases h : (resT tl).kept with
  | nil => rw [h] at h1; simp at h1; omega
  | cons a b => exact ⟨a, b, rfl⟩
 have hwin := res_last hts htl2 hm hk
 have hw9 : IntKind.i64.wrap ((ts.length : Int) - 1) = (m : Int) := by rw [wrapI (by omega) (by omega)]; omega
 have hm9 : (m : Int) < (ts.length : Int) := by omega
 have hm92 : m < ts.length := by omega
 have hLr : RS[m]? = some (resT tl) := by rw [← hRS, List.getElem?_map, htl2]; rfl
 refine W_draw [4, 5, 6] [0, 1, 2, 3, 4, 5, 6, 7, 8, 9, 10, 11, 12] [] [[], [], [], [2], [2, 3], [1, 2, 3, 4], [1, 2, 3, 4, 5], [1, 2, 3, 4, 5, 6], [1, 2, 3, 4, 5, 6, 7], [1, 2, 3, 4, 5, 6, 7, 8], [0, 1, 2], [0, 1, 2, 3, 4, 5, 6, 7, 8, 9, 10], [0, 1, 2, 3, 4, 5, 6, 7, 8, 9, 10, 11]] mixed (by kernel_rfl) fun R hR => ?_
 simp only [go_sem, iaX0 (c := 1) (p := I k0) rfl, List.map_cons, elS0, hRl, hw9, hm9, hm92, hLr, hk, iaX_map hLr rfl, elS_map hLr]
 try simp (disch := omega) only [wrapI, wrapU]
 try refine And.intro (by repeat' (first | refine And.intro ?_ ?_ | exact GOr_right (fun _ => by simp only [go_sem, iaX0 (c := 1) (p := I k0) rfl, List.map_cons, elS0, hRl, hw9, hm9, hm92, hLr, hk, iaX_map hLr rfl, elS_map hLr]))) ?_
 refine hR _ _ (K12 _ _ ?_); clear hR R; try clear K12 Z12
 try simp only [go_sem]
 refine W_ret ?_
 simp only [go_sem]
 refine ⟨.inr (by trivial), ?_⟩
 rw [hres, ← hτ, Sg.ext_ext]
 refine Fin_same hcl rfl (Wk.ro (by simp only [go_sem]) ?_)
 try simp only [go_sem]
 all_goals
  first | rfl | (simp only [go_sem]; done) | (simp only [go_sem, resultsT, hts, hRS, hwin, List.map_map]; first | done | rfl)
def optE (g : Voice → Int) : Option (Voice × Int) → Int
 | some e => g e.1
 | none => 0
def sumE (g : Voice → Int) (m : List (Voice × Int)) (js : List Nat) : Int := (js.map fun j => optE g m[j]?).sum
theorem sumE_snoc {g : Voice → Int} {m : List (Voice × Int)} {js : List Nat} {j : Nat} {e : Voice × Int} (h : m[j]? = some e) : sumE g m (js ++ [j]) = sumE g m js + g e.1 := by simp [sumE, h, optE]
theorem sumE_all {g : Voice → Int} {m : List (Voice × Int)} {js : List Nat} (h1 : js.Nodup) (h2 : ∀ j, j ∈ js → j < m.length) (h3 : ∀ j, j < m.length → j ∈ js) : sumE g m js = (m.map fun e => g e.1).sum := by
 unfold sumE
 rw [sum_perm (perm_range h1 h2 h3)]
 congr 1
 apply List.ext_getElem?
 intro j
 rw [List.getElem?_map, List.getElem?_map]
 by_cases hj : j < m.length
 ·rw [List.getElem?_range hj]; simp [hj, optE]
 rw [List.getElem?_eq_none (by simp; omega), List.getElem?_eq_none (by omega)]; rfl
theorem sumE_bd {g : Voice → Int} {m : List (Voice × Int)} (hg : ∀ v, 0 ≤ g v ∧ g v ≤ 1) : ∀ js : List Nat, 0 ≤ sumE g m js ∧ sumE g m js ≤ js.length := by
 intro js
 induction js with
 | nil => simp [sumE]
 | cons j js ih =>
  have e : sumE g m (j :: js) = optE g m[j]? + sumE g m js := by simp [sumE]
  have h : 0 ≤ optE g m[j]? ∧ optE g m[j]? ≤ 1 := by
   cases m[j]? with
   | none => simp [optE]
   | some e => exact hg _
  rw [e, List.length_cons, show ((js.length + 1 : Nat) : Int) = js.length + 1 by omega]
  omega
theorem sumM_bd {g : Voice → Int} (hg : ∀ v, 0 ≤ g v ∧ g v ≤ 1) : ∀ m : List (Voice × Int), 0 ≤ (m.map fun e => g e.1).sum ∧ (m.map fun e => g e.1).sum ≤ m.length := by
 intro m
 induction m with
 | nil => simp
 | cons e m ih =>
  have := hg e.1
  simp only [List.map_cons, List.sum_cons, List.length_cons, show ((m.length + 1 : Nat) : Int) = m.length + 1 by omega]
  omega
def gM (v : Voice) : Int := if v.1 = 2 then 1 else 0
def gJ (s : Int) (v : Voice) : Int := if v.1 = 1 ∧ v.2.2 = s then 1 else 0
theorem gM_bd (v : Voice) : 0 ≤ gM v ∧ gM v ≤ 1 := by unfold gM; split <;> omega
theorem gJ_bd (s : Int) (v : Voice) : 0 ≤ gJ s v ∧ gJ s v ≤ 1 := by unfold gJ; split <;> omega
/-- How many members have not voted yet. -/
def freeT (t : Tally) (c : Contest) : Int := c.members - (t.m.map fun e => gM e.1).sum
/-- How many points juries may still give to a song. -/
def openT (t : Tally) (c : Contest) (s : Int) : Int := (c.juries - (t.m.map fun e => gJ s e.1).sum) * c.most
theorem freeT_bd {t : Tally} {c : Contest} (hV : CnV c) (hm : t.m.length ≤ 300) : -300 ≤ freeT t c ∧ freeT t c ≤ 1000 := by
 have := sumM_bd gM_bd t.m
 have := hV.mb
 unfold freeT
 omega
theorem openT_bd {t : Tally} {c : Contest} (hV : CnV c) (hm : t.m.length ≤ 300) (s : Int) : -2 ^ 20 ≤ openT t c s ∧ openT t c s ≤ 2 ^ 20 := by
 have h1 := sumM_bd (gJ_bd s) t.m
 have h2 := hV.jr
 have h3 := hV.ms
 unfold openT
 obtain ⟨k, hk⟩ : ∃ z, c.juries - (t.m.map fun e => gJ s e.1).sum = z := ⟨_, rfl⟩
 rw [hk]
 have e1 : k * c.most ≤ 8 * c.most := Int.mul_le_mul_of_nonneg_right (by omega) h3.1
 have e2 : -300 * c.most ≤ k * c.most := Int.mul_le_mul_of_nonneg_right (by omega) h3.1
 omega
theorem it_at {S : Sg} {id mid n : Nat} {seen : List Nat} {es : List PV} (h1 : S.store[id]? = some (some [.itst mid n seen])) (h2 : S.store[mid]? = some (some (.mark :: es))) (h3 : es.length = n) : iterAt S (.iter id) = some (id, mid, seen, es) := by
 simp only [iterAt, h1, h2, h3, if_true]
theorem snoc_nodup {seen : List Nat} {j : Nat} (h : seen.Nodup) (hj : j ∉ seen) : (seen ++ [j]).Nodup := by
 rw [List.nodup_append]
 exact ⟨h, by simp, fun x hx y hy e => hj (by simp at hy; rw [← hy, ← e]; exact hx)⟩
theorem snoc_lt {seen : List Nat} {j n : Nat} (h : ∀ x, x ∈ seen → x < n) (hj : j < n) : ∀ x, x ∈ seen ++ [j] → x < n := fun x hx => by
 rcases List.mem_append.1 hx with h' | h'
 ·exact h x h'
 simp at h'; rw [h']; exact hj
set_option maxHeartbeats 4000000 in
theorem free_pc (Y : YEnv) (σ : Sg) (id : Nat) (t : Tally) (c : Contest) (hd : σ.store[id]? = some (some (.mark :: mapE vcPV I t.m))) (hm : t.m.length ≤ 300) (hV : CnV c) :
 PC Tryz.prog Y 43 [tlPV id t, cnPV c] σ (I (freeT t c)) (σ) := by
 refine PC_of_W Tryz.func43 rfl (by kernel_rfl) Tryz.ntmps43 (by simp) fun hcl hca => ?_
 have hlt := lt_of_get hd
 have hVj := hV.jr
 have hVm := hV.mb
 have hVs := hV.ms
 refine W_sr [2, 3] fun R hR => ?_
 simp only [go_sem, Sg.get_ext, Sg.get_ext0, List.getElem?_cons_succ, List.getElem?_cons_zero, get_extx hd, vcPV, tlPV]
 refine hR _ _ ?_; clear hR R
 try simp only [go_sem, Sg.get_ext, Sg.get_ext0, List.getElem?_cons_succ, List.getElem?_cons_zero, get_extx hd, vcPV]
 refine W_sr [2, 5] fun R hR => ?_
 simp only [go_sem, Sg.get_ext, Sg.get_ext0, List.getElem?_cons_succ, List.getElem?_cons_zero, get_extx hd, vcPV]
 refine hR _ _ ?_; clear hR R
 try simp only [go_sem, Sg.get_ext, Sg.get_ext0, List.getElem?_cons_succ, List.getElem?_cons_zero, get_extx hd, vcPV]
 refine W_seq fun Z3 K3 => ?_
 refine W_sr [5, 11] fun R hR => ?_
 simp only [go_sem, Sg.get_ext, Sg.get_ext0, List.getElem?_cons_succ, List.getElem?_cons_zero, get_extx hd, vcPV, tl_map]
 refine hR _ _ ?_; clear hR R
 try simp only [go_sem, Sg.get_ext, Sg.get_ext0, List.getElem?_cons_succ, List.getElem?_cons_zero, get_extx hd, vcPV]
 refine W_block ?_
 refine W_loopT (α := (List Nat)) (fun (seen : List Nat) => [(5, I (c.members - sumE gM t.m seen))]) (fun (seen : List Nat) => σ.ext [some (tlCells id t), some (cnCells c), some [.itst id t.m.length seen]] []) (fun (seen : List Nat) => seen.Nodup ∧ ∀ j, j ∈ seen → j < t.m.length) (fun (seen : List Nat) => t.m.length - seen.length) ([]) (by simp only [sumE, List.map_nil, List.sum_nil, Int.sub_zero]; rfl) (by first | rfl | (simp only [go_sem]; done) | (simp only [go_sem]; rfl)) (⟨List.nodup_nil, fun j h => absurd h (by simp)⟩) ?_
 rintro seen ⟨hsn, hsl2⟩
 refine W_seq fun Z5 K5 => ?_
 refine W_next [5, 11, 13] (os := _) rfl rfl rfl (by decide) (it_at (Sg.get_ext ..) (get_extx hd) mapE_len) (fun K hR hall => ?_) (fun K hR j0 k0 u0 hj0 hns => ?_)
 · -- next: no more
  have hsA := sumE_all (g := gM) hsn hsl2 (by simpa [mapE_len] using hall)
  simp only [go_sem, Sg.get_ext, Sg.get_ext0, List.getElem?_cons_succ, List.getElem?_cons_zero, get_extx hd, vcPV]
  refine hR _ _ (K5 _ _ ?_); clear hR K
  try simp only [go_sem, Sg.get_ext, Sg.get_ext0, List.getElem?_cons_succ, List.getElem?_cons_zero, get_extx hd, vcPV]
  refine W_seq fun Z6 K6 => ?_
  refine W_cond_false rfl ?_
  refine W_exit ?_
  simp only [go_sem, Sg.get_ext, Sg.get_ext0, List.getElem?_cons_succ, List.getElem?_cons_zero, get_extx hd, vcPV]
  refine K3 _ _ ?_
  refine W_sr [4] fun R hR => ?_
  simp only [go_sem, Sg.get_ext, Sg.get_ext0, List.getElem?_cons_succ, List.getElem?_cons_zero, get_extx hd, vcPV]
  refine hR _ _ ?_; clear hR R
  try simp only [go_sem, Sg.get_ext, Sg.get_ext0, List.getElem?_cons_succ, List.getElem?_cons_zero, get_extx hd, vcPV]
  refine W_ret ?_
  simp only [go_sem, Sg.get_ext, Sg.get_ext0, List.getElem?_cons_succ, List.getElem?_cons_zero, get_extx hd, vcPV]
  refine ⟨.inr (by trivial), ?_⟩
  first | refine Fsa hcl rfl ?_ | refine Fse hcl rfl ?_
  try simp only [go_sem]
  all_goals
   unfold freeT; rw [← hsA]
 -- next: one more
 obtain ⟨e, he, rfl, rfl⟩ := mapE_get hj0
 obtain ⟨⟨v1, v2, v3⟩, kz⟩ := e
 have hjl0 := (List.getElem?_eq_some_iff.1 he).1
 have hsn' := snoc_nodup hsn hns
 have hsl' := snoc_lt hsl2 hjl0
 have hln : (seen ++ [j0]).length = seen.length + 1 := by simp
 have hjl' := nodup_len hsn' hsl'
 have hsE := fun g => sumE_snoc (g := g) (js := seen) he
 have hbdE := fun g hg => sumE_bd (g := g) (m := t.m) hg seen
 have hb1 := hbdE gM gM_bd
 have hw1 : IntKind.i64.wrap (c.members - sumE gM t.m seen - 1) = c.members - sumE gM t.m seen - 1 := wrapI (by omega) (by omega)
 simp only [go_sem, Sg.get_ext, Sg.get_ext0, List.getElem?_cons_succ, List.getElem?_cons_zero, get_extx hd, vcPV]
 refine hR _ _ (K5 _ _ ?_); clear hR K
 try simp only [go_sem, Sg.get_ext, Sg.get_ext0, List.getElem?_cons_succ, List.getElem?_cons_zero, get_extx hd, vcPV]
 refine W_seq fun Z8 K8 => ?_
 refine W_cond_true rfl ?_
 refine W_skip (K8 _ _ ?_)
 refine W_block ?_
 refine W_sr [5, 6, 11] fun R hR => ?_
 simp only [go_sem, Sg.get_ext, Sg.get_ext0, List.getElem?_cons_succ, List.getElem?_cons_zero, get_extx hd, vcPV, entryPV, iterAt, mapE_len, List.getLast?_concat, mapE_at he]
 refine hR _ _ ?_; clear hR R
 try simp only [go_sem, Sg.get_ext, Sg.get_ext0, List.getElem?_cons_succ, List.getElem?_cons_zero, get_extx hd, vcPV]
 refine W_sr [5, 11, 18] fun R hR => ?_
 simp only [go_sem, Sg.get_ext, Sg.get_ext0, List.getElem?_cons_succ, List.getElem?_cons_zero, get_extx hd, vcPV]
 refine hR _ _ ?_; clear hR R
 try simp only [go_sem, Sg.get_ext, Sg.get_ext0, List.getElem?_cons_succ, List.getElem?_cons_zero, get_extx hd, vcPV]
 refine W_cond rfl (fun c1 => ?_) (fun c1 => ?_)
 ·
  try simp only [nrm] at c1
  have hg : gM (v1, v2, v3) = 1 := by simp [gM, c1]
  refine W_region [5, 11] fun R hR => ?_
  simp only [go_sem, Sg.get_ext, Sg.get_ext0, List.getElem?_cons_succ, List.getElem?_cons_zero, get_extx hd, vcPV, hw1]
  try simp (disch := omega) only [wrapI, wrapU]
  refine hR _ _ ?_; clear hR R
  try simp only [go_sem, Sg.get_ext, Sg.get_ext0, List.getElem?_cons_succ, List.getElem?_cons_zero, get_extx hd, vcPV]
  refine ⟨seen ++ [j0], ?_, by (try simp only []); omega, ?_⟩
  ·refine Weak.trans (Weak.keep [5, 11]) ?_
   simp only [go_sem]
   refine Weak.trans (Weak.cutX 3 0 (by omega) (by omega) hcl (by simp only [go_sem] <;> omega) (by simp only [go_sem] <;> omega)) ?_
   simp only [go_sem]
   exact Weak.eq (by rw [hsE, hg]; first | rfl | (simp only [Int.add_zero]) | (rw [show c.members - (sumE gM t.m seen + 1) = c.members - sumE gM t.m seen - 1 by omega])) rfl
  try dsimp only
  exact ⟨hsn', hsl'⟩
 try simp only [nrm] at c1
 have hg : gM (v1, v2, v3) = 0 := by simp [gM, c1]
 refine W_skip ?_
 simp only [go_sem, Sg.get_ext, Sg.get_ext0, List.getElem?_cons_succ, List.getElem?_cons_zero, get_extx hd, vcPV]
 refine ⟨seen ++ [j0], ?_, by (try simp only []); omega, ?_⟩
 ·refine Weak.trans (Weak.keep [5, 11]) ?_
  simp only [go_sem]
  refine Weak.trans (Weak.cutX 3 0 (by omega) (by omega) hcl (by simp only [go_sem] <;> omega) (by simp only [go_sem] <;> omega)) ?_
  simp only [go_sem]
  exact Weak.eq (by rw [hsE, hg]; first | rfl | (simp only [Int.add_zero]) | (rw [show c.members - (sumE gM t.m seen + 1) = c.members - sumE gM t.m seen - 1 by omega])) rfl
 try dsimp only
 exact ⟨hsn', hsl'⟩
set_option maxHeartbeats 4000000 in
theorem open_pc (Y : YEnv) (σ : Sg) (id : Nat) (t : Tally) (c : Contest) (hd : σ.store[id]? = some (some (.mark :: mapE vcPV I t.m))) (hm : t.m.length ≤ 300) (hV : CnV c) (s : Int) :
 PC Tryz.prog Y 77 [tlPV id t, cnPV c, I s] σ (I (openT t c s)) (σ) := by
 refine PC_of_W Tryz.func77 rfl (by kernel_rfl) Tryz.ntmps77 (by simp) fun hcl hca => ?_
 have hlt := lt_of_get hd
 have hVj := hV.jr
 have hVm := hV.mb
 have hVs := hV.ms
 refine W_sr [2, 3, 4] fun R hR => ?_
 simp only [go_sem, Sg.get_ext, Sg.get_ext0, List.getElem?_cons_succ, List.getElem?_cons_zero, get_extx hd, vcPV, tlPV]
 refine hR _ _ ?_; clear hR R
 try simp only [go_sem, Sg.get_ext, Sg.get_ext0, List.getElem?_cons_succ, List.getElem?_cons_zero, get_extx hd, vcPV]
 refine W_sr [2, 3, 4, 7] fun R hR => ?_
 simp only [go_sem, Sg.get_ext, Sg.get_ext0, List.getElem?_cons_succ, List.getElem?_cons_zero, get_extx hd, vcPV]
 refine hR _ _ ?_; clear hR R
 try simp only [go_sem, Sg.get_ext, Sg.get_ext0, List.getElem?_cons_succ, List.getElem?_cons_zero, get_extx hd, vcPV]
 refine W_seq fun Z3 K3 => ?_
 refine W_sr [2, 4, 7, 13] fun R hR => ?_
 simp only [go_sem, Sg.get_ext, Sg.get_ext0, List.getElem?_cons_succ, List.getElem?_cons_zero, get_extx hd, vcPV, tl_map]
 refine hR _ _ ?_; clear hR R
 try simp only [go_sem, Sg.get_ext, Sg.get_ext0, List.getElem?_cons_succ, List.getElem?_cons_zero, get_extx hd, vcPV]
 refine W_block ?_
 refine W_loopT (α := (List Nat)) (fun (seen : List Nat) => [(7, I (c.juries - sumE (gJ s) t.m seen))]) (fun (seen : List Nat) => σ.ext [some (tlCells id t), some (cnCells c), some [.itst id t.m.length seen]] []) (fun (seen : List Nat) => seen.Nodup ∧ ∀ j, j ∈ seen → j < t.m.length) (fun (seen : List Nat) => t.m.length - seen.length) ([]) (by simp only [sumE, List.map_nil, List.sum_nil, Int.sub_zero]; rfl) (by first | rfl | (simp only [go_sem]; done) | (simp only [go_sem]; rfl)) (⟨List.nodup_nil, fun j h => absurd h (by simp)⟩) ?_
 rintro seen ⟨hsn, hsl2⟩
 refine W_seq fun Z5 K5 => ?_
 refine W_next [2, 4, 7, 13, 15] (os := _) rfl rfl rfl (by decide) (it_at (Sg.get_ext ..) (get_extx hd) mapE_len) (fun K hR hall => ?_) (fun K hR j0 k0 u0 hj0 hns => ?_)
 · -- next: no more
  have hsA := sumE_all (g := gJ s) hsn hsl2 (by simpa [mapE_len] using hall)
  have hob := openT_bd hV hm s
  have hoe : openT t c s = (c.juries - sumE (gJ s) t.m seen) * c.most := by unfold openT; rw [← hsA]
  rw [hoe] at hob
  have hwo : IntKind.i64.wrap ((c.juries - sumE (gJ s) t.m seen) * c.most) = (c.juries - sumE (gJ s) t.m seen) * c.most := wrapI (by omega) (by omega)
  simp only [go_sem, Sg.get_ext, Sg.get_ext0, List.getElem?_cons_succ, List.getElem?_cons_zero, get_extx hd, vcPV]
  refine hR _ _ (K5 _ _ ?_); clear hR K
  try simp only [go_sem, Sg.get_ext, Sg.get_ext0, List.getElem?_cons_succ, List.getElem?_cons_zero, get_extx hd, vcPV]
  refine W_seq fun Z6 K6 => ?_
  refine W_cond_false rfl ?_
  refine W_exit ?_
  simp only [go_sem, Sg.get_ext, Sg.get_ext0, List.getElem?_cons_succ, List.getElem?_cons_zero, get_extx hd, vcPV]
  refine K3 _ _ ?_
  refine W_sr [6] fun R hR => ?_
  simp only [go_sem, Sg.get_ext, Sg.get_ext0, List.getElem?_cons_succ, List.getElem?_cons_zero, get_extx hd, vcPV, hwo]
  try simp (disch := omega) only [wrapI, wrapU]
  refine hR _ _ ?_; clear hR R
  try simp only [go_sem, Sg.get_ext, Sg.get_ext0, List.getElem?_cons_succ, List.getElem?_cons_zero, get_extx hd, vcPV]
  refine W_ret ?_
  simp only [go_sem, Sg.get_ext, Sg.get_ext0, List.getElem?_cons_succ, List.getElem?_cons_zero, get_extx hd, vcPV]
  refine ⟨.inr (by trivial), ?_⟩
  first | refine Fsa hcl rfl ?_ | refine Fse hcl rfl ?_
  try simp only [go_sem]
  all_goals
   rw [hoe]
 -- next: one more
 obtain ⟨e, he, rfl, rfl⟩ := mapE_get hj0
 obtain ⟨⟨v1, v2, v3⟩, kz⟩ := e
 have hjl0 := (List.getElem?_eq_some_iff.1 he).1
 have hsn' := snoc_nodup hsn hns
 have hsl' := snoc_lt hsl2 hjl0
 have hln : (seen ++ [j0]).length = seen.length + 1 := by simp
 have hjl' := nodup_len hsn' hsl'
 have hsE := fun g => sumE_snoc (g := g) (js := seen) he
 have hbdE := fun g hg => sumE_bd (g := g) (m := t.m) hg seen
 have hb1 := hbdE (gJ s) (gJ_bd s)
 have hw1 : IntKind.i64.wrap (c.juries - sumE (gJ s) t.m seen - 1) = c.juries - sumE (gJ s) t.m seen - 1 := wrapI (by omega) (by omega)
 simp only [go_sem, Sg.get_ext, Sg.get_ext0, List.getElem?_cons_succ, List.getElem?_cons_zero, get_extx hd, vcPV]
 refine hR _ _ (K5 _ _ ?_); clear hR K
 try simp only [go_sem, Sg.get_ext, Sg.get_ext0, List.getElem?_cons_succ, List.getElem?_cons_zero, get_extx hd, vcPV]
 refine W_seq fun Z8 K8 => ?_
 refine W_cond_true rfl ?_
 refine W_skip (K8 _ _ ?_)
 refine W_block ?_
 refine W_sr [2, 4, 7, 8, 13] fun R hR => ?_
 simp only [go_sem, Sg.get_ext, Sg.get_ext0, List.getElem?_cons_succ, List.getElem?_cons_zero, get_extx hd, vcPV, entryPV, iterAt, mapE_len, List.getLast?_concat, mapE_at he]
 refine hR _ _ ?_; clear hR R
 try simp only [go_sem, Sg.get_ext, Sg.get_ext0, List.getElem?_cons_succ, List.getElem?_cons_zero, get_extx hd, vcPV]
 refine W_seq fun Z10 K10 => ?_
 refine W_regionJ [2, 4, 7, 13, 26] [(26, .bool (decide (v1 = 1) && decide (v3 = s)))] ?_ fun R hR => ?_
 ·refine K10 _ _ ?_
  simp only [go_sem, Sg.get_ext, Sg.get_ext0, List.getElem?_cons_succ, List.getElem?_cons_zero, get_extx hd, vcPV]
  refine W_cond rfl (fun c1 => ?_) (fun c1 => ?_)
  ·
   try simp only [nrm] at c1
   have hg : gJ s (v1, v2, v3) = 1 := by simp at c1; simp [gJ, c1]
   refine W_region [2, 4, 7, 13] fun R hR => ?_
   simp only [go_sem, Sg.get_ext, Sg.get_ext0, List.getElem?_cons_succ, List.getElem?_cons_zero, get_extx hd, vcPV, hw1]
   try simp (disch := omega) only [wrapI, wrapU]
   refine hR _ _ ?_; clear hR R
   try simp only [go_sem, Sg.get_ext, Sg.get_ext0, List.getElem?_cons_succ, List.getElem?_cons_zero, get_extx hd, vcPV]
   refine ⟨seen ++ [j0], ?_, by (try simp only []); omega, ?_⟩
   ·refine Weak.trans (Weak.keep [2, 4, 7, 13]) ?_
    simp only [go_sem]
    refine Weak.trans (Weak.cutX 3 0 (by omega) (by omega) hcl (by simp only [go_sem] <;> omega) (by simp only [go_sem] <;> omega)) ?_
    simp only [go_sem]
    exact Weak.eq (by rw [hsE, hg]; first | rfl | (simp only [Int.add_zero]) | (rw [show c.juries - (sumE (gJ s) t.m seen + 1) = c.juries - sumE (gJ s) t.m seen - 1 by omega])) rfl
   try dsimp only
   exact ⟨hsn', hsl'⟩
  try simp only [nrm] at c1
  have hg : gJ s (v1, v2, v3) = 0 := by unfold gJ; rw [if_neg (by intro h; have h1 := h.1; have h2 := h.2; simp only at h1 h2; subst h1 h2; simp at c1)]
  refine W_skip ?_
  simp only [go_sem, Sg.get_ext, Sg.get_ext0, List.getElem?_cons_succ, List.getElem?_cons_zero, get_extx hd, vcPV]
  refine ⟨seen ++ [j0], ?_, by (try simp only []); omega, ?_⟩
  ·refine Weak.trans (Weak.keep [2, 4, 7, 13]) ?_
   simp only [go_sem]
   refine Weak.trans (Weak.cutX 3 0 (by omega) (by omega) hcl (by simp only [go_sem] <;> omega) (by simp only [go_sem] <;> omega)) ?_
   simp only [go_sem]
   exact Weak.eq (by rw [hsE, hg]; first | rfl | (simp only [Int.add_zero]) | (rw [show c.juries - (sumE (gJ s) t.m seen + 1) = c.juries - sumE (gJ s) t.m seen - 1 by omega])) rfl
  try dsimp only
  exact ⟨hsn', hsl'⟩
 simp only [go_sem, Sg.get_ext, Sg.get_ext0, List.getElem?_cons_succ, List.getElem?_cons_zero, get_extx hd, vcPV]
 refine GWant_split (fun g1 => ?_) (fun g1 => ?_)
 ·try simp only [Bool.not_eq_true', Bool.not_eq_false'] at g1
  have n1 := g1; try simp only [nrm] at n1
  simp only [go_sem, Sg.get_ext, Sg.get_ext0, List.getElem?_cons_succ, List.getElem?_cons_zero, get_extx hd, vcPV, g1]
  refine hR _ ?_
  all_goals try simp only [go_sem, Sg.get_ext, Sg.get_ext0, List.getElem?_cons_succ, List.getElem?_cons_zero, get_extx hd, vcPV]
  all_goals
   first | rfl | (simp [*]; done) | (simp [*]; rfl) | (simp_all; done)
 try simp only [Bool.not_eq_true', Bool.not_eq_false'] at g1
 have n1 := g1; try simp only [nrm] at n1
 simp only [go_sem, Sg.get_ext, Sg.get_ext0, List.getElem?_cons_succ, List.getElem?_cons_zero, get_extx hd, vcPV, g1]
 refine hR _ ?_
 all_goals try simp only [go_sem, Sg.get_ext, Sg.get_ext0, List.getElem?_cons_succ, List.getElem?_cons_zero, get_extx hd, vcPV]
 all_goals
  first | rfl | (simp [*]; done) | (simp [*]; rfl) | (simp_all; done)
/-- How many of some songs are ahead of a standing. -/
def cntA (t : Tally) (own : Std) (s : Int) : List Int → Int
 | [] => 0
 | x :: l => (if x ≠ s ∧ aheadS (stdT t x 0 0) own < 0 then 1 else 0) + cntA t own s l
theorem cntA_snoc (t : Tally) (own : Std) (s x : Int) : ∀ l : List Int, cntA t own s (l ++ [x]) = cntA t own s l + (if x ≠ s ∧ aheadS (stdT t x 0 0) own < 0 then 1 else 0) := by
 intro l
 induction l with
 | nil => simp [cntA]
 | cons y l ih => simp only [List.cons_append, cntA, ih]; omega
theorem cntA_bd (t : Tally) (own : Std) (s : Int) : ∀ l : List Int, 0 ≤ cntA t own s l ∧ cntA t own s l ≤ l.length := by
 intro l
 induction l with
 | nil => simp [cntA]
 | cons y l ih =>
  simp only [cntA, List.length_cons, show ((l.length + 1 : Nat) : Int) = l.length + 1 by omega]
  split <;> omega
/-- May a song be kept, with so many more votes? -/
def mayT (t : Tally) (c : Contest) (s v : Int) : Bool := decide (cntA t (stdT t s (openT t c s) v) s t.songs < t.rd.keep)
set_option maxHeartbeats 2000000 in
theorem others_pc (Y : YEnv) (σ : Sg) (id : Nat) (t : Tally) (s : Int) :
 PC Tryz.prog Y 76 [tlPV id t, I s] σ (.func (.func 92) [] [.ptr σ.store.length 0, .ptr (σ.store.length + 1) 0]) (σ.ext [some (tlCells id t), some [I s]] []) := by
 refine PC_of_W Tryz.func76 rfl (by kernel_rfl) Tryz.ntmps76 (by simp) fun hcl hca => ?_
 have hid : id < σ.store.length := C_tl.mp (hca (tlPV id t) (by simp))
 refine W_sr [2, 3] fun R hR => ?_
 simp only [go_sem, tlPV]
 refine hR _ _ ?_; clear hR R
 try simp only [go_sem]
 refine W_sr [4] fun R hR => ?_
 simp only [go_sem]
 refine hR _ _ ?_; clear hR R
 try simp only [go_sem]
 refine W_ret ?_
 simp only [go_sem]
 refine ⟨.inr (by trivial), ?_⟩
 refine Fin_ext (l := [_, _]) (rm := []) 2 0 hcl rfl (Wk_eq rfl ?_) ?_
 ·simp only [go_sem] <;> omega
 ·show CleanLs _ _ _ _
  simp only [go_sem] <;> omega
 try simp only [go_sem]
 all_goals
  skip
set_option maxHeartbeats 2000000 in
theorem others1_pc (Y : YEnv) (σ : Sg) (y i1 i2 id : Nat) (t : Tally) (s : Int) (hsl : t.songs.length ≤ 8) (τ : Nat → Sg)
 (hst : ∀ k, k ≤ t.songs.length → (τ k).store[i1]? = some (some (tlCells id t))) (hst2 : ∀ k, k ≤ t.songs.length → (τ k).store[i2]? = some (some [I s]))
 (hY : ∀ k x, t.songs[k]? = some x → x ≠ s → Y y [I x] (τ k) true (τ (k + 1))) (hS : ∀ k, t.songs[k]? = some s → τ k = τ (k + 1))
 (hlen : (τ 0).store.length ≤ (τ t.songs.length).store.length) (hr : (τ 0).rooms.length ≤ (τ t.songs.length).rooms.length) (hy : (τ t.songs.length).ys.length = (τ 0).ys.length) (hcl' : CleanSg (τ 0) → CleanSg (τ t.songs.length)) :
 PC Tryz.prog Y 92 [.yield y, .ptr i1 0, .ptr i2 0] (τ 0) (.tuple []) (τ t.songs.length) := by
 refine PC_of_W Tryz.func92 rfl (by kernel_rfl) Tryz.ntmps92 (by simp) fun hcl hca => ?_
 have hs00 := hst 0 (Nat.zero_le _)
 refine W_sr [0, 2, 7, 8, 9] fun R hR => ?_
 simp only [go_sem, ldS_at hs00, tl_songs]
 refine hR _ _ ?_; clear hR R
 try simp only [go_sem]
 refine W_block ?_
 refine W_loopT (α := Nat) (fun (k : Nat) => [(9, I k)]) (fun (k : Nat) => τ k) (fun (k : Nat) => k ≤ t.songs.length) (fun (k : Nat) => t.songs.length - k) (0) rfl (by first | rfl | (simp only [go_sem]; done) | (simp only [go_sem]; rfl)) (Nat.zero_le _) ?_
 rintro k hk
 refine W_sr [0, 2, 7, 8, 9, 10] fun R hR => ?_
 simp only [go_sem]
 refine hR _ _ ?_; clear hR R
 try simp only [go_sem]
 refine W_seq fun Z3 K3 => ?_
 refine W_cond rfl (fun c1 => ?_) (fun c1 => ?_)
 ·
  try simp only [nrm] at c1
  have hk' : k < t.songs.length := by first | omega | (simp at c1; omega)
  have hs2 := hst2 k (by omega)
  obtain ⟨x, hx⟩ : ∃ z, t.songs[k]? = some z := ⟨t.songs[k]'(by omega), by simp⟩
  refine W_skip (K3 _ _ ?_)
  refine W_seq fun Z4 K4 => ?_
  refine W_block ?_
  refine W_sr [0, 2, 5, 7, 8, 9] fun R hR => ?_
  simp only [go_sem, hx]
  refine hR _ _ ?_; clear hR R
  try simp only [go_sem, hx]
  refine W_sr [0, 2, 7, 8, 9, 21] fun R hR => ?_
  simp only [go_sem, hx, ldS_at hs2]
  refine GWant_split (fun g1 => ?_) (fun g1 => ?_)
  ·try simp only [Bool.not_eq_true', Bool.not_eq_false'] at g1
   have n1 := g1; try simp only [nrm] at n1
   have hne : x ≠ s := by simpa using g1
   simp only [go_sem, hx, ldS_at hs2, g1]
   refine GYield_of (hY k x hx hne) ?_
   simp only [go_sem, hx, ldS_at hs2, g1]
   refine hR _ _ ?_; clear hR R
   try simp only [go_sem, hx]
   refine W_cond_false rfl ?_
   refine W_skip (K4 _ _ ?_)
   refine W_region [0, 2, 7, 8, 9] fun R hR => ?_
   simp only [go_sem, hx]
   try simp (disch := omega) only [wrapI, wrapU]
   refine hR _ _ ?_; clear hR R
   try simp only [go_sem, hx]
   refine ⟨k + 1, ?_, by (try simp only []); omega, ?_⟩
   ·first | exact Weak.refl | exact Weak.eq rfl (hS k hx) | exact Weak.eq rfl rfl
   try dsimp only
   omega
  try simp only [Bool.not_eq_true', Bool.not_eq_false'] at g1
  have n1 := g1; try simp only [nrm] at n1
  have hse : x = s := by simpa using g1
  subst hse
  simp only [go_sem, hx, ldS_at hs2, g1]
  refine hR _ _ ?_; clear hR R
  try simp only [go_sem, hx]
  refine W_cond_false rfl ?_
  refine W_skip (K4 _ _ ?_)
  refine W_region [0, 2, 7, 8, 9] fun R hR => ?_
  simp only [go_sem, hx]
  try simp (disch := omega) only [wrapI, wrapU]
  refine hR _ _ ?_; clear hR R
  try simp only [go_sem, hx]
  refine ⟨k + 1, ?_, by (try simp only []); omega, ?_⟩
  ·first | exact Weak.refl | exact Weak.eq rfl (hS k hx) | exact Weak.eq rfl rfl
  try dsimp only
  omega
 try simp only [nrm] at c1
 have hke : k = t.songs.length := by first | omega | (simp at c1; omega)
 subst hke
 refine W_exit ?_
 simp only [go_sem]
 try simp only [go_sem]
 refine ⟨.inl (by trivial), ?_⟩
 exact Fin_more (rs := []) (hcl' hcl) hlen hr hy rfl (Wk.of_clean (.tuple _ Clean.all_nil))
 try simp only [go_sem]
 all_goals
  skip
set_option maxHeartbeats 8000000 in
theorem may_pc (Y : YEnv) (σ : Sg) (id : Nat) (t : Tally) (c : Contest) (hd : σ.store[id]? = some (some (.mark :: mapE vcPV I t.m))) (hm : t.m.length ≤ 300) (hV : CnV c) (hT : TlB t) (sn : Nat) (hs : sn < 8) (v : Int) (hv : -2 ^ 20 ≤ v ∧ v ≤ 2 ^ 20) :
 PC Tryz.prog Y 42 [tlPV id t, cnPV c, I sn, I v] σ (.bool (mayT t c sn v)) (σ) := by
 refine PC_of_W Tryz.func42 rfl (by kernel_rfl) Tryz.ntmps42 (by simp) fun hcl hca => ?_
 have hid : id < σ.store.length := lt_of_get hd
 have hob := openT_bd hV hm sn
 have hsl := hT.sl
 obtain ⟨own, hown⟩ : ∃ z, stdT t sn (openT t c sn) v = z := ⟨_, rfl⟩
 have hcb := cntA_bd t own sn
 refine W_sr [2, 3, 4, 5] fun R hR => ?_
 simp only [go_sem, tl_keep, tlPV]
 refine hR _ _ ?_; clear hR R
 try simp only [go_sem, tl_keep]
 refine W_seq fun Z2 K2 => ?_
 refine W_draw [2, 4, 9] [0, 1, 2, 3, 4, 5, 6, 7, 8, 9] [(0, 7), (1, 7), (6, 5)] [[], [], [], [], [], [2, 3, 4], [], [0, 1, 2, 3, 4, 5, 6], [], [0, 1, 2, 3, 4, 5, 6, 7, 8]] mixed (by kernel_rfl) fun R hR => ?_
 simp only [go_sem, tl_keep, tlPV, tl_len, tl_take21]
 refine GCall_of (open_pc Y _ id t c (get_extx hd) hm hV sn) ?_
 simp only [go_sem, tl_keep, tlPV, tl_len, tl_take21]
 refine GCall_of (PC.val (v' := sdPV own) (standing_pc Y _ id t hT sn hs (openT t c sn) v hob hv) (by rw [hown])) ?_
 simp only [go_sem, tl_keep, tlPV, tl_len, tl_take21]
 try refine And.intro (by repeat' (first | refine And.intro ?_ ?_ | exact GOr_right (fun _ => by simp only [go_sem, tl_keep, tlPV, tl_len, tl_take21]))) ?_
 refine hR _ _ (K2 _ _ ?_); clear hR R; try clear K2 Z2
 try simp only [go_sem, tl_keep]
 refine W_sr [2, 4, 9, 10] fun R hR => ?_
 simp only [go_sem, tl_keep]
 refine hR _ _ ?_; clear hR R
 try simp only [go_sem, tl_keep]
 refine W_seq fun Z4 K4 => ?_
 refine W_sr [4, 9, 10, 22] fun R hR => ?_
 simp only [go_sem, tl_keep, tlPV, tl_len, tl_take21]
 refine GCall_of (others_pc Y _ id t sn) ?_
 simp only [go_sem, tl_keep, tlPV, tl_len, tl_take21]
 refine hR _ _ ?_; clear hR R
 try simp only [go_sem, tl_keep]
 refine W_block ?_
 let L : List Int → List (Option (List PV)) := fun p => [some (tlCells id t), some (cnCells c), some (sdCells own), some [I (cntA t own sn p)], some (tlCells id t), some [I sn]]
 let so : Nat → Sg := fun k => σ.ext (L (t.songs.take k)) [] [.ready]
 refine W_rangeFunc (gf := 92) (v := .tuple []) (s := .ready) (σ5 := so t.songs.length) rfl (by simp) (fun args τ b' τ' => ∃ k x, t.songs[k]? = some x ∧ x ≠ (sn : Int) ∧ args = [I x] ∧ b' = true ∧ τ = so k ∧ τ' = so (k + 1)) ?_ ?_ ?_ ?_ ?_
 ·rintro args τ b τ' ⟨k, x, hx, hne, rfl, rfl, rfl, rfl⟩
  refine ⟨rfl, ?_, ?_⟩
  ·simp only [so, go_sem]
  simp only [so, L, go_sem]
  refine W_region [4, 9, 10, 11] fun R hR => ?_
  simp only [go_sem, tl_keep, putAll]
  refine hR _ _ ?_; clear hR R
  try simp only [go_sem, tl_keep, putAll]
  have hk' : k < t.songs.length := (List.getElem?_eq_some_iff.1 hx).1
  have hxb := hT.sg x (List.mem_of_getElem? hx)
  obtain ⟨xn, hxn⟩ : ∃ z : Nat, x = z := ⟨x.toNat, by omega⟩
  subst hxn
  have hx8 : xn < 8 := by omega
  have hsn : t.songs.take (k + 1) = t.songs.take k ++ [(xn : Int)] := by rw [List.take_add_one, hx]; rfl
  have hcn := cntA_snoc t own sn xn (t.songs.take k)
  rw [← hsn] at hcn
  have hqb := hcb (t.songs.take k)
  have htl : (t.songs.take k).length = k := by rw [List.length_take]; omega
  obtain ⟨q, hq⟩ : ∃ z, cntA t own sn (t.songs.take k) = z := ⟨_, rfl⟩
  rw [hq] at hcn hqb
  simp only [hq]
  have hwq : IntKind.i64.wrap (q + 1) = q + 1 := wrapI (by omega) (by omega)
  refine W_post_weak ?_
  refine W_block ?_
  refine W_seq fun Z6 K6 => ?_
  refine W_draw [10, 29] [0, 1, 2, 3, 4, 5] [(3, 2)] [[], [], [0, 1], [], [0, 1, 2, 3], [0, 1, 2, 3, 4]] mixed (by kernel_rfl) fun R hR => ?_
  simp only [go_sem, tl_keep, putAll, tlPV, tl_len, tl_take21]
  refine GCall_of (standing_pc Y _ id t hT xn hx8 0 0 (by omega) (by omega)) ?_
  simp only [go_sem, tl_keep, putAll, tlPV, tl_len, tl_take21]
  refine GCall_of (ahead_pc Y _ (stdT t xn 0 0) own) ?_
  simp only [go_sem, tl_keep, putAll, tlPV, tl_len, tl_take21]
  try refine And.intro (by repeat' (first | refine And.intro ?_ ?_ | exact GOr_right (fun _ => by simp only [go_sem, tl_keep, putAll, tlPV, tl_len, tl_take21]))) ?_
  refine hR _ _ (K6 _ _ ?_); clear hR R; try clear K6 Z6
  try simp only [go_sem, tl_keep, putAll]
  refine W_cond rfl (fun c1 => ?_) (fun c1 => ?_)
  ·
   try simp only [nrm] at c1
   refine W_region [] fun R hR => ?_
   simp only [go_sem, tl_keep, putAll, hwq]
   try simp (disch := omega) only [wrapI, wrapU]
   refine hR _ _ ?_; clear hR R
   try simp only [go_sem, tl_keep, putAll]
   rw [if_pos ⟨hne, c1⟩] at hcn
   refine ⟨[], _, Weak.keep [], ?_⟩
   simp only [RoundEnd, so, L, hcn, go_sem]
  try simp only [nrm] at c1
  refine W_skip ?_
  simp only [go_sem, tl_keep, putAll]
  rw [if_neg (by intro h; exact c1 h.2), Int.add_zero] at hcn
  refine ⟨[], _, Weak.keep [], ?_⟩
  simp only [RoundEnd, so, L, hcn, go_sem]
 ·have hst := others1_pc (Y.at σ.ys.length (fun args τ b' τ' => ∃ k x, t.songs[k]? = some x ∧ x ≠ (sn : Int) ∧ args = [I x] ∧ b' = true ∧ τ = so k ∧ τ' = so (k + 1))) σ σ.ys.length (σ.store.length + 4) (σ.store.length + 5) id t sn hT.sl so
   (fun k _ => by simp only [so, L]; exact Sg.get_ext ..) (fun k _ => by simp only [so, L]; exact Sg.get_ext ..)
   (fun k x h1 h2 => by rw [YEnv.at_self]; exact ⟨k, x, h1, h2, rfl, rfl, rfl, rfl⟩)
   (fun k h1 => by simp only [so, L]; rw [List.take_add_one, h1, Option.toList_some, cntA_snoc, if_neg (by simp), Int.add_zero])
   (by simp only [so, L, go_sem] <;> omega) (by simp only [so, L, go_sem] <;> omega) (by simp only [so, L, go_sem])
   (fun _ => CleanSg_ext hcl (by show CleanLs _ _ _ _; simp only [L, go_sem] <;> omega))
  simp only [so, L, List.take_zero, cntA, go_sem] at hst ⊢
  exact hst
 ·simp only [so, L, go_sem]
 ·simp only [go_sem]
  exact CleanCut_ext hcl (by simp only [so, L, go_sem] <;> omega) (by simp only [so, L, go_sem, Nat.le_add_right]) (by omega) (by show CleanLs _ _ _ _; simp only [so, L, go_sem] <;> omega)
 simp only [AfterLoop, so, L, go_sem]
 simp only [List.take_length]
 refine K4 _ _ ?_
 refine W_sr [8] fun R hR => ?_
 simp only [go_sem, tl_keep]
 refine hR _ _ ?_; clear hR R
 try simp only [go_sem, tl_keep]
 refine W_ret ?_
 simp only [go_sem, tl_keep]
 refine ⟨.inr (by trivial), ?_⟩
 first | refine Fsa hcl rfl ?_ | refine Fse hcl rfl ?_
 try simp only [go_sem]
 all_goals
  simp only [mayT, hown]
theorem Weak.readJ {σ : Sg} {A : List (Option (List PV))} {rm : List Nat} {ys : List LState} {N : Nat} {lo : Nat × Nat} {E : Env} {out : List Int} {j : Nat} (hj : A[j]? = some (some [glI (σ.store.length + A.length) out])) :
 Weak N lo E (σ.ext (A ++ gsI out) rm ys) E (σ.ext (A.set j (some [.isl (out.map I) .ro]) ++ List.replicate out.length none) rm ys) := by
 have hlt := (List.getElem?_eq_some_iff.1 hj).1
 cases out with
 | nil =>
  have h := Weak.ungnilX (N := N) (lo := lo) (E := E) (σ := σ) (l := A) (rm := rm) (ys := ys) (j := j) (off := 0) hj rfl
  simpa [gsI] using h
 | cons x out =>
  have hlen : A.length + out.length = (A ++ List.replicate out.length (none : Option (List PV))).length := by simp
  have h := Weak.freezeX (N := N) (lo := lo) (E := E) (σ := σ) (l := A ++ gsI (x :: out)) (rm := rm) (ys := ys) (j := j) (k := A.length + out.length) (off := 0) (ccs := [glI (σ.store.length + A.length) (x :: out)]) (len := (x :: out).length) (es := 1) (rest := []) (m := (x :: out).map I) (by omega) (by rw [List.getElem?_append_left hlt]; exact hj) (by simp only [glI, Nat.add_assoc]; rfl)
   (by rw [rowC_ints, List.append_nil]; exact gsI_get) (by simp) (fun q hq => by obtain ⟨y, _, rfl⟩ := List.mem_map.1 hq; rfl)
  have e : ((A ++ gsI (x :: out)).set (A.length + out.length) none).set j (some ([glI (σ.store.length + A.length) (x :: out)].set 0 (.isl ((x :: out).map I) .ro))) = A.set j (some [.isl ((x :: out).map I) .ro]) ++ List.replicate (x :: out).length none := by
   rw [gsI_set, List.set_append_left _ _ hlt]
   simp [List.replicate_succ']
  rw [e] at h
  exact h
theorem len_glI {n : Nat} {out : List Int} : lenPV Tryz.prog 42 (glI n out) = some (.int .i64 out.length) := by
 cases out with
 | nil => exact lenn42
 | cons x out => exact leng42
/-- The first number that something is true of. -/
def findV (p : Nat → Bool) : Nat → Nat → Option Nat
 | 0, _ => none
 | k + 1, i => if p i then some i else findV p k (i + 1)
theorem findV_lt {p : Nat → Bool} : ∀ {k i v : Nat}, findV p k i = some v → i ≤ v ∧ v < i + k ∧ p v = true := by
 intro k
 induction k with
 | zero => intro i v h; cases h
 | succ k ih =>
  intro i v h
  simp only [findV] at h
  split at h
  ·injection h with h; subst h; exact ⟨Nat.le_refl _, by omega, by assumption⟩
  have := ih h; exact ⟨by omega, by omega, this.2.2⟩
/-- Is a song ahead with all points that it may get, and so many votes? -/
def aheadV (t : Tally) (c : Contest) (own : Std) (x : Int) (v : Nat) : Bool := decide (aheadS (stdT t x (openT t c x) v) own < 0)
/-- The votes that a song needs to come ahead of a standing, if there are enough. -/
def needOne (t : Tally) (c : Contest) (own : Std) (s fr x : Int) : List Int := if x = s then [] else match findV (aheadV t c own x) (fr + 1).toNat 0 with
 | some v => [(v : Int)]
 | none => []
theorem needOne_len (t : Tally) (c : Contest) (own : Std) (s fr x : Int) : (needOne t c own s fr x).length ≤ 1 := by
 unfold needOne
 split
 ·simp
 split <;> simp
theorem needOne_bd {t : Tally} {c : Contest} {own : Std} {s fr x y : Int} (h : y ∈ needOne t c own s fr x) : 0 ≤ y ∧ y ≤ fr := by
 unfold needOne at h
 split at h
 ·cases h
 split at h
 ·rename_i v hv
  simp only [List.mem_singleton] at h
  have := findV_lt hv
  omega
 cases h
def needsT (t : Tally) (c : Contest) (own : Std) (s fr : Int) (l : List Int) : List Int := l.flatMap (needOne t c own s fr)
theorem needsT_snoc (t : Tally) (c : Contest) (own : Std) (s fr x : Int) (l : List Int) : needsT t c own s fr (l ++ [x]) = needsT t c own s fr l ++ needOne t c own s fr x := by simp [needsT]
theorem needsT_len (t : Tally) (c : Contest) (own : Std) (s fr : Int) : ∀ l : List Int, (needsT t c own s fr l).length ≤ l.length := by
 intro l
 induction l with
 | nil => simp [needsT]
 | cons x l ih =>
  have := needOne_len t c own s fr x
  simp only [needsT, List.flatMap_cons, List.length_append, List.length_cons] at ih ⊢
  omega
theorem needsT_bd {t : Tally} {c : Contest} {own : Std} {s fr y : Int} {l : List Int} (h : y ∈ needsT t c own s fr l) : 0 ≤ y ∧ y ≤ fr := by
 obtain ⟨x, _, hx⟩ := List.mem_flatMap.1 h
 exact needOne_bd hx
/-- Is a song kept whatever happens? -/
def mustT (t : Tally) (c : Contest) (s : Int) : Bool :=
 let nd := needsT t c (stdT t s 0 0) s (freeT t c) t.songs
 if (nd.length : Int) < t.rd.keep then true else decide (freeT t c < ((sortI nd).take t.rd.keep.toNat).sum)
set_option maxHeartbeats 16000000 in
theorem must_pc (Y : YEnv) (σ : Sg) (id : Nat) (t : Tally) (c : Contest) (hd : σ.store[id]? = some (some (.mark :: mapE vcPV I t.m))) (hm : t.m.length ≤ 300) (hV : CnV c) (hT : TlB t) (sn : Nat) (hs : sn < 8) :
 PC Tryz.prog Y 41 [tlPV id t, cnPV c, I sn] σ (.bool (mustT t c sn)) (σ) := by
 refine PC_of_W Tryz.func41 rfl (by kernel_rfl) Tryz.ntmps41 (by simp) fun hcl hca => ?_
 have hid : id < σ.store.length := lt_of_get hd
 have hsl := hT.sl
 have hkp := hT.kp
 obtain ⟨kn, hkn⟩ : ∃ z : Nat, t.rd.keep = z := ⟨t.rd.keep.toNat, by omega⟩
 obtain ⟨own, hown⟩ : ∃ z, stdT t sn 0 0 = z := ⟨_, rfl⟩
 have hfb := freeT_bd hV hm
 obtain ⟨fr, hfr⟩ : ∃ z, freeT t c = z := ⟨_, rfl⟩
 rw [hfr] at hfb
 have hfw : IntKind.i64.wrap (fr + 1) = fr + 1 := wrapI (by omega) (by omega)
 have hmust : mustT t c sn = if ((needsT t c own sn fr t.songs).length : Int) < t.rd.keep then true else decide (fr < ((sortI (needsT t c own sn fr t.songs)).take t.rd.keep.toNat).sum) := by unfold mustT; rw [hown, hfr]
 have hndl := needsT_len t c own sn fr
 refine W_sr [2, 3, 4] fun R hR => ?_
 simp only [go_sem, tl_keep, tlPV]
 refine hR _ _ ?_; clear hR R
 try simp only [go_sem, tl_keep]
 refine W_seq fun Z2 K2 => ?_
 refine W_draw [2, 3, 4, 7, 8] [0, 1, 2, 3, 4, 5, 6, 7, 8, 9] [(3, 2), (4, 2)] [[], [], [0, 1], [], [], [0, 1, 2, 3, 4], [], [], [0, 1, 2, 3, 4, 5, 6, 7], [0, 1, 2, 3, 4, 5, 6, 7, 8]] mixed (by kernel_rfl) fun R hR => ?_
 simp only [go_sem, tl_keep, tlPV, tl_len, tl_take21]
 refine GCall_of (PC.val (v' := sdPV own) (standing_pc Y _ id t hT sn hs 0 0 (by omega) (by omega)) (by rw [hown])) ?_
 simp only [go_sem, tl_keep, tlPV, tl_len, tl_take21]
 refine GCall_of (PC.val (v' := I fr) (free_pc Y _ id t c (get_extx hd) hm hV) (by rw [hfr])) ?_
 simp only [go_sem, tl_keep, tlPV, tl_len, tl_take21]
 try refine And.intro (by repeat' (first | refine And.intro ?_ ?_ | exact GOr_right (fun _ => by simp only [go_sem, tl_keep, tlPV, tl_len, tl_take21]))) ?_
 refine hR _ _ (K2 _ _ ?_); clear hR R; try clear K2 Z2
 try simp only [go_sem, tl_keep]
 refine W_sr [2, 3, 4, 7, 8, 9] fun R hR => ?_
 simp only [go_sem, tl_keep]
 refine hR _ _ ?_; clear hR R
 try simp only [go_sem, tl_keep]
 refine W_seq fun Z4 K4 => ?_
 refine W_sr [3, 4, 7, 8, 9, 23] fun R hR => ?_
 simp only [go_sem, tl_keep, tlPV, tl_len, tl_take21]
 refine GCall_of (others_pc Y _ id t sn) ?_
 simp only [go_sem, tl_keep, tlPV, tl_len, tl_take21]
 refine hR _ _ ?_; clear hR R
 try simp only [go_sem, tl_keep]
 refine W_block ?_
 let nd : Nat → List Int := fun k => needsT t c own sn fr (t.songs.take k)
 let L : List Int → List (Option (List PV)) := fun p => [some (tlCells id t), some (cnCells c), some (sdCells own), some [I fr], some [glI (σ.store.length + 7) p], some (tlCells id t), some [I sn]] ++ gsI p
 let so : Nat → Sg := fun k => σ.ext (L (nd k)) [] [.ready]
 have hLc : ∀ p (n r y : Nat), σ.store.length + 7 + p.length ≤ n → CleanLs n r y (L p) := fun p n r y h1 => by
  refine CleanLs_append ?_ (gsI_clean _)
  have := glI_clean (a := n) (b := r) (c := y) h1
  simp only [go_sem, this]
  omega
 refine W_weak (Weak.gnilX (j := 4) (off := 0) rfl rfl) ?_
 simp only [go_sem]
 refine W_rangeFunc (gf := 92) (v := .tuple []) (s := .ready) (σ5 := so t.songs.length) rfl (by simp) (fun args τ b' τ' => ∃ k x, t.songs[k]? = some x ∧ x ≠ (sn : Int) ∧ args = [I x] ∧ b' = true ∧ τ = so k ∧ τ' = so (k + 1)) ?_ ?_ ?_ ?_ ?_
 ·rintro args τ b τ' ⟨k, x, hx, hne, rfl, rfl, rfl, rfl⟩
  refine ⟨rfl, ?_, ?_⟩
  ·simp only [so, go_sem]
  simp only [so, L, go_sem]
  refine W_region [3, 4, 7, 8, 9, 10] fun R hR => ?_
  simp only [go_sem, tl_keep, putAll]
  refine hR _ _ ?_; clear hR R
  try simp only [go_sem, tl_keep, putAll]
  have hk' : k < t.songs.length := (List.getElem?_eq_some_iff.1 hx).1
  have hxb := hT.sg x (List.mem_of_getElem? hx)
  obtain ⟨xn, hxn⟩ : ∃ z : Nat, x = z := ⟨x.toNat, by omega⟩
  subst hxn
  have hx8 : xn < 8 := by omega
  have hsn : t.songs.take (k + 1) = t.songs.take k ++ [(xn : Int)] := by rw [List.take_add_one, hx]; rfl
  have hcn := needsT_snoc t c own sn fr xn (t.songs.take k)
  rw [← hsn] at hcn
  have hqb := hndl (t.songs.take k)
  have htl : (t.songs.take k).length = k := by rw [List.length_take]; omega
  obtain ⟨out, hout⟩ : ∃ z, needsT t c own sn fr (t.songs.take k) = z := ⟨_, rfl⟩
  rw [hout] at hcn hqb
  simp only [nd, hout]
  have hone : needOne t c own sn fr xn = match findV (aheadV t c own xn) (fr + 1).toNat 0 with | some v => [(v : Int)] | none => [] := by unfold needOne; rw [if_neg hne]
  refine W_post_weak ?_
  refine W_block ?_
  refine W_sr [3, 4, 7, 9, 10, 26, 27] fun R hR => ?_
  simp only [go_sem, tl_keep, putAll, hfw]
  try simp (disch := omega) only [wrapI, wrapU]
  refine hR _ _ ?_; clear hR R
  try simp only [go_sem, tl_keep, putAll]
  refine W_block ?_
  refine W_loopS (α := Nat) (fun (j : Nat) => [(27, I j)]) (fun (j : Nat) => j ≤ (fr + 1).toNat ∧ findV (aheadV t c own xn) (fr + 1).toNat 0 = findV (aheadV t c own xn) ((fr + 1).toNat - j) j) (fun (j : Nat) => (fr + 1).toNat - j) (0) rfl (⟨Nat.zero_le _, rfl⟩) ?_
  rintro j ⟨hj, hfv⟩
  refine W_sr [3, 4, 7, 9, 10, 26, 27, 28] fun R hR => ?_
  simp only [go_sem, tl_keep, putAll]
  refine hR _ _ ?_; clear hR R
  try simp only [go_sem, tl_keep, putAll]
  refine W_seq fun Z8 K8 => ?_
  refine W_cond rfl (fun c1 => ?_) (fun c1 => ?_)
  ·
   try simp only [nrm] at c1
   have hj2 : (j : Int) < fr + 1 := by first | exact c1 | (simp at c1; omega)
   rw [show (fr + 1).toNat - j = ((fr + 1).toNat - (j + 1)) + 1 by omega] at hfv
   simp only [findV] at hfv
   have happ := appG_gl (σ := σ) (A := [some (tlCells id t), some (cnCells c), some (sdCells own), some [I fr], some [glI (σ.store.length + 7) out], some (tlCells id t), some [I sn]]) (rm := []) (ys := [.busy]) (out := out) j (by omega)
   simp only [go_sem, List.length_cons, List.length_nil] at happ
   refine W_skip (K8 _ _ ?_)
   refine W_seq fun Z9 K9 => ?_
   refine W_block ?_
   refine W_sr [3, 4, 7, 9, 10, 11, 26, 27] fun R hR => ?_
   simp only [go_sem, tl_keep, putAll]
   refine hR _ _ ?_; clear hR R
   try simp only [go_sem, tl_keep, putAll]
   refine W_seq fun Z11 K11 => ?_
   refine W_draw [3, 4, 7, 9, 10, 11, 26, 27, 40] [0, 1, 2, 3, 4, 5, 6, 7, 8, 9, 10] [(0, 7), (1, 7), (6, 5), (8, 5), (8, 7)] [[], [], [], [], [], [2, 3, 4], [], [0, 1, 2, 3, 4, 5, 6], [], [0, 1, 2, 3, 4, 5, 6, 7, 8], [0, 1, 2, 3, 4, 5, 6, 7, 8, 9]] mixed (by kernel_rfl) fun R hR => ?_
   simp only [go_sem, tl_keep, putAll, tlPV, tl_len, tl_take21]
   refine GCall_of (open_pc Y _ id t c (get_extx hd) hm hV xn) ?_
   simp only [go_sem, tl_keep, putAll, tlPV, tl_len, tl_take21]
   refine GCall_of (standing_pc Y _ id t hT xn hx8 (openT t c xn) j (openT_bd hV hm xn) (by omega)) ?_
   simp only [go_sem, tl_keep, putAll, tlPV, tl_len, tl_take21]
   refine GCall_of (ahead_pc Y _ (stdT t xn (openT t c xn) j) own) ?_
   simp only [go_sem, tl_keep, putAll, tlPV, tl_len, tl_take21]
   try refine And.intro (by repeat' (first | refine And.intro ?_ ?_ | exact GOr_right (fun _ => by simp only [go_sem, tl_keep, putAll, tlPV, tl_len, tl_take21]))) ?_
   refine hR _ _ (K11 _ _ ?_); clear hR R; try clear K11 Z11
   try simp only [go_sem, tl_keep, putAll]
   refine W_cond rfl (fun c2 => ?_) (fun c2 => ?_)
   ·
    try simp only [nrm] at c2
    have hpj : aheadV t c own xn j = true := by unfold aheadV; simpa using c2
    rw [hpj, if_pos rfl] at hfv
    refine W_sr [] fun R hR => ?_
    simp only [go_sem, tl_keep, putAll, happ]
    try simp (disch := first | omega | (simp only [go_sem] <;> omega)) only [wrapI, wrapU, appX_exact, appX_tok]
    try simp only [go_sem, tl_keep, putAll, happ]
    refine hR _ _ ?_; clear hR R
    try simp only [go_sem, tl_keep, putAll]
    refine W_exit ?_
    simp only [go_sem, tl_keep, putAll]
    rw [hfv] at hone
    simp only at hone
    rw [hone] at hcn
    refine ⟨[], _, Weak.keep [], ?_⟩
    simp only [RoundEnd, so, nd, L, hcn, go_sem]
   try simp only [nrm] at c2
   have hpj : aheadV t c own xn j = false := by unfold aheadV; simpa using c2
   rw [hpj, if_neg (by simp)] at hfv
   refine W_skip (K9 _ _ ?_)
   refine W_region [3, 4, 7, 9, 10, 26, 27] fun R hR => ?_
   simp only [go_sem, tl_keep, putAll]
   try simp (disch := omega) only [wrapI, wrapU]
   refine hR _ _ ?_; clear hR R
   try simp only [go_sem, tl_keep, putAll]
   refine ⟨j + 1, ?_, by (try simp only []); omega, ?_⟩
   ·first | exact Weak.refl | exact Wqq
   try dsimp only
   exact ⟨by omega, hfv⟩
  try simp only [nrm] at c1
  have hje : ¬ (j : Int) < fr + 1 := by first | exact c1 | (simp at c1; omega)
  rw [show (fr + 1).toNat - j = 0 by omega] at hfv
  simp only [findV] at hfv
  refine W_exit ?_
  simp only [go_sem, tl_keep, putAll]
  rw [hfv] at hone
  simp only at hone
  rw [hone, List.append_nil] at hcn
  refine ⟨[], _, Weak.keep [], ?_⟩
  simp only [RoundEnd, so, nd, L, hcn, go_sem]
 ·have hst := others1_pc (Y.at σ.ys.length (fun args τ b' τ' => ∃ k x, t.songs[k]? = some x ∧ x ≠ (sn : Int) ∧ args = [I x] ∧ b' = true ∧ τ = so k ∧ τ' = so (k + 1))) σ σ.ys.length (σ.store.length + 5) (σ.store.length + 6) id t sn hT.sl so
   (fun k _ => by simp only [so, L]; exact Sg.get_ext ..) (fun k _ => by simp only [so, L]; exact Sg.get_ext ..)
   (fun k x h1 h2 => by rw [YEnv.at_self]; exact ⟨k, x, h1, h2, rfl, rfl, rfl, rfl⟩)
   (fun k h1 => by simp only [so, nd]; rw [List.take_add_one, h1, Option.toList_some, needsT_snoc, show needOne t c own sn fr sn = [] by simp [needOne], List.append_nil])
   (by simp only [so, L, nd, List.take_zero, gsI, needsT, List.flatMap_nil, go_sem] <;> omega) (by simp only [so, L, go_sem] <;> omega) (by simp only [so, L, go_sem])
   (fun _ => CleanSg_ext hcl (by refine hLc _ _ _ _ ?_; simp only [L, gsI_len, go_sem] <;> omega))
  have e0 : so 0 = σ.ext (L []) [] [.ready] := rfl
  rw [e0] at hst
  simp only [L, glI, gsI, go_sem] at hst ⊢
  exact hst
 ·simp only [so, L, go_sem]
 ·simp only [go_sem]
  exact CleanCut_ext hcl (by simp only [so, L, go_sem] <;> omega) (by simp only [so, L, go_sem, Nat.le_add_right]) (by omega) (by refine hLc _ _ _ _ ?_; simp only [so, L, gsI_len, go_sem] <;> omega)
 simp only [AfterLoop, so, L, nd, go_sem]
 simp only [List.take_length]
 have hqb := hndl t.songs
 have hndb : ∀ y, y ∈ needsT t c own sn fr t.songs → 0 ≤ y ∧ y ≤ fr := fun y h => needsT_bd h
 obtain ⟨out, hout⟩ : ∃ z, needsT t c own sn fr t.songs = z := ⟨_, rfl⟩
 rw [hout] at hmust hqb hndb
 simp only [hout]
 refine K4 _ _ ?_
 refine W_seq fun Z13 K13 => ?_
 refine W_sr [3, 8, 9, 51] fun R hR => ?_
 simp only [go_sem, tl_keep, len_glI, hkn]
 refine hR _ _ ?_; clear hR R
 try simp only [go_sem, tl_keep]
 refine W_cond rfl (fun c3 => ?_) (fun c3 => ?_)
 ·
  try simp only [nrm] at c3
  refine W_sr [6] fun R hR => ?_
  simp only [go_sem, tl_keep]
  refine hR _ _ ?_; clear hR R
  try simp only [go_sem, tl_keep]
  refine W_ret ?_
  simp only [go_sem, tl_keep]
  refine ⟨.inr (by trivial), ?_⟩
  first | refine Fsa hcl rfl ?_ | refine Fse hcl rfl ?_
  try simp only [go_sem]
  all_goals
   rw [hmust, hkn]; first | (rw [if_pos (by omega)]; done) | (rw [if_neg (by omega)]; simp only [Int.toNat_natCast, hdl, hinv, Int.add_zero]; done)
 try simp only [nrm] at c3
 refine W_skip (K13 _ _ ?_)
 refine W_sr [3, 8, 9] fun R hR => ?_
 simp only [go_sem, tl_keep]
 refine GCall_of (sort_gl (A := [_, _, _, _, _, _, _]) sortsI (by have := hndl t.songs; omega)) ?_
 simp only [go_sem, tl_keep]
 refine hR _ _ ?_; clear hR R
 try simp only [go_sem, tl_keep]
 refine W_seq fun Z17 K17 => ?_
 rw [← glI_sort]
 refine W_weak (Weak.readJ (A := [_, _, _, _, _, _, _]) (j := 4) rfl) ?_
 simp only [go_sem]
 refine W_region [3, 8, 9, 12] fun R hR => ?_
 simp only [go_sem, tl_keep]
 refine hR _ _ (K17 _ _ ?_); clear hR R; try clear K17 Z17
 try simp only [go_sem, tl_keep]
 refine W_seq fun Z18 K18 => ?_
 refine W_seq fun Z19 K19 => ?_
 have hk0 : (0 : Int) ≤ (kn : Int) := by omega
 have hkl : kn ≤ (sortI out).length := by rw [sortI_len]; omega
 refine W_region [8, 12, 58, 59, 60] fun R hR => ?_
 simp only [go_sem, tl_keep, hkn, hk0, hkl, Int.toNat_natCast]
 refine hR _ _ (K19 _ _ ?_); clear hR R; try clear K19 Z19
 try simp only [go_sem, tl_keep]
 refine W_block ?_
 obtain ⟨dl, hdl⟩ : ∃ z, (sortI out).take kn = z := ⟨_, rfl⟩
 have hdb : ∀ y, y ∈ dl → 0 ≤ y ∧ y ≤ fr := fun y h => hndb y ((List.mergeSort_perm out _).mem_iff.1 (List.mem_of_mem_take (i := kn) (by rw [← hdl] at h; exact h)))
 have hdll : dl.length ≤ 8 := by rw [← hdl, List.length_take]; omega
 simp only [← List.map_take, hdl]
 refine W_loopS (α := Nat × Int) (fun ⟨i, sm⟩ => [(12, I sm), (60, I i)]) (fun ⟨i, sm⟩ => i ≤ dl.length ∧ dl.sum = sm + (dl.drop i).sum ∧ 0 ≤ sm ∧ sm ≤ 1000 * (i : Int)) (fun ⟨i, sm⟩ => dl.length - i) ((0, 0)) rfl (⟨Nat.zero_le _, by simp, Int.le_refl _, Int.le_refl _⟩) ?_
 rintro ⟨i, sm⟩ ⟨hi, hinv, hs1, hs2⟩
 refine W_sr [8, 12, 58, 59, 60, 61] fun R hR => ?_
 simp only [go_sem, tl_keep]
 refine hR _ _ ?_; clear hR R
 try simp only [go_sem, tl_keep]
 refine W_seq fun Z21 K21 => ?_
 refine W_cond rfl (fun c4 => ?_) (fun c4 => ?_)
 ·
  try simp only [nrm] at c4
  have hi' : i < dl.length := by first | assumption | omega
  obtain ⟨x, hx⟩ : ∃ x, dl[i]? = some x := ⟨dl[i], by simp [hi']⟩
  have hdrop : dl.drop i = x :: dl.drop (i + 1) := by
   rw [List.drop_eq_getElem_cons hi']; congr 1; exact (List.getElem?_eq_some_iff.1 hx).2
  have hxb := hdb x (List.mem_of_getElem? hx)
  rw [hdrop] at hinv
  simp only [List.sum_cons] at hinv
  have hws : IntKind.i64.wrap (sm + x) = sm + x := wrapI (by omega) (by omega)
  refine W_skip (K21 _ _ ?_)
  refine W_seq fun Z22 K22 => ?_
  refine W_block ?_
  refine W_sr [8, 12, 14, 58, 59, 60] fun R hR => ?_
  simp only [go_sem, tl_keep, hx, hws]
  refine hR _ _ ?_; clear hR R
  try simp only [go_sem, tl_keep, hx, hws]
  refine W_region [8, 12, 58, 59, 60] fun R hR => ?_
  simp only [go_sem, tl_keep, hx, hws]
  try simp (disch := omega) only [wrapI, wrapU]
  refine hR _ _ (K22 _ _ ?_); clear hR R; try clear K22 Z22
  try simp only [go_sem, tl_keep, hx, hws]
  refine W_region [8, 12, 58, 59, 60] fun R hR => ?_
  simp only [go_sem, tl_keep, hx, hws]
  try simp (disch := omega) only [wrapI, wrapU]
  refine hR _ _ ?_; clear hR R
  try simp only [go_sem, tl_keep, hx, hws]
  refine ⟨(i + 1, sm + x), ?_, by (try simp only []); omega, ?_⟩
  ·first | exact Weak.refl | exact Wqq
  try dsimp only
  exact ⟨hi', by omega, by omega, by omega⟩
 try simp only [nrm] at c4
 have hdrop : dl.drop i = [] := List.drop_eq_nil_of_le (by omega)
 rw [hdrop] at hinv
 simp only [List.sum_nil] at hinv
 refine W_exit ?_
 simp only [go_sem, tl_keep]
 refine K18 _ _ ?_
 refine W_sr [6] fun R hR => ?_
 simp only [go_sem, tl_keep]
 refine hR _ _ ?_; clear hR R
 try simp only [go_sem, tl_keep]
 refine W_ret ?_
 simp only [go_sem, tl_keep]
 refine ⟨.inr (by trivial), ?_⟩
 first | refine Fsa hcl rfl ?_ | refine Fse hcl rfl ?_
 try simp only [go_sem]
 all_goals
  rw [hmust, hkn]; first | (rw [if_pos (by omega)]; done) | (rw [if_neg (by omega)]; simp only [Int.toNat_natCast, hdl, hinv, Int.add_zero]; done)
theorem rdsT_m {l : List Ballot} : ∀ {rs : List Rnd} {i : Nat} {ss : List Int}, ∀ t, t ∈ rdsT l rs i ss → t.m.length ≤ l.length := by
 intro rs
 induction rs with
 | nil => intro i ss t h; cases h
 | cons r rs ih =>
  intro i ss t h
  simp only [rdsT, List.mem_cons] at h
  rcases h with rfl | h
  ·exact voices_len _ _ _ _
  exact ih t h
/-- What a round does with a song: 1 it keeps it, 2 it does not, 3 it may. -/
def staysV (t : Tally) (c : Contest) (s : Int) : Int := if has t.songs s = false then 2 else if mustT t c s then 1 else if mayT t c s (freeT t c) then 3 else 2
def staysD (c : Contest) (l : List Ballot) (rd : Int) : List Int × Int := if chkBls c l ≠ 0 then ([], chkBls c l) else if inR rd 0 ((c.rounds.length : Int) - 1) = false then ([], 2) else match (roundsT c l)[rd.toNat]? with
 | some t => ((toI c.songs).map (staysV t c), 0)
 | none => ([], 2)
set_option maxHeartbeats 8000000 in
theorem Stays_pc (Y : YEnv) (σ : Sg) (c : Contest) (l : List Ballot) (rd : Int) (hr : c.rounds.length < 2 ^ 40) (hl : l.length < 2 ^ 40) :
 PC Tryz.prog Y 15 [cnPV c, bls l, I rd] σ (.tuple [ints (staysD c l rd).1, I (staysD c l rd).2]) (σ) := by
 refine PC_of_W Tryz.func15 rfl (by kernel_rfl) Tryz.ntmps15 (by simp) fun hcl hca => ?_
 refine W_sr [1, 2, 3] fun R hR => ?_
 simp only [go_sem, allIn1]
 refine hR _ _ ?_; clear hR R
 try simp only [go_sem, allIn1]
 refine W_seq fun Z2 K2 => ?_
 refine W_sr [1, 2, 3, 8] fun R hR => ?_
 simp only [go_sem, allIn1]
 refine GCall_of (chkBls_pc Y _ c l hr hl) ?_
 simp only [go_sem, allIn1]
 refine hR _ _ ?_; clear hR R
 try simp only [go_sem, allIn1]
 refine W_sr [1, 2, 3, 8, 17] fun R hR => ?_
 simp only [go_sem, allIn1]
 refine hR _ _ ?_; clear hR R
 try simp only [go_sem, allIn1]
 refine W_cond rfl (fun c1 => ?_) (fun c1 => ?_)
 ·
  try simp only [nrm] at c1
  have hres : staysD c l rd = ([], chkBls c l) := by unfold staysD; rw [if_pos c1]
  refine W_sr [6, 7] fun R hR => ?_
  simp only [go_sem, allIn1]
  refine hR _ _ ?_; clear hR R
  try simp only [go_sem, allIn1]
  refine W_ret ?_
  simp only [go_sem, allIn1]
  refine ⟨.inr (by trivial), ?_⟩
  rw [hres]
  refine Fin_same hcl rfl (Wk.ro (by simp only [go_sem]) ?_)
  try simp only [go_sem]
  all_goals
   first | rfl | (simp only [go_sem]; done) | (simp only [go_sem, hN, toI_N]; first | done | rfl)
 try simp only [nrm] at c1
 obtain ⟨hV, hl3, hb, hnd⟩ := blsV_of c1
 have hTb := roundsT_b hV hl3 hb
 have hrl := hV.rl
 have hsg := hV.sg
 obtain ⟨ts, hts⟩ : ∃ z, roundsT c l = z := ⟨_, rfl⟩
 have htl : ts.length = c.rounds.length := by rw [← hts]; exact rdsT_len
 have htm : ∀ t, t ∈ ts → t.m.length ≤ l.length := by rw [← hts]; exact rdsT_m
 rw [hts] at hTb
 refine W_skip (K2 _ _ ?_)
 refine W_seq fun Z6 K6 => ?_
 refine W_sr [1, 2, 3, 26] fun R hR => ?_
 simp only [go_sem, allIn1]
 try simp (disch := omega) only [wrapI, wrapU]
 refine GCall_of (in_pc Y _ 0 ((c.rounds.length : Int) - 1) [rd] .exact (by simp)) ?_
 simp only [go_sem, allIn1]
 try simp (disch := omega) only [wrapI, wrapU]
 refine hR _ _ ?_; clear hR R
 try simp only [go_sem, allIn1]
 refine W_cond rfl (fun c2 => ?_) (fun c2 => ?_)
 ·
  try simp only [nrm] at c2
  have hres : staysD c l rd = ([], 2) := by unfold staysD; rw [if_neg (by simp [c1]), if_pos (by simpa using c2)]
  refine W_sr [6, 7] fun R hR => ?_
  simp only [go_sem, allIn1]
  refine hR _ _ ?_; clear hR R
  try simp only [go_sem, allIn1]
  refine W_ret ?_
  simp only [go_sem, allIn1]
  refine ⟨.inr (by trivial), ?_⟩
  rw [hres]
  refine Fin_same hcl rfl (Wk.ro (by simp only [go_sem]) ?_)
  try simp only [go_sem]
  all_goals
   first | rfl | (simp only [go_sem]; done) | (simp only [go_sem, hN, toI_N]; first | done | rfl)
 try simp only [nrm] at c2
 have hin : inR rd 0 ((c.rounds.length : Int) - 1) = true := by simpa using c2
 have hrb := inR_true.1 hin
 obtain ⟨rn, hrn0⟩ : ∃ z : Nat, rd = z := ⟨rd.toNat, by omega⟩
 subst hrn0
 have hrn : (rn : Int) < (ts.length : Int) := by omega
 obtain ⟨t, ht⟩ : ∃ z, ts[rn]? = some z := ⟨ts[rn]'(by omega), by simp⟩
 have hT := hTb t (List.mem_of_getElem? ht)
 have html := htm t (List.mem_of_getElem? ht)
 have hfb := freeT_bd (t := t) hV (by omega)
 have htsl := hT.sl
 have hres : staysD c l rn = ((toI c.songs).map (staysV t c), 0) := by unfold staysD; rw [if_neg (by simp [c1]), if_neg (by simp [hin]), hts, Int.toNat_natCast, ht]
 obtain ⟨N, hN⟩ : ∃ z : Nat, c.songs = z := ⟨c.songs.toNat, by omega⟩
 refine W_skip (K6 _ _ ?_)
 refine W_seq fun Z9 K9 => ?_
 obtain ⟨τ, hτ⟩ : ∃ z, σ.ext (some [I c.songs, I c.juries, I c.members, I c.most, rds c.rounds] :: none :: mapsOf ts) [] = z := ⟨_, rfl⟩
 have hτr : τ.rooms.length = σ.rooms.length := by rw [← hτ]; simp [Sg.ext]
 have hτl : τ.store.length = σ.store.length + 1 + 1 + ts.length := by rw [← hτ]; simp only [Sg.len_ext, List.length_cons, mapsOf_len]; omega
 have hclτ : CleanSg τ := by rw [← hτ]; exact CleanSg_ext hcl (by show CleanLs _ _ _ _; simp only [go_sem])
 have hd0 : τ.store[σ.store.length]? = some (some [I c.songs, I c.juries, I c.members, I c.most, rds c.rounds]) := by rw [← hτ]; exact Sg.get_ext0 ..
 have hmp : τ.store[σ.store.length + 1 + 1 + rn]? = some (some (.mark :: mapE vcPV I t.m)) := by
  rw [← hτ, show σ.store.length + 1 + 1 + rn = σ.store.length + (rn + 1 + 1) by omega, Sg.get_ext]
  simp only [List.getElem?_cons_succ]
  exact mapsOf_get ht
 have hτe : σ.ext (some [I c.songs, I c.juries, I c.members, I c.most, rds c.rounds] :: none :: mapsOf ts) [] = τ.ext [] [] := by rw [hτ]; simp [Sg.ext]
 refine W_regionN [3, 9] 3 fun R hR => ?_
 simp only [go_sem, allIn1, iaX_tls ht, elA_tls ht, tlPV, tlCells, hrn, GLw]
 refine GCall_of (rounds_pc Y _ c l hV hl3 hb) ?_
 simp only [go_sem, allIn1, iaX_tls ht, elA_tls ht, tlPV, tlCells, hrn, GLw]
 simp only [hts]
 refine ⟨_, _, Weak.eq rfl hτe, ?_⟩
 simp only [go_sem, allIn1, iaX_tls ht, elA_tls ht, tlPV, tlCells, hrn, GLw]
 refine hR _ _ (K9 _ _ ?_); clear hR R; try clear K9 Z9
 try simp only [go_sem, allIn1]
 refine W_sr [3, 9, 10] fun R hR => ?_
 simp only [go_sem, allIn1]
 refine hR _ _ ?_; clear hR R
 try simp only [go_sem, allIn1]
 refine W_seq fun Z11 K11 => ?_
 refine W_sr [3, 9, 10, 34, 35] fun R hR => ?_
 simp only [go_sem, allIn1, ldS_at (get_extx hd0), hN]
 refine hR _ _ ?_; clear hR R
 try simp only [go_sem, allIn1]
 refine W_block ?_
 refine W_weak (Weak.room (t := 10) (es := 1) rfl (by simp)) ?_
 refine W_weak (Weak.keep [3, 9, 10, 34, 35]) ?_
 simp only [go_sem, allIn1]
 refine W_loopT (α := Nat) (fun (i : Nat) => [(10, .isl (((toN i).map (staysV t c)).map I) (.tok τ.rooms.length i 1)), (35, I i)]) (fun (i : Nat) => τ.ext [some (tlCells (σ.store.length + 1 + 1 + rn) t)] [i]) (fun (i : Nat) => i ≤ N) (fun (i : Nat) => N - i) (0) rfl (by first | rfl | (simp only [go_sem]; done) | (simp only [go_sem]; rfl)) (Nat.zero_le _) ?_
 rintro i hi
 refine W_sr [3, 9, 10, 34, 35, 36] fun R hR => ?_
 simp only [go_sem, allIn1]
 refine hR _ _ ?_; clear hR R
 try simp only [go_sem, allIn1]
 refine W_seq fun Z14 K14 => ?_
 refine W_cond rfl (fun c3 => ?_) (fun c3 => ?_)
 ·
  try simp only [nrm] at c3
  have hi1 : i < N := by first | omega | (simp at c3; omega)
  have htn := toN_len i
  have htn2 : ((toN i).map (staysV t c)).length = i := by rw [List.length_map]; exact htn
  refine W_skip (K14 _ _ ?_)
  refine W_seq fun Z15 K15 => ?_
  refine W_block ?_
  refine W_sr [3, 9, 10, 11, 34, 35] fun R hR => ?_
  simp only [go_sem, allIn1]
  refine hR _ _ ?_; clear hR R
  try simp only [go_sem, allIn1]
  refine W_sr [3, 9, 10, 11, 12, 34, 35] fun R hR => ?_
  simp only [go_sem, allIn1]
  refine hR _ _ ?_; clear hR R
  try simp only [go_sem, allIn1]
  refine W_seq fun Z18 K18 => ?_
  refine W_block ?_
  refine W_sr [3, 9, 10, 11, 12, 34, 35, 38] fun R hR => ?_
  simp only [go_sem, allIn1, tl_songs]
  refine GCall_of (contains_pc Y _ t.songs .ro i (by omega)) ?_
  simp only [go_sem, allIn1, tl_songs]
  refine hR _ _ ?_; clear hR R
  try simp only [go_sem, allIn1]
  refine W_cond rfl (fun c4 => ?_) (fun c4 => ?_)
  ·
   try simp only [nrm] at c4
   have hsv : staysV t c i = 2 := by unfold staysV; rw [if_pos (by simpa using c4)]
   refine W_skip (K18 _ _ ?_)
   refine W_region [3, 9, 10, 34, 35] fun R hR => ?_
   simp only [go_sem, allIn1]
   try simp (disch := first | omega | (simp only [go_sem] <;> omega)) only [wrapI, wrapU, appX_exact, appX_tok]
   try simp only [go_sem, allIn1]
   refine hR _ _ (K15 _ _ ?_); clear hR R; try clear K15 Z15
   try simp only [go_sem, allIn1]
   refine W_region [3, 9, 10, 34, 35] fun R hR => ?_
   simp only [go_sem, allIn1]
   try simp (disch := omega) only [wrapI, wrapU]
   refine hR _ _ ?_; clear hR R
   try simp only [go_sem, allIn1]
   refine ⟨i + 1, ?_, by (try simp only []); omega, ?_⟩
   ·refine Weak.trans (Weak.keep [3, 9, 10, 34, 35]) ?_
    simp only [go_sem]
    exact Weak.eq (by rw [toN_succ]; simp only [List.map_append, List.map_cons, List.map_nil, hsv]; first | done | rfl) rfl
   try dsimp only
   omega
  try simp only [nrm] at c4
  refine W_sr [3, 9, 10, 11, 12, 34, 35, 44] fun R hR => ?_
  simp only [go_sem, allIn1, tlPV, tl_len, tl_take21, ldA_at (get_extx hd0)]
  refine GCall_of (must_pc Y _ (σ.store.length + 1 + 1 + rn) t c (get_extx hmp) (by omega) hV hT i (by omega)) ?_
  simp only [go_sem, allIn1, tlPV, tl_len, tl_take21, ldA_at (get_extx hd0)]
  refine hR _ _ ?_; clear hR R
  try simp only [go_sem, allIn1]
  refine W_cond rfl (fun c5 => ?_) (fun c5 => ?_)
  ·
   try simp only [nrm] at c5
   have hsv : staysV t c i = 1 := by unfold staysV; rw [if_neg (by simp [c4]), if_pos c5]
   refine W_region [3, 9, 10, 12, 34, 35] fun R hR => ?_
   simp only [go_sem, allIn1]
   refine hR _ _ (K18 _ _ ?_); clear hR R; try clear K18 Z18
   try simp only [go_sem, allIn1]
   refine W_region [3, 9, 10, 34, 35] fun R hR => ?_
   simp only [go_sem, allIn1]
   try simp (disch := first | omega | (simp only [go_sem] <;> omega)) only [wrapI, wrapU, appX_exact, appX_tok]
   try simp only [go_sem, allIn1]
   refine hR _ _ (K15 _ _ ?_); clear hR R; try clear K15 Z15
   try simp only [go_sem, allIn1]
   refine W_region [3, 9, 10, 34, 35] fun R hR => ?_
   simp only [go_sem, allIn1]
   try simp (disch := omega) only [wrapI, wrapU]
   refine hR _ _ ?_; clear hR R
   try simp only [go_sem, allIn1]
   refine ⟨i + 1, ?_, by (try simp only []); omega, ?_⟩
   ·refine Weak.trans (Weak.keep [3, 9, 10, 34, 35]) ?_
    simp only [go_sem]
    exact Weak.eq (by rw [toN_succ]; simp only [List.map_append, List.map_cons, List.map_nil, hsv]; first | done | rfl) rfl
   try dsimp only
   omega
  try simp only [nrm] at c5
  refine W_seq fun Z21 K21 => ?_
  refine W_draw [3, 9, 10, 12, 34, 35, 49] [0, 1, 2, 3, 4, 5, 6, 7] [(0, 6), (1, 6), (2, 6)] [[], [], [], [], [], [3, 4], [0, 1, 2, 3, 4, 5], [0, 1, 2, 3, 4, 5, 6]] mixed (by kernel_rfl) fun R hR => ?_
  simp only [go_sem, allIn1, tlPV, tl_len, tl_take21, ldA_at (get_extx hd0)]
  refine GCall_of (free_pc Y _ (σ.store.length + 1 + 1 + rn) t c (get_extx hmp) (by omega) hV) ?_
  simp only [go_sem, allIn1, tlPV, tl_len, tl_take21, ldA_at (get_extx hd0)]
  refine GCall_of (may_pc Y _ (σ.store.length + 1 + 1 + rn) t c (get_extx hmp) (by omega) hV hT i (by omega) (freeT t c) (by omega)) ?_
  simp only [go_sem, allIn1, tlPV, tl_len, tl_take21, ldA_at (get_extx hd0)]
  try refine And.intro (by repeat' (first | refine And.intro ?_ ?_ | exact GOr_right (fun _ => by simp only [go_sem, allIn1, tlPV, tl_len, tl_take21, ldA_at (get_extx hd0)]))) ?_
  refine hR _ _ (K21 _ _ ?_); clear hR R; try clear K21 Z21
  try simp only [go_sem, allIn1]
  refine W_cond rfl (fun c6 => ?_) (fun c6 => ?_)
  ·
   try simp only [nrm] at c6
   have hsv : staysV t c i = 3 := by unfold staysV; rw [if_neg (by simp [c4]), if_neg (by simp [c5]), if_pos c6]
   refine W_region [3, 9, 10, 12, 34, 35] fun R hR => ?_
   simp only [go_sem, allIn1]
   refine hR _ _ (K18 _ _ ?_); clear hR R; try clear K18 Z18
   try simp only [go_sem, allIn1]
   refine W_region [3, 9, 10, 34, 35] fun R hR => ?_
   simp only [go_sem, allIn1]
   try simp (disch := first | omega | (simp only [go_sem] <;> omega)) only [wrapI, wrapU, appX_exact, appX_tok]
   try simp only [go_sem, allIn1]
   refine hR _ _ (K15 _ _ ?_); clear hR R; try clear K15 Z15
   try simp only [go_sem, allIn1]
   refine W_region [3, 9, 10, 34, 35] fun R hR => ?_
   simp only [go_sem, allIn1]
   try simp (disch := omega) only [wrapI, wrapU]
   refine hR _ _ ?_; clear hR R
   try simp only [go_sem, allIn1]
   refine ⟨i + 1, ?_, by (try simp only []); omega, ?_⟩
   ·refine Weak.trans (Weak.keep [3, 9, 10, 34, 35]) ?_
    simp only [go_sem]
    exact Weak.eq (by rw [toN_succ]; simp only [List.map_append, List.map_cons, List.map_nil, hsv]; first | done | rfl) rfl
   try dsimp only
   omega
  try simp only [nrm] at c6
  have hsv : staysV t c i = 2 := by unfold staysV; rw [if_neg (by simp [c4]), if_neg (by simp [c5]), if_neg (by simp [c6])]
  refine W_skip (K18 _ _ ?_)
  refine W_region [3, 9, 10, 34, 35] fun R hR => ?_
  simp only [go_sem, allIn1]
  try simp (disch := first | omega | (simp only [go_sem] <;> omega)) only [wrapI, wrapU, appX_exact, appX_tok]
  try simp only [go_sem, allIn1]
  refine hR _ _ (K15 _ _ ?_); clear hR R; try clear K15 Z15
  try simp only [go_sem, allIn1]
  refine W_region [3, 9, 10, 34, 35] fun R hR => ?_
  simp only [go_sem, allIn1]
  try simp (disch := omega) only [wrapI, wrapU]
  refine hR _ _ ?_; clear hR R
  try simp only [go_sem, allIn1]
  refine ⟨i + 1, ?_, by (try simp only []); omega, ?_⟩
  ·refine Weak.trans (Weak.keep [3, 9, 10, 34, 35]) ?_
   simp only [go_sem]
   exact Weak.eq (by rw [toN_succ]; simp only [List.map_append, List.map_cons, List.map_nil, hsv]; first | done | rfl) rfl
  try dsimp only
  omega
 try simp only [nrm] at c3
 have hie : N = i := by first | omega | (simp at c3; omega)
 subst hie
 refine W_exit ?_
 simp only [go_sem, allIn1]
 refine K11 _ _ ?_
 refine W_sr [6, 7] fun R hR => ?_
 simp only [go_sem, allIn1]
 refine hR _ _ ?_; clear hR R
 try simp only [go_sem, allIn1]
 refine W_ret ?_
 simp only [go_sem, allIn1]
 refine ⟨.inr (by trivial), ?_⟩
 rw [hres, ← hτ, Sg.ext_ext]
 refine Fin_same hcl rfl (Wk.ro (by simp only [go_sem]) ?_)
 try simp only [go_sem]
 all_goals
  first | rfl | (simp only [go_sem]; done) | (simp only [go_sem, hN, toI_N]; first | done | rfl)
def Ahd (a b : Std) : Prop := aheadS a b < 0
instance {a b : Std} : Decidable (Ahd a b) := by unfold Ahd; exact inferInstance
theorem cmpI_lt {a b : Int} (h : a < b) : cmpI a b = -1 := by unfold cmpI; rw [if_pos h]
theorem cmpI_gt {a b : Int} (h : b < a) : cmpI a b = 1 := by unfold cmpI; rw [if_neg (by omega), if_pos h]
theorem cmpI_self {a : Int} : cmpI a a = 0 := by unfold cmpI; rw [if_neg (by omega), if_neg (by omega)]
theorem ahd_iff {a b : Std} : Ahd a b ↔ b.score < a.score ∨ (a.score = b.score ∧ (b.points < a.points ∨ (a.points = b.points ∧ a.song < b.song))) := by
 unfold Ahd aheadS
 rcases Int.lt_trichotomy a.score b.score with h1 | h1 | h1
 ·rw [cmpI_gt h1]; simp [orI]; omega
 ·rw [h1, cmpI_self]
  rcases Int.lt_trichotomy a.points b.points with h2 | h2 | h2
  ·rw [cmpI_gt h2]; simp [orI]; omega
  ·rw [h2, cmpI_self]
   rcases Int.lt_trichotomy a.song b.song with h3 | h3 | h3
   ·rw [cmpI_lt h3]; simp [orI]; omega
   ·rw [h3, cmpI_self]; simp [orI]
   rw [cmpI_gt h3]; simp [orI]; omega
  rw [cmpI_lt h2]; simp [orI]; omega
 rw [cmpI_lt h1]; simp [orI]; omega
theorem Ahd.trans {a b c : Std} (h : Ahd a b) (k : Ahd b c) : Ahd a c := by rw [ahd_iff] at *; omega
theorem Ahd.irrefl {a : Std} : ¬ Ahd a a := by rw [ahd_iff]; omega
theorem Ahd.asymm {a b : Std} (h : Ahd a b) : ¬ Ahd b a := fun k => Ahd.irrefl (h.trans k)
theorem not_ahd {a b : Std} (h : a.song ≠ b.song) (k : ¬ Ahd a b) : Ahd b a := by rw [ahd_iff] at *; omega
theorem notAhd_trans {a b c : Std} (h : ¬ Ahd b a) (k : ¬ Ahd c b) : ¬ Ahd c a := by rw [ahd_iff] at *; omega
theorem sink_len (j : Nat) (l : List Std) : (sink j l).length = l.length := (sink_perm j l).length_eq
/-- The first ones, up to a place, are sorted, but for one that may stand too far behind. -/
def SrtX (l : List Std) (i j : Nat) : Prop := ∀ p q a b, p < q → q ≤ i → q ≠ j → l[p]? = some a → l[q]? = some b → ¬ Ahd b a
def Srt (l : List Std) (i : Nat) : Prop := ∀ p q a b, p < q → q ≤ i → l[p]? = some a → l[q]? = some b → ¬ Ahd b a
theorem sink_srt (i : Nat) : ∀ (j : Nat) (l : List Std), j ≤ i → i < l.length → SrtX l i j → Srt (sink j l) i := by
 intro j
 induction j with
 | zero => intro l _ _ h p q a b hpq hq; exact h p q a b hpq hq (by omega)
 | succ j ih =>
  intro l hj hl h
  obtain ⟨x, hx⟩ : ∃ x, l[j + 1]? = some x := ⟨l[j + 1]'(by omega), by simp⟩
  obtain ⟨y, hy⟩ : ∃ y, l[j]? = some y := ⟨l[j]'(by omega), by simp⟩
  simp only [sink, hx, hy]
  split
  ·rename_i hlt
   refine ih _ (by omega) (by simpa using hl) ?_
   have g : ∀ r, ((l.set (j + 1) y).set j x)[r]? = if r = j then some x else if r = j + 1 then some y else l[r]? := by
    intro r
    by_cases e : r = j
    ·subst e; rw [if_pos rfl, List.getElem?_set_self (by simp; omega)]
    rw [if_neg e, List.getElem?_set_ne (fun h => e h.symm)]
    by_cases e2 : r = j + 1
    ·subst e2; rw [if_pos rfl, List.getElem?_set_self (by omega)]
    rw [if_neg e2, List.getElem?_set_ne (fun h => e2 h.symm)]
   intro p q a b hpq hq hne ha hb
   rw [g] at ha hb
   rw [if_neg hne] at hb
   by_cases e1 : q = j + 1
   ·rw [if_pos e1] at hb
    cases hb
    by_cases e2 : p = j
    ·rw [if_pos e2] at ha
     cases ha
     exact Ahd.asymm hlt
    rw [if_neg e2, if_neg (by omega)] at ha
    exact h p j _ _ (by omega) (by omega) (by omega) ha hy
   rw [if_neg e1] at hb
   by_cases e2 : p = j
   ·rw [if_pos e2] at ha
    cases ha
    exact h (j + 1) q _ _ (by omega) hq (by omega) hx hb
   rw [if_neg e2] at ha
   by_cases e3 : p = j + 1
   ·rw [if_pos e3] at ha
    cases ha
    exact h j q _ _ (by omega) hq (by omega) hy hb
   rw [if_neg e3] at ha
   exact h p q a b hpq hq (by omega) ha hb
  rename_i hnlt
  intro p q a b hpq hq ha hb
  by_cases e : q = j + 1
  ·subst e
   rw [hx] at hb
   cases hb
   by_cases e2 : p = j
   ·subst e2
    rw [hy] at ha
    cases ha
    exact hnlt
   exact notAhd_trans (h p j a y (by omega) (by omega) (by omega) ha hy) hnlt
  exact h p q a b hpq hq e ha hb
theorem sinkAll_srt : ∀ (k i : Nat) (l : List Std), 0 < i → i + k ≤ l.length → Srt l (i - 1) → Srt (sinkAll k i l) (i + k - 1) := by
 intro k
 induction k with
 | zero => intro i l _ _ h; exact h
 | succ k ih =>
  intro i l hi hl h
  simp only [sinkAll]
  have h1 := sink_srt i i l (Nat.le_refl _) (by omega) (fun p q a b hpq hq hne ha hb => h p q a b hpq (by omega) ha hb)
  have h2 := ih (i + 1) (sink i l) (by omega) (by rw [sink_len]; omega) (by rw [Nat.add_sub_cancel]; exact h1)
  rw [show i + (k + 1) - 1 = i + 1 + k - 1 by omega]
  exact h2
theorem sortSd_srt (l : List Std) {p q : Nat} {a b : Std} (hpq : p < q) (ha : (sortSd l)[p]? = some a) (hb : (sortSd l)[q]? = some b) : ¬ Ahd b a := by
 have hq := (List.getElem?_eq_some_iff.1 hb).1
 rw [sortSd_len] at hq
 have := sinkAll_srt (l.length - 1) 1 l (by omega) (by omega) (fun p q a b hpq hq => by omega)
 exact this p q a b hpq (by omega) ha hb
def insZ (x : Int) : List Int → List Int
 | [] => [x]
 | y :: l => if x ≤ y then x :: y :: l else y :: insZ x l
def isortZ : List Int → List Int
 | [] => []
 | x :: l => insZ x (isortZ l)
def Asc (l : List Int) : Prop := l.Pairwise (· ≤ ·)
theorem insZ_perm (x : Int) : ∀ l, (insZ x l).Perm (x :: l) := by
 intro l
 induction l with
 | nil => exact .refl _
 | cons y l ih =>
  simp only [insZ]
  split
  ·exact .refl _
  exact (List.Perm.cons y ih).trans (.swap x y l)
theorem isortZ_perm : ∀ l, (isortZ l).Perm l := by
 intro l
 induction l with
 | nil => exact .refl _
 | cons x l ih => exact (insZ_perm x _).trans (.cons x ih)
theorem insZ_asc (x : Int) : ∀ {l : List Int}, Asc l → Asc (insZ x l) := by
 intro l
 induction l with
 | nil => intro _; simp [insZ, Asc]
 | cons y l ih =>
  intro h
  obtain ⟨h1, h2⟩ := List.pairwise_cons.1 h
  simp only [insZ]
  split
  ·exact List.pairwise_cons.2 ⟨fun z hz => by
    rcases List.mem_cons.1 hz with rfl | hz
    ·assumption
    have := h1 z hz; omega, h⟩
  refine List.pairwise_cons.2 ⟨fun z hz => ?_, ih h2⟩
  rcases List.mem_cons.1 ((insZ_perm x l).mem_iff.1 hz) with rfl | hz
  ·omega
  exact h1 z hz
theorem isortZ_asc : ∀ l, Asc (isortZ l) := by
 intro l
 induction l with
 | nil => exact .nil
 | cons x l ih => exact insZ_asc x ih
theorem asc_perm : ∀ {a b : List Int}, a.Perm b → Asc a → Asc b → a = b := by
 intro a
 induction a with
 | nil => intro b h _ _; exact (List.nil_perm.1 h).symm
 | cons x a ih =>
  intro b h ha hb
  cases b with
  | nil => exact absurd h.length_eq (by simp)
  | cons y b =>
   obtain ⟨a1, a2⟩ := List.pairwise_cons.1 ha
   obtain ⟨b1, b2⟩ := List.pairwise_cons.1 hb
   have e : x = y := by
    have hx : x ∈ y :: b := h.mem_iff.1 (by simp)
    have hy : y ∈ x :: a := h.mem_iff.2 (by simp)
    rcases List.mem_cons.1 hx with rfl | hx
    ·rfl
    rcases List.mem_cons.1 hy with rfl | hy
    ·rfl
    have := a1 y hy; have := b1 x hx; omega
   subst e
   rw [ih (List.Perm.cons_inv h) a2 b2]
theorem sortI_isort (l : List Int) : sortI l = isortZ l := by
 refine asc_perm ((List.mergeSort_perm l _).trans (isortZ_perm l).symm) ?_ (isortZ_asc l)
 have := List.pairwise_mergeSort (le := fun x y : Int => decide (x ≤ y)) (by simp; omega) (by simp; omega) l
 exact this.imp (by simp)
/-- How many are ahead of one. -/
def rank (l : List Std) (x : Std) : Nat := l.countP fun y => decide (Ahd y x)
theorem rank_perm {a b : List Std} (h : a.Perm b) (x : Std) : rank a x = rank b x := h.countP_eq _
theorem rank_at : ∀ {l : List Std} {i : Nat} {x : Std}, l.Pairwise Ahd → l[i]? = some x → rank l x = i := by
 intro l
 induction l with
 | nil => intro i x _ h; simp at h
 | cons y l ih =>
  intro i x hp h
  obtain ⟨h1, h2⟩ := List.pairwise_cons.1 hp
  cases i with
  | zero =>
   simp only [List.getElem?_cons_zero, Option.some.injEq] at h
   subst h
   unfold rank
   rw [List.countP_eq_zero]
   intro z hz
   rcases List.mem_cons.1 hz with rfl | hz
   ·simp [Ahd.irrefl]
   simp [(h1 z hz).asymm]
  | succ i =>
   simp only [List.getElem?_cons_succ] at h
   have := ih h2 h
   unfold rank at this ⊢
   rw [List.countP_cons, this]
   simp [h1 x (List.mem_of_getElem? h)]
theorem sortSd_pw {l : List Std} (h : (l.map (·.song)).Nodup) : (sortSd l).Pairwise Ahd := by
 rw [List.pairwise_iff_getElem]
 intro i j hi hj hij
 have hnd : ((sortSd l).map (·.song)).Nodup := ((sortSd_perm l).map _).nodup_iff.2 h
 refine not_ahd (fun e => ?_) (sortSd_srt (l := l) hij (by simp [hi]) (by simp [hj]))
 have := (List.pairwise_iff_getElem.1 (List.nodup_iff_pairwise_ne.1 hnd)) i j (by simpa using hi) (by simpa using hj) hij
 simp only [List.getElem_map] at this
 exact this e.symm
theorem mem_take_iff {α : Type} {l : List α} {n : Nat} {x : α} : x ∈ l.take n ↔ ∃ i, i < n ∧ l[i]? = some x := by
 rw [List.mem_iff_getElem?]
 constructor
 ·rintro ⟨i, hi⟩
  rw [List.getElem?_take] at hi
  split at hi
  ·rename_i h; exact ⟨i, h, hi⟩
  cases hi
 rintro ⟨i, h1, h2⟩
 exact ⟨i, by rw [List.getElem?_take_of_lt h1]; exact h2⟩
theorem take_rank {l : List Std} (h : (l.map (·.song)).Nodup) (n : Nat) : ((sortSd l).take n).Perm (l.filter fun x => decide (rank l x < n)) := by
 have hp := sortSd_perm l
 have hpw := sortSd_pw h
 have hnl : l.Nodup := by
  rw [List.nodup_iff_pairwise_ne, List.pairwise_map] at h
  rw [List.nodup_iff_pairwise_ne]
  exact h.imp fun hn e => hn (by rw [e])
 refine (List.perm_ext_iff_of_nodup ((List.take_sublist _ _).nodup (hp.nodup_iff.2 hnl)) (hnl.sublist List.filter_sublist)).2 fun x => ?_
 rw [mem_take_iff, List.mem_filter, decide_eq_true_eq]
 constructor
 ·rintro ⟨i, h1, h2⟩
  refine ⟨hp.mem_iff.1 (List.mem_of_getElem? h2), ?_⟩
  rw [← rank_perm hp, rank_at hpw h2]; exact h1
 rintro ⟨h1, h2⟩
 obtain ⟨i, hi⟩ := List.mem_iff_getElem?.1 (hp.mem_iff.2 h1)
 rw [← rank_perm hp, rank_at hpw hi] at h2
 exact ⟨i, h2, hi⟩
theorem sortI_perm {a b : List Int} (h : a.Perm b) : sortI a = sortI b := by
 rw [sortI_isort, sortI_isort]
 exact asc_perm ((isortZ_perm a).trans (h.trans (isortZ_perm b).symm)) (isortZ_asc a) (isortZ_asc b)
theorem sortI_asc {a : List Int} (h : Asc a) : sortI a = a := by
 rw [sortI_isort]
 exact asc_perm (isortZ_perm a) (isortZ_asc a) h
/-- Strictly ascending. -/
def Up (l : List Int) : Prop := l.Pairwise (· < ·)
theorem Up.nodup {l : List Int} (h : Up l) : l.Nodup := by
 rw [List.nodup_iff_pairwise_ne]
 exact h.imp fun q => by omega
theorem kept_rank {l : List Std} (h : Up (l.map (·.song))) (n : Nat) : keptS n l = (l.filter fun x => decide (rank l x < n)).map (·.song) := by
 unfold keptS
 rw [sortI_perm ((take_rank h.nodup n).map _)]
 refine sortI_asc ?_
 have : Up ((l.filter fun x => decide (rank l x < n)).map (·.song)) := h.sublist (List.filter_sublist.map _)
 exact this.imp fun q => by omega
theorem kept_up {l : List Std} (h : Up (l.map (·.song))) (n : Nat) : Up (keptS n l) := by
 rw [kept_rank h]
 exact h.sublist (List.filter_sublist.map _)
theorem allOne {lo hi x : Int} : allIn lo hi [x] = inR x lo hi := by simp [allIn]
def chkRow (n : Int) : List Int → List Int → Int
 | _, [] => 0
 | p, x :: r => if !(inR x 0 (n - 1)) then 7 else if has p x then 8 else chkRow n (p ++ [x]) r
def orE (a b : Int) : Int := if a ≠ 0 then a else b
def chkRows (n : Int) : List (List Int) → Int
 | [] => 0
 | l :: r => orE (chkRow n [] l) (chkRows n r)
/-- The error of preferences. -/
def chkPf (n : Int) (ls : List (List Int)) : Int := if !(inR n 1 8) then 2 else if (ls.length : Int) > 200 then 5 else chkRows n ls
structure PfV (n : Int) (ls : List (List Int)) : Prop where
 nb : 1 ≤ n ∧ n ≤ 8
 ln : ls.length ≤ 200
 ck : ∀ l, l ∈ ls → chkRow n [] l = 0
theorem chkRows_zero {n : Int} : ∀ {ls : List (List Int)}, chkRows n ls = 0 ↔ ∀ l, l ∈ ls → chkRow n [] l = 0 := by
 intro ls
 induction ls with
 | nil => simp [chkRows]
 | cons a r ih =>
  simp only [chkRows, orE, List.mem_cons, forall_eq_or_imp]
  by_cases h : chkRow n [] a = 0
  ·rw [if_neg (by simp [h]), ih]; simp [h]
  rw [if_pos h]; simp [h]
theorem pfV_iff {n : Int} {ls : List (List Int)} : chkPf n ls = 0 ↔ PfV n ls := by
 unfold chkPf
 constructor
 ·intro h
  by_cases h1 : inR n 1 8 = true
  ·rw [h1] at h
   simp only [Bool.not_true, Bool.false_eq_true, if_false] at h
   split at h
   ·omega
   exact ⟨inR_true.1 h1, by omega, chkRows_zero.1 h⟩
  have e : inR n 1 8 = false := by simpa using h1
  rw [e] at h
  simp at h
 rintro ⟨h1, h2, h3⟩
 rw [inR_true.2 h1, if_neg (by simp), if_neg (by omega)]
 exact chkRows_zero.2 h3
theorem chkRow_mem {n : Int} : ∀ {l p : List Int}, chkRow n p l = 0 → (∀ x, x ∈ l → 0 ≤ x ∧ x ≤ n - 1) ∧ l.Nodup ∧ ∀ x, x ∈ l → x ∉ p := by
 intro l
 induction l with
 | nil => intro p _; simp
 | cons x r ih =>
  intro p h
  simp only [chkRow] at h
  by_cases h1 : inR x 0 (n - 1) = true
  ·rw [h1] at h
   simp only [Bool.not_true, Bool.false_eq_true, if_false] at h
   by_cases h2 : has p x = true
   ·rw [if_pos h2] at h; omega
   rw [if_neg h2] at h
   obtain ⟨a, b, c⟩ := ih h
   have hx : x ∉ p := fun hm => h2 (has_iff.2 hm)
   refine ⟨fun y hy => ?_, List.nodup_cons.2 ⟨fun hm => c x hm (by simp), b⟩, fun y hy => ?_⟩
   ·rcases List.mem_cons.1 hy with rfl | hy
    ·exact inR_true.1 h1
    exact a y hy
   rcases List.mem_cons.1 hy with rfl | hy
   ·exact hx
   exact fun hm => c y hy (by simp [hm])
  have e : inR x 0 (n - 1) = false := by simpa using h1
  rw [e] at h
  simp at h
set_option maxHeartbeats 4000000 in
theorem chkPf_pc (Y : YEnv) (σ : Sg) (n : Int) (ls : List (List Int)) (hl : ls.length < 2 ^ 40) (hl2 : ∀ l, l ∈ ls → l.length < 2 ^ 40) :
 PC Tryz.prog Y 44 [I n, lls ls] σ (I (chkPf n ls)) (σ) := by
 refine PC_of_W Tryz.func44 rfl (by kernel_rfl) Tryz.ntmps44 (by simp) fun hcl hca => ?_
 obtain ⟨res, hres⟩ : ∃ r, chkPf n ls = r := ⟨_, rfl⟩
 rw [hres]
 have hres2 := hres.symm
 unfold chkPf at hres2
 refine W_sr [0, 1] fun R hR => ?_
 simp only [go_sem, allOne]
 refine hR _ _ ?_; clear hR R
 try simp only [go_sem, allOne]
 refine W_seq fun Z2 K2 => ?_
 refine W_block ?_
 refine W_sr [0, 1, 9] fun R hR => ?_
 simp only [go_sem, allOne]
 refine GCall_of (in_pc Y _ 1 8 [n] .exact (by simp)) ?_
 simp only [go_sem, allOne]
 refine hR _ _ ?_; clear hR R
 try simp only [go_sem, allOne]
 refine W_cond rfl (fun c1 => ?_) (fun c1 => ?_)
 ·
  try simp only [nrm] at c1
  have c1b : inR n 1 8 = false := by simpa using c1
  refine W_sr [4] fun R hR => ?_
  simp only [go_sem, allOne]
  refine hR _ _ ?_; clear hR R
  try simp only [go_sem, allOne]
  refine W_ret ?_
  simp only [go_sem, allOne]
  refine ⟨.inr (by trivial), ?_⟩
  first | refine Fsa hcl rfl ?_ | refine Fse hcl rfl ?_
  try simp only [go_sem]
  all_goals
   rw [hres2, c1b]; simp
 try simp only [nrm] at c1
 have c1b : inR n 1 8 = true := by simpa using c1
 have hn := inR_true.1 c1b
 refine W_sr [0, 1, 14] fun R hR => ?_
 simp only [go_sem, allOne]
 refine hR _ _ ?_; clear hR R
 try simp only [go_sem, allOne]
 refine W_cond rfl (fun c2 => ?_) (fun c2 => ?_)
 ·
  try simp only [nrm] at c2
  have c2b : (ls.length : Int) > 200 := by first | omega | (simp at c2; omega)
  refine W_sr [4] fun R hR => ?_
  simp only [go_sem, allOne]
  refine hR _ _ ?_; clear hR R
  try simp only [go_sem, allOne]
  refine W_ret ?_
  simp only [go_sem, allOne]
  refine ⟨.inr (by trivial), ?_⟩
  first | refine Fsa hcl rfl ?_ | refine Fse hcl rfl ?_
  try simp only [go_sem]
  all_goals
   rw [hres2, c1b, if_neg (by simp), if_pos c2b]
 try simp only [nrm] at c2
 have c2b : ¬ (ls.length : Int) > 200 := by first | omega | (simp at c2; omega)
 have hres3 : res = chkRows n ls := by rw [hres2, c1b, if_neg (by simp), if_neg c2b]
 refine W_skip (K2 _ _ ?_)
 refine W_seq fun Z7 K7 => ?_
 refine W_sr [0, 18, 19, 20] fun R hR => ?_
 simp only [go_sem, allOne]
 refine hR _ _ ?_; clear hR R
 try simp only [go_sem, allOne]
 refine W_block ?_
 refine W_loopS (α := Nat) (fun (i : Nat) => [(20, I i)]) (fun (i : Nat) => i ≤ ls.length ∧ res = chkRows n (ls.drop i)) (fun (i : Nat) => ls.length - i) (0) rfl (⟨Nat.zero_le _, hres3⟩) ?_
 rintro i ⟨hi, hinv⟩
 refine W_sr [0, 18, 19, 20, 21] fun R hR => ?_
 simp only [go_sem, allOne]
 refine hR _ _ ?_; clear hR R
 try simp only [go_sem, allOne]
 refine W_seq fun Z10 K10 => ?_
 refine W_cond rfl (fun c3 => ?_) (fun c3 => ?_)
 ·
  try simp only [nrm] at c3
  have hi' : i < ls.length := by first | assumption | omega
  obtain ⟨l, hx⟩ : ∃ x, ls[i]? = some x := ⟨ls[i], by simp [hi']⟩
  have hdrop : ls.drop i = l :: ls.drop (i + 1) := by
   rw [List.drop_eq_getElem_cons hi']; congr 1; exact (List.getElem?_eq_some_iff.1 hx).2
  rw [hdrop] at hinv
  simp only [chkRows] at hinv
  have hll := hl2 l (List.mem_of_getElem? hx)
  have hik : i + 1 ≤ ls.length := hi'
  refine W_skip (K10 _ _ ?_)
  refine W_seq fun Z11 K11 => ?_
  refine W_block ?_
  refine W_sr [0, 6, 18, 19, 20] fun R hR => ?_
  simp only [go_sem, allOne, hx, llPV]
  refine hR _ _ ?_; clear hR R
  try simp only [go_sem, allOne, hx, llPV]
  refine W_sr [0, 6, 18, 19, 20, 24, 25, 26] fun R hR => ?_
  simp only [go_sem, allOne, hx, llPV]
  refine hR _ _ ?_; clear hR R
  try simp only [go_sem, allOne, hx, llPV]
  refine W_block ?_
  refine W_loopS (α := Nat) (fun (k : Nat) => [(26, I k)]) (fun (k : Nat) => k ≤ l.length ∧ res = orE (chkRow n (l.take k) (l.drop k)) (chkRows n (ls.drop (i + 1)))) (fun (k : Nat) => l.length - k) (0) rfl (⟨Nat.zero_le _, by rw [hinv]; rfl⟩) ?_
  rintro k ⟨hk, hinv2⟩
  refine W_sr [0, 6, 18, 19, 20, 24, 25, 26, 27] fun R hR => ?_
  simp only [go_sem, allOne, hx, llPV]
  refine hR _ _ ?_; clear hR R
  try simp only [go_sem, allOne, hx, llPV]
  refine W_seq fun Z15 K15 => ?_
  refine W_cond rfl (fun c4 => ?_) (fun c4 => ?_)
  ·
   try simp only [nrm] at c4
   have hk' : k < l.length := by first | assumption | omega
   obtain ⟨v, hv⟩ : ∃ v, l[k]? = some v := ⟨l[k], by simp [hk']⟩
   have hdk : l.drop k = v :: l.drop (k + 1) := by
    rw [List.drop_eq_getElem_cons hk']; congr 1; exact (List.getElem?_eq_some_iff.1 hv).2
   rw [hdk] at hinv2
   simp only [chkRow] at hinv2
   have htk : l.take (k + 1) = l.take k ++ [v] := by rw [List.take_add_one, hv]; rfl
   refine W_skip (K15 _ _ ?_)
   refine W_seq fun Z16 K16 => ?_
   refine W_block ?_
   refine W_sr [0, 6, 7, 8, 18, 19, 20, 24, 25, 26] fun R hR => ?_
   simp only [go_sem, allOne, hx, llPV, hv]
   refine hR _ _ ?_; clear hR R
   try simp only [go_sem, allOne, hx, llPV, hv]
   refine W_block ?_
   refine W_sr [0, 6, 7, 8, 18, 19, 20, 24, 25, 26, 31] fun R hR => ?_
   simp only [go_sem, allOne, hx, llPV, hv]
   try simp (disch := omega) only [wrapI, wrapU]
   refine GCall_of (in_pc Y _ 0 (n - 1) [v] .exact (by simp)) ?_
   simp only [go_sem, allOne, hx, llPV, hv]
   try simp (disch := omega) only [wrapI, wrapU]
   refine hR _ _ ?_; clear hR R
   try simp only [go_sem, allOne, hx, llPV, hv]
   refine W_cond rfl (fun c5 => ?_) (fun c5 => ?_)
   ·
    try simp only [nrm] at c5
    have c5b : inR v 0 (n - 1) = false := by simpa using c5
    refine W_sr [4] fun R hR => ?_
    simp only [go_sem, allOne, hx, llPV, hv]
    refine hR _ _ ?_; clear hR R
    try simp only [go_sem, allOne, hx, llPV, hv]
    refine W_ret ?_
    simp only [go_sem, allOne, hx, llPV, hv]
    refine ⟨.inr (by trivial), ?_⟩
    first | refine Fsa hcl rfl ?_ | refine Fse hcl rfl ?_
    try simp only [go_sem]
    all_goals
     rw [hinv2, c5b]; simp [orE]
   try simp only [nrm] at c5
   have c5b : inR v 0 (n - 1) = true := by simpa using c5
   refine W_sr [0, 6, 18, 19, 20, 24, 25, 26, 38] fun R hR => ?_
   simp only [go_sem, allOne, hx, llPV, hv, hk, ← List.map_take]
   refine GCall_of (contains_pc Y _ (l.take k) _ v (by rw [List.length_take]; omega)) ?_
   simp only [go_sem, allOne, hx, llPV, hv, hk, ← List.map_take]
   refine hR _ _ ?_; clear hR R
   try simp only [go_sem, allOne, hx, llPV, hv]
   refine W_cond rfl (fun c6 => ?_) (fun c6 => ?_)
   ·
    try simp only [nrm] at c6
    have c6b : has (l.take k) v = true := by simpa using c6
    refine W_sr [4] fun R hR => ?_
    simp only [go_sem, allOne, hx, llPV, hv]
    refine hR _ _ ?_; clear hR R
    try simp only [go_sem, allOne, hx, llPV, hv]
    refine W_ret ?_
    simp only [go_sem, allOne, hx, llPV, hv]
    refine ⟨.inr (by trivial), ?_⟩
    first | refine Fsa hcl rfl ?_ | refine Fse hcl rfl ?_
    try simp only [go_sem]
    all_goals
     rw [hinv2, c5b, c6b]; simp [orE]
   try simp only [nrm] at c6
   have c6b : has (l.take k) v = false := by simpa using c6
   refine W_skip (K16 _ _ ?_)
   refine W_region [0, 6, 18, 19, 20, 24, 25, 26] fun R hR => ?_
   simp only [go_sem, allOne, hx, llPV, hv]
   try simp (disch := omega) only [wrapI, wrapU]
   refine hR _ _ ?_; clear hR R
   try simp only [go_sem, allOne, hx, llPV, hv]
   refine ⟨k + 1, ?_, by (try simp only []); omega, ?_⟩
   ·first | exact Weak.refl | exact Wqq
   try dsimp only
   refine ⟨by omega, ?_⟩
   rw [hinv2, htk, c5b, c6b]
   simp
  try simp only [nrm] at c4
  have hdk : l.drop k = [] := List.drop_eq_nil_of_le (by omega)
  rw [hdk] at hinv2
  simp only [chkRow, orE] at hinv2
  have hdone : res = chkRows n (ls.drop (i + 1)) := by rw [hinv2]; simp
  refine W_exit ?_
  simp only [go_sem, allOne, hx, llPV]
  refine K11 _ _ ?_
  refine W_region [0, 18, 19, 20] fun R hR => ?_
  simp only [go_sem, allOne, hx, llPV]
  try simp (disch := omega) only [wrapI, wrapU]
  refine hR _ _ ?_; clear hR R
  try simp only [go_sem, allOne, hx, llPV]
  refine ⟨i + 1, ?_, by (try simp only []); omega, ?_⟩
  ·first | exact Weak.refl | exact Wqq
  try dsimp only
  exact ⟨hik, hdone⟩
 try simp only [nrm] at c3
 have hdrop : ls.drop i = [] := List.drop_eq_nil_of_le (by omega)
 rw [hdrop] at hinv
 simp only [chkRows] at hinv
 refine W_exit ?_
 simp only [go_sem, allOne]
 refine K7 _ _ ?_
 refine W_sr [4] fun R hR => ?_
 simp only [go_sem, allOne]
 refine hR _ _ ?_; clear hR R
 try simp only [go_sem, allOne]
 refine W_ret ?_
 simp only [go_sem, allOne]
 refine ⟨.inr (by trivial), ?_⟩
 first | refine Fsa hcl rfl ?_ | refine Fse hcl rfl ?_
 try simp only [go_sem]
 all_goals
  rw [hinv]
/-- The first song of a list that is not left out. -/
def firstLeft (out l : List Int) : Option Int := l.find? fun s => !has out s
/-- How many lists are for a song. -/
def manyFor (out : List Int) (ls : List (List Int)) (s : Int) : Nat := ls.countP fun l => decide (firstLeft out l = some s)
theorem manyFor_snoc (out : List Int) (ls : List (List Int)) (l : List Int) (s : Int) : manyFor out (ls ++ [l]) s = manyFor out ls s + (if firstLeft out l = some s then 1 else 0) := by
 simp [manyFor, List.countP_append, List.countP_cons]
theorem manyFor_le (out : List Int) (ls : List (List Int)) (s : Int) : manyFor out ls s ≤ ls.length := List.countP_le_length
/-- The last one of those for which the fewest lists are. -/
def worstF (out : List Int) (ls : List (List Int)) : Nat → Int
 | 0 => -1
 | i + 1 => if !has out i && (decide (worstF out ls i < 0) || decide (manyFor out ls i ≤ manyFor out ls (worstF out ls i))) then (i : Int) else worstF out ls i
theorem worstF_bd (out : List Int) (ls : List (List Int)) : ∀ i, (worstF out ls i = -1 ∧ ∀ s : Nat, s < i → has out s = true) ∨ (0 ≤ worstF out ls i ∧ worstF out ls i < i ∧ has out (worstF out ls i) = false) := by
 intro i
 induction i with
 | zero => exact .inl ⟨rfl, fun s h => by omega⟩
 | succ i ih =>
  simp only [worstF]
  split
  ·rename_i h
   right
   simp only [Bool.and_eq_true, Bool.not_eq_true'] at h
   exact ⟨by omega, by omega, h.1⟩
  rename_i h
  rcases ih with ⟨h1, h2⟩ | ⟨h1, h2, h3⟩
  ·left
   refine ⟨h1, fun s hs => ?_⟩
   by_cases e : s = i
   ·subst e
    rw [h1] at h
    simpa using h
   exact h2 s (by omega)
  right; exact ⟨h1, by omega, h3⟩
/-- So many songs, left out. -/
def runU (n : Nat) (ls : List (List Int)) : Nat → List Int
 | 0 => []
 | i + 1 => runU n ls i ++ [worstF (runU n ls i) ls n]
theorem runU_len (n : Nat) (ls : List (List Int)) : ∀ i, (runU n ls i).length = i := by
 intro i
 induction i with
 | zero => rfl
 | succ i ih => simp [runU, ih]
theorem sub_len : ∀ {l l' : List Int}, l.Nodup → (∀ x, x ∈ l → x ∈ l') → l.length ≤ l'.length := by
 intro l
 induction l with
 | nil => intro l' _ _; simp
 | cons a l ih =>
  intro l' hn hs
  obtain ⟨h1, h2⟩ := List.nodup_cons.1 hn
  have ha := hs a (by simp)
  have := ih (l' := l'.erase a) h2 fun x hx => (List.mem_erase_of_ne (show x ≠ a from fun e => h1 (by rw [← e]; exact hx))).2 (hs x (by simp [hx]))
  rw [List.length_erase_of_mem ha] at this
  have hp := List.length_pos_of_mem ha
  simp only [List.length_cons]
  omega
theorem some_left {n : Nat} {out : List Int} (h : out.length < n) : ∃ s : Nat, s < n ∧ has out s = false := by
 refine Classical.byContradiction fun hh => ?_
 have hall : ∀ s : Nat, s < n → has out s = true := fun s hs => by
  cases e : has out s with
  | true => rfl
  | false => exact absurd ⟨s, hs, e⟩ hh
 have hnd : ((List.range n).map fun s : Nat => (s : Int)).Nodup := by
  rw [List.nodup_iff_pairwise_ne, List.pairwise_map]
  exact (List.nodup_iff_pairwise_ne.1 List.nodup_range).imp fun h e => h (by omega)
 have := sub_len hnd (l' := out) fun x hx => by
  obtain ⟨s, hs, rfl⟩ := List.mem_map.1 hx
  exact has_iff.1 (hall s (List.mem_range.1 hs))
 simp at this
 omega
theorem worst_ok {n : Nat} {out : List Int} (ls : List (List Int)) (h : out.length < n) : 0 ≤ worstF out ls n ∧ worstF out ls n < n ∧ has out (worstF out ls n) = false := by
 rcases worstF_bd out ls n with ⟨_, h2⟩ | h2
 ·obtain ⟨s, hs, e⟩ := some_left h
  rw [h2 s hs] at e; cases e
 exact h2
theorem runU_ok (n : Nat) (ls : List (List Int)) : ∀ i, i ≤ n → (∀ x, x ∈ runU n ls i → 0 ≤ x ∧ x < n) ∧ (runU n ls i).Nodup := by
 intro i
 induction i with
 | zero => intro _; exact ⟨fun x hx => absurd hx (by simp [runU]), by simp [runU]⟩
 | succ i ih =>
  intro hi
  obtain ⟨h1, h2⟩ := ih (by omega)
  obtain ⟨w1, w2, w3⟩ := worst_ok (n := n) (out := runU n ls i) ls (by rw [runU_len]; omega)
  refine ⟨fun x hx => ?_, ?_⟩
  ·simp only [runU, List.mem_append, List.mem_singleton] at hx
   rcases hx with hx | rfl
   ·exact h1 x hx
   exact ⟨w1, w2⟩
  simp only [runU]
  rw [List.nodup_append]
  refine ⟨h2, by simp, fun a ha b hb e => ?_⟩
  simp at hb
  subst hb e
  rw [has_iff.2 ha] at w3; cases w3
/-- The first song that is not left out. -/
def winF (out : List Int) : Nat → Nat → Int
 | 0, i => i
 | k + 1, i => if has out i then winF out k (i + 1) else i
/-- Songs left out, the one that remains, an error. -/
def runoffA (n : Int) (ls : List (List Int)) : List Int × Int × Int :=
 if chkPf n ls ≠ 0 then ([], 0, chkPf n ls) else (runU n.toNat ls (n.toNat - 1), winF (runU n.toNat ls (n.toNat - 1)) n.toNat 0, 0)
def goneC (out : List Int) : List PV := (List.range 8).map fun s : Nat => PV.bool (has out s)
def manyC (out : List Int) (ls : List (List Int)) : List PV := (List.range 8).map fun s : Nat => I (manyFor out ls s : Nat)
theorem goneC_get {out : List Int} {s : Nat} (h : s < 8) : (goneC out)[s]? = some (.bool (has out s)) := by simp [goneC, h]
theorem manyC_get {out : List Int} {ls : List (List Int)} {s : Nat} (h : s < 8) : (manyC out ls)[s]? = some (I (manyFor out ls s : Nat)) := by simp [manyC, h]
theorem has_snoc {out : List Int} {w v : Int} : has (out ++ [w]) v = (has out v || decide (w = v)) := by simp [has, List.any_append]
theorem goneC_set {out : List Int} {s : Nat} (h : s < 8) : (goneC out).set s (.bool true) = goneC (out ++ [(s : Int)]) := by
 apply List.ext_getElem?
 intro i
 by_cases e : s = i
 ·subst e
  rw [List.getElem?_set_self (by simpa [goneC] using h), goneC_get h, has_snoc]
  simp
 rw [List.getElem?_set_ne e]
 by_cases hi : i < 8
 ·rw [goneC_get hi, goneC_get hi, has_snoc]
  simp; omega
 simp [goneC, hi]
theorem manyC_none {out : List Int} {ls : List (List Int)} {l : List Int} (h : firstLeft out l = none) : manyC out (ls ++ [l]) = manyC out ls := by
 unfold manyC
 refine List.map_congr_left fun s _ => ?_
 rw [manyFor_snoc, if_neg (by rw [h]; simp)]
 rfl
theorem manyC_some {out : List Int} {ls : List (List Int)} {l : List Int} {s : Nat} (h : s < 8) (hf : firstLeft out l = some (s : Int)) : (manyC out ls).set s (I ((manyFor out ls s : Nat) + 1)) = manyC out (ls ++ [l]) := by
 apply List.ext_getElem?
 intro i
 by_cases e : s = i
 ·subst e
  rw [List.getElem?_set_self (by simpa [manyC] using h), manyC_get h, manyFor_snoc, if_pos hf]
  rfl
 rw [List.getElem?_set_ne e]
 by_cases hi : i < 8
 ·rw [manyC_get hi, manyC_get hi, manyFor_snoc, if_neg (by rw [hf]; intro h; injection h with h; omega)]
  rfl
 simp [manyC, hi]
theorem firstLeft_at {out l : List Int} {k : Nat} {v : Int} (hk : ∀ x, x ∈ l.take k → has out x = true) (hv : l[k]? = some v) (h : has out v = false) : firstLeft out l = some v := by
 have hlt := (List.getElem?_eq_some_iff.1 hv).1
 unfold firstLeft
 rw [List.find?_eq_some_iff_append]
 refine ⟨by simp [h], l.take k, l.drop (k + 1), ?_, fun x hx => by simp [hk x hx]⟩
 conv => lhs; rw [← List.take_append_drop k l]
 rw [List.drop_eq_getElem_cons hlt, (List.getElem?_eq_some_iff.1 hv).2]
theorem firstLeft_none {out l : List Int} (h : ∀ x, x ∈ l → has out x = true) : firstLeft out l = none := by
 unfold firstLeft
 rw [List.find?_eq_none]
 intro x hx
 simp [h x hx]
theorem goneC_len (out : List Int) : (goneC out).length = 8 := by simp [goneC]
theorem manyC_len (out : List Int) (ls : List (List Int)) : (manyC out ls).length = 8 := by simp [manyC]
theorem goneC_clean {a b c : Nat} (out : List Int) : CleanAll a b c (goneC out) := by
 intro p hp
 obtain ⟨s, _, rfl⟩ := List.mem_map.1 hp
 simp only [go_sem]
theorem beqB2 {a b : Bool} : eqPV Tryz.prog 4 (.bool a) (.bool b) = some (decide (a = b)) := by cases a <;> cases b <;> kernel_rfl
theorem sl123 {id : Nat} {k : IntKind} {n : Nat} (h0 : 0 < n) (h8 : n ≤ 8) : slicePV Tryz.prog 123 (.ptr id 0) none (some (.int k n)) none = some (.msl id 0 n) := by
 unfold slicePV
 rw [Tryz.underlying123]
 simp only [Tryz.underlying4, bnd]
 simp [h8]
 omega
def idxF (out : List Int) : Nat → Nat → Int
 | 0, _ => -1
 | k + 1, i => if has out i = false then i else idxF out k (i + 1)
theorem idxF_eq {n : Nat} {out : List Int} : ∀ (k i : Nat), i + k = n → (∃ s : Nat, i ≤ s ∧ s < n ∧ has out s = false) → idxF out k i = winF out k i := by
 intro k
 induction k with
 | zero => rintro i h ⟨s, h1, h2, _⟩; omega
 | succ k ih =>
  rintro i h ⟨s, h1, h2, h3⟩
  simp only [idxF, winF]
  cases e : has out i with
  | false => simp
  | true =>
   simp only [Bool.true_eq_false, if_false, if_true]
   exact ih (i + 1) (by omega) ⟨s, by
    by_cases q : s = i
    ·subst q; rw [e] at h3; cases h3
    omega, h2, h3⟩
set_option maxHeartbeats 2000000 in
theorem gIndex_pc (Y : YEnv) (σ : Sg) (out : List Int) (id n : Nat) (hn8 : n ≤ 8) (hd : σ.store[id]? = some (some (goneC out))) :
 PC Tryz.prog Y 64 [.msl id 0 n, .bool false] σ (I (idxF out n 0)) (σ) := by
 refine PC_of_W Tryz.func64 rfl (by kernel_rfl) Tryz.ntmps64 (by simp) fun hcl hca => ?_
 obtain ⟨res, hres⟩ : ∃ r, idxF out n 0 = r := ⟨_, rfl⟩
 rw [hres]
 refine W_sr [0, 1] fun R hR => ?_
 simp only [go_sem, beqB2, ldS_at hd]
 refine hR _ _ ?_; clear hR R
 try simp only [go_sem, beqB2, ldS_at hd]
 refine W_seq fun Z2 K2 => ?_
 refine W_sr [0, 1, 7, 8] fun R hR => ?_
 simp only [go_sem, beqB2, ldS_at hd]
 refine hR _ _ ?_; clear hR R
 try simp only [go_sem, beqB2, ldS_at hd]
 refine W_block ?_
 refine W_loopS (α := Nat) (fun (i : Nat) => [(8, I i)]) (fun (i : Nat) => i ≤ n ∧ res = idxF out (n - i) i) (fun (i : Nat) => n - i) (0) rfl (⟨Nat.zero_le _, hres.symm⟩) ?_
 rintro i ⟨hi, hinv⟩
 refine W_sr [0, 1, 7, 8, 9] fun R hR => ?_
 simp only [go_sem, beqB2, ldS_at hd]
 refine hR _ _ ?_; clear hR R
 try simp only [go_sem, beqB2, ldS_at hd]
 refine W_seq fun Z5 K5 => ?_
 refine W_cond rfl (fun c1 => ?_) (fun c1 => ?_)
 ·
  try simp only [nrm] at c1
  have hin : i < n := by first | assumption | omega
  have hin2 : (i : Int) < (n : Int) := by omega
  obtain ⟨k, hk⟩ : ∃ k, n - i = k + 1 := ⟨n - i - 1, by omega⟩
  rw [hk] at hinv
  simp only [idxF] at hinv
  have hg := goneC_get (out := out) (s := i) (by omega)
  refine W_skip (K5 _ _ ?_)
  refine W_seq fun Z6 K6 => ?_
  refine W_block ?_
  refine W_sr [0, 1, 5, 7, 8] fun R hR => ?_
  simp only [go_sem, beqB2, ldS_at hd, hg]
  refine hR _ _ ?_; clear hR R
  try simp only [go_sem, beqB2, ldS_at hd, hg]
  refine W_sr [0, 1, 5, 7, 8, 16] fun R hR => ?_
  simp only [go_sem, beqB2, ldS_at hd, hg, hin2, iaM_nat (Int.ofNat_lt.1 hin2), Nat.mul_one, Nat.zero_add, bindSome]
  refine hR _ _ ?_; clear hR R
  try simp only [go_sem, beqB2, ldS_at hd, hg]
  refine W_cond rfl (fun c2 => ?_) (fun c2 => ?_)
  ·
   try simp only [nrm] at c2
   refine W_sr [4] fun R hR => ?_
   simp only [go_sem, beqB2, ldS_at hd, hg]
   refine hR _ _ ?_; clear hR R
   try simp only [go_sem, beqB2, ldS_at hd, hg]
   refine W_ret ?_
   simp only [go_sem, beqB2, ldS_at hd, hg]
   refine ⟨.inr (by trivial), ?_⟩
   first | refine Fsa hcl rfl ?_ | refine Fse hcl rfl ?_
   try simp only [go_sem]
   all_goals
    first | (rw [hinv]; done) | (rw [hinv]; simp_all; done) | rfl
  try simp only [nrm] at c2
  refine W_skip (K6 _ _ ?_)
  refine W_region [0, 1, 7, 8] fun R hR => ?_
  simp only [go_sem, beqB2, ldS_at hd, hg]
  try simp (disch := omega) only [wrapI, wrapU]
  refine hR _ _ ?_; clear hR R
  try simp only [go_sem, beqB2, ldS_at hd, hg]
  refine ⟨i + 1, ?_, by (try simp only []); omega, ?_⟩
  ·first | exact Weak.refl | exact Wqq
  try dsimp only
  refine ⟨hin, ?_⟩
  rw [hinv, show n - (i + 1) = k by omega]
  simp_all
 try simp only [nrm] at c1
 have hie : n - i = 0 := by omega
 rw [hie] at hinv
 simp only [idxF] at hinv
 refine W_exit ?_
 simp only [go_sem, beqB2, ldS_at hd]
 refine K2 _ _ ?_
 refine W_sr [4] fun R hR => ?_
 simp only [go_sem, beqB2, ldS_at hd]
 refine hR _ _ ?_; clear hR R
 try simp only [go_sem, beqB2, ldS_at hd]
 refine W_ret ?_
 simp only [go_sem, beqB2, ldS_at hd]
 refine ⟨.inr (by trivial), ?_⟩
 first | refine Fsa hcl rfl ?_ | refine Fse hcl rfl ?_
 try simp only [go_sem]
 all_goals
  first | (rw [hinv]; done) | (rw [hinv]; simp_all; done) | rfl
set_option maxHeartbeats 8000000 in
theorem Runoff_pc (Y : YEnv) (σ : Sg) (n : Int) (ls : List (List Int)) (hl : ls.length < 2 ^ 40) (hl2 : ∀ l, l ∈ ls → l.length < 2 ^ 40) :
 PC Tryz.prog Y 34 [I n, lls ls] σ (.tuple [ints (runoffA n ls).1, I (runoffA n ls).2.1, I (runoffA n ls).2.2]) (σ) := by
 refine PC_of_W Tryz.func34 rfl (by kernel_rfl) Tryz.ntmps34 (by simp) fun hcl hca => ?_
 refine W_sr [0, 1, 4] fun R hR => ?_
 simp only [go_sem]
 refine hR _ _ ?_; clear hR R
 try simp only [go_sem]
 refine W_seq fun Z2 K2 => ?_
 refine W_sr [0, 1, 4, 7] fun R hR => ?_
 simp only [go_sem]
 refine GCall_of (chkPf_pc Y _ n ls hl hl2) ?_
 simp only [go_sem]
 refine hR _ _ ?_; clear hR R
 try simp only [go_sem]
 refine W_sr [0, 1, 4, 7, 20] fun R hR => ?_
 simp only [go_sem]
 refine hR _ _ ?_; clear hR R
 try simp only [go_sem]
 refine W_cond rfl (fun c1 => ?_) (fun c1 => ?_)
 ·
  try simp only [nrm] at c1
  refine W_sr [4, 5, 6] fun R hR => ?_
  simp only [go_sem]
  refine hR _ _ ?_; clear hR R
  try simp only [go_sem]
  refine W_ret ?_
  simp only [go_sem]
  refine ⟨.inr (by trivial), ?_⟩
  first | (rw [hall]; refine Fin_same hcl rfl (Wk.ro (by simp only [go_sem]) ?_)) | refine Fin_same hcl rfl (Wk.ro (by simp only [go_sem]) ?_) | refine Fin_self hcl rfl (Wk.ro (by simp only [go_sem]) ?_)
  try simp only [go_sem]
  all_goals
   simp only [runoffA]; rw [if_pos c1]; first | rfl | simp only [go_sem]
 try simp only [nrm] at c1
 have hV := pfV_iff.1 c1
 have hn1 := hV.nb
 obtain ⟨N, hN⟩ : ∃ z : Nat, n = z := ⟨n.toNat, by omega⟩
 have hall : runoffA n ls = (runU N ls (N - 1), winF (runU N ls (N - 1)) N 0, 0) := by
  unfold runoffA
  rw [if_neg (by simp [c1]), hN, Int.toNat_natCast]
 have hmem := fun l (h : l ∈ ls) => (chkRow_mem (hV.ck l h)).1
 subst hN
 refine W_skip (K2 _ _ ?_)
 refine W_sr [0, 1, 4, 8] fun R hR => ?_
 simp only [go_sem]
 refine hR _ _ ?_; clear hR R
 try simp only [go_sem]
 refine W_seq fun Z7 K7 => ?_
 refine W_block ?_
 refine W_weak (Weak.room (t := 4) (es := 1) rfl (by simp)) ?_
 refine W_weak (Weak.keep [0, 1, 4, 8]) ?_
 simp only [go_sem]
 refine W_loopT (α := Nat) (fun (i : Nat) => [(4, .isl ((runU N ls i).map I) (.tok σ.rooms.length i 1))]) (fun (i : Nat) => σ.ext [some (goneC (runU N ls i))] [i]) (fun (i : Nat) => i ≤ N - 1) (fun (i : Nat) => N - 1 - i) (0) rfl (by first | rfl | (simp only [go_sem]; done) | (simp only [go_sem]; rfl)) (Nat.zero_le _) ?_
 rintro i hi
 have hrl := runU_len N ls i
 obtain ⟨out, hout⟩ : ∃ z, runU N ls i = z := ⟨_, rfl⟩
 rw [hout] at hrl
 rw [hout]
 refine W_seq fun Z8 K8 => ?_
 refine W_sr [0, 1, 4, 8, 26] fun R hR => ?_
 simp only [go_sem, hrl]
 try simp (disch := omega) only [wrapI, wrapU]
 refine hR _ _ ?_; clear hR R
 try simp only [go_sem, hrl]
 refine W_cond rfl (fun c2 => ?_) (fun c2 => ?_)
 ·
  try simp only [nrm] at c2
  have hiN : i < N - 1 := by first | omega | (simp at c2; omega)
  have hok := runU_ok N ls i (by omega)
  have hw := worst_ok (n := N) ls (out := out) (by omega)
  refine W_skip (K8 _ _ ?_)
  refine W_block ?_
  refine W_scope ?_
  refine W_sr [0, 1, 4, 8, 9] fun R hR => ?_
  simp only [go_sem, hrl]
  refine hR _ _ ?_; clear hR R
  try simp only [go_sem, hrl]
  refine W_seq fun Z11 K11 => ?_
  refine W_label (K11 _ _ ?_)
  refine W_seq fun Z12 K12 => ?_
  refine W_sr [0, 1, 4, 8, 9, 27, 28, 29] fun R hR => ?_
  simp only [go_sem, hrl]
  refine hR _ _ ?_; clear hR R
  try simp only [go_sem, hrl]
  refine W_block ?_
  refine W_loopT (α := Nat) (fun (j : Nat) => [(29, I j)]) (fun (j : Nat) => σ.ext [some (goneC out), some (manyC out (ls.take j))] [i]) (fun (j : Nat) => j ≤ ls.length) (fun (j : Nat) => ls.length - j) (0) rfl (by first | rfl | (simp only [go_sem]; done) | (simp only [go_sem]; rfl)) (Nat.zero_le _) ?_
  rintro j hj
  refine W_sr [0, 1, 4, 8, 9, 27, 28, 29, 30] fun R hR => ?_
  simp only [go_sem, hrl]
  refine hR _ _ ?_; clear hR R
  try simp only [go_sem, hrl]
  refine W_seq fun Z15 K15 => ?_
  refine W_cond rfl (fun c3 => ?_) (fun c3 => ?_)
  ·
   try simp only [nrm] at c3
   have hj' : j < ls.length := by first | assumption | omega
   obtain ⟨l, hlj⟩ : ∃ l, ls[j]? = some l := ⟨ls[j], by simp [hj']⟩
   have hdrop : ls.drop j = l :: ls.drop (j + 1) := by
    rw [List.drop_eq_getElem_cons hj']; congr 1; exact (List.getElem?_eq_some_iff.1 hlj).2
   have hsn : ls.take (j + 1) = ls.take j ++ [l] := by rw [List.take_add_one, hlj]; rfl
   have hlm := hmem l (List.mem_of_getElem? hlj)
   have hll := hl2 l (List.mem_of_getElem? hlj)
   have hj2 : j + 1 ≤ ls.length := hj'
   refine W_skip (K15 _ _ ?_)
   refine W_seq fun Z16 K16 => ?_
   refine W_block ?_
   refine W_sr [0, 1, 4, 8, 9, 11, 27, 28, 29] fun R hR => ?_
   simp only [go_sem, hrl, hlj, llPV]
   refine hR _ _ ?_; clear hR R
   try simp only [go_sem, hrl, hlj, llPV]
   refine W_sr [0, 1, 4, 8, 9, 27, 28, 29, 33, 34, 35] fun R hR => ?_
   simp only [go_sem, hrl, hlj, llPV]
   refine hR _ _ ?_; clear hR R
   try simp only [go_sem, hrl, hlj, llPV]
   refine W_block ?_
   refine W_loopT (α := Nat) (fun (k : Nat) => [(35, I k)]) (fun (k : Nat) => σ.ext [some (goneC out), some (manyC out (ls.take j))] [i]) (fun (k : Nat) => k ≤ l.length ∧ ∀ x, x ∈ l.take k → has out x = true) (fun (k : Nat) => l.length - k) (0) rfl (by first | rfl | (simp only [go_sem]; done) | (simp only [go_sem]; rfl)) (⟨Nat.zero_le _, fun x hx => by simp at hx⟩) ?_
   rintro k ⟨hk, hta⟩
   refine W_sr [0, 1, 4, 8, 9, 27, 28, 29, 33, 34, 35, 36] fun R hR => ?_
   simp only [go_sem, hrl, hlj, llPV]
   refine hR _ _ ?_; clear hR R
   try simp only [go_sem, hrl, hlj, llPV]
   refine W_seq fun Z20 K20 => ?_
   refine W_cond rfl (fun c4 => ?_) (fun c4 => ?_)
   ·
    try simp only [nrm] at c4
    have hk' : k < l.length := by first | assumption | omega
    obtain ⟨v, hv⟩ : ∃ v, l[k]? = some v := ⟨l[k], by simp [hk']⟩
    have hdrop : l.drop k = v :: l.drop (k + 1) := by
     rw [List.drop_eq_getElem_cons hk']; congr 1; exact (List.getElem?_eq_some_iff.1 hv).2
    have hvb := hlm v (List.mem_of_getElem? hv)
    obtain ⟨vn, hvn⟩ : ∃ z : Nat, v = z := ⟨v.toNat, by omega⟩
    subst hvn
    have hgv := goneC_get (out := out) (s := vn) (by omega)
    have hmv := manyC_get (out := out) (ls := ls.take j) (s := vn) (by omega)
    have hml := manyFor_le out (ls.take j) vn
    have hvn8 : (vn : Int) < 8 := by omega
    have hml8 : decide (vn + 1 ≤ (manyC out (ls.take j)).length) = true := decide_eq_true (by rw [manyC_len]; omega)
    rw [List.length_take] at hml
    refine W_skip (K20 _ _ ?_)
    refine W_seq fun Z21 K21 => ?_
    refine W_block ?_
    refine W_sr [0, 1, 4, 8, 9, 13, 27, 28, 29, 33, 34, 35] fun R hR => ?_
    simp only [go_sem, hrl, hlj, llPV, hv, hgv, hmv, hvn8, hml8, Nat.mul_one]
    refine hR _ _ ?_; clear hR R
    try simp only [go_sem, hrl, hlj, llPV, hv, hgv, hmv, hvn8, hml8, Nat.mul_one]
    refine W_sr [0, 1, 4, 8, 9, 13, 27, 28, 29, 33, 34, 35, 42] fun R hR => ?_
    simp only [go_sem, hrl, hlj, llPV, hv, hgv, hmv, hvn8, hml8, Nat.mul_one]
    refine hR _ _ ?_; clear hR R
    try simp only [go_sem, hrl, hlj, llPV, hv, hgv, hmv, hvn8, hml8, Nat.mul_one]
    refine W_cond rfl (fun c5 => ?_) (fun c5 => ?_)
    ·
     try simp only [nrm] at c5
     have hf := firstLeft_at hta hv (by simpa using c5)
     have hset := manyC_some (out := out) (ls := ls.take j) (s := vn) (by omega) hf
     rw [← hsn] at hset
     refine W_sr [0, 1, 4, 8, 9, 27, 28, 29] fun R hR => ?_
     simp only [go_sem, hrl, hlj, llPV, hv, hgv, hmv, hvn8, hml8, Nat.mul_one, hset]
     try simp (disch := omega) only [wrapI, wrapU]
     refine hR _ _ ?_; clear hR R
     try simp only [go_sem, hrl, hlj, llPV, hv, hgv, hmv, hvn8, hml8, Nat.mul_one]
     refine W_exit ?_
     simp only [go_sem, hrl, hlj, llPV, hv, hgv, hmv, hvn8, hml8, Nat.mul_one]
     refine K16 _ _ ?_
     refine W_region [0, 1, 4, 8, 9, 27, 28, 29] fun R hR => ?_
     simp only [go_sem, hrl, hlj, llPV, hv, hgv, hmv, hvn8, hml8, Nat.mul_one]
     try simp (disch := omega) only [wrapI, wrapU]
     refine hR _ _ ?_; clear hR R
     try simp only [go_sem, hrl, hlj, llPV, hv, hgv, hmv, hvn8, hml8, Nat.mul_one]
     refine ⟨j + 1, ?_, by (try simp only []); omega, ?_⟩
     ·first | exact Weak.refl | exact Weak.eq rfl (by rw [hmn]) | exact Weak.eq rfl (congrArg (fun z => σ.ext [some (goneC out), some z] [i]) hset)
     try dsimp only
     exact hj2
    try simp only [nrm] at c5
    have hhv : has out (vn : Int) = true := by simpa using c5
    refine W_skip (K21 _ _ ?_)
    refine W_region [0, 1, 4, 8, 9, 27, 28, 29, 33, 34, 35] fun R hR => ?_
    simp only [go_sem, hrl, hlj, llPV, hv, hgv, hmv, hvn8, hml8, Nat.mul_one]
    try simp (disch := omega) only [wrapI, wrapU]
    refine hR _ _ ?_; clear hR R
    try simp only [go_sem, hrl, hlj, llPV, hv, hgv, hmv, hvn8, hml8, Nat.mul_one]
    refine ⟨k + 1, ?_, by (try simp only []); omega, ?_⟩
    ·first | exact Weak.refl | exact Wqq
    try dsimp only
    refine ⟨by omega, fun x hx => ?_⟩
    rw [List.take_add_one, hv] at hx
    rcases List.mem_append.1 hx with h | h
    ·exact hta x h
    simp at h; subst h; exact hhv
   try simp only [nrm] at c4
   have hke : k = l.length := by omega
   rw [hke, List.take_length] at hta
   have hmn : manyC out (ls.take j) = manyC out (ls.take (j + 1)) := by rw [hsn, manyC_none (firstLeft_none hta)]
   refine W_exit ?_
   simp only [go_sem, hrl, hlj, llPV]
   refine K16 _ _ ?_
   refine W_region [0, 1, 4, 8, 9, 27, 28, 29] fun R hR => ?_
   simp only [go_sem, hrl, hlj, llPV]
   try simp (disch := omega) only [wrapI, wrapU]
   refine hR _ _ ?_; clear hR R
   try simp only [go_sem, hrl, hlj, llPV]
   refine ⟨j + 1, ?_, by (try simp only []); omega, ?_⟩
   ·first | exact Weak.refl | exact Weak.eq rfl (by rw [hmn]) | exact Weak.eq rfl (congrArg (fun z => σ.ext [some (goneC out), some z] [i]) hset)
   try dsimp only
   exact hj2
  try simp only [nrm] at c3
  have hje : j = ls.length := by omega
  subst hje
  rw [List.take_length]
  refine W_exit ?_
  simp only [go_sem, hrl]
  refine K12 _ _ ?_
  refine W_sr [0, 1, 4, 8, 9, 14] fun R hR => ?_
  simp only [go_sem, hrl]
  refine hR _ _ ?_; clear hR R
  try simp only [go_sem, hrl]
  refine W_seq fun Z26 K26 => ?_
  refine W_sr [0, 1, 4, 8, 9, 14, 50, 51] fun R hR => ?_
  simp only [go_sem, hrl]
  refine hR _ _ ?_; clear hR R
  try simp only [go_sem, hrl]
  refine W_block ?_
  refine W_loopS (α := Nat) (fun (s : Nat) => [(14, I (worstF out ls s)), (51, I s)]) (fun (s : Nat) => s ≤ N) (fun (s : Nat) => N - s) (0) rfl (Nat.zero_le _) ?_
  rintro s hs
  refine W_sr [0, 1, 4, 8, 9, 14, 50, 51, 52] fun R hR => ?_
  simp only [go_sem, hrl]
  refine hR _ _ ?_; clear hR R
  try simp only [go_sem, hrl]
  refine W_seq fun Z29 K29 => ?_
  refine W_cond rfl (fun c6 => ?_) (fun c6 => ?_)
  ·
   try simp only [nrm] at c6
   have hsN : s < N := by first | omega | (simp at c6; omega)
   have hgs := goneC_get (out := out) (s := s) (by omega)
   have hms := manyC_get (out := out) (ls := ls) (s := s) (by omega)
   have hwb := worstF_bd out ls s
   have hs8 : (s : Int) < 8 := by omega
   refine W_skip (K29 _ _ ?_)
   refine W_seq fun Z30 K30 => ?_
   refine W_block ?_
   refine W_sr [0, 1, 4, 8, 9, 14, 15, 50, 51] fun R hR => ?_
   simp only [go_sem, hrl, hgs, hms, hs8, Nat.mul_one]
   refine hR _ _ ?_; clear hR R
   try simp only [go_sem, hrl, hgs, hms, hs8, Nat.mul_one]
   refine W_seq fun Z32 K32 => ?_
   refine W_drawJ [0, 1, 4, 8, 9, 14, 15, 50, 51, 70] [(70, .bool (!has out s && (decide (worstF out ls s < 0) || decide (manyFor out ls s ≤ manyFor out ls (worstF out ls s)))))] [0, 1, 2, 3, 4, 5, 6, 7, 8, 9, 10, 11, 12, 13, 14, 15, 16] [] [[], [0], [0, 1], [0, 1, 2], [0, 1, 2, 3], [0, 1, 2, 3, 4], [0, 1, 2, 3, 4, 5], [0, 1, 2, 3, 4, 5, 6], [0, 1, 2, 3, 4, 5, 6, 7], [0, 1, 2, 3, 4, 5, 6, 7, 8], [0, 1, 2, 3, 4, 5, 6, 7, 8, 9], [0, 1, 2, 3, 4, 5, 6, 7], [0, 1, 2, 3, 4, 5, 6, 7, 11], [0, 1, 2, 3, 4, 5, 6, 7, 11, 12], [0, 1, 2, 3, 4, 5, 6, 7, 8, 9, 10, 11, 12, 13], [0, 1, 2, 3, 4, 5, 6, 7, 8, 9, 10, 11, 12, 13, 14], [0, 1, 2, 3, 4, 5, 6, 7, 8, 9, 10, 11, 12, 13, 14, 15]] mixed (by kernel_rfl) ?_ fun R hR => ?_
   ·refine K32 _ _ ?_
    simp only [go_sem, hrl, hgs, hms, hs8, Nat.mul_one]
    refine W_cond rfl (fun c7 => ?_) (fun c7 => ?_)
    ·
     try simp only [nrm] at c7
     have hws1 : worstF out ls (s + 1) = (s : Int) := by simp only [worstF]; rw [if_pos c7]
     refine W_region [0, 1, 4, 8, 9, 14, 50, 51] fun R hR => ?_
     simp only [go_sem, hrl, hgs, hms, hs8, Nat.mul_one]
     refine hR _ _ (K30 _ _ ?_); clear hR R; try clear K30 Z30
     try simp only [go_sem, hrl, hgs, hms, hs8, Nat.mul_one]
     refine W_region [0, 1, 4, 8, 9, 14, 50, 51] fun R hR => ?_
     simp only [go_sem, hrl, hgs, hms, hs8, Nat.mul_one]
     try simp (disch := omega) only [wrapI, wrapU]
     refine hR _ _ ?_; clear hR R
     try simp only [go_sem, hrl, hgs, hms, hs8, Nat.mul_one]
     refine ⟨s + 1, ?_, by (try simp only []); omega, ?_⟩
     ·refine Weak.eq (by simp only [hws1]; first | done | rfl | (simp only [go_sem]; done)) rfl
     try dsimp only
     omega
    try simp only [nrm] at c7
    have hws1 : worstF out ls (s + 1) = worstF out ls s := by simp only [worstF]; rw [if_neg (by rw [c7]; simp)]
    refine W_skip (K30 _ _ ?_)
    refine W_region [0, 1, 4, 8, 9, 14, 50, 51] fun R hR => ?_
    simp only [go_sem, hrl, hgs, hms, hs8, Nat.mul_one]
    try simp (disch := omega) only [wrapI, wrapU]
    refine hR _ _ ?_; clear hR R
    try simp only [go_sem, hrl, hgs, hms, hs8, Nat.mul_one]
    refine ⟨s + 1, ?_, by (try simp only []); omega, ?_⟩
    ·refine Weak.eq (by simp only [hws1]; first | done | rfl | (simp only [go_sem]; done)) rfl
    try dsimp only
    omega
   simp only [go_sem, hrl, hgs, hms, hs8, Nat.mul_one]
   refine GWant_split (fun g1 => ?_) (fun g1 => ?_)
   ·try simp only [Bool.not_eq_true', Bool.not_eq_false'] at g1
    have n1 := g1; try simp only [nrm] at n1
    simp only [go_sem, hrl, hgs, hms, hs8, Nat.mul_one, g1]
    refine GWant_split (fun g2 => ?_) (fun g2 => ?_)
    ·try simp only [Bool.not_eq_true', Bool.not_eq_false'] at g2
     have n2 := g2; try simp only [nrm] at n2
     obtain ⟨wn, hwn⟩ : ∃ z : Nat, worstF out ls s = z := ⟨(worstF out ls s).toNat, by simp at g2; omega⟩
     rw [hwn] at g2
     have hmw := manyC_get (out := out) (ls := ls) (s := wn) (by omega)
     have hwn8 : (wn : Int) < 8 := by omega
     simp only [go_sem, hrl, hgs, hms, hs8, Nat.mul_one, hwn, hmw, hwn8, Nat.mul_one, g1, g2]
     try refine And.intro (by repeat' (first | refine And.intro ?_ ?_ | exact GOr_right (fun _ => by simp only [go_sem, hrl, hgs, hms, hs8, Nat.mul_one, hwn, hmw, hwn8, Nat.mul_one]))) ?_
     refine hR _ ?_
     all_goals try simp only [go_sem, hrl, hgs, hms, hs8, Nat.mul_one, hwn, hmw, hwn8, Nat.mul_one]
     all_goals
      first | rfl | (simp [*]; done) | (simp_all; done) | (simp_all; omega)
    try simp only [Bool.not_eq_true', Bool.not_eq_false'] at g2
    have n2 := g2; try simp only [nrm] at n2
    simp only [go_sem, hrl, hgs, hms, hs8, Nat.mul_one, g1, g2]
    try refine And.intro (by repeat' (first | refine And.intro ?_ ?_ | exact GOr_right (fun _ => by simp only [go_sem, hrl, hgs, hms, hs8, Nat.mul_one]))) ?_
    refine hR _ ?_
    all_goals try simp only [go_sem, hrl, hgs, hms, hs8, Nat.mul_one]
    all_goals
     first | rfl | (simp [*]; done) | (simp_all; done) | (simp_all; omega)
   try simp only [Bool.not_eq_true', Bool.not_eq_false'] at g1
   have n1 := g1; try simp only [nrm] at n1
   simp only [go_sem, hrl, hgs, hms, hs8, Nat.mul_one, g1]
   try refine And.intro (by repeat' (first | refine And.intro ?_ ?_ | exact GOr_right (fun _ => by simp only [go_sem, hrl, hgs, hms, hs8, Nat.mul_one]))) ?_
   refine hR _ ?_
   all_goals try simp only [go_sem, hrl, hgs, hms, hs8, Nat.mul_one]
   all_goals
    first | rfl | (simp [*]; done) | (simp_all; done) | (simp_all; omega)
  try simp only [nrm] at c6
  have hse : N = s := by first | omega | (simp at c6; omega)
  subst hse
  obtain ⟨wl, hwl⟩ : ∃ z : Nat, worstF out ls N = z := ⟨(worstF out ls N).toNat, by omega⟩
  have hgset := goneC_set (out := out) (s := wl) (by omega)
  have hwl8 : (wl : Int) < 8 := by omega
  have hgl8 : decide (wl + 1 ≤ (goneC out).length) = true := decide_eq_true (by rw [goneC_len]; omega)
  refine W_exit ?_
  simp only [go_sem, hrl, hwl, hgset, hwl8, hgl8, Nat.mul_one]
  refine K26 _ _ ?_
  refine W_sr [0, 1, 4, 8, 14] fun R hR => ?_
  simp only [go_sem, hrl, hwl, hgset, hwl8, hgl8, Nat.mul_one]
  refine hR _ _ ?_; clear hR R
  try simp only [go_sem, hrl, hwl, hgset, hwl8, hgl8, Nat.mul_one]
  refine W_region [0, 1, 4, 8] fun R hR => ?_
  simp only [go_sem, hrl, hwl, hgset, hwl8, hgl8, Nat.mul_one]
  try simp (disch := first | omega | (simp only [go_sem] <;> omega)) only [wrapI, wrapU, appX_exact, appX_tok]
  try simp only [go_sem, hrl, hwl, hgset, hwl8, hgl8, Nat.mul_one]
  refine hR _ _ ?_; clear hR R
  try simp only [go_sem, hrl, hwl, hgset, hwl8, hgl8, Nat.mul_one]
  refine ⟨i + 1, ?_, by (try simp only []); omega, ?_⟩
  ·have hru : runU N ls (i + 1) = out ++ [(wl : Int)] := by simp only [runU, hout, hwl]
   refine Weak.trans (Weak.cutX 1 1 (by omega) (by omega) hcl ?_ ?_) ?_
   ·simp only [go_sem, eq_true (goneC_clean _)]
   ·simp only [go_sem]
    all_goals first | omega | exact fail1
   simp only [go_sem]
   refine Weak.eq ?_ ?_
   ·simp only [hru, List.map_append, List.map_cons, List.map_nil]; first | done | rfl
   simp only [hru]; first | done | rfl
  try dsimp only
  omega
 try simp only [nrm] at c2
 have hie : i = N - 1 := by first | omega | (simp at c2; omega)
 subst hie
 have hlo := some_left (n := N) (out := out) (by omega)
 have hsl : ∀ id, slicePV Tryz.prog 123 (.ptr id 0) none (some (I N)) none = some (.msl id 0 N) := fun id => sl123 (by omega) (by omega)
 refine W_exit ?_
 simp only [go_sem, hrl, hsl]
 refine K7 _ _ ?_
 refine W_sr [4, 5, 6] fun R hR => ?_
 simp only [go_sem, hrl, hsl]
 refine GCall_of (gIndex_pc Y (σ.ext [some (goneC out)] [N - 1]) out σ.store.length N (by omega) (Sg.get_ext0 ..)) ?_
 simp only [go_sem, hrl, hsl]
 refine hR _ _ ?_; clear hR R
 try simp only [go_sem, hrl, hsl]
 refine W_ret ?_
 simp only [go_sem, hrl, hsl]
 refine ⟨.inr (by trivial), ?_⟩
 first | (rw [hall]; refine Fin_same hcl rfl (Wk.ro (by simp only [go_sem]) ?_)) | refine Fin_same hcl rfl (Wk.ro (by simp only [go_sem]) ?_) | refine Fin_self hcl rfl (Wk.ro (by simp only [go_sem]) ?_)
 try simp only [go_sem]
 all_goals
  first | done | rfl | (simp only [go_sem]; done) | (rw [idxF_eq (n := N) (out := out) N 0 (by omega) (by obtain ⟨s, h1, h2⟩ := hlo; exact ⟨s, Nat.zero_le _, h1, h2⟩), hout]; first | done | rfl)
end Go.Proofs.YtdoohibbfjdblaaGreatDoor
