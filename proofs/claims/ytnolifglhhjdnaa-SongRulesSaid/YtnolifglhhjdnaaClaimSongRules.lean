/-
  The law SongRules: whatever comes in, it answers true and leaves what came in as it was.
  The law SongRules, walked: the song that the rounds' rules give.
-/
import Derived.Test.YtnolifglhhjdnaaPf
import Derived.CallsIn
import Derived.RangeFuncLeaves
import Derived.RangeFuncRecord
import Derived.OrdersIn
import Derived.Below
import Derived.Laws.World
import Derived.Laws.StructEq
import Derived.Laws.Append
import Derived.MapKept
import Derived.ProofKit
import Derived.Carry
import Derived.Handed
import Derived.ChangeCalls
import Derived.RangeFuncIn
import Derived.RangeFuncNested
import Derived.Test.YtnolifglhhjdnaaProg
import Derived.KernelRfl
import Derived.IntWalk
import Derived.Sort.OwnSortedInts
import Derived.Lib.SlicesCompact
import Derived.Test.YtnolifglhhjdnaaRows
import Derived.Shelf.Sort.Plain
import Derived.Shelf.Slices.In.SortNone
import Derived.Shelf.Small.Bits
import Derived.JoinedOf
set_option linter.unusedSimpArgs false
set_option linter.unusedVariables false
namespace Go.Proofs.Ytnolifglhhjdnaa
open Go Go.RowKit
set_option maxRecDepth 100000
def inF (ss K : List Int) (s x : Nat) : Bool := if x < s then has K x else has ss x
theorem inF_set {ss K : List Int} {N s : Nat} : (rowF (inF ss K s) N).set s (has K s) = rowF (inF ss K (s + 1)) N := by
 rw [rowF_set]
 refine rowF_congr fun x _ => ?_
 unfold inF
 by_cases e : x = s
 ·subst e; rw [if_pos rfl, if_pos (by omega)]
 ·rw [if_neg e]
  by_cases h : x < s
  ·rw [if_pos h, if_pos (by omega)]
  ·rw [if_neg h, if_neg (by omega)]
theorem inF_zero {ss K : List Int} {N : Nat} : rowF (inF ss K 0) N = rowF (fun x => has ss (x : Nat)) N := rowF_congr fun x _ => by simp [inF]
theorem inF_all {ss K : List Int} {N : Nat} : rowF (inF ss K N) N = rowF (fun x => has K (x : Nat)) N := rowF_congr fun x h => by simp [inF, h]
def ltF (i x : Nat) : Bool := decide (x < i)
theorem ltF_set {N i : Nat} : (rowF (ltF i) N).set i true = rowF (ltF (i + 1)) N := by
 rw [rowF_set]
 refine rowF_congr fun x _ => ?_
 unfold ltF
 by_cases e : x = i
 ·subst e; simp
 ·rw [if_neg e]; congr 1; rw [eq_iff_iff]; omega
theorem ltF_zero {N : Nat} : rowF (ltF 0) N = List.replicate N false := by
 rw [← rowF_zero]; exact rowF_congr fun x _ => by simp [ltF]
theorem ltF_all {N : Nat} : rowF (ltF N) N = rowF (fun x => has (toN N) (x : Nat)) N := rowF_congr fun x h => by
 unfold ltF
 rw [decide_eq_true h]
 exact (has_iff.2 (mem_toN.2 ⟨by omega, by omega⟩)).symm
theorem pS_zero {L : List Ballot} {rd : Int} {ss : List Int} {N : Nat} : rowG (pS L rd ss 0) N = List.replicate N 0 := by
 rw [← rowG_zero]; exact rowG_congr fun x _ => by simp [pS]
theorem vS_zero {L : List Ballot} {rd : Int} {ss : List Int} {N : Nat} : rowG (vS L rd ss 0) N = List.replicate N 0 := by
 rw [← rowG_zero]; exact rowG_congr fun x _ => by simp [vS]
theorem votF_zero {L : List Ballot} {rd : Int} {ss : List Int} {N : Nat} : rowF (votF L rd ss 0) N = List.replicate N false := by
 rw [← rowF_zero]; exact rowF_congr fun x _ => by simp [votF]
theorem givF_zero {L : List Ballot} {rd : Int} {ss : List Int} {N M : Nat} : rowF (givF L rd ss N 0) M = List.replicate M false := by
 rw [← rowF_zero]; exact rowF_congr fun x _ => by simp [givF]
theorem mixJ {v J s N : Nat} (h1 : v < J) (h2 : s < N) : v * N + s < J * N := by
 have := Nat.mul_le_mul_right N (show v + 1 ≤ J by omega)
 rw [Nat.add_mul] at this
 omega
set_option maxHeartbeats 2000000 in
theorem Fit_pc (Y : YEnv) (σ : Sg) (x n : Int) (hn : n < 2 ^ 60) (h1 : -2 ^ 60 ≤ x) (h2 : x ≤ 2 ^ 60) :
  PC Try.prog Y 17 [I x, I n] σ (I (fit x n)) (σ) := by
 refine PC_of_W Try.func17 rfl (by kernel_rfl) Try.ntmps17 (by simp) fun hcl hca => ?_
 refine W_seq fun kz1 kq1 => ?_
 refine W_region [0, 1] fun R hR => ?_
 simp only [go_sem]
 refine hR _ _ (kq1 _ _ ?_); clear hR R; try clear kq1 kz1
 try simp only [go_sem]
 refine W_seq fun kz2 kq2 => ?_
 refine W_seq fun kz3 kq3 => ?_
 refine W_region [0, 1, 6] fun R hR => ?_
 simp only [go_sem]
 refine hR _ _ (kq3 _ _ ?_); clear hR R; try clear kq3 kz3
 try simp only [go_sem]
 refine W_cond rfl (fun c1 => ?_) (fun c1 => ?_)
 ·try simp only [nrm] at c1
  refine W_seq fun kz4 kq4 => ?_
  refine W_region [4] fun R hR => ?_
  simp only [go_sem]
  refine hR _ _ (kq4 _ _ ?_); clear hR R; try clear kq4 kz4
  try simp only [go_sem]
  refine W_ret ?_
  simp only [go_sem]
  refine ⟨.inr (by trivial), ?_⟩
  first | refine Fin_same hcl rfl (Wk_eq ?_ (by simp only [go_sem])) | refine Fin_self hcl rfl (Wk_eq ?_ (by simp only [go_sem]))
  try simp only [go_sem]
  all_goals
   simp [fit, *]
 ·try simp only [nrm] at c1
  refine W_skip (kq2 _ _ ?_)
  refine W_seq fun kz5 kq5 => ?_
  have hn0 : ¬ n = 0 := by omega
  have t1 := Int.tmod_lt_of_pos x (show 0 < n by omega)
  have t2 := Int.lt_tmod_of_pos x (show 0 < n by omega)
  refine W_region [0, 1] fun R hR => ?_
  simp only [go_sem, hn0]
  try simp (disch := omega) only [wrapI, wrapU]
  refine hR _ _ (kq5 _ _ ?_); clear hR R; try clear kq5 kz5
  try simp only [go_sem]
  refine W_seq fun kz6 kq6 => ?_
  refine W_seq fun kz7 kq7 => ?_
  refine W_region [0, 1, 11] fun R hR => ?_
  simp only [go_sem]
  refine hR _ _ (kq7 _ _ ?_); clear hR R; try clear kq7 kz7
  try simp only [go_sem]
  refine W_cond rfl (fun c2 => ?_) (fun c2 => ?_)
  ·try simp only [nrm] at c2
   refine W_region [0] fun R hR => ?_
   simp only [go_sem]
   try simp (disch := omega) only [wrapI, wrapU]
   refine hR _ _ (kq6 _ _ ?_); clear hR R; try clear kq6 kz6
   try simp only [go_sem]
   refine W_seq fun kz8 kq8 => ?_
   refine W_region [4] fun R hR => ?_
   simp only [go_sem]
   refine hR _ _ (kq8 _ _ ?_); clear hR R; try clear kq8 kz8
   try simp only [go_sem]
   refine W_ret ?_
   simp only [go_sem]
   refine ⟨.inr (by trivial), ?_⟩
   first | refine Fin_same hcl rfl (Wk_eq ?_ (by simp only [go_sem])) | refine Fin_self hcl rfl (Wk_eq ?_ (by simp only [go_sem]))
   try simp only [go_sem]
   all_goals
    simp [fit, *]
  ·try simp only [nrm] at c2
   refine W_skip (kq6 _ _ ?_)
   refine W_seq fun kz9 kq9 => ?_
   refine W_region [4] fun R hR => ?_
   simp only [go_sem]
   refine hR _ _ (kq9 _ _ ?_); clear hR R; try clear kq9 kz9
   try simp only [go_sem]
   refine W_ret ?_
   simp only [go_sem]
   refine ⟨.inr (by trivial), ?_⟩
   first | refine Fin_same hcl rfl (Wk_eq ?_ (by simp only [go_sem])) | refine Fin_self hcl rfl (Wk_eq ?_ (by simp only [go_sem]))
   try simp only [go_sem]
   all_goals
    simp [fit, *]
set_option maxHeartbeats 16000000 in
theorem SongRules_pc (Y : YEnv) (σ : Sg) (nums : List Int) (hn : nums.length < 2 ^ 60) :
  PC Try.prog Y 3 [ints nums] σ (.bool true) (σ) := by
 refine PC_of_W Try.func3 rfl (by kernel_rfl) Try.ntmps3 (by simp) fun hcl hca => ?_
 obtain ⟨b0, hb0⟩ : ∃ z, drumB nums 2685821657736338717 = z := ⟨_, rfl⟩
 obtain ⟨c, hc⟩ : ∃ zz, (contestD 5 3 6 b0).1 = zz := ⟨_, rfl⟩
 obtain ⟨b1, hb1⟩ : ∃ zz, (contestD 5 3 6 b0).2 = zz := ⟨_, rfl⟩
 have dc := contestD_ok (songs := 5) (juries := 3) (members := 6) (by omega) (by omega) (by omega) b0
 simp only [hc] at dc
 obtain ⟨l, hl⟩ : ∃ zz, (ballotsD c 25 b1).1 = zz := ⟨_, rfl⟩
 obtain ⟨b2, hb2⟩ : ∃ zz, (ballotsD c 25 b1).2 = zz := ⟨_, rfl⟩
 have dl := ballotsD_ok dc (most := 25) (by omega) b1
 simp only [hl] at dl
 obtain ⟨dl1, dl2, dl3, dl4⟩ := dl
 have hll : l.length ≤ 25 := by omega
 obtain ⟨L, hL⟩ : ∃ z, sortB l = z := ⟨_, rfl⟩
 have hper : L.Perm l := by rw [← hL]; exact sortB_perm l
 have hck := chk_perm hper.symm dc.ok (by omega) dl2 dl3
 have hLl : L.length ≤ 25 := by rw [hper.length_eq]; exact hll
 have hLv : ∀ x, x ∈ L → BlV c x := fun x hx => dl2 x (hper.mem_iff.1 hx)
 have hLn : (L.map (·.serial)).Nodup := ((hper.map _).nodup_iff).2 dl3
 have hLa : AscB L := by rw [← hL]; exact sortB_asc l
 obtain ⟨hr0, hRs, hRl⟩ := run_ok hck
 obtain ⟨RS, hRS⟩ : ∃ z, resultsT c L = z := ⟨_, rfl⟩
 have hwin := winner_in hck dc.rl.1
 obtain ⟨WN, hWN⟩ : ∃ z, winnerT c L = z := ⟨_, rfl⟩
 rw [hRS, hWN] at hr0
 rw [hRS] at hRs hRl
 rw [hWN] at hwin
 have hsg := dc.sg
 have hjr := dc.jr
 have hmb := dc.mb
 have hms := dc.ms
 have hrl := dc.rl
 obtain ⟨N, hN⟩ : ∃ z : Nat, c.songs = z := ⟨c.songs.toNat, by omega⟩
 obtain ⟨J, hJ⟩ : ∃ z : Nat, c.juries = z := ⟨c.juries.toNat, by omega⟩
 obtain ⟨M, hM⟩ : ∃ z : Nat, c.members = z := ⟨c.members.toNat, by omega⟩
 have hN5 : N ≤ 5 := by omega
 have hJ3 : J ≤ 3 := by omega
 have hM6 : M ≤ 6 := by omega
 have hJN0 : J * N ≤ 15 := Nat.mul_le_mul hJ3 hN5
 have hJN : IntKind.i64.wrap (c.juries * c.songs) = ((J * N : Nat) : Int) := by rw [hN, hJ, ← Int.natCast_mul]; exact wrapI (by omega) (by omega)
 have hmk1 : ∀ τ : Sg, makePV Try.prog τ 36 (I c.songs) (I c.songs) = some (.msl τ.store.length 0 N, τ.push ((List.replicate N false).map PV.bool)) := fun τ => by rw [hN]; exact mkB (by omega)
 have hmk2 : ∀ τ : Sg, makePV Try.prog τ 22 (I c.songs) (I c.songs) = some (.msl τ.store.length 0 N, τ.push ((List.replicate N (0 : Int)).map I)) := fun τ => by rw [hN]; exact mkI (by omega)
 have hmk3 : ∀ τ : Sg, makePV Try.prog τ 36 (I c.members) (I c.members) = some (.msl τ.store.length 0 M, τ.push ((List.replicate M false).map PV.bool)) := fun τ => by rw [hM]; exact mkB (by omega)
 have hin0 : inS c L 0 = toN N := by simp only [inS, hN, toI_N]
 have hbdN : ∀ (k : Nat) x, x ∈ inS c L k → k ≤ c.rounds.length → 0 ≤ x ∧ x < N := by
  intro k x hx hk
  cases k with
  | zero => rw [hin0] at hx; exact mem_toN.1 hx
  | succ k =>
   obtain ⟨t, ht⟩ : ∃ z, (roundsT c L)[k]? = some z := ⟨(roundsT c L)[k]'(by have : (roundsT c L).length = c.rounds.length := rdsT_len; omega), by simp⟩
   rw [inS_succ ht] at hx
   obtain ⟨_, _, hF⟩ := rdF_of hN hck ht
   exact hF.bd x (mem_kept hx)
 have hwb := hbdN _ WN hwin (Nat.le_refl _)
 have hlN : ∀ (f : Nat → Bool) (k : Nat), (rowF f k).length = k := rowF_len
 have hlG : ∀ (f : Nat → Int) (k : Nat), (rowG f k).length = k := rowG_len
 have hsN : ∀ x, x ∈ L → 0 ≤ x.song ∧ x.song < (N : Int) := fun x hx => by have := (hLv x hx).sg; omega
 have hptL : ∀ x, x ∈ L → 0 ≤ x.points ∧ x.points ≤ 100 := fun x hx => by have := (hLv x hx).pt; split at this <;> omega
 refine W_seq fun kz1 kq1 => ?_
 refine W_region [0] fun R hR => ?_
 simp only [go_sem, hb0, hL, List.length_map, hJN, hc, hb1, hl, hb2]
 refine hR _ _ (kq1 _ _ ?_); clear hR R; try clear kq1 kz1
 try simp only [go_sem, hb0, hL, List.length_map, hJN, hc, hb1, hl, hb2]
 refine W_seq fun kz2 kq2 => ?_
 refine W_region [3] fun R hR => ?_
 simp only [go_sem, hb0, hL, List.length_map, hJN, hc, hb1, hl, hb2]
 refine GCall_of (DrumOf_pc Y _ nums hn) ?_
 simp only [go_sem, hb0, hL, List.length_map, hJN, hc, hb1, hl, hb2]
 refine hR _ _ (kq2 _ _ ?_); clear hR R; try clear kq2 kz2
 try simp only [go_sem, hb0, hL, List.length_map, hJN, hc, hb1, hl, hb2]
 refine W_seq fun kz3 kq3 => ?_
 refine W_region [3, 4] fun R hR => ?_
 simp only [go_sem, hb0, hL, List.length_map, hJN, hc, hb1, hl, hb2]
 refine GCall_of (ContestOf_pc Y _ _ b0 (Sg.get_ext0 ..) 5 3 6 (by omega) (by omega) (by omega)) ?_
 simp only [go_sem, hb0, hL, List.length_map, hJN, hc, hb1, hl, hb2]
 refine hR _ _ (kq3 _ _ ?_); clear hR R; try clear kq3 kz3
 try simp only [go_sem, hb0, hL, List.length_map, hJN, hc, hb1, hl, hb2]
 refine W_seq fun kz4 kq4 => ?_
 refine W_region [4, 5] fun R hR => ?_
 simp only [go_sem, hb0, hL, List.length_map, hJN, hc, hb1, hl, hb2]
 refine GCall_of (BallotsOf_pc Y _ _ b1 (Sg.get_ext0 ..) c 5 3 6 25 dc (by omega) (by omega)) ?_
 simp only [go_sem, hb0, hL, List.length_map, hJN, hc, hb1, hl, hb2]
 refine GCall_of (sorted_pc2 Y _ l (by omega) dl3) ?_
 simp only [go_sem, hb0, hL, List.length_map, hJN, hc, hb1, hl, hb2]
 refine hR _ _ (kq4 _ _ ?_); clear hR R; try clear kq4 kz4
 try simp only [go_sem, hb0, hL, List.length_map, hJN, hc, hb1, hl, hb2]
 refine W_seq fun kz5 kq5 => ?_
 refine W_region [4, 5, 6, 7, 8] fun R hR => ?_
 simp only [go_sem, hb0, hL, List.length_map, hJN, hc, hb1, hl, hb2]
 refine GCall_of (PC.val (v' := .tuple [rss RS, I WN, I 0]) (Run_pc Y _ c L (by omega) (by omega)) (by rw [hr0])) ?_
 simp only [go_sem, hb0, hL, List.length_map, hJN, hc, hb1, hl, hb2]
 refine hR _ _ (kq5 _ _ ?_); clear hR R; try clear kq5 kz5
 try simp only [go_sem, hb0, hL, List.length_map, hJN, hc, hb1, hl, hb2]
 refine W_seq fun kz6 kq6 => ?_
 refine W_seq fun kz7 kq7 => ?_
 refine W_region [4, 5, 6, 7, 46] fun R hR => ?_
 simp only [go_sem, hb0, hL, List.length_map, hJN, hc, hb1, hl, hb2, hRl]
 refine hR _ _ (kq7 _ _ ?_); clear hR R; try clear kq7 kz7
 try simp only [go_sem, hb0, hL, List.length_map, hJN, hc, hb1, hl, hb2]
 refine W_cond rfl (fun c1 => ?_) (fun c1 => ?_)
 ·try simp only [nrm] at c1
  exfalso
  first | contradiction | (simp at c1; done) | (simp at c1; omega)
 ·try simp only [nrm] at c1
  refine W_skip (kq6 _ _ ?_)
  refine W_seq fun kz8 kq8 => ?_
  refine W_region [4, 5, 6, 7, 9] fun R hR => ?_
  simp only [go_sem, hb0, hL, List.length_map, hJN, hc, hb1, hl, hb2, hmk1]
  refine hR _ _ (kq8 _ _ ?_); clear hR R; try clear kq8 kz8
  try simp only [go_sem, hb0, hL, List.length_map, hJN, hc, hb1, hl, hb2]
  refine W_seq fun kz9 kq9 => ?_
  refine W_seq fun kz10 kq10 => ?_
  refine W_region [4, 5, 6, 7, 9, 10] fun R hR => ?_
  simp only [go_sem, hb0, hL, List.length_map, hJN, hc, hb1, hl, hb2]
  refine hR _ _ (kq10 _ _ ?_); clear hR R; try clear kq10 kz10
  try simp only [go_sem, hb0, hL, List.length_map, hJN, hc, hb1, hl, hb2]
  refine W_block ?_
  refine W_loopT (α := Nat) (fun (i : Nat) => [(10, I i)]) (fun (i : Nat) => σ.ext [some [.int .u64 b2], some (cnCells c), some ((rowF (ltF i) N).map PV.bool)] []) (fun (i : Nat) => i ≤ N) (fun (i : Nat) => N - i) (0) rfl (by rw [ltF_zero]; rfl) (Nat.zero_le _) ?_
  rintro i hi
  refine W_seq fun kz11 kq11 => ?_
  refine W_seq fun kz12 kq12 => ?_
  refine W_region [4, 5, 6, 7, 9, 10, 53] fun R hR => ?_
  simp only [go_sem, hb0, hL, List.length_map, hJN, hc, hb1, hl, hb2]
  refine hR _ _ (kq12 _ _ ?_); clear hR R; try clear kq12 kz12
  try simp only [go_sem, hb0, hL, List.length_map, hJN, hc, hb1, hl, hb2]
  refine W_cond rfl (fun c2 => ?_) (fun c2 => ?_)
  ·try simp only [nrm] at c2
   have hiN0 : i < N := by first | omega | (simp at c2; omega)
   have hiN : (i : Int) < (N : Int) := by omega
   have hiD : decide (i + 1 ≤ N) = true := decide_eq_true (by omega)
   refine W_skip (kq11 _ _ ?_)
   refine W_seq fun kz13 kq13 => ?_
   refine W_block ?_
   refine W_region [4, 5, 6, 7, 9, 10] fun R hR => ?_
   simp only [go_sem, hb0, hL, List.length_map, hJN, hc, hb1, hl, hb2, hlN, hiN, hiD, Nat.mul_one, Nat.zero_add, ltF_set]
   refine hR _ _ (kq13 _ _ ?_); clear hR R; try clear kq13 kz13
   try simp only [go_sem, hb0, hL, List.length_map, hJN, hc, hb1, hl, hb2]
   refine W_region [4, 5, 6, 7, 9, 10] fun R hR => ?_
   simp only [go_sem, hb0, hL, List.length_map, hJN, hc, hb1, hl, hb2]
   try simp (disch := omega) only [wrapI, wrapU]
   refine hR _ _ ?_; clear hR R
   try simp only [go_sem, hb0, hL, List.length_map, hJN, hc, hb1, hl, hb2]
   refine ⟨i + 1, ?_, by (try simp only []); omega, ?_⟩
   ·first | exact Weak.refl | exact Weak.eq (by first | rfl | (simp only [go_sem]; done) | (simp only [go_sem]; rfl) | (simp [go_sem]; done) | (simp [go_sem]; omega)) (by first | rfl | (simp only [go_sem]; done) | (simp [go_sem]; done))
   ·try dsimp only
    exact hiN0
  ·try simp only [nrm] at c2
   have hie : N = i := by first | omega | (simp at c2; omega)
   subst hie
   rw [ltF_all, ← hin0]
   refine W_exit ?_
   simp only [go_sem, hb0, hL, List.length_map, hJN, hc, hb1, hl, hb2]
   refine kq9 _ _ ?_
   refine W_seq fun kz14 kq14 => ?_
   refine W_seq fun kz15 kq15 => ?_
   refine W_region [4, 5, 6, 7, 9, 11] fun R hR => ?_
   simp only [go_sem, hb0, hL, List.length_map, hJN, hc, hb1, hl, hb2]
   refine hR _ _ (kq15 _ _ ?_); clear hR R; try clear kq15 kz15
   try simp only [go_sem, hb0, hL, List.length_map, hJN, hc, hb1, hl, hb2]
   refine W_block ?_
   refine W_loopT (α := Nat) (fun (r : Nat) => [(11, I r)]) (fun (r : Nat) => σ.ext [some [.int .u64 b2], some (cnCells c), some ((rowF (fun x => has (inS c L r) (x : Nat)) N).map PV.bool)] []) (fun (r : Nat) => r ≤ RS.length) (fun (r : Nat) => RS.length - r) (0) rfl (by first | rfl | (simp only [go_sem]; done) | (simp only [go_sem]; rfl)) (Nat.zero_le _) ?_
   rintro r hr
   refine W_seq fun kz16 kq16 => ?_
   refine W_seq fun kz17 kq17 => ?_
   refine W_region [4, 5, 6, 7, 9, 11, 62] fun R hR => ?_
   simp only [go_sem, hb0, hL, List.length_map, hJN, hc, hb1, hl, hb2]
   refine hR _ _ (kq17 _ _ ?_); clear hR R; try clear kq17 kz17
   try simp only [go_sem, hb0, hL, List.length_map, hJN, hc, hb1, hl, hb2]
   refine W_cond rfl (fun c3 => ?_) (fun c3 => ?_)
   ·try simp only [nrm] at c3
    have hrR : r < RS.length := by first | omega | (simp at c3; omega)
    have hrI : (r : Int) < (RS.length : Int) := by omega
    have hrC : (r : Int) < (c.rounds.length : Int) := by omega
    obtain ⟨t, ht⟩ : ∃ z, (roundsT c L)[r]? = some z := ⟨(roundsT c L)[r]'(by have : (roundsT c L).length = c.rounds.length := rdsT_len; omega), by simp⟩
    obtain ⟨rr, hrr, hF⟩ := rdF_of hN hck ht
    have hnx : inS c L (r + 1) = (resT t).kept := inS_succ ht
    have hts := hF.ss
    simp only [← hts]
    have hRr : RS[r]? = some (resT t) := by rw [← hRS]; unfold resultsT; rw [List.getElem?_map, ht]; rfl
    refine W_skip (kq16 _ _ ?_)
    refine W_seq fun kz18 kq18 => ?_
    refine W_block ?_
    refine W_seq fun kz19 kq19 => ?_
    refine W_draw2J 2 5 [4, 5, 6, 7, 9, 11, 12, 13] [(12, .msl (σ.store.length + 3) 0 N), (13, .msl (σ.store.length + 4) 0 N)] (σ.ext [some [.int .u64 b2], some (cnCells c), some ((rowF (fun x => has t.songs (x : Nat)) N).map PV.bool), some ((List.replicate N (0 : Int)).map I), some ((List.replicate N (0 : Int)).map I)] []) [0, 1, 2, 3, 4, 5, 6, 7] [(3, 2), (4, 2), (6, 5)] [[], [0], [0, 1], [], [3], [0, 1, 2, 3, 4], [0, 1, 2], [0, 1, 2, 3, 4, 5, 6]] [3, 4, 5, 0, 1, 2, 6, 7] [(3, 2), (4, 2)] [[], [0], [0, 1, 3, 4, 5], [], [3], [3, 4], [0, 1, 2, 3, 4, 5], [0, 1, 2, 3, 4, 5, 6]] mixed (by decide) (by kernel_rfl) (by kernel_rfl) ?_ (fun R hR => ?_) (fun R hR => ?_)
    ·refine kq19 _ _ ?_
     simp only [go_sem, hb0, hL, List.length_map, hJN, hc, hb1, hl, hb2]
     refine W_seq fun kz20 kq20 => ?_
     refine W_draw2J 5 8 [4, 5, 6, 7, 9, 11, 12, 13, 14, 15] [(14, .msl (σ.store.length + 5) 0 (J * N)), (15, .msl (σ.store.length + 6) 0 M)] (σ.ext [some [.int .u64 b2], some (cnCells c), some ((rowF (fun x => has t.songs (x : Nat)) N).map PV.bool), some ((List.replicate N (0 : Int)).map I), some ((List.replicate N (0 : Int)).map I), some ((List.replicate (J * N) false).map PV.bool), some ((List.replicate M false).map PV.bool)] []) [0, 1, 2, 3, 4, 5, 6, 7, 8, 9, 10] [(6, 5), (7, 5), (9, 8)] [[], [0], [], [2], [0, 1, 2, 3], [0, 1, 2, 3, 4], [], [6], [0, 1, 2, 3, 4, 5, 6, 7], [0, 1, 2, 3, 4, 5], [0, 1, 2, 3, 4, 5, 6, 7, 8, 9]] [6, 7, 8, 0, 1, 2, 3, 4, 5, 9, 10] [(3, 2), (4, 2), (5, 2), (6, 2), (7, 2)] [[], [0], [], [2], [0, 1, 2, 3], [0, 1, 2, 3, 4, 6, 7, 8], [], [6], [6, 7], [0, 1, 2, 3, 4, 5, 6, 7, 8], [0, 1, 2, 3, 4, 5, 6, 7, 8, 9]] mixed (by decide) (by kernel_rfl) (by kernel_rfl) ?_ (fun R hR => ?_) (fun R hR => ?_)
     ·refine kq20 _ _ ?_
      simp only [go_sem, hb0, hL, List.length_map, hJN, hc, hb1, hl, hb2]
      refine W_seq fun kz21 kq21 => ?_
      refine W_seq fun kz22 kq22 => ?_
      refine W_region [4, 5, 6, 7, 9, 11, 12, 13, 14, 15, 16] fun R hR => ?_
      simp only [go_sem, hb0, hL, List.length_map, hJN, hc, hb1, hl, hb2]
      refine hR _ _ (kq22 _ _ ?_); clear hR R; try clear kq22 kz22
      try simp only [go_sem, hb0, hL, List.length_map, hJN, hc, hb1, hl, hb2]
      refine W_block ?_
      refine W_loopT (α := Nat) (fun (i : Nat) => [(16, I i)]) (fun (i : Nat) => σ.ext [some [.int .u64 b2], some (cnCells c), some ((rowF (fun x => has t.songs (x : Nat)) N).map PV.bool), some ((rowG (pS L r t.songs i) N).map I), some ((rowG (vS L r t.songs i) N).map I), some ((rowF (givF L r t.songs N i) (J * N)).map PV.bool), some ((rowF (votF L r t.songs i) M).map PV.bool)] []) (fun (i : Nat) => i ≤ L.length) (fun (i : Nat) => L.length - i) (0) rfl (by rw [pS_zero, vS_zero, votF_zero, givF_zero]; rfl) (Nat.zero_le _) ?_
      rintro i hi
      refine W_seq fun kz23 kq23 => ?_
      refine W_seq fun kz24 kq24 => ?_
      refine W_region [4, 5, 6, 7, 9, 11, 12, 13, 14, 15, 16, 83] fun R hR => ?_
      simp only [go_sem, hb0, hL, List.length_map, hJN, hc, hb1, hl, hb2]
      refine hR _ _ (kq24 _ _ ?_); clear hR R; try clear kq24 kz24
      try simp only [go_sem, hb0, hL, List.length_map, hJN, hc, hb1, hl, hb2]
      refine W_cond rfl (fun c4 => ?_) (fun c4 => ?_)
      ·try simp only [nrm] at c4
       have hiL : i < L.length := by first | omega | (simp at c4; omega)
       have hiI : (i : Int) < (L.length : Int) := by omega
       obtain ⟨b, hb⟩ : ∃ z, L[i]? = some z := ⟨L[i], by simp [hiL]⟩
       have hbv := hLv b (List.mem_of_getElem? hb)
       obtain ⟨s, hs⟩ : ∃ z : Nat, b.song = z := ⟨b.song.toNat, by have := hbv.sg; omega⟩
       obtain ⟨v, hv⟩ : ∃ z : Nat, b.voter = z := ⟨b.voter.toNat, by have := hbv.vt; omega⟩
       have hsN0 : s < N := by have := hbv.sg; omega
       have hsI : (s : Int) < (N : Int) := by omega
       have hgs := rowF_get (f := fun x => has t.songs (x : Nat)) hsN0
       have hgp := rowG_get (f := pS L r t.songs i) hsN0
       have hgv := rowG_get (f := vS L r t.songs i) hsN0
       have hpb := pS_bd (rd := r) (ss := t.songs) hptL (Nat.le_of_lt hiL) s
       have hvb := vS_bd (L := L) (rd := r) (ss := t.songs) (Nat.le_of_lt hiL) s
       have hpt := hptL b (List.mem_of_getElem? hb)
       have hw1 : IntKind.i64.wrap (vS L r t.songs i s + 1) = vS L r t.songs i s + 1 := wrapI (by omega) (by omega)
       have hw2 : IntKind.i64.wrap (pS L r t.songs i s + b.points) = pS L r t.songs i s + b.points := wrapI (by omega) (by omega)
       refine W_skip (kq23 _ _ ?_)
       refine W_seq fun kz25 kq25 => ?_
       refine W_block ?_
       refine W_seq fun kz26 kq26 => ?_
       refine W_region [4, 5, 6, 7, 9, 11, 12, 13, 14, 15, 16, 17] fun R hR => ?_
       simp only [go_sem, hb0, hL, List.length_map, hJN, hc, hb1, hl, hb2, hb, hs, hv]
       refine hR _ _ (kq26 _ _ ?_); clear hR R; try clear kq26 kz26
       try simp only [go_sem, hb0, hL, List.length_map, hJN, hc, hb1, hl, hb2, hb, hs, hv]
       refine W_seq fun kz27 kq27 => ?_
       refine W_seq fun kz28 kq28 => ?_
       refine W_regionJ [4, 5, 6, 7, 9, 11, 12, 13, 14, 15, 16, 17, 101] [(101, .bool (!isIn (r : Int) t.songs b))] ?_ fun R hR => ?_
       ·refine kq28 _ _ ?_
        simp only [go_sem, hb0, hL, List.length_map, hJN, hc, hb1, hl, hb2, hb, hs, hv]
        refine W_cond rfl (fun c5 => ?_) (fun c5 => ?_)
        ·try simp only [nrm] at c5
         have hif : isIn (r : Int) t.songs b = false := by simpa using c5
         have hid := idle_out hb hif M (J * N) N
         refine W_exit ?_
         simp only [go_sem, hb0, hL, List.length_map, hJN, hc, hb1, hl, hb2, hb, hs, hv]
         refine kq25 _ _ ?_
         refine W_region [4, 5, 6, 7, 9, 11, 12, 13, 14, 15, 16] fun R hR => ?_
         simp only [go_sem, hb0, hL, List.length_map, hJN, hc, hb1, hl, hb2, hb, hs, hv]
         try simp (disch := omega) only [wrapI, wrapU]
         refine hR _ _ ?_; clear hR R
         try simp only [go_sem, hb0, hL, List.length_map, hJN, hc, hb1, hl, hb2, hb, hs, hv]
         refine ⟨i + 1, ?_, by (try simp only []); omega, ?_⟩
         ·refine Weak.trans (Weak.cutX 7 0 (by omega) (by omega) hcl (by simp only [go_sem] <;> omega) (by simp only [go_sem] <;> omega)) ?_
          simp only [go_sem]
          exact Weak.eq rfl (by rw [hid.p, hid.v, hid.m, hid.g])
         ·try dsimp only
          exact hiL
        ·try simp only [nrm] at c5
         have hit : isIn (r : Int) t.songs b = true := by simpa using c5
         refine W_skip (kq27 _ _ ?_)
         refine W_seq fun kz29 kq29 => ?_
         refine W_seq fun kz30 kq30 => ?_
         refine W_regionJ [4, 5, 6, 7, 9, 11, 12, 13, 14, 15, 16, 17, 112] [(112, .bool (decide (b.kind = 2) && !votF L r t.songs i v))] ?_ fun R hR => ?_
         ·refine kq30 _ _ ?_
          simp only [go_sem, hb0, hL, List.length_map, hJN, hc, hb1, hl, hb2, hb, hs, hv]
          refine W_cond rfl (fun c6 => ?_) (fun c6 => ?_)
          ·try simp only [nrm] at c6
           have hk2 : b.kind = 2 ∧ votF L r t.songs i v = false := by simpa using c6
           have hk1 : (b.kind == 1) = false := by rw [beq_eq_false_iff_ne]; omega
           have hvM : v < M := by have := hbv.vt; rw [if_pos hk2.1] at this; omega
           have hvI : (v : Int) < (M : Int) := by omega
           have hvD : decide (v + 1 ≤ M) = true := decide_eq_true (by omega)
           have hsD : decide (s + 1 ≤ N) = true := decide_eq_true (by omega)
           obtain ⟨q1, q2, q3, q4⟩ := vote_mem hLn hLa hb hit hk2.1 hv hs hk2.2 M (J * N) N
           refine W_seq fun kz31 kq31 => ?_
           refine W_region [4, 5, 6, 7, 9, 11, 12, 13, 14, 15, 16, 17] fun R hR => ?_
           simp only [go_sem, hb0, hL, List.length_map, hJN, hc, hb1, hl, hb2, hb, hs, hv, hvI, hvD, hsI, hsD, hgv, q2, q3, hk1, hlN, Nat.mul_one, Nat.zero_add, List.getElem?_map]
           refine hR _ _ (kq31 _ _ ?_); clear hR R; try clear kq31 kz31
           try simp only [go_sem, hb0, hL, List.length_map, hJN, hc, hb1, hl, hb2, hb, hs, hv, hvI, hvD, hsI, hsD, hgv, q2, q3, hk1]
           refine W_region [4, 5, 6, 7, 9, 11, 12, 13, 14, 15, 16, 17] fun R hR => ?_
           simp only [go_sem, hb0, hL, List.length_map, hJN, hc, hb1, hl, hb2, hb, hs, hv, hvI, hvD, hsI, hsD, hgv, q2, q3, hk1, hlG, hw1, Nat.mul_one, Nat.zero_add, List.getElem?_map]
           try simp (disch := omega) only [wrapI, wrapU]
           refine hR _ _ (kq29 _ _ ?_); clear hR R; try clear kq29 kz29
           try simp only [go_sem, hb0, hL, List.length_map, hJN, hc, hb1, hl, hb2, hb, hs, hv, hvI, hvD, hsI, hsD, hgv, q2, q3, hk1]
           refine W_seq fun kz32 kq32 => ?_
           refine W_regionJ [4, 5, 6, 7, 9, 11, 12, 13, 14, 15, 16, 17, 140] [(140, .bool (decide (b.kind = 1) && !givF L r t.songs N i (v * N + s)))] ?_ fun R hR => ?_
           ·refine kq32 _ _ ?_
            simp only [go_sem, hb0, hL, List.length_map, hJN, hc, hb1, hl, hb2, hb, hs, hv, hvI, hvD, hsI, hsD, hgv, q2, q3, hk1]
            refine W_cond rfl (fun c7 => ?_) (fun c7 => ?_)
            ·try simp only [nrm] at c7
             exfalso
             simp at c7; omega
            ·try simp only [nrm] at c7
             refine W_skip (kq25 _ _ ?_)
             refine W_region [4, 5, 6, 7, 9, 11, 12, 13, 14, 15, 16] fun R hR => ?_
             simp only [go_sem, hb0, hL, List.length_map, hJN, hc, hb1, hl, hb2, hb, hs, hv, hvI, hvD, hsI, hsD, hgv, q2, q3, hk1]
             try simp (disch := omega) only [wrapI, wrapU]
             refine hR _ _ ?_; clear hR R
             try simp only [go_sem, hb0, hL, List.length_map, hJN, hc, hb1, hl, hb2, hb, hs, hv, hvI, hvD, hsI, hsD, hgv, q2, q3, hk1]
             refine ⟨i + 1, ?_, by (try simp only []); omega, ?_⟩
             ·refine Weak.trans (Weak.cutX 7 0 (by omega) (by omega) hcl (by simp only [go_sem] <;> omega) (by simp only [go_sem] <;> omega)) ?_
              simp only [go_sem]
              exact Weak.eq rfl (by rw [q1, q4])
             ·try dsimp only
              exact hiL
           ·simp only [go_sem, hb0, hL, List.length_map, hJN, hc, hb1, hl, hb2, hb, hs, hv, hvI, hvD, hsI, hsD, hgv, q2, q3, hk1, hlN, Nat.mul_one, Nat.zero_add, List.getElem?_map]
            try simp (disch := omega) only [wrapI, wrapU]
            refine hR _ ?_
            all_goals try simp only [go_sem, hb0, hL, List.length_map, hJN, hc, hb1, hl, hb2, hb, hs, hv, hvI, hvD, hsI, hsD, hgv, q2, q3, hk1, hlN, Nat.mul_one, Nat.zero_add, List.getElem?_map]
            all_goals
             first | rfl | (simp [*]; done) | (simp_all; done)
          ·try simp only [nrm] at c6
           refine W_skip (kq29 _ _ ?_)
           refine W_seq fun kz33 kq33 => ?_
           refine W_regionJ [4, 5, 6, 7, 9, 11, 12, 13, 14, 15, 16, 17, 140] [(140, .bool (decide (b.kind = 1) && !givF L r t.songs N i (v * N + s)))] ?_ fun R hR => ?_
           ·refine kq33 _ _ ?_
            simp only [go_sem, hb0, hL, List.length_map, hJN, hc, hb1, hl, hb2, hb, hs, hv]
            refine W_cond rfl (fun c8 => ?_) (fun c8 => ?_)
            ·try simp only [nrm] at c8
             have hk1 : b.kind = 1 ∧ givF L r t.songs N i (v * N + s) = false := by simpa using c8
             have hvJ : v < J := by have := hbv.vt; rw [if_neg (by omega)] at this; omega
             have hixl : v * N + s < J * N := mixJ hvJ hsN0
             have hixe : ((v * N + s : Nat) : Int) = (v : Int) * c.songs + s := by rw [hN]; omega
             have hvN : 0 ≤ (v : Int) * c.songs := by rw [hN]; exact Int.mul_nonneg (by omega) (by omega)
             have hix : IntKind.i64.wrap (IntKind.i64.wrap ((v : Int) * c.songs) + s) = ((v * N + s : Nat) : Int) := by rw [wrapI (n := (v : Int) * c.songs) (by omega) (by omega), hixe]; exact wrapI (by omega) (by omega)
             have hixI : ((v * N + s : Nat) : Int) < ((J * N : Nat) : Int) := by omega
             have hixD : decide (v * N + s + 1 ≤ J * N) = true := decide_eq_true (by omega)
             have hsD : decide (s + 1 ≤ N) = true := decide_eq_true (by omega)
             obtain ⟨q1, q2, q3, q4⟩ := vote_jur hLn hLa hb hit hk1.1 hsN (p := v * N + s) (by rw [hv, hs]; omega) hs hk1.2 M (J * N)
             refine W_seq fun kz34 kq34 => ?_
             refine W_region [4, 5, 6, 7, 9, 11, 12, 13, 14, 15, 16, 17] fun R hR => ?_
             simp only [go_sem, hb0, hL, List.length_map, hJN, hc, hb1, hl, hb2, hb, hs, hv, hix, hixI, hixD, hsI, hsD, hgp, q1, q4, hlN, Nat.mul_one, Nat.zero_add]
             try simp (disch := omega) only [wrapI, wrapU]
             refine hR _ _ (kq34 _ _ ?_); clear hR R; try clear kq34 kz34
             try simp only [go_sem, hb0, hL, List.length_map, hJN, hc, hb1, hl, hb2, hb, hs, hv, hix, hixI, hixD, hsI, hsD, hgp, q1, q4]
             refine W_draw [4, 5, 6, 7, 9, 11, 12, 13, 14, 15, 16] [0, 1, 2, 3, 4, 5, 6, 7, 8, 9, 10, 11, 12] [] [[], [], [1], [], [], [4], [3, 4, 5], [3, 4, 5, 6], [], [8], [3, 4, 5, 6, 7, 8, 9], [0, 1, 2, 3, 4, 5, 6, 7, 8, 9, 10], [0, 1, 2, 3, 4, 5, 6, 7, 8, 9, 10, 11]] mixed (by kernel_rfl) fun R hR => ?_
             simp only [go_sem, hb0, hL, List.length_map, hJN, hc, hb1, hl, hb2, hb, hs, hv, hix, hixI, hixD, hsI, hsD, hgp, q1, q4, hlG, hw2, Nat.mul_one, Nat.zero_add, List.getElem?_map]
             try simp (disch := omega) only [wrapI, wrapU]
             try refine And.intro (by repeat' (first | refine And.intro ?_ ?_ | exact trivial | exact GOr_right (fun _ => by simp only [go_sem, hb0, hL, List.length_map, hJN, hc, hb1, hl, hb2, hb, hs, hv, hix, hixI, hixD, hsI, hsD, hgp, q1, q4, hlG, hw2, Nat.mul_one, Nat.zero_add, List.getElem?_map]))) ?_
             refine hR _ _ (kq25 _ _ ?_); clear hR R; try clear kq25 kz25
             try simp only [go_sem, hb0, hL, List.length_map, hJN, hc, hb1, hl, hb2, hb, hs, hv, hix, hixI, hixD, hsI, hsD, hgp, q1, q4]
             refine W_region [4, 5, 6, 7, 9, 11, 12, 13, 14, 15, 16] fun R hR => ?_
             simp only [go_sem, hb0, hL, List.length_map, hJN, hc, hb1, hl, hb2, hb, hs, hv, hix, hixI, hixD, hsI, hsD, hgp, q1, q4]
             try simp (disch := omega) only [wrapI, wrapU]
             refine hR _ _ ?_; clear hR R
             try simp only [go_sem, hb0, hL, List.length_map, hJN, hc, hb1, hl, hb2, hb, hs, hv, hix, hixI, hixD, hsI, hsD, hgp, q1, q4]
             refine ⟨i + 1, ?_, by (try simp only []); omega, ?_⟩
             ·refine Weak.trans (Weak.cutX 7 0 (by omega) (by omega) hcl (by simp only [go_sem] <;> omega) (by simp only [go_sem] <;> omega)) ?_
              simp only [go_sem]
              exact Weak.eq rfl (by rw [q2, q3])
             ·try dsimp only
              exact hiL
            ·try simp only [nrm] at c8
             have hid : Idle L r t.songs i M (J * N) N := by
              rcases hbv.kd with hk | hk
              ·refine idle_jur hLn hLa hb hit hk hsN (p := v * N + s) (by rw [hv, hs]; omega) ?_ M (J * N)
               simpa [hk] using c8
              ·refine idle_mem hLn hLa hb hit hk hv ?_ M (J * N) N
               simpa [hk] using c6
             refine W_skip (kq25 _ _ ?_)
             refine W_region [4, 5, 6, 7, 9, 11, 12, 13, 14, 15, 16] fun R hR => ?_
             simp only [go_sem, hb0, hL, List.length_map, hJN, hc, hb1, hl, hb2, hb, hs, hv]
             try simp (disch := omega) only [wrapI, wrapU]
             refine hR _ _ ?_; clear hR R
             try simp only [go_sem, hb0, hL, List.length_map, hJN, hc, hb1, hl, hb2, hb, hs, hv]
             refine ⟨i + 1, ?_, by (try simp only []); omega, ?_⟩
             ·refine Weak.trans (Weak.cutX 7 0 (by omega) (by omega) hcl (by simp only [go_sem] <;> omega) (by simp only [go_sem] <;> omega)) ?_
              simp only [go_sem]
              exact Weak.eq rfl (by rw [hid.p, hid.v, hid.m, hid.g])
             ·try dsimp only
              exact hiL
           ·simp only [go_sem, hb0, hL, List.length_map, hJN, hc, hb1, hl, hb2, hb, hs, hv, hlN, Nat.mul_one, Nat.zero_add, List.getElem?_map]
            refine GWant_split (fun g1 => ?_) (fun g1 => ?_)
            ·try simp only [Bool.not_eq_true', Bool.not_eq_false'] at g1
             have n1 := g1; try simp only [nrm] at n1
             have hk1 : b.kind = 1 := by first | exact n1 | simpa using g1
             have hvJ : v < J := by have := hbv.vt; rw [if_neg (by omega)] at this; omega
             have hixl : v * N + s < J * N := mixJ hvJ hsN0
             have hixe : ((v * N + s : Nat) : Int) = (v : Int) * c.songs + s := by rw [hN]; omega
             have hvN : 0 ≤ (v : Int) * c.songs := by rw [hN]; exact Int.mul_nonneg (by omega) (by omega)
             have hix : IntKind.i64.wrap (IntKind.i64.wrap ((v : Int) * c.songs) + s) = ((v * N + s : Nat) : Int) := by rw [wrapI (n := (v : Int) * c.songs) (by omega) (by omega), hixe]; exact wrapI (by omega) (by omega)
             have hixI : ((v * N + s : Nat) : Int) < ((J * N : Nat) : Int) := by omega
             have hgg := rowF_get (f := givF L r t.songs N i) hixl
             simp only [go_sem, hb0, hL, List.length_map, hJN, hc, hb1, hl, hb2, hb, hs, hv, hix, hixI, hgg, hlN, Nat.mul_one, Nat.zero_add, List.getElem?_map, g1]
             try simp (disch := omega) only [wrapI, wrapU]
             refine hR _ ?_
             all_goals try simp only [go_sem, hb0, hL, List.length_map, hJN, hc, hb1, hl, hb2, hb, hs, hv, hix, hixI, hgg, hlN, Nat.mul_one, Nat.zero_add, List.getElem?_map]
             all_goals
              first | rfl | (simp [*]; done) | (simp_all; done)
            ·try simp only [Bool.not_eq_true', Bool.not_eq_false'] at g1
             have n1 := g1; try simp only [nrm] at n1
             simp only [go_sem, hb0, hL, List.length_map, hJN, hc, hb1, hl, hb2, hb, hs, hv, hlN, Nat.mul_one, Nat.zero_add, List.getElem?_map, g1]
             try simp (disch := omega) only [wrapI, wrapU]
             refine hR _ ?_
             all_goals try simp only [go_sem, hb0, hL, List.length_map, hJN, hc, hb1, hl, hb2, hb, hs, hv, hlN, Nat.mul_one, Nat.zero_add, List.getElem?_map]
             all_goals
              first | rfl | (simp [*]; done) | (simp_all; done)
         ·simp only [go_sem, hb0, hL, List.length_map, hJN, hc, hb1, hl, hb2, hb, hs, hv, hlN, Nat.mul_one, Nat.zero_add, List.getElem?_map]
          refine GWant_split (fun g2 => ?_) (fun g2 => ?_)
          ·try simp only [Bool.not_eq_true', Bool.not_eq_false'] at g2
           have n2 := g2; try simp only [nrm] at n2
           have hk2 : b.kind = 2 := by first | exact n2 | simpa using g2
           have hvM : v < M := by have := hbv.vt; rw [if_pos hk2] at this; omega
           have hvI : (v : Int) < (M : Int) := by omega
           have hgm := rowF_get (f := votF L r t.songs i) hvM
           simp only [go_sem, hb0, hL, List.length_map, hJN, hc, hb1, hl, hb2, hb, hs, hv, hvI, hgm, hlN, Nat.mul_one, Nat.zero_add, List.getElem?_map, g2]
           refine hR _ ?_
           all_goals try simp only [go_sem, hb0, hL, List.length_map, hJN, hc, hb1, hl, hb2, hb, hs, hv, hvI, hgm, hlN, Nat.mul_one, Nat.zero_add, List.getElem?_map]
           all_goals
            first | rfl | (simp [*]; done) | (simp_all; done)
          ·try simp only [Bool.not_eq_true', Bool.not_eq_false'] at g2
           have n2 := g2; try simp only [nrm] at n2
           simp only [go_sem, hb0, hL, List.length_map, hJN, hc, hb1, hl, hb2, hb, hs, hv, hlN, Nat.mul_one, Nat.zero_add, List.getElem?_map, g2]
           refine hR _ ?_
           all_goals try simp only [go_sem, hb0, hL, List.length_map, hJN, hc, hb1, hl, hb2, hb, hs, hv, hlN, Nat.mul_one, Nat.zero_add, List.getElem?_map]
           all_goals
            first | rfl | (simp [*]; done) | (simp_all; done)
       ·simp only [go_sem, hb0, hL, List.length_map, hJN, hc, hb1, hl, hb2, hb, hs, hv, hsI, hgs, hlN, Nat.mul_one, Nat.zero_add, List.getElem?_map]
        refine GWant_split (fun g3 => ?_) (fun g3 => ?_)
        ·try simp only [Bool.not_eq_true', Bool.not_eq_false'] at g3
         have n3 := g3; try simp only [nrm] at n3
         simp only [go_sem, hb0, hL, List.length_map, hJN, hc, hb1, hl, hb2, hb, hs, hv, hsI, hgs, hlN, Nat.mul_one, Nat.zero_add, List.getElem?_map, g3]
         refine hR _ ?_
         all_goals try simp only [go_sem, hb0, hL, List.length_map, hJN, hc, hb1, hl, hb2, hb, hs, hv, hsI, hgs, hlN, Nat.mul_one, Nat.zero_add, List.getElem?_map]
         all_goals
          first | rfl | (simp [isIn, *]; done) | (simp_all [isIn]; done)
        ·try simp only [Bool.not_eq_true', Bool.not_eq_false'] at g3
         have n3 := g3; try simp only [nrm] at n3
         simp only [go_sem, hb0, hL, List.length_map, hJN, hc, hb1, hl, hb2, hb, hs, hv, hsI, hgs, hlN, Nat.mul_one, Nat.zero_add, List.getElem?_map, g3]
         refine hR _ ?_
         all_goals try simp only [go_sem, hb0, hL, List.length_map, hJN, hc, hb1, hl, hb2, hb, hs, hv, hsI, hgs, hlN, Nat.mul_one, Nat.zero_add, List.getElem?_map]
         all_goals
          first | rfl | (simp [isIn, *]; done) | (simp_all [isIn]; done)
      ·try simp only [nrm] at c4
       have hie : L.length = i := by first | omega | (simp at c4; omega)
       subst hie
       have hx1 : (resT t).points.length = (resT t).songs.length := by show ((allT t).map _).length = _; rw [List.length_map, allT_len]; rfl
       have hx2 : (resT t).votes.length = (resT t).songs.length := by show ((allT t).map _).length = _; rw [List.length_map, allT_len]; rfl
       have hx3 : (resT t).scores.length = (resT t).songs.length := by show ((allT t).map _).length = _; rw [List.length_map, allT_len]; rfl
       have hkp := hF.tb.kp
       have hslb := hF.tb.sl
       have hx4 : ((resT t).kept.length : Int) = rr.keep := by rw [resT_klen hkp.2, ← hF.rd]; omega
       have hkl : (resT t).kept.length ≤ 8 := by rw [resT_klen hkp.2]; omega
       refine W_exit ?_
       simp only [go_sem, hb0, hL, List.length_map, hJN, hc, hb1, hl, hb2]
       refine kq21 _ _ ?_
       refine W_seq fun kz35 kq35 => ?_
       refine W_region [4, 5, 6, 7, 9, 11, 12, 13, 18, 19] fun R hR => ?_
       simp only [go_sem, hb0, hL, List.length_map, hJN, hc, hb1, hl, hb2, hrI, hRr]
       refine hR _ _ (kq35 _ _ ?_); clear hR R; try clear kq35 kz35
       try simp only [go_sem, hb0, hL, List.length_map, hJN, hc, hb1, hl, hb2]
       refine W_seq fun kz36 kq36 => ?_
       refine W_seq fun kz37 kq37 => ?_
       refine W_drawJ [4, 5, 6, 7, 9, 11, 12, 13, 18, 19, 203] [(203, .bool false)] [0, 1, 2, 3, 4, 5, 6, 7, 8, 9, 10, 11, 12, 13, 14, 15, 16, 17, 18, 19, 20, 21, 22, 23, 24, 25, 26, 27, 28, 29, 30, 31, 32, 33, 34, 35, 36] [] [[], [0], [0, 1], [], [3], [3, 4], [0, 1, 2, 3, 4, 5], [0, 1, 2, 3, 4, 5, 6], [0, 1, 2, 3, 4, 5, 6, 7], [0, 1, 2, 3, 4, 5, 6, 7, 8], [0, 1, 2, 3, 4, 5, 6, 7, 8, 9], [0, 1, 2, 3, 4, 5, 6, 7], [0, 1, 2, 3, 4, 5, 6, 7, 11], [0, 1, 2, 3, 4, 5, 6, 7, 11, 12], [0, 1, 2, 3, 4, 5, 6, 7, 8, 9, 10, 11, 12, 13], [0, 1, 2, 3, 4, 5, 6, 7, 8, 9, 10, 11, 12, 13, 14], [0, 1, 2, 3, 4, 5, 6, 7, 8, 9, 10, 11, 12, 13, 14, 15], [0, 1, 2, 3, 4, 5, 6, 7, 8, 9, 10, 11, 12, 13, 14, 15, 16], [0, 1, 2, 3, 4, 5, 6, 7, 8, 9, 10, 11, 12, 13, 14, 15, 16, 17], [0, 1, 2, 3, 4, 5, 6, 7, 8, 9, 10, 11, 12, 13, 14, 15, 16, 17, 18], [0, 1, 2, 3, 4, 5, 6, 7, 8, 9, 10, 11, 12, 13, 14, 15, 16], [0, 1, 2, 3, 4, 5, 6, 7, 8, 9, 10, 11, 12, 13, 14, 15, 16, 20], [0, 1, 2, 3, 4, 5, 6, 7, 8, 9, 10, 11, 12, 13, 14, 15, 16, 20, 21], [0, 1, 2, 3, 4, 5, 6, 7, 8, 9, 10, 11, 12, 13, 14, 15, 16, 17, 18, 19, 20, 21, 22], [0, 1, 2, 3, 4, 5, 6, 7, 8, 9, 10, 11, 12, 13, 14, 15, 16, 17, 18, 19, 20, 21, 22, 23], [0, 1, 2, 3, 4, 5, 6, 7, 8, 9, 10, 11, 12, 13, 14, 15, 16, 17, 18, 19, 20, 21, 22, 23, 24], [0, 1, 2, 3, 4, 5, 6, 7, 8, 9, 10, 11, 12, 13, 14, 15, 16, 17, 18, 19, 20, 21, 22, 23, 24, 25], [0, 1, 2, 3, 4, 5, 6, 7, 8, 9, 10, 11, 12, 13, 14, 15, 16, 17, 18, 19, 20, 21, 22, 23, 24, 25, 26], [0, 1, 2, 3, 4, 5, 6, 7, 8, 9, 10, 11, 12, 13, 14, 15, 16, 17, 18, 19, 20, 21, 22, 23, 24, 25, 26, 27], [0, 1, 2, 3, 4, 5, 6, 7, 8, 9, 10, 11, 12, 13, 14, 15, 16, 17, 18, 19, 20, 21, 22, 23, 24, 25], [0, 1, 2, 3, 4, 5, 6, 7, 8, 9, 10, 11, 12, 13, 14, 15, 16, 17, 18, 19, 20, 21, 22, 23, 24, 25, 29], [0, 1, 2, 3, 4, 5, 6, 7, 8, 9, 10, 11, 12, 13, 14, 15, 16, 17, 18, 19, 20, 21, 22, 23, 24, 25], [0, 1, 2, 3, 4, 5, 6, 7, 8, 9, 10, 11, 12, 13, 14, 15, 16, 17, 18, 19, 20, 21, 22, 23, 24, 25, 29, 30, 31], [0, 1, 2, 3, 4, 5, 6, 7, 8, 9, 10, 11, 12, 13, 14, 15, 16, 17, 18, 19, 20, 21, 22, 23, 24, 25, 29, 30, 31, 32], [0, 1, 2, 3, 4, 5, 6, 7, 8, 9, 10, 11, 12, 13, 14, 15, 16, 17, 18, 19, 20, 21, 22, 23, 24, 25, 29, 30, 31, 32, 33], [0, 1, 2, 3, 4, 5, 6, 7, 8, 9, 10, 11, 12, 13, 14, 15, 16, 17, 18, 19, 20, 21, 22, 23, 24, 25, 26, 27, 28, 29, 30, 31, 32, 33, 34], [0, 1, 2, 3, 4, 5, 6, 7, 8, 9, 10, 11, 12, 13, 14, 15, 16, 17, 18, 19, 20, 21, 22, 23, 24, 25, 26, 27, 28, 29, 30, 31, 32, 33, 34, 35]] mixed (by kernel_rfl) ?_ fun R hR => ?_
       ·refine kq37 _ _ ?_
        simp only [go_sem, hb0, hL, List.length_map, hJN, hc, hb1, hl, hb2]
        refine W_cond rfl (fun c9 => ?_) (fun c9 => ?_)
        ·try simp only [nrm] at c9
         exfalso
         first | contradiction | (simp at c9)
        ·try simp only [nrm] at c9
         refine W_skip (kq36 _ _ ?_)
         refine W_seq fun kz38 kq38 => ?_
         refine W_seq fun kz39 kq39 => ?_
         refine W_region [4, 5, 6, 7, 9, 11, 12, 13, 18, 19, 20] fun R hR => ?_
         simp only [go_sem, hb0, hL, List.length_map, hJN, hc, hb1, hl, hb2]
         refine hR _ _ (kq39 _ _ ?_); clear hR R; try clear kq39 kz39
         try simp only [go_sem, hb0, hL, List.length_map, hJN, hc, hb1, hl, hb2]
         refine W_block ?_
         refine W_loopS (α := Nat) (fun (s : Nat) => [(19, I (cntTo t.songs s : Nat)), (20, I s)]) (fun (s : Nat) => s ≤ N) (fun (s : Nat) => N - s) (0) rfl (Nat.zero_le _) ?_
         rintro s hs
         refine W_seq fun kz40 kq40 => ?_
         refine W_seq fun kz41 kq41 => ?_
         refine W_region [4, 5, 6, 7, 9, 11, 12, 13, 18, 19, 20, 207] fun R hR => ?_
         simp only [go_sem, hb0, hL, List.length_map, hJN, hc, hb1, hl, hb2]
         refine hR _ _ (kq41 _ _ ?_); clear hR R; try clear kq41 kz41
         try simp only [go_sem, hb0, hL, List.length_map, hJN, hc, hb1, hl, hb2]
         refine W_cond rfl (fun c10 => ?_) (fun c10 => ?_)
         ·try simp only [nrm] at c10
          have hsN0 : s < N := by first | omega | (simp at c10; omega)
          have hsI : (s : Int) < (N : Int) := by omega
          have hgs := rowF_get (f := fun x => has t.songs (x : Nat)) hsN0
          have hct := cntTo_succ (ss := t.songs) (s := s)
          refine W_skip (kq40 _ _ ?_)
          refine W_seq fun kz42 kq42 => ?_
          refine W_block ?_
          refine W_seq fun kz43 kq43 => ?_
          refine W_seq fun kz44 kq44 => ?_
          refine W_region [4, 5, 6, 7, 9, 11, 12, 13, 18, 19, 20, 214] fun R hR => ?_
          simp only [go_sem, hb0, hL, List.length_map, hJN, hc, hb1, hl, hb2, hsI, hgs, Nat.mul_one, Nat.zero_add, List.getElem?_map]
          refine hR _ _ (kq44 _ _ ?_); clear hR R; try clear kq44 kz44
          try simp only [go_sem, hb0, hL, List.length_map, hJN, hc, hb1, hl, hb2]
          refine W_cond rfl (fun c11 => ?_) (fun c11 => ?_)
          ·try simp only [nrm] at c11
           have hf : has t.songs (s : Nat) = false := by simpa using c11
           refine W_exit ?_
           simp only [go_sem, hb0, hL, List.length_map, hJN, hc, hb1, hl, hb2]
           refine kq42 _ _ ?_
           refine W_region [4, 5, 6, 7, 9, 11, 12, 13, 18, 19, 20] fun R hR => ?_
           simp only [go_sem, hb0, hL, List.length_map, hJN, hc, hb1, hl, hb2]
           try simp (disch := omega) only [wrapI, wrapU]
           refine hR _ _ ?_; clear hR R
           try simp only [go_sem, hb0, hL, List.length_map, hJN, hc, hb1, hl, hb2]
           refine ⟨s + 1, ?_, by (try simp only []); omega, ?_⟩
           ·exact Weak.eq (by simp [hct, hf]) rfl
           ·try dsimp only
            exact hsN0
          ·try simp only [nrm] at c11
           have hh : has t.songs (s : Nat) = true := by simpa using c11
           have hat := hF.at' s hsN0 hh
           have g0 : (resT t).songs[cntTo t.songs s]? = some (s : Int) := cntTo_at hF.up hF.bd hsN0 hh
           have hclI : ((cntTo t.songs s : Nat) : Int) < ((resT t).songs.length : Int) := by have := (List.getElem?_eq_some_iff.1 g0).1; omega
           have hge : decide (((resT t).songs.length : Int) ≤ ((cntTo t.songs s : Nat) : Int)) = false := decide_eq_false (by omega)
           have g1 : (resT t).points[cntTo t.songs s]? = some (pS L r t.songs L.length s) := by show ((allT t).map _)[_]? = _; rw [List.getElem?_map, hat]; rfl
           have g2 : (resT t).votes[cntTo t.songs s]? = some (vS L r t.songs L.length s) := by show ((allT t).map _)[_]? = _; rw [List.getElem?_map, hat]; rfl
           have g3 : (resT t).scores[cntTo t.songs s]? = some (rr.jury * pS L r t.songs L.length s + rr.member * vS L r t.songs L.length s) := by show ((allT t).map _)[_]? = _; rw [List.getElem?_map, hat]; rfl
           have hcl0 : cntTo t.songs s < t.songs.length := (List.getElem?_eq_some_iff.1 g0).1
           have hwc1 : IntKind.i64.wrap (((cntTo t.songs s : Nat) : Int) + 1) = ((cntTo t.songs s : Nat) : Int) + 1 := wrapI (by omega) (by omega)
           have hgp := rowG_get (f := pS L r t.songs L.length) hsN0
           have hgv := rowG_get (f := vS L r t.songs L.length) hsN0
           have hpb := pS_bd (rd := r) (ss := t.songs) hptL (Nat.le_refl _) s
           have hvb := vS_bd (L := L) (rd := r) (ss := t.songs) (Nat.le_refl _) s
           have hwj := hF.tb.wj
           have hwm := hF.tb.wm
           rw [hF.rd] at hwj hwm
           have m1 := mul_bd (a := rr.jury) (b := pS L r t.songs L.length s) (by omega) (by omega)
           have m2 := mul_bd (a := rr.member) (b := vS L r t.songs L.length s) (by omega) (by omega)
           have hw3 : IntKind.i64.wrap (rr.jury * pS L r t.songs L.length s) = rr.jury * pS L r t.songs L.length s := wrapI (by omega) (by omega)
           have hw4 : IntKind.i64.wrap (rr.member * vS L r t.songs L.length s) = rr.member * vS L r t.songs L.length s := wrapI (by omega) (by omega)
           have hw5 : IntKind.i64.wrap (rr.jury * pS L r t.songs L.length s + rr.member * vS L r t.songs L.length s) = rr.jury * pS L r t.songs L.length s + rr.member * vS L r t.songs L.length s := wrapI (by omega) (by omega)
           refine W_skip (kq43 _ _ ?_)
           refine W_seq fun kz45 kq45 => ?_
           refine W_seq fun kz46 kq46 => ?_
           refine W_drawJ [4, 5, 6, 7, 9, 11, 12, 13, 18, 19, 20, 283] [(283, .bool false)] [0, 1, 2, 3, 4, 5, 6, 7, 8, 9, 10, 11, 12, 13, 14, 15, 16, 17, 18, 19, 20, 21, 22, 23, 24, 25, 26, 27, 28, 29, 30, 31, 32, 33, 34, 35, 36, 37, 38, 39, 40, 41, 42, 43, 44, 45, 46, 47, 48, 49, 50, 51, 52, 53, 54, 55, 56, 57, 58, 59, 60, 61, 62, 63, 64, 65, 66, 67, 68] [] [[], [], [1], [1, 2], [0, 1, 2, 3], [0, 1, 2, 3, 4], [0, 1, 2, 3, 4, 5], [0, 1, 2, 3, 4, 5, 6], [0, 1, 2, 3, 4, 5], [0, 1, 2, 3, 4, 5, 6, 7, 8], [0, 1, 2, 3, 4, 5, 6, 7, 8, 9], [0, 1, 2, 3, 4, 5], [0, 1, 2, 3, 4, 5, 6, 7, 8, 9, 10, 11], [0, 1, 2, 3, 4, 5, 6, 7, 8, 9, 10, 11, 12], [0, 1, 2, 3, 4, 5, 6, 7, 8, 9, 10, 11, 12, 13], [0, 1, 2, 3, 4, 5, 6, 7, 8, 9, 10, 11, 12, 13, 14], [0, 1, 2, 3, 4, 5, 6, 7, 8, 9, 10, 11, 12, 13, 14, 15], [0, 1, 2, 3, 4, 5, 6, 7, 8, 9, 10, 11, 12, 13, 14], [0, 1, 2, 3, 4, 5, 6, 7, 8, 9, 10, 11, 12, 13, 14, 15, 16, 17], [0, 1, 2, 3, 4, 5, 6, 7, 8, 9, 10, 11, 12, 13, 14, 15, 16, 17, 18], [0, 1, 2, 3, 4, 5, 6, 7, 8, 9, 10, 11, 12, 13, 14], [0, 1, 2, 3, 4, 5, 6, 7, 8, 9, 10, 11, 12, 13, 14], [0, 1, 2, 3, 4, 5, 6, 7, 8, 9, 10, 11, 12, 13, 14, 20, 21], [0, 1, 2, 3, 4, 5, 6, 7, 8, 9, 10, 11, 12, 13, 14, 20, 21, 22], [0, 1, 2, 3, 4, 5, 6, 7, 8, 9, 10, 11, 12, 13, 14, 15, 16, 17, 18, 19, 20, 21, 22, 23], [0, 1, 2, 3, 4, 5, 6, 7, 8, 9, 10, 11, 12, 13, 14, 15, 16, 17, 18, 19, 20, 21, 22, 23, 24], [0, 1, 2, 3, 4, 5, 6, 7, 8, 9, 10, 11, 12, 13, 14, 15, 16, 17, 18, 19, 20, 21, 22, 23, 24, 25], [0, 1, 2, 3, 4, 5, 6, 7, 8, 9, 10, 11, 12, 13, 14, 15, 16, 17, 18, 19, 20, 21, 22, 23, 24, 25, 26], [0, 1, 2, 3, 4, 5, 6, 7, 8, 9, 10, 11, 12, 13, 14, 15, 16, 17, 18, 19, 20, 21, 22, 23, 24, 25, 26, 27], [0, 1, 2, 3, 4, 5, 6, 7, 8, 9, 10, 11, 12, 13, 14, 15, 16, 17, 18, 19, 20, 21, 22, 23, 24, 25, 26], [0, 1, 2, 3, 4, 5, 6, 7, 8, 9, 10, 11, 12, 13, 14, 15, 16, 17, 18, 19, 20, 21, 22, 23, 24, 25, 26, 27, 28, 29], [0, 1, 2, 3, 4, 5, 6, 7, 8, 9, 10, 11, 12, 13, 14, 15, 16, 17, 18, 19, 20, 21, 22, 23, 24, 25, 26, 27, 28, 29, 30], [0, 1, 2, 3, 4, 5, 6, 7, 8, 9, 10, 11, 12, 13, 14, 15, 16, 17, 18, 19, 20, 21, 22, 23, 24, 25, 26], [0, 1, 2, 3, 4, 5, 6, 7, 8, 9, 10, 11, 12, 13, 14, 15, 16, 17, 18, 19, 20, 21, 22, 23, 24, 25, 26], [0, 1, 2, 3, 4, 5, 6, 7, 8, 9, 10, 11, 12, 13, 14, 15, 16, 17, 18, 19, 20, 21, 22, 23, 24, 25, 26, 32, 33], [0, 1, 2, 3, 4, 5, 6, 7, 8, 9, 10, 11, 12, 13, 14, 15, 16, 17, 18, 19, 20, 21, 22, 23, 24, 25, 26, 32, 33, 34], [0, 1, 2, 3, 4, 5, 6, 7, 8, 9, 10, 11, 12, 13, 14, 15, 16, 17, 18, 19, 20, 21, 22, 23, 24, 25, 26, 27, 28, 29, 30, 31, 32, 33, 34, 35], [0, 1, 2, 3, 4, 5, 6, 7, 8, 9, 10, 11, 12, 13, 14, 15, 16, 17, 18, 19, 20, 21, 22, 23, 24, 25, 26, 27, 28, 29, 30, 31, 32, 33, 34, 35, 36], [0, 1, 2, 3, 4, 5, 6, 7, 8, 9, 10, 11, 12, 13, 14, 15, 16, 17, 18, 19, 20, 21, 22, 23, 24, 25, 26, 27, 28, 29, 30, 31, 32, 33, 34, 35, 36, 37], [0, 1, 2, 3, 4, 5, 6, 7, 8, 9, 10, 11, 12, 13, 14, 15, 16, 17, 18, 19, 20, 21, 22, 23, 24, 25, 26, 27, 28, 29, 30, 31, 32, 33, 34, 35, 36, 37, 38], [0, 1, 2, 3, 4, 5, 6, 7, 8, 9, 10, 11, 12, 13, 14, 15, 16, 17, 18, 19, 20, 21, 22, 23, 24, 25, 26, 27, 28, 29, 30, 31, 32, 33, 34, 35, 36, 37, 38, 39], [0, 1, 2, 3, 4, 5, 6, 7, 8, 9, 10, 11, 12, 13, 14, 15, 16, 17, 18, 19, 20, 21, 22, 23, 24, 25, 26, 27, 28, 29, 30, 31, 32, 33, 34, 35, 36, 37, 38], [0, 1, 2, 3, 4, 5, 6, 7, 8, 9, 10, 11, 12, 13, 14, 15, 16, 17, 18, 19, 20, 21, 22, 23, 24, 25, 26, 27, 28, 29, 30, 31, 32, 33, 34, 35, 36, 37, 38, 39, 40, 41], [0, 1, 2, 3, 4, 5, 6, 7, 8, 9, 10, 11, 12, 13, 14, 15, 16, 17, 18, 19, 20, 21, 22, 23, 24, 25, 26, 27, 28, 29, 30, 31, 32, 33, 34, 35, 36, 37, 38, 39, 40, 41, 42], [0, 1, 2, 3, 4, 5, 6, 7, 8, 9, 10, 11, 12, 13, 14, 15, 16, 17, 18, 19, 20, 21, 22, 23, 24, 25, 26, 27, 28, 29, 30, 31, 32, 33, 34, 35, 36, 37, 38], [0, 1, 2, 3, 4, 5, 6, 7, 8, 9, 10, 11, 12, 13, 14, 15, 16, 17, 18, 19, 20, 21, 22, 23, 24, 25, 26, 27, 28, 29, 30, 31, 32, 33, 34, 35, 36, 37, 38, 44], [0, 1, 2, 3, 4, 5, 6, 7, 8, 9, 10, 11, 12, 13, 14, 15, 16, 17, 18, 19, 20, 21, 22, 23, 24, 25, 26, 27, 28, 29, 30, 31, 32, 33, 34, 35, 36, 37, 38], [0, 1, 2, 3, 4, 5, 6, 7, 8, 9, 10, 11, 12, 13, 14, 15, 16, 17, 18, 19, 20, 21, 22, 23, 24, 25, 26, 27, 28, 29, 30, 31, 32, 33, 34, 35, 36, 37, 38, 44, 45, 46], [0, 1, 2, 3, 4, 5, 6, 7, 8, 9, 10, 11, 12, 13, 14, 15, 16, 17, 18, 19, 20, 21, 22, 23, 24, 25, 26, 27, 28, 29, 30, 31, 32, 33, 34, 35, 36, 37, 38, 44, 45, 46, 47], [0, 1, 2, 3, 4, 5, 6, 7, 8, 9, 10, 11, 12, 13, 14, 15, 16, 17, 18, 19, 20, 21, 22, 23, 24, 25, 26, 27, 28, 29, 30, 31, 32, 33, 34, 35, 36, 37, 38, 44, 45, 46, 47, 48], [0, 1, 2, 3, 4, 5, 6, 7, 8, 9, 10, 11, 12, 13, 14, 15, 16, 17, 18, 19, 20, 21, 22, 23, 24, 25, 26, 27, 28, 29, 30, 31, 32, 33, 34, 35, 36, 37, 38], [0, 1, 2, 3, 4, 5, 6, 7, 8, 9, 10, 11, 12, 13, 14, 15, 16, 17, 18, 19, 20, 21, 22, 23, 24, 25, 26, 27, 28, 29, 30, 31, 32, 33, 34, 35, 36, 37, 38], [0, 1, 2, 3, 4, 5, 6, 7, 8, 9, 10, 11, 12, 13, 14, 15, 16, 17, 18, 19, 20, 21, 22, 23, 24, 25, 26, 27, 28, 29, 30, 31, 32, 33, 34, 35, 36, 37, 38, 50, 51], [0, 1, 2, 3, 4, 5, 6, 7, 8, 9, 10, 11, 12, 13, 14, 15, 16, 17, 18, 19, 20, 21, 22, 23, 24, 25, 26, 27, 28, 29, 30, 31, 32, 33, 34, 35, 36, 37, 38, 50, 51, 52], [0, 1, 2, 3, 4, 5, 6, 7, 8, 9, 10, 11, 12, 13, 14, 15, 16, 17, 18, 19, 20, 21, 22, 23, 24, 25, 26, 27, 28, 29, 30, 31, 32, 33, 34, 35, 36, 37, 38, 44, 45, 46, 47, 48, 49, 50, 51, 52, 53], [0, 1, 2, 3, 4, 5, 6, 7, 8, 9, 10, 11, 12, 13, 14, 15, 16, 17, 18, 19, 20, 21, 22, 23, 24, 25, 26, 27, 28, 29, 30, 31, 32, 33, 34, 35, 36, 37, 38], [0, 1, 2, 3, 4, 5, 6, 7, 8, 9, 10, 11, 12, 13, 14, 15, 16, 17, 18, 19, 20, 21, 22, 23, 24, 25, 26, 27, 28, 29, 30, 31, 32, 33, 34, 35, 36, 37, 38, 55], [0, 1, 2, 3, 4, 5, 6, 7, 8, 9, 10, 11, 12, 13, 14, 15, 16, 17, 18, 19, 20, 21, 22, 23, 24, 25, 26, 27, 28, 29, 30, 31, 32, 33, 34, 35, 36, 37, 38], [0, 1, 2, 3, 4, 5, 6, 7, 8, 9, 10, 11, 12, 13, 14, 15, 16, 17, 18, 19, 20, 21, 22, 23, 24, 25, 26, 27, 28, 29, 30, 31, 32, 33, 34, 35, 36, 37, 38, 55, 56, 57], [0, 1, 2, 3, 4, 5, 6, 7, 8, 9, 10, 11, 12, 13, 14, 15, 16, 17, 18, 19, 20, 21, 22, 23, 24, 25, 26, 27, 28, 29, 30, 31, 32, 33, 34, 35, 36, 37, 38, 55, 56, 57, 58], [0, 1, 2, 3, 4, 5, 6, 7, 8, 9, 10, 11, 12, 13, 14, 15, 16, 17, 18, 19, 20, 21, 22, 23, 24, 25, 26, 27, 28, 29, 30, 31, 32, 33, 34, 35, 36, 37, 38, 55, 56, 57, 58, 59], [0, 1, 2, 3, 4, 5, 6, 7, 8, 9, 10, 11, 12, 13, 14, 15, 16, 17, 18, 19, 20, 21, 22, 23, 24, 25, 26, 27, 28, 29, 30, 31, 32, 33, 34, 35, 36, 37, 38], [0, 1, 2, 3, 4, 5, 6, 7, 8, 9, 10, 11, 12, 13, 14, 15, 16, 17, 18, 19, 20, 21, 22, 23, 24, 25, 26, 27, 28, 29, 30, 31, 32, 33, 34, 35, 36, 37, 38], [0, 1, 2, 3, 4, 5, 6, 7, 8, 9, 10, 11, 12, 13, 14, 15, 16, 17, 18, 19, 20, 21, 22, 23, 24, 25, 26, 27, 28, 29, 30, 31, 32, 33, 34, 35, 36, 37, 38, 61, 62], [0, 1, 2, 3, 4, 5, 6, 7, 8, 9, 10, 11, 12, 13, 14, 15, 16, 17, 18, 19, 20, 21, 22, 23, 24, 25, 26, 27, 28, 29, 30, 31, 32, 33, 34, 35, 36, 37, 38, 61, 62, 63], [0, 1, 2, 3, 4, 5, 6, 7, 8, 9, 10, 11, 12, 13, 14, 15, 16, 17, 18, 19, 20, 21, 22, 23, 24, 25, 26, 27, 28, 29, 30, 31, 32, 33, 34, 35, 36, 37, 38, 55, 56, 57, 58, 59, 60, 61, 62, 63, 64], [0, 1, 2, 3, 4, 5, 6, 7, 8, 9, 10, 11, 12, 13, 14, 15, 16, 17, 18, 19, 20, 21, 22, 23, 24, 25, 26, 27, 28, 29, 30, 31, 32, 33, 34, 35, 36, 37, 38, 44, 45, 46, 47, 48, 49, 50, 51, 52, 53, 54, 55, 56, 57, 58, 59, 60, 61, 62, 63, 64, 65], [0, 1, 2, 3, 4, 5, 6, 7, 8, 9, 10, 11, 12, 13, 14, 15, 16, 17, 18, 19, 20, 21, 22, 23, 24, 25, 26, 27, 28, 29, 30, 31, 32, 33, 34, 35, 36, 37, 38, 39, 40, 41, 42, 43, 44, 45, 46, 47, 48, 49, 50, 51, 52, 53, 54, 55, 56, 57, 58, 59, 60, 61, 62, 63, 64, 65, 66], [0, 1, 2, 3, 4, 5, 6, 7, 8, 9, 10, 11, 12, 13, 14, 15, 16, 17, 18, 19, 20, 21, 22, 23, 24, 25, 26, 27, 28, 29, 30, 31, 32, 33, 34, 35, 36, 37, 38, 39, 40, 41, 42, 43, 44, 45, 46, 47, 48, 49, 50, 51, 52, 53, 54, 55, 56, 57, 58, 59, 60, 61, 62, 63, 64, 65, 66, 67]] mixed (by kernel_rfl) ?_ fun R hR => ?_
           ·refine kq46 _ _ ?_
            simp only [go_sem, hb0, hL, List.length_map, hJN, hc, hb1, hl, hb2]
            refine W_cond rfl (fun c12 => ?_) (fun c12 => ?_)
            ·try simp only [nrm] at c12
             exfalso
             first | contradiction | (simp at c12)
            ·try simp only [nrm] at c12
             refine W_skip (kq45 _ _ ?_)
             refine W_region [4, 5, 6, 7, 9, 11, 12, 13, 18, 19, 20] fun R hR => ?_
             simp only [go_sem, hb0, hL, List.length_map, hJN, hc, hb1, hl, hb2]
             try simp (disch := omega) only [wrapI, wrapU]
             refine hR _ _ (kq42 _ _ ?_); clear hR R; try clear kq42 kz42
             try simp only [go_sem, hb0, hL, List.length_map, hJN, hc, hb1, hl, hb2]
             refine W_region [4, 5, 6, 7, 9, 11, 12, 13, 18, 19, 20] fun R hR => ?_
             simp only [go_sem, hb0, hL, List.length_map, hJN, hc, hb1, hl, hb2]
             try simp (disch := omega) only [wrapI, wrapU]
             refine hR _ _ ?_; clear hR R
             try simp only [go_sem, hb0, hL, List.length_map, hJN, hc, hb1, hl, hb2]
             refine ⟨s + 1, ?_, by (try simp only []); omega, ?_⟩
             ·exact Weak.eq (by simp [hct, hh, hwc1]) rfl
             ·try dsimp only
              exact hsN0
           ·dsimp only [List.append]
            simp only [go_sem, hb0, hL, List.length_map, hJN, hc, hb1, hl, hb2, hclI, hge, g0, g1, g2, g3, hx1, hx2, hx3, hgp, hgv, hw3, hw4, hw5, hsI, hrC, hrr, rdPV, hlG, Nat.mul_one, Nat.zero_add, List.getElem?_map]
            try simp (disch := omega) only [wrapI, wrapU]
            try refine And.intro (by repeat' (first | refine And.intro ?_ ?_ | exact trivial | exact GOr_right (fun _ => by simp only [go_sem, hb0, hL, List.length_map, hJN, hc, hb1, hl, hb2, hclI, hge, g0, g1, g2, g3, hx1, hx2, hx3, hgp, hgv, hw3, hw4, hw5, hsI, hrC, hrr, rdPV, hlG, Nat.mul_one, Nat.zero_add, List.getElem?_map]))) ?_
            refine hR _ ?_
            all_goals try simp only [go_sem, hb0, hL, List.length_map, hJN, hc, hb1, hl, hb2, hclI, hge, g0, g1, g2, g3, hx1, hx2, hx3, hgp, hgv, hw3, hw4, hw5, hsI, hrC, hrr, rdPV, hlG, Nat.mul_one, Nat.zero_add, List.getElem?_map]
            all_goals
             first | rfl | (simp [*]; done) | (simp_all; done)
         ·try simp only [nrm] at c10
          have hse : N = s := by first | omega | (simp at c10; omega)
          subst hse
          have hcl2 : cntTo t.songs N = (resT t).songs.length := cntTo_all hF.up hF.bd
          refine W_exit ?_
          simp only [go_sem, hb0, hL, List.length_map, hJN, hc, hb1, hl, hb2]
          refine kq38 _ _ ?_
          refine W_seq fun kz47 kq47 => ?_
          refine W_seq fun kz48 kq48 => ?_
          refine W_region [4, 5, 6, 7, 9, 11, 18, 295] fun R hR => ?_
          simp only [go_sem, hb0, hL, List.length_map, hJN, hc, hb1, hl, hb2, hcl2]
          refine GCall_of (PC.val (v' := .bool true) (led_pc Y _ t hF.tb hF.up) rfl) ?_
          simp only [go_sem, hb0, hL, List.length_map, hJN, hc, hb1, hl, hb2, hcl2]
          refine hR _ _ (kq48 _ _ ?_); clear hR R; try clear kq48 kz48
          try simp only [go_sem, hb0, hL, List.length_map, hJN, hc, hb1, hl, hb2]
          refine W_cond rfl (fun c13 => ?_) (fun c13 => ?_)
          ·try simp only [nrm] at c13
           exfalso
           first | contradiction | (simp at c13; done) | (simp [hcl2] at c13)
          ·try simp only [nrm] at c13
           refine W_skip (kq47 _ _ ?_)
           refine W_seq fun kz49 kq49 => ?_
           refine W_region [4, 5, 6, 7, 9, 11, 18, 21] fun R hR => ?_
           simp only [go_sem, hb0, hL, List.length_map, hJN, hc, hb1, hl, hb2]
           refine hR _ _ (kq49 _ _ ?_); clear hR R; try clear kq49 kz49
           try simp only [go_sem, hb0, hL, List.length_map, hJN, hc, hb1, hl, hb2]
           refine W_block ?_
           refine W_loopT (α := Nat) (fun (s : Nat) => [(21, I s)]) (fun (s : Nat) => σ.ext [some [.int .u64 b2], some (cnCells c), some ((rowF (inF t.songs (resT t).kept s) N).map PV.bool), some ((rowG (pS L r t.songs L.length) N).map I), some ((rowG (vS L r t.songs L.length) N).map I), some ((rowF (givF L r t.songs N L.length) (J * N)).map PV.bool), some ((rowF (votF L r t.songs L.length) M).map PV.bool), some (rsCells (resT t))] []) (fun (s : Nat) => s ≤ N) (fun (s : Nat) => N - s) (0) rfl (by rw [inF_zero]; rfl) (Nat.zero_le _) ?_
           rintro s hs
           refine W_seq fun kz50 kq50 => ?_
           refine W_seq fun kz51 kq51 => ?_
           refine W_region [4, 5, 6, 7, 9, 11, 18, 21, 299] fun R hR => ?_
           simp only [go_sem, hb0, hL, List.length_map, hJN, hc, hb1, hl, hb2]
           refine hR _ _ (kq51 _ _ ?_); clear hR R; try clear kq51 kz51
           try simp only [go_sem, hb0, hL, List.length_map, hJN, hc, hb1, hl, hb2]
           refine W_cond rfl (fun c14 => ?_) (fun c14 => ?_)
           ·try simp only [nrm] at c14
            have hsN0 : s < N := by first | omega | (simp at c14; omega)
            have hsI : (s : Int) < (N : Int) := by omega
            have hsD : decide (s + 1 ≤ N) = true := decide_eq_true (by omega)
            refine W_skip (kq50 _ _ ?_)
            refine W_seq fun kz52 kq52 => ?_
            refine W_block ?_
            refine W_region [4, 5, 6, 7, 9, 11, 18, 21] fun R hR => ?_
            simp only [go_sem, hb0, hL, List.length_map, hJN, hc, hb1, hl, hb2, hsI, hsD, hlN, inF_set, Nat.mul_one, Nat.zero_add]
            refine GCall_of (Has_pc Y _ (resT t).kept s .ro (by omega)) ?_
            simp only [go_sem, hb0, hL, List.length_map, hJN, hc, hb1, hl, hb2, hsI, hsD, hlN, inF_set, Nat.mul_one, Nat.zero_add]
            refine hR _ _ (kq52 _ _ ?_); clear hR R; try clear kq52 kz52
            try simp only [go_sem, hb0, hL, List.length_map, hJN, hc, hb1, hl, hb2]
            refine W_region [4, 5, 6, 7, 9, 11, 18, 21] fun R hR => ?_
            simp only [go_sem, hb0, hL, List.length_map, hJN, hc, hb1, hl, hb2]
            try simp (disch := omega) only [wrapI, wrapU]
            refine hR _ _ ?_; clear hR R
            try simp only [go_sem, hb0, hL, List.length_map, hJN, hc, hb1, hl, hb2]
            refine ⟨s + 1, ?_, by (try simp only []); omega, ?_⟩
            ·first | exact Weak.refl | exact Weak.eq (by first | rfl | (simp only [go_sem]; done) | (simp only [go_sem]; rfl) | (simp [go_sem]; done) | (simp [go_sem]; omega)) (by first | rfl | (simp only [go_sem]; done) | (simp [go_sem]; done))
            ·try dsimp only
             exact hsN0
           ·try simp only [nrm] at c14
            have hse : N = s := by first | omega | (simp at c14; omega)
            subst hse
            refine W_exit ?_
            simp only [go_sem, hb0, hL, List.length_map, hJN, hc, hb1, hl, hb2]
            refine kq18 _ _ ?_
            refine W_region [4, 5, 6, 7, 9, 11] fun R hR => ?_
            simp only [go_sem, hb0, hL, List.length_map, hJN, hc, hb1, hl, hb2]
            try simp (disch := omega) only [wrapI, wrapU]
            refine hR _ _ ?_; clear hR R
            try simp only [go_sem, hb0, hL, List.length_map, hJN, hc, hb1, hl, hb2]
            refine ⟨r + 1, ?_, by (try simp only []); omega, ?_⟩
            ·refine Weak.trans (Weak.cutX 3 0 (by omega) (by omega) hcl (by simp only [go_sem] <;> omega) (by simp only [go_sem] <;> omega)) ?_
             simp only [go_sem]
             exact Weak.eq rfl (by rw [inF_all, hnx])
            ·try dsimp only
             exact hrR
       ·simp only [go_sem, hb0, hL, List.length_map, hJN, hc, hb1, hl, hb2, hx1, hx2, hx3, hx4, hrC, hrr, List.getElem?_map, rdPV]
        try refine And.intro (by repeat' (first | refine And.intro ?_ ?_ | exact trivial | exact GOr_right (fun _ => by simp only [go_sem, hb0, hL, List.length_map, hJN, hc, hb1, hl, hb2, hx1, hx2, hx3, hx4, hrC, hrr, List.getElem?_map, rdPV]))) ?_
        refine hR _ ?_
        all_goals try simp only [go_sem, hb0, hL, List.length_map, hJN, hc, hb1, hl, hb2, hx1, hx2, hx3, hx4, hrC, hrr, List.getElem?_map, rdPV]
        all_goals
         first | rfl | (simp [*]; done) | (simp_all; done)
     ·simp only [go_sem, hb0, hL, List.length_map, hJN, hc, hb1, hl, hb2, mkB (k := J * N) (by omega), hmk3]
      try simp (disch := omega) only [wrapI, wrapU]
      try refine And.intro (by repeat' (first | refine And.intro ?_ ?_ | exact trivial | exact GOr_right (fun _ => by simp only [go_sem, hb0, hL, List.length_map, hJN, hc, hb1, hl, hb2, mkB (k := J * N) (by omega), hmk3]))) ?_
      refine hR _ _ ?_
      try simp only [go_sem, hb0, hL, List.length_map, hJN, hc, hb1, hl, hb2, mkB (k := J * N) (by omega), hmk3]
      exact Weak.eq (by first | rfl | (simp only [go_sem]; done) | (simp only [go_sem]; rfl)) (by first | rfl | (simp only [go_sem]; done))
     ·simp only [go_sem, hb0, hL, List.length_map, hJN, hc, hb1, hl, hb2, mkB (k := J * N) (by omega), hmk3]
      try simp (disch := omega) only [wrapI, wrapU]
      try refine And.intro (by repeat' (first | refine And.intro ?_ ?_ | exact trivial | exact GOr_right (fun _ => by simp only [go_sem, hb0, hL, List.length_map, hJN, hc, hb1, hl, hb2, mkB (k := J * N) (by omega), hmk3]))) ?_
      refine hR _ _ ?_
      try simp only [go_sem, hb0, hL, List.length_map, hJN, hc, hb1, hl, hb2, mkB (k := J * N) (by omega), hmk3]
      try simp only [go_sem]
      refine Weak.ren [0, 1, 2, 3, 4, 6, 5] (by decide) (by simp) (by first | omega | (simp only [go_sem] <;> omega)) hcl (RnE.get ?_) ?_
      ·repeat' (first | exact trivial | (refine .same _ ?_; simp only [go_sem]; done) | (refine .same _ ?_; simp only [go_sem]; omega) | exact .ptr 0 0 _ _ _  rfl rfl rfl | exact .msl 0 0 _ _ _ _  rfl rfl rfl | exact .gsl 0 0 _ _ _ _  rfl rfl rfl | exact .mapv 0 0 _ _  rfl rfl rfl | exact .ptr 1 1 _ _ _  rfl rfl rfl | exact .msl 1 1 _ _ _ _  rfl rfl rfl | exact .gsl 1 1 _ _ _ _  rfl rfl rfl | exact .mapv 1 1 _ _  rfl rfl rfl | exact .ptr 2 2 _ _ _  rfl rfl rfl | exact .msl 2 2 _ _ _ _  rfl rfl rfl | exact .gsl 2 2 _ _ _ _  rfl rfl rfl | exact .mapv 2 2 _ _  rfl rfl rfl | exact .ptr 3 3 _ _ _  rfl rfl rfl | exact .msl 3 3 _ _ _ _  rfl rfl rfl | exact .gsl 3 3 _ _ _ _  rfl rfl rfl | exact .mapv 3 3 _ _  rfl rfl rfl | exact .ptr 4 4 _ _ _  rfl rfl rfl | exact .msl 4 4 _ _ _ _  rfl rfl rfl | exact .gsl 4 4 _ _ _ _  rfl rfl rfl | exact .mapv 4 4 _ _  rfl rfl rfl | exact .ptr 5 6 _ _ _  rfl rfl rfl | exact .msl 5 6 _ _ _ _  rfl rfl rfl | exact .gsl 5 6 _ _ _ _  rfl rfl rfl | exact .mapv 5 6 _ _  rfl rfl rfl | exact .ptr 6 5 _ _ _  rfl rfl rfl | exact .msl 6 5 _ _ _ _  rfl rfl rfl | exact .gsl 6 5 _ _ _ _  rfl rfl rfl | exact .mapv 6 5 _ _  rfl rfl rfl | refine .funcL ?_ | refine ⟨rfl, ?_, ?_⟩ | refine ⟨?_, ?_⟩)
      ·repeat' (first | exact trivial | (refine .inl ⟨?_, rfl⟩; simp only [go_sem]; done) | (refine .inl ⟨?_, rfl⟩; simp only [go_sem]; omega) | (refine .same _ ?_; simp only [go_sem]; done) | (refine .same _ ?_; simp only [go_sem]; omega) | exact .ptr 0 0 _ _ _  rfl rfl rfl | exact .msl 0 0 _ _ _ _  rfl rfl rfl | exact .gsl 0 0 _ _ _ _  rfl rfl rfl | exact .mapv 0 0 _ _  rfl rfl rfl | exact .ptr 1 1 _ _ _  rfl rfl rfl | exact .msl 1 1 _ _ _ _  rfl rfl rfl | exact .gsl 1 1 _ _ _ _  rfl rfl rfl | exact .mapv 1 1 _ _  rfl rfl rfl | exact .ptr 2 2 _ _ _  rfl rfl rfl | exact .msl 2 2 _ _ _ _  rfl rfl rfl | exact .gsl 2 2 _ _ _ _  rfl rfl rfl | exact .mapv 2 2 _ _  rfl rfl rfl | exact .ptr 3 3 _ _ _  rfl rfl rfl | exact .msl 3 3 _ _ _ _  rfl rfl rfl | exact .gsl 3 3 _ _ _ _  rfl rfl rfl | exact .mapv 3 3 _ _  rfl rfl rfl | exact .ptr 4 4 _ _ _  rfl rfl rfl | exact .msl 4 4 _ _ _ _  rfl rfl rfl | exact .gsl 4 4 _ _ _ _  rfl rfl rfl | exact .mapv 4 4 _ _  rfl rfl rfl | exact .ptr 5 6 _ _ _  rfl rfl rfl | exact .msl 5 6 _ _ _ _  rfl rfl rfl | exact .gsl 5 6 _ _ _ _  rfl rfl rfl | exact .mapv 5 6 _ _  rfl rfl rfl | exact .ptr 6 5 _ _ _  rfl rfl rfl | exact .msl 6 5 _ _ _ _  rfl rfl rfl | exact .gsl 6 5 _ _ _ _  rfl rfl rfl | exact .mapv 6 5 _ _  rfl rfl rfl | refine .inr ⟨by simp, ?_⟩ | refine ⟨⟨_, rfl, ?_⟩, ?_⟩ | refine ⟨?_, ?_⟩)
    ·simp only [go_sem, hb0, hL, List.length_map, hJN, hc, hb1, hl, hb2, hmk2]
     try refine And.intro (by repeat' (first | refine And.intro ?_ ?_ | exact trivial | exact GOr_right (fun _ => by simp only [go_sem, hb0, hL, List.length_map, hJN, hc, hb1, hl, hb2, hmk2]))) ?_
     refine hR _ _ ?_
     try simp only [go_sem, hb0, hL, List.length_map, hJN, hc, hb1, hl, hb2, hmk2]
     exact Weak.eq (by first | rfl | (simp only [go_sem]; done) | (simp only [go_sem]; rfl)) (by first | rfl | (simp only [go_sem]; done))
    ·simp only [go_sem, hb0, hL, List.length_map, hJN, hc, hb1, hl, hb2, hmk2]
     try refine And.intro (by repeat' (first | refine And.intro ?_ ?_ | exact trivial | exact GOr_right (fun _ => by simp only [go_sem, hb0, hL, List.length_map, hJN, hc, hb1, hl, hb2, hmk2]))) ?_
     refine hR _ _ ?_
     try simp only [go_sem, hb0, hL, List.length_map, hJN, hc, hb1, hl, hb2, hmk2]
     try simp only [go_sem]
     refine Weak.ren [0, 1, 2, 4, 3] (by decide) (by simp) (by first | omega | (simp only [go_sem] <;> omega)) hcl (RnE.get ?_) ?_
     ·repeat' (first | exact trivial | (refine .same _ ?_; simp only [go_sem]; done) | (refine .same _ ?_; simp only [go_sem]; omega) | exact .ptr 0 0 _ _ _  rfl rfl rfl | exact .msl 0 0 _ _ _ _  rfl rfl rfl | exact .gsl 0 0 _ _ _ _  rfl rfl rfl | exact .mapv 0 0 _ _  rfl rfl rfl | exact .ptr 1 1 _ _ _  rfl rfl rfl | exact .msl 1 1 _ _ _ _  rfl rfl rfl | exact .gsl 1 1 _ _ _ _  rfl rfl rfl | exact .mapv 1 1 _ _  rfl rfl rfl | exact .ptr 2 2 _ _ _  rfl rfl rfl | exact .msl 2 2 _ _ _ _  rfl rfl rfl | exact .gsl 2 2 _ _ _ _  rfl rfl rfl | exact .mapv 2 2 _ _  rfl rfl rfl | exact .ptr 3 4 _ _ _  rfl rfl rfl | exact .msl 3 4 _ _ _ _  rfl rfl rfl | exact .gsl 3 4 _ _ _ _  rfl rfl rfl | exact .mapv 3 4 _ _  rfl rfl rfl | exact .ptr 4 3 _ _ _  rfl rfl rfl | exact .msl 4 3 _ _ _ _  rfl rfl rfl | exact .gsl 4 3 _ _ _ _  rfl rfl rfl | exact .mapv 4 3 _ _  rfl rfl rfl | refine .funcL ?_ | refine ⟨rfl, ?_, ?_⟩ | refine ⟨?_, ?_⟩)
     ·repeat' (first | exact trivial | (refine .inl ⟨?_, rfl⟩; simp only [go_sem]; done) | (refine .inl ⟨?_, rfl⟩; simp only [go_sem]; omega) | (refine .same _ ?_; simp only [go_sem]; done) | (refine .same _ ?_; simp only [go_sem]; omega) | exact .ptr 0 0 _ _ _  rfl rfl rfl | exact .msl 0 0 _ _ _ _  rfl rfl rfl | exact .gsl 0 0 _ _ _ _  rfl rfl rfl | exact .mapv 0 0 _ _  rfl rfl rfl | exact .ptr 1 1 _ _ _  rfl rfl rfl | exact .msl 1 1 _ _ _ _  rfl rfl rfl | exact .gsl 1 1 _ _ _ _  rfl rfl rfl | exact .mapv 1 1 _ _  rfl rfl rfl | exact .ptr 2 2 _ _ _  rfl rfl rfl | exact .msl 2 2 _ _ _ _  rfl rfl rfl | exact .gsl 2 2 _ _ _ _  rfl rfl rfl | exact .mapv 2 2 _ _  rfl rfl rfl | exact .ptr 3 4 _ _ _  rfl rfl rfl | exact .msl 3 4 _ _ _ _  rfl rfl rfl | exact .gsl 3 4 _ _ _ _  rfl rfl rfl | exact .mapv 3 4 _ _  rfl rfl rfl | exact .ptr 4 3 _ _ _  rfl rfl rfl | exact .msl 4 3 _ _ _ _  rfl rfl rfl | exact .gsl 4 3 _ _ _ _  rfl rfl rfl | exact .mapv 4 3 _ _  rfl rfl rfl | refine .inr ⟨by simp, ?_⟩ | refine ⟨⟨_, rfl, ?_⟩, ?_⟩ | refine ⟨?_, ?_⟩)
   ·try simp only [nrm] at c3
    have hre : RS.length = r := by first | omega | (simp at c3; omega)
    rw [← hRl, hre] at hwin
    obtain ⟨wn, hwn⟩ : ∃ z : Nat, WN = z := ⟨WN.toNat, by omega⟩
    subst hwn
    have hwI : (wn : Int) < (N : Int) := hwb.2
    have hgw := rowF_get (f := fun x => has (inS c L r) (x : Nat)) (show wn < N by omega)
    rw [has_iff.2 hwin] at hgw
    have hw0 : decide ((0 : Int) ≤ (wn : Int)) = true := decide_eq_true (by omega)
    have hwc : decide ((wn : Int) < c.songs) = true := decide_eq_true (by omega)
    refine W_exit ?_
    simp only [go_sem, hb0, hL, List.length_map, hJN, hc, hb1, hl, hb2, hwI, hgw, hw0, hwc, Nat.mul_one, Nat.zero_add]
    refine kq14 _ _ ?_
    refine W_seq fun kz53 kq53 => ?_
    refine W_region [2] fun R hR => ?_
    simp only [go_sem, hb0, hL, List.length_map, hJN, hc, hb1, hl, hb2, hwI, hgw, hw0, hwc, Nat.mul_one, Nat.zero_add, List.getElem?_map]
    refine GCall_of (PC.val (v' := I (wn : Int)) (Fit_pc Y _ (wn : Int) c.songs (by omega) (by omega) (by omega)) (by rw [fit_in (by omega)])) ?_
    simp only [go_sem, hb0, hL, List.length_map, hJN, hc, hb1, hl, hb2, hwI, hgw, hw0, hwc, Nat.mul_one, Nat.zero_add, List.getElem?_map]
    refine GCall_of (awake_pc Y _) ?_
    simp only [go_sem, hb0, hL, List.length_map, hJN, hc, hb1, hl, hb2, hwI, hgw, hw0, hwc, Nat.mul_one, Nat.zero_add, List.getElem?_map]
    refine hR _ _ (kq53 _ _ ?_); clear hR R; try clear kq53 kz53
    try simp only [go_sem, hb0, hL, List.length_map, hJN, hc, hb1, hl, hb2, hwI, hgw, hw0, hwc, Nat.mul_one, Nat.zero_add]
    refine W_ret ?_
    simp only [go_sem, hb0, hL, List.length_map, hJN, hc, hb1, hl, hb2, hwI, hgw, hw0, hwc, Nat.mul_one, Nat.zero_add]
    refine ⟨.inr (by trivial), ?_⟩
    first | refine Fin_same hcl rfl (Wk_eq ?_ (by simp only [go_sem])) | refine Fin_self hcl rfl (Wk_eq ?_ (by simp only [go_sem]))
    try simp only [go_sem]
    all_goals
     first | rfl | simp
theorem rdSongRulesArgs : All2 (fun t R => Rd Try.prog t R) Try.f3.params.toList [fun p => ∃ xs : List Int, p = ints xs ∧ intsSz xs] :=
 .cons rdInts .nil
set_option maxHeartbeats 4000000 in
theorem SongRules_walk : ∀ qs, AllR [fun p => ∃ xs : List Int, p = ints xs ∧ intsSz xs] qs → ∃ σ', PC Try.prog noY 3 qs Sg.zero (.bool true) σ' := by
 intro qs hq
 obtain ⟨px0, qs, rfl, ⟨x0, hx0, sx0⟩, hq⟩ := allR_cons hq
 obtain rfl := allR_nil hq
 subst hx0
 exact ⟨_, SongRules_pc noY _ x0 (by unfold intsSz at sx0; omega)⟩
theorem SongRules_lifted (os : Os) (started : os.Started) (H : Type) (enc : TypeId × Value → H) :
  ReturnsInHanded {} Try.checked os 3 .any (Rows.songRulesSpec.pre6 enc Try.prog Try.f3 Rows.songRulesRow.domain false) (Rows.songRulesSpec.post enc Try.prog Try.f3 false true false false) :=
 law_lifted (C := Try.checked) own started (by kernel_rfl) Try.func3 rfl laidOut (by kernel_rfl) rdSongRulesArgs rfl Try.underlying4
  (fun ds h => match ds, h with | [_], _ => rfl)
  (ChangeSpec.witness6 (enc := enc) (C := Try.checked) false ⟨#[], #[.slice none 0 0], []⟩ 8 (by kernel_rfl) (by kernel_rfl) (by kernel_rfl) (by kernel_rfl))
  SongRules_walk
theorem SongRules_holds : Rows.SongRulesSaid :=
 OpenClaim.holds_of_wide 3 Try.f3 rfl rfl rfl rfl rfl rfl rfl ⟨rfl, rfl, rfl, rfl, rfl⟩ rfl rfl rfl rfl rfl (by kernel_rfl) Try.func3 (by kernel_rfl)
  (of_decide_eq_true (by kernel_rfl)) (by unfold Func.isWrapper; first | (rw [if_pos (by decide +kernel)]; kernel_rfl) | (rw [if_neg (by decide +kernel)]; exact ⟨rfl, rfl⟩))
  (fun os started H enc _ => SongRules_lifted os started H enc)
end Go.Proofs.Ytnolifglhhjdnaa
