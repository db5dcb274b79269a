/-
  The law SongMore: whatever comes in, it answers true and leaves what came in as it was.
  The law SongMore, walked: a vote more.
  The law SongOrder, walked: ballots in any order.
  Walks: the chapter's examples checked (song).
-/
import Derived.Test.YtnolifglhhjdnaaPf
import Derived.CallsIn
import Derived.RangeFuncLeaves
import Derived.RangeFuncRecord
import Derived.OrdersIn
import Derived.Below
import Derived.Laws.World
import Derived.Laws.StructEq
import Derived.Laws.Append
import Derived.MapKept
import Derived.ProofKit
import Derived.Carry
import Derived.Handed
import Derived.ChangeCalls
import Derived.RangeFuncIn
import Derived.RangeFuncNested
import Derived.Test.YtnolifglhhjdnaaProg
import Derived.KernelRfl
import Derived.IntWalk
import Derived.Sort.OwnSortedInts
import Derived.Lib.SlicesCompact
import Derived.Test.YtnolifglhhjdnaaRows
import Derived.Shelf.Sort.Plain
import Derived.Shelf.Slices.In.SortNone
import Derived.Shelf.Small.Bits
import Derived.JoinedOf
set_option linter.unusedSimpArgs false
set_option linter.unusedVariables false
namespace Go.Proofs.Ytnolifglhhjdnaa
open Go Go.RowKit
set_option maxRecDepth 100000
def exC : Contest := ⟨3, 2, 3, 10, [⟨2, 1, 2⟩, ⟨1, 1, 3⟩]⟩
def exL : List Ballot := [⟨1, 0, 1, 0, 0, 7⟩, ⟨2, 0, 1, 0, 1, 9⟩, ⟨3, 0, 1, 1, 2, 8⟩, ⟨4, 0, 2, 0, 0, 0⟩, ⟨5, 0, 2, 0, 1, 0⟩, ⟨6, 0, 2, 1, 0, 0⟩, ⟨7, 1, 2, 0, 2, 0⟩, ⟨8, 1, 2, 0, 1, 0⟩, ⟨9, 1, 1, 1, 1, 4⟩, ⟨10, 1, 2, 1, 0, 0⟩]
def exD : Contest := ⟨2, 0, 3, 0, [⟨1, 0, 1⟩]⟩
def exK : List Ballot := [⟨1, 0, 2, 0, 0, 0⟩, ⟨2, 0, 2, 1, 0, 0⟩]
def exP : List (List Int) := [[0, 1, 2], [1, 0, 2], [1, 2, 0], [2, 0, 1], [2, 0, 1]]
def exT0 : Tally := countT ⟨2, 1, 2⟩ 0 [0, 1, 2] exL
def exT1 : Tally := countT ⟨1, 1, 3⟩ 1 [0, 1] exL
def exT2 : Tally := countT ⟨1, 0, 1⟩ 0 [0, 1] exK
theorem ex0 : resT exT0 = ⟨[0, 1, 2], [7, 9, 8], [2, 0, 0], [11, 9, 8], [0, 1]⟩ := by
  unfold resT keptS
  rw [sortI_isort]
  decide
theorem ex1 : resT exT1 = ⟨[0, 1], [0, 4], [1, 1], [3, 7], [1]⟩ := by
  unfold resT keptS
  rw [sortI_isort]
  decide
theorem exTs : roundsT exC exL = [exT0, exT1] := by
  have e : (resT (countT ⟨2, 1, 2⟩ ((0 : Nat) : Int) (toI 3) exL)).kept = [0, 1] := by
    have := congrArg Res.kept ex0
    exact this
  unfold roundsT
  simp only [exC, rdsT]
  rw [e]
  rfl
theorem exRun : runD exC exL = ([⟨[0, 1, 2], [7, 9, 8], [2, 0, 0], [11, 9, 8], [0, 1]⟩, ⟨[0, 1], [0, 4], [1, 1], [3, 7], [1]⟩], 1, 0) := by
  have h0 : chkBls exC exL = 0 := by decide
  unfold runD
  rw [if_neg (by rw [h0]; simp)]
  have h1 : resultsT exC exL = [⟨[0, 1, 2], [7, 9, 8], [2, 0, 0], [11, 9, 8], [0, 1]⟩, ⟨[0, 1], [0, 4], [1, 1], [3, 7], [1]⟩] := by
    unfold resultsT
    rw [exTs, List.map_cons, List.map_cons, List.map_nil, ex0, ex1]
  rw [h1]
  unfold winnerT
  rw [h1]
  rfl
theorem exMust0 : mustT exT2 exD 0 = true := by
  unfold mustT
  simp only [sortI_isort]
  decide
theorem exMust1 : mustT exT2 exD 1 = false := by
  unfold mustT
  simp only [sortI_isort]
  decide
theorem exMay1 : mayT exT2 exD 1 (freeT exT2 exD) = false := by decide
theorem exStays : staysD exD exK 0 = ([1, 2], 0) := by
  have h0 : chkBls exD exK = 0 := by decide
  have h1 : roundsT exD exK = [exT2] := rfl
  have h2 : inR 0 0 ((exD.rounds.length : Int) - 1) = true := by decide
  unfold staysD
  rw [if_neg (by rw [h0]; simp), if_neg (by rw [h2]; simp), h1]
  have e0 : staysV exT2 exD 0 = 1 := by unfold staysV; rw [if_neg (by decide), if_pos exMust0]
  have e1 : staysV exT2 exD 1 = 2 := by unfold staysV; rw [if_neg (by decide), if_neg (by rw [exMust1]; simp), if_neg (by rw [exMay1]; simp)]
  show ([staysV exT2 exD 0, staysV exT2 exD 1], (0 : Int)) = _
  rw [e0, e1]
theorem exRunoff : runoffA 3 exP = ([0, 2], 1, 0) := by decide
set_option maxHeartbeats 2000000 in
theorem contest_pc (Y : YEnv) (σ : Sg)  :
    PC Try.prog Y 40 [] σ (cnPV exC) (σ) := by
  refine PC_of_W Try.func40 rfl (by kernel_rfl) Try.ntmps40 (by simp) fun hcl hca => ?_
  refine W_seq fun kz1 kq1 => ?_
  refine W_region [0] fun R hR => ?_   -- r0
  simp only [go_sem]
  refine hR _ _ (kq1 _ _ ?_); clear hR R; try clear kq1 kz1
  try simp only [go_sem]
  refine W_seq fun kz2 kq2 => ?_
  refine W_region [0] fun R hR => ?_   -- r1
  simp only [go_sem]
  refine hR _ _ (kq2 _ _ ?_); clear hR R; try clear kq2 kz2
  try simp only [go_sem]
  refine W_ret ?_
  simp only [go_sem]
  refine ⟨.inr (by trivial), ?_⟩
  refine Fin_same hcl (by show resPV Try.prog _ _ [.cell 0 27] = some _; simp only [resPV, go_sem]; rfl) (Wk.ro (by simp only [go_sem, exC, List.map_cons, List.map_nil]) ?_)
  try simp only [go_sem]
  all_goals
    simp only [go_sem, exC, List.map_cons, List.map_nil]; first | done | rfl
set_option maxHeartbeats 2000000 in
theorem ballots_pc (Y : YEnv) (σ : Sg)  :
    PC Try.prog Y 41 [] σ (bls exL) (σ) := by
  refine PC_of_W Try.func41 rfl (by kernel_rfl) Try.ntmps41 (by simp) fun hcl hca => ?_
  refine W_seq fun kz1 kq1 => ?_
  refine W_region [] fun R hR => ?_   -- r0
  simp only [go_sem]
  refine hR _ _ (kq1 _ _ ?_); clear hR R; try clear kq1 kz1
  try simp only [go_sem]
  refine W_seq fun kz2 kq2 => ?_
  refine W_region [0] fun R hR => ?_   -- r1
  simp only [go_sem]
  refine hR _ _ (kq2 _ _ ?_); clear hR R; try clear kq2 kz2
  try simp only [go_sem]
  refine W_ret ?_
  simp only [go_sem]
  refine ⟨.inr (by trivial), ?_⟩
  refine Fin_self hcl rfl (Wk.ro (by simp only [go_sem, exL, List.map_cons, List.map_nil]) ?_)
  try simp only [go_sem]
  all_goals
    simp only [go_sem, exL, List.map_cons, List.map_nil]; first | done | rfl
set_option maxHeartbeats 2000000 in
theorem duel_pc (Y : YEnv) (σ : Sg)  :
    PC Try.prog Y 42 [] σ (cnPV exD) (σ) := by
  refine PC_of_W Try.func42 rfl (by kernel_rfl) Try.ntmps42 (by simp) fun hcl hca => ?_
  refine W_seq fun kz1 kq1 => ?_
  refine W_region [0] fun R hR => ?_   -- r0
  simp only [go_sem]
  refine hR _ _ (kq1 _ _ ?_); clear hR R; try clear kq1 kz1
  try simp only [go_sem]
  refine W_seq fun kz2 kq2 => ?_
  refine W_region [0] fun R hR => ?_   -- r1
  simp only [go_sem]
  refine hR _ _ (kq2 _ _ ?_); clear hR R; try clear kq2 kz2
  try simp only [go_sem]
  refine W_ret ?_
  simp only [go_sem]
  refine ⟨.inr (by trivial), ?_⟩
  refine Fin_same hcl (by show resPV Try.prog _ _ [.cell 0 27] = some _; simp only [resPV, go_sem]; rfl) (Wk.ro (by simp only [go_sem, exD, List.map_cons, List.map_nil]) ?_)
  try simp only [go_sem]
  all_goals
    simp only [go_sem, exD, List.map_cons, List.map_nil]; first | done | rfl
set_option maxHeartbeats 2000000 in
theorem votes_pc (Y : YEnv) (σ : Sg)  :
    PC Try.prog Y 43 [] σ (bls exK) (σ) := by
  refine PC_of_W Try.func43 rfl (by kernel_rfl) Try.ntmps43 (by simp) fun hcl hca => ?_
  refine W_seq fun kz1 kq1 => ?_
  refine W_region [] fun R hR => ?_   -- r0
  simp only [go_sem]
  refine hR _ _ (kq1 _ _ ?_); clear hR R; try clear kq1 kz1
  try simp only [go_sem]
  refine W_seq fun kz2 kq2 => ?_
  refine W_region [0] fun R hR => ?_   -- r1
  simp only [go_sem]
  refine hR _ _ (kq2 _ _ ?_); clear hR R; try clear kq2 kz2
  try simp only [go_sem]
  refine W_ret ?_
  simp only [go_sem]
  refine ⟨.inr (by trivial), ?_⟩
  refine Fin_self hcl rfl (Wk.ro (by simp only [go_sem, exK, List.map_cons, List.map_nil]) ?_)
  try simp only [go_sem]
  all_goals
    simp only [go_sem, exK, List.map_cons, List.map_nil]; first | done | rfl
set_option maxHeartbeats 2000000 in
theorem prefs_pc (Y : YEnv) (σ : Sg)  :
    PC Try.prog Y 44 [] σ (lls exP) (σ) := by
  refine PC_of_W Try.func44 rfl (by kernel_rfl) Try.ntmps44 (by simp) fun hcl hca => ?_
  refine W_seq fun kz1 kq1 => ?_
  refine W_region [] fun R hR => ?_   -- r0
  simp only [go_sem]
  refine hR _ _ (kq1 _ _ ?_); clear hR R; try clear kq1 kz1
  try simp only [go_sem]
  refine W_seq fun kz2 kq2 => ?_
  refine W_region [0] fun R hR => ?_   -- r1
  simp only [go_sem]
  refine hR _ _ (kq2 _ _ ?_); clear hR R; try clear kq2 kz2
  try simp only [go_sem]
  refine W_ret ?_
  simp only [go_sem]
  refine ⟨.inr (by trivial), ?_⟩
  refine Fin_self hcl rfl (Wk.ro (by simp only [go_sem, exP, llPV, List.map_cons, List.map_nil]) ?_)
  try simp only [go_sem]
  all_goals
    simp only [go_sem, exP, llPV, List.map_cons, List.map_nil]; first | done | rfl
set_option maxHeartbeats 4000000 in
theorem awake_pc (Y : YEnv) (σ : Sg)  :
    PC Try.prog Y 18 [] σ (.bool true) (σ) := by
  refine PC_of_W Try.func18 rfl (by kernel_rfl) Try.ntmps18 (by simp) fun hcl hca => ?_
  refine W_seq fun kz1 kq1 => ?_
  refine W_region [] fun R hR => ?_   -- r0
  simp only [go_sem, List.map_cons, List.map_nil]
  refine hR _ _ (kq1 _ _ ?_); clear hR R; try clear kq1 kz1
  try simp only [go_sem, List.map_cons, List.map_nil]
  refine W_seq fun kz2 kq2 => ?_
  refine W_region [1, 2, 3] fun R hR => ?_   -- r1
  simp only [go_sem, List.map_cons, List.map_nil]
  refine GCall_of (contest_pc Y _) ?_   -- t10
  simp only [go_sem, List.map_cons, List.map_nil]
  refine GCall_of (ballots_pc Y _) ?_   -- t11
  simp only [go_sem, List.map_cons, List.map_nil]
  refine GCall_of (PC.val (v' := .tuple [rss [⟨[0, 1, 2], [7, 9, 8], [2, 0, 0], [11, 9, 8], [0, 1]⟩, ⟨[0, 1], [0, 4], [1, 1], [3, 7], [1]⟩], I 1, I 0]) (Run_pc Y _ exC exL (by decide) (by decide)) (by rw [exRun])) ?_   -- t12
  simp only [go_sem, List.map_cons, List.map_nil]
  refine hR _ _ (kq2 _ _ ?_); clear hR R; try clear kq2 kz2
  try simp only [go_sem, List.map_cons, List.map_nil]
  refine W_seq fun kz3 kq3 => ?_
  refine W_region [1, 2, 3, 4, 5] fun R hR => ?_   -- r2
  simp only [go_sem, List.map_cons, List.map_nil]
  refine GCall_of (duel_pc Y _) ?_   -- t17
  simp only [go_sem, List.map_cons, List.map_nil]
  refine GCall_of (votes_pc Y _) ?_   -- t18
  simp only [go_sem, List.map_cons, List.map_nil]
  refine GCall_of (PC.val (v' := .tuple [ints [1, 2], I 0]) (Stays_pc Y _ exD exK 0 (by decide) (by decide)) (by rw [exStays])) ?_   -- t19
  simp only [go_sem, List.map_cons, List.map_nil]
  refine hR _ _ (kq3 _ _ ?_); clear hR R; try clear kq3 kz3
  try simp only [go_sem, List.map_cons, List.map_nil]
  refine W_seq fun kz4 kq4 => ?_
  refine W_region [1, 2, 3, 4, 5, 6, 7, 8] fun R hR => ?_   -- r3
  simp only [go_sem, List.map_cons, List.map_nil]
  refine GCall_of (prefs_pc Y _) ?_   -- t23
  simp only [go_sem, List.map_cons, List.map_nil]
  refine GCall_of (PC.val (v' := .tuple [ints [0, 2], I 1, I 0]) (Runoff_pc Y _ 3 exP (by decide) (by decide)) (by rw [exRunoff])) ?_   -- t24
  simp only [go_sem, List.map_cons, List.map_nil]
  refine hR _ _ (kq4 _ _ ?_); clear hR R; try clear kq4 kz4
  try simp only [go_sem, List.map_cons, List.map_nil]
  refine W_seq fun kz5 kq5 => ?_
  refine W_region [0] fun R hR => ?_   -- r4
  simp only [go_sem, List.map_cons, List.map_nil, iaX0 (c := 5) (p := .agg [ints [0, 1, 2], ints [7, 9, 8], ints [2, 0, 0], ints [11, 9, 8], ints [0, 1]]) rfl, elS0]
  refine GCall_of (PC.val (v' := .bool true) (EqInts_pc Y _ [11, 9, 8] [11, 9, 8] .ro .exact (by decide)) (by rfl)) ?_   -- t53
  simp only [go_sem, List.map_cons, List.map_nil, iaX0 (c := 5) (p := .agg [ints [0, 1, 2], ints [7, 9, 8], ints [2, 0, 0], ints [11, 9, 8], ints [0, 1]]) rfl, elS0]
  refine GCall_of (PC.val (v' := .bool true) (EqInts_pc Y _ [1, 2] [1, 2] .ro .exact (by decide)) (by rfl)) ?_   -- t58
  simp only [go_sem, List.map_cons, List.map_nil, iaX0 (c := 5) (p := .agg [ints [0, 1, 2], ints [7, 9, 8], ints [2, 0, 0], ints [11, 9, 8], ints [0, 1]]) rfl, elS0]
  refine GCall_of (PC.val (v' := .bool true) (EqInts_pc Y _ [0, 2] [0, 2] .ro .exact (by decide)) (by rfl)) ?_   -- t67
  simp only [go_sem, List.map_cons, List.map_nil, iaX0 (c := 5) (p := .agg [ints [0, 1, 2], ints [7, 9, 8], ints [2, 0, 0], ints [11, 9, 8], ints [0, 1]]) rfl, elS0]
  refine hR _ _ (kq5 _ _ ?_); clear hR R; try clear kq5 kz5
  try simp only [go_sem, List.map_cons, List.map_nil]
  refine W_ret ?_
  simp only [go_sem, List.map_cons, List.map_nil]
  refine ⟨.inr (by trivial), ?_⟩
  first | refine Fin_same hcl rfl (Wk_eq ?_ (by simp only [go_sem])) | refine Fin_self hcl rfl (Wk_eq ?_ (by simp only [go_sem]))
  try simp only [go_sem]
  all_goals
    first | rfl | (simp_all; done) | (simp_all; omega)
end Go.Proofs.Ytnolifglhhjdnaa
namespace Go.Proofs.Ytnolifglhhjdnaa
open Go Go.RowKit
set_option maxRecDepth 100000
def pick (l : List Ballot) (k : Int) : Ballot := (l[k.toNat]?).getD ⟨0, 0, 0, 0, 0, 0⟩
theorem res_small {t : Tally} (h : TlB t) : rsSmall (resT t) := by
  have h1 := h.sl
  have h2 := resT_klen h.kp.2
  have h3 := h.kp
  refine ⟨?_, ?_, ?_, ?_, ?_⟩
  · show t.songs.length < _; omega
  · show ((allT t).map _).length < _; rw [List.length_map, allT_len]; omega
  · show ((allT t).map _).length < _; rw [List.length_map, allT_len]; omega
  · show ((allT t).map _).length < _; rw [List.length_map, allT_len]; omega
  · rw [h2]; omega
/-- What a valid contest gives. -/
theorem run_ok {c : Contest} {l : List Ballot} (h : chkBls c l = 0) : runD c l = (resultsT c l, winnerT c l, 0) ∧ (∀ x, x ∈ resultsT c l → rsSmall x) ∧ (resultsT c l).length = c.rounds.length := by
  obtain ⟨hV, hl, hb, hn⟩ := blsV_of h
  refine ⟨by unfold runD; rw [if_neg (by simp [h])], fun x hx => ?_, by unfold resultsT; rw [List.length_map]; exact rdsT_len⟩
  obtain ⟨t, ht, rfl⟩ := List.mem_map.1 hx
  exact res_small (roundsT_b hV hl hb t ht)
theorem counts_ok {c : Contest} {l : List Ballot} (h : chkBls c l = 0) : countsD c l = (l.map (cntL c l), 0) := by
  obtain ⟨hV, hl, hb, hn⟩ := blsV_of h
  unfold countsD
  rw [if_neg (by simp [h]), counts_map hn fun b hb' => (hb b hb').rd.1]
end Go.Proofs.Ytnolifglhhjdnaa
namespace Go.Proofs.Ytnolifglhhjdnaa
open Go Go.RowKit
set_option maxRecDepth 100000
set_option maxHeartbeats 8000000 in
theorem SongMore_pc (Y : YEnv) (σ : Sg) (nums : List Int) (hn : nums.length < 2 ^ 60) :
    PC Try.prog Y 7 [ints nums] σ (.bool true) (σ) := by
  refine PC_of_W Try.func7 rfl (by kernel_rfl) Try.ntmps7 (by simp) fun hcl hca => ?_
  obtain ⟨b0, hb0⟩ : ∃ z, drumB nums 2685821657736338717 = z := ⟨_, rfl⟩
  obtain ⟨c, hc⟩ : ∃ zz, (contestD 4 2 9 b0).1 = zz := ⟨_, rfl⟩
  obtain ⟨b1, hb1⟩ : ∃ zz, (contestD 4 2 9 b0).2 = zz := ⟨_, rfl⟩
  have dc := contestD_ok (songs := 4) (juries := 2) (members := 9) (by omega) (by omega) (by omega) b0
  simp only [hc] at dc
  obtain ⟨l, hl⟩ : ∃ zz, (ballotsD c 20 b1).1 = zz := ⟨_, rfl⟩
  obtain ⟨b2, hb2⟩ : ∃ zz, (ballotsD c 20 b1).2 = zz := ⟨_, rfl⟩
  have dl := ballotsD_ok dc (most := 20) (by omega) b1
  simp only [hl] at dl
  obtain ⟨mr, hmr⟩ : ∃ zz, (ballotsD c 8 b2).1 = zz := ⟨_, rfl⟩
  obtain ⟨b3, hb3⟩ : ∃ zz, (ballotsD c 8 b2).2 = zz := ⟨_, rfl⟩
  have dmr := ballotsD_ok dc (most := 8) (by omega) b2
  simp only [hmr] at dmr
  obtain ⟨dl1, dl2, dl3, dl4⟩ := dl
  have hll : l.length ≤ 20 := by omega
  have hrl := dc.rl
  have hsg := dc.sg
  have hck := chkBls_of dc.ok (by omega) dl2 dl3
  obtain ⟨hr0, hRs, hRl⟩ := run_ok hck
  obtain ⟨RS, hRS⟩ : ∃ z, resultsT c l = z := ⟨_, rfl⟩
  obtain ⟨WN, hWN⟩ : ∃ z, winnerT c l = z := ⟨_, rfl⟩
  obtain ⟨N, hN⟩ : ∃ z : Nat, c.songs = z := ⟨c.songs.toNat, by omega⟩
  refine W_seq fun kz1 kq1 => ?_
  refine W_region [0] fun R hR => ?_   -- r0
  simp only [go_sem, hb0, List.length_map, hc, hb1, hl, hb2, hmr, hb3]
  refine hR _ _ (kq1 _ _ ?_); clear hR R; try clear kq1 kz1
  try simp only [go_sem, hb0, List.length_map, hc, hb1, hl, hb2, hmr, hb3]
  refine W_seq fun kz2 kq2 => ?_
  refine W_region [3] fun R hR => ?_   -- r1
  simp only [go_sem, hb0, List.length_map, hc, hb1, hl, hb2, hmr, hb3]
  refine GCall_of (DrumOf_pc Y _ nums hn) ?_   -- t23
  simp only [go_sem, hb0, List.length_map, hc, hb1, hl, hb2, hmr, hb3]
  refine hR _ _ (kq2 _ _ ?_); clear hR R; try clear kq2 kz2
  try simp only [go_sem, hb0, List.length_map, hc, hb1, hl, hb2, hmr, hb3]
  refine W_seq fun kz3 kq3 => ?_
  refine W_region [3, 4] fun R hR => ?_   -- r2
  simp only [go_sem, hb0, List.length_map, hc, hb1, hl, hb2, hmr, hb3]
  refine GCall_of (ContestOf_pc Y _ _ b0 (Sg.get_ext0 ..) 4 2 9 (by omega) (by omega) (by omega)) ?_   -- t25
  simp only [go_sem, hb0, List.length_map, hc, hb1, hl, hb2, hmr, hb3]
  refine hR _ _ (kq3 _ _ ?_); clear hR R; try clear kq3 kz3
  try simp only [go_sem, hb0, List.length_map, hc, hb1, hl, hb2, hmr, hb3]
  refine W_seq fun kz4 kq4 => ?_
  refine W_region [3, 4, 5] fun R hR => ?_   -- r3
  simp only [go_sem, hb0, List.length_map, hc, hb1, hl, hb2, hmr, hb3]
  refine GCall_of (BallotsOf_pc Y _ _ b1 (Sg.get_ext0 ..) c 4 2 9 20 dc (by omega) (by omega)) ?_   -- t28
  simp only [go_sem, hb0, List.length_map, hc, hb1, hl, hb2, hmr, hb3]
  refine hR _ _ (kq4 _ _ ?_); clear hR R; try clear kq4 kz4
  try simp only [go_sem, hb0, List.length_map, hc, hb1, hl, hb2, hmr, hb3]
  refine W_seq fun kz5 kq5 => ?_
  refine W_region [4, 5, 6] fun R hR => ?_   -- r4
  simp only [go_sem, hb0, List.length_map, hc, hb1, hl, hb2, hmr, hb3]
  refine GCall_of (BallotsOf_pc Y _ _ b2 (Sg.get_ext0 ..) c 4 2 9 8 dc (by omega) (by omega)) ?_   -- t31
  simp only [go_sem, hb0, List.length_map, hc, hb1, hl, hb2, hmr, hb3]
  refine hR _ _ (kq5 _ _ ?_); clear hR R; try clear kq5 kz5
  try simp only [go_sem, hb0, List.length_map, hc, hb1, hl, hb2, hmr, hb3]
  refine W_seq fun kz6 kq6 => ?_
  refine W_seq fun kz7 kq7 => ?_
  refine W_region [4, 5, 6, 34] fun R hR => ?_   -- r5
  simp only [go_sem, hb0, List.length_map, hc, hb1, hl, hb2, hmr, hb3]
  refine hR _ _ (kq7 _ _ ?_); clear hR R; try clear kq7 kz7
  try simp only [go_sem, hb0, List.length_map, hc, hb1, hl, hb2, hmr, hb3]
  refine W_cond rfl (fun c1 => ?_) (fun c1 => ?_)
  · -- c1 true
    try simp only [nrm] at c1
    refine W_seq fun kz8 kq8 => ?_
    refine W_region [2] fun R hR => ?_   -- r6
    simp only [go_sem, hb0, List.length_map, hc, hb1, hl, hb2, hmr, hb3]
    refine GCall_of (awake_pc Y _) ?_   -- t35
    simp only [go_sem, hb0, List.length_map, hc, hb1, hl, hb2, hmr, hb3]
    refine hR _ _ (kq8 _ _ ?_); clear hR R; try clear kq8 kz8
    try simp only [go_sem, hb0, List.length_map, hc, hb1, hl, hb2, hmr, hb3]
    refine W_ret ?_
    simp only [go_sem, hb0, List.length_map, hc, hb1, hl, hb2, hmr, hb3]
    refine ⟨.inr (by trivial), ?_⟩
    first | refine Fin_same hcl rfl (Wk_eq ?_ (by simp only [go_sem])) | refine Fin_self hcl rfl (Wk_eq ?_ (by simp only [go_sem]))
    try simp only [go_sem]
    all_goals
      first | rfl | simp
  · -- c1 false
    try simp only [nrm] at c1
    obtain ⟨z0, zt, hz⟩ : ∃ a b, mr = a :: b := by
      cases h : mr with
      | nil => rw [h] at c1; simp at c1
      | cons a b => exact ⟨a, b, rfl⟩
    have hm0 : mr[0]? = some z0 := by rw [hz]; rfl
    have hvz := dmr.2.1 z0 (List.mem_of_getElem? hm0)
    obtain ⟨bb, hbb⟩ : ∃ z : Ballot, ⟨1000000000, z0.round, z0.kind, z0.voter, z0.song, z0.points⟩ = z := ⟨_, rfl⟩
    have hvb : BlV c bb := by rw [← hbb]; exact ⟨by simp, hvz.rd, hvz.kd, hvz.vt, hvz.sg, hvz.pt⟩
    obtain ⟨kk, hkk⟩ : ∃ z : Nat, bb.round = z := ⟨bb.round.toNat, by have := hvb.rd; omega⟩
    have hbr : z0.round = (kk : Int) := by rw [← hkk, ← hbb]
    have hbs : z0.song = bb.song := by rw [← hbb]
    obtain ⟨hck2, hm1, hm2, V, W, hv0, hw0, hVl, hWl, hVW⟩ := more_ok hck hvb (fun x hx => by have := dl4 x hx; rw [← hbb]; simp only; omega) (by omega)
    obtain ⟨hr1, hTs, hTl⟩ := run_ok hck2
    have hc1 := counts_ok hck2
    obtain ⟨wb, hwb⟩ : ∃ z, l ++ [bb] = z := ⟨_, rfl⟩
    have hwl : wb.length = l.length + 1 := by rw [← hwb]; simp
    have htwm : l.map blPV ++ [.agg [I 1000000000, I kk, I z0.kind, I z0.voter, I bb.song, I z0.points]] = wb.map blPV := by rw [← hwb, ← hkk, ← hbb]; simp [blPV, blCells]
    rw [hwb] at hck2 hm1 hm2 hw0 hr1 hTs hTl hc1
    obtain ⟨RT, hRT⟩ : ∃ z, resultsT c wb = z := ⟨_, rfl⟩
    obtain ⟨WM, hWM⟩ : ∃ z, winnerT c wb = z := ⟨_, rfl⟩
    rw [hr0, hr1] at hm1
    rw [hRS, hRT] at hm1 hm2
    rw [hWN, hWM] at hm1
    rw [hRS, hWN] at hr0
    rw [hRT, hWM] at hr1
    rw [hRS] at hRs hRl
    rw [hRT] at hTs hTl
    rw [hN, Int.toNat_natCast] at hVl hWl
    have hVl2 : (V.length : Int) = c.songs := by omega
    have hWl2 : (W.length : Int) = c.songs := by omega
    obtain ⟨QL, hQL⟩ : ∃ z, wb.map (cntL c wb) = z := ⟨_, rfl⟩
    have hQl : QL.length = wb.length := by rw [← hQL]; simp
    have hqi : QL[l.length]? = some (cntL c wb bb) := by rw [← hQL, List.getElem?_map, ← hwb]; simp
    have hql : (l.length : Int) < (QL.length : Int) := by omega
    rw [hQL] at hc1
    have hkr := hvb.rd
    have hkk0 : (0 : Int) ≤ (kk : Int) := by omega
    obtain ⟨rx, hrx⟩ : ∃ z, RS[kk]? = some z := ⟨RS[kk]'(by omega), by simp⟩
    obtain ⟨ry, hry⟩ : ∃ z, RT[kk]? = some z := ⟨RT[kk]'(by omega), by simp⟩
    have hkl : (kk : Int) < (RS.length : Int) := by omega
    have hkl2 : (kk : Int) < (RT.length : Int) := by omega
    have hrxs := hRs rx (List.mem_of_getElem? hrx)
    have hrys := hTs ry (List.mem_of_getElem? hry)
    obtain ⟨_, _, _, _, hrx5⟩ := hrxs
    obtain ⟨_, _, _, _, hry5⟩ := hrys
    rw [hkk, Int.toNat_natCast] at hm2
    rw [hkk] at hv0 hw0
    obtain ⟨fb, hfb⟩ : ∃ z, cntL c wb bb = z := ⟨_, rfl⟩
    rw [hfb] at hqi hm1 hm2
    refine W_skip (kq6 _ _ ?_)
    refine W_seq fun kz9 kq9 => ?_
    refine W_region [4, 5, 7] fun R hR => ?_   -- r7
    simp only [go_sem, hb0, List.length_map, hc, hb1, hl, hb2, hmr, hb3, hbr, hbs, Int.toNat_zero, Int.le_refl, if_true, hm0]
    refine hR _ _ (kq9 _ _ ?_); clear hR R; try clear kq9 kz9
    try simp only [go_sem, hb0, List.length_map, hc, hb1, hl, hb2, hmr, hb3, hbr, hbs]
    refine W_seq fun kz10 kq10 => ?_
    refine W_region [4, 5, 7] fun R hR => ?_   -- r8
    simp only [go_sem, hb0, List.length_map, hc, hb1, hl, hb2, hmr, hb3, hbr, hbs]
    refine hR _ _ (kq10 _ _ ?_); clear hR R; try clear kq10 kz10
    try simp only [go_sem, hb0, List.length_map, hc, hb1, hl, hb2, hmr, hb3, hbr, hbs]
    refine W_seq fun kz11 kq11 => ?_
    refine W_draw [4, 5, 7, 8] [0, 1, 2, 3, 4, 5] [(2, 1), (3, 1)] [[], [0], [], [2], [0, 1, 2, 3], [0, 1, 2, 3, 4]] mixed (by kernel_rfl) fun R hR => ?_   -- r9
    simp only [go_sem, hb0, List.length_map, hc, hb1, hl, hb2, hmr, hb3, hbr, hbs]
    refine GCall_of (OwnBallots_pc Y _ l .ro (by omega)) ?_   -- t41
    simp only [go_sem, hb0, List.length_map, hc, hb1, hl, hb2, hmr, hb3, hbr, hbs]
    try simp (disch := first | omega | (simp only [go_sem] <;> omega)) only [wrapI, wrapU, appX_exact, appX_tok]
    try simp only [go_sem, hb0, List.length_map, hc, hb1, hl, hb2, hmr, hb3, hbr, hbs]
    try refine And.intro (by repeat' (first | refine And.intro ?_ ?_ | exact trivial | exact GOr_right (fun _ => by simp only [go_sem, hb0, List.length_map, hc, hb1, hl, hb2, hmr, hb3, hbr, hbs]))) ?_
    refine hR _ _ (kq11 _ _ ?_); clear hR R; try clear kq11 kz11
    try simp only [go_sem, hb0, List.length_map, hc, hb1, hl, hb2, hmr, hb3, hbr, hbs]
    refine W_seq fun kz12 kq12 => ?_
    refine W_weak (Weak.ro 8) ?_
    simp only [go_sem]
    try simp only [htwm]
    refine W_region [4, 5, 7, 8, 9, 10] fun R hR => ?_   -- r10
    simp only [go_sem, hb0, List.length_map, hc, hb1, hl, hb2, hmr, hb3, hbr, hbs]
    refine GCall_of (PC.val (v' := .tuple [.isl (QL.map PV.bool) .ro, I 0]) (Counts_pc Y _ c wb (by omega) (by omega)) (by rw [hc1])) ?_   -- t48
    simp only [go_sem, hb0, List.length_map, hc, hb1, hl, hb2, hmr, hb3, hbr, hbs]
    refine hR _ _ (kq12 _ _ ?_); clear hR R; try clear kq12 kz12
    try simp only [go_sem, hb0, List.length_map, hc, hb1, hl, hb2, hmr, hb3, hbr, hbs]
    refine W_seq fun kz13 kq13 => ?_
    refine W_region [4, 5, 7, 8, 9, 10, 11, 13] fun R hR => ?_   -- r11
    simp only [go_sem, hb0, List.length_map, hc, hb1, hl, hb2, hmr, hb3, hbr, hbs]
    refine GCall_of (PC.val (v' := .tuple [rss RS, I WN, I 0]) (Run_pc Y _ c l (by omega) (by omega)) (by rw [hr0])) ?_   -- t54
    simp only [go_sem, hb0, List.length_map, hc, hb1, hl, hb2, hmr, hb3, hbr, hbs]
    refine hR _ _ (kq13 _ _ ?_); clear hR R; try clear kq13 kz13
    try simp only [go_sem, hb0, List.length_map, hc, hb1, hl, hb2, hmr, hb3, hbr, hbs]
    refine W_seq fun kz14 kq14 => ?_
    refine W_region [4, 5, 7, 8, 9, 10, 11, 13, 14, 16] fun R hR => ?_   -- r12
    simp only [go_sem, hb0, List.length_map, hc, hb1, hl, hb2, hmr, hb3, hbr, hbs]
    refine GCall_of (PC.val (v' := .tuple [rss RT, I WM, I 0]) (Run_pc Y _ c wb (by omega) (by omega)) (by rw [hr1])) ?_   -- t61
    simp only [go_sem, hb0, List.length_map, hc, hb1, hl, hb2, hmr, hb3, hbr, hbs]
    refine hR _ _ (kq14 _ _ ?_); clear hR R; try clear kq14 kz14
    try simp only [go_sem, hb0, List.length_map, hc, hb1, hl, hb2, hmr, hb3, hbr, hbs]
    refine W_seq fun kz15 kq15 => ?_
    refine W_region [4, 5, 7, 8, 9, 10, 11, 13, 14, 16, 17, 18] fun R hR => ?_   -- r13
    simp only [go_sem, hb0, List.length_map, hc, hb1, hl, hb2, hmr, hb3, hbr, hbs]
    refine GCall_of (PC.val (v' := .tuple [ints V, I 0]) (Stays_pc Y _ c l kk (by omega) (by omega)) (by rw [hv0])) ?_   -- t70
    simp only [go_sem, hb0, List.length_map, hc, hb1, hl, hb2, hmr, hb3, hbr, hbs]
    refine hR _ _ (kq15 _ _ ?_); clear hR R; try clear kq15 kz15
    try simp only [go_sem, hb0, List.length_map, hc, hb1, hl, hb2, hmr, hb3, hbr, hbs]
    refine W_seq fun kz16 kq16 => ?_
    refine W_region [4, 5, 7, 8, 9, 10, 11, 13, 14, 16, 17, 18, 19, 20] fun R hR => ?_   -- r14
    simp only [go_sem, hb0, List.length_map, hc, hb1, hl, hb2, hmr, hb3, hbr, hbs]
    refine GCall_of (PC.val (v' := .tuple [ints W, I 0]) (Stays_pc Y _ c wb kk (by omega) (by omega)) (by rw [hw0])) ?_   -- t78
    simp only [go_sem, hb0, List.length_map, hc, hb1, hl, hb2, hmr, hb3, hbr, hbs]
    refine hR _ _ (kq16 _ _ ?_); clear hR R; try clear kq16 kz16
    try simp only [go_sem, hb0, List.length_map, hc, hb1, hl, hb2, hmr, hb3, hbr, hbs]
    refine W_seq fun kz17 kq17 => ?_
    refine W_seq fun kz18 kq18 => ?_
    refine W_regionJ [4, 5, 7, 9, 11, 14, 17, 19, 135] [(135, .bool false)] ?_ fun R hR => ?_   -- r15
    · refine kq18 _ _ ?_
      simp only [go_sem, hb0, List.length_map, hc, hb1, hl, hb2, hmr, hb3, hbr, hbs]
      refine W_cond rfl (fun c2 => ?_) (fun c2 => ?_)
      · -- c2 true
        try simp only [nrm] at c2
        exfalso
        first | contradiction | (simp at c2)
      · -- c2 false
        try simp only [nrm] at c2
        refine W_skip (kq17 _ _ ?_)
        refine W_seq fun kz19 kq19 => ?_
        refine W_seq fun kz20 kq20 => ?_
        refine W_region [4, 5, 7, 9, 11, 14, 17, 19, 21] fun R hR => ?_   -- r17
        simp only [go_sem, hb0, List.length_map, hc, hb1, hl, hb2, hmr, hb3, hbr, hbs]
        refine hR _ _ (kq20 _ _ ?_); clear hR R; try clear kq20 kz20
        try simp only [go_sem, hb0, List.length_map, hc, hb1, hl, hb2, hmr, hb3, hbr, hbs]
        refine W_block ?_
        refine W_loopS (α := Nat) (fun (i : Nat) => [(21, I i)]) (fun (i : Nat) => i ≤ N) (fun (i : Nat) => N - i) (0) rfl (Nat.zero_le _) ?_
        rintro i hi
        refine W_seq fun kz21 kq21 => ?_
        refine W_seq fun kz22 kq22 => ?_
        refine W_region [4, 5, 7, 9, 11, 14, 17, 19, 21, 139] fun R hR => ?_   -- r18
        simp only [go_sem, hb0, List.length_map, hc, hb1, hl, hb2, hmr, hb3, hbr, hbs]
        refine hR _ _ (kq22 _ _ ?_); clear hR R; try clear kq22 kz22
        try simp only [go_sem, hb0, List.length_map, hc, hb1, hl, hb2, hmr, hb3, hbr, hbs]
        refine W_cond rfl (fun c3 => ?_) (fun c3 => ?_)
        · -- c3 true
          try simp only [nrm] at c3
          have hi' : i < N := by first | omega | (simp at c3; omega)
          obtain ⟨vv, hvv⟩ : ∃ z, V[i]? = some z := ⟨V[i]'(by omega), by simp⟩
          obtain ⟨ww, hww⟩ : ∃ z, W[i]? = some z := ⟨W[i]'(by omega), by simp⟩
          have hiv : (i : Int) < (V.length : Int) := by omega
          have hiw : (i : Int) < (W.length : Int) := by omega
          have hvw := hVW i vv ww hvv hww
          refine W_skip (kq21 _ _ ?_)
          refine W_seq fun kz23 kq23 => ?_
          refine W_block ?_
          refine W_seq fun kz24 kq24 => ?_
          refine W_drawJ [4, 5, 7, 9, 11, 14, 17, 19, 21, 157] [(157, .bool false)] [0, 1, 2, 3, 4, 5, 6, 7, 8, 9, 10, 11, 12, 13, 14, 15] [] [[], [], [0, 1], [0, 1, 2], [0, 1, 2, 3], [0, 1, 2, 3, 4], [0, 1, 2, 3, 4, 5], [0, 1, 2, 3, 4, 5], [0, 1, 2, 3, 4, 5, 6, 7], [0, 1, 2, 3, 4, 5, 6, 7, 8], [0, 1, 2, 3, 4, 5], [0, 1, 2, 3, 4, 5], [0, 1, 2, 3, 4, 5, 10, 11], [0, 1, 2, 3, 4, 5, 10, 11, 12], [0, 1, 2, 3, 4, 5, 6, 7, 8, 9, 10, 11, 12, 13], [0, 1, 2, 3, 4, 5, 6, 7, 8, 9, 10, 11, 12, 13, 14]] mixed (by kernel_rfl) ?_ fun R hR => ?_   -- r20
          · refine kq24 _ _ ?_
            simp only [go_sem, hb0, List.length_map, hc, hb1, hl, hb2, hmr, hb3, hbr, hbs]
            refine W_cond rfl (fun c4 => ?_) (fun c4 => ?_)
            · -- c4 true
              try simp only [nrm] at c4
              exfalso
              first | contradiction | (simp at c4)
            · -- c4 false
              try simp only [nrm] at c4
              refine W_skip (kq23 _ _ ?_)
              refine W_region [4, 5, 7, 9, 11, 14, 17, 19, 21] fun R hR => ?_   -- r19
              simp only [go_sem, hb0, List.length_map, hc, hb1, hl, hb2, hmr, hb3, hbr, hbs]
              try simp (disch := omega) only [wrapI, wrapU]
              refine hR _ _ ?_; clear hR R
              try simp only [go_sem, hb0, List.length_map, hc, hb1, hl, hb2, hmr, hb3, hbr, hbs]
              refine ⟨i + 1, ?_, by (try simp only []); omega, ?_⟩
              · first | exact Weak.refl | exact Weak.eq (by first | rfl | (simp only [go_sem]; done) | (simp only [go_sem]; rfl) | (simp [go_sem]; done) | (simp [go_sem]; omega)) (by first | rfl | (simp only [go_sem]; done) | (simp [go_sem]; done))
              · try dsimp only
                exact hi'
          · simp only [go_sem, hb0, List.length_map, hc, hb1, hl, hb2, hmr, hb3, hbr, hbs, hiv, hiw, hvv, hww]
            refine GWant_split (fun g1 => ?_) (fun g1 => ?_)
            · try simp only [Bool.not_eq_true', Bool.not_eq_false'] at g1
              have n1 := g1; try simp only [nrm] at n1
              simp only [go_sem, hb0, List.length_map, hc, hb1, hl, hb2, hmr, hb3, hbr, hbs, hiv, hiw, hvv, hww, g1]
              try refine And.intro (by repeat' (first | refine And.intro ?_ ?_ | exact trivial | exact GOr_right (fun _ => by simp only [go_sem, hb0, List.length_map, hc, hb1, hl, hb2, hmr, hb3, hbr, hbs, hiv, hiw, hvv, hww]))) ?_
              refine hR _ ?_
              all_goals try simp only [go_sem, hb0, List.length_map, hc, hb1, hl, hb2, hmr, hb3, hbr, hbs, hiv, hiw, hvv, hww]
              all_goals
                first | rfl | (simp_all; done) | (have := hvw (by simp_all); simp_all; done)
            · try simp only [Bool.not_eq_true', Bool.not_eq_false'] at g1
              have n1 := g1; try simp only [nrm] at n1
              simp only [go_sem, hb0, List.length_map, hc, hb1, hl, hb2, hmr, hb3, hbr, hbs, hiv, hiw, hvv, hww, g1]
              try refine And.intro (by repeat' (first | refine And.intro ?_ ?_ | exact trivial | exact GOr_right (fun _ => by simp only [go_sem, hb0, List.length_map, hc, hb1, hl, hb2, hmr, hb3, hbr, hbs, hiv, hiw, hvv, hww]))) ?_
              refine hR _ ?_
              all_goals try simp only [go_sem, hb0, List.length_map, hc, hb1, hl, hb2, hmr, hb3, hbr, hbs, hiv, hiw, hvv, hww]
              all_goals
                first | rfl | (simp_all; done) | (have := hvw (by simp_all); simp_all; done)
        · -- c3 false
          try simp only [nrm] at c3
          skip
          refine W_exit ?_
          simp only [go_sem, hb0, List.length_map, hc, hb1, hl, hb2, hmr, hb3, hbr, hbs]
          refine kq19 _ _ ?_
          refine W_seq fun kz25 kq25 => ?_
          refine W_seq fun kz26 kq26 => ?_
          refine W_region [7, 11, 14, 163] fun R hR => ?_   -- r22
          simp only [go_sem, hb0, List.length_map, hc, hb1, hl, hb2, hmr, hb3, hbr, hbs, hqi, hql]
          refine hR _ _ (kq26 _ _ ?_); clear hR R; try clear kq26 kz26
          try simp only [go_sem, hb0, List.length_map, hc, hb1, hl, hb2, hmr, hb3, hbr, hbs]
          refine W_cond rfl (fun c5 => ?_) (fun c5 => ?_)
          · -- c5 true
            try simp only [nrm] at c5
            have hsame : RS = RT := by
              have := hm1 (by simpa using c5)
              injection this with q _
              exact q.symm
            refine W_seq fun kz27 kq27 => ?_
            refine W_region [2] fun R hR => ?_   -- r23
            simp only [go_sem, hb0, List.length_map, hc, hb1, hl, hb2, hmr, hb3, hbr, hbs]
            refine GCall_of (PC.val (v' := .bool true) (EqResults_pc Y _ RS RT .ro .ro hRs (by omega)) (by rw [hsame]; simp)) ?_   -- t166
            simp only [go_sem, hb0, List.length_map, hc, hb1, hl, hb2, hmr, hb3, hbr, hbs]
            refine GCall_of (awake_pc Y _) ?_   -- t168
            simp only [go_sem, hb0, List.length_map, hc, hb1, hl, hb2, hmr, hb3, hbr, hbs]
            refine hR _ _ (kq27 _ _ ?_); clear hR R; try clear kq27 kz27
            try simp only [go_sem, hb0, List.length_map, hc, hb1, hl, hb2, hmr, hb3, hbr, hbs]
            refine W_ret ?_
            simp only [go_sem, hb0, List.length_map, hc, hb1, hl, hb2, hmr, hb3, hbr, hbs]
            refine ⟨.inr (by trivial), ?_⟩
            first | refine Fin_same hcl rfl (Wk_eq ?_ (by simp only [go_sem])) | refine Fin_self hcl rfl (Wk_eq ?_ (by simp only [go_sem]))
            try simp only [go_sem]
            all_goals
              first | rfl | simp
          · -- c5 false
            try simp only [nrm] at c5
            refine W_skip (kq25 _ _ ?_)
            refine W_seq fun kz28 kq28 => ?_
            refine W_drawJ [2] [(2, .bool true)] [0, 1, 2, 3, 4, 5, 6, 7, 8, 9, 10, 11, 12, 13, 14, 15, 16, 17, 18, 19, 20, 21, 22, 23, 24] [] [[], [], [1], [0, 1, 2], [0, 1, 2, 3], [0, 1, 2, 3, 4], [], [6], [0, 1, 2, 3, 4, 5, 6, 7], [0, 1, 2, 3, 4, 5, 6, 7, 8], [0, 1, 2, 3, 4, 5, 6, 7, 8, 9], [0, 1, 2, 3, 4, 5, 6, 7, 8, 9, 10], [0, 1, 2, 3, 4, 5, 6, 7, 8, 9, 10], [0, 1, 2, 3, 4, 5, 6, 7, 8, 9, 10, 12], [0, 1, 2, 3, 4, 5, 6, 7, 8, 9, 10, 11, 12, 13], [0, 1, 2, 3, 4, 5, 6, 7, 8, 9, 10, 11, 12, 13, 14], [0, 1, 2, 3, 4, 5, 6, 7, 8, 9, 10, 11, 12, 13, 14, 15], [0, 1, 2, 3, 4, 5, 6, 7, 8, 9, 10], [0, 1, 2, 3, 4, 5, 6, 7, 8, 9, 10, 17], [0, 1, 2, 3, 4, 5, 6, 7, 8, 9, 10, 11, 12, 13, 14, 15, 16, 17, 18], [0, 1, 2, 3, 4, 5, 6, 7, 8, 9, 10, 11, 12, 13, 14, 15, 16, 17, 18, 19], [0, 1, 2, 3, 4, 5, 6, 7, 8, 9, 10, 11, 12, 13, 14, 15, 16, 17, 18, 19, 20], [0, 1, 2, 3, 4, 5, 6, 7, 8, 9, 10, 11, 12, 13, 14, 15, 16, 17, 18, 19, 20, 21], [0, 1, 2, 3, 4, 5, 6, 7, 8, 9, 10, 11, 12, 13, 14, 15, 16, 17, 18, 19, 20, 21, 22], [0, 1, 2, 3, 4, 5, 6, 7, 8, 9, 10, 11, 12, 13, 14, 15, 16, 17, 18, 19, 20, 21, 22, 23]] mixed (by kernel_rfl) ?_ fun R hR => ?_   -- r24
            · refine kq28 _ _ ?_
              simp only [go_sem, hb0, List.length_map, hc, hb1, hl, hb2, hmr, hb3, hbr, hbs]
              refine W_ret ?_
              simp only [go_sem, hb0, List.length_map, hc, hb1, hl, hb2, hmr, hb3, hbr, hbs]
              refine ⟨.inr (by trivial), ?_⟩
              first | refine Fin_same hcl rfl (Wk_eq ?_ (by simp only [go_sem])) | refine Fin_self hcl rfl (Wk_eq ?_ (by simp only [go_sem]))
              try simp only [go_sem]
              all_goals
                first | rfl | simp
            · simp only [go_sem, hb0, List.length_map, hc, hb1, hl, hb2, hmr, hb3, hbr, hbs, Int.toNat_natCast, hkk0, hkl, hkl2, hrx, hry]
              refine GCall_of (Has_pc Y _ rx.kept bb.song .ro (by omega)) ?_   -- t178
              simp only [go_sem, hb0, List.length_map, hc, hb1, hl, hb2, hmr, hb3, hbr, hbs, Int.toNat_natCast, hkk0, hkl, hkl2, hrx, hry]
              refine GWant_split (fun g2 => ?_) (fun g2 => ?_)
              · try simp only [Bool.not_eq_true', Bool.not_eq_false'] at g2
                have n2 := g2; try simp only [nrm] at n2
                have hky : has ry.kept bb.song = true := has_iff.2 (hm2 (by simpa using c5) rx ry hrx hry (has_iff.1 (by simpa using g2)))
                simp only [go_sem, hb0, List.length_map, hc, hb1, hl, hb2, hmr, hb3, hbr, hbs, Int.toNat_natCast, hkk0, hkl, hkl2, hrx, hry, g2]
                refine GCall_of (PC.val (v' := .bool true) (Has_pc Y _ ry.kept bb.song .ro (by omega)) (by rw [hky])) ?_   -- t189
                simp only [go_sem, hb0, List.length_map, hc, hb1, hl, hb2, hmr, hb3, hbr, hbs, Int.toNat_natCast, hkk0, hkl, hkl2, hrx, hry, g2]
                refine GCall_of (awake_pc Y _) ?_   -- t192
                simp only [go_sem, hb0, List.length_map, hc, hb1, hl, hb2, hmr, hb3, hbr, hbs, Int.toNat_natCast, hkk0, hkl, hkl2, hrx, hry, g2]
                try refine And.intro (by repeat' (first | refine And.intro ?_ ?_ | exact trivial | exact GOr_right (fun _ => by simp only [go_sem, hb0, List.length_map, hc, hb1, hl, hb2, hmr, hb3, hbr, hbs, Int.toNat_natCast, hkk0, hkl, hkl2, hrx, hry]))) ?_
                refine hR _ ?_
                all_goals try simp only [go_sem, hb0, List.length_map, hc, hb1, hl, hb2, hmr, hb3, hbr, hbs, Int.toNat_natCast, hkk0, hkl, hkl2, hrx, hry]
                all_goals
                  first | rfl | (simp_all; done)
              · try simp only [Bool.not_eq_true', Bool.not_eq_false'] at g2
                have n2 := g2; try simp only [nrm] at n2
                simp only [go_sem, hb0, List.length_map, hc, hb1, hl, hb2, hmr, hb3, hbr, hbs, Int.toNat_natCast, hkk0, hkl, hkl2, hrx, hry, g2]
                refine GCall_of (awake_pc Y _) ?_   -- t192
                simp only [go_sem, hb0, List.length_map, hc, hb1, hl, hb2, hmr, hb3, hbr, hbs, Int.toNat_natCast, hkk0, hkl, hkl2, hrx, hry, g2]
                try refine And.intro (by repeat' (first | refine And.intro ?_ ?_ | exact trivial | exact GOr_right (fun _ => by simp only [go_sem, hb0, List.length_map, hc, hb1, hl, hb2, hmr, hb3, hbr, hbs, Int.toNat_natCast, hkk0, hkl, hkl2, hrx, hry]))) ?_
                refine hR _ ?_
                all_goals try simp only [go_sem, hb0, List.length_map, hc, hb1, hl, hb2, hmr, hb3, hbr, hbs, Int.toNat_natCast, hkk0, hkl, hkl2, hrx, hry]
                all_goals
                  first | rfl | (simp_all; done)
    · simp only [go_sem, hb0, List.length_map, hc, hb1, hl, hb2, hmr, hb3, hbr, hbs, hQl, hRl, hTl, hVl2, hWl2]
      refine hR _ ?_
      all_goals try simp only [go_sem, hb0, List.length_map, hc, hb1, hl, hb2, hmr, hb3, hbr, hbs, hQl, hRl, hTl, hVl2, hWl2]
      all_goals
        first | rfl | (simp [*]; done) | (simp_all; done)
end Go.Proofs.Ytnolifglhhjdnaa
namespace Go.Proofs.Ytnolifglhhjdnaa
open Go Go.RowKit
theorem rdSongMoreArgs : All2 (fun t R => Rd Try.prog t R) Try.f7.params.toList [fun p => ∃ xs : List Int, p = ints xs ∧ intsSz xs] :=
  .cons rdInts .nil
set_option maxHeartbeats 4000000 in
theorem SongMore_walk : ∀ qs, AllR [fun p => ∃ xs : List Int, p = ints xs ∧ intsSz xs] qs → ∃ σ', PC Try.prog noY 7 qs Sg.zero (.bool true) σ' := by
  intro qs hq
  obtain ⟨px0, qs, rfl, ⟨x0, hx0, sx0⟩, hq⟩ := allR_cons hq
  obtain rfl := allR_nil hq
  subst hx0
  exact ⟨_, SongMore_pc noY _ x0 (by unfold intsSz at sx0; omega)⟩
theorem SongMore_lifted (os : Os) (started : os.Started) (H : Type) (enc : TypeId × Value → H) :
    ReturnsInHanded {} Try.checked os 7 .any (Rows.songMoreSpec.pre6 enc Try.prog Try.f7 Rows.songMoreRow.domain false) (Rows.songMoreSpec.post enc Try.prog Try.f7 false true false false) :=
  law_lifted (C := Try.checked) own started (by kernel_rfl) Try.func7 rfl laidOut (by kernel_rfl) rdSongMoreArgs rfl Try.underlying4
    (fun ds h => match ds, h with | [_], _ => rfl)
    (ChangeSpec.witness6 (enc := enc) (C := Try.checked) false ⟨#[], #[.slice none 0 0], []⟩ 8 (by kernel_rfl) (by kernel_rfl) (by kernel_rfl) (by kernel_rfl))
    SongMore_walk
theorem SongMore_holds : Rows.SongMoreSaid :=
  OpenClaim.holds_of_wide 7 Try.f7 rfl rfl rfl rfl rfl rfl rfl ⟨rfl, rfl, rfl, rfl, rfl⟩ rfl rfl rfl rfl rfl (by kernel_rfl) Try.func7 (by kernel_rfl)
    (of_decide_eq_true (by kernel_rfl)) (by unfold Func.isWrapper; first | (rw [if_pos (by decide +kernel)]; kernel_rfl) | (rw [if_neg (by decide +kernel)]; exact ⟨rfl, rfl⟩))
    (fun os started H enc _ => SongMore_lifted os started H enc)
end Go.Proofs.Ytnolifglhhjdnaa
