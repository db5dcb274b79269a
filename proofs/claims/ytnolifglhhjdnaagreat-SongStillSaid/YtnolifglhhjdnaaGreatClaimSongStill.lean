/-
  The law SongStill: whatever comes in, it answers true and leaves what came in as it was.
  The law SongStill, walked: what could still be, and how many votes a song needs.
-/
import Derived.Test.YtnolifglhhjdnaaGreatPg
import Derived.CallsIn
import Derived.RangeFuncLeaves
import Derived.RangeFuncRecord
import Derived.OrdersIn
import Derived.Below
import Derived.Laws.World
import Derived.Laws.StructEq
import Derived.Laws.Append
import Derived.MapKept
import Derived.ProofKit
import Derived.Carry
import Derived.Handed
import Derived.ChangeCalls
import Derived.RangeFuncIn
import Derived.RangeFuncNested
import Derived.Test.YtnolifglhhjdnaaGreatProg
import Derived.KernelRfl
import Derived.IntWalk
import Derived.Sort.OwnSortedInts
import Derived.Lib.SlicesCompact
import Derived.Test.YtnolifglhhjdnaaGreatRows
import Derived.Shelf.Sort.Plain
import Derived.Shelf.Slices.In.SortNone
import Derived.Shelf.Small.Bits
import Derived.JoinedOf
set_option linter.unusedSimpArgs false
set_option linter.unusedVariables false
namespace Go.Proofs.YtnolifglhhjdnaaGreat
open Go Go.RowKit
set_option maxRecDepth 100000
def blsPV (l : List Ballot) : PV := bls l
theorem clean_bls {a b c : Nat} (x : List Ballot) : Clean a b c (blsPV x) := Clean.map noTok clean_bl
theorem cA_bls {a b c : Nat} {xs : List (List Ballot)} : CleanAll a b c (xs.map blsPV) = True := CleanAll_map clean_bls
theorem cA_cns {a b c : Nat} {xs : List Contest} : CleanAll a b c (xs.map cnPV) = True := CleanAll_map clean_cn
attribute [go_sem] cA_bls cA_cns
theorem long_not {c : Contest} {l : List Ballot} (h : longD c l = false) : c.rounds.length ≤ 10 ∧ l.length ≤ 309 := by
 simp only [longD, Bool.or_eq_false_iff, decide_eq_false_iff_not] at h
 omega
theorem stays_small {c : Contest} {l : List Ballot} {rd : Int} : (staysD c l rd).1.length ≤ 8 := by
 unfold staysD
 split
 ·simp
 ·rename_i h
  have hV := (blsV_of (Decidable.not_not.1 h)).1.sg
  split
  ·simp
  ·split
   ·rw [List.length_map]
    have := toI_len (n := c.songs) (by omega)
    omega
   ·simp
set_option maxHeartbeats 16000000 in
theorem SongStill_pc (Y : YEnv) (σ : Sg) (c : Contest) (l : List Ballot) (rd nb : Int) (nums : List Int) (hcl0 : c.rounds.length < 2 ^ 50) (hll0 : l.length < 2 ^ 50) (hn : nums.length < 2 ^ 60) :
  PC Tryz.prog Y 5 [cnPV c, bls l, I rd, I nb, ints nums] σ (.bool true) (σ) := by
 refine PC_of_W Tryz.func5 rfl (by kernel_rfl) Tryz.ntmps5 (by simp) fun hcl hca => ?_
 obtain ⟨b0, hb0⟩ : ∃ z, drumB nums 2685821657736338717 = z := ⟨_, rfl⟩
 obtain ⟨made, hmade⟩ : ∃ zz, (contestD 5 3 9 b0).1 = zz := ⟨_, rfl⟩
 obtain ⟨b1, hb1⟩ : ∃ zz, (contestD 5 3 9 b0).2 = zz := ⟨_, rfl⟩
 have dmade := contestD_ok (songs := 5) (juries := 3) (members := 9) (by omega) (by omega) (by omega) b0
 simp only [hmade] at dmade
 obtain ⟨sml, hsml⟩ : ∃ zz, (ballotsD made 25 b1).1 = zz := ⟨_, rfl⟩
 obtain ⟨b2, hb2⟩ : ∃ zz, (ballotsD made 25 b1).2 = zz := ⟨_, rfl⟩
 have dsml := ballotsD_ok dmade (most := 25) (by omega) b1
 simp only [hsml] at dsml
 obtain ⟨dl1, dl2, dl3, dl4⟩ := dsml
 have hsl : sml.length ≤ 25 := by omega
 have hrl := dmade.rl
 have hsg0 := dmade.sg
 obtain ⟨rdm, hrdm⟩ : ∃ zz, (roll made.rounds.length b2).1 = zz := ⟨_, rfl⟩
 obtain ⟨b3, hb3⟩ : ∃ zz, (roll made.rounds.length b2).2 = zz := ⟨_, rfl⟩
 have drdm := roll_bd made.rounds.length b2
 simp only [hrdm] at drdm
 obtain ⟨nbm, hnbm⟩ : ∃ zz, (roll made.songs b3).1 = zz := ⟨_, rfl⟩
 obtain ⟨b4, hb4⟩ : ∃ zz, (roll made.songs b3).2 = zz := ⟨_, rfl⟩
 have dnbm := roll_bd made.songs b3
 simp only [hnbm] at dnbm
 refine W_seq fun kz1 kq1 => ?_
 refine W_region [1, 2, 3, 4, 5] fun R hR => ?_
 simp only [go_sem, hb0, hmade, hb1, hsml, hb2, hrdm, hb3, hnbm, hb4]
 refine hR _ _ (kq1 _ _ ?_); clear hR R; try clear kq1 kz1
 try simp only [go_sem, hb0, hmade, hb1, hsml, hb2, hrdm, hb3, hnbm, hb4]
 refine W_seq fun kz2 kq2 => ?_
 refine W_seq fun kz3 kq3 => ?_
 refine W_region [1, 2, 3, 4, 5, 31] fun R hR => ?_
 simp only [go_sem, hb0, hmade, hb1, hsml, hb2, hrdm, hb3, hnbm, hb4]
 refine GCall_of (long_pc Y _ c l) ?_
 simp only [go_sem, hb0, hmade, hb1, hsml, hb2, hrdm, hb3, hnbm, hb4]
 refine hR _ _ (kq3 _ _ ?_); clear hR R; try clear kq3 kz3
 try simp only [go_sem, hb0, hmade, hb1, hsml, hb2, hrdm, hb3, hnbm, hb4]
 refine W_cond rfl (fun c1 => ?_) (fun c1 => ?_)
 ·try simp only [nrm] at c1
  refine W_seq fun kz4 kq4 => ?_
  refine W_region [10] fun R hR => ?_
  simp only [go_sem, hb0, hmade, hb1, hsml, hb2, hrdm, hb3, hnbm, hb4]
  refine GCall_of (awake_pc Y _) ?_
  simp only [go_sem, hb0, hmade, hb1, hsml, hb2, hrdm, hb3, hnbm, hb4]
  refine hR _ _ (kq4 _ _ ?_); clear hR R; try clear kq4 kz4
  try simp only [go_sem, hb0, hmade, hb1, hsml, hb2, hrdm, hb3, hnbm, hb4]
  refine W_ret ?_
  simp only [go_sem, hb0, hmade, hb1, hsml, hb2, hrdm, hb3, hnbm, hb4]
  refine ⟨.inr (by trivial), ?_⟩
  first | refine Fin_same hcl rfl (Wk_eq ?_ (by simp only [go_sem])) | refine Fin_self hcl rfl (Wk_eq ?_ (by simp only [go_sem]))
  try simp only [go_sem]
  all_goals
   first | rfl | simp
 ·try simp only [nrm] at c1
  have hlong := long_not (by simpa using c1)
  refine W_skip (kq2 _ _ ?_)
  refine W_seq fun kz5 kq5 => ?_
  refine W_region [1, 2, 3, 5, 11] fun R hR => ?_
  simp only [go_sem, hb0, hmade, hb1, hsml, hb2, hrdm, hb3, hnbm, hb4]
  refine GCall_of (DrumOf_pc Y _ nums hn) ?_
  simp only [go_sem, hb0, hmade, hb1, hsml, hb2, hrdm, hb3, hnbm, hb4]
  refine hR _ _ (kq5 _ _ ?_); clear hR R; try clear kq5 kz5
  try simp only [go_sem, hb0, hmade, hb1, hsml, hb2, hrdm, hb3, hnbm, hb4]
  refine W_seq fun kz6 kq6 => ?_
  refine W_region [1, 2, 3, 5, 11, 12] fun R hR => ?_
  simp only [go_sem, hb0, hmade, hb1, hsml, hb2, hrdm, hb3, hnbm, hb4]
  refine GCall_of (ContestOf_pc Y _ _ b0 (Sg.get_ext ..) 5 3 9 (by omega) (by omega) (by omega)) ?_
  simp only [go_sem, hb0, hmade, hb1, hsml, hb2, hrdm, hb3, hnbm, hb4]
  refine hR _ _ (kq6 _ _ ?_); clear hR R; try clear kq6 kz6
  try simp only [go_sem, hb0, hmade, hb1, hsml, hb2, hrdm, hb3, hnbm, hb4]
  refine W_seq fun kz7 kq7 => ?_
  refine W_region [1, 2, 3, 5, 11, 12, 13] fun R hR => ?_
  simp only [go_sem, hb0, hmade, hb1, hsml, hb2, hrdm, hb3, hnbm, hb4]
  refine GCall_of (BallotsOf_pc Y _ _ b1 (Sg.get_ext ..) made 5 3 9 25 dmade (by omega) (by omega)) ?_
  simp only [go_sem, hb0, hmade, hb1, hsml, hb2, hrdm, hb3, hnbm, hb4]
  refine hR _ _ (kq7 _ _ ?_); clear hR R; try clear kq7 kz7
  try simp only [go_sem, hb0, hmade, hb1, hsml, hb2, hrdm, hb3, hnbm, hb4]
  refine W_seq fun kz8 kq8 => ?_
  refine W_draw [14, 15, 16, 17] [0, 1, 2, 3, 4, 5, 6, 7, 8, 9, 10, 11, 12, 13, 14, 15, 16, 17, 18, 19, 20, 21, 22, 23, 24, 25, 26] [(0, 20), (0, 27), (1, 20), (1, 27), (2, 20), (2, 27), (3, 20), (3, 27), (4, 20), (4, 27), (5, 20), (5, 27), (6, 20), (6, 27), (7, 20), (7, 27), (8, 20), (8, 27), (14, 13), (14, 27), (15, 27), (16, 13), (16, 27), (17, 13), (18, 13), (19, 13), (21, 13), (21, 20)] [[], [], [], [0, 1, 2], [], [], [], [4, 5, 6], [], [], [], [10], [10, 11], [9, 10, 11, 12], [], [8, 9, 10, 11, 12, 13, 14], [], [], [], [18], [9, 10, 11, 12, 13, 17, 18, 19], [], [9, 10, 11, 12, 13, 16, 17, 18, 19, 20, 21], [0, 1, 2, 3, 9, 10, 11, 12, 13, 17, 18, 19, 20], [0, 1, 2, 3, 4, 5, 6, 7, 9, 10, 11, 12, 13, 17, 18, 19, 20, 23], [0, 1, 2, 3, 4, 5, 6, 7, 8, 9, 10, 11, 12, 13, 14, 15, 17, 18, 19, 20, 23, 24], [0, 1, 2, 3, 4, 5, 6, 7, 8, 9, 10, 11, 12, 13, 14, 15, 16, 17, 18, 19, 20, 21, 22, 23, 24, 25]] mixed (by kernel_rfl) fun R hR => ?_
  simp only [go_sem, hb0, hmade, hb1, hsml, hb2, hrdm, hb3, hnbm, hb4]
  refine GCall_of (Roll_pc Y _ _ b2 (Sg.get_ext ..) made.rounds.length (by omega)) ?_
  simp only [go_sem, hb0, hmade, hb1, hsml, hb2, hrdm, hb3, hnbm, hb4]
  refine GCall_of (Roll_pc Y _ _ b3 (Sg.get_ext ..) made.songs (by omega)) ?_
  simp only [go_sem, hb0, hmade, hb1, hsml, hb2, hrdm, hb3, hnbm, hb4]
  try refine And.intro (by repeat' (first | refine And.intro ?_ ?_ | exact trivial | exact GOr_right (fun _ => by simp only [go_sem, hb0, hmade, hb1, hsml, hb2, hrdm, hb3, hnbm, hb4]))) ?_
  refine hR _ _ (kq8 _ _ ?_); clear hR R; try clear kq8 kz8
  try simp only [go_sem, hb0, hmade, hb1, hsml, hb2, hrdm, hb3, hnbm, hb4]
  refine W_seq fun kz9 kq9 => ?_
  refine W_seq fun kz10 kq10 => ?_
  refine W_region [14, 15, 16, 17, 18] fun R hR => ?_
  simp only [go_sem, hb0, hmade, hb1, hsml, hb2, hrdm, hb3, hnbm, hb4]
  refine hR _ _ (kq10 _ _ ?_); clear hR R; try clear kq10 kz10
  try simp only [go_sem, hb0, hmade, hb1, hsml, hb2, hrdm, hb3, hnbm, hb4]
  refine W_block ?_
  refine W_weak (Weak.ro 14) ?_
  refine W_weak (Weak.ro 15) ?_
  refine W_weak (Weak.ro 16) ?_
  refine W_weak (Weak.ro 17) ?_
  refine W_weak (Weak.keep [14, 15, 16, 17, 18]) ?_
  simp only [go_sem]
  refine W_weak (Weak.cutX 0 0 (by omega) (by omega) hcl (by simp only [go_sem] <;> omega) (by simp only [go_sem] <;> omega)) ?_
  simp only [go_sem]
  obtain ⟨css, hcss⟩ : ∃ z, z = [c, made, made] := ⟨_, rfl⟩
  obtain ⟨lss, hlss⟩ : ∃ z, z = [l, sml, sml] := ⟨_, rfl⟩
  obtain ⟨rns, hrns⟩ : ∃ z, z = [rd, rdm, rd] := ⟨_, rfl⟩
  obtain ⟨nms, hnms⟩ : ∃ z, z = [nb, nbm, nb] := ⟨_, rfl⟩
  refine W_weak (Weak.eq (E' := [(14, .isl (css.map cnPV) .ro), (15, .isl (lss.map blsPV) .ro), (16, ints rns), (17, ints nms), (18, I 0)]) (by rw [hcss, hlss, hrns, hnms]; simp only [List.map_cons, List.map_nil, blsPV, cnPV, cnCells]; first | done | rfl) rfl) ?_
  have lc : css.length = 3 := by rw [hcss]; rfl
  have ll : lss.length = 3 := by rw [hlss]; rfl
  have lr : rns.length = 3 := by rw [hrns]; rfl
  have ln : nms.length = 3 := by rw [hnms]; rfl
  have hfc : ∀ z, z ∈ css → z.rounds.length ≤ 10 := fun z hz => by
   rw [hcss] at hz; simp only [List.mem_cons, List.not_mem_nil, or_false] at hz
   rcases hz with rfl | rfl | rfl <;> omega
  have hfl : ∀ z, z ∈ lss → z.length ≤ 309 := fun z hz => by
   rw [hlss] at hz; simp only [List.mem_cons, List.not_mem_nil, or_false] at hz
   rcases hz with rfl | rfl | rfl <;> omega
  clear hcss hlss hrns hnms
  refine W_loopS (α := Nat) (fun (i : Nat) => [(18, I i)]) (fun (i : Nat) => i ≤ 3) (fun (i : Nat) => 3 - i) (0) rfl (Nat.zero_le _) ?_
  rintro i hi
  refine W_seq fun kz11 kq11 => ?_
  refine W_seq fun kz12 kq12 => ?_
  refine W_region [14, 15, 16, 17, 18, 66] fun R hR => ?_
  simp only [go_sem, hb0, hmade, hb1, hsml, hb2, hrdm, hb3, hnbm, hb4, lc, ll, lr, ln]
  refine hR _ _ (kq12 _ _ ?_); clear hR R; try clear kq12 kz12
  try simp only [go_sem, hb0, hmade, hb1, hsml, hb2, hrdm, hb3, hnbm, hb4, lc, ll, lr, ln]
  refine W_cond rfl (fun c2 => ?_) (fun c2 => ?_)
  ·try simp only [nrm] at c2
   have hi' : i < 3 := by first | assumption | omega
   have hi4 : (i : Int) < 3 := by omega
   obtain ⟨c1, hx1⟩ : ∃ z, css[i]? = some z := ⟨css[i]'(by rw [lc]; exact hi'), by simp⟩
   obtain ⟨l1, hx2⟩ : ∃ z, lss[i]? = some z := ⟨lss[i]'(by rw [ll]; exact hi'), by simp⟩
   obtain ⟨r1, hx3⟩ : ∃ z, rns[i]? = some z := ⟨rns[i]'(by rw [lr]; exact hi'), by simp⟩
   obtain ⟨n1, hx4⟩ : ∃ z, nms[i]? = some z := ⟨nms[i]'(by rw [ln]; exact hi'), by simp⟩
   have hic : (i : Int) < (css.length : Int) := by rw [lc]; omega
   have hil : (i : Int) < (lss.length : Int) := by rw [ll]; omega
   have hir : (i : Int) < (rns.length : Int) := by rw [lr]; omega
   have hin : (i : Int) < (nms.length : Int) := by rw [ln]; omega
   have fc := hfc _ (List.mem_of_getElem? hx1)
   have fl := hfl _ (List.mem_of_getElem? hx2)
   have hst := stays_small (c := c1) (l := l1) (rd := r1)
   obtain ⟨sa, hsa⟩ : ∃ z, (staysD c1 l1 r1).1 = z := ⟨_, rfl⟩
   obtain ⟨sb, hsb⟩ : ∃ z, (staysD c1 l1 r1).2 = z := ⟨_, rfl⟩
   obtain ⟨na, hna⟩ : ∃ z, (needsD c1 l1 r1 n1).1 = z := ⟨_, rfl⟩
   obtain ⟨nb, hnb⟩ : ∃ z, (needsD c1 l1 r1 n1).2 = z := ⟨_, rfl⟩
   rw [hsa] at hst
   refine W_skip (kq11 _ _ ?_)
   refine W_seq fun kz13 kq13 => ?_
   refine W_block ?_
   refine W_seq fun kz14 kq14 => ?_
   refine W_draw [14, 15, 16, 17, 18, 19, 20] [0, 1, 2, 3, 4, 5, 6, 7, 8, 9, 10, 11, 12] [(5, 4), (6, 4), (7, 4), (8, 4)] [[], [], [0, 1], [0, 1, 2], [0, 1, 2, 3], [], [], [5, 6], [5, 6, 7], [0, 1, 2, 3, 4, 5, 6, 7, 8], [], [0, 1, 2, 3, 4, 5, 6, 7, 8, 9, 10], [0, 1, 2, 3, 4, 5, 6, 7, 8, 9, 10, 11]] mixed (by kernel_rfl) fun R hR => ?_
   simp only [go_sem, hb0, hmade, hb1, hsml, hb2, hrdm, hb3, hnbm, hb4, lc, ll, lr, ln, hi4, hic, hil, hir, hin, hx1, hx2, hx3, hx4, blsPV]
   refine GCall_of (OwnCn_pc Y _ c1 (by omega)) ?_
   simp only [go_sem, hb0, hmade, hb1, hsml, hb2, hrdm, hb3, hnbm, hb4, lc, ll, lr, ln, hi4, hic, hil, hir, hin, hx1, hx2, hx3, hx4, blsPV]
   refine GCall_of (OwnB_pc Y _ l1 (by omega)) ?_
   simp only [go_sem, hb0, hmade, hb1, hsml, hb2, hrdm, hb3, hnbm, hb4, lc, ll, lr, ln, hi4, hic, hil, hir, hin, hx1, hx2, hx3, hx4, blsPV]
   try refine And.intro (by repeat' (first | refine And.intro ?_ ?_ | exact trivial | exact GOr_right (fun _ => by simp only [go_sem, hb0, hmade, hb1, hsml, hb2, hrdm, hb3, hnbm, hb4, lc, ll, lr, ln, hi4, hic, hil, hir, hin, hx1, hx2, hx3, hx4, blsPV]))) ?_
   refine hR _ _ (kq14 _ _ ?_); clear hR R; try clear kq14 kz14
   try simp only [go_sem, hb0, hmade, hb1, hsml, hb2, hrdm, hb3, hnbm, hb4, lc, ll, lr, ln, hi4]
   refine W_seq fun kz15 kq15 => ?_
   refine W_draw [14, 15, 16, 17, 18, 19, 20, 21, 22] [0, 1, 2, 3, 4, 5, 6, 7, 8, 9, 10, 11] [] [[], [], [], [], [2, 3], [2, 3, 4], [0, 1, 2, 3, 4, 5], [0, 1, 2, 3, 4, 5, 6], [0, 1, 2, 3, 4, 5, 6, 7], [0, 1, 2, 3, 4, 5, 6, 7], [0, 1, 2, 3, 4, 5, 6, 7, 8], [0, 1, 2, 3, 4, 5, 6, 7, 8, 9, 10]] mixed (by kernel_rfl) fun R hR => ?_
   simp only [go_sem, hb0, hmade, hb1, hsml, hb2, hrdm, hb3, hnbm, hb4, lc, ll, lr, ln, hi4, hic, hil, hir, hin, hx1, hx2, hx3, hx4, blsPV]
   refine GCall_of (PC.val (v' := .tuple [ints sa, I sb]) (Stays_pc Y _ c1 l1 r1 (by omega) (by omega)) (by rw [hsa, hsb])) ?_
   simp only [go_sem, hb0, hmade, hb1, hsml, hb2, hrdm, hb3, hnbm, hb4, lc, ll, lr, ln, hi4, hic, hil, hir, hin, hx1, hx2, hx3, hx4, blsPV]
   try refine And.intro (by repeat' (first | refine And.intro ?_ ?_ | exact trivial | exact GOr_right (fun _ => by simp only [go_sem, hb0, hmade, hb1, hsml, hb2, hrdm, hb3, hnbm, hb4, lc, ll, lr, ln, hi4, hic, hil, hir, hin, hx1, hx2, hx3, hx4, blsPV]))) ?_
   refine hR _ _ (kq15 _ _ ?_); clear hR R; try clear kq15 kz15
   try simp only [go_sem, hb0, hmade, hb1, hsml, hb2, hrdm, hb3, hnbm, hb4, lc, ll, lr, ln, hi4]
   refine W_seq fun kz16 kq16 => ?_
   refine W_draw [14, 15, 16, 17, 18, 19, 20, 21, 22, 23, 24] [0, 1, 2, 3, 4, 5, 6, 7, 8, 9, 10, 11, 12, 13, 14, 15, 16, 17] [] [[], [], [0, 1], [0, 1, 2], [], [], [4, 5], [4, 5, 6], [], [], [8, 9], [8, 9, 10], [0, 1, 2, 3, 4, 5, 6, 7, 8, 9, 10, 11], [0, 1, 2, 3, 4, 5, 6, 7, 8, 9, 10, 11, 12], [0, 1, 2, 3, 4, 5, 6, 7, 8, 9, 10, 11, 12, 13], [0, 1, 2, 3, 4, 5, 6, 7, 8, 9, 10, 11, 12, 13], [0, 1, 2, 3, 4, 5, 6, 7, 8, 9, 10, 11, 12, 13, 14], [0, 1, 2, 3, 4, 5, 6, 7, 8, 9, 10, 11, 12, 13, 14, 15, 16]] mixed (by kernel_rfl) fun R hR => ?_
   simp only [go_sem, hb0, hmade, hb1, hsml, hb2, hrdm, hb3, hnbm, hb4, lc, ll, lr, ln, hi4, hic, hil, hir, hin, hx1, hx2, hx3, hx4, blsPV]
   refine GCall_of (PC.val (v' := .tuple [ints sa, I sb]) (rStays_pc Y _ c1 l1 r1 (by omega) (by omega)) (by rw [hsa, hsb])) ?_
   simp only [go_sem, hb0, hmade, hb1, hsml, hb2, hrdm, hb3, hnbm, hb4, lc, ll, lr, ln, hi4, hic, hil, hir, hin, hx1, hx2, hx3, hx4, blsPV]
   try refine And.intro (by repeat' (first | refine And.intro ?_ ?_ | exact trivial | exact GOr_right (fun _ => by simp only [go_sem, hb0, hmade, hb1, hsml, hb2, hrdm, hb3, hnbm, hb4, lc, ll, lr, ln, hi4, hic, hil, hir, hin, hx1, hx2, hx3, hx4, blsPV]))) ?_
   refine hR _ _ (kq16 _ _ ?_); clear hR R; try clear kq16 kz16
   try simp only [go_sem, hb0, hmade, hb1, hsml, hb2, hrdm, hb3, hnbm, hb4, lc, ll, lr, ln, hi4]
   refine W_seq fun kz17 kq17 => ?_
   refine W_draw [14, 15, 16, 17, 18, 19, 20, 21, 22, 23, 24, 25, 26] [0, 1, 2, 3, 4, 5, 6, 7, 8, 9, 10, 11, 12, 13, 14, 15] [] [[], [], [], [], [2, 3], [2, 3, 4], [], [], [6, 7], [6, 7, 8], [0, 1, 2, 3, 4, 5, 6, 7, 8, 9], [0, 1, 2, 3, 4, 5, 6, 7, 8, 9, 10], [0, 1, 2, 3, 4, 5, 6, 7, 8, 9, 10, 11], [0, 1, 2, 3, 4, 5, 6, 7, 8, 9, 10, 11], [0, 1, 2, 3, 4, 5, 6, 7, 8, 9, 10, 11, 12], [0, 1, 2, 3, 4, 5, 6, 7, 8, 9, 10, 11, 12, 13, 14]] mixed (by kernel_rfl) fun R hR => ?_
   simp only [go_sem, hb0, hmade, hb1, hsml, hb2, hrdm, hb3, hnbm, hb4, lc, ll, lr, ln, hi4, hic, hil, hir, hin, hx1, hx2, hx3, hx4, blsPV]
   refine GCall_of (PC.val (v' := .tuple [I na, I nb]) (Needs_pc Y _ c1 l1 r1 n1 (by omega) (by omega)) (by rw [hna, hnb])) ?_
   simp only [go_sem, hb0, hmade, hb1, hsml, hb2, hrdm, hb3, hnbm, hb4, lc, ll, lr, ln, hi4, hic, hil, hir, hin, hx1, hx2, hx3, hx4, blsPV]
   try refine And.intro (by repeat' (first | refine And.intro ?_ ?_ | exact trivial | exact GOr_right (fun _ => by simp only [go_sem, hb0, hmade, hb1, hsml, hb2, hrdm, hb3, hnbm, hb4, lc, ll, lr, ln, hi4, hic, hil, hir, hin, hx1, hx2, hx3, hx4, blsPV]))) ?_
   refine hR _ _ (kq17 _ _ ?_); clear hR R; try clear kq17 kz17
   try simp only [go_sem, hb0, hmade, hb1, hsml, hb2, hrdm, hb3, hnbm, hb4, lc, ll, lr, ln, hi4]
   refine W_seq fun kz18 kq18 => ?_
   refine W_draw [14, 15, 16, 17, 18, 19, 20, 21, 22, 23, 24, 25, 26, 27, 28] [0, 1, 2, 3, 4, 5, 6, 7, 8, 9, 10, 11, 12, 13, 14, 15, 16, 17, 18, 19, 20, 21] [] [[], [], [0, 1], [0, 1, 2], [], [], [4, 5], [4, 5, 6], [], [], [8, 9], [8, 9, 10], [], [], [12, 13], [12, 13, 14], [0, 1, 2, 3, 4, 5, 6, 7, 8, 9, 10, 11, 12, 13, 14, 15], [0, 1, 2, 3, 4, 5, 6, 7, 8, 9, 10, 11, 12, 13, 14, 15, 16], [0, 1, 2, 3, 4, 5, 6, 7, 8, 9, 10, 11, 12, 13, 14, 15, 16, 17], [0, 1, 2, 3, 4, 5, 6, 7, 8, 9, 10, 11, 12, 13, 14, 15, 16, 17], [0, 1, 2, 3, 4, 5, 6, 7, 8, 9, 10, 11, 12, 13, 14, 15, 16, 17, 18], [0, 1, 2, 3, 4, 5, 6, 7, 8, 9, 10, 11, 12, 13, 14, 15, 16, 17, 18, 19, 20]] mixed (by kernel_rfl) fun R hR => ?_
   simp only [go_sem, hb0, hmade, hb1, hsml, hb2, hrdm, hb3, hnbm, hb4, lc, ll, lr, ln, hi4, hic, hil, hir, hin, hx1, hx2, hx3, hx4, blsPV]
   refine GCall_of (PC.val (v' := .tuple [I na, I nb]) (rNeeds_pc Y _ c1 l1 r1 n1 (by omega) (by omega)) (by rw [hna, hnb])) ?_
   simp only [go_sem, hb0, hmade, hb1, hsml, hb2, hrdm, hb3, hnbm, hb4, lc, ll, lr, ln, hi4, hic, hil, hir, hin, hx1, hx2, hx3, hx4, blsPV]
   try refine And.intro (by repeat' (first | refine And.intro ?_ ?_ | exact trivial | exact GOr_right (fun _ => by simp only [go_sem, hb0, hmade, hb1, hsml, hb2, hrdm, hb3, hnbm, hb4, lc, ll, lr, ln, hi4, hic, hil, hir, hin, hx1, hx2, hx3, hx4, blsPV]))) ?_
   refine hR _ _ (kq18 _ _ ?_); clear hR R; try clear kq18 kz18
   try simp only [go_sem, hb0, hmade, hb1, hsml, hb2, hrdm, hb3, hnbm, hb4, lc, ll, lr, ln, hi4]
   refine W_seq fun kz19 kq19 => ?_
   refine W_drawJ [14, 15, 16, 17, 18, 175] [(175, .bool false)] [0, 1, 2, 3, 4, 5, 6, 7, 8, 9, 10, 11, 12, 13, 14, 15, 16, 17, 18, 19, 20, 21, 22, 23, 24, 25, 26, 27, 28, 29, 30, 31, 32, 33, 34, 35, 36] [] [[], [], [0, 1], [0, 1, 2], [0, 1, 2, 3], [0, 1, 2, 3], [0, 1, 2, 3, 4, 5], [0, 1, 2, 3, 4, 5, 6], [0, 1, 2, 3, 4, 5, 6, 7], [0, 1, 2, 3, 4, 5, 6, 7, 8], [0, 1, 2, 3, 4, 5, 6, 7, 8], [0, 1, 2, 3, 4, 5, 6, 7, 8, 9, 10], [0, 1, 2, 3, 4, 5, 6, 7, 8, 9, 10, 11], [0, 1, 2, 3, 4, 5, 6, 7, 8, 9, 10, 11, 12], [0, 1, 2, 3, 4, 5, 6, 7, 8, 9, 10, 11, 12, 13], [0, 1, 2, 3, 4, 5, 6, 7, 8, 9, 10, 11, 12, 13], [0, 1, 2, 3, 4, 5, 6, 7, 8, 9, 10, 11, 12, 13, 14, 15], [0, 1, 2, 3, 4, 5, 6, 7, 8, 9, 10, 11, 12, 13, 14, 15, 16], [0, 1, 2, 3, 4, 5, 6, 7, 8, 9, 10, 11, 12, 13, 14, 15, 16, 17], [0, 1, 2, 3, 4, 5, 6, 7, 8, 9, 10, 11, 12, 13, 14, 15, 16, 17, 18], [0, 1, 2, 3, 4, 5, 6, 7, 8, 9, 10, 11, 12, 13, 14, 15, 16, 17, 18, 19], [0, 1, 2, 3, 4, 5, 6, 7, 8, 9, 10, 11, 12, 13, 14, 15, 16, 17, 18, 19], [0, 1, 2, 3, 4, 5, 6, 7, 8, 9, 10, 11, 12, 13, 14, 15, 16, 17, 18, 19], [0, 1, 2, 3, 4, 5, 6, 7, 8, 9, 10, 11, 12, 13, 14, 15, 16, 17, 18, 19, 21, 22], [0, 1, 2, 3, 4, 5, 6, 7, 8, 9, 10, 11, 12, 13, 14, 15, 16, 17, 18, 19, 21, 22, 23], [0, 1, 2, 3, 4, 5, 6, 7, 8, 9, 10, 11, 12, 13, 14, 15, 16, 17, 18, 19, 20, 21, 22, 23, 24], [0, 1, 2, 3, 4, 5, 6, 7, 8, 9, 10, 11, 12, 13, 14, 15, 16, 17, 18, 19, 20, 21, 22, 23, 24, 25], [0, 1, 2, 3, 4, 5, 6, 7, 8, 9, 10, 11, 12, 13, 14, 15, 16, 17, 18, 19, 20, 21, 22, 23, 24, 25, 26], [0, 1, 2, 3, 4, 5, 6, 7, 8, 9, 10, 11, 12, 13, 14, 15, 16, 17, 18, 19, 20, 21, 22, 23, 24, 25, 26, 27], [0, 1, 2, 3, 4, 5, 6, 7, 8, 9, 10, 11, 12, 13, 14, 15, 16, 17, 18, 19, 20, 21, 22, 23, 24, 25, 26, 27, 28], [0, 1, 2, 3, 4, 5, 6, 7, 8, 9, 10, 11, 12, 13, 14, 15, 16, 17, 18, 19, 20, 21, 22, 23, 24, 25, 26, 27, 28], [0, 1, 2, 3, 4, 5, 6, 7, 8, 9, 10, 11, 12, 13, 14, 15, 16, 17, 18, 19, 20, 21, 22, 23, 24, 25, 26, 27, 28], [0, 1, 2, 3, 4, 5, 6, 7, 8, 9, 10, 11, 12, 13, 14, 15, 16, 17, 18, 19, 20, 21, 22, 23, 24, 25, 26, 27, 28, 30, 31], [0, 1, 2, 3, 4, 5, 6, 7, 8, 9, 10, 11, 12, 13, 14, 15, 16, 17, 18, 19, 20, 21, 22, 23, 24, 25, 26, 27, 28, 30, 31, 32], [0, 1, 2, 3, 4, 5, 6, 7, 8, 9, 10, 11, 12, 13, 14, 15, 16, 17, 18, 19, 20, 21, 22, 23, 24, 25, 26, 27, 28, 29, 30, 31, 32, 33], [0, 1, 2, 3, 4, 5, 6, 7, 8, 9, 10, 11, 12, 13, 14, 15, 16, 17, 18, 19, 20, 21, 22, 23, 24, 25, 26, 27, 28, 29, 30, 31, 32, 33, 34], [0, 1, 2, 3, 4, 5, 6, 7, 8, 9, 10, 11, 12, 13, 14, 15, 16, 17, 18, 19, 20, 21, 22, 23, 24, 25, 26, 27, 28, 29, 30, 31, 32, 33, 34, 35]] mixed (by kernel_rfl) ?_ fun R hR => ?_
   ·refine kq19 _ _ ?_
    simp only [go_sem, hb0, hmade, hb1, hsml, hb2, hrdm, hb3, hnbm, hb4, lc, ll, lr, ln, hi4]
    refine W_cond rfl (fun c3 => ?_) (fun c3 => ?_)
    ·try simp only [nrm] at c3
     exfalso
     first | contradiction | (simp at c3)
    ·try simp only [nrm] at c3
     refine W_skip (kq13 _ _ ?_)
     refine W_region [14, 15, 16, 17, 18] fun R hR => ?_
     simp only [go_sem, hb0, hmade, hb1, hsml, hb2, hrdm, hb3, hnbm, hb4, lc, ll, lr, ln, hi4]
     try simp (disch := omega) only [wrapI, wrapU]
     refine hR _ _ ?_; clear hR R
     try simp only [go_sem, hb0, hmade, hb1, hsml, hb2, hrdm, hb3, hnbm, hb4, lc, ll, lr, ln, hi4]
     refine ⟨i + 1, ?_, by (try simp only []); omega, ?_⟩
     ·refine Weak.trans (Weak.cutX 0 0 (by omega) (by omega) hcl (by simp only [go_sem] <;> omega) (by simp only [go_sem] <;> omega)) ?_
      simp only [go_sem]
      exact Weak.eq (by first | rfl | (simp only [go_sem]; done) | (simp only [go_sem]; rfl) | (simp [go_sem]; done) | (simp [go_sem]; omega)) (by first | rfl | (simp only [go_sem]; done) | (simp [go_sem]; done))
     ·try dsimp only
      omega
   ·simp only [go_sem, hb0, hmade, hb1, hsml, hb2, hrdm, hb3, hnbm, hb4, lc, ll, lr, ln, hi4, hic, hil, hir, hin, hx1, hx2, hx3, hx4, blsPV]
    refine GCall_of (PC.val (v' := .bool true) (EqInts_pc Y _ sa sa .ro .ro (by omega)) (by simp)) ?_
    simp only [go_sem, hb0, hmade, hb1, hsml, hb2, hrdm, hb3, hnbm, hb4, lc, ll, lr, ln, hi4, hic, hil, hir, hin, hx1, hx2, hx3, hx4, blsPV]
    refine GCall_of (PC.val (v' := .bool true) (EqCns_pc Y _ c1 c1 (by omega)) (by simp)) ?_
    simp only [go_sem, hb0, hmade, hb1, hsml, hb2, hrdm, hb3, hnbm, hb4, lc, ll, lr, ln, hi4, hic, hil, hir, hin, hx1, hx2, hx3, hx4, blsPV]
    refine GCall_of (PC.val (v' := .bool true) (EqBls_pc Y _ l1 l1 .ro .ro (by omega)) (by simp)) ?_
    simp only [go_sem, hb0, hmade, hb1, hsml, hb2, hrdm, hb3, hnbm, hb4, lc, ll, lr, ln, hi4, hic, hil, hir, hin, hx1, hx2, hx3, hx4, blsPV]
    try refine And.intro (by repeat' (first | refine And.intro ?_ ?_ | exact trivial | exact GOr_right (fun _ => by simp only [go_sem, hb0, hmade, hb1, hsml, hb2, hrdm, hb3, hnbm, hb4, lc, ll, lr, ln, hi4, hic, hil, hir, hin, hx1, hx2, hx3, hx4, blsPV]))) ?_
    refine hR _ ?_
    all_goals try simp only [go_sem, hb0, hmade, hb1, hsml, hb2, hrdm, hb3, hnbm, hb4, lc, ll, lr, ln, hi4, hic, hil, hir, hin, hx1, hx2, hx3, hx4, blsPV]
    all_goals
     first | rfl | (simp [*]; done) | (simp_all; done)
  ·try simp only [nrm] at c2
   skip
   refine W_exit ?_
   simp only [go_sem, hb0, hmade, hb1, hsml, hb2, hrdm, hb3, hnbm, hb4, lc, ll, lr, ln]
   refine kq9 _ _ ?_
   refine W_seq fun kz20 kq20 => ?_
   refine W_region [10] fun R hR => ?_
   simp only [go_sem, hb0, hmade, hb1, hsml, hb2, hrdm, hb3, hnbm, hb4, lc, ll, lr, ln]
   refine GCall_of (awake_pc Y _) ?_
   simp only [go_sem, hb0, hmade, hb1, hsml, hb2, hrdm, hb3, hnbm, hb4, lc, ll, lr, ln]
   refine hR _ _ (kq20 _ _ ?_); clear hR R; try clear kq20 kz20
   try simp only [go_sem, hb0, hmade, hb1, hsml, hb2, hrdm, hb3, hnbm, hb4, lc, ll, lr, ln]
   refine W_ret ?_
   simp only [go_sem, hb0, hmade, hb1, hsml, hb2, hrdm, hb3, hnbm, hb4, lc, ll, lr, ln]
   refine ⟨.inr (by trivial), ?_⟩
   first | refine Fin_same hcl rfl (Wk_eq ?_ (by simp only [go_sem])) | refine Fin_self hcl rfl (Wk_eq ?_ (by simp only [go_sem]))
   try simp only [go_sem]
   all_goals
    first | rfl | simp
end Go.Proofs.YtnolifglhhjdnaaGreat
namespace Go.Proofs.YtnolifglhhjdnaaGreat
open Go Go.RowKit
theorem rdSongStillArgs : All2 (fun t R => Rd Tryz.prog t R) Tryz.f5.params.toList [fun p => ∃ c : Contest, p = cnPV c ∧ contestSz c, fun p => ∃ l : List Ballot, p = bls l ∧ l.length * 48 ≤ 140737488351232, fun p => ∃ n : Int, p = I n, fun p => ∃ n : Int, p = I n, fun p => ∃ xs : List Int, p = ints xs ∧ intsSz xs] :=
 .cons rdContest (.cons rdBallots (.cons rdInt (.cons rdInt (.cons rdInts .nil))))
set_option maxHeartbeats 4000000 in
theorem SongStill_walk : ∀ qs, AllR [fun p => ∃ c : Contest, p = cnPV c ∧ contestSz c, fun p => ∃ l : List Ballot, p = bls l ∧ l.length * 48 ≤ 140737488351232, fun p => ∃ n : Int, p = I n, fun p => ∃ n : Int, p = I n, fun p => ∃ xs : List Int, p = ints xs ∧ intsSz xs] qs → ∃ σ', PC Tryz.prog noY 5 qs Sg.zero (.bool true) σ' := by
 intro qs hq
 obtain ⟨px0, qs, rfl, ⟨x0, hx0, sx0⟩, hq⟩ := allR_cons hq
 obtain ⟨px1, qs, rfl, ⟨x1, hx1, sx1⟩, hq⟩ := allR_cons hq
 obtain ⟨px2, qs, rfl, ⟨x2, hx2⟩, hq⟩ := allR_cons hq
 obtain ⟨px3, qs, rfl, ⟨x3, hx3⟩, hq⟩ := allR_cons hq
 obtain ⟨px4, qs, rfl, ⟨x4, hx4, sx4⟩, hq⟩ := allR_cons hq
 obtain rfl := allR_nil hq
 subst hx0 hx1 hx2 hx3 hx4
 exact ⟨_, SongStill_pc noY _ x0 x1 x2 x3 x4 (by unfold contestSz at sx0; omega) (by omega) (by unfold intsSz at sx4; omega)⟩
theorem SongStill_lifted (os : Os) (started : os.Started) (H : Type) (enc : TypeId × Value → H) :
  ReturnsInHanded {} Tryz.checked os 5 .any (Rows.songStillSpec.pre6 enc Tryz.prog Tryz.f5 Rows.songStillRow.domain false) (Rows.songStillSpec.post enc Tryz.prog Tryz.f5 false true false false) :=
 law_lifted (C := Tryz.checked) own started (by kernel_rfl) Tryz.func5 rfl laidOut (by kernel_rfl) rdSongStillArgs rfl Tryz.underlying4
  (fun ds h => match ds, h with | [_, _, _, _, _], _ => rfl)
  (ChangeSpec.witness6 (enc := enc) (C := Tryz.checked) false ⟨#[], #[Value.agg #[.int .i64 0, .int .i64 0, .int .i64 0, .int .i64 0, .slice none 0 0], .slice none 0 0, .int .i64 0, .int .i64 0, .slice none 0 0], []⟩ 8 (by kernel_rfl) (by kernel_rfl) (by kernel_rfl) (by kernel_rfl))
  SongStill_walk
theorem SongStill_holds : Rows.SongStillSaid :=
 OpenClaim.holds_of_wide 5 Tryz.f5 rfl rfl rfl rfl rfl rfl rfl ⟨rfl, rfl, rfl, rfl, rfl⟩ rfl rfl rfl rfl rfl (by kernel_rfl) Tryz.func5 (by kernel_rfl)
  (of_decide_eq_true (by kernel_rfl)) (by unfold Func.isWrapper; first | (rw [if_pos (by decide +kernel)]; kernel_rfl) | (rw [if_neg (by decide +kernel)]; exact ⟨rfl, rfl⟩))
  (fun os started H enc _ => SongStill_lifted os started H enc)
end Go.Proofs.YtnolifglhhjdnaaGreat
